import PyProof.Rows.All
import HandS.ForMost
import HandS.Deep
import HandS.IsInst
import HandS.SetKeys
import HandS.Conv
import HandS.Flow
import HandS.TupLe
import HandS.DictComp
import HandS.ListItems
import KE.SortData
import HandS.Set
import HandS.SetFor
import PyProof.SetKind
import HandS.Strs
import KE.KEqDict
import PyProof.DictUpdate
import HandS.Walk
import PyProof.EqLayable
import PySem.Challenge.RW_loregreat_k80_whole_notes_that_attack_ap
import HandS.Head0
import HandS.Head1
import HandS.Head2
import HandS.HeadEnd
import HandS.HeadHook1
import HandS.HeadHook2
import HandS.HeadHook3
import HandS.HeadHook4
import HandS.Defaults
/-! part FdA -/
section
set_option Elab.async false
set_option linter.all false
set_option maxRecDepth 100000
/-! A layer of our own over HandS: what an expression or a block makes of DATA, without the heap. -/
namespace Fd
open PySem PySem.Spec PyProof.Rows L2

abbrev Sl := L2.St
theorem same_upd {H : Hp} {p : Addr} {o : HO} (h : H p = none) : Same H (upd H p o) := fun b x e => by
  rw [upd_ne (ne_of_none e h)]; exact e
theorem same_mut {B H : Hp} {p : Addr} {o : HO} (e : Same B H) (h : B p = none) : Same B (upd H p o) := fun b x q => by
  rw [upd_ne (ne_of_none q h)]; exact e b x q
theorem same_sqT {K : PySem.W.Frag} {H H' : Hp} {a : Addr} {xs : List V} (e : Same H H') (h : SqT K H a xs) : SqT K H' a xs := by
  rcases h with (h | ⟨o, h⟩) | h
  · exact .inl (.inl (e _ _ h))
  · exact .inl (.inr ⟨o, e _ _ h⟩)
  · exact .inr h
mutual
theorem dp_mono {K : PySem.W.Frag} {H H' : Hp} (e : Same H H') : ∀ (d : PyData) (v : V), Dp K H v d → Dp K H' v d
  | .none, _, h => by cases h; exact .non
  | .bool b, _, h => by cases h; exact .bl b
  | .int i, _, h => by cases h; exact .int i
  | .str x, _, h => by cases h; exact .str x
  | .list ds, _, h => by
    cases h with
    | lst h1 h2 => exact .lst (e.seq h1) (dps_mono e ds _ h2)
  | .tuple ds, _, h => by
    cases h with
    | tup h1 h2 => exact .tup (same_sqT e h1) (dps_mono e ds _ h2)
  | .dict _, _, h => by cases h
theorem dps_mono {K : PySem.W.Frag} {H H' : Hp} (e : Same H H') : ∀ (ds : List PyData) (vs : List V), DpAll K H vs ds → DpAll K H' vs ds
  | [], _, h => by cases h; exact .nil
  | d :: ds, _, h => by
    cases h with
    | cons h1 h2 => exact .cons (dp_mono e d _ h1) (dps_mono e ds _ h2)
end
theorem dps_len {K : PySem.W.Frag} {H : Hp} : ∀ {vs : List V} {ds : List PyData}, DpAll K H vs ds → vs.length = ds.length
  | _, _, .nil => rfl
  | _, _, .cons _ h => by rw [List.length_cons, List.length_cons, dps_len h]
theorem dps_get {K : PySem.W.Frag} {H : Hp} : ∀ {vs : List V} {ds : List PyData} {i : Nat} {v : V}, DpAll K H vs ds → vs[i]? = some v → ∃ d, ds[i]? = some d ∧ Dp K H v d
  | _, _, _, _, .nil, h => by simp at h
  | _, _, 0, _, .cons h1 _, h => by simp at h; subst h; exact ⟨_, rfl, h1⟩
  | _, _, i + 1, v, .cons _ t, h => by
    obtain ⟨d, h1, h2⟩ := dps_get (i := i) (v := v) t (by simpa using h)
    exact ⟨d, by simpa using h1, h2⟩
theorem dps_get' {K : PySem.W.Frag} {H : Hp} : ∀ {vs : List V} {ds : List PyData} {i : Nat} {d : PyData}, DpAll K H vs ds → ds[i]? = some d → ∃ v, vs[i]? = some v ∧ Dp K H v d
  | _, _, _, _, .nil, h => by simp at h
  | _, _, 0, _, .cons h1 _, h => by simp at h; subst h; exact ⟨_, rfl, h1⟩
  | _, _, i + 1, v, .cons _ t, h => by
    obtain ⟨d, h1, h2⟩ := dps_get' (i := i) (d := v) t (by simpa using h)
    exact ⟨d, by simpa using h1, h2⟩
theorem dps_app {K : PySem.W.Frag} {H : Hp} : ∀ {vs us : List V} {ds es : List PyData}, DpAll K H vs ds → DpAll K H us es → DpAll K H (vs ++ us) (ds ++ es)
  | _, _, _, _, .nil, h => h
  | _, _, _, _, .cons h1 t, h => .cons h1 (dps_app t h)
theorem dps_at {K : PySem.W.Frag} {H : Hp} {vs : List V} {ds : List PyData} {i : Int} {d : PyData} (h : DpAll K H vs ds) (e : atI ds i = some d) : ∃ v, atI vs i = some v ∧ Dp K H v d := by
  have l := dps_len h
  unfold atI at e ⊢
  rw [← l] at e
  cases q : ixN vs.length i with
  | none => rw [q] at e; cases e
  | some j =>
    rw [q] at e
    exact dps_get' h e

/-- what is known of a value and stays so -/
structure Im where
  ok : PySem.W.Frag → Hp → V → Prop
  mono : ∀ {K : PySem.W.Frag} {H H' : Hp} {v : V}, Same H H' → ok K H v → ok K H' v
/-- what is known of an own object that may change, by what is known and stays so -/
structure Mu where
  ok : PySem.W.Frag → Hp → Addr → HO → Prop
  mono : ∀ {K : PySem.W.Frag} {H H' : Hp} {p : Addr} {o : HO}, Same H H' → ok K H p o → ok K H' p o
inductive En where
  | no
  | im (r : Im)
  | mu (m : Mu)
/-- a value that is data -/
def dat (d : PyData) : Im := ⟨fun K H v => Dp K H v d, fun {_ _ _ v} e h => dp_mono e d v h⟩
/-- a dict's pairs -/
def KvR (K : PySem.W.Frag) (H : Hp) : List (Key × V) → List (Str × PyData) → Prop := Paired fun p q => p.1 = .inr q.1 ∧ Dp K H p.2 q.2
theorem kv_mono {K : PySem.W.Frag} {H H' : Hp} (e : Same H H') {kv : List (Key × V)} {kvs : List (Str × PyData)} (h : KvR K H kv kvs) : KvR K H' kv kvs :=
  Paired.mapP h fun _ q z => ⟨z.1, dp_mono e q.2 _ z.2⟩
theorem rd_mono {H H' : Hp} {p : Addr} {o : HO} (e : Same H H') (h : Rd H p o) : Rd H' p o := by
  rcases h with h | ⟨u, h⟩
  · exact .inl (e _ _ h)
  · exact .inr ⟨u, e _ _ h⟩
/-- a value that is a dict with text keys -/
def dct (kvs : List (Str × PyData)) : Im := ⟨fun K H v => ∃ p kv, v = .ref p ∧ Rd H p (.dK kv) ∧ KvR K H kv kvs, fun {_ _ _ _} e ⟨p, kv, h1, h2, h3⟩ => ⟨p, kv, h1, rd_mono e h2, kv_mono e h3⟩⟩
/-- an own list, an own dict -/
def mls (ds : List PyData) : Mu := ⟨fun K H _ o => ∃ xs, o = .lst xs ∧ DpAll K H xs ds, fun {_ _ _ _ _} e ⟨xs, h1, h2⟩ => ⟨xs, h1, dps_mono e ds xs h2⟩⟩
def mdc (kvs : List (Str × PyData)) : Mu := ⟨fun K H _ o => ∃ kv, o = .dK kv ∧ KvR K H kv kvs, fun {_ _ _ _ _} e ⟨kv, h1, h2⟩ => ⟨kv, h1, kv_mono e h2⟩⟩

def EnOk (K : PySem.W.Frag) (F B H : Hp) (v : V) : En → Prop
  | .no => True
  | .im r => r.ok K B v
  | .mu m => ∃ p o, v = .ref p ∧ B p = none ∧ F p = none ∧ H p = some o ∧ m.ok K B p o
def En.isMu : En → Bool
  | .mu _ => true
  | _ => false

/-- F: what stays as it stood at the entry; B0: what was known at the entry; B: what is known now and stays so -/
structure Nv (K : PySem.W.Frag) (F B0 B H : Hp) (σ : Sl) (ρ : List En) : Prop where
  fH : Same F H
  bH : Same B H
  b0 : Same B0 B
  fr : ∀ a, B a ≠ none → B0 a ≠ none ∨ F a = none
  len : ρ.length = σ.length
  ent : ∀ (i : Nat) (r : En), ρ[i]? = some r → r ≠ .no → ∃ v, σ[i]? = some (some v) ∧ EnOk K F B H v r
  ap : ∀ (i j : Nat) (v : V) (r r' : En), σ[i]? = some (some v) → σ[j]? = some (some v) → ρ[i]? = some r → ρ[j]? = some r' → r.isMu = true → r'.isMu = true → i = j
  fz : ∀ a, F a = none → B0 a = none

section
variable {K : PySem.W.Frag} {F B0 B B' H H' : Hp} {σ : Sl} {ρ : List En}
/-- how the known grows -/
structure Grow (B H B' H' : Hp) : Prop where
  bb : Same B B'
  bh : Same B' H'
  hh : Same H H'
  fr : ∀ a, B' a ≠ none → B a ≠ none ∨ H a = none
theorem Grow.refl (h : Same B H) : Grow B H B H := ⟨Same.refl _, h, Same.refl _, fun _ z => .inl z⟩
theorem Grow.trans {B1 H1 B2 H2 : Hp} (a : Grow B H B1 H1) (b : Grow B1 H1 B2 H2) : Grow B H B2 H2 :=
  ⟨a.bb.trans b.bb, b.bh, a.hh.trans b.hh, fun x z => by
    rcases b.fr x z with q | q
    · exact a.fr x q
    · exact .inr (a.hh.free q)⟩
theorem Grow.heap (h : Same B H) (e : Same H H') : Grow B H B H' := ⟨Same.refl _, h.trans e, e, fun _ z => .inl z⟩
/-- a new object is laid, and known -/
theorem Grow.new {p : Addr} {o : HO} (h : Same B H) (n : H p = none) : Grow B H (upd B p o) (upd H p o) := by
  have nb : B p = none := h.free n
  refine ⟨same_upd nb, fun b x e => ?_, same_upd n, fun a z => ?_⟩
  · by_cases hb : b = p
    · subst hb; rw [upd_same] at e ⊢; exact e
    · rw [upd_ne hb] at e ⊢; exact h b x e
  · by_cases hb : a = p
    · subst hb; exact .inr n
    · rw [upd_ne hb] at z; exact .inl z
theorem Nv.grow (E : Nv K F B0 B H σ ρ) (g : Grow B H B' H') : Nv K F B0 B' H' σ ρ where
  fH := E.fH.trans g.hh
  bH := g.bh
  b0 := E.b0.trans g.bb
  fr := fun a z => by
    rcases g.fr a z with q | q
    · exact E.fr a q
    · exact .inr (E.fH.free q)
  len := E.len
  ent := fun i r h hn => by
    obtain ⟨v, e, ok⟩ := E.ent i r h hn
    refine ⟨v, e, ?_⟩
    cases r with
    | no => exact True.intro
    | im r => exact r.mono g.bb ok
    | mu m =>
      obtain ⟨p, o, e1, e2, e3, e4, e5⟩ := ok
      refine ⟨p, o, e1, ?_, e3, g.hh _ _ e4, m.mono g.bb e5⟩
      cases q : B' p with
      | none => rfl
      | some x =>
        rcases g.fr p (by rw [q]; simp) with z | z
        · exact absurd e2 z
        · rw [e4] at z; cases z
  ap := E.ap
  fz := E.fz
theorem Nv.im (E : Nv K F B0 B H σ ρ) {i : Nat} {r : Im} (h : ρ[i]? = some (.im r)) : ∃ v, σ[i]? = some (some v) ∧ r.ok K B v :=
  E.ent i _ h (by simp)
theorem get_set {α : Type} {l : List α} {i j : Nat} {x y : α} (h : (l.set i x)[j]? = some y) : (i = j ∧ y = x) ∨ (i ≠ j ∧ l[j]? = some y) := by
  by_cases e : i = j
  · subst e
    by_cases hl : i < l.length
    · rw [List.getElem?_set_self hl] at h; cases h; exact .inl ⟨rfl, rfl⟩
    · rw [List.getElem?_eq_none (by rw [List.length_set]; omega)] at h; cases h
  · rw [List.getElem?_set_ne e] at h; exact .inr ⟨e, h⟩
/-- a slot gets a value that is known -/
theorem Nv.set (E : Nv K F B0 B H σ ρ) {i : Nat} {v : V} {r : Im} (ok : r.ok K B v) : Nv K F B0 B H (σ.set i (some v)) (ρ.set i (.im r)) where
  fH := E.fH
  bH := E.bH
  b0 := E.b0
  fr := E.fr
  len := by rw [List.length_set, List.length_set, E.len]
  ent := fun j q h hn => by
    rcases get_set h with ⟨e, rfl⟩ | ⟨e, h'⟩
    · subst e
      have hl : i < ρ.length := by
        by_cases hl : i < ρ.length
        · exact hl
        · rw [List.getElem?_eq_none (by rw [List.length_set]; omega)] at h; cases h
      exact ⟨v, List.getElem?_set_self (by rw [← E.len]; exact hl), ok⟩
    · obtain ⟨u, hu, o⟩ := E.ent j q h' hn
      exact ⟨u, by rw [List.getElem?_set_ne e]; exact hu, o⟩
  ap := fun j k u q q' h1 h2 h3 h4 m1 m2 => by
    rcases get_set h3 with ⟨e, rfl⟩ | ⟨e, h3'⟩
    · cases m1
    rcases get_set h4 with ⟨e', rfl⟩ | ⟨e', h4'⟩
    · cases m2
    rw [List.getElem?_set_ne e] at h1
    rw [List.getElem?_set_ne e'] at h2
    exact E.ap j k u q q' h1 h2 h3' h4' m1 m2
  fz := E.fz
/-- less is known -/
theorem Nv.weak (E : Nv K F B0 B H σ ρ) {σ' : Sl} {ρ' : List En} (hl : σ'.length = σ.length) (hr : ρ'.length = ρ.length) (hs : ∀ (i : Nat) (r : En), ρ'[i]? = some r → r ≠ .no → ρ[i]? = some r ∧ σ'[i]? = σ[i]?) : Nv K F B0 B H σ' ρ' where
  fH := E.fH
  bH := E.bH
  b0 := E.b0
  fr := E.fr
  len := by rw [hl, hr, E.len]
  ent := fun i r h hn => by
    obtain ⟨h1, h2⟩ := hs i r h hn
    obtain ⟨v, e, o⟩ := E.ent i r h1 hn
    exact ⟨v, by rw [h2]; exact e, o⟩
  ap := fun i j v r r' h1 h2 h3 h4 m1 m2 => by
    obtain ⟨a1, a2⟩ := hs i r h3 (by intro z; rw [z] at m1; cases m1)
    obtain ⟨b1, b2⟩ := hs j r' h4 (by intro z; rw [z] at m2; cases m2)
    rw [a2] at h1
    rw [b2] at h2
    exact E.ap i j v r r' h1 h2 a1 b1 m1 m2
  fz := E.fz
end

/-! ### what the code makes, as it stands -/
def wE (X : Cx) (e : Expr) : TE := fun σ H Q => ∀ (pins : List (Addr × Obj)) (s : Shared), Inv X pins σ H s → wpAny (model X.prog X.w) X.A (eval e X.env) (EP X pins σ Q) X.xe s
def wT (X : Cx) (e : Expr) : TT := fun σ H Q => ∀ (pins : List (Addr × Obj)) (s : Shared), Inv X pins σ H s → wpAny (model X.prog X.w) X.A (isTrue e X.env (eval e X.env)) (TP X pins σ Q) X.xe s
def wA (X : Cx) (es : List Expr) : TA := fun σ H Q => ∀ (pos : Pos) (pins : List (Addr × Obj)) (s : Shared), Inv X pins σ H s → wpAny (model X.prog X.w) X.A (spliced (backTo pos (starEach es X.env))) (AP X pins σ Q) X.xe s
def wS (X : Cx) (st : Stmt) : TS := fun D σ H => ∀ (pins : List (Addr × Obj)) (s : Shared), Inv X pins σ H s → wpAny (model X.prog X.w) X.A (exec st X.env) (SP X pins D) X.xe s
def wSs (X : Cx) (st : List Stmt) : TS := fun D σ H => ∀ (pins : List (Addr × Obj)) (s : Shared), Inv X pins σ H s → wpAny (model X.prog X.w) X.A (execs st X.env) (SP X pins D) X.xe s
theorem pe_w {X : Cx} {e : Expr} : PE X e (wE X e) := ⟨fun pins s _ _ _ I h => h pins s I⟩
theorem pt_w {X : Cx} {e : Expr} : PT X e (wT X e) := ⟨fun pins s _ _ _ I h => h pins s I⟩
theorem pa_w {X : Cx} {es : List Expr} : PA X es (wA X es) := ⟨fun pos pins s _ _ _ I h => h pos pins s I⟩
theorem ps_w {X : Cx} {st : Stmt} : PS X st (wS X st) := ⟨fun pins s _ _ _ I h => h pins s I⟩
theorem pss_w {X : Cx} {st : List Stmt} : PSs X st (wSs X st) := ⟨fun pins s _ _ _ I h => h pins s I⟩
theorem wE.of {X : Cx} {e : Expr} {t : TE} (h : PE X e t) {σ : Sl} {H : Hp} {Q : VK} (q : t σ H Q) : wE X e σ H Q := fun pins s I => h.run pins s σ H Q I q
theorem wT.of {X : Cx} {e : Expr} {t : TT} (h : PT X e t) {σ : Sl} {H : Hp} {Q : Bool → Hp → Prop} (q : t σ H Q) : wT X e σ H Q := fun pins s I => h.run pins s σ H Q I q
theorem wA.of {X : Cx} {es : List Expr} {t : TA} (h : PA X es t) {σ : Sl} {H : Hp} {Q : List V → Hp → Prop} (q : t σ H Q) : wA X es σ H Q := fun pos pins s I => h.run pos pins s σ H Q I q
theorem wS.of {X : Cx} {st : Stmt} {t : TS} (h : PS X st t) {D : Ends} {σ : Sl} {H : Hp} (q : t D σ H) : wS X st D σ H := fun pins s I => h.run pins s σ H D I q
theorem wSs.of {X : Cx} {st : List Stmt} {t : TS} (h : PSs X st t) {D : Ends} {σ : Sl} {H : Hp} (q : t D σ H) : wSs X st D σ H := fun pins s I => h.run pins s σ H D I q

/-! ### the judgements over data -/
/-- an expression's value -/
def ED (X : Cx) (e : Expr) (ρ ρ' : List En) (r : Im) : Prop := ∀ (F B0 B H : Hp) (σ : Sl), Nv X.K F B0 B H σ ρ → ∀ Q : VK,
  (∀ v B' H', Nv X.K F B0 B' H' σ ρ' → Same B B' → r.ok X.K B' v → Q v H') → wE X e σ H Q
/-- a test's answer -/
def TD (X : Cx) (e : Expr) (ρ ρ' : List En) (b : Bool) : Prop := ∀ (F B0 B H : Hp) (σ : Sl), Nv X.K F B0 B H σ ρ → ∀ Q : Bool → Hp → Prop,
  (∀ B' H', Nv X.K F B0 B' H' σ ρ' → Same B B' → Q b H') → wT X e σ H Q
/-- arguments -/
inductive Ims (K : PySem.W.Frag) (B : Hp) : List V → List Im → Prop
  | nil : Ims K B [] []
  | cons {v : V} {vs : List V} {r : Im} {rs : List Im} : r.ok K B v → Ims K B vs rs → Ims K B (v :: vs) (r :: rs)
theorem Ims.mono {K : PySem.W.Frag} {B B' : Hp} (e : Same B B') : ∀ {vs : List V} {rs : List Im}, Ims K B vs rs → Ims K B' vs rs
  | _, _, .nil => .nil
  | _, _, .cons h t => .cons (Im.mono _ e h) (Ims.mono e t)
def AD (X : Cx) (es : List Expr) (ρ ρ' : List En) (rs : List Im) : Prop := ∀ (F B0 B H : Hp) (σ : Sl), Nv X.K F B0 B H σ ρ → ∀ Q : List V → Hp → Prop,
  (∀ vs B' H', Nv X.K F B0 B' H' σ ρ' → Same B B' → Ims X.K B' vs rs → Q vs H') → wA X es σ H Q
/-- what is wanted behind a block -/
structure Post where
  nx : List En → Prop
  rt : List En → Im → Prop
  bk : List En → Prop := fun _ => False
  ct : List En → Prop := fun _ => False
structure Fits (K : PySem.W.Frag) (F B0 Bb : Hp) (P : Post) (D : Ends) : Prop where
  nx : ∀ ρ σ B H, P.nx ρ → Nv K F B0 B H σ ρ → Same Bb B → D.nx σ H
  rt : ∀ ρ r σ B H v, P.rt ρ r → Nv K F B0 B H σ ρ → Same Bb B → r.ok K B v → D.rt v H
  bk : ∀ ρ σ B H, P.bk ρ → Nv K F B0 B H σ ρ → Same Bb B → D.bk σ H
  ct : ∀ ρ σ B H, P.ct ρ → Nv K F B0 B H σ ρ → Same Bb B → D.ct σ H
theorem Fits.mono {K : PySem.W.Frag} {F B0 Bb B1 : Hp} {P : Post} {D : Ends} (h : Fits K F B0 Bb P D) (e : Same Bb B1) : Fits K F B0 B1 P D :=
  ⟨fun ρ σ B H q E s => h.nx ρ σ B H q E (e.trans s), fun ρ r σ B H v q E s => h.rt ρ r σ B H v q E (e.trans s), fun ρ σ B H q E s => h.bk ρ σ B H q E (e.trans s), fun ρ σ B H q E s => h.ct ρ σ B H q E (e.trans s)⟩
def SD (X : Cx) (ss : List Stmt) (ρ : List En) (P : Post) : Prop := ∀ (F B0 B H : Hp) (σ : Sl) (D : Ends), Nv X.K F B0 B H σ ρ → Fits X.K F B0 B P D → wSs X ss D σ H
/-- a target's store -/
def GD (X : Cx) (tg : Expr) (r : Im) (ρ ρ' : List En) : Prop := ∃ g : TG, PG X tg g ∧ ∀ (F B0 B H : Hp) (σ : Sl) (v : V), Nv X.K F B0 B H σ ρ → r.ok X.K B v → ∀ Q : Sl → Hp → Prop, (∀ σ', Nv X.K F B0 B H σ' ρ' → Q σ' H) → g v σ H Q
end Fd
end

/-! part FdB -/
section
set_option Elab.async false
set_option linter.all false
set_option maxRecDepth 100000
namespace Fd
open PySem PySem.Spec PyProof.Rows L2

/-- a two-place operation on values; a call on values -/
def R2D (K : PySem.W.Frag) (r : R2) (ra rb rz : Im) : Prop := ∀ (B H : Hp) (x y : V), Same B H → ra.ok K B x → rb.ok K B y → ∀ Q : VK, (∀ v B' H', Grow B H B' H' → rz.ok K B' v → Q v H') → r x y H Q
def RCD (K : PySem.W.Frag) (r : List V → Hp → VK → Prop) (rs : List Im) (rz : Im) : Prop := ∀ (B H : Hp) (vs : List V), Same B H → Ims K B vs rs → ∀ Q : VK, (∀ v B' H', Grow B H B' H' → rz.ok K B' v → Q v H') → r vs H Q
theorem R2D.pure {K : PySem.W.Frag} {r : R2} {ra rb rz : Im} (h : ∀ (B H : Hp) (x y : V), Same B H → ra.ok K B x → rb.ok K B y → ∃ z, rz.ok K B z ∧ ∀ Q : VK, Q z H → r x y H Q) : R2D K r ra rb rz := fun B H x y e a b Q q => by
  obtain ⟨z, hz, k⟩ := h B H x y e a b
  exact k Q (q z B H (Grow.refl e) hz)

section
variable {X : Cx} {ρ ρ1 ρ2 ρ3 : List En} {a b c e : Expr} {es : List Expr} {pos : Pos} {ra rb rz r : Im} {rs : List Im}
/-! ### names, constants -/
theorem ed_var {x : Str} (i : Nat) (h : ρ[i]? = some (.im r)) (hN : X.N[i]? = some x := by rfl) (hv : Vis X.env.scope x := by first | exact Or.inl rfl | exact Or.inr (Or.inl rfl) | exact Or.inr (Or.inr rfl))
    (hd : (x == ("__debug__" : Str)) = false := by decide) (hcd : (x == ("__classdict__" : Str)) = false := by decide) : ED X (.Name x pos) ρ ρ r := by
  intro F B0 B H σ E Q q
  obtain ⟨v, e, ok⟩ := E.im h
  exact wE.of (pe_var hN hv hd hcd) ⟨v, e, q v B H E (Same.refl B) ok⟩
theorem ed_int {i : Int} {j : Nat} : ED X (.Constant (.int i) j pos) ρ ρ (dat (.int i)) := fun F B0 B H σ E Q q => wE.of pe_int (q _ B H E (Same.refl B) (.int i))
theorem ed_bl {i : Bool} {j : Nat} : ED X (.Constant (.bool i) j pos) ρ ρ (dat (.bool i)) := fun F B0 B H σ E Q q => wE.of pe_bl (q _ B H E (Same.refl B) (.bl i))
theorem ed_str {x : Str} {j : Nat} : ED X (.Constant (.str x) j pos) ρ ρ (dat (.str x)) := fun F B0 B H σ E Q q => wE.of pe_str (q _ B H E (Same.refl B) (.str x))
theorem ed_non {j : Nat} : ED X (.Constant .none j pos) ρ ρ (dat .none) := fun F B0 B H σ E Q q => wE.of pe_non (q _ B H E (Same.refl B) .non)
/-- a written tuple of the module's -/
theorem ed_glob {x : Str} {v : V} {u : Value} {d : PyData} (hm : X.mg x = some u) (rv : RelV v u) (hd : ∀ H, Dp X.K H v d) (hg : Gl X x := by rfl) (hdb : (x == ("__debug__" : Str)) = false := by decide) : ED X (.Name x pos) ρ ρ (dat d) :=
  fun F B0 B H σ E Q q => wE.of (pe_glob hg hm rv hdb) (q _ B H E (Same.refl B) (hd B))
theorem ed_as {r' : Im} (h : ED X e ρ ρ1 r) (k : ∀ K H v, r.ok K H v → r'.ok K H v) : ED X e ρ ρ1 r' := fun F B0 B H σ E Q q => h F B0 B H σ E Q fun v B' H' E' bb ok => q v B' H' E' bb (k _ _ _ ok)
theorem ed_eq {r' : Im} {ρ1' : List En} (h : ED X e ρ ρ1 r) (k : r = r') (k' : ρ1 = ρ1') : ED X e ρ ρ1' r' := k ▸ k' ▸ h
theorem ed_d {d d' : PyData} (h : ED X e ρ ρ1 (dat d)) (k : d = d') : ED X e ρ ρ1 (dat d') := k ▸ h

/-! ### two parts -/
theorem ed_tOp {r2 : R2} (hp : PE X e (tOp r2 (wE X a) (wE X b))) (ha : ED X a ρ ρ1 ra) (hb : ED X b ρ1 ρ2 rb) (hr : R2D X.K r2 ra rb rz) : ED X e ρ ρ2 rz := by
  intro F B0 B H σ E Q q
  refine wE.of hp ?_
  refine ha F B0 B H σ E _ fun v B1 H1 E1 b1 ok1 => hb F B0 B1 H1 σ E1 _ fun u B2 H2 E2 b2 ok2 => ?_
  exact hr B2 H2 v u E2.bH (ra.mono b2 ok1) ok2 Q fun z B3 H3 g ok3 => q z B3 H3 (E2.grow g) ((b1.trans b2).trans g.bb) ok3
theorem ed_bin {op : Operator} {r2 : R2} (ho : OpR X (binaryOp op) r2) (ha : ED X a ρ ρ1 ra) (hb : ED X b ρ1 ρ2 rb) (hr : R2D X.K r2 ra rb rz) : ED X (.BinOp a op b pos) ρ ρ2 rz := ed_tOp (pe_op ho pe_w pe_w) ha hb hr
/-- a comparison, as a value and as a test -/
def wC (X : Cx) (op : CmpOp) (a b : Expr) : TE := fun σ H Q => ∀ (pins : List (Addr × Obj)) (s : Shared), Inv X pins σ H s →
  wpAny (model X.prog X.w) X.A (eval a X.env) (fun v s₁ => wpAny (model X.prog X.w) X.A (eval b X.env) (fun u s₂ => wpAny (model X.prog X.w) X.A (compareOp op v u) (EP X pins σ Q) X.xe s₂) X.xe s₁) X.xe s
theorem pc_w {op : CmpOp} : PC X op a b (wC X op a b) := ⟨fun pins s _ _ _ I h => h pins s I⟩
theorem wC.of {op : CmpOp} {t : TE} (h : PC X op a b t) {σ : Sl} {H : Hp} {Q : VK} (q : t σ H Q) : wC X op a b σ H Q := fun pins s I => h.run pins s σ H Q I q
def CD (X : Cx) (op : CmpOp) (a b : Expr) (ρ ρ' : List En) (p : Bool) : Prop := ∀ (F B0 B H : Hp) (σ : Sl), Nv X.K F B0 B H σ ρ → ∀ Q : VK,
  (∀ B' H', Nv X.K F B0 B' H' σ ρ' → Same B B' → Q (.bl p) H') → wC X op a b σ H Q
theorem cd_op {op : CmpOp} {r2 : R2} {p : Bool} (ho : OpR X (compareOp op) r2) (ha : ED X a ρ ρ1 ra) (hb : ED X b ρ1 ρ2 rb) (hr : R2D X.K r2 ra rb (dat (.bool p))) : CD X op a b ρ ρ2 p := by
  intro F B0 B H σ E Q q
  have hp : PC X op a b (tOp r2 (wE X a) (wE X b)) := ⟨fun pins s σ H Q I h => bin pe_w pe_w (R := fun x y H2 => r2 x y H2 Q) I h fun v u s2 x y H2 I2 rx ry q => ho pins s2 σ H2 x y v u Q I2 rx ry q⟩
  refine wC.of hp ?_
  refine ha F B0 B H σ E _ fun v B1 H1 E1 b1 ok1 => hb F B0 B1 H1 σ E1 _ fun u B2 H2 E2 b2 ok2 => ?_
  refine hr B2 H2 v u E2.bH (ra.mono b2 ok1) ok2 Q fun z B3 H3 g ok3 => ?_
  cases ok3
  exact q B3 H3 (E2.grow g) ((b1.trans b2).trans g.bb)
theorem ed_c {op : CmpOp} {p : Bool} (h : CD X op a b ρ ρ1 p) (hm : behindInMarks op b = false := by first | exact nobehind _ (by decide) (by decide) | rfl) : ED X (.Compare a [op] [b] pos) ρ ρ1 (dat (.bool p)) := fun F B0 B H σ E Q q =>
  wE.of (pe_cmp pc_w hm) (h F B0 B H σ E Q fun B' H' E' bb => q _ B' H' E' bb (.bl p))
theorem td_c {op : CmpOp} {p : Bool} (h : CD X op a b ρ ρ1 p) (hm : behindInMarks op b = false := by first | exact nobehind _ (by decide) (by decide) | rfl) : TD X (.Compare a [op] [b] pos) ρ ρ1 p := fun F B0 B H σ E Q q =>
  wT.of (pt_cmp pc_w hm) (h F B0 B H σ E _ fun B' H' E' bb => ⟨p, rfl, q B' H' E' bb⟩)
theorem cd_eq {op : CmpOp} {p p' : Bool} (h : CD X op a b ρ ρ1 p) (e : p = p') : CD X op a b ρ ρ1 p' := e ▸ h
theorem ed_ix {r2 : R2} (ho : IxR X r2) (ha : ED X a ρ ρ1 ra) (hb : ED X b ρ1 ρ2 rb) (hr : R2D X.K r2 ra rb rz) (hs : PlainIx b := by exact fun _ _ => rfl) : ED X (.Subscript a b pos) ρ ρ2 rz := ed_tOp (pe_ix ho pe_w pe_w hs) ha hb hr

theorem r2_I0 {K : PySem.W.Frag} {f : Int → Int → Int} {i j : Int} : R2D K (rI0 fun i j => .int (f i j)) (dat (.int i)) (dat (.int j)) (dat (.int (f i j))) := R2D.pure fun B H x y _ a b => by
  cases a; cases b
  exact ⟨_, .int _, fun Q q => ⟨i, j, rfl, rfl, q⟩⟩
theorem r2_B0 {K : PySem.W.Frag} {f : Int → Int → Bool} {i j : Int} : R2D K (rI0 fun i j => .bl (f i j)) (dat (.int i)) (dat (.int j)) (dat (.bool (f i j))) := R2D.pure fun B H x y _ a b => by
  cases a; cases b
  exact ⟨_, .bl _, fun Q q => ⟨i, j, rfl, rfl, q⟩⟩
theorem r2_I {K : PySem.W.Frag} {C : Int → Int → Prop} {f : Int → Int → Int} {i j : Int} (h : C i j) : R2D K (rI C fun i j => .int (f i j)) (dat (.int i)) (dat (.int j)) (dat (.int (f i j))) := R2D.pure fun B H x y _ a b => by
  cases a; cases b
  exact ⟨_, .int _, fun Q q => ⟨i, j, rfl, rfl, h, q⟩⟩
section
variable {i j : Int} {s t : Str} {p q : Bool}
theorem ed_add (ha : ED X a ρ ρ1 (dat (.int i))) (hb : ED X b ρ1 ρ2 (dat (.int j))) : ED X (.BinOp a .Add b pos) ρ ρ2 (dat (.int (i + j))) := ed_bin op_add ha hb r2_I0
theorem ed_sub (ha : ED X a ρ ρ1 (dat (.int i))) (hb : ED X b ρ1 ρ2 (dat (.int j))) : ED X (.BinOp a .Sub b pos) ρ ρ2 (dat (.int (i - j))) := ed_bin op_sub ha hb r2_I0
theorem ed_mul (ha : ED X a ρ ρ1 (dat (.int i))) (hb : ED X b ρ1 ρ2 (dat (.int j))) (h : CMul i j) : ED X (.BinOp a .Mult b pos) ρ ρ2 (dat (.int (i * j))) := ed_bin op_mul ha hb (r2_I h)
theorem ed_mod (ha : ED X a ρ ρ1 (dat (.int i))) (hb : ED X b ρ1 ρ2 (dat (.int j))) (h : 0 < j) : ED X (.BinOp a .Mod b pos) ρ ρ2 (dat (.int (i % j))) := ed_bin op_mod ha hb (r2_I h)
theorem ed_fdiv (ha : ED X a ρ ρ1 (dat (.int i))) (hb : ED X b ρ1 ρ2 (dat (.int j))) (h : CDiv i j) : ED X (.BinOp a .FloorDiv b pos) ρ ρ2 (dat (.int (i / j))) := ed_bin op_fdiv ha hb (r2_I h)
theorem ed_pow (ha : ED X a ρ ρ1 (dat (.int i))) (hb : ED X b ρ1 ρ2 (dat (.int j))) (h : CPow i j) : ED X (.BinOp a .Pow b pos) ρ ρ2 (dat (.int (i ^ j.toNat))) := ed_bin op_pow ha hb (r2_I h)
theorem cd_lt (ha : ED X a ρ ρ1 (dat (.int i))) (hb : ED X b ρ1 ρ2 (dat (.int j))) : CD X .Lt a b ρ ρ2 (decide (i < j)) := cd_op op_lt ha hb r2_B0
theorem cd_le (ha : ED X a ρ ρ1 (dat (.int i))) (hb : ED X b ρ1 ρ2 (dat (.int j))) : CD X .LtE a b ρ ρ2 (decide (i ≤ j)) := cd_op op_le ha hb r2_B0
theorem cd_gt (ha : ED X a ρ ρ1 (dat (.int i))) (hb : ED X b ρ1 ρ2 (dat (.int j))) : CD X .Gt a b ρ ρ2 (decide (j < i)) := cd_op op_gt ha hb r2_B0
theorem cd_ge (ha : ED X a ρ ρ1 (dat (.int i))) (hb : ED X b ρ1 ρ2 (dat (.int j))) : CD X .GtE a b ρ ρ2 (decide (j ≤ i)) := cd_op op_ge ha hb r2_B0
theorem dec_V {α : Type} {f : α → V} (inj : ∀ x y, f x = f y → x = y) (x y : α) [Decidable (x = y)] : decide (f x = f y) = decide (x = y) := by
  by_cases e : x = y
  · subst e; rw [decide_eq_true rfl, decide_eq_true rfl]
  · rw [decide_eq_false e, decide_eq_false fun z => e (inj _ _ z)]
theorem r2_eqI {K : PySem.W.Frag} : R2D K rEq (dat (.int i)) (dat (.int j)) (dat (.bool (decide (i = j)))) := R2D.pure fun B H x y _ a b => by
  cases a; cases b
  exact ⟨.bl (decide (i = j)), .bl _, fun Q q => ⟨rfl, by rw [dec_V fun _ _ => V.int.inj]; exact q⟩⟩
theorem r2_eqS {K : PySem.W.Frag} : R2D K rEq (dat (.str s)) (dat (.str t)) (dat (.bool (decide (s = t)))) := R2D.pure fun B H x y _ a b => by
  cases a; cases b
  exact ⟨.bl (decide (s = t)), .bl _, fun Q q => ⟨rfl, by rw [dec_V fun _ _ => V.str.inj]; exact q⟩⟩
theorem r2_neI {K : PySem.W.Frag} : R2D K rNe (dat (.int i)) (dat (.int j)) (dat (.bool (!decide (i = j)))) := R2D.pure fun B H x y _ a b => by
  cases a; cases b
  exact ⟨.bl (!decide (i = j)), .bl _, fun Q q => ⟨rfl, by rw [dec_V fun _ _ => V.int.inj]; exact q⟩⟩
theorem r2_neS {K : PySem.W.Frag} : R2D K rNe (dat (.str s)) (dat (.str t)) (dat (.bool (!decide (s = t)))) := R2D.pure fun B H x y _ a b => by
  cases a; cases b
  exact ⟨.bl (!decide (s = t)), .bl _, fun Q q => ⟨rfl, by rw [dec_V fun _ _ => V.str.inj]; exact q⟩⟩
theorem cd_eqI (ha : ED X a ρ ρ1 (dat (.int i))) (hb : ED X b ρ1 ρ2 (dat (.int j))) : CD X .Eq a b ρ ρ2 (decide (i = j)) := cd_op op_eq ha hb r2_eqI
theorem cd_eqS (ha : ED X a ρ ρ1 (dat (.str s))) (hb : ED X b ρ1 ρ2 (dat (.str t))) : CD X .Eq a b ρ ρ2 (decide (s = t)) := cd_op op_eq ha hb r2_eqS
theorem cd_neI (ha : ED X a ρ ρ1 (dat (.int i))) (hb : ED X b ρ1 ρ2 (dat (.int j))) : CD X .NotEq a b ρ ρ2 (!decide (i = j)) := cd_op op_ne ha hb r2_neI
theorem cd_neS (ha : ED X a ρ ρ1 (dat (.str s))) (hb : ED X b ρ1 ρ2 (dat (.str t))) : CD X .NotEq a b ρ ρ2 (!decide (s = t)) := cd_op op_ne ha hb r2_neS
/-- data of any depth -/
theorem cd_eqD {d d' : PyData} (hu : X.A.units + 64 < cLine) (ha : ED X a ρ ρ1 (dat d)) (hb : ED X b ρ1 ρ2 (dat d')) (h1 : SeqAt.shaped d = true) (h2 : SeqAt.shaped d' = true) : CD X .Eq a b ρ ρ2 (PyData.eqv d d') :=
  cd_op (op_eqD hu) ha hb (R2D.pure fun B H x y e u v => ⟨_, .bl _, fun Q q => ⟨d, d', dp_mono e _ _ u, dp_mono e _ _ v, h1, h2, q⟩⟩)
theorem cd_neD {d d' : PyData} (hu : X.A.units + 64 < cLine) (ha : ED X a ρ ρ1 (dat d)) (hb : ED X b ρ1 ρ2 (dat d')) (h1 : SeqAt.shaped d = true) (h2 : SeqAt.shaped d' = true) : CD X .NotEq a b ρ ρ2 (!PyData.eqv d d') :=
  cd_op (op_neD hu) ha hb (R2D.pure fun B H x y e u v => ⟨_, .bl _, fun Q q => ⟨d, d', dp_mono e _ _ u, dp_mono e _ _ v, h1, h2, q⟩⟩)
theorem ed_cat (ha : ED X a ρ ρ1 (dat (.str s))) (hb : ED X b ρ1 ρ2 (dat (.str t))) (h : s.length + t.length ≤ sizeLine) : ED X (.BinOp a .Add b pos) ρ ρ2 (dat (.str (s ++ t))) :=
  ed_bin op_add_str ha hb (R2D.pure fun B H x y _ u v => by
    cases u; cases v
    exact ⟨_, .str _, fun Q q => ⟨s, t, rfl, rfl, h, q⟩⟩)
end
/-! ### subscripts -/
theorem ed_ixL {ds : List PyData} {i : Int} {d : PyData} (ha : ED X a ρ ρ1 (dat (.list ds))) (hb : ED X b ρ1 ρ2 (dat (.int i))) (h : atI ds i = some d) (hs : PlainIx b := by exact fun _ _ => rfl) : ED X (.Subscript a b pos) ρ ρ2 (dat d) :=
  ed_ix ix_seq ha hb (R2D.pure fun B H x y e u v => by
    cases v
    cases u with
    | lst h1 h2 =>
      obtain ⟨z, hz, dz⟩ := dps_at h2 h
      exact ⟨z, dz, fun Q q => .inl ⟨_, _, i, z, rfl, rfl, e.seq h1, hz, q⟩⟩) hs
theorem ed_ixT {ds : List PyData} {i : Int} {d : PyData} (ha : ED X a ρ ρ1 (dat (.tuple ds))) (hb : ED X b ρ1 ρ2 (dat (.int i))) (h : atI ds i = some d) (hs : PlainIx b := by exact fun _ _ => rfl) : ED X (.Subscript a b pos) ρ ρ2 (dat d) :=
  ed_ix ix_seq ha hb (R2D.pure fun B H x y e u v => by
    cases v
    cases u with
    | tup h1 h2 =>
      obtain ⟨z, hz, dz⟩ := dps_at h2 h
      exact ⟨z, dz, fun Q q => .inr (.inl ⟨_, _, i, z, rfl, rfl, same_sqT e h1, hz, q⟩)⟩) hs
theorem ed_ixS {z : Str} {i : Int} {k : Nat} (ha : ED X a ρ ρ1 (dat (.str z))) (hb : ED X b ρ1 ρ2 (dat (.int i))) (h : atI z.cps.toList i = some k) (hz : z.length ≤ sizeLine) (hs : PlainIx b := by exact fun _ _ => rfl) : ED X (.Subscript a b pos) ρ ρ2 (dat (.str ⟨#[k]⟩)) :=
  ed_ix ix_seq ha hb (R2D.pure fun B H x y e u v => by
    cases v
    cases u
    exact ⟨_, .str _, fun Q q => .inr (.inr ⟨z, i, k, rfl, rfl, hz, h, q⟩)⟩) hs
/-! ### in, not in: flat items -/
def flatD : PyData → Bool
  | .none => true
  | .bool _ => true
  | .int _ => true
  | .str _ => true
  | _ => false
theorem flat_dp {K : PySem.W.Frag} {H : Hp} {v : V} {d : PyData} (h : Dp K H v d) (f : flatD d = true) : flatV v = true := by cases h <;> first | rfl | cases f
theorem flat_dps {K : PySem.W.Frag} {H : Hp} : ∀ {vs : List V} {ds : List PyData}, DpAll K H vs ds → ds.all flatD = true → vs.all flatV = true
  | _, _, .nil, _ => rfl
  | _, _, .cons h t, f => by
    rw [List.all_cons, Bool.and_eq_true] at f
    rw [List.all_cons, flat_dp h f.1, flat_dps t f.2]; rfl
theorem eqv_V {K : PySem.W.Frag} {H : Hp} {v u : V} {d e : PyData} (h : Dp K H v d) (k : Dp K H u e) (f : flatD d = true) (g : flatD e = true) : eqV v u = PyData.eqv d e := by
  cases h <;> first | (exact absurd f Bool.false_ne_true) | (cases k <;> first | (exact absurd g Bool.false_ne_true) | rfl | (simp [eqV, PyData.eqv]))
theorem in_V {K : PySem.W.Frag} {H : Hp} {u : V} {e : PyData} (k : Dp K H u e) (g : flatD e = true) : ∀ {vs : List V} {ds : List PyData}, DpAll K H vs ds → ds.all flatD = true → inV u vs = ds.any fun d => PyData.eqv d e
  | _, _, .nil, _ => rfl
  | _, _, .cons h t, f => by
    rw [List.all_cons, Bool.and_eq_true] at f
    have ih := in_V k g t f.2
    unfold inV at ih ⊢
    rw [List.any_cons, List.any_cons, ih, eqv_V h k f.1 g]
theorem r2_in {K : PySem.W.Frag} {neg : Bool} {d : PyData} {ds : List PyData} {s : Bool} (fd : flatD d = true) (fs : ds.all flatD = true) : R2D K (rIn K neg) (dat d) (dat (if s = true then .tuple ds else .list ds)) (dat (.bool (if neg then !(ds.any fun z => PyData.eqv z d) else ds.any fun z => PyData.eqv z d))) := R2D.pure fun B H x y e u v => by
  cases s with
  | true =>
    rw [if_pos rfl] at v
    cases v with
    | tup h1 h2 => exact ⟨_, .bl _, fun Q q => ⟨_, _, rfl, .inr (same_sqT e h1), flat_dp u fd, flat_dps h2 fs, by rw [in_V u fd h2 fs]; exact q⟩⟩
  | false =>
    rw [if_neg Bool.false_ne_true] at v
    cases v with
    | lst h1 h2 => exact ⟨_, .bl _, fun Q q => ⟨_, _, rfl, .inl (e.seq h1), flat_dp u fd, flat_dps h2 fs, by rw [in_V u fd h2 fs]; exact q⟩⟩
theorem cd_inL {d : PyData} {ds : List PyData} (ha : ED X a ρ ρ1 (dat d)) (hb : ED X b ρ1 ρ2 (dat (.list ds))) (fd : flatD d = true) (fs : ds.all flatD = true) : CD X .In a b ρ ρ2 (ds.any fun z => PyData.eqv z d) :=
  cd_op op_in_seq ha hb (r2_in (s := false) fd fs)
theorem cd_niL {d : PyData} {ds : List PyData} (ha : ED X a ρ ρ1 (dat d)) (hb : ED X b ρ1 ρ2 (dat (.list ds))) (fd : flatD d = true) (fs : ds.all flatD = true) : CD X .NotIn a b ρ ρ2 (!ds.any fun z => PyData.eqv z d) :=
  cd_op op_notIn_seq ha hb (r2_in (s := false) fd fs)
theorem cd_inT {d : PyData} {ds : List PyData} (ha : ED X a ρ ρ1 (dat d)) (hb : ED X b ρ1 ρ2 (dat (.tuple ds))) (fd : flatD d = true) (fs : ds.all flatD = true) : CD X .In a b ρ ρ2 (ds.any fun z => PyData.eqv z d) :=
  cd_op op_in_seq ha hb (r2_in (s := true) fd fs)
theorem cd_niT {d : PyData} {ds : List PyData} (ha : ED X a ρ ρ1 (dat d)) (hb : ED X b ρ1 ρ2 (dat (.tuple ds))) (fd : flatD d = true) (fs : ds.all flatD = true) : CD X .NotIn a b ρ ρ2 (!ds.any fun z => PyData.eqv z d) :=
  cd_op op_notIn_seq ha hb (r2_in (s := true) fd fs)

/-! ### and, or, not, if -/
theorem ed_one {op : BoolOp} (h : ED X a ρ ρ1 r) : ED X (.BoolOp op [a] pos) ρ ρ1 r := fun F B0 B H σ E Q q => wE.of (pe_one pe_w) (h F B0 B H σ E Q q)
/-- and of truth values: the rest is asked only if it is so -/
theorem ed_and {p : Bool} {d : PyData} {rest : List Expr} (ha : ED X a ρ ρ1 (dat (.bool p))) (hb : p = true → ED X (.BoolOp .And (b :: rest) pos) ρ1 ρ2 (dat d)) (hf : p = false → ρ2 = ρ1 ∧ d = .bool false) : ED X (.BoolOp .And (a :: b :: rest) pos) ρ ρ2 (dat d) := by
  intro F B0 B H σ E Q q
  refine wE.of (pe_and pe_w pe_w) ?_
  refine ha F B0 B H σ E _ fun v B1 H1 E1 b1 ok1 => ?_
  cases ok1
  refine ⟨p, rfl, ?_⟩
  cases p with
  | true => exact hb rfl F B0 B1 H1 σ E1 Q fun u B2 H2 E2 b2 ok2 => q u B2 H2 E2 (b1.trans b2) ok2
  | false =>
    obtain ⟨e1, e2⟩ := hf rfl
    subst e1 e2
    exact q _ B1 H1 E1 b1 (.bl false)
theorem ed_or {p : Bool} {d : PyData} {rest : List Expr} (ha : ED X a ρ ρ1 (dat (.bool p))) (hb : p = false → ED X (.BoolOp .Or (b :: rest) pos) ρ1 ρ2 (dat d)) (hf : p = true → ρ2 = ρ1 ∧ d = .bool true) : ED X (.BoolOp .Or (a :: b :: rest) pos) ρ ρ2 (dat d) := by
  intro F B0 B H σ E Q q
  refine wE.of (pe_or pe_w pe_w) ?_
  refine ha F B0 B H σ E _ fun v B1 H1 E1 b1 ok1 => ?_
  cases ok1
  refine ⟨p, rfl, ?_⟩
  cases p with
  | false => exact hb rfl F B0 B1 H1 σ E1 Q fun u B2 H2 E2 b2 ok2 => q u B2 H2 E2 (b1.trans b2) ok2
  | true =>
    obtain ⟨e1, e2⟩ := hf rfl
    subst e1 e2
    exact q _ B1 H1 E1 b1 (.bl true)
/-- .. where nothing own changes -/
theorem ed_andB {p q : Bool} {rest : List Expr} (ha : ED X a ρ ρ (dat (.bool p))) (hb : p = true → ED X (.BoolOp .And (b :: rest) pos) ρ ρ (dat (.bool q))) : ED X (.BoolOp .And (a :: b :: rest) pos) ρ ρ (dat (.bool (p && q))) :=
  ed_and ha (fun e => by subst e; exact hb rfl) fun e => by subst e; exact ⟨rfl, rfl⟩
theorem ed_orB {p q : Bool} {rest : List Expr} (ha : ED X a ρ ρ (dat (.bool p))) (hb : p = false → ED X (.BoolOp .Or (b :: rest) pos) ρ ρ (dat (.bool q))) : ED X (.BoolOp .Or (a :: b :: rest) pos) ρ ρ (dat (.bool (p || q))) :=
  ed_or ha (fun e => by subst e; exact hb rfl) fun e => by subst e; exact ⟨rfl, rfl⟩
theorem ed_not {p : Bool} (h : ED X a ρ ρ1 (dat (.bool p))) : ED X (.UnaryOp .Not a pos) ρ ρ1 (dat (.bool (!p))) := by
  intro F B0 B H σ E Q q
  refine wE.of (pe_not pe_w) (h F B0 B H σ E _ fun v B1 H1 E1 b1 ok1 => ?_)
  cases ok1
  exact ⟨p, rfl, q _ B1 H1 E1 b1 (.bl _)⟩
theorem ed_if {p : Bool} (hc : TD X c ρ ρ1 p) (h1 : p = true → ED X a ρ1 ρ2 r) (h2 : p = false → ED X b ρ1 ρ2 r) : ED X (.IfExp c a b pos) ρ ρ2 r := by
  intro F B0 B H σ E Q q
  refine wE.of (pe_ifExp pt_w pe_w pe_w) (hc F B0 B H σ E _ fun B1 H1 E1 b1 => ?_)
  cases p with
  | true => exact h1 rfl F B0 B1 H1 σ E1 Q fun u B2 H2 E2 b2 ok2 => q u B2 H2 E2 (b1.trans b2) ok2
  | false => exact h2 rfl F B0 B1 H1 σ E1 Q fun u B2 H2 E2 b2 ok2 => q u B2 H2 E2 (b1.trans b2) ok2
/-! ### tests -/
theorem td_val {p : Bool} (h : ED X e ρ ρ1 (dat (.bool p))) (he : ∀ whole, isTrue e X.env whole = (do let v ← whole; standAt e.pos; holding [v] (truthy v)) := by intro _; rfl) : TD X e ρ ρ1 p := by
  intro F B0 B H σ E Q q
  refine wT.of (pt_val pe_w he) (h F B0 B H σ E _ fun v B1 H1 E1 b1 ok1 => ?_)
  cases ok1
  exact ⟨p, rfl, q B1 H1 E1 b1⟩
theorem td_not {p : Bool} (h : TD X a ρ ρ1 p) : TD X (.UnaryOp .Not a pos) ρ ρ1 (!p) := fun F B0 B H σ E Q q => wT.of (pt_not pt_w) (h F B0 B H σ E _ q)
/-- and, or of tests -/
def wW (X : Cx) (e : Expr) : TT := fun σ H Q => ∀ (whole : Sem Value) (pins : List (Addr × Obj)) (s : Shared), Inv X pins σ H s → wpAny (model X.prog X.w) X.A (isTrue e X.env whole) (TP X pins σ Q) X.xe s
theorem pw_w : PW X e (wW X e) := ⟨fun wh pins s _ _ _ I h => h wh pins s I⟩
theorem wW.of {t : TT} (h : PW X e t) {σ : Sl} {H : Hp} {Q : Bool → Hp → Prop} (q : t σ H Q) : wW X e σ H Q := fun wh pins s I => h.run wh pins s σ H Q I q
def WD (X : Cx) (e : Expr) (ρ ρ' : List En) (b : Bool) : Prop := ∀ (F B0 B H : Hp) (σ : Sl), Nv X.K F B0 B H σ ρ → ∀ Q : Bool → Hp → Prop,
  (∀ B' H', Nv X.K F B0 B' H' σ ρ' → Same B B' → Q b H') → wW X e σ H Q
theorem td_w {p : Bool} (h : WD X e ρ ρ1 p) : TD X e ρ ρ1 p := fun F B0 B H σ E Q q => wT.of (PW.pt pw_w) (h F B0 B H σ E Q q)
theorem wd_and1 {p : Bool} (h : TD X a ρ ρ1 p) : WD X (.BoolOp .And [a] pos) ρ ρ1 p := fun F B0 B H σ E Q q => wW.of (pw_and1 pt_w) (h F B0 B H σ E Q q)
theorem wd_or1 {p : Bool} (h : TD X a ρ ρ1 p) : WD X (.BoolOp .Or [a] pos) ρ ρ1 p := fun F B0 B H σ E Q q => wW.of (pw_or1 pt_w) (h F B0 B H σ E Q q)
theorem wd_and {p p' : Bool} {rest : List Expr} (ha : TD X a ρ ρ1 p) (hb : p = true → WD X (.BoolOp .And (b :: rest) pos) ρ1 ρ2 p') (hf : p = false → ρ2 = ρ1 ∧ p' = false) : WD X (.BoolOp .And (a :: b :: rest) pos) ρ ρ2 p' := by
  intro F B0 B H σ E Q q
  refine wW.of (pw_and pt_w pw_w) (ha F B0 B H σ E _ fun B1 H1 E1 b1 => ?_)
  cases p with
  | true => exact hb rfl F B0 B1 H1 σ E1 Q fun B2 H2 E2 b2 => q B2 H2 E2 (b1.trans b2)
  | false =>
    obtain ⟨e1, e2⟩ := hf rfl
    subst e1 e2
    exact q B1 H1 E1 b1
theorem wd_or {p p' : Bool} {rest : List Expr} (ha : TD X a ρ ρ1 p) (hb : p = false → WD X (.BoolOp .Or (b :: rest) pos) ρ1 ρ2 p') (hf : p = true → ρ2 = ρ1 ∧ p' = true) : WD X (.BoolOp .Or (a :: b :: rest) pos) ρ ρ2 p' := by
  intro F B0 B H σ E Q q
  refine wW.of (pw_or pt_w pw_w) (ha F B0 B H σ E _ fun B1 H1 E1 b1 => ?_)
  cases p with
  | false => exact hb rfl F B0 B1 H1 σ E1 Q fun B2 H2 E2 b2 => q B2 H2 E2 (b1.trans b2)
  | true =>
    obtain ⟨e1, e2⟩ := hf rfl
    subst e1 e2
    exact q B1 H1 E1 b1
theorem wd_andB {p p' : Bool} {rest : List Expr} (ha : TD X a ρ ρ p) (hb : p = true → WD X (.BoolOp .And (b :: rest) pos) ρ ρ p') : WD X (.BoolOp .And (a :: b :: rest) pos) ρ ρ (p && p') :=
  wd_and ha (fun e => by subst e; exact hb rfl) fun e => by subst e; exact ⟨rfl, rfl⟩
theorem wd_orB {p p' : Bool} {rest : List Expr} (ha : TD X a ρ ρ p) (hb : p = false → WD X (.BoolOp .Or (b :: rest) pos) ρ ρ p') : WD X (.BoolOp .Or (a :: b :: rest) pos) ρ ρ (p || p') :=
  wd_or ha (fun e => by subst e; exact hb rfl) fun e => by subst e; exact ⟨rfl, rfl⟩
theorem td_eq {p p' : Bool} (h : TD X e ρ ρ1 p) (k : p = p') : TD X e ρ ρ1 p' := k ▸ h
end
end Fd
end

/-! part FdS -/
section
set_option Elab.async false
set_option linter.all false
set_option maxRecDepth 100000
set_option maxHeartbeats 2000000
/-! Sets of texts, made of a list, put in order. -/
namespace Fd
open PySem PySem.Spec PyProof.Rows L2

def nameOf (e : Int × Value) : Str := match e.2 with
  | .str x _ => x
  | _ => Str.empty
theorem name_is {P : Program} {w : World} {e : Int × Value} {x : Str} (h : (strKind P w).is x e.2 = true) : nameOf e = x := by
  obtain ⟨i, v⟩ := e
  obtain ⟨t, rfl⟩ : ∃ t, v = Value.str x t := Value.isStrOf_shape (x := x) (v := v) h
  rfl
theorem is_name {P : Program} {w : World} {l : List (Int × Value)} (h : ElemsOf (strKind P w) l) {e : Int × Value} (he : e ∈ l) (x : Str) : (strKind P w).is x e.2 = true ↔ nameOf e = x := by
  constructor
  · exact name_is
  · intro q
    obtain ⟨⟨k, hk, _⟩, _⟩ := h e he
    rw [← q, name_is hk]; exact hk
/-- the order of a set's table, as the walk over it wants it -/
def Tab (w : World) (t : SetTable) (n : Nat) : Prop := t.fits n = true ∧ Ris t.place.toList ∧ (w.params.followText "set-order" = true ∨ t.led = true)
/-- the set at a holds the texts xs -/
def SetX (P : Program) (w : World) (h : Heap) (a : Addr) (xs : List Str) : Prop :=
  ∃ o es ep t, h.get? a = some o ∧ o.ExactSet ∧ o.data = .set es ep t ∧ ElemsOf (strKind P w) es.toList ∧ (es.toList.map nameOf).Nodup ∧ (∀ x, x ∈ xs ↔ x ∈ es.toList.map nameOf) ∧ es.size ≤ xs.length ∧ Tab w t es.size
theorem SetX.at {P : Program} {w : World} {h h' : Heap} {a : Addr} {xs : List Str} (R : SetX P w h a xs) (k : ∀ o, h.get? a = some o → h'.get? a = some o) : SetX P w h' a xs := by
  obtain ⟨o, es, ep, t, e, r⟩ := R
  exact ⟨o, es, ep, t, k o e, r⟩
section
variable {P : Program} {w : World} {A : Around} {E : Value → Shared → Prop} {s : Shared} {a : Addr} {xs : List Str}
theorem put_tail {g : Bool → Sem Unit} (hg : ∀ (b : Bool) (s₁ : Shared) (Q' : Unit → Shared → Prop), Q' () s₁ → wpAny (model P w) A (g b) Q' E s₁)
    {o : Obj} {es es1 : Array (Int × Value)} {ep : Nat} {t t2 : SetTable} {ys : List Str} (ho : s.heap.get? a = some o) (hex : o.ExactSet) (hd : o.data = .set es ep t)
    (el : ElemsOf (strKind P w) es1.toList) (nd : (es1.toList.map nameOf).Nodup) (mem : ∀ x, x ∈ ys ↔ x ∈ es1.toList.map nameOf) (le : es1.size ≤ ys.length) (small : ys.length < scanBound) (tb : Tab w t2 es1.size) {wasDummy : Bool} {R : Option Bool → Shared → Prop}
    (hR : ∀ h', Heap.SameBut a s.heap h' → SetX P w h' a ys → R (some true) { s with heap := h' }) :
    wpAny (model P w) A (do
      storeSet a es1 t2
      if (!wasDummy && t2.tooFull) = true then do
          g (relayAll t2 es1 (SetTable.grown es1.size)).2.2
          storeSet a (relayAll t2 es1 (SetTable.grown es1.size)).1 (relayAll t2 es1 (SetTable.grown es1.size)).2.1
          pure (some true)
        else pure (some true)) R E s := by
  have lt1 : es1.size < scanBound := Nat.lt_of_le_of_lt le small
  refine wpAny_bind (wpAny_storeSet_of ho hd ?_ (fits_of_scanBound lt1))
  have at1 := store_at (es' := es1) (t' := t2) ho hd
  have but1 := Heap.SameBut.update s.heap a (Obj.putSet es1 t2)
  split
  · have p1 := relayAll_perm t2 es1 (SetTable.grown es1.size)
    have p2 := relayAll_fits t2 es1 (SetTable.grown es1.size)
    have p3 := relayAll_ris t2 es1 (SetTable.grown es1.size)
    have p4 := relayAll_led t2 es1 (SetTable.grown es1.size)
    generalize relayAll t2 es1 (SetTable.grown es1.size) = Z at p1 p2 p3 p4 ⊢
    obtain ⟨es2, t3, gave⟩ := Z
    dsimp only at p1 p2 p3 p4 ⊢
    have sz : es2.size = es1.size := by rw [← Array.length_toList, p1.length_eq, Array.length_toList]
    refine wpAny_bind (hg _ _ _ ?_)
    refine wpAny_bind (wpAny_storeSet_of at1 rfl ?_ (fits_of_scanBound (by rw [sz]; exact lt1)))
    have at2 := store_at (es' := es2) (t' := t3) at1 rfl
    refine wpAny_pure (hR _ (but1.trans (Heap.SameBut.update _ a _)) ⟨_, es2, _, t3, at2, hex, rfl, el.perm p1, (p1.map nameOf).nodup_iff.mpr nd, fun x => (mem x).trans (p1.map nameOf).mem_iff.symm, by rw [sz]; exact le, p2, p3, ?_⟩)
    rcases tb.2.2 with z | z
    · exact .inl z
    · exact .inr (by rw [p4]; exact z)
  · exact wpAny_pure (hR _ but1 ⟨_, es1, _, t2, at1, hex, rfl, el, nd, mem, le, tb⟩)
/-- one more text -/
theorem put_text {x : Str} {tk : Tok} {Q : Bool → Shared → Prop} (R : SetX P w s.heap a xs) (room : xs.length + 1 < scanBound)
    (hQ : ∀ b h', Heap.SameBut a s.heap h' → SetX P w h' a (xs ++ [x]) → Q b { s with heap := h' }) : wpAny (model P w) A (setAddHashed a (.str x tk) ((strKind P w).hash x)) Q E s := by
  obtain ⟨o, es, ep, t, ho, hex, hd, el, nd, mem, le, tb⟩ := R
  have hx : (strKind P w).is x (.str x tk) = true := strKind_is P w x tk
  have sc : (Value.str x tk).scannable = true := rfl
  have lt0 : es.size < scanBound := by omega
  unfold setAddHashed setAddHashedIn
  refine wpAny_holding (wpAny_bind (wpAny_setState_of ho hd tb.1 ?_))
  dsimp only
  rw [byScan_of sc lt0 el]
  simp only [↓reduceIte]
  unfold setAddByScan
  refine wpAny_bind (wpAny_bind (wpAny_rule (wpAny_bind (wpAny_setScan_of hx ho hd tb.1 el ?_))))
  cases hf : List.findIdx? (fun e => (strKind P w).is x e.2) es.toList with
  | some j =>
    dsimp only
    obtain ⟨hj, pj, _⟩ := List.findIdx?_eq_some_iff_getElem.mp hf
    have xin : x ∈ es.toList.map nameOf := List.mem_map.mpr ⟨_, List.getElem_mem hj, name_is pj⟩
    refine wpAny_pure (wpAny_pure (hQ false s.heap (Heap.SameBut.refl a s.heap) ⟨o, es, ep, t, ho, hex, hd, el, nd, fun y => ?_, by rw [List.length_append]; exact Nat.le_succ_of_le le, tb⟩))
    rw [List.mem_append, mem y, List.mem_singleton]
    exact ⟨fun z => z.elim id fun e => e ▸ xin, .inl⟩
  | none =>
    dsimp only
    have nin : x ∉ es.toList.map nameOf := fun z => by
      obtain ⟨e, he, q⟩ := List.mem_map.mp z
      have c := List.findIdx?_eq_none_iff.mp hf e he
      rw [(is_name el he x).mpr q] at c
      cases c
    have gw : ∀ (b : Bool) {s₁ : Shared} {Q' : Unit → Shared → Prop}, Q' () s₁ → wpAny (model P w) A (match b with | true => rule "set.scan.the-table-gave-way" | false => pure ()) Q' E s₁ :=
      fun b s₁ Q' q => by cases b <;> first | exact wpAny_pure q | exact wpAny_rule q
    have n1 := layNew_perm t es ((strKind P w).hash x) (.str x tk)
    have n2 := layNew_fits t es ((strKind P w).hash x) (.str x tk)
    have n3 := layNew_ris t es ((strKind P w).hash x) (.str x tk) tb.2.1
    have n4 := layNew_led t es ((strKind P w).hash x) (.str x tk)
    generalize layNew t es ((strKind P w).hash x) (.str x tk) = Z at n1 n2 n3 n4 ⊢
    obtain ⟨es1, t1, wasDummy, gave⟩ := Z
    dsimp only at n1 n2 n3 n4 ⊢
    rw [Array.toList_push] at n1
    have c1 : es1.toList.Perm (((strKind P w).hash x, Value.str x tk) :: es.toList) := n1.trans (List.perm_append_singleton _ _)
    have c2 : (es1.toList.map nameOf).Perm (x :: es.toList.map nameOf) := c1.map nameOf
    have el1 : ElemsOf (strKind P w) es1.toList := (el.push hx sc).perm n1
    have nd1 : (es1.toList.map nameOf).Nodup := c2.nodup_iff.mpr (List.nodup_cons.mpr ⟨nin, nd⟩)
    have mem1 : ∀ y, y ∈ xs ++ [x] ↔ y ∈ es1.toList.map nameOf := fun y => by
      rw [List.mem_append, mem y, List.mem_singleton, c2.mem_iff, List.mem_cons]
      exact Or.comm
    have sz1 : es1.size = es.size + 1 := by rw [← Array.length_toList, c1.length_eq, List.length_cons, Array.length_toList]
    have le1 : es1.size ≤ (xs ++ [x]).length := by rw [sz1, List.length_append]; exact Nat.succ_le_succ le
    have sm1 : (xs ++ [x]).length < scanBound := by rw [List.length_append]; exact room
    have tb1 : Tab w t1 es1.size := ⟨n2, n3, by
      rcases tb.2.2 with z | z
      · exact .inl z
      · exact .inr (by rw [n4]; exact z)⟩
    refine wpAny_bind (gw _ ?_)
    split
    · refine wpAny_bind ?_
      rw [hashByValue_scannable 8 sc]
      refine wpAny_pure ?_
      refine put_tail (ys := xs ++ [x]) ?_ ho hex hd el1 nd1 mem1 le1 sm1 ?_ ?_
      · intro b s₁ Q' q; cases b <;> first | exact wpAny_pure q | exact wpAny_rule q
      · refine ⟨?_, ?_, ?_⟩
        · first | (split <;> first | exact tb1.1 | exact SetTable.fits_plain_off tb1.1) | exact tb1.1
        · first | (split <;> exact tb1.2.1) | exact tb1.2.1
        · first | (split <;> exact tb1.2.2) | exact tb1.2.2
      · intro h' sb r; dsimp only; exact wpAny_pure (hQ true h' sb r)
    · refine wpAny_bind (wpAny_pure ?_)
      simp only [↓reduceIte]
      refine put_tail (ys := xs ++ [x]) ?_ ho hex hd el1 nd1 mem1 le1 sm1 tb1 ?_
      · intro b s₁ Q' q; cases b <;> first | exact wpAny_pure q | exact wpAny_rule q
      · intro h' sb r; dsimp only; exact wpAny_pure (hQ true h' sb r)
end
end Fd
end

/-! part FdT -/
section
set_option Elab.async false
set_option linter.all false
set_option maxRecDepth 100000
set_option maxHeartbeats 4000000
namespace Fd
open PySem PySem.Spec PyProof.Rows L2
section
variable {P : Program} {w : World} {A : Around} {R : Result → Shared → Prop} {I : Addr} {fp wr : List Addr} {G : Array GenState → Array GenState → Prop} {n : Nat} {Pv : Nat → Value → Prop} {St : Nat → Shared → Prop}
/-- the loop of set(..): text after text -/
theorem fill_loop (W : WalksS P w A.in1 I fp wr G n Pv St) (S : Addr) (hSf : S ∉ fp) (xs : List Str) (hn : xs.length = n) (room : n + 1 < scanBound) (hv : ∀ i v, Pv i v → ∃ x t, xs[i]? = some x ∧ v = .str x t) :
    ∀ (k i : Nat) (s : Shared), n - i = k → i ≤ n → St i s → SetX P w s.heap S (xs.take i) → (∀ s', Moved (S :: wr) G s s' → SetX P w s'.heap S xs → R (.ok (.ret .none)) s') →
      codeAny (model P w) A (.builtin "set.update.loop" ⟨[.ref S, .ref I], []⟩) R s := by
  have notW : S ∉ wr := fun h => hSf (W.sub _ h)
  have sub : ∀ b ∈ wr, b ∈ S :: wr := fun b hb => List.mem_cons_of_mem _ hb
  intro k
  induction k with
  | zero =>
    intro i s hk hi st hS hR
    obtain rfl : i = n := by omega
    refine codeAny_builtin F.entry_set_update_loop ?_
    rw [Around.under_plainId F.plain_set_update_loop _]
    show wpAny _ A.in1 (pyNext (.ref I) >>= _) _ _ s
    refine wpAny_bind (W.done s _ _ st fun s' hm => ?_)
    show wpAny _ A.in1 (ret Value.none) _ _ s'
    rw [List.take_of_length_le (Nat.le_of_eq hn)] at hS
    exact wpAny_pure (hR s' (hm.mono sub) (hS.at fun o e => hm.heap S o notW e))
  | succ k ih =>
    intro i s hk hi st hS hR
    have lt : i < n := by omega
    refine codeAny_builtin F.entry_set_update_loop ?_
    rw [Around.under_plainId F.plain_set_update_loop _]
    show wpAny _ A.in1 (pyNext (.ref I) >>= _) _ _ s
    refine wpAny_bind (W.item i s _ _ lt st fun v s' hP st' hm => ?_)
    obtain ⟨x, t, hx, rfl⟩ := hv i v hP
    have hS' : SetX P w s'.heap S (xs.take i) := hS.at fun o e => hm.heap S o notW e
    show wpAny _ A.in1 (holding [Value.str x t] (setAdd S (.str x t)) >>= _) _ _ s'
    refine wpAny_bind (wpAny_holding ?_)
    unfold setAdd
    refine wpAny_holding (wpAny_bind ((strKind P w).pyHash (k := x) (strKind_is P w x t) ?_))
    refine put_text (s := { s' with toks := s'.toks + 1 }) hS' (by rw [List.length_take]; omega) fun b h' but hS2 => ?_
    rw [show xs.take i ++ [x] = xs.take (i + 1) by rw [List.take_add_one, hx]; rfl] at hS2
    refine wpAny_pure ⟨plainId_quiet F.plain_set_update_loop _, ih (i + 1) _ (by omega) lt (W.frame _ s' _ _ st' (Nat.le_succ _) fun b hb o e => ?_) hS2 fun s'' hm2 hS3 => ?_⟩
    · rw [but.2 b (fun h : b = S => hSf (by rw [← h]; exact hb))]; exact e
    · refine hR s'' (Moved.trans W.gtrans ((hm.mono sub).then_heap (Nat.le_succ _) fun b o hb e => ?_) hm2) hS3
      rw [but.2 b (fun h : b = S => hb (by rw [h]; exact List.mem_cons_self))]; exact e
end
/-- a new set, as it is laid -/
abbrev newS (w : World) : Obj := { cls := .type "set", dict := none, data := .set #[] 0 (.fresh 0 0 (!w.params.followText "set-order")) }
theorem newS_at {P : Program} {w : World} {h : Heap} {a : Addr} (ho : h.get? a = some (newS w)) : SetX P w h a [] :=
  ⟨_, #[], 0, _, ho, ⟨rfl, rfl, rfl⟩, rfl, (fun e he => by simp at he), (by simp), (fun x => by simp), Nat.le_refl _, (by rfl), List.Pairwise.nil, by
    show _ ∨ (!w.params.followText "set-order") = true
    cases w.params.followText "set-order"
    · exact .inr rfl
    · exact .inl rfl⟩
section
variable {P : Program} {w : World} {A : Around} {E : Value → Shared → Prop} {s : Shared}
theorem set_of_texts {l : Addr} {items : Array Value} (xs : List Str) {Q : Value → Shared → Prop} (hh : A.handled = none) (hl : s.heap.IsList l items) (hit : StrsAre items.toList xs) (room : xs.length + 1 < scanBound)
    (h : ∀ (h' : Heap) (tk : Nat), SetX P w h' s.heap.objs.size xs → (∀ b o, s.heap.get? b = some o → h'.get? b = some o) → Q (.ref s.heap.objs.size) { s with heap := h', toks := tk }) :
    wpAny (model P w) A (call (.type "set") [.ref l]) Q E s := by
  have hisz : xs.length = items.size := by rw [← StrsAre.len_eq hit, Array.length_toList]
  obtain ⟨c, tl, hmro⟩ := F.called_set.mro
  have hmade := F.called_set.made
  have hsub := F.called_set.sub
  refine wpAny_call (codeAny_of_tree ?_)
  show wpAny _ _ (callAny (.type "set") _) _ _ _
  refine wpAny_pure ⟨Code.quiet_builtin _ (by decide +kernel), codeAny_builtin F.entry_type_call ?_⟩
  rw [Around.under_plain (weight_type_call_type "set" [.ref l] []) rfl]
  have h1 := F.called_set.notType
  have h2 := F.called_set.canCreate
  have hct := F.typeCall_set_1 (.ref l)
  repeat (any_goals (first | assumption | wp_step))
  refine codeAny_mono (code_set_led1 (.ref l) (E := E) (Q₁ := fun obj s₁ => obj = .ref s.heap.objs.size ∧ s₁ = { s with heap := s.heap.push (newS w) }) ⟨rfl, rfl⟩) fun r s₁ hr => ?_
  cases r with
  | error e => exact hr
  | ok fl =>
    cases fl with
    | ret obj =>
      obtain ⟨rfl, rfl⟩ := hr
      have at0 : (s.heap.push (newS w)).get? s.heap.objs.size = some (newS w) := Heap.get?_push_size _ rfl
      have hT : Shared.TypeIs { s with heap := s.heap.push (newS w) } (.ref s.heap.objs.size) "set" := ⟨_, at0, rfl⟩
      have hli := F.called_set.init.lookup
      have hbi := F.called_set.init.bind (.ref s.heap.objs.size)
      repeat (any_goals (first | assumption | wp_step))
      refine codeAny_mono (codeAny_call_builtin (R := wants (fun r s₂ => r = .none ∧ ∃ h' tk, s₂ = { s with heap := h', toks := tk } ∧ SetX P w h' s.heap.objs.size xs ∧
          (∀ b o, s.heap.get? b = some o → h'.get? b = some o)) E) F.called_set.init.plain F.entry_set_init (check_set_init_1 hT ?_)) fun r₂ s₂ hr₂ => ?_
      · obtain ⟨ol, hol, hcl, nl, hdl⟩ := hl
        obtain ⟨ocls, odict, odata, oslots⟩ := ol
        simp only at hcl hdl
        subst hcl; subst hdl
        have at1 : (s.heap.push (newS w)).get? l = some { cls := .type "list", dict := odict, data := .seq items nl, slots := oslots } := Heap.get?_push_of_some _ hol
        have hsls := F.sub_list_set
        have hslf := F.sub_list_frozenset
        have hne : (Value.type "list" == Value.type "dict") = false := by decide
        have hl1 : (s.heap.push (newS w)).IsList l items := ⟨_, at1, rfl, nl, rfl⟩
        unfold Builtin.«set.__init__» noKeywords Builtin.Frozenset.updateFrom
        generalize hPI : pyIter = PI
        wp_walk
        subst hPI
        refine wpAny_pyIter_list hl1 ?_
        refine wpAny_bind (wpAny_runValue ?_)
        have llt : l < s.heap.objs.size := Heap.lt_size hol
        have hh3 : A.in1.in1.in1.handled = none := by simp [hh]
        have hz1 : (s.heap.push (newS w)).objs.size = s.heap.objs.size + 1 := Heap.size_push ..
        have neI : l ≠ (s.heap.push (newS w)).objs.size := by rw [hz1]; exact Nat.ne_of_lt (Nat.lt_succ_of_lt llt)
        have hSf : s.heap.objs.size ∉ [(s.heap.push (newS w)).objs.size, l] := by
          rw [hz1]; simp only [List.mem_cons, List.mem_singleton, List.not_mem_nil, or_false, not_or]
          exact ⟨Nat.ne_of_lt (Nat.lt_succ_self _), Nat.ne_of_gt llt⟩
        have hval : ∀ (i : Nat) (v : Value), items[i]? = some v → ∃ x t, xs[i]? = some x ∧ v = .str x t := fun i v hv => by
          have hi : i < xs.length := by rw [hisz]; exact (Array.getElem?_eq_some_iff.mp hv).1
          obtain ⟨t, e⟩ := SS.strs_at hit i v (by rw [Array.getElem?_toList]; exact hv)
          refine ⟨xs[i], t, List.getElem?_eq_getElem hi, ?_⟩
          rw [e, List.getD_eq_getElem?_getD, List.getElem?_eq_getElem hi] <;> rfl
        refine fill_loop ((Walks.list hh3 _ l neI items).toS) s.heap.objs.size hSf xs hisz (by rw [← hisz]; exact room) hval (items.size - 0) 0 _ (by omega) (Nat.zero_le _)
          ⟨⟨_, Heap.get?_push_size _ rfl, rfl, rfl⟩, (hl1.push _)⟩ ?hS0 ?hR
        case hS0 => exact newS_at (Heap.get?_push_of_some _ at0)
        case hR =>
          intro s' hm hS'
          obtain ⟨h', g2, d', tk', os'⟩ := s'
          have eg : g2 = s.gens := hm.gens
          have ed : d' = s.drawn := hm.drawn
          have eo : os' = s.os := hm.os
          subst eg; subst ed; subst eo
          show wpAny _ _ _ _ _ _
          refine wpAny_pure ?_
          show wpAny _ _ (ret Value.none) _ _ _
          refine wpAny_pure ⟨rfl, h', tk', rfl, hS', fun b o e => ?_⟩
          have hb0 : b < s.heap.objs.size := Heap.lt_size e
          exact hm.heap b o (by
            simp only [List.mem_cons, List.mem_singleton, List.not_mem_nil, or_false, not_or]
            exact ⟨Nat.ne_of_lt hb0, by rw [hz1]; exact Nat.ne_of_lt (Nat.lt_succ_of_lt hb0)⟩) (Heap.get?_push_of_some _ (Heap.get?_push_of_some _ e))
      · cases r₂ with
        | error e => exact hr₂
        | ok fl₂ =>
          cases fl₂ with
          | ret r =>
            obtain ⟨rfl, h', tk, rfl, hS', hk'⟩ := hr₂
            repeat (any_goals (first | assumption | wp_step))
            exact h _ _ hS' hk'
          | _ => exact hr₂.elim
    | _ => exact hr.elim
/-- sorted(a set of texts) -/
theorem sort_of_set {a : Addr} {xs : List Str} {Q : Value → Shared → Prop} (R : SetX P w s.heap a xs) (hh : A.handled = none) (h64 : xs.length < 64)
    (hQ : ∀ s' p (out : Array Value) (c : Nat) (ys : List Str), (∀ b o, s.heap.get? b = some o → s'.heap.get? b = some o) → s'.gens = s.gens → s'.os = s.os → s.heap.objs.size ≤ p →
      s'.heap.get? p = some (seqObj "list" out c) → StrsAre out.toList ys → sortedS ys = true → ys.Nodup → (∀ x, x ∈ ys ↔ x ∈ xs) → Q (.ref p) s') : wpAny (model P w) A (call (.builtin "sorted") [.ref a]) Q E s := by
  obtain ⟨o, es, ep, t, ho, hex, hd, el, nd, mem, le, tb⟩ := R
  have lt : es.size < 64 := by omega
  refine Calls.call_function_entry kind_sorted plain_sorted entry_sorted (args_sorted1 _) ?_
  unfold Builtin.«sorted»
  refine wpAny_bind (m := checkCount "sorted" 1 1 _) (wpAny_pure ?_)
  refine wpAny_bind (collect_set (A := A.in1) hh ⟨o, ho, hex.1, hd⟩ tb.1 (by unfold scanBound; omega) tb.2.1 tb.2.2 fun s1 vs k1 hz g1 o1 pm => ?_)
  have hvl : vs.length = es.size := by rw [pm.length_eq, List.length_map, Array.length_toList]
  have areS : ∀ v ∈ vs, ∃ x tk, v = Value.str x tk := fun v hv => by
    obtain ⟨e, he, q⟩ := List.mem_map.mp (pm.mem_iff.mp hv)
    obtain ⟨⟨k, hk, _⟩, _⟩ := el e he
    obtain ⟨tk, e2⟩ := Value.isStrOf_shape (x := k) (v := e.2) hk
    exact ⟨k, tk, by rw [← q]; exact e2⟩
  have hI : ∀ (l : List Value), (∀ v ∈ l, ∃ x tk, v = Value.str x tk) → StrsAre l (l.map fun v => nameOf (0, v)) := by
    intro l
    induction l with
    | nil => exact fun _ => .nil
    | cons v r ih =>
      intro h
      obtain ⟨x, tk, rfl⟩ := h v List.mem_cons_self
      exact .cons x tk (ih fun u hu => h u (List.mem_cons_of_mem _ hu))
  have hI := hI vs areS
  have pk : (vs.map fun v => nameOf (0, v)).Perm (es.toList.map nameOf) := by
    have q := pm.map fun v => nameOf (0, v)
    rw [List.map_map] at q
    exact q
  refine wpAny_bind (wpAny_newList ?_ (by rw [hvl, sizeLine_eq]; omega))
  have hoL : (s1.heap.push (seqObj "list" vs.toArray 0)).get? s1.heap.objs.size = some (seqObj "list" vs.toArray 0) := Heap.get?_push_size _ rfl
  refine wpAny_bind (wpAny_holding (wpAny_call_entry slot_list_sort ⟨_, hoL, rfl⟩ entry_list_sort (list_sort_treeK PyProof.Rows.strKind_oneLt hoL hI.keysOf (fun v₁ v₂ rest e => keyKind_strs (by rw [← e]; exact hI)) (by rw [hvl]; exact lt) fun st' hp hs => ⟨_, rfl, ?_⟩) (args_list_sort _)))
  obtain ⟨ys, a1, a2, a3⟩ := sorted_out_str hI hp hs
  obtain ⟨c, hc⟩ := sortedHeap_at (vs := vs) (out := (arrOf st').map (·.2)) hoL
  have pn : ys.Perm (es.toList.map nameOf) := a2.trans pk
  refine wpAny_pure ⟨_, rfl, hQ _ s1.heap.objs.size _ c ys (fun b u e => ?_) g1 o1 hz hc a1 a3 (pn.nodup_iff.mpr nd) fun x => by rw [pn.mem_iff, ← mem x]⟩
  have q := k1 b u e
  have hlt := Heap.lt_size q
  show (sortedHeap (s1.heap.push (seqObj "list" vs.toArray 0)) s1.heap.objs.size vs ((arrOf st').map (·.2))).get? b = some u
  rw [sortedHeap_old (Nat.ne_of_lt hlt) (by rw [size_push']; exact Nat.lt_succ_of_lt hlt)]
  exact Heap.get?_push_of_some _ q
end
end Fd
end

/-! part FdC -/
section
set_option Elab.async false
set_option linter.all false
set_option maxRecDepth 100000
set_option maxHeartbeats 1000000
namespace Fd
open PySem PySem.Spec PyProof.Rows L2

/-! ### texts in order -/
def leS (x y : Str) : Bool := decide (x.cps.toList ≤ y.cps.toList)
theorem str_eq {x y : Str} (h : x.cps.toList = y.cps.toList) : x = y := PySem.W.str_of_cps h
theorem leS_anti {x y : Str} (h : leS x y = true) (k : leS y x = true) : x = y :=
  str_eq (List.le_antisymm (of_decide_eq_true h) (of_decide_eq_true k))
theorem leS_trans (x y z : Str) (h : leS x y = true) (k : leS y z = true) : leS x z = true := decide_eq_true (List.le_trans (of_decide_eq_true h) (of_decide_eq_true k))
theorem leS_total (x y : Str) : (leS x y || leS y x) = true := by
  rcases List.le_total x.cps.toList y.cps.toList with h | h
  · rw [show leS x y = true from decide_eq_true h]; rfl
  · rw [show leS y x = true from decide_eq_true h, Bool.or_true]
def sorts (xs : List Str) : List Str := xs.mergeSort leS
def dedup : List Str → List Str
  | [] => []
  | x :: xs => if x ∈ xs then dedup xs else x :: dedup xs
theorem mem_dedup {x : Str} : ∀ {xs : List Str}, x ∈ dedup xs ↔ x ∈ xs
  | [] => Iff.rfl
  | y :: xs => by
    unfold dedup
    by_cases h : y ∈ xs
    · rw [if_pos h, mem_dedup, List.mem_cons]
      exact ⟨.inr, fun z => z.elim (fun e => e ▸ h) id⟩
    · rw [if_neg h, List.mem_cons, List.mem_cons, mem_dedup]
theorem dedup_nodup : ∀ xs : List Str, (dedup xs).Nodup
  | [] => List.nodup_nil
  | y :: xs => by
    unfold dedup
    by_cases h : y ∈ xs
    · rw [if_pos h]; exact dedup_nodup xs
    · rw [if_neg h]; exact List.nodup_cons.mpr ⟨fun z => h (mem_dedup.mp z), dedup_nodup xs⟩
/-- sorted(set(xs)) -/
def sset (xs : List Str) : List Str := sorts (dedup xs)
theorem sorts_perm (xs : List Str) : (sorts xs).Perm xs := List.mergeSort_perm xs leS
theorem sorts_pw (xs : List Str) : (sorts xs).Pairwise fun a b => leS a b = true := List.pairwise_mergeSort leS_trans leS_total xs
theorem mem_sset {x : Str} {xs : List Str} : x ∈ sset xs ↔ x ∈ xs := (sorts_perm _).mem_iff.trans mem_dedup
theorem sset_nodup (xs : List Str) : (sset xs).Nodup := (sorts_perm _).nodup_iff.mpr (dedup_nodup xs)
theorem sorts_uniq {xs ys : List Str} (hp : ys.Perm xs) (hs : ys.Pairwise fun a b => leS a b = true) : ys = sorts xs :=
  List.Perm.eq_of_pairwise (fun _ _ _ _ h k => leS_anti h k) hs (sorts_pw xs) (hp.trans (sorts_perm xs).symm)
theorem risingS_pw : ∀ (p : Str) (l : List Str), risingS p l = true → (p :: l).Pairwise fun a b => leS a b = true
  | p, [], _ => List.pairwise_singleton _ _
  | p, x :: r, h => by
    have h : (!ltCps x.cps.toList p.cps.toList && risingS x r) = true := h
    rw [Bool.and_eq_true, Bool.not_eq_true', ltCps_eq, decide_eq_false_iff_not] at h
    have ih := risingS_pw x r h.2
    have px : leS p x = true := decide_eq_true (List.not_lt.mp h.1)
    refine List.pairwise_cons.mpr ⟨fun y hy => ?_, ih⟩
    rcases List.mem_cons.mp hy with e | e
    · rw [e]; exact px
    · exact leS_trans _ _ _ px (List.rel_of_pairwise_cons ih e)
theorem sortedS_pw {l : List Str} (h : sortedS l = true) : l.Pairwise fun a b => leS a b = true := by
  cases l with
  | nil => exact List.Pairwise.nil
  | cons p r => exact risingS_pw p r h
theorem sset_uniq {xs ys : List Str} (hs : sortedS ys = true) (nd : ys.Nodup) (hm : ∀ x, x ∈ ys ↔ x ∈ xs) : ys = sset xs :=
  sorts_uniq ((List.perm_ext_iff_of_nodup nd (dedup_nodup xs)).mpr fun x => (hm x).trans mem_dedup.symm) (sortedS_pw hs)

/-! ### lists of texts -/
def tS (x : Str) : PyData := .str x
theorem dps_strs {K : PySem.W.Frag} {H : Hp} : ∀ {vs : List V} {xs : List Str}, DpAll K H vs (xs.map tS) → vs = xs.map V.str
  | _, [], h => by cases h; rfl
  | _, x :: xs, h => by
    cases h with
    | cons h1 h2 =>
      have h1 : Dp K H _ (.str x) := h1
      cases h1
      rw [dps_strs h2]; rfl
theorem strs_dps {K : PySem.W.Frag} {H : Hp} : ∀ xs : List Str, DpAll K H (xs.map V.str) (xs.map tS)
  | [] => .nil
  | x :: xs => .cons (.str x) (strs_dps xs)

section
variable {X : Cx}
/-! ### set(list of texts), and that put in order -/
def setO (P : Program) (w : World) (a : Addr) (xs : List Str) : HO := .ext fun h => SetX P w h a xs
theorem setO_ok {P : Program} {w : World} {H : Hp} {h : Heap} {a : Addr} {xs : List Str} (R : SetX P w h a xs) : ObjOk P w H h a (setO P w a xs) := by
  have ⟨o, _, _, _, ho, _⟩ := R
  exact ⟨R, ⟨o, ho⟩, fun h1 h2 p k => SetX.at p k⟩
def rSet (K : PySem.W.Frag) (P : Program) (w : World) : List V → Hp → VK → Prop := fun vs H Q => ∃ (l : Addr) (xs : List Str), vs = [.ref l] ∧ SqL K H l (xs.map V.str) ∧ xs.length < 64 ∧ ∀ p, H p = none → Q (.ref p) (upd H p (setO P w p xs))
theorem cr_setS (hc : X.calm = true) : CallR X (.type "set") (rSet X.K X.prog X.w) := by
  intro pins s σ H vs us Q I r h
  obtain ⟨l, xs, rfl, hs, hl, q⟩ := h
  obtain ⟨its, rv, pl, _⟩ := I.list hs
  rw [Vals.ref1 r]
  refine set_of_texts xs (I.ok.hd hc) pl.isList (Vals.strs (us := its) rv) (by unfold scanBound; omega) fun h' tk hS k => ?_
  exact ⟨.ref s.heap.objs.size, upd H s.heap.objs.size (setO X.prog X.w s.heap.objs.size xs), I.laid (t' := tk) k (Nat.le_refl _) (setO_ok hS), rfl, q _ (I.hok.fresh (Nat.le_refl _))⟩
def rSortSet (P : Program) (w : World) : List V → Hp → VK → Prop := fun vs H Q => ∃ (a : Addr) (xs : List Str), vs = [.ref a] ∧ H a = some (setO P w a xs) ∧ xs.length < 64 ∧ ∀ p, H p = none → Q (.ref p) (upd H p (.lst ((sset xs).map V.str)))
theorem cr_sortSet (hc : X.calm = true) : CallR X (.builtin "sorted") (rSortSet X.prog X.w) := by
  intro pins s σ H vs us Q I r h
  obtain ⟨a, xs, rfl, ha, hl, q⟩ := h
  rw [Vals.ref1 r]
  refine sort_of_set (I.hok a _ ha).1 (I.ok.hd hc) hl fun s' p out c ys k g o hp hat hS h1 h2 h3 => ?_
  obtain rfl := sset_uniq h1 h2 h3
  obtain ⟨h', g', d', t', o'⟩ := s'
  obtain rfl : g' = s.gens := g
  obtain rfl : o' = s.os := o
  have lenB : ((sset xs).map V.str).length ≤ sizeLine := by
    rw [List.length_map, sizeLine_eq]
    have := List.Nodup.length_le_of_subset (sset_nodup xs) (fun x hx => mem_sset.mp hx : (sset xs) ⊆ xs)
    omega
  have pn : H p = none := I.hok.fresh hp
  refine ⟨.ref p, upd H p (.lst ((sset xs).map V.str)), I.step (g' := s.gens) (d' := d') (ch := []) (fun _ z => nomatch z) (fun b o _ _ _ e _ => k b o e) (fun b o _ _ _ e _ => ⟨o.slots, k b o e⟩) (fun b o _ e n => ?_) (fun b o _ e => ⟨o, k b o e⟩)
    (fun b ys e => ?_) (fun b o u e => ?_) (fun b ps e => ⟨#[], ?_⟩) (fun m hm => ?_) (I.hok.laid k hp ⟨lenB, out.toList, c, vals_of_strs hS, hat⟩) I.bare, rfl, q p pn⟩
  · rw [upd_ne (Nat.ne_of_lt (Nat.lt_of_lt_of_le (Heap.lt_size e) hp))]; exact n
  · rw [upd_ne (ne_of_none e pn)]; exact e
  · rw [upd_ne (ne_of_none e pn)]; exact e
  · rw [upd_ne (ne_of_none e pn), e]; simp
  · obtain ⟨o, es, ep, ho, r⟩ := hm
    exact ⟨o, es, ep, k _ o ho, r⟩
end
end Fd
end

/-! part FdD -/
section
set_option Elab.async false
set_option linter.all false
set_option maxRecDepth 100000
set_option maxHeartbeats 1000000
namespace Fd
open PySem PySem.Spec PyProof.Rows L2
section
variable {X : Cx} {ρ ρ1 ρ2 ρ3 : List En} {a b c e : Expr} {es : List Expr} {pos p p2 : Pos} {ra rb rz r : Im} {rs : List Im}
/-! ### arguments -/
theorem ad_nil : AD X [] ρ ρ [] := fun F B0 B H σ E Q q => wA.of pa_nil (q [] B H E (Same.refl B) .nil)
theorem ad_cons (h : ED X e ρ ρ1 r) (t : AD X es ρ1 ρ2 rs) (hs : starEach (e :: es) X.env = (false, eval e X.env) :: starEach es X.env := by rfl) : AD X (e :: es) ρ ρ2 (r :: rs) := by
  intro F B0 B H σ E Q q
  refine wA.of (pa_cons pe_w pa_w hs) ?_
  exact h F B0 B H σ E _ fun v B1 H1 E1 b1 ok1 => t F B0 B1 H1 σ E1 _ fun vs B2 H2 E2 b2 ok2 => q _ B2 H2 E2 (b1.trans b2) (.cons (r.mono b2 ok1) ok2)
theorem ad_one (h : ED X e ρ ρ1 r) (hs : starEach [e] X.env = (false, eval e X.env) :: starEach [] X.env := by rfl) : AD X [e] ρ ρ1 [r] := ad_cons h ad_nil hs
/-- .. that are data -/
def DD (X : Cx) (es : List Expr) (ρ ρ' : List En) (ds : List PyData) : Prop := AD X es ρ ρ' (ds.map dat)
theorem dd_nil : DD X [] ρ ρ [] := ad_nil
theorem dd_cons {d : PyData} {ds : List PyData} (h : ED X e ρ ρ1 (dat d)) (t : DD X es ρ1 ρ2 ds) (hs : starEach (e :: es) X.env = (false, eval e X.env) :: starEach es X.env := by rfl) : DD X (e :: es) ρ ρ2 (d :: ds) := ad_cons h t hs
theorem ims_dps {K : PySem.W.Frag} {B : Hp} : ∀ {vs : List V} {ds : List PyData}, Ims K B vs (ds.map dat) → DpAll K B vs ds
  | _, [], h => by cases h; exact .nil
  | _, d :: ds, h => by
    cases h with
    | cons h1 h2 => exact .cons h1 (ims_dps h2)
theorem ed_tup {ds : List PyData} {x1 : Nat} (h : DD X es ρ ρ1 ds) (hl : ds.length ≤ 1000 := by decide) : ED X (.Tuple es x1 pos) ρ ρ1 (dat (.tuple ds)) := by
  intro F B0 B H σ E Q q
  refine wE.of (pe_tup pa_w) (h F B0 B H σ E _ fun vs B1 H1 E1 b1 ok1 => ?_)
  have d1 := ims_dps ok1
  refine ⟨Nat.le_of_lt (small1000 (by rw [dps_len d1]; exact hl)), fun l hl => ?_⟩
  have g := Grow.new (o := .tup vs) E1.bH hl
  exact q _ _ _ (E1.grow g) (b1.trans g.bb) (.tup (.inl (.inl upd_same)) (dps_mono g.bb _ _ d1))
theorem ed_lst {ds : List PyData} (h : DD X es ρ ρ1 ds) (hl : ds.length ≤ 1000 := by decide) : ED X (.List es pos) ρ ρ1 (dat (.list ds)) := by
  intro F B0 B H σ E Q q
  refine wE.of (pe_lst pa_w) (h F B0 B H σ E _ fun vs B1 H1 E1 b1 ok1 => ?_)
  have d1 := ims_dps ok1
  refine ⟨Nat.le_of_lt (small1000 (by rw [dps_len d1]; exact hl)), fun l hl => ?_⟩
  have g := Grow.new (o := .lst vs) E1.bH hl
  exact q _ _ _ (E1.grow g) (b1.trans g.bb) (.lst (.inl (.inl upd_same)) (dps_mono g.bb _ _ d1))
/-! ### calls of built-ins -/
theorem ed_callB {x : Str} {id : String} {rc : List V → Hp → VK → Prop} (hc : CallR X (.builtin id) rc) (ha : AD X (e :: es) ρ ρ1 rs) (hr : RCD X.K rc rs rz) (hm : X.mg x = none) (hv : bootBuiltins x = some (.builtin id)) (hg : Gl X x := by rfl) (hn : x ≠ "__name__" := by decide)
    (hdb : (x == ("__debug__" : Str)) = false := by decide) (he : starEach (e :: es) X.env = (false, eval e X.env) :: starEach es X.env := by rfl) (hpl : (backTo pos (starEach es X.env)).any (·.1) = false := by rfl) : ED X (.Call (.Name x p) (e :: es) [] pos) ρ ρ1 rz := by
  intro F B0 B H σ E Q q
  refine wE.of (pe_callB hc hg hm hv pa_w hn hdb he hpl) (ha F B0 B H σ E _ fun vs B1 H1 E1 b1 ok1 => ?_)
  exact hr B1 H1 vs E1.bH ok1 Q fun v B2 H2 g ok2 => q v B2 H2 (E1.grow g) (b1.trans g.bb) ok2
theorem ed_callT {x : Str} {T : String} {rc : List V → Hp → VK → Prop} (hc : CallR X (.type T) rc) (ha : AD X (e :: es) ρ ρ1 rs) (hr : RCD X.K rc rs rz) (hm : X.mg x = none) (hv : bootBuiltins x = some (.type T)) (hg : Gl X x := by rfl) (hn : x ≠ "__name__" := by decide)
    (hdb : (x == ("__debug__" : Str)) = false := by decide) (he : starEach (e :: es) X.env = (false, eval e X.env) :: starEach es X.env := by rfl) (hpl : (backTo pos (starEach es X.env)).any (·.1) = false := by rfl) : ED X (.Call (.Name x p) (e :: es) [] pos) ρ ρ1 rz := by
  intro F B0 B H σ E Q q
  refine wE.of (pe_callTy hc hg hm hv pa_w hn hdb he hpl) (ha F B0 B H σ E _ fun vs B1 H1 E1 b1 ok1 => ?_)
  exact hr B1 H1 vs E1.bH ok1 Q fun v B2 H2 g ok2 => q v B2 H2 (E1.grow g) (b1.trans g.bb) ok2
theorem ims1 {K : PySem.W.Frag} {B : Hp} {vs : List V} (h : Ims K B vs [r]) : ∃ v, vs = [v] ∧ r.ok K B v := by
  cases h with
  | cons h1 h2 => cases h2; exact ⟨_, rfl, h1⟩
theorem ims2 {K : PySem.W.Frag} {B : Hp} {vs : List V} (h : Ims K B vs [ra, rb]) : ∃ u v, vs = [u, v] ∧ ra.ok K B u ∧ rb.ok K B v := by
  cases h with
  | cons h1 h2 =>
    obtain ⟨v, rfl, h3⟩ := ims1 h2
    exact ⟨_, v, rfl, h1, h3⟩
theorem ed_lenL {ds : List PyData} (h : ED X e ρ ρ1 (dat (.list ds))) (hm : X.mg "len" = none) (hg : Gl X "len" := by rfl) (he : starEach [e] X.env = (false, eval e X.env) :: starEach [] X.env := by rfl) : ED X (.Call (.Name "len" p) [e] [] pos) ρ ρ1 (dat (.int ds.length)) :=
  ed_callB call_len (ad_one h he) (fun B H vs bh ok Q q => by
    obtain ⟨v, rfl, k1⟩ := ims1 ok
    clear ok
    cases k1 with
    | lst h1 h2 => exact ⟨_, _, rfl, .inl ⟨_, bh.seq h1, rfl⟩, by rw [dps_len h2]; exact q _ B H (Grow.refl bh) (.int _)⟩) hm PySem.boot_len hg (by decide) (by decide) he
theorem ed_lenT {ds : List PyData} (h : ED X e ρ ρ1 (dat (.tuple ds))) (hm : X.mg "len" = none) (hg : Gl X "len" := by rfl) (he : starEach [e] X.env = (false, eval e X.env) :: starEach [] X.env := by rfl) : ED X (.Call (.Name "len" p) [e] [] pos) ρ ρ1 (dat (.int ds.length)) :=
  ed_callB call_len (ad_one h he) (fun B H vs bh ok Q q => by
    obtain ⟨v, rfl, k1⟩ := ims1 ok
    clear ok
    cases k1 with
    | tup h1 h2 => exact ⟨_, _, rfl, .inr ⟨_, same_sqT bh h1, rfl⟩, by rw [dps_len h2]; exact q _ B H (Grow.refl bh) (.int _)⟩) hm PySem.boot_len hg (by decide) (by decide) he
theorem ed_int1 {i : Int} (h : ED X e ρ ρ1 (dat (.int i))) (hm : X.mg "int" = none) (hg : Gl X "int" := by rfl) (he : starEach [e] X.env = (false, eval e X.env) :: starEach [] X.env := by rfl) : ED X (.Call (.Name "int" p) [e] [] pos) ρ ρ1 (dat (.int i)) :=
  ed_callT call_int1 (ad_one h he) (fun B H vs bh ok Q q => by
    obtain ⟨v, rfl, k1⟩ := ims1 ok
    clear ok
    cases k1
    exact .inl ⟨i, rfl, q _ B H (Grow.refl bh) (.int _)⟩) hm (by decide +kernel) hg (by decide) (by decide) he
theorem ed_intB {i : Bool} (h : ED X e ρ ρ1 (dat (.bool i))) (hm : X.mg "int" = none) (hg : Gl X "int" := by rfl) (he : starEach [e] X.env = (false, eval e X.env) :: starEach [] X.env := by rfl) : ED X (.Call (.Name "int" p) [e] [] pos) ρ ρ1 (dat (.int (if i then 1 else 0))) :=
  ed_callT call_int1 (ad_one h he) (fun B H vs bh ok Q q => by
    obtain ⟨v, rfl, k1⟩ := ims1 ok
    clear ok
    cases k1
    exact .inr ⟨i, rfl, q _ B H (Grow.refl bh) (.int _)⟩) hm (by decide +kernel) hg (by decide) (by decide) he
theorem ed_strI {i : Int} (h : ED X e ρ ρ1 (dat (.int i))) (hi : i.natAbs.log2 < 1920) (hm : X.mg "str" = none) (hg : Gl X "str" := by rfl) (he : starEach [e] X.env = (false, eval e X.env) :: starEach [] X.env := by rfl) : ED X (.Call (.Name "str" p) [e] [] pos) ρ ρ1 (dat (.str (toString i))) :=
  ed_callT call_str_int (ad_one h he) (fun B H vs bh ok Q q => by
    obtain ⟨v, rfl, k1⟩ := ims1 ok
    clear ok
    cases k1
    exact ⟨i, rfl, hi, q _ B H (Grow.refl bh) (.str _)⟩) hm (by decide +kernel) hg (by decide) (by decide) he
/-- list(..), tuple(..) of lists and tuples -/
theorem ed_listL {ds : List PyData} (h : ED X e ρ ρ1 (dat (.list ds))) (hm : X.mg "list" = none) (hg : Gl X "list" := by rfl) (he : starEach [e] X.env = (false, eval e X.env) :: starEach [] X.env := by rfl) : ED X (.Call (.Name "list" p) [e] [] pos) ρ ρ1 (dat (.list ds)) :=
  ed_callT call_list_of (ad_one h he) (fun B H vs bh ok Q q => by
    obtain ⟨v, rfl, k1⟩ := ims1 ok
    clear ok
    cases k1 with
    | lst h1 h2 => exact ⟨_, _, rfl, .inl (bh.seq h1), fun l hl => q _ _ _ (Grow.new bh hl) (.lst (.inl (.inl upd_same)) (dps_mono (Grow.new (o := .lst _) bh hl).bb _ _ h2))⟩) hm (by decide +kernel) hg (by decide) (by decide) he
theorem ed_listT {ds : List PyData} (h : ED X e ρ ρ1 (dat (.tuple ds))) (hm : X.mg "list" = none) (hg : Gl X "list" := by rfl) (he : starEach [e] X.env = (false, eval e X.env) :: starEach [] X.env := by rfl) : ED X (.Call (.Name "list" p) [e] [] pos) ρ ρ1 (dat (.list ds)) :=
  ed_callT call_list_of (ad_one h he) (fun B H vs bh ok Q q => by
    obtain ⟨v, rfl, k1⟩ := ims1 ok
    clear ok
    cases k1 with
    | tup h1 h2 => exact ⟨_, _, rfl, .inr (same_sqT bh h1), fun l hl => q _ _ _ (Grow.new bh hl) (.lst (.inl (.inl upd_same)) (dps_mono (Grow.new (o := .lst _) bh hl).bb _ _ h2))⟩) hm (by decide +kernel) hg (by decide) (by decide) he
theorem ed_tupL {ds : List PyData} (h : ED X e ρ ρ1 (dat (.list ds))) (hm : X.mg "tuple" = none) (hg : Gl X "tuple" := by rfl) (he : starEach [e] X.env = (false, eval e X.env) :: starEach [] X.env := by rfl) : ED X (.Call (.Name "tuple" p) [e] [] pos) ρ ρ1 (dat (.tuple ds)) :=
  ed_callT call_tuple_of (ad_one h he) (fun B H vs bh ok Q q => by
    obtain ⟨v, rfl, k1⟩ := ims1 ok
    clear ok
    cases k1 with
    | lst h1 h2 => exact ⟨_, _, rfl, .inl ⟨bh.seq h1, fun l hl => q _ _ _ (Grow.new bh hl) (.tup (.inl (.inl upd_same)) (dps_mono (Grow.new (o := .tup _) bh hl).bb _ _ h2))⟩⟩) hm (by decide +kernel) hg (by decide) (by decide) he
/-! ### in order -/
def stI (P : Program) (w : World) (xs : List Str) : Im := ⟨fun K H v => ∃ a, v = .ref a ∧ H a = some (setO P w a xs), fun {_ _ _ _} e ⟨a, h1, h2⟩ => ⟨a, h1, e _ _ h2⟩⟩
theorem ed_set {xs : List Str} (h : ED X e ρ ρ1 (dat (.list (xs.map tS)))) (hl : xs.length < 64) (hc : X.calm = true) (hm : X.mg "set" = none) (hg : Gl X "set" := by rfl) (he : starEach [e] X.env = (false, eval e X.env) :: starEach [] X.env := by rfl) : ED X (.Call (.Name "set" p) [e] [] pos) ρ ρ1 (stI X.prog X.w xs) :=
  ed_callT (cr_setS hc) (ad_one h he) (fun B H vs bh ok Q q => by
    obtain ⟨v, rfl, k1⟩ := ims1 ok
    clear ok
    cases k1 with
    | lst h1 h2 => exact ⟨_, xs, rfl, by rw [← dps_strs h2]; exact bh.seq h1, hl, fun l hl => q _ _ _ (Grow.new bh hl) ⟨l, rfl, upd_same⟩⟩) hm (by decide +kernel) hg (by decide) (by decide) he
theorem ed_sortedSet {xs : List Str} (h : ED X e ρ ρ1 (stI X.prog X.w xs)) (hl : xs.length < 64) (hc : X.calm = true) (hm : X.mg "sorted" = none) (hg : Gl X "sorted" := by rfl) (he : starEach [e] X.env = (false, eval e X.env) :: starEach [] X.env := by rfl) : ED X (.Call (.Name "sorted" p) [e] [] pos) ρ ρ1 (dat (.list ((sset xs).map tS))) :=
  ed_callB (cr_sortSet hc) (ad_one h he) (fun B H vs bh ok Q q => by
    obtain ⟨v, rfl, a, rfl, ha⟩ := ims1 ok
    exact ⟨a, xs, rfl, bh _ _ ha, hl, fun l hl => q _ _ _ (Grow.new bh hl) (.lst (.inl (.inl upd_same)) (strs_dps _))⟩) hm (by decide +kernel) hg (by decide) (by decide) he
/-- sorted(list of data) -/
theorem dp_each {B H : Hp} (bh : Same B H) {pins : List (Addr × Obj)} {σ : Sl} {s : Shared} (I : Inv X pins σ H s) {β : Type} (enc : β → PyData) : ∀ (bs : List β) (xs : List V) (us : List Value), DpAll X.K B xs (bs.map enc) → Vals xs us →
    PySem.W.EachIs (fun u b => ∃ x, RelV x u ∧ Dp X.K B x (enc b)) us bs ∧ PySem.W.EachIs (fun u b => ∃ as, Reads s.heap u (enc b) as) us bs
  | [], _, _, h, r => by cases h; cases r; exact ⟨.nil, .nil⟩
  | b :: bs, _, _, h, r => by
    cases h with
    | cons h1 h2 =>
      cases r with
      | cons r1 r2 =>
        obtain ⟨e1, e2⟩ := dp_each bh I enc bs _ _ h2 r2
        exact ⟨.cons ⟨_, r1, h1⟩ e1, .cons (Dp.reads I _ _ _ (dp_mono bh _ _ h1) r1) e2⟩
theorem each_dp {K : PySem.W.Frag} {H : Hp} {β : Type} (enc : β → PyData) : ∀ (bs : List β) (us : List Value), PySem.W.EachIs (fun u b => ∃ x, RelV x u ∧ Dp K H x (enc b)) us bs → ∃ xs, Vals xs us ∧ DpAll K H xs (bs.map enc)
  | [], _, h => by cases h; exact ⟨[], .nil, .nil⟩
  | b :: bs, _, h => by
    cases h with
    | cons h1 h2 =>
      obtain ⟨x, rx, dx⟩ := h1
      obtain ⟨xs, rs, ds⟩ := each_dp enc bs _ h2
      exact ⟨x :: xs, .cons rx rs, .cons dx ds⟩
def rSortD (K : PySem.W.Frag) {β : Type} (enc : β → PyData) (bs : List β) : List V → Hp → VK → Prop := fun vs H Q => ∃ (a : Addr) (xs : List V) (B : Hp), vs = [.ref a] ∧ SqL K H a xs ∧ Same B H ∧ DpAll K B xs (bs.map enc) ∧
  ∀ (ys : List V) (p : Addr), DpAll K B ys ((bs.mergeSort (PySem.W.dataLe false enc)).map enc) → H p = none → Q (.ref p) (upd H p (.lst ys))
theorem cr_sortD {β : Type} {enc : β → PyData} {bs : List β} (ha : PySem.W.AllAlike (bs.map enc)) (hk : PySem.W.Sortable (bs.map enc)) (hz : bs.length ≤ 1000) (hd : ∀ b ∈ bs, X.A.units + 2 + (enc b).depth < cLine) : CallR X (.builtin "sorted") (rSortD X.K enc bs) := by
  intro pins s σ H vs us Q I r h
  obtain ⟨a, xs, B, rfl, hs, bh, hx, q⟩ := h
  obtain ⟨its, rv, pl, _⟩ := I.list hs
  rw [Vals.ref1 r]
  obtain ⟨e1, e2⟩ := dp_each bh I enc bs xs its hx rv
  refine PySem.W.sorted_data pl.isList e1 e2 ha hk (Nat.le_of_lt (small1000 hz)) hd fun out ho eo => ?_
  obtain ⟨ys, ry, dy⟩ := each_dp enc _ _ eo
  obtain ⟨ep, he'⟩ := PyProof.Rows.sortedAll_at s.heap its out.toArray
  have hlen : ys.length ≤ sizeLine := by rw [ry.length, ho]; exact Nat.le_of_lt (small1000 hz)
  exact ⟨.ref _, upd H (s.heap.objs.size + 1) (.lst ys), I.laid (t' := s.toks) (fun _ _ => PyProof.Rows.sortedAll_old) (Nat.le_succ _) ⟨hlen, out, ep, ry, he'⟩, rfl, q ys _ dy (I.hok.fresh (Nat.le_succ _))⟩
theorem ed_sortD {β : Type} (enc : β → PyData) {bs : List β} (h : ED X e ρ ρ1 (dat (.list (bs.map enc)))) (ha : PySem.W.AllAlike (bs.map enc)) (hk : PySem.W.Sortable (bs.map enc)) (hz : bs.length ≤ 1000) (hd : ∀ b ∈ bs, X.A.units + 2 + (enc b).depth < cLine)
    (hm : X.mg "sorted" = none) (hg : Gl X "sorted" := by rfl) (he : starEach [e] X.env = (false, eval e X.env) :: starEach [] X.env := by rfl) : ED X (.Call (.Name "sorted" p) [e] [] pos) ρ ρ1 (dat (.list ((bs.mergeSort (PySem.W.dataLe false enc)).map enc))) :=
  ed_callB (cr_sortD ha hk hz hd) (ad_one h he) (fun B H vs bh ok Q q => by
    obtain ⟨v, rfl, k1⟩ := ims1 ok
    clear ok
    cases k1 with
    | lst h1 h2 => exact ⟨_, _, B, rfl, bh.seq h1, bh, h2, fun ys l hy hl => q _ _ _ (Grow.new bh hl) (.lst (.inl (.inl upd_same)) (dps_mono (Grow.new (o := .lst ys) bh hl).bb _ _ hy))⟩) hm (by decide +kernel) hg (by decide) (by decide) he
end
end Fd
end

/-! part FdE -/
section
set_option Elab.async false
set_option linter.all false
set_option maxRecDepth 100000
set_option maxHeartbeats 1000000
namespace Fd
open PySem PySem.Spec PyProof.Rows L2

/-! ### own objects change, or stay from now on -/
section
variable {K : PySem.W.Frag} {F B0 B H : Hp} {σ : Sl} {ρ : List En}
theorem Nv.own (E : Nv K F B0 B H σ ρ) {j : Nat} {m : Mu} (h : ρ[j]? = some (.mu m)) : ∃ p o, σ[j]? = some (some (.ref p)) ∧ B p = none ∧ F p = none ∧ H p = some o ∧ m.ok K B p o := by
  obtain ⟨v, e, p, o, rfl, h1, h2, h3, h4⟩ := E.ent j _ h (by simp)
  exact ⟨p, o, e, h1, h2, h3, h4⟩
theorem lt_of_get {α : Type} {l : List α} {i : Nat} {x : α} (h : l[i]? = some x) : i < l.length := (List.getElem?_eq_some_iff.mp h).1
/-- an own object is changed -/
theorem Nv.change (E : Nv K F B0 B H σ ρ) {j : Nat} {m m' : Mu} {p : Addr} {o' : HO} (h : ρ[j]? = some (.mu m)) (hp : σ[j]? = some (some (.ref p))) (ok : m'.ok K B p o') : Nv K F B0 B (upd H p o') σ (ρ.set j (.mu m')) := by
  obtain ⟨p', o, e, b1, f1, h1, _⟩ := E.own h
  rw [hp] at e
  cases e
  refine ⟨same_mut E.fH f1, same_mut E.bH b1, E.b0, E.fr, by rw [List.length_set, E.len], fun i r q hn => ?_, fun i k v r r' q1 q2 q3 q4 m1 m2 => ?_, E.fz⟩
  · rcases get_set q with ⟨e, rfl⟩ | ⟨ne, q'⟩
    · subst e
      exact ⟨.ref p, hp, p, o', rfl, b1, f1, upd_same, ok⟩
    · obtain ⟨v, e, okv⟩ := E.ent i r q' hn
      refine ⟨v, e, ?_⟩
      cases r with
      | no => exact True.intro
      | im r => exact okv
      | mu m2 =>
        obtain ⟨p2, o2, rfl, a1, a2, a3, a4⟩ := okv
        have np : p2 ≠ p := fun z => by
          subst z
          exact ne (E.ap j i _ _ _ hp e h q' rfl rfl)
        exact ⟨p2, o2, rfl, a1, a2, by rw [upd_ne np]; exact a3, a4⟩
  · have back : ∀ (i : Nat) (r : En), (ρ.set j (.mu m'))[i]? = some r → r.isMu = true → ∃ r0, ρ[i]? = some r0 ∧ r0.isMu = true := fun i r q mm => by
      rcases get_set q with ⟨e, _⟩ | ⟨_, q'⟩
      · exact ⟨_, by rw [← e]; exact h, rfl⟩
      · exact ⟨r, q', mm⟩
    obtain ⟨r0, a1, a2⟩ := back i r q3 m1
    obtain ⟨r1, c1, c2⟩ := back k r' q4 m2
    exact E.ap i k v r0 r1 q1 q2 a1 c1 a2 c2
/-- an own object stays from now on -/
theorem Nv.freeze (E : Nv K F B0 B H σ ρ) {j : Nat} {m : Mu} {r : Im} (h : ρ[j]? = some (.mu m)) (k : ∀ B p o, B p = some o → m.ok K B p o → r.ok K B (.ref p)) : ∃ B', Same B B' ∧ Nv K F B0 B' H σ (ρ.set j (.im r)) := by
  obtain ⟨p, o, e, b1, f1, h1, ok⟩ := E.own h
  have bb : Same B (upd B p o) := same_upd b1
  refine ⟨upd B p o, bb, E.fH, fun b x q => ?_, E.b0.trans bb, fun a z => ?_, by rw [List.length_set, E.len], fun i r' q hn => ?_, fun i k v r1 r2 q1 q2 q3 q4 m1 m2 => ?_, E.fz⟩
  · by_cases hb : b = p
    · subst hb; rw [upd_same] at q; cases q; exact h1
    · rw [upd_ne hb] at q; exact E.bH b x q
  · by_cases hb : a = p
    · subst hb; exact .inr f1
    · rw [upd_ne hb] at z; exact E.fr a z
  · rcases get_set q with ⟨e', rfl⟩ | ⟨ne, q'⟩
    · subst e'
      exact ⟨.ref p, e, k _ p o upd_same (m.mono bb ok)⟩
    · obtain ⟨v, e2, okv⟩ := E.ent i r' q' hn
      refine ⟨v, e2, ?_⟩
      cases r' with
      | no => exact True.intro
      | im r' => exact r'.mono bb okv
      | mu m2 =>
        obtain ⟨p2, o2, rfl, a1, a2, a3, a4⟩ := okv
        have np : p2 ≠ p := fun z => by
          subst z
          exact ne (E.ap j i _ _ _ e e2 h q' rfl rfl)
        exact ⟨p2, o2, rfl, by rw [upd_ne np]; exact a1, a2, a3, m2.mono bb a4⟩
  · rcases get_set q3 with ⟨e', rfl⟩ | ⟨_, q3'⟩
    · cases m1
    rcases get_set q4 with ⟨e', rfl⟩ | ⟨_, q4'⟩
    · cases m2
    exact E.ap i k v r1 r2 q1 q2 q3' q4' m1 m2
/-- a slot gets a new own object -/
theorem Nv.newOwn (E : Nv K F B0 B H σ ρ) {j : Nat} {m : Mu} {p : Addr} {o : HO} (hp : H p = none) (ok : m.ok K B p o) : Nv K F B0 B (upd H p o) (σ.set j (some (.ref p))) (ρ.set j (.mu m)) := by
  have b1 : B p = none := E.bH.free hp
  have f1 : F p = none := E.fH.free hp
  refine ⟨same_mut E.fH f1, same_mut E.bH b1, E.b0, E.fr, by rw [List.length_set, List.length_set, E.len], fun i r q hn => ?_, fun i k v r r' q1 q2 q3 q4 m1 m2 => ?_, E.fz⟩
  · rcases get_set q with ⟨e, rfl⟩ | ⟨ne, q'⟩
    · subst e
      have hl : j < σ.length := by
        have := lt_of_get q
        rw [List.length_set, E.len] at this
        exact this
      exact ⟨.ref p, List.getElem?_set_self hl, p, o, rfl, b1, f1, upd_same, ok⟩
    · obtain ⟨v, e, okv⟩ := E.ent i r q' hn
      refine ⟨v, by rw [List.getElem?_set_ne ne]; exact e, ?_⟩
      cases r with
      | no => exact True.intro
      | im r => exact okv
      | mu m2 =>
        obtain ⟨p2, o2, rfl, a1, a2, a3, a4⟩ := okv
        exact ⟨p2, o2, rfl, a1, a2, by rw [upd_ne (ne_of_none a3 hp)]; exact a3, a4⟩
  · have old : ∀ (i : Nat) (v : V) (r : En), j ≠ i → ρ[i]? = some r → r.isMu = true → (σ.set j (some (.ref p)))[i]? = some (some v) → v ≠ .ref p := fun i v r ne q mm hv z => by
      rw [List.getElem?_set_ne ne] at hv
      cases r with
      | no => cases mm
      | im _ => cases mm
      | mu m2 =>
        obtain ⟨p2, o2, e2, _, _, a3, _⟩ := E.own q
        rw [hv, z] at e2
        cases e2
        rw [hp] at a3
        cases a3
    rcases get_set q3 with ⟨e, _⟩ | ⟨ne, q3'⟩
    · rcases get_set q4 with ⟨e', _⟩ | ⟨ne', q4'⟩
      · exact e.symm.trans e'
      · subst e
        have hl : j < σ.length := by
          have := lt_of_get q3
          rw [List.length_set, E.len] at this
          exact this
        rw [List.getElem?_set_self hl] at q1
        cases q1
        exact absurd rfl (old k _ r' ne' q4' m2 q2)
    · rcases get_set q4 with ⟨e', _⟩ | ⟨ne', q4'⟩
      · subst e'
        have hl : j < σ.length := by
          have := lt_of_get q4
          rw [List.length_set, E.len] at this
          exact this
        rw [List.getElem?_set_self hl] at q2
        cases q2
        exact absurd rfl (old i _ r ne q3' m1 q1)
      · rw [List.getElem?_set_ne ne] at q1
        rw [List.getElem?_set_ne ne'] at q2
        exact E.ap i k v r r' q1 q2 q3' q4' m1 m2
end

/-! ### targets -/
section
variable {X : Cx} {ρ ρ1 ρ2 ρ3 : List En} {r r1 r2 : Im} {pos : Pos}
theorem gd_name {x : Str} (i : Nat) (hN : X.N.Nodup) (hi : X.N[i]? = some x := by rfl) (hx : Loc X.env.scope x := by first | exact Or.inl rfl | exact Or.inr rfl) (hf : X.fn x = true ∨ X.env.scope.names.lookup x = some .local := by first | exact .inl rfl | exact .inr rfl) : GD X (.Name x pos) r ρ (ρ.set i (.im r)) :=
  ⟨gName i, pg_name hN hi hx hf, fun F B0 B H σ v E ok Q q => q _ (E.set ok)⟩
inductive GDs (X : Cx) : List Expr → List PyData → List En → List En → TGs → Prop
  | nil {ρ : List En} : GDs X [] [] ρ ρ gNil
  | cons {e : Expr} {es : List Expr} {d : PyData} {ds : List PyData} {ρ ρ1 ρ2 : List En} {g : TG} {gs : TGs} : PG X e g → (∀ (F B0 B H : Hp) (σ : Sl) (v : V), Nv X.K F B0 B H σ ρ → Dp X.K B v d → ∀ Q : Sl → Hp → Prop, (∀ σ', Nv X.K F B0 B H σ' ρ1 → Q σ' H) → g v σ H Q) →
      GDs X es ds ρ1 ρ2 gs → (assignEach (e :: es) X.env).map (·.2) = assign e X.env :: (assignEach es X.env).map (·.2) → GDs X (e :: es) (d :: ds) ρ ρ2 (gCons g gs)
theorem GDs.pg : ∀ {es : List Expr} {ds : List PyData} {ρ ρ' : List En} {gs : TGs}, GDs X es ds ρ ρ' gs → PGs X es gs
  | _, _, _, _, _, .nil => pgs_nil
  | _, _, _, _, _, .cons h _ t hs => pgs_cons h t.pg hs
theorem GDs.run : ∀ {es : List Expr} {ds : List PyData} {ρ ρ' : List En} {gs : TGs}, GDs X es ds ρ ρ' gs → ∀ (F B0 B H : Hp) (σ : Sl) (vs : List V), Nv X.K F B0 B H σ ρ → DpAll X.K B vs ds → ∀ Q : Sl → Hp → Prop, (∀ σ', Nv X.K F B0 B H σ' ρ' → Q σ' H) → gs vs σ H Q
  | _, _, _, _, _, .nil, F, B0, B, H, σ, vs, E, h, Q, q => by cases h; exact ⟨rfl, q σ E⟩
  | _, _, _, _, _, .cons h k t hs, F, B0, B, H, σ, vs, E, hd, Q, q => by
    cases hd with
    | cons h1 h2 => exact ⟨_, _, rfl, k F B0 B H σ _ E h1 _ fun σ' E' => t.run F B0 B H σ' _ E' h2 Q q⟩
theorem gds_name {x : Str} {es : List Expr} {d : PyData} {ds : List PyData} {gs : TGs} (i : Nat) (t : GDs X es ds (ρ.set i (.im (dat d))) ρ2 gs) (hN : X.N.Nodup) (hi : X.N[i]? = some x := by rfl) (hx : Loc X.env.scope x := by first | exact Or.inl rfl | exact Or.inr rfl) (hf : X.fn x = true ∨ X.env.scope.names.lookup x = some .local := by first | exact .inl rfl | exact .inr rfl)
    (hs : (assignEach (.Name x pos :: es) X.env).map (·.2) = assign (.Name x pos) X.env :: (assignEach es X.env).map (·.2) := by rfl) : GDs X (.Name x pos :: es) (d :: ds) ρ ρ2 (gCons (gName i) gs) :=
  .cons (pg_name hN hi hx hf) (fun F B0 B H σ v E ok Q q => q _ (E.set (r := dat d) ok)) t hs
theorem gd_tup {es : List Expr} {k : Nat} {ds : List PyData} {gs : TGs} (h : GDs X es ds ρ ρ1 gs) (hc : X.calm = true) (hn : (assignEach es X.env).length = ds.length := by rfl) (hst : (assignEach es X.env).findIdx? (·.1) = none := by rfl) : GD X (.Tuple es k pos) (dat (.tuple ds)) ρ ρ1 :=
  ⟨gTup X.K ds.length gs, pg_tup hc h.pg hn hst, fun F B0 B H σ v E ok Q q => by
    have ok : Dp X.K B v (.tuple ds) := ok
    cases ok with
    | tup h1 h2 => exact ⟨_, _, rfl, same_sqT E.bH h1, dps_len h2, h.run F B0 B H σ _ E h2 Q q⟩⟩
end

/-! ### blocks -/
section
variable {X : Cx} {ρ ρ1 ρ2 ρ3 : List En} {a b c e : Expr} {st : Stmt} {rest body orelse : List Stmt} {pos p p2 : Pos} {ra rb rz r : Im} {rs : List Im} {P : Post}
theorem Fits.seq {F B0 Bb : Hp} {D : Ends} (h : Fits X.K F B0 Bb P D) : Fits X.K F B0 Bb { P with nx := fun ρ' => SD X rest ρ' P } { D with nx := wSs X rest D } :=
  ⟨fun ρ σ B H s E e => s F B0 B H σ D E (h.mono e), h.rt, h.bk, h.ct⟩
theorem sd_nil (h : P.nx ρ) : SD X [] ρ P := fun F B0 B H σ D E f => wSs.of pss_nil (f.nx ρ σ B H h E (Same.refl B))
/-- a statement by its reading -/
theorem sd_of {t : TS} (hp : PS X st t) (h : ∀ (F B0 B H : Hp) (σ : Sl) (D : Ends), Nv X.K F B0 B H σ ρ → Fits X.K F B0 B { P with nx := fun ρ' => SD X rest ρ' P } D → t D σ H) : SD X (st :: rest) ρ P :=
  fun F B0 B H σ D E f => wSs.of (pss_cons hp pss_w) (h F B0 B H σ _ E f.seq)
theorem sd_ret (h : ED X e ρ ρ1 r) (k : P.rt ρ1 r) : SD X (.Return (some e) pos :: rest) ρ P :=
  sd_of (ps_ret pe_w) fun F B0 B H σ D E f => h F B0 B H σ E _ fun v B1 H1 E1 b1 ok1 => f.rt ρ1 r σ B1 H1 v k E1 b1 ok1
theorem sd_set {x : Str} {pos' : Pos} (i : Nat) (h : ED X e ρ ρ1 r) (k : SD X rest (ρ1.set i (.im r)) P) (hN : X.N.Nodup) (hi : X.N[i]? = some x := by rfl) (hx : Loc X.env.scope x := by first | exact Or.inl rfl | exact Or.inr rfl) (hs : swapsWith e (some (.Name x pos')) pos.line X.env = pure false := by rfl)
    (hf : X.fn x = true ∨ X.env.scope.names.lookup x = some .local := by first | exact .inl rfl | exact .inr rfl) : SD X (.Assign [.Name x pos'] e pos :: rest) ρ P :=
  sd_of (ps_set hN hi hx pe_w hs hf) fun F B0 B H σ D E f => h F B0 B H σ E _ fun v B1 H1 E1 b1 ok1 => f.nx _ _ B1 H1 k (E1.set ok1) b1
theorem sd_asg {tg : Expr} (h : ED X e ρ ρ1 r) (g : GD X tg r ρ1 ρ2) (k : SD X rest ρ2 P) (hs : swapsWithSole [tg] e pos.line X.env = pure false := by rfl) (hw : swappedStores [tg] e X.env = pure none := by rfl)
    (h1 : (assignEach [tg] X.env).map (·.2) = [assign tg X.env] := by rfl) : SD X (.Assign [tg] e pos :: rest) ρ P := by
  obtain ⟨g, pg, hg⟩ := g
  exact sd_of (ps_asg pe_w pg hs hw h1) fun F B0 B H σ D E f => h F B0 B H σ E _ fun v B1 H1 E1 b1 ok1 => hg F B0 B1 H1 σ v E1 ok1 _ fun σ' E2 => f.nx _ _ B1 H1 k E2 b1
theorem sd_drop (h : ED X e ρ ρ1 r) (k : SD X rest ρ1 P) (hs : swapsWith e none pos.line X.env = pure false := by rfl) : SD X (.Expr e pos :: rest) ρ P :=
  sd_of (ps_expr pe_w hs) fun F B0 B H σ D E f => h F B0 B H σ E _ fun v B1 H1 E1 b1 ok1 => f.nx _ _ B1 H1 k E1 b1
theorem sd_if {q : Bool} (h : TD X c ρ ρ1 q) (h1 : q = true → SD X body ρ1 { P with nx := fun ρ' => SD X rest ρ' P }) (h2 : q = false → SD X orelse ρ1 { P with nx := fun ρ' => SD X rest ρ' P }) : SD X (.If c body orelse pos :: rest) ρ P :=
  sd_of (ps_if pt_w pss_w pss_w) fun F B0 B H σ D E f => h F B0 B H σ E _ fun B1 H1 E1 b1 => by
    cases q with
    | true => exact h1 rfl F B0 B1 H1 σ D E1 (f.mono b1)
    | false => exact h2 rfl F B0 B1 H1 σ D E1 (f.mono b1)
theorem sd_brk (k : P.bk ρ) : SD X (.Break pos :: rest) ρ P := sd_of ps_break fun F B0 B H σ D E f => f.bk _ _ B H k E (Same.refl B)
theorem sd_cont (k : P.ct ρ) : SD X (.Continue pos :: rest) ρ P := sd_of ps_continue fun F B0 B H σ D E f => f.ct _ _ B H k E (Same.refl B)
theorem sd_pass (k : SD X rest ρ P) : SD X (.Pass pos :: rest) ρ P := sd_of ps_pass fun F B0 B H σ D E f => f.nx _ _ B H k E (Same.refl B)
theorem sd_mono {ss : List Stmt} {P P' : Post} (h : SD X ss ρ P) (n : ∀ ρ, P.nx ρ → P'.nx ρ) (t : ∀ ρ r, P.rt ρ r → P'.rt ρ r) (b : ∀ ρ, P.bk ρ → P'.bk ρ) (c : ∀ ρ, P.ct ρ → P'.ct ρ) : SD X ss ρ P' :=
  fun F B0 B H σ D E f => h F B0 B H σ D E ⟨fun ρ σ B H q => f.nx ρ σ B H (n _ q), fun ρ r σ B H v q => f.rt ρ r σ B H v (t _ _ q), fun ρ σ B H q => f.bk ρ σ B H (b _ q), fun ρ σ B H q => f.ct ρ σ B H (c _ q)⟩
/-- an own list, an own dict stays from now on -/
theorem sd_freeze {ss : List Stmt} (j : Nat) {m : Mu} (h : ρ[j]? = some (.mu m)) (k : ∀ K B p o, B p = some o → m.ok K B p o → r.ok K B (.ref p)) (n : SD X ss (ρ.set j (.im r)) P) : SD X ss ρ P := fun F B0 B H σ D E f => by
  obtain ⟨B', bb, E'⟩ := E.freeze h (k X.K)
  exact n F B0 B' H σ D E' (f.mono bb)
theorem mls_dat {ds : List PyData} : ∀ K B p o, B p = some o → (mls ds).ok K B p o → (dat (.list ds)).ok K B (.ref p) := fun K B p o h ⟨xs, e, d⟩ => by subst e; exact .lst (.inl (.inl h)) d
theorem mdc_dct {kvs : List (Str × PyData)} : ∀ K B p o, B p = some o → (mdc kvs).ok K B p o → (dct kvs).ok K B (.ref p) := fun K B p o h ⟨kv, e, d⟩ => by subst e; exact ⟨p, kv, rfl, .inl h, d⟩
/-- x = [], x = {} : an own object -/
theorem sd_newL {x : Str} {pos' : Pos} (i : Nat) (k : SD X rest (ρ.set i (.mu (mls []))) P) (hN : X.N.Nodup) (hi : X.N[i]? = some x := by rfl) (hx : Loc X.env.scope x := by first | exact Or.inl rfl | exact Or.inr rfl) (hs : swapsWith (.List [] p) (some (.Name x pos')) pos.line X.env = pure false := by rfl)
    (hf : X.fn x = true ∨ X.env.scope.names.lookup x = some .local := by first | exact .inl rfl | exact .inr rfl) : SD X (.Assign [.Name x pos'] (.List [] p) pos :: rest) ρ P :=
  sd_of (ps_set hN hi hx (pe_lst pa_nil) hs hf) fun F B0 B H σ D E f => ⟨Nat.zero_le _, fun l hl => f.nx _ _ B _ k (E.newOwn hl ⟨[], rfl, .nil⟩) (Same.refl B)⟩
theorem sd_newD {x : Str} {pos' : Pos} (i : Nat) (k : SD X rest (ρ.set i (.mu (mdc []))) P) (hN : X.N.Nodup) (hi : X.N[i]? = some x := by rfl) (hx : Loc X.env.scope x := by first | exact Or.inl rfl | exact Or.inr rfl) (hs : swapsWith (.Dict [] [] p) (some (.Name x pos')) pos.line X.env = pure false := by rfl)
    (hf : X.fn x = true ∨ X.env.scope.names.lookup x = some .local := by first | exact .inl rfl | exact .inr rfl) : SD X (.Assign [.Name x pos'] (.Dict [] [] p) pos :: rest) ρ P :=
  sd_of (ps_set hN hi hx pe_dnewK hs hf) fun F B0 B H σ D E f => fun l hl => f.nx _ _ B _ k (E.newOwn hl ⟨[], rfl, .nil⟩) (Same.refl B)
/-- n += e -/
theorem sd_augI {x : Str} {pos' : Pos} {n m : Int} (i : Nat) (hr : ρ[i]? = some (.im (dat (.int n)))) (h : ED X e ρ ρ (dat (.int m))) (k : SD X rest (ρ.set i (.im (dat (.int (n + m))))) P) (hN : X.N.Nodup) (hi : X.N[i]? = some x := by rfl) (hx : Loc X.env.scope x := by first | exact Or.inl rfl | exact Or.inr rfl)
    (hf : X.fn x = true ∨ X.env.scope.names.lookup x = some .local := by first | exact .inl rfl | exact .inr rfl) : SD X (.AugAssign (.Name x pos') .Add e pos :: rest) ρ P :=
  sd_of (ps_aug hN hi hx pe_w ip_add hf) fun F B0 B H σ D E f => by
    obtain ⟨v, hv, ok⟩ := E.im hr
    have ok : Dp X.K B v (.int n) := ok
    cases ok
    refine ⟨_, hv, h F B0 B H σ E _ fun u B1 H1 E1 b1 ok1 => ?_⟩
    have ok1 : Dp X.K B1 u (.int m) := ok1
    cases ok1
    exact ⟨n, m, rfl, rfl, f.nx _ _ B1 H1 k (E1.set (r := dat (.int (n + m))) (.int _)) b1⟩
/-- found.append(e) -/
theorem sd_append {x : Str} {px apos : Pos} {ds : List PyData} {d : PyData} (i : Nat) (hr : ρ[i]? = some (.mu (mls ds))) (h : ED X e ρ ρ1 (dat d)) (hr1 : ρ1[i]? = some (.mu (mls ds))) (hz : ds.length < 1000) (k : SD X rest (ρ1.set i (.mu (mls (ds ++ [d])))) P)
    (hN : X.N[i]? = some x := by rfl) (hv : Vis X.env.scope x := by first | exact Or.inl rfl | exact Or.inr (Or.inl rfl) | exact Or.inr (Or.inr rfl)) (hd : (x == ("__debug__" : Str)) = false := by decide) (hcd : (x == ("__classdict__" : Str)) = false := by decide)
    (hp : PE X (.Call (.Attribute (.Name x px) "append" apos) [e] [] p) (tBM X.K "list" rAppend (tVar i) (tCons (wE X e) tNil)) := by
      first | exact pe_bm PySem.F.plainAttrs_list PySem.F.slot_list_append PySem.F.type_list_append mt_append (pv _) (pa_cons pe_w pa_nil))
    (hs : swapsWith (.Call (.Attribute (.Name x px) "append" apos) [e] [] p) none pos.line X.env = pure false := by rfl) : SD X (.Expr (.Call (.Attribute (.Name x px) "append" apos) [e] [] p) pos :: rest) ρ P :=
  sd_of (ps_expr hp hs) fun F B0 B H σ D E f => by
    obtain ⟨q, o, hv, _, _, ho, xs, rfl, _⟩ := E.own hr
    refine ⟨_, hv, .inl ⟨rfl, _, .inl (.inl ho)⟩, h F B0 B H σ E _ fun v B1 H1 E1 b1 ok1 => ?_⟩
    obtain ⟨q', o', hv', _, _, ho', xs', rfl, dx⟩ := E1.own hr1
    rw [hv] at hv'
    cases hv'
    refine ⟨q, xs', v, rfl, rfl, ho', small1000 (by rw [dps_len dx]; omega), ?_⟩
    exact f.nx _ _ B1 _ k (E1.change hr1 hv ⟨_, rfl, dps_app dx (.cons ok1 .nil)⟩) b1
/-- for over a list of data, told by an invariant -/
theorem sd_for {tg iter : Expr} {ds : List PyData} (I : Nat → List En → Prop) (gb : Nat → List En → List En) (hi : ED X iter ρ ρ1 (dat (.list ds))) (h0 : I 0 ρ1) (hg : ∃ g, PG X tg g ∧ ∀ i d ρ', ds[i]? = some d → I i ρ' → ∀ (F B0 B H : Hp) (σ : Sl) (v : V), Nv X.K F B0 B H σ ρ' → Dp X.K B v d → ∀ Q : Sl → Hp → Prop, (∀ σ', Nv X.K F B0 B H σ' (gb i ρ') → Q σ' H) → g v σ H Q)
    (hs : ∀ i d ρ', ds[i]? = some d → I i ρ' → SD X body (gb i ρ') { P with nx := I (i + 1), ct := I (i + 1), bk := fun ρ' => SD X rest ρ' P }) (hd : ∀ ρ', I ds.length ρ' → SD X rest ρ' P)
    (hp : PassesOwn (model X.prog X.w) X.A X.env X.xe) (hc : X.calm = true) (hfs : ∀ x, foldedSetIterable iter X.env x = pure x := by intro _; rfl) : SD X (.For tg iter body [] pos :: rest) ρ P := by
  obtain ⟨g, pg, hg⟩ := hg
  refine sd_of (ps_for hp hc (pi_list pe_w) pg pss_w hfs) fun F B0 B H σ D E f => ?_
  refine hi F B0 B H σ E _ fun v B1 H1 E1 b1 ok1 => ?_
  have ok1 : Dp X.K B1 v (.list ds) := ok1
  cases ok1 with
  | @lst a xs _ h1 h2 =>
    have ln := dps_len h2
    refine ⟨a, rfl, ⟨xs, E1.bH.seq h1⟩, for_list (K := X.K) (xs := xs) (fun i σ H => ∃ B ρ', I i ρ' ∧ Nv X.K F B0 B H σ ρ' ∧ Same B1 B) ⟨B1, ρ1, h0, E1, Same.refl _⟩ (fun i σ H _ ⟨B, ρ', _, E', s⟩ => E'.bH.seq (s.seq h1)) (fun i x σ H hx ⟨B, ρ', hI, E', s⟩ => ?_) fun σ H ⟨B, ρ', hI, E', s⟩ => ?_⟩
    · obtain ⟨d, hd', dx⟩ := dps_get h2 hx
      refine hg i d ρ' hd' hI F B0 B H σ x E' (dp_mono s _ _ dx) _ fun σ' E2 => ?_
      refine hs i d ρ' hd' hI F B0 B H σ' _ E2 ⟨fun ρ2 σ2 B2 H2 q E3 s3 => ⟨B2, ρ2, q, E3, s.trans s3⟩, fun ρ2 r σ2 B2 H2 v q E3 s3 => f.rt ρ2 r σ2 B2 H2 v q E3 (b1.trans (s.trans s3)), fun ρ2 σ2 B2 H2 q E3 s3 => ?_, fun ρ2 σ2 B2 H2 q E3 s3 => ⟨B2, ρ2, q, E3, s.trans s3⟩⟩
      exact f.nx ρ2 σ2 B2 H2 q E3 (b1.trans (s.trans s3))
    · rw [ln] at hI
      exact f.nx ρ' σ B H (hd ρ' hI) E' (b1.trans s)
/-- .. over a tuple -/
theorem sd_forT {tg iter : Expr} {ds : List PyData} (I : Nat → List En → Prop) (gb : Nat → List En → List En) (hi : ED X iter ρ ρ1 (dat (.tuple ds))) (h0 : I 0 ρ1) (hg : ∃ g, PG X tg g ∧ ∀ i d ρ', ds[i]? = some d → I i ρ' → ∀ (F B0 B H : Hp) (σ : Sl) (v : V), Nv X.K F B0 B H σ ρ' → Dp X.K B v d → ∀ Q : Sl → Hp → Prop, (∀ σ', Nv X.K F B0 B H σ' (gb i ρ') → Q σ' H) → g v σ H Q)
    (hs : ∀ i d ρ', ds[i]? = some d → I i ρ' → SD X body (gb i ρ') { P with nx := I (i + 1), ct := I (i + 1), bk := fun ρ' => SD X rest ρ' P }) (hd : ∀ ρ', I ds.length ρ' → SD X rest ρ' P)
    (hp : PassesOwn (model X.prog X.w) X.A X.env X.xe) (hc : X.calm = true) (hfs : ∀ x, foldedSetIterable iter X.env x = pure x := by intro _; rfl) : SD X (.For tg iter body [] pos :: rest) ρ P := by
  obtain ⟨g, pg, hg⟩ := hg
  refine sd_of (ps_for hp hc (pi_tup pe_w) pg pss_w hfs) fun F B0 B H σ D E f => ?_
  refine hi F B0 B H σ E _ fun v B1 H1 E1 b1 ok1 => ?_
  have ok1 : Dp X.K B1 v (.tuple ds) := ok1
  cases ok1 with
  | @tup a xs _ h1 h2 =>
    have ln := dps_len h2
    refine ⟨a, rfl, ⟨xs, same_sqT E1.bH h1⟩, for_tup (K := X.K) (xs := xs) (fun i σ H => ∃ B ρ', I i ρ' ∧ Nv X.K F B0 B H σ ρ' ∧ Same B1 B) ⟨B1, ρ1, h0, E1, Same.refl _⟩ (fun i σ H _ ⟨B, ρ', _, E', s⟩ => same_sqT E'.bH (same_sqT s h1)) (fun i x σ H hx ⟨B, ρ', hI, E', s⟩ => ?_) fun σ H ⟨B, ρ', hI, E', s⟩ => ?_⟩
    · obtain ⟨d, hd', dx⟩ := dps_get h2 hx
      refine hg i d ρ' hd' hI F B0 B H σ x E' (dp_mono s _ _ dx) _ fun σ' E2 => ?_
      refine hs i d ρ' hd' hI F B0 B H σ' _ E2 ⟨fun ρ2 σ2 B2 H2 q E3 s3 => ⟨B2, ρ2, q, E3, s.trans s3⟩, fun ρ2 r σ2 B2 H2 v q E3 s3 => f.rt ρ2 r σ2 B2 H2 v q E3 (b1.trans (s.trans s3)), fun ρ2 σ2 B2 H2 q E3 s3 => ?_, fun ρ2 σ2 B2 H2 q E3 s3 => ⟨B2, ρ2, q, E3, s.trans s3⟩⟩
      exact f.nx ρ2 σ2 B2 H2 q E3 (b1.trans (s.trans s3))
    · rw [ln] at hI
      exact f.nx ρ' σ B H (hd ρ' hI) E' (b1.trans s)
/-- .. over range(n) -/
theorem sd_forR {x : Str} {px : Pos} {n : Int} (j : Nat) (I : Nat → List En → Prop) (hi : ED X e ρ ρ1 (dat (.int n))) (hn : 0 ≤ n ∧ n < 1000000) (h0 : I 0 ρ1) (hs : ∀ (i : Nat) ρ', (i : Int) < n → I i ρ' → SD X body (ρ'.set j (.im (dat (.int i)))) { P with nx := I (i + 1), ct := I (i + 1), bk := fun ρ' => SD X rest ρ' P })
    (hd : ∀ ρ', I n.toNat ρ' → SD X rest ρ' P) (hp : PassesOwn (model X.prog X.w) X.A X.env X.xe) (hc : X.calm = true) (hm : X.mg "range" = none) (hN : X.N.Nodup) (hg : Gl X "range" := by rfl) (hj : X.N[j]? = some x := by rfl) (hx : Loc X.env.scope x := by first | exact Or.inl rfl | exact Or.inr rfl)
    (hf : X.fn x = true ∨ X.env.scope.names.lookup x = some .local := by first | exact .inl rfl | exact .inr rfl) (ha : starEach [e] X.env = [(false, eval e X.env)] := by rfl) (hfs : ∀ y, foldedSetIterable (.Call (.Name "range" p2) [e] [] p) X.env y = pure y := by intro _; rfl) : SD X (.For (.Name x px) (.Call (.Name "range" p2) [e] [] p) body [] pos :: rest) ρ P := by
  refine sd_of (ps_for hp hc (pi_range1 hg hm (pa_cons pe_w pa_nil ha) ha) (pg_name hN hj hx hf) pss_w hfs) fun F B0 B H σ D E f => ?_
  refine hi F B0 B H σ E _ fun v B1 H1 E1 b1 ok1 => ?_
  have ok1 : Dp X.K B1 v (.int n) := ok1
  cases ok1
  refine ⟨n, rfl, by omega, by omega, for_range (fun i σ H => ∃ B ρ', I i ρ' ∧ Nv X.K F B0 B H σ ρ' ∧ Same B1 B) ⟨B1, ρ1, h0, E1, Same.refl _⟩ (fun i σ H hi' ⟨B, ρ', hI, E', s⟩ => ?_) fun σ H ⟨B, ρ', hI, E', s⟩ => f.nx ρ' σ B H (hd ρ' hI) E' (b1.trans s)⟩
  have e0 : (0 : Int) + (i : Int) = (i : Int) := Int.zero_add _
  rw [e0]
  refine hs i ρ' (by omega) hI F B0 B H _ _ (E'.set (r := dat (.int (i : Int))) (.int _)) ⟨fun ρ2 σ2 B2 H2 q E3 s3 => ⟨B2, ρ2, q, E3, s.trans s3⟩, fun ρ2 r σ2 B2 H2 v q E3 s3 => f.rt ρ2 r σ2 B2 H2 v q E3 (b1.trans (s.trans s3)), fun ρ2 σ2 B2 H2 q E3 s3 => ?_, fun ρ2 σ2 B2 H2 q E3 s3 => ⟨B2, ρ2, q, E3, s.trans s3⟩⟩
  exact f.nx ρ2 σ2 B2 H2 q E3 (b1.trans (s.trans s3))
/-- while, told by an invariant with its measure -/
theorem sd_while (W : Nat → List En → Prop) (m0 : Nat) (h0 : W m0 ρ) (hs : ∀ m ρ', W m ρ' → ∃ ρ1 q, TD X c ρ' ρ1 q ∧ (q = true → SD X body ρ1 { P with nx := fun ρ2 => ∃ m', m' < m ∧ W m' ρ2, ct := fun ρ2 => ∃ m', m' < m ∧ W m' ρ2, bk := fun ρ' => SD X rest ρ' P }) ∧ (q = false → SD X rest ρ1 P))
    (hp : PassesOwn (model X.prog X.w) X.A X.env X.xe) : SD X (.While c body [] pos :: rest) ρ P := by
  refine sd_of (ps_while hp pt_w pss_w) fun F B0 B H σ D E f => ?_
  refine ⟨fun m σ H => ∃ B' ρ', W m ρ' ∧ Nv X.K F B0 B' H σ ρ' ∧ Same B B', ⟨m0, B, ρ, h0, E, Same.refl _⟩, fun m σ H ⟨B', ρ', w, E', s⟩ => ?_⟩
  obtain ⟨ρ1, q, ht, k1, k2⟩ := hs m ρ' w
  refine ht F B0 B' H σ E' _ fun B1 H1 E1 b1 => ?_
  cases q with
  | true =>
    rw [if_pos rfl]
    refine ⟨fun σ H => ∃ m', m' < m ∧ ∃ B' ρ', W m' ρ' ∧ Nv X.K F B0 B' H σ ρ' ∧ Same B B', fun σ' H' z => z, ?_⟩
    refine k1 rfl F B0 B1 H1 σ _ E1 ⟨fun ρ2 σ2 B2 H2 ⟨m', lt, q⟩ E3 s3 => ⟨m', lt, B2, ρ2, q, E3, s.trans (b1.trans s3)⟩, fun ρ2 r σ2 B2 H2 v q E3 s3 => f.rt ρ2 r σ2 B2 H2 v q E3 (s.trans (b1.trans s3)), fun ρ2 σ2 B2 H2 q E3 s3 => ?_, fun ρ2 σ2 B2 H2 ⟨m', lt, q⟩ E3 s3 => ⟨m', lt, B2, ρ2, q, E3, s.trans (b1.trans s3)⟩⟩
    exact f.nx ρ2 σ2 B2 H2 q E3 (s.trans (b1.trans s3))
  | false =>
    rw [if_neg Bool.false_ne_true]
    exact f.nx ρ1 σ B1 H1 (k2 rfl) E1 (s.trans b1)
end
end Fd
end

/-! part FdF -/
section
set_option Elab.async false
set_option linter.all false
set_option maxRecDepth 100000
set_option maxHeartbeats 1000000
namespace Fd
open PySem PySem.Spec PyProof.Rows L2

/-! ### dicts with text keys -/
def look {α : Type} (kvs : List (Str × α)) (k : Str) : Option α := (kvs.find? fun p => decide (p.1 = k)).map (·.2)
def putD {α : Type} (kvs : List (Str × α)) (k : Str) (d : α) : List (Str × α) :=
  if (kvs.any fun p => decide (p.1 = k)) then kvs.map fun p => if p.1 = k then (p.1, d) else p else kvs ++ [(k, d)]
def mergeD {α : Type} (kvs more : List (Str × α)) : List (Str × α) := more.foldl (fun acc p => putD acc p.1 p.2) kvs
section
variable {K : PySem.W.Frag} {H : Hp} {kv : List (Key × V)} {kvs : List (Str × PyData)}
def OpD (K : PySem.W.Frag) (H : Hp) : Option V → Option PyData → Prop
  | some v, some d => Dp K H v d
  | none, none => True
  | _, _ => False
theorem kv_look (k : Str) : ∀ {kv : List (Key × V)} {kvs : List (Str × PyData)}, KvR K H kv kvs → OpD K H (valV kv (.inr k)) (look kvs k)
  | _, _, .nil => True.intro
  | _, _, .cons (a := p) (b := q) ⟨h1, h2⟩ t => by
    by_cases e : q.1 = k
    · rw [valV_pos (show p.1 = .inr k by rw [h1, e])]
      show OpD K H (some p.2) (((q :: _).find? fun p => decide (p.1 = k)).map (·.2))
      rw [List.find?_cons, decide_eq_true e]
      exact h2
    · rw [valV_neg (show ¬ p.1 = .inr k by rw [h1]; exact fun z => e (Sum.inr.inj z))]
      show OpD K H _ (((q :: _).find? fun p => decide (p.1 = k)).map (·.2))
      rw [List.find?_cons, decide_eq_false e]
      exact kv_look k t
theorem kv_any (k : Str) : ∀ {kv : List (Key × V)} {kvs : List (Str × PyData)}, KvR K H kv kvs → (kv.any fun p => decide (p.1 = .inr k)) = kvs.any fun p => decide (p.1 = k)
  | _, _, .nil => rfl
  | _, _, .cons (a := p) (b := q) ⟨h1, h2⟩ t => by
    rw [List.any_cons, List.any_cons, kv_any k t, h1, key_rr]
theorem kv_repl (k : Str) {v : V} {d : PyData} (h : Dp K H v d) : ∀ {kv : List (Key × V)} {kvs : List (Str × PyData)}, KvR K H kv kvs →
    KvR K H (kv.map fun p => if p.1 = .inr k then (p.1, v) else p) (kvs.map fun p => if p.1 = k then (p.1, d) else p)
  | _, _, .nil => .nil
  | _, _, .cons (a := p) (b := q) ⟨h1, h2⟩ t => by
    rw [List.map_cons, List.map_cons]
    refine .cons ?_ (kv_repl k h t)
    by_cases e : q.1 = k
    · rw [if_pos (show p.1 = .inr k by rw [h1, e]), if_pos e]; exact ⟨h1, h⟩
    · rw [if_neg (show ¬ p.1 = .inr k by rw [h1]; exact fun z => e (Sum.inr.inj z)), if_neg e]; exact ⟨h1, h2⟩
theorem kv_app : ∀ {kv kw : List (Key × V)} {kvs kws : List (Str × PyData)}, KvR K H kv kvs → KvR K H kw kws → KvR K H (kv ++ kw) (kvs ++ kws)
  | _, _, _, _, .nil, h => h
  | _, _, _, _, .cons h1 t, h => .cons h1 (kv_app t h)
theorem kv_put (k : Str) {v : V} {d : PyData} (h : Dp K H v d) (r : KvR K H kv kvs) : KvR K H (putK kv (.inr k) v) (putD kvs k d) := by
  unfold putK putD
  rw [kv_any k r]
  split
  · exact kv_repl k h r
  · exact kv_app r (.cons ⟨rfl, h⟩ .nil)
theorem kv_len : ∀ {kv : List (Key × V)} {kvs : List (Str × PyData)}, KvR K H kv kvs → kv.length = kvs.length
  | _, _, .nil => rfl
  | _, _, .cons _ t => by rw [List.length_cons, List.length_cons, kv_len t]
theorem kv_merge : ∀ {kw kv : List (Key × V)} {kws kvs : List (Str × PyData)}, KvR K H kw kws → KvR K H kv kvs → KvR K H (mergeK kv kw) (mergeD kvs kws)
  | _, _, _, _, .nil, h => h
  | _, _, _, _, .cons (a := p) (b := q) ⟨h1, h2⟩ t, h => by
    show KvR K H (mergeK (putK _ p.1 p.2) _) (mergeD (putD _ q.1 q.2) _)
    rw [h1]
    exact kv_merge t (kv_put q.1 h2 h)
end

/-- the slot i holds a dict, known or own -/
def Dk (ρ : List En) (i : Nat) (kvs : List (Str × PyData)) : Prop := ρ[i]? = some (.im (dct kvs)) ∨ ρ[i]? = some (.mu (mdc kvs))
theorem Nv.dk {K : PySem.W.Frag} {F B0 B H : Hp} {σ : Sl} {ρ : List En} (E : Nv K F B0 B H σ ρ) {i : Nat} {kvs : List (Str × PyData)} (h : Dk ρ i kvs) : ∃ p kv, σ[i]? = some (some (.ref p)) ∧ Rd H p (.dK kv) ∧ KvR K B kv kvs := by
  rcases h with h | h
  · obtain ⟨v, e, p, kv, rfl, h2, h3⟩ := E.im h
    exact ⟨p, kv, e, rd_mono E.bH h2, h3⟩
  · obtain ⟨p, o, e, _, _, h3, kv, rfl, h5⟩ := E.own h
    exact ⟨p, kv, e, .inl h3, h5⟩
section
variable {X : Cx} {ρ ρ1 ρ2 ρ3 : List En} {a b c e f : Expr} {st : Stmt} {rest body : List Stmt} {pos p p2 px apos cpos : Pos} {r : Im} {P : Post} {kvs : List (Str × PyData)} {k : Str} {d d' : PyData} {x : Str}
theorem ed_dget (i : Nat) (hu : X.A.units + 1 < cLine) (hr : Dk ρ i kvs) (h : ED X e ρ ρ1 (dat (.str k))) (hr1 : Dk ρ1 i kvs) (hl : look kvs k = some d) (hN : X.N[i]? = some x := by rfl) (hv : Vis X.env.scope x := by first | exact Or.inl rfl | exact Or.inr (Or.inl rfl) | exact Or.inr (Or.inr rfl))
    (hd : (x == ("__debug__" : Str)) = false := by decide) (hcd : (x == ("__classdict__" : Str)) = false := by decide) (hs : NoSl e := by exact fun _ _ => rfl) : ED X (.Subscript (.Name x px) e pos) ρ ρ1 (dat d) := by
  intro F B0 B H σ E Q q
  refine wE.of (pe_dget hu (pe_var hN hv hd hcd) pe_w hs) ?_
  obtain ⟨p, kv, hp, _, _⟩ := E.dk hr
  refine ⟨_, hp, h F B0 B H σ E _ fun v B1 H1 E1 b1 ok1 => ?_⟩
  obtain ⟨p', kv', hp', rd', kr'⟩ := E1.dk hr1
  rw [hp] at hp'
  cases hp'
  have ok1 : Dp X.K B1 v (.str k) := ok1
  cases ok1
  have g := kv_look k kr'
  rw [hl] at g
  cases hv : valV kv' (.inr k) with
  | none => rw [hv] at g; exact False.elim g
  | some v =>
    rw [hv] at g
    exact ⟨p, v, rfl, .inl ⟨kv', .inr k, rd', rfl, hv.symm⟩, q v B1 H1 E1 b1 g⟩
/-- d.get(k, x) -/
theorem ed_dgetD (i : Nat) (hu : X.A.units + 1 < cLine) (hr : Dk ρ i kvs) (h : ED X e ρ ρ1 (dat (.str k))) (h2 : ED X f ρ1 ρ2 (dat d)) (hr2 : Dk ρ2 i kvs) (hN : X.N[i]? = some x := by rfl) (hv : Vis X.env.scope x := by first | exact Or.inl rfl | exact Or.inr (Or.inl rfl) | exact Or.inr (Or.inr rfl))
    (hd : (x == ("__debug__" : Str)) = false := by decide) (hcd : (x == ("__classdict__" : Str)) = false := by decide) (m : M2 X (.Name x px) "get" apos e f cpos := by exact ⟨rfl, rfl, rfl, rfl⟩) :
    ED X (.Call (.Attribute (.Name x px) "get" apos) [e, f] [] cpos) ρ ρ2 (dat ((look kvs k).getD d)) := by
  intro F B0 B H σ E Q q
  refine wE.of (pe_dget2 hu (pe_var hN hv hd hcd) pe_w pe_w m) ?_
  obtain ⟨p, kv, hp, rd, _⟩ := E.dk hr
  refine ⟨_, hp, p, rfl, .inl ⟨kv, rd⟩, h F B0 B H σ E _ fun v B1 H1 E1 b1 ok1 => h2 F B0 B1 H1 σ E1 _ fun u B2 H2 E2 b2 ok2 => ?_⟩
  obtain ⟨p', kv', hp', rd', kr'⟩ := E2.dk hr2
  rw [hp] at hp'
  cases hp'
  have ok1 : Dp X.K B1 v (.str k) := ok1
  cases ok1
  refine ⟨_, .inl ⟨kv', .inr k, rd', rfl, rfl⟩, q _ B2 H2 E2 (b1.trans b2) ?_⟩
  have g := kv_look k kr'
  cases hv : valV kv' (.inr k) with
  | none =>
    rw [hv] at g
    cases hl : look kvs k with
    | none => exact ok2
    | some d => rw [hl] at g; exact False.elim g
  | some v =>
    rw [hv] at g
    cases hl : look kvs k with
    | none => rw [hl] at g; exact False.elim g
    | some d => rw [hl] at g; exact g
theorem opd_some {K : PySem.W.Frag} {H : Hp} {o : Option V} {u : Option PyData} (h : OpD K H o u) : o.isSome = u.isSome := by
  cases o <;> cases u <;> first | rfl | exact False.elim h
theorem cd_din (i : Nat) (hu : X.A.units + 1 < cLine) (h : ED X e ρ ρ1 (dat (.str k))) (hr : Dk ρ1 i kvs) (hN : X.N[i]? = some x := by rfl) (hv : Vis X.env.scope x := by first | exact Or.inl rfl | exact Or.inr (Or.inl rfl) | exact Or.inr (Or.inr rfl))
    (hd : (x == ("__debug__" : Str)) = false := by decide) (hcd : (x == ("__classdict__" : Str)) = false := by decide) : CD X .In e (.Name x px) ρ ρ1 (look kvs k).isSome := by
  intro F B0 B H σ E Q q
  refine wC.of (pc_din hu pe_w (pe_var hN hv hd hcd)) (h F B0 B H σ E _ fun v B1 H1 E1 b1 ok1 => ?_)
  obtain ⟨p, kv, hp, rd, kr⟩ := E1.dk hr
  have ok1 : Dp X.K B1 v (.str k) := ok1
  cases ok1
  exact ⟨_, hp, p, _, rfl, .inl ⟨kv, .inr k, rd, rfl, rfl⟩, by rw [opd_some (kv_look k kr)]; exact q B1 H1 E1 b1⟩
theorem cd_dnin (i : Nat) (hu : X.A.units + 1 < cLine) (h : ED X e ρ ρ1 (dat (.str k))) (hr : Dk ρ1 i kvs) (hN : X.N[i]? = some x := by rfl) (hv : Vis X.env.scope x := by first | exact Or.inl rfl | exact Or.inr (Or.inl rfl) | exact Or.inr (Or.inr rfl))
    (hd : (x == ("__debug__" : Str)) = false := by decide) (hcd : (x == ("__classdict__" : Str)) = false := by decide) : CD X .NotIn e (.Name x px) ρ ρ1 (!(look kvs k).isSome) := by
  intro F B0 B H σ E Q q
  refine wC.of (pc_dnotin hu pe_w (pe_var hN hv hd hcd)) (h F B0 B H σ E _ fun v B1 H1 E1 b1 ok1 => ?_)
  obtain ⟨p, kv, hp, rd, kr⟩ := E1.dk hr
  have ok1 : Dp X.K B1 v (.str k) := ok1
  cases ok1
  exact ⟨_, hp, p, _, rfl, .inl ⟨kv, .inr k, rd, rfl, rfl⟩, by rw [opd_some (kv_look k kr)]; exact q B1 H1 E1 b1⟩
/-- len(d) -/
theorem ed_lenD (i : Nat) (hr : Dk ρ i kvs) (hm : X.mg "len" = none) (hg : Gl X "len" := by rfl) (hN : X.N[i]? = some x := by rfl) (hv : Vis X.env.scope x := by first | exact Or.inl rfl | exact Or.inr (Or.inl rfl) | exact Or.inr (Or.inr rfl))
    (hd : (x == ("__debug__" : Str)) = false := by decide) (hcd : (x == ("__classdict__" : Str)) = false := by decide) (he : starEach [.Name x px] X.env = (false, eval (.Name x px) X.env) :: starEach [] X.env := by rfl) (hpl : (backTo pos (starEach [] X.env)).any (·.1) = false := by rfl) : ED X (.Call (.Name "len" p) [.Name x px] [] pos) ρ ρ (dat (.int kvs.length)) := by
  intro F B0 B H σ E Q q
  have cl : CallR X (.builtin "len") (fun xs H Q => ∃ a kv, xs = [V.ref a] ∧ Rd H a (.dK kv) ∧ Q (.int kv.length) H) := by
    intro pins s σ H xs us Q I r h
    obtain ⟨a, kv, rfl, ha, q⟩ := h
    rw [Vals.ref1 r]
    exact d_len I ha fun t s' I' => ⟨.int kv.length, H, I', ⟨t, rfl⟩, q⟩
  refine wE.of (pe_callB cl hg hm PySem.boot_len (pa_cons (pe_var hN hv hd hcd) pa_nil he) (by decide) (by decide) he hpl) ?_
  obtain ⟨p, kv, hp, rd, kr⟩ := E.dk hr
  exact ⟨_, hp, p, kv, rfl, rd, by rw [kv_len kr]; exact q _ B H E (Same.refl B) (.int _)⟩
/-- d[k] = e -/
theorem sd_dput (i : Nat) (hu : X.A.units + 1 < cLine) (hv' : ED X a ρ ρ1 (dat d)) (h : ED X e ρ1 ρ2 (dat (.str k))) (hr1 : ρ1[i]? = some (.mu (mdc kvs))) (hr : ρ2[i]? = some (.mu (mdc kvs))) (hz : kvs.length < 1000) (n : SD X rest (ρ2.set i (.mu (mdc (putD kvs k d)))) P) (hN : X.N[i]? = some x := by rfl) (hv : Vis X.env.scope x := by first | exact Or.inl rfl | exact Or.inr (Or.inl rfl) | exact Or.inr (Or.inr rfl))
    (hd : (x == ("__debug__" : Str)) = false := by decide) (hcd : (x == ("__classdict__" : Str)) = false := by decide) (hs : swapsWith a (some (.Subscript (.Name x px) e p)) pos.line X.env = pure false := by rfl)
    (hp : PS X (.Assign [.Subscript (.Name x px) e p] a pos) (sDPut (tVar i) (wE X e) (wE X a)) := by first | exact ps_dput (by assumption) (pv _) pe_w pe_w rfl) : SD X (.Assign [.Subscript (.Name x px) e p] a pos :: rest) ρ P :=
  sd_of hp fun F B0 B H σ D E f => by
    refine hv' F B0 B H σ E _ fun u B1 H1 E1 b1 ok1 => ?_
    obtain ⟨q0, o0, hq0, _⟩ := E1.own hr1
    refine ⟨_, hq0, h F B0 B1 H1 σ E1 _ fun v B2 H2 E2 b2 ok2 => ?_⟩
    obtain ⟨q, o, hq, _, _, ho, kv, rfl, kr⟩ := E2.own hr
    rw [hq0] at hq
    cases hq
    have ok2 : Dp X.K B2 v (.str k) := ok2
    cases ok2
    refine ⟨q0, upd H2 q0 (.dK (putK kv (.inr k) u)), rfl, .inl ⟨kv, .inr k, ho, rfl, small1000 (by rw [kv_len kr]; omega), rfl⟩, ?_⟩
    exact f.nx _ _ B2 _ n (E2.change hr hq0 ⟨_, rfl, kv_put k (dp_mono b2 _ _ ok1) kr⟩) (b1.trans b2)
end
end Fd
end

/-! part FdG -/
section
set_option Elab.async false
set_option linter.all false
set_option maxRecDepth 100000
set_option maxHeartbeats 1000000
namespace Fd
open PySem PySem.Spec PyProof.Rows L2

section
variable {K : PySem.W.Frag} {F B0 B H : Hp} {σ : Sl} {ρ : List En} {D : Addr} {o o' : HO}
theorem same_upd2 {F H : Hp} (e : Same F H) : Same (upd F D o) (upd H D o) := fun a x q => by
  by_cases h : a = D
  · subst h; rw [upd_same] at q ⊢; exact q
  · rw [upd_ne h] at q ⊢; exact e a x q
theorem Nv.lay (E : Nv K F B0 B H σ ρ) (h : H D = none) : Nv K (upd F D o) B0 B (upd H D o) σ ρ where
  fH := same_upd2 E.fH
  bH := same_mut E.bH (E.bH.free h)
  b0 := E.b0
  fr := fun a z => by
    by_cases e : a = D
    · subst e; exact absurd (E.bH.free h) z
    · rw [upd_ne e]; exact E.fr a z
  len := E.len
  ent := fun i r q hn => by
    obtain ⟨v, e, ok⟩ := E.ent i r q hn
    refine ⟨v, e, ?_⟩
    cases r with
    | no => exact True.intro
    | im r => exact ok
    | mu m =>
      obtain ⟨p, o1, rfl, a1, a2, a3, a4⟩ := ok
      have np : p ≠ D := ne_of_none a3 h
      exact ⟨p, o1, rfl, a1, by rw [upd_ne np]; exact a2, by rw [upd_ne np]; exact a3, a4⟩
  ap := E.ap
  fz := fun a z => by
    by_cases e : a = D
    · subst e; rw [upd_same] at z; cases z
    · rw [upd_ne e] at z; exact E.fz a z
theorem Nv.off (E : Nv K (upd F D o) B0 B H σ ρ) (b : B0 D = none) : B D = none ∧ H D = some o := by
  refine ⟨?_, E.fH D o upd_same⟩
  cases q : B D with
  | none => rfl
  | some x =>
    rcases E.fr D (by rw [q]; simp) with z | z
    · exact absurd b z
    · rw [upd_same] at z; cases z
theorem Nv.relay (E : Nv K (upd F D o) B0 B H σ ρ) (b : B0 D = none) : Nv K (upd F D o') B0 B (upd H D o') σ ρ where
  fH := fun a x q => by
    by_cases e : a = D
    · subst e; rw [upd_same] at q ⊢; exact q
    · rw [upd_ne e] at q ⊢
      exact E.fH a x (by rw [upd_ne e]; exact q)
  bH := same_mut E.bH (E.off b).1
  b0 := E.b0
  fr := fun a z => by
    by_cases e : a = D
    · subst e; exact absurd (E.off b).1 z
    · have := E.fr a z
      rw [upd_ne e] at this ⊢
      exact this
  len := E.len
  ent := fun i r q hn => by
    obtain ⟨v, e, ok⟩ := E.ent i r q hn
    refine ⟨v, e, ?_⟩
    cases r with
    | no => exact True.intro
    | im r => exact ok
    | mu m =>
      obtain ⟨p, o1, rfl, a1, a2, a3, a4⟩ := ok
      have np : p ≠ D := fun z => by rw [z, upd_same] at a2; cases a2
      rw [upd_ne np] at a2
      exact ⟨p, o1, rfl, a1, by rw [upd_ne np]; exact a2, by rw [upd_ne np]; exact a3, a4⟩
  ap := E.ap
  fz := fun a z => by
    by_cases e : a = D
    · subst e; exact b
    · rw [upd_ne e] at z
      exact E.fz a (by rw [upd_ne e]; exact z)
theorem Nv.known (E : Nv K (upd F D o) B0 B H σ ρ) (b : B0 D = none) (f : F D = none) : Nv K F B0 (upd B D o) H σ ρ where
  fH := fun a x q => E.fH a x (by rw [upd_ne (ne_of_none q f)]; exact q)
  bH := fun a x q => by
    by_cases e : a = D
    · subst e; rw [upd_same] at q; cases q; exact (E.off b).2
    · rw [upd_ne e] at q; exact E.bH a x q
  b0 := E.b0.trans (same_upd (E.off b).1)
  fr := fun a z => by
    by_cases e : a = D
    · subst e; exact .inr f
    · rw [upd_ne e] at z
      have := E.fr a z
      rw [upd_ne e] at this
      exact this
  len := E.len
  ent := fun i r q hn => by
    obtain ⟨v, e, ok⟩ := E.ent i r q hn
    refine ⟨v, e, ?_⟩
    have bb : Same B (upd B D o) := same_upd (E.off b).1
    cases r with
    | no => exact True.intro
    | im r => exact r.mono bb ok
    | mu m =>
      obtain ⟨p, o1, rfl, a1, a2, a3, a4⟩ := ok
      have np : p ≠ D := fun z => by rw [z, upd_same] at a2; cases a2
      rw [upd_ne np] at a2
      exact ⟨p, o1, rfl, by rw [upd_ne np]; exact a1, a2, a3, m.mono bb a4⟩
  ap := E.ap
  fz := fun a z => by
    by_cases e : a = D
    · subst e; exact b
    · exact E.fz a (by rw [upd_ne e]; exact z)
end
theorem wipe_in {σ : Sl} {i : Nat} : ∀ {vs : List Nat}, i ∈ vs → i < σ.length → (wipe σ vs)[i]? = some none
  | v :: vs, h, hl => by
    unfold wipe
    by_cases e : v = i
    · subst e
      rw [List.getElem?_set_self (by rw [wipe_length]; exact hl)]
    · rw [List.getElem?_set_ne e]
      exact wipe_in ((List.mem_cons.mp h).resolve_left fun z => e z.symm) hl
theorem wipe_eq {σ σ2 : Sl} {vs : List Nat} (hl : σ2.length = σ.length) (h : ∀ i, i ∉ vs → σ2[i]? = σ[i]?) : wipe σ2 vs = wipe σ vs := by
  apply List.ext_getElem?
  intro i
  by_cases hi : i ∈ vs
  · by_cases hs : i < σ.length
    · rw [wipe_in hi hs, wipe_in hi (by rw [hl]; exact hs)]
    · rw [List.getElem?_eq_none (by rw [wipe_length]; omega), List.getElem?_eq_none (by rw [wipe_length]; omega)]
  · rw [wipe_out hi, wipe_out hi, h i hi]
theorem wipe_back {σ σ2 : Sl} {vs : List Nat} (h : wipe σ2 vs = wipe σ vs) {i : Nat} (hi : i ∉ vs) : σ2[i]? = σ[i]? := by
  rw [← wipe_out (σ := σ2) hi, h, wipe_out hi]
theorem wipe_set {σ : Sl} {vs : List Nat} {j : Nat} (hj : j ∈ vs) (x : Option V) : wipe ((wipe σ vs).set j x) vs = wipe σ vs := by
  refine wipe_eq (by rw [List.length_set, wipe_length]) fun i hi => ?_
  have ne : j ≠ i := fun e => hi (by rw [← e]; exact hj)
  rw [List.getElem?_set_ne ne, wipe_out hi]

/-- the items that are kept -/
def kept (n : Nat) (b : Nat → Bool) (out : Nat → PyData) : List PyData := ((List.range n).filter b).map out
theorem kept_zero (b : Nat → Bool) (out : Nat → PyData) : kept 0 b out = [] := rfl
theorem kept_yes {n : Nat} {b : Nat → Bool} {out : Nat → PyData} (h : b n = true) : kept (n + 1) b out = kept n b out ++ [out n] := by
  unfold kept
  rw [List.range_succ, List.filter_append, List.map_append, List.filter_cons, if_pos h]; rfl
theorem kept_no {n : Nat} {b : Nat → Bool} {out : Nat → PyData} (h : b n = false) : kept (n + 1) b out = kept n b out := by
  unfold kept
  rw [List.range_succ, List.filter_append, List.map_append, List.filter_cons, if_neg (by rw [h]; decide)]
  show _ ++ [] = _
  rw [List.append_nil]
theorem kept_len (n : Nat) (b : Nat → Bool) (out : Nat → PyData) : (kept n b out).length ≤ n := by
  unfold kept
  rw [List.length_map]
  have h := List.length_filter_le b (List.range n)
  rw [List.length_range] at h
  exact h
/-- over a list of known shape -/
theorem kept_take {β : Type} (xs : List β) (p : β → Bool) (g : β → PyData) (d0 : PyData) : ∀ n, n ≤ xs.length → kept n (fun i => ((xs[i]?).map p).getD false) (fun i => ((xs[i]?).map g).getD d0) = ((xs.take n).filter p).map g
  | 0, _ => rfl
  | n + 1, h => by
    have ih := kept_take xs p g d0 n (by omega)
    have hx : xs[n]? = some xs[n] := List.getElem?_eq_getElem (by omega)
    rw [List.take_add_one, hx, Option.toList_some, List.filter_append, List.map_append, ← ih]
    cases hp : p xs[n] with
    | true =>
      rw [kept_yes (by rw [hx]; exact hp), List.filter_cons, if_pos hp, hx]
      rfl
    | false =>
      rw [kept_no (by rw [hx]; exact hp), List.filter_cons, if_neg (by rw [hp]; decide)]
      show _ = _ ++ []
      rw [List.append_nil]
theorem kept_map {β : Type} (xs : List β) (p : β → Bool) (g : β → PyData) (d0 : PyData) : kept xs.length (fun i => ((xs[i]?).map p).getD false) (fun i => ((xs[i]?).map g).getD d0) = (xs.filter p).map g := by
  rw [kept_take xs p g d0 xs.length (Nat.le_refl _), List.take_length]

section
variable {X : Cx} {scope : Scope}
/-- the block's parts, whatever the block's frame -/
def uT (X : Cx) (scope : Scope) (c : Expr) : TT := fun σ H Q => ∀ (s : Shared) (H0 : Hp) (C : Addr) (cl : List (Str × Addr)) (fp : List Addr), wT (X.blk s H0 scope (compEnvC scope cl C X.env) fp) c σ H Q
def uE (X : Cx) (scope : Scope) (e : Expr) : TE := fun σ H Q => ∀ (s : Shared) (H0 : Hp) (C : Addr) (cl : List (Str × Addr)) (fp : List Addr), wE (X.blk s H0 scope (compEnvC scope cl C X.env) fp) e σ H Q
theorem pt_u {c : Expr} (s : Shared) (H0 : Hp) (C : Addr) (cl : List (Str × Addr)) (fp : List Addr) : PT (X.blk s H0 scope (compEnvC scope cl C X.env) fp) c (uT X scope c) := ⟨fun pins s' σ H Q I h => h s H0 C cl fp pins s' I⟩
theorem pe_u {e : Expr} (s : Shared) (H0 : Hp) (C : Addr) (cl : List (Str × Addr)) (fp : List Addr) : PE (X.blk s H0 scope (compEnvC scope cl C X.env) fp) e (uE X scope e) := ⟨fun pins s' σ H Q I h => h s H0 C cl fp pins s' I⟩
/-- a block's test, element, over data -/
def UT (X : Cx) (scope : Scope) (c : Expr) (ρ ρ' : List En) (b : Bool) : Prop := ∀ (s : Shared) (H0 : Hp) (C : Addr) (cl : List (Str × Addr)) (fp : List Addr), TD (X.blk s H0 scope (compEnvC scope cl C X.env) fp) c ρ ρ' b
def UE (X : Cx) (scope : Scope) (e : Expr) (ρ ρ' : List En) (r : Im) : Prop := ∀ (s : Shared) (H0 : Hp) (C : Addr) (cl : List (Str × Addr)) (fp : List Addr), ED (X.blk s H0 scope (compEnvC scope cl C X.env) fp) e ρ ρ' r
/-- a test's reading that answers b -/
def TtD (K : PySem.W.Frag) (t : TT) (ρ ρ' : List En) (b : Bool) : Prop := ∀ (F B0 B H : Hp) (σ : Sl), Nv K F B0 B H σ ρ → ∀ Q : Bool → Hp → Prop, (∀ B' H', Nv K F B0 B' H' σ ρ' → Same B B' → Q b H') → t σ H Q
theorem tt_yes {K : PySem.W.Frag} {ρ : List En} : TtD K tYes ρ ρ true := fun F B0 B H σ E Q q => q B H E (Same.refl B)
theorem tt_u {c : Expr} {ρ ρ' : List En} {b : Bool} (h : UT X scope c ρ ρ' b) : TtD X.K (uT X scope c) ρ ρ' b := fun F B0 B H σ E Q q s H0 C cl fp => h s H0 C cl fp F B0 B H σ E Q q
/-- a target's reading in a block: vs are the block's own slots -/
def GtD (K : PySem.W.Frag) (g : TG) (vs : List Nat) (d : PyData) (ρ ρ' : List En) : Prop := ∀ (F B0 B H : Hp) (σ : Sl) (v : V), Nv K F B0 B H (wipe σ vs) ρ → Dp K B v d → ∀ Q : Sl → Hp → Prop, (∀ σ', Nv K F B0 B H σ' ρ' → wipe σ' vs = wipe σ vs → Q σ' H) → g v (wipe σ vs) H Q
theorem gt_name {K : PySem.W.Frag} {vs : List Nat} {d : PyData} {ρ : List En} {j : Nat} (hj : j ∈ vs) : GtD K (gName j) vs d ρ (ρ.set j (.im (dat d))) := fun F B0 B H σ v E ok Q q => q _ (E.set (r := dat d) ok) (wipe_set hj _)
/-- .. a tuple of names -/
def gNames : List Nat → TGs
  | [] => gNil
  | j :: js => gCons (gName j) (gNames js)
def setAll (ρ : List En) : List Nat → List PyData → List En
  | j :: js, d :: ds => setAll (ρ.set j (.im (dat d))) js ds
  | _, _ => ρ
theorem gts_names {K : PySem.W.Frag} {vs : List Nat} : ∀ {js : List Nat} {ds : List PyData} {xs : List V} {ρ : List En} {F B0 B H : Hp} {σ σ1 : Sl}, (∀ j ∈ js, j ∈ vs) → js.length = ds.length → Nv K F B0 B H σ1 ρ → wipe σ1 vs = wipe σ vs → DpAll K B xs ds → ∀ Q : Sl → Hp → Prop,
    (∀ σ', Nv K F B0 B H σ' (setAll ρ js ds) → wipe σ' vs = wipe σ vs → Q σ' H) → gNames js xs σ1 H Q
  | [], [], _, _, _, _, _, _, _, _, _, _, E, hw, .nil, Q, q => ⟨rfl, q _ E hw⟩
  | j :: js, d :: ds, _, ρ, F, B0, B, H, σ, σ1, hj, hl, E, hw, .cons h1 h2, Q, q => by
    refine ⟨_, _, rfl, gts_names (fun j' h' => hj j' (List.mem_cons_of_mem _ h')) (by simpa using hl) (E.set (r := dat d) h1) ?_ h2 Q q⟩
    rw [← hw]
    refine wipe_eq (by rw [List.length_set]) fun i hi => ?_
    have ne : j ≠ i := fun e => hi (by rw [← e]; exact hj j List.mem_cons_self)
    exact List.getElem?_set_ne ne
theorem gt_tup {K : PySem.W.Frag} {vs js : List Nat} {ds : List PyData} {ρ : List En} (hj : ∀ j ∈ js, j ∈ vs) (hl : js.length = ds.length) : GtD K (gTup K ds.length (gNames js)) vs (.tuple ds) ρ (setAll ρ js ds) := fun F B0 B H σ v E ok Q q => by
  cases ok with
  | tup h1 h2 => exact ⟨_, _, rfl, same_sqT E.bH h1, dps_len h2, gts_names hj hl E (wipe_eq (by rw [wipe_length]) fun i hi => wipe_out hi) h2 Q q⟩
/-- the whole of a list comprehension: R i is what is known ahead of turn i -/
structure LcD (X : Cx) (ρ : List En) (vs : List Nat) (n : Nat) (ds : Nat → PyData) (g : TG) (tt : TT) (te : TE) (R Rb Rt Re : Nat → List En) (b : Nat → Bool) (out : Nat → PyData) : Prop where
  own : ∀ i, i ≤ n → ∀ j ∈ vs, ∀ r, (R i)[j]? = some r → r = .no
  tgt : ∀ i, i < n → GtD X.K g vs (ds i) (R i) (Rb i)
  tst : ∀ i, i < n → TtD X.K tt (Rb i) (Rt i) (b i)
  elt : ∀ i, i < n → b i = true → ∀ (F B0 B H : Hp) (σ : Sl), Nv X.K F B0 B H σ (Rt i) → ∀ Q : VK, (∀ v B' H', Nv X.K F B0 B' H' σ (Re i) → Same B B' → Dp X.K B' v (out i) → Q v H') → te σ H Q
  nxY : ∀ i, i < n → b i = true → (R (i + 1)).length = (Re i).length ∧ ∀ (k : Nat) (r : En), (R (i + 1))[k]? = some r → r ≠ .no → (Re i)[k]? = some r
  nxN : ∀ i, i < n → b i = false → (R (i + 1)).length = (Rt i).length ∧ ∀ (k : Nat) (r : En), (R (i + 1))[k]? = some r → r ≠ .no → (Rt i)[k]? = some r
section
variable {ρ : List En} {vs : List Nat} {n : Nat} {ds : Nat → PyData} {g : TG} {tt : TT} {te : TE} {R Rb Rt Re : Nat → List En} {b : Nat → Bool} {out : Nat → PyData}
/-- back to the block's start -/
theorem nv_wipe {K : PySem.W.Frag} {F B0 B H : Hp} {σ σ2 : Sl} {ρ1 ρ2 : List En} (E : Nv K F B0 B H σ2 ρ1) (hw : wipe σ2 vs = wipe σ vs) (hl : ρ2.length = ρ1.length) (h : ∀ (k : Nat) (r : En), ρ2[k]? = some r → r ≠ .no → ρ1[k]? = some r) (own : ∀ j ∈ vs, ∀ r, ρ2[j]? = some r → r = .no) : Nv K F B0 B H (wipe σ vs) ρ2 := by
  have len : σ2.length = σ.length := by
    have := congrArg List.length hw
    rw [wipe_length, wipe_length] at this
    exact this
  refine E.weak (by rw [wipe_length, len]) hl fun k r hk hn => ⟨h k r hk hn, ?_⟩
  have nk : k ∉ vs := fun z => hn (own k z r hk)
  rw [wipe_out nk, wipe_back hw nk]
theorem nv_unwipe {K : PySem.W.Frag} {F B0 B H : Hp} {σ : Sl} {ρ1 : List En} (E : Nv K F B0 B H (wipe σ vs) ρ1) (own : ∀ j ∈ vs, ∀ r, ρ1[j]? = some r → r = .no) : Nv K F B0 B H σ ρ1 :=
  E.weak (by rw [wipe_length]) rfl fun k r hk hn => ⟨hk, (wipe_out fun z => hn (own k z r hk)).symm⟩
theorem nv_towipe {K : PySem.W.Frag} {F B0 B H : Hp} {σ : Sl} {ρ1 : List En} (E : Nv K F B0 B H σ ρ1) (own : ∀ j ∈ vs, ∀ r, ρ1[j]? = some r → r = .no) : Nv K F B0 B H (wipe σ vs) ρ1 :=
  E.weak (by rw [wipe_length]) rfl fun k r hk hn => ⟨hk, wipe_out fun z => hn (own k z r hk)⟩
/-- what holds ahead of turn i -/
def LcI (K : PySem.W.Frag) (F B0 B1 : Hp) (D : Addr) (σ : Sl) (vs : List Nat) (R : Nat → List En) (b : Nat → Bool) (out : Nat → PyData) (i : Nat) (H : Hp) : Prop :=
  ∃ B acc, Nv K (upd F D (.lst acc)) B0 B H (wipe σ vs) (R i) ∧ Same B1 B ∧ DpAll K B acc (kept i b out)
theorem LcD.turn (L : LcD X ρ vs n ds g tt te R Rb Rt Re b out) {F B0 B1 H : Hp} {D : Addr} {σ : Sl} (hD : B0 D = none) (hn : n < 100000) {i : Nat} (hi : i < n) {x : V} (hx : Dp X.K B1 x (ds i)) (h : LcI X.K F B0 B1 D σ vs R b out i H) :
    g x (wipe σ vs) H fun σ2 H2 => wipe σ2 vs = wipe σ vs ∧ tt σ2 H2 fun q H3 =>
      if q = true then te σ2 H3 fun y H4 => ∃ acc, H4 D = some (.lst acc) ∧ acc.length < sizeLine ∧ LcI X.K F B0 B1 D σ vs R b out (i + 1) (upd H4 D (.lst (acc ++ [y]))) else LcI X.K F B0 B1 D σ vs R b out (i + 1) H3 := by
  obtain ⟨B, acc, E, s, da⟩ := h
  refine L.tgt i hi _ B0 B H σ x E (dp_mono s _ _ hx) _ fun σ2 E2 hw => ⟨hw, ?_⟩
  refine L.tst i hi _ B0 B H σ2 E2 _ fun B3 H3 E3 s3 => ?_
  cases hb : b i with
  | true =>
    rw [if_pos rfl]
    refine L.elt i hi hb _ B0 B3 H3 σ2 E3 _ fun y B4 H4 E4 s4 ok4 => ?_
    have hacc := E4.off hD
    obtain ⟨l1, l2⟩ := L.nxY i hi hb
    refine ⟨acc, hacc.2, Nat.lt_of_lt_of_le (show acc.length < 100000 by rw [dps_len da]; exact Nat.lt_of_le_of_lt (kept_len i b out) (by omega)) (by decide), B4, acc ++ [y], nv_wipe (E4.relay hD) hw l1 l2 (L.own (i + 1) hi), s.trans (s3.trans s4), ?_⟩
    rw [kept_yes hb]
    exact dps_app (dps_mono (s3.trans s4) _ _ da) (.cons ok4 .nil)
  | false =>
    rw [if_neg Bool.false_ne_true]
    obtain ⟨l1, l2⟩ := L.nxN i hi hb
    exact ⟨B3, acc, nv_wipe E3 hw l1 l2 (L.own (i + 1) hi), s.trans s3, by rw [kept_no hb]; exact dps_mono s3 _ _ da⟩
theorem LcD.start (L : LcD X ρ vs n ds g tt te R Rb Rt Re b out) {F B0 B1 H1 : Hp} {D : Addr} {σ : Sl} (E : Nv X.K F B0 B1 H1 σ (R 0)) (hD : H1 D = none) : LcI X.K F B0 B1 D σ vs R b out 0 (upd H1 D (.lst [])) :=
  ⟨B1, [], (nv_towipe E (L.own 0 (Nat.zero_le _))).lay hD, Same.refl _, .nil⟩
theorem LcD.done (L : LcD X ρ vs n ds g tt te R Rb Rt Re b out) {F B0 B1 H : Hp} {D : Addr} {σ : Sl} (hD : B0 D = none) (fD : F D = none) (h : LcI X.K F B0 B1 D σ vs R b out n H) : ∃ B', Nv X.K F B0 B' H σ (R n) ∧ Same B1 B' ∧ Dp X.K B' (.ref D) (.list (kept n b out)) := by
  obtain ⟨B, acc, E, s, da⟩ := h
  have bb : Same B (upd B D (.lst acc)) := same_upd (E.off hD).1
  exact ⟨_, nv_unwipe (E.known hD fD) (L.own n (Nat.le_refl _)), s.trans bb, .lst (.inl (.inl upd_same)) (dps_mono bb _ _ da)⟩
/-- over a list -/
theorem LcD.list (L : LcD X ρ vs n ds g tt te R Rb Rt Re b out) {iter : Expr} {xs : List PyData} (hi : ED X iter ρ (R 0) (dat (.list xs))) (hx : ∀ i d, xs[i]? = some d → ds i = d) (hl : xs.length = n) (hn : n < 100000) {F B0 B H : Hp} {σ : Sl} (E : Nv X.K F B0 B H σ ρ) {Q : VK}
    (q : ∀ v B' H', Nv X.K F B0 B' H' σ (R n) → Same B B' → Dp X.K B' v (.list (kept n b out)) → Q v H') : tLc (iList X.K (wE X iter)) g tt te vs σ H Q := by
  refine hi F B0 B H σ E _ fun v B1 H1 E1 b1 ok1 => ?_
  have ok1 : Dp X.K B1 v (.list xs) := ok1
  cases ok1 with
  | @lst a us _ h1 h2 =>
    have ln := dps_len h2
    refine ⟨a, rfl, ⟨us, E1.bH.seq h1⟩, fun D hD => ?_⟩
    have bD : B0 D = none := E1.b0.free (E1.bH.free hD)
    have fD : F D = none := E1.fH.free hD
    refine lc_list (K := X.K) (xs := us) (LcI X.K F B0 B1 D σ vs R b out) (L.start E1 hD) (fun i H _ ⟨B, acc, E', s, _⟩ => E'.bH.seq (s.seq h1)) (fun i x H hx' p => ?_) fun H p => ?_
    · obtain ⟨d, hd, dx⟩ := dps_get h2 hx'
      have lt : i < n := by rw [← hl]; exact lt_of_get hd
      rw [← hx i d hd] at dx
      exact L.turn bD hn lt dx p
    · rw [ln, hl] at p
      obtain ⟨B', E', s, dd⟩ := L.done bD fD p
      exact q _ B' H E' (b1.trans s) dd
/-- over a tuple -/
theorem LcD.tuple (L : LcD X ρ vs n ds g tt te R Rb Rt Re b out) {iter : Expr} {xs : List PyData} (hi : ED X iter ρ (R 0) (dat (.tuple xs))) (hx : ∀ i d, xs[i]? = some d → ds i = d) (hl : xs.length = n) (hn : n < 100000) {F B0 B H : Hp} {σ : Sl} (E : Nv X.K F B0 B H σ ρ) {Q : VK}
    (q : ∀ v B' H', Nv X.K F B0 B' H' σ (R n) → Same B B' → Dp X.K B' v (.list (kept n b out)) → Q v H') : tLc (iTup X.K (wE X iter)) g tt te vs σ H Q := by
  refine hi F B0 B H σ E _ fun v B1 H1 E1 b1 ok1 => ?_
  have ok1 : Dp X.K B1 v (.tuple xs) := ok1
  cases ok1 with
  | @tup a us _ h1 h2 =>
    have ln := dps_len h2
    refine ⟨a, rfl, ⟨us, same_sqT E1.bH h1⟩, fun D hD => ?_⟩
    have bD : B0 D = none := E1.b0.free (E1.bH.free hD)
    have fD : F D = none := E1.fH.free hD
    refine lc_tup (K := X.K) (xs := us) (LcI X.K F B0 B1 D σ vs R b out) (L.start E1 hD) (fun i H _ ⟨B, acc, E', s, _⟩ => same_sqT E'.bH (same_sqT s h1)) (fun i x H hx' p => ?_) fun H p => ?_
    · obtain ⟨d, hd, dx⟩ := dps_get h2 hx'
      have lt : i < n := by rw [← hl]; exact lt_of_get hd
      rw [← hx i d hd] at dx
      exact L.turn bD hn lt dx p
    · rw [ln, hl] at p
      obtain ⟨B', E', s, dd⟩ := L.done bD fD p
      exact q _ B' H E' (b1.trans s) dd
/-- over range(n) -/
theorem LcD.range (L : LcD X ρ vs n ds g tt te R Rb Rt Re b out) {e : Expr} {k : Int} (hi : ED X e ρ (R 0) (dat (.int k))) (hx : ∀ i, i < n → ds i = .int (i : Int)) (hl : k.toNat = n) (h0 : 0 ≤ k) (hn : n < 100000) {F B0 B H : Hp} {σ : Sl} (E : Nv X.K F B0 B H σ ρ) {Q : VK}
    (q : ∀ v B' H', Nv X.K F B0 B' H' σ (R n) → Same B B' → Dp X.K B' v (.list (kept n b out)) → Q v H') : tLc (iRng1 (tCons (wE X e) tNil)) g tt te vs σ H Q := by
  refine hi F B0 B H σ E _ fun v B1 H1 E1 b1 ok1 => ?_
  have ok1 : Dp X.K B1 v (.int k) := ok1
  cases ok1
  refine ⟨k, rfl, by omega, by omega, fun D hD => ?_⟩
  have bD : B0 D = none := E1.b0.free (E1.bH.free hD)
  have fD : F D = none := E1.fH.free hD
  rw [hl]
  refine lc_range (lo := 0) (n := n) (LcI X.K F B0 B1 D σ vs R b out) (L.start E1 hD) (fun i H hi' p => ?_) fun H p => ?_
  · have dx : Dp X.K B1 (.int ((0 : Int) + (i : Int))) (ds i) := by
      rw [hx i hi', Int.zero_add]; exact .int _
    exact L.turn bD hn hi' dx p
  · obtain ⟨B', E', s, dd⟩ := L.done bD fD p
    exact q _ B' H E' (b1.trans s) dd
end
end
end Fd
end

/-! part FdH -/
section
set_option Elab.async false
set_option linter.all false
set_option maxRecDepth 100000
set_option maxHeartbeats 1000000
namespace Fd
open PySem PySem.Spec PyProof.Rows L2

/-- a reading's value -/
def RdD (K : PySem.W.Frag) (t : TE) (ρ ρ' : List En) (r : Im) : Prop := ∀ (F B0 B H : Hp) (σ : Sl), Nv K F B0 B H σ ρ → ∀ Q : VK, (∀ v B' H', Nv K F B0 B' H' σ ρ' → Same B B' → r.ok K B' v → Q v H') → t σ H Q
theorem ed_of {X : Cx} {e : Expr} {t : TE} {ρ ρ' : List En} {r : Im} (h : PE X e t) (q : RdD X.K t ρ ρ' r) : ED X e ρ ρ' r := fun F B0 B H σ E Q k => wE.of h (q F B0 B H σ E Q k)
theorem setAll_len : ∀ {js : List Nat} {ds : List PyData} {ρ : List En}, (setAll ρ js ds).length = ρ.length
  | [], _, _ => by unfold setAll; rfl
  | _ :: _, [], _ => by unfold setAll; rfl
  | j :: js, d :: ds, ρ => by
    unfold setAll
    rw [setAll_len, List.length_set]
theorem setAll_out {k : Nat} : ∀ {js : List Nat} {ds : List PyData} {ρ : List En}, k ∉ js → (setAll ρ js ds)[k]? = ρ[k]?
  | [], _, _, _ => by unfold setAll; rfl
  | _ :: _, [], _, _ => by unfold setAll; rfl
  | j :: js, d :: ds, ρ, h => by
    unfold setAll
    rw [setAll_out fun z => h (List.mem_cons_of_mem _ z), List.getElem?_set_ne fun e => h (by rw [e]; exact List.mem_cons_self)]
def noAt (ρ : List En) (j : Nat) : Bool := match ρ[j]? with
  | some .no => true
  | none => true
  | _ => false
theorem noAt_own {ρ : List En} {vs : List Nat} (h : vs.all (noAt ρ) = true) : ∀ j ∈ vs, ∀ r, ρ[j]? = some r → r = .no := fun j hj r e => by
  have q := List.all_eq_true.mp h j hj
  unfold noAt at q
  rw [e] at q
  cases r with
  | no => rfl
  | im _ => cases q
  | mu _ => cases q
section
variable {X : Cx} {ρ ρ1 ρ2 ρ3 : List En} {scope : Scope} {iter elt tg : Expr} {ifs : List Expr} {vs : List Nat} {g : TG} {tt : TT} {β : Type} {xs : List β} {enc f : β → PyData} {p : β → Bool} {js : List Nat} {parts : β → List PyData}
/-- a list comprehension that changes nothing: its target's slots js get the parts of each item -/
theorem lc_pure {te : TE} (gt : ∀ x ∈ xs, GtD X.K g vs (enc x) ρ (setAll ρ js (parts x))) (hjs : ∀ j ∈ js, j ∈ vs) (ho : vs.all (noAt ρ) = true) (ht : ∀ x ∈ xs, TtD X.K tt (setAll ρ js (parts x)) (setAll ρ js (parts x)) (p x))
    (he : ∀ x ∈ xs, p x = true → ∀ (F B0 B H : Hp) (σ : Sl), Nv X.K F B0 B H σ (setAll ρ js (parts x)) → ∀ Q : VK, (∀ v B' H', Nv X.K F B0 B' H' σ (setAll ρ js (parts x)) → Same B B' → Dp X.K B' v (f x) → Q v H') → te σ H Q) :
    LcD X ρ vs xs.length (fun i => ((xs[i]?).map enc).getD .none) g tt te (fun _ => ρ) (fun i => ((xs[i]?).map fun x => setAll ρ js (parts x)).getD ρ) (fun i => ((xs[i]?).map fun x => setAll ρ js (parts x)).getD ρ) (fun i => ((xs[i]?).map fun x => setAll ρ js (parts x)).getD ρ)
      (fun i => ((xs[i]?).map p).getD false) (fun i => ((xs[i]?).map f).getD .none) := by
  have keep : ∀ x : β, ∀ (k : Nat) (r : En), ρ[k]? = some r → r ≠ .no → (setAll ρ js (parts x))[k]? = some r := fun x k r h hn => by
    have nk : k ∉ js := fun z => hn (noAt_own ho k (hjs k z) r h)
    rw [setAll_out nk]; exact h
  have at_ : ∀ i, i < xs.length → ∃ x, xs[i]? = some x ∧ x ∈ xs := fun i hi => ⟨xs[i], List.getElem?_eq_getElem hi, List.getElem_mem hi⟩
  refine ⟨fun i _ => noAt_own ho, fun i hi => ?_, fun i hi => ?_, fun i hi hb => ?_, fun i hi hb => ?_, fun i hi hb => ?_⟩
  · obtain ⟨x, e, hx⟩ := at_ i hi
    simp only [e, Option.map_some, Option.getD_some]
    exact gt x hx
  · obtain ⟨x, e, hx⟩ := at_ i hi
    simp only [e, Option.map_some, Option.getD_some]
    exact ht x hx
  · obtain ⟨x, e, hx⟩ := at_ i hi
    simp only [e, Option.map_some, Option.getD_some] at hb ⊢
    exact he x hx hb
  · obtain ⟨x, e, hx⟩ := at_ i hi
    simp only [e, Option.map_some, Option.getD_some]
    exact ⟨setAll_len.symm, keep x⟩
  · obtain ⟨x, e, hx⟩ := at_ i hi
    simp only [e, Option.map_some, Option.getD_some]
    exact ⟨setAll_len.symm, keep x⟩
theorem rd_lcL {te : TE} (hi : ED X iter ρ ρ (dat (.list (xs.map enc)))) (hn : xs.length < 100000)
    (L : LcD X ρ vs xs.length (fun i => ((xs[i]?).map enc).getD .none) g tt te (fun _ => ρ) (fun i => ((xs[i]?).map fun x => setAll ρ js (parts x)).getD ρ) (fun i => ((xs[i]?).map fun x => setAll ρ js (parts x)).getD ρ) (fun i => ((xs[i]?).map fun x => setAll ρ js (parts x)).getD ρ)
      (fun i => ((xs[i]?).map p).getD false) (fun i => ((xs[i]?).map f).getD .none)) : RdD X.K (tLc (iList X.K (wE X iter)) g tt te vs) ρ ρ (dat (.list ((xs.filter p).map f))) := fun F B0 B H σ E Q q => by
  refine L.list hi (fun i d h => ?_) (List.length_map ..) hn E fun v B' H' E' s dd => q v B' H' E' s ?_
  · rw [List.getElem?_map] at h
    rw [h]; rfl
  · rw [kept_map] at dd
    exact dd
theorem rd_lcT {te : TE} (hi : ED X iter ρ ρ (dat (.tuple (xs.map enc)))) (hn : xs.length < 100000)
    (L : LcD X ρ vs xs.length (fun i => ((xs[i]?).map enc).getD .none) g tt te (fun _ => ρ) (fun i => ((xs[i]?).map fun x => setAll ρ js (parts x)).getD ρ) (fun i => ((xs[i]?).map fun x => setAll ρ js (parts x)).getD ρ) (fun i => ((xs[i]?).map fun x => setAll ρ js (parts x)).getD ρ)
      (fun i => ((xs[i]?).map p).getD false) (fun i => ((xs[i]?).map f).getD .none)) : RdD X.K (tLc (iTup X.K (wE X iter)) g tt te vs) ρ ρ (dat (.list ((xs.filter p).map f))) := fun F B0 B H σ E Q q => by
  refine L.tuple hi (fun i d h => ?_) (List.length_map ..) hn E fun v B' H' E' s dd => q v B' H' E' s ?_
  · rw [List.getElem?_map] at h
    rw [h]; rfl
  · rw [kept_map] at dd
    exact dd
theorem ue_run {r : PyData} {ρ ρ' : List En} (h : UE X scope elt ρ ρ' (dat r)) : ∀ (F B0 B H : Hp) (σ : Sl), Nv X.K F B0 B H σ ρ → ∀ Q : VK, (∀ v B' H', Nv X.K F B0 B' H' σ ρ' → Same B B' → Dp X.K B' v r → Q v H') → uE X scope elt σ H Q :=
  fun F B0 B H σ E Q q s H0 C cl fp => h s H0 C cl fp F B0 B H σ E Q q
/-- [elt for name in list] -/
theorem rd_lcLn {j : Nat} (hi : ED X iter ρ ρ (dat (.list (xs.map enc)))) (hn : xs.length < 100000) (hj : j ∈ vs) (ho : vs.all (noAt ρ) = true) (he : ∀ x ∈ xs, UE X scope elt (ρ.set j (.im (dat (enc x)))) (ρ.set j (.im (dat (enc x)))) (dat (f x))) :
    RdD X.K (tLc (iList X.K (wE X iter)) (gName j) tYes (uE X scope elt) vs) ρ ρ (dat (.list (xs.map f))) := by
  have := rd_lcL (p := fun _ => true) (js := [j]) (parts := fun x => [enc x]) (f := f) hi hn (lc_pure (fun x _ => gt_name hj) (fun k hk => by rw [List.mem_singleton.mp hk]; exact hj) ho (fun _ _ => tt_yes) fun x hx _ => ue_run (he x hx))
  rw [List.filter_eq_self.mpr fun _ _ => rfl] at this
  exact this
theorem rd_lcTn {j : Nat} (hi : ED X iter ρ ρ (dat (.tuple (xs.map enc)))) (hn : xs.length < 100000) (hj : j ∈ vs) (ho : vs.all (noAt ρ) = true) (he : ∀ x ∈ xs, UE X scope elt (ρ.set j (.im (dat (enc x)))) (ρ.set j (.im (dat (enc x)))) (dat (f x))) :
    RdD X.K (tLc (iTup X.K (wE X iter)) (gName j) tYes (uE X scope elt) vs) ρ ρ (dat (.list (xs.map f))) := by
  have := rd_lcT (p := fun _ => true) (js := [j]) (parts := fun x => [enc x]) (f := f) hi hn (lc_pure (fun x _ => gt_name hj) (fun k hk => by rw [List.mem_singleton.mp hk]; exact hj) ho (fun _ _ => tt_yes) fun x hx _ => ue_run (he x hx))
  rw [List.filter_eq_self.mpr fun _ _ => rfl] at this
  exact this
/-- [elt for name in list if c] -/
theorem rd_lcLnI {j : Nat} {c : Expr} (hi : ED X iter ρ ρ (dat (.list (xs.map enc)))) (hn : xs.length < 100000) (hj : j ∈ vs) (ho : vs.all (noAt ρ) = true) (ht : ∀ x ∈ xs, UT X scope c (ρ.set j (.im (dat (enc x)))) (ρ.set j (.im (dat (enc x)))) (p x))
    (he : ∀ x ∈ xs, p x = true → UE X scope elt (ρ.set j (.im (dat (enc x)))) (ρ.set j (.im (dat (enc x)))) (dat (f x))) : RdD X.K (tLc (iList X.K (wE X iter)) (gName j) (uT X scope c) (uE X scope elt) vs) ρ ρ (dat (.list ((xs.filter p).map f))) :=
  rd_lcL (js := [j]) (parts := fun x => [enc x]) hi hn (lc_pure (fun x _ => gt_name hj) (fun k hk => by rw [List.mem_singleton.mp hk]; exact hj) ho (fun x hx => tt_u (ht x hx)) fun x hx hp => ue_run (he x hx hp))
/-- [elt for a, b, .. in list], with if -/
theorem rd_lcLt (hi : ED X iter ρ ρ (dat (.list (xs.map fun x => .tuple (parts x))))) (hn : xs.length < 100000) (hj : ∀ j ∈ js, j ∈ vs) (hl : ∀ x, (parts x).length = js.length) (ho : vs.all (noAt ρ) = true) (he : ∀ x ∈ xs, UE X scope elt (setAll ρ js (parts x)) (setAll ρ js (parts x)) (dat (f x))) :
    RdD X.K (tLc (iList X.K (wE X iter)) (gTup X.K js.length (gNames js)) tYes (uE X scope elt) vs) ρ ρ (dat (.list (xs.map f))) := by
  have := rd_lcL (p := fun _ => true) (js := js) (parts := parts) (f := f) hi hn (lc_pure (fun x _ => by have := gt_tup (K := X.K) (ρ := ρ) hj (hl x).symm; rw [hl x] at this; exact this) hj ho (fun _ _ => tt_yes) fun x hx _ => ue_run (he x hx))
  rw [List.filter_eq_self.mpr fun _ _ => rfl] at this
  exact this
theorem rd_lcTt (hi : ED X iter ρ ρ (dat (.tuple (xs.map fun x => .tuple (parts x))))) (hn : xs.length < 100000) (hj : ∀ j ∈ js, j ∈ vs) (hl : ∀ x, (parts x).length = js.length) (ho : vs.all (noAt ρ) = true) (he : ∀ x ∈ xs, UE X scope elt (setAll ρ js (parts x)) (setAll ρ js (parts x)) (dat (f x))) :
    RdD X.K (tLc (iTup X.K (wE X iter)) (gTup X.K js.length (gNames js)) tYes (uE X scope elt) vs) ρ ρ (dat (.list (xs.map f))) := by
  have := rd_lcT (p := fun _ => true) (js := js) (parts := parts) (f := f) hi hn (lc_pure (fun x _ => by have := gt_tup (K := X.K) (ρ := ρ) hj (hl x).symm; rw [hl x] at this; exact this) hj ho (fun _ _ => tt_yes) fun x hx _ => ue_run (he x hx))
  rw [List.filter_eq_self.mpr fun _ _ => rfl] at this
  exact this
theorem rd_lcLtI {c : Expr} (hi : ED X iter ρ ρ (dat (.list (xs.map fun x => .tuple (parts x))))) (hn : xs.length < 100000) (hj : ∀ j ∈ js, j ∈ vs) (hl : ∀ x, (parts x).length = js.length) (ho : vs.all (noAt ρ) = true) (ht : ∀ x ∈ xs, UT X scope c (setAll ρ js (parts x)) (setAll ρ js (parts x)) (p x))
    (he : ∀ x ∈ xs, p x = true → UE X scope elt (setAll ρ js (parts x)) (setAll ρ js (parts x)) (dat (f x))) : RdD X.K (tLc (iList X.K (wE X iter)) (gTup X.K js.length (gNames js)) (uT X scope c) (uE X scope elt) vs) ρ ρ (dat (.list ((xs.filter p).map f))) :=
  rd_lcL (js := js) (parts := parts) hi hn (lc_pure (fun x _ => by have := gt_tup (K := X.K) (ρ := ρ) hj (hl x).symm; rw [hl x] at this; exact this) hj ho (fun x hx => tt_u (ht x hx)) fun x hx hp => ue_run (he x hx hp))
end

/-! ### a def's promise over data, its call -/
def spD (φ : List Im → Im → Prop) (K : PySem.W.Frag) : Sp := fun vs H Q _ => ∃ (B : Hp) (rs : List Im) (r : Im), Same B H ∧ Ims K B vs rs ∧ φ rs r ∧ ∀ v B' H', Grow B H B' H' → r.ok K B' v → Q v H'
theorem Ims.len {K : PySem.W.Frag} {B : Hp} : ∀ {vs : List V} {rs : List Im}, Ims K B vs rs → vs.length = rs.length
  | _, _, .nil => rfl
  | _, _, .cons _ t => by rw [List.length_cons, List.length_cons, Ims.len t]
theorem Ims.get {K : PySem.W.Frag} {B : Hp} : ∀ {vs : List V} {rs : List Im} {i : Nat} {r : Im}, Ims K B vs rs → rs[i]? = some r → ∃ v, vs[i]? = some v ∧ r.ok K B v
  | _, _, _, _, .nil, h => by simp at h
  | _, _, 0, _, .cons h1 _, h => by simp at h; subst h; exact ⟨_, rfl, h1⟩
  | _, _, i + 1, v, .cons _ t, h => by
    obtain ⟨d, h1, h2⟩ := Ims.get (i := i) t (by simpa using h)
    exact ⟨d, by simpa using h1, h2⟩
/-- the slots at a def's entry -/
def entry (N : List Str) (rs : List Im) : List En := rs.map .im ++ List.replicate (N.length - rs.length) .no
theorem nv_entry {K : PySem.W.Frag} {B H : Hp} {N : List Str} {vs : List V} {rs : List Im} (bh : Same B H) (h : Ims K B vs rs) : Nv K H B B H (L2.start N vs) (entry N rs) where
  fH := Same.refl _
  bH := bh
  b0 := Same.refl _
  fr := fun _ z => .inl z
  len := by
    unfold entry L2.start
    rw [List.length_append, List.length_append, List.length_map, List.length_map, List.length_replicate, List.length_replicate, h.len]
  ent := fun i r e hn => by
    unfold entry at e
    unfold L2.start
    by_cases hi : i < rs.length
    · rw [List.getElem?_append_left (by rw [List.length_map]; exact hi), List.getElem?_map] at e
      cases q : rs[i]? with
      | none => rw [q] at e; cases e
      | some r0 =>
        rw [q] at e
        cases e
        obtain ⟨v, hv, ok⟩ := h.get q
        refine ⟨v, ?_, ok⟩
        rw [List.getElem?_append_left (by rw [List.length_map, h.len]; exact hi), List.getElem?_map, hv]
        rfl
    · rw [List.getElem?_append_right (by rw [List.length_map]; omega), List.getElem?_replicate] at e
      split at e
      · cases e; exact absurd rfl hn
      · cases e
  ap := fun i j v r r' _ _ h3 _ m1 _ => by
    exfalso
    unfold entry at h3
    by_cases hi : i < rs.length
    · rw [List.getElem?_append_left (by rw [List.length_map]; exact hi), List.getElem?_map] at h3
      cases q : rs[i]? with
      | none => rw [q] at h3; cases h3
      | some r0 => rw [q] at h3; cases h3; cases m1
    · rw [List.getElem?_append_right (by rw [List.length_map]; omega), List.getElem?_replicate] at h3
      split at h3
      · cases h3; cases m1
      · cases h3
  fz := fun a z => bh.free z
section
variable {P : Program} {w : World} {K : PySem.W.Frag} {mg : Str → Option Value} {base : Heap}
/-- THE RULE for a def that hands back data -/
theorem fn_D {x qual : Str} {st : Stmt} {f : Addr} {fd : FuncData} {N ps : List Str} {k : Nat} {φ : List Im → Im → Prop} (Fn : L2.Fun K x qual st f fd) (S : FnScope N ps (defScope st)) (len : ∀ rs r, φ rs r → rs.length = ps.length)
    (body : ∀ (cdv : Value) (A : Around) (outer : List Env) (s : Shared) (H : Hp) (E : XK), Room k (A.deeper (envOfC qual (defScope st) s.heap.objs.size f cdv)) → ∀ rs r, φ rs r →
      SD (cxOf CX0 P w K mg base N qual (defScope st) f cdv A outer s H E).nox (defBody st) (entry N rs) { nx := fun _ => False, rt := fun _ r' => r' = r }) : FnOk P w K mg base CX0 (k + 1) f fd ps (spD φ K) := by
  refine Fn.ok S (fun vs H Q E h => ?_) (fun cdv A outer s H vs Q E hr h => ?_)
  · obtain ⟨B, rs, r, _, h2, h3, _⟩ := h
    rw [h2.len]; exact len rs r h3
  · refine ⟨wSs _ _, pss_w, ?_⟩
    obtain ⟨B, rs, r, bh, h2, h3, q⟩ := h
    refine body cdv A outer s H E hr rs r h3 H B B H _ _ (nv_entry bh h2) ⟨fun _ _ _ _ z => z.elim, fun ρ r' σ B' H' v e E' s' ok => ?_, fun _ _ _ _ z => z.elim, fun _ _ _ _ z => z.elim⟩
    subst e
    exact q v B' H' ⟨s', E'.bH, E'.fH, E'.fr⟩ ok
end
section
variable {X : Cx} {ρ ρ1 ρ2 : List En} {x : Str} {e : Expr} {es : List Expr} {pos p : Pos} {rs : List Im} {r : Im} {k : Nat} {f : Addr} {fd : FuncData} {ps : List Str} {φ : List Im → Im → Prop}
theorem ed_call (Fn : FnOk X.prog X.w X.K X.mg X.base CX0 k f fd ps (spD φ X.K)) (hr : Room k X.A) (hm : X.mg x = some (.ref f)) (hk : PySem.W.keepIn X.K (.ref f) = true) (hb : Binds X.K fd ps []) (ha : AD X (e :: es) ρ ρ1 rs) (h : φ rs r) (hg : Gl X x := by rfl) (hdb : (x == ("__debug__" : Str)) = false := by decide)
    (he : starEach (e :: es) X.env = (false, eval e X.env) :: starEach es X.env := by rfl) (hpl : (backTo pos (starEach es X.env)).any (·.1) = false := by rfl) : ED X (.Call (.Name x p) (e :: es) [] pos) ρ ρ1 r := by
  intro F B0 B H σ E Q q
  refine wE.of (pe_call Fn hr hg hm hk hb .nil pass0 pa_w hdb he hpl) (ha F B0 B H σ E _ fun vs B1 H1 E1 b1 ok1 => ?_)
  rw [List.append_nil]
  exact ⟨B1, rs, r, E1.bH, ok1, h, fun v B2 H2 g ok2 => q v B2 H2 (E1.grow g) (b1.trans g.bb) ok2⟩
end
end Fd
end

/-! part FdI -/
section
set_option Elab.async false
set_option linter.all false
set_option maxRecDepth 100000
set_option maxHeartbeats 1000000
namespace Fd
open PySem PySem.Spec PyProof.Rows L2
section
variable {X : Cx} {ρ ρ1 ρ2 ρ3 : List En} {a b c e : Expr} {st : Stmt} {rest body orelse : List Stmt} {pos p p2 : Pos} {r : Im} {P : Post}
/-! where nothing own changes -/
theorem sd_retP (h : ED X e ρ ρ r) (k : P.rt ρ r) : SD X (.Return (some e) pos :: rest) ρ P := sd_ret h k
theorem sd_retR {r' : Im} (h : ED X e ρ ρ r) (k : r = r') : SD X (.Return (some e) pos :: rest) ρ { nx := fun _ => False, rt := fun _ r => r = r' } := sd_ret h k
theorem sd_setP {x : Str} {pos' : Pos} (i : Nat) (h : ED X e ρ ρ r) (k : SD X rest (ρ.set i (.im r)) P) (hN : X.N.Nodup) (hi : X.N[i]? = some x := by rfl) (hx : Loc X.env.scope x := by first | exact Or.inl rfl | exact Or.inr rfl) (hs : swapsWith e (some (.Name x pos')) pos.line X.env = pure false := by rfl)
    (hf : X.fn x = true ∨ X.env.scope.names.lookup x = some .local := by first | exact .inl rfl | exact .inr rfl) : SD X (.Assign [.Name x pos'] e pos :: rest) ρ P := sd_set i h k hN hi hx hs hf
theorem sd_ifP {q : Bool} (h : TD X c ρ ρ q) (h1 : q = true → SD X body ρ { P with nx := fun ρ' => SD X rest ρ' P }) (h2 : q = false → SD X orelse ρ { P with nx := fun ρ' => SD X rest ρ' P }) : SD X (.If c body orelse pos :: rest) ρ P := sd_if h h1 h2
/-- name = [..], on one line -/
theorem sd_setOf {x : Str} {pos' : Pos} {t : TE} (i : Nat) (hp : PS X (.Assign [.Name x pos'] e pos) (tAsg t (gName i))) (h : RdD X.K t ρ ρ1 r) (k : SD X rest (ρ1.set i (.im r)) P) : SD X (.Assign [.Name x pos'] e pos :: rest) ρ P :=
  sd_of hp fun F B0 B H σ D E f => h F B0 B H σ E _ fun v B1 H1 E1 b1 ok1 => f.nx _ _ B1 H1 k (E1.set ok1) b1
end
end Fd
end

/-! part FdJ -/
section
set_option Elab.async false
set_option linter.all false
set_option maxRecDepth 100000
set_option maxHeartbeats 1000000
namespace Fd
open PySem PySem.Spec PyProof.Rows L2
section
variable {X : Cx} {scope : Scope}
/-- targets in a block -/
abbrev BG (X : Cx) (scope : Scope) (tg : Expr) (g : TG) : Prop := ∀ (s : Shared) (H : Hp) (C : Addr) (cl : List (Str × Addr)) (fp : List Addr), PG (X.blk s H scope (compEnvC scope cl C X.env) fp) tg g
theorem bg1 {x : Str} {pos : Pos} {j : Nat} (hN : X.N.Nodup) (hi : X.N[j]? = some x := by rfl) (hx : Loc (relS scope X.env.scope) x := by first | exact Or.inl rfl | exact Or.inr rfl) (hf : (scope.names.lookup x == some .cell) = true ∨ (relS scope X.env.scope).names.lookup x = some .local := by first | exact .inr rfl | exact .inl rfl) : BG X scope (.Name x pos) (gName j) :=
  fun s H C cl fp => pg_name hN hi hx hf
theorem bg2 {x y : Str} {p1 p2 pos : Pos} {i j k : Nat} (hN : X.N.Nodup) (hc : X.calm = true) (hi : X.N[i]? = some x := by rfl) (hj : X.N[j]? = some y := by rfl) (hx : Loc (relS scope X.env.scope) x := by first | exact Or.inl rfl | exact Or.inr rfl) (hy : Loc (relS scope X.env.scope) y := by first | exact Or.inl rfl | exact Or.inr rfl)
    (hf : (scope.names.lookup x == some .cell) = true ∨ (relS scope X.env.scope).names.lookup x = some .local := by first | exact .inr rfl | exact .inl rfl) (hf2 : (scope.names.lookup y == some .cell) = true ∨ (relS scope X.env.scope).names.lookup y = some .local := by first | exact .inr rfl | exact .inl rfl) :
    BG X scope (.Tuple [.Name x p1, .Name y p2] k pos) (gTup X.K 2 (gNames [i, j])) :=
  fun s H C cl fp => pg_tup hc (pgs_cons (pg_name hN hi hx hf) (pgs_cons (pg_name hN hj hy hf2) pgs_nil))
theorem bg3 {x y z : Str} {p1 p2 p3 pos : Pos} {i j l k : Nat} (hN : X.N.Nodup) (hc : X.calm = true) (hi : X.N[i]? = some x := by rfl) (hj : X.N[j]? = some y := by rfl) (hl : X.N[l]? = some z := by rfl) (hx : Loc (relS scope X.env.scope) x := by first | exact Or.inl rfl | exact Or.inr rfl) (hy : Loc (relS scope X.env.scope) y := by first | exact Or.inl rfl | exact Or.inr rfl) (hz : Loc (relS scope X.env.scope) z := by first | exact Or.inl rfl | exact Or.inr rfl)
    (hf : (scope.names.lookup x == some .cell) = true ∨ (relS scope X.env.scope).names.lookup x = some .local := by first | exact .inr rfl | exact .inl rfl) (hf2 : (scope.names.lookup y == some .cell) = true ∨ (relS scope X.env.scope).names.lookup y = some .local := by first | exact .inr rfl | exact .inl rfl)
    (hf3 : (scope.names.lookup z == some .cell) = true ∨ (relS scope X.env.scope).names.lookup z = some .local := by first | exact .inr rfl | exact .inl rfl) :
    BG X scope (.Tuple [.Name x p1, .Name y p2, .Name z p3] k pos) (gTup X.K 3 (gNames [i, j, l])) :=
  fun s H C cl fp => pg_tup hc (pgs_cons (pg_name hN hi hx hf) (pgs_cons (pg_name hN hj hy hf2) (pgs_cons (pg_name hN hl hz hf3) pgs_nil)))
variable {ρ : List En} {own : List (Str × Nat)} {iter elt tg c : Expr} {g : TG} {pos : Pos} {β : Type} {xs : List β} {enc f : β → PyData} {p : β → Bool} {js : List Nat} {parts : β → List PyData} {j : Nat}
/-- [elt for x in a list] -/
theorem ed_lcN (xs : List β) (enc f : β → PyData) (hi : ED X iter ρ ρ (dat (.list (xs.map enc)))) (he : ∀ x ∈ xs, UE X scope elt (ρ.set j (.im (dat (enc x)))) (ρ.set j (.im (dat (enc x)))) (dat (f x))) (ok : BlkOk X.N X.env.scope scope own) (hN : X.N.Nodup) (hc : X.calm = true) (hg : BG X scope tg (gName j)) (hn : xs.length < 100000)
    (hj : j ∈ own.map (·.2) := by decide) (ho : (own.map (·.2)).all (noAt ρ) = true := by rfl) (hs : ∀ x, foldedSetIterable iter X.env x = pure x := by intro _; rfl) : ED X (.ListComp elt [⟨tg, iter, [], 0⟩] scope pos) ρ ρ (dat (.list (xs.map f))) :=
  ed_of (pe_lc (own := own) hc hN (pi_list pe_w) ok hg (fun _ _ _ _ _ => pts_nil) (fun s H C cl fp => pe_u s H C cl fp) hs) (rd_lcLn hi hn hj ho he)
theorem ed_lcNI (xs : List β) (enc f : β → PyData) (p : β → Bool) (hi : ED X iter ρ ρ (dat (.list (xs.map enc)))) (ht : ∀ x ∈ xs, UT X scope c (ρ.set j (.im (dat (enc x)))) (ρ.set j (.im (dat (enc x)))) (p x)) (he : ∀ x ∈ xs, p x = true → UE X scope elt (ρ.set j (.im (dat (enc x)))) (ρ.set j (.im (dat (enc x)))) (dat (f x))) (ok : BlkOk X.N X.env.scope scope own) (hN : X.N.Nodup) (hc : X.calm = true) (hg : BG X scope tg (gName j)) (hn : xs.length < 100000)
    (hj : j ∈ own.map (·.2) := by decide) (ho : (own.map (·.2)).all (noAt ρ) = true := by rfl) (hs : ∀ x, foldedSetIterable iter X.env x = pure x := by intro _; rfl) : ED X (.ListComp elt [⟨tg, iter, [c], 0⟩] scope pos) ρ ρ (dat (.list ((xs.filter p).map f))) :=
  ed_of (pe_lc (own := own) hc hN (pi_list pe_w) ok hg (fun s H C cl fp => pts_one (pt_u s H C cl fp)) (fun s H C cl fp => pe_u s H C cl fp) hs) (rd_lcLnI hi hn hj ho ht he)
/-- [elt for x in a tuple] -/
theorem ed_lcTN (xs : List β) (enc f : β → PyData) (hi : ED X iter ρ ρ (dat (.tuple (xs.map enc)))) (he : ∀ x ∈ xs, UE X scope elt (ρ.set j (.im (dat (enc x)))) (ρ.set j (.im (dat (enc x)))) (dat (f x))) (ok : BlkOk X.N X.env.scope scope own) (hN : X.N.Nodup) (hc : X.calm = true) (hg : BG X scope tg (gName j)) (hn : xs.length < 100000)
    (hj : j ∈ own.map (·.2) := by decide) (ho : (own.map (·.2)).all (noAt ρ) = true := by rfl) (hs : ∀ x, foldedSetIterable iter X.env x = pure x := by intro _; rfl) : ED X (.ListComp elt [⟨tg, iter, [], 0⟩] scope pos) ρ ρ (dat (.list (xs.map f))) :=
  ed_of (pe_lc (own := own) hc hN (pi_tup pe_w) ok hg (fun _ _ _ _ _ => pts_nil) (fun s H C cl fp => pe_u s H C cl fp) hs) (rd_lcTn hi hn hj ho he)
/-- [elt for a, b in a list], in a tuple -/
theorem ed_lcP (js : List Nat) (xs : List β) (parts : β → List PyData) (f : β → PyData) (hi : ED X iter ρ ρ (dat (.list (xs.map fun x => .tuple (parts x))))) (he : ∀ x ∈ xs, UE X scope elt (setAll ρ js (parts x)) (setAll ρ js (parts x)) (dat (f x))) (ok : BlkOk X.N X.env.scope scope own) (hN : X.N.Nodup) (hc : X.calm = true) (hg : BG X scope tg (gTup X.K js.length (gNames js))) (hn : xs.length < 100000)
    (hl : ∀ x, (parts x).length = js.length := by intro _; rfl) (hj : ∀ j ∈ js, j ∈ own.map (·.2) := by decide) (ho : (own.map (·.2)).all (noAt ρ) = true := by rfl) (hs : ∀ x, foldedSetIterable iter X.env x = pure x := by intro _; rfl) : ED X (.ListComp elt [⟨tg, iter, [], 0⟩] scope pos) ρ ρ (dat (.list (xs.map f))) :=
  ed_of (pe_lc (own := own) hc hN (pi_list pe_w) ok hg (fun _ _ _ _ _ => pts_nil) (fun s H C cl fp => pe_u s H C cl fp) hs) (rd_lcLt hi hn hj hl ho he)
theorem ed_lcTP (js : List Nat) (xs : List β) (parts : β → List PyData) (f : β → PyData) (hi : ED X iter ρ ρ (dat (.tuple (xs.map fun x => .tuple (parts x))))) (he : ∀ x ∈ xs, UE X scope elt (setAll ρ js (parts x)) (setAll ρ js (parts x)) (dat (f x))) (ok : BlkOk X.N X.env.scope scope own) (hN : X.N.Nodup) (hc : X.calm = true) (hg : BG X scope tg (gTup X.K js.length (gNames js))) (hn : xs.length < 100000)
    (hl : ∀ x, (parts x).length = js.length := by intro _; rfl) (hj : ∀ j ∈ js, j ∈ own.map (·.2) := by decide) (ho : (own.map (·.2)).all (noAt ρ) = true := by rfl) (hs : ∀ x, foldedSetIterable iter X.env x = pure x := by intro _; rfl) : ED X (.ListComp elt [⟨tg, iter, [], 0⟩] scope pos) ρ ρ (dat (.list (xs.map f))) :=
  ed_of (pe_lc (own := own) hc hN (pi_tup pe_w) ok hg (fun _ _ _ _ _ => pts_nil) (fun s H C cl fp => pe_u s H C cl fp) hs) (rd_lcTt hi hn hj hl ho he)
theorem ed_lcPI (js : List Nat) (xs : List β) (parts : β → List PyData) (f : β → PyData) (p : β → Bool) (hi : ED X iter ρ ρ (dat (.list (xs.map fun x => .tuple (parts x))))) (ht : ∀ x ∈ xs, UT X scope c (setAll ρ js (parts x)) (setAll ρ js (parts x)) (p x)) (he : ∀ x ∈ xs, p x = true → UE X scope elt (setAll ρ js (parts x)) (setAll ρ js (parts x)) (dat (f x))) (ok : BlkOk X.N X.env.scope scope own) (hN : X.N.Nodup) (hc : X.calm = true) (hg : BG X scope tg (gTup X.K js.length (gNames js))) (hn : xs.length < 100000)
    (hl : ∀ x, (parts x).length = js.length := by intro _; rfl) (hj : ∀ j ∈ js, j ∈ own.map (·.2) := by decide) (ho : (own.map (·.2)).all (noAt ρ) = true := by rfl) (hs : ∀ x, foldedSetIterable iter X.env x = pure x := by intro _; rfl) : ED X (.ListComp elt [⟨tg, iter, [c], 0⟩] scope pos) ρ ρ (dat (.list ((xs.filter p).map f))) :=
  ed_of (pe_lc (own := own) hc hN (pi_list pe_w) ok hg (fun s H C cl fp => pts_one (pt_u s H C cl fp)) (fun s H C cl fp => pe_u s H C cl fp) hs) (rd_lcLtI hi hn hj hl ho ht he)
/-! name = [..] on one line -/
variable {P : Post} {rest : List Stmt} {y : Str} {py spos : Pos}
theorem sd_lcN (i : Nat) (xs : List β) (enc f : β → PyData) (hi : ED X iter ρ ρ (dat (.list (xs.map enc)))) (he : ∀ x ∈ xs, UE X scope elt (ρ.set j (.im (dat (enc x)))) (ρ.set j (.im (dat (enc x)))) (dat (f x))) (k : SD X rest (ρ.set i (.im (dat (.list (xs.map f))))) P) (ok : BlkOk X.N X.env.scope scope own) (hN : X.N.Nodup) (hc : X.calm = true) (hg : BG X scope tg (gName j)) (hn : xs.length < 100000)
    (hy : X.N[i]? = some y := by rfl) (hyl : X.env.scope.names.lookup y = some .local := by rfl) (hsw : swapsWith (.ListComp elt [⟨tg, iter, [], 0⟩] scope pos) (some (.Name y py)) spos.line X.env = pure true := by exact sw_true rfl rfl rfl (by decide +kernel))
    (hj : j ∈ own.map (·.2) := by decide) (ho : (own.map (·.2)).all (noAt ρ) = true := by rfl) (hs : ∀ x, foldedSetIterable iter X.env x = pure x := by intro _; rfl) : SD X (.Assign [.Name y py] (.ListComp elt [⟨tg, iter, [], 0⟩] scope pos) spos :: rest) ρ P :=
  sd_setOf i (ps_setLc (own := own) hc hN hy hyl hsw (pi_list pe_w) ok hg (fun _ _ _ _ _ => pts_nil) (fun s H C cl fp => pe_u s H C cl fp) hs) (rd_lcLn hi hn hj ho he) k
theorem sd_lcNI (i : Nat) (xs : List β) (enc f : β → PyData) (p : β → Bool) (hi : ED X iter ρ ρ (dat (.list (xs.map enc)))) (ht : ∀ x ∈ xs, UT X scope c (ρ.set j (.im (dat (enc x)))) (ρ.set j (.im (dat (enc x)))) (p x)) (he : ∀ x ∈ xs, p x = true → UE X scope elt (ρ.set j (.im (dat (enc x)))) (ρ.set j (.im (dat (enc x)))) (dat (f x))) (k : SD X rest (ρ.set i (.im (dat (.list ((xs.filter p).map f))))) P) (ok : BlkOk X.N X.env.scope scope own) (hN : X.N.Nodup) (hc : X.calm = true) (hg : BG X scope tg (gName j)) (hn : xs.length < 100000)
    (hy : X.N[i]? = some y := by rfl) (hyl : X.env.scope.names.lookup y = some .local := by rfl) (hsw : swapsWith (.ListComp elt [⟨tg, iter, [c], 0⟩] scope pos) (some (.Name y py)) spos.line X.env = pure true := by exact sw_true rfl rfl rfl (by decide +kernel))
    (hj : j ∈ own.map (·.2) := by decide) (ho : (own.map (·.2)).all (noAt ρ) = true := by rfl) (hs : ∀ x, foldedSetIterable iter X.env x = pure x := by intro _; rfl) : SD X (.Assign [.Name y py] (.ListComp elt [⟨tg, iter, [c], 0⟩] scope pos) spos :: rest) ρ P :=
  sd_setOf i (ps_setLc (own := own) hc hN hy hyl hsw (pi_list pe_w) ok hg (fun s H C cl fp => pts_one (pt_u s H C cl fp)) (fun s H C cl fp => pe_u s H C cl fp) hs) (rd_lcLnI hi hn hj ho ht he) k
theorem sd_lcPI (i : Nat) (js : List Nat) (xs : List β) (parts : β → List PyData) (f : β → PyData) (p : β → Bool) (hi : ED X iter ρ ρ (dat (.list (xs.map fun x => .tuple (parts x))))) (ht : ∀ x ∈ xs, UT X scope c (setAll ρ js (parts x)) (setAll ρ js (parts x)) (p x)) (he : ∀ x ∈ xs, p x = true → UE X scope elt (setAll ρ js (parts x)) (setAll ρ js (parts x)) (dat (f x))) (k : SD X rest (ρ.set i (.im (dat (.list ((xs.filter p).map f))))) P) (ok : BlkOk X.N X.env.scope scope own) (hN : X.N.Nodup) (hc : X.calm = true) (hg : BG X scope tg (gTup X.K js.length (gNames js))) (hn : xs.length < 100000)
    (hl : ∀ x, (parts x).length = js.length := by intro _; rfl) (hy : X.N[i]? = some y := by rfl) (hyl : X.env.scope.names.lookup y = some .local := by rfl) (hsw : swapsWith (.ListComp elt [⟨tg, iter, [c], 0⟩] scope pos) (some (.Name y py)) spos.line X.env = pure true := by exact sw_true rfl rfl rfl (by decide +kernel))
    (hj : ∀ j ∈ js, j ∈ own.map (·.2) := by decide) (ho : (own.map (·.2)).all (noAt ρ) = true := by rfl) (hs : ∀ x, foldedSetIterable iter X.env x = pure x := by intro _; rfl) : SD X (.Assign [.Name y py] (.ListComp elt [⟨tg, iter, [c], 0⟩] scope pos) spos :: rest) ρ P :=
  sd_setOf i (ps_setLc (own := own) hc hN hy hyl hsw (pi_list pe_w) ok hg (fun s H C cl fp => pts_one (pt_u s H C cl fp)) (fun s H C cl fp => pe_u s H C cl fp) hs) (rd_lcLtI hi hn hj hl ho ht he) k
end
end Fd
end

/-! part FdK -/
section
set_option Elab.async false
set_option linter.all false
set_option maxRecDepth 100000
set_option maxHeartbeats 1000000
namespace Fd
open PySem PySem.Spec PyProof.Rows L2

/-! ### d != e, dicts of flat values -/
def sameD (kvs kws : List (Str × PyData)) : Bool := kvs.all fun p => match look kws p.1 with
  | some d => PyData.eqv p.2 d
  | none => false
theorem eqv_V2 {K : PySem.W.Frag} {H H' : Hp} {v u : V} {d e : PyData} (h : Dp K H v d) (k : Dp K H' u e) (f : flatD d = true) (g : flatD e = true) : eqV v u = PyData.eqv d e := by
  cases h <;> first | (exact absurd f Bool.false_ne_true) | (cases k <;> first | (exact absurd g Bool.false_ne_true) | rfl | (simp [eqV, PyData.eqv]))
section
variable {X : Cx} {pins : List (Addr × Obj)} {σ : Sl} {H : Hp} {s : Shared} {K : PySem.W.Frag}
theorem hits_of {A : Around} {B C : Hp} {kw : List (Key × V)} {kws : List (Str × PyData)} {vb : List (Key × Value)} (rb : KV kw vb) (kb : KvR K C kw kws) (fb : ∀ p ∈ kws, flatD p.2 = true) : ∀ {kv : List (Key × V)} {kvs : List (Str × PyData)} {va : List (Key × Value)}, KV kv va → KvR K B kv kvs → (∀ p ∈ kvs, flatD p.2 = true) →
    PySem.W.KeqHits A s vb va (sameD kvs kws)
  | _, _, _, .nil, .nil, _ => .nil
  | _, _, _, .cons (a := p) (b := u) ⟨e1, r1⟩ ta, .cons (b := q) ⟨e2, d2⟩ tb, f => by
    have ih := hits_of (A := A) rb kb fb ta tb fun p hp => f p (List.mem_cons_of_mem _ hp)
    have l1 := kv_look q.1 kb
    have l2 := rb.val (.inr q.1 : Key)
    have eu : u.1 = .inr q.1 := e1.symm.trans e2
    obtain ⟨uk, uv⟩ := u
    cases eu
    unfold sameD
    rw [List.all_cons]
    cases hl : look kws q.1 with
    | none =>
      rw [hl] at l1
      cases hv : valV kw (.inr q.1) with
      | some v => rw [hv] at l1; exact False.elim l1
      | none =>
        rw [hv] at l2
        exact .miss (RelO.none_of l2)
    | some d =>
      rw [hl] at l1
      cases hv : valV kw (.inr q.1) with
      | none => rw [hv] at l1; exact False.elim l1
      | some v =>
        rw [hv] at l1 l2
        obtain ⟨y, hy, ry⟩ := RelO.some_of l2
        have fd : flatD d = true := by
          have hm : ∃ p ∈ kws, p.2 = d := by
            unfold look at hl
            cases hf : kws.find? fun p => decide (p.1 = q.1) with
            | none => rw [hf] at hl; cases hl
            | some p => rw [hf] at hl; cases hl; exact ⟨p, List.mem_of_find?_eq_some hf, rfl⟩
          obtain ⟨p, hp, e⟩ := hm
          rw [← e]; exact fb p hp
        have fq : flatD q.2 = true := f q List.mem_cons_self
        have e := eqAt_V (A := A) (s := s) r1 ry (flat_dp d2 fq) (flat_dp l1 fd)
        rw [eqv_V2 d2 l1 fq fd] at e
        exact .hit hy e ih
def rNeDct (K : PySem.W.Frag) : R2 := fun x y H Q => ∃ a b kv kw kvs kws B C, x = .ref a ∧ y = .ref b ∧ Rd H a (.dK kv) ∧ Rd H b (.dK kw) ∧ KvR K B kv kvs ∧ KvR K C kw kws ∧ (∀ p ∈ kvs, flatD p.2 = true) ∧ (∀ p ∈ kws, flatD p.2 = true) ∧ Q (.bl (!(kvs.length == kws.length && sameD kvs kws))) H
theorem op_neDct (hu : X.A.units < cLine) : OpR X (compareOp .NotEq) (rNeDct X.K) := by
  intro pins s σ H x y v u Q I rx ry h
  obtain ⟨a, b, kv, kw, kvs, kws, B, C, rfl, rfl, ha, hb, ka, kb, fa, fb, q⟩ := h
  cases rx
  cases ry
  obtain ⟨_, ya, va, ra, da⟩ := dk_rd I.hok ha
  obtain ⟨_, yb, vb, rb, db⟩ := dk_rd I.hok hb
  refine PySem.W.keq_ne (knd := mixKind X.prog X.w) (r := sameD kvs kws) ya yb da db hu (fun _ => hits_of rb kb fb ra ka fa) ?_
  rw [← ra.length, ← rb.length, kv_len ka, kv_len kb]
  exact ⟨.bl _, H, I, rfl, q⟩
end
section
variable {X : Cx} {ρ ρ1 ρ2 ρ3 : List En} {a b c e f : Expr} {st : Stmt} {rest body : List Stmt} {pos p p2 px apos cpos : Pos} {r : Im} {P : Post} {kvs kws : List (Str × PyData)} {k : Str} {d d' : PyData} {x : Str}
theorem cd_neDct (hu : X.A.units < cLine) (ha : ED X a ρ ρ1 (dct kvs)) (hb : ED X b ρ1 ρ2 (dct kws)) (fa : ∀ p ∈ kvs, flatD p.2 = true) (fb : ∀ p ∈ kws, flatD p.2 = true) : CD X .NotEq a b ρ ρ2 (!(kvs.length == kws.length && sameD kvs kws)) :=
  cd_op (op_neDct hu) ha hb (R2D.pure fun B H x y bh ⟨p, kv, e1, h1, r1⟩ ⟨q, kw, e2, h2, r2⟩ => ⟨_, .bl _, fun Q k => ⟨p, q, kv, kw, kvs, kws, B, B, e1, e2, rd_mono bh h1, rd_mono bh h2, r1, r2, fa, fb, k⟩⟩)
/-! ### dict(list of pairs) -/
def prD (p : Str × PyData) : PyData := .tuple [.str p.1, p.2]
theorem pairs_dps {K : PySem.W.Frag} {H B : Hp} (bh : Same B H) : ∀ {ps : List (Str × PyData)} {vs : List V}, DpAll K B vs (ps.map prD) → ∃ (as : List Addr) (kv : List (Key × V)), vs = as.map V.ref ∧ Paired (fun p kv => SqT K H p [kV kv.1, kv.2]) as kv ∧ KvR K B kv ps
  | [], _, h => by cases h; exact ⟨[], [], rfl, .nil, .nil⟩
  | p :: ps, _, h => by
    cases h with
    | cons h1 h2 =>
      obtain ⟨as, kv, rfl, hp, hk⟩ := pairs_dps bh h2
      have h1 : Dp K B _ (.tuple [.str p.1, p.2]) := h1
      cases h1 with
      | @tup a xs _ h3 h4 =>
        cases h4 with
        | cons h5 h6 =>
          cases h6 with
          | cons h7 h8 =>
            cases h8
            cases h5
            exact ⟨a :: as, (.inr p.1, _) :: kv, rfl, .cons (same_sqT bh h3) hp, .cons ⟨rfl, h7⟩ hk⟩
theorem ed_dictP {ps : List (Str × PyData)} (h : ED X e ρ ρ1 (dat (.list (ps.map prD)))) (hc : X.calm = true) (hm : X.mg "dict" = none) (hg : Gl X "dict" := by rfl) (he : starEach [e] X.env = (false, eval e X.env) :: starEach [] X.env := by rfl) : ED X (.Call (.Name "dict" p) [e] [] pos) ρ ρ1 (dct (mergeD [] ps)) :=
  ed_callT (call_dictP hc) (ad_one h he) (fun B H vs bh ok Q q => by
    obtain ⟨v, rfl, k1⟩ := ims1 ok
    clear ok
    cases k1 with
    | lst h1 h2 =>
      obtain ⟨as, kv, rfl, hp, hk⟩ := pairs_dps bh h2
      exact ⟨_, as, kv, rfl, bh.seq h1, hp, fun l hl => q _ _ _ (Grow.new bh hl) ⟨l, _, rfl, .inl upd_same, kv_mono (Grow.new (o := .dK (mergeK [] kv)) bh hl).bb (kv_merge hk .nil)⟩⟩) hm (by decide +kernel) hg (by decide) (by decide) he
/-! ### list(d.items()) -/
theorem dps_refs {K : PySem.W.Frag} {B : Hp} : ∀ {ts : List Addr} {kv : List (Key × V)} {kvs : List (Str × PyData)} {H : Hp}, Paired (fun (t : Addr) (q : Key × V) => H t = some (.tup [kV q.1, q.2])) ts kv → (∀ t ∈ ts, B t = H t) → KvR K B kv kvs → DpAll K B (ts.map V.ref) (kvs.map prD)
  | _, _, _, _, .nil, _, .nil => .nil
  | t :: ts, q :: kv, r :: kvs, H, .cons h1 h2, hb, .cons ⟨e, d⟩ h3 => by
    refine .cons (.tup (.inl (.inl ((hb t List.mem_cons_self).trans h1))) (.cons ?_ (.cons d .nil))) (dps_refs h2 (fun t ht => hb t (List.mem_cons_of_mem _ ht)) h3)
    rw [e]
    exact .str r.1
theorem ed_items (i : Nat) (hr : ∀ (F B0 B H : Hp) (σ : Sl), Nv X.K F B0 B H σ ρ → ∃ p kv, σ[i]? = some (some (.ref p)) ∧ H p = some (.dK kv) ∧ KvR X.K B kv kvs) (hc : X.calm = true) (hm : X.mg "list" = none) (hg : Gl X "list" := by rfl) (hN : X.N[i]? = some x := by rfl) (hv : Vis X.env.scope x := by first | exact Or.inl rfl | exact Or.inr (Or.inl rfl) | exact Or.inr (Or.inr rfl))
    (hd : (x == ("__debug__" : Str)) = false := by decide) (hcd : (x == ("__classdict__" : Str)) = false := by decide) (hbase : attributeBase (.Name x px) "items" X.env (eval (.Name x px) X.env) = eval (.Name x px) X.env := by rfl) (hline : (apos.endLine == cpos.line) = true := by rfl)
    (hs : starEach [.Call (.Attribute (.Name x px) "items" apos) [] [] cpos] X.env = (false, eval (.Call (.Attribute (.Name x px) "items" apos) [] [] cpos) X.env) :: starEach [] X.env := by rfl) : ED X (.Call (.Name "list" p) [.Call (.Attribute (.Name x px) "items" apos) [] [] cpos] [] pos) ρ ρ (dat (.list (kvs.map prD))) := by
  intro F B0 B H σ E Q q
  refine wE.of (LiI.pe_listItems hc (pe_var hN hv hd hcd) hg hm (by decide +kernel) hbase hline hs) ?_
  obtain ⟨p, kv, hp, rd, kr⟩ := hr F B0 B H σ E
  refine ⟨_, hp, p, kv, rfl, rd, fun H' l ts hh hl hts nl hL hT => ?_⟩
  have g : Grow B H (fun a => if a = l ∨ a ∈ ts then H' a else B a) H' := by
    refine ⟨fun a o h => ?_, fun a o h => ?_, hh, fun a z => ?_⟩
    · have na : ¬ (a = l ∨ a ∈ ts) := fun z => by
        rcases z with z | z
        · rw [z, E.bH.free hl] at h; cases h
        · rw [E.bH.free (hts a z)] at h; cases h
      show (if a = l ∨ a ∈ ts then H' a else B a) = some o
      rw [if_neg na]; exact h
    · have h : (if a = l ∨ a ∈ ts then H' a else B a) = some o := h
      split at h
      · exact h
      · exact hh a o (E.bH a o h)
    · by_cases hz : a = l ∨ a ∈ ts
      · rcases hz with z | z
        · rw [z]; exact .inr hl
        · exact .inr (hts a z)
      · have z : (if a = l ∨ a ∈ ts then H' a else B a) ≠ none := z
        rw [if_neg hz] at z; exact .inl z
  refine q _ _ H' (E.grow g) g.bb (.lst (.inl (.inl ?_)) (dps_refs hT (fun t ht => ?_) (kv_mono g.bb kr)))
  · show (if l = l ∨ l ∈ ts then H' l else B l) = _
    rw [if_pos (.inl rfl)]; exact hL
  · show (if t = l ∨ t ∈ ts then H' t else B t) = _
    rw [if_pos (.inr ht)]
/-- found.update(fresh), own dicts -/
def rUpd : V → List V → Hp → VK → Prop := fun x xs H Q => ∃ a b kv kw, x = .ref a ∧ xs = [.ref b] ∧ H a = some (.dK kv) ∧ H b = some (.dK kw) ∧ a ≠ b ∧ kv.length + kw.length ≤ 1000 ∧ Q .non (upd H a (.dK (mergeK kv kw)))
theorem mt_update : MtR X "dict.update" rUpd := by
  intro pins s σ H x xs v us Q I rx rxs h
  obtain ⟨a, b, kv, kw, rfl, rfl, ha, hb, ne, hz, q⟩ := h
  cases rx
  rw [Vals.ref1 rxs]
  obtain ⟨_, ya, va, ra, da⟩ := dk_of I.hok ha
  obtain ⟨_, yb, vb, rb, db⟩ := dk_of I.hok hb
  have small : va.length + vb.length ≤ sizeLine := by rw [← ra.length, ← rb.length]; exact Nat.le_of_lt (small1000 hz)
  refine call_meetsIn PySem.F.slot_dict_update da.typeIs PySem.F.entry_dict_update (PySem.F.args_dict_update_2 _ _) (meets_dict_update (mixKind X.prog X.w) a b ne yb) ⟨va, vb, da, db, small, fun h' da' _ sb => ?_⟩
  have he : ∃ q, h'.get? a = some q := let ⟨q, _, _, hq, _⟩ := da'; ⟨q, hq⟩
  have hl : (mergeK kv kw).length ≤ sizeLine := Nat.le_trans (length_mergeK kw kv) (Nat.le_of_lt (small1000 hz))
  exact ⟨.non, _, d_write (t' := s.toks) I (by rw [ha]; exact True.intro) sb he (dk_new hl ya (KV.merge rb ra) da'), rfl, q⟩
theorem sd_update {y : Str} {py : Pos} (i j : Nat) (hi : ρ[i]? = some (.mu (mdc kvs))) (hj : ρ[j]? = some (.mu (mdc kws))) (ne : i ≠ j) (hz : kvs.length + kws.length ≤ 1000) (n : SD X rest (ρ.set i (.mu (mdc (mergeD kvs kws)))) P)
    (hp : PE X (.Call (.Attribute (.Name x px) "update" apos) [.Name y py] [] p) (tBM X.K "dict" rUpd (tVar i) (tCons (tVar j) tNil)) := by first | exact pe_bm PySem.F.plainAttrs_dict PySem.F.slot_dict_update PySem.F.type_dict_update mt_update (pv _) (pa_cons (pv _) pa_nil))
    (hs : swapsWith (.Call (.Attribute (.Name x px) "update" apos) [.Name y py] [] p) none pos.line X.env = pure false := by rfl) : SD X (.Expr (.Call (.Attribute (.Name x px) "update" apos) [.Name y py] [] p) pos :: rest) ρ P :=
  sd_of (ps_expr hp hs) fun F B0 B H σ D E f => by
    obtain ⟨q1, o1, h1, _, _, ho1, kv, rfl, k1⟩ := E.own hi
    obtain ⟨q2, o2, h2, _, _, ho2, kw, rfl, k2⟩ := E.own hj
    have nq : q1 ≠ q2 := fun z => by
      subst z
      exact ne (E.ap i j _ _ _ h1 h2 hi hj rfl rfl)
    refine ⟨_, h1, .inr (.inr (.inl ⟨rfl, .inl ⟨kv, ho1⟩⟩)), _, h2, q1, q2, kv, kw, rfl, rfl, ho1, ho2, nq, by rw [kv_len k1, kv_len k2]; exact hz, ?_⟩
    exact f.nx _ _ B _ n (E.change hi h1 ⟨_, rfl, kv_merge k2 k1⟩) (Same.refl B)
/-! ### list + list, tuple + tuple, slices -/
def rCatL (K : PySem.W.Frag) : R2 := fun x y H Q => ∃ l b xs zs, x = .ref l ∧ y = .ref b ∧ SqL K H l xs ∧ SqL K H b zs ∧ xs.length + zs.length ≤ sizeLine ∧ ∀ p, H p = none → Q (.ref p) (upd H p (.lst (xs ++ zs)))
theorem op_catL : OpR X (binaryOp .Add) (rCatL X.K) := by
  intro pins s σ H x y v u Q I rx ry h
  obtain ⟨l, b, xs, zs, rfl, rfl, h1, h2, hz, q⟩ := h
  cases rx
  cases ry
  obtain ⟨its, r1, p1, _⟩ := I.list h1
  obtain ⟨its2, r2, p2, _⟩ := I.list h2
  obtain ⟨⟨cls, dd, da, sl⟩, n, ho, hc, hd, hdat⟩ := p1
  obtain ⟨⟨cls2, dd2, da2, sl2⟩, n2, ho2, hc2, hd2, hdat2⟩ := p2
  simp only at hc hdat hc2 hdat2
  subst hc hdat hc2 hdat2
  have small : its.toArray.size + its2.toArray.size ≤ sizeLine := by
    rw [List.size_toArray, List.size_toArray, ← r1.length, ← r2.length]; exact hz
  refine concat_meets ⟨_, ho, rfl⟩ ⟨_, ho2, rfl⟩ noFill_list_add seq_list_add PySem.F.slot_list_add PySem.F.entry_list_add (PySem.F.args_list_add_2 _ _) (list_addW l b its.toArray its2.toArray n n2 dd dd2 sl sl2 small) ⟨ho, ho2, ?_⟩
  have ea : its.toArray ++ its2.toArray = (its ++ its2).toArray := by simp
  rw [ea]
  exact ⟨.ref _, _, I.lnew (t' := s.toks) (r1.append r2) (by rw [List.length_append]; exact hz), rfl, q _ I.fresh⟩
theorem ed_catL {ds es : List PyData} (ha : ED X a ρ ρ1 (dat (.list ds))) (hb : ED X b ρ1 ρ2 (dat (.list es))) (hz : ds.length + es.length ≤ 1000) : ED X (.BinOp a .Add b pos) ρ ρ2 (dat (.list (ds ++ es))) :=
  ed_bin op_catL ha hb (fun B H x y bh h1 h2 Q q => by
    have h1 : Dp X.K B x (.list ds) := h1
    have h2 : Dp X.K B y (.list es) := h2
    cases h1 with
    | lst a1 a2 =>
      cases h2 with
      | lst b1 b2 => exact ⟨_, _, _, _, rfl, rfl, bh.seq a1, bh.seq b1, by rw [dps_len a2, dps_len b2]; exact Nat.le_of_lt (small1000 hz), fun l hl => q _ _ _ (Grow.new bh hl) (.lst (.inl (.inl upd_same)) (dps_mono (Grow.new (o := .lst _) bh hl).bb _ _ (dps_app a2 b2)))⟩)
theorem ed_catT {ds es : List PyData} (ha : ED X a ρ ρ1 (dat (.tuple ds))) (hb : ED X b ρ1 ρ2 (dat (.tuple es))) (hz : ds.length + es.length ≤ 1000) (h0 : ds ≠ []) (h1 : es ≠ []) : ED X (.BinOp a .Add b pos) ρ ρ2 (dat (.tuple (ds ++ es))) :=
  ed_bin op_catT ha hb (fun B H x y bh k1 k2 Q q => by
    have k1 : Dp X.K B x (.tuple ds) := k1
    have k2 : Dp X.K B y (.tuple es) := k2
    cases k1 with
    | tup a1 a2 =>
      cases k2 with
      | tup b1 b2 =>
        have l1 := dps_len a2
        have l2 := dps_len b2
        refine ⟨_, _, _, _, rfl, rfl, same_sqT bh a1, same_sqT bh b1, fun z => h0 (List.length_eq_zero_iff.mp (by rw [← l1, z]; rfl)), by rw [l1, l2]; exact Nat.le_of_lt (small1000 hz), fun z => absurd (List.length_eq_zero_iff.mp (by rw [← l2, z]; rfl)) h1, fun _ l hl => q _ _ _ (Grow.new bh hl) (.tup (.inl (.inl upd_same)) (dps_mono (Grow.new (o := .tup _) bh hl).bb _ _ (dps_app a2 b2)))⟩)
theorem dps_take {K : PySem.W.Frag} {H : Hp} : ∀ {vs : List V} {ds : List PyData} (n : Nat), DpAll K H vs ds → DpAll K H (vs.take n) (ds.take n)
  | _, _, 0, _ => .nil
  | _, _, n + 1, .nil => .nil
  | _, _, n + 1, .cons h t => .cons h (dps_take n t)
theorem dps_drop {K : PySem.W.Frag} {H : Hp} : ∀ {vs : List V} {ds : List PyData} (n : Nat), DpAll K H vs ds → DpAll K H (vs.drop n) (ds.drop n)
  | _, _, 0, h => h
  | _, _, n + 1, .nil => .nil
  | _, _, n + 1, .cons h t => dps_drop n t
/-- xs[:n], a written n -/
theorem ed_takeL {ds : List PyData} {n : Nat} {j : Nat} {pk p2 : Pos} (ha : ED X a ρ ρ1 (dat (.list ds))) : ED X (.Subscript a (.Slice none (some (.Constant (.int (n : Int)) j pk)) none p2) pos) ρ ρ1 (dat (.list (ds.take n))) := by
  intro F B0 B H σ E Q q
  refine wE.of (pe_slice sl_list pe_w po_none (po_some pe_int)) (ha F B0 B H σ E _ fun v B1 H1 E1 b1 ok1 => ?_)
  have ok1 : Dp X.K B1 v (.list ds) := ok1
  cases ok1 with
  | @lst l xs _ h1 h2 =>
    refine ⟨n, rfl, l, xs, rfl, E1.bH.seq h1, fun m hm => ?_⟩
    have ec : cutV xs none (some (n : Int)) = xs.take n := by
      unfold cutV
      rw [HT.sIx_none, HT.sIx_nat, List.drop_zero, Nat.sub_zero]
      by_cases h : n ≤ xs.length
      · rw [Nat.min_eq_left h]
      · rw [Nat.min_eq_right (by omega), List.take_length, List.take_of_length_le (by omega)]
    rw [ec]
    have g := Grow.new (o := .lst (xs.take n)) E1.bH hm
    exact q _ _ _ (E1.grow g) (b1.trans g.bb) (.lst (.inl (.inl upd_same)) (dps_take n (dps_mono g.bb _ _ h2)))
/-- t[n:], n written, at least 1, not behind the end -/
theorem ed_dropT {ds : List PyData} {n : Nat} {j : Nat} {pk p2 : Pos} (ha : ED X a ρ ρ1 (dat (.tuple ds))) (h1 : 0 < n) (hn : n ≤ ds.length) : ED X (.Subscript a (.Slice (some (.Constant (.int (n : Int)) j pk)) none none p2) pos) ρ ρ1 (dat (.tuple (ds.drop n))) := by
  intro F B0 B H σ E Q q
  refine wE.of (pe_slice sl_tup pe_w (po_some pe_int) po_none) (ha F B0 B H σ E _ fun v B1 H1 E1 b1 ok1 => ?_)
  have ok1 : Dp X.K B1 v (.tuple ds) := ok1
  cases ok1 with
  | @tup l xs _ k1 k2 =>
    have ln := dps_len k2
    have e1 : HT.sIx xs.length 0 (some (n : Int)) = n := by rw [HT.sIx_nat]; omega
    refine ⟨n, rfl, l, xs, rfl, same_sqT E1.bH k1, fun z => by rw [e1] at z; omega, fun m hm => ?_⟩
    have ec : cutV xs (some (n : Int)) none = xs.drop n := by
      unfold cutV
      rw [e1, HT.sIx_none]
      exact List.take_of_length_le (by rw [List.length_drop]; exact Nat.le_refl _)
    rw [ec]
    have g := Grow.new (o := .tup (xs.drop n)) E1.bH hm
    exact q _ _ _ (E1.grow g) (b1.trans g.bb) (.tup (.inl (.inl upd_same)) (dps_drop n (dps_mono g.bb _ _ k2)))
/-! ### isinstance(e, T) -/
def tyD : PyData → String
  | .none => "NoneType"
  | .bool _ => "bool"
  | .int _ => "int"
  | .str _ => "str"
  | .list _ => "list"
  | .tuple _ => "tuple"
  | .dict _ => "dict"
theorem tyX_dp {K : PySem.W.Frag} {B H : Hp} (bh : Same B H) {v : V} {d : PyData} (h : Dp K B v d) : TyX K H v (.type (tyD d)) := by
  cases h with
  | non => exact .base .non
  | bl b => exact .base (.bl b)
  | int i => exact .base (.int i)
  | str x => exact .base (.str x)
  | lst h1 _ =>
    rcases h1 with (h1 | ⟨o, h1⟩) | ⟨o, its, n, hk, hc, _⟩
    · exact .base (.lst (bh _ _ h1))
    · exact .base (.frz (bh _ _ h1))
    · exact .kList hk hc
  | tup h1 _ =>
    rcases h1 with (h1 | ⟨o, h1⟩) | ⟨o, its, n, hk, hc, _⟩
    · exact .base (.tup (bh _ _ h1))
    · exact .fTuple (bh _ _ h1)
    · exact .kTuple hk hc
theorem ed_isi {T : String} {q : Bool} {tn : Str} (h : ED X e ρ ρ1 (dat d)) (hk : ∀ K, PySem.W.kitOne K (.type (tyD d)) (.type T) = some q) (hm : X.mg "isinstance" = none) (hmT : X.mg tn = none) (hvT : bootBuiltins tn = some (.type T)) (hnT : tn ≠ "__name__" := by decide) (hdT : (tn == ("__debug__" : Str)) = false := by decide) (hgT : Gl X tn := by rfl) (hg : Gl X "isinstance" := by rfl)
    (he : starEach [e, .Name tn p2] X.env = (false, eval e X.env) :: starEach [.Name tn p2] X.env := by rfl) (he2 : starEach [.Name tn p2] X.env = (false, eval (.Name tn p2) X.env) :: starEach [] X.env := by rfl) (hpl : (backTo pos (starEach [.Name tn p2] X.env)).any (·.1) = false := by rfl) : ED X (.Call (.Name "isinstance" p) [e, .Name tn p2] [] pos) ρ ρ1 (dat (.bool q)) := by
  intro F B0 B H σ E Q k
  refine wE.of (pe_callB call_isi hg hm (by decide +kernel) (pa_cons pe_w (pa_cons (pe_bltn (v := .ty T) hgT hmT hvT rfl hnT hdT) pa_nil he2) he) (by decide) (by decide) he hpl) ?_
  exact h F B0 B H σ E _ fun v B1 H1 E1 b1 ok1 => ⟨v, .ty T, _, _, q, rfl, .ty T, tyX_dp E1.bH ok1, hk _, k _ B1 H1 E1 b1 (.bl q)⟩
end
end Fd
end

/-! part FdL -/
section
set_option Elab.async false
set_option linter.all false
set_option maxRecDepth 100000
/-! Dicts as lists of pairs: plain laws. -/
namespace Fd
open PySem L2
section
variable {α β : Type} {kvs more : List (Str × α)} {k j : Str} {d : α}
theorem look_nil : look ([] : List (Str × α)) k = none := rfl
theorem look_yes {p : Str × α} (h : p.1 = k) : look (p :: kvs) k = some p.2 := by unfold look; rw [List.find?_cons, decide_eq_true h]; rfl
theorem look_no {p : Str × α} (h : ¬ p.1 = k) : look (p :: kvs) k = look kvs k := by unfold look; rw [List.find?_cons, decide_eq_false h]
theorem look_app : ∀ {kvs : List (Str × α)}, look (kvs ++ more) k = (look kvs k).or (look more k)
  | [] => rfl
  | p :: kvs => by
    by_cases h : p.1 = k
    · rw [List.cons_append, look_yes h, look_yes h]; rfl
    · rw [List.cons_append, look_no h, look_no h, look_app]
theorem look_mem : ∀ {kvs : List (Str × α)}, (look kvs k).isSome = true ↔ k ∈ kvs.map (·.1)
  | [] => by simp [look]
  | p :: kvs => by
    by_cases h : p.1 = k
    · rw [look_yes h]; simp [h]
    · rw [look_no h, look_mem, List.map_cons, List.mem_cons]
      exact ⟨.inr, fun z => z.resolve_left fun e => h e.symm⟩
theorem look_none : look kvs k = none ↔ k ∉ kvs.map (·.1) := by
  rw [← look_mem]
  cases look kvs k <;> simp
theorem look_in {p : Str × α} : ∀ {kvs : List (Str × α)}, (kvs.map (·.1)).Nodup → p ∈ kvs → look kvs p.1 = some p.2
  | q :: kvs, nd, h => by
    rw [List.map_cons, List.nodup_cons] at nd
    rcases List.mem_cons.mp h with e | h
    · rw [← e]; exact look_yes rfl
    · rw [look_no fun e => nd.1 (by rw [e]; exact List.mem_map.mpr ⟨p, h, rfl⟩)]
      exact look_in nd.2 h
theorem look_of : ∀ {kvs : List (Str × α)}, look kvs k = some d → (k, d) ∈ kvs
  | p :: kvs, h => by
    by_cases e : p.1 = k
    · rw [look_yes e] at h; cases h; exact List.mem_cons.mpr (.inl (by rw [← e]))
    · rw [look_no e] at h; exact List.mem_cons_of_mem _ (look_of h)
theorem look_repl : ∀ {kvs : List (Str × α)}, look (kvs.map fun p => if p.1 = k then (p.1, d) else p) j = (look kvs j).map fun x => if j = k then d else x
  | [] => rfl
  | p :: kvs => by
    rw [List.map_cons]
    by_cases h : p.1 = k
    · rw [if_pos h]
      by_cases e : p.1 = j
      · rw [look_yes (show (p.1, d).1 = j from e), look_yes e, Option.map_some, if_pos (e.symm.trans h)]
      · rw [look_no (show ¬ (p.1, d).1 = j from e), look_no e, look_repl]
    · rw [if_neg h]
      by_cases e : p.1 = j
      · rw [look_yes e, look_yes e, Option.map_some, if_neg fun z => h (e.trans z)]
      · rw [look_no e, look_no e, look_repl]
theorem any_key : (kvs.any fun p => decide (p.1 = k)) = (look kvs k).isSome := by
  have h : ∀ kvs : List (Str × α), (kvs.any fun p => decide (p.1 = k)) = (look kvs k).isSome := by
    intro kvs
    induction kvs with
    | nil => rfl
    | cons p kvs ih =>
      rw [List.any_cons, ih]
      by_cases e : p.1 = k
      · rw [look_yes e, decide_eq_true e]; rfl
      · rw [look_no e, decide_eq_false e]; rfl
  exact h kvs
theorem look_put : look (putD kvs k d) j = if j = k then some d else look kvs j := by
  unfold putD
  rw [any_key]
  cases h : look kvs k with
  | some x =>
    rw [Option.isSome_some, if_pos rfl, look_repl]
    by_cases e : j = k
    · rw [if_pos e, e, h, Option.map_some, if_pos rfl]
    · rw [if_neg e]
      simp only [if_neg e]
      cases look kvs j <;> rfl
  | none =>
    rw [Option.isSome_none, if_neg Bool.false_ne_true, look_app]
    by_cases e : j = k
    · rw [if_pos e, e, h, look_yes rfl]; rfl
    · rw [if_neg e, look_no fun z => e z.symm, look_nil, Option.or_none]
theorem keys_put : (putD kvs k d).map (·.1) = if k ∈ kvs.map (·.1) then kvs.map (·.1) else kvs.map (·.1) ++ [k] := by
  unfold putD
  rw [any_key]
  by_cases h : k ∈ kvs.map (·.1)
  · rw [if_pos h, look_mem.mpr h, if_pos rfl, List.map_map]
    apply List.map_congr_left
    intro p _
    show (if p.1 = k then (p.1, d) else p).1 = p.1
    split <;> rfl
  · rw [if_neg h, look_none.mpr h, Option.isSome_none, if_neg Bool.false_ne_true, List.map_append]; rfl
theorem nodup_put (h : (kvs.map (·.1)).Nodup) : ((putD kvs k d).map (·.1)).Nodup := by
  rw [keys_put]
  split
  · exact h
  · rename_i n
    rw [List.nodup_append]
    exact ⟨h, by simp, fun a ha b hb => by rw [List.mem_singleton.mp hb]; exact fun e => n (by rw [← e]; exact ha)⟩
theorem mem_put : j ∈ (putD kvs k d).map (·.1) ↔ j = k ∨ j ∈ kvs.map (·.1) := by
  rw [keys_put]
  split
  · rename_i h
    exact ⟨.inr, fun z => z.elim (fun e => by rw [e]; exact h) id⟩
  · rw [List.mem_append, List.mem_singleton]
    exact Or.comm
theorem nodup_merge : ∀ {more kvs : List (Str × α)}, (kvs.map (·.1)).Nodup → ((mergeD kvs more).map (·.1)).Nodup
  | [], _, h => h
  | p :: more, kvs, h => nodup_merge (more := more) (nodup_put h)
theorem mem_merge : ∀ {more kvs : List (Str × α)}, j ∈ (mergeD kvs more).map (·.1) ↔ j ∈ kvs.map (·.1) ∨ j ∈ more.map (·.1)
  | [], kvs => by
    show j ∈ kvs.map (·.1) ↔ _
    simp
  | p :: more, kvs => by
    show j ∈ (mergeD (putD kvs p.1 p.2) more).map (·.1) ↔ _
    rw [mem_merge, mem_put, List.map_cons, List.mem_cons]
    constructor
    · rintro ((h | h) | h)
      · exact .inr (.inl h)
      · exact .inl h
      · exact .inr (.inr h)
    · rintro (h | h | h)
      · exact .inl (.inr h)
      · exact .inl (.inl h)
      · exact .inr h
theorem look_merge : ∀ {more kvs : List (Str × α)}, (more.map (·.1)).Nodup → look (mergeD kvs more) j = (look more j).or (look kvs j)
  | [], kvs, _ => rfl
  | p :: more, kvs, nd => by
    rw [List.map_cons, List.nodup_cons] at nd
    show look (mergeD (putD kvs p.1 p.2) more) j = _
    rw [look_merge nd.2, look_put]
    by_cases e : j = p.1
    · subst e
      rw [if_pos rfl, look_yes rfl, look_none.mpr nd.1]; rfl
    · rw [if_neg e, look_no fun z => e z.symm]
theorem map_fst (g : α → β) : (kvs.map fun p => (p.1, g p.2)).map (·.1) = kvs.map (·.1) := by
  rw [List.map_map]; rfl
theorem look_map (g : α → β) : ∀ {kvs : List (Str × α)}, look (kvs.map fun p => (p.1, g p.2)) k = (look kvs k).map g
  | [] => rfl
  | p :: kvs => by
    rw [List.map_cons]
    by_cases h : p.1 = k
    · rw [look_yes (show (p.1, g p.2).1 = k from h), look_yes h]; rfl
    · rw [look_no (show ¬ (p.1, g p.2).1 = k from h), look_no h, look_map g]
theorem put_map (g : α → β) : putD (kvs.map fun p => (p.1, g p.2)) k (g d) = (putD kvs k d).map fun p => (p.1, g p.2) := by
  unfold putD
  rw [any_key, any_key, look_map, Option.isSome_map]
  split
  · rw [List.map_map, List.map_map]
    apply List.map_congr_left
    intro p _
    by_cases h : p.1 = k
    · simp [h]
    · simp [h]
  · rw [List.map_append]; rfl
theorem merge_map (g : α → β) : ∀ {more kvs : List (Str × α)}, mergeD (kvs.map fun p => (p.1, g p.2)) (more.map fun p => (p.1, g p.2)) = (mergeD kvs more).map fun p => (p.1, g p.2)
  | [], _ => rfl
  | p :: more, kvs => by
    show mergeD (putD (kvs.map fun p => (p.1, g p.2)) p.1 (g p.2)) _ = (mergeD (putD kvs p.1 p.2) more).map _
    rw [put_map, merge_map g]
theorem put_new (h : k ∉ kvs.map (·.1)) : putD kvs k d = kvs ++ [(k, d)] := by
  unfold putD
  rw [any_key, look_none.mpr h, Option.isSome_none, if_neg Bool.false_ne_true]
theorem merge_new : ∀ {more kvs : List (Str × α)}, ((kvs ++ more).map (·.1)).Nodup → mergeD kvs more = kvs ++ more
  | [], kvs, _ => (List.append_nil _).symm
  | p :: more, kvs, nd => by
    show mergeD (putD kvs p.1 p.2) more = _
    have nk : p.1 ∉ kvs.map (·.1) := fun z => by
      rw [List.map_append, List.nodup_append] at nd
      exact nd.2.2 _ z p.1 (by rw [List.map_cons]; exact List.mem_cons_self) rfl
    rw [put_new nk, merge_new (by rw [List.append_assoc]; exact nd), List.append_assoc]; rfl
/-- dict(pairs), keys apart -/
theorem merge_self (nd : (more.map (·.1)).Nodup) : mergeD [] more = more := merge_new (kvs := []) nd
end
/-- == of two dicts that have the same values -/
theorem sameD_yes {kvs kws : List (Str × PyData)} (h : ∀ p ∈ kvs, look kws p.1 = some p.2) (r : ∀ p ∈ kvs, PyData.eqv p.2 p.2 = true) : sameD kvs kws = true := by
  unfold sameD
  rw [List.all_eq_true]
  intro p hp
  rw [h p hp]
  exact r p hp
end Fd
end

/-! part FdM -/
section
set_option Elab.async false
set_option linter.all false
set_option maxRecDepth 100000
set_option maxHeartbeats 1000000
namespace Fd
open PySem PySem.Spec PyProof.Rows L2

/-! ### less is known -/
def Wk : List En → List En → Prop
  | [], [] => True
  | a :: as, b :: bs => (b = .no ∨ b = a) ∧ Wk as bs
  | _, _ => False
theorem Wk.refl : ∀ {ρ : List En}, Wk ρ ρ
  | [] => True.intro
  | _ :: _ => ⟨.inr rfl, Wk.refl⟩
theorem Wk.at : ∀ {ρ ρ' : List En}, Wk ρ ρ' → ρ'.length = ρ.length ∧ ∀ (i : Nat) (r : En), ρ'[i]? = some r → r ≠ .no → ρ[i]? = some r
  | [], [], _ => ⟨rfl, fun i r h => by cases h⟩
  | a :: as, b :: bs, ⟨h, t⟩ => by
    obtain ⟨l, k⟩ := Wk.at t
    refine ⟨by rw [List.length_cons, List.length_cons, l], fun i r e hn => ?_⟩
    cases i with
    | zero =>
      have e : some b = some r := e
      cases e
      rcases h with h | h
      · exact absurd h hn
      · rw [h]; rfl
    | succ i => exact k i r e hn
theorem Wk.set : ∀ {ρ ρ' : List En} {i : Nat} {r : En}, Wk ρ ρ' → Wk (ρ.set i r) (ρ'.set i r)
  | [], [], _, _, _ => True.intro
  | _ :: _, _ :: _, 0, _, ⟨_, t⟩ => ⟨.inr rfl, t⟩
  | _ :: _, _ :: _, i + 1, _, ⟨h, t⟩ => ⟨h, Wk.set t⟩
theorem Wk.trans : ∀ {ρ ρ' ρ'' : List En}, Wk ρ ρ' → Wk ρ' ρ'' → Wk ρ ρ''
  | [], [], [], _, _ => True.intro
  | _ :: _, _ :: _, _ :: _, ⟨h, t⟩, ⟨k, u⟩ => ⟨by rcases k with k | k; exact .inl k; rw [k]; exact h, Wk.trans t u⟩
section
variable {X : Cx} {ρ ρ1 ρ2 ρ3 ρ' : List En} {a b c e : Expr} {es : List Expr} {st : Stmt} {rest body ss : List Stmt} {pos p p2 px : Pos} {r : Im} {rs : List Im} {P : Post} {x : Str}
theorem Nv.wk {K : PySem.W.Frag} {F B0 B H : Hp} {σ : Sl} (E : Nv K F B0 B H σ ρ) (w : Wk ρ ρ') : Nv K F B0 B H σ ρ' := E.weak rfl w.at.1 fun i r h hn => ⟨w.at.2 i r h hn, rfl⟩
theorem sd_wk (w : Wk ρ ρ') (h : SD X ss ρ' P) : SD X ss ρ P := fun F B0 B H σ D E f => h F B0 B H σ D (E.wk w) f
/-- for name in list: C i is what is known ahead of turn i -/
theorem sd_forN {β : Type} {iter : Expr} (j : Nat) (xs : List β) (enc : β → PyData) (C : Nat → List En) (hi : ED X iter ρ ρ (dat (.list (xs.map enc)))) (h0 : Wk ρ (C 0))
    (hs : ∀ i y, xs[i]? = some y → SD X body ((C i).set j (.im (dat (enc y)))) { P with nx := fun ρ' => Wk ρ' (C (i + 1)), ct := fun ρ' => Wk ρ' (C (i + 1)), bk := fun ρ' => SD X rest ρ' P }) (hd : SD X rest (C xs.length) P)
    (hp : PassesOwn (model X.prog X.w) X.A X.env X.xe) (hc : X.calm = true) (hN : X.N.Nodup) (hj : X.N[j]? = some x := by rfl) (hx : Loc X.env.scope x := by first | exact Or.inl rfl | exact Or.inr rfl)
    (hf : X.fn x = true ∨ X.env.scope.names.lookup x = some .local := by first | exact .inl rfl | exact .inr rfl) (hfs : ∀ x, foldedSetIterable iter X.env x = pure x := by intro _; rfl) : SD X (.For (.Name x px) iter body [] pos :: rest) ρ P := by
  refine sd_for (fun i ρ' => Wk ρ' (C i)) (fun i ρ' => ρ'.set j (match xs[i]? with | some y => .im (dat (enc y)) | none => .no)) hi h0 ⟨gName j, pg_name hN hj hx hf, fun i d ρ' hd' hI F B0 B H σ v E ok Q q => ?_⟩ (fun i d ρ' hd' hI => ?_) (fun ρ' hI => ?_) hp hc hfs
  · rw [List.getElem?_map] at hd'
    cases hy : xs[i]? with
    | none => rw [hy] at hd'; cases hd'
    | some y =>
      rw [hy] at hd'
      cases hd'
      refine q _ ?_
      rw [hy]
      exact E.set (r := dat (enc y)) ok
  · rw [List.getElem?_map] at hd'
    cases hy : xs[i]? with
    | none => rw [hy] at hd'; cases hd'
    | some y => exact sd_wk hI.set (hs i y hy)
  · rw [List.length_map] at hI
    exact sd_wk hI hd
/-- for a, b, .. in list -/
theorem gds_names {es : List Expr} {js : List Nat} {ds : List PyData} {ρ ρ2 : List En} {gs : TGs} (h : GDs X es ds ρ ρ2 gs) : PGs X es gs := h.pg
theorem ed_neg {i : Int} (h : ED X e ρ ρ1 (dat (.int i))) : ED X (.UnaryOp .USub e pos) ρ ρ1 (dat (.int (-i))) := by
  intro F B0 B H σ E Q q
  refine wE.of (pe_un un_neg pe_w) (h F B0 B H σ E _ fun v B1 H1 E1 b1 ok1 => ?_)
  have ok1 : Dp X.K B1 v (.int i) := ok1
  cases ok1
  exact ⟨i, rfl, q _ B1 H1 E1 b1 (.int _)⟩
theorem cd_isntB {q q' : Bool} (ha : ED X a ρ ρ1 (dat (.bool q))) (hb : ED X b ρ1 ρ2 (dat (.bool q'))) : CD X .IsNot a b ρ ρ2 (!decide (q = q')) := cd_op op_isnot_bl ha hb (R2D.pure fun B H x y _ a b => by
  have a : Dp X.K B x (.bool q) := a
  have b : Dp X.K B y (.bool q') := b
  cases a; cases b
  exact ⟨.bl _, .bl _, fun Q k => ⟨q, q', rfl, rfl, k⟩⟩)

/-! ### an own list, read and stored; at a place if wanted -/
def mlsQ (q : Addr → Prop) (ds : List PyData) : Mu := ⟨fun K H p o => q p ∧ ∃ xs, o = .lst xs ∧ DpAll K H xs ds, fun {_ _ _ _ _} e ⟨h, xs, h1, h2⟩ => ⟨h, xs, h1, dps_mono e ds xs h2⟩⟩
variable {q : Addr → Prop} {ds : List PyData} {d d' : PyData} {k : Int}
theorem ed_mget (i : Nat) (hr : ρ[i]? = some (.mu (mlsQ q ds))) (h : ED X e ρ ρ (dat (.int k))) (hd : atI ds k = some d) (hN : X.N[i]? = some x := by rfl) (hv : Vis X.env.scope x := by first | exact Or.inl rfl | exact Or.inr (Or.inl rfl) | exact Or.inr (Or.inr rfl))
    (hdb : (x == ("__debug__" : Str)) = false := by decide) (hcd : (x == ("__classdict__" : Str)) = false := by decide) (hs : PlainIx e := by exact fun _ _ => rfl) : ED X (.Subscript (.Name x px) e pos) ρ ρ (dat d) := by
  intro F B0 B H σ E Q k'
  refine wE.of (pe_ix ix_list (pe_var hN hv hdb hcd) pe_w hs) ?_
  obtain ⟨p0, o0, hp0, _⟩ := E.own hr
  refine ⟨_, hp0, h F B0 B H σ E _ fun v B1 H1 E1 b1 ok1 => ?_⟩
  obtain ⟨p1, o1, hp1, _, _, ho, _, xs, rfl, dx⟩ := E1.own hr
  rw [hp0] at hp1
  cases hp1
  have ok1 : Dp X.K B1 v (.int k) := ok1
  cases ok1
  obtain ⟨z, hz, dz⟩ := dps_at dx hd
  exact ⟨p0, xs, k, z, rfl, rfl, .inl (.inl ho), hz, k' z B1 H1 E1 b1 dz⟩
theorem dps_set {K : PySem.W.Frag} {H : Hp} : ∀ {vs : List V} {ds : List PyData} {v : V} {d : PyData} (j : Nat), DpAll K H vs ds → Dp K H v d → DpAll K H (vs.set j v) (ds.set j d)
  | _, _, _, _, _, .nil, _ => .nil
  | _, _, _, _, 0, .cons _ t, h => .cons h t
  | _, _, _, _, j + 1, .cons h1 t, h => .cons h1 (dps_set j t h)
/-- state[k] = e -/
theorem sd_mset {j : Nat} (i : Nat) (hv' : ED X a ρ ρ (dat d)) (hr : ρ[i]? = some (.mu (mlsQ q ds))) (h : ED X e ρ ρ (dat (.int k))) (hj : ixN ds.length k = some j) (n : SD X rest (ρ.set i (.mu (mlsQ q (ds.set j d)))) P) (hN : X.N[i]? = some x := by rfl) (hv : Vis X.env.scope x := by first | exact Or.inl rfl | exact Or.inr (Or.inl rfl) | exact Or.inr (Or.inr rfl))
    (hdb : (x == ("__debug__" : Str)) = false := by decide) (hcd : (x == ("__classdict__" : Str)) = false := by decide)
    (ha : ∀ v, assign (.Subscript (.Name x px) e p) X.env v = (do
      let ov ← holding [v] (eval (.Name x px) X.env)
      let iv ← holding [v, ov] (eval e X.env)
      standAt p
      holding [v, ov, iv] (setItem ov iv v)
      release [v, ov, iv] []) := by intro _; rfl)
    (hs : swapsWithSole [.Subscript (.Name x px) e p] a pos.line X.env = pure false := by rfl) (hw : swappedStores [.Subscript (.Name x px) e p] a X.env = pure none := by rfl)
    (h1 : (assignEach [.Subscript (.Name x px) e p] X.env).map (·.2) = [assign (.Subscript (.Name x px) e p) X.env] := by rfl) : SD X (.Assign [.Subscript (.Name x px) e p] a pos :: rest) ρ P :=
  sd_of (ps_asg pe_w (pg_sub (pe_var hN hv hdb hcd) pe_w set_list ha) hs hw h1) fun F B0 B H σ D E f => by
    refine hv' F B0 B H σ E _ fun u B1 H1 E1 b1 ok1 => ?_
    obtain ⟨p0, o0, hp0, _⟩ := E1.own hr
    refine ⟨_, hp0, h F B0 B1 H1 σ E1 _ fun v B2 H2 E2 b2 ok2 => ?_⟩
    obtain ⟨p1, o1, hp1, _, _, ho, hq, xs, rfl, dx⟩ := E2.own hr
    rw [hp0] at hp1
    cases hp1
    have ok2 : Dp X.K B2 v (.int k) := ok2
    cases ok2
    refine ⟨p0, xs, k, j, rfl, rfl, ho, by rw [dps_len dx]; exact hj, ?_⟩
    exact f.nx _ _ B2 _ n (E2.change hr hp0 ⟨hq, _, rfl, dps_set j dx (dp_mono b2 _ _ ok1)⟩) (b1.trans b2)
def rGetL (K : PySem.W.Frag) : V → V → Hp → VK → Prop := fun o i H Q => ∃ p xs k z, o = .ref p ∧ i = .int k ∧ SqL K H p xs ∧ 0 ≤ k ∧ atI xs k = some z ∧ Q z H
theorem get_list : PGet X (rGetL X.K) := by
  intro pins s σ H o i ov iv Q I ro ri h
  obtain ⟨p, xs, k, z, rfl, rfl, hq, h0, he, q⟩ := h
  cases ro
  obtain ⟨t, rfl⟩ := ri
  obtain ⟨its, r, pl, hz⟩ := I.list hq
  obtain ⟨j, h1, h2, h3, h4, h5⟩ := atI_get he
  obtain ⟨w, ew, rw'⟩ := r.get h2
  have hl := r.length
  have hn := line63
  have fin : EP X pins σ Q w s := ⟨z, H, I, rw', q⟩
  have hj : k.toNat = j := by
    rw [seqIndex_of h0 h5] at h1
    exact Option.some.inj h1
  exact wpAny_getItem_list pl.isList h0 (by omega) (by rw [hj]; simpa using ew) fin
/-- state[k] += e -/
theorem sd_maug {j : Nat} {n m : Int} {op : Operator} (f : Int → Int → Int) (hop : PIp X op (ipI f)) (i : Nat) (hr : ρ[i]? = some (.mu (mlsQ q ds))) (h : ED X e ρ ρ (dat (.int k))) (h0 : 0 ≤ k) (hd : atI ds k = some (.int n)) (hj : ixN ds.length k = some j) (hv' : ED X a ρ ρ (dat (.int m))) (nx : SD X rest (ρ.set i (.mu (mlsQ q (ds.set j (.int (f n m)))))) P)
    (hN : X.N[i]? = some x := by rfl) (hv : Vis X.env.scope x := by first | exact Or.inl rfl | exact Or.inr (Or.inl rfl) | exact Or.inr (Or.inr rfl)) (hdb : (x == ("__debug__" : Str)) = false := by decide) (hcd : (x == ("__classdict__" : Str)) = false := by decide)
    (ha : ∀ ov iv new, augStore e ov iv new = (do holding [new, ov, iv] (setItem ov iv new); release [new, ov, iv] []; pure .next) := by intros; rfl) : SD X (.AugAssign (.Subscript (.Name x px) e p) op a pos :: rest) ρ P :=
  sd_of (ps_augS (pe_var hN hv hdb hcd) pe_w get_list pe_w hop set_list ha) fun F B0 B H σ D E g => by
    obtain ⟨p0, o0, hp0, _⟩ := E.own hr
    refine ⟨_, hp0, h F B0 B H σ E _ fun v B1 H1 E1 b1 ok1 => ?_⟩
    obtain ⟨p1, o1, hp1, _, _, ho, hq, xs, rfl, dx⟩ := E1.own hr
    rw [hp0] at hp1
    cases hp1
    have ok1 : Dp X.K B1 v (.int k) := ok1
    cases ok1
    obtain ⟨z, hz, dz⟩ := dps_at dx hd
    cases dz
    refine ⟨p0, xs, k, .int n, rfl, rfl, .inl (.inl ho), h0, hz, ?_⟩
    refine hv' F B0 B1 H1 σ E1 _ fun u B2 H2 E2 b2 ok2 => ?_
    have ok2 : Dp X.K B2 u (.int m) := ok2
    cases ok2
    refine ⟨n, m, rfl, rfl, ?_⟩
    obtain ⟨p2, o2, hp2, _, _, ho2, hq2, ys, rfl, dy⟩ := E2.own hr
    rw [hp0] at hp2
    cases hp2
    refine ⟨p0, ys, k, j, rfl, rfl, ho2, by rw [dps_len dy]; exact hj, ?_⟩
    exact g.nx _ _ B2 _ nx (E2.change hr hp0 ⟨hq2, _, rfl, dps_set j dy (.int _)⟩) (b1.trans b2)
end
end Fd
end

/-! part FdN -/
section
set_option Elab.async false
set_option linter.all false
set_option maxRecDepth 100000
set_option maxHeartbeats 1000000
namespace Fd
open PySem PySem.Spec PyProof.Rows L2

/-! ### a def that changes the list it is given first -/
def spM (φ : List PyData → List Im → List PyData → Im → Prop) (K : PySem.W.Frag) : Sp := fun vs H Q _ => ∃ (B : Hp) (p : Addr) (xs ws : List V) (rs : List Im) (r : Im) (ds ds' : List PyData),
  vs = .ref p :: ws ∧ Same B H ∧ B p = none ∧ H p = some (.lst xs) ∧ DpAll K B xs ds ∧ Ims K B ws rs ∧ φ ds rs ds' r ∧
  ∀ v B' H' ys, Same B B' → Same B' H' → B' p = none → (∀ a o, a ≠ p → H a = some o → H' a = some o) → (∀ a, B' a ≠ none → B a ≠ none ∨ H a = none) → H' p = some (.lst ys) → DpAll K B' ys ds' → r.ok K B' v → Q v H'
def hole (H : Hp) (p : Addr) : Hp := fun a => if a = p then none else H a
theorem hole_ne {H : Hp} {p a : Addr} (h : a ≠ p) : hole H p a = H a := if_neg h
theorem hole_at {H : Hp} {p : Addr} : hole H p p = none := if_pos rfl
def entryM (N : List Str) (p : Addr) (ds : List PyData) (rs : List Im) : List En := .mu (mlsQ (fun a => a = p) ds) :: entry (N.drop 1) rs
theorem start_cons {N : List Str} {v : V} {vs : List V} : L2.start N (v :: vs) = some v :: L2.start (N.drop 1) vs := by
  unfold L2.start
  rw [List.map_cons, List.cons_append, List.length_cons, List.length_drop]
  congr 3
  omega
theorem entry_nomu {N : List Str} {rs : List Im} {i : Nat} {m : Mu} : (entry N rs)[i]? ≠ some (.mu m) := fun e => by
  unfold entry at e
  by_cases hi : i < rs.length
  · rw [List.getElem?_append_left (by rw [List.length_map]; exact hi), List.getElem?_map] at e
    cases q : rs[i]? with
    | none => rw [q] at e; cases e
    | some r0 => rw [q] at e; cases e
  · rw [List.getElem?_append_right (by rw [List.length_map]; omega), List.getElem?_replicate] at e
    split at e <;> cases e
theorem nv_entryM {K : PySem.W.Frag} {B H : Hp} {N : List Str} {p : Addr} {xs ws : List V} {ds : List PyData} {rs : List Im} (bh : Same B H) (bp : B p = none) (hp : H p = some (.lst xs)) (hd : DpAll K B xs ds) (h : Ims K B ws rs) : Nv K (hole H p) B B H (L2.start N (.ref p :: ws)) (entryM N p ds rs) := by
  have E := nv_entry (N := N.drop 1) bh h
  rw [start_cons]
  refine ⟨fun a o e => ?_, bh, Same.refl _, fun _ z => .inl z, ?_, fun i r e hn => ?_, fun i j v r r' _ _ h3 h4 m1 m2 => ?_, fun a z => ?_⟩
  · by_cases ha : a = p
    · subst ha; rw [hole_at] at e; cases e
    · rw [hole_ne ha] at e; exact e
  · unfold entryM
    rw [List.length_cons, List.length_cons, E.len]
  · cases i with
    | zero =>
      have e : some (En.mu (mlsQ (fun a => a = p) ds)) = some r := e
      cases e
      exact ⟨.ref p, rfl, p, .lst xs, rfl, bp, hole_at, hp, rfl, xs, rfl, hd⟩
    | succ i =>
      have e : (entry (N.drop 1) rs)[i]? = some r := e
      obtain ⟨v, hv, ok⟩ := E.ent i r e hn
      refine ⟨v, hv, ?_⟩
      cases r with
      | no => exact True.intro
      | im r => exact ok
      | mu m => exact absurd e entry_nomu
  · have z : ∀ (i : Nat) (r : En), (entryM N p ds rs)[i]? = some r → r.isMu = true → i = 0 := fun i r e mm => by
      cases i with
      | zero => rfl
      | succ i =>
        cases r with
        | no => cases mm
        | im _ => cases mm
        | mu m => exact absurd e entry_nomu
    rw [z i r h3 m1, z j r' h4 m2]
  · by_cases ha : a = p
    · rw [ha]; exact bp
    · rw [hole_ne ha] at z; exact bh.free z
section
variable {P : Program} {w : World} {K : PySem.W.Frag} {mg : Str → Option Value} {base : Heap}
theorem fn_M {x qual : Str} {st : Stmt} {f : Addr} {fd : FuncData} {N ps : List Str} {k : Nat} {φ : List PyData → List Im → List PyData → Im → Prop} (Fn : L2.Fun K x qual st f fd) (S : FnScope N ps (defScope st)) (len : ∀ ds rs ds' r, φ ds rs ds' r → rs.length + 1 = ps.length)
    (body : ∀ (cdv : Value) (A : Around) (outer : List Env) (s : Shared) (H : Hp) (E : XK), Room k (A.deeper (envOfC qual (defScope st) s.heap.objs.size f cdv)) → ∀ p ds rs ds' r, φ ds rs ds' r →
      SD (cxOf CX0 P w K mg base N qual (defScope st) f cdv A outer s H E).nox (defBody st) (entryM N p ds rs) { nx := fun _ => False, rt := fun ρ r' => r' = r ∧ ρ[0]? = some (.mu (mlsQ (fun a => a = p) ds')) }) : FnOk P w K mg base CX0 (k + 1) f fd ps (spM φ K) := by
  refine Fn.ok S (fun vs H Q E h => ?_) (fun cdv A outer s H vs Q E hr h => ?_)
  · obtain ⟨B, p, xs, ws, rs, r, ds, ds', rfl, _, _, _, _, h2, h3, _⟩ := h
    rw [List.length_cons, h2.len]; exact len _ _ _ _ h3
  · refine ⟨wSs _ _, pss_w, ?_⟩
    obtain ⟨B, p, xs, ws, rs, r, ds, ds', rfl, bh, bp, hp, hd, h2, h3, q⟩ := h
    refine body cdv A outer s H E hr p ds rs ds' r h3 (hole H p) B B H _ _ (nv_entryM bh bp hp hd h2) ⟨fun _ _ _ _ z => z.elim, fun ρ r' σ B' H' v e E' s' ok => ?_, fun _ _ _ _ z => z.elim, fun _ _ _ _ z => z.elim⟩
    obtain ⟨rfl, e0⟩ := e
    obtain ⟨p', o, _, b1, _, h1, rfl, ys, rfl, dy⟩ := E'.own e0
    exact q v B' H' ys s' E'.bH b1 (fun a o ne e => E'.fH a o (by rw [hole_ne ne]; exact e)) (fun a z => by
      rcases E'.fr a z with k | k
      · exact .inl k
      · by_cases ha : a = p'
        · subst ha; exact absurd b1 z
        · rw [hole_ne ha] at k; exact .inr k) h1 dy ok
end
section
variable {X : Cx} {ρ ρ1 ρ2 ρ3 : List En} {x : Str} {e : Expr} {es : List Expr} {pos p : Pos} {rs : List Im} {r : Im} {k : Nat} {f : Addr} {fd : FuncData} {ps : List Str} {φ : List PyData → List Im → List PyData → Im → Prop} {q : Addr → Prop} {ds0 ds ds' : List PyData}
theorem Nv.called {K : PySem.W.Frag} {F B0 B H B' H' : Hp} {σ : Sl} {i : Nat} {ys : List V} {p0 : Addr} (E : Nv K F B0 B H σ ρ) (hr : ρ[i]? = some (.mu (mlsQ q ds))) (hp : σ[i]? = some (some (.ref p0))) (b : Same B B') (bh : Same B' H') (bp : B' p0 = none) (hh : ∀ a o, a ≠ p0 → H a = some o → H' a = some o) (hf : ∀ a, B' a ≠ none → B a ≠ none ∨ H a = none) (hy : H' p0 = some (.lst ys)) (dy : DpAll K B' ys ds') : Nv K F B0 B' H' σ (ρ.set i (.mu (mlsQ q ds'))) := by
  obtain ⟨p1, o1, hp1, _, _, ho, hq, xs, rfl, dx⟩ := E.own hr
  rw [hp] at hp1
  cases hp1
  have g : Grow B H B' (upd H' p0 (.lst xs)) := by
    refine ⟨b, fun a o h => ?_, fun a o h => ?_, hf⟩
    · by_cases ha : a = p0
      · subst ha; rw [bp] at h; cases h
      · rw [upd_ne ha]; exact bh a o h
    · by_cases ha : a = p0
      · subst ha; rw [upd_same, ← ho]; exact h
      · rw [upd_ne ha]; exact hh a o ha h
  have E2 := (E.grow g).change (m' := mlsQ q ds') (o' := .lst ys) hr hp ⟨hq, ys, rfl, dy⟩
  have e : upd (upd H' p0 (.lst xs)) p0 (.lst ys) = H' := by
    funext a
    by_cases ha : a = p0
    · subst ha; rw [upd_same, hy]
    · rw [upd_ne ha, upd_ne ha]
  rw [e] at E2
  exact E2
theorem ed_callM {y : Str} {py : Pos} (i : Nat) (Fn : FnOk X.prog X.w X.K X.mg X.base CX0 k f fd ps (spM φ X.K)) (hr : Room k X.A) (hm : X.mg x = some (.ref f)) (hk : PySem.W.keepIn X.K (.ref f) = true) (hb : Binds X.K fd ps []) (h0 : ρ[i]? = some (.mu (mlsQ q ds0))) (ha : AD X es ρ ρ1 rs) (h1 : ρ1[i]? = some (.mu (mlsQ q ds))) (h : φ ds rs ds' r) (hg : Gl X x := by rfl) (hdb : (x == ("__debug__" : Str)) = false := by decide)
    (hN : X.N[i]? = some y := by rfl) (hv : Vis X.env.scope y := by first | exact Or.inl rfl | exact Or.inr (Or.inl rfl) | exact Or.inr (Or.inr rfl)) (hdb2 : (y == ("__debug__" : Str)) = false := by decide) (hcd : (y == ("__classdict__" : Str)) = false := by decide)
    (he : starEach (.Name y py :: es) X.env = (false, eval (.Name y py) X.env) :: starEach es X.env := by rfl) (hpl : (backTo pos (starEach es X.env)).any (·.1) = false := by rfl) : ED X (.Call (.Name x p) (.Name y py :: es) [] pos) ρ (ρ1.set i (.mu (mlsQ q ds'))) r := by
  intro F B0 B H σ E Q k'
  refine wE.of (pe_call Fn hr hg hm hk hb .nil pass0 (pa_cons (pe_var hN hv hdb2 hcd) pa_w he) hdb he hpl) ?_
  obtain ⟨p0, o0, hp0, _⟩ := E.own h0
  refine ⟨_, hp0, ha F B0 B H σ E _ fun vs B1 H1 E1 b1 ok1 => ?_⟩
  obtain ⟨p1, o1, hp1, bp, _, ho, _, xs, rfl, dx⟩ := E1.own h1
  rw [hp0] at hp1
  cases hp1
  rw [List.append_nil]
  refine ⟨B1, p0, xs, vs, rs, r, ds, ds', rfl, E1.bH, bp, ho, dx, ok1, h, fun v B2 H2 ys s1 s2 s3 s4 s5 s6 s7 s8 => ?_⟩
  exact k' v B2 H2 (E1.called h1 hp0 s1 s2 s3 s4 s5 s6 s7) (b1.trans s1) s8
end

/-! ### [elt for k in range(n)], whatever changes at it -/
section
variable {X : Cx} {scope : Scope} {ρ : List En} {own : List (Str × Nat)} {e elt tg : Expr} {pos p2 p : Pos} {j n : Nat} {R Re : Nat → List En} {out : Nat → PyData} {P : Post} {rest : List Stmt} {y : Str} {py spos : Pos}
theorem kept_all (n : Nat) (out : Nat → PyData) : kept n (fun _ => true) out = (List.range n).map out := by
  unfold kept
  rw [List.filter_eq_self.mpr fun _ _ => rfl]
theorem rd_lcR {vs : List Nat} (hi : ED X e ρ (R 0) (dat (.int n))) (he : ∀ i, i < n → UE X scope elt ((R i).set j (.im (dat (.int i)))) (Re i) (dat (out i))) (hw : ∀ i, i < n → Wk (Re i) (R (i + 1))) (ho : ∀ i, i ≤ n → vs.all (noAt (R i)) = true) (hj : j ∈ vs) (hn : n < 100000) :
    RdD X.K (tLc (iRng1 (tCons (wE X e) tNil)) (gName j) tYes (uE X scope elt) vs) ρ (R n) (dat (.list ((List.range n).map out))) := fun F B0 B H σ E Q q => by
  have L : LcD X ρ vs n (fun i => .int (i : Int)) (gName j) tYes (uE X scope elt) R (fun i => (R i).set j (.im (dat (.int i)))) (fun i => (R i).set j (.im (dat (.int i)))) Re (fun _ => true) out :=
    ⟨fun i h => noAt_own (ho i h), fun i h => gt_name hj, fun i h => tt_yes, fun i h _ => ue_run (he i h), fun i h _ => (hw i h).at, fun i h z => by cases z⟩
  refine L.range (k := (n : Int)) hi (fun _ _ => rfl) (Int.toNat_natCast n) (Int.natCast_nonneg n) hn E fun v B' H' E' s d => q v B' H' E' s ?_
  rw [kept_all] at d
  exact d
theorem ed_lcR (R Re : Nat → List En) (out : Nat → PyData) (n : Nat) (hi : ED X e ρ (R 0) (dat (.int n))) (he : ∀ i, i < n → UE X scope elt ((R i).set j (.im (dat (.int i)))) (Re i) (dat (out i))) (hw : ∀ i, i < n → Wk (Re i) (R (i + 1))) (ok : BlkOk X.N X.env.scope scope own) (hN : X.N.Nodup) (hc : X.calm = true) (hgt : BG X scope tg (gName j)) (hn : n < 100000) (hm : X.mg "range" = none)
    (ho : ∀ i, i ≤ n → (own.map (·.2)).all (noAt (R i)) = true := by intro _ _; rfl) (hj : j ∈ own.map (·.2) := by decide) (hg : Gl X "range" := by rfl) (ha : starEach [e] X.env = [(false, eval e X.env)] := by rfl) (hs : ∀ x, foldedSetIterable (.Call (.Name "range" p2) [e] [] p) X.env x = pure x := by intro _; rfl) :
    ED X (.ListComp elt [⟨tg, .Call (.Name "range" p2) [e] [] p, [], 0⟩] scope pos) ρ (R n) (dat (.list ((List.range n).map out))) :=
  ed_of (pe_lc (own := own) hc hN (pi_range1 hg hm (pa_cons pe_w pa_nil ha) ha) ok hgt (fun _ _ _ _ _ => pts_nil) (fun s H C cl fp => pe_u s H C cl fp) hs) (rd_lcR hi he hw ho hj hn)
theorem sd_lcR (i : Nat) (R Re : Nat → List En) (out : Nat → PyData) (n : Nat) (hi : ED X e ρ (R 0) (dat (.int n))) (he : ∀ i, i < n → UE X scope elt ((R i).set j (.im (dat (.int i)))) (Re i) (dat (out i))) (hw : ∀ i, i < n → Wk (Re i) (R (i + 1))) (k : SD X rest ((R n).set i (.im (dat (.list ((List.range n).map out))))) P) (ok : BlkOk X.N X.env.scope scope own) (hN : X.N.Nodup) (hc : X.calm = true) (hgt : BG X scope tg (gName j)) (hn : n < 100000) (hm : X.mg "range" = none)
    (hy : X.N[i]? = some y := by rfl) (hyl : X.env.scope.names.lookup y = some .local := by rfl) (hsw : swapsWith (.ListComp elt [⟨tg, .Call (.Name "range" p2) [e] [] p, [], 0⟩] scope pos) (some (.Name y py)) spos.line X.env = pure true := by exact sw_true rfl rfl rfl (by decide +kernel))
    (ho : ∀ i, i ≤ n → (own.map (·.2)).all (noAt (R i)) = true := by intro _ _; rfl) (hj : j ∈ own.map (·.2) := by decide) (hg : Gl X "range" := by rfl) (ha : starEach [e] X.env = [(false, eval e X.env)] := by rfl) (hs : ∀ x, foldedSetIterable (.Call (.Name "range" p2) [e] [] p) X.env x = pure x := by intro _; rfl) :
    SD X (.Assign [.Name y py] (.ListComp elt [⟨tg, .Call (.Name "range" p2) [e] [] p, [], 0⟩] scope pos) spos :: rest) ρ P :=
  sd_setOf i (ps_setLc (own := own) hc hN hy hyl hsw (pi_range1 hg hm (pa_cons pe_w pa_nil ha) ha) ok hgt (fun _ _ _ _ _ => pts_nil) (fun s H C cl fp => pe_u s H C cl fp) hs) (rd_lcR hi he hw ho hj hn) k
end

/-! ### sorted(list of texts) -/
section
variable {X : Cx} {ρ ρ1 : List En} {e : Expr} {pos p : Pos} {xs : List Str}
theorem ed_sortS (h : ED X e ρ ρ1 (dat (.list (xs.map tS)))) (hz : xs.length ≤ 1000) (hu : X.A.units + 64 < cLine) (hm : X.mg "sorted" = none) (hg : Gl X "sorted" := by rfl) (he : starEach [e] X.env = (false, eval e X.env) :: starEach [] X.env := by rfl) : ED X (.Call (.Name "sorted" p) [e] [] pos) ρ ρ1 (dat (.list ((sorts xs).map tS))) := by
  have h1 : PySem.W.AllAlike (xs.map tS) := fun d hd d' hd' => by
    obtain ⟨a, _, rfl⟩ := List.mem_map.mp hd
    obtain ⟨b, _, rfl⟩ := List.mem_map.mp hd'
    rfl
  have h2 : PySem.W.Sortable (xs.map tS) := .inr fun d hd => by
    obtain ⟨a, _, rfl⟩ := List.mem_map.mp hd
    exact ⟨fun z => (by cases z), fun _ z => (by cases z)⟩
  have h3 := ed_sortD (p := p) (pos := pos) tS h h1 h2 hz (fun b _ => by
    show X.A.units + 2 + 0 < cLine
    omega) hm hg he
  have e1 : PySem.W.dataLe false tS = leS := by
    have := PySem.W.dataLe_str (fun x : Str => x)
    exact this
  rw [e1] at h3
  exact h3
end
end Fd
end

/-! part FdO -/
section
set_option Elab.async false
set_option linter.all false
set_option maxRecDepth 100000
set_option maxHeartbeats 1000000
namespace Fd
open PySem PySem.Spec PyProof.Rows L2
/-! ### [elt for key in an own dict] -/
section
variable {K : PySem.W.Frag} {H : Hp} {d : Addr} {od : Obj} {kv : List (Key × V)}
theorem sqL_off (e : H d = some (.frz od (.dK kv))) {a : Addr} {xs : List V} (h : SqL K H a xs) : SqL K (hole H d) a xs := by
  rcases h with (h | ⟨o, h⟩) | h
  · exact .inl (.inl (by rw [hole_ne (fun z => by rw [z, e] at h; cases h)]; exact h))
  · exact .inl (.inr ⟨o, by rw [hole_ne (fun z => by rw [z, e] at h; cases h)]; exact h⟩)
  · exact .inr h
theorem sqT_off (e : H d = some (.frz od (.dK kv))) {a : Addr} {xs : List V} (h : SqT K H a xs) : SqT K (hole H d) a xs := by
  rcases h with (h | ⟨o, h⟩) | h
  · exact .inl (.inl (by rw [hole_ne (fun z => by rw [z, e] at h; cases h)]; exact h))
  · exact .inl (.inr ⟨o, by rw [hole_ne (fun z => by rw [z, e] at h; cases h)]; exact h⟩)
  · exact .inr h
mutual
theorem dp_off (e : H d = some (.frz od (.dK kv))) : ∀ (x : PyData) (v : V), Dp K H v x → Dp K (hole H d) v x
  | .none, _, h => by cases h; exact .non
  | .bool b, _, h => by cases h; exact .bl b
  | .int i, _, h => by cases h; exact .int i
  | .str x, _, h => by cases h; exact .str x
  | .list ds, _, h => by
    cases h with
    | lst h1 h2 => exact .lst (sqL_off e h1) (dps_off e ds _ h2)
  | .tuple ds, _, h => by
    cases h with
    | tup h1 h2 => exact .tup (sqT_off e h1) (dps_off e ds _ h2)
  | .dict _, _, h => by cases h
theorem dps_off (e : H d = some (.frz od (.dK kv))) : ∀ (ds : List PyData) (vs : List V), DpAll K H vs ds → DpAll K (hole H d) vs ds
  | [], _, h => by cases h; exact .nil
  | x :: ds, _, h => by
    cases h with
    | cons h1 h2 => exact .cons (dp_off e x _ h1) (dps_off e ds _ h2)
end
end
def mlk (od : Obj) (kvs : List (Str × PyData)) : Mu := ⟨fun K H _ o => ∃ kv, o = .frz od (.dK kv) ∧ KvR K H kv kvs, fun {_ _ _ _ _} e ⟨kv, h1, h2⟩ => ⟨kv, h1, kv_mono e h2⟩⟩
section
variable {X : Cx} {scope : Scope} {ρ : List En} {own : List (Str × Nat)} {e elt tg : Expr} {pos px : Pos} {j : Nat} {kvs : List (Str × PyData)} {f : Str → PyData} {x : Str}
theorem kv_at {K : PySem.W.Frag} {H : Hp} : ∀ {kv : List (Key × V)} {kvs : List (Str × PyData)} {i : Nat} {k : Key} {v : V}, KvR K H kv kvs → kv[i]? = some (k, v) → ∃ s d, kvs[i]? = some (s, d) ∧ k = .inr s
  | _, _, _, _, _, .nil, h => by simp at h
  | _, _, 0, _, _, .cons (b := q) ⟨h1, h2⟩ _, h => by
    simp at h
    subst h
    exact ⟨q.1, q.2, rfl, h1⟩
  | _, _, i + 1, k, v, .cons _ t, h => by
    obtain ⟨s, d, h1, h2⟩ := kv_at (i := i) t (by simpa using h)
    exact ⟨s, d, by simpa using h1, h2⟩
theorem ed_lcKeys (i : Nat) (f : Str → PyData) (hr : ρ[i]? = some (.mu (mdc kvs))) (hno : ∀ (k : Nat) (m : Mu), ρ[k]? = some (.mu m) → k = i) (he : ∀ p ∈ kvs, UE X scope elt ((ρ.set i (.im (dct kvs))).set j (.im (dat (tS p.1)))) ((ρ.set i (.im (dct kvs))).set j (.im (dat (tS p.1)))) (dat (f p.1))) (ok : BlkOk X.N X.env.scope scope own) (hN : X.N.Nodup) (hc : X.calm = true) (hg : BG X scope tg (gName j)) (hn : kvs.length < 100000)
    (hx : X.N[i]? = some x := by rfl) (hv : Vis X.env.scope x := by first | exact Or.inl rfl | exact Or.inr (Or.inl rfl) | exact Or.inr (Or.inr rfl)) (hd : (x == ("__debug__" : Str)) = false := by decide) (hcd : (x == ("__classdict__" : Str)) = false := by decide)
    (hj : j ∈ own.map (·.2) := by decide) (ho : (own.map (·.2)).all (noAt (ρ.set i (.im (dct kvs)))) = true := by rfl) (hs : ∀ y, foldedSetIterable (.Name x px) X.env y = pure y := by intro _; rfl) : ED X (.ListComp elt [⟨tg, .Name x px, [], 0⟩] scope pos) ρ ρ (dat (.list (kvs.map fun p => f p.1))) := by
  intro F B0 B H σ E Q q
  refine wE.of (pe_lock (pe_lc (own := own) hc hN (pi_keys (pe_var hx hv hd hcd)) ok hg (fun _ _ _ _ _ => pts_nil) (fun s H C cl fp => pe_u s H C cl fp) hs)) ?_
  obtain ⟨d, o, hp, b1, f1, h1, kv, rfl, kr⟩ := E.own hr
  refine ⟨d, .dK kv, h1, True.intro, fun od => ?_⟩
  have E0 := E.change (m' := mlk od kvs) (o' := .frz od (.dK kv)) hr hp ⟨kv, rfl, kr⟩
  have hr0 : (ρ.set i (.mu (mlk od kvs)))[i]? = some (.mu (mlk od kvs)) := List.getElem?_set_self (lt_of_get hr)
  obtain ⟨B1, bb, E1⟩ := E0.freeze (r := dct kvs) hr0 fun B p o e ⟨kv, e1, e2⟩ => by
    subst e1
    exact ⟨p, kv, rfl, .inr ⟨od, e⟩, e2⟩
  rw [List.set_set] at E1
  have ld : B1 d = some (.frz od (.dK kv)) := by
    obtain ⟨v, e, p, kv', rfl, rd, _⟩ := E1.im (r := dct kvs) (List.getElem?_set_self (lt_of_get hr))
    rw [hp] at e
    cases e
    rcases rd with rd | ⟨u, rd⟩
    · have := E1.bH _ _ rd
      rw [upd_same] at this
      cases this
    · have := E1.bH _ _ rd
      rw [upd_same] at this
      cases this
      exact rd
  have lk := kv_len kr
  have L := lc_pure (X := X) (ρ := ρ.set i (.im (dct kvs))) (vs := own.map (·.2)) (g := gName j) (tt := tYes) (te := uE X scope elt) (xs := kvs) (enc := fun p => tS p.1) (f := fun p => f p.1) (p := fun _ => true) (js := [j]) (parts := fun p => [tS p.1]) (fun _ _ => gt_name hj) (fun k hk => by rw [List.mem_singleton.mp hk]; exact hj) ho (fun _ _ => tt_yes) fun p hp _ => ue_run (he p hp)
  refine ⟨_, hp, d, od, rfl, .inl ⟨kv, upd_same, fun D hD => ?_⟩⟩
  have bD : B0 D = none := E1.b0.free (E1.bH.free hD)
  have fD : F D = none := E1.fH.free hD
  refine lc_it (walk_keys (d := d) (o := od) (kvs := kv)) (LcI X.K F B0 B1 D σ (own.map (·.2)) (fun _ => ρ.set i (.im (dct kvs))) (fun i => ((kvs[i]?).map fun _ => true).getD false) (fun i => ((kvs[i]?).map fun p => f p.1).getD .none)) (L.start E1 hD) (fun n H _ ⟨B, acc, E', s, _⟩ => E'.bH _ _ (s _ _ ld)) (fun n x H H' hn' p y => ?_) fun H p => ?_
  · obtain ⟨e, k, v, e1, e2⟩ := y
    subst e e2
    obtain ⟨s, dd, e3, e4⟩ := kv_at kr e1
    subst e4
    refine L.turn bD hn (by omega) ?_ p
    show Dp X.K B1 (.str s) _
    rw [e3]
    exact .str s
  · rw [lk] at p
    obtain ⟨B', E', s, dd⟩ := L.done bD fD p
    have ld' := s _ _ ld
    refine ⟨E'.bH _ _ ld', ?_⟩
    have sB : Same B (hole B' d) := fun a o e => by
      have na : a ≠ d := fun z => by rw [z, b1] at e; cases e
      rw [hole_ne na]
      exact s _ _ (bb _ _ e)
    refine q _ (hole B' d) _ ⟨fun a o e => ?_, fun a o e => ?_, E.b0.trans sB, fun a z => ?_, E.len, fun k r e hn' => ?_, E.ap, E.fz⟩ sB ?_
    · have na : a ≠ d := fun z => by rw [z, f1] at e; cases e
      rw [upd_ne na]
      exact E'.fH a o e
    · by_cases na : a = d
      · rw [na, hole_at] at e; cases e
      · rw [hole_ne na] at e
        rw [upd_ne na]
        exact E'.bH a o e
    · by_cases na : a = d
      · rw [na, hole_at] at z; exact absurd rfl z
      · rw [hole_ne na] at z
        exact E'.fr a z
    · obtain ⟨v, e1, e2⟩ := E.ent k r e hn'
      refine ⟨v, e1, ?_⟩
      cases r with
      | no => exact True.intro
      | im r => exact r.mono sB e2
      | mu m =>
        obtain rfl := hno k m e
        rw [hr] at e
        cases e
        rw [hp] at e1
        cases e1
        exact ⟨d, .dK kv, rfl, hole_at, f1, upd_same, kv, rfl, kv_mono sB kr⟩
    · have := dp_off ld' _ _ dd
      rw [kept_map] at this
      rw [List.filter_eq_self.mpr fun _ _ => rfl] at this
      exact this
end
end Fd
end

/-! part FdP -/
section
set_option Elab.async false
set_option linter.all false
set_option maxRecDepth 100000
/-! Data: shapes, ==, the order of rows that begin with texts that differ. -/
namespace Fd
open PySem L2
/-- a shape of at most n floors -/
def Sh (n : Nat) (d : PyData) : Prop := d.canLay0 = true ∧ d.depth ≤ n
theorem Sh.bool {n : Nat} {b : Bool} : Sh n (.bool b) := ⟨rfl, Nat.zero_le _⟩
theorem Sh.int {n : Nat} {b : Int} : Sh n (.int b) := ⟨rfl, Nat.zero_le _⟩
theorem Sh.str {n : Nat} {x : Str} (h : PyData.strOk x = true) : Sh n (tS x) := ⟨h, Nat.zero_le _⟩
theorem Sh.all {n : Nat} : ∀ {ds : List PyData}, (∀ d ∈ ds, Sh n d) → PyData.canLayAll0 ds = true ∧ PyData.depthAll ds ≤ n
  | [], _ => ⟨rfl, Nat.zero_le _⟩
  | d :: ds, h => by
    obtain ⟨a, b⟩ := h d List.mem_cons_self
    obtain ⟨c, e⟩ := Sh.all fun d hd => h d (List.mem_cons_of_mem _ hd)
    refine ⟨?_, ?_⟩
    · show (d.canLay0 && PyData.canLayAll0 ds) = true
      rw [a, c]; rfl
    · show max d.depth (PyData.depthAll ds) ≤ n
      omega
theorem Sh.list {n : Nat} {ds : List PyData} (h : ∀ d ∈ ds, Sh n d) : Sh (n + 1) (.list ds) := by
  obtain ⟨a, b⟩ := Sh.all h
  exact ⟨a, Nat.succ_le_succ b⟩
theorem Sh.tuple {n : Nat} {ds : List PyData} (h : ∀ d ∈ ds, Sh n d) : Sh (n + 1) (.tuple ds) := by
  obtain ⟨a, b⟩ := Sh.all h
  exact ⟨a, Nat.succ_le_succ b⟩
theorem Sh.shaped {n : Nat} {d : PyData} (h : Sh n d) (hn : n ≤ 64 := by decide) : SeqAt.shaped d = true := by
  unfold SeqAt.shaped
  rw [h.1, decide_eq_true (Nat.le_trans h.2 hn)]; rfl
theorem Sh.map {β : Type} {n : Nat} {xs : List β} {enc : β → PyData} (h : ∀ x ∈ xs, Sh n (enc x)) : ∀ d ∈ xs.map enc, Sh n d := fun d hd => by
  obtain ⟨x, hx, rfl⟩ := List.mem_map.mp hd
  exact h x hx
/-! ### == -/
theorem eqv_all {β : Type} [DecidableEq β] {enc : β → PyData} (h : ∀ x y, PyData.eqv (enc x) (enc y) = decide (x = y)) : ∀ xs ys : List β, PyData.eqvAll (xs.map enc) (ys.map enc) = decide (xs = ys)
  | [], [] => rfl
  | [], _ :: _ => rfl
  | _ :: _, [] => rfl
  | x :: xs, y :: ys => by
    show (PyData.eqv (enc x) (enc y) && PyData.eqvAll (xs.map enc) (ys.map enc)) = _
    rw [h, eqv_all h xs ys]
    by_cases e : x = y
    · subst e
      by_cases e2 : xs = ys
      · subst e2; simp
      · simp [e2]
    · simp [e]
theorem eqv_list {β : Type} [DecidableEq β] {enc : β → PyData} (h : ∀ x y, PyData.eqv (enc x) (enc y) = decide (x = y)) (xs ys : List β) : PyData.eqv (.list (xs.map enc)) (.list (ys.map enc)) = decide (xs = ys) := eqv_all h xs ys
theorem eqv_tS (x y : Str) : PyData.eqv (tS x) (tS y) = decide (x = y) := by
  show (x == y) = _
  rfl
/-! ### rows -/
theorem dataLt_first {x y : Str} {xs ys : List PyData} (h : x ≠ y) : PySem.W.dataLt (.tuple (tS x :: xs)) (.tuple (tS y :: ys)) = decide (x.cps.toList < y.cps.toList) := by
  rw [PySem.W.dataLt_tuple, PySem.W.dataLt_cons rfl, eqv_tS, decide_eq_false h, if_neg Bool.false_ne_true]
  exact PySem.W.dataLt_str x y
section
variable {β : Type} {key : β → Str} {row : β → List PyData}
def encR (key : β → Str) (row : β → List PyData) (b : β) : PyData := .tuple (tS (key b) :: row b)
theorem dataLe_first {a b : β} (h : PySem.W.dataLe false (encR key row) a b = true) : leS (key a) (key b) = true := by
  have h : (!PySem.W.dataLt (encR key row b) (encR key row a)) = true := h
  by_cases e : key b = key a
  · rw [e]; exact decide_eq_true (List.le_refl _)
  · unfold encR at h
    rw [dataLt_first e, Bool.not_eq_true', decide_eq_false_iff_not] at h
    exact decide_eq_true (List.not_lt.mp h)
/-- rows with keys apart, put in order: the only list of them whose keys rise -/
theorem sort_rows {bs cs : List β} (nd : (bs.map key).Nodup) (hp : cs.Perm bs) (hs : cs.Pairwise fun a b => leS (key a) (key b) = true) : bs.mergeSort (PySem.W.dataLe false (encR key row)) = cs := by
  have T := PySem.W.sortLe_total (PyProof.Rows.listOrd PyProof.Rows.itemOrd) false fun b => PySem.W.keyToks (encR key row b)
  have hm : (bs.mergeSort (PySem.W.dataLe false (encR key row))).Perm bs := List.mergeSort_perm _ _
  have pw : (bs.mergeSort (PySem.W.dataLe false (encR key row))).Pairwise fun a b => PySem.W.dataLe false (encR key row) a b = true := List.pairwise_mergeSort T.trans (fun a b => by
    rcases T.total a b with h | h
    · show (PySem.W.dataLe false (encR key row) a b || _) = true
      rw [show PySem.W.dataLe false (encR key row) a b = true from h]; rfl
    · show (_ || PySem.W.dataLe false (encR key row) b a) = true
      rw [show PySem.W.dataLe false (encR key row) b a = true from h, Bool.or_true]) bs
  have inj : ∀ a ∈ bs, ∀ b ∈ bs, key a = key b → a = b := by
    clear hp hs hm pw T
    induction bs with
    | nil => intro a ha; cases ha
    | cons x xs ih =>
      rw [List.map_cons, List.nodup_cons] at nd
      intro a ha b hb e
      rcases List.mem_cons.mp ha with ea | ha
      · rcases List.mem_cons.mp hb with eb | hb
        · rw [ea, eb]
        · exact absurd (List.mem_map.mpr ⟨b, hb, by rw [← e, ea]⟩) nd.1
      · rcases List.mem_cons.mp hb with eb | hb
        · exact absurd (List.mem_map.mpr ⟨a, ha, by rw [e, eb]⟩) nd.1
        · exact ih nd.2 a ha b hb e
  exact List.Perm.eq_of_pairwise (le := fun a b => leS (key a) (key b) = true) (fun a b ha hb h k => inj a (hm.mem_iff.mp ha) b (hp.mem_iff.mp hb) (leS_anti h k)) (pw.imp dataLe_first) hs (hm.trans hp.symm)
end
end Fd
end

/-! part FdQ -/
section
set_option Elab.async false
set_option linter.all false
set_option maxRecDepth 100000
set_option maxHeartbeats 1000000
namespace Fd
open PySem PySem.Spec PyProof.Rows L2
/-- own objects stand at i alone -/
theorem only_mu {ρ : List En} {i : Nat} (h : (ρ.set i .no).all (fun e => !e.isMu) = true) (k : Nat) (m : Mu) (e : ρ[k]? = some (.mu m)) : k = i := by
  by_cases hk : k = i
  · exact hk
  · exfalso
    have e' : (ρ.set i .no)[k]? = some (.mu m) := by rw [List.getElem?_set_ne (fun z => hk z.symm)]; exact e
    have := List.all_eq_true.mp h _ (List.mem_of_getElem? e')
    cases this
section
variable {X : Cx} {ρ ρ1 : List En} {tg iter : Expr} {rest body : List Stmt} {pos : Pos} {P : Post} {β : Type}
theorem gn_run {K : PySem.W.Frag} : ∀ {js : List Nat} {ds : List PyData} {xs : List V} {ρ : List En} {F B0 B H : Hp} {σ : Sl}, js.length = ds.length → Nv K F B0 B H σ ρ → DpAll K B xs ds → ∀ Q : Sl → Hp → Prop, (∀ σ', Nv K F B0 B H σ' (setAll ρ js ds) → Q σ' H) → gNames js xs σ H Q
  | [], [], _, _, _, _, _, _, _, _, E, .nil, Q, q => ⟨rfl, q _ E⟩
  | j :: js, d :: ds, _, ρ, F, B0, B, H, σ, hl, E, .cons h1 h2, Q, q => ⟨_, _, rfl, gn_run (by simpa using hl) (E.set (r := dat d) h1) h2 Q q⟩
theorem Wk.setAll : ∀ {js : List Nat} {ds : List PyData} {ρ ρ' : List En}, Wk ρ ρ' → Wk (setAll ρ js ds) (setAll ρ' js ds)
  | [], _, _, _, w => by unfold Fd.setAll; exact w
  | _ :: _, [], _, _, w => by unfold Fd.setAll; exact w
  | j :: js, d :: ds, _, _, w => by unfold Fd.setAll; exact Wk.setAll w.set
/-- for a, b, .. in a tuple -/
theorem sd_forTP (js : List Nat) (xs : List β) (parts : β → List PyData) (C : Nat → List En) (hi : ED X iter ρ ρ (dat (.tuple (xs.map fun y => .tuple (parts y))))) (h0 : Wk ρ (C 0))
    (hs : ∀ i y, xs[i]? = some y → SD X body (setAll (C i) js (parts y)) { P with nx := fun ρ' => Wk ρ' (C (i + 1)), ct := fun ρ' => Wk ρ' (C (i + 1)), bk := fun ρ' => SD X rest ρ' P }) (hd : SD X rest (C xs.length) P)
    (hg : PG X tg (gTup X.K js.length (gNames js))) (hl : ∀ y, (parts y).length = js.length) (hp : PassesOwn (model X.prog X.w) X.A X.env X.xe) (hc : X.calm = true) (hfs : ∀ x, foldedSetIterable iter X.env x = pure x := by intro _; rfl) : SD X (.For tg iter body [] pos :: rest) ρ P := by
  refine sd_forT (fun i ρ' => Wk ρ' (C i)) (fun i ρ' => match xs[i]? with | some y => setAll ρ' js (parts y) | none => ρ') hi h0 ⟨_, hg, fun i d ρ' hd' hI F B0 B H σ v E ok Q q => ?_⟩ (fun i d ρ' hd' hI => ?_) (fun ρ' hI => ?_) hp hc hfs
  · rw [List.getElem?_map] at hd'
    cases hy : xs[i]? with
    | none => rw [hy] at hd'; cases hd'
    | some y =>
      rw [hy] at hd'
      cases hd'
      cases ok with
      | tup h1 h2 =>
        refine ⟨_, _, rfl, same_sqT E.bH h1, (dps_len h2).trans (hl y), gn_run (hl y).symm E h2 Q fun σ' E' => q σ' ?_⟩
        rw [hy]
        exact E'
  · rw [List.getElem?_map] at hd'
    cases hy : xs[i]? with
    | none => rw [hy] at hd'; cases hd'
    | some y => exact sd_wk hI.setAll (hs i y hy)
  · rw [List.length_map] at hI
    exact sd_wk hI hd
theorem pg_n3 {x y z : Str} {p1 p2 p3 pos : Pos} {i j l k : Nat} (hN : X.N.Nodup) (hc : X.calm = true) (hi : X.N[i]? = some x := by rfl) (hj : X.N[j]? = some y := by rfl) (hl : X.N[l]? = some z := by rfl) (hx : Loc X.env.scope x := by first | exact Or.inl rfl | exact Or.inr rfl) (hy : Loc X.env.scope y := by first | exact Or.inl rfl | exact Or.inr rfl) (hz : Loc X.env.scope z := by first | exact Or.inl rfl | exact Or.inr rfl)
    (hf : X.fn x = true ∨ X.env.scope.names.lookup x = some .local := by first | exact .inl rfl | exact .inr rfl) (hf2 : X.fn y = true ∨ X.env.scope.names.lookup y = some .local := by first | exact .inl rfl | exact .inr rfl) (hf3 : X.fn z = true ∨ X.env.scope.names.lookup z = some .local := by first | exact .inl rfl | exact .inr rfl) :
    PG X (.Tuple [.Name x p1, .Name y p2, .Name z p3] k pos) (gTup X.K 3 (gNames [i, j, l])) :=
  pg_tup hc (pgs_cons (pg_name hN hi hx hf) (pgs_cons (pg_name hN hj hy hf2) (pgs_cons (pg_name hN hl hz hf3) pgs_nil)))
end
end Fd
end

/-! part FdR -/
section
set_option Elab.async false
set_option linter.all false
set_option maxRecDepth 100000
set_option maxHeartbeats 1000000
namespace Fd
open PySem PySem.Spec PyProof.Rows L2
section
variable {X : Cx} {ρ ρ1 ρ2 : List En} {a b e : Expr} {pos px : Pos} {x : Str} {q : Addr → Prop} {ds : List PyData} {d : PyData}
/-- e in an own list -/
theorem cd_inOwn (i : Nat) (h : ED X a ρ ρ1 (dat d)) (hr : ρ1[i]? = some (.mu (mls ds))) (fd : flatD d = true) (fs : ds.all flatD = true) (hN : X.N[i]? = some x := by rfl) (hv : Vis X.env.scope x := by first | exact Or.inl rfl | exact Or.inr (Or.inl rfl) | exact Or.inr (Or.inr rfl))
    (hdb : (x == ("__debug__" : Str)) = false := by decide) (hcd : (x == ("__classdict__" : Str)) = false := by decide) : CD X .In a (.Name x px) ρ ρ1 (ds.any fun z => PyData.eqv z d) := by
  intro F B0 B H σ E Q k
  have hp : PC X .In a (.Name x px) (tOp (rIn X.K false) (wE X a) (tVar i)) := ⟨fun pins s σ H Q I h => bin pe_w (pe_var hN hv hdb hcd) (R := fun x y H2 => rIn X.K false x y H2 Q) I h fun v u s2 x y H2 I2 rx ry q => op_in_seq pins s2 σ H2 x y v u Q I2 rx ry q⟩
  refine wC.of hp (h F B0 B H σ E _ fun v B1 H1 E1 b1 ok1 => ?_)
  obtain ⟨p, o, hp, _, _, ho, xs, rfl, dx⟩ := E1.own hr
  refine ⟨_, hp, _, _, rfl, .inl (.inl (.inl ho)), flat_dp ok1 fd, flat_dps dx fs, ?_⟩
  rw [in_V ok1 fd dx fs]
  exact k B1 H1 E1 b1
end
theorem atI_int {β : Type} {xs : List β} {i : Int} (d : β) (h0 : 0 ≤ i) (h1 : i < xs.length) : atI xs i = some (xs.getD i.toNat d) := by
  have e : ixN xs.length i = some i.toNat := by
    unfold ixN
    rw [if_pos h0, if_pos h1]
  unfold atI
  rw [e, List.getD_eq_getElem?_getD]
  have hl : i.toNat < xs.length := by omega
  show xs[i.toNat]? = _
  rw [List.getElem?_eq_getElem hl]; rfl
theorem any_tS (xs : List Str) (w : Str) : ((xs.map tS).any fun z => PyData.eqv z (tS w)) = decide (w ∈ xs) := by
  induction xs with
  | nil => rfl
  | cons x xs ih =>
    rw [List.map_cons, List.any_cons, ih, eqv_tS]
    by_cases e : x = w
    · subst e; simp
    · have e' : ¬ w = x := fun z => e z.symm
      simp [e, e', List.mem_cons]
end Fd
end

/-! part FdU -/
section
set_option Elab.async false
set_option linter.all false
set_option maxRecDepth 100000
set_option maxHeartbeats 1000000
namespace Fd
open PySem PySem.Spec PyProof.Rows L2
/-- a dict that no walk holds -/
def dcu (kvs : List (Str × PyData)) : Im := ⟨fun K H v => ∃ p kv, v = .ref p ∧ H p = some (.dK kv) ∧ KvR K H kv kvs, fun {_ _ _ _} e ⟨p, kv, h1, h2, h3⟩ => ⟨p, kv, h1, e _ _ h2, kv_mono e h3⟩⟩
theorem dcu_dct {kvs : List (Str × PyData)} : ∀ K H v, (dcu kvs).ok K H v → (dct kvs).ok K H v := fun K H v ⟨p, kv, h1, h2, h3⟩ => ⟨p, kv, h1, .inl h2, h3⟩
section
variable {X : Cx} {ρ ρ1 ρ2 : List En} {a b e : Expr} {es : List Expr} {rest : List Stmt} {pos p px apos cpos : Pos} {x : Str} {kvs : List (Str × PyData)} {ds : List PyData} {d : PyData} {k : Str} {P : Post}
theorem ed_dictU {ps : List (Str × PyData)} (h : ED X e ρ ρ1 (dat (.list (ps.map prD)))) (hc : X.calm = true) (hm : X.mg "dict" = none) (hg : Gl X "dict" := by rfl) (he : starEach [e] X.env = (false, eval e X.env) :: starEach [] X.env := by rfl) : ED X (.Call (.Name "dict" p) [e] [] pos) ρ ρ1 (dcu (mergeD [] ps)) :=
  ed_callT (call_dictP hc) (ad_one h he) (fun B H vs bh ok Q q => by
    obtain ⟨v, rfl, k1⟩ := ims1 ok
    clear ok
    cases k1 with
    | lst h1 h2 =>
      obtain ⟨as, kv, rfl, hp, hk⟩ := pairs_dps bh h2
      exact ⟨_, as, kv, rfl, bh.seq h1, hp, fun l hl => q _ _ _ (Grow.new bh hl) ⟨l, _, rfl, upd_same, kv_mono (Grow.new (o := .dK (mergeK [] kv)) bh hl).bb (kv_merge hk .nil)⟩⟩) hm (by decide +kernel) hg (by decide) (by decide) he
theorem ed_itemsU (i : Nat) (hr : ρ[i]? = some (.im (dcu kvs))) (hc : X.calm = true) (hm : X.mg "list" = none) (hg : Gl X "list" := by rfl) (hN : X.N[i]? = some x := by rfl) (hv : Vis X.env.scope x := by first | exact Or.inl rfl | exact Or.inr (Or.inl rfl) | exact Or.inr (Or.inr rfl))
    (hd : (x == ("__debug__" : Str)) = false := by decide) (hcd : (x == ("__classdict__" : Str)) = false := by decide) (hbase : attributeBase (.Name x px) "items" X.env (eval (.Name x px) X.env) = eval (.Name x px) X.env := by rfl) (hline : (apos.endLine == cpos.line) = true := by rfl)
    (hs : starEach [.Call (.Attribute (.Name x px) "items" apos) [] [] cpos] X.env = (false, eval (.Call (.Attribute (.Name x px) "items" apos) [] [] cpos) X.env) :: starEach [] X.env := by rfl) : ED X (.Call (.Name "list" p) [.Call (.Attribute (.Name x px) "items" apos) [] [] cpos] [] pos) ρ ρ (dat (.list (kvs.map prD))) :=
  ed_items i (fun F B0 B H σ E => by
    obtain ⟨v, e, p, kv, rfl, h2, h3⟩ := E.im hr
    exact ⟨p, kv, e, E.bH _ _ h2, h3⟩) hc hm hg hN hv hd hcd hbase hline hs
/-- e[k], e a dict -/
theorem ed_dgetE (hu : X.A.units + 1 < cLine) (ha : ED X a ρ ρ1 (dct kvs)) (h : ED X e ρ1 ρ2 (dat (.str k))) (hl : look kvs k = some d) (hs : NoSl e := by exact fun _ _ => rfl) : ED X (.Subscript a e pos) ρ ρ2 (dat d) := by
  intro F B0 B H σ E Q q
  refine wE.of (pe_dget hu pe_w pe_w hs) ?_
  refine ha F B0 B H σ E _ fun u B1 H1 E1 b1 ok1 => h F B0 B1 H1 σ E1 _ fun v B2 H2 E2 b2 ok2 => ?_
  obtain ⟨p, kv, rfl, rd, kr⟩ := (dct kvs).mono b2 ok1
  have ok2 : Dp X.K B2 v (.str k) := ok2
  cases ok2
  have g := kv_look k kr
  rw [hl] at g
  cases hv : valV kv (.inr k) with
  | none => rw [hv] at g; exact False.elim g
  | some v =>
    rw [hv] at g
    exact ⟨p, v, rfl, .inl ⟨kv, .inr k, rd_mono E2.bH rd, rfl, hv.symm⟩, q v B2 H2 E2 (b1.trans b2) g⟩
/-- x = [e, ..] : an own list -/
theorem sd_newLs {x : Str} {pos' : Pos} (i : Nat) (h : DD X es ρ ρ1 ds) (hl : ds.length ≤ 1000) (k : SD X rest (ρ1.set i (.mu (mlsQ (fun _ => True) ds))) P) (hN : X.N.Nodup) (hi : X.N[i]? = some x := by rfl) (hx : Loc X.env.scope x := by first | exact Or.inl rfl | exact Or.inr rfl) (hs : swapsWith (.List es p) (some (.Name x pos')) pos.line X.env = pure false := by rfl)
    (hf : X.fn x = true ∨ X.env.scope.names.lookup x = some .local := by first | exact .inl rfl | exact .inr rfl) : SD X (.Assign [.Name x pos'] (.List es p) pos :: rest) ρ P :=
  sd_of (ps_set hN hi hx (pe_lst pa_w) hs hf) fun F B0 B H σ D E f => h F B0 B H σ E _ fun vs B1 H1 E1 b1 ok1 => by
    have d1 := ims_dps ok1
    exact ⟨Nat.le_of_lt (small1000 (by rw [dps_len d1]; exact hl)), fun l hl => f.nx _ _ B1 _ k (E1.newOwn hl ⟨True.intro, vs, rfl, d1⟩) b1⟩
end
end Fd
end

/-! part K80m -/
section
set_option Elab.async false
set_option linter.all false
/-! What the program computes, in plain words. -/
namespace K80
open PySem Fd
/-- an attack -/
abbrev At := Str × Str
def tAt (p : At) : PyData := .tuple [tS p.1, tS p.2]
def attackers (ats : List At) (n : Str) : List Str := sset ((ats.filter fun p => decide (p.2 = n)).map (·.1))
theorem mem_attackers {ats : List At} {n m : Str} : m ∈ attackers ats n ↔ (m, n) ∈ ats := by
  unfold attackers
  rw [mem_sset, List.mem_map]
  constructor
  · rintro ⟨p, hp, rfl⟩
    obtain ⟨h1, h2⟩ := List.mem_filter.mp hp
    have h2 := of_decide_eq_true h2
    rw [← h2]; exact h1
  · intro h
    exact ⟨(m, n), List.mem_filter.mpr ⟨h, decide_eq_true rfl⟩, rfl⟩
theorem attackers_len (ats : List At) (n : Str) : (attackers ats n).length ≤ ats.length := by
  have h1 : (attackers ats n).length ≤ ((ats.filter fun p => decide (p.2 = n)).map (·.1)).length :=
    List.Nodup.length_le_of_subset (sset_nodup _) (fun x hx => mem_sset.mp hx)
  rw [List.length_map] at h1
  exact Nat.le_trans h1 (List.length_filter_le _ _)
inductive Lab
  | s
  | f
  | o
  deriving DecidableEq
def Lab.str : Lab → Str
  | .s => "stands"
  | .f => "falls"
  | .o => "open"
theorem Lab.inj {a b : Lab} (h : a.str = b.str) : a = b := by
  cases a <;> cases b <;> first | rfl | exact absurd h (by decide +kernel)
theorem Lab.eqv (a b : Lab) : PyData.eqv (tS a.str) (tS b.str) = decide (a = b) := by
  cases a <;> cases b <;> decide +kernel
abbrev Lb := Lab × Int
abbrev Fo := List (Str × Lb)
def eL (l : Lb) : PyData := .tuple [tS l.1.str, .int l.2]
def eF (found : Fo) : List (Str × PyData) := found.map fun p => (p.1, eL p.2)
def opn : Lb := (.o, -1)
def lb (found : Fo) (n : Str) : Lb := (look found n).getD opn
def others (found : Fo) (ats : List At) (n : Str) : List Lab := (attackers ats n).map fun m => (lb found m).1
def step (ats : List At) (found : Fo) (rank : Int) (fresh : Fo) (n : Str) : Fo :=
  if (look found n).isSome = false ∧ Lab.s ∈ others found ats n then putD fresh n (.f, rank)
  else if (look found n).isSome = false ∧ Lab.s ∉ others found ats n ∧ Lab.o ∉ others found ats n then putD fresh n (.s, rank)
  else fresh
def foldR (ats : List At) (found : Fo) (rank : Int) (ns : List Str) : Fo := ns.foldl (step ats found rank) []
def roundF (names : List Str) (ats : List At) (found : Fo) (rank : Int) : Fo := foldR ats found rank (sorts names)
def runF (names : List Str) (ats : List At) : Nat → Fo → Int → Fo
  | 0, found, _ => found
  | m + 1, found, rank => if roundF names ats found rank = [] then found else runF names ats m (mergeD found (roundF names ats found rank)) (rank + 1)
/-- how many are not yet settled -/
def unset (names : List Str) (found : Fo) : Nat := (names.filter fun n => !(look found n).isSome).length
def fin (names : List Str) (ats : List At) : Fo := runF names ats (names.length + 1) [] 0
def told (names : List Str) (ats : List At) : List (Str × Lb) := (sorts names).map fun n => (n, lb (fin names ats) n)
def tE (p : Str × Lb) : PyData := .tuple [tS p.1, tS p.2.1.str, .int p.2.2]

/-! ### what the walk wants -/
theorem step_len {ats : List At} {found fresh : Fo} {rank : Int} {n : Str} : (step ats found rank fresh n).length ≤ fresh.length + 1 := by
  have h : ∀ d, (putD fresh n d).length ≤ fresh.length + 1 := fun d => by
    unfold putD
    split
    · rw [List.length_map]; omega
    · rw [List.length_append]; exact Nat.le_refl _
  unfold step
  split
  · exact h _
  · split
    · exact h _
    · omega
theorem foldl_len {ats : List At} {found : Fo} {rank : Int} : ∀ (ns : List Str) (fresh : Fo), (ns.foldl (step ats found rank) fresh).length ≤ fresh.length + ns.length
  | [], fresh => Nat.le_refl _
  | n :: ns, fresh => by
    rw [List.foldl_cons, List.length_cons]
    have h1 := foldl_len (ats := ats) (found := found) (rank := rank) ns (step ats found rank fresh n)
    have h2 := step_len (ats := ats) (found := found) (fresh := fresh) (rank := rank) (n := n)
    omega
theorem foldR_len {ats : List At} {found : Fo} {rank : Int} (ns : List Str) : (foldR ats found rank ns).length ≤ ns.length := by
  have := foldl_len (ats := ats) (found := found) (rank := rank) ns []
  simpa [foldR] using this
theorem foldR_snoc {ats : List At} {found : Fo} {rank : Int} {ns : List Str} {n : Str} : foldR ats found rank (ns ++ [n]) = step ats found rank (foldR ats found rank ns) n := by
  unfold foldR
  rw [List.foldl_append]; rfl
theorem step_keys {ats : List At} {found fresh : Fo} {rank : Int} {n j : Str} (h : j ∈ (step ats found rank fresh n).map (·.1)) : j ∈ fresh.map (·.1) ∨ (j = n ∧ (look found n).isSome = false) := by
  unfold step at h
  split at h
  · rename_i q
    rcases mem_put.mp h with e | e
    · exact .inr ⟨e, q.1⟩
    · exact .inl e
  · split at h
    · rename_i q
      rcases mem_put.mp h with e | e
      · exact .inr ⟨e, q.1⟩
      · exact .inl e
    · exact .inl h
theorem foldl_keys {ats : List At} {found : Fo} {rank : Int} {j : Str} : ∀ (ns : List Str) (fresh : Fo), j ∈ (ns.foldl (step ats found rank) fresh).map (·.1) → j ∈ fresh.map (·.1) ∨ (j ∈ ns ∧ (look found j).isSome = false)
  | [], fresh, h => .inl h
  | n :: ns, fresh, h => by
    rw [List.foldl_cons] at h
    rcases foldl_keys ns _ h with h | h
    · rcases step_keys h with h | ⟨rfl, h⟩
      · exact .inl h
      · exact .inr ⟨List.mem_cons_self, h⟩
    · exact .inr ⟨List.mem_cons_of_mem _ h.1, h.2⟩
theorem round_keys {names : List Str} {ats : List At} {found : Fo} {rank : Int} {j : Str} (h : j ∈ (roundF names ats found rank).map (·.1)) : j ∈ names ∧ (look found j).isSome = false := by
  rcases foldl_keys _ _ h with h | h
  · cases h
  · exact ⟨(sorts_perm names).mem_iff.mp h.1, h.2⟩
theorem filter_lt {α : Type} {p q : α → Bool} : ∀ {l : List α}, (∀ x ∈ l, p x = true → q x = true) → ∀ x ∈ l, q x = true → p x = false → (l.filter p).length < (l.filter q).length
  | a :: l, h, x, hx, h1, h2 => by
    have le : (l.filter p).length ≤ (l.filter q).length := by
      have h' : ∀ x ∈ l, p x = true → q x = true := fun x hx => h x (List.mem_cons_of_mem _ hx)
      clear h hx
      induction l with
      | nil => exact Nat.le_refl _
      | cons b l ih =>
        have ih := ih fun x hx => h' x (List.mem_cons_of_mem _ hx)
        rw [List.filter_cons, List.filter_cons]
        cases hp : p b with
        | true => rw [h' b List.mem_cons_self hp]; simpa using ih
        | false =>
          cases hq : q b with
          | true => simp; omega
          | false => simpa using ih
    rw [List.filter_cons, List.filter_cons]
    rcases List.mem_cons.mp hx with e | hx
    · subst e
      rw [h1, h2]
      simp
      omega
    · have ih := filter_lt (fun x hx => h x (List.mem_cons_of_mem _ hx)) x hx h1 h2
      cases hp : p a with
      | true => rw [h a List.mem_cons_self hp]; simpa using ih
      | false =>
        cases hq : q a with
        | true => simp; omega
        | false => simpa using ih
theorem look_merge_some {found fresh : Fo} {j : Str} : (look (mergeD found fresh) j).isSome = true ↔ (look found j).isSome = true ∨ (look fresh j).isSome = true := by
  rw [look_mem, look_mem, look_mem, mem_merge]
theorem unset_lt {names : List Str} {ats : List At} {found : Fo} {rank : Int} (h : roundF names ats found rank ≠ []) : unset names (mergeD found (roundF names ats found rank)) < unset names found := by
  unfold unset
  cases hf : roundF names ats found rank with
  | nil => exact absurd hf h
  | cons p r =>
    rw [← hf]
    have hk : p.1 ∈ (roundF names ats found rank).map (·.1) := by rw [hf]; exact List.mem_cons_self
    obtain ⟨h1, h2⟩ := round_keys hk
    refine filter_lt (fun x _ hx => ?_) p.1 h1 (by rw [h2]; rfl) ?_
    · cases hl : (look found x).isSome with
      | false => rfl
      | true =>
        rw [look_merge_some.mpr (.inl hl)] at hx
        exact hx
    · rw [look_merge_some.mpr (.inr (look_mem.mpr hk))]; rfl
theorem unset_le (names : List Str) (found : Fo) : unset names found ≤ names.length := List.length_filter_le _ _
/-- a run stays in the names' bound -/
theorem eF_len (found : Fo) : (eF found).length = found.length := List.length_map ..
theorem look_eF {found : Fo} {n : Str} : look (eF found) n = (look found n).map eL := look_map eL
theorem put_eF {found : Fo} {n : Str} {l : Lb} : putD (eF found) n (eL l) = eF (putD found n l) := put_map eL
theorem merge_eF {found fresh : Fo} : mergeD (eF found) (eF fresh) = eF (mergeD found fresh) := merge_map eL
theorem getD_eF {found : Fo} {n : Str} : (look (eF found) n).getD (eL opn) = eL (lb found n) := by
  rw [look_eF]
  unfold lb
  cases look found n <;> rfl
/-- found holds names once each -/
structure Okf (names : List Str) (found : Fo) : Prop where
  nd : (found.map (·.1)).Nodup
  sub : ∀ n ∈ found.map (·.1), n ∈ names
theorem Okf.nil {names : List Str} : Okf names [] := ⟨List.nodup_nil, fun _ h => by cases h⟩
theorem Okf.len {names : List Str} {found : Fo} (h : Okf names found) : found.length ≤ names.length := by
  have := List.Nodup.length_le_of_subset h.nd (fun x hx => h.sub x hx)
  rwa [List.length_map] at this
theorem Okf.merge {names : List Str} {ats : List At} {found : Fo} {rank : Int} (h : Okf names found) : Okf names (mergeD found (roundF names ats found rank)) :=
  ⟨nodup_merge h.nd, fun n hn => (mem_merge.mp hn).elim (h.sub n) fun z => (round_keys z).1⟩
end K80
end

/-! part K80a -/
section
set_option Elab.async false
set_option linter.all false
set_option maxRecDepth 100000
set_option maxHeartbeats 1000000
namespace K80
open PySem PySem.Spec PyProof.Rows L2 Fd
def topS (i : Nat) : Stmt := PySem.Challenge.pw_loregreat_k80_whole_notes_that_attack_ap.main.body.getD i (.Pass ⟨0, 0, 0, 0⟩)
abbrev sAttackers : Stmt := topS 2
theorem scA : FnScope ["attacks", "name", "one", "other"] ["attacks", "name"] (defScope sAttackers) := ⟨rfl, rfl, rfl, by decide +kernel, rfl, by decide +kernel, by decide +kernel⟩
def phiA (rs : List Im) (r : Im) : Prop := ∃ (ats : List At) (n : Str), rs = [dat (.list (ats.map tAt)), dat (tS n)] ∧ ats.length < 60 ∧ r = dat (.list ((attackers ats n).map tS))
section
variable {P : Program} {w : World} {K : PySem.W.Frag} {mg : Str → Option Value} {base : Heap}
theorem ok_attackers {f : Addr} {fd : FuncData} {k : Nat} (Fn : L2.Fun K "attackers" "attackers" sAttackers f fd) (ms : mg "set" = none) (mo : mg "sorted" = none) : FnOk P w K mg base CX0 (k + 1) f fd ["attacks", "name"] (spD phiA K) := by
  refine fn_D Fn scA (fun rs r ⟨ats, n, h, _⟩ => by rw [h]; rfl) fun cdv A outer s H E hr rs r ⟨ats, n, h, hl, e⟩ => ?_
  subst h e
  refine sd_retR ?_ rfl
  have small : ((ats.filter fun p => decide (p.2 = n)).map (·.1)).length < 64 := by
    rw [List.length_map]
    have := List.length_filter_le (fun p : At => decide (p.2 = n)) ats
    omega
  refine' ed_sortedSet ?_ small rfl mo
  refine' ed_set ?_ small rfl ms
  refine ed_d (ed_of (pe_lc (own := [("one", 2), ("other", 3)]) rfl scA.nd (pi_list pe_w) (blkOk_by (N := ["attacks", "name", "one", "other"]) (sc := defScope sAttackers) (by decide +kernel)) (fun _ _ _ _ _ => pg_tup rfl (pgs_cons (pg_name (i := 2) scA.nd rfl (.inl rfl)) (pgs_cons (pg_name (i := 3) scA.nd rfl (.inl rfl)) pgs_nil)))
    (fun s H C cl fp => pts_one (pt_u s H C cl fp)) (fun s H C cl fp => pe_u s H C cl fp)) (rd_lcLtI (js := [2, 3]) (xs := ats) (parts := fun p => [tS p.1, tS p.2]) (p := fun p => decide (p.2 = n)) (f := fun p => tS p.1) (ed_var 0 rfl) (by omega) (by decide) (fun _ => rfl) rfl (fun p _ s H C cl fp => td_c (cd_op op_eq (ed_var 3 rfl) (ed_var 1 rfl) r2_eqS)) (fun p _ _ s H C cl fp => ed_var 2 rfl))) ?_
  rw [List.map_map]; rfl
end
end K80
end

/-! part K80b -/
section
set_option Elab.async false
set_option linter.all false
set_option maxRecDepth 100000
set_option maxHeartbeats 1000000
namespace K80
open PySem PySem.Spec PyProof.Rows L2 Fd
abbrev sSettled : Stmt := topS 5
theorem scS : FnScope ["known", "others", "told", "label", "rank", "other", "labels"] ["known", "others", "told"] (defScope sSettled) := ⟨rfl, rfl, rfl, by decide +kernel, rfl, by decide +kernel, by decide +kernel⟩
def settled (known : Fo) (os : List Str) (l : Lb) : Bool := match l.1 with
  | .s => decide (0 ≤ l.2) && os.all fun o => decide ((lb known o).1 = .f) && decide ((lb known o).2 < l.2)
  | .f => decide (0 ≤ l.2) && os.any fun o => decide ((lb known o).1 = .s) && decide ((lb known o).2 < l.2)
  | .o => decide (l.2 = -1) && (!(os.any fun o => decide ((lb known o).1 = .s)) && os.any fun o => decide ((lb known o).1 = .o))
def phiS (rs : List Im) (r : Im) : Prop := ∃ (known : Fo) (os : List Str) (l : Lb), rs = [dct (eF known), dat (.list (os.map tS)), dat (eL l)] ∧ os.length < 1000 ∧ (∀ o ∈ os, (look known o).isSome = true) ∧ r = dat (.bool (settled known os l))
theorem any_lab {β : Type} (os : List β) (g : β → Lab) (a : Lab) : ((os.map fun o => tS (g o).str).any fun z => PyData.eqv z (tS a.str)) = os.any fun o => decide (g o = a) := by
  induction os with
  | nil => rfl
  | cons o os ih => rw [List.map_cons, List.any_cons, List.any_cons, ih, Lab.eqv]
theorem any_false {β : Type} (os : List β) (g : β → Bool) : (!(os.map fun o => PyData.bool (g o)).any fun z => PyData.eqv z (.bool false)) = os.all g := by
  induction os with
  | nil => rfl
  | cons o os ih =>
    rw [List.map_cons, List.any_cons, List.all_cons, Bool.not_or, ih]
    cases g o <;> rfl
theorem any_true {β : Type} (os : List β) (g : β → Bool) : ((os.map fun o => PyData.bool (g o)).any fun z => PyData.eqv z (.bool true)) = os.any g := by
  induction os with
  | nil => rfl
  | cons o os ih =>
    rw [List.map_cons, List.any_cons, List.any_cons, ih]
    cases g o <;> rfl
theorem flat_map {β : Type} (os : List β) (g : β → PyData) (h : ∀ o, flatD (g o) = true) : (os.map g).all flatD = true := by
  rw [List.all_map, List.all_eq_true]
  exact fun o _ => h o
theorem look_known {known : Fo} {o : Str} (h : (look known o).isSome = true) : look (eF known) o = some (eL (lb known o)) := by
  rw [look_eF]
  unfold lb
  cases e : look known o with
  | none => rw [e] at h; cases h
  | some x => rfl
theorem u1 {n : Nat} (h : n + 64 < cLine) : n + 1 < cLine := by omega
section
variable {P : Program} {w : World} {K : PySem.W.Frag} {mg : Str → Option Value} {base : Heap}
theorem ok_settled {f : Addr} {fd : FuncData} {k : Nat} (Fn : L2.Fun K "is_settled" "is_settled" sSettled f fd) : FnOk P w K mg base CX0 (k + 1) f fd ["known", "others", "told"] (spD phiS K) := by
  refine fn_D Fn scS (fun rs r ⟨_, _, _, h, _⟩ => by rw [h]; rfl) fun cdv A outer s H E hr rs r ⟨known, os, l, h, hl, hk, e⟩ => ?_
  subst h e
  have hu := hr.units
  refine sd_asg (ed_var 2 rfl) (gd_tup (ds := [tS l.1.str, .int l.2]) (gds_name 3 (gds_name 4 .nil scS.nd) scS.nd) rfl) ?_
  refine sd_lcN (own := [("other", 5)]) (j := 5) 6 os tS (fun o => tS (lb known o).1.str) (ed_var 1 rfl) (fun o ho s' H' C cl fp => ?_) ?_ (blkOk_by (N := ["known", "others", "told", "label", "rank", "other", "labels"]) (sc := defScope sSettled) (by decide +kernel)) scS.nd rfl (bg1 scS.nd) (by omega)
  · exact ed_ixT (i := 0) (ds := [tS (lb known o).1.str, .int (lb known o).2]) (ed_dget 0 (u1 hu) (.inl rfl) (ed_var 5 rfl) (.inl rfl) (look_known (hk o ho))) ed_int rfl
  refine sd_ifP (td_c (cd_eqS (s := l.1.str) (t := Lab.s.str) (ed_var 3 rfl) ed_str)) (fun h1 => ?_) fun h1 => sd_nil ?_
  · have hl1 : l.1 = .s := Lab.inj (of_decide_eq_true h1)
    refine sd_retP (ed_d (ed_andB (ed_c (cd_ge (i := l.2) (j := 0) (ed_var 4 rfl) ed_int)) fun _ => ed_one (ed_c (cd_niL ed_bl (ed_lcN (own := [("other", 5)]) (j := 5) os tS (fun o => .bool (decide ((lb known o).1 = .f) && decide ((lb known o).2 < l.2))) (ed_var 1 rfl) (fun o ho s' H' C cl fp => ?_) (blkOk_by (N := ["known", "others", "told", "label", "rank", "other", "labels"]) (sc := defScope sSettled) (by decide +kernel)) scS.nd rfl (bg1 scS.nd) (by omega)) rfl (flat_map _ _ fun _ => rfl)))) ?_) rfl
    · refine ed_andB (ed_d (ed_c (cd_eqS (s := (lb known o).1.str) (t := Lab.f.str) (ed_ixT (i := 0) (ds := [tS (lb known o).1.str, .int (lb known o).2]) (ed_dget 0 (u1 hu) (.inl rfl) (ed_var 5 rfl) (.inl rfl) (look_known (hk o ho))) ed_int rfl) ed_str)) ?_) fun _ => ed_one (ed_c (cd_lt (i := (lb known o).2) (j := l.2) (ed_ixT (i := 1) (ds := [tS (lb known o).1.str, .int (lb known o).2]) (ed_dget 0 (u1 hu) (.inl rfl) (ed_var 5 rfl) (.inl rfl) (look_known (hk o ho))) ed_int rfl) (ed_var 4 rfl)))
      exact congrArg PyData.bool (decide_eq_decide.mpr ⟨Lab.inj, congrArg _⟩)
    · show PyData.bool (_ && !_) = _
      rw [any_false]
      unfold settled
      rw [hl1]
  refine sd_ifP (td_c (cd_eqS (s := l.1.str) (t := Lab.f.str) (ed_var 3 rfl) ed_str)) (fun h2 => ?_) fun h2 => sd_nil ?_
  · have hl1 : l.1 = .f := Lab.inj (of_decide_eq_true h2)
    refine sd_retP (ed_d (ed_andB (ed_c (cd_ge (i := l.2) (j := 0) (ed_var 4 rfl) ed_int)) fun _ => ed_one (ed_c (cd_inL ed_bl (ed_lcN (own := [("other", 5)]) (j := 5) os tS (fun o => .bool (decide ((lb known o).1 = .s) && decide ((lb known o).2 < l.2))) (ed_var 1 rfl) (fun o ho s' H' C cl fp => ?_) (blkOk_by (N := ["known", "others", "told", "label", "rank", "other", "labels"]) (sc := defScope sSettled) (by decide +kernel)) scS.nd rfl (bg1 scS.nd) (by omega)) rfl (flat_map _ _ fun _ => rfl)))) ?_) rfl
    · refine ed_andB (ed_d (ed_c (cd_eqS (s := (lb known o).1.str) (t := Lab.s.str) (ed_ixT (i := 0) (ds := [tS (lb known o).1.str, .int (lb known o).2]) (ed_dget 0 (u1 hu) (.inl rfl) (ed_var 5 rfl) (.inl rfl) (look_known (hk o ho))) ed_int rfl) ed_str)) ?_) fun _ => ed_one (ed_c (cd_lt (i := (lb known o).2) (j := l.2) (ed_ixT (i := 1) (ds := [tS (lb known o).1.str, .int (lb known o).2]) (ed_dget 0 (u1 hu) (.inl rfl) (ed_var 5 rfl) (.inl rfl) (look_known (hk o ho))) ed_int rfl) (ed_var 4 rfl)))
      exact congrArg PyData.bool (decide_eq_decide.mpr ⟨Lab.inj, congrArg _⟩)
    · show PyData.bool (_ && _) = _
      rw [any_true]
      unfold settled
      rw [hl1]
  · have hl1 : l.1 = .o := by
      cases e : l.1 with
      | s => exact absurd (congrArg Lab.str e) (of_decide_eq_false h1)
      | f => exact absurd (congrArg Lab.str e) (of_decide_eq_false h2)
      | o => rfl
    have fl : (os.map fun o => tS (lb known o).1.str).all flatD = true := flat_map _ _ fun _ => rfl
    refine sd_retR (ed_d (ed_andB (ed_c (cd_eqI (i := l.2) (j := -1) (ed_var 4 rfl) (ed_neg ed_int))) fun _ => ed_andB (ed_c (cd_niL (d := tS Lab.s.str) (ds := os.map fun o => tS (lb known o).1.str) ed_str (ed_var 6 rfl) rfl fl)) fun _ => ed_one (ed_c (cd_inL (d := tS Lab.o.str) (ds := os.map fun o => tS (lb known o).1.str) ed_str (ed_var 6 rfl) rfl fl))) ?_) rfl
    rw [any_lab os (fun o => (lb known o).1) .s, any_lab os (fun o => (lb known o).1) .o]
    unfold settled
    rw [hl1]
end
end K80
end

/-! part K80c -/
section
set_option Elab.async false
set_option linter.all false
set_option maxRecDepth 100000
set_option maxHeartbeats 1000000
namespace K80
open PySem PySem.Spec PyProof.Rows L2 Fd
abbrev sJudge : Stmt := topS 4
abbrev nJ : List Str := ["names", "attacks", "told", "entry", "name", "_", "known", "label", "rank"]
theorem scJ : FnScope nJ ["names", "attacks", "told"] (defScope sJudge) := ⟨rfl, rfl, rfl, by decide +kernel, rfl, by decide +kernel, by decide +kernel⟩
def judge (ats : List At) (ts : Fo) : Bool := ts.all fun p => settled ts (attackers ats p.1) (lb ts p.1)
def phiJ (rs : List Im) (r : Im) : Prop := ∃ (names : List Str) (ats : List At) (ts : Fo), rs = [dat (.list (names.map tS)), dat (.list (ats.map tAt)), dat (.tuple (ts.map tE))] ∧ names.length < 60 ∧ ats.length < 60 ∧ (∀ n ∈ names, PyData.strOk n = true) ∧ ts.map (·.1) = sorts names ∧ names.Nodup ∧ (∀ p ∈ ats, p.1 ∈ names) ∧ r = dat (.bool (judge ats ts))
/-- the module's tuple of labels -/
def HasL (K : PySem.W.Frag) (mg : Str → Option Value) : Prop := ∃ (u : Value) (v : V), mg "LABELS" = some u ∧ RelV v u ∧ ∀ H, Dp K H v (.tuple [tS Lab.s.str, tS Lab.f.str, tS Lab.o.str])
theorem lab_in (l : Lab) : ([tS Lab.s.str, tS Lab.f.str, tS Lab.o.str].any fun z => PyData.eqv z (tS l.str)) = true := by cases l <;> decide +kernel
theorem take_put {ts : Fo} {i : Nat} {y : Str × Lb} (nd : (ts.map (·.1)).Nodup) (h : ts[i]? = some y) : putD (eF (ts.take i)) y.1 (eL y.2) = eF (ts.take (i + 1)) := by
  rw [put_eF, put_new, List.take_add_one, h]
  · rfl
  · intro z
    have nd' := nd
    rw [← List.take_append_drop (i + 1) ts, List.take_add_one, h, List.map_append, List.nodup_append, List.map_append, List.nodup_append] at nd'
    exact nd'.1.2.2 _ z y.1 (by simp) rfl
section
variable {P : Program} {w : World} {K : PySem.W.Frag} {mg : Str → Option Value} {base : Heap}
theorem ok_judge {f fA fS : Addr} {fd fdA fdS : FuncData} {k : Nat} (Fn : L2.Fun K "judge_stands" "judge_stands" sJudge f fd) (FA : FnOk P w K mg base CX0 k fA fdA ["attacks", "name"] (spD phiA K)) (FS : FnOk P w K mg base CX0 k fS fdS ["known", "others", "told"] (spD phiS K))
    (gA : mg "attackers" = some (.ref fA)) (gS : mg "is_settled" = some (.ref fS)) (kA : PySem.W.keepIn K (.ref fA) = true) (kS : PySem.W.keepIn K (.ref fS) = true) (bA : Binds K fdA ["attacks", "name"] []) (bS : Binds K fdS ["known", "others", "told"] [])
    (hL : HasL K mg) (m1 : mg "isinstance" = none) (m2 : mg "tuple" = none) (m3 : mg "sorted" = none) (m4 : mg "int" = none) (m5 : mg "bool" = none) (m6 : mg "len" = none) : FnOk P w K mg base CX0 (k + 1) f fd ["names", "attacks", "told"] (spD phiJ K) := by
  refine fn_D Fn scJ (fun rs r ⟨_, _, _, h, _⟩ => by rw [h]; rfl) fun cdv A outer s H E hr rs r ⟨names, ats, ts, h, hn, ha, hst, hts, hnd, hsub, e⟩ => ?_
  subst h e
  have hu := hr.units
  obtain ⟨uL, vL, gL, rL, dL⟩ := hL
  have ln : ts.length = names.length := by
    have := congrArg List.length hts
    rwa [List.length_map, (sorts_perm names).length_eq] at this
  have ndT : (ts.map (·.1)).Nodup := by rw [hts]; exact (sorts_perm names).nodup_iff.mpr hnd
  have hstT : ∀ p ∈ ts, PyData.strOk p.1 = true := fun p hp => hst p.1 ((sorts_perm names).mem_iff.mp (by rw [← hts]; exact List.mem_map.mpr ⟨p, hp, rfl⟩))
  -- the shapes
  refine sd_ifP (td_eq (p' := false) (td_w (wd_orB (p := false) (td_eq (td_not (td_val (ed_isi (T := "tuple") (q := true) (ed_var 2 rfl) (fun K => rfl) m1 m2 (by decide +kernel)))) rfl) fun _ => wd_or1 (td_c (cd_inL ed_bl (ed_lcTN (own := [("entry", 3)]) (j := 3) ts tE (fun _ => .bool true) (ed_var 2 rfl) (fun p hp s' H' C cl fp => ?_) (blkOk_by (N := nJ) (sc := defScope sJudge) (by decide +kernel)) scJ.nd rfl (bg1 scJ.nd) (by omega)) rfl (flat_map _ _ fun _ => rfl))))) ?_) (fun z => by cases z) fun _ => sd_nil ?_
  · exact ed_d (ed_andB (ed_isi (T := "tuple") (q := true) (ed_var 3 rfl) (fun K => rfl) m1 m2 (by decide +kernel)) fun _ => ed_one (ed_c (cd_eqI (ed_lenT (ed_var 3 rfl) m6) ed_int))) rfl
  · show (false || _) = false
    rw [Bool.false_or]
    exact List.any_eq_false.mpr fun z hz => by
      obtain ⟨p, _, rfl⟩ := List.mem_map.mp hz
      exact Bool.false_ne_true
  -- the names
  refine sd_ifP (td_eq (p' := false) (td_c (cd_neD hu (ed_lcTP (own := [("name", 4), ("_", 5)]) [4, 5, 5] ts (fun p => [tS p.1, tS p.2.1.str, .int p.2.2]) (fun p => tS p.1) (ed_var 2 rfl) (fun p hp s' H' C cl fp => ed_var 4 rfl) (blkOk_by (N := nJ) (sc := defScope sJudge) (by decide +kernel)) scJ.nd rfl (bg3 scJ.nd rfl) (by omega)) (ed_sortS (ed_var 0 rfl) (by omega) hu m3) (Sh.list (n := 0) (Sh.map fun p hp => Sh.str (hstT p hp))).shaped (Sh.list (n := 0) (Sh.map fun p hp => Sh.str (hst p ((sorts_perm names).mem_iff.mp hp)))).shaped)) ?_) (fun z => by cases z) fun _ => sd_nil ?_
  · rw [← hts, List.map_map]
    have := eqv_list (enc := tS) eqv_tS (ts.map (·.1)) (ts.map (·.1))
    rw [List.map_map] at this
    show (!PyData.eqv (.list (ts.map fun p => tS p.1)) _) = false
    rw [show (ts.map fun p => tS p.1) = ts.map (tS ∘ fun x => x.1) from rfl, this, decide_eq_true rfl]; rfl
  refine sd_newD 6 ?_ scJ.nd
  refine sd_forTP [4, 7, 8] ts (fun p => [tS p.1, tS p.2.1.str, .int p.2.2]) (fun i => [.im (dat (.list (names.map tS))), .im (dat (.list (ats.map tAt))), .im (dat (.tuple (ts.map tE))), .no, .no, .no, .mu (mdc (eF (ts.take i))), .no, .no]) (ed_var 2 rfl) (by repeat' first | exact True.intro | exact Or.inr rfl | exact Or.inl rfl | apply And.intro) (fun i p hp => ?_) ?_ (pg_n3 scJ.nd rfl) (fun _ => rfl) PassesOwn.never rfl
  · have hi : i < ts.length := lt_of_get hp
    refine sd_ifP (td_eq (p' := false) (td_w (wd_orB (p := false) (td_eq (td_c (cd_niT (d := tS p.2.1.str) (ds := [tS Lab.s.str, tS Lab.f.str, tS Lab.o.str]) (ed_var 7 rfl) (ed_glob gL rL dL) rfl rfl)) ?_) fun _ => wd_orB (p := false) (td_eq (td_not (td_val (ed_isi (T := "int") (q := true) (ed_var 8 rfl) (fun K => rfl) m1 m4 (by decide +kernel)))) rfl) fun _ => wd_or1 (td_val (ed_isi (T := "bool") (q := false) (ed_var 8 rfl) (fun K => rfl) m1 m5 (by decide +kernel))))) rfl) (fun z => by cases z) fun _ => sd_nil ?_
    · rw [lab_in]; rfl
    · refine sd_dput (kvs := eF (ts.take i)) (k := p.1) (d := eL p.2) 6 (u1 hu) (ed_tup (dd_cons (ed_var 7 rfl) (dd_cons (ed_var 8 rfl) dd_nil)) (Nat.le_of_ble_eq_true rfl)) (ed_var 4 rfl) rfl rfl (by rw [eF_len, List.length_take]; omega) (sd_nil ?_) (hp := ps_dput (u1 hu) (pv _) pe_w pe_w rfl)
      rw [take_put ndT hp]
      repeat' first | exact True.intro | exact Or.inr rfl | exact Or.inl rfl | apply And.intro
  · rw [List.take_length]
    refine sd_retR (ed_d (ed_c (cd_niL ed_bl (ed_lcKeys (own := [("name", 4)]) (kvs := eF ts) (j := 4) 6 (fun n => .bool (settled ts (attackers ats n) (lb ts n))) rfl (only_mu rfl) (fun p hp s' H' C cl fp => ?_) (blkOk_by (N := nJ) (sc := defScope sJudge) (by decide +kernel)) scJ.nd rfl (bg1 scJ.nd) (by rw [eF_len]; omega)) rfl (flat_map _ _ fun _ => rfl))) ?_) rfl
    · have hk : ∀ m ∈ names, (look ts m).isSome = true := fun m hm => look_mem.mpr (by rw [hts]; exact (sorts_perm names).mem_iff.mpr hm)
      have hp1 : (look ts p.1).isSome = true := by
        obtain ⟨q, hq, rfl⟩ := List.mem_map.mp hp
        exact look_mem.mpr (List.mem_map.mpr ⟨q, hq, rfl⟩)
      refine ed_call FS hr gS kS bS (ad_cons (ed_var 6 rfl) (ad_cons (ed_call FA hr gA kA bA (ad_cons (ed_var 1 rfl) (ad_cons (ed_var 4 rfl) ad_nil)) ⟨ats, p.1, rfl, ha, rfl⟩) (ad_cons (ed_dget 6 (u1 hu) (.inl rfl) (ed_var 4 rfl) (.inl rfl) (look_known hp1)) ad_nil))) ⟨ts, attackers ats p.1, lb ts p.1, rfl, ?_, fun o ho => hk o (hsub _ (mem_attackers.mp ho)), rfl⟩
      have := attackers_len ats p.1
      omega
    · refine congrArg PyData.bool ?_
      rw [any_false]
      unfold judge eF
      rw [List.all_map]; rfl
end
end K80
end

/-! part K80d -/
section
set_option Elab.async false
set_option linter.all false
set_option maxRecDepth 100000
set_option maxHeartbeats 1000000
namespace K80
open PySem PySem.Spec PyProof.Rows L2 Fd
abbrev sStands : Stmt := topS 3
abbrev nT : List Str := ["names", "attacks", "found", "rank", "grown", "fresh", "name", "other", "others"]
theorem scT : FnScope nT ["names", "attacks"] (defScope sStands) := ⟨rfl, rfl, rfl, by decide +kernel, rfl, by decide +kernel, by decide +kernel⟩
def phiT (rs : List Im) (r : Im) : Prop := ∃ (names : List Str) (ats : List At), rs = [dat (.list (names.map tS)), dat (.list (ats.map tAt))] ∧ names.length < 60 ∧ ats.length < 60 ∧ r = dat (.tuple ((told names ats).map tE))
theorem td_wk {X : Cx} {e : Expr} {ρ ρ' ρ1 : List En} {b : Bool} (w : Wk ρ ρ') (h : TD X e ρ' ρ1 b) : TD X e ρ ρ1 b := fun F B0 B H σ E Q q => h F B0 B H σ (E.wk w) Q q
def stT (names : List Str) (ats : List At) (found : Fo) (rank : Int) (grown : Bool) (fresh : En) : List En := [.im (dat (.list (names.map tS))), .im (dat (.list (ats.map tAt))), .mu (mdc (eF found)), .im (dat (.int rank)), .im (dat (.bool grown)), fresh, .no, .no, .no]
theorem any_others {found : Fo} {ats : List At} {n : Str} (a : Lab) : (((attackers ats n).map fun m => tS (lb found m).1.str).any fun z => PyData.eqv z (tS a.str)) = decide (a ∈ others found ats n) := by
  rw [any_lab (attackers ats n) (fun m => (lb found m).1) a, Bool.eq_iff_iff, List.any_eq_true, decide_eq_true_iff]
  unfold others
  rw [List.mem_map]
  exact ⟨fun ⟨x, h, e⟩ => ⟨x, h, of_decide_eq_true e⟩, fun ⟨x, h, e⟩ => ⟨x, h, decide_eq_true e⟩⟩
theorem look_eFs {found : Fo} {n : Str} : (look (eF found) n).isSome = (look found n).isSome := by rw [look_eF, Option.isSome_map]
theorem take_snoc {β : Type} {xs : List β} {i : Nat} {y : β} (h : xs[i]? = some y) : xs.take (i + 1) = xs.take i ++ [y] := by rw [List.take_add_one, h]; rfl
section
variable {P : Program} {w : World} {K : PySem.W.Frag} {mg : Str → Option Value} {base : Heap}
theorem ok_stands {f fA : Addr} {fd fdA : FuncData} {k : Nat} (Fn : L2.Fun K "stands" "stands" sStands f fd) (FA : FnOk P w K mg base CX0 k fA fdA ["attacks", "name"] (spD phiA K))
    (gA : mg "attackers" = some (.ref fA)) (kA : PySem.W.keepIn K (.ref fA) = true) (bA : Binds K fdA ["attacks", "name"] [])
    (m2 : mg "tuple" = none) (m3 : mg "sorted" = none) (m6 : mg "len" = none) : FnOk P w K mg base CX0 (k + 1) f fd ["names", "attacks"] (spD phiT K) := by
  refine fn_D Fn scT (fun rs r ⟨_, _, h, _⟩ => by rw [h]; rfl) fun cdv A outer s H E hr rs r ⟨names, ats, h, hn, ha, e⟩ => ?_
  subst h e
  have hu := hr.units
  have hls : (sorts names).length = names.length := (sorts_perm names).length_eq
  refine sd_newD 2 ?_ scT.nd
  refine sd_setP 3 ed_int ?_ scT.nd
  refine sd_setP 4 ed_bl ?_ scT.nd
  refine sd_while (fun m ρ' => ∃ found rank grown, Wk ρ' (stT names ats found rank grown .no) ∧ Okf names found ∧ (grown = true → runF names ats m found rank = fin names ats ∧ unset names found < m) ∧ (grown = false → found = fin names ats)) (names.length + 1)
    ⟨[], 0, true, (by repeat' first | exact True.intro | exact Or.inr rfl | exact Or.inl rfl | apply And.intro), Okf.nil, fun _ => ⟨rfl, Nat.lt_succ_of_le (unset_le names [])⟩, fun z => by cases z⟩ (fun m ρ' ⟨found, rank, grown, hw, hok, h1, h2⟩ => ⟨stT names ats found rank grown .no, grown, td_wk hw (td_val (ed_var 4 rfl)), fun hg => ?_, fun hg => ?_⟩) PassesOwn.never
  · subst hg
    obtain ⟨hrun, hlt⟩ := h1 rfl
    refine sd_newD 5 ?_ scT.nd
    refine sd_forN 6 (sorts names) tS (fun i => stT names ats found rank true (.mu (mdc (eF (foldR ats found rank ((sorts names).take i)))))) (ed_sortS (ed_var 0 rfl) (by omega) hu m3) (by repeat' first | exact True.intro | exact Or.inr rfl | exact Or.inl rfl | apply And.intro) (fun i n hi => ?_) ?_ PassesOwn.never rfl scT.nd
    · have hil := lt_of_get hi
      have fl : ((attackers ats n).map fun m => tS (lb found m).1.str).all flatD = true := flat_map _ _ fun _ => rfl
      have hz : (eF (foldR ats found rank ((sorts names).take i))).length < 1000 := by
        have h3 := foldR_len (ats := ats) (found := found) (rank := rank) ((sorts names).take i)
        rw [List.length_take] at h3
        rw [eF_len]; omega
      have hal := attackers_len ats n
      refine sd_lcN (own := [("other", 7)]) (j := 7) 8 (attackers ats n) tS (fun m => tS (lb found m).1.str) (ed_call FA hr gA kA bA (ad_cons (ed_var 1 rfl) (ad_cons (ed_var 6 rfl) ad_nil)) ⟨ats, n, rfl, ha, rfl⟩) (fun m hm s' H' C cl fp => ?_) ?_ (blkOk_by (N := nT) (sc := defScope sStands) (by decide +kernel)) scT.nd rfl (bg1 scT.nd) (by omega)
      · exact ed_ixT (i := 0) (ds := [tS (lb found m).1.str, .int (lb found m).2]) (ed_d (ed_dgetD 2 (u1 hu) (.inr rfl) (ed_var 7 rfl) (ed_tup (dd_cons ed_str (dd_cons (ed_neg ed_int) dd_nil)) (Nat.le_of_ble_eq_true rfl)) (.inr rfl)) getD_eF) ed_int rfl
      refine sd_ifP (q := decide ((look found n).isSome = false ∧ Lab.s ∈ others found ats n)) (td_eq (td_w (wd_andB (td_c (cd_dnin (kvs := eF found) (k := n) 2 (u1 hu) (ed_var 6 rfl) (.inr rfl))) fun _ => wd_and1 (td_c (cd_inL (d := tS Lab.s.str) (ds := (attackers ats n).map fun m => tS (lb found m).1.str) ed_str (ed_var 8 rfl) rfl fl)))) ?_) (fun hc => ?_) fun hc => ?_
      · rw [any_others, look_eFs]
        cases (look found n).isSome <;> simp
      · have hc := of_decide_eq_true hc
        refine sd_dput (kvs := eF (foldR ats found rank ((sorts names).take i))) (k := n) (d := eL (.f, rank)) 5 (u1 hu) (ed_tup (dd_cons ed_str (dd_cons (ed_var 3 rfl) dd_nil)) (Nat.le_of_ble_eq_true rfl)) (ed_var 6 rfl) rfl rfl hz (sd_nil (sd_nil ?_)) (hp := ps_dput (u1 hu) (pv _) pe_w pe_w rfl)
        rw [put_eF, take_snoc hi, foldR_snoc]
        unfold step
        rw [if_pos hc]
        repeat' first | exact True.intro | exact Or.inr rfl | exact Or.inl rfl | apply And.intro
      · have hc := of_decide_eq_false hc
        refine sd_ifP (q := decide ((look found n).isSome = false ∧ Lab.s ∉ others found ats n ∧ Lab.o ∉ others found ats n)) (td_eq (td_w (wd_andB (td_c (cd_dnin (kvs := eF found) (k := n) 2 (u1 hu) (ed_var 6 rfl) (.inr rfl))) fun _ => wd_andB (td_c (cd_niL (d := tS Lab.s.str) (ds := (attackers ats n).map fun m => tS (lb found m).1.str) ed_str (ed_var 8 rfl) rfl fl)) fun _ => wd_and1 (td_c (cd_niL (d := tS Lab.o.str) (ds := (attackers ats n).map fun m => tS (lb found m).1.str) ed_str (ed_var 8 rfl) rfl fl)))) ?_) (fun hd => ?_) fun hd => sd_nil (sd_nil (sd_nil ?_))
        · rw [any_others, any_others, look_eFs]
          cases (look found n).isSome <;> simp
        · have hd := of_decide_eq_true hd
          refine sd_dput (kvs := eF (foldR ats found rank ((sorts names).take i))) (k := n) (d := eL (.s, rank)) 5 (u1 hu) (ed_tup (dd_cons ed_str (dd_cons (ed_var 3 rfl) dd_nil)) (Nat.le_of_ble_eq_true rfl)) (ed_var 6 rfl) rfl rfl hz (sd_nil (sd_nil (sd_nil ?_))) (hp := ps_dput (u1 hu) (pv _) pe_w pe_w rfl)
          rw [put_eF, take_snoc hi, foldR_snoc]
          unfold step
          rw [if_neg hc, if_pos hd]
          repeat' first | exact True.intro | exact Or.inr rfl | exact Or.inl rfl | apply And.intro
        · have hd := of_decide_eq_false hd
          rw [take_snoc hi, foldR_snoc]
          unfold step
          rw [if_neg hc, if_neg hd]
          repeat' first | exact True.intro | exact Or.inr rfl | exact Or.inl rfl | apply And.intro
    · rw [List.take_length]
      have hz : (eF found).length + (eF (roundF names ats found rank)).length ≤ 1000 := by
        have h3 := foldR_len (ats := ats) (found := found) (rank := rank) (sorts names)
        have h4 := hok.len
        rw [eF_len, eF_len]
        unfold roundF
        omega
      refine sd_update (kvs := eF found) (kws := eF (roundF names ats found rank)) 2 5 rfl rfl (by decide) hz ?_
      refine sd_augI 3 rfl ed_int ?_ scT.nd
      refine sd_setP 4 (ed_c (cd_gt (ed_lenD (kvs := eF (roundF names ats found rank)) 5 (.inr rfl) m6) ed_int)) (sd_nil ?_) scT.nd
      cases m with
      | zero => omega
      | succ m =>
        refine ⟨m, Nat.lt_succ_self m, mergeD found (roundF names ats found rank), rank + 1, decide ((0 : Int) < ((eF (roundF names ats found rank)).length : Int)), ?_, hok.merge, fun hg => ?_, fun hg => ?_⟩
        · rw [merge_eF]
          repeat' first | exact True.intro | exact Or.inr rfl | exact Or.inl rfl | apply And.intro
        · have hne : roundF names ats found rank ≠ [] := fun z => by rw [z] at hg; exact absurd hg (by decide)
          refine ⟨?_, by have := unset_lt (names := names) (ats := ats) (found := found) (rank := rank) hne; omega⟩
          rw [← hrun]
          show _ = if roundF names ats found rank = [] then found else _
          rw [if_neg hne]
        · have he : roundF names ats found rank = [] := by
            have hg := of_decide_eq_false hg
            rw [eF_len] at hg
            exact List.length_eq_zero_iff.mp (by omega)
          rw [he, ← hrun]
          show found = if roundF names ats found rank = [] then found else _
          rw [if_pos he]
  · have hf := h2 hg
    subst hf
    refine sd_retR (ed_d (ed_tupL (ed_lcN (own := [("name", 6)]) (j := 6) (sorts names) tS (fun n => tE (n, lb (fin names ats) n)) (ed_sortS (ed_var 0 rfl) (by omega) hu m3) (fun n hn' s' H' C cl fp => ?_) (blkOk_by (N := nT) (sc := defScope sStands) (by decide +kernel)) scT.nd rfl (bg1 scT.nd) (by omega)) m2) ?_) rfl
    · exact ed_catT (ds := [tS n]) (es := [tS (lb (fin names ats) n).1.str, .int (lb (fin names ats) n).2]) (ed_tup (dd_cons (ed_var 6 rfl) dd_nil) (Nat.le_of_ble_eq_true rfl)) (ed_d (ed_dgetD 2 (u1 hu) (.inr rfl) (ed_var 6 rfl) (ed_tup (dd_cons ed_str (dd_cons (ed_neg ed_int) dd_nil)) (Nat.le_of_ble_eq_true rfl)) (.inr rfl)) getD_eF) (Nat.le_of_ble_eq_true rfl) (by simp) (by simp)
    · unfold told
      rw [List.map_map]; rfl
end
end K80
end

/-! part K80e -/
section
set_option Elab.async false
set_option linter.all false
set_option maxRecDepth 100000
set_option maxHeartbeats 1000000
namespace K80
open PySem PySem.Spec PyProof.Rows L2 Fd
/-! the drawing of numbers -/
structure Gs where
  k : Nat
  b : Int
  s : Int
def gD (ns : List Int) (g : Gs) : List PyData := [.list (ns.map .int), .int (g.k : Int), .int g.b, .int g.s]
def bigC : Int := (10 : Int) ^ (18 : Int).toNat
def cellG (c : Int) (g : Gs) : Gs := if bigC ≤ c then ⟨g.k + 1, c, g.s⟩ else ⟨g.k + 1, g.b, (g.s * 48271 + c % 2147483647 + 7) % 2147483647⟩
def stepG (ns : List Int) (g : Gs) : Gs := if g.b = 0 ∧ g.k < ns.length then cellG (ns.getD g.k 0) g else g
def seedG (g : Gs) : Int := (g.s * 69621 + 12345) % 2147483647
def drawV (lim : Int) (g : Gs) : Int := if 0 < g.b then g.b % lim else seedG g / 7 % lim
def drawG (lim : Int) (g : Gs) : Gs := if 0 < g.b then ⟨g.k, g.b / lim, g.s⟩ else ⟨g.k, g.b, seedG g⟩
def nextV (ns : List Int) (lim : Int) (g : Gs) : Int := drawV lim (stepG ns g)
def nextG (ns : List Int) (lim : Int) (g : Gs) : Gs := drawG lim (stepG ns g)
theorem nextV_range (ns : List Int) {lim : Int} (g : Gs) (h : 0 < lim) : 0 ≤ nextV ns lim g ∧ nextV ns lim g < lim := by
  unfold nextV drawV
  split
  · exact ⟨Int.emod_nonneg _ (by omega), Int.emod_lt_of_pos _ h⟩
  · exact ⟨Int.emod_nonneg _ (by omega), Int.emod_lt_of_pos _ h⟩
theorem atI_nat {β : Type} {xs : List β} {k : Nat} (h : k < xs.length) : atI xs (k : Int) = some xs[k] := by
  have e : ixN xs.length (k : Int) = some k := by
    unfold ixN
    rw [if_pos (Int.natCast_nonneg k), if_pos (by omega)]; rfl
  unfold atI
  rw [e]
  simp [h]
abbrev sNext : Stmt := topS 7
abbrev nN : List Str := ["state", "limit", "cell", "value"]
theorem scN : FnScope nN ["state", "limit"] (defScope sNext) := ⟨rfl, rfl, rfl, by decide +kernel, rfl, by decide +kernel, by decide +kernel⟩
def phiN (ds : List PyData) (rs : List Im) (ds' : List PyData) (r : Im) : Prop := ∃ (ns : List Int) (g : Gs) (lim : Int), ds = gD ns g ∧ rs = [dat (.int lim)] ∧ 0 < lim ∧ lim < 1073741824 ∧ ds' = gD ns (nextG ns lim g) ∧ r = dat (.int (nextV ns lim g))
section
variable {P : Program} {w : World} {K : PySem.W.Frag} {mg : Str → Option Value} {base : Heap}
theorem ok_next {f : Addr} {fd : FuncData} {k : Nat} (Fn : L2.Fun K "_law_next" "_law_next" sNext f fd) (m1 : mg "len" = none) (m2 : mg "int" = none) : FnOk P w K mg base CX0 (k + 1) f fd ["state", "limit"] (spM phiN K) := by
  refine fn_M Fn scN (fun ds rs ds' r ⟨_, _, _, _, h, _⟩ => by rw [h]; rfl) fun cdv A outer s H E hr p ds rs ds' r ⟨ns, g, lim, e1, e2, h1, h2, e3, e4⟩ => ?_
  subst e1 e2 e3 e4
  have end_ : ∀ (g1 : Gs) (c : En), SD (cxOf CX0 P w K mg base nN "_law_next" (defScope sNext) f cdv A outer s H E).nox ((defBody sNext).drop 1) [.mu (mlsQ (fun a => a = p) (gD ns g1)), .im (dat (.int lim)), c, .no] { nx := fun _ => False, rt := fun ρ r' => r' = dat (.int (drawV lim g1)) ∧ ρ[0]? = some (.mu (mlsQ (fun a => a = p) (gD ns (drawG lim g1)))) } := fun g1 c => by
    refine sd_ifP (td_c (cd_gt (i := g1.b) (j := 0) (ed_mget (ds := gD ns g1) 0 rfl ed_int rfl) ed_int)) (fun hb => ?_) fun hb => sd_nil ?_
    · have hb := of_decide_eq_true hb
      refine sd_setP 3 (ed_mod (i := g1.b) (j := lim) (ed_int1 (ed_mget (ds := gD ns g1) 0 rfl ed_int rfl) m2) (ed_var 1 rfl) h1) ?_ scN.nd
      refine sd_mset (ds := gD ns g1) (j := 2) 0 (ed_fdiv (i := g1.b) (j := lim) (ed_mget (ds := gD ns g1) 0 rfl ed_int rfl) (ed_var 1 rfl) ⟨h1, h2⟩) rfl ed_int rfl ?_
      refine sd_retP (ed_var 3 rfl) ?_
      unfold drawV drawG
      rw [if_pos hb, if_pos hb]
      exact ⟨rfl, rfl⟩
    · have hb := of_decide_eq_false hb
      refine sd_mset (ds := gD ns g1) (j := 3) 0 (ed_mod (j := 2147483647) (ed_int1 (ed_add (j := 12345) (ed_mul (i := g1.s) (j := 69621) (ed_mget (ds := gD ns g1) 0 rfl ed_int rfl) ed_int (.inr (by decide))) ed_int) m2) ed_int (by decide)) rfl ed_int rfl ?_
      refine sd_retP (ed_mod (j := lim) (ed_int1 (ed_fdiv (i := seedG g1) (j := 7) (ed_mget (ds := gD ns ⟨g1.k, g1.b, seedG g1⟩) 0 rfl ed_int rfl) ed_int (by unfold CDiv; decide)) m2) (ed_var 1 rfl) h1) ?_
      unfold drawV drawG
      rw [if_neg hb, if_neg hb]
      exact ⟨rfl, rfl⟩
  refine sd_ifP (q := decide (g.b = 0 ∧ g.k < ns.length)) (td_eq (td_w (wd_andB (td_c (cd_eqI (i := g.b) (j := 0) (ed_mget (ds := gD ns g) 0 rfl ed_int rfl) ed_int)) fun _ => wd_and1 (td_c (cd_lt (i := (g.k : Int)) (j := ((ns.map PyData.int).length : Int)) (ed_mget (ds := gD ns g) 0 rfl ed_int rfl) (ed_lenL (ed_mget (ds := gD ns g) 0 rfl ed_int rfl) m1))))) ?_) (fun hc => ?_) fun hc => sd_nil ?_
  · rw [List.length_map, Bool.eq_iff_iff, Bool.and_eq_true, decide_eq_true_iff, decide_eq_true_iff, decide_eq_true_iff]
    omega
  · obtain ⟨c1, c2⟩ := of_decide_eq_true hc
    have hg : nextV ns lim g = drawV lim (cellG (ns.getD g.k 0) g) ∧ nextG ns lim g = drawG lim (cellG (ns.getD g.k 0) g) := by
      unfold nextV nextG stepG
      rw [if_pos ⟨c1, c2⟩]
      exact ⟨rfl, rfl⟩
    rw [hg.1, hg.2]
    have hl : g.k < (ns.map PyData.int).length := by rw [List.length_map]; exact c2
    have hat : atI (ns.map PyData.int) (g.k : Int) = some (.int (ns.getD g.k 0)) := by
      rw [atI_nat hl, List.getElem_map, List.getD_eq_getElem?_getD, List.getElem?_eq_getElem c2]; rfl
    refine sd_setP 2 (ed_ixL (ed_mget (ds := gD ns g) 0 rfl ed_int rfl) (ed_mget (ds := gD ns g) 0 rfl ed_int rfl) hat) ?_ scN.nd
    refine sd_maug (ds := gD ns g) (n := (g.k : Int)) (m := 1) (j := 1) (fun i j => i + j) ip_add 0 rfl ed_int (by decide) rfl rfl ed_int ?_
    refine sd_ifP (td_c (cd_ge (i := ns.getD g.k 0) (j := bigC) (ed_var 2 rfl) (ed_pow ed_int ed_int (by unfold CPow; decide)))) (fun hb => ?_) fun hb => ?_
    · have hb := of_decide_eq_true hb
      refine sd_mset (ds := gD ns ⟨g.k + 1, g.b, g.s⟩) (j := 2) 0 (ed_var 2 rfl) rfl ed_int rfl (sd_nil (sd_nil ?_))
      unfold cellG
      rw [if_pos hb]
      exact end_ ⟨g.k + 1, ns.getD g.k 0, g.s⟩ (.im (dat (.int (ns.getD g.k 0))))
    · have hb := of_decide_eq_false hb
      refine sd_mset (ds := gD ns ⟨g.k + 1, g.b, g.s⟩) (j := 3) 0 (ed_mod (j := 2147483647) (ed_int1 (ed_add (j := 7) (ed_add (ed_mul (i := g.s) (j := 48271) (ed_mget (ds := gD ns ⟨g.k + 1, g.b, g.s⟩) 0 rfl ed_int rfl) ed_int (.inr (by decide))) (ed_mod (j := 2147483647) (ed_int1 (ed_var 2 rfl) m2) ed_int (by decide))) ed_int) m2) ed_int (by decide)) rfl ed_int rfl (sd_nil (sd_nil ?_))
      unfold cellG
      rw [if_neg hb]
      exact end_ ⟨g.k + 1, g.b, (g.s * 48271 + ns.getD g.k 0 % 2147483647 + 7) % 2147483647⟩ (.im (dat (.int (ns.getD g.k 0))))
  · have hc := of_decide_eq_false hc
    unfold nextV nextG stepG
    rw [if_neg hc]
    exact end_ _ _
end
end K80
end

/-! part K80f -/
section
set_option Elab.async false
set_option linter.all false
set_option maxRecDepth 100000
set_option maxHeartbeats 1000000
namespace K80
open PySem PySem.Spec PyProof.Rows L2 Fd
/-! words, attacks, labels drawn -/
def alph : Str := "abcdefghijklmnopqrstuvwxyz"
def sufs : List Str := ["", "_1", "x9", "b"]
def wordV (ns : List Int) (g : Gs) : Str := (⟨#[alph.cps.toList.getD (nextV ns 26 g).toNat 0]⟩ : Str) ++ sufs.getD (nextV ns 4 (nextG ns 26 g)).toNat ""
def wordG (ns : List Int) (g : Gs) : Gs := nextG ns 4 (nextG ns 26 g)
def fw : Nat → List Str → Str → Str
  | 0, _, w => w
  | m + 1, found, w => if w ∈ found then fw m found (w ++ ("y" : Str)) else w
def wSt (ns : List Int) (g : Gs) : Nat → Gs × List Str
  | 0 => (g, [])
  | n + 1 => (wordG ns (wSt ns g n).1, (wSt ns g n).2 ++ [fw ((wSt ns g n).2.length + 1) (wSt ns g n).2 (wordV ns (wSt ns g n).1)])
theorem wSt_len (ns : List Int) (g : Gs) : ∀ n, (wSt ns g n).2.length = n
  | 0 => rfl
  | n + 1 => by
    show ((wSt ns g n).2 ++ _).length = _
    rw [List.length_append, wSt_len ns g n]; rfl
def longer (found : List Str) (w : Str) : Nat := (found.filter fun f => decide (w.length ≤ f.length)).length
theorem suf_len (i : Nat) : (sufs.getD i "").length ≤ 2 := by
  match i with
  | 0 => decide
  | 1 => decide
  | 2 => decide
  | 3 => decide
  | n + 4 => exact (by decide : ("" : Str).length ≤ 2)
theorem wordV_len (ns : List Int) (g : Gs) : (wordV ns g).length ≤ 3 := by
  unfold wordV
  rw [Str.length_append]
  have := suf_len (nextV ns 4 (nextG ns 26 g)).toNat
  have h1 : (⟨#[alph.cps.toList.getD (nextV ns 26 g).toNat 0]⟩ : Str).length = 1 := rfl
  omega
theorem longer_lt {found : List Str} {w : Str} (h : w ∈ found) : longer found (w ++ ("y" : Str)) < longer found w := by
  have e : (w ++ ("y" : Str)).length = w.length + 1 := by rw [Str.length_append]; rfl
  refine filter_lt (fun x _ hx => ?_) w h (decide_eq_true (Nat.le_refl _)) ?_
  · have := of_decide_eq_true hx
    exact decide_eq_true (by omega)
  · exact decide_eq_false (by omega)
abbrev sWords : Stmt := topS 9
abbrev nW : List Str := ["state", "count", "found", "k", "word"]
theorem scW : FnScope nW ["state", "count"] (defScope sWords) := ⟨rfl, rfl, rfl, by decide +kernel, rfl, by decide +kernel, by decide +kernel⟩
def phiW (ds : List PyData) (rs : List Im) (ds' : List PyData) (r : Im) : Prop := ∃ (ns : List Int) (g : Gs) (n : Nat), ds = gD ns g ∧ rs = [dat (.int n)] ∧ n < 60 ∧ ds' = gD ns (wSt ns g n).1 ∧ r = dat (.list ((wSt ns g n).2.map tS))
abbrev sDrawn : Stmt := topS 10
abbrev nD : List Str := ["state", "names", "k"]
theorem scD : FnScope nD ["state", "names"] (defScope sDrawn) := ⟨rfl, rfl, rfl, by decide +kernel, rfl, by decide +kernel, by decide +kernel⟩
def dSt (ns : List Int) (l : Int) (g : Gs) : Nat → Gs
  | 0 => g
  | n + 1 => nextG ns l (nextG ns l (dSt ns l g n))
def pick (names : List Str) (i : Int) : Str := names.getD i.toNat ""
def pairV (ns : List Int) (names : List Str) (g : Gs) : At := (pick names (nextV ns names.length g), pick names (nextV ns names.length (nextG ns names.length g)))
def drawn (ns : List Int) (names : List Str) (g : Gs) : List At := (List.range (nextV ns 9 g).toNat).map fun i => pairV ns names (dSt ns names.length (nextG ns 9 g) i)
def drawnG (ns : List Int) (names : List Str) (g : Gs) : Gs := dSt ns names.length (nextG ns 9 g) (nextV ns 9 g).toNat
def phiD (ds : List PyData) (rs : List Im) (ds' : List PyData) (r : Im) : Prop := ∃ (ns : List Int) (g : Gs) (names : List Str), ds = gD ns g ∧ rs = [dat (.list (names.map tS))] ∧ 0 < names.length ∧ names.length < 60 ∧ ds' = gD ns (drawnG ns names g) ∧ r = dat (.list ((drawn ns names g).map tAt))
abbrev sLabels : Stmt := topS 11
theorem scB : FnScope ["told", "entry"] ["told"] (defScope sLabels) := ⟨rfl, rfl, rfl, by decide +kernel, rfl, by decide +kernel, by decide +kernel⟩
abbrev Ls := List (Str × Lab)
def eB (ls : Ls) : List (Str × PyData) := ls.map fun p => (p.1, tS p.2.str)
def labels (ts : Fo) : Ls := mergeD [] (ts.map fun p => (p.1, p.2.1))
def phiB (rs : List Im) (r : Im) : Prop := ∃ (ts : Fo), rs = [dat (.tuple (ts.map tE))] ∧ ts.length < 100 ∧ r = dcu (eB (labels ts))
section
variable {P : Program} {w : World} {K : PySem.W.Frag} {mg : Str → Option Value} {base : Heap}
theorem ok_labels {f : Addr} {fd : FuncData} {k : Nat} (Fn : L2.Fun K "_law_labels" "_law_labels" sLabels f fd) (m1 : mg "dict" = none) : FnOk P w K mg base CX0 (k + 1) f fd ["told"] (spD phiB K) := by
  refine fn_D Fn scB (fun rs r ⟨_, h, _⟩ => by rw [h]; rfl) fun cdv A outer s H E hr rs r ⟨ts, h, hl, e⟩ => ?_
  subst h e
  refine sd_retR (ed_dictU (ps := ts.map fun p => (p.1, tS p.2.1.str)) (ed_d (ed_lcTN (own := [("entry", 1)]) (j := 1) ts tE (fun p => .tuple [tS p.1, tS p.2.1.str]) (ed_var 0 rfl) (fun p hp s' H' C cl fp => ?_) (blkOk_by (N := ["told", "entry"]) (sc := defScope sLabels) (by decide +kernel)) scB.nd rfl (bg1 scB.nd) (by omega)) (by rw [List.map_map]; rfl)) rfl m1) ?_
  · refine ed_tup (dd_cons (ed_ixT (i := 0) (ds := [tS p.1, tS p.2.1.str, .int p.2.2]) (ed_var 1 rfl) ed_int rfl) (dd_cons (ed_ixT (i := 1) (ds := [tS p.1, tS p.2.1.str, .int p.2.2]) (ed_var 1 rfl) ed_int rfl) dd_nil)) (Nat.le_of_ble_eq_true rfl)
  · unfold labels eB
    rw [← merge_map (fun l : Lab => tS l.str), List.map_map]; rfl
variable {fN : Addr} {fdN : FuncData} {k : Nat}
theorem pick_at {names : List Str} {v : Int} (h0 : 0 ≤ v) (h1 : v < names.length) : atI (names.map tS) v = some (tS (pick names v)) := by
  rw [atI_int (tS "") h0 (by rw [List.length_map]; exact h1)]
  unfold pick
  rw [List.getD_eq_getElem?_getD, List.getD_eq_getElem?_getD, List.getElem?_map, Option.getD_map]
theorem ok_drawn {f : Addr} {fd : FuncData} (Fn : L2.Fun K "_law_drawn" "_law_drawn" sDrawn f fd) (FN : FnOk P w K mg base CX0 k fN fdN ["state", "limit"] (spM phiN K)) (gN : mg "_law_next" = some (.ref fN)) (kN : PySem.W.keepIn K (.ref fN) = true) (bN : Binds K fdN ["state", "limit"] [])
    (m1 : mg "range" = none) (m2 : mg "len" = none) : FnOk P w K mg base CX0 (k + 1) f fd ["state", "names"] (spM phiD K) := by
  refine fn_M Fn scD (fun ds rs ds' r ⟨_, _, _, _, h, _⟩ => by rw [h]; rfl) fun cdv A outer s H E hr p ds rs ds' r ⟨ns, g, names, e1, e2, h1, h2, e3, e4⟩ => ?_
  subst e1 e2 e3 e4
  let st : Gs → En := fun g => .mu (mlsQ (fun a => a = p) (gD ns g))
  let nm : En := .im (dat (.list (names.map tS)))
  let l : Int := names.length
  have hl : (0 : Int) < l ∧ l < 1073741824 := by show (0 : Int) < (names.length : Int) ∧ (names.length : Int) < _; omega
  obtain ⟨n1, n2⟩ := nextV_range ns g (lim := 9) (by decide)
  refine sd_ret (ρ1 := [st (drawnG ns names g), nm, .no]) (r := dat (.list ((drawn ns names g).map tAt))) (ed_d (d := .list ((List.range (nextV ns 9 g).toNat).map fun i => tAt (pairV ns names (dSt ns l (nextG ns 9 g) i)))) ?_ (by unfold drawn; rw [List.map_map]; rfl)) ⟨rfl, rfl⟩
  refine ed_lcR (own := [("k", 2)]) (j := 2) (fun i => [st (dSt ns l (nextG ns 9 g) i), nm, .no]) (fun i => [st (dSt ns l (nextG ns 9 g) (i + 1)), nm, .im (dat (.int i))]) (fun i => tAt (pairV ns names (dSt ns l (nextG ns 9 g) i))) (nextV ns 9 g).toNat ?_ (fun i hi s' H' C cl fp => ?_) (fun i hi => ?_) (blkOk_by (N := nD) (sc := defScope sDrawn) (by decide +kernel)) scD.nd rfl (bg1 scD.nd) (by omega) m1
  · refine ed_d (ed_callM (ds := gD ns g) (ds' := gD ns (nextG ns 9 g)) (rs := [dat (.int 9)]) (ρ := [st g, nm, .no]) (ρ1 := [st g, nm, .no]) (r := dat (.int (nextV ns 9 g))) 0 FN hr gN kN bN rfl (ad_one ed_int) rfl ⟨ns, g, 9, rfl, rfl, by decide, by decide, rfl, rfl⟩) ?_
    rw [Int.toNat_of_nonneg n1]
  · obtain ⟨q1, q2⟩ := nextV_range ns (dSt ns l (nextG ns 9 g) i) hl.1
    obtain ⟨q3, q4⟩ := nextV_range ns (nextG ns l (dSt ns l (nextG ns 9 g) i)) hl.1
    have el : ((names.map tS).length : Int) = l := by rw [List.length_map]
    refine ed_tup (dd_cons (ρ1 := [st (nextG ns l (dSt ns l (nextG ns 9 g) i)), nm, .im (dat (.int i))]) (ed_ixL (ρ1 := [st (dSt ns l (nextG ns 9 g) i), nm, .im (dat (.int i))]) (ed_var 1 rfl) (ed_callM (ds := gD ns (dSt ns l (nextG ns 9 g) i)) (ds' := gD ns (nextG ns l (dSt ns l (nextG ns 9 g) i))) (rs := [dat (.int l)]) (ρ1 := [st (dSt ns l (nextG ns 9 g) i), nm, .im (dat (.int i))]) (r := dat (.int (nextV ns l (dSt ns l (nextG ns 9 g) i)))) 0 FN hr gN kN bN rfl (ad_one (ed_d (ed_lenL (ed_var 1 rfl) m2) (by rw [el]))) rfl ⟨ns, _, l, rfl, rfl, hl.1, hl.2, rfl, rfl⟩) (pick_at q1 q2))
      (dd_cons (ρ1 := [st (dSt ns l (nextG ns 9 g) (i + 1)), nm, .im (dat (.int i))]) (ed_ixL (ρ1 := [st (nextG ns l (dSt ns l (nextG ns 9 g) i)), nm, .im (dat (.int i))]) (ed_var 1 rfl) (ed_callM (ds := gD ns (nextG ns l (dSt ns l (nextG ns 9 g) i))) (ds' := gD ns (dSt ns l (nextG ns 9 g) (i + 1))) (rs := [dat (.int l)]) (ρ1 := [st (nextG ns l (dSt ns l (nextG ns 9 g) i)), nm, .im (dat (.int i))]) (r := dat (.int (nextV ns l (nextG ns l (dSt ns l (nextG ns 9 g) i))))) 0 FN hr gN kN bN rfl (ad_one (ed_d (ed_lenL (ed_var 1 rfl) m2) (by rw [el]))) rfl ⟨ns, _, l, rfl, rfl, hl.1, hl.2, rfl, rfl⟩) (pick_at q3 q4)) dd_nil)) (Nat.le_of_ble_eq_true rfl)
  · repeat' first | exact True.intro | exact Or.inr rfl | exact Or.inl rfl | apply And.intro
end
end K80
end

/-! part K80g -/
section
set_option Elab.async false
set_option linter.all false
set_option maxRecDepth 100000
set_option maxHeartbeats 1000000
namespace K80
open PySem PySem.Spec PyProof.Rows L2 Fd
section
variable {P : Program} {w : World} {K : PySem.W.Frag} {mg : Str → Option Value} {base : Heap} {fN : Addr} {fdN : FuncData} {k : Nat}
theorem alph_at {v : Int} (h0 : 0 ≤ v) (h1 : v < 26) : atI alph.cps.toList v = some (alph.cps.toList.getD v.toNat 0) := atI_int 0 h0 (by
  have : alph.cps.toList.length = 26 := by decide +kernel
  omega)
theorem sufs_at {v : Int} (h0 : 0 ≤ v) (h1 : v < 4) : atI (sufs.map tS) v = some (tS (sufs.getD v.toNat "")) := by
  rw [atI_int (tS "") h0 (by rw [List.length_map]; exact h1), List.getD_eq_getElem?_getD, List.getD_eq_getElem?_getD, List.getElem?_map, Option.getD_map]
theorem ok_words {f : Addr} {fd : FuncData} (Fn : L2.Fun K "_law_words_drawn" "_law_words_drawn" sWords f fd) (FN : FnOk P w K mg base CX0 k fN fdN ["state", "limit"] (spM phiN K)) (gN : mg "_law_next" = some (.ref fN)) (kN : PySem.W.keepIn K (.ref fN) = true) (bN : Binds K fdN ["state", "limit"] [])
    (m1 : mg "range" = none) : FnOk P w K mg base CX0 (k + 1) f fd ["state", "count"] (spM phiW K) := by
  refine fn_M Fn scW (fun ds rs ds' r ⟨_, _, _, _, h, _⟩ => by rw [h]; rfl) fun cdv A outer s H E hr p ds rs ds' r ⟨ns, g, n, e1, e2, h1, e3, e4⟩ => ?_
  subst e1 e2 e3 e4
  let st : Gs → En := fun g => .mu (mlsQ (fun a => a = p) (gD ns g))
  let ct : En := .im (dat (.int n))
  let fo : List Str → En := fun f => .mu (mls (f.map tS))
  refine sd_newL 2 ?_ scW.nd
  refine sd_forR 3 (fun i ρ' => Wk ρ' [st (wSt ns g i).1, ct, fo (wSt ns g i).2, .no, .no]) (ed_var 1 rfl) (by omega) (by repeat' first | exact True.intro | exact Or.inr rfl | exact Or.inl rfl | apply And.intro) (fun i ρ' hi hw => ?_) (fun ρ' hw => ?_) PassesOwn.never rfl m1 scW.nd
  · refine sd_wk hw.set ?_
    let g1 := (wSt ns g i).1
    let f1 := (wSt ns g i).2
    have hf : f1.length = i := wSt_len ns g i
    obtain ⟨q1, q2⟩ := nextV_range ns g1 (lim := 26) (by decide)
    obtain ⟨q3, q4⟩ := nextV_range ns (nextG ns 26 g1) (lim := 4) (by decide)
    refine sd_set (ρ1 := [st (wordG ns g1), ct, fo f1, .im (dat (.int i)), .no]) (r := dat (tS (wordV ns g1))) 4 (ed_cat (ρ1 := [st (nextG ns 26 g1), ct, fo f1, .im (dat (.int i)), .no]) (s := (⟨#[alph.cps.toList.getD (nextV ns 26 g1).toNat 0]⟩ : Str)) (t := sufs.getD (nextV ns 4 (nextG ns 26 g1)).toNat "")
      (ed_ixS (z := alph) (i := nextV ns 26 g1) ed_str (ed_callM (ds := gD ns g1) (ds' := gD ns (nextG ns 26 g1)) (rs := [dat (.int 26)]) (ρ := [st g1, ct, fo f1, .im (dat (.int i)), .no]) (ρ1 := [st g1, ct, fo f1, .im (dat (.int i)), .no]) (r := dat (.int (nextV ns 26 g1))) 0 FN hr gN kN bN rfl (ad_one ed_int) rfl ⟨ns, g1, 26, rfl, rfl, by decide, by decide, rfl, rfl⟩) (alph_at q1 q2) (by decide +kernel))
      (ed_ixL (ds := sufs.map tS) (i := nextV ns 4 (nextG ns 26 g1)) (ρ1 := [st (nextG ns 26 g1), ct, fo f1, .im (dat (.int i)), .no]) (ed_lst (dd_cons ed_str (dd_cons ed_str (dd_cons ed_str (dd_cons ed_str dd_nil)))) (by decide)) (ed_callM (ds := gD ns (nextG ns 26 g1)) (ds' := gD ns (wordG ns g1)) (rs := [dat (.int 4)]) (ρ1 := [st (nextG ns 26 g1), ct, fo f1, .im (dat (.int i)), .no]) (r := dat (.int (nextV ns 4 (nextG ns 26 g1)))) 0 FN hr gN kN bN rfl (ad_one ed_int) rfl ⟨ns, nextG ns 26 g1, 4, rfl, rfl, by decide, by decide, rfl, rfl⟩) (sufs_at q3 q4)) ?_) ?_ scW.nd
    · have h2 := suf_len (nextV ns 4 (nextG ns 26 g1)).toNat
      have h3 : (⟨#[alph.cps.toList.getD (nextV ns 26 g1).toNat 0]⟩ : Str).length = 1 := rfl
      rw [h3]
      exact Nat.le_of_lt (small1000 (by omega))
    have hw0 := wordV_len ns g1
    refine sd_while (fun m ρ' => ∃ w', Wk ρ' [st (wordG ns g1), ct, fo f1, .no, .im (dat (tS w'))] ∧ fw m f1 w' = fw (f1.length + 1) f1 (wordV ns g1) ∧ longer f1 w' < m ∧ w'.length + m ≤ 900) (f1.length + 1)
      ⟨wordV ns g1, (by repeat' first | exact True.intro | exact Or.inr rfl | exact Or.inl rfl | apply And.intro), rfl, Nat.lt_succ_of_le (List.length_filter_le _ _), by omega⟩ (fun m ρ' ⟨w', hw', e1, e2, e3⟩ => ⟨[st (wordG ns g1), ct, fo f1, .no, .im (dat (tS w'))], decide (w' ∈ f1), td_eq (td_wk hw' (td_c (cd_inOwn (ds := f1.map tS) (d := tS w') 2 (ed_var 4 rfl) rfl rfl (flat_map _ _ fun _ => rfl)))) (any_tS f1 w'), fun hq => ?_, fun hq => ?_⟩) PassesOwn.never
    · have hq := of_decide_eq_true hq
      have ey : (w' ++ ("y" : Str)).length = w'.length + 1 := by rw [Str.length_append]; rfl
      refine sd_setP 4 (ed_cat (s := w') (t := "y") (ed_var 4 rfl) ed_str (Nat.le_of_lt (small1000 (by rw [show ("y" : Str).length = 1 from rfl]; omega)))) (sd_nil ?_) scW.nd
      cases m with
      | zero => omega
      | succ m =>
        refine ⟨m, Nat.lt_succ_self m, w' ++ ("y" : Str), (by repeat' first | exact True.intro | exact Or.inr rfl | exact Or.inl rfl | apply And.intro), ?_, by have := longer_lt hq; omega, by omega⟩
        rw [← e1]
        show _ = if w' ∈ f1 then _ else _
        rw [if_pos hq]
    · have hq := of_decide_eq_false hq
      have ew : w' = fw (f1.length + 1) f1 (wordV ns g1) := by
        rw [← e1]
        cases m with
        | zero => omega
        | succ m =>
          show _ = if w' ∈ f1 then _ else _
          rw [if_neg hq]
      refine sd_append (ds := f1.map tS) (d := tS w') 2 rfl (ed_var 4 rfl) rfl (by rw [List.length_map]; omega) (sd_nil ?_)
      rw [ew]
      refine ⟨.inr rfl, .inr rfl, .inr ?_, .inl rfl, .inl rfl, True.intro⟩
      show fo (f1 ++ [_]) = En.mu (mls (f1.map tS ++ [tS _]))
      show En.mu (mls ((f1 ++ [_]).map tS)) = _
      rw [List.map_append]; rfl
  · rw [Int.toNat_natCast] at hw
    refine sd_wk hw ?_
    refine sd_freeze 2 rfl mls_dat ?_
    exact sd_retP (ed_var 2 rfl) ⟨rfl, rfl⟩
end
end K80
end

/-! part K80n -/
section
set_option Elab.async false
set_option linter.all false
set_option maxRecDepth 100000
/-! Labels by rounds, in plain words. -/
namespace K80
open PySem Fd
def lab (φ : Str → Option Lb) (m : Str) : Lab := ((φ m).getD opn).1
def hasA (ats : List At) (φ : Str → Option Lb) (n : Str) (a : Lab) : Bool := ats.any fun p => decide (p.2 = n) && decide (lab φ p.1 = a)
theorem hasA_iff {ats : List At} {φ : Str → Option Lb} {n : Str} {a : Lab} : hasA ats φ n a = true ↔ ∃ m, (m, n) ∈ ats ∧ lab φ m = a := by
  unfold hasA
  rw [List.any_eq_true]
  constructor
  · rintro ⟨p, h, e⟩
    rw [Bool.and_eq_true, decide_eq_true_iff, decide_eq_true_iff] at e
    exact ⟨p.1, by rw [← e.1]; exact h, e.2⟩
  · rintro ⟨m, h, e⟩
    exact ⟨(m, n), h, by rw [Bool.and_eq_true, decide_eq_true_iff, decide_eq_true_iff]; exact ⟨rfl, e⟩⟩
theorem hasA_not {ats : List At} {φ : Str → Option Lb} {n : Str} {a : Lab} (h : ∀ m, (m, n) ∈ ats → lab φ m ≠ a) : hasA ats φ n a = false := by
  cases e : hasA ats φ n a with
  | false => rfl
  | true =>
    obtain ⟨m, h1, h2⟩ := hasA_iff.mp e
    exact absurd h2 (h m h1)
/-- what a round settles -/
def dec (ats : List At) (φ : Str → Option Lb) (r : Int) (n : Str) : Option Lb := if hasA ats φ n .s = true then some (.f, r) else if hasA ats φ n .o = true then none else some (.s, r)
/-- after k rounds -/
def rd (names : List Str) (ats : List At) : Nat → Str → Option Lb
  | 0, _ => none
  | k + 1, n => match rd names ats k n with
    | some x => some x
    | none => if n ∈ names then dec ats (rd names ats k) k n else none
section
variable {names : List Str} {ats : List At} {k j : Nat} {n m : Str} {x y : Lb} {r : Int}
theorem rd_some (h : rd names ats k n = some x) : rd names ats (k + 1) n = some x := by
  show (match rd names ats k n with
    | some x => some x
    | none => _) = _
  rw [h]
theorem rd_none (h : rd names ats k n = none) (hn : n ∈ names) : rd names ats (k + 1) n = dec ats (rd names ats k) k n := by
  show (match rd names ats k n with
    | some x => some x
    | none => if n ∈ names then dec ats (rd names ats k) k n else none) = _
  rw [h]
  exact if_pos hn
theorem rd_out (hn : n ∉ names) : ∀ k, rd names ats k n = none
  | 0 => rfl
  | k + 1 => by
    show (match rd names ats k n with
      | some x => some x
      | none => if n ∈ names then dec ats (rd names ats k) k n else none) = _
    rw [rd_out hn k]
    exact if_neg hn
theorem rd_mono (h : rd names ats k n = some x) : ∀ {j}, k ≤ j → rd names ats j n = some x := by
  intro j hj
  induction hj with
  | refl => exact h
  | step _ ih => exact rd_some ih
theorem rd_uniq (h : rd names ats k n = some x) (g : rd names ats j n = some y) : x = y := by
  rcases Nat.le_total k j with e | e
  · exact Option.some.inj ((rd_mono h e).symm.trans g)
  · exact Option.some.inj (h.symm.trans (rd_mono g e))
theorem lab_some (h : rd names ats k n = some x) : lab (rd names ats k) n = x.1 := by unfold lab; rw [h]; rfl
theorem lab_none (h : rd names ats k n = none) : lab (rd names ats k) n = .o := by unfold lab; rw [h]; rfl
/-- how a label came -/
theorem rd_step (h : rd names ats (k + 1) n = some x) : rd names ats k n = some x ∨ (rd names ats k n = none ∧ n ∈ names ∧ dec ats (rd names ats k) k n = some x) := by
  cases e : rd names ats k n with
  | some y => rw [rd_some e] at h; exact .inl h
  | none =>
    by_cases hn : n ∈ names
    · rw [rd_none e hn] at h; exact .inr ⟨rfl, hn, h⟩
    · rw [rd_out hn] at h; cases h
theorem dec_some {φ : Str → Option Lb} (h : dec ats φ r n = some x) : x.2 = r ∧ ((x.1 = .f ∧ ∃ m, (m, n) ∈ ats ∧ lab φ m = .s) ∨ (x.1 = .s ∧ ∀ m, (m, n) ∈ ats → lab φ m = .f)) := by
  unfold dec at h
  split at h
  · rename_i q
    cases h
    exact ⟨rfl, .inl ⟨rfl, hasA_iff.mp q⟩⟩
  · rename_i q
    split at h
    · cases h
    · rename_i q2
      cases h
      refine ⟨rfl, .inr ⟨rfl, fun m hm => ?_⟩⟩
      cases e : lab φ m with
      | s => exact absurd (hasA_iff.mpr ⟨m, hm, e⟩) q
      | f => rfl
      | o => exact absurd (hasA_iff.mpr ⟨m, hm, e⟩) q2
theorem rd_lab (h : rd names ats k n = some x) : x.1 = .s ∨ x.1 = .f := by
  induction k with
  | zero => cases h
  | succ k ih =>
    rcases rd_step h with h | ⟨_, _, h⟩
    · exact ih h
    · rcases (dec_some h).2 with q | q
      · exact .inr q.1
      · exact .inl q.1
theorem lab_get {a : Lab} (h : lab (rd names ats k) n = a) (ha : a ≠ .o) : ∃ r, rd names ats k n = some (a, r) := by
  cases e : rd names ats k n with
  | none => rw [lab_none e] at h; exact absurd h.symm ha
  | some x => rw [lab_some e] at h; exact ⟨x.2, by rw [← h]⟩
theorem lab_o (h : lab (rd names ats k) n = .o) : rd names ats k n = none := by
  cases e : rd names ats k n with
  | none => rfl
  | some x =>
    rw [lab_some e] at h
    rcases rd_lab e with q | q <;> rw [h] at q <;> cases q
theorem rd_rank (h : rd names ats k n = some x) : 0 ≤ x.2 ∧ x.2 < k := by
  induction k with
  | zero => cases h
  | succ k ih =>
    rcases rd_step h with h | ⟨_, _, h⟩
    · have := ih h
      omega
    · have := (dec_some h).1
      omega
/-- a label is well founded -/
theorem rd_sound (h : rd names ats k n = some x) : (x.1 = .f ∧ ∃ m y, (m, n) ∈ ats ∧ rd names ats k m = some y ∧ y.1 = .s ∧ y.2 < x.2) ∨ (x.1 = .s ∧ ∀ m, (m, n) ∈ ats → ∃ y, rd names ats k m = some y ∧ y.1 = .f ∧ y.2 < x.2) := by
  induction k with
  | zero => cases h
  | succ k ih =>
    rcases rd_step h with h | ⟨_, _, h⟩
    · rcases ih h with ⟨e, m, y, h1, h2, h3⟩ | ⟨e, q⟩
      · exact .inl ⟨e, m, y, h1, rd_some h2, h3⟩
      · refine .inr ⟨e, fun m hm => ?_⟩
        obtain ⟨y, h1, h2⟩ := q m hm
        exact ⟨y, rd_some h1, h2⟩
    · obtain ⟨hr, ⟨e, m, hm, hl⟩ | ⟨e, q⟩⟩ := dec_some h
      · obtain ⟨r', hr'⟩ := lab_get hl (by decide)
        refine .inl ⟨e, m, _, hm, rd_some hr', rfl, ?_⟩
        have := rd_rank hr'
        rw [hr]; exact this.2
      · refine .inr ⟨e, fun m hm => ?_⟩
        obtain ⟨r', hr'⟩ := lab_get (q m hm) (by decide)
        refine ⟨_, rd_some hr', rfl, ?_⟩
        have := rd_rank hr'
        rw [hr]; exact this.2
theorem rd_falls (h : rd names ats k n = some x) (hm : (m, n) ∈ ats) (g : rd names ats k m = some y) (hy : y.1 = .s) : x.1 = .f := by
  rcases rd_sound h with q | ⟨_, q⟩
  · exact q.1
  · obtain ⟨z, h1, h2, _⟩ := q m hm
    rw [rd_uniq g h1, h2] at hy
    cases hy
theorem rd_stands (h : rd names ats k n = some x) (q : ∀ m, (m, n) ∈ ats → ∃ y, rd names ats k m = some y ∧ y.1 = .f) : x.1 = .s := by
  rcases rd_sound h with ⟨_, m, y, h1, h2, h3, _⟩ | q
  · obtain ⟨z, h4, h5⟩ := q m h1
    rw [rd_uniq h2 h4, h5] at h3
    cases h3
  · exact q.1
/-- what the next round tells -/
theorem next_falls (hn : n ∈ names) (hm : (m, n) ∈ ats) (g : rd names ats k m = some y) (hy : y.1 = .s) : ∃ x, rd names ats (k + 1) n = some x ∧ x.1 = .f := by
  cases e : rd names ats k n with
  | some x => exact ⟨x, rd_some e, rd_falls e hm g hy⟩
  | none =>
    refine ⟨(.f, k), ?_, rfl⟩
    rw [rd_none e hn]
    unfold dec
    rw [if_pos (hasA_iff.mpr ⟨m, hm, by rw [lab_some g, hy]⟩)]
theorem next_stands (hn : n ∈ names) (q : ∀ m, (m, n) ∈ ats → ∃ y, rd names ats k m = some y ∧ y.1 = .f) : ∃ x, rd names ats (k + 1) n = some x ∧ x.1 = .s := by
  cases e : rd names ats k n with
  | some x => exact ⟨x, rd_some e, rd_stands e q⟩
  | none =>
    refine ⟨(.s, k), ?_, rfl⟩
    have l : ∀ m, (m, n) ∈ ats → lab (rd names ats k) m = .f := fun m hm => by
      obtain ⟨y, h1, h2⟩ := q m hm
      rw [lab_some h1, h2]
    rw [rd_none e hn]
    unfold dec
    rw [hasA_not fun m hm => by rw [l m hm]; decide, hasA_not fun m hm => by rw [l m hm]; decide]
    rfl
end

/-! ### the program's rounds -/
section
variable {names : List Str} {ats : List At} {found fresh : Fo} {rank : Int} {n : Str}
theorem others_mem {a : Lab} : a ∈ others found ats n ↔ hasA ats (look found) n a = true := by
  rw [hasA_iff]
  unfold others
  rw [List.mem_map]
  exact ⟨fun ⟨m, h, e⟩ => ⟨m, mem_attackers.mp h, e⟩, fun ⟨m, h, e⟩ => ⟨m, mem_attackers.mpr h, e⟩⟩
theorem look_step (j : Str) : look (step ats found rank fresh n) j = if j = n ∧ (look found n).isSome = false ∧ (dec ats (look found) rank n).isSome = true then dec ats (look found) rank n else look fresh j := by
  unfold step dec
  simp only [others_mem]
  cases h1 : (look found n).isSome with
  | true => simp
  | false =>
    cases h2 : hasA ats (look found) n .s with
    | true =>
      simp [look_put]
    | false =>
      cases h3 : hasA ats (look found) n .o with
      | true => simp
      | false => simp [look_put]
theorem look_foldl (j : Str) : ∀ (ns : List Str) (fresh : Fo), look (ns.foldl (step ats found rank) fresh) j = if j ∈ ns ∧ (look found j).isSome = false ∧ (dec ats (look found) rank j).isSome = true then dec ats (look found) rank j else look fresh j
  | [], fresh => by simp
  | n :: ns, fresh => by
    rw [List.foldl_cons, look_foldl j ns, look_step]
    by_cases e : j = n
    · subst e
      by_cases q : (look found j).isSome = false ∧ (dec ats (look found) rank j).isSome = true
      · simp [q]
      · rw [if_neg fun z => q z.2, if_neg fun z => q z.2, if_neg fun z => q z.2]
    · simp [e]
theorem nodup_step (h : (fresh.map (·.1)).Nodup) : ((step ats found rank fresh n).map (·.1)).Nodup := by
  unfold step
  split
  · exact nodup_put h
  · split
    · exact nodup_put h
    · exact h
theorem nodup_foldl : ∀ (ns : List Str) (fresh : Fo), (fresh.map (·.1)).Nodup → ((ns.foldl (step ats found rank) fresh).map (·.1)).Nodup
  | [], _, h => h
  | n :: ns, fresh, h => nodup_foldl ns _ (nodup_step h)
theorem look_round (j : Str) : look (roundF names ats found rank) j = if j ∈ names ∧ (look found j).isSome = false then dec ats (look found) rank j else none := by
  unfold roundF foldR
  rw [look_foldl]
  simp only [(sorts_perm names).mem_iff]
  by_cases h : j ∈ names ∧ (look found j).isSome = false
  · cases e : dec ats (look found) rank j with
    | none => simp [h, look_nil]
    | some x => simp [h]
  · have h' : ¬ (j ∈ names ∧ (look found j).isSome = false ∧ (dec ats (look found) rank j).isSome = true) := fun z => h ⟨z.1, z.2.1⟩
    rw [if_neg h', if_neg h]; rfl
theorem look_next (j : Str) : look (mergeD found (roundF names ats found rank)) j = match look found j with
    | some x => some x
    | none => if j ∈ names then dec ats (look found) rank j else none := by
  rw [look_merge (show ((roundF names ats found rank).map (·.1)).Nodup from nodup_foldl (sorts names) [] List.nodup_nil), look_round]
  cases e : look found j with
  | some x => simp
  | none =>
    by_cases h : j ∈ names
    · simp [h]
    · simp [h]
/-- found stands at round k -/
theorem run_rd : ∀ (m k : Nat) (found : Fo), (∀ j, look found j = rd names ats k j) → unset names found < m → ∃ K, (∀ j, look (runF names ats m found k) j = rd names ats K j) ∧ ∀ j, rd names ats (K + 1) j = rd names ats K j
  | 0, _, _, _, h => absurd h (Nat.not_lt_zero _)
  | m + 1, k, found, hf, hu => by
    have hfe : look found = rd names ats k := funext hf
    have nx : ∀ j, look (mergeD found (roundF names ats found k)) j = rd names ats (k + 1) j := fun j => by
      rw [look_next, hfe]; rfl
    unfold runF
    by_cases h : roundF names ats found k = []
    · rw [if_pos h]
      refine ⟨k, hf, fun j => ?_⟩
      rw [← nx j, h]
      exact hf j
    · rw [if_neg h]
      have := unset_lt h
      exact run_rd m (k + 1) _ nx (by omega)
/-- from some round on nothing changes -/
theorem rd_stays {K : Nat} (h : ∀ j, rd names ats (K + 1) j = rd names ats K j) : ∀ {k : Nat}, K ≤ k → ∀ j, rd names ats k j = rd names ats K j := by
  intro k hk
  induction hk with
  | refl => intro j; rfl
  | @step k hk ih =>
    intro j
    have e : rd names ats k = rd names ats K := funext ih
    cases q : rd names ats K j with
    | some x => exact rd_some ((ih j).trans q)
    | none =>
      by_cases hn : j ∈ names
      · rw [rd_none ((ih j).trans q) hn, e]
        have := h j
        rw [rd_none q hn, q] at this
        unfold dec at this ⊢
        split at this
        · cases this
        · rename_i q1
          split at this
          · rename_i q2
            rw [if_neg q1, if_pos q2]
          · cases this
      · exact rd_out hn _
/-- the end of all rounds -/
theorem fin_rd (names : List Str) (ats : List At) : ∃ K, (∀ k, K ≤ k → ∀ j, rd names ats k j = look (fin names ats) j) ∧ ∀ j, rd names ats (K + 1) j = rd names ats K j := by
  obtain ⟨K, h1, h2⟩ := run_rd (names := names) (ats := ats) (names.length + 1) 0 [] (fun j => rfl) (Nat.lt_succ_of_le (unset_le names []))
  refine ⟨K, fun k hk j => (rd_stays h2 hk j).trans (h1 j).symm, h2⟩
end
end K80
end

/-! part K80i -/
section
set_option Elab.async false
set_option linter.all false
set_option maxRecDepth 100000
/-! What is asked of the labels, in plain words. -/
namespace K80
open PySem Fd
def Inn (names : List Str) (ats : List At) : Prop := ∀ p ∈ ats, p.1 ∈ names ∧ p.2 ∈ names
/-- the same labels -/
def Eqd (a b : Ls) : Prop := a.length = b.length ∧ ∀ p ∈ a, look b p.1 = some p.2
section
variable {names : List Str} {ats : List At} {n m : Str}
/-- the label in the end -/
theorem lb_lab (n : Str) : lb (fin names ats) n = (look (fin names ats) n).getD opn := rfl
/-! ### the judge -/
theorem lb_told (nd : names.Nodup) (hn : n ∈ names) : lb (told names ats) n = lb (fin names ats) n := by
  have hm : (n, lb (fin names ats) n) ∈ told names ats := List.mem_map.mpr ⟨n, (sorts_perm names).mem_iff.mpr hn, rfl⟩
  have hk : ((told names ats).map (·.1)).Nodup := by
    unfold told
    rw [List.map_map, show ((fun x : Str × Lb => x.1) ∘ fun n => (n, lb (fin names ats) n)) = id from rfl, List.map_id]
    exact (sorts_perm names).nodup_iff.mpr nd
  have := look_in hk hm
  show (look (told names ats) n).getD opn = _
  rw [this]; rfl
theorem t1 (nd : names.Nodup) (sub : Inn names ats) : judge ats (told names ats) = true := by
  unfold judge
  rw [List.all_eq_true]
  intro p hp
  obtain ⟨n, hn, rfl⟩ := List.mem_map.mp hp
  have hn : n ∈ names := (sorts_perm names).mem_iff.mp hn
  obtain ⟨K, hK, hs⟩ := fin_rd names ats
  have hf : ∀ j, rd names ats K j = look (fin names ats) j := hK K (Nat.le_refl K)
  have hat : ∀ m, (m, n) ∈ ats → lb (told names ats) m = (rd names ats K m).getD opn := fun m hm => by
    rw [lb_told nd (sub _ hm).1, lb_lab, hf]
  show settled (told names ats) (attackers ats n) (lb (told names ats) n) = true
  have hl : lb (told names ats) n = (rd names ats K n).getD opn := by rw [lb_told nd hn, lb_lab, hf]
  rw [hl]
  cases e : rd names ats K n with
  | none =>
    show (decide ((-1 : Int) = -1) && (!((attackers ats n).any fun o => decide ((lb (told names ats) o).1 = .s)) && (attackers ats n).any fun o => decide ((lb (told names ats) o).1 = .o))) = true
    have hd : dec ats (rd names ats K) K n = none := by
      rw [← rd_none e hn, hs n, e]
    unfold dec at hd
    split at hd
    · cases hd
    · rename_i q1
      split at hd
      · rename_i q2
        obtain ⟨m, h1, h2⟩ := hasA_iff.mp q2
        have ho : ((attackers ats n).any fun o => decide ((lb (told names ats) o).1 = .o)) = true := List.any_eq_true.mpr ⟨m, mem_attackers.mpr h1, by rw [hat m h1]; exact decide_eq_true h2⟩
        have hns : ((attackers ats n).any fun o => decide ((lb (told names ats) o).1 = .s)) = false := List.any_eq_false.mpr fun m hm z => by
          have hm := mem_attackers.mp hm
          rw [hat m hm] at z
          exact q1 (hasA_iff.mpr ⟨m, hm, of_decide_eq_true z⟩)
        rw [ho, hns]; rfl
      · cases hd
  | some x =>
    have hr := rd_rank e
    obtain ⟨a, r⟩ := x
    rcases rd_sound e with ⟨ha, m, y, h1, h2, h3, h4⟩ | ⟨ha, q⟩
    · have ha : a = .f := ha
      subst ha
      show (decide (0 ≤ r) && (attackers ats n).any fun o => decide ((lb (told names ats) o).1 = .s) && decide ((lb (told names ats) o).2 < r)) = true
      rw [decide_eq_true hr.1, Bool.true_and]
      refine List.any_eq_true.mpr ⟨m, mem_attackers.mpr h1, ?_⟩
      rw [hat m h1, h2]
      show (decide (y.1 = .s) && decide (y.2 < r)) = true
      rw [decide_eq_true h3, decide_eq_true h4]; rfl
    · have ha : a = .s := ha
      subst ha
      show (decide (0 ≤ r) && (attackers ats n).all fun o => decide ((lb (told names ats) o).1 = .f) && decide ((lb (told names ats) o).2 < r)) = true
      rw [decide_eq_true hr.1, Bool.true_and]
      refine List.all_eq_true.mpr fun m hm => ?_
      have hm := mem_attackers.mp hm
      obtain ⟨y, h1, h2, h3⟩ := q m hm
      rw [hat m hm, h1]
      show (decide (y.1 = .f) && decide (y.2 < r)) = true
      rw [decide_eq_true h2, decide_eq_true h3]; rfl
/-! ### notes that see the same -/
theorem dec_eq {ats ats' : List At} {φ ψ : Str → Option Lb} {n n' : Str} {r : Int} (h : ∀ a, hasA ats φ n a = hasA ats' ψ n' a) : dec ats φ r n = dec ats' ψ r n' := by
  unfold dec
  rw [h, h]
theorem rd_same {names' : List Str} {ats' : List At} (f : Str → Str) (h1 : ∀ n ∈ names, f n ∈ names') (h2 : ∀ n ∈ names, ∀ m, (m, n) ∈ ats → m ∈ names ∧ (f m, f n) ∈ ats') (h3 : ∀ n ∈ names, ∀ m', (m', f n) ∈ ats' → ∃ m, m ∈ names ∧ (m, n) ∈ ats ∧ f m = m') : ∀ k, ∀ n ∈ names, rd names' ats' k (f n) = rd names ats k n
  | 0, _, _ => rfl
  | k + 1, n, hn => by
    have ih := rd_same f h1 h2 h3 k
    cases e : rd names ats k n with
    | some x => rw [rd_some e, rd_some ((ih n hn).trans e)]
    | none =>
      rw [rd_none e hn, rd_none ((ih n hn).trans e) (h1 n hn)]
      refine dec_eq fun a => ?_
      rw [Bool.eq_iff_iff, hasA_iff, hasA_iff]
      constructor
      · rintro ⟨m', hm', hl⟩
        obtain ⟨m, a1, a2, rfl⟩ := h3 n hn m' hm'
        refine ⟨m, a2, ?_⟩
        rw [← hl]
        unfold lab
        rw [ih m a1]
      · rintro ⟨m, hm, hl⟩
        obtain ⟨a1, a2⟩ := h2 n hn m hm
        refine ⟨f m, a2, ?_⟩
        rw [← hl]
        unfold lab
        rw [ih m a1]
theorem fin_same {names' : List Str} {ats' : List At} (f : Str → Str) (h1 : ∀ n ∈ names, f n ∈ names') (h2 : ∀ n ∈ names, ∀ m, (m, n) ∈ ats → m ∈ names ∧ (f m, f n) ∈ ats') (h3 : ∀ n ∈ names, ∀ m', (m', f n) ∈ ats' → ∃ m, m ∈ names ∧ (m, n) ∈ ats ∧ f m = m') (hn : n ∈ names) : look (fin names' ats') (f n) = look (fin names ats) n := by
  obtain ⟨K, hK, _⟩ := fin_rd names ats
  obtain ⟨K', hK', _⟩ := fin_rd names' ats'
  rw [← hK (max K K') (Nat.le_max_left ..) n, ← hK' (max K K') (Nat.le_max_right ..) (f n)]
  exact rd_same f h1 h2 h3 _ n hn
/-- the told rows, put in order anew -/
theorem sort_told {bs : List (Str × Lb)} {names : List Str} {ats : List At} (nd : names.Nodup) (hp : bs.Perm (names.map fun n => (n, lb (fin names ats) n))) : bs.mergeSort (PySem.W.dataLe false tE) = told names ats := by
  have hk : (told names ats).map (·.1) = sorts names := by
    unfold told
    rw [List.map_map]
    exact List.map_id' _
  have hperm : (told names ats).Perm bs := ((sorts_perm names).map _).trans hp.symm
  refine sort_rows (key := fun p : Str × Lb => p.1) (row := fun p => [tS p.2.1.str, .int p.2.2]) ?_ hperm ?_
  · refine (hperm.map (·.1)).nodup_iff.mp ?_
    rw [hk]
    exact (sorts_perm names).nodup_iff.mpr nd
  · have := sorts_pw names
    rw [← hk] at this
    exact List.pairwise_map.mp this
theorem t2 (nd : names.Nodup) (sub : Inn names ats) (f : Str → Str) (inj : ∀ a ∈ names, ∀ b ∈ names, f a = f b → a = b) :
    ((told names ats).map fun p => (f p.1, p.2)).mergeSort (PySem.W.dataLe false tE) = told (names.map f) (ats.map fun p => (f p.1, f p.2)) := by
  have hf : ∀ n ∈ names, look (fin (names.map f) (ats.map fun p => (f p.1, f p.2))) (f n) = look (fin names ats) n := fun n hn =>
    fin_same f (fun n hn => List.mem_map.mpr ⟨n, hn, rfl⟩) (fun n hn m hm => ⟨(sub _ hm).1, List.mem_map.mpr ⟨_, hm, rfl⟩⟩) (fun n hn m' hm' => by
      obtain ⟨p, hp, e⟩ := List.mem_map.mp hm'
      have e1 : f p.1 = m' := congrArg Prod.fst e
      have e2 : f p.2 = f n := congrArg Prod.snd e
      have e3 := inj _ (sub p hp).2 _ hn e2
      exact ⟨p.1, (sub p hp).1, by rw [← e3]; exact hp, e1⟩) hn
  refine sort_told ?_ ?_
  · refine List.pairwise_map.mpr (List.Pairwise.imp_of_mem ?_ nd)
    intro a b ha hb hab e
    exact hab (inj a ha b hb e)
  · unfold told
    rw [List.map_map, List.map_map]
    have e : (names.map ((fun n => (n, lb (fin (names.map f) (ats.map fun p => (f p.1, f p.2))) n)) ∘ f)) = names.map ((fun p : Str × Lb => (f p.1, p.2)) ∘ fun n => (n, lb (fin names ats) n)) := List.map_congr_left fun n hn => by
      show (f n, lb _ (f n)) = (f n, lb _ n)
      unfold lb
      rw [hf n hn]
    rw [e]
    exact (sorts_perm names).map _
theorem t3 {more : List Str} {ats2 : List At} (nd : (names ++ more).Nodup) (sub : Inn names ats) (sub2 : Inn more ats2) :
    (told names ats ++ told more ats2).mergeSort (PySem.W.dataLe false tE) = told (names ++ more) (ats ++ ats2) := by
  have dis : ∀ a ∈ names, a ∉ more := fun a ha hb => (List.nodup_append.mp nd).2.2 a ha a hb rfl
  have h1 : ∀ n ∈ names, look (fin (names ++ more) (ats ++ ats2)) n = look (fin names ats) n := fun n hn =>
    fin_same (fun x => x) (fun n hn => List.mem_append_left _ hn) (fun n hn m hm => ⟨(sub _ hm).1, List.mem_append_left _ hm⟩) (fun n hn m' hm' => by
      rcases List.mem_append.mp hm' with h | h
      · exact ⟨m', (sub _ h).1, h, rfl⟩
      · exact absurd (sub2 _ h).2 (dis n hn)) hn
  have h2 : ∀ n ∈ more, look (fin (names ++ more) (ats ++ ats2)) n = look (fin more ats2) n := fun n hn =>
    fin_same (fun x => x) (fun n hn => List.mem_append_right _ hn) (fun n hn m hm => ⟨(sub2 _ hm).1, List.mem_append_right _ hm⟩) (fun n hn m' hm' => by
      rcases List.mem_append.mp hm' with h | h
      · exact absurd hn (dis n (sub _ h).2)
      · exact ⟨m', (sub2 _ h).1, h, rfl⟩) hn
  refine sort_told nd ?_
  rw [List.map_append]
  refine List.Perm.append ?_ ?_
  · unfold told
    rw [show (names.map fun n => (n, lb (fin (names ++ more) (ats ++ ats2)) n)) = names.map fun n => (n, lb (fin names ats) n) from List.map_congr_left fun n hn => by unfold lb; rw [h1 n hn]]
    exact (sorts_perm names).map _
  · unfold told
    rw [show (more.map fun n => (n, lb (fin (names ++ more) (ats ++ ats2)) n)) = more.map fun n => (n, lb (fin more ats2) n) from List.map_congr_left fun n hn => by unfold lb; rw [h2 n hn]]
    exact (sorts_perm more).map _
/-! ### the labels -/
theorem labels_eq (nd : names.Nodup) : labels (told names ats) = (sorts names).map fun n => (n, (lb (fin names ats) n).1) := by
  unfold labels told
  rw [List.map_map]
  refine merge_self ?_
  rw [List.map_map]
  show ((sorts names).map id).Nodup
  rw [List.map_id]
  exact (sorts_perm names).nodup_iff.mpr nd
theorem look_labels (nd : names.Nodup) (hn : n ∈ names) : look (labels (told names ats)) n = some (lb (fin names ats) n).1 := by
  rw [labels_eq nd]
  refine look_in (p := (n, (lb (fin names ats) n).1)) ?_ (List.mem_map.mpr ⟨n, (sorts_perm names).mem_iff.mpr hn, rfl⟩)
  rw [List.map_map]
  show ((sorts names).map id).Nodup
  rw [List.map_id]
  exact (sorts_perm names).nodup_iff.mpr nd
theorem labels_keys : (look (labels (told names ats)) n).isSome = true → n ∈ names := fun h => by
  unfold labels told at h
  rw [look_mem, mem_merge] at h
  rcases h with h | h
  · cases h
  · rw [List.map_map, List.map_map] at h
    obtain ⟨x, hx, rfl⟩ := List.mem_map.mp h
    exact (sorts_perm names).mem_iff.mp hx
/-- beside the old, some more -/
theorem eqd_more {more : List Str} {ats' : List At} {tail : Ls} (nd : (names ++ more).Nodup) (ht : tail.map (·.1) = more) (h1 : ∀ n ∈ names, (lb (fin (names ++ more) ats') n).1 = (lb (fin names ats) n).1) (h2 : ∀ p ∈ tail, (lb (fin (names ++ more) ats') p.1).1 = p.2) :
    Eqd (labels (told (names ++ more) ats')) (mergeD [] (labels (told names ats) ++ tail)) := by
  have nd1 : names.Nodup := (List.nodup_append.mp nd).1
  have hk : ((labels (told names ats) ++ tail).map (·.1)).Perm (names ++ more) := by
    rw [List.map_append, ht, labels_eq nd1, List.map_map]
    show ((sorts names).map id ++ more).Perm _
    rw [List.map_id]
    exact (sorts_perm names).append_right more
  have hnd := hk.nodup_iff.mpr nd
  rw [merge_self hnd, labels_eq nd]
  constructor
  · have := hk.length_eq
    rw [List.length_map] at this
    rw [List.length_map, (sorts_perm _).length_eq, this]
  · intro p hp
    obtain ⟨n, hn, rfl⟩ := List.mem_map.mp hp
    have hn : n ∈ names ++ more := (sorts_perm _).mem_iff.mp hn
    rcases List.mem_append.mp hn with h | h
    · have hm : (n, (lb (fin names ats) n).1) ∈ labels (told names ats) ++ tail := List.mem_append_left _ (by
        rw [labels_eq nd1]
        exact List.mem_map.mpr ⟨n, (sorts_perm names).mem_iff.mpr h, rfl⟩)
      have := look_in hnd hm
      show look _ n = some (lb _ n).1
      rw [h1 n h]; exact this
    · rw [← ht] at h
      obtain ⟨q, hq, rfl⟩ := List.mem_map.mp h
      have := look_in hnd (List.mem_append_right _ hq)
      show look _ q.1 = some (lb _ q.1).1
      rw [h2 q hq]; exact this
theorem t5 (nd : names.Nodup) (sub : Inn names ats) {s t u : Str} (hs : s ∉ names) (ht : t ∉ names) (hu : u ∉ names) (d : [s, t, u].Nodup) :
    Eqd (labels (told (names ++ [s, t, u]) (ats ++ [(s, s), (t, u), (u, t)]))) (mergeD [] (labels (told names ats) ++ [(s, Lab.o), (t, Lab.o), (u, Lab.o)])) := by
  have d1 : s ≠ t ∧ s ≠ u ∧ t ≠ u := by
    simp only [List.nodup_cons, List.mem_cons, List.not_mem_nil, or_false, not_or] at d
    exact ⟨d.1.1, d.1.2, d.2.1⟩
  have ndd : (names ++ [s, t, u]).Nodup := List.nodup_append.mpr ⟨nd, d, fun a ha b hb e => by
    subst e
    simp only [List.mem_cons, List.not_mem_nil, or_false] at hb
    rcases hb with e | e | e
    · exact hs (e ▸ ha)
    · exact ht (e ▸ ha)
    · exact hu (e ▸ ha)⟩
  have mem' : ∀ {m n : Str}, (m, n) ∈ ats ++ [(s, s), (t, u), (u, t)] → (m, n) ∈ ats ∨ (m = s ∧ n = s) ∨ (m = t ∧ n = u) ∨ (m = u ∧ n = t) := fun {m n} h => by
    simpa [List.mem_append] using h
  refine eqd_more ndd rfl (fun n hn => ?_) fun p hp => ?_
  · have := fin_same (names := names) (ats := ats) (names' := names ++ [s, t, u]) (ats' := ats ++ [(s, s), (t, u), (u, t)]) (fun x => x) (fun n hn => List.mem_append_left _ hn) (fun n hn m hm => ⟨(sub _ hm).1, List.mem_append_left _ hm⟩) (fun n hn m' hm' => by
      rcases mem' hm' with h | ⟨_, e⟩ | ⟨_, e⟩ | ⟨_, e⟩
      · exact ⟨m', (sub _ h).1, h, rfl⟩
      · exact absurd (e ▸ hn) hs
      · exact absurd (e ▸ hn) hu
      · exact absurd (e ▸ hn) ht) hn
    unfold lb
    rw [this]
  · have key : ∀ k, rd (names ++ [s, t, u]) (ats ++ [(s, s), (t, u), (u, t)]) k s = none ∧ rd (names ++ [s, t, u]) (ats ++ [(s, s), (t, u), (u, t)]) k t = none ∧ rd (names ++ [s, t, u]) (ats ++ [(s, s), (t, u), (u, t)]) k u = none := fun k => by
      induction k with
      | zero => exact ⟨rfl, rfl, rfl⟩
      | succ k ih =>
        obtain ⟨i1, i2, i3⟩ := ih
        have open_ : ∀ n b : Str, n ∈ names ++ [s, t, u] → rd (names ++ [s, t, u]) (ats ++ [(s, s), (t, u), (u, t)]) k n = none → rd (names ++ [s, t, u]) (ats ++ [(s, s), (t, u), (u, t)]) k b = none → (∀ m, (m, n) ∈ ats ++ [(s, s), (t, u), (u, t)] → m = b) → (b, n) ∈ ats ++ [(s, s), (t, u), (u, t)] → rd (names ++ [s, t, u]) (ats ++ [(s, s), (t, u), (u, t)]) (k + 1) n = none := fun n b hn e eb hall hb => by
          rw [rd_none e hn]
          unfold dec
          rw [hasA_not fun m hm => by rw [hall m hm, lab_none eb]; decide, hasA_iff.mpr ⟨b, hb, lab_none eb⟩]
          rfl
        refine ⟨open_ s s (by simp) i1 i1 (fun m hm => ?_) (by simp), open_ t u (by simp) i2 i3 (fun m hm => ?_) (by simp), open_ u t (by simp) i3 i2 (fun m hm => ?_) (by simp)⟩
        · rcases mem' hm with h | ⟨e, _⟩ | ⟨_, e⟩ | ⟨_, e⟩
          · exact absurd (sub _ h).2 hs
          · exact e
          · exact absurd e d1.2.1
          · exact absurd e d1.1
        · rcases mem' hm with h | ⟨_, e⟩ | ⟨_, e⟩ | ⟨e, _⟩
          · exact absurd (sub _ h).2 ht
          · exact absurd e.symm d1.1
          · exact absurd e d1.2.2
          · exact e
        · rcases mem' hm with h | ⟨_, e⟩ | ⟨e, _⟩ | ⟨_, e⟩
          · exact absurd (sub _ h).2 hu
          · exact absurd e.symm d1.2.1
          · exact e
          · exact absurd e.symm d1.2.2
    obtain ⟨K, hK, _⟩ := fin_rd (names ++ [s, t, u]) (ats ++ [(s, s), (t, u), (u, t)])
    have hl : ∀ n, rd (names ++ [s, t, u]) (ats ++ [(s, s), (t, u), (u, t)]) K n = none → (lb (fin (names ++ [s, t, u]) (ats ++ [(s, s), (t, u), (u, t)])) n).1 = .o := fun n e => by
      unfold lb
      rw [← hK K (Nat.le_refl K), e]; rfl
    simp only [List.mem_cons, List.not_mem_nil, or_false] at hp
    rcases hp with e | e | e
    · rw [e]; exact hl s (key K).1
    · rw [e]; exact hl t (key K).2.1
    · rw [e]; exact hl u (key K).2.2
/-- who is attacked by nobody stands -/
theorem free_stands {names : List Str} {ats : List At} {n : Str} (hn : n ∈ names) (h : ∀ m, (m, n) ∉ ats) : rd names ats 1 n = some (.s, 0) := by
  rw [rd_none rfl hn]
  unfold dec
  rw [hasA_not fun m hm => absurd hm (h m), hasA_not fun m hm => absurd hm (h m)]
  rfl
theorem lb_rd {names : List Str} {ats : List At} {n : Str} {k : Nat} {x : Lb} (h : rd names ats k n = some x) : lb (fin names ats) n = x := by
  obtain ⟨K, hK, _⟩ := fin_rd names ats
  unfold lb
  rw [← hK (max K k) (Nat.le_max_left ..) n, rd_mono h (Nat.le_max_right ..)]; rfl
theorem t6 (nd : names.Nodup) (sub : Inn names ats) (hn : n ∈ names) : look (labels (told names (ats.filter fun p => !decide (p.2 = n)))) n = some Lab.s := by
  rw [look_labels nd hn, lb_rd (free_stands hn fun m hm => ?_)]
  have := (List.mem_filter.mp hm).2
  rw [decide_eq_true rfl] at this
  cases this
theorem t4 (nd : names.Nodup) (sub : Inn names ats) {new stand : Str} (hn : new ∉ names) (hs : stand ∈ names) (hu : ∀ p ∈ ats, p.2 ≠ stand) {aims : List Str} (ha : ∀ a ∈ aims, a ∈ names ∧ a ≠ stand) :
    Eqd (labels (told (names ++ [new]) (ats ++ ([(stand, new)] ++ aims.map fun a => (new, a))))) (mergeD [] (labels (told names ats) ++ [(new, Lab.f)])) := by
  generalize hats : ats ++ ([(stand, new)] ++ aims.map fun a => (new, a)) = ats'
  generalize hnames : names ++ [new] = names'
  have mem' : ∀ {m n : Str}, (m, n) ∈ ats' → (m, n) ∈ ats ∨ (m = stand ∧ n = new) ∨ (m = new ∧ n ∈ aims) := fun {m n} h => by
    rw [← hats] at h
    rcases List.mem_append.mp h with h | h
    · exact .inl h
    · rcases List.mem_append.mp h with h | h
      · rw [List.mem_singleton] at h
        exact .inr (.inl ⟨congrArg Prod.fst h, congrArg Prod.snd h⟩)
      · obtain ⟨a, ha, e⟩ := List.mem_map.mp h
        have e1 : new = m := congrArg Prod.fst e
        have e2 : a = n := congrArg Prod.snd e
        exact .inr (.inr ⟨e1.symm, e2 ▸ ha⟩)
  have old : ∀ {m n : Str}, (m, n) ∈ ats → (m, n) ∈ ats' := fun h => by rw [← hats]; exact List.mem_append_left _ h
  have in' : ∀ {n : Str}, n ∈ names → n ∈ names' := fun h => by rw [← hnames]; exact List.mem_append_left _ h
  have new' : new ∈ names' := by rw [← hnames]; simp
  have sn : stand ≠ new := fun e => hn (e ▸ hs)
  -- the one that stands, the new one
  have s1 : rd names' ats' 1 stand = some (.s, 0) := free_stands (in' hs) fun m hm => by
    rcases mem' hm with h | ⟨_, e⟩ | ⟨_, e⟩
    · exact hu _ h rfl
    · exact sn e
    · exact (ha _ e).2 rfl
  obtain ⟨nf, n2, nl⟩ := next_falls (k := 1) new' (by rw [← hats]; simp : (stand, new) ∈ ats') s1 rfl
  have nw : ∀ k, rd names' ats' (k + 2) new = some nf := fun k => rd_mono n2 (by omega)
  -- what is settled stays so
  have back : ∀ k n x, n ∈ names → rd names' ats' k n = some x → ∃ y, rd names ats k n = some y ∧ y.1 = x.1 := fun k => by
    induction k with
    | zero => intro n x _ h; cases h
    | succ k ih =>
      intro n x hnn h
      rcases rd_step h with h | ⟨_, _, h⟩
      · obtain ⟨y, h1, h2⟩ := ih n x hnn h
        exact ⟨y, rd_some h1, h2⟩
      · rcases (dec_some h).2 with ⟨e, m, hm, hl⟩ | ⟨e, q⟩
        · obtain ⟨r, hr⟩ := lab_get hl (by decide)
          rcases mem' hm with h1 | ⟨_, e2⟩ | ⟨e2, _⟩
          · obtain ⟨y, g1, g2⟩ := ih m _ (sub _ h1).1 hr
            obtain ⟨z, z1, z2⟩ := next_falls hnn h1 g1 g2
            exact ⟨z, z1, z2.trans e.symm⟩
          · exact absurd (e2 ▸ hnn) hn
          · subst e2
            have := rd_uniq hr n2
            rw [← this] at nl
            cases nl
        · obtain ⟨z, z1, z2⟩ := next_stands (names := names) (ats := ats) (k := k) hnn fun m hm => by
            obtain ⟨r, hr⟩ := lab_get (q m (old hm)) (by decide)
            exact ih m _ (sub _ hm).1 hr
          exact ⟨z, z1, z2.trans e.symm⟩
  have forth : ∀ k n x, n ∈ names → rd names ats k n = some x → ∃ y, rd names' ats' (k + 2) n = some y ∧ y.1 = x.1 := fun k => by
    induction k with
    | zero => intro n x _ h; cases h
    | succ k ih =>
      intro n x hnn h
      rcases rd_step h with h | ⟨_, _, h⟩
      · obtain ⟨y, h1, h2⟩ := ih n x hnn h
        exact ⟨y, rd_some h1, h2⟩
      · rcases (dec_some h).2 with ⟨e, m, hm, hl⟩ | ⟨e, q⟩
        · obtain ⟨r, hr⟩ := lab_get hl (by decide)
          obtain ⟨y, g1, g2⟩ := ih m _ (sub _ hm).1 hr
          obtain ⟨z, z1, z2⟩ := next_falls (in' hnn) (old hm) g1 g2
          exact ⟨z, z1, z2.trans e.symm⟩
        · obtain ⟨z, z1, z2⟩ := next_stands (names := names') (ats := ats') (k := k + 2) (in' hnn) fun m hm => by
            rcases mem' hm with h1 | ⟨_, e2⟩ | ⟨e2, _⟩
            · obtain ⟨r, hr⟩ := lab_get (q m h1) (by decide)
              exact ih m _ (sub _ h1).1 hr
            · exact absurd (e2 ▸ hnn) hn
            · subst e2
              exact ⟨nf, nw k, nl⟩
          exact ⟨z, z1, z2.trans e.symm⟩
  subst hnames
  refine eqd_more (List.nodup_append.mpr ⟨nd, by simp, fun a ha b hb e => by rw [List.mem_singleton.mp hb] at e; exact hn (e ▸ ha)⟩) rfl (fun n hnn => ?_) fun p hp => ?_
  · obtain ⟨K, hK, _⟩ := fin_rd names ats
    obtain ⟨K', hK', _⟩ := fin_rd (names ++ [new]) ats'
    cases e : rd names ats K n with
    | some x =>
      obtain ⟨y, h1, h2⟩ := forth K n x hnn e
      rw [lb_rd e, lb_rd h1, h2]
    | none =>
      have e1 : (lb (fin names ats) n).1 = .o := by
        unfold lb
        rw [← hK K (Nat.le_refl K), e]; rfl
      rw [e1]
      unfold lb
      rw [← hK' K' (Nat.le_refl K')]
      cases e2 : rd (names ++ [new]) ats' K' n with
      | none => rfl
      | some x =>
        obtain ⟨y, h1, h2⟩ := back K' n x hnn e2
        have := rd_mono h1 (Nat.le_max_right K K')
        rw [hK _ (Nat.le_max_left K K') n, ← hK K (Nat.le_refl K), e] at this
        cases this
  · rw [List.mem_singleton.mp hp]
    show (lb _ new).1 = .f
    rw [lb_rd n2, nl]
end
end K80
end

/-! part K80h -/
section
set_option Elab.async false
set_option linter.all false
set_option maxRecDepth 100000
set_option maxHeartbeats 2000000
namespace K80
open PySem PySem.Spec PyProof.Rows L2 Fd
abbrev sLaw : Stmt := topS 12
abbrev nL : List Str := ["script", "state", "names", "attacks", "told", "k", "fresh", "name", "one", "two", "other", "entry", "beside", "more", "both", "labels", "pair", "standing", "stand", "aims", "aim", "new", "again", "alone", "opened", "free"]
theorem scL : FnScope nL ["script"] (defScope sLaw) := ⟨rfl, rfl, rfl, by decide +kernel, rfl, by decide +kernel, by decide +kernel⟩
abbrev XL (P : Program) (w : World) (K : PySem.W.Frag) (mg : Str → Option Value) (base : Heap) (f : Addr) (cdv : Value) (A : Around) (outer : List Env) (s : Shared) (H : Hp) (E : XK) : Cx := (cxOf CX0 P w K mg base nL "law" (defScope sLaw) f cdv A outer s H E).nox
abbrev eTrue : Post := { nx := fun _ => False, rt := fun _ r' => r' = dat (.bool true) }
def st (ns : List Int) (g : Gs) : En := .mu (mlsQ (fun _ => True) (gD ns g))
def nmE (names : List Str) : En := .im (dat (.list (names.map tS)))
def atE (ats : List At) : En := .im (dat (.list (ats.map tAt)))
/-- from the labels on -/
def rC (ns : List Int) (g : Gs) (names : List Str) (ats : List At) : List En := [.no, st ns g, nmE names, atE ats, .no, .no, .no, .no, .no, .no, .no, .no, .no, .no, .no, .im (dcu (eB (labels (told names ats)))), .no, .no, .no, .no, .no, .no, .no, .no, .no, .no]
/-- what the law calls -/
structure Calls (P : Program) (w : World) (K : PySem.W.Frag) (mg : Str → Option Value) (base : Heap) (k : Nat) : Prop where
  next : ∃ f fd, FnOk P w K mg base CX0 k f fd ["state", "limit"] (spM phiN K) ∧ mg "_law_next" = some (.ref f) ∧ PySem.W.keepIn K (.ref f) = true ∧ Binds K fd ["state", "limit"] []
  words : ∃ f fd, FnOk P w K mg base CX0 k f fd ["state", "count"] (spM phiW K) ∧ mg "_law_words_drawn" = some (.ref f) ∧ PySem.W.keepIn K (.ref f) = true ∧ Binds K fd ["state", "count"] []
  drawn : ∃ f fd, FnOk P w K mg base CX0 k f fd ["state", "names"] (spM phiD K) ∧ mg "_law_drawn" = some (.ref f) ∧ PySem.W.keepIn K (.ref f) = true ∧ Binds K fd ["state", "names"] []
  labels : ∃ f fd, FnOk P w K mg base CX0 k f fd ["told"] (spD phiB K) ∧ mg "_law_labels" = some (.ref f) ∧ PySem.W.keepIn K (.ref f) = true ∧ Binds K fd ["told"] []
  stands : ∃ f fd, FnOk P w K mg base CX0 k f fd ["names", "attacks"] (spD phiT K) ∧ mg "stands" = some (.ref f) ∧ PySem.W.keepIn K (.ref f) = true ∧ Binds K fd ["names", "attacks"] []
  judge : ∃ f fd, FnOk P w K mg base CX0 k f fd ["names", "attacks", "told"] (spD phiJ K) ∧ mg "judge_stands" = some (.ref f) ∧ PySem.W.keepIn K (.ref f) = true ∧ Binds K fd ["names", "attacks", "told"] []
  mlist : mg "list" = none
  mdict : mg "dict" = none
  mrange : mg "range" = none
  mlen : mg "len" = none
  msorted : mg "sorted" = none
  mstr : mg "str" = none
theorem told_len (names : List Str) (ats : List At) : (told names ats).length = names.length := by
  unfold told
  rw [List.length_map, (sorts_perm names).length_eq]
section
variable {P : Program} {w : World} {K : PySem.W.Frag} {mg : Str → Option Value} {base : Heap} {f : Addr} {k : Nat} {cdv : Value} {A : Around} {outer : List Env} {s : Shared} {H : Hp} {E : XK}
/-- labels of what stands, as the law asks for them -/
theorem ed_lab {X : Cx} (hk : X.K = X.K) {ρ : List En} {pos p p2 p3 : Pos} {names : List Str} {ats : List At} {eN eA : Expr} {fB fT : Addr} {fdB fdT : FuncData} (FB : FnOk X.prog X.w X.K X.mg X.base CX0 k fB fdB ["told"] (spD phiB X.K)) (FT : FnOk X.prog X.w X.K X.mg X.base CX0 k fT fdT ["names", "attacks"] (spD phiT X.K))
    (gB : X.mg "_law_labels" = some (.ref fB)) (kB : PySem.W.keepIn X.K (.ref fB) = true) (bB : Binds X.K fdB ["told"] []) (gT : X.mg "stands" = some (.ref fT)) (kT : PySem.W.keepIn X.K (.ref fT) = true) (bT : Binds X.K fdT ["names", "attacks"] []) (hr : Room k X.A)
    (hN : ED X eN ρ ρ (dat (.list (names.map tS)))) (hA : ED X eA ρ ρ (dat (.list (ats.map tAt)))) (hn : names.length < 60) (ha : ats.length < 60) (hg1 : Gl X "_law_labels") (hg2 : Gl X "stands")
    (he : starEach [.Call (.Name "stands" p) [eN, eA] [] p2] X.env = (false, eval (.Call (.Name "stands" p) [eN, eA] [] p2) X.env) :: starEach [] X.env) (he2 : starEach [eN, eA] X.env = (false, eval eN X.env) :: starEach [eA] X.env) (he3 : starEach [eA] X.env = (false, eval eA X.env) :: starEach [] X.env) (hpl : (backTo p2 (starEach [eA] X.env)).any (·.1) = false) :
    ED X (.Call (.Name "_law_labels" p3) [.Call (.Name "stands" p) [eN, eA] [] p2] [] pos) ρ ρ (dcu (eB (labels (told names ats)))) :=
  ed_call FB hr gB kB bB (ad_one (ed_call FT hr gT kT bT (ad_cons hN (ad_cons hA ad_nil he3) he2) ⟨names, ats, rfl, hn, ha, rfl⟩ hg2 (by decide) he2 hpl) he) ⟨told names ats, rfl, by rw [told_len]; omega, rfl⟩ hg1 (by decide) he
theorem strok_in {ls : Ls} : ∀ p ∈ eB ls, flatD p.2 = true := fun p hp => by
  obtain ⟨q, _, rfl⟩ := List.mem_map.mp hp
  rfl
theorem look_eB {ls : Ls} {n : Str} : look (eB ls) n = (look ls n).map fun l => tS l.str := look_map fun l : Lab => tS l.str
theorem eqd_same {a b : Ls} (h : Eqd a b) : (!((eB a).length == (eB b).length && sameD (eB a) (eB b))) = false := by
  have h1 : (eB a).length = (eB b).length := by unfold eB; rw [List.length_map, List.length_map, h.1]
  have h2 : sameD (eB a) (eB b) = true := sameD_yes (fun p hp => by
    obtain ⟨q, hq, rfl⟩ := List.mem_map.mp hp
    rw [look_eB, h.2 q hq]; rfl) fun p hp => by
    obtain ⟨q, _, rfl⟩ := List.mem_map.mp hp
    rw [eqv_tS]; exact decide_eq_true rfl
  rw [h2, h1, Bool.and_true, beq_self_eq_true]; rfl
theorem eB_app {a b : Ls} : mergeD [] (eB (a ++ b)) = eB (mergeD [] (a ++ b)) := merge_map (kvs := []) fun l : Lab => tS l.str
theorem filt_len {α : Type} (p : α → Bool) (xs : List α) : (xs.filter p).length ≤ xs.length := List.length_filter_le _ _
/-- the last part: what is open stands when nobody attacks it -/
theorem part_open (C : Calls P w K mg base k) (hr : Room k (A.deeper (envOfC "law" (defScope sLaw) s.heap.objs.size f cdv))) {ns : List Int} {g : Gs} {names : List Str} {ats : List At} (nd : names.Nodup) (sub : Inn names ats) (hn : names.length < 30) (ha : ats.length < 30) :
    SD (XL P w K mg base f cdv A outer s H E) ((defBody sLaw).drop 17) (rC ns g names ats) eTrue := by
  obtain ⟨fB, fdB, FB, gB, kB, bB⟩ := C.labels
  obtain ⟨fT, fdT, FT, gT, kT, bT⟩ := C.stands
  have hu := hr.units
  have hlk : ∀ n ∈ names, look (eB (labels (told names ats))) n = some (tS (lb (fin names ats) n).1.str) := fun n h => by rw [look_eB, look_labels nd h]; rfl
  refine sd_lcNI (own := [("name", 7)]) (j := 7) 24 names tS tS (fun n => decide ((lb (fin names ats) n).1.str = Lab.o.str)) (ed_var 2 rfl) (fun n h s' H' C cl fp => ?_) (fun n h _ s' H' C cl fp => ed_var 7 rfl) ?_ (blkOk_by (N := nL) (sc := defScope sLaw) (by decide +kernel)) scL.nd rfl (bg1 scL.nd) (by omega)
  · exact td_c (cd_eqS (ed_dgetE (u1 hu) (ed_as (ed_var 15 rfl) dcu_dct) (ed_var 7 rfl) (hlk n h)) ed_str)
  let op := names.filter fun n => decide ((lb (fin names ats) n).1.str = Lab.o.str)
  refine sd_forN 7 (op.take 2) tS (fun _ => (rC ns g names ats)) (ed_d (ed_takeL (n := 2) (ed_var 24 rfl)) (by rw [List.map_take])) (by repeat' first | exact True.intro | exact Or.inr rfl | exact Or.inl rfl | apply And.intro) (fun i n hi => ?_) (sd_retR ed_bl rfl) PassesOwn.never rfl scL.nd
  have hin : n ∈ names := (List.mem_filter.mp (List.mem_of_mem_take (List.mem_of_getElem? hi))).1
  refine sd_lcNI (own := [("pair", 16)]) (j := 16) 25 ats tAt tAt (fun p => !decide (p.2 = n)) (ed_var 3 rfl) (fun p h s' H' C cl fp => ?_) (fun p h _ s' H' C cl fp => ed_var 16 rfl) ?_ (blkOk_by (N := nL) (sc := defScope sLaw) (by decide +kernel)) scL.nd rfl (bg1 scL.nd) (by omega)
  · exact td_c (cd_neS (s := p.2) (t := n) (ed_ixT (i := 1) (ds := [tS p.1, tS p.2]) (ed_var 16 rfl) ed_int rfl) (ed_var 7 rfl))
  have hfl := filt_len (fun p : At => !decide (p.2 = n)) ats
  refine sd_ifP (td_eq (p' := false) (td_c (cd_neS (s := Lab.s.str) (t := Lab.s.str) (ed_dgetE (u1 hu) (ed_as (ed_lab (names := names) (ats := ats.filter fun p => !decide (p.2 = n)) rfl FB FT gB kB bB gT kT bT hr (ed_listL (ed_var 2 rfl) C.mlist) (ed_var 25 rfl) (by omega) (by omega) rfl rfl rfl rfl rfl rfl) dcu_dct) (ed_var 7 rfl) (by rw [look_eB, t6 nd sub hin]; rfl)) ed_str)) ?_) (fun z => by cases z) fun _ => sd_nil (sd_nil ?_)
  · rw [decide_eq_true rfl]; rfl
  · repeat' first | exact True.intro | exact Or.inr rfl | exact Or.inl rfl | apply And.intro
end
end K80
end

/-! part K80j -/
section
set_option Elab.async false
set_option linter.all false
set_option maxRecDepth 100000
set_option maxHeartbeats 2000000
namespace K80
open PySem PySem.Spec PyProof.Rows L2 Fd
theorem eqv_nil {β : Type} [DecidableEq β] (xs : List β) (enc : β → PyData) : PyData.eqv (.list (xs.map enc)) (.list []) = decide (xs = []) := by
  cases xs with
  | nil => rfl
  | cons x xs => rw [decide_eq_false (List.cons_ne_nil _ _)]; rfl
def cS : Str := "s"
def cT : Str := "t"
def cU : Str := "u"
def cNew : Str := "new"
section
variable {P : Program} {w : World} {K : PySem.W.Frag} {mg : Str → Option Value} {base : Heap} {f : Addr} {k : Nat} {cdv : Value} {A : Around} {outer : List Env} {s : Shared} {H : Hp} {E : XK}
theorem part_alone (C : Calls P w K mg base k) (hr : Room k (A.deeper (envOfC "law" (defScope sLaw) s.heap.objs.size f cdv))) {ns : List Int} {g : Gs} {names : List Str} {ats : List At} (nd : names.Nodup) (sub : Inn names ats) (hn : names.length < 30) (ha : ats.length < 30) (hst : ∀ n ∈ names, PyData.strOk n = true) :
    SD (XL P w K mg base f cdv A outer s H E) ((defBody sLaw).drop 15) (rC ns g names ats) eTrue := by
  obtain ⟨fB, fdB, FB, gB, kB, bB⟩ := C.labels
  obtain ⟨fT, fdT, FT, gT, kT, bT⟩ := C.stands
  have hu := hr.units
  have h3 : ([cS, cT, cU].filter fun n => decide (n ∈ names)).length ≤ 3 := List.length_filter_le _ _
  refine sd_setP (r := dcu (eB (labels (told (names ++ [cS, cT, cU]) (ats ++ [(cS, cS), (cT, cU), (cU, cT)]))))) 23 (ed_lab rfl FB FT gB kB bB gT kT bT hr (ed_d (ed_catL (ds := names.map tS) (es := [tS cS, tS cT, tS cU]) (ed_listL (ed_var 2 rfl) C.mlist) (ed_lst (dd_cons ed_str (dd_cons ed_str (dd_cons ed_str dd_nil)))) (by rw [List.length_map]; show _ + 3 ≤ _; omega)) (by rw [List.map_append]; rfl))
    (ed_d (ed_catL (ds := ats.map tAt) (es := [tAt (cS, cS), tAt (cT, cU), tAt (cU, cT)]) (ed_listL (ed_var 3 rfl) C.mlist) (ed_lst (dd_cons (ed_tup (dd_cons ed_str (dd_cons ed_str dd_nil))) (dd_cons (ed_tup (dd_cons ed_str (dd_cons ed_str dd_nil))) (dd_cons (ed_tup (dd_cons ed_str (dd_cons ed_str dd_nil))) dd_nil)))) (by rw [List.length_map]; show _ + 3 ≤ _; omega)) (by rw [List.map_append]; rfl)) (by rw [List.length_append]; show _ + 3 < _; omega) (by rw [List.length_append]; show _ + 3 < _; omega) rfl rfl rfl rfl rfl rfl) ?_ scL.nd
  refine sd_ifP (td_eq (p' := false) (td_w (wd_andB (td_c (cd_neDct (kvs := eB (labels (told (names ++ [cS, cT, cU]) (ats ++ [(cS, cS), (cT, cU), (cU, cT)])))) (kws := eB (mergeD [] (labels (told names ats) ++ [(cS, Lab.o), (cT, Lab.o), (cU, Lab.o)]))) (Nat.lt_of_le_of_lt (Nat.le_add_right _ _) hu) (ed_as (ed_var 23 rfl) dcu_dct)
    (ed_as (ed_eq (ed_dictU (ps := eB (labels (told names ats) ++ [(cS, Lab.o), (cT, Lab.o), (cU, Lab.o)])) (ed_d (ed_catL (ds := (eB (labels (told names ats))).map Fd.prD) (es := [.tuple [tS cS, tS Lab.o.str], .tuple [tS cT, tS Lab.o.str], .tuple [tS cU, tS Lab.o.str]]) (ed_itemsU 15 rfl rfl C.mlist) (ed_lst (dd_cons (ed_tup (dd_cons ed_str (dd_cons ed_str dd_nil))) (dd_cons (ed_tup (dd_cons ed_str (dd_cons ed_str dd_nil))) (dd_cons (ed_tup (dd_cons ed_str (dd_cons ed_str dd_nil))) dd_nil)))) ?_) (by unfold eB; rw [List.map_append, List.map_append]; rfl)) rfl C.mdict) (by rw [eB_app]) rfl) dcu_dct) strok_in strok_in))
    fun _ => wd_and1 (td_c (cd_eqD hu (ed_lcNI (own := [("name", 7)]) (j := 7) [cS, cT, cU] tS tS (fun n => decide (n ∈ names)) (ed_lst (dd_cons ed_str (dd_cons ed_str (dd_cons ed_str dd_nil)))) (fun n h s' H' C cl fp => ?_) (fun n h _ s' H' C cl fp => ed_var 7 rfl) (blkOk_by (N := nL) (sc := defScope sLaw) (by decide +kernel)) scL.nd rfl (bg1 scL.nd) (by decide)) (ed_lst dd_nil) (Sh.list (n := 0) (Sh.map fun x hx => Sh.str ?_)).shaped (by decide))))) ?_) (fun z => by cases z) fun _ => sd_nil ?_
  · have hll : (labels (told names ats)).length ≤ names.length := by
      have h1 : ∀ n ∈ (labels (told names ats)).map (·.1), n ∈ names := fun n hn => labels_keys (look_mem.mpr hn)
      have h2 : ((labels (told names ats)).map (·.1)).Nodup := nodup_merge List.nodup_nil
      have := List.Nodup.length_le_of_subset h2 h1
      rwa [List.length_map] at this
    rw [List.length_map]
    unfold eB
    rw [List.length_map]
    show _ + 3 ≤ _
    omega
  · exact td_eq (td_c (cd_inL (ed_var 7 rfl) (ed_var 2 rfl) rfl (flat_map _ _ fun _ => rfl))) (any_tS names n)
  · have hx := (List.mem_filter.mp hx).1
    rcases List.mem_cons.mp hx with e | hx
    · rw [e]; decide +kernel
    rcases List.mem_cons.mp hx with e | hx
    · rw [e]; decide +kernel
    rcases List.mem_cons.mp hx with e | hx
    · rw [e]; decide +kernel
    · cases hx
  · rw [eqv_nil]
    by_cases hc : cS ∉ names ∧ cT ∉ names ∧ cU ∉ names
    · rw [eqd_same (t5 nd sub hc.1 hc.2.1 hc.2.2 (by decide +kernel))]; rfl
    · rw [Bool.and_eq_false_iff]
      refine .inr (decide_eq_false fun z => hc ?_)
      rw [List.filter_eq_nil_iff] at z
      have z' : ∀ a ∈ [cS, cT, cU], a ∉ names := fun a ha hm => z a ha (decide_eq_true hm)
      exact ⟨z' cS (by simp), z' cT (by simp), z' cU (by simp)⟩
  · exact sd_wk (by repeat' first | exact True.intro | exact Or.inr rfl | exact Or.inl rfl | apply And.intro) (part_open C hr nd sub hn ha)
end
end K80
end

/-! part K80k -/
section
set_option Elab.async false
set_option linter.all false
set_option maxRecDepth 100000
set_option maxHeartbeats 2000000
namespace K80
open PySem PySem.Spec PyProof.Rows L2 Fd
def rS (ns : List Int) (g : Gs) (names : List Str) (ats : List At) (e17 e18 e20 : En) : List En := [.no, st ns g, nmE names, atE ats, .no, .no, .no, .no, .no, .no, .no, .no, .no, .no, .no, .im (dcu (eB (labels (told names ats)))), .no, e17, e18, .no, e20, .no, .no, .no, .no, .no]
def stdL (names : List Str) (ats : List At) : List Str := names.filter fun n => decide ((ats.filter fun p => decide (p.2 = n)) = [])
def aSt (ns : List Int) (l : Int) (g : Gs) : Nat → Gs
  | 0 => g
  | n + 1 => nextG ns l (aSt ns l g n)
theorem pick_mem {names : List Str} {v : Int} (h0 : 0 ≤ v) (h1 : v < names.length) : pick names v ∈ names := by
  unfold pick
  have hl : v.toNat < names.length := by omega
  rw [List.getD_eq_getElem?_getD, List.getElem?_eq_getElem hl]
  exact List.getElem_mem hl
/-- the scope of the comprehension over names whose test has one of its own -/
def scN1 : Scope := { kind := .function, names := [(".0", .local), ("name", .cell), ("attacks", .free)], isGenerator := false, isCoroutine := false, more := [] }
section
variable {P : Program} {w : World} {K : PySem.W.Frag} {mg : Str → Option Value} {base : Heap} {f : Addr} {k : Nat} {cdv : Value} {A : Around} {outer : List Env} {s : Shared} {H : Hp} {E : XK}
theorem part_standing (C : Calls P w K mg base k) (hr : Room k (A.deeper (envOfC "law" (defScope sLaw) s.heap.objs.size f cdv))) {ns : List Int} {g : Gs} {names : List Str} {ats : List At} (nd : names.Nodup) (sub : Inn names ats) (hn : names.length < 30) (ha : ats.length < 30) (hst : ∀ n ∈ names, PyData.strOk n = true) (hnew : cNew ∉ names) (hpos : 0 < names.length) :
    SD (XL P w K mg base f cdv A outer s H E) ((defBody sLaw).drop 13) (rC ns g names ats) eTrue := by
  obtain ⟨fB, fdB, FB, gB, kB, bB⟩ := C.labels
  obtain ⟨fT, fdT, FT, gT, kT, bT⟩ := C.stands
  obtain ⟨fN, fdN, FN, gN, kN, bN⟩ := C.next
  have hu := hr.units
  have hsh : SeqAt.shaped (.list []) = true := by decide
  let std := stdL names ats
  have hsl : std.length ≤ names.length := List.length_filter_le _ _
  refine sd_lcNI (own := [("name", 7)]) (j := 7) 17 names tS tS (fun n => decide ((ats.filter fun p => decide (p.2 = n)) = [])) (ed_var 2 rfl) (fun n h s' H' Cc cl fp => ?_) (fun n h _ s' H' Cc cl fp => ed_var 7 rfl) ?_ (blkOk_by (N := nL) (sc := defScope sLaw) (by decide +kernel)) scL.nd rfl (bg1 scL.nd) (by omega)
  · refine td_eq (td_c (cd_eqD hu (ed_lcNI (own := [("pair", 16)]) (j := 16) ats tAt tAt (fun p => decide (p.2 = n)) (ed_var 3 rfl) (fun p hp s2 H2 C2 cl2 fp2 => td_c (cd_eqS (s := p.2) (t := n) (ed_ixT (i := 1) (ds := [tS p.1, tS p.2]) (ed_var 16 rfl) ed_int rfl) (ed_var 7 rfl))) (fun p hp _ s2 H2 C2 cl2 fp2 => ed_var 16 rfl) (blkOk_by (N := nL) (sc := relS scN1 (defScope sLaw)) (by decide +kernel)) scL.nd rfl (bg1 scL.nd) (by omega)) (ed_lst dd_nil) (Sh.list (n := 1) (Sh.map fun p hp => Sh.tuple (n := 0) fun d hd => ?_)).shaped hsh)) (eqv_nil _ tAt)
    have hp := sub p (List.mem_filter.mp hp).1
    rcases List.mem_cons.mp hd with e | hd
    · rw [e]; exact Sh.str (hst _ hp.1)
    rcases List.mem_cons.mp hd with e | hd
    · rw [e]; exact Sh.str (hst _ hp.2)
    · cases hd
  refine sd_wk (ρ' := rS ns g names ats (.im (dat (.list (std.map tS)))) .no .no) (by repeat' first | exact True.intro | exact Or.inr rfl | exact Or.inl rfl | apply And.intro) ?_
  refine sd_ifP (q := !decide (std = [])) (td_eq (td_c (cd_neD hu (ed_var 17 rfl) (ed_lst dd_nil) (Sh.list (n := 0) (Sh.map fun x hx => Sh.str (hst x (List.mem_filter.mp hx).1))).shaped hsh)) (by rw [eqv_nil])) (fun hc => ?_) fun hc => sd_nil (sd_wk (by repeat' first | exact True.intro | exact Or.inr rfl | exact Or.inl rfl | apply And.intro) (part_alone C hr nd sub hn ha hst))
  have hne : std ≠ [] := fun z => by rw [z] at hc; cases hc
  have hsp : 0 < std.length := List.length_pos_iff.mpr hne
  let l : Int := std.length
  have hl : (0 : Int) < l ∧ l < 1073741824 := by show (0 : Int) < (std.length : Int) ∧ (std.length : Int) < _; omega
  let ln : Int := names.length
  have hln : (0 : Int) < ln ∧ ln < 1073741824 := by show (0 : Int) < (names.length : Int) ∧ (names.length : Int) < _; omega
  obtain ⟨q1, q2⟩ := nextV_range ns g hl.1
  let stand := pick std (nextV ns l g)
  have hsm : stand ∈ std := pick_mem q1 q2
  have hsn : stand ∈ names := (List.mem_filter.mp hsm).1
  have hsu : ∀ p ∈ ats, p.2 ≠ stand := fun p hp e => by
    have := of_decide_eq_true (List.mem_filter.mp hsm).2
    rw [List.filter_eq_nil_iff] at this
    exact this p hp (decide_eq_true e)
  let g1 := nextG ns l g
  refine sd_set (ρ1 := rS ns g1 names ats (.im (dat (.list (std.map tS)))) .no .no) (r := dat (tS stand)) 18 (ed_ixL (ds := std.map tS) (ρ1 := rS ns g names ats (.im (dat (.list (std.map tS)))) .no .no) (ed_var 17 rfl) (ed_callM (ds := gD ns g) (ds' := gD ns g1) (rs := [dat (.int l)]) (ρ1 := rS ns g names ats (.im (dat (.list (std.map tS)))) .no .no) (r := dat (.int (nextV ns l g))) 1 FN hr gN kN bN rfl (ad_one (ed_d (ed_lenL (ed_var 17 rfl) C.mlen) (by rw [List.length_map]))) rfl ⟨ns, g, l, rfl, rfl, hl.1, hl.2, rfl, rfl⟩) (pick_at q1 q2)) ?_ scL.nd
  obtain ⟨q3, q4⟩ := nextV_range ns g1 (lim := 3) (by decide)
  let g2 := nextG ns 3 g1
  let e17 : En := .im (dat (.list (std.map tS)))
  let e18 : En := .im (dat (tS stand))
  let aV : Nat → Str := fun i => pick names (nextV ns ln (aSt ns ln g2 i))
  refine sd_lcR (own := [("k", 5)]) (j := 5) 19 (fun i => rS ns (aSt ns ln g2 i) names ats e17 e18 .no) (fun i => (rS ns (aSt ns ln g2 (i + 1)) names ats e17 e18 .no).set 5 (.im (dat (.int i)))) (fun i => tS (aV i)) (nextV ns 3 g1).toNat ?_ (fun i hi s' H' Cc cl fp => ?_) (fun i hi => ?_) ?_ (blkOk_by (N := nL) (sc := defScope sLaw) (by decide +kernel)) scL.nd rfl (bg1 scL.nd) (by omega) C.mrange
  · refine ed_d (ed_callM (ds := gD ns g1) (ds' := gD ns g2) (rs := [dat (.int 3)]) (ρ := rS ns g1 names ats e17 e18 .no) (ρ1 := rS ns g1 names ats e17 e18 .no) (r := dat (.int (nextV ns 3 g1))) 1 FN hr gN kN bN rfl (ad_one ed_int) rfl ⟨ns, g1, 3, rfl, rfl, by decide, by decide, rfl, rfl⟩) ?_
    rw [Int.toNat_of_nonneg q3]
  · obtain ⟨q5, q6⟩ := nextV_range ns (aSt ns ln g2 i) hln.1
    exact ed_ixL (ds := names.map tS) (ρ1 := (rS ns (aSt ns ln g2 i) names ats e17 e18 .no).set 5 (.im (dat (.int i)))) (ed_var 2 rfl) (ed_callM (ds := gD ns (aSt ns ln g2 i)) (ds' := gD ns (aSt ns ln g2 (i + 1))) (rs := [dat (.int ln)]) (ρ1 := (rS ns (aSt ns ln g2 i) names ats e17 e18 .no).set 5 (.im (dat (.int i)))) (r := dat (.int (nextV ns ln (aSt ns ln g2 i)))) 1 FN hr gN kN bN rfl (ad_one (ed_d (ed_lenL (ed_var 2 rfl) C.mlen) (by rw [List.length_map]))) rfl ⟨ns, _, ln, rfl, rfl, hln.1, hln.2, rfl, rfl⟩) (pick_at q5 q6)
  · repeat' first | exact True.intro | exact Or.inr rfl | exact Or.inl rfl | apply And.intro
  let aims := (List.range (nextV ns 3 g1).toNat).map aV
  have hal : aims.length = (nextV ns 3 g1).toNat := by rw [List.length_map, List.length_range]
  let good := aims.filter fun a => !decide (a = stand)
  have hgl : good.length ≤ aims.length := List.length_filter_le _ _
  have hgood : ∀ a ∈ good, a ∈ names ∧ a ≠ stand := fun a h => by
    obtain ⟨h1, h2⟩ := List.mem_filter.mp h
    obtain ⟨i, _, rfl⟩ := List.mem_map.mp h1
    obtain ⟨q5, q6⟩ := nextV_range ns (aSt ns ln g2 i) hln.1
    refine ⟨pick_mem q5 q6, fun e => ?_⟩
    rw [e, decide_eq_true rfl] at h2
    cases h2
  let nw : List At := [(stand, cNew)] ++ good.map fun a => (cNew, a)
  have hnw : nw.length ≤ 5 := by
    show ([(stand, cNew)] ++ _ : List At).length ≤ 5
    rw [List.length_append, List.length_map]
    show 1 + _ ≤ 5
    omega
  refine sd_setP (r := dat (.list (nw.map tAt))) 21 (ed_d (ed_catL (ds := [tAt (stand, cNew)]) (es := good.map fun a => tAt (cNew, a)) (ed_lst (dd_cons (ed_tup (dd_cons (ed_var 18 rfl) (dd_cons ed_str dd_nil)) (Nat.le_of_ble_eq_true rfl)) dd_nil) (Nat.le_of_ble_eq_true rfl)) (ed_lcNI (own := [("aim", 20)]) (j := 20) aims tS (fun a => tAt (cNew, a)) (fun a => !decide (a = stand)) (ed_d (ed_var 19 rfl) (by rw [List.map_map]; rfl)) (fun a h s' H' Cc cl fp => td_c (cd_neS (s := a) (t := stand) (ed_var 20 rfl) (ed_var 18 rfl))) (fun a h _ s' H' Cc cl fp => ed_tup (dd_cons ed_str (dd_cons (ed_var 20 rfl) dd_nil)) (Nat.le_of_ble_eq_true rfl)) (blkOk_by (N := nL) (sc := defScope sLaw) (by decide +kernel)) scL.nd rfl (bg1 scL.nd) (by omega)) (by rw [List.length_map]; show 1 + _ ≤ _; omega)) (by
      show PyData.list _ = PyData.list (([(stand, cNew)] ++ good.map fun a => (cNew, a)).map tAt)
      rw [List.map_append, List.map_map]; rfl)) ?_ scL.nd
  refine sd_setP (r := dcu (eB (labels (told (names ++ [cNew]) (ats ++ nw))))) 22 (ed_lab rfl FB FT gB kB bB gT kT bT hr (ed_d (ed_catL (ds := names.map tS) (es := [tS cNew]) (ed_listL (ed_var 2 rfl) C.mlist) (ed_lst (dd_cons ed_str dd_nil)) (by rw [List.length_map]; show _ + 1 ≤ _; omega)) (by rw [List.map_append]; rfl))
    (ed_d (ed_catL (ds := ats.map tAt) (es := nw.map tAt) (ed_listL (ed_var 3 rfl) C.mlist) (ed_var 21 rfl) (by rw [List.length_map, List.length_map]; omega)) (congrArg PyData.list List.map_append.symm)) (by rw [List.length_append]; show _ + 1 < _; omega) (by rw [List.length_append]; omega) rfl rfl rfl rfl rfl rfl) ?_ scL.nd
  refine sd_ifP (td_eq (p' := false) (td_c (cd_neDct (kvs := eB (labels (told (names ++ [cNew]) (ats ++ nw)))) (kws := eB (mergeD [] (labels (told names ats) ++ [(cNew, Lab.f)]))) (Nat.lt_of_le_of_lt (Nat.le_add_right _ _) hu) (ed_as (ed_var 22 rfl) dcu_dct)
    (ed_as (ed_eq (ed_dictU (ps := eB (labels (told names ats) ++ [(cNew, Lab.f)])) (ed_d (ed_catL (ds := (eB (labels (told names ats))).map Fd.prD) (es := [.tuple [tS cNew, tS Lab.f.str]]) (ed_itemsU 15 rfl rfl C.mlist) (ed_lst (dd_cons (ed_tup (dd_cons ed_str (dd_cons ed_str dd_nil))) dd_nil)) ?_) (by unfold eB; rw [List.map_append, List.map_append]; rfl)) rfl C.mdict) (by rw [eB_app]) rfl) dcu_dct) strok_in strok_in)) (eqd_same (t4 nd sub hnew hsn hsu hgood))) (fun z => by cases z) fun _ => sd_nil (sd_nil (sd_wk (by repeat' first | exact True.intro | exact Or.inr rfl | exact Or.inl rfl | apply And.intro) (part_alone C hr nd sub hn ha hst)))
  have hll : (labels (told names ats)).length ≤ names.length := by
    have h1 : ∀ n ∈ (labels (told names ats)).map (·.1), n ∈ names := fun n hn => labels_keys (look_mem.mpr hn)
    have h2 : ((labels (told names ats)).map (·.1)).Nodup := nodup_merge List.nodup_nil
    have := List.Nodup.length_le_of_subset h2 h1
    rwa [List.length_map] at this
  rw [List.length_map]
  unfold eB
  rw [List.length_map]
  show _ + 1 ≤ _
  omega
end
end K80
end

/-! part K80l -/
section
set_option Elab.async false
set_option linter.all false
set_option maxRecDepth 100000
/-! The drawn words: apart, and of one shape. -/
namespace K80
open PySem Fd
theorem fw_notin : ∀ (m : Nat) (found : List Str) (w : Str), longer found w < m → fw m found w ∉ found
  | 0, _, _, h => absurd h (Nat.not_lt_zero _)
  | m + 1, found, w, h => by
    unfold fw
    by_cases hw : w ∈ found
    · rw [if_pos hw]
      have := longer_lt hw
      exact fw_notin m found _ (by omega)
    · rw [if_neg hw]; exact hw
/-- the second sign is none of digits, none of e -/
def GoodW (x : Str) : Prop := PyData.strOk x = true ∧ 0 < x.cps.toList.length ∧ ∀ c, x.cps.toList[1]? = some c → c ∈ [95, 120, 98, 121]
theorem cps_list (a b : Str) : (a ++ b).cps.toList = a.cps.toList ++ b.cps.toList := by
  rw [show (a ++ b).cps = a.cps ++ b.cps from rfl, Array.toList_append]
theorem strOk_app {a b : Str} (h : PyData.strOk a = true) (k : PyData.strOk b = true) : PyData.strOk (a ++ b) = true := by
  unfold PyData.strOk at h k ⊢
  rw [show (a ++ b).cps = a.cps ++ b.cps from rfl, Array.all_append, h, k]; rfl
theorem good_y {w : Str} (h : GoodW w) : GoodW (w ++ ("y" : Str)) := by
  obtain ⟨h1, h2, h3⟩ := h
  refine ⟨strOk_app h1 (by decide +kernel), by rw [cps_list, List.length_append]; omega, fun c hc => ?_⟩
  rw [cps_list] at hc
  have hy : (("y" : Str)).cps.toList = [121] := by decide +kernel
  rw [hy] at hc
  by_cases hl : 1 < w.cps.toList.length
  · rw [List.getElem?_append_left hl] at hc
    exact h3 c hc
  · rw [List.getElem?_append_right (by omega)] at hc
    have e : w.cps.toList.length = 1 := by omega
    rw [e] at hc
    have hc : some 121 = some c := hc
    cases hc
    decide
theorem good_fw : ∀ (m : Nat) (found : List Str) (w : Str), GoodW w → GoodW (fw m found w)
  | 0, _, _, h => h
  | m + 1, found, w, h => by
    unfold fw
    split
    · exact good_fw m found _ (good_y h)
    · exact h
theorem alph_ok (i : Nat) : alph.cps.toList.getD i 0 < 0x110000 := by
  have h : ∀ c ∈ alph.cps.toList, c < 0x110000 := by decide +kernel
  rw [List.getD_eq_getElem?_getD]
  cases e : alph.cps.toList[i]? with
  | none => decide
  | some c => exact h c (List.mem_of_getElem? e)
theorem good_word (ns : List Int) (g : Gs) : GoodW (wordV ns g) := by
  unfold wordV
  have suf : ∀ i : Nat, PyData.strOk (sufs.getD i "") = true ∧ ∀ c, (sufs.getD i "").cps.toList[0]? = some c → c ∈ [95, 120, 98, 121] := fun i => by
    match i with
    | 0 => exact ⟨by decide +kernel, fun c h => by cases h⟩
    | 1 => exact ⟨by decide +kernel, fun c h => by
        have h : some 95 = some c := h
        cases h; decide⟩
    | 2 => exact ⟨by decide +kernel, fun c h => by
        have h : some 120 = some c := h
        cases h; decide⟩
    | 3 => exact ⟨by decide +kernel, fun c h => by
        have h : some 98 = some c := h
        cases h; decide⟩
    | n + 4 => exact ⟨(by decide +kernel : PyData.strOk ("" : Str) = true), fun c h => by cases h⟩
  obtain ⟨s1, s2⟩ := suf (nextV ns 4 (nextG ns 26 g)).toNat
  refine ⟨strOk_app ?_ s1, by rw [cps_list, List.length_append]; show 0 < 1 + _; omega, fun c hc => ?_⟩
  · have := alph_ok (nextV ns 26 g).toNat
    generalize alph.cps.toList.getD (nextV ns 26 g).toNat 0 = c at this ⊢
    unfold PyData.strOk
    simpa using this
  · rw [cps_list] at hc
    exact s2 c hc
theorem words_ok (ns : List Int) (g : Gs) : ∀ n, (wSt ns g n).2.Nodup ∧ ∀ w ∈ (wSt ns g n).2, GoodW w
  | 0 => ⟨List.nodup_nil, fun w h => by cases h⟩
  | n + 1 => by
    obtain ⟨h1, h2⟩ := words_ok ns g n
    show ((wSt ns g n).2 ++ [_]).Nodup ∧ ∀ w ∈ (wSt ns g n).2 ++ [_], GoodW w
    have hn := fw_notin ((wSt ns g n).2.length + 1) (wSt ns g n).2 (wordV ns (wSt ns g n).1) (Nat.lt_succ_of_le (List.length_filter_le _ _))
    refine ⟨List.nodup_append.mpr ⟨h1, by simp, fun a ha b hb e => ?_⟩, fun w hw => ?_⟩
    · rw [List.mem_singleton.mp hb] at e
      exact hn (by rw [← e]; exact ha)
    · rcases List.mem_append.mp hw with h | h
      · exact h2 w h
      · rw [List.mem_singleton.mp h]
        exact good_fw _ _ _ (good_word ns _)
theorem good_not {x : Str} {c : Nat} (h : x.cps.toList[1]? = some c) (k : c ∉ [95, 120, 98, 121]) : ¬ GoodW x := fun g => k (g.2.2 c h)
/-- other names -/
def zN (i : Nat) : Str := ("z" : Str) ++ (toString (9 - (i : Int)) : Str)
def qN (i : Nat) : Str := ("q" : Str) ++ (toString (i : Int) : Str)
theorem zN_ok : ∀ i, i < 8 → PyData.strOk (zN i) = true := by decide +kernel
theorem zN_inj : ∀ i, i < 8 → ∀ j, j < 8 → zN i = zN j → i = j := by decide +kernel
theorem qN_ok : ∀ i, i < 4 → PyData.strOk (qN i) = true := by decide +kernel
theorem qN_inj : ∀ i, i < 4 → ∀ j, j < 4 → qN i = qN j → i = j := by decide +kernel
theorem qN_bad (i : Nat) (h : i < 4) : ¬ GoodW (qN i) := by
  match i, h with
  | 0, _ => exact good_not (c := 48) (by decide +kernel) (by decide)
  | 1, _ => exact good_not (c := 49) (by decide +kernel) (by decide)
  | 2, _ => exact good_not (c := 50) (by decide +kernel) (by decide)
  | 3, _ => exact good_not (c := 51) (by decide +kernel) (by decide)
theorem new_bad : ¬ GoodW ("new" : Str) := good_not (c := 101) (by decide +kernel) (by decide)
end K80
end

/-! part K80o -/
section
set_option Elab.async false
set_option linter.all false
set_option maxRecDepth 100000
set_option maxHeartbeats 2000000
namespace K80
open PySem PySem.Spec PyProof.Rows L2 Fd
def rB (ns : List Int) (g : Gs) (names : List Str) (ats : List At) : List En := [.no, st ns g, nmE names, atE ats, .im (dat (.tuple ((told names ats).map tE))), .no, .no, .no, .no, .no, .no, .no, .no, .no, .no, .no, .no, .no, .no, .no, .no, .no, .no, .no, .no, .no]
theorem eqv_tE (x y : Str × Lb) : PyData.eqv (tE x) (tE y) = decide (x = y) := by
  show (PyData.eqv (tS x.1) (tS y.1) && (PyData.eqv (tS x.2.1.str) (tS y.2.1.str) && ((x.2.2 == y.2.2) && true))) = _
  rw [eqv_tS, Lab.eqv]
  obtain ⟨a, b, c⟩ := x
  obtain ⟨a', b', c'⟩ := y
  by_cases h1 : a = a' <;> by_cases h2 : b = b' <;> by_cases h3 : c = c' <;> simp [h1, h2, h3]
theorem sh_tE {p : Str × Lb} (h : PyData.strOk p.1 = true) : Sh 1 (tE p) := Sh.tuple (n := 0) fun d hd => by
  rcases List.mem_cons.mp hd with e | hd
  · rw [e]; exact Sh.str h
  rcases List.mem_cons.mp hd with e | hd
  · rw [e]
    refine Sh.str ?_
    cases p.2.1 <;> decide +kernel
  rcases List.mem_cons.mp hd with e | hd
  · rw [e]; exact Sh.int
  · cases hd
section
variable {X : Cx} {ρ ρ1 : List En} {e : Expr} {pos p : Pos} {bs : List (Str × Lb)}
theorem ed_sortE (h : ED X e ρ ρ1 (dat (.list (bs.map tE)))) (hz : bs.length ≤ 1000) (hu : X.A.units + 64 < cLine) (hm : X.mg "sorted" = none) (hg : Gl X "sorted" := by rfl) (he : starEach [e] X.env = (false, eval e X.env) :: starEach [] X.env := by rfl) : ED X (.Call (.Name "sorted" p) [e] [] pos) ρ ρ1 (dat (.list ((bs.mergeSort (PySem.W.dataLe false tE)).map tE))) :=
  ed_sortD tE h (PySem.W.AllAlike.of fun b b' => rfl) (PySem.W.Sortable.tuples fun b => ⟨_, _, rfl⟩) hz (fun b _ => by
    show X.A.units + 2 + 1 < cLine
    omega) hm hg he
end
section
variable {P : Program} {w : World} {K : PySem.W.Frag} {mg : Str → Option Value} {base : Heap} {f : Addr} {k : Nat} {cdv : Value} {A : Around} {outer : List Env} {s : Shared} {H : Hp} {E : XK}
theorem part_told (C : Calls P w K mg base k) (hr : Room k (A.deeper (envOfC "law" (defScope sLaw) s.heap.objs.size f cdv))) {ns : List Int} {g : Gs} {names : List Str} {ats : List At} (nd : names.Nodup) (sub : Inn names ats) (hn : names.length < 30) (ha : ats.length < 30) (hst : ∀ n ∈ names, PyData.strOk n = true) (hnew : cNew ∉ names) (hpos : 0 < names.length) :
    SD (XL P w K mg base f cdv A outer s H E) ((defBody sLaw).drop 12) (rB ns g names ats) eTrue := by
  obtain ⟨fB, fdB, FB, gB, kB, bB⟩ := C.labels
  refine sd_setP (r := dcu (eB (labels (told names ats)))) 15 (ed_call FB hr gB kB bB (ad_one (ed_var 4 rfl)) ⟨told names ats, rfl, by rw [told_len]; omega, rfl⟩) ?_ scL.nd
  exact sd_wk (by repeat' first | exact True.intro | exact Or.inr rfl | exact Or.inl rfl | apply And.intro) (part_standing C hr nd sub hn ha hst hnew hpos)
theorem told_strok {names : List Str} {ats : List At} (h : ∀ n ∈ names, PyData.strOk n = true) : ∀ p ∈ told names ats, PyData.strOk p.1 = true := fun p hp => by
  obtain ⟨n, hn, rfl⟩ := List.mem_map.mp hp
  exact h n ((sorts_perm names).mem_iff.mp hn)
theorem drawn_in (ns : List Int) (names : List Str) (g : Gs) (h : 0 < names.length) : Inn names (drawn ns names g) := fun p hp => by
  obtain ⟨i, _, rfl⟩ := List.mem_map.mp hp
  have hl : (0 : Int) < (names.length : Int) := by omega
  obtain ⟨q1, q2⟩ := nextV_range ns (dSt ns names.length (nextG ns 9 g) i) hl
  obtain ⟨q3, q4⟩ := nextV_range ns (nextG ns names.length (dSt ns names.length (nextG ns 9 g) i)) hl
  exact ⟨pick_mem q1 q2, pick_mem q3 q4⟩
theorem drawn_len (ns : List Int) (names : List Str) (g : Gs) : (drawn ns names g).length < 9 := by
  unfold drawn
  rw [List.length_map, List.length_range]
  obtain ⟨q1, q2⟩ := nextV_range ns g (lim := 9) (by decide)
  omega
theorem part_beside (C : Calls P w K mg base k) (hr : Room k (A.deeper (envOfC "law" (defScope sLaw) s.heap.objs.size f cdv))) {ns : List Int} {g : Gs} {names : List Str} {ats : List At} (nd : names.Nodup) (sub : Inn names ats) (hn : names.length < 20) (ha : ats.length < 20) (hgw : ∀ n ∈ names, GoodW n) (hpos : 0 < names.length) :
    SD (XL P w K mg base f cdv A outer s H E) ((defBody sLaw).drop 8) (rB ns g names ats) eTrue := by
  obtain ⟨fT, fdT, FT, gT, kT, bT⟩ := C.stands
  obtain ⟨fN, fdN, FN, gN, kN, bN⟩ := C.next
  obtain ⟨fD, fdD, FD, gD_, kD, bD⟩ := C.drawn
  have hu := hr.units
  have hst : ∀ n ∈ names, PyData.strOk n = true := fun n h => (hgw n h).1
  obtain ⟨q1, q2⟩ := nextV_range ns g (lim := 3) (by decide)
  let g1 := nextG ns 3 g
  let m : Nat := (1 + nextV ns 3 g).toNat
  have hm : ((m : Nat) : Int) = 1 + nextV ns 3 g := Int.toNat_of_nonneg (by omega)
  have hm3 : m < 4 := by omega
  have hm0 : 0 < m := by omega
  refine sd_lcR (own := [("k", 5)]) (j := 5) 12 (fun i => rB ns g1 names ats) (fun i => (rB ns g1 names ats).set 5 (.im (dat (.int i)))) (fun i => tS (qN i)) m (ed_d (ed_add (i := 1) (ρ1 := rB ns g names ats) ed_int (ed_callM (ds := gD ns g) (ds' := gD ns g1) (rs := [dat (.int 3)]) (ρ1 := rB ns g names ats) (r := dat (.int (nextV ns 3 g))) 1 FN hr gN kN bN rfl (ad_one ed_int) rfl ⟨ns, g, 3, rfl, rfl, by decide, by decide, rfl, rfl⟩)) (by rw [hm])) (fun i hi s' H' Cc cl fp => ?_) (fun i hi => ?_) ?_ (blkOk_by (N := nL) (sc := defScope sLaw) (by decide +kernel)) scL.nd rfl (bg1 scL.nd) (by omega) C.mrange
  · have hq : ∀ i : Nat, i < 4 → (toString (i : Int) : Str).length ≤ 10 ∧ ((i : Int)).natAbs.log2 < 1920 := by decide +kernel
    refine ed_cat (s := "q") (t := (toString (i : Int) : Str)) ed_str (ed_strI (ed_var 5 rfl) (hq i (by omega)).2 C.mstr) ?_
    have := (hq i (by omega)).1
    exact Nat.le_of_lt (small1000 (by rw [show ("q" : Str).length = 1 from rfl]; omega))
  · repeat' first | exact True.intro | exact Or.inr rfl | exact Or.inl rfl | apply And.intro
  let bes : List Str := (List.range m).map qN
  have hbl : bes.length = m := by rw [List.length_map, List.length_range]
  have hbq : ∀ b ∈ bes, ∃ i, i < 4 ∧ b = qN i := fun b hb => by
    obtain ⟨i, hi, rfl⟩ := List.mem_map.mp hb
    exact ⟨i, by have := List.mem_range.mp hi; omega, rfl⟩
  have hbn : bes.Nodup := by
    refine List.pairwise_map.mpr ?_
    refine List.Pairwise.imp_of_mem ?_ List.nodup_range
    intro a b ha' hb' hab e
    exact hab (qN_inj a (by have := List.mem_range.mp ha'; omega) b (by have := List.mem_range.mp hb'; omega) e)
  have hbst : ∀ n ∈ bes, PyData.strOk n = true := fun n h => by
    obtain ⟨i, hi, rfl⟩ := hbq n h
    exact qN_ok i hi
  have hnd : (names ++ bes).Nodup := List.nodup_append.mpr ⟨nd, hbn, fun a ha' b hb' e => by
    obtain ⟨i, hi, rfl⟩ := hbq b hb'
    exact qN_bad i hi (by rw [← e]; exact hgw a ha')⟩
  let e12 : En := .im (dat (.list (bes.map tS)))
  let more := drawn ns bes g1
  let g2 := drawnG ns bes g1
  refine sd_wk (ρ' := (rB ns g1 names ats).set 12 e12) (by
    rw [show (PyData.list ((List.range m).map fun i => tS (qN i))) = .list (bes.map tS) from congrArg PyData.list (by rw [List.map_map]; rfl)]
    exact Wk.refl) ?_
  refine sd_set (ρ1 := (rB ns g2 names ats).set 12 e12) (r := dat (.list (more.map tAt))) 13 (ed_callM (ds := gD ns g1) (ds' := gD ns g2) (rs := [dat (.list (bes.map tS))]) (ρ1 := (rB ns g1 names ats).set 12 e12) 1 FD hr gD_ kD bD rfl (ad_one (ed_var 12 rfl)) rfl ⟨ns, g1, bes, rfl, rfl, by omega, by omega, rfl, rfl⟩) ?_ scL.nd
  have hml : more.length < 9 := drawn_len ns bes g1
  have hin := drawn_in ns bes g1 (by omega)
  refine sd_setP (r := dat (.tuple ((told (names ++ bes) (ats ++ more)).map tE))) 14 (ed_call FT hr gT kT bT (ad_cons (ed_d (ed_catL (ds := names.map tS) (es := bes.map tS) (ed_listL (ed_var 2 rfl) C.mlist) (ed_var 12 rfl) (by rw [List.length_map, List.length_map]; omega)) (congrArg PyData.list List.map_append.symm)) (ad_cons (ed_d (ed_catL (ds := ats.map tAt) (es := more.map tAt) (ed_listL (ed_var 3 rfl) C.mlist) (ed_var 13 rfl) (by rw [List.length_map, List.length_map]; omega)) (congrArg PyData.list List.map_append.symm)) ad_nil)) ⟨names ++ bes, ats ++ more, rfl, by rw [List.length_append]; omega, by rw [List.length_append]; omega, rfl⟩) ?_ scL.nd
  have hl1 := told_len names ats
  have hl2 := told_len bes more
  have hsort := t3 (more := bes) (ats2 := more) hnd sub hin
  refine sd_ifP (td_eq (p' := false) (td_c (cd_neD hu (ed_sortE (bs := told names ats ++ told bes more) (ed_d (ed_catL (ds := (told names ats).map tE) (es := (told bes more).map tE) (ed_listT (ed_var 4 rfl) C.mlist) (ed_listT (ed_call FT hr gT kT bT (ad_cons (ed_listL (ed_var 12 rfl) C.mlist) (ad_cons (ed_listL (ed_var 13 rfl) C.mlist) ad_nil)) ⟨bes, more, rfl, by omega, by omega, rfl⟩) C.mlist) (by rw [List.length_map, List.length_map]; omega)) (congrArg PyData.list List.map_append.symm)) (by rw [List.length_append]; omega) hu C.msorted) (ed_listT (ed_var 14 rfl) C.mlist) ?_ ?_)) ?_) (fun z => by cases z) fun _ => sd_nil ?_
  · rw [hsort]
    exact (Sh.list (n := 1) (Sh.map fun p hp => sh_tE (told_strok (fun n h => (List.mem_append.mp h).elim (hst n) (hbst n)) p hp))).shaped
  · exact (Sh.list (n := 1) (Sh.map fun p hp => sh_tE (told_strok (fun n h => (List.mem_append.mp h).elim (hst n) (hbst n)) p hp))).shaped
  · rw [hsort, eqv_list eqv_tE, decide_eq_true rfl]; rfl
  · exact sd_wk (by repeat' first | exact True.intro | exact Or.inr rfl | exact Or.inl rfl | apply And.intro) (part_told C hr nd sub (by omega) (by omega) hst (fun z => new_bad (hgw _ z)) hpos)
end
end K80
end

/-! part K80p -/
section
set_option Elab.async false
set_option linter.all false
set_option maxRecDepth 100000
set_option maxHeartbeats 2000000
namespace K80
open PySem PySem.Spec PyProof.Rows L2 Fd
def frs (names : List Str) : List (Str × Str) := (List.range names.length).map fun (i : Nat) => (pick names (i : Int), zN i)
def fr (names : List Str) (x : Str) : Str := (look (frs names) x).getD ""
def eX (kvs : List (Str × Str)) : List (Str × PyData) := kvs.map fun p => (p.1, tS p.2)
theorem frs_keys (names : List Str) : (frs names).map (·.1) = names := by
  unfold frs
  rw [List.map_map]
  refine List.ext_getElem (by rw [List.length_map, List.length_range]) fun i h1 h2 => ?_
  rw [List.getElem_map, List.getElem_range]
  show pick names (i : Int) = _
  unfold pick
  rw [Int.toNat_natCast, List.getD_eq_getElem?_getD, List.getElem?_eq_getElem h2]; rfl
theorem fr_at {names : List Str} (nd : names.Nodup) {x : Str} (hx : x ∈ names) : ∃ i, i < names.length ∧ x = pick names (i : Int) ∧ fr names x = zN i ∧ look (eX (frs names)) x = some (tS (fr names x)) := by
  have hk := hx
  rw [← frs_keys names] at hk
  obtain ⟨p, hp, e⟩ := List.mem_map.mp hk
  have hl : look (frs names) x = some p.2 := by
    rw [← e]
    exact look_in (by rw [frs_keys]; exact nd) hp
  obtain ⟨i, hi, rfl⟩ := List.mem_map.mp hp
  have hf : fr names x = zN i := by unfold fr; rw [hl]; rfl
  refine ⟨i, List.mem_range.mp hi, e.symm, hf, ?_⟩
  unfold eX
  rw [look_map (fun z : Str => tS z), hl, hf]; rfl
theorem fr_inj {names : List Str} (nd : names.Nodup) (hn : names.length < 8) : ∀ a ∈ names, ∀ b ∈ names, fr names a = fr names b → a = b := fun a ha b hb e => by
  obtain ⟨i, hi, ea, fa, _⟩ := fr_at nd ha
  obtain ⟨j, hj, eb, fb, _⟩ := fr_at nd hb
  rw [fa, fb] at e
  rw [ea, eb, zN_inj i (by omega) j (by omega) e]
section
variable {P : Program} {w : World} {K : PySem.W.Frag} {mg : Str → Option Value} {base : Heap} {f : Addr} {k : Nat} {cdv : Value} {A : Around} {outer : List Env} {s : Shared} {H : Hp} {E : XK}
theorem part_fresh (C : Calls P w K mg base k) (hr : Room k (A.deeper (envOfC "law" (defScope sLaw) s.heap.objs.size f cdv))) {ns : List Int} {g : Gs} {names : List Str} {ats : List At} (nd : names.Nodup) (sub : Inn names ats) (hn : names.length < 8) (ha : ats.length < 20) (hgw : ∀ n ∈ names, GoodW n) (hpos : 0 < names.length) :
    SD (XL P w K mg base f cdv A outer s H E) ((defBody sLaw).drop 5) (rB ns g names ats) eTrue := by
  obtain ⟨fT, fdT, FT, gT, kT, bT⟩ := C.stands
  have hu := hr.units
  have hst : ∀ n ∈ names, PyData.strOk n = true := fun n h => (hgw n h).1
  have hlk : ∀ x ∈ names, look (eX (frs names)) x = some (tS (fr names x)) := fun x h => (fr_at nd h).elim fun i q => q.2.2.2
  have hzst : ∀ x ∈ names.map (fr names), PyData.strOk x = true := fun x h => by
    obtain ⟨y, hy, rfl⟩ := List.mem_map.mp h
    obtain ⟨i, hi, _, e, _⟩ := fr_at nd hy
    rw [e]; exact zN_ok i (by omega)
  have hz : ∀ i : Nat, i < 8 → (toString (9 - (i : Int)) : Str).length ≤ 10 ∧ (9 - (i : Int)).natAbs.log2 < 1920 := by decide +kernel
  refine sd_setP (r := dcu (eX (frs names))) 6 (ed_eq (ed_dictU (ps := eX (frs names)) (ed_d (ed_lcR (own := [("k", 5)]) (j := 5) (fun _ => rB ns g names ats) (fun i => (rB ns g names ats).set 5 (.im (dat (.int i)))) (fun i => .tuple [tS (pick names (i : Int)), tS (zN i)]) names.length (ed_d (ed_lenL (ed_var 2 rfl) C.mlen) (by rw [List.length_map])) (fun i hi s' H' Cc cl fp => ?_) (fun i hi => ?_) (blkOk_by (N := nL) (sc := defScope sLaw) (by decide +kernel)) scL.nd rfl (bg1 scL.nd) (by omega) C.mrange) ?_) rfl C.mdict) ?_ rfl) ?_ scL.nd
  · have h10 := (hz i (by omega)).1
    refine ed_tup (dd_cons (ed_ixL (ds := names.map tS) (i := (i : Int)) (ed_var 2 rfl) (ed_var 5 rfl) (pick_at (by omega) (by omega))) (dd_cons (ed_cat (s := "z") (t := (toString (9 - (i : Int)) : Str)) ed_str (ed_strI (ed_sub ed_int (ed_var 5 rfl)) (hz i (by omega)).2 C.mstr) ?_) dd_nil)) (Nat.le_of_ble_eq_true rfl)
    exact Nat.le_of_lt (small1000 (by rw [show ("z" : Str).length = 1 from rfl]; omega))
  · repeat' first | exact True.intro | exact Or.inr rfl | exact Or.inl rfl | apply And.intro
  · unfold eX frs
    rw [List.map_map, List.map_map]; rfl
  · rw [merge_self]
    unfold eX
    rw [map_fst (fun z : Str => tS z), frs_keys]; exact nd
  let nam2 := names.map (fr names)
  let ats2 := ats.map fun p => (fr names p.1, fr names p.2)
  have h2l : nam2.length = names.length := List.length_map ..
  have h2a : ats2.length = ats.length := List.length_map ..
  refine sd_setP (r := dat (.tuple ((told nam2 ats2).map tE))) 10 (ed_call FT hr gT kT bT (ad_cons (ed_d (ed_lcN (own := [("name", 7)]) (j := 7) names tS (fun n => tS (fr names n)) (ed_var 2 rfl) (fun n h s' H' Cc cl fp => ed_dgetE (u1 hu) (ed_as (ed_var 6 rfl) dcu_dct) (ed_var 7 rfl) (hlk n h)) (blkOk_by (N := nL) (sc := defScope sLaw) (by decide +kernel)) scL.nd rfl (bg1 scL.nd) (by omega)) (congrArg PyData.list (by
      show _ = (names.map (fr names)).map tS
      rw [List.map_map]; rfl))) (ad_cons (ed_d (ed_lcP (own := [("one", 8), ("two", 9)]) [8, 9] ats (fun p => [tS p.1, tS p.2]) (fun p => tAt (fr names p.1, fr names p.2)) (ed_var 3 rfl) (fun p h s' H' Cc cl fp => ?_) (blkOk_by (N := nL) (sc := defScope sLaw) (by decide +kernel)) scL.nd rfl (bg2 scL.nd rfl) (by omega)) (congrArg PyData.list (by
      show _ = (ats.map fun p => (fr names p.1, fr names p.2)).map tAt
      rw [List.map_map]; rfl))) ad_nil)) ⟨nam2, ats2, rfl, by omega, by omega, rfl⟩) ?_ scL.nd
  · exact ed_tup (dd_cons (ed_dgetE (u1 hu) (ed_as (ed_var 6 rfl) dcu_dct) (ed_var 8 rfl) (hlk _ (sub p h).1)) (dd_cons (ed_dgetE (u1 hu) (ed_as (ed_var 6 rfl) dcu_dct) (ed_var 9 rfl) (hlk _ (sub p h).2)) dd_nil)) (Nat.le_of_ble_eq_true rfl)
  have hl1 := told_len names ats
  have hsort := t2 nd sub (fr names) (fr_inj nd hn)
  have hin : ∀ p ∈ told names ats, p.1 ∈ names := fun p hp => by
    obtain ⟨n, hn, rfl⟩ := List.mem_map.mp hp
    exact (sorts_perm names).mem_iff.mp hn
  refine sd_ifP (td_eq (p' := false) (td_c (cd_neD hu (ed_sortE (bs := (told names ats).map fun p => (fr names p.1, p.2)) (ed_d (ed_lcTN (own := [("entry", 11)]) (j := 11) (told names ats) tE (fun p => tE (fr names p.1, p.2)) (ed_var 4 rfl) (fun p hp s' H' Cc cl fp => ?_) (blkOk_by (N := nL) (sc := defScope sLaw) (by decide +kernel)) scL.nd rfl (bg1 scL.nd) (by omega)) (congrArg PyData.list (by rw [List.map_map]; rfl))) (by rw [List.length_map]; omega) hu C.msorted) (ed_listT (ed_var 10 rfl) C.mlist) ?_ ?_)) ?_) (fun z => by cases z) fun _ => sd_nil ?_
  · exact ed_catT (ds := [tS (fr names p.1)]) (es := [tS p.2.1.str, .int p.2.2]) (ed_tup (dd_cons (ed_dgetE (u1 hu) (ed_as (ed_var 6 rfl) dcu_dct) (ed_ixT (i := 0) (ds := [tS p.1, tS p.2.1.str, .int p.2.2]) (ed_var 11 rfl) ed_int rfl) (hlk _ (hin p hp))) dd_nil) (Nat.le_of_ble_eq_true rfl)) (ed_dropT (n := 1) (ds := [tS p.1, tS p.2.1.str, .int p.2.2]) (ed_var 11 rfl) (by decide) (Nat.le_of_ble_eq_true rfl)) (Nat.le_of_ble_eq_true rfl) (by simp) (by simp)
  · rw [hsort]
    exact (Sh.list (n := 1) (Sh.map fun p hp => sh_tE (told_strok hzst p hp))).shaped
  · exact (Sh.list (n := 1) (Sh.map fun p hp => sh_tE (told_strok hzst p hp))).shaped
  · rw [hsort, eqv_list eqv_tE, decide_eq_true rfl]; rfl
  · exact sd_wk (by repeat' first | exact True.intro | exact Or.inr rfl | exact Or.inl rfl | apply And.intro) (part_beside C hr nd sub (by omega) (by omega) hgw hpos)
def phiLaw (rs : List Im) (r : Im) : Prop := ∃ ns : List Int, rs = [dat (.list (ns.map .int))] ∧ r = dat (.bool true)
theorem ok_law {fd : FuncData} (Fn : L2.Fun K "law" "law" sLaw f fd) (C : Calls P w K mg base k) : FnOk P w K mg base CX0 (k + 1) f fd ["script"] (spD phiLaw K) := by
  refine fn_D Fn scL (fun rs r ⟨_, h, _⟩ => by rw [h]; rfl) fun cdv A outer s H E hr rs r ⟨ns, h, e⟩ => ?_
  subst h e
  obtain ⟨fT, fdT, FT, gT, kT, bT⟩ := C.stands
  obtain ⟨fN, fdN, FN, gN, kN, bN⟩ := C.next
  obtain ⟨fD, fdD, FD, gD_, kD, bD⟩ := C.drawn
  obtain ⟨fW, fdW, FW, gW, kW, bW⟩ := C.words
  obtain ⟨fJ, fdJ, FJ, gJ, kJ, bJ⟩ := C.judge
  have hu := hr.units
  let g0 : Gs := ⟨0, 0, 1⟩
  let g1 := nextG ns 6 g0
  obtain ⟨q1, q2⟩ := nextV_range ns g0 (lim := 6) (by decide)
  let m : Nat := (2 + nextV ns 6 g0).toNat
  have hm : ((m : Nat) : Int) = 2 + nextV ns 6 g0 := Int.toNat_of_nonneg (by omega)
  have hm8 : m < 8 := by omega
  let names := (wSt ns g1 m).2
  let g2 := (wSt ns g1 m).1
  have hl : names.length = m := wSt_len ns g1 m
  obtain ⟨nd, hgw⟩ := words_ok ns g1 m
  have hst : ∀ n ∈ names, PyData.strOk n = true := fun n h => (hgw n h).1
  let ats := drawn ns names g2
  let g3 := drawnG ns names g2
  have hal : ats.length < 9 := drawn_len ns names g2
  have hpos : 0 < names.length := by omega
  have sub : Inn names ats := drawn_in ns names g2 hpos
  let r1 : Gs → List En := fun g => (rB ns g names ats).set 4 .no
  let rA : Gs → List En := fun g => [.no, st ns g, .no, .no, .no, .no, .no, .no, .no, .no, .no, .no, .no, .no, .no, .no, .no, .no, .no, .no, .no, .no, .no, .no, .no, .no]
  refine sd_newLs (ds := gD ns g0) 1 (dd_cons (ed_listL (ed_var 0 rfl) C.mlist) (dd_cons ed_int (dd_cons ed_int (dd_cons ed_int dd_nil)))) (Nat.le_of_ble_eq_true rfl) ?_ scL.nd
  refine sd_wk (ρ' := rA g0) (by repeat' first | exact True.intro | exact Or.inr rfl | exact Or.inl rfl | apply And.intro) ?_
  refine sd_set (ρ1 := rA g2) (r := dat (.list (names.map tS))) 2 (ed_callM (ds0 := gD ns g0) (ds := gD ns g1) (ds' := gD ns g2) (rs := [dat (.int m)]) (ρ1 := rA g1) 1 FW hr gW kW bW rfl (ad_one (ed_d (ed_add (i := 2) (ρ1 := rA g0) ed_int (ed_callM (ds := gD ns g0) (ds' := gD ns g1) (rs := [dat (.int 6)]) (ρ1 := rA g0) (r := dat (.int (nextV ns 6 g0))) 1 FN hr gN kN bN rfl (ad_one ed_int) rfl ⟨ns, g0, 6, rfl, rfl, by decide, by decide, rfl, rfl⟩)) (by rw [hm]))) rfl ⟨ns, g1, m, rfl, rfl, by omega, rfl, rfl⟩) ?_ scL.nd
  refine sd_set (ρ1 := (rA g3).set 2 (nmE names)) (r := dat (.list (ats.map tAt))) 3 (ed_callM (ds := gD ns g2) (ds' := gD ns g3) (rs := [dat (.list (names.map tS))]) (ρ1 := (rA g2).set 2 (nmE names)) 1 FD hr gD_ kD bD rfl (ad_one (ed_var 2 rfl)) rfl ⟨ns, g2, names, rfl, rfl, hpos, by omega, rfl, rfl⟩) ?_ scL.nd
  refine sd_setP (r := dat (.tuple ((told names ats).map tE))) 4 (ed_call FT hr gT kT bT (ad_cons (ed_listL (ed_var 2 rfl) C.mlist) (ad_cons (ed_listL (ed_var 3 rfl) C.mlist) ad_nil)) ⟨names, ats, rfl, by omega, by omega, rfl⟩) ?_ scL.nd
  refine sd_wk (ρ' := rB ns g3 names ats) (by repeat' first | exact True.intro | exact Or.inr rfl | exact Or.inl rfl | apply And.intro) ?_
  have hmap : (told names ats).map (·.1) = sorts names := by
    unfold told
    rw [List.map_map]
    exact List.map_id' _
  refine sd_ifP (td_eq (p' := false) (td_c (cd_isntB (q := judge ats (told names ats)) (q' := true) (ed_call FJ hr gJ kJ bJ (ad_cons (ed_listL (ed_var 2 rfl) C.mlist) (ad_cons (ed_listL (ed_var 3 rfl) C.mlist) (ad_cons (ed_var 4 rfl) ad_nil))) ⟨names, ats, told names ats, rfl, by omega, by omega, hst, hmap, nd, fun p hp => (sub p hp).1, rfl⟩) ed_bl)) ?_) (fun z => by cases z) fun _ => sd_nil ?_
  · rw [t1 nd sub]; rfl
  · exact part_fresh C hr nd sub (by omega) (by omega) hgw hpos
end
end K80
end

/-! part K80z -/
section
set_option Elab.async false
set_option linter.all false
set_option maxRecDepth 100000
set_option maxHeartbeats 0
namespace K80
open PySem PySem.Spec PyProof.Rows L2 Fd
theorem fun_of {K : PySem.W.Frag} {x qual : Str} {st : Stmt} {f : Addr} {fd : FuncData} (F : FunD K x qual (defArgs st) (defBody st) (defScope st) [] [] f fd) : L2.Fun K x qual st f fd := by
  obtain ⟨oc, od, dV, kV, doc, pm, an, cdv, ct, osl, e, lk, hcd, d1, d2⟩ := F.ex
  rcases d1 with ⟨_, rfl⟩ | ⟨z, _⟩
  · exact ⟨⟨oc, od, kV, doc, pm, an, cdv, ct, osl, e, lk, hcd⟩, F.kp⟩
  · exact absurd rfl z
def dd (x : Str) (st : Stmt) : He.DefD := ⟨(x, none), x, x, defArgs st, defBody st, defScope st, [], []⟩
def fn : List He.DefD := [dd "attackers" sAttackers, dd "stands" sStands, dd "judge_stands" sJudge, dd "is_settled" sSettled, dd "_law_next" sNext, dd "_law_words_drawn" sWords, dd "_law_drawn" sDrawn, dd "_law_labels" sLabels, dd "law" sLaw]
def fa : List He.Fa := [.glo "attackers", .glo "stands", .glo "judge_stands", .glo "is_settled", .glo "_law_next", .glo "_law_words_drawn", .glo "_law_drawn", .glo "_law_labels", .glo "law", .glo "LABELS",
  .free "set", .free "sorted", .free "isinstance", .free "tuple", .free "int", .free "bool", .free "len", .free "range", .free "dict", .free "list", .free "str"]
def exL (K : PySem.W.Frag) : Bool := He.tupB K "LABELS" [.str "stands", .str "falls", .str "open"]
abbrev R : PySem.W.OpenRow := PySem.W.OpenLaw.row PySem.Challenge.rw_loregreat_k80_whole_notes_that_attack_ap
abbrev hk : PySem.W.Hook := He.hookX 4 fa fn [] [] exL
def ob (s : PySem.W.SharedT) : He.AlX := He.obsX 4 fa fn [] [] exL (HandSHeadRun.getT s)
theorem ob_eq (s : PySem.W.SharedT) : ob s = hk.obs s.abs := He.obsX_eq (HandSHeadRun.getT_eq s)
abbrev loose : List Str := ["LABELS", "attackers", "stands", "judge_stands", "is_settled", "_law_next", "_law_same", "_law_words_drawn", "_law_drawn", "_law_labels"]
theorem run (w : World) : HandSHeadRun.RunEq R (PySem.W.view R.prog [12]) hk ob 1000 loose w := by
  intro os
  kernel_rfl
section
variable {P : Program} {w : World} {K : PySem.W.Frag} {h : Heap} {mg : Str → Option Value} {f : Addr}
theorem facts (X : K.In h) (G : h.Ns mainGlobals mg) (hfa : mg ("law" : Str) = some (.ref f)) (c0 : He.SaysX fa fn [] [] exL w h K) :
    ∃ fd : FuncData, (∀ (s : Shared) (v : Value), BindsTo s fd ⟨[v], []⟩ [("script", v)]) ∧ ∀ base : Heap, K.In base → base.Ns mainGlobals mg → FnOk P w K mg base CX0 3 f fd ["script"] (spD phiLaw K) := by
  have c := c0.t.d
  obtain ⟨fA, DA⟩ := c.def_ 0 (d := dd "attackers" sAttackers) rfl
  obtain ⟨fT, DT⟩ := c.def_ 1 (d := dd "stands" sStands) rfl
  obtain ⟨fJ, DJ⟩ := c.def_ 2 (d := dd "judge_stands" sJudge) rfl
  obtain ⟨fS, DS⟩ := c.def_ 3 (d := dd "is_settled" sSettled) rfl
  obtain ⟨fN, DN⟩ := c.def_ 4 (d := dd "_law_next" sNext) rfl
  obtain ⟨fW, DW⟩ := c.def_ 5 (d := dd "_law_words_drawn" sWords) rfl
  obtain ⟨fD, DD⟩ := c.def_ 6 (d := dd "_law_drawn" sDrawn) rfl
  obtain ⟨fB, DB⟩ := c.def_ 7 (d := dd "_law_labels" sLabels) rfl
  obtain ⟨fL, DL⟩ := c.def_ 8 (d := dd "law" sLaw) rfl
  have gA := He.glo_ok X G (c.fact 0 (f := .glo "attackers") rfl)
  have gT := He.glo_ok X G (c.fact 1 (f := .glo "stands") rfl)
  have gJ := He.glo_ok X G (c.fact 2 (f := .glo "judge_stands") rfl)
  have gS := He.glo_ok X G (c.fact 3 (f := .glo "is_settled") rfl)
  have gN := He.glo_ok X G (c.fact 4 (f := .glo "_law_next") rfl)
  have gW := He.glo_ok X G (c.fact 5 (f := .glo "_law_words_drawn") rfl)
  have gD := He.glo_ok X G (c.fact 6 (f := .glo "_law_drawn") rfl)
  have gB := He.glo_ok X G (c.fact 7 (f := .glo "_law_labels") rfl)
  have gL := He.glo_ok X G (c.fact 8 (f := .glo "law") rfl)
  have gLab := He.glo_ok X G (c.fact 9 (f := .glo "LABELS") rfl)
  have m0 := He.free_ok X G (c.fact 10 (f := .free "set") rfl)
  have m1 := He.free_ok X G (c.fact 11 (f := .free "sorted") rfl)
  have m2 := He.free_ok X G (c.fact 12 (f := .free "isinstance") rfl)
  have m3 := He.free_ok X G (c.fact 13 (f := .free "tuple") rfl)
  have m4 := He.free_ok X G (c.fact 14 (f := .free "int") rfl)
  have m5 := He.free_ok X G (c.fact 15 (f := .free "bool") rfl)
  have m6 := He.free_ok X G (c.fact 16 (f := .free "len") rfl)
  have m7 := He.free_ok X G (c.fact 17 (f := .free "range") rfl)
  have m8 := He.free_ok X G (c.fact 18 (f := .free "dict") rfl)
  have m9 := He.free_ok X G (c.fact 19 (f := .free "list") rfl)
  have m10 := He.free_ok X G (c.fact 20 (f := .free "str") rfl)
  have hL : HasL K mg := ⟨_, .ref (He.ga K "LABELS"), gLab, rfl, fun H => .tup (He.tupB_ok c0.more H) (.cons (.str _) (.cons (.str _) (.cons (.str _) .nil)))⟩
  have A := fun_of (x := "attackers") (qual := "attackers") (st := sAttackers) DA
  have T := fun_of (x := "stands") (qual := "stands") (st := sStands) DT
  have J := fun_of (x := "judge_stands") (qual := "judge_stands") (st := sJudge) DJ
  have S := fun_of (x := "is_settled") (qual := "is_settled") (st := sSettled) DS
  have N := fun_of (x := "_law_next") (qual := "_law_next") (st := sNext) DN
  have W := fun_of (x := "_law_words_drawn") (qual := "_law_words_drawn") (st := sWords) DW
  have D := fun_of (x := "_law_drawn") (qual := "_law_drawn") (st := sDrawn) DD
  have B := fun_of (x := "_law_labels") (qual := "_law_labels") (st := sLabels) DB
  have L := fun_of (x := "law") (qual := "law") (st := sLaw) DL
  have bA : Binds K fA ["attacks", "name"] [] := A.binds fun _ _ _ _ _ _ us hl => match us, hl with | [_, _], _ => rfl
  have bT : Binds K fT ["names", "attacks"] [] := T.binds fun _ _ _ _ _ _ us hl => match us, hl with | [_, _], _ => rfl
  have bJ : Binds K fJ ["names", "attacks", "told"] [] := J.binds fun _ _ _ _ _ _ us hl => match us, hl with | [_, _, _], _ => rfl
  have bS : Binds K fS ["known", "others", "told"] [] := S.binds fun _ _ _ _ _ _ us hl => match us, hl with | [_, _, _], _ => rfl
  have bN : Binds K fN ["state", "limit"] [] := N.binds fun _ _ _ _ _ _ us hl => match us, hl with | [_, _], _ => rfl
  have bW : Binds K fW ["state", "count"] [] := W.binds fun _ _ _ _ _ _ us hl => match us, hl with | [_, _], _ => rfl
  have bD : Binds K fD ["state", "names"] [] := D.binds fun _ _ _ _ _ _ us hl => match us, hl with | [_, _], _ => rfl
  have bB : Binds K fB ["told"] [] := B.binds fun _ _ _ _ _ _ us hl => match us, hl with | [_], _ => rfl
  have e := hfa.symm.trans gL
  cases e
  have b := FunD.bindsA (ps := ["script"]) DL fun _ _ _ _ _ _ us hl => match us, hl with | [_], _ => rfl
  refine ⟨fL, fun s v => b s [v] rfl, fun base _ _ => ?_⟩
  have OA : FnOk P w K mg base CX0 1 _ fA ["attacks", "name"] (spD phiA K) := ok_attackers A m0 m1
  have OS : FnOk P w K mg base CX0 1 _ fS ["known", "others", "told"] (spD phiS K) := ok_settled S
  have OT : FnOk P w K mg base CX0 2 _ fT ["names", "attacks"] (spD phiT K) := ok_stands T OA gA A.kp bA m3 m1 m6
  have OJ : FnOk P w K mg base CX0 2 _ fJ ["names", "attacks", "told"] (spD phiJ K) := ok_judge J OA OS gA gS A.kp S.kp bA bS hL m2 m3 m1 m4 m5 m6
  have ON : FnOk P w K mg base CX0 1 _ fN ["state", "limit"] (spM phiN K) := ok_next N m6 m4
  have OW : FnOk P w K mg base CX0 2 _ fW ["state", "count"] (spM phiW K) := ok_words W ON gN N.kp bN m7
  have OD : FnOk P w K mg base CX0 2 _ fD ["state", "names"] (spM phiD K) := ok_drawn D ON gN N.kp bN m7 m6
  have OB : FnOk P w K mg base CX0 1 _ fB ["told"] (spD phiB K) := ok_labels B m8
  exact ok_law L ⟨⟨_, _, ON.mono (by decide), gN, N.kp, bN⟩, ⟨_, _, OW, gW, W.kp, bW⟩, ⟨_, _, OD, gD, D.kp, bD⟩, ⟨_, _, OB.mono (by decide), gB, B.kp, bB⟩, ⟨_, _, OT, gT, T.kp, bT⟩, ⟨_, _, OJ, gJ, J.kp, bJ⟩, m9, m8, m7, m6, m1, m10⟩
end
end K80
open PySem PySem.W PySem.Calls PyProof.Rows
theorem PySem.Challenge.cw_loregreat_k80_whole_notes_that_attack_ap_holds : PySem.Challenge.rw_loregreat_k80_whole_notes_that_attack_ap.Holds := by
  w_on; o_law
  refine HandSHeadRun.head_any (r := OpenLaw.row PySem.Challenge.rw_loregreat_k80_whole_notes_that_attack_ap) (q := view (OpenLaw.row PySem.Challenge.rw_loregreat_k80_whole_notes_that_attack_ap).prog [12]) (H := K80.hk) (ob := K80.ob) (M := 1000) (loose := K80.loose) (d := HandSHeadRun.topDef (OpenLaw.row PySem.Challenge.rw_loregreat_k80_whole_notes_that_attack_ap).prog 12) (kwd := []) K80.ob_eq
    (by kernel_rfl) (fun s => by kernel_rfl) K80.run (by kernel_rfl) (by kernel_rfl) (by kernel_rfl) (by rfl) (by first | assumption | decide +kernel) (by decide +kernel) ⟨rfl, rfl, rfl, rfl, rfl, by decide +kernel⟩ ?hw ?hc
  case hw => w_witness2
  case hc =>
    refine L2.walk_ofE (l := PySem.Challenge.rw_loregreat_k80_whole_notes_that_attack_ap) (n := 63) (k := 3) (x := "script") (CX := L2.CX0) rfl (by decide) (by kernel_rfl) ⟨rfl, by decide, by decide⟩ ?F (fun _ _ _ _ z => z)
    intro w mg fa h Y G hmg0
    obtain ⟨K, KX, c⟩ := Y
    have hmg : mg ("law" : PySem.Str) = some (.ref fa) := by
      have e : (HandSHeadRun.topDef (OpenLaw.row PySem.Challenge.rw_loregreat_k80_whole_notes_that_attack_ap).prog 12).name = ("law" : PySem.Str) := by kernel_rfl
      rw [← e]
      exact hmg0
    obtain ⟨fd, hb, hF⟩ := K80.facts (P := (PySem.Challenge.rw_loregreat_k80_whole_notes_that_attack_ap).prog) (w := w) KX G hmg c
    refine ⟨K, fd, Fd.spD K80.phiLaw K, KX, hb, fun H a ns hl hO hS => ?_, hF⟩
    have di : ∀ l : List Int, L2.DpAll K H (l.map L2.V.int) (l.map PyData.int) := fun l => by
      induction l with
      | nil => exact .nil
      | cons i l ih => exact .cons (.int i) ih
    refine ⟨H, _, _, L2.Same.refl H, .cons (L2.Dp.lst hS (di ns)) .nil, ⟨ns, rfl, rfl⟩, fun v B' H' _ ok => ?_⟩
    have ok : L2.Dp K B' v (.bool true) := ok
    cases ok
    rfl
end
