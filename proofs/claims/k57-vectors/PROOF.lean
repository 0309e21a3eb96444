import PyProof.Rows.All
import Wide.All
import OpenK.AllK
import Wide.FinOn
import HandS.ForMost
import HandS.ForExc
import HandS.EndTab
import HandS.Wide
import HandS.NoneIn
import HandS.TupAny
import HandS.TupLe
import HandS.Deep
import HandS.IsInst
import KE.SortData
import HandS.Dict
import HandS.DictTup
import KE.KDictPairs
import HandS.AnyAll
import HandS.Lambda
import HandS.GenList
import PySem.Challenge.RW_happenedfirst_k57_vectors
set_option Elab.async false
set_option linter.all false
set_option maxRecDepth 100000
section PuA_part
set_option Elab.async false
set_option linter.all false
set_option maxRecDepth 100000
set_option maxHeartbeats 2000000
/-! The pure layer, part A: contents, heaps, judgements. -/
namespace Pu
open PySem PySem.Spec PyProof.Rows L2

abbrev D := PyData
/-- what a name holds: nothing, data that nobody changes, a list or a dict of its own -/
inductive Sl where
  | un
  | val (d : D)
  | lst (ds : List D)
  | dct (kvs : List (D × D))
  | exc (c : Str)
abbrev En := List Sl
inductive Rs where
  | ok (r : Sl) (p : En)
  | exc (c : Str) (p : En)
  | bad
def Sl.owned : Sl → Bool
  | .lst _ => true
  | .dct _ => true
  | _ => false
def keyD : Key → D
  | .inl i => .int i
  | .inr x => .str x
/-- a tuple whose object is known: it bears no dict -/
def TpS (K : PySem.W.Frag) (H : Hp) (a : Addr) (xs : List V) : Prop := (∃ o : Obj, H a = some (.frz o (.tup xs)) ∧ o.dict = none) ∨
  ∃ (o : Obj) (its : Array Value) (n : Nat), K.lookup a = some o ∧ o.cls = .type "tuple" ∧ o.dict = none ∧ o.data = .seq its n ∧ its.size ≤ sizeLine ∧ Vals xs its.toList
theorem TpS.sq {K : PySem.W.Frag} {H : Hp} {a : Addr} {xs : List V} (h : TpS K H a xs) : SqT K H a xs := by
  rcases h with ⟨o, h, _⟩ | ⟨o, its, n, h1, h2, _, h3, h4, h5⟩
  · exact .inl (.inr ⟨o, h⟩)
  · exact .inr ⟨o, its, n, h1, h2, h3, h4, h5⟩
mutual
inductive Dq (K : PySem.W.Frag) (H : Hp) : V → PyData → Prop
  | non : Dq K H .non .none
  | bl (b : Bool) : Dq K H (.bl b) (.bool b)
  | int (i : Int) : Dq K H (.int i) (.int i)
  | str (x : Str) (h : PyData.strOk x = true) : Dq K H (.str x) (.str x)
  | lst {a : Addr} {xs : List V} {ds : List PyData} : SqL K H a xs → DqAll K H xs ds → Dq K H (.ref a) (.list ds)
  | tup {a : Addr} {xs : List V} {ds : List PyData} : TpS K H a xs → DqAll K H xs ds → Dq K H (.ref a) (.tuple ds)
inductive DqAll (K : PySem.W.Frag) (H : Hp) : List V → List PyData → Prop
  | nil : DqAll K H [] []
  | cons {v : V} {vs : List V} {d : PyData} {ds : List PyData} : Dq K H v d → DqAll K H vs ds → DqAll K H (v :: vs) (d :: ds)
end
def keyOk : D → Bool
  | .int _ => true
  | .str x => PyData.strOk x
  | _ => false
section
variable (K : PySem.W.Frag)
def DcRep (F H : Hp) (a : Addr) (kvs : List (D × D)) : Prop :=
  ∃ kws : List (Key × V), H a = some (.dK kws) ∧ Paired (fun (p : D × D) (q : Key × V) => (p.1 = keyD q.1 ∧ keyOk p.1 = true) ∧ Dq K F q.2 p.2) kvs kws
def SlRep (F H : Hp) (v : V) : Sl → Prop
  | .un => False
  | .val d => Dq K F v d
  | .lst ds => ∃ a vs, v = .ref a ∧ F a = none ∧ H a = some (.lst vs) ∧ DqAll K F vs ds
  | .dct kvs => ∃ a, v = .ref a ∧ F a = none ∧ DcRep K F H a kvs
  | .exc _ => False
end
def Own (σ : L2.St) (ρ : En) (a : Addr) : Prop := ∃ (i : Nat) (s : Sl), ρ[i]? = some s ∧ s.owned = true ∧ σ[i]? = some (some (V.ref a))
structure Good (K : PySem.W.Frag) (T : List Addr) (F H : Hp) (σ : L2.St) (ρ : En) : Prop where
  le : ∀ b o, F b = some o → H b = some o
  tab : ∀ P ∈ T, F P = none ∧ ∃ ps : Array Value, H P = some (.tbl ps) ∧ TriplesOk ps.toList
  len : ρ.length = σ.length
  at_ : ∀ (i : Nat) (s : Sl), ρ[i]? = some s → s = .un ∨ ∃ v, σ[i]? = some (some v) ∧ SlRep K F H v s
  sep : ∀ (i j : Nat) (s t : Sl) (a : Addr), ρ[i]? = some s → ρ[j]? = some t → s.owned = true → t.owned = true → σ[i]? = some (some (V.ref a)) → σ[j]? = some (some (V.ref a)) → i = j
structure Ext (T : List Addr) (O : Addr → Prop) (F H F' H' : Hp) : Prop where
  fle : ∀ b o, F b = some o → F' b = some o
  new : ∀ b o, F b = none → F' b = some o → H b = none ∨ O b
  keep : ∀ b o, H b = some o → ¬ O b → b ∉ T → H' b = some o
  dom : ∀ b, H' b = none → H b = none
theorem Ext.refl {T : List Addr} {O : Addr → Prop} {F H : Hp} : Ext T O F H F H :=
  ⟨fun _ _ h => h, fun b o h1 h2 => by rw [h1] at h2; (cases h2), fun _ _ h _ _ => h, fun _ h => h⟩
theorem Ext.trans {T : List Addr} {O O1 : Addr → Prop} {F H F1 H1 F2 H2 : Hp} (a : Ext T O F H F1 H1) (b : Ext T O1 F1 H1 F2 H2) (ho : ∀ c, O1 c → O c ∨ H c = none) : Ext T O F H F2 H2 where
  fle := fun c o h => b.fle c o (a.fle c o h)
  new := fun c o h1 h2 => by
    cases q : F1 c with
    | some u => exact a.new c u h1 q
    | none =>
      rcases b.new c o q h2 with z | z
      · exact .inl (a.dom c z)
      · exact (ho c z).symm
  keep := fun c o h n t => by
    refine b.keep c o (a.keep c o h n t) (fun z => ?_) t
    rcases ho c z with z | z
    · exact n z
    · rw [h] at z; cases z
  dom := fun c h => a.dom c (b.dom c h)
/-- no slot becomes an owner -/
def OS (ρ ρ' : En) : Prop := ∀ (i : Nat) (s : Sl), ρ'[i]? = some s → s.owned = true → ∃ t, ρ[i]? = some t ∧ t.owned = true
theorem OS.refl (ρ : En) : OS ρ ρ := fun _ s h o => ⟨s, h, o⟩
theorem OS.trans {ρ ρ1 ρ2 : En} (a : OS ρ ρ1) (b : OS ρ1 ρ2) : OS ρ ρ2 := fun i s h o => let ⟨t, h1, h2⟩ := b i s h o; a i t h1 h2
theorem OS.own {ρ ρ1 : En} (a : OS ρ ρ1) {σ : L2.St} {c : Addr} (h : Own σ ρ1 c) : Own σ ρ c := let ⟨i, s, h1, h2, h3⟩ := h; let ⟨t, h4, h5⟩ := a i s h1 h2; ⟨i, t, h4, h5, h3⟩
structure Mv (K : PySem.W.Frag) (T : List Addr) (σ : L2.St) (F H : Hp) (ρ : En) (F' H' : Hp) (ρ' : En) : Prop where
  ext : Ext T (Own σ ρ) F H F' H'
  good : Good K T F' H' σ ρ'
  os : OS ρ ρ'
structure Res (K : PySem.W.Frag) (H : Hp) (σ : L2.St) (ρ ρ' : En) (F' H' : Hp) (r : Sl) (v : V) : Prop where
  rep : SlRep K F' H' v r
  fresh : r.owned = true → ∀ a, v = .ref a → ¬ Own σ ρ' a ∧ (H a = none ∨ Own σ ρ a)
theorem Mv.own {K : PySem.W.Frag} {T : List Addr} {σ : L2.St} {F H : Hp} {ρ : En} {F' H' : Hp} {ρ' : En} (m : Mv K T σ F H ρ F' H' ρ') : ∀ a, Own σ ρ' a → Own σ ρ a := fun _ h => m.os.own h
def tE (K : PySem.W.Frag) (T : List Addr) (W : WX) (mg : Str → Option Value) (f : En → Rs) : TE := fun σ H Q => ∃ F ρ, Good K T F H σ ρ ∧
  match f ρ with
  | .ok r ρ' => ∀ F' H' v, Mv K T σ F H ρ F' H' ρ' → Res K H σ ρ ρ' F' H' r v → Q v H'
  | .exc c ρ' => ∀ F' H' C, mg c = some (.ref C) → Mv K T σ F H ρ F' H' ρ' → W (.ref C) none σ H'
  | .bad => False
abbrev CE (X : Cx) (T : List Addr) (W : WX) (e : Expr) (f : En → Rs) : Prop := PE X e (tE X.K T W X.mg f)
theorem pe_imp {X : Cx} {e : Expr} {t t' : TE} (h : PE X e t) (hi : ∀ σ H Q, t' σ H Q → t σ H Q) : PE X e t' :=
  ⟨fun pins s σ H Q I q => h.run pins s σ H Q I (hi σ H Q q)⟩

/-! ### data stays -/
mutual
theorem dp_le {K : PySem.W.Frag} {F F' : Hp} (h : ∀ b o, F b = some o → F' b = some o) : ∀ {d : D} {v : V}, Dq K F v d → Dq K F' v d
  | .none, _, .non => .non
  | .bool b, _, .bl _ => .bl b
  | .int i, _, .int _ => .int i
  | .str x, _, .str _ h => .str x h
  | .list ds, _, .lst hs ha => .lst (sql_le h hs) (dpa_le h ha)
  | .tuple ds, _, .tup hs ha => .tup (tps_le h hs) (dpa_le h ha)
theorem dpa_le {K : PySem.W.Frag} {F F' : Hp} (h : ∀ b o, F b = some o → F' b = some o) : ∀ {ds : List D} {vs : List V}, DqAll K F vs ds → DqAll K F' vs ds
  | [], _, .nil => .nil
  | _ :: _, _, .cons a b => .cons (dp_le h a) (dpa_le h b)
theorem sql_le {K : PySem.W.Frag} {F F' : Hp} {a : Addr} {xs : List V} (h : ∀ b o, F b = some o → F' b = some o) (q : SqL K F a xs) : SqL K F' a xs := by
  rcases q with (q | ⟨o, q⟩) | q
  · exact .inl (.inl (h _ _ q))
  · exact .inl (.inr ⟨o, h _ _ q⟩)
  · exact .inr q
theorem tps_le {K : PySem.W.Frag} {F F' : Hp} {a : Addr} {xs : List V} (h : ∀ b o, F b = some o → F' b = some o) (q : TpS K F a xs) : TpS K F' a xs := by
  rcases q with ⟨o, q, d⟩ | q
  · exact .inl ⟨o, h _ _ q, d⟩
  · exact .inr q
end
mutual
theorem dq_dp {K : PySem.W.Frag} {F : Hp} : ∀ {d : D} {v : V}, Dq K F v d → Dp K F v d ∧ d.canLay0 = true
  | .none, _, .non => ⟨.non, rfl⟩
  | .bool b, _, .bl _ => ⟨.bl b, rfl⟩
  | .int i, _, .int _ => ⟨.int i, rfl⟩
  | .str x, _, .str _ h => ⟨.str x, h⟩
  | .list ds, _, .lst hs ha => ⟨.lst hs (dqa_dpa ha).1, (dqa_dpa ha).2⟩
  | .tuple ds, _, .tup hs ha => ⟨.tup hs.sq (dqa_dpa ha).1, (dqa_dpa ha).2⟩
theorem dqa_dpa {K : PySem.W.Frag} {F : Hp} : ∀ {ds : List D} {vs : List V}, DqAll K F vs ds → DpAll K F vs ds ∧ PyData.canLayAll0 ds = true
  | [], _, .nil => ⟨.nil, rfl⟩
  | _ :: _, _, .cons a b => ⟨.cons (dq_dp a).1 (dqa_dpa b).1, by simp only [PyData.canLayAll0, (dq_dp a).2, (dqa_dpa b).2, Bool.and_self]⟩
end
theorem dcrep_some {K : PySem.W.Frag} {F H : Hp} {a : Addr} {kvs : List (D × D)} (h : DcRep K F H a kvs) : ∃ u, H a = some u ∧ ∀ ps, u ≠ .tbl ps := by
  obtain ⟨kws, e, _⟩ := h
  exact ⟨_, e, fun ps z => by cases z⟩
theorem dcrep_mono {K : PySem.W.Frag} {F H F' H' : Hp} {a : Addr} {kvs : List (D × D)} (le : ∀ b o, F b = some o → F' b = some o) (k : ∀ u, H a = some u → H' a = some u) (h : DcRep K F H a kvs) : DcRep K F' H' a kvs := by
  obtain ⟨kws, e, q⟩ := h
  exact ⟨kws, k _ e, L2.Paired.mapP q fun p q z => ⟨z.1, dp_le le z.2⟩⟩
end Pu
end PuA_part
section PuB_part
set_option Elab.async false
set_option linter.all false
set_option maxRecDepth 100000
set_option maxHeartbeats 2000000
/-! The pure layer, part B: operators, tests, displays. -/
namespace Pu
open PySem PySem.Spec PyProof.Rows L2
section
variable {K : PySem.W.Frag} {T : List Addr} {σ : L2.St} {F H F1 H1 F2 H2 : Hp} {ρ ρ1 ρ2 : En} {r : Sl} {v : V} {d : D}

theorem Good.own_some (G : Good K T F H σ ρ) {a : Addr} (o : Own σ ρ a) : (∃ u, H a = some u ∧ ∀ ps, u ≠ .tbl ps) ∧ F a = none := by
  obtain ⟨i, s, h1, h2, h3⟩ := o
  rcases G.at_ i s h1 with z | ⟨v, h4, h5⟩
  · subst z; cases h2
  · rw [h3] at h4
    have e : v = .ref a := (Option.some.inj (Option.some.inj h4)).symm
    subst e
    cases s with
    | un => cases h2
    | val d => cases h2
    | exc c => cases h2
    | lst ds =>
      obtain ⟨b, vs, e1, e2, e3, _⟩ := h5
      cases e1
      exact ⟨⟨_, e3, fun ps z => by cases z⟩, e2⟩
    | dct kvs =>
      obtain ⟨b, e1, e2, e3⟩ := h5
      cases e1
      exact ⟨dcrep_some e3, e2⟩
theorem Good.own_tab (G : Good K T F H σ ρ) {a : Addr} (o : Own σ ρ a) : a ∉ T := fun z => by
  obtain ⟨⟨u, h, n⟩, _⟩ := G.own_some o
  obtain ⟨_, ps, e, _⟩ := G.tab a z
  rw [h] at e
  exact n ps (Option.some.inj e)
theorem Mv.refl (G : Good K T F H σ ρ) : Mv K T σ F H ρ F H ρ := ⟨Ext.refl, G, OS.refl _⟩
theorem Mv.trans (a : Mv K T σ F H ρ F1 H1 ρ1) (b : Mv K T σ F1 H1 ρ1 F2 H2 ρ2) : Mv K T σ F H ρ F2 H2 ρ2 :=
  ⟨a.ext.trans b.ext fun c z => .inl (a.own c z), b.good, a.os.trans b.os⟩
theorem Res.trans (a : Mv K T σ F H ρ F1 H1 ρ1) (b : Res K H1 σ ρ1 ρ2 F2 H2 r v) : Res K H σ ρ ρ2 F2 H2 r v :=
  ⟨b.rep, fun h c e => by
    obtain ⟨h1, h2⟩ := b.fresh h c e
    refine ⟨h1, ?_⟩
    rcases h2 with z | z
    · exact .inl (a.ext.dom c z)
    · exact .inr (a.own c z)⟩

/-- a value that is nobody's own is made data -/
def fz : Sl → Option D
  | .val d => some d
  | .lst ds => some (.list ds)
  | _ => none
theorem mv_fz (m : Mv K T σ F H ρ F1 H1 ρ1) (q : Res K H σ ρ ρ1 F1 H1 r v) (h : fz r = some d) : ∃ F2, Mv K T σ F H ρ F2 H1 ρ1 ∧ Dq K F2 v d := by
  cases r with
  | un => cases h
  | exc c => cases h
  | dct kvs => cases h
  | val e =>
    cases h
    exact ⟨F1, m, q.rep⟩
  | lst ds =>
    cases h
    obtain ⟨a, vs, e1, e2, e3, e4⟩ := q.rep
    obtain ⟨n1, n2⟩ := q.fresh rfl a e1
    have le2 : ∀ b o, F1 b = some o → upd F1 a (.lst vs) b = some o := fun b o h => by
      rw [upd_ne (ne_of_none h e2)]; exact h
    refine ⟨upd F1 a (.lst vs), ⟨⟨fun b o h => le2 b o (m.ext.fle b o h), fun b o h1 h2 => ?_, m.ext.keep, m.ext.dom⟩, ⟨fun b o h => ?_, fun P hP => ?_, m.good.len, fun i s h => ?_, m.good.sep⟩, m.os⟩, ?_⟩
    · by_cases hb : b = a
      · subst hb; exact n2
      · rw [upd_ne hb] at h2; exact m.ext.new b o h1 h2
    · by_cases hb : b = a
      · subst hb; rw [upd_same] at h; rw [← h]; exact e3
      · rw [upd_ne hb] at h; exact m.good.le b o h
    · obtain ⟨h1, ps, h2, h3⟩ := m.good.tab P hP
      have hPa : P ≠ a := fun z => by subst z; rw [e3] at h2; cases h2
      exact ⟨by rw [upd_ne hPa]; exact h1, ps, h2, h3⟩
    · rcases m.good.at_ i s h with z | ⟨w, h1, h2⟩
      · exact .inl z
      · refine .inr ⟨w, h1, ?_⟩
        have nb : ∀ b, s.owned = true → w = .ref b → b ≠ a := fun b ho e z => n1 (by subst z; subst e; exact ⟨i, s, h, ho, h1⟩)
        cases s with
        | un => exact h2.elim
        | exc c => exact h2.elim
        | val d => exact dp_le le2 h2
        | lst ds =>
          obtain ⟨b, ws, e1, e5, e6, e7⟩ := h2
          exact ⟨b, ws, e1, by rw [upd_ne (nb b rfl e1)]; exact e5, e6, dpa_le le2 e7⟩
        | dct kvs =>
          obtain ⟨b, e1, e5, e6⟩ := h2
          exact ⟨b, e1, by rw [upd_ne (nb b rfl e1)]; exact e5, dcrep_mono le2 (fun _ q => q) e6⟩
    · rw [e1]
      exact .lst (SqL.of upd_same) (dpa_le le2 e4)

/-! ### pure steps: new objects alone -/
structure P0 (F H F' H' : Hp) : Prop where
  fle : ∀ b o, F b = some o → F' b = some o
  new : ∀ b o, F b = none → F' b = some o → H b = none
  keep : ∀ b o, H b = some o → H' b = some o
  le : ∀ b o, F' b = some o → H' b = some o
theorem P0.refl (h : ∀ b o, F b = some o → H b = some o) : P0 F H F H := ⟨fun _ _ h => h, fun b o h1 h2 => (by rw [h1] at h2; cases h2), fun _ _ h => h, h⟩
theorem P0.dom (p : P0 F H F1 H1) : ∀ b, H1 b = none → H b = none := fun b h => by
  cases q : H b with
  | none => rfl
  | some u => rw [p.keep b u q] at h; cases h
theorem P0.trans (p : P0 F H F1 H1) (q : P0 F1 H1 F2 H2) : P0 F H F2 H2 := ⟨fun b o h => q.fle b o (p.fle b o h), fun b o h1 h2 => by
  cases z : F1 b with
  | none => exact p.dom b (q.new b o z h2)
  | some u => exact p.new b u h1 z, fun b o h => q.keep b o (p.keep b o h), q.le⟩
/-- a new object, data at once -/
theorem P0.alloc {a : Addr} {o : HO} (h : ∀ b o, F b = some o → H b = some o) (n : H a = none) : P0 F H (upd F a o) (upd H a o) := by
  have nF : F a = none := by
    cases q : F a with
    | none => rfl
    | some u => rw [h a u q] at n; cases n
  refine ⟨fun b u e => by rw [upd_ne (ne_of_none e nF)]; exact e, fun b u h1 h2 => ?_, fun b u e => by rw [upd_ne (ne_of_none e n)]; exact e, fun b u e => ?_⟩
  · by_cases hb : b = a
    · subst hb; exact n
    · rw [upd_ne hb] at h2; rw [h1] at h2; cases h2
  · by_cases hb : b = a
    · subst hb; rw [upd_same] at e ⊢; exact e
    · rw [upd_ne hb] at e ⊢; exact h b u e
/-- a new object, nobody's data -/
theorem P0.fresh {a : Addr} {o : HO} (h : ∀ b o, F b = some o → H b = some o) (n : H a = none) : P0 F H F (upd H a o) :=
  ⟨fun _ _ e => e, fun b o h1 h2 => (by rw [h1] at h2; cases h2), fun b u e => by rw [upd_ne (ne_of_none e n)]; exact e, fun b u e => by rw [upd_ne (ne_of_none (h b u e) n)]; exact h b u e⟩
theorem slrep_p0 {s : Sl} (p : P0 F H F1 H1) (q : SlRep K F H v s) : SlRep K F1 H1 v s := by
  have nF : ∀ a u, F a = none → H a = some u → F1 a = none := fun a u h1 h2 => by
    cases z : F1 a with
    | none => rfl
    | some w => rw [p.new a w h1 z] at h2; cases h2
  cases s with
  | un => exact q.elim
  | exc c => exact q.elim
  | val d => exact dp_le p.fle q
  | lst ds =>
    obtain ⟨b, ws, e1, e5, e6, e7⟩ := q
    exact ⟨b, ws, e1, nF b _ e5 e6, p.keep _ _ e6, dpa_le p.fle e7⟩
  | dct kvs =>
    obtain ⟨b, e1, e5, e6⟩ := q
    obtain ⟨u, hu, _⟩ := dcrep_some e6
    exact ⟨b, e1, nF b _ e5 hu, dcrep_mono p.fle (p.keep b) e6⟩
theorem Mv.p0 (m : Mv K T σ F H ρ F1 H1 ρ1) (p : P0 F1 H1 F2 H2) : Mv K T σ F H ρ F2 H2 ρ1 := by
  refine ⟨⟨fun b o h => p.fle b o (m.ext.fle b o h), fun b o h1 h2 => ?_, fun b o h n t => p.keep b o (m.ext.keep b o h n t), fun b h => m.ext.dom b (p.dom b h)⟩, ⟨p.le, fun P hP => ?_, m.good.len, fun i s h => ?_, m.good.sep⟩, m.os⟩
  · cases z : F1 b with
    | none => exact .inl (m.ext.dom b (p.new b o z h2))
    | some u => exact m.ext.new b u h1 z
  · obtain ⟨h1, ps, h2, h3⟩ := m.good.tab P hP
    refine ⟨?_, ps, p.keep _ _ h2, h3⟩
    cases z : F2 P with
    | none => rfl
    | some w => rw [p.new P w h1 z] at h2; cases h2
  · rcases m.good.at_ i s h with z | ⟨w, h1, h2⟩
    · exact .inl z
    · exact .inr ⟨w, h1, slrep_p0 p h2⟩
/-- what a pure step hands back -/
structure R0 (K : PySem.W.Frag) (H : Hp) (F' H' : Hp) (r : Sl) (v : V) : Prop where
  rep : SlRep K F' H' v r
  fresh : r.owned = true → ∀ a, v = .ref a → H a = none
theorem R0.val {d : D} (h : Dq K F1 v d) : R0 K H F1 H1 (.val d) v := ⟨h, fun z => by cases z⟩
theorem Mv.res (m : Mv K T σ F H ρ F1 H1 ρ1) (q : R0 K H1 F2 H2 r v) : Res K H σ ρ ρ1 F2 H2 r v :=
  ⟨q.rep, fun h a e => by
    refine ⟨fun z => ?_, .inl (m.ext.dom a (q.fresh h a e))⟩
    obtain ⟨⟨u, h1, _⟩, _⟩ := m.good.own_some z
    rw [q.fresh h a e] at h1
    cases h1⟩
end

/-! ### names, constants -/
section
variable {X : Cx} {T : List Addr} {W : WX} {a b : Expr} {pos : Pos} {f fa fb : En → Rs}
def sC (d : D) : En → Rs := fun ρ => .ok (.val d) ρ
def sVar (i : Nat) : En → Rs := fun ρ => match ρ[i]? with
  | some (.val d) => .ok (.val d) ρ
  | some (.lst ds) => .ok (.val (.list ds)) (ρ.set i (.val (.list ds)))
  | _ => .bad
theorem ce_c {e : Expr} {v : V} {d : D} (h : PE X e (tC v)) (hd : ∀ F, Dq X.K F v d) : CE X T W e (sC d) := by
  refine pe_imp h fun σ H Q ⟨F, ρ, G, q⟩ => ?_
  exact q F H v (Mv.refl G) ⟨hd F, fun z => by cases z⟩
theorem ce_int {i j pos} : CE X T W (.Constant (.int i) j pos) (sC (.int i)) := ce_c pe_int fun _ => .int i
theorem ce_bl {b j pos} : CE X T W (.Constant (.bool b) j pos) (sC (.bool b)) := ce_c pe_bl fun _ => .bl b
theorem ce_non {j pos} : CE X T W (.Constant .none j pos) (sC .none) := ce_c pe_non fun _ => .non
theorem ce_str {x j pos} (h : PyData.strOk x = true := by decide +kernel) : CE X T W (.Constant (.str x) j pos) (sC (.str x)) := ce_c pe_str fun _ => .str x h
/-- a slot's own list is made data for good -/
theorem good_frz {K : PySem.W.Frag} {σ : L2.St} {F H : Hp} {ρ : En} {i : Nat} {ds : List D} (G : Good K T F H σ ρ) (h : ρ[i]? = some (.lst ds)) :
    ∃ F' v, σ[i]? = some (some v) ∧ Mv K T σ F H ρ F' H (ρ.set i (.val (.list ds))) ∧ Dq K F' v (.list ds) := by
  obtain z | ⟨v, h1, a, vs, e1, e2, e3, e4⟩ := G.at_ i _ h
  · cases z
  have hi : i < ρ.length := (List.getElem?_eq_some_iff.mp h).1
  have ow : OS ρ (ρ.set i (.val (.list ds))) := fun j s q1 q2 => by
    by_cases hj : i = j
    · subst hj; rw [List.getElem?_set_self hi] at q1; cases q1; cases q2
    · rw [List.getElem?_set_ne hj] at q1; exact ⟨s, q1, q2⟩
  have oa : Own σ ρ a := ⟨i, _, h, rfl, by rw [h1, e1]⟩
  have le2 : ∀ b o, F b = some o → upd F a (.lst vs) b = some o := fun b o q => by rw [upd_ne (ne_of_none q e2)]; exact q
  have dp : Dq K (upd F a (.lst vs)) v (.list ds) := by rw [e1]; exact .lst (SqL.of upd_same) (dpa_le le2 e4)
  refine ⟨upd F a (.lst vs), v, h1, ⟨⟨le2, fun b o q1 q2 => ?_, fun _ _ q _ _ => q, fun _ q => q⟩, ⟨fun b o q => ?_, fun P hP => ?_, by rw [List.length_set]; exact G.len, fun j s q => ?_, fun j k s t c q1 q2 q3 q4 q5 q6 => ?_⟩, ow⟩, dp⟩
  · by_cases hb : b = a
    · subst hb; exact .inr oa
    · rw [upd_ne hb] at q2; rw [q1] at q2; cases q2
  · by_cases hb : b = a
    · subst hb; rw [upd_same] at q; rw [← q]; exact e3
    · rw [upd_ne hb] at q; exact G.le b o q
  · obtain ⟨h1, ps, h2, h3⟩ := G.tab P hP
    have hPa : P ≠ a := fun z => by subst z; rw [e3] at h2; cases h2
    exact ⟨by rw [upd_ne hPa]; exact h1, ps, h2, h3⟩
  · by_cases hj : i = j
    · subst hj; rw [List.getElem?_set_self hi] at q; cases q
      exact .inr ⟨v, h1, dp⟩
    · rw [List.getElem?_set_ne hj] at q
      rcases G.at_ j s q with z | ⟨w, h2, h3⟩
      · exact .inl z
      · refine .inr ⟨w, h2, ?_⟩
        have nb : ∀ b, s.owned = true → w = .ref b → b ≠ a := fun b ho e z => hj (by
          subst z; subst e
          exact G.sep i j _ s b h q rfl ho (by rw [h1, e1]) h2)
        cases s with
        | un => exact h3.elim
        | exc c => exact h3.elim
        | val d => exact dp_le le2 h3
        | lst ds' =>
          obtain ⟨b, ws, q1, q5, q6, q7⟩ := h3
          exact ⟨b, ws, q1, by rw [upd_ne (nb b rfl q1)]; exact q5, q6, dpa_le le2 q7⟩
        | dct kvs =>
          obtain ⟨b, q1, q5, q6⟩ := h3
          exact ⟨b, q1, by rw [upd_ne (nb b rfl q1)]; exact q5, dcrep_mono le2 (fun _ q => q) q6⟩
  · by_cases hj : i = j
    · subst hj; rw [List.getElem?_set_self hi] at q1; cases q1; cases q3
    · by_cases hk : i = k
      · subst hk; rw [List.getElem?_set_self hi] at q2; cases q2; cases q4
      · rw [List.getElem?_set_ne hj] at q1; rw [List.getElem?_set_ne hk] at q2
        exact G.sep j k s t c q1 q2 q3 q4 q5 q6
theorem ce_var {i : Nat} {e : Expr} (h : PE X e (tVar i)) : CE X T W e (sVar i) := by
  refine pe_imp h fun σ H Q ⟨F, ρ, G, q⟩ => ?_
  unfold sVar at q
  cases h1 : ρ[i]? with
  | none => rw [h1] at q; exact q.elim
  | some s =>
    rw [h1] at q
    cases s with
    | un => exact q.elim
    | exc c => exact q.elim
    | dct kvs => exact q.elim
    | val d =>
      rcases G.at_ i _ h1 with z | ⟨v, h2, h3⟩
      · cases z
      · exact ⟨v, h2, q F H v (Mv.refl G) ⟨h3, fun z => by cases z⟩⟩
    | lst ds =>
      obtain ⟨F', v, h2, m, dp⟩ := good_frz G h1
      exact ⟨v, h2, q F' H v m ⟨dp, fun z => by cases z⟩⟩

/-! ### one, two, several parts -/
inductive Rl where
  | ok (ds : List D) (p : En)
  | exc (c : Str) (p : En)
  | bad
def sArgs : List (En → Rs) → En → Rl
  | [], ρ => .ok [] ρ
  | f :: fs, ρ => match f ρ with
    | .ok r ρ1 => match fz r with
      | some d => match sArgs fs ρ1 with
        | .ok ds ρ2 => .ok (d :: ds) ρ2
        | .exc c ρ2 => .exc c ρ2
        | .bad => .bad
      | none => .bad
    | .exc c ρ1 => .exc c ρ1
    | .bad => .bad
def sPrim (o : List D → Option Sl) (fs : List (En → Rs)) : En → Rs := fun ρ => match sArgs fs ρ with
  | .ok ds ρ1 => match o ds with
    | some z => .ok z ρ1
    | none => .bad
  | .exc c ρ1 => .exc c ρ1
  | .bad => .bad
def tA (K : PySem.W.Frag) (T : List Addr) (W : WX) (mg : Str → Option Value) (fs : List (En → Rs)) : TA := fun σ H Q => ∃ F ρ, Good K T F H σ ρ ∧
  match sArgs fs ρ with
  | .ok ds ρ' => ∀ F' H' vs, Mv K T σ F H ρ F' H' ρ' → DqAll K F' vs ds → Q vs H'
  | .exc c ρ' => ∀ F' H' C, mg c = some (.ref C) → Mv K T σ F H ρ F' H' ρ' → W (.ref C) none σ H'
  | .bad => False
abbrev CA (X : Cx) (T : List Addr) (W : WX) (es : List Expr) (fs : List (En → Rs)) : Prop := PA X es (tA X.K T W X.mg fs)
theorem pa_imp {es : List Expr} {t t' : TA} (h : PA X es t) (hi : ∀ σ H Q, t' σ H Q → t σ H Q) : PA X es t' :=
  ⟨fun pos pins s σ H Q I q => h.run pos pins s σ H Q I (hi σ H Q q)⟩
theorem tA_cons {K : PySem.W.Frag} {mg : Str → Option Value} {fs : List (En → Rs)} {σ : L2.St} {H : Hp} {Q : List V → Hp → Prop} (h : tA K T W mg (f :: fs) σ H Q) :
    tE K T W mg f σ H fun x H1 => tA K T W mg fs σ H1 fun xs H2 => Q (x :: xs) H2 := by
  obtain ⟨F, ρ, G, q⟩ := h
  refine ⟨F, ρ, G, ?_⟩
  rw [sArgs] at q
  cases h1 : f ρ with
  | bad => rw [h1] at q; exact q
  | exc c ρ1 => rw [h1] at q; exact q
  | ok r ρ1 =>
    rw [h1] at q
    intro F1 H1 v m1 r1
    cases h2 : fz r with
    | none => simp only [h2] at q
    | some d =>
      simp only [h2] at q
      obtain ⟨F1', m1', dp⟩ := mv_fz m1 r1 h2
      refine ⟨F1', ρ1, m1'.good, ?_⟩
      cases h3 : sArgs fs ρ1 with
      | bad => simp only [h3] at q
      | exc c ρ2 =>
        simp only [h3] at q
        exact fun F' H' C e m => q F' H' C e (m1'.trans m)
      | ok ds ρ2 =>
        simp only [h3] at q
        exact fun F' H' vs m dps => q F' H' (v :: vs) (m1'.trans m) (.cons (dp_le m.ext.fle dp) dps)
theorem ca_nil : CA X T W [] [] := pa_imp pa_nil fun σ H Q ⟨F, ρ, G, q⟩ => q F H [] (Mv.refl G) .nil
theorem ca_cons {es : List Expr} {fs : List (En → Rs)} (ha : CE X T W a f) (hr : CA X T W es fs) (hs : starEach (a :: es) X.env = (false, eval a X.env) :: starEach es X.env := by rfl) : CA X T W (a :: es) (f :: fs) :=
  pa_imp (pa_cons ha hr hs) fun σ H Q q => tA_cons q
/-- what a pure operation asks -/
def rDs (K : PySem.W.Frag) (o : List D → Option Sl) : List V → Hp → VK → Prop := fun vs H Q => ∃ F ds z, (∀ b o, F b = some o → H b = some o) ∧ DqAll K F vs ds ∧ o ds = some z ∧ ∀ F' H' v, P0 F H F' H' → R0 K H F' H' z v → Q v H'
def rD (K : PySem.W.Frag) (o : List D → Option Sl) : R2 := fun x y H Q => rDs K o [x, y] H Q
theorem prim_args {K : PySem.W.Frag} {mg : Str → Option Value} {o : List D → Option Sl} {fs : List (En → Rs)} {σ : L2.St} {H : Hp} {Q : VK} (h : tE K T W mg (sPrim o fs) σ H Q) : tA K T W mg fs σ H fun vs H1 => rDs K o vs H1 Q := by
  obtain ⟨F, ρ, G, q⟩ := h
  refine ⟨F, ρ, G, ?_⟩
  unfold sPrim at q
  cases h1 : sArgs fs ρ with
  | bad => rw [h1] at q; exact q
  | exc c ρ1 => rw [h1] at q; exact q
  | ok ds ρ1 =>
    rw [h1] at q
    intro F1 H1 vs m dps
    cases h2 : o ds with
    | none => simp only [h2] at q
    | some z =>
      simp only [h2] at q
      exact ⟨F1, ds, z, m.good.le, dps, h2, fun F' H' v p r0 => q F' H' v (m.p0 p) (m.res r0)⟩
theorem tA_nil {K : PySem.W.Frag} {mg : Str → Option Value} {σ : L2.St} {H : Hp} {Q : List V → Hp → Prop} (h : tA K T W mg [] σ H Q) : Q [] H := by
  obtain ⟨F, ρ, G, q⟩ := h
  exact q F H [] (Mv.refl G) .nil
theorem prim_two {K : PySem.W.Frag} {mg : Str → Option Value} {o : List D → Option Sl} {σ : L2.St} {H : Hp} {Q : VK} (h : tE K T W mg (sPrim o [fa, fb]) σ H Q) :
    tE K T W mg fa σ H fun x H1 => tE K T W mg fb σ H1 fun y H2 => rD K o x y H2 Q := by
  have h1 := tA_cons (prim_args h)
  obtain ⟨F, ρ, G, q⟩ := h1
  refine ⟨F, ρ, G, ?_⟩
  cases e : fa ρ with
  | bad => rw [e] at q; exact q
  | exc c ρ1 => rw [e] at q; exact q
  | ok r ρ1 =>
    rw [e] at q
    intro F1 H1 v m1 r1
    obtain ⟨F2, ρ2, G2, q2⟩ := tA_cons (q F1 H1 v m1 r1)
    refine ⟨F2, ρ2, G2, ?_⟩
    cases e2 : fb ρ2 with
    | bad => rw [e2] at q2; exact q2
    | exc c ρ1 => rw [e2] at q2; exact q2
    | ok r2 ρ3 =>
      rw [e2] at q2
      exact fun F3 H3 v3 m3 r3 => tA_nil (q2 F3 H3 v3 m3 r3)
theorem prim_one {K : PySem.W.Frag} {mg : Str → Option Value} {o : List D → Option Sl} {σ : L2.St} {H : Hp} {Q : VK} (h : tE K T W mg (sPrim o [fa]) σ H Q) :
    tE K T W mg fa σ H fun x H1 => rDs K o [x] H1 Q := by
  have h1 := tA_cons (prim_args h)
  obtain ⟨F, ρ, G, q⟩ := h1
  refine ⟨F, ρ, G, ?_⟩
  cases e : fa ρ with
  | bad => rw [e] at q; exact q
  | exc c ρ1 => rw [e] at q; exact q
  | ok r ρ1 =>
    rw [e] at q
    exact fun F1 H1 v m1 r1 => tA_nil (q F1 H1 v m1 r1)
theorem ce_op {op : Operator} {o : List D → Option Sl} (ho : OpR X (binaryOp op) (rD X.K o)) (ha : CE X T W a fa) (hb : CE X T W b fb) : CE X T W (.BinOp a op b pos) (sPrim o [fa, fb]) :=
  pe_imp (pe_op ho ha hb) fun σ H Q q => prim_two q
theorem ce_cmp {op : CmpOp} {o : List D → Option Sl} (ho : OpR X (compareOp op) (rD X.K o)) (ha : CE X T W a fa) (hb : CE X T W b fb) (hm : behindInMarks op b = false) : CE X T W (.Compare a [op] [b] pos) (sPrim o [fa, fb]) :=
  pe_imp (pe_cmpR ho ha hb hm) fun σ H Q q => prim_two q
theorem ce_un {op : UnaryOp} {o : List D → Option Sl} (ho : UnR X (unaryOp op) (fun x H Q => rDs X.K o [x] H Q)) (ha : CE X T W a fa) : CE X T W (.UnaryOp op a pos) (sPrim o [fa]) :=
  pe_imp (pe_un ho ha) fun σ H Q q => prim_one q
def oTup : List D → Option Sl := fun ds => some (.val (.tuple ds))
def oLst : List D → Option Sl := fun ds => some (.lst ds)
theorem dpa_len {K : PySem.W.Frag} {F : Hp} : ∀ {vs : List V} {ds : List D}, DqAll K F vs ds → vs.length = ds.length
  | [], [], .nil => rfl
  | _ :: _, _ :: _, .cons _ h => by rw [List.length_cons, List.length_cons, dpa_len h]
/-- a new tuple, its object known -/
theorem new_tup {K : PySem.W.Frag} {F H : Hp} {p : Addr} {vs : List V} {ds : List D} {o : Obj} (hd : o.dict = none) (le : ∀ b o, F b = some o → H b = some o) (np : H p = none) (ha : DqAll K F vs ds) : P0 F H (upd F p (.frz o (.tup vs))) (upd H p (.frz o (.tup vs))) ∧ R0 K H (upd F p (.frz o (.tup vs))) (upd H p (.frz o (.tup vs))) (.val (.tuple ds)) (.ref p) :=
  ⟨P0.alloc le np, R0.val (.tup (.inl ⟨o, upd_same, hd⟩) (dpa_le (P0.alloc le np).fle ha))⟩
theorem inv_ntup {pins : List (Addr × Obj)} {s : Shared} {σ : L2.St} {H : Hp} {ys : List V} {its : List Value} {t' : Nat} (I : Inv X pins σ H s) (hv : Vals ys its) (hz : ys.length ≤ sizeLine) :
    Inv X pins σ (upd H s.heap.objs.size (.frz { cls := .type "tuple", data := .seq its.toArray } (.tup ys))) { s with heap := s.heap.push { cls := .type "tuple", data := .seq its.toArray }, toks := t' } :=
  I.laid (fun _ _ q => Heap.get?_push_of_some _ q) (Nat.le_refl _) ⟨Heap.get?_push_size _ rfl, hz, its, hv, ⟨_, Heap.get?_push_size _ rfl, rfl, _, rfl⟩⟩
theorem ce_tup {es : List Expr} {fs : List (En → Rs)} {k} (h : CA X T W es fs) : CE X T W (.Tuple es k pos) (sPrim (fun ds => if ds.length ≤ 1000 then some (.val (.tuple ds)) else none) fs) := by
  refine ⟨fun pins s σ H Q I q => ?_⟩
  have q := prim_args q
  refine wpAny_Tuple_spliced (thn (h.run pos pins s σ H _ I q) fun us s1 ⟨xs, H1, I1, r, F2, es, z, le, dps2, hz, k⟩ => ?_)
  simp only at hz
  split at hz
  · rename_i hl
    cases hz
    have hz : xs.length ≤ sizeLine := Nat.le_of_lt (small1000 (by rw [dpa_len dps2]; exact hl))
    refine ⟨by rw [← r.length]; exact hz, ?_⟩
    have hf : H1 s1.heap.objs.size = none := I1.hok.fresh (Nat.le_refl _)
    obtain ⟨p0, r0⟩ := new_tup (o := { cls := .type "tuple", data := .seq us.toArray }) rfl le hf dps2
    exact ⟨.ref s1.heap.objs.size, _, inv_ntup (t' := s1.toks) I1 r hz, rfl, k _ _ _ p0 r0⟩
  · cases hz
theorem ce_lst {es : List Expr} {fs : List (En → Rs)} (h : CA X T W es fs) : CE X T W (.List es pos) (sPrim (fun ds => if ds.length ≤ 1000 then some (.lst ds) else none) fs) := by
  refine pe_imp (pe_lst h) fun σ H Q q => ?_
  obtain ⟨F, ρ, G, q⟩ := prim_args q
  refine ⟨F, ρ, G, ?_⟩
  cases e : sArgs fs ρ with
  | bad => rw [e] at q; exact q
  | exc c ρ1 => rw [e] at q; exact q
  | ok ds ρ1 =>
    rw [e] at q
    intro F1 H1 vs m dps
    obtain ⟨F2, es, z, le, dps2, hz, k⟩ := q F1 H1 vs m dps
    simp only at hz
    split at hz
    · rename_i hl
      cases hz
      refine ⟨Nat.le_of_lt (small1000 (by rw [dpa_len dps2]; exact hl)), fun p np => ?_⟩
      have nF : F2 p = none := by
        cases q : F2 p with
        | none => rfl
        | some u => rw [le p u q] at np; cases np
      exact k _ _ _ (P0.fresh le np) ⟨⟨p, vs, rfl, nF, upd_same, dps2⟩, fun _ a e => by cases e; exact np⟩
    · cases hz
end
end Pu
end PuB_part
section PuC_part
set_option Elab.async false
set_option linter.all false
set_option maxRecDepth 100000
set_option maxHeartbeats 2000000
/-! The pure layer, part C: statements, loops. -/
namespace Pu
open PySem PySem.Spec PyProof.Rows L2

inductive Rt where
  | nxt (p : En)
  | ret (r : Sl) (p : En)
  | brk (p : En)
  | cnt (p : En)
  | exc (c : Str) (p : En)
  | bad
structure MvS (K : PySem.W.Frag) (T : List Addr) (io : List Nat) (σ : L2.St) (F H : Hp) (ρ : En) (σ' : L2.St) (F' H' : Hp) (ρ' : En) : Prop where
  ext : Ext T (Own σ ρ) F H F' H'
  good : Good K T F' H' σ' ρ'
  own : ∀ a, Own σ' ρ' a → Own σ ρ a ∨ H a = none
  io : ∀ i ∈ io, σ'[i]? = σ[i]? ∧ ∀ (s : Sl), ρ'[i]? = some s → s.owned = true → ∃ t, ρ[i]? = some t ∧ t.owned = true
def PS_ (K : PySem.W.Frag) (T : List Addr) (W : WX) (mg : Str → Option Value) (io : List Nat) (σ : L2.St) (F H : Hp) (ρ : En) (R : Rt) (D : Ends) : Prop :=
  match R with
  | .nxt ρ' => ∀ F' H' σ', MvS K T io σ F H ρ σ' F' H' ρ' → D.nx σ' H'
  | .brk ρ' => ∀ F' H' σ', MvS K T io σ F H ρ σ' F' H' ρ' → D.bk σ' H'
  | .cnt ρ' => ∀ F' H' σ', MvS K T io σ F H ρ σ' F' H' ρ' → D.ct σ' H'
  | .ret r ρ' => ∀ F' H' σ' v, MvS K T io σ F H ρ σ' F' H' ρ' → SlRep K F' H' v r → (r.owned = true → ∀ a, v = .ref a → ¬ Own σ' ρ' a ∧ (H a = none ∨ Own σ ρ a)) → D.rt v H'
  | .exc c ρ' => ∀ F' H' σ' C, mg c = some (.ref C) → MvS K T io σ F H ρ σ' F' H' ρ' → W (.ref C) none σ' H'
  | .bad => False
def tS (K : PySem.W.Frag) (T : List Addr) (W : WX) (mg : Str → Option Value) (io : List Nat) (g : En → Rt) : TS := fun D σ H => ∃ F ρ, Good K T F H σ ρ ∧ PS_ K T W mg io σ F H ρ (g ρ) D
abbrev CS (X : Cx) (T : List Addr) (W : WX) (io : List Nat) (st : Stmt) (g : En → Rt) : Prop := PS X st (tS X.K T W X.mg io g)
abbrev CSs (X : Cx) (T : List Addr) (W : WX) (io : List Nat) (sts : List Stmt) (g : En → Rt) : Prop := PSs X sts (tS X.K T W X.mg io g)
theorem ps_imp {X : Cx} {st : Stmt} {t t' : TS} (h : PS X st t) (hi : ∀ D σ H, t' D σ H → t D σ H) : PS X st t' := ⟨fun pins s σ H D I q => h.run pins s σ H D I (hi D σ H q)⟩
theorem pss_imp {X : Cx} {st : List Stmt} {t t' : TS} (h : PSs X st t) (hi : ∀ D σ H, t' D σ H → t D σ H) : PSs X st t' := ⟨fun pins s σ H D I q => h.run pins s σ H D I (hi D σ H q)⟩
section
variable {K : PySem.W.Frag} {T : List Addr} {W : WX} {mg : Str → Option Value} {io : List Nat} {σ σ1 σ2 : L2.St} {F H F1 H1 F2 H2 : Hp} {ρ ρ1 ρ2 : En} {D : Ends} {R : Rt} {r : Sl} {v : V}
theorem MvS.refl (G : Good K T F H σ ρ) : MvS K T io σ F H ρ σ F H ρ := ⟨Ext.refl, G, fun _ h => .inl h, fun _ _ => ⟨rfl, fun s h o => ⟨s, h, o⟩⟩⟩
theorem MvS.trans (a : MvS K T io σ F H ρ σ1 F1 H1 ρ1) (b : MvS K T io σ1 F1 H1 ρ1 σ2 F2 H2 ρ2) : MvS K T io σ F H ρ σ2 F2 H2 ρ2 :=
  ⟨a.ext.trans b.ext a.own, b.good, fun c z => by
    rcases b.own c z with q | q
    · exact a.own c q
    · exact .inr (a.ext.dom c q), fun i hi => ⟨(b.io i hi).1.trans (a.io i hi).1, fun s h o => let ⟨t, h1, h2⟩ := (b.io i hi).2 s h o; (a.io i hi).2 t h1 h2⟩⟩
theorem Mv.s (a : Mv K T σ F H ρ F1 H1 ρ1) : MvS K T io σ F H ρ σ F1 H1 ρ1 := ⟨a.ext, a.good, fun c z => .inl (a.own c z), fun i _ => ⟨rfl, fun s h o => a.os i s h o⟩⟩
theorem PS_.shift (a : MvS K T io σ F H ρ σ1 F1 H1 ρ1) (q : PS_ K T W mg io σ F H ρ R D) : PS_ K T W mg io σ1 F1 H1 ρ1 R D := by
  cases R with
  | nxt ρ' => exact fun F' H' σ' m => q F' H' σ' (a.trans m)
  | brk ρ' => exact fun F' H' σ' m => q F' H' σ' (a.trans m)
  | cnt ρ' => exact fun F' H' σ' m => q F' H' σ' (a.trans m)
  | bad => exact q
  | exc c ρ' => exact fun F' H' σ' C e m => q F' H' σ' C e (a.trans m)
  | ret r ρ' =>
    refine fun F' H' σ' v m rp fr => q F' H' σ' v (a.trans m) rp fun h c e => ?_
    obtain ⟨h1, h2⟩ := fr h c e
    refine ⟨h1, ?_⟩
    rcases h2 with z | z
    · exact .inl (a.ext.dom c z)
    · exact (a.own c z).symm

/-- behind an expression -/
theorem tE_then {f : En → Rs} {k : Sl → En → Rt} {Q : VK} (G : Good K T F H σ ρ)
    (q : PS_ K T W mg io σ F H ρ (match f ρ with | .ok r ρ1 => k r ρ1 | .exc c ρ1 => .exc c ρ1 | .bad => .bad) D)
    (hk : ∀ r ρ1 F1 H1 v, f ρ = .ok r ρ1 → Mv K T σ F H ρ F1 H1 ρ1 → Res K H σ ρ ρ1 F1 H1 r v → PS_ K T W mg io σ F1 H1 ρ1 (k r ρ1) D → Q v H1) : tE K T W mg f σ H Q := by
  refine ⟨F, ρ, G, ?_⟩
  cases e : f ρ with
  | bad => rw [e] at q; exact q
  | exc c ρ1 => rw [e] at q; exact fun F' H' C hc m => q F' H' σ C hc m.s
  | ok r ρ1 => rw [e] at q; exact fun F1 H1 v m rs => hk r ρ1 F1 H1 v e m rs (q.shift m.s)
end
section
variable {X : Cx} {T : List Addr} {W : WX} {io : List Nat} {st : Stmt} {sts : List Stmt} {g g2 : En → Rt} {f ft : En → Rs} {e : Expr} {pos : Pos}

/-! ### in a row -/
def sNil : En → Rt := fun ρ => .nxt ρ
def sSeq (g g2 : En → Rt) : En → Rt := fun ρ => match g ρ with
  | .nxt ρ1 => g2 ρ1
  | r => r
theorem cs_nil : CSs X T W io [] sNil := pss_imp pss_nil fun D σ H ⟨F, ρ, G, q⟩ => q F H σ (MvS.refl G)
theorem cs_seq (h1 : CS X T W io st g) (h2 : CSs X T W io sts g2) : CSs X T W io (st :: sts) (sSeq g g2) := by
  refine pss_imp (pss_cons h1 h2) fun D σ H ⟨F, ρ, G, q⟩ => ⟨F, ρ, G, ?_⟩
  unfold sSeq at q
  cases e : g ρ with
  | nxt ρ1 => rw [e] at q; exact fun F' H' σ' m => ⟨F', ρ1, m.good, q.shift m⟩
  | brk ρ1 => rw [e] at q; exact q
  | cnt ρ1 => rw [e] at q; exact q
  | ret r ρ1 => rw [e] at q; exact q
  | exc c ρ1 => rw [e] at q; exact q
  | bad => rw [e] at q; exact q
theorem cs_one (h1 : CS X T W io st g) : CSs X T W io [st] g := pss_imp (pss_one h1) fun D σ H q => q
theorem cs_pass : CS X T W io (.Pass pos) sNil := ps_imp ps_pass fun D σ H ⟨F, ρ, G, q⟩ => q F H σ (MvS.refl G)
def sBrk : En → Rt := fun ρ => .brk ρ
def sCnt : En → Rt := fun ρ => .cnt ρ
theorem cs_brk : CS X T W io (.Break pos) sBrk := ps_imp ps_break fun D σ H ⟨F, ρ, G, q⟩ => q F H σ (MvS.refl G)
theorem cs_cnt : CS X T W io (.Continue pos) sCnt := ps_imp ps_continue fun D σ H ⟨F, ρ, G, q⟩ => q F H σ (MvS.refl G)
def sExp (f : En → Rs) : En → Rt := fun ρ => match f ρ with
  | .ok _ ρ1 => .nxt ρ1
  | .exc c ρ1 => .exc c ρ1
  | .bad => .bad
theorem cs_exp (h : CE X T W e f) (hs : swapsWith e none pos.line X.env = pure false := by rfl) : CS X T W io (.Expr e pos) (sExp f) :=
  ps_imp (ps_expr h hs) fun D σ H ⟨F, ρ, G, q⟩ => tE_then (k := fun _ ρ1 => .nxt ρ1) G q fun r ρ1 F1 H1 v _ m rs q1 => q1 F1 H1 σ (MvS.refl m.good)
def sRet (f : En → Rs) : En → Rt := fun ρ => match f ρ with
  | .ok r ρ1 => .ret r ρ1
  | .exc c ρ1 => .exc c ρ1
  | .bad => .bad
theorem cs_ret (h : CE X T W e f) : CS X T W io (.Return (some e) pos) (sRet f) := by
  refine ps_imp (ps_ret h) fun D σ H ⟨F, ρ, G, q⟩ => ⟨F, ρ, G, ?_⟩
  unfold sRet at q
  cases e : f ρ with
  | bad => rw [e] at q; exact q
  | exc c ρ1 => rw [e] at q; exact fun F' H' C hc m => q F' H' σ C hc m.s
  | ok r ρ1 => rw [e] at q; exact fun F1 H1 v m rs => q F1 H1 σ v m.s rs.rep rs.fresh
def sRetN : En → Rt := fun ρ => .ret (.val .none) ρ
theorem cs_retN : CS X T W io (.Return none pos) sRetN := ps_imp ps_retN fun D σ H ⟨F, ρ, G, q⟩ => q F H σ .non (MvS.refl G) .non fun z => by cases z
/-- return of a name whose own list goes out -/
def sRetV (i : Nat) : En → Rt := fun ρ => match ρ[i]? with
  | some .un => .bad
  | some s => .ret s (ρ.set i .un)
  | none => .bad
theorem own_un {σ : L2.St} {ρ : En} {i : Nat} {a : Addr} (h : Own σ (ρ.set i .un) a) : ∃ (j : Nat) (s : Sl), j ≠ i ∧ ρ[j]? = some s ∧ s.owned = true ∧ σ[j]? = some (some (V.ref a)) := by
  obtain ⟨j, s, q1, q2, q3⟩ := h
  by_cases hj : i = j
  · subst hj
    by_cases hi : i < ρ.length
    · rw [List.getElem?_set_self hi] at q1; cases q1; cases q2
    · rw [List.getElem?_eq_none (by rw [List.length_set]; omega)] at q1; cases q1
  · rw [List.getElem?_set_ne hj] at q1; exact ⟨j, s, fun z => hj z.symm, q1, q2, q3⟩
theorem good_un {K : PySem.W.Frag} {F H : Hp} {σ : L2.St} {ρ : En} {i : Nat} (G : Good K T F H σ ρ) : Good K T F H σ (ρ.set i .un) := by
  refine ⟨G.le, G.tab, by rw [List.length_set]; exact G.len, fun j s q => ?_, fun j k s t c q1 q2 q3 q4 q5 q6 => ?_⟩
  · by_cases hj : i = j
    · subst hj
      by_cases hi : i < ρ.length
      · rw [List.getElem?_set_self hi] at q; cases q; exact .inl rfl
      · rw [List.getElem?_eq_none (by rw [List.length_set]; omega)] at q; cases q
    · rw [List.getElem?_set_ne hj] at q; exact G.at_ j s q
  · obtain ⟨j', s', n1, w1, w2, w3⟩ := own_un (σ := σ) (ρ := ρ) (i := i) (a := c) ⟨j, s, q1, q3, q5⟩
    by_cases hj : i = j
    · subst hj
      by_cases hi : i < ρ.length
      · rw [List.getElem?_set_self hi] at q1; cases q1; cases q3
      · rw [List.getElem?_eq_none (by rw [List.length_set]; omega)] at q1; cases q1
    · by_cases hk : i = k
      · subst hk
        by_cases hi : i < ρ.length
        · rw [List.getElem?_set_self hi] at q2; cases q2; cases q4
        · rw [List.getElem?_eq_none (by rw [List.length_set]; omega)] at q2; cases q2
      · rw [List.getElem?_set_ne hj] at q1; rw [List.getElem?_set_ne hk] at q2
        exact G.sep j k s t c q1 q2 q3 q4 q5 q6
theorem cs_retV {i : Nat} (h : PE X e (tVar i)) (hio : i ∉ io) : CS X T W io (.Return (some e) pos) (sRetV i) := by
  refine ps_imp (ps_ret h) fun D σ H ⟨F, ρ, G, q⟩ => ?_
  unfold sRetV at q
  cases h1 : ρ[i]? with
  | none => rw [h1] at q; exact q.elim
  | some s =>
    rw [h1] at q
    rcases G.at_ i s h1 with z | ⟨v, h2, h3⟩
    · subst z; exact q.elim
    · have q' : PS_ X.K T W X.mg io σ F H ρ (.ret s (ρ.set i .un)) D := by cases s <;> first | exact q | exact h3.elim
      refine ⟨v, h2, q' F H σ v ⟨Ext.refl, good_un G, fun a z => ?_, fun j hj => ⟨rfl, fun s h o => ⟨s, by rw [List.getElem?_set_ne (fun (z : i = j) => by subst z; exact hio hj)] at h; exact h, o⟩⟩⟩ h3 fun ho a ea => ⟨fun z => ?_, ?_⟩⟩
      · obtain ⟨j, t, _, w1, w2, w3⟩ := own_un z
        exact .inl ⟨j, t, w1, w2, w3⟩
      · obtain ⟨j, t, n1, w1, w2, w3⟩ := own_un z
        exact n1 (G.sep j i t s a w1 h1 w2 ho w3 (by rw [h2, ea]))
      · exact .inr ⟨i, s, h1, ho, by rw [h2, ea]⟩

/-! ### tests -/
def tTst (K : PySem.W.Frag) (T : List Addr) (W : WX) (mg : Str → Option Value) (f : En → Rs) : TT := fun σ H Q => ∃ F ρ, Good K T F H σ ρ ∧
  match f ρ with
  | .ok (.val (.bool b)) ρ' => ∀ F' H', Mv K T σ F H ρ F' H' ρ' → Q b H'
  | .ok _ _ => False
  | .exc c ρ' => ∀ F' H' C, mg c = some (.ref C) → Mv K T σ F H ρ F' H' ρ' → W (.ref C) none σ H'
  | .bad => False
abbrev CT (X : Cx) (T : List Addr) (W : WX) (e : Expr) (f : En → Rs) : Prop := PT X e (tTst X.K T W X.mg f)
theorem pt_imp {t t' : TT} (h : PT X e t) (hi : ∀ σ H Q, t' σ H Q → t σ H Q) : PT X e t' := ⟨fun pins s σ H Q I q => h.run pins s σ H Q I (hi σ H Q q)⟩
theorem tst_tE {K : PySem.W.Frag} {mg : Str → Option Value} {σ : L2.St} {H : Hp} {Q : Bool → Hp → Prop} (h : tTst K T W mg f σ H Q) : tE K T W mg f σ H fun x H1 => ∃ c, x = .bl c ∧ Q c H1 := by
  obtain ⟨F, ρ, G, q⟩ := h
  refine ⟨F, ρ, G, ?_⟩
  cases e : f ρ with
  | bad => rw [e] at q; exact q
  | exc c ρ1 => rw [e] at q; exact q
  | ok r ρ1 =>
    rw [e] at q
    intro F1 H1 v m rs
    cases r with
    | val d =>
      cases d with
      | bool b =>
        cases v with
        | bl c => have := rs.rep; cases this; exact ⟨_, rfl, q F1 H1 m⟩
        | _ => exact nomatch rs.rep
      | _ => exact q.elim
    | _ => exact q.elim
theorem ct_val (h : CE X T W e f) (he : ∀ whole, isTrue e X.env whole = (do let v ← whole; standAt e.pos; holding [v] (truthy v)) := by intro _; rfl) : CT X T W e f :=
  pt_imp (pt_val h he) fun σ H Q q => tst_tE q
def sNot (f : En → Rs) : En → Rs := fun ρ => match f ρ with
  | .ok (.val (.bool b)) ρ1 => .ok (.val (.bool (!b))) ρ1
  | .ok _ _ => .bad
  | .exc c ρ1 => .exc c ρ1
  | .bad => .bad
theorem ct_not (h : CT X T W e f) : CT X T W (.UnaryOp .Not e pos) (sNot f) := by
  refine pt_imp (pt_not h) fun σ H Q ⟨F, ρ, G, q⟩ => ⟨F, ρ, G, ?_⟩
  unfold sNot at q
  cases e : f ρ with
  | bad => rw [e] at q; exact q
  | exc c ρ1 => rw [e] at q; exact q
  | ok r ρ1 =>
    rw [e] at q
    cases r with
    | val d =>
      cases d with
      | bool b => exact fun F1 H1 m => q F1 H1 m
      | _ => exact q.elim
    | _ => exact q.elim
theorem ce_not (h : CE X T W e f) : CE X T W (.UnaryOp .Not e pos) (sNot f) := by
  refine pe_imp (pe_not h) fun σ H Q ⟨F, ρ, G, q⟩ => ⟨F, ρ, G, ?_⟩
  unfold sNot at q
  cases e : f ρ with
  | bad => rw [e] at q; exact q
  | exc c ρ1 => rw [e] at q; exact q
  | ok r ρ1 =>
    rw [e] at q
    cases r with
    | val d =>
      cases d with
      | bool b =>
        intro F1 H1 v m rs
        cases v with
        | bl c => have := rs.rep; cases this; exact ⟨_, rfl, q F1 H1 _ m ⟨.bl _, fun z => by cases z⟩⟩
        | _ => exact nomatch rs.rep
      | _ => exact q.elim
    | _ => exact q.elim
/-- and (.. or): the first one a truth value -/
def sAnd (f f2 : En → Rs) : En → Rs := fun ρ => match f ρ with
  | .ok (.val (.bool b)) ρ1 => if b = true then f2 ρ1 else .ok (.val (.bool false)) ρ1
  | .ok _ _ => .bad
  | .exc c ρ1 => .exc c ρ1
  | .bad => .bad
def sOr (f f2 : En → Rs) : En → Rs := fun ρ => match f ρ with
  | .ok (.val (.bool b)) ρ1 => if b = true then .ok (.val (.bool true)) ρ1 else f2 ρ1
  | .ok _ _ => .bad
  | .exc c ρ1 => .exc c ρ1
  | .bad => .bad
section
variable {K : PySem.W.Frag} {mg : Str → Option Value} {σ : L2.St} {F H F1 H1 : Hp} {ρ ρ1 : En} {Q : VK} {Qb : Bool → Hp → Prop} {f2 : En → Rs}
/-- the rest of an expression, from a state ahead -/
theorem tE_shift (m : Mv K T σ F H ρ F1 H1 ρ1) (q : match f ρ1 with
    | .ok r ρ' => ∀ F' H' v, Mv K T σ F H ρ F' H' ρ' → Res K H σ ρ ρ' F' H' r v → Q v H'
    | .exc c ρ' => ∀ F' H' C, mg c = some (.ref C) → Mv K T σ F H ρ F' H' ρ' → W (.ref C) none σ H'
    | .bad => False) : tE K T W mg f σ H1 Q := by
  refine ⟨F1, ρ1, m.good, ?_⟩
  cases e : f ρ1 with
  | bad => rw [e] at q; exact q
  | exc c ρ2 => rw [e] at q; exact fun F' H' C hc m' => q F' H' C hc (m.trans m')
  | ok r ρ2 => rw [e] at q; exact fun F' H' v m' rs => q F' H' v (m.trans m') (Res.trans m rs)
theorem tTst_shift (m : Mv K T σ F H ρ F1 H1 ρ1) (q : match f ρ1 with
    | .ok (.val (.bool b)) ρ' => ∀ F' H', Mv K T σ F H ρ F' H' ρ' → Qb b H'
    | .ok _ _ => False
    | .exc c ρ' => ∀ F' H' C, mg c = some (.ref C) → Mv K T σ F H ρ F' H' ρ' → W (.ref C) none σ H'
    | .bad => False) : tTst K T W mg f σ H1 Qb := by
  refine ⟨F1, ρ1, m.good, ?_⟩
  cases e : f ρ1 with
  | bad => rw [e] at q; exact q
  | exc c ρ2 => rw [e] at q; exact fun F' H' C hc m' => q F' H' C hc (m.trans m')
  | ok r ρ2 =>
    rw [e] at q
    cases r with
    | val d =>
      cases d with
      | bool b => exact fun F' H' m' => q F' H' (m.trans m')
      | _ => exact q.elim
    | _ => exact q.elim
end
variable {f2 : En → Rs} {a b : Expr} {rest : List Expr}
theorem ct_and (ha : CT X T W a f) (hb : PW X (.BoolOp .And (b :: rest) pos) (tTst X.K T W X.mg f2)) : PW X (.BoolOp .And (a :: b :: rest) pos) (tTst X.K T W X.mg (sAnd f f2)) := by
  refine ⟨fun whole pins s σ H Q I ⟨F, ρ, G, q⟩ => (pw_and ha hb).run whole pins s σ H Q I ⟨F, ρ, G, ?_⟩⟩
  unfold sAnd at q
  cases e : f ρ with
  | bad => rw [e] at q; exact q
  | exc c ρ1 => rw [e] at q; exact q
  | ok r ρ1 =>
    rw [e] at q
    cases r with
    | val d =>
      cases d with
      | bool b =>
        intro F1 H1 m
        cases b with
        | true => simp only [if_true] at q ⊢; exact tTst_shift m q
        | false => simp only [Bool.false_eq_true, if_false] at q ⊢; exact q F1 H1 m
      | _ => exact q.elim
    | _ => exact q.elim
theorem ct_or (ha : CT X T W a f) (hb : PW X (.BoolOp .Or (b :: rest) pos) (tTst X.K T W X.mg f2)) : PW X (.BoolOp .Or (a :: b :: rest) pos) (tTst X.K T W X.mg (sOr f f2)) := by
  refine ⟨fun whole pins s σ H Q I ⟨F, ρ, G, q⟩ => (pw_or ha hb).run whole pins s σ H Q I ⟨F, ρ, G, ?_⟩⟩
  unfold sOr at q
  cases e : f ρ with
  | bad => rw [e] at q; exact q
  | exc c ρ1 => rw [e] at q; exact q
  | ok r ρ1 =>
    rw [e] at q
    cases r with
    | val d =>
      cases d with
      | bool b =>
        intro F1 H1 m
        cases b with
        | true => simp only [if_true] at q ⊢; exact q F1 H1 m
        | false => simp only [Bool.false_eq_true, if_false] at q ⊢; exact tTst_shift m q
      | _ => exact q.elim
    | _ => exact q.elim
theorem ct_and1 (ha : CT X T W a f) : PW X (.BoolOp .And [a] pos) (tTst X.K T W X.mg f) := pw_and1 ha
theorem ct_or1 (ha : CT X T W a f) : PW X (.BoolOp .Or [a] pos) (tTst X.K T W X.mg f) := pw_or1 ha
theorem ce_one {op} (h : CE X T W a f) : CE X T W (.BoolOp op [a] pos) f := pe_one h
theorem ce_and (ha : CE X T W a f) (hb : CE X T W (.BoolOp .And (b :: rest) pos) f2) : CE X T W (.BoolOp .And (a :: b :: rest) pos) (sAnd f f2) := by
  refine pe_imp (pe_and ha hb) fun σ H Q ⟨F, ρ, G, q⟩ => ⟨F, ρ, G, ?_⟩
  unfold sAnd at q
  cases e : f ρ with
  | bad => rw [e] at q; exact q
  | exc c ρ1 => rw [e] at q; exact q
  | ok r ρ1 =>
    rw [e] at q
    cases r with
    | val d =>
      cases d with
      | bool b =>
        intro F1 H1 v m rs
        cases v with
        | bl c =>
          have := rs.rep; cases this
          refine ⟨_, rfl, ?_⟩
          cases b with
          | true => simp only [if_true] at q ⊢; exact tE_shift m q
          | false => simp only [Bool.false_eq_true, if_false] at q ⊢; exact q F1 H1 _ m ⟨.bl _, fun z => by cases z⟩
        | _ => exact nomatch rs.rep
      | _ => exact q.elim
    | _ => exact q.elim
theorem ce_or (ha : CE X T W a f) (hb : CE X T W (.BoolOp .Or (b :: rest) pos) f2) : CE X T W (.BoolOp .Or (a :: b :: rest) pos) (sOr f f2) := by
  refine pe_imp (pe_or ha hb) fun σ H Q ⟨F, ρ, G, q⟩ => ⟨F, ρ, G, ?_⟩
  unfold sOr at q
  cases e : f ρ with
  | bad => rw [e] at q; exact q
  | exc c ρ1 => rw [e] at q; exact q
  | ok r ρ1 =>
    rw [e] at q
    cases r with
    | val d =>
      cases d with
      | bool b =>
        intro F1 H1 v m rs
        cases v with
        | bl c =>
          have := rs.rep; cases this
          refine ⟨_, rfl, ?_⟩
          cases b with
          | true => simp only [if_true] at q ⊢; exact q F1 H1 _ m ⟨.bl _, fun z => by cases z⟩
          | false => simp only [Bool.false_eq_true, if_false] at q ⊢; exact tE_shift m q
        | _ => exact nomatch rs.rep
      | _ => exact q.elim
    | _ => exact q.elim
def sIfE (ft f f2 : En → Rs) : En → Rs := fun ρ => match ft ρ with
  | .ok (.val (.bool b)) ρ1 => if b = true then f ρ1 else f2 ρ1
  | .ok _ _ => .bad
  | .exc c ρ1 => .exc c ρ1
  | .bad => .bad
theorem ce_ifE (ht : CT X T W e ft) (ha : CE X T W a f) (hb : CE X T W b f2) : CE X T W (.IfExp e a b pos) (sIfE ft f f2) := by
  refine pe_imp (pe_ifExp ht ha hb) fun σ H Q ⟨F, ρ, G, q⟩ => ⟨F, ρ, G, ?_⟩
  unfold sIfE at q
  cases e : ft ρ with
  | bad => rw [e] at q; exact q
  | exc c ρ1 => rw [e] at q; exact q
  | ok r ρ1 =>
    rw [e] at q
    cases r with
    | val d =>
      cases d with
      | bool b =>
        intro F1 H1 m
        cases b with
        | true => simp only [if_true] at q ⊢; exact tE_shift m q
        | false => simp only [Bool.false_eq_true, if_false] at q ⊢; exact tE_shift m q
      | _ => exact q.elim
    | _ => exact q.elim
def sIf (ft : En → Rs) (g g2 : En → Rt) : En → Rt := fun ρ => match ft ρ with
  | .ok (.val (.bool b)) ρ1 => if b = true then g ρ1 else g2 ρ1
  | .ok _ _ => .bad
  | .exc c ρ1 => .exc c ρ1
  | .bad => .bad
theorem cs_if {ss tt : List Stmt} (ht : CT X T W e ft) (ha : CSs X T W io ss g) (hb : CSs X T W io tt g2) : CS X T W io (.If e ss tt pos) (sIf ft g g2) := by
  refine ps_imp (ps_if ht ha hb) fun D σ H ⟨F, ρ, G, q⟩ => ⟨F, ρ, G, ?_⟩
  unfold sIf at q
  cases e : ft ρ with
  | bad => rw [e] at q; exact q
  | exc c ρ1 => rw [e] at q; exact fun F' H' C hc m => q F' H' σ C hc m.s
  | ok r ρ1 =>
    rw [e] at q
    cases r with
    | val d =>
      cases d with
      | bool b =>
        intro F1 H1 m
        cases b with
        | true => simp only [if_true] at q ⊢; exact ⟨F1, ρ1, m.good, q.shift m.s⟩
        | false => simp only [Bool.false_eq_true, if_false] at q ⊢; exact ⟨F1, ρ1, m.good, q.shift m.s⟩
      | _ => exact q.elim
    | _ => exact q.elim

/-! ### stores to names -/
/-- slot i takes r -/
theorem good_set {K : PySem.W.Frag} {F H : Hp} {σ : L2.St} {ρ : En} {i : Nat} {r : Sl} {v : V} (G : Good K T F H σ ρ) (hi : i < ρ.length) (hr : SlRep K F H v r) (hf : r.owned = true → ∀ a, v = .ref a → ¬ Own σ ρ a) :
    Good K T F H (σ.set i (some v)) (ρ.set i r) ∧ ∀ a, Own (σ.set i (some v)) (ρ.set i r) a → (r.owned = true ∧ v = .ref a) ∨ Own σ ρ a := by
  have hs : i < σ.length := by rw [← G.len]; exact hi
  have key : ∀ (j : Nat) (s : Sl) (a : Addr), (ρ.set i r)[j]? = some s → s.owned = true → (σ.set i (some v))[j]? = some (some (.ref a)) → (j = i ∧ s = r ∧ v = .ref a) ∨ (j ≠ i ∧ ρ[j]? = some s ∧ σ[j]? = some (some (.ref a))) := fun j s a q1 q2 q3 => by
    by_cases hj : i = j
    · subst hj
      rw [List.getElem?_set_self hi] at q1; rw [List.getElem?_set_self hs] at q3
      cases q1
      exact .inl ⟨rfl, rfl, Option.some.inj (Option.some.inj q3)⟩
    · rw [List.getElem?_set_ne hj] at q1 q3
      exact .inr ⟨fun z => hj z.symm, q1, q3⟩
  refine ⟨⟨G.le, G.tab, by rw [List.length_set, List.length_set]; exact G.len, fun j s q => ?_, fun j k s t c q1 q2 q3 q4 q5 q6 => ?_⟩, fun a ⟨j, s, q1, q2, q3⟩ => ?_⟩
  · by_cases hj : i = j
    · subst hj
      rw [List.getElem?_set_self hi] at q; cases q
      exact .inr ⟨v, List.getElem?_set_self hs, hr⟩
    · rw [List.getElem?_set_ne hj] at q ⊢
      exact G.at_ j s q
  · rcases key j s c q1 q3 q5 with ⟨e1, e2, e3⟩ | ⟨e1, e2, e3⟩ <;> rcases key k t c q2 q4 q6 with ⟨e4, e5, e6⟩ | ⟨e4, e5, e6⟩
    · rw [e1, e4]
    · subst e2; exact absurd ⟨k, t, e5, q4, e6⟩ (hf q3 c e3)
    · subst e5; exact absurd ⟨j, s, e2, q3, e3⟩ (hf q4 c e6)
    · exact G.sep j k s t c e2 e5 q3 q4 e3 e6
  · rcases key j s a q1 q2 q3 with ⟨e1, e2, e3⟩ | ⟨e1, e2, e3⟩
    · subst e2; exact .inl ⟨q2, e3⟩
    · exact .inr ⟨j, s, e2, q2, e3⟩
def sAsg (i : Nat) (f : En → Rs) : En → Rt := fun ρ => match f ρ with
  | .ok r ρ1 => if i < ρ1.length then .nxt (ρ1.set i r) else .bad
  | .exc c ρ1 => .exc c ρ1
  | .bad => .bad
theorem mv_set {K : PySem.W.Frag} {F H F1 H1 : Hp} {σ : L2.St} {ρ ρ1 : En} {i : Nat} {r : Sl} {v : V} (m : Mv K T σ F H ρ F1 H1 ρ1) (rs : Res K H σ ρ ρ1 F1 H1 r v) (hi : i < ρ1.length) (hio : i ∉ io) : MvS K T io σ F H ρ (σ.set i (some v)) F1 H1 (ρ1.set i r) := by
  obtain ⟨G, ow⟩ := good_set m.good hi rs.rep fun ho a e => (rs.fresh ho a e).1
  refine ⟨m.ext, G, fun a z => ?_, fun j hj => ?_⟩
  · rcases ow a z with ⟨h1, h2⟩ | h
    · exact (rs.fresh h1 a h2).2.symm
    · exact .inl (m.own a h)
  · have hne : i ≠ j := fun z => by subst z; exact hio hj
    exact ⟨List.getElem?_set_ne hne, fun s h o => m.os j s (by rw [List.getElem?_set_ne hne] at h; exact h) o⟩
theorem asg_then {K : PySem.W.Frag} {mg : Str → Option Value} {F H : Hp} {σ : L2.St} {ρ : En} {i : Nat} {D : Ends} (hio : i ∉ io) (G : Good K T F H σ ρ) (q : PS_ K T W mg io σ F H ρ (sAsg i f ρ) D) : tE K T W mg f σ H fun x H1 => D.nx (σ.set i (some x)) H1 := by
  refine ⟨F, ρ, G, ?_⟩
  unfold sAsg at q
  cases e : f ρ with
  | bad => rw [e] at q; exact q
  | exc c ρ1 => rw [e] at q; exact fun F' H' C hc m => q F' H' σ C hc m.s
  | ok r ρ1 =>
    rw [e] at q
    intro F1 H1 v m rs
    by_cases hi : i < ρ1.length
    · simp only [if_pos hi] at q
      exact q F1 H1 _ (mv_set m rs hi hio)
    · simp only [if_neg hi] at q
      exact q.elim
theorem cs_asg {i : Nat} {x : Str} {px : Pos} (h : CE X T W e f) (hN : X.N.Nodup) (hi : X.N[i]? = some x) (hx : Loc X.env.scope x) (hio : i ∉ io) (hs : swapsWith e (some (.Name x px)) pos.line X.env = pure false := by rfl) (hf : X.fn x = true ∨ X.env.scope.names.lookup x = some .local := by first | exact .inl rfl | exact .inr rfl | assumption) :
    CS X T W io (.Assign [.Name x px] e pos) (sAsg i f) :=
  ps_imp (ps_set hN hi hx h hs hf) fun D σ H ⟨F, ρ, G, q⟩ => asg_then hio G q
end
end Pu
end PuC_part
section PuD_part
set_option Elab.async false
set_option linter.all false
set_option maxRecDepth 100000
set_option maxHeartbeats 2000000
/-! The pure layer, part D: targets, walks, loops. -/
namespace Pu
open PySem PySem.Spec PyProof.Rows L2

/-! ### targets -/
def tG (K : PySem.W.Frag) (T : List Addr) (js : List Nat) (gt : D → En → Option En) : TG := fun v σ H Q => ∃ F ρ d, Good K T F H σ ρ ∧ Dq K F v d ∧
  match gt d ρ with
  | some ρ' => ∀ σ', Good K T F H σ' ρ' → (∀ a, Own σ' ρ' a → Own σ ρ a) → OS ρ ρ' → (∀ j, j ∉ js → σ'[j]? = σ[j]?) → σ'.length = σ.length → Q σ' H
  | none => False
def tGs (K : PySem.W.Frag) (T : List Addr) (js : List Nat) (gt : List D → En → Option En) : TGs := fun vs σ H Q => ∃ F ρ ds, Good K T F H σ ρ ∧ DqAll K F vs ds ∧
  match gt ds ρ with
  | some ρ' => ∀ σ', Good K T F H σ' ρ' → (∀ a, Own σ' ρ' a → Own σ ρ a) → OS ρ ρ' → (∀ j, j ∉ js → σ'[j]? = σ[j]?) → σ'.length = σ.length → Q σ' H
  | none => False
abbrev CG (X : Cx) (T : List Addr) (js : List Nat) (tg : Expr) (gt : D → En → Option En) : Prop := PG X tg (tG X.K T js gt)
abbrev CGs (X : Cx) (T : List Addr) (js : List Nat) (tgs : List Expr) (gt : List D → En → Option En) : Prop := PGs X tgs (tGs X.K T js gt)
theorem pg_imp {X : Cx} {tg : Expr} {t t' : TG} (h : PG X tg t) (hi : ∀ v σ H Q, t' v σ H Q → t v σ H Q) : PG X tg t' := ⟨fun pins s σ H v u Q I r q => h.run pins s σ H v u Q I r (hi v σ H Q q)⟩
theorem pgs_imp {X : Cx} {tg : List Expr} {t t' : TGs} (h : PGs X tg t) (hi : ∀ v σ H Q, t' v σ H Q → t v σ H Q) : PGs X tg t' := ⟨fun pins s σ H v u Q I r q => h.run pins s σ H v u Q I r (hi v σ H Q q)⟩
def gN (i : Nat) : D → En → Option En := fun d ρ => if i < ρ.length then some (ρ.set i (.val d)) else none
def gNil : List D → En → Option En := fun ds ρ => match ds with
  | [] => some ρ
  | _ => none
def gCons (g : D → En → Option En) (gs : List D → En → Option En) : List D → En → Option En := fun ds ρ => match ds with
  | [] => none
  | d :: ds => match g d ρ with
    | some ρ1 => gs ds ρ1
    | none => none
def gT (n : Nat) (gs : List D → En → Option En) : D → En → Option En := fun d ρ => match d with
  | .tuple ds => if ds.length = n then gs ds ρ else none
  | _ => none
section
variable {X : Cx} {T : List Addr} {W : WX} {io : List Nat} {tg e iter : Expr} {pos : Pos} {js js2 : List Nat} {g : D → En → Option En} {gs : List D → En → Option En} {f : En → Rs}
theorem cg_name {i : Nat} {x : Str} (hN : X.N.Nodup) (hi : X.N[i]? = some x) (hx : Loc X.env.scope x) (hf : X.fn x = true ∨ X.env.scope.names.lookup x = some .local := by first | exact .inl rfl | exact .inr rfl | assumption) : CG X T [i] (.Name x pos) (gN i) := by
  refine pg_imp (pg_name hN hi hx hf) fun v σ H Q ⟨F, ρ, d, G, dp, q⟩ => ?_
  unfold gN at q
  by_cases h : i < ρ.length
  · simp only [if_pos h] at q
    obtain ⟨G2, ow⟩ := good_set (r := .val d) G h dp fun z => by cases z
    refine q _ G2 (fun a z => ?_) (fun j s q1 q2 => ?_) (fun j hj => ?_) (by rw [List.length_set])
    · rcases ow a z with ⟨h1, _⟩ | h1
      · cases h1
      · exact h1
    · by_cases hj : i = j
      · subst hj; rw [List.getElem?_set_self h] at q1; cases q1; cases q2
      · rw [List.getElem?_set_ne hj] at q1; exact ⟨s, q1, q2⟩
    · exact List.getElem?_set_ne fun (z : i = j) => by subst z; exact hj (List.mem_singleton.mpr rfl)
  · simp only [if_neg h] at q
theorem cgs_nil : CGs X T [] [] gNil := by
  refine pgs_imp pgs_nil fun vs σ H Q ⟨F, ρ, ds, G, dp, q⟩ => ?_
  cases dp with
  | nil => exact ⟨rfl, q σ G (fun _ h => h) (OS.refl _) (fun _ _ => rfl) rfl⟩
  | cons a b => exact q.elim
theorem cgs_cons {ts : List Expr} (h1 : CG X T js tg g) (h2 : CGs X T js2 ts gs) (hs : (assignEach (tg :: ts) X.env).map (·.2) = assign tg X.env :: (assignEach ts X.env).map (·.2) := by rfl) : CGs X T (js ++ js2) (tg :: ts) (gCons g gs) := by
  refine pgs_imp (pgs_cons h1 h2 hs) fun vs σ H Q ⟨F, ρ, ds, G, dp, q⟩ => ?_
  cases dp with
  | nil => exact q.elim
  | @cons v vs d ds a b =>
    refine ⟨v, vs, rfl, F, ρ, d, G, a, ?_⟩
    unfold gCons at q
    cases h : g d ρ with
    | none => simp only [h] at q
    | some ρ1 =>
      simp only [h] at q
      intro σ1 G1 ow1 os1 k1 l1
      refine ⟨F, ρ1, ds, G1, b, ?_⟩
      cases h2 : gs ds ρ1 with
      | none => simp only [h2] at q
      | some ρ2 =>
        simp only [h2] at q
        exact fun σ2 G2 ow2 os2 k2 l2 => q σ2 G2 (fun a z => ow1 a (ow2 a z)) (os1.trans os2) (fun j hj => (k2 j fun z => hj (List.mem_append_right _ z)).trans (k1 j fun z => hj (List.mem_append_left _ z))) (l2.trans l1)
theorem cg_tup {es : List Expr} {k : Nat} {n : Nat} (hc : X.calm = true) (h : CGs X T js es gs) (hn : (assignEach es X.env).length = n := by rfl) (hst : (assignEach es X.env).findIdx? (·.1) = none := by rfl) : CG X T js (.Tuple es k pos) (gT n gs) := by
  refine pg_imp (pg_tup hc h hn hst) fun v σ H Q ⟨F, ρ, d, G, dp, q⟩ => ?_
  unfold gT at q
  cases dp with
  | @tup a xs ds hs ha =>
    by_cases hl : ds.length = n
    · simp only [if_pos hl] at q
      exact ⟨a, xs, rfl, (tps_le G.le hs).sq, (dpa_len ha).trans hl, F, ρ, ds, G, ha, q⟩
    · simp only [if_neg hl] at q
  | _ => exact q.elim
/-- a, b, .. = e -/
def sAsgT (g : D → En → Option En) (f : En → Rs) : En → Rt := fun ρ => match f ρ with
  | .ok r ρ1 => match fz r with
    | some d => match g d ρ1 with
      | some ρ2 => .nxt ρ2
      | none => .bad
    | none => .bad
  | .exc c ρ1 => .exc c ρ1
  | .bad => .bad
theorem cs_asgT (h : CE X T W e f) (hg : CG X T js tg g) (hio : ∀ i ∈ io, i ∉ js) (hs : swapsWithSole [tg] e pos.line X.env = pure false := by rfl) (hw : swappedStores [tg] e X.env = pure none := by rfl) (h1 : (assignEach [tg] X.env).map (·.2) = [assign tg X.env] := by rfl) : CS X T W io (.Assign [tg] e pos) (sAsgT g f) := by
  refine ps_imp (ps_asg h hg hs hw h1) fun D σ H ⟨F, ρ, G, q⟩ => ⟨F, ρ, G, ?_⟩
  unfold sAsgT at q
  cases e1 : f ρ with
  | bad => rw [e1] at q; exact q
  | exc c ρ1 => rw [e1] at q; exact fun F' H' C hc m => q F' H' σ C hc m.s
  | ok r ρ1 =>
    rw [e1] at q
    intro F1 H1 v m rs
    cases e2 : fz r with
    | none => simp only [e2] at q; exact q.elim
    | some d =>
      simp only [e2] at q
      obtain ⟨F2, m2, dp⟩ := mv_fz m rs e2
      refine ⟨F2, ρ1, d, m2.good, dp, ?_⟩
      cases e3 : g d ρ1 with
      | none => simp only [e3] at q; exact q.elim
      | some ρ2 =>
        simp only [e3] at q
        exact fun σ' G' ow os k l => q F2 H1 σ' ⟨m2.ext, G', fun a z => .inl (m2.own a (ow a z)), fun i hi => ⟨k i (hio i hi), fun s h o => (m2.os.trans os) i s h o⟩⟩
/-- a, b, .. = x, x a list of the name's own (or data) -/
def sUnp (gs : List D → En → Option En) (n i : Nat) : En → Rt := fun ρ => match ρ[i]? with
  | some (.lst ds) => if ds.length = n then match gs ds ρ with
      | some ρ2 => .nxt ρ2
      | none => .bad
    else .bad
  | some (.val (.list ds)) => if ds.length = n then match gs ds ρ with
      | some ρ2 => .nxt ρ2
      | none => .bad
    else .bad
  | _ => .bad
theorem cs_unp {i n : Nat} {es : List Expr} {k : Nat} {tpos : Pos} (h : PE X e (tVar i)) (hc : X.calm = true) (hg : CGs X T js es gs) (hio : ∀ i ∈ io, i ∉ js) (hn : (assignEach es X.env).length = n := by rfl) (hst : (assignEach es X.env).findIdx? (·.1) = none := by rfl)
    (hs : swapsWithSole [.Tuple es k tpos] e pos.line X.env = pure false := by rfl) (hw : swappedStores [.Tuple es k tpos] e X.env = pure none := by rfl) : CS X T W io (.Assign [.Tuple es k tpos] e pos) (sUnp gs n i) := by
  refine ps_imp (ps_asg h (pg_unl hc hg hn hst) hs hw) fun D σ H ⟨F, ρ, G, q⟩ => ?_
  have fin : ∀ (v : V) (a : Addr) (vs : List V) (ds : List PyData), σ[i]? = some (some v) → v = .ref a → SqL X.K H a vs → DqAll X.K F vs ds → ds.length = n → PS_ X.K T W X.mg io σ F H ρ (match gs ds ρ with
      | some ρ2 => .nxt ρ2
      | none => .bad) D → tAsg (tVar i) (gUnl X.K n (tGs X.K T js gs)) D σ H := fun v a vs ds h1 h2 h3 h4 h5 q => by
    refine ⟨v, h1, a, vs, h2, h3, (dpa_len h4).trans h5, F, ρ, ds, G, h4, ?_⟩
    cases e3 : gs ds ρ with
    | none => rw [e3] at q; exact q.elim
    | some ρ2 =>
      rw [e3] at q
      exact fun σ' G' ow os k l => q F H σ' ⟨Ext.refl, G', fun a z => .inl (ow a z), fun i hi => ⟨k i (hio i hi), fun s h o => os i s h o⟩⟩
  unfold sUnp at q
  cases h1 : ρ[i]? with
  | none => rw [h1] at q; exact q.elim
  | some s =>
    rw [h1] at q
    rcases G.at_ i s h1 with z | ⟨v, h2, h3⟩
    · subst z; exact q.elim
    · cases s with
      | lst ds =>
        obtain ⟨a, vs, e1, e2, e3, e4⟩ := h3
        by_cases hl : ds.length = n
        · simp only [if_pos hl] at q
          exact fin v a vs ds h2 e1 (SqL.of e3) e4 hl q
        · simp only [if_neg hl] at q; exact q.elim
      | val d =>
        cases d with
        | list ds =>
          cases h3 with
          | @lst a vs _ hs ha =>
            by_cases hl : ds.length = n
            · simp only [if_pos hl] at q
              exact fin _ a vs ds h2 rfl (sql_le G.le hs) ha hl q
            · simp only [if_neg hl] at q; exact q.elim
        | _ => exact q.elim
      | _ => exact q.elim

/-! ### walks -/
def WalkD (K : PySem.W.Frag) (F : Hp) (J : It) (its : List D) : Prop := ∀ F1 H, (∀ b o, F b = some o → F1 b = some o) → (∀ b o, F1 b = some o → H b = some o) →
  (∀ i, i < its.length → J.go i H) ∧ J.stop its.length H ∧ ∀ i x H' d, its[i]? = some d → J.yld i H x H' → ∃ F2, P0 F1 H F2 H' ∧ Dq K F2 x d
inductive Ri where
  | ok (its : List D) (p : En)
  | exc (c : Str) (p : En)
  | bad
def tI (K : PySem.W.Frag) (T : List Addr) (W : WX) (mg : Str → Option Value) (h : En → Ri) : TI := fun σ H R => ∃ F ρ, Good K T F H σ ρ ∧
  match h ρ with
  | .ok its ρ' => ∀ F' H' J, Mv K T σ F H ρ F' H' ρ' → WalkD K F' J its → R J H'
  | .exc c ρ' => ∀ F' H' C, mg c = some (.ref C) → Mv K T σ F H ρ F' H' ρ' → W (.ref C) none σ H'
  | .bad => False
abbrev CI (X : Cx) (T : List Addr) (W : WX) (tg iter : Expr) (h : En → Ri) : Prop := PI X tg iter (tI X.K T W X.mg h)
theorem dpa_get {K : PySem.W.Frag} {F : Hp} : ∀ {vs : List V} {ds : List D} {i : Nat} {d : D}, DqAll K F vs ds → ds[i]? = some d → ∃ v, vs[i]? = some v ∧ Dq K F v d
  | _, _, _, _, .nil, h => by simp at h
  | _, _, 0, _, .cons a b, h => by simp at h; subst h; exact ⟨_, rfl, a⟩
  | _, _, i + 1, _, .cons a b, h => by
    obtain ⟨v, h1, h2⟩ := dpa_get (i := i) b (by simpa using h)
    exact ⟨v, by simpa using h1, h2⟩
def itemsD : D → Option (List D)
  | .list ds => some ds
  | .tuple ds => some ds
  | .str x => some (x.cps.toList.map fun c => .str ⟨#[c]⟩)
  | _ => none
theorem walkd_list {K : PySem.W.Frag} {F : Hp} {a : Addr} {vs : List V} {ds : List D} (hs : SqL K F a vs) (ha : DqAll K F vs ds) : WalkD K F (Itl K a) ds := fun F1 H h1 h2 => by
  have q : SqL K H a vs := sql_le h2 (sql_le h1 hs)
  have hl := dpa_len ha
  refine ⟨fun i hi => ⟨vs, vs[i], q, by simp [hl, hi]⟩, ⟨vs, q, Nat.le_of_eq hl⟩, fun i x H' d hd y => ?_⟩
  obtain ⟨e, y⟩ := y
  subst e
  obtain ⟨v, e1, e2⟩ := dpa_get ha hd
  have e3 := y vs q
  rw [e1] at e3
  cases e3
  exact ⟨F1, P0.refl h2, dp_le h1 e2⟩
theorem walkd_tup {K : PySem.W.Frag} {F : Hp} {a : Addr} {vs : List V} {ds : List D} (hs : TpS K F a vs) (ha : DqAll K F vs ds) : WalkD K F (Itt K a) ds := fun F1 H h1 h2 => by
  have q : SqT K H a vs := (tps_le h2 (tps_le h1 hs)).sq
  have hl := dpa_len ha
  refine ⟨fun i hi => ⟨vs, vs[i], q, by simp [hl, hi]⟩, ⟨vs, q, Nat.le_of_eq hl⟩, fun i x H' d hd y => ?_⟩
  obtain ⟨e, y⟩ := y
  subst e
  obtain ⟨v, e1, e2⟩ := dpa_get ha hd
  have e3 := y vs q
  rw [e1] at e3
  cases e3
  exact ⟨F1, P0.refl h2, dp_le h1 e2⟩
theorem strOk_one {x : Str} {i c : Nat} (h : PyData.strOk x = true) (hc : x.cps[i]? = some c) : PyData.strOk ⟨#[c]⟩ = true := by
  unfold PyData.strOk at h ⊢
  rw [Array.all_eq_true] at h
  obtain ⟨hi, e⟩ := Array.getElem?_eq_some_iff.mp hc
  have := h i hi
  rw [e] at this
  simpa using this
theorem walkd_str {K : PySem.W.Frag} {F : Hp} {x : Str} (hx : PyData.strOk x = true) : WalkD K F (Its x) (x.cps.toList.map fun c => .str ⟨#[c]⟩) := fun F1 H h1 h2 => by
  have hl : (x.cps.toList.map fun c => (PyData.str ⟨#[c]⟩)).length = x.cps.size := by simp
  refine ⟨fun i hi => ?_, ?_, fun i v H' d hd y => ?_⟩
  · rw [hl] at hi; exact hi
  · rw [hl]; exact Nat.le_refl _
  · obtain ⟨e, c, hc, rfl⟩ := y
    subst e
    refine ⟨F1, P0.refl h2, ?_⟩
    rw [List.getElem?_map, Array.getElem?_toList, hc] at hd
    cases hd
    exact .str _ (strOk_one hx hc)
theorem seq_iter {pins : List (Addr × Obj)} {s1 : Shared} {σ : L2.St} {F H1 : Hp} {R : It → Hp → Prop} {x : V} {u : Value} {d : D} {its : List D} (I1 : Inv X pins σ H1 s1) (r1 : RelV x u) (dp : Dq X.K F x d) (le : ∀ b o, F b = some o → H1 b = some o) (hi : itemsD d = some its)
    (q : ∀ J, WalkD X.K F J its → R J H1) : wpAny (model X.prog X.w) X.A (pyIter u) (PIE X pins σ tg R) X.xe s1 := by
  cases dp with
  | non => cases hi
  | bl b => cases hi
  | int i => cases hi
  | str x hx =>
    cases hi
    obtain ⟨t, rfl⟩ := r1
    have q' := q (Its x) (walkd_str hx)
    cases ha : x.cps.all (· < 128)
    · exact wpAny_pyIter_wide ha (pi_one (tk := s1.toks) I1 _ (turn_str _ x t "str_iterator" (.inr rfl)) ⟨_, Heap.get?_push_size _ rfl, rfl, rfl⟩ q')
    · exact wpAny_pyIter_ascii ha (pi_one (tk := s1.toks) I1 _ (turn_str _ x t "str_ascii_iterator" (.inl rfl)) ⟨_, Heap.get?_push_size _ rfl, rfl, rfl⟩ q')
  | @lst a vs ds hs ha =>
    cases hi
    cases r1
    obtain ⟨its, rv, p, hz⟩ := I1.list (sql_le le hs)
    refine wpAny_pyIter_list p.isList ?_
    refine ⟨s1.heap.objs.size, [s1.heap.objs.size], _, _, H1, rfl, I1.kept (t' := s1.toks) fun b o e => Heap.get?_push_of_some _ e, turn_list a _, ⟨_, Heap.get?_push_size _ rfl, rfl, rfl⟩, fun b hb => ?_, q _ (walkd_list hs ha)⟩
    have e : b = s1.heap.objs.size := by simpa using hb
    subst e
    exact I1.fpOk (Nat.le_refl _) (I1.hok.fresh (Nat.le_refl _))
  | @tup a vs ds hs ha =>
    cases hi
    cases r1
    obtain ⟨its, rv, p, hz⟩ := I1.tuple (tps_le le hs).sq
    refine wpAny_pyIter_tuple (show s1.heap.IsTuple a its.toArray from p) ?_
    refine ⟨s1.heap.objs.size, [s1.heap.objs.size], _, _, H1, rfl, I1.kept (t' := s1.toks) fun b o e => Heap.get?_push_of_some _ e, turn_tuple a _, ⟨_, Heap.get?_push_size _ rfl, rfl, rfl⟩, fun b hb => ?_, q _ (walkd_tup hs ha)⟩
    have e : b = s1.heap.objs.size := by simpa using hb
    subst e
    exact I1.fpOk (Nat.le_refl _) (I1.hok.fresh (Nat.le_refl _))
def hSeq (f : En → Rs) : En → Ri := fun ρ => match f ρ with
  | .ok r ρ1 => match fz r with
    | some d => match itemsD d with
      | some its => .ok its ρ1
      | none => .bad
    | none => .bad
  | .exc c ρ1 => .exc c ρ1
  | .bad => .bad
theorem ci_seq (h : CE X T W iter f) : CI X T W tg iter (hSeq f) := by
  refine ⟨fun pins s σ H R I ⟨F, ρ, G, q⟩ => ?_⟩
  refine thn (h.run pins s σ H (fun x H1 => ∃ F1 d its, Dq X.K F1 x d ∧ (∀ b o, F1 b = some o → H1 b = some o) ∧ itemsD d = some its ∧ ∀ J, WalkD X.K F1 J its → R J H1) I ⟨F, ρ, G, ?_⟩) fun v s1 ⟨x, H1, I1, r1, F1, d, its, dp, le, hi, q1⟩ => seq_iter I1 r1 dp le hi q1
  unfold hSeq at q
  cases e1 : f ρ with
  | bad => rw [e1] at q; exact q
  | exc c ρ1 => rw [e1] at q; exact q
  | ok r ρ1 =>
    rw [e1] at q
    intro F1 H1 v m rs
    cases e2 : fz r with
    | none => simp only [e2] at q
    | some d =>
      simp only [e2] at q
      cases e3 : itemsD d with
      | none => simp only [e3] at q
      | some its =>
        simp only [e3] at q
        obtain ⟨F2, m2, dp⟩ := mv_fz m rs e2
        exact ⟨F2, d, its, dp, m2.good.le, e3, fun J w => q F2 H1 J m2 w⟩
/-- range(n), range(a, b) -/
def rangeD (lo : Int) (n : Nat) : List D := (List.range n).map fun (i : Nat) => .int (lo + (i : Int))
theorem walkd_range {K : PySem.W.Frag} {F : Hp} {lo : Int} {n : Nat} : WalkD K F (Itr lo n) (rangeD lo n) := fun F1 H h1 h2 => by
  have hl : (rangeD lo n).length = n := by simp [rangeD]
  refine ⟨fun i hi => ?_, ?_, fun i v H' d hd y => ?_⟩
  · rw [hl] at hi; exact hi
  · rw [hl]; exact Nat.le_refl _
  · obtain ⟨e, rfl⟩ := y
    subst e
    refine ⟨F1, P0.refl h2, ?_⟩
    unfold rangeD at hd
    rw [List.getElem?_map] at hd
    by_cases hi : i < n
    · rw [List.getElem?_range hi] at hd
      cases hd
      exact .int _
    · rw [List.getElem?_eq_none (by simpa using hi)] at hd
      cases hd
def rangeOf : List D → Option (List D)
  | [.int n] => if n < 2 ^ 62 ∧ -(2 ^ 62) ≤ n then some (rangeD 0 n.toNat) else none
  | [.int a, .int b] => if (a < 2 ^ 62 ∧ -(2 ^ 62) ≤ a) ∧ b < 2 ^ 62 ∧ -(2 ^ 62) ≤ b then some (rangeD a (b - a).toNat) else none
  | _ => none
def hRng (fs : List (En → Rs)) : En → Ri := fun ρ => match sArgs fs ρ with
  | .ok ds ρ1 => match rangeOf ds with
    | some its => .ok its ρ1
    | none => .bad
  | .exc c ρ1 => .exc c ρ1
  | .bad => .bad
theorem pi_imp {wi wi' : TI} (h : PI X tg iter wi) (hi : ∀ σ H R, wi' σ H R → wi σ H R) : PI X tg iter wi' := ⟨fun pins s σ H R I q => h.run pins s σ H R I (hi σ H R q)⟩
theorem ci_range1 {a : Expr} {p pos : Pos} (hg : Gl X "range") (hm : X.mg "range" = none) (ha : CA X T W [a] [f]) (hs : starEach [a] X.env = [(false, eval a X.env)] := by rfl) : CI X T W tg (.Call (.Name "range" p) [a] [] pos) (hRng [f]) := by
  refine pi_imp (pi_range1 hg hm ha hs) fun σ H R ⟨F, ρ, G, q⟩ => ⟨F, ρ, G, ?_⟩
  unfold hRng at q
  cases e1 : sArgs [f] ρ with
  | bad => rw [e1] at q; exact q
  | exc c ρ1 => rw [e1] at q; exact q
  | ok ds ρ1 =>
    rw [e1] at q
    intro F1 H1 vs m dps
    cases e2 : rangeOf ds with
    | none => simp only [e2] at q
    | some its =>
      simp only [e2] at q
      cases dps with
      | nil => cases e2
      | cons a b =>
        cases b with
        | nil =>
          cases a with
          | int n =>
            unfold rangeOf at e2
            simp only at e2
            split at e2
            · rename_i hb
              cases e2
              exact ⟨n, rfl, hb.2, hb.1, q F1 H1 _ m walkd_range⟩
            · cases e2
          | _ => cases e2
        | cons b c =>
          cases c with
          | nil =>
            unfold sArgs at e1
            cases h1 : f ρ with
            | bad => rw [h1] at e1; cases e1
            | exc c ρ1 => rw [h1] at e1; cases e1
            | ok r ρ1 =>
              rw [h1] at e1
              cases h2 : fz r with
              | none => simp only [h2] at e1; cases e1
              | some d => simp only [h2, sArgs] at e1; cases e1
          | cons c d => cases a <;> cases b <;> cases e2
theorem ci_range2 {a b : Expr} {f2 : En → Rs} {p pos : Pos} (hg : Gl X "range") (hm : X.mg "range" = none) (ha : CA X T W [a, b] [f, f2]) (hs : starEach [a, b] X.env = [(false, eval a X.env), (false, eval b X.env)] := by rfl) (hs2 : starEach [b] X.env = [(false, eval b X.env)] := by rfl) :
    CI X T W tg (.Call (.Name "range" p) [a, b] [] pos) (hRng [f, f2]) := by
  refine pi_imp (pi_range2 hg hm ha hs hs2) fun σ H R ⟨F, ρ, G, q⟩ => ⟨F, ρ, G, ?_⟩
  unfold hRng at q
  cases e1 : sArgs [f, f2] ρ with
  | bad => rw [e1] at q; exact q
  | exc c ρ1 => rw [e1] at q; exact q
  | ok ds ρ1 =>
    rw [e1] at q
    intro F1 H1 vs m dps
    cases e2 : rangeOf ds with
    | none => simp only [e2] at q
    | some its =>
      simp only [e2] at q
      have hl : ds.length = 2 := by
        unfold sArgs at e1
        cases h1 : f ρ with
        | bad => rw [h1] at e1; cases e1
        | exc c ρ1 => rw [h1] at e1; cases e1
        | ok r ρ1 =>
          rw [h1] at e1
          cases h2 : fz r with
          | none => simp only [h2] at e1; cases e1
          | some d =>
            simp only [h2, sArgs] at e1
            cases h3 : f2 ρ1 with
            | bad => simp only [h3] at e1; cases e1
            | exc c ρ1 => simp only [h3] at e1; cases e1
            | ok r ρ1 =>
              simp only [h3] at e1
              cases h4 : fz r with
              | none => simp only [h4] at e1; cases e1
              | some d => simp only [h4] at e1; cases e1; rfl
      cases dps with
      | nil => cases hl
      | cons a b =>
        cases b with
        | nil => cases hl
        | cons b c =>
          cases c with
          | cons c d => cases hl
          | nil =>
            cases a with
            | int n =>
              cases b with
              | int k =>
                unfold rangeOf at e2
                simp only at e2
                split at e2
                · rename_i hb
                  cases e2
                  exact ⟨n, k, rfl, ⟨hb.1.2, hb.1.1, hb.2.2, hb.2.1⟩, q F1 H1 _ m walkd_range⟩
                · cases e2
              | _ => cases e2
            | _ => cases e2

/-! ### for, while -/
def forLoop (gt : D → En → Option En) (g : En → Rt) : List D → En → Rt
  | [], ρ => .nxt ρ
  | d :: ds, ρ => match gt d ρ with
    | none => .bad
    | some ρ1 => match g ρ1 with
      | .nxt ρ2 => forLoop gt g ds ρ2
      | .cnt ρ2 => forLoop gt g ds ρ2
      | .brk ρ2 => .nxt ρ2
      | .ret r ρ2 => .ret r ρ2
      | .exc c ρ2 => .exc c ρ2
      | .bad => .bad
def sFor (h : En → Ri) (gt : D → En → Option En) (g : En → Rt) : En → Rt := fun ρ => match h ρ with
  | .ok its ρ1 => forLoop gt g its ρ1
  | .exc c ρ1 => .exc c ρ1
  | .bad => .bad
theorem MvS.p0 {K : PySem.W.Frag} {σ σ1 : L2.St} {F H F1 H1 F2 H2 : Hp} {ρ ρ1 : En} (m : MvS K T io σ F H ρ σ1 F1 H1 ρ1) (p : P0 F1 H1 F2 H2) : MvS K T io σ F H ρ σ1 F2 H2 ρ1 :=
  m.trans ((Mv.refl m.good).p0 p).s
theorem cs_for {body : List Stmt} {h : En → Ri} {gt : D → En → Option En} {g : En → Rt} (hp : PassesOwn (model X.prog X.w) X.A X.env X.xe) (hc : X.calm = true) (hi : CI X T W tg iter h) (hg : CG X T js tg gt) (hio : ∀ i ∈ io, i ∉ js) (hb : CSs X T W io body g)
    (hs : ∀ x, foldedSetIterable iter X.env x = pure x := by intro _; rfl) : CS X T W io (.For tg iter body [] pos) (sFor h gt g) := by
  refine ps_imp (ps_for hp hc hi hg hb hs) fun D σ H ⟨F, ρ, G, q⟩ => ⟨F, ρ, G, ?_⟩
  unfold sFor at q
  cases e1 : h ρ with
  | bad => rw [e1] at q; exact q
  | exc c ρ1 => rw [e1] at q; exact fun F' H' C hc m => q F' H' σ C hc m.s
  | ok its ρ1 =>
    rw [e1] at q
    intro F0 H0 J m0 wd
    refine ⟨fun i m σ H => m = its.length - i ∧ i ≤ its.length ∧ ∃ F ρ, Good X.K T F H σ ρ ∧ (∀ b o, F0 b = some o → F b = some o) ∧ PS_ X.K T W X.mg io σ F H ρ (forLoop gt g (its.drop i) ρ) D, ⟨its.length, by simp, Nat.zero_le _, F0, ρ1, m0.good, fun _ _ h => h, by rw [List.drop_zero]; exact q.shift m0.s⟩, ?_⟩
    rintro i m σ1 H1 ⟨rfl, hi, F1, ρ2, G1, le1, q1⟩
    obtain ⟨go, stop, yld⟩ := wd F1 H1 le1 G1.le
    by_cases hlt : i < its.length
    · refine .inr ⟨go i hlt, fun σ' H' => ∃ F ρ, Good X.K T F H' σ' ρ ∧ (∀ b o, F0 b = some o → F b = some o) ∧ PS_ X.K T W X.mg io σ' F H' ρ (forLoop gt g (its.drop (i + 1)) ρ) D, fun σ' H' nx => ⟨its.length - (i + 1), by omega, rfl, hlt, nx⟩, fun x H2 y => ?_⟩
      obtain ⟨F2, p, dp⟩ := yld i x H2 its[i] (List.getElem?_eq_getElem hlt) y
      have m2 := (MvS.refl (io := io) G1).p0 p
      refine ⟨F2, ρ2, its[i], m2.good, dp, ?_⟩
      rw [List.drop_eq_getElem_cons hlt, forLoop] at q1
      cases e2 : gt its[i] ρ2 with
      | none => simp only [e2] at q1; exact q1.elim
      | some ρ3 =>
        simp only [e2] at q1
        intro σ' G' ow os k l
        have m3 : MvS X.K T io σ1 F1 H1 ρ2 σ' F2 H2 ρ3 := ⟨m2.ext, G', fun a z => m2.own a (ow a z), fun i hi => ⟨k i (hio i hi), fun s h o => let ⟨t, h1, h2⟩ := os i s h o; (m2.io i hi).2 t h1 h2⟩⟩
        refine ⟨F2, ρ3, G', ?_⟩
        have le2 : ∀ b o, F0 b = some o → F2 b = some o := fun b o h => p.fle b o (le1 b o h)
        cases e3 : g ρ3 with
        | nxt ρ4 => simp only [e3] at q1; exact fun F' H' σ'' m => ⟨F', ρ4, m.good, fun b o h => m.ext.fle b o (le2 b o h), q1.shift (m3.trans m)⟩
        | cnt ρ4 => simp only [e3] at q1; exact fun F' H' σ'' m => ⟨F', ρ4, m.good, fun b o h => m.ext.fle b o (le2 b o h), q1.shift (m3.trans m)⟩
        | brk ρ4 => simp only [e3] at q1; exact fun F' H' σ'' m => q1 F' H' σ'' (m3.trans m)
        | ret r ρ4 =>
          simp only [e3] at q1
          exact q1.shift m3
        | exc c ρ4 => simp only [e3] at q1; exact fun F' H' σ'' C hc m => q1 F' H' σ'' C hc (m3.trans m)
        | bad => simp only [e3] at q1; exact q1.elim
    · have e : i = its.length := by omega
      subst e
      rw [List.drop_length] at q1
      exact .inl ⟨stop, q1 F1 H1 σ1 (MvS.refl G1)⟩
def sWhile (ft : En → Rs) (g : En → Rt) : Nat → En → Rt
  | 0, _ => .bad
  | n + 1, ρ => match ft ρ with
    | .ok (.val (.bool b)) ρ1 => if b = true then match g ρ1 with
        | .nxt ρ2 => sWhile ft g n ρ2
        | .cnt ρ2 => sWhile ft g n ρ2
        | .brk ρ2 => .nxt ρ2
        | .ret r ρ2 => .ret r ρ2
        | .exc c ρ2 => .exc c ρ2
        | .bad => .bad
      else .nxt ρ1
    | .ok _ _ => .bad
    | .exc c ρ1 => .exc c ρ1
    | .bad => .bad
theorem cs_while {body : List Stmt} {ft : En → Rs} {g : En → Rt} {n : Nat} (hp : PassesOwn (model X.prog X.w) X.A X.env X.xe) (ht : CT X T W e ft) (hb : CSs X T W io body g) : CS X T W io (.While e body [] pos) (sWhile ft g n) := by
  refine ps_imp (ps_while hp ht hb) fun D σ H ⟨F, ρ, G, q⟩ => ?_
  refine ⟨fun m σ H => ∃ F ρ, Good X.K T F H σ ρ ∧ PS_ X.K T W X.mg io σ F H ρ (sWhile ft g m ρ) D, ⟨n, F, ρ, G, q⟩, ?_⟩
  rintro m σ H ⟨F, ρ, G, q⟩
  refine ⟨F, ρ, G, ?_⟩
  cases m with
  | zero => exact q.elim
  | succ m =>
    unfold sWhile at q
    cases e1 : ft ρ with
    | bad => rw [e1] at q; exact q
    | exc c ρ1 => rw [e1] at q; exact fun F' H' C hc m => q F' H' σ C hc m.s
    | ok r ρ1 =>
      rw [e1] at q
      cases r with
      | val d =>
        cases d with
        | bool b =>
          intro F1 H1 m1
          cases b with
          | true =>
            simp only [if_true] at q ⊢
            refine ⟨fun σ' H' => ∃ F ρ, Good X.K T F H' σ' ρ ∧ PS_ X.K T W X.mg io σ' F H' ρ (sWhile ft g m ρ) D, fun σ' H' nx => ⟨m, Nat.lt_succ_self m, nx⟩, F1, ρ1, m1.good, ?_⟩
            cases e3 : g ρ1 with
            | nxt ρ4 => simp only [e3] at q; exact fun F' H' σ'' m => ⟨F', ρ4, m.good, q.shift (m1.s.trans m)⟩
            | cnt ρ4 => simp only [e3] at q; exact fun F' H' σ'' m => ⟨F', ρ4, m.good, q.shift (m1.s.trans m)⟩
            | brk ρ4 => simp only [e3] at q; exact fun F' H' σ'' m => q F' H' σ'' (m1.s.trans m)
            | ret r ρ4 => simp only [e3] at q; exact q.shift m1.s
            | exc c ρ4 => simp only [e3] at q; exact fun F' H' σ'' C hc m => q F' H' σ'' C hc (m1.s.trans m)
            | bad => simp only [e3] at q; exact q.elim
          | false =>
            simp only [Bool.false_eq_true, if_false] at q ⊢
            exact q F1 H1 σ m1.s
        | _ => exact q.elim
      | _ => exact q.elim
end
end Pu
end PuD_part
section PuE_part
set_option Elab.async false
set_option linter.all false
set_option maxRecDepth 100000
set_option maxHeartbeats 2000000
/-! The pure layer, part E: list comprehensions. -/
namespace Pu
open PySem PySem.Spec PyProof.Rows L2

def wipeE (ρ : En) : List Nat → En
  | [] => ρ
  | v :: vs => (wipeE ρ vs).set v .un
def backE (ρ ρ2 : En) : List Nat → En
  | [] => ρ2
  | v :: vs => (backE ρ ρ2 vs).set v (ρ.getD v .un)
theorem wipeE_len (ρ : En) : ∀ vs : List Nat, (wipeE ρ vs).length = ρ.length
  | [] => rfl
  | v :: vs => by unfold wipeE; rw [List.length_set, wipeE_len ρ vs]
theorem backE_len (ρ ρ2 : En) : ∀ vs : List Nat, (backE ρ ρ2 vs).length = ρ2.length
  | [] => rfl
  | v :: vs => by unfold backE; rw [List.length_set, backE_len ρ ρ2 vs]
theorem wipe_in {σ : L2.St} {j : Nat} : ∀ {vs : List Nat}, j ∈ vs → j < σ.length → (wipe σ vs)[j]? = some none
  | v :: vs, h, hl => by
    unfold wipe
    by_cases e : v = j
    · subst e; rw [List.getElem?_set_self (by rw [wipe_length]; exact hl)]
    · rw [List.getElem?_set_ne e]
      exact wipe_in ((List.mem_cons.mp h).resolve_left fun z => e z.symm) hl
theorem wipe_out {σ : L2.St} {j : Nat} : ∀ {vs : List Nat}, j ∉ vs → (wipe σ vs)[j]? = σ[j]?
  | [], _ => rfl
  | v :: vs, h => by
    unfold wipe
    rw [List.getElem?_set_ne (fun (z : v = j) => h (by rw [z]; exact List.mem_cons_self))]
    exact wipe_out fun z => h (List.mem_cons_of_mem _ z)
theorem wipeE_in {ρ : En} {j : Nat} : ∀ {vs : List Nat}, j ∈ vs → j < ρ.length → (wipeE ρ vs)[j]? = some .un
  | v :: vs, h, hl => by
    unfold wipeE
    by_cases e : v = j
    · subst e; rw [List.getElem?_set_self (by rw [wipeE_len]; exact hl)]
    · rw [List.getElem?_set_ne e]
      exact wipeE_in ((List.mem_cons.mp h).resolve_left fun z => e z.symm) hl
theorem wipeE_out {ρ : En} {j : Nat} : ∀ {vs : List Nat}, j ∉ vs → (wipeE ρ vs)[j]? = ρ[j]?
  | [], _ => rfl
  | v :: vs, h => by
    unfold wipeE
    rw [List.getElem?_set_ne (fun (z : v = j) => h (by rw [z]; exact List.mem_cons_self))]
    exact wipeE_out fun z => h (List.mem_cons_of_mem _ z)
theorem backE_in {ρ ρ2 : En} {j : Nat} : ∀ {vs : List Nat}, j ∈ vs → j < ρ2.length → (backE ρ ρ2 vs)[j]? = some (ρ.getD j .un)
  | v :: vs, h, hl => by
    unfold backE
    by_cases e : v = j
    · subst e; rw [List.getElem?_set_self (by rw [backE_len]; exact hl)]
    · rw [List.getElem?_set_ne e]
      exact backE_in ((List.mem_cons.mp h).resolve_left fun z => e z.symm) hl
theorem backE_out {ρ ρ2 : En} {j : Nat} : ∀ {vs : List Nat}, j ∉ vs → (backE ρ ρ2 vs)[j]? = ρ2[j]?
  | [], _ => rfl
  | v :: vs, h => by
    unfold backE
    rw [List.getElem?_set_ne (fun (z : v = j) => h (by rw [z]; exact List.mem_cons_self))]
    exact backE_out fun z => h (List.mem_cons_of_mem _ z)
theorem wipe_ext {σ σ2 : L2.St} {vs : List Nat} (hl : σ2.length = σ.length) (h : ∀ j, j ∉ vs → σ2[j]? = σ[j]?) : wipe σ2 vs = wipe σ vs := by
  refine List.ext_getElem? fun j => ?_
  by_cases hj : j ∈ vs
  · by_cases hlt : j < σ.length
    · rw [wipe_in hj hlt, wipe_in hj (by omega)]
    · rw [List.getElem?_eq_none (by rw [wipe_length]; omega), List.getElem?_eq_none (by rw [wipe_length]; omega)]
  · rw [wipe_out hj, wipe_out hj, h j hj]
section
variable {K : PySem.W.Frag} {T : List Addr} {σ : L2.St} {F H : Hp} {ρ : En} {vs : List Nat}
theorem own_wipe {a : Addr} : Own (wipe σ vs) (wipeE ρ vs) a ↔ ∃ (j : Nat) (s : Sl), j ∉ vs ∧ ρ[j]? = some s ∧ s.owned = true ∧ σ[j]? = some (some (V.ref a)) := by
  constructor
  · rintro ⟨j, s, q1, q2, q3⟩
    by_cases hj : j ∈ vs
    · by_cases hl : j < ρ.length
      · rw [wipeE_in hj hl] at q1; cases q1; cases q2
      · rw [List.getElem?_eq_none (by rw [wipeE_len]; omega)] at q1; cases q1
    · rw [wipeE_out hj] at q1; rw [wipe_out hj] at q3
      exact ⟨j, s, hj, q1, q2, q3⟩
  · rintro ⟨j, s, hj, q1, q2, q3⟩
    exact ⟨j, s, by rw [wipeE_out hj]; exact q1, q2, by rw [wipe_out hj]; exact q3⟩
theorem good_wipe (G : Good K T F H σ ρ) : Good K T F H (wipe σ vs) (wipeE ρ vs) := by
  refine ⟨G.le, G.tab, by rw [wipeE_len, wipe_length]; exact G.len, fun j s q => ?_, fun j k s t c q1 q2 q3 q4 q5 q6 => ?_⟩
  · by_cases hj : j ∈ vs
    · by_cases hl : j < ρ.length
      · rw [wipeE_in hj hl] at q; cases q; exact .inl rfl
      · rw [List.getElem?_eq_none (by rw [wipeE_len]; omega)] at q; cases q
    · rw [wipeE_out hj] at q
      rw [wipe_out hj]
      exact G.at_ j s q
  · have out : ∀ (j : Nat) (s : Sl), (wipeE ρ vs)[j]? = some s → s.owned = true → j ∉ vs := fun j s q o hj => by
      by_cases hl : j < ρ.length
      · rw [wipeE_in hj hl] at q; cases q; cases o
      · rw [List.getElem?_eq_none (by rw [wipeE_len]; omega)] at q; cases q
    have n1 := out j s q1 q3
    have n2 := out k t q2 q4
    rw [wipeE_out n1] at q1; rw [wipeE_out n2] at q2; rw [wipe_out n1] at q5; rw [wipe_out n2] at q6
    exact G.sep j k s t c q1 q2 q3 q4 q5 q6
theorem os_wipe {ρ1 ρ3 : En} (h : OS (wipeE ρ1 vs) ρ3) : OS (wipeE ρ1 vs) (wipeE ρ3 vs) := fun j s q o => by
  by_cases hj : j ∈ vs
  · by_cases hl : j < ρ3.length
    · rw [wipeE_in hj hl] at q; cases q; cases o
    · rw [List.getElem?_eq_none (by rw [wipeE_len]; omega)] at q; cases q
  · rw [wipeE_out hj] at q
    exact h j s q o
/-- a tracked object that is nobody's changes -/
theorem good_upd (G : Good K T F H σ ρ) {a : Addr} {o : HO} (hF : F a = none) (hO : ¬ Own σ ρ a) (hT : a ∉ T) : Good K T F (upd H a o) σ ρ := by
  refine ⟨fun b u h => by rw [upd_ne (ne_of_none h hF)]; exact G.le b u h, fun P hP => ?_, G.len, fun j s q => ?_, G.sep⟩
  · obtain ⟨h1, ps, h2, h3⟩ := G.tab P hP
    exact ⟨h1, ps, by rw [upd_ne (fun z => hT (by rw [← z]; exact hP))]; exact h2, h3⟩
  · rcases G.at_ j s q with z | ⟨v, h1, h2⟩
    · exact .inl z
    · refine .inr ⟨v, h1, ?_⟩
      have nb : ∀ b, s.owned = true → v = .ref b → b ≠ a := fun b ho e z => hO (by subst z; subst e; exact ⟨j, s, q, ho, h1⟩)
      cases s with
      | un => exact h2
      | exc c => exact h2
      | val d => exact h2
      | lst ds =>
        obtain ⟨b, ws, e1, e5, e6, e7⟩ := h2
        exact ⟨b, ws, e1, e5, by rw [upd_ne (nb b rfl e1)]; exact e6, e7⟩
      | dct kvs =>
        obtain ⟨b, e1, e5, e6⟩ := h2
        exact ⟨b, e1, e5, dcrep_mono (fun _ _ q => q) (fun u q => by rw [upd_ne (nb b rfl e1)]; exact q) e6⟩
/-- an object outside of all that may change -/
theorem Ext.stay {O : Addr → Prop} {F' H' : Hp} {a : Addr} {o : HO} (e : Ext T O F H F' H') (h : H a = some o) (hF : F a = none) (hO : ¬ O a) (hT : a ∉ T) : H' a = some o ∧ F' a = none := by
  refine ⟨e.keep a o h hO hT, ?_⟩
  cases q : F' a with
  | none => rfl
  | some u =>
    rcases e.new a u hF q with z | z
    · rw [h] at z; cases z
    · exact absurd z hO
theorem Ext.tail_upd {O : Addr → Prop} {F' H' : Hp} {a : Addr} {o : HO} (e : Ext T O F H F' H') (h : ¬ H a = none → O a) : Ext T O F H F' (upd H' a o) := by
  refine ⟨e.fle, e.new, fun b u h1 h2 h3 => ?_, fun b hb => ?_⟩
  · have : b ≠ a := fun z => h2 (by subst z; exact h (by rw [h1]; simp))
    rw [upd_ne this]; exact e.keep b u h1 h2 h3
  · by_cases z : b = a
    · subst z; rw [upd_same] at hb; cases hb
    · rw [upd_ne z] at hb; exact e.dom b hb
theorem dpa_app {vs ws : List V} {ds es : List D} (h : DqAll K F vs ds) (h2 : DqAll K F ws es) : DqAll K F (vs ++ ws) (ds ++ es) := by
  induction vs generalizing ds with
  | nil => cases h; exact h2
  | cons v vs ih => cases h with
    | cons a b => exact .cons a (ih b)
end

def lcLoop (vs : List Nat) (gt : D → En → Option En) (ft fe : En → Rs) : List D → En → Rl
  | [], ρ => .ok [] ρ
  | d :: ds, ρ => match gt d (wipeE ρ vs) with
    | none => .bad
    | some ρ1 => match ft ρ1 with
      | .ok (.val (.bool b)) ρ2 => if b = true then match fe ρ2 with
          | .ok r ρ3 => match fz r with
            | some y => match lcLoop vs gt ft fe ds ρ3 with
              | .ok ys ρ4 => .ok (y :: ys) ρ4
              | r => r
            | none => .bad
          | _ => .bad
        else lcLoop vs gt ft fe ds ρ2
      | _ => .bad
def sLc (vs : List Nat) (h : En → Ri) (gt : D → En → Option En) (ft fe : En → Rs) : En → Rs := fun ρ => match h ρ with
  | .ok its ρ1 => if its.length ≤ 1000000 then match lcLoop vs gt ft fe its ρ1 with
      | .ok ys ρ2 => .ok (.lst ys) (backE ρ1 ρ2 vs)
      | _ => .bad
    else .bad
  | .exc c ρ1 => .exc c ρ1
  | .bad => .bad
abbrev W0 : WX := fun _ _ _ _ => False
abbrev CTs (X : Cx) (T : List Addr) (W : WX) (ifs : List Expr) (f : En → Rs) : Prop := PTs X ifs (tTst X.K T W X.mg f)
section
variable {X : Cx} {T : List Addr} {W : WX} {io : List Nat} {tg e iter elt : Expr} {ifs : List Expr} {pos : Pos} {js : List Nat} {gt : D → En → Option En} {h : En → Ri} {ft fe : En → Rs} {own : List (Str × Nat)} {scope : Scope}
theorem cts_nil : CTs X T W [] (sC (.bool true)) := ⟨fun pins s σ H Q I ⟨F, ρ, G, q⟩ => pts_nil.run pins s σ H Q I (q F H (Mv.refl G))⟩
theorem cts_one {c : Expr} (h : CT X T W c ft) : CTs X T W [c] ft := pts_one h
theorem lc_read {K : PySem.W.Frag} {mg : Str → Option Value} {vs : List Nat} {σ : L2.St} {H : Hp} {Q : VK} (hjs : ∀ j ∈ js, j ∈ vs) (q : tE K T W mg (sLc vs h gt ft fe) σ H Q) :
    tLc (tI K T W mg h) (tG K T js gt) (tTst K T W0 mg ft) (tE K T W0 mg fe) vs σ H Q := by
  obtain ⟨F, ρ, G, q⟩ := q
  refine ⟨F, ρ, G, ?_⟩
  unfold sLc at q
  cases e1 : h ρ with
  | bad => rw [e1] at q; exact q
  | exc c ρ1 => rw [e1] at q; exact q
  | ok its ρ1 =>
    rw [e1] at q
    intro F1 H1 J m0 wd D nD
    by_cases hl : its.length ≤ 1000000
    case neg => simp only [if_neg hl] at q
    simp only [if_pos hl] at q
    cases e2 : lcLoop vs gt ft fe its ρ1 with
    | bad => simp only [e2] at q
    | exc c ρ2 => simp only [e2] at q
    | ok Y ρe =>
      simp only [e2] at q
      have G1 := m0.good
      have F1D : F1 D = none := by
        cases z : F1 D with
        | none => rfl
        | some u => rw [G1.le D u z] at nD; cases nD
      have DT : D ∉ T := fun z => by
        obtain ⟨_, ps, z2, _⟩ := G1.tab D z
        rw [nD] at z2; cases z2
      have owD : ∀ a, Own (wipe σ vs) (wipeE ρ1 vs) a → a ≠ D := fun a z e => by
        obtain ⟨j, s, _, q1, q2, q3⟩ := own_wipe.mp z
        obtain ⟨⟨u, h1, _⟩, _⟩ := G1.own_some ⟨j, s, q1, q2, q3⟩
        rw [e, nD] at h1; cases h1
      refine ⟨fun i m H => m = its.length - i ∧ i ≤ its.length ∧ ∃ (F : Hp) (ρ : En) (acc : List V) (ys zs : List PyData), Good K T F H (wipe σ vs) (wipeE ρ vs) ∧ Ext T (Own (wipe σ vs) (wipeE ρ1 vs)) F1 H1 F H ∧
        OS (wipeE ρ1 vs) (wipeE ρ vs) ∧ H D = some (.lst acc) ∧ F D = none ∧ DqAll K F acc ys ∧ ys.length ≤ i ∧ lcLoop vs gt ft fe (its.drop i) ρ = .ok zs ρe ∧ Y = ys ++ zs,
        ⟨its.length, by simp, Nat.zero_le _, F1, ρ1, [], [], Y, ?_, Ext.refl.tail_upd (fun z => absurd nD z), OS.refl _, upd_same, F1D, .nil, Nat.le_refl _, by rw [List.drop_zero]; exact e2, rfl⟩, ?_⟩
      · exact good_upd (good_wipe G1) F1D (fun z => owD D z rfl) DT
      · rintro i m H2 ⟨rfl, hi, F2, ρ2, acc, ys, zs, G2, x2, ow2, hD2, fD2, da2, ly2, el2, eY⟩
        obtain ⟨go, stop, yld⟩ := wd F2 H2 (fun b o z => x2.fle b o z) G2.le
        by_cases hlt : i < its.length
        · refine .inr ⟨go i hlt, fun H' => ∃ (F : Hp) (ρ : En) (acc : List V) (ys zs : List PyData), Good K T F H' (wipe σ vs) (wipeE ρ vs) ∧ Ext T (Own (wipe σ vs) (wipeE ρ1 vs)) F1 H1 F H' ∧
            OS (wipeE ρ1 vs) (wipeE ρ vs) ∧ H' D = some (.lst acc) ∧ F D = none ∧ DqAll K F acc ys ∧ ys.length ≤ i + 1 ∧ lcLoop vs gt ft fe (its.drop (i + 1)) ρ = .ok zs ρe ∧ Y = ys ++ zs,
            fun H' nx => ⟨its.length - (i + 1), by omega, rfl, hlt, nx⟩, fun x H3 y => ?_⟩
          obtain ⟨F3, p3, dp3⟩ := yld i x H3 its[i] (List.getElem?_eq_getElem hlt) y
          have m3 := (Mv.refl G2).p0 p3
          have x3 := x2.trans m3.ext fun c z => .inl (ow2.own z)
          obtain ⟨hD3, fD3⟩ := m3.ext.stay hD2 fD2 (fun z => owD D (ow2.own z) rfl) DT
          refine ⟨F3, wipeE ρ2 vs, its[i], m3.good, dp3, ?_⟩
          rw [List.drop_eq_getElem_cons hlt, lcLoop] at el2
          cases e3 : gt its[i] (wipeE ρ2 vs) with
          | none => simp only [e3] at el2; cases el2
          | some ρ3 =>
            simp only [e3] at el2
            intro σ3 G3 ow3 os3 k3 l3
            have ws : wipe σ3 vs = wipe σ vs := by
              refine (wipe_ext (σ := wipe σ vs) l3 fun j hj => k3 j fun z => hj (hjs j z)).trans (wipe_ext (wipe_length _ _) fun j hj => wipe_out hj)
            refine ⟨ws, F3, ρ3, G3, ?_⟩
            cases e4 : ft ρ3 with
            | bad => simp only [e4] at el2; cases el2
            | exc c ρ4 => simp only [e4] at el2; cases el2
            | ok r ρ4 =>
              cases r with
              | val d =>
                cases d with
                | bool b =>
                  simp only [e4] at el2
                  intro F4 H4 m4
                  have ow4 : ∀ a, Own σ3 ρ3 a → Own (wipe σ vs) (wipeE ρ1 vs) a := fun a z => ow2.own (ow3 a z)
                  have x4 := x3.trans m4.ext fun c z => .inl (ow4 c z)
                  obtain ⟨hD4, fD4⟩ := m4.ext.stay hD3 fD3 (fun z => owD D (ow4 D z) rfl) DT
                  have le34 : ∀ b o, F2 b = some o → F4 b = some o := fun b o z => m4.ext.fle b o (p3.fle b o z)
                  cases b with
                  | false =>
                    simp only [Bool.false_eq_true, if_false] at el2 ⊢
                    refine ⟨F4, ρ4, acc, ys, zs, by rw [← ws]; exact good_wipe m4.good, x4, os_wipe (ow2.trans (os3.trans m4.os)), hD4, fD4, dpa_le le34 da2, Nat.le_succ_of_le ly2, el2, eY⟩
                  | true =>
                    simp only [if_true] at el2 ⊢
                    refine ⟨F4, ρ4, m4.good, ?_⟩
                    cases e5 : fe ρ4 with
                    | bad => simp only [e5] at el2; cases el2
                    | exc c ρ5 => simp only [e5] at el2; cases el2
                    | ok r ρ5 =>
                      simp only [e5] at el2
                      intro F5 H5 v m5 rs
                      cases e6 : fz r with
                      | none => simp only [e6] at el2; cases el2
                      | some y0 =>
                        simp only [e6] at el2
                        obtain ⟨F6, m6, dp6⟩ := mv_fz m5 rs e6
                        cases e7 : lcLoop vs gt ft fe (its.drop (i + 1)) ρ5 with
                        | bad => simp only [e7] at el2; cases el2
                        | exc c ρ7 => simp only [e7] at el2; cases el2
                        | ok ws7 ρ7 =>
                          simp only [e7] at el2
                          cases el2
                          have ow5 : ∀ a, Own σ3 ρ4 a → Own (wipe σ vs) (wipeE ρ1 vs) a := fun a z => ow4 a (m4.own a z)
                          have x6 := x4.trans m6.ext fun c z => .inl (ow5 c z)
                          obtain ⟨hD6, fD6⟩ := m6.ext.stay hD4 fD4 (fun z => owD D (ow5 D z) rfl) DT
                          have ow6 : ∀ a, Own (wipe σ3 vs) (wipeE ρ5 vs) a → Own (wipe σ vs) (wipeE ρ1 vs) a := fun a z => by
                            obtain ⟨j, s, _, w1, w2, w3⟩ := own_wipe.mp z
                            exact ow5 a (m6.own a ⟨j, s, w1, w2, w3⟩)
                          have la : acc.length ≤ i := by rw [dpa_len da2]; exact ly2
                          refine ⟨acc, hD6, ?_, F6, ρ5, acc ++ [v], ys ++ [y0], ws7, ?_, ?_, os_wipe (ow2.trans (os3.trans (m4.os.trans m6.os))), upd_same, fD6, dpa_app (dpa_le (fun b o z => m6.ext.fle b o (le34 b o z)) da2) (.cons dp6 .nil), by rw [List.length_append]; show ys.length + 1 ≤ i + 1; omega, e7, ?_⟩
                          · rw [sizeLine_eq]; omega
                          · rw [← ws]
                            exact good_upd (good_wipe m6.good) fD6 (fun z => owD D (ow6 D z) rfl) DT
                          · exact x6.tail_upd fun z => absurd nD z
                          · rw [eY, List.append_assoc]; rfl
                | _ => simp only [e4] at el2; cases el2
              | _ => simp only [e4] at el2; cases el2
        · have ei : i = its.length := by omega
          subst ei
          rw [List.drop_length, lcLoop] at el2
          cases el2
          refine .inl ⟨stop, ?_⟩
          have lenE : ρe.length = ρ1.length := by
            have h1 := G2.len
            have h2 := G1.len
            rw [wipeE_len, wipe_length] at h1
            omega
          have eYY : Y = ys := by rw [eY, List.append_nil]
          have outW : ∀ (j : Nat) (s : Sl) (a : Addr), (backE ρ1 ρe vs)[j]? = some s → s.owned = true → σ[j]? = some (some (.ref a)) → (j ∈ vs ∧ ρ1[j]? = some s) ∨ (j ∉ vs ∧ ρe[j]? = some s ∧ Own (wipe σ vs) (wipeE ρ1 vs) a) := fun j s a q1 q2 q3 => by
            by_cases hj : j ∈ vs
            · have hlt : j < ρe.length := by
                have := (List.getElem?_eq_some_iff.mp q1).1
                rw [backE_len] at this; exact this
              rw [backE_in hj hlt] at q1
              refine .inl ⟨hj, ?_⟩
              rw [List.getD_eq_getElem?_getD, List.getElem?_eq_getElem (by omega)] at q1
              rw [List.getElem?_eq_getElem (by omega)]
              exact q1
            · rw [backE_out hj] at q1
              exact .inr ⟨hj, q1, ow2.own (own_wipe.mpr ⟨j, s, hj, q1, q2, q3⟩)⟩
          have owB : ∀ a, Own σ (backE ρ1 ρe vs) a → Own σ ρ1 a := fun a ⟨j, s, q1, q2, q3⟩ => by
            rcases outW j s a q1 q2 q3 with ⟨_, w⟩ | ⟨_, _, w⟩
            · exact ⟨j, s, w, q2, q3⟩
            · obtain ⟨k, t, _, w1, w2, w3⟩ := own_wipe.mp w
              exact ⟨k, t, w1, w2, w3⟩
          have GB : Good K T F2 H2 σ (backE ρ1 ρe vs) := by
            refine ⟨G2.le, G2.tab, by rw [backE_len]; exact lenE.trans G1.len, fun j s q1 => ?_, fun j k s t c q1 q2 q3 q4 q5 q6 => ?_⟩
            · by_cases hj : j ∈ vs
              · have hlt : j < ρe.length := by
                  have := (List.getElem?_eq_some_iff.mp q1).1
                  rw [backE_len] at this; exact this
                rw [backE_in hj hlt] at q1
                rw [List.getD_eq_getElem?_getD, List.getElem?_eq_getElem (by omega)] at q1
                have q2 : ρ1[j]? = some s := by rw [List.getElem?_eq_getElem (by omega)]; exact q1
                rcases G1.at_ j s q2 with z | ⟨v, h1, h2⟩
                · exact .inl z
                · refine .inr ⟨v, h1, ?_⟩
                  have st : ∀ (a : Addr) (o : HO), s.owned = true → v = .ref a → H1 a = some o → F1 a = none → H2 a = some o ∧ F2 a = none := fun a o ho e e1 e2 => by
                    refine x2.stay e1 e2 (fun z => ?_) (G1.own_tab ⟨j, s, q2, ho, by rw [h1, e]⟩)
                    obtain ⟨k, t, nk, w1, w2, w3⟩ := own_wipe.mp z
                    exact nk (by rw [G1.sep k j t s a w1 q2 w2 ho w3 (by rw [h1, e])]; exact hj)
                  cases s with
                  | un => exact h2
                  | exc c => exact h2
                  | val d => exact dp_le x2.fle h2
                  | lst ds =>
                    obtain ⟨b, ws, z1, z5, z6, z7⟩ := h2
                    obtain ⟨r1, r2⟩ := st b _ rfl z1 z6 z5
                    exact ⟨b, ws, z1, r2, r1, dpa_le x2.fle z7⟩
                  | dct kvs =>
                    obtain ⟨b, z1, z5, z6⟩ := h2
                    obtain ⟨u, hu, _⟩ := dcrep_some z6
                    obtain ⟨r1, r2⟩ := st b _ rfl z1 hu z5
                    exact ⟨b, z1, r2, dcrep_mono x2.fle (fun w q => by rw [hu] at q; cases q; exact r1) z6⟩
              · rw [backE_out hj] at q1
                have := G2.at_ j s (by rw [wipeE_out hj]; exact q1)
                rw [wipe_out hj] at this
                exact this
            · rcases outW j s c q1 q3 q5 with ⟨u1, u2⟩ | ⟨u1, u2, u3⟩ <;> rcases outW k t c q2 q4 q6 with ⟨w1, w2⟩ | ⟨w1, w2, w3⟩
              · exact G1.sep j k s t c u2 w2 q3 q4 q5 q6
              · obtain ⟨l, r, nl, z1, z2, z3⟩ := own_wipe.mp w3
                exact absurd (by rw [G1.sep l j r s c z1 u2 z2 q3 z3 q5]; exact u1) nl
              · obtain ⟨l, r, nl, z1, z2, z3⟩ := own_wipe.mp u3
                exact absurd (by rw [G1.sep l k r t c z1 w2 z2 q4 z3 q6]; exact w1) nl
              · exact G2.sep j k s t c (by rw [wipeE_out u1]; exact u2) (by rw [wipeE_out w1]; exact w2) q3 q4 (by rw [wipe_out u1]; exact q5) (by rw [wipe_out w1]; exact q6)
          have osB : OS ρ1 (backE ρ1 ρe vs) := fun j s q1 q2 => by
            by_cases hj : j ∈ vs
            · have hlt : j < ρe.length := by
                have := (List.getElem?_eq_some_iff.mp q1).1
                rw [backE_len] at this; exact this
              rw [backE_in hj hlt, List.getD_eq_getElem?_getD, List.getElem?_eq_getElem (by omega)] at q1
              exact ⟨s, by rw [List.getElem?_eq_getElem (by omega)]; exact q1, q2⟩
            · rw [backE_out hj] at q1
              obtain ⟨t, h1, h2⟩ := ow2 j s (by rw [wipeE_out hj]; exact q1) q2
              rw [wipeE_out hj] at h1
              exact ⟨t, h1, h2⟩
          have mB : Mv K T σ F1 H1 ρ1 F2 H2 (backE ρ1 ρe vs) := by
            refine ⟨⟨x2.fle, fun b o h1 h2 => ?_, fun b o h1 h2 h3 => x2.keep b o h1 (fun z => h2 ?_) h3, x2.dom⟩, GB, osB⟩
            · rcases x2.new b o h1 h2 with z | z
              · exact .inl z
              · obtain ⟨k, t, _, w1, w2, w3⟩ := own_wipe.mp z
                exact .inr ⟨k, t, w1, w2, w3⟩
            · obtain ⟨k, t, _, w1, w2, w3⟩ := own_wipe.mp z
              exact ⟨k, t, w1, w2, w3⟩
          refine q F2 H2 (.ref D) (m0.trans mB) (Res.trans m0 ⟨⟨D, acc, rfl, fD2, hD2, by rw [eYY]; exact da2⟩, fun _ a e => ?_⟩)
          cases e
          refine ⟨fun z => ?_, .inl nD⟩
          obtain ⟨⟨u, h1, _⟩, _⟩ := G1.own_some (owB _ z)
          rw [nD] at h1; cases h1
theorem ce_lc (hc : X.calm = true) (hN : X.N.Nodup) (hi : CI X T W tg iter h) (ok : BlkOk X.N X.env.scope scope own)
    (hg : ∀ (s : Shared) (H : Hp) (C : Addr) (cl : List (Str × Addr)) (fp : List Addr), CG (X.blk s H scope (compEnvC scope cl C X.env) fp) T js tg gt) (ht : ∀ (s : Shared) (H : Hp) (C : Addr) (cl : List (Str × Addr)) (fp : List Addr), CTs (X.blk s H scope (compEnvC scope cl C X.env) fp) T W0 ifs ft)
    (he : ∀ (s : Shared) (H : Hp) (C : Addr) (cl : List (Str × Addr)) (fp : List Addr), CE (X.blk s H scope (compEnvC scope cl C X.env) fp) T W0 elt fe) (hjs : ∀ j ∈ js, j ∈ own.map (·.2)) (hs : ∀ x, foldedSetIterable iter X.env x = pure x := by intro _; rfl) :
    CE X T W (.ListComp elt [⟨tg, iter, ifs, 0⟩] scope pos) (sLc (own.map (·.2)) h gt ft fe) :=
  pe_imp (pe_lc hc hN hi ok hg ht he hs) fun σ H Q q => lc_read hjs q
theorem cs_asgLc {i : Nat} {y : Str} {py spos : Pos} (hc : X.calm = true) (hN : X.N.Nodup) (hy : X.N[i]? = some y) (hyl : X.env.scope.names.lookup y = some .local) (hio : i ∉ io)
    (hsw : swapsWith (.ListComp elt [⟨tg, iter, ifs, 0⟩] scope pos) (some (.Name y py)) spos.line X.env = pure true) (hi : CI X T W tg iter h) (ok : BlkOk X.N X.env.scope scope own)
    (hg : ∀ (s : Shared) (H : Hp) (C : Addr) (cl : List (Str × Addr)) (fp : List Addr), CG (X.blk s H scope (compEnvC scope cl C X.env) fp) T js tg gt) (ht : ∀ (s : Shared) (H : Hp) (C : Addr) (cl : List (Str × Addr)) (fp : List Addr), CTs (X.blk s H scope (compEnvC scope cl C X.env) fp) T W0 ifs ft)
    (he : ∀ (s : Shared) (H : Hp) (C : Addr) (cl : List (Str × Addr)) (fp : List Addr), CE (X.blk s H scope (compEnvC scope cl C X.env) fp) T W0 elt fe) (hjs : ∀ j ∈ js, j ∈ own.map (·.2)) (hs : ∀ x, foldedSetIterable iter X.env x = pure x := by intro _; rfl) :
    CS X T W io (.Assign [.Name y py] (.ListComp elt [⟨tg, iter, ifs, 0⟩] scope pos) spos) (sAsg i (sLc (own.map (·.2)) h gt ft fe)) := by
  refine ps_imp (ps_setLc (te := tE X.K T W0 X.mg fe) (g := tG X.K T js gt) (tt := tTst X.K T W0 X.mg ft) hc hN hy hyl hsw hi ok hg ht he hs) fun D σ H ⟨F, ρ, G, q⟩ => ?_
  exact lc_read hjs (asg_then hio G q)
end
end Pu
end PuE_part
section PuG_part
set_option Elab.async false
set_option linter.all false
set_option maxRecDepth 100000
set_option maxHeartbeats 2000000
/-! The pure layer, part G: defs and their calls. -/
namespace Pu
open PySem PySem.Spec PyProof.Rows L2

def okIns (io : List Nat) : Nat → En → Bool
  | _, [] => true
  | i, s :: r => (!s.owned || io.contains i) && okIns io (i + 1) r
def outsOf (io : List Nat) : Nat → En → En → En
  | _, [], _ => []
  | i, s :: r, ρ => (if io.contains i then ρ.getD i .un else s) :: outsOf io (i + 1) r ρ
def mOf (n : Nat) (io : List Nat) (g : En → Rt) : En → Rs := fun ins => if okIns io 0 ins = true then match g (ins ++ List.replicate (n - ins.length) .un) with
    | .ret r ρ => .ok r (outsOf io 0 ins ρ)
    | .nxt ρ => .ok (.val .none) (outsOf io 0 ins ρ)
    | .exc c ρ => .exc c (outsOf io 0 ins ρ)
    | _ => .bad
  else .bad
def spM (K : PySem.W.Frag) (T : List Addr) (mg : Str → Option Value) (n : Nat) (m : En → Rs) : Sp := fun vs H Q E => ∃ F ins, Good K T F H (vs.map some) ins ∧ vs.length = n ∧
  match m ins with
  | .ok r outs => ∀ F' H' v, Mv K T (vs.map some) F H ins F' H' outs → Res K H (vs.map some) ins outs F' H' r v → Q v H'
  | .exc c outs => ∀ F' H' C, mg c = some (.ref C) → Mv K T (vs.map some) F H ins F' H' outs → E (.ref C) none H'
  | .bad => False
theorem okIns_at {io : List Nat} : ∀ {i : Nat} {ins : En} {j : Nat} {s : Sl}, okIns io i ins = true → ins[j]? = some s → s.owned = true → (i + j) ∈ io
  | _, [], _, _, _, h, _ => by simp at h
  | i, t :: r, 0, s, h, h1, h2 => by
    simp at h1; subst h1
    unfold okIns at h
    rw [h2] at h
    simp at h
    exact h.1
  | i, t :: r, j + 1, s, h, h1, h2 => by
    unfold okIns at h
    rw [Bool.and_eq_true] at h
    have := okIns_at (j := j) h.2 (by simpa using h1) h2
    rw [show i + (j + 1) = i + 1 + j by omega]
    exact this
theorem outs_at {io : List Nat} : ∀ {i : Nat} {ins ρ : En} {j : Nat}, (outsOf io i ins ρ)[j]? = ins[j]?.map fun s => if io.contains (i + j) then ρ.getD (i + j) .un else s
  | _, [], _, _ => by simp [outsOf]
  | i, t :: r, ρ, 0 => by simp [outsOf]
  | i, t :: r, ρ, j + 1 => by
    unfold outsOf
    rw [List.getElem?_cons_succ, List.getElem?_cons_succ, outs_at, show i + 1 + j = i + (j + 1) by omega]
theorem outs_len {io : List Nat} : ∀ {i : Nat} {ins ρ : En}, (outsOf io i ins ρ).length = ins.length
  | _, [], _ => rfl
  | i, t :: r, ρ => by unfold outsOf; rw [List.length_cons, List.length_cons, outs_len]
section
variable {K : PySem.W.Frag} {T : List Addr} {mg : Str → Option Value} {io : List Nat} {F H F' H' : Hp} {vs : List V} {ins ρ' : En} {N : List Str} {σ' : L2.St}
theorem start_lt {i : Nat} (h : i < vs.length) : (L2.start N vs)[i]? = (vs.map some)[i]? := by
  unfold L2.start
  rw [List.getElem?_append_left (by simpa using h)]
theorem good_start (G : Good K T F H (vs.map some) ins) (hl : vs.length ≤ N.length) : Good K T F H (L2.start N vs) (ins ++ List.replicate (N.length - ins.length) .un) ∧ ∀ a, Own (L2.start N vs) (ins ++ List.replicate (N.length - ins.length) .un) a → Own (vs.map some) ins a := by
  have e : ins.length = vs.length := by rw [G.len, List.length_map]
  have key : ∀ (j : Nat) (s : Sl), (ins ++ List.replicate (N.length - ins.length) .un)[j]? = some s → s ≠ .un → ins[j]? = some s ∧ j < vs.length := fun j s q n => by
    by_cases hj : j < ins.length
    · rw [List.getElem?_append_left hj] at q
      exact ⟨q, by omega⟩
    · rw [List.getElem?_append_right (by omega), List.getElem?_replicate] at q
      split at q
      · cases q; exact absurd rfl n
      · cases q
  have ow : ∀ s : Sl, s.owned = true → s ≠ .un := fun s h z => by subst z; cases h
  refine ⟨⟨G.le, G.tab, by unfold L2.start; simp; omega, fun j s q => ?_, fun j k s t c q1 q2 q3 q4 q5 q6 => ?_⟩, fun a ⟨j, s, q1, q2, q3⟩ => ?_⟩
  · by_cases z : s = .un
    · exact .inl z
    · obtain ⟨h1, h2⟩ := key j s q z
      rw [start_lt h2]
      exact G.at_ j s h1
  · obtain ⟨h1, h2⟩ := key j s q1 (ow s q3)
    obtain ⟨h3, h4⟩ := key k t q2 (ow t q4)
    rw [start_lt h2] at q5; rw [start_lt h4] at q6
    exact G.sep j k s t c h1 h3 q3 q4 q5 q6
  · obtain ⟨h1, h2⟩ := key j s q1 (ow s q2)
    rw [start_lt h2] at q3
    exact ⟨j, s, h1, q2, q3⟩
theorem outs_mv (G : Good K T F H (vs.map some) ins) (hl : vs.length ≤ N.length) (ok : okIns io 0 ins = true) (m : MvS K T io (L2.start N vs) F H (ins ++ List.replicate (N.length - ins.length) .un) σ' F' H' ρ') :
    Mv K T (vs.map some) F H ins F' H' (outsOf io 0 ins ρ') ∧ ∀ a, Own (vs.map some) (outsOf io 0 ins ρ') a → Own σ' ρ' a := by
  obtain ⟨G0, ow0⟩ := good_start (N := N) G hl
  have e : ins.length = vs.length := by rw [G.len, List.length_map]
  -- what stands at a place
  have key : ∀ (j : Nat) (s : Sl), (outsOf io 0 ins ρ')[j]? = some s → (j ∈ io ∧ j < vs.length ∧ ((ρ'[j]? = some s) ∨ s = .un)) ∨ (j ∉ io ∧ ins[j]? = some s ∧ s.owned = false) := fun j s q => by
    rw [outs_at, Nat.zero_add] at q
    cases h : ins[j]? with
    | none => rw [h] at q; cases q
    | some t =>
      rw [h] at q
      have hj : j < ins.length := (List.getElem?_eq_some_iff.mp h).1
      by_cases hio : io.contains j = true
      · simp only [Option.map_some, hio, if_true] at q
        refine .inl ⟨by simpa using hio, by omega, ?_⟩
        rw [List.getD_eq_getElem?_getD] at q
        cases z : ρ'[j]? with
        | none => rw [z] at q; right; simpa using q.symm
        | some u => rw [z] at q; left; simpa using q
      · simp only [Option.map_some, hio, if_false] at q
        have q' : t = s := by simpa using q
        subst q'
        refine .inr ⟨by simpa using hio, rfl, ?_⟩
        cases z : t.owned with
        | false => rfl
        | true =>
          have := okIns_at ok h z
          rw [Nat.zero_add] at this
          exact absurd (by simpa using this) hio
  have sio : ∀ j, j ∈ io → j < vs.length → σ'[j]? = (vs.map some)[j]? := fun j h1 h2 => (m.io j h1).1.trans (start_lt h2)
  have insO : ∀ (j : Nat) (s : Sl), j ∈ io → j < vs.length → ρ'[j]? = some s → s.owned = true → ∃ t, ins[j]? = some t ∧ t.owned = true := fun j s h1 h2 h3 h4 => by
    obtain ⟨t, w1, w2⟩ := (m.io j h1).2 s h3 h4
    rw [List.getElem?_append_left (by omega)] at w1
    exact ⟨t, w1, w2⟩
  have owO : ∀ (j : Nat) (s : Sl), (outsOf io 0 ins ρ')[j]? = some s → s.owned = true → j ∈ io ∧ j < vs.length ∧ ρ'[j]? = some s := fun j s q1 q2 => by
    rcases key j s q1 with ⟨h1, h2, h3 | h3⟩ | ⟨_, _, h3⟩
    · exact ⟨h1, h2, h3⟩
    · subst h3; cases q2
    · rw [h3] at q2; cases q2
  have lenO : (outsOf io 0 ins ρ').length = (vs.map some).length := by rw [outs_len, List.length_map, e]
  refine ⟨⟨⟨m.ext.fle, fun b o h1 h2 => ?_, fun b o h1 h2 h3 => m.ext.keep b o h1 (fun z => h2 (ow0 b z)) h3, m.ext.dom⟩, ⟨m.good.le, m.good.tab, lenO, fun j s q => ?_, fun j k s t c q1 q2 q3 q4 q5 q6 => ?_⟩, fun j s q1 q2 => ?_⟩, fun a ⟨j, s, q1, q2, q3⟩ => ?_⟩
  · rcases m.ext.new b o h1 h2 with z | z
    · exact .inl z
    · exact .inr (ow0 b z)
  · rcases key j s q with ⟨h1, h2, h3 | h3⟩ | ⟨_, h2, h3⟩
    · rcases m.good.at_ j s h3 with z | ⟨v, z1, z2⟩
      · exact .inl z
      · rw [sio j h1 h2] at z1
        exact .inr ⟨v, z1, z2⟩
    · exact .inl h3
    · rcases G.at_ j s h2 with z | ⟨v, z1, z2⟩
      · exact .inl z
      · refine .inr ⟨v, z1, ?_⟩
        cases s with
        | un => exact z2
        | exc c => exact z2
        | val d => exact dp_le m.ext.fle z2
        | lst ds => cases h3
        | dct kvs => cases h3
  · obtain ⟨a1, a2, a3⟩ := owO j s q1 q3
    obtain ⟨b1, b2, b3⟩ := owO k t q2 q4
    exact m.good.sep j k s t c a3 b3 q3 q4 (by rw [sio j a1 a2]; exact q5) (by rw [sio k b1 b2]; exact q6)
  · obtain ⟨a1, a2, a3⟩ := owO j s q1 q2
    exact insO j s a1 a2 a3 q2
  · obtain ⟨a1, a2, a3⟩ := owO j s q1 q2
    exact ⟨j, s, a3, q2, by rw [sio j a1 a2]; exact q3⟩
end
section
variable {P : Program} {w : World} {K : PySem.W.Frag} {mg : Str → Option Value} {base : Heap}
/-- THE RULE for a def -/
theorem fn_ok {T : List Addr} {io : List Nat} {g : En → Rt} {x qual : Str} {st : Stmt} {f : Addr} {fd : FuncData} {N ps : List Str} {k : Nat} (Fn : Fun K x qual st f fd) (S : FnScope N ps (defScope st))
    (hbody : ∀ (cdv : Value) (A : Around) (outer : List Env) (s : Shared) (H : Hp) (E : XK), Room k (A.deeper (envOfC qual (defScope st) s.heap.objs.size f cdv)) →
      CSs (cxOf (L2.CX P w) P w K mg base N qual (defScope st) f cdv A outer s H E) T (fun cls d _ H' => E cls d H') io (defBody st) g) :
    FnOk P w K mg base (L2.CX P w) (k + 1) f fd ps (spM K T mg ps.length (mOf N.length io g)) := by
  have hpl : ps.length ≤ N.length := by have := congrArg List.length S.pre; rw [List.length_take] at this; omega
  refine Fun.okX Fn S (fun vs H Q E ⟨F, ins, _, h, _⟩ => h) fun cdv A outer s H vs Q E hr ⟨F, ins, G, hl, q⟩ => ⟨_, hbody cdv A outer s H E hr, ?_⟩
  have hvl : vs.length ≤ N.length := by omega
  have el : ins.length = vs.length := by rw [G.len, List.length_map]
  obtain ⟨G0, ow0⟩ := good_start (N := N) G hvl
  refine ⟨F, _, G0, ?_⟩
  unfold mOf at q
  by_cases ok : okIns io 0 ins = true
  case neg => simp only [if_neg ok] at q
  simp only [if_pos ok] at q
  cases e : g (ins ++ List.replicate (N.length - ins.length) .un) with
  | bad => simp only [e] at q
  | brk ρ1 => simp only [e] at q
  | cnt ρ1 => simp only [e] at q
  | nxt ρ1 =>
    simp only [e] at q
    intro F' H' σ' m
    obtain ⟨m2, _⟩ := outs_mv G hvl ok m
    exact q F' H' .non m2 ⟨.non, fun z => by cases z⟩
  | exc c ρ1 =>
    simp only [e] at q
    intro F' H' σ' C hc m
    obtain ⟨m2, _⟩ := outs_mv G hvl ok m
    exact q F' H' C hc m2
  | ret r ρ1 =>
    simp only [e] at q
    intro F' H' σ' v m rp fr
    obtain ⟨m2, ow2⟩ := outs_mv G hvl ok m
    refine q F' H' v m2 ⟨rp, fun ho a ea => ?_⟩
    obtain ⟨h1, h2⟩ := fr ho a ea
    refine ⟨fun z => h1 (ow2 a z), ?_⟩
    rcases h2 with z | z
    · exact .inl z
    · exact .inr (ow0 a z)
end

/-! ### calls -/
inductive AK where
  | nm (i : Nat)
  | ex (f : En → Rs)
inductive Rc where
  | ok (xs : List (Sum PyData Nat)) (p : En)
  | exc (c : Str) (p : En)
  | bad
def sCArgs : List AK → En → Rc
  | [], ρ => .ok [] ρ
  | .nm i :: fs, ρ => match ρ[i]? with
    | none => .bad
    | some .un => .bad
    | some _ => match sCArgs fs ρ with
      | .ok xs ρ2 => .ok (.inr i :: xs) ρ2
      | r => r
  | .ex f :: fs, ρ => match f ρ with
    | .ok r ρ1 => match fz r with
      | some d => match sCArgs fs ρ1 with
        | .ok xs ρ2 => .ok (.inl d :: xs) ρ2
        | r => r
      | none => .bad
    | .exc c ρ1 => .exc c ρ1
    | .bad => .bad
def insOf : List (Sum PyData Nat) → En → List Nat → Option En
  | [], _, _ => some []
  | .inl d :: xs, ρ, us => match insOf xs ρ us with
    | some r => some (.val d :: r)
    | none => none
  | .inr i :: xs, ρ, us => match ρ[i]? with
    | none => none
    | some .un => none
    | some s => if s.owned && us.contains i then none else match insOf xs ρ (i :: us) with
      | some r => some (s :: r)
      | none => none
def backC : List (Sum PyData Nat) → En → En → En
  | .inl _ :: xs, _ :: os, ρ => backC xs os ρ
  | .inr i :: xs, o :: os, ρ => backC xs os (ρ.set i o)
  | _, _, ρ => ρ
def sCall (m : En → Rs) (as : List AK) : En → Rs := fun ρ => match sCArgs as ρ with
  | .ok xs ρ1 => match insOf xs ρ1 [] with
    | some ins => match m ins with
      | .ok r outs => .ok r (backC xs outs ρ1)
      | .exc c outs => .exc c (backC xs outs ρ1)
      | .bad => .bad
    | none => .bad
  | .exc c ρ1 => .exc c ρ1
  | .bad => .bad
inductive ArgR (K : PySem.W.Frag) (F : Hp) (σ : L2.St) : List V → List (Sum PyData Nat) → Prop
  | nil : ArgR K F σ [] []
  | inl {v vs d xs} : Dq K F v d → ArgR K F σ vs xs → ArgR K F σ (v :: vs) (.inl d :: xs)
  | inr {v vs i xs} : σ[i]? = some (some v) → ArgR K F σ vs xs → ArgR K F σ (v :: vs) (.inr i :: xs)
theorem ArgR.le {K : PySem.W.Frag} {F F' : Hp} {σ : L2.St} (h : ∀ b o, F b = some o → F' b = some o) : ∀ {vs xs}, ArgR K F σ vs xs → ArgR K F' σ vs xs
  | _, _, .nil => .nil
  | _, _, .inl a b => .inl (dp_le h a) (b.le h)
  | _, _, .inr a b => .inr a (b.le h)
theorem ArgR.len {K : PySem.W.Frag} {F : Hp} {σ : L2.St} : ∀ {vs xs}, ArgR K F σ vs xs → vs.length = xs.length
  | _, _, .nil => rfl
  | _, _, .inl _ b => by rw [List.length_cons, List.length_cons, b.len]
  | _, _, .inr _ b => by rw [List.length_cons, List.length_cons, b.len]
theorem ArgR.inl_at {K : PySem.W.Frag} {F : Hp} {σ : L2.St} : ∀ {vs xs} {k : Nat} {d : PyData}, ArgR K F σ vs xs → xs[k]? = some (.inl d) → ∃ v, vs[k]? = some v ∧ Dq K F v d
  | _, _, _, _, .nil, h => by simp at h
  | _, _, 0, _, .inl a _, h => by simp at h; subst h; exact ⟨_, rfl, a⟩
  | _, _, 0, _, .inr a _, h => by simp at h
  | _, _, k + 1, _, .inl _ b, h => by simpa using b.inl_at (k := k) (by simpa using h)
  | _, _, k + 1, _, .inr _ b, h => by simpa using b.inl_at (k := k) (by simpa using h)
theorem ArgR.inr_at {K : PySem.W.Frag} {F : Hp} {σ : L2.St} : ∀ {vs xs} {k i : Nat}, ArgR K F σ vs xs → xs[k]? = some (.inr i) → ∃ v, vs[k]? = some v ∧ σ[i]? = some (some v)
  | _, _, _, _, .nil, h => by simp at h
  | _, _, 0, _, .inl a _, h => by simp at h
  | _, _, 0, _, .inr a _, h => by simp at h; subst h; exact ⟨_, rfl, a⟩
  | _, _, k + 1, _, .inl _ b, h => by simpa using b.inr_at (k := k) (by simpa using h)
  | _, _, k + 1, _, .inr _ b, h => by simpa using b.inr_at (k := k) (by simpa using h)
theorem ins_spec : ∀ {xs : List (Sum PyData Nat)} {ρ : En} {us : List Nat} {ins : En}, insOf xs ρ us = some ins → ins.length = xs.length ∧ (∀ (k : Nat) (s : Sl), ins[k]? = some s → (∃ d, xs[k]? = some (.inl d) ∧ s = .val d) ∨ ∃ i, xs[k]? = some (.inr i) ∧ ρ[i]? = some s ∧ s ≠ .un ∧ (s.owned = true → i ∉ us)) ∧
    (∀ (k l i : Nat) (s : Sl), k < l → xs[k]? = some (.inr i) → xs[l]? = some (.inr i) → ins[l]? = some s → s.owned = true → False)
  | [], _, _, ins, h => by
    cases h
    exact ⟨rfl, fun k s h => by simp at h, fun k l i s _ h => by simp at h⟩
  | .inl d :: xs, ρ, us, ins, h => by
    unfold insOf at h
    cases e : insOf xs ρ us with
    | none => rw [e] at h; cases h
    | some r =>
      rw [e] at h
      cases h
      obtain ⟨h1, h2, h3⟩ := ins_spec e
      refine ⟨by simp [h1], fun k s hk => ?_, fun k l i s hkl a b c d => ?_⟩
      · cases k with
        | zero => simp at hk; exact .inl ⟨d, rfl, hk.symm⟩
        | succ k => simpa using h2 k s (by simpa using hk)
      · cases k with
        | zero => simp at a
        | succ k => cases l with
          | zero => omega
          | succ l => exact h3 k l i s (by omega) (by simpa using a) (by simpa using b) (by simpa using c) d
  | .inr i :: xs, ρ, us, ins, h => by
    unfold insOf at h
    cases e0 : ρ[i]? with
    | none => simp only [e0] at h; cases h
    | some s0 =>
      have h' : (if s0.owned && us.contains i then none else match insOf xs ρ (i :: us) with
        | some r => some (s0 :: r)
        | none => none) = some ins ∧ s0 ≠ .un := by
        cases s0 <;> first | (simp only [e0] at h; exact ⟨h, fun z => by cases z⟩) | (simp only [e0] at h; cases h)
      obtain ⟨h, hun⟩ := h'
      by_cases hc : (s0.owned && us.contains i) = true
      · rw [if_pos hc] at h; cases h
      · rw [if_neg hc] at h
        cases e : insOf xs ρ (i :: us) with
        | none => rw [e] at h; cases h
        | some r =>
          rw [e] at h
          cases h
          obtain ⟨h1, h2, h3⟩ := ins_spec e
          refine ⟨by simp [h1], fun k s hk => ?_, fun k l j s hkl a b c d => ?_⟩
          · cases k with
            | zero =>
              simp at hk
              subst hk
              refine .inr ⟨i, rfl, e0, hun, fun ho z => hc ?_⟩
              rw [ho]; simpa using z
            | succ k =>
              rcases h2 k s (by simpa using hk) with w | ⟨j, w1, w2, w3, w4⟩
              · exact .inl (by simpa using w)
              · exact .inr ⟨j, by simpa using w1, w2, w3, fun o z => w4 o (List.mem_cons_of_mem _ z)⟩
          · cases l with
            | zero => omega
            | succ l =>
              cases k with
              | zero =>
                simp at a
                subst a
                rcases h2 l s (by simpa using c) with ⟨d', w1, _⟩ | ⟨j', w1, _, _, w4⟩
                · rw [show xs[l]? = some (.inr i) by simpa using b] at w1; cases w1
                · rw [show xs[l]? = some (.inr i) by simpa using b] at w1
                  cases w1
                  exact w4 d List.mem_cons_self
              | succ k => exact h3 k l j s (by omega) (by simpa using a) (by simpa using b) (by simpa using c) d
theorem back_len : ∀ {xs : List (Sum PyData Nat)} {os ρ : En}, (backC xs os ρ).length = ρ.length
  | [], _, _ => by cases ‹En› <;> rfl
  | .inl _ :: _, [], _ => rfl
  | .inr _ :: _, [], _ => rfl
  | .inl _ :: xs, _ :: os, ρ => by unfold backC; exact back_len
  | .inr _ :: xs, _ :: os, ρ => by unfold backC; rw [back_len, List.length_set]
theorem back_spec : ∀ {xs : List (Sum PyData Nat)} {os ρ : En} {j : Nat} {s : Sl}, os.length = xs.length → (backC xs os ρ)[j]? = some s → (∃ k : Nat, xs[k]? = some (.inr j) ∧ os[k]? = some s) ∨ ((∀ k : Nat, xs[k]? ≠ some (.inr j)) ∧ ρ[j]? = some s)
  | [], [], _, _, _, _, h => .inr ⟨fun k => by simp, h⟩
  | .inl d :: xs, o :: os, ρ, j, s, hl, h => by
    unfold backC at h
    rcases back_spec (by simpa using hl) h with ⟨k, h1, h2⟩ | ⟨h1, h2⟩
    · exact .inl ⟨k + 1, by simpa using h1, by simpa using h2⟩
    · refine .inr ⟨fun k => ?_, h2⟩
      cases k with
      | zero => simp
      | succ k => simpa using h1 k
  | .inr i :: xs, o :: os, ρ, j, s, hl, h => by
    unfold backC at h
    rcases back_spec (by simpa using hl) h with ⟨k, h1, h2⟩ | ⟨h1, h2⟩
    · exact .inl ⟨k + 1, by simpa using h1, by simpa using h2⟩
    · by_cases hi : i = j
      · subst hi
        have hlt := (List.getElem?_eq_some_iff.mp h2).1
        rw [List.length_set] at hlt
        rw [List.getElem?_set_self hlt] at h2
        exact .inl ⟨0, rfl, h2⟩
      · rw [List.getElem?_set_ne hi] at h2
        refine .inr ⟨fun k => ?_, h2⟩
        cases k with
        | zero => simp [hi]
        | succ k => simpa using h1 k
section
variable {K : PySem.W.Frag} {T : List Addr} {W : WX} {mg : Str → Option Value} {F H F' H' : Hp} {vs : List V} {ins outs ρ : En} {σ : L2.St} {xs : List (Sum PyData Nat)} {r : Sl} {v : V}
theorem good_ins (G : Good K T F H σ ρ) (ar : ArgR K F σ vs xs) (hi : insOf xs ρ [] = some ins) : Good K T F H (vs.map some) ins ∧ (∀ a, Own (vs.map some) ins a → Own σ ρ a) := by
  obtain ⟨h1, h2, h3⟩ := ins_spec hi
  have look : ∀ (k i : Nat) (a : Addr), xs[k]? = some (.inr i) → (vs.map some)[k]? = some (some (V.ref a)) → σ[i]? = some (some (V.ref a)) := fun k i a q1 q2 => by
    obtain ⟨v, w1, w2⟩ := ar.inr_at q1
    rw [List.getElem?_map, w1] at q2
    cases q2
    exact w2
  refine ⟨⟨G.le, G.tab, by rw [List.length_map, h1, ar.len], fun k s q => ?_, fun k l s t c q1 q2 q3 q4 q5 q6 => ?_⟩, fun a ⟨k, s, q1, q2, q3⟩ => ?_⟩
  · rcases h2 k s q with ⟨d, w1, rfl⟩ | ⟨i, w1, w2, w3, _⟩
    · obtain ⟨v, z1, z2⟩ := ar.inl_at w1
      exact .inr ⟨v, by rw [List.getElem?_map, z1]; rfl, z2⟩
    · obtain ⟨v, z1, z2⟩ := ar.inr_at w1
      rcases G.at_ i s w2 with z | ⟨v', y1, y2⟩
      · exact absurd z w3
      · rw [z2] at y1
        cases y1
        exact .inr ⟨v, by rw [List.getElem?_map, z1]; rfl, y2⟩
  · rcases h2 k s q1 with ⟨d, _, rfl⟩ | ⟨i, w1, w2, _, _⟩
    · cases q3
    · rcases h2 l t q2 with ⟨d, _, rfl⟩ | ⟨j, y1, y2, _, _⟩
      · cases q4
      · have eij := G.sep i j s t c w2 y2 q3 q4 (look k i c w1 q5) (look l j c y1 q6)
        subst eij
        rcases Nat.lt_trichotomy k l with z | z | z
        · exact (h3 k l i t z w1 y1 q2 q4).elim
        · exact z
        · exact (h3 l k i s z y1 w1 q1 q3).elim
  · rcases h2 k s q1 with ⟨d, _, rfl⟩ | ⟨i, w1, w2, _, _⟩
    · cases q2
    · exact ⟨i, s, w2, q2, look k i a w1 q3⟩
theorem mv_back (G : Good K T F H σ ρ) (ar : ArgR K F σ vs xs) (hi : insOf xs ρ [] = some ins) (m : Mv K T (vs.map some) F H ins F' H' outs) :
    Mv K T σ F H ρ F' H' (backC xs outs ρ) ∧ (∀ a, Own σ (backC xs outs ρ) a → Own (vs.map some) outs a ∨ (Own σ ρ a ∧ ¬ Own (vs.map some) ins a)) := by
  obtain ⟨G1, ow1⟩ := good_ins G ar hi
  obtain ⟨h1, h2, h3⟩ := ins_spec hi
  have lenO : outs.length = xs.length := by rw [m.good.len, List.length_map, ar.len]
  have up : ∀ (k j : Nat), xs[k]? = some (.inr j) → ∃ v, (vs.map some)[k]? = some (some v) ∧ σ[j]? = some (some v) := fun k j q => by
    obtain ⟨v, w1, w2⟩ := ar.inr_at q
    exact ⟨v, by rw [List.getElem?_map, w1]; rfl, w2⟩
  -- an own object of a slot that is no argument is not the callee's
  have away : ∀ (j : Nat) (s : Sl) (a : Addr), (∀ k : Nat, xs[k]? ≠ some (.inr j)) → ρ[j]? = some s → s.owned = true → σ[j]? = some (some (V.ref a)) → ¬ Own (vs.map some) ins a := fun j s a n q1 q2 q3 ⟨k, t, w1, w2, w3⟩ => by
    rcases h2 k t w1 with ⟨d, _, rfl⟩ | ⟨i, y1, y2, _, _⟩
    · cases w2
    · obtain ⟨v, z1, z2⟩ := up k i y1
      rw [w3] at z1
      cases z1
      have := G.sep i j t s a y2 q1 w2 q2 z2 q3
      subst this
      exact n k y1
  refine ⟨⟨⟨m.ext.fle, fun b o q1 q2 => ?_, fun b o q1 q2 q3 => m.ext.keep b o q1 (fun z => q2 (ow1 b z)) q3, m.ext.dom⟩, ⟨m.good.le, m.good.tab, by rw [back_len]; exact G.len, fun j s q => ?_, fun j l s t c q1 q2 q3 q4 q5 q6 => ?_⟩, fun j s q1 q2 => ?_⟩, fun a ⟨j, s, q1, q2, q3⟩ => ?_⟩
  · rcases m.ext.new b o q1 q2 with z | z
    · exact .inl z
    · exact .inr (ow1 b z)
  · rcases back_spec lenO q with ⟨k, w1, w2⟩ | ⟨w1, w2⟩
    · obtain ⟨v, z1, z2⟩ := up k j w1
      rcases m.good.at_ k s w2 with z | ⟨v', y1, y2⟩
      · exact .inl z
      · rw [z1] at y1; cases y1
        exact .inr ⟨v, z2, y2⟩
    · rcases G.at_ j s w2 with z | ⟨v, y1, y2⟩
      · exact .inl z
      · refine .inr ⟨v, y1, ?_⟩
        have st : ∀ (a : Addr) (o : HO), s.owned = true → v = .ref a → H a = some o → F a = none → H' a = some o ∧ F' a = none := fun a o ho e e1 e2 =>
          m.ext.stay e1 e2 (away j s a w1 w2 ho (by rw [y1, e])) (G.own_tab ⟨j, s, w2, ho, by rw [y1, e]⟩)
        cases s with
        | un => exact y2
        | exc c => exact y2
        | val d => exact dp_le m.ext.fle y2
        | lst ds =>
          obtain ⟨b, ws, z1, z5, z6, z7⟩ := y2
          obtain ⟨r1, r2⟩ := st b _ rfl z1 z6 z5
          exact ⟨b, ws, z1, r2, r1, dpa_le m.ext.fle z7⟩
        | dct kvs =>
          obtain ⟨b, z1, z5, z6⟩ := y2
          obtain ⟨u, hu, _⟩ := dcrep_some z6
          obtain ⟨r1, r2⟩ := st b _ rfl z1 hu z5
          exact ⟨b, z1, r2, dcrep_mono m.ext.fle (fun w q => by rw [hu] at q; cases q; exact r1) z6⟩
  · have sepm : ∀ (j l k : Nat) (s t : Sl), xs[k]? = some (.inr j) → outs[k]? = some s → s.owned = true → σ[j]? = some (some (V.ref c)) → (∀ k : Nat, xs[k]? ≠ some (.inr l)) → ρ[l]? = some t → t.owned = true → σ[l]? = some (some (V.ref c)) → False := fun j l k s t a1 a2 a3 a4 a5 a6 a7 a8 => by
      obtain ⟨v, z1, z2⟩ := up k j a1
      rw [a4] at z2; cases z2
      exact away l t c a5 a6 a7 a8 (m.own c ⟨k, s, a2, a3, z1⟩)
    rcases back_spec lenO q1 with ⟨k, w1, w2⟩ | ⟨w1, w2⟩ <;> rcases back_spec lenO q2 with ⟨n, y1, y2⟩ | ⟨y1, y2⟩
    · obtain ⟨v, z1, z2⟩ := up k j w1
      obtain ⟨v', z3, z4⟩ := up n l y1
      rw [q5] at z2; rw [q6] at z4; cases z2; cases z4
      have := m.good.sep k n s t c w2 y2 q3 q4 z1 z3
      subst this
      rw [w1] at y1
      cases y1
      rfl
    · exact (sepm j l k s t w1 w2 q3 q5 y1 y2 q4 q6).elim
    · exact (sepm l j n t s y1 y2 q4 q6 w1 w2 q3 q5).elim
    · exact G.sep j l s t c w2 y2 q3 q4 q5 q6
  · rcases back_spec lenO q1 with ⟨k, w1, w2⟩ | ⟨w1, w2⟩
    · obtain ⟨t, z1, z2⟩ := m.os k s w2 q2
      rcases h2 k t z1 with ⟨d, y1, _⟩ | ⟨i, y1, y2, _, _⟩
      · rw [w1] at y1; cases y1
      · rw [w1] at y1; cases y1
        exact ⟨t, y2, z2⟩
    · exact ⟨s, w2, q2⟩
  · rcases back_spec lenO q1 with ⟨k, w1, w2⟩ | ⟨w1, w2⟩
    · obtain ⟨v, z1, z2⟩ := up k j w1
      rw [q3] at z2; cases z2
      exact .inl ⟨k, s, w2, q2, z1⟩
    · exact .inr ⟨⟨j, s, w2, q2, q3⟩, away j s a w1 w2 q2 q3⟩
end
/-! ### the arguments -/
def tCC (K : PySem.W.Frag) (T : List Addr) (W : WX) (mg : Str → Option Value) (as : List AK) : TA := fun σ H Q => ∃ F ρ, Good K T F H σ ρ ∧
  match sCArgs as ρ with
  | .ok xs ρ' => ∀ F' H' vs, Mv K T σ F H ρ F' H' ρ' → ArgR K F' σ vs xs → Q vs H'
  | .exc c ρ' => ∀ F' H' C, mg c = some (.ref C) → Mv K T σ F H ρ F' H' ρ' → W (.ref C) none σ H'
  | .bad => False
abbrev CC (X : Cx) (T : List Addr) (W : WX) (es : List Expr) (as : List AK) : Prop := PA X es (tCC X.K T W X.mg as)
section
variable {X : Cx} {T : List Addr} {W : WX} {e : Expr} {es : List Expr} {as : List AK} {f : En → Rs} {m : En → Rs}
theorem cc_nil : CC X T W [] [] := pa_imp pa_nil fun σ H Q ⟨F, ρ, G, q⟩ => q F H [] (Mv.refl G) .nil
theorem cc_ex (ha : CE X T W e f) (hr : CC X T W es as) (hs : starEach (e :: es) X.env = (false, eval e X.env) :: starEach es X.env := by rfl) : CC X T W (e :: es) (.ex f :: as) := by
  refine pa_imp (pa_cons ha hr hs) fun σ H Q ⟨F, ρ, G, q⟩ => ⟨F, ρ, G, ?_⟩
  rw [sCArgs] at q
  cases h1 : f ρ with
  | bad => rw [h1] at q; exact q
  | exc c ρ1 => rw [h1] at q; exact q
  | ok r ρ1 =>
    rw [h1] at q
    intro F1 H1 v m1 r1
    cases h2 : fz r with
    | none => simp only [h2] at q
    | some d =>
      simp only [h2] at q
      obtain ⟨F1', m1', dp⟩ := mv_fz m1 r1 h2
      refine ⟨F1', ρ1, m1'.good, ?_⟩
      cases h3 : sCArgs as ρ1 with
      | bad => simp only [h3] at q
      | exc c ρ2 => simp only [h3] at q; exact fun F' H' C e m => q F' H' C e (m1'.trans m)
      | ok ds ρ2 => simp only [h3] at q; exact fun F' H' vs m dps => q F' H' (v :: vs) (m1'.trans m) (.inl (dp_le m.ext.fle dp) dps)
theorem cc_nm {i : Nat} (ha : PE X e (tVar i)) (hr : CC X T W es as) (hs : starEach (e :: es) X.env = (false, eval e X.env) :: starEach es X.env := by rfl) : CC X T W (e :: es) (.nm i :: as) := by
  refine pa_imp (pa_cons ha hr hs) fun σ H Q ⟨F, ρ, G, q⟩ => ?_
  rw [sCArgs] at q
  cases h1 : ρ[i]? with
  | none => simp only [h1] at q
  | some s =>
    rcases G.at_ i s h1 with z | ⟨v, h2, _⟩
    · subst z; simp only [h1] at q
    · refine ⟨v, h2, F, ρ, G, ?_⟩
      cases h3 : sCArgs as ρ with
      | bad => cases s <;> simp only [h1, h3] at q
      | exc c ρ2 => cases s <;> simp only [h1, h3] at q <;> exact q
      | ok ds ρ2 => cases s <;> simp only [h1, h3] at q <;> exact fun F' H' vs m dps => q F' H' (v :: vs) m (.inr h2 dps)
theorem ce_call {k n : Nat} {fa : Addr} {fd : FuncData} {ps : List Str} {x : Str} {p pos : Pos} (Fn : FnOk X.prog X.w X.K X.mg X.base (L2.CX X.prog X.w) k fa fd ps (spM X.K T X.mg n m)) (hn : as.length = n) (hr : Room k X.A) (tk : Takes X W) (hg : Gl X x) (hm : X.mg x = some (.ref fa)) (hk : PySem.W.keepIn X.K (.ref fa) = true) (hb : Binds X.K fd ps [])
    (ha : CC X T W (e :: es) as) (hdb : (x == ("__debug__" : Str)) = false := by decide) (he : starEach (e :: es) X.env = (false, eval e X.env) :: starEach es X.env := by rfl) (hpl : (backTo pos (starEach es X.env)).any (·.1) = false := by rfl) :
    CE X T W (.Call (.Name x p) (e :: es) [] pos) (sCall m as) := by
  refine pe_imp (pe_callS Fn hr hg hm hk hb (fun σ => passAt tk σ) ha hdb he hpl) fun σ H Q ⟨F, ρ, G, q⟩ => ⟨F, ρ, G, ?_⟩
  unfold sCall at q
  have hlen : ∀ {as : List AK} {ρ : En} {xs : List (Sum PyData Nat)} {ρ' : En}, sCArgs as ρ = .ok xs ρ' → xs.length = as.length := by
    intro as
    induction as with
    | nil => intro ρ xs ρ' h; unfold sCArgs at h; cases h; rfl
    | cons a as ih =>
      intro ρ xs ρ' h
      cases a with
      | nm i =>
        unfold sCArgs at h
        cases h1 : ρ[i]? with
        | none => simp only [h1] at h; cases h
        | some s =>
          cases h3 : sCArgs as ρ with
          | bad => cases s <;> simp only [h1, h3] at h <;> cases h
          | exc c ρ2 => cases s <;> simp only [h1, h3] at h <;> cases h
          | ok ds ρ2 => cases s <;> simp only [h1, h3] at h <;> cases h <;> simp [ih h3]
      | ex f =>
        unfold sCArgs at h
        cases h1 : f ρ with
        | bad => simp only [h1] at h; cases h
        | exc c ρ1 => simp only [h1] at h; cases h
        | ok r ρ1 =>
          simp only [h1] at h
          cases h2 : fz r with
          | none => simp only [h2] at h; cases h
          | some d =>
            simp only [h2] at h
            cases h3 : sCArgs as ρ1 with
            | bad => simp only [h3] at h; cases h
            | exc c ρ2 => simp only [h3] at h; cases h
            | ok ds ρ2 => simp only [h3] at h; cases h; simp [ih h3]
  cases e1 : sCArgs as ρ with
  | bad => rw [e1] at q; exact q
  | exc c ρ1 => rw [e1] at q; exact q
  | ok xs ρ1 =>
    rw [e1] at q
    intro F1 H1 vs m1 ar
    cases e2 : insOf xs ρ1 [] with
    | none => simp only [e2] at q
    | some ins =>
      simp only [e2] at q
      obtain ⟨G2, ow2⟩ := good_ins m1.good ar e2
      refine ⟨F1, ins, G2, by rw [ar.len, hlen e1, hn], ?_⟩
      cases e3 : m ins with
      | bad => simp only [e3] at q
      | exc c outs =>
        simp only [e3] at q
        intro F' H' C hc m2
        exact q F' H' C hc (m1.trans (mv_back m1.good ar e2 m2).1)
      | ok r outs =>
        simp only [e3] at q
        intro F' H' v m2 rs
        obtain ⟨m3, ow3⟩ := mv_back m1.good ar e2 m2
        refine q F' H' v (m1.trans m3) (Res.trans m1 ⟨rs.rep, fun ho a ea => ?_⟩)
        obtain ⟨h1, h2⟩ := rs.fresh ho a ea
        refine ⟨fun z => ?_, ?_⟩
        · rcases ow3 a z with w | ⟨w1, w2⟩
          · exact h1 w
          · rcases h2 with w | w
            · obtain ⟨⟨u, y1, _⟩, _⟩ := m1.good.own_some w1
              rw [w] at y1; cases y1
            · exact w2 w
        · rcases h2 with w | w
          · exact .inl w
          · exact .inr (ow2 a w)
end
end Pu
end PuG_part
section PuH_part
set_option Elab.async false
set_option linter.all false
set_option maxRecDepth 100000
set_option maxHeartbeats 2000000
/-! The pure layer, part H: primitive operations. -/
namespace Pu
open PySem PySem.Spec PyProof.Rows L2

def isSmall (n : Nat) : Bool := decide (n ≤ 1000000)
theorem small_line {n : Nat} (h : isSmall n = true) : n ≤ sizeLine := by
  have := of_decide_eq_true h
  rw [sizeLine_eq]; omega
/-! ### ints -/
def oSub : List D → Option Sl
  | [.int i, .int j] => some (.val (.int (i - j)))
  | _ => none
def oMul : List D → Option Sl
  | [.int i, .int j] => if (-(2 ^ 64) < i ∧ i < 2 ^ 64) ∨ (-(2 ^ 64) < j ∧ j < 2 ^ 64) then some (.val (.int (i * j))) else none
  | _ => none
def oFdiv : List D → Option Sl
  | [.int i, .int j] => if 0 < j ∧ j < 2 ^ 64 then some (.val (.int (i / j))) else none
  | _ => none
def oMod : List D → Option Sl
  | [.int i, .int j] => if 0 < j then some (.val (.int (i % j))) else none
  | _ => none
def oPow : List D → Option Sl
  | [.int i, .int j] => if 0 ≤ j ∧ j ≤ 1000 ∧ i.natAbs < 2 ^ 64 then some (.val (.int (i ^ j.toNat))) else none
  | _ => none
def oShl : List D → Option Sl
  | [.int i, .int j] => if 0 ≤ j ∧ j ≤ 1000 ∧ i.natAbs < 2 ^ 64 then some (.val (.int (i * 2 ^ j.toNat))) else none
  | _ => none
def oShr : List D → Option Sl
  | [.int i, .int j] => if 0 ≤ j then some (.val (.int (i / 2 ^ j.toNat))) else none
  | _ => none
def oXor : List D → Option Sl
  | [.int i, .int j] => some (.val (.int (Builtin.bitXor i j)))
  | _ => none
def oAnd : List D → Option Sl
  | [.int i, .int j] => some (.val (.int (Builtin.bitAnd i j)))
  | _ => none
def oNeg : List D → Option Sl
  | [.int i] => some (.val (.int (-i)))
  | _ => none
section
variable {X : Cx} {K : PySem.W.Frag}
/-- two places -/
theorem rD_two {o : List D → Option Sl} {x y : V} {H : Hp} {Q : VK} (h : rD K o x y H Q) : ∃ F d e z, (∀ b o, F b = some o → H b = some o) ∧ Dq K F x d ∧ Dq K F y e ∧ o [d, e] = some z ∧ ∀ F' H' v, P0 F H F' H' → R0 K H F' H' z v → Q v H' := by
  obtain ⟨F, ds, z, le, dp, hz, k⟩ := h
  cases dp with
  | cons a b => cases b with
    | cons b c => cases c with
      | nil => exact ⟨F, _, _, z, le, a, b, hz, k⟩
theorem rDs_one {o : List D → Option Sl} {vs : List V} {H : Hp} {Q : VK} (h : rDs K o vs H Q) (h1 : ∀ ds z, o ds = some z → ds.length = 1) : ∃ F d v z, vs = [v] ∧ (∀ b o, F b = some o → H b = some o) ∧ Dq K F v d ∧ o [d] = some z ∧ ∀ F' H' v, P0 F H F' H' → R0 K H F' H' z v → Q v H' := by
  obtain ⟨F, ds, z, le, dp, hz, k⟩ := h
  have := h1 ds z hz
  cases dp with
  | nil => cases this
  | cons a b => cases b with
    | nil => exact ⟨F, _, _, z, rfl, le, a, hz, k⟩
    | cons b c => cases this
/-- an operation of two ints -/
theorem opr_int {f : Value → Value → Sem Value} {C : Int → Int → Prop} {g : Int → Int → Int} {o : List D → Option Sl} (hr : OpR X f (rI C fun i j => .int (g i j)))
    (ho : ∀ d e z, o [d, e] = some z → ∃ i j, d = .int i ∧ e = .int j ∧ C i j ∧ z = .val (.int (g i j))) : OpR X f (rD X.K o) := by
  intro pins s σ H x y v u Q I rx ry h
  obtain ⟨F, d, e, z, le, dx, dy, hz, k⟩ := rD_two h
  obtain ⟨i, j, rfl, rfl, hc, rfl⟩ := ho d e z hz
  cases dx
  cases dy
  exact hr pins s σ H _ _ v u Q I rx ry ⟨i, j, rfl, rfl, hc, k F H _ (P0.refl le) (R0.val (.int _))⟩
theorem opr_int0 {f : Value → Value → Sem Value} {g : Int → Int → Int} {o : List D → Option Sl} (hr : OpR X f (rI0 fun i j => .int (g i j)))
    (ho : ∀ d e z, o [d, e] = some z → ∃ i j, d = .int i ∧ e = .int j ∧ z = .val (.int (g i j))) : OpR X f (rD X.K o) := by
  intro pins s σ H x y v u Q I rx ry h
  obtain ⟨F, d, e, z, le, dx, dy, hz, k⟩ := rD_two h
  obtain ⟨i, j, rfl, rfl, rfl⟩ := ho d e z hz
  cases dx
  cases dy
  exact hr pins s σ H _ _ v u Q I rx ry ⟨i, j, rfl, rfl, k F H _ (P0.refl le) (R0.val (.int _))⟩
theorem p_sub : OpR X (binaryOp .Sub) (rD X.K oSub) := opr_int0 op_sub fun d e z h => by
  cases d <;> cases e <;> first | (cases h; exact ⟨_, _, rfl, rfl, rfl⟩) | cases h
theorem p_mul : OpR X (binaryOp .Mult) (rD X.K oMul) := opr_int op_mul fun d e z h => by
  cases d <;> cases e <;> first
    | (unfold oMul at h; simp only at h; split at h
       · rename_i hc; cases h; exact ⟨_, _, rfl, rfl, hc, rfl⟩
       · cases h)
    | cases h
theorem p_fdiv : OpR X (binaryOp .FloorDiv) (rD X.K oFdiv) := opr_int op_fdivW fun d e z h => by
  cases d <;> cases e <;> first
    | (unfold oFdiv at h; simp only at h; split at h
       · rename_i hc; cases h; exact ⟨_, _, rfl, rfl, wide_div (b := 64) hc.1 (by omega) (by decide) (by decide), rfl⟩
       · cases h)
    | cases h
theorem p_mod : OpR X (binaryOp .Mod) (rD X.K oMod) := opr_int op_mod fun d e z h => by
  cases d <;> cases e <;> first
    | (unfold oMod at h; simp only at h; split at h
       · rename_i hc; cases h; exact ⟨_, _, rfl, rfl, hc, rfl⟩
       · cases h)
    | cases h
theorem p_pow : OpR X (binaryOp .Pow) (rD X.K oPow) := opr_int op_pow fun d e z h => by
  cases d <;> cases e <;> first
    | (unfold oPow at h; simp only at h; split at h
       · rename_i hc; cases h; exact ⟨_, _, rfl, rfl, ⟨hc.1, by omega, hc.2.2⟩, rfl⟩
       · cases h)
    | cases h
theorem p_shl : OpR X (binaryOp .LShift) (rD X.K oShl) := opr_int op_shl fun d e z h => by
  cases d <;> cases e <;> first
    | (unfold oShl at h; simp only at h; split at h
       · rename_i hc; cases h; exact ⟨_, _, rfl, rfl, ⟨hc.1, by omega, hc.2.2⟩, rfl⟩
       · cases h)
    | cases h
theorem p_shr : OpR X (binaryOp .RShift) (rD X.K oShr) := opr_int op_shr fun d e z h => by
  cases d <;> cases e <;> first
    | (unfold oShr at h; simp only at h; split at h
       · rename_i hc; cases h; exact ⟨_, _, rfl, rfl, hc, rfl⟩
       · cases h)
    | cases h
theorem p_xor : OpR X (binaryOp .BitXor) (rD X.K oXor) := opr_int0 op_xor fun d e z h => by
  cases d <;> cases e <;> first | (cases h; exact ⟨_, _, rfl, rfl, rfl⟩) | cases h
theorem p_and : OpR X (binaryOp .BitAnd) (rD X.K oAnd) := opr_int0 op_and fun d e z h => by
  cases d <;> cases e <;> first | (cases h; exact ⟨_, _, rfl, rfl, rfl⟩) | cases h
theorem p_neg : UnR X (unaryOp .USub) (fun x H Q => rDs X.K oNeg [x] H Q) := by
  intro pins s σ H x v Q I rx h
  obtain ⟨F, d, w, z, e, le, dx, hz, k⟩ := rDs_one h fun ds z h => by
    cases ds with
    | nil => cases h
    | cons a b => cases b with
      | nil => rfl
      | cons b c => cases a <;> cases h
  cases e
  cases dx <;> first | (cases hz; exact un_neg pins s σ H _ v Q I rx ⟨_, rfl, k F H _ (P0.refl le) (R0.val (.int _))⟩) | cases hz
end

/-! ### + -/
def oAdd : List D → Option Sl
  | [.int i, .int j] => some (.val (.int (i + j)))
  | [.str x, .str y] => if isSmall (x.length + y.length) = true then some (.val (.str (x ++ y))) else none
  | [.list xs, .list ys] => if isSmall (xs.length + ys.length) = true then some (.lst (xs ++ ys)) else none
  | [.tuple xs, .tuple ys] => if isSmall (xs.length + ys.length) = true then some (.val (.tuple (xs ++ ys))) else none
  | _ => none
theorem strOk_app {x y : Str} (hx : PyData.strOk x = true) (hy : PyData.strOk y = true) : PyData.strOk (x ++ y) = true := by
  unfold PyData.strOk at *
  show (x.cps ++ y.cps).all _ = true
  rw [Array.all_append, hx, hy]; rfl
theorem add_lists0 {prog : Program} {w : World} {A : Around} {E : Value → Shared → Prop} {s : Shared} {l b : Addr} {vs ws : List Value} {Q : Value → Shared → Prop} (hl : s.heap.IsList l vs.toArray) (hb : s.heap.IsList b ws.toArray)
    (h : Q (.ref s.heap.objs.size) { s with heap := s.heap.push { cls := .type "list", data := .seq (vs ++ ws).toArray } }) (hsz : vs.length + ws.length ≤ sizeLine) : wpAny (model prog w) A (binaryOp .Add (.ref l) (.ref b)) Q E s := by
  obtain ⟨⟨cls, dd, data, sl⟩, ho, hc, n, hd⟩ := id hl
  obtain ⟨⟨cls2, dd2, data2, sl2⟩, ho2, hc2, n2, hd2⟩ := id hb
  simp only at hc hd hc2 hd2
  subst hc hd hc2 hd2
  have e : vs.toArray ++ ws.toArray = (vs ++ ws).toArray := by simp
  refine concat_meets ⟨_, ho, rfl⟩ ⟨_, ho2, rfl⟩ noFill_list_add seq_list_add PySem.F.slot_list_add PySem.F.entry_list_add (PySem.F.args_list_add_2 _ _) (list_addW l b vs.toArray ws.toArray n n2 dd dd2 sl sl2 (by simpa using hsz)) ⟨ho, ho2, ?_⟩
  rw [e]
  exact h
section
variable {X : Cx}
theorem new_list {K : PySem.W.Frag} {F H : Hp} {p : Addr} {vs : List V} {ds : List D} (le : ∀ b o, F b = some o → H b = some o) (np : H p = none) (ha : DqAll K F vs ds) : P0 F H F (upd H p (.lst vs)) ∧ R0 K H F (upd H p (.lst vs)) (.lst ds) (.ref p) := by
  have nF : F p = none := by
    cases q : F p with
    | none => rfl
    | some u => rw [le p u q] at np; cases np
  refine ⟨P0.fresh le np, ⟨⟨p, vs, rfl, nF, upd_same, ha⟩, fun _ a e => ?_⟩⟩
  cases e
  exact np
theorem p_add : OpR X (binaryOp .Add) (rD X.K oAdd) := by
  intro pins s σ H x y v u Q I rx ry h
  obtain ⟨F, d, e, z, le, dx, dy, hz, k⟩ := rD_two h
  cases dx with
  | int i =>
    cases dy <;> first | (cases hz; exact op_add pins s σ H _ _ v u Q I rx ry ⟨_, _, rfl, rfl, k F H _ (P0.refl le) (R0.val (.int _))⟩) | cases hz
  | str a ha =>
    cases dy with
    | str b hb =>
      unfold oAdd at hz
      simp only at hz
      split at hz
      · rename_i hs
        cases hz
        exact op_add_str pins s σ H _ _ v u Q I rx ry ⟨_, _, rfl, rfl, small_line hs, k F H _ (P0.refl le) (R0.val (.str _ (strOk_app ha hb)))⟩
      · cases hz
    | _ => cases hz
  | @lst a vs ds hs ha =>
    cases dy with
    | @lst b ws es hs2 hb =>
      unfold oAdd at hz
      simp only at hz
      split at hz
      · rename_i hsm
        cases hz
        cases rx
        cases ry
        obtain ⟨its, r, pl, _⟩ := I.list (sql_le le hs)
        obtain ⟨its2, r2, pl2, _⟩ := I.list (sql_le le hs2)
        have hl : vs.length + ws.length ≤ sizeLine := by rw [dpa_len ha, dpa_len hb]; exact small_line hsm
        refine add_lists0 pl.isList pl2.isList ?_ (by rw [← r.length, ← r2.length]; exact hl)
        obtain ⟨p0, r0⟩ := new_list le I.fresh (dpa_app ha hb)
        exact ⟨.ref _, _, I.lnew (t' := s.toks) (r.append r2) (by rw [List.length_append]; exact hl), rfl, k _ _ _ p0 r0⟩
      · cases hz
    | _ => cases hz
  | @tup a vs ds hs ha =>
    cases dy with
    | @tup b ws es hs2 hb =>
      unfold oAdd at hz
      simp only at hz
      split at hz
      · rename_i hsm
        cases hz
        have hl : vs.length + ws.length ≤ sizeLine := by rw [dpa_len ha, dpa_len hb]; exact small_line hsm
        cases rx
        cases ry
        obtain ⟨its, r1, p1, _⟩ := I.tuple (tps_le le hs).sq
        obtain ⟨its2, r2, p2, _⟩ := I.tuple (tps_le le hs2).sq
        by_cases hx : vs = []
        · subst hx
          cases ha
          cases r1
          exact cat_tup0 p1 p2 ⟨.ref b, H, I, rfl, k F H _ (P0.refl le) (R0.val (.tup hs2 hb))⟩
        · refine HT.cat_tup p1 p2 (fun z => hx (r1.nil_iff.mp z)) (fun z => ?_) (fun z => ?_) (by rw [← r1.length, ← r2.length]; exact hl)
          · have e := r2.nil_iff.mp z
            subst e
            cases hb
            exact ⟨.ref a, H, I, rfl, k F H _ (P0.refl le) (R0.val (by rw [List.append_nil]; exact .tup hs ha))⟩
          · obtain ⟨p0, r0⟩ := new_tup (o := { cls := .type "tuple", data := .seq (its ++ its2).toArray }) rfl le I.fresh (dpa_app ha hb)
            exact ⟨.ref s.heap.objs.size, _, inv_ntup (t' := s.toks) I (r1.append r2) (by rw [List.length_append]; exact hl), rfl, k _ _ _ p0 r0⟩
      · cases hz
    | _ => cases hz
  | _ => cases hz
end

/-! ### comparisons -/
def oEq : List D → Option Sl
  | [d, e] => if d.depth ≤ 60 ∨ e.depth ≤ 60 then some (.val (.bool (PyData.eqv d e))) else none
  | _ => none
def oNe : List D → Option Sl
  | [d, e] => if d.depth ≤ 60 ∨ e.depth ≤ 60 then some (.val (.bool (!PyData.eqv d e))) else none
  | _ => none
section
variable {X : Cx}
theorem eq_room {A : Around} {d e : D} (h : d.depth ≤ 60 ∨ e.depth ≤ 60) (hu : A.units + 64 < cLine) : A.units + min d.depth e.depth < cLine := by
  rcases h with h | h
  · have := Nat.min_le_left d.depth e.depth; omega
  · have := Nat.min_le_right d.depth e.depth; omega
theorem p_eq {k : Nat} (hr : Room k X.A) : OpR X (compareOp .Eq) (rD X.K oEq) := by
  intro pins s σ H x y v u Q I rx ry h
  obtain ⟨F, d, e, z, le, dx, dy, hz, k⟩ := rD_two h
  unfold oEq at hz
  simp only at hz
  split at hz
  · rename_i hd
    cases hz
    obtain ⟨as, r1⟩ := Dp.reads I d x v (dq_dp (dp_le le dx)).1 rx
    obtain ⟨bs, r2⟩ := Dp.reads I e y u (dq_dp (dp_le le dy)).1 ry
    exact SeqAt.compareEq_reads r1 r2 (dq_dp dx).2 (dq_dp dy).2 (eq_room hd hr.units) ⟨.bl _, H, I, rfl, k F H _ (P0.refl le) (R0.val (.bl _))⟩
  · cases hz
theorem p_ne {k : Nat} (hr : Room k X.A) : OpR X (compareOp .NotEq) (rD X.K oNe) := by
  intro pins s σ H x y v u Q I rx ry h
  obtain ⟨F, d, e, z, le, dx, dy, hz, k⟩ := rD_two h
  unfold oNe at hz
  simp only at hz
  split at hz
  · rename_i hd
    cases hz
    obtain ⟨as, r1⟩ := Dp.reads I d x v (dq_dp (dp_le le dx)).1 rx
    obtain ⟨bs, r2⟩ := Dp.reads I e y u (dq_dp (dp_le le dy)).1 ry
    exact SeqAt.compareNe_reads r1 r2 (dq_dp dx).2 (dq_dp dy).2 (eq_room hd hr.units) ⟨.bl _, H, I, rfl, k F H _ (P0.refl le) (R0.val (.bl _))⟩
  · cases hz
end
def oIs : List D → Option Sl
  | [.bool a, .bool b] => some (.val (.bool (decide (a = b))))
  | [d, .none] => some (.val (.bool (match d with | .none => true | _ => false)))
  | _ => none
def oIsN : List D → Option Sl
  | [.bool a, .bool b] => some (.val (.bool (!decide (a = b))))
  | [d, .none] => some (.val (.bool (match d with | .none => false | _ => true)))
  | _ => none
section
variable {X : Cx}
theorem p_is : OpR X (compareOp .Is) (rD X.K oIs) := by
  intro pins s σ H x y v u Q I rx ry h
  obtain ⟨F, d, e, z, le, dx, dy, hz, k⟩ := rD_two h
  have hn : ∀ (b : Bool), y = .non → decide (x = V.non) = b → z = .val (.bool b) → wpAny (model X.prog X.w) X.A (compareOp .Is v u) (EP X pins σ Q) X.xe s := fun b e1 e2 e3 => by
    subst e3
    exact op_isN pins s σ H _ _ v u Q I rx ry ⟨e1, by rw [e2]; exact k F H _ (P0.refl le) (R0.val (.bl _))⟩
  cases dx <;> cases dy <;> first
    | (cases hz; exact hn _ rfl (by simp) rfl)
    | (cases hz; exact op_is_bl pins s σ H _ _ v u Q I rx ry ⟨_, _, rfl, rfl, k F H _ (P0.refl le) (R0.val (.bl _))⟩)
    | cases hz
theorem p_isN : OpR X (compareOp .IsNot) (rD X.K oIsN) := by
  intro pins s σ H x y v u Q I rx ry h
  obtain ⟨F, d, e, z, le, dx, dy, hz, k⟩ := rD_two h
  have hn : ∀ (b : Bool), y = .non → (!decide (x = V.non)) = b → z = .val (.bool b) → wpAny (model X.prog X.w) X.A (compareOp .IsNot v u) (EP X pins σ Q) X.xe s := fun b e1 e2 e3 => by
    subst e3
    exact op_notN pins s σ H _ _ v u Q I rx ry ⟨e1, by rw [e2]; exact k F H _ (P0.refl le) (R0.val (.bl _))⟩
  cases dx <;> cases dy <;> first
    | (cases hz; exact hn _ rfl (by simp) rfl)
    | (cases hz; exact op_isnot_bl pins s σ H _ _ v u Q I rx ry ⟨_, _, rfl, rfl, k F H _ (P0.refl le) (R0.val (.bl _))⟩)
    | cases hz
end
/-- the order of data: ints, texts, alike tuples -/
def ltD (d e : D) : Option Bool := match d, e with
  | .int i, .int j => some (decide (i < j))
  | .str x, .str y => some (decide (x.cps.toList < y.cps.toList))
  | .tuple xs, .tuple ys => if PySem.W.alike (.tuple xs) (.tuple ys) = true ∧ (PyData.tuple xs).depth ≤ 60 then some (PySem.W.dataLt (.tuple xs) (.tuple ys)) else none
  | _, _ => none
def oLt : List D → Option Sl
  | [d, e] => (ltD d e).map fun b => .val (.bool b)
  | _ => none
def oGt : List D → Option Sl
  | [.int i, .int j] => some (.val (.bool (decide (j < i))))
  | [.str x, .str y] => some (.val (.bool (decide (y.cps.toList < x.cps.toList))))
  | _ => none
def oLe : List D → Option Sl
  | [.int i, .int j] => some (.val (.bool (decide (i ≤ j))))
  | [.str x, .str y] => some (.val (.bool (!decide (y.cps.toList < x.cps.toList))))
  | _ => none
def oGe : List D → Option Sl
  | [.int i, .int j] => some (.val (.bool (decide (j ≤ i))))
  | [.str x, .str y] => some (.val (.bool (!decide (x.cps.toList < y.cps.toList))))
  | _ => none
section
variable {X : Cx}
theorem p_lt {k : Nat} (hr : Room k X.A) : OpR X (compareOp .Lt) (rD X.K oLt) := by
  intro pins s σ H x y v u Q I rx ry h
  obtain ⟨F, d, e, z, le, dx, dy, hz, k⟩ := rD_two h
  have dx0 := dx
  have dy0 := dy
  cases dx with
  | int i =>
    cases dy <;> first | (cases hz; exact op_lt pins s σ H _ _ v u Q I rx ry ⟨_, _, rfl, rfl, k F H _ (P0.refl le) (R0.val (.bl _))⟩) | cases hz
  | str a ha =>
    cases dy <;> first | (cases hz; exact op_lt_str pins s σ H _ _ v u Q I rx ry ⟨_, _, rfl, rfl, k F H _ (P0.refl le) (R0.val (.bl _))⟩) | cases hz
  | @tup a vs ds hs ha =>
    cases dy with
    | @tup b ws es hs2 hb =>
      unfold oLt ltD at hz
      simp only at hz
      split at hz
      · rename_i hal
        cases hz
        obtain ⟨as, r1⟩ := Dp.reads I _ _ v (dq_dp (dp_le le dx0)).1 rx
        obtain ⟨bs, r2⟩ := Dp.reads I _ _ u (dq_dp (dp_le le dy0)).1 ry
        exact PySem.W.rcLt_alike _ _ X.A s v u as bs r1 r2 hal.1 (fun z => by cases z) (eq_room (.inl hal.2) hr.units) _ _ _ _ ⟨.bl _, H, I, rfl, k F H _ (P0.refl le) (R0.val (.bl _))⟩
      · cases hz
    | _ => cases hz
  | _ => cases hz
theorem p_gt : OpR X (compareOp .Gt) (rD X.K oGt) := by
  intro pins s σ H x y v u Q I rx ry h
  obtain ⟨F, d, e, z, le, dx, dy, hz, k⟩ := rD_two h
  cases dx <;> cases dy <;> first
    | (cases hz; exact op_gt pins s σ H _ _ v u Q I rx ry ⟨_, _, rfl, rfl, k F H _ (P0.refl le) (R0.val (.bl _))⟩)
    | (cases hz; exact op_gt_str pins s σ H _ _ v u Q I rx ry ⟨_, _, rfl, rfl, k F H _ (P0.refl le) (R0.val (.bl _))⟩)
    | cases hz
theorem p_le : OpR X (compareOp .LtE) (rD X.K oLe) := by
  intro pins s σ H x y v u Q I rx ry h
  obtain ⟨F, d, e, z, le, dx, dy, hz, k⟩ := rD_two h
  cases dx <;> cases dy <;> first
    | (cases hz; exact op_le pins s σ H _ _ v u Q I rx ry ⟨_, _, rfl, rfl, k F H _ (P0.refl le) (R0.val (.bl _))⟩)
    | (cases hz; exact op_le_str pins s σ H _ _ v u Q I rx ry ⟨_, _, rfl, rfl, k F H _ (P0.refl le) (R0.val (.bl _))⟩)
    | cases hz
theorem p_ge : OpR X (compareOp .GtE) (rD X.K oGe) := by
  intro pins s σ H x y v u Q I rx ry h
  obtain ⟨F, d, e, z, le, dx, dy, hz, k⟩ := rD_two h
  cases dx <;> cases dy <;> first
    | (cases hz; exact op_ge pins s σ H _ _ v u Q I rx ry ⟨_, _, rfl, rfl, k F H _ (P0.refl le) (R0.val (.bl _))⟩)
    | (cases hz; exact op_ge_str pins s σ H _ _ v u Q I rx ry ⟨_, _, rfl, rfl, k F H _ (P0.refl le) (R0.val (.bl _))⟩)
    | cases hz
end
/-- a < b < c -/
def sChain (o o' : List D → Option Sl) (fa fb fc : En → Rs) : En → Rs := fun ρ => match fa ρ with
  | .ok r1 ρ1 => match fz r1 with
    | some d => match fb ρ1 with
      | .ok r2 ρ2 => match fz r2 with
        | some e => match o [d, e] with
          | some (.val (.bool b)) => if b = true then match fc ρ2 with
              | .ok r3 ρ3 => match fz r3 with
                | some g => match o' [e, g] with
                  | some z => .ok z ρ3
                  | none => .bad
                | none => .bad
              | .exc c ρ3 => .exc c ρ3
              | .bad => .bad
            else .ok (.val (.bool false)) ρ2
          | _ => .bad
        | none => .bad
      | .exc c ρ2 => .exc c ρ2
      | .bad => .bad
    | none => .bad
  | .exc c ρ1 => .exc c ρ1
  | .bad => .bad
section
variable {X : Cx} {T : List Addr} {W : WX} {a b c : Expr} {fa fb fc : En → Rs} {o o' : List D → Option Sl} {op op' : CmpOp} {pos : Pos}
theorem chain_read {K : PySem.W.Frag} {mg : Str → Option Value} {σ : L2.St} {H : Hp} {Q : VK} (h : tE K T W mg (sChain o o' fa fb fc) σ H Q) :
    tE K T W mg fa σ H fun x H1 => tE K T W mg fb σ H1 fun y H2 => rD K o x y H2 fun z H3 => ∃ k, z = .bl k ∧ if k = true then tE K T W mg fc σ H3 fun w H4 => rD K o' y w H4 Q else Q (.bl false) H3 := by
  obtain ⟨F, ρ, G, q⟩ := h
  refine ⟨F, ρ, G, ?_⟩
  unfold sChain at q
  cases e1 : fa ρ with
  | bad => rw [e1] at q; exact q
  | exc c ρ1 => rw [e1] at q; exact q
  | ok r1 ρ1 =>
    rw [e1] at q
    intro F1 H1 v1 m1 rs1
    cases e2 : fz r1 with
    | none => simp only [e2] at q
    | some d =>
      simp only [e2] at q
      obtain ⟨F1', m1', d1⟩ := mv_fz m1 rs1 e2
      refine ⟨F1', ρ1, m1'.good, ?_⟩
      cases e3 : fb ρ1 with
      | bad => simp only [e3] at q
      | exc c ρ2 => simp only [e3] at q; exact fun F' H' C hc m => q F' H' C hc (m1'.trans m)
      | ok r2 ρ2 =>
        simp only [e3] at q
        intro F2 H2 v2 m2 rs2
        cases e4 : fz r2 with
        | none => simp only [e4] at q
        | some e =>
          simp only [e4] at q
          obtain ⟨F2', m2', d2⟩ := mv_fz m2 rs2 e4
          have m12 := m1'.trans m2'
          cases e5 : o [d, e] with
          | none => simp only [e5] at q
          | some z =>
            cases z with
            | val zz =>
              cases zz with
              | bool bb =>
                simp only [e5] at q
                refine ⟨F2', [d, e], _, m2'.good.le, .cons (dp_le m2'.ext.fle d1) (.cons d2 .nil), e5, fun F3 H3 v3 p0 r0 => ?_⟩
                have := r0.rep
                cases v3 with
                | bl kk =>
                  cases this
                  refine ⟨_, rfl, ?_⟩
                  cases bb with
                  | false =>
                    simp only [Bool.false_eq_true, if_false] at q ⊢
                    exact q F3 H3 _ (m12.p0 p0) ⟨.bl _, fun z => by cases z⟩
                  | true =>
                    simp only [if_true] at q ⊢
                    have m3 := m12.p0 p0
                    refine ⟨F3, ρ2, m3.good, ?_⟩
                    cases e6 : fc ρ2 with
                    | bad => simp only [e6] at q
                    | exc c ρ3 => simp only [e6] at q; exact fun F' H' C hc m => q F' H' C hc (m3.trans m)
                    | ok r3 ρ3 =>
                      simp only [e6] at q
                      intro F4 H4 v4 m4 rs4
                      cases e7 : fz r3 with
                      | none => simp only [e7] at q
                      | some g =>
                        simp only [e7] at q
                        obtain ⟨F4', m4', d4⟩ := mv_fz m4 rs4 e7
                        cases e8 : o' [e, g] with
                        | none => simp only [e8] at q
                        | some z =>
                          simp only [e8] at q
                          have m5 := m3.trans m4'
                          exact ⟨F4', [e, g], z, m4'.good.le, .cons (dp_le m4'.ext.fle (dp_le p0.fle d2)) (.cons d4 .nil), e8, fun F' H' v p r => q F' H' v (m5.p0 p) (m5.res r)⟩
                | _ => exact nomatch this
              | _ => simp only [e5] at q
            | _ => simp only [e5] at q
theorem ce_chain (ho : OpR X (compareOp op) (rD X.K o)) (ho' : OpR X (compareOp op') (rD X.K o')) (ha : CE X T W a fa) (hb : CE X T W b fb) (hc : CE X T W c fc) (hm : lastMarks [op, op'] [b, c] = false := by with_unfolding_all rfl) :
    CE X T W (.Compare a [op, op'] [b, c] pos) (sChain o o' fa fb fc) :=
  pe_imp (pe_chain ho ho' ha hb hc hm) fun σ H Q q => chain_read q
end
end Pu
end PuH_part
section PuI_part
set_option Elab.async false
set_option linter.all false
set_option maxRecDepth 100000
set_option maxHeartbeats 2000000
/-! The pure layer, part I: built-ins over data. -/
namespace Pu
open PySem PySem.Spec PyProof.Rows L2

/-! ### in -/
def oIn : List D → Option Sl
  | [d, .list es] => if d.depth ≤ 60 ∨ PyData.depthAll es ≤ 60 then some (.val (.bool (es.any fun z => PyData.eqv z d))) else none
  | [d, .tuple es] => if d.depth ≤ 60 ∨ PyData.depthAll es ≤ 60 then some (.val (.bool (es.any fun z => PyData.eqv z d))) else none
  | _ => none
def oNotIn : List D → Option Sl
  | [d, .list es] => if d.depth ≤ 60 ∨ PyData.depthAll es ≤ 60 then some (.val (.bool (!es.any fun z => PyData.eqv z d))) else none
  | [d, .tuple es] => if d.depth ≤ 60 ∨ PyData.depthAll es ≤ 60 then some (.val (.bool (!es.any fun z => PyData.eqv z d))) else none
  | _ => none
section
variable {X : Cx}
theorem in_room {A : Around} {d : D} {es : List D} (h : d.depth ≤ 60 ∨ PyData.depthAll es ≤ 60) (hu : A.units + 64 < cLine) : A.units + 1 + min (PyData.depthAll es) d.depth < cLine := by
  rcases h with h | h
  · have := Nat.min_le_right (PyData.depthAll es) d.depth; omega
  · have := Nat.min_le_left (PyData.depthAll es) d.depth; omega
theorem p_in {k : Nat} (hr : Room k X.A) : OpR X (compareOp .In) (rD X.K oIn) := by
  intro pins s σ H x y v u Q I rx ry h
  obtain ⟨F, d, e, z, le, dx, dy, hz, k⟩ := rD_two h
  obtain ⟨as, r1⟩ := Dp.reads I d x v (dq_dp (dp_le le dx)).1 rx
  obtain ⟨bs, r2⟩ := Dp.reads I e y u (dq_dp (dp_le le dy)).1 ry
  have c1 := (dq_dp dx).2
  have c2 := (dq_dp dy).2
  cases e with
  | list es =>
    unfold oIn at hz
    simp only at hz
    split at hz
    · rename_i hd
      cases hz
      exact SeqAt.in_list_reads r2 r1 (by simpa [PyData.canLay0] using c2) c1 (in_room hd hr.units) ⟨.bl _, H, I, rfl, k F H _ (P0.refl le) (R0.val (.bl _))⟩
    · cases hz
  | tuple es =>
    unfold oIn at hz
    simp only at hz
    split at hz
    · rename_i hd
      cases hz
      exact SeqAt.in_tuple_reads r2 r1 (by simpa [PyData.canLay0] using c2) c1 (in_room hd hr.units) ⟨.bl _, H, I, rfl, k F H _ (P0.refl le) (R0.val (.bl _))⟩
    · cases hz
  | _ => cases hz
theorem p_notin {k : Nat} (hr : Room k X.A) : OpR X (compareOp .NotIn) (rD X.K oNotIn) := by
  intro pins s σ H x y v u Q I rx ry h
  obtain ⟨F, d, e, z, le, dx, dy, hz, k⟩ := rD_two h
  obtain ⟨as, r1⟩ := Dp.reads I d x v (dq_dp (dp_le le dx)).1 rx
  obtain ⟨bs, r2⟩ := Dp.reads I e y u (dq_dp (dp_le le dy)).1 ry
  have c1 := (dq_dp dx).2
  have c2 := (dq_dp dy).2
  cases e with
  | list es =>
    unfold oNotIn at hz
    simp only at hz
    split at hz
    · rename_i hd
      cases hz
      exact SeqAt.notIn_list_reads r2 r1 (by simpa [PyData.canLay0] using c2) c1 (in_room hd hr.units) ⟨.bl _, H, I, rfl, k F H _ (P0.refl le) (R0.val (.bl _))⟩
    · cases hz
  | tuple es =>
    unfold oNotIn at hz
    simp only at hz
    split at hz
    · rename_i hd
      cases hz
      exact SeqAt.notIn_tuple_reads r2 r1 (by simpa [PyData.canLay0] using c2) c1 (in_room hd hr.units) ⟨.bl _, H, I, rfl, k F H _ (P0.refl le) (R0.val (.bl _))⟩
    · cases hz
  | _ => cases hz
end

/-! ### subscripts, slices -/
def oIx : List D → Option Sl
  | [.list es, .int i] => (atI es i).map .val
  | [.tuple es, .int i] => (atI es i).map .val
  | [.str x, .int i] => if isSmall x.length = true then (atI x.cps.toList i).map fun c => .val (.str ⟨#[c]⟩) else none
  | _ => none
theorem dpa_atI {K : PySem.W.Frag} {F : Hp} {vs : List V} {ds : List D} {i : Int} {d : D} (h : DqAll K F vs ds) (e : atI ds i = some d) : ∃ v, atI vs i = some v ∧ Dq K F v d := by
  unfold atI at e ⊢
  rw [dpa_len h]
  cases q : ixN ds.length i with
  | none => rw [q] at e; cases e
  | some j =>
    rw [q] at e
    exact dpa_get h e
section
variable {X : Cx} {T : List Addr} {W : WX} {a b : Expr} {fa fb : En → Rs} {pos : Pos}
theorem p_ix : IxR X (rD X.K oIx) := by
  intro value slice pins s σ H x y v u Q I rx ry h hs
  obtain ⟨F, d, e, z, le, dx, dy, hz, k⟩ := rD_two h
  cases dy with
  | int i =>
    cases dx with
    | @lst a vs ds hq ha =>
      cases e1 : atI ds i with
      | none => simp only [oIx, e1] at hz; cases hz
      | some w =>
        simp only [oIx, e1, Option.map_some] at hz
        cases hz
        obtain ⟨v', e2, dv⟩ := dpa_atI ha e1
        exact ix_list value slice pins s σ H _ _ v u Q I rx ry ⟨a, vs, i, v', rfl, rfl, sql_le le hq, e2, k F H _ (P0.refl le) (R0.val dv)⟩ hs
    | @tup a vs ds hq ha =>
      cases e1 : atI ds i with
      | none => simp only [oIx, e1] at hz; cases hz
      | some w =>
        simp only [oIx, e1, Option.map_some] at hz
        cases hz
        obtain ⟨v', e2, dv⟩ := dpa_atI ha e1
        exact ix_tup value slice pins s σ H _ _ v u Q I rx ry ⟨a, vs, i, v', rfl, rfl, (tps_le le hq).sq, e2, k F H _ (P0.refl le) (R0.val dv)⟩ hs
    | str x hx =>
      simp only [oIx] at hz
      split at hz
      · rename_i hsm
        cases e1 : atI x.cps.toList i with
        | none => rw [e1] at hz; cases hz
        | some c =>
          rw [e1] at hz
          simp only [Option.map_some] at hz
          cases hz
          refine ix_str value slice pins s σ H _ _ v u Q I rx ry ⟨x, i, c, rfl, rfl, small_line hsm, e1, k F H _ (P0.refl le) (R0.val (.str _ ?_))⟩ hs
          unfold atI at e1
          cases q : ixN x.cps.toList.length i with
          | none => rw [q] at e1; cases e1
          | some j =>
            rw [q] at e1
            exact strOk_one hx (i := j) (by rw [← Array.getElem?_toList]; exact e1)
      · cases hz
    | _ => cases hz
  | _ => cases dx <;> cases hz
theorem ce_ix (ha : CE X T W a fa) (hb : CE X T W b fb) (hs : PlainIx b := by exact fun _ _ => rfl) : CE X T W (.Subscript a b pos) (sPrim oIx [fa, fb]) :=
  pe_imp (pe_ix p_ix ha hb hs) fun σ H Q q => prim_two q
end
def cutD (xs : List D) (lo hi : Option Int) : List D := (xs.drop (HT.sIx xs.length 0 lo)).take (HT.sIx xs.length xs.length hi - HT.sIx xs.length 0 lo)
def oSl (d : D) (lo hi : Option Int) : Option Sl := match d with
  | .list es => some (.lst (cutD es lo hi))
  | .tuple es => some (.val (.tuple (cutD es lo hi)))
  | .str x => if isSmall x.length = true then some (.val (.str (cutS x lo hi))) else none
  | _ => none
theorem dpa_drop {K : PySem.W.Frag} {F : Hp} : ∀ {vs : List V} {ds : List D} (n : Nat), DqAll K F vs ds → DqAll K F (vs.drop n) (ds.drop n)
  | _, _, 0, h => h
  | _, _, _ + 1, .nil => .nil
  | _, _, n + 1, .cons _ b => dpa_drop n b
theorem dpa_take {K : PySem.W.Frag} {F : Hp} : ∀ {vs : List V} {ds : List D} (n : Nat), DqAll K F vs ds → DqAll K F (vs.take n) (ds.take n)
  | _, _, 0, _ => .nil
  | _, _, _ + 1, .nil => .nil
  | _, _, n + 1, .cons a b => .cons a (dpa_take n b)
theorem dpa_cut {K : PySem.W.Frag} {F : Hp} {vs : List V} {ds : List D} (lo hi : Option Int) (h : DqAll K F vs ds) : DqAll K F (cutV vs lo hi) (cutD ds lo hi) := by
  unfold cutV cutD
  rw [dpa_len h]
  exact dpa_take _ (dpa_drop _ h)
theorem strOk_cut {x : Str} {lo hi : Option Int} (h : PyData.strOk x = true) : PyData.strOk (cutS x lo hi) = true := by
  unfold PyData.strOk at *
  unfold cutS
  simp only [List.all_toArray]
  rw [Array.all_eq_true'] at h
  rw [List.all_eq_true]
  intro c hc
  exact h c (by simpa using List.mem_of_mem_drop (List.mem_of_mem_take hc))
/-- what a slice asks -/
def rSlD (K : PySem.W.Frag) : V → Option Int → Option Int → Hp → VK → Prop := fun x lo hi H Q => ∃ F d z, (∀ b o, F b = some o → H b = some o) ∧ Dq K F x d ∧ oSl d lo hi = some z ∧ ∀ F' H' v, P0 F H F' H' → R0 K H F' H' z v → Q v H'
theorem sIx_whole {n : Nat} {lo hi : Option Int} {α : Type} {xs : List α} (hn : xs.length = n) (h : HT.sIx n 0 lo = 0 ∧ HT.sIx n n hi = n) : (xs.drop (HT.sIx n 0 lo)).take (HT.sIx n n hi - HT.sIx n 0 lo) = xs := by
  rw [h.1, h.2, List.drop_zero, Nat.sub_zero]
  exact List.take_of_length_le (Nat.le_of_eq hn)
section
variable {X : Cx}
theorem p_sl : SlR X (rSlD X.K) := by
  intro pins s σ H x v vl vu lo hi sl Q I rx hs pl pu ⟨F, d, z, le, dx, hz, k⟩
  cases dx with
  | @lst a vs ds hq ha =>
    cases hz
    refine sl_list pins s σ H _ v vl vu lo hi sl Q I rx hs pl pu ⟨a, vs, rfl, sql_le le hq, fun p np => ?_⟩
    obtain ⟨p0, r0⟩ := new_list le np (dpa_cut lo hi ha)
    exact k _ _ _ p0 r0
  | @tup a vs ds hq ha =>
    cases hz
    cases rx
    obtain ⟨its, r, ht, hz⟩ := I.tuple (tps_le le hq).sq
    have hlen : its.toArray.size = vs.length := by rw [List.size_toArray]; exact r.length.symm
    refine ⟨"tuple", _, PyProof.Rows.slot_tuple_getitem.lookup, ht.typeIs, ?_⟩
    by_cases hw : HT.sIx vs.length 0 lo = 0 ∧ HT.sIx vs.length vs.length hi = vs.length
    · refine getItem_tuple_whole ht hs pl pu (by rw [hlen]; exact hw) ⟨.ref a, H, I, rfl, k F H _ (P0.refl le) (R0.val ?_)⟩
      have : cutD ds lo hi = ds := by
        unfold cutD
        rw [dpa_len ha] at hw
        exact sIx_whole rfl hw
      rw [this]
      exact .tup hq ha
    · refine HT.getItem_tuple_cut ht hs pl pu (by rw [hlen]; exact hw) ?_ (by rw [hlen]; exact hz)
      rw [hlen]
      obtain ⟨p0, r0⟩ := new_tup (o := { cls := .type "tuple", data := .seq ((its.drop (HT.sIx vs.length 0 lo)).take (HT.sIx vs.length vs.length hi - HT.sIx vs.length 0 lo)).toArray }) rfl le I.fresh (dpa_cut lo hi ha)
      exact ⟨.ref s.heap.objs.size, _, inv_ntup (t' := s.toks) I ((r.drop (HT.sIx vs.length 0 lo)).take (HT.sIx vs.length vs.length hi - HT.sIx vs.length 0 lo)) (Nat.le_trans (cutV_length vs lo hi) hz), rfl, k _ _ _ p0 r0⟩
  | str x hx =>
    simp only [oSl] at hz
    split at hz
    · rename_i hsm
      cases hz
      exact sl_str pins s σ H _ v vl vu lo hi sl Q I rx hs pl pu ⟨x, rfl, small_line hsm, k F H _ (P0.refl le) (R0.val (.str _ (strOk_cut hx)))⟩
    · cases hz
  | _ => cases hz
end
/-- one part of a slice -/
inductive Pt where
  | no
  | at (f : En → Rs)
def sPt (p : Pt) (ρ : En) : Option (Option Int × En) := match p with
  | .no => some (none, ρ)
  | .at f => match f ρ with
    | .ok (.val (.int i)) ρ1 => some (some i, ρ1)
    | _ => none
def sSl (fa : En → Rs) (lo hi : Pt) : En → Rs := fun ρ => match fa ρ with
  | .ok r ρ1 => match fz r with
    | some d => match sPt lo ρ1 with
      | some (l, ρ2) => match sPt hi ρ2 with
        | some (u, ρ3) => match oSl d l u with
          | some z => .ok z ρ3
          | none => .bad
        | none => .bad
      | none => .bad
    | none => .bad
  | .exc c ρ1 => .exc c ρ1
  | .bad => .bad
def tPt (K : PySem.W.Frag) (T : List Addr) (p : Pt) : TO := fun σ H Q => ∃ F ρ, Good K T F H σ ρ ∧ match sPt p ρ with
  | some (o, ρ') => ∀ F' H', Mv K T σ F H ρ F' H' ρ' → Q o H'
  | none => False
abbrev CP (X : Cx) (T : List Addr) (e : Option Expr) (p : Pt) : Prop := PO X e (tPt X.K T p)
theorem po_imp {X : Cx} {e : Option Expr} {t t' : TO} (h : PO X e t) (hi : ∀ σ H Q, t' σ H Q → t σ H Q) : PO X e t' := ⟨fun pins s σ H Q I q => h.run pins s σ H Q I (hi σ H Q q)⟩
section
variable {X : Cx} {T : List Addr} {W : WX} {a e : Expr} {fa f : En → Rs} {pos p2 : Pos} {lo hi : Option Expr} {l u : Pt}
theorem cp_no : CP X T none .no := po_imp po_none fun σ H Q ⟨F, ρ, G, q⟩ => q F H (Mv.refl G)
theorem cp_at (h : CE X T W e f) : CP X T (some e) (.at f) := by
  refine po_imp (po_some h) fun σ H Q ⟨F, ρ, G, q⟩ => ⟨F, ρ, G, ?_⟩
  unfold sPt at q
  cases e1 : f ρ with
  | bad => simp only [e1] at q
  | exc c ρ1 => simp only [e1] at q
  | ok r ρ1 =>
    cases r with
    | val d =>
      cases d with
      | int i =>
        simp only [e1] at q
        intro F' H' v m rs
        have := rs.rep
        cases this
        exact ⟨i, rfl, q F' H' m⟩
      | _ => simp only [e1] at q
    | _ => simp only [e1] at q
theorem ce_sl (ha : CE X T W a fa) (hl : CP X T lo l) (hu : CP X T hi u) : CE X T W (.Subscript a (.Slice lo hi none p2) pos) (sSl fa l u) := by
  refine pe_imp (pe_slice p_sl ha hl hu) fun σ H Q ⟨F, ρ, G, q⟩ => ⟨F, ρ, G, ?_⟩
  unfold sSl at q
  cases e1 : fa ρ with
  | bad => rw [e1] at q; exact q
  | exc c ρ1 => rw [e1] at q; exact q
  | ok r ρ1 =>
    rw [e1] at q
    intro F1 H1 v m rs
    cases e2 : fz r with
    | none => simp only [e2] at q
    | some d =>
      simp only [e2] at q
      obtain ⟨F2, m2, dp⟩ := mv_fz m rs e2
      refine ⟨F2, ρ1, m2.good, ?_⟩
      cases e3 : sPt l ρ1 with
      | none => simp only [e3] at q
      | some x =>
        obtain ⟨o, ρ2⟩ := x
        simp only [e3] at q
        intro F3 H3 m3
        refine ⟨F3, ρ2, m3.good, ?_⟩
        cases e4 : sPt u ρ2 with
        | none => simp only [e4] at q
        | some x =>
          obtain ⟨o2, ρ3⟩ := x
          simp only [e4] at q
          intro F4 H4 m4
          cases e5 : oSl d o o2 with
          | none => simp only [e5] at q
          | some z =>
            simp only [e5] at q
            have m5 := m2.trans (m3.trans m4)
            exact ⟨F4, d, z, m4.good.le, dp_le m4.ext.fle (dp_le m3.ext.fle dp), e5, fun F' H' v p r => q F' H' v (m5.p0 p) (m5.res r)⟩
end

/-! ### built-in functions -/
def oLen : List D → Option Sl
  | [.list es] => some (.val (.int es.length))
  | [.tuple es] => some (.val (.int es.length))
  | [.str x] => if isSmall x.length = true then some (.val (.int x.length)) else none
  | _ => none
def oAbs : List D → Option Sl
  | [.int i] => some (.val (.int (if i < 0 then -i else i)))
  | _ => none
def oInt : List D → Option Sl
  | [.int i] => some (.val (.int i))
  | _ => none
def oMax2 : List D → Option Sl
  | [.int i, .int j] => some (.val (.int (if j > i then j else i)))
  | _ => none
def oMin2 : List D → Option Sl
  | [.int i, .int j] => some (.val (.int (if j < i then j else i)))
  | _ => none
def intsOf : List D → Option (List Int)
  | [] => some []
  | .int i :: r => (intsOf r).map (i :: ·)
  | _ => none
def oSum : List D → Option Sl
  | [.list es] => (intsOf es).map fun ns => .val (.int ns.sum)
  | _ => none
def oList : List D → Option Sl
  | [.list es] => some (.lst es)
  | [.tuple es] => some (.lst es)
  | _ => none
def oTuple : List D → Option Sl
  | [.list es] => some (.val (.tuple es))
  | [.tuple es] => some (.val (.tuple es))
  | _ => none
theorem one_of {o : List D → Option Sl} (h0 : o [] = none) (h2 : ∀ a b c, o (a :: b :: c) = none) : ∀ ds z, o ds = some z → ds.length = 1
  | [], z, h => by rw [h0] at h; cases h
  | [a], z, h => rfl
  | a :: b :: c, z, h => by rw [h2] at h; cases h
theorem intsOf_spec {K : PySem.W.Frag} {F : Hp} : ∀ {es : List D} {ns : List Int} {vs : List V}, intsOf es = some ns → DqAll K F vs es → vs = ns.map V.int
  | [], _, _, h, .nil => by cases h; rfl
  | .int i :: r, ns, _, h, .cons a b => by
    unfold intsOf at h
    cases q : intsOf r with
    | none => rw [q] at h; cases h
    | some ms =>
      rw [q] at h
      cases h
      cases a
      rw [intsOf_spec q b]
      rfl
  | .none :: r, _, _, h, _ => by cases h
  | .bool _ :: r, _, _, h, _ => by cases h
  | .str _ :: r, _, _, h, _ => by cases h
  | .list _ :: r, _, _, h, _ => by cases h
  | .tuple _ :: r, _, _, h, _ => by cases h
section
variable {X : Cx} {T : List Addr} {W : WX} {a : Expr} {es : List Expr} {fs : List (En → Rs)} {o : List D → Option Sl} {x : Str} {p pos : Pos} {id : String}
theorem p_len : CallR X (.builtin "len") (rDs X.K oLen) := by
  intro pins s σ H vs us Q I r h
  obtain ⟨F, d, v, z, rfl, le, dx, hz, k⟩ := rDs_one h (one_of rfl fun a b c => by cases a <;> rfl)
  cases dx with
  | @lst a vs ds hq ha => cases hz; exact call_len pins s σ H _ us Q I r ⟨_, _, rfl, .inl ⟨vs, sql_le le hq, (dpa_len ha).symm⟩, k F H _ (P0.refl le) (R0.val (.int _))⟩
  | @tup a vs ds hq ha => cases hz; exact call_len pins s σ H _ us Q I r ⟨_, _, rfl, .inr ⟨vs, (tps_le le hq).sq, (dpa_len ha).symm⟩, k F H _ (P0.refl le) (R0.val (.int _))⟩
  | str x hx =>
    simp only [oLen] at hz
    split at hz
    · rename_i hsm
      cases hz
      exact call_len pins s σ H _ us Q I r ⟨_, _, rfl, ⟨small_line hsm, rfl⟩, k F H _ (P0.refl le) (R0.val (.int _))⟩
    · cases hz
  | _ => cases hz
theorem p_abs : CallR X (.builtin "abs") (rDs X.K oAbs) := by
  intro pins s σ H vs us Q I r h
  obtain ⟨F, d, v, z, rfl, le, dx, hz, k⟩ := rDs_one h (one_of rfl fun a b c => by cases a <;> rfl)
  cases dx <;> first | (cases hz; exact call_abs pins s σ H _ us Q I r ⟨_, rfl, k F H _ (P0.refl le) (R0.val (.int _))⟩) | cases hz
theorem p_int : CallR X (.type "int") (rDs X.K oInt) := by
  intro pins s σ H vs us Q I r h
  obtain ⟨F, d, v, z, rfl, le, dx, hz, k⟩ := rDs_one h (one_of rfl fun a b c => by cases a <;> rfl)
  cases dx <;> first | (cases hz; exact call_int1 pins s σ H _ us Q I r (.inl ⟨_, rfl, k F H _ (P0.refl le) (R0.val (.int _))⟩)) | cases hz
theorem rDs_two {K : PySem.W.Frag} {vs : List V} {H : Hp} {Q : VK} (h : rDs K o vs H Q) (h2 : ∀ ds z, o ds = some z → ds.length = 2) : ∃ F d e x y z, vs = [x, y] ∧ (∀ b o, F b = some o → H b = some o) ∧ Dq K F x d ∧ Dq K F y e ∧ o [d, e] = some z ∧ ∀ F' H' v, P0 F H F' H' → R0 K H F' H' z v → Q v H' := by
  obtain ⟨F, ds, z, le, dp, hz, k⟩ := h
  have := h2 ds z hz
  cases dp with
  | nil => cases this
  | cons a b => cases b with
    | nil => cases this
    | cons b c => cases c with
      | nil => exact ⟨F, _, _, _, _, z, rfl, le, a, b, hz, k⟩
      | cons c d => cases this
theorem two_of {o : List D → Option Sl} (h0 : o [] = none) (h1 : ∀ a, o [a] = none) (h3 : ∀ a b c d, o (a :: b :: c :: d) = none) : ∀ ds z, o ds = some z → ds.length = 2
  | [], z, h => by rw [h0] at h; cases h
  | [a], z, h => by rw [h1] at h; cases h
  | [a, b], z, h => rfl
  | a :: b :: c :: d, z, h => by rw [h3] at h; cases h
theorem p_max2 (hc : X.calm = true) : CallR X (.builtin "max") (rDs X.K oMax2) := by
  intro pins s σ H vs us Q I r h
  obtain ⟨F, d, e, x, y, z, rfl, le, dx, dy, hz, k⟩ := rDs_two h (two_of rfl (fun a => by cases a <;> rfl) fun a b c d => by cases a <;> cases b <;> rfl)
  cases dx <;> cases dy <;> first | (cases hz; exact call_max2 hc pins s σ H _ us Q I r ⟨_, _, rfl, k F H _ (P0.refl le) (R0.val (.int _))⟩) | cases hz
theorem p_min2 (hc : X.calm = true) : CallR X (.builtin "min") (rDs X.K oMin2) := by
  intro pins s σ H vs us Q I r h
  obtain ⟨F, d, e, x, y, z, rfl, le, dx, dy, hz, k⟩ := rDs_two h (two_of rfl (fun a => by cases a <;> rfl) fun a b c d => by cases a <;> cases b <;> rfl)
  cases dx <;> cases dy <;> first | (cases hz; exact call_min2 hc pins s σ H _ us Q I r ⟨_, _, rfl, k F H _ (P0.refl le) (R0.val (.int _))⟩) | cases hz
theorem p_sum (hc : X.calm = true) : CallR X (.builtin "sum") (rDs X.K oSum) := by
  intro pins s σ H vs us Q I r h
  obtain ⟨F, d, v, z, rfl, le, dx, hz, k⟩ := rDs_one h (one_of rfl fun a b c => by cases a <;> rfl)
  cases dx with
  | @lst a vs ds hq ha =>
    cases e1 : intsOf ds with
    | none => simp only [oSum, e1] at hz; cases hz
    | some ns =>
      simp only [oSum, e1, Option.map_some] at hz
      cases hz
      have := intsOf_spec e1 ha
      subst this
      exact cr_sum hc pins s σ H _ us Q I r ⟨a, ns, rfl, sql_le le hq, k F H _ (P0.refl le) (R0.val (.int _))⟩
  | _ => cases hz
theorem p_list : CallR X (.type "list") (rDs X.K oList) := by
  intro pins s σ H vs us Q I r h
  obtain ⟨F, d, v, z, rfl, le, dx, hz, k⟩ := rDs_one h (one_of rfl fun a b c => by cases a <;> rfl)
  cases dx with
  | @lst a vs ds hq ha =>
    cases hz
    refine call_list_of pins s σ H _ us Q I r ⟨a, vs, rfl, .inl (sql_le le hq), fun l nl => ?_⟩
    obtain ⟨p0, r0⟩ := new_list le nl ha
    exact k _ _ _ p0 r0
  | @tup a vs ds hq ha =>
    cases hz
    refine call_list_of pins s σ H _ us Q I r ⟨a, vs, rfl, .inr (tps_le le hq).sq, fun l nl => ?_⟩
    obtain ⟨p0, r0⟩ := new_list le nl ha
    exact k _ _ _ p0 r0
  | _ => cases hz
theorem p_tuple : CallR X (.type "tuple") (rDs X.K oTuple) := by
  intro pins s σ H vs us Q I r h
  obtain ⟨F, d, v, z, rfl, le, dx, hz, k⟩ := rDs_one h (one_of rfl fun a b c => by cases a <;> rfl)
  cases dx with
  | @lst a vs ds hq ha =>
    cases hz
    obtain ⟨u, rfl, rx⟩ := vals1 r
    cases rx
    obtain ⟨its, r', pl, hz⟩ := I.list (sql_le le hq)
    have hlen := r'.length
    refine call_tuple_list pl.isList (fun h' kp => ?_) (by simp only [List.size_toArray] <;> omega)
    have I1 : Inv X pins σ H { s with heap := h' } := I.kept (t' := s.toks) kp
    obtain ⟨p0, r0⟩ := new_tup (o := { cls := .type "tuple", data := .seq its.toArray }) rfl le (I1.hok.fresh (Nat.le_refl _)) ha
    exact ⟨.ref h'.objs.size, _, inv_ntup (t' := s.toks) I1 r' hz, rfl, k _ _ _ p0 r0⟩
  | @tup a vs ds hq ha =>
    cases hz
    exact call_tuple_of pins s σ H _ us Q I r ⟨a, vs, rfl, .inr ⟨(tps_le le hq).sq, k F H _ (P0.refl le) (R0.val (.tup hq ha))⟩⟩
  | _ => cases hz
theorem ce_blt (hc : CallR X (.builtin id) (rDs X.K o)) (hg : Gl X x) (hm : X.mg x = none) (hv : bootBuiltins x = some (.builtin id)) (ha : CA X T W (a :: es) fs) (hn : x ≠ "__name__" := by decide) (hdb : (x == ("__debug__" : Str)) = false := by decide)
    (he : starEach (a :: es) X.env = (false, eval a X.env) :: starEach es X.env := by rfl) (hpl : (backTo pos (starEach es X.env)).any (·.1) = false := by rfl) : CE X T W (.Call (.Name x p) (a :: es) [] pos) (sPrim o fs) :=
  pe_imp (pe_callB hc hg hm hv ha hn hdb he hpl) fun σ H Q q => prim_args q
theorem ce_bty (hc : CallR X (.type id) (rDs X.K o)) (hg : Gl X x) (hm : X.mg x = none) (hv : bootBuiltins x = some (.type id)) (ha : CA X T W (a :: es) fs) (hn : x ≠ "__name__" := by decide) (hdb : (x == ("__debug__" : Str)) = false := by decide)
    (he : starEach (a :: es) X.env = (false, eval a X.env) :: starEach es X.env := by rfl) (hpl : (backTo pos (starEach es X.env)).any (·.1) = false := by rfl) : CE X T W (.Call (.Name x p) (a :: es) [] pos) (sPrim o fs) :=
  pe_imp (pe_callTy hc hg hm hv ha hn hdb he hpl) fun σ H Q q => prim_args q
end

/-! ### isinstance(x, T), T a built-in class -/
def tyN : D → String
  | .none => "NoneType"
  | .bool _ => "bool"
  | .int _ => "int"
  | .str _ => "str"
  | .list _ => "list"
  | .tuple _ => "tuple"
  | .dict _ => "dict"
def isiD (T : String) (d : D) : Option Bool := kitB (tyN d) T
def oIsi (t : String) : List D → Option Sl
  | [d] => (isiD t d).map fun b => .val (.bool b)
  | _ => none
section
variable {X : Cx} {T : List Addr} {W : WX} {a c : Expr} {fa : En → Rs} {p pos : Pos} {t : String}
theorem tyx_of {K : PySem.W.Frag} {F H : Hp} {v : V} {d : D} (le : ∀ b o, F b = some o → H b = some o) (h : Dq K F v d) : TyX K H v (.type (tyN d)) := by
  cases h with
  | non => exact .base .non
  | bl b => exact .base (.bl b)
  | int i => exact .base (.int i)
  | str x _ => exact .base (.str x)
  | lst hs ha =>
    rcases sql_le le hs with (q | ⟨o, q⟩) | ⟨o, its, n, h1, h2, _⟩
    · exact .base (.lst q)
    · exact .base (.frz q)
    · exact .kList h1 h2
  | tup hs ha =>
    rcases tps_le le hs with ⟨o, q, _⟩ | ⟨o, its, n, h1, h2, _⟩
    · exact .fTuple q
    · exact .kTuple h1 h2
theorem ce_isi (hg : Gl X "isinstance") (hm : X.mg "isinstance" = none) (hv : bootBuiltins "isinstance" = some (.builtin "isinstance")) (ha : CE X T W a fa) (hc : PE X c (tC (.ty t)))
    (he : starEach [a, c] X.env = (false, eval a X.env) :: starEach [c] X.env := by rfl) (he2 : starEach [c] X.env = (false, eval c X.env) :: starEach [] X.env := by rfl) (hpl : (backTo pos (starEach [c] X.env)).any (·.1) = false := by rfl) :
    CE X T W (.Call (.Name "isinstance" p) [a, c] [] pos) (sPrim (oIsi t) [fa]) := by
  refine pe_imp (pe_callB call_isi hg hm hv (pa_cons ha (pa_cons hc pa_nil he2) he) (by decide) (by decide) he hpl) fun σ H Q q => ?_
  obtain ⟨F, ρ, G, q⟩ := prim_one q
  refine ⟨F, ρ, G, ?_⟩
  cases e : fa ρ with
  | bad => rw [e] at q; exact q
  | exc c ρ1 => rw [e] at q; exact q
  | ok r ρ1 =>
    rw [e] at q
    intro F1 H1 v m rs
    obtain ⟨F2, d, w, z, ew, le, dx, hz, k⟩ := rDs_one (q F1 H1 v m rs) (one_of rfl fun a b c => rfl)
    cases ew
    unfold oIsi isiD at hz
    simp only at hz
    cases e2 : kitB (tyN d) t with
    | none => rw [e2] at hz; cases hz
    | some b =>
      rw [e2] at hz
      cases hz
      exact ⟨v, V.ty t, .type (tyN d), .type t, b, rfl, ClsV.ty t, tyx_of le dx, kit_ty e2, k F2 H1 _ (P0.refl le) (R0.val (.bl _))⟩
end

/-! ### sorted -/
def allAlikeB (ds : List D) : Bool := ds.all fun d => ds.all fun e => PySem.W.alike d e
def sortableB (ds : List D) : Bool := (ds.all fun d => match d with | .tuple (_ :: _) => true | _ => false) || ds.all fun d => match d with | .none => false | .tuple _ => false | _ => true
def sortOk (ds : List D) : Bool := allAlikeB ds && sortableB ds && isSmall ds.length && ds.all fun d => decide (d.depth ≤ 50)
def sortD (ds : List D) : List D := ds.mergeSort (PySem.W.dataLe false fun d => d)
def oSorted : List D → Option Sl
  | [.list es] => if sortOk es = true then some (.lst (sortD es)) else none
  | _ => none
theorem allAlike_of {ds : List D} (h : allAlikeB ds = true) : PySem.W.AllAlike ds := fun d hd e he => List.all_eq_true.mp (List.all_eq_true.mp h d hd) e he
theorem sortable_of {ds : List D} (h : sortableB ds = true) : PySem.W.Sortable ds := by
  unfold sortableB at h
  rw [Bool.or_eq_true] at h
  rcases h with h | h
  · refine .inl fun d hd => ?_
    have := List.all_eq_true.mp h d hd
    cases d with
    | tuple xs => cases xs with
      | nil => cases this
      | cons x r => exact ⟨x, r, rfl⟩
    | _ => cases this
  · refine .inr fun d hd => ?_
    have := List.all_eq_true.mp h d hd
    cases d with
    | none => cases this
    | tuple xs => cases this
    | _ => exact ⟨fun z => (by cases z), fun xs z => (by cases z)⟩
theorem each_rel : ∀ {xs : List V} {its : List Value} {es : List D}, Vals xs its → xs.length = es.length → PySem.W.EachIs (fun (u : Value) (p : V × D) => RelV p.1 u) its (xs.zip es)
  | [], [], [], .nil, _ => .nil
  | _ :: _, _ :: _, _ :: _, .cons r t, h => .cons r (each_rel t (by simpa using h))
theorem each_reads {X : Cx} {pins : List (Addr × Obj)} {s : Shared} {σ : L2.St} {H F : Hp} (I : Inv X pins σ H s) (le : ∀ b o, F b = some o → H b = some o) : ∀ {xs : List V} {its : List Value} {es : List D}, Vals xs its → DqAll X.K F xs es → PySem.W.EachIs (fun (u : Value) (p : V × D) => ∃ as, Reads s.heap u p.2 as) its (xs.zip es)
  | [], [], [], .nil, _ => .nil
  | _ :: _, _ :: _, _ :: _, .cons r t, .cons a b => .cons (Dp.reads I _ _ _ (dq_dp (dp_le le a)).1 r) (each_reads I le t b)
theorem zip_dq {K : PySem.W.Frag} {F : Hp} : ∀ {xs : List V} {es : List D}, DqAll K F xs es → ∀ p ∈ xs.zip es, Dq K F p.1 p.2
  | _, _, .cons a b, p, h => by
    rw [List.zip_cons_cons] at h
    rcases List.mem_cons.mp h with e | h
    · subst e; exact a
    · exact zip_dq b p h
theorem map_snd_zip : ∀ {xs : List V} {es : List D}, xs.length = es.length → (xs.zip es).map Prod.snd = es
  | [], [], _ => rfl
  | _ :: _, _ :: _, h => by rw [List.zip_cons_cons, List.map_cons, map_snd_zip (by simpa using h)]
theorem dpa_map {K : PySem.W.Frag} {F : Hp} : ∀ {ps : List (V × D)}, (∀ p ∈ ps, Dq K F p.1 p.2) → DqAll K F (ps.map Prod.fst) (ps.map Prod.snd)
  | [], _ => .nil
  | p :: ps, h => .cons (h p List.mem_cons_self) (dpa_map fun q hq => h q (List.mem_cons_of_mem _ hq))
theorem vals_each : ∀ {out : List Value} {ps : List (V × D)}, PySem.W.EachIs (fun (u : Value) (p : V × D) => RelV p.1 u) out ps → Vals (ps.map Prod.fst) out
  | _, _, .nil => .nil
  | _, _, .cons r t => .cons r (vals_each t)
section
variable {X : Cx}
theorem p_sorted {k : Nat} (hr : Room k X.A) : CallR X (.builtin "sorted") (rDs X.K oSorted) := by
  intro pins s σ H vs us Q I r h
  obtain ⟨F, d, v, z, rfl, le, dx, hz, k⟩ := rDs_one h (one_of rfl fun a b c => by cases a <;> rfl)
  cases dx with
  | @lst a xs es hq ha =>
    simp only [oSorted] at hz
    split at hz
    · rename_i hok
      cases hz
      unfold sortOk at hok
      simp only [Bool.and_eq_true] at hok
      obtain ⟨⟨⟨h1, h2⟩, h3⟩, h4⟩ := hok
      obtain ⟨u, rfl, rx⟩ := vals1 r
      cases rx
      obtain ⟨its, rv, pl, _⟩ := I.list (sql_le le hq)
      have hl := dpa_len ha
      have hsnd := map_snd_zip hl
      refine PySem.W.sorted_data (bs := xs.zip es) (enc := Prod.snd) pl.isList (each_rel rv hl) (each_reads I le rv ha) (by rw [hsnd]; exact allAlike_of h1) (by rw [hsnd]; exact sortable_of h2) (by rw [List.length_zip, hl, Nat.min_self]; exact small_line h3) (fun b hb => ?_) fun out hlen heach => ?_
      · have := List.all_eq_true.mp h4 b.2 (by rw [← hsnd]; exact List.mem_map.mpr ⟨b, hb, rfl⟩)
        have := of_decide_eq_true this
        have := hr.units
        omega
      · obtain ⟨c, hc⟩ := sortedAll_at s.heap its out.toArray
        have hvals := vals_each heach
        have hdq : DqAll X.K F (((xs.zip es).mergeSort (PySem.W.dataLe false Prod.snd)).map Prod.fst) (sortD es) := by
          have e1 : sortD es = ((xs.zip es).mergeSort (PySem.W.dataLe false Prod.snd)).map Prod.snd := by
            have e2 := PySem.W.sort_maps (r := PySem.W.dataLe false Prod.snd) (s := PySem.W.dataLe false fun d : D => d) Prod.snd (l := xs.zip es) (fun a _ b _ => rfl)
            rw [hsnd] at e2
            exact e2.symm
          rw [e1]
          exact dpa_map fun p hp => zip_dq ha p (List.mem_mergeSort.mp hp)
        have hn : H (s.heap.objs.size + 1) = none := I.hok.fresh (Nat.le_succ _)
        obtain ⟨p0, r0⟩ := new_list le hn hdq
        refine ⟨.ref _, _, I.laid (t' := s.toks) (a := s.heap.objs.size + 1) (o := .lst _) (fun b o e => sortedAll_old e) (Nat.le_succ _) ⟨?_, out, c, hvals, hc⟩, rfl, k _ _ _ p0 r0⟩
        rw [hvals.length, hlen, List.length_zip, hl, Nat.min_self]
        exact small_line h3
    · cases hz
  | _ => cases hz
end

/-! ### methods of lists that change them -/
def sApp (i : Nat) (f : En → Rs) : En → Rs := fun ρ => match ρ[i]? with
  | some (.lst _) => match f ρ with
    | .ok r ρ1 => match fz r with
      | some d => match ρ1[i]? with
        | some (.lst ds) => if isSmall ds.length = true then .ok (.val .none) (ρ1.set i (.lst (ds ++ [d]))) else .bad
        | _ => .bad
      | none => .bad
    | .exc c ρ1 => .exc c ρ1
    | .bad => .bad
  | _ => .bad
/-- a slot's own list changes -/
theorem mv_own {K : PySem.W.Frag} {T : List Addr} {σ : L2.St} {F H : Hp} {ρ : En} {i : Nat} {ds ds' : List D} (G : Good K T F H σ ρ) (h : ρ[i]? = some (.lst ds)) {a : Addr} {vs vs' : List V} (ha : σ[i]? = some (some (.ref a))) (hH : H a = some (.lst vs)) (hF : F a = none) (hd : DqAll K F vs' ds') :
    Mv K T σ F H ρ F (upd H a (.lst vs')) (ρ.set i (.lst ds')) := by
  have hi : i < ρ.length := (List.getElem?_eq_some_iff.mp h).1
  have oa : Own σ ρ a := ⟨i, _, h, rfl, ha⟩
  refine ⟨⟨fun _ _ q => q, fun b o q1 q2 => (by rw [q1] at q2; cases q2), fun b o q1 q2 _ => ?_, fun b q => ?_⟩, ⟨fun b u q => ?_, fun P hP => ?_, by rw [List.length_set]; exact G.len, fun j s q => ?_, fun j k s t c q1 q2 q3 q4 q5 q6 => ?_⟩, fun j s q1 q2 => ?_⟩
  · have : b ≠ a := fun z => q2 (by rw [z]; exact oa)
    rw [upd_ne this]; exact q1
  · by_cases z : b = a
    · subst z; rw [upd_same] at q; cases q
    · rw [upd_ne z] at q; exact q
  · rw [upd_ne (ne_of_none q hF)]; exact G.le b u q
  · obtain ⟨h1, ps, h2, h3⟩ := G.tab P hP
    exact ⟨h1, ps, by rw [upd_ne (fun z => G.own_tab oa (by rw [← z]; exact hP))]; exact h2, h3⟩
  · by_cases hj : i = j
    · subst hj
      rw [List.getElem?_set_self hi] at q; cases q
      exact .inr ⟨_, ha, a, vs', rfl, hF, upd_same, hd⟩
    · rw [List.getElem?_set_ne hj] at q
      rcases G.at_ j s q with z | ⟨v, w1, w2⟩
      · exact .inl z
      · refine .inr ⟨v, w1, ?_⟩
        have nb : ∀ b, s.owned = true → v = .ref b → b ≠ a := fun b ho e z => hj (by
          subst z; subst e
          exact G.sep i j _ s b h q rfl ho ha w1)
        cases s with
        | un => exact w2
        | exc c => exact w2
        | val d => exact w2
        | lst es =>
          obtain ⟨b, ws, z1, z5, z6, z7⟩ := w2
          exact ⟨b, ws, z1, z5, by rw [upd_ne (nb b rfl z1)]; exact z6, z7⟩
        | dct kvs =>
          obtain ⟨b, z1, z5, z6⟩ := w2
          exact ⟨b, z1, z5, dcrep_mono (fun _ _ q => q) (fun u q => by rw [upd_ne (nb b rfl z1)]; exact q) z6⟩
  · have own : ∀ (j : Nat) (s : Sl), (ρ.set i (.lst ds'))[j]? = some s → s.owned = true → ∃ t, ρ[j]? = some t ∧ t.owned = true := fun j s q1 q2 => by
      by_cases hj : i = j
      · subst hj; exact ⟨_, h, rfl⟩
      · rw [List.getElem?_set_ne hj] at q1; exact ⟨s, q1, q2⟩
    obtain ⟨s', a1, a2⟩ := own j s q1 q3
    obtain ⟨t', b1, b2⟩ := own k t q2 q4
    exact G.sep j k s' t' c a1 b1 a2 b2 q5 q6
  · by_cases hj : i = j
    · subst hj; exact ⟨_, h, rfl⟩
    · rw [List.getElem?_set_ne hj] at q1; exact ⟨s, q1, q2⟩
section
variable {X : Cx} {T : List Addr} {W : WX} {io : List Nat} {e o i : Expr} {f fi : En → Rs} {pos : Pos}
theorem ce_app {n : Nat} {apos cpos : Pos} (ho : PE X o (tVar n)) (he : CE X T W e f) (hbase : attributeBase o "append" X.env (eval o X.env) = eval o X.env := by rfl)
    (hfew : ((backTo cpos (starEach [e] X.env)).all (fun x => !x.1) && (backToKw cpos (keywordEach [] X.env)).all (fun x => x.1.isSome)
      && decide (([e] : List Expr).length + ([] : List Keyword).length + (if ([] : List Keyword).isEmpty then 0 else 1) < 30)) = true := by rfl)
    (hline : (apos.endLine == cpos.line) = true := by rfl) (hs : starEach [e] X.env = (false, eval e X.env) :: starEach [] X.env := by rfl) (hplain : (backTo cpos (starEach [] X.env)).any (·.1) = false := by rfl) :
    CE X T W (.Call (.Attribute o "append" apos) [e] [] cpos) (sApp n f) := by
  refine pe_imp (pe_bm PySem.F.plainAttrs_list PySem.F.slot_list_append PySem.F.type_list_append mt_append ho (pa_cons he pa_nil hs) hbase hfew hline hs hplain) fun σ H Q ⟨F, ρ, G, q⟩ => ?_
  unfold sApp at q
  cases h1 : ρ[n]? with
  | none => simp only [h1] at q
  | some s0 =>
    cases s0 with
    | lst ds0 =>
      rcases G.at_ n _ h1 with z | ⟨v0, h2, h3⟩
      · cases z
      obtain ⟨a, vs0, ea, _, y3, _⟩ := h3
      have hty : tyV X.K "list" v0 H := by rw [ea]; exact .inl ⟨rfl, vs0, SqL.of y3⟩
      simp only [h1] at q
      refine ⟨v0, h2, hty, F, ρ, G, ?_⟩
      cases e1 : f ρ with
      | bad => simp only [e1] at q
      | exc c ρ1 => simp only [e1] at q; exact q
      | ok r ρ1 =>
        simp only [e1] at q
        intro F1 H1 v m rs
        cases e2 : fz r with
        | none => simp only [e2] at q
        | some d =>
          simp only [e2] at q
          obtain ⟨F2, m2, dp⟩ := mv_fz m rs e2
          cases e3 : ρ1[n]? with
          | none => simp only [e3] at q
          | some s1 =>
            cases s1 with
            | lst ds =>
              simp only [e3] at q
              by_cases hsm : isSmall ds.length = true
              · simp only [if_pos hsm] at q
                rcases m2.good.at_ n _ e3 with z | ⟨w, w1, b, vs, z1, z2, z3, z4⟩
                · cases z
                · rw [h2] at w1
                  cases w1
                  rw [ea] at z1
                  cases z1
                  refine ⟨a, vs, v, ea, rfl, z3, ?_, q F2 _ .non (m2.trans (mv_own m2.good e3 (by rw [h2, ea]) z3 z2 (dpa_app z4 (.cons dp .nil)))) ⟨.non, fun z => by cases z⟩⟩
                  rw [dpa_len z4, sizeLine_eq]
                  have := of_decide_eq_true hsm
                  omega
              · simp only [if_neg hsm] at q
            | _ => simp only [e3] at q
    | _ => simp only [h1] at q
end
end Pu
end PuI_part
section PuJ_part
set_option Elab.async false
set_option linter.all false
set_option maxRecDepth 100000
set_option maxHeartbeats 2000000
/-! The pure layer, part J: dicts whose keys are ints and texts. -/
namespace Pu
open PySem PySem.Spec PyProof.Rows L2

def keyO : D → Option Key
  | .int i => some (.inl i)
  | .str x => some (.inr x)
  | _ => none
theorem keyO_some {d : D} {k : Key} (h : keyO d = some k) : d = keyD k := by
  cases d <;> first | (cases h; rfl) | cases h
theorem key_ok {K : PySem.W.Frag} {F : Hp} {d : D} {k : Key} {y : V} (h : keyO d = some k) (dk : Dq K F y d) : d = keyD k ∧ y = kV k ∧ keyOk d = true := by
  have e := keyO_some h
  subst e
  cases k <;> cases dk <;> first | exact ⟨rfl, rfl, rfl⟩ | (rename_i hx; exact ⟨rfl, rfl, hx⟩)
theorem key_dq {K : PySem.W.Frag} {F : Hp} {k : Key} (h : keyOk (keyD k) = true) : Dq K F (kV k) (keyD k) := by
  cases k with
  | inl i => exact .int i
  | inr x => exact .str x h
def keq : D → D → Bool
  | .int i, .int j => decide (i = j)
  | .str x, .str y => decide (x = y)
  | _, _ => false
theorem keq_key (a b : Key) : keq (keyD a) (keyD b) = decide (a = b) := by
  cases a <;> cases b <;> simp [keq, keyD]
def dGet (kvs : List (D × D)) (k : D) : Option D := (kvs.find? fun p => keq p.1 k).map (·.2)
def dPut (kvs : List (D × D)) (k v : D) : List (D × D) := if (kvs.any fun p => keq p.1 k) = true then kvs.map (fun p => if keq p.1 k = true then (p.1, v) else p) else kvs ++ [(k, v)]
def dDel (kvs : List (D × D)) (k : D) : List (D × D) := kvs.filter fun p => !keq p.1 k
abbrev KVR (K : PySem.W.Frag) (F : Hp) : List (D × D) → List (Key × V) → Prop := Paired fun (p : D × D) (q : Key × V) => (p.1 = keyD q.1 ∧ keyOk p.1 = true) ∧ Dq K F q.2 p.2
section
variable {K : PySem.W.Frag} {F : Hp} {kvs : List (D × D)} {kws : List (Key × V)}
theorem kvr_get (h : KVR K F kvs kws) (k : Key) : (dGet kvs (keyD k) = none ∧ valV kws k = none) ∨ ∃ d v, dGet kvs (keyD k) = some d ∧ valV kws k = some v ∧ Dq K F v d := by
  induction h with
  | nil => exact .inl ⟨rfl, rfl⟩
  | @cons p q ps qs a t ih =>
    obtain ⟨⟨e, _⟩, dp⟩ := a
    by_cases hk : q.1 = k
    · exact .inr ⟨p.2, q.2, by simp [dGet, List.find?_cons, e, keq_key, hk], valV_pos hk, dp⟩
    · have e1 : dGet (p :: ps) (keyD k) = dGet ps (keyD k) := by simp [dGet, List.find?_cons, e, keq_key, hk]
      rw [e1, valV_neg hk]
      exact ih
theorem kvr_any (h : KVR K F kvs kws) (k : Key) : (kvs.any fun p => keq p.1 (keyD k)) = (kws.any fun kv => decide (kv.1 = k)) := by
  induction h with
  | nil => rfl
  | @cons p q ps qs a t ih => rw [List.any_cons, List.any_cons, ih, a.1.1, keq_key]
theorem kvr_map (h : KVR K F kvs kws) {k : Key} {d : D} {v : V} (dp : Dq K F v d) : KVR K F (kvs.map (fun p => if keq p.1 (keyD k) = true then (p.1, d) else p)) (kws.map fun kv => if kv.1 = k then (kv.1, v) else kv) := by
  induction h with
  | nil => exact .nil
  | @cons p q ps qs a t ih =>
    rw [List.map_cons, List.map_cons]
    refine .cons ?_ ih
    by_cases hk : q.1 = k
    · rw [if_pos (by rw [a.1.1, keq_key]; simpa using hk), if_pos hk]; exact ⟨a.1, dp⟩
    · rw [if_neg hk, if_neg (by rw [a.1.1, keq_key]; simpa using hk)]; exact a
theorem kvr_app {kvs' : List (D × D)} {kws' : List (Key × V)} (h : KVR K F kvs kws) (h2 : KVR K F kvs' kws') : KVR K F (kvs ++ kvs') (kws ++ kws') := by
  induction h with
  | nil => exact h2
  | cons a t ih => exact .cons a ih
theorem kvr_put (h : KVR K F kvs kws) {k : Key} {d : D} {v : V} (hok : keyOk (keyD k) = true) (dp : Dq K F v d) : KVR K F (dPut kvs (keyD k) d) (putK kws k v) := by
  unfold dPut putK
  rw [kvr_any h k]
  split
  · exact kvr_map h dp
  · exact kvr_app h (.cons ⟨⟨rfl, hok⟩, dp⟩ .nil)
theorem kvr_drop (h : KVR K F kvs kws) (k : Key) : KVR K F (dDel kvs (keyD k)) (dropK kws k) := by
  unfold dDel dropK
  induction h with
  | nil => exact .nil
  | @cons p q ps qs a t ih =>
    rw [List.filter_cons, List.filter_cons]
    by_cases hk : q.1 = k
    · rw [if_neg (by rw [a.1.1, keq_key]; simpa using hk), if_neg (by simpa using hk)]; exact ih
    · rw [if_pos (by rw [a.1.1, keq_key]; simpa using hk), if_pos (by simpa using hk)]; exact .cons a ih
end
/-- a slot's own object changes -/
theorem mv_slot {K : PySem.W.Frag} {T : List Addr} {σ : L2.St} {F H : Hp} {ρ : En} {i : Nat} {s0 s1 : Sl} {o : HO} {a : Addr} (G : Good K T F H σ ρ) (h : ρ[i]? = some s0) (ho : s0.owned = true) (ha : σ[i]? = some (some (.ref a))) (hr : SlRep K F (upd H a o) (.ref a) s1) (h1 : s1.owned = true) :
    Mv K T σ F H ρ F (upd H a o) (ρ.set i s1) := by
  have hi : i < ρ.length := (List.getElem?_eq_some_iff.mp h).1
  have oa : Own σ ρ a := ⟨i, _, h, ho, ha⟩
  obtain ⟨⟨u0, hu0, _⟩, hF⟩ := G.own_some oa
  refine ⟨⟨fun _ _ q => q, fun b o q1 q2 => (by rw [q1] at q2; cases q2), fun b o q1 q2 _ => ?_, fun b q => ?_⟩, ⟨fun b u q => ?_, fun P hP => ?_, by rw [List.length_set]; exact G.len, fun j s q => ?_, fun j k s t c q1 q2 q3 q4 q5 q6 => ?_⟩, fun j s q1 q2 => ?_⟩
  · have : b ≠ a := fun z => q2 (by rw [z]; exact oa)
    rw [upd_ne this]; exact q1
  · by_cases z : b = a
    · subst z; rw [upd_same] at q; cases q
    · rw [upd_ne z] at q; exact q
  · rw [upd_ne (ne_of_none q hF)]; exact G.le b u q
  · obtain ⟨h1, ps, h2, h3⟩ := G.tab P hP
    exact ⟨h1, ps, by rw [upd_ne (fun z => G.own_tab oa (by rw [← z]; exact hP))]; exact h2, h3⟩
  · by_cases hj : i = j
    · subst hj
      rw [List.getElem?_set_self hi] at q; cases q
      exact .inr ⟨_, ha, hr⟩
    · rw [List.getElem?_set_ne hj] at q
      rcases G.at_ j s q with z | ⟨v, w1, w2⟩
      · exact .inl z
      · refine .inr ⟨v, w1, ?_⟩
        have nb : ∀ b, s.owned = true → v = .ref b → b ≠ a := fun b ho2 e z => hj (by
          subst z; subst e
          exact G.sep i j _ s b h q ho ho2 ha w1)
        cases s with
        | un => exact w2
        | exc c => exact w2
        | val d => exact w2
        | lst es =>
          obtain ⟨b, ws, z1, z5, z6, z7⟩ := w2
          exact ⟨b, ws, z1, z5, by rw [upd_ne (nb b rfl z1)]; exact z6, z7⟩
        | dct kvs =>
          obtain ⟨b, z1, z5, z6⟩ := w2
          exact ⟨b, z1, z5, dcrep_mono (fun _ _ q => q) (fun u q => by rw [upd_ne (nb b rfl z1)]; exact q) z6⟩
  · have own : ∀ (j : Nat) (s : Sl), (ρ.set i s1)[j]? = some s → s.owned = true → ∃ t, ρ[j]? = some t ∧ t.owned = true := fun j s q1 q2 => by
      by_cases hj : i = j
      · subst hj; exact ⟨_, h, ho⟩
      · rw [List.getElem?_set_ne hj] at q1; exact ⟨s, q1, q2⟩
    obtain ⟨s', a1, a2⟩ := own j s q1 q3
    obtain ⟨t', b1, b2⟩ := own k t q2 q4
    exact G.sep j k s' t' c a1 b1 a2 b2 q5 q6
  · by_cases hj : i = j
    · subst hj; exact ⟨_, h, ho⟩
    · rw [List.getElem?_set_ne hj] at q1; exact ⟨s, q1, q2⟩

/-! ### dicts as receivers -/
/-- a name's own dict, or a new one that an expression hands out -/
inductive RK where
  | nm (i : Nat)
  | ex (f : En → Rs)
def tRc (K : PySem.W.Frag) (T : List Addr) (W : WX) (mg : Str → Option Value) : RK → TE
  | .nm i => tVar i
  | .ex f => tE K T W mg f
abbrev CR (X : Cx) (T : List Addr) (W : WX) (e : Expr) (r : RK) : Prop := PE X e (tRc X.K T W X.mg r)
def peek : RK → En → Rs
  | .nm i, ρ => match ρ[i]? with
    | some (.dct kvs) => .ok (.dct kvs) ρ
    | _ => .bad
  | .ex f, ρ => match f ρ with
    | .ok (.dct kvs) ρ1 => .ok (.dct kvs) ρ1
    | .ok _ _ => .bad
    | .exc c ρ1 => .exc c ρ1
    | .bad => .bad
def again : RK → List (D × D) → En → Option (List (D × D))
  | .nm i, _, ρ => match ρ[i]? with
    | some (.dct kvs) => some kvs
    | _ => none
  | .ex _, kvs, _ => some kvs
/-- the dict stands at a -/
def Held (K : PySem.W.Frag) (T : List Addr) : RK → L2.St → En → Hp → Hp → Addr → List (D × D) → Prop
  | .nm i, σ, ρ, _, _, a, kvs => σ[i]? = some (some (.ref a)) ∧ ρ[i]? = some (.dct kvs)
  | .ex _, σ, ρ, F, H, a, kvs => F a = none ∧ DcRep K F H a kvs ∧ ¬ Own σ ρ a ∧ a ∉ T
section
variable {K : PySem.W.Frag} {T : List Addr} {W : WX} {mg : Str → Option Value} {σ : L2.St} {F H F1 H1 : Hp} {ρ ρ1 : En} {Q : VK} {r : RK} {kvs kvs1 : List (D × D)} {a : Addr}
theorem held_rep (G : Good K T F H σ ρ) (h : Held K T r σ ρ F H a kvs) : DcRep K F H a kvs ∧ F a = none := by
  cases r with
  | nm i =>
    rcases G.at_ i _ h.2 with z | ⟨v, h1, b, e1, e2, e3⟩
    · cases z
    · rw [h.1] at h1
      cases h1
      cases e1
      exact ⟨e3, e2⟩
  | ex f => exact ⟨h.2.1, h.1⟩
theorem held_again (G : Good K T F H σ ρ) (h : Held K T r σ ρ F H a kvs) (m : Mv K T σ F H ρ F1 H1 ρ1) (e : again r kvs ρ1 = some kvs1) : Held K T r σ ρ1 F1 H1 a kvs1 := by
  cases r with
  | nm i =>
    cases he : ρ1[i]? with
    | none => simp only [again, he] at e; cases e
    | some s =>
      cases s with
      | dct kvs2 =>
        simp only [again, he] at e
        cases e
        exact ⟨h.1, he⟩
      | _ => simp only [again, he] at e; cases e
  | ex f =>
    cases e
    obtain ⟨h1, h2, h3, h4⟩ := h
    obtain ⟨kws, z, q⟩ := h2
    obtain ⟨z1, z2⟩ := m.ext.stay z h1 h3 h4
    exact ⟨z2, ⟨kws, z1, L2.Paired.mapP q fun p q z => ⟨z.1, dp_le m.ext.fle z.2⟩⟩, fun w => h3 (m.own a w), h4⟩
theorem recv_then (G : Good K T F H σ ρ) (q : match peek r ρ with
    | .ok (.dct kvs) ρ1 => ∀ F1 H1 a, Mv K T σ F H ρ F1 H1 ρ1 → Held K T r σ ρ1 F1 H1 a kvs → Q (.ref a) H1
    | .ok _ _ => False
    | .exc c ρ1 => ∀ F' H' C, mg c = some (.ref C) → Mv K T σ F H ρ F' H' ρ1 → W (.ref C) none σ H'
    | .bad => False) : tRc K T W mg r σ H Q := by
  cases r with
  | nm i =>
    unfold peek at q
    cases e : ρ[i]? with
    | none => simp only [e] at q
    | some s =>
      cases s with
      | dct kvs =>
        simp only [e] at q
        rcases G.at_ i _ e with z | ⟨v, h1, b, e1, e2, e3⟩
        · cases z
        · subst e1
          exact ⟨_, h1, q F H b (Mv.refl G) ⟨h1, e⟩⟩
      | _ => simp only [e] at q
  | ex f =>
    refine ⟨F, ρ, G, ?_⟩
    unfold peek at q
    cases e : f ρ with
    | bad => simp only [e] at q
    | exc c ρ1 => simp only [e] at q; exact q
    | ok r ρ1 =>
      cases r with
      | dct kvs =>
        simp only [e] at q
        intro F1 H1 v m rs
        obtain ⟨b, e1, e2, e3⟩ := rs.rep
        subst e1
        refine q F1 H1 b m ⟨e2, e3, (rs.fresh rfl b rfl).1, fun z => ?_⟩
        obtain ⟨_, ps, z1, _⟩ := m.good.tab b z
        obtain ⟨u, z2, z3⟩ := dcrep_some e3
        rw [z1] at z2; cases z2
        exact z3 _ rfl
      | _ => simp only [e] at q
theorem dc_isD (h : DcRep K F H a kvs) : IsD H a := by
  obtain ⟨kws, e, _⟩ := h
  exact .inl ⟨kws, .inl e⟩
end
/-- d[k] as read: the key, whether it is there -/
def dLook (kvs : List (D × D)) (k : D) : Option (Option D) := match keyO k with
  | some _ => some (dGet kvs k)
  | none => none
def OptR (K : PySem.W.Frag) (F : Hp) : Option D → Option V → Prop
  | none, w => w = none
  | some d, w => ∃ v, w = some v ∧ Dq K F v d
theorem look_get {K : PySem.W.Frag} {F H : Hp} {a : Addr} {kvs : List (D × D)} {k : D} {y : V} {o : Option D} (le : ∀ b o, F b = some o → H b = some o) (h : DcRep K F H a kvs) (dk : Dq K F y k) (e : dLook kvs k = some o) :
    ∃ w : Option V, DGet H a y w ∧ OptR K F o w := by
  obtain ⟨kws, e1, q⟩ := h
  unfold dLook at e
  cases hk : keyO k with
  | none => rw [hk] at e; cases e
  | some k0 =>
    rw [hk] at e
    cases e
    have ek := keyO_some hk
    subst ek
    have hy : y = kV k0 := by cases k0 <;> cases dk <;> rfl
    subst hy
    refine ⟨valV kws k0, DGet.k e1, ?_⟩
    rcases kvr_get q k0 with ⟨z1, z2⟩ | ⟨d, v, z1, z2, z3⟩
    · rw [z1]; exact z2
    · rw [z1]; exact ⟨v, z2, z3⟩

/-! ### d.get(k), d.get(k, x), d[k], k in d -/
def sGet2 (r : RK) (fk fx : En → Rs) : En → Rs := fun ρ => match peek r ρ with
  | .ok (.dct kvs) ρ1 => match sArgs [fk, fx] ρ1 with
    | .ok [k, x] ρ2 => match again r kvs ρ2 with
      | some kvs1 => match dLook kvs1 k with
        | some o => .ok (.val (o.getD x)) ρ2
        | none => .bad
      | none => .bad
    | .ok _ _ => .bad
    | .exc c ρ2 => .exc c ρ2
    | .bad => .bad
  | .ok _ _ => .bad
  | .exc c ρ1 => .exc c ρ1
  | .bad => .bad
def sGet1 (r : RK) (fk : En → Rs) : En → Rs := fun ρ => match peek r ρ with
  | .ok (.dct kvs) ρ1 => match sArgs [fk] ρ1 with
    | .ok [k] ρ2 => match again r kvs ρ2 with
      | some kvs1 => match dLook kvs1 k with
        | some o => .ok (.val (o.getD .none)) ρ2
        | none => .bad
      | none => .bad
    | .ok _ _ => .bad
    | .exc c ρ2 => .exc c ρ2
    | .bad => .bad
  | .ok _ _ => .bad
  | .exc c ρ1 => .exc c ρ1
  | .bad => .bad
/-- d[k], k there -/
def sDix (r : RK) (fk : En → Rs) : En → Rs := fun ρ => match peek r ρ with
  | .ok (.dct kvs) ρ1 => match sArgs [fk] ρ1 with
    | .ok [k] ρ2 => match again r kvs ρ2 with
      | some kvs1 => match dLook kvs1 k with
        | some (some d) => .ok (.val d) ρ2
        | _ => .bad
      | none => .bad
    | .ok _ _ => .bad
    | .exc c ρ2 => .exc c ρ2
    | .bad => .bad
  | .ok _ _ => .bad
  | .exc c ρ1 => .exc c ρ1
  | .bad => .bad
section
variable {X : Cx} {T : List Addr} {W : WX} {o e f : Expr} {r : RK} {fk fx : En → Rs} {apos cpos : Pos}
theorem tA_of {K : PySem.W.Frag} {mg : Str → Option Value} {fs : List (En → Rs)} {σ : L2.St} {F H F1 H1 : Hp} {ρ ρ1 : En} {Q : List V → Hp → Prop} (m : Mv K T σ F H ρ F1 H1 ρ1) (q : match sArgs fs ρ1 with
    | .ok ds ρ' => ∀ F' H' vs, Mv K T σ F H ρ F' H' ρ' → Mv K T σ F1 H1 ρ1 F' H' ρ' → DqAll K F' vs ds → Q vs H'
    | .exc c ρ' => ∀ F' H' C, mg c = some (.ref C) → Mv K T σ F H ρ F' H' ρ' → W (.ref C) none σ H'
    | .bad => False) : tA K T W mg fs σ H1 Q := by
  refine ⟨F1, ρ1, m.good, ?_⟩
  cases e : sArgs fs ρ1 with
  | bad => rw [e] at q; exact q
  | exc c ρ2 => rw [e] at q; exact fun F' H' C hc m' => q F' H' C hc (m.trans m')
  | ok r ρ2 => rw [e] at q; exact fun F' H' v m' rs => q F' H' v (m.trans m') m' rs
theorem tA_one {K : PySem.W.Frag} {mg : Str → Option Value} {σ : L2.St} {H : Hp} {Q : VK} (h : tA K T W mg [fk] σ H fun vs H1 => ∃ x, vs = [x] ∧ Q x H1) : tE K T W mg fk σ H Q := by
  obtain ⟨F, ρ, G, q⟩ := tA_cons h
  refine ⟨F, ρ, G, ?_⟩
  cases e : fk ρ with
  | bad => rw [e] at q; exact q
  | exc c ρ1 => rw [e] at q; exact q
  | ok r ρ1 =>
    rw [e] at q
    intro F1 H1 v m rs
    obtain ⟨x, ex, q2⟩ := tA_nil (q F1 H1 v m rs)
    cases ex
    exact q2
theorem tA_two {K : PySem.W.Frag} {mg : Str → Option Value} {σ : L2.St} {H : Hp} {Q : V → V → Hp → Prop} (h : tA K T W mg [fk, fx] σ H fun vs H1 => ∃ x y, vs = [x, y] ∧ Q x y H1) : tE K T W mg fk σ H fun x H1 => tE K T W mg fx σ H1 fun y H2 => Q x y H2 := by
  obtain ⟨F, ρ, G, q⟩ := tA_cons h
  refine ⟨F, ρ, G, ?_⟩
  cases e : fk ρ with
  | bad => rw [e] at q; exact q
  | exc c ρ1 => rw [e] at q; exact q
  | ok r ρ1 =>
    rw [e] at q
    intro F1 H1 v m rs
    have q1 := q F1 H1 v m rs
    refine tA_one ?_
    obtain ⟨F2, ρ2, G2, q2⟩ := q1
    refine ⟨F2, ρ2, G2, ?_⟩
    cases e2 : sArgs [fx] ρ2 with
    | bad => rw [e2] at q2; exact q2
    | exc c ρ1 => rw [e2] at q2; exact q2
    | ok r ρ1 =>
      rw [e2] at q2
      intro F3 H3 vs m3 dps
      obtain ⟨x, y, exy, q3⟩ := q2 F3 H3 vs m3 dps
      cases exy
      exact ⟨y, rfl, q3⟩
theorem ce_dget2 {k : Nat} (hr : Room k X.A) (ho : CR X T W o r) (he : CE X T W e fk) (hf : CE X T W f fx) (m : M2 X o "get" apos e f cpos) : CE X T W (.Call (.Attribute o "get" apos) [e, f] [] cpos) (sGet2 r fk fx) := by
  refine pe_imp (pe_dget2 (by have := hr.units; omega) ho he hf m) fun σ H Q ⟨F, ρ, G, q⟩ => ?_
  refine recv_then G ?_
  unfold sGet2 at q
  cases e1 : peek r ρ with
  | bad => simp only [e1] at q
  | exc c ρ1 => simp only [e1] at q; exact q
  | ok s ρ1 =>
    cases s with
    | dct kvs =>
      simp only [e1] at q
      intro F1 H1 a m1 hd
      refine ⟨a, rfl, dc_isD (held_rep m1.good hd).1, tA_two (tA_of m1 ?_)⟩
      cases e2 : sArgs [fk, fx] ρ1 with
      | bad => simp only [e2] at q
      | exc c ρ2 => simp only [e2] at q; exact q
      | ok ds ρ2 =>
        simp only [e2] at q
        intro F2 H2 vs m2 m2' dps
        cases dps with
        | nil => simp only at q
        | @cons y0 vs0 k0 ds0 dk b => cases b with
          | nil => simp only at q
          | cons dx b => cases b with
            | cons _ _ => simp only at q
            | nil =>
              simp only at q
              refine ⟨_, _, rfl, ?_⟩
              cases e3 : again r kvs ρ2 with
              | none => simp only [e3] at q
              | some kvs1 =>
                simp only [e3] at q
                have hd2 := held_again m1.good hd m2' e3
                cases e4 : dLook kvs1 k0 with
                | none => simp only [e4] at q
                | some w =>
                  simp only [e4] at q
                  obtain ⟨w2, g, wr⟩ := look_get m2.good.le (held_rep m2.good hd2).1 dk e4
                  refine ⟨w2, g, q F2 H2 _ m2 ⟨?_, fun z => by cases z⟩⟩
                  cases w with
                  | none => rw [wr]; exact dx
                  | some d => obtain ⟨v, rfl, dv⟩ := wr; exact dv
    | _ => simp only [e1] at q
theorem ce_dget1 {k : Nat} (hr : Room k X.A) (ho : CR X T W o r) (he : CE X T W e fk) (m : M1 X o "get" apos e cpos) : CE X T W (.Call (.Attribute o "get" apos) [e] [] cpos) (sGet1 r fk) := by
  refine pe_imp (pe_dget1 (by have := hr.units; omega) ho he m) fun σ H Q ⟨F, ρ, G, q⟩ => ?_
  refine recv_then G ?_
  unfold sGet1 at q
  cases e1 : peek r ρ with
  | bad => simp only [e1] at q
  | exc c ρ1 => simp only [e1] at q; exact q
  | ok s ρ1 =>
    cases s with
    | dct kvs =>
      simp only [e1] at q
      intro F1 H1 a m1 hd
      refine ⟨a, rfl, dc_isD (held_rep m1.good hd).1, tA_one (tA_of m1 ?_)⟩
      cases e2 : sArgs [fk] ρ1 with
      | bad => simp only [e2] at q
      | exc c ρ2 => simp only [e2] at q; exact q
      | ok ds ρ2 =>
        simp only [e2] at q
        intro F2 H2 vs m2 m2' dps
        cases dps with
        | nil => simp only at q
        | @cons y0 vs0 k0 ds0 dk b => cases b with
          | cons dx b => simp only at q
          | nil =>
            simp only at q
            refine ⟨_, rfl, ?_⟩
            cases e3 : again r kvs ρ2 with
            | none => simp only [e3] at q
            | some kvs1 =>
              simp only [e3] at q
              have hd2 := held_again m1.good hd m2' e3
              cases e4 : dLook kvs1 k0 with
              | none => simp only [e4] at q
              | some w =>
                simp only [e4] at q
                obtain ⟨w2, g, wr⟩ := look_get m2.good.le (held_rep m2.good hd2).1 dk e4
                refine ⟨w2, g, q F2 H2 _ m2 ⟨?_, fun z => by cases z⟩⟩
                cases w with
                | none => rw [wr]; exact .non
                | some d => obtain ⟨v, rfl, dv⟩ := wr; exact dv
    | _ => simp only [e1] at q
theorem ce_dix {k : Nat} {pos : Pos} (hr : Room k X.A) (ho : CR X T W o r) (he : CE X T W e fk) (hs : NoSl e) : CE X T W (.Subscript o e pos) (sDix r fk) := by
  refine pe_imp (pe_dget (by have := hr.units; omega) ho he hs) fun σ H Q ⟨F, ρ, G, q⟩ => ?_
  refine recv_then G ?_
  unfold sDix at q
  cases e1 : peek r ρ with
  | bad => simp only [e1] at q
  | exc c ρ1 => simp only [e1] at q; exact q
  | ok s ρ1 =>
    cases s with
    | dct kvs =>
      simp only [e1] at q
      intro F1 H1 a m1 hd
      refine tA_one (tA_of m1 ?_)
      cases e2 : sArgs [fk] ρ1 with
      | bad => simp only [e2] at q
      | exc c ρ2 => simp only [e2] at q; exact q
      | ok ds ρ2 =>
        simp only [e2] at q
        intro F2 H2 vs m2 m2' dps
        cases dps with
        | nil => simp only at q
        | @cons y0 vs0 k0 ds0 dk b => cases b with
          | cons dx b => simp only at q
          | nil =>
            simp only at q
            refine ⟨_, rfl, ?_⟩
            cases e3 : again r kvs ρ2 with
            | none => simp only [e3] at q
            | some kvs1 =>
              simp only [e3] at q
              have hd2 := held_again m1.good hd m2' e3
              cases e4 : dLook kvs1 k0 with
              | none => simp only [e4] at q
              | some w =>
                cases w with
                | none => simp only [e4] at q
                | some d =>
                  simp only [e4] at q
                  obtain ⟨w2, g, v, rfl, dv⟩ := look_get m2.good.le (held_rep m2.good hd2).1 dk e4
                  exact ⟨a, v, rfl, g, q F2 H2 _ m2 ⟨dv, fun z => by cases z⟩⟩
    | _ => simp only [e1] at q
end
end Pu
end PuJ_part
section PuL_part
set_option Elab.async false
set_option linter.all false
set_option maxRecDepth 100000
set_option maxHeartbeats 2000000
/-! The pure layer, part L: making and changing dicts. -/
namespace Pu
open PySem PySem.Spec PyProof.Rows L2

section
variable {X : Cx} {T : List Addr} {W : WX} {io : List Nat}
theorem new_dict {K : PySem.W.Frag} {F H : Hp} {p : Addr} {kvs : List (D × D)} {kws : List (Key × V)} (le : ∀ b o, F b = some o → H b = some o) (np : H p = none) (ha : KVR K F kvs kws) : P0 F H F (upd H p (.dK kws)) ∧ R0 K H F (upd H p (.dK kws)) (.dct kvs) (.ref p) := by
  have nF : F p = none := by
    cases q : F p with
    | none => rfl
    | some u => rw [le p u q] at np; cases np
  refine ⟨P0.fresh le np, ⟨⟨p, rfl, nF, kws, upd_same, ha⟩, fun _ a e => ?_⟩⟩
  cases e
  exact np

/-! ### {} -/
def sDnew : En → Rs := fun ρ => .ok (.dct []) ρ
theorem ce_dnew {pos : Pos} : CE X T W (.Dict [] [] pos) sDnew := by
  refine pe_imp pe_dnewK fun σ H Q ⟨F, ρ, G, q⟩ p np => ?_
  obtain ⟨p0, r0⟩ := new_dict (K := X.K) (kvs := []) G.le np .nil
  exact q _ _ _ ((Mv.refl G).p0 p0) ((Mv.refl G).res r0)

/-! ### dict(pairs) -/
def pairsD : List D → Option (List (D × D))
  | [] => some []
  | .tuple [k, v] :: r => match keyO k, pairsD r with
    | some _, some ps => some ((k, v) :: ps)
    | _, _ => none
  | _ => none
def mergeD (ps : List (D × D)) : List (D × D) := ps.foldl (fun acc p => dPut acc p.1 p.2) []
def oDict : List D → Option Sl
  | [.list ds] => if isSmall ds.length = true then (pairsD ds).map fun ps => .dct (mergeD ps) else none
  | [.tuple ds] => if isSmall ds.length = true then (pairsD ds).map fun ps => .dct (mergeD ps) else none
  | _ => none
theorem kvr_merge {K : PySem.W.Frag} {F : Hp} {ps : List (D × D)} {kws : List (Key × V)} (h : KVR K F ps kws) : ∀ {acc : List (D × D)} {ac2 : List (Key × V)}, KVR K F acc ac2 → KVR K F (ps.foldl (fun acc p => dPut acc p.1 p.2) acc) (mergeK ac2 kws) := by
  unfold mergeK
  induction h with
  | nil => exact fun h => h
  | @cons p q ps qs a t ih =>
    intro acc ac2 h
    rw [List.foldl_cons, List.foldl_cons]
    refine ih ?_
    have h2 := a.1.2
    rw [a.1.1] at h2 ⊢
    exact kvr_put h h2 a.2
theorem pairs_dq {K : PySem.W.Frag} {F : Hp} : ∀ {ds : List D} {vs : List V} {pd : List (D × D)}, DqAll K F vs ds → pairsD ds = some pd →
    ∃ (ps : List Addr) (kws : List (Key × V)), vs = ps.map V.ref ∧ KVR K F pd kws ∧ Paired (fun p (kv : Key × V) => TpS K F p [kV kv.1, kv.2]) ps kws
  | [], _, pd, h, e => by
    cases h
    cases e
    exact ⟨[], [], rfl, .nil, .nil⟩
  | d :: ds, _, pd, h, e => by
    cases h with
    | cons a b =>
      unfold pairsD at e
      split at e
      · rename_i h1; cases h1
      · rename_i k v r h1
        cases h1
        cases hk : keyO k with
        | none => simp only [hk] at e; cases e
        | some k0 =>
          cases hp : pairsD ds with
          | none => simp only [hk, hp] at e; cases e
          | some ps =>
            simp only [hk, hp] at e
            cases e
            obtain ⟨ps2, kws, e1, e2, e3⟩ := pairs_dq b hp
            cases a with
            | @tup a xs _ hs ha =>
              cases ha with
              | @cons y1 _ _ _ dk hr => cases hr with
                | @cons y2 _ _ _ dv hr2 =>
                  cases hr2
                  obtain ⟨ek, hy, hok⟩ := key_ok hk dk
                  subst hy
                  exact ⟨a :: ps2, (k0, y2) :: kws, by rw [List.map_cons, e1], .cons ⟨⟨ek, hok⟩, dv⟩ e2, .cons hs e3⟩
      · cases e
theorem p_dict (hcalm : X.calm = true) : CallR X (.type "dict") (rDs X.K oDict) := by
  intro pins s σ H vs us Q I r h
  obtain ⟨F, d, v, z, rfl, le, dx, hz, k⟩ := rDs_one h (one_of rfl fun a b c => by cases a <;> rfl)
  cases dx with
  | @lst a xs ds hq ha =>
    simp only [oDict] at hz
    split at hz
    · rename_i hsm
      cases hp : pairsD ds with
      | none => rw [hp] at hz; cases hz
      | some pd =>
        rw [hp] at hz
        cases hz
        obtain ⟨ps, kws, rfl, e2, e3⟩ := pairs_dq ha hp
        refine call_dictP hcalm pins s σ H _ us Q I r ⟨a, ps, kws, rfl, sql_le le hq, L2.Paired.mapP e3 fun p kv q => (tps_le le q).sq, fun p np => ?_⟩
        obtain ⟨p0, r0⟩ := new_dict (K := X.K) le np (kvr_merge e2 (acc := []) .nil)
        exact k _ _ _ p0 r0
    · cases hz
  | @tup a xs ds hq ha =>
    simp only [oDict] at hz
    split at hz
    · rename_i hsm
      cases hp : pairsD ds with
      | none => rw [hp] at hz; cases hz
      | some pd =>
        rw [hp] at hz
        cases hz
        have hlen : ds.length = xs.length := (dpa_len ha).symm
        obtain ⟨ps, kws, rfl, e2, e3⟩ := pairs_dq ha hp
        obtain ⟨u, eu, rx⟩ := vals1 r
        subst eu
        cases rx
        obtain ⟨prs, rel, hl, hpr⟩ := pairs_of I (L2.Paired.mapP e3 fun p kv q => (tps_le le q).sq)
        -- the tuple itself
        obtain ⟨o, its, n, ho, hc, hd, hdat, rv⟩ : ∃ (o : Obj) (its : List Value) (n : Nat), s.heap.get? a = some o ∧ o.cls = .type "tuple" ∧ o.dict = none ∧ o.data = .seq its.toArray n ∧ Vals (ps.map V.ref) its := by
          rcases tps_le le hq with ⟨o, q, hdn⟩ | ⟨o, its, n, h1, h2, h3, h4, h5, h6⟩
          · obtain ⟨h1, _, its, rv, o2, h2, h3, n, h4⟩ := I.hok a _ q
            rw [h1] at h2
            cases h2
            exact ⟨o, its, n, h1, h3, hdn, h4, rv⟩
          · exact ⟨o, its.toList, n, I.kIn a o h1, h2, h3, by simpa using h4, h6⟩
        have ei := refs_at rv
        subst ei
        have hps : ps.length = ds.length := by rw [hlen, List.length_map]
        -- the pairs, told by their addresses
        have kys : ∃ pv : List (Value × Value), pv.length = ps.length ∧ ∀ (j : Nat) (u y : Value), pv[j]? = some (u, y) → ∃ (b : Addr) (q : Key × Value), ps[j]? = some b ∧ prs[j]? = some q ∧ q.2 = y ∧ s.heap.IsTuple b #[u, y] ∧ keyIs q.1 u = true := by
          clear rel hps hlen rv hdat ha r e3
          clear e2
          revert hpr hl
          generalize hh : s.heap = hp0
          intro hl hpr
          have : ∀ (ps : List Addr) (prs : List (Key × Value)), prs.length = ps.length → (∀ (j : Nat) (q : Key × Value), prs[j]? = some q → ∃ (b : Addr) (u : Value), ps[j]? = some b ∧ IsTup hp0 b #[u, q.2] ∧ keyIs q.1 u = true) →
              ∃ pv : List (Value × Value), pv.length = ps.length ∧ ∀ (j : Nat) (u y : Value), pv[j]? = some (u, y) → ∃ (b : Addr) (q : Key × Value), ps[j]? = some b ∧ prs[j]? = some q ∧ q.2 = y ∧ hp0.IsTuple b #[u, y] ∧ keyIs q.1 u = true := by
            intro ps
            induction ps with
            | nil => exact fun prs h1 h2 => ⟨[], rfl, fun j u y e => by simp at e⟩
            | cons p ps ih =>
              intro prs h1 h2
              cases prs with
              | nil => cases h1
              | cons q prs =>
                obtain ⟨pv, w1, w2⟩ := ih prs (by simpa using h1) fun j q hj => by
                  obtain ⟨b, u, z1, z2, z3⟩ := h2 (j + 1) q (by simpa using hj)
                  exact ⟨b, u, by simpa using z1, z2, z3⟩
                obtain ⟨b, u, z1, z2, z3⟩ := h2 0 q rfl
                refine ⟨(u, q.2) :: pv, by simp [w1], fun j u' y e => ?_⟩
                cases j with
                | zero =>
                  simp at e
                  obtain ⟨rfl, rfl⟩ := e
                  exact ⟨b, q, z1, rfl, rfl, z2, z3⟩
                | succ j =>
                  obtain ⟨b', q', y1, y2, y3, y4, y5⟩ := w2 j u' y (by simpa using e)
                  exact ⟨b', q', by simpa using y1, by simpa using y2, y3, y4, y5⟩
          exact this ps prs hl hpr
        obtain ⟨pv, lp, hpv⟩ := kys
        have hsz : pv.length ≤ sizeLine := by rw [lp, hps]; exact small_line hsm
        refine PySem.call_dict_pairs (knd := mixKind X.prog X.w) (kvs := prs) (PySem.PairArg.tuple a (ps.map Value.ref).toArray (fun j => ps.getD j 0) pv) (I.ok.hd hcalm) ⟨⟨o, n, ho, hc, hd, hdat⟩, by simp [lp], fun j u y e => ?_⟩ ⟨by rw [hl, lp], fun i u y e => ?_⟩ hsz fun h' tk hd' hk => ?_
        · obtain ⟨b, q, y1, y2, y3, y4, y5⟩ := hpv j u y e
          have : ps.getD j 0 = b := by rw [List.getD_eq_getElem?_getD, y1]; rfl
          exact ⟨by simp [y1, List.getD_eq_getElem?_getD], .inl (by show s.heap.IsTuple (ps.getD j 0) _; rw [this]; exact y4)⟩
        · obtain ⟨b, q, y1, y2, y3, y4, y5⟩ := hpv i u y e
          exact ⟨q.1, by rw [y2, ← y3], y5⟩
        · have hm : (s.heap.objs.size == sysModules) = false := beq_eq_false_iff_ne.mpr (Nat.ne_of_gt I.big)
          have hlen2 : (mergeK [] kws).length ≤ sizeLine := by
            refine Nat.le_trans (length_mergeK kws []) ?_
            rw [List.length_nil, Nat.zero_add, rel.length, hl, ← lp]
            exact hsz
          obtain ⟨p0, r0⟩ := new_dict (K := X.K) le (I.hok.fresh (Nat.le_refl _)) (kvr_merge e2 (acc := []) .nil)
          exact ⟨.ref s.heap.objs.size, upd H s.heap.objs.size (.dK (mergeK [] kws)), I.laid (t' := tk) (fun b o e => hk b o (by simp) e) (Nat.le_refl _) (show ObjOk X.prog X.w _ _ _ (.dK (mergeK [] kws)) from ⟨hlen2, hm, merged [] prs, KV.merge rel .nil, hd'⟩), rfl, k _ _ _ p0 r0⟩
    · cases hz
  | _ => cases hz

/-! ### d[k] = v -/
def sDput (n : Nat) (fv fk : En → Rs) : En → Rt := fun ρ => match fv ρ with
  | .ok r ρ1 => match fz r with
    | some d => match ρ1[n]? with
      | some (.dct _) => match fk ρ1 with
        | .ok rk ρ2 => match fz rk with
          | some k => match ρ2[n]? with
            | some (.dct kvs) => match keyO k with
              | some _ => if isSmall kvs.length = true then .nxt (ρ2.set n (.dct (dPut kvs k d))) else .bad
              | none => .bad
            | _ => .bad
          | none => .bad
        | .exc c ρ2 => .exc c ρ2
        | .bad => .bad
      | _ => .bad
    | none => .bad
  | .exc c ρ1 => .exc c ρ1
  | .bad => .bad
theorem cs_dput {k n : Nat} {o i value : Expr} {fv fk : En → Rs} {pos pos' : Pos} (hr : Room k X.A) (ho : PE X o (tVar n)) (hi : CE X T W i fk) (hv : CE X T W value fv) (hs : swapsWith value (some (.Subscript o i pos')) pos.line X.env = pure false := by rfl) :
    CS X T W io (.Assign [.Subscript o i pos'] value pos) (sDput n fv fk) := by
  refine ps_imp (ps_dput (by have := hr.units; omega) ho hi hv hs) fun D σ H ⟨F, ρ, G, q⟩ => ⟨F, ρ, G, ?_⟩
  unfold sDput at q
  cases e1 : fv ρ with
  | bad => simp only [e1] at q; exact q
  | exc c ρ1 => simp only [e1] at q; exact fun F' H' C hc m => q F' H' σ C hc m.s
  | ok r ρ1 =>
    simp only [e1] at q
    intro F1 H1 v m1 rs
    cases e2 : fz r with
    | none => simp only [e2] at q; exact q.elim
    | some d =>
      simp only [e2] at q
      obtain ⟨F1', m1', dv⟩ := mv_fz m1 rs e2
      cases e3 : ρ1[n]? with
      | none => simp only [e3] at q; exact q.elim
      | some s =>
        cases s with
        | dct kvs0 =>
          simp only [e3] at q
          rcases m1'.good.at_ n _ e3 with z | ⟨w, h1, a, ea, _, _⟩
          · cases z
          subst ea
          refine ⟨_, h1, F1', ρ1, m1'.good, ?_⟩
          cases e4 : fk ρ1 with
          | bad => simp only [e4] at q; exact q.elim
          | exc c ρ2 => simp only [e4] at q; exact fun F' H' C hc m => q F' H' σ C hc (m1'.trans m).s
          | ok rk ρ2 =>
            simp only [e4] at q
            intro F2 H2 y m2 rs2
            cases e5 : fz rk with
            | none => simp only [e5] at q; exact q.elim
            | some k =>
              simp only [e5] at q
              obtain ⟨F2', m2', dk⟩ := mv_fz m2 rs2 e5
              cases e6 : ρ2[n]? with
              | none => simp only [e6] at q; exact q.elim
              | some s =>
                cases s with
                | dct kvs =>
                  simp only [e6] at q
                  cases e7 : keyO k with
                  | none => simp only [e7] at q; exact q.elim
                  | some k0 =>
                    simp only [e7] at q
                    by_cases hsm : isSmall kvs.length = true
                    · simp only [if_pos hsm] at q
                      rcases m2'.good.at_ n _ e6 with z | ⟨w2, h2, a2, ea2, f2, kws, hk, kr⟩
                      · cases z
                      rw [h1] at h2
                      cases h2
                      cases ea2
                      obtain ⟨ek, hy, hok⟩ := key_ok e7 dk
                      subst hy
                      subst ek
                      refine ⟨a, _, rfl, DPut.k hk ?_, q F2' _ σ ((m1'.trans m2').trans (mv_slot (s1 := .dct _) m2'.good e6 rfl h1 ⟨a, rfl, f2, _, upd_same, kvr_put kr hok (dp_le m2'.ext.fle dv)⟩ rfl)).s⟩
                      have := kr.length
                      have := of_decide_eq_true hsm
                      rw [sizeLine_eq]; omega
                    · simp only [if_neg hsm] at q; exact q.elim
                | _ => simp only [e6] at q; exact q.elim
        | _ => simp only [e3] at q; exact q.elim
end
end Pu
end PuL_part
section PuM_part
set_option Elab.async false
set_option linter.all false
set_option maxRecDepth 100000
set_option maxHeartbeats 2000000
/-! The pure layer, part M: the items of dicts. -/
namespace Pu
open PySem PySem.Spec PyProof.Rows L2

def pairOf (p : D × D) : D := .tuple [p.1, p.2]
section
variable {X : Cx} {T : List Addr} {W : WX} {io : List Nat}
/-- new pairs, already laid, are tracked -/
theorem takeF {pins : List (Addr × Obj)} {σ : L2.St} {H0 : Hp} {s : Shared} {h' : Heap} {tk : Nat} (I0 : L2.Inv X pins σ H0 s) : ∀ (L : List (Addr × (D × D) × (Key × V))) (F1 H1 : Hp), (∀ b o, F1 b = some o → H1 b = some o) → L2.Inv X pins σ H1 { s with heap := h', toks := tk } → (L.map (·.1)).Nodup →
    (∀ t ∈ L, s.heap.objs.size ≤ t.1 ∧ H1 t.1 = none ∧ (t.2.1.1 = keyD t.2.2.1 ∧ keyOk t.2.1.1 = true) ∧ Dq X.K F1 t.2.2.2 t.2.1.2 ∧ ∃ its : List Value, h'.get? t.1 = some { cls := .type "tuple", data := .seq its.toArray } ∧ Vals [kV t.2.2.1, t.2.2.2] its) →
    ∃ F2 H2, L2.Inv X pins σ H2 { s with heap := h', toks := tk } ∧ P0 F1 H1 F2 H2 ∧ DqAll X.K F2 (L.map fun t => V.ref t.1) (L.map fun t => pairOf t.2.1)
  | [], F1, H1, le, I1, _, _ => ⟨F1, H1, I1, P0.refl le, .nil⟩
  | t :: L, F1, H1, le, I1, hn, h => by
    obtain ⟨hb, hnone, ⟨ek, hok⟩, dv, its, hg, rv⟩ := h t (List.mem_cons_self ..)
    have ok : ObjOk X.prog X.w (upd H1 t.1 (.frz { cls := .type "tuple", data := .seq its.toArray } (.tup [kV t.2.2.1, t.2.2.2]))) h' t.1 (.frz { cls := .type "tuple", data := .seq its.toArray } (.tup [kV t.2.2.1, t.2.2.2])) :=
      ⟨hg, (by show 2 ≤ sizeLine; decide), its, rv, ⟨_, hg, rfl, _, rfl⟩⟩
    have I2 := I1.take (h' := h') (t' := tk) (fun b ob _ e => e) (I0.fpOk hb hnone) ok
    have dk : Dq X.K F1 (kV t.2.2.1) t.2.1.1 := by rw [ek]; exact key_dq (by rw [← ek]; exact hok)
    obtain ⟨p0, r0⟩ := new_tup (o := { cls := .type "tuple", data := .seq its.toArray }) rfl le hnone (.cons dk (.cons dv .nil))
    rw [List.map_cons, List.nodup_cons] at hn
    obtain ⟨F2, H2, I3, p1, q⟩ := takeF I0 L _ _ p0.le I2 hn.2 fun c hc => by
      obtain ⟨c1, c2, c3, c4, c5⟩ := h c (List.mem_cons_of_mem _ hc)
      exact ⟨c1, by rw [upd_ne (fun z => hn.1 (by rw [← z]; exact List.mem_map.mpr ⟨c, hc, rfl⟩))]; exact c2, c3, dp_le p0.fle c4, c5⟩
    exact ⟨F2, H2, I3, p0.trans p1, .cons (dp_le p1.fle r0.rep) q⟩
def rItemsK : V → List V → Hp → VK → Prop := fun x xs H Q => ∃ (a : Addr) (kws : List (Key × V)), x = .ref a ∧ xs = [] ∧ H a = some (.dK kws) ∧ ∀ p, H p = none → Q (.ref p) (upd H p (L2.DX.itemsO p a))
theorem mt_itemsK : MtR X "dict.items" rItemsK := by
  intro pins s σ H x xs v us Q I rx rxs h
  obtain ⟨a, kws, rfl, rfl, ha, q⟩ := h
  cases rx
  cases rxs
  obtain ⟨z, hd, vs, rel, o, es, ep, ho, hx, hdat, _⟩ := dk_of I.hok ha
  refine DT.callItems (es := es) (ep := ep) hd ⟨o, ho, hx, hdat⟩ ?_
  have hf : H s.heap.objs.size = none := I.hok.fresh (Nat.le_refl _)
  exact ⟨.ref s.heap.objs.size, upd H s.heap.objs.size (L2.DX.itemsO s.heap.objs.size a), I.laid (t' := s.toks) (fun b u e => Heap.get?_push_of_some _ e) (Nat.le_refl _) (L2.DX.itemsO_ok (Heap.get?_push_size _ rfl)), rfl, q _ hf⟩
/-- sorted(view of items) -/
def rSortIt (K : PySem.W.Frag) : List V → Hp → VK → Prop := fun vs H Q => ∃ (p a : Addr) (F : Hp) (kvs : List (D × D)) (kws : List (Key × V)), vs = [.ref p] ∧ H p = some (L2.DX.itemsO p a) ∧ H a = some (.dK kws) ∧ (∀ b o, F b = some o → H b = some o) ∧ KVR K F kvs kws ∧ sortOk (kvs.map pairOf) = true ∧
  ∀ F' H' v, P0 F H F' H' → R0 K H F' H' (.lst (sortD (kvs.map pairOf))) v → Q v H'
theorem pairs_at {prog : Program} {w : World} {es : List DictEntry} {vs : List (Key × Value)} (h : Pairs (mixKind prog w) es vs) : ∀ {j : Nat} {e : DictEntry}, es[j]? = some e → ∃ kv, vs[j]? = some kv ∧ (mixKind prog w).is kv.1 e.key = true ∧ e.val = kv.2 := by
  induction h with
  | nil => intro j e h; simp at h
  | @cons e0 kv es vs h1 h2 t ih =>
    intro j e h
    cases j with
    | zero => simp at h; subst h; exact ⟨kv, rfl, h1, h2⟩
    | succ j => exact ih (by simpa using h)
theorem cr_sortIt {k : Nat} (hr : Room k X.A) (hc : X.calm = true) : CallR X (.builtin "sorted") (rSortIt X.K) := by
  intro pins s σ H xs us Q I r h
  obtain ⟨p, a, F, kvs, kws, rfl, hp, ha, le, kr, hok, q⟩ := h
  obtain rfl := Vals.ref1 r
  have view : s.heap.IsItemsView p a := (show ObjOk X.prog X.w H s.heap p (L2.DX.itemsO p a) from I.hok p _ hp).1
  obtain ⟨z, hd, vs, rel, o, es, ep, ho, hx, hdat, hko, prs, hnd⟩ := dk_of I.hok ha
  have l0 : kvs.length = kws.length := Paired.length kr
  have l1 : kws.length = vs.length := Paired.length rel
  have l2 : es.size = vs.length := by have := prs.length; rw [Array.length_toList] at this; exact this
  have hh : X.A.handled = none := I.ok.hd hc
  unfold sortOk at hok
  simp only [Bool.and_eq_true] at hok
  obtain ⟨⟨⟨h1, h2'⟩, h3⟩, h4⟩ := hok
  rw [List.length_map] at h3
  have hsz : es.size ≤ sizeLine := by rw [l2, ← l1, ← l0]; exact small_line h3
  refine DT.sortedI (es := es) (ep := ep) hh view ⟨o, ho, hx, hdat⟩ hsz fun h' tk as hk hlt hl hG => ?_
  have nd : as.Nodup := List.Pairwise.imp (fun h => Nat.ne_of_lt h) hG.rise
  have lak : as.length = kws.length := by omega
  -- the pairs are tracked
  have I0 : L2.Inv X pins σ H { s with heap := h', toks := tk } := I.kept (t' := tk) hk
  have each : ∀ t ∈ as.zip (kvs.zip kws), s.heap.objs.size ≤ t.1 ∧ H t.1 = none ∧ (t.2.1.1 = keyD t.2.2.1 ∧ keyOk t.2.1.1 = true) ∧ Dq X.K F t.2.2.2 t.2.1.2 ∧ ∃ its : List Value, h'.get? t.1 = some { cls := .type "tuple", data := .seq its.toArray } ∧ Vals [kV t.2.2.1, t.2.2.2] its := by
    intro t ht
    obtain ⟨j, hj⟩ := List.mem_iff_getElem?.mp ht
    obtain ⟨j1, j2⟩ := List.getElem?_zip_eq_some.mp hj
    obtain ⟨j3, j4⟩ := List.getElem?_zip_eq_some.mp j2
    obtain ⟨e, e1, e2⟩ := hG.pairs j t.1 j1
    obtain ⟨kv, e3, e4, e5⟩ := pairs_at prs (j := j) (e := e) (by rw [Array.getElem?_toList]; exact e1)
    obtain ⟨y, y1, y2, y3⟩ := L2.DX.pget rel e3
    rw [j4] at y1
    cases y1
    obtain ⟨y', z1, z2, z3⟩ := L2.DX.pget kr j4
    rw [j3] at z1
    cases z1
    have hb := Nat.le_of_lt (hG.above t.1 (List.mem_of_getElem? j1))
    exact ⟨hb, I.hok.fresh hb, z2, z3, [e.key, e.val], e2, .cons (relV_key (by rw [y2]; exact e4)) (.cons (by rw [e5]; exact y3) .nil)⟩
  have m1 : (as.zip (kvs.zip kws)).map (·.1) = as := List.map_fst_zip (by rw [List.length_zip]; omega)
  have m2 : (as.zip (kvs.zip kws)).map (·.2.1) = kvs := by
    have e1 : (as.zip (kvs.zip kws)).map (·.2) = kvs.zip kws := List.map_snd_zip (by rw [List.length_zip]; omega)
    have e2 : (kvs.zip kws).map (·.1) = kvs := List.map_fst_zip (by omega)
    conv => rhs; rw [← e2, ← e1, List.map_map]
    rfl
  obtain ⟨F2, H2, I2, p0, dq⟩ := takeF I (as.zip (kvs.zip kws)) F H le I0 (by rw [m1]; exact nd) each
  have dq1 : DqAll X.K F2 (as.map V.ref) (kvs.map pairOf) := by
    have e1 : (as.zip (kvs.zip kws)).map (fun t => V.ref t.1) = as.map V.ref := by
      conv => rhs; rw [← m1, List.map_map]
      rfl
    have e2 : (as.zip (kvs.zip kws)).map (fun t => pairOf t.2.1) = kvs.map pairOf := by
      conv => rhs; rw [← m2]
      rw [List.map_map]; rfl
    rw [← e1, ← e2]; exact dq
  have rv : Vals (as.map V.ref) (as.map Value.ref) := vals_maps V.ref Value.ref as fun _ _ => rfl
  -- the sort
  have hob : (h'.push { cls := .type "list", data := .seq (as.map Value.ref).toArray }).get? h'.objs.size = some (seqObj "list" (as.map Value.ref).toArray 0) := Heap.get?_push_size _ rfl
  have ka : ∀ b o, h'.get? b = some o → (h'.push { cls := .type "list", data := .seq (as.map Value.ref).toArray }).get? b = some o := fun b o e => Heap.get?_push_of_some _ e
  have ne0 : ∀ b o, h'.get? b = some o → b ≠ h'.objs.size := fun b o e => Nat.ne_of_lt (Heap.lt_size e)
  generalize hh2 : h'.push { cls := .type "list", data := .seq (as.map Value.ref).toArray } = h2 at hob ka ⊢
  have ks : ∀ b o, h'.get? b = some o → (PySem.W.sortingHeap h2 h'.objs.size (as.map Value.ref)).get? b = some o := fun b o e => PySem.W.sortingHeap_old (ne0 b o e) (ka b o e)
  have hl := dpa_len dq1
  have hsnd := map_snd_zip hl
  have er := each_reads I2 p0.le rv dq1
  have er' : PySem.W.EachIs (fun (u : Value) (p : V × D) => ∃ as', Reads (PySem.W.sortingHeap h2 h'.objs.size (as.map Value.ref)) u p.2 as') (as.map Value.ref) ((as.map V.ref).zip (kvs.map pairOf)) :=
    er.mono fun _ _ ⟨as', r⟩ => ⟨as', PyProof.Rows.Reads.keeps ks r⟩
  have hL : (as.map Value.ref).length ≤ sizeLine := by rw [List.length_map]; omega
  have al : PySem.W.AllAlike (((as.map V.ref).zip (kvs.map pairOf)).map Prod.snd) := by rw [hsnd]; exact allAlike_of h1
  refine wpAny_call_entry PyProof.Rows.slot_list_sort ⟨_, hob, rfl⟩ PyProof.Rows.entry_list_sort
    (PySem.W.list_sort_vals (κ := PySem.W.dataKind (PySem.W.sortingHeap h2 h'.objs.size (as.map Value.ref)) (((as.map V.ref).zip (kvs.map pairOf)).map Prod.snd)) hob
      (PySem.W.SortsAt.data (s := { s with heap := PySem.W.sortingHeap h2 h'.objs.size (as.map Value.ref), toks := tk }) (PySem.W.each_map (R := fun v d => ∃ as', Reads (PySem.W.sortingHeap h2 h'.objs.size (as.map Value.ref)) v d as') Prod.snd er') al (by rw [hsnd]; exact sortable_of h2') (PySem.W.bound_map fun b hb => ?_)) hL ⟨.none, rfl, ?_⟩) (PyProof.Rows.args_list_sort _)
  · have := List.all_eq_true.mp h4 b.2 (by rw [← hsnd]; exact List.mem_map.mpr ⟨b, hb, rfl⟩)
    have := of_decide_eq_true this
    have := hr.units
    show X.A.units + 1 + 1 + _ < cLine
    omega
  · have heach := PySem.W.sortVals_data (h' := PySem.W.sortingHeap h2 h'.objs.size (as.map Value.ref)) (enc := Prod.snd) false (each_rel rv hl) er' al
    generalize PySem.W.sortVals (PySem.W.dataKind (PySem.W.sortingHeap h2 h'.objs.size (as.map Value.ref)) (((as.map V.ref).zip (kvs.map pairOf)).map Prod.snd)) false (as.map Value.ref) (as.map Value.ref) = out at heach
    have hvals := vals_each heach
    have hdq : DqAll X.K F2 ((((as.map V.ref).zip (kvs.map pairOf)).mergeSort (PySem.W.dataLe false Prod.snd)).map Prod.fst) (sortD (kvs.map pairOf)) := by
      have e1 : sortD (kvs.map pairOf) = (((as.map V.ref).zip (kvs.map pairOf)).mergeSort (PySem.W.dataLe false Prod.snd)).map Prod.snd := by
        have e2 := PySem.W.sort_maps (r := PySem.W.dataLe false Prod.snd) (s := PySem.W.dataLe false fun d : D => d) Prod.snd (l := (as.map V.ref).zip (kvs.map pairOf)) (fun a _ b _ => rfl)
        rw [hsnd] at e2
        exact e2.symm
      rw [e1]
      exact dpa_map fun p hp => zip_dq dq1 p (List.mem_mergeSort.mp hp)
    obtain ⟨c, hc⟩ := PyProof.Rows.sortedHeap_at (vs := as.map Value.ref) (out := out.toArray) hob
    have kF : ∀ b o, h'.get? b = some o → (sortedHeap h2 h'.objs.size (as.map Value.ref) out.toArray).get? b = some o := fun b o e => (PyProof.Rows.sortedHeap_old (ne0 b o e) (Heap.lt_size (ka b o e))).trans (ka b o e)
    obtain ⟨p1, r1⟩ := new_list p0.le (I2.hok.fresh (Nat.le_refl _)) hdq
    have p2 := p0.trans p1
    exact ⟨.ref h'.objs.size, _, I2.laid (t' := tk) (a := h'.objs.size) (o := .lst _) kF (Nat.le_refl _) ⟨by rw [List.length_map, List.length_mergeSort, List.length_zip, List.length_map, List.length_map]; omega, out, c, hvals, hc⟩, rfl, q _ _ _ p2 ⟨r1.rep, fun ho a ea => p0.dom a (r1.fresh ho a ea)⟩⟩
/-! ### the rule -/
def sSortIt (r : RK) : En → Rs := fun ρ => match peek r ρ with
  | .ok (.dct kvs) ρ1 => if sortOk (kvs.map pairOf) = true then .ok (.lst (sortD (kvs.map pairOf))) ρ1 else .bad
  | .ok _ _ => .bad
  | .exc c ρ1 => .exc c ρ1
  | .bad => .bad
theorem ce_sortIt {k : Nat} {o : Expr} {r : RK} {p apos cpos pos : Pos} (hr : Room k X.A) (hc : X.calm = true) (hg : Gl X "sorted") (hm : X.mg "sorted" = none) (hv : bootBuiltins "sorted" = some (.builtin "sorted")) (ho : CR X T W o r)
    (hbase : attributeBase o "items" X.env (eval o X.env) = eval o X.env := by rfl) (hline : (apos.endLine == cpos.line) = true := by rfl)
    (he : starEach [.Call (.Attribute o "items" apos) [] [] cpos] X.env = (false, eval (.Call (.Attribute o "items" apos) [] [] cpos) X.env) :: starEach [] X.env := by rfl) (hpl : (backTo pos (starEach [] X.env)).any (·.1) = false := by rfl) :
    CE X T W (.Call (.Name "sorted" p) [.Call (.Attribute o "items" apos) [] [] cpos] [] pos) (sSortIt r) := by
  refine pe_imp (pe_callB (cr_sortIt hr hc) hg hm hv (pa_cons (pe_bm0 PySem.F.plainAttrs_dict PySem.F.slot_dict_items PySem.F.type_dict_items mt_itemsK ho hbase hline) pa_nil he) (by decide) (by decide) he hpl) fun σ H Q ⟨F, ρ, G, q⟩ => ?_
  refine recv_then G ?_
  unfold sSortIt at q
  cases e1 : peek r ρ with
  | bad => simp only [e1] at q
  | exc c ρ1 => simp only [e1] at q; exact q
  | ok s ρ1 =>
    cases s with
    | dct kvs =>
      simp only [e1] at q
      by_cases hok : sortOk (kvs.map pairOf) = true
      · simp only [if_pos hok] at q
        intro F1 H1 a m1 hd
        obtain ⟨⟨kws, hk, kr⟩, hF⟩ := held_rep m1.good hd
        refine ⟨.inr (.inr (.inl ⟨rfl, .inl ⟨kws, hk⟩⟩)), a, kws, rfl, rfl, hk, fun p np => ?_⟩
        have pf := P0.fresh (o := L2.DX.itemsO p a) m1.good.le np
        have hne : a ≠ p := fun z => by rw [z, np] at hk; cases hk
        have m2 := m1.p0 pf
        exact ⟨p, a, F1, kvs, kws, rfl, upd_same, by rw [upd_ne hne]; exact hk, pf.le, kr, hok, fun F' H' v p3 r3 => q F' H' v (m2.p0 p3) (m2.res r3)⟩
      · simp only [if_neg hok] at q
    | _ => simp only [e1] at q
end
end Pu
end PuM_part
section PuK_part
set_option Elab.async false
set_option linter.all false
set_option maxRecDepth 100000
set_option maxHeartbeats 2000000
/-! The pure layer, part K: all and any of a generator expression. -/
namespace Pu
open PySem PySem.Spec PyProof.Rows L2

abbrev gxEnv (X : Cx) (scope : Scope) (C : Addr) (code : Value) : Env := genEnv scope (cloFrom X.env.cells scope.names []) C code builtinsNs X.env
/-- the context of a generator expression's frame, made at s -/
def gxCx (X : Cx) (N : List Str) (scope : Scope) (s : Shared) (H : Hp) (code : Value) (fp : List Addr) : Cx where
  prog := X.prog
  w := X.w
  K := X.K
  mg := X.mg
  base := X.base
  A := X.A.in1.in1.deeper (gxEnv X scope s.heap.objs.size code)
  N := N
  s_0 := s
  H_0 := H
  env := gxEnv X scope s.heap.objs.size code
  outer := X.stack
  stack := gxEnv X scope s.heap.objs.size code :: X.stack
  ex := fp
  fn := fun _ => false
  calm := true
  pn := []
  xe := fun _ _ => False
/-- its names: cs tells where the captured ones stand outside -/
structure GxOk (XN N : List Str) (sc scope : Scope) (cs : List Nat) : Prop where
  kind : scope.kind = .function
  co : scope.isCoroutine = false
  cell : ∀ y ∈ scope.names, y.2 ≠ .cell
  dot : scope.names.lookup (".0" : Str) = some NameKind.local
  free : ∀ y ∈ scope.names, y.2 = .free → sc.names.lookup y.1 = some .cell ∨ sc.names.lookup y.1 = some .free
  nd : N.Nodup
  len : cs.length ≤ N.length
  capt : ∀ (k : Nat) (x : Str), k < cs.length → N[k]? = some x → scope.names.lookup x = some .free ∧ ∃ i, cs[k]? = some i ∧ XN[i]? = some x
section
variable {X : Cx} {pins : List (Addr × Obj)} {σ : L2.St} {H : Hp} {s : Shared} {N : List Str} {scope : Scope} {cs : List Nat}
theorem GxOk.has (ok : GxOk X.N N X.env.scope scope cs) (o : X.Ok) : ∀ y ∈ scope.names, y.2 = .free → ∃ c, X.env.cells.lookup y.1 = some c := fun y hy e => by
  rcases ok.free y hy e with k | k
  · exact o.has _ (.inl k)
  · exact o.has _ (.inr k)
theorem gx_start {code : Value} {fp : List Addr} {h₁ : Heap} {g' : Array GenState} {tk : Nat} {m₁ : Str → Option Value} {vs : List V} (I : L2.Inv X pins σ H s) (ok : GxOk X.N N X.env.scope scope cs) (hh : X.A.handled = none) (hfp : ∀ b ∈ fp, FpOk X pins H b ∧ b < s.heap.objs.size)
    (hns : h₁.Ns s.heap.objs.size m₁) (kp : ∀ b o, s.heap.get? b = some o → h₁.get? b = some o) (hg : AllBare g') (hl : vs.length = cs.length) (hv : ∀ (k : Nat) (v : V), vs[k]? = some v → ∃ i, cs[k]? = some i ∧ σ[i]? = some (some v)) :
    L2.Inv (gxCx X N scope s H code fp) [] (L2.start N vs) H { s with heap := h₁, gens := g', toks := tk } := by
  have e0 : Env0 X.prog X.w X.K X.mg X.base X.A.in1.in1 X.stack s H := ⟨I.env0.frames, I.env0.mod, I.env0.bs, I.env0.bsz, I.env0.funs, I.env0.frf, I.env0.hok, I.env0.bare⟩
  have hfree := ok.has I.ok
  have cm : ∀ {y c}, (cloFrom X.env.cells scope.names []).lookup y = some c → X.env.cells.lookup y = some c := fun {y c} e => by
    rcases cloFrom_mem (PySem.mem_of_lookup e) with hm | ⟨h1, h2⟩
    · cases hm
    · obtain ⟨c1, hc⟩ := hfree _ h1 rfl
      have hc : X.env.cells.lookup y = some c1 := hc
      have e2 : c = c1 := by
        rw [h2, hc] <;> rfl
      rw [e2]
      exact hc
  have look : ∀ {y}, scope.names.lookup y = some .free → ∃ c, (cloFrom X.env.cells scope.names []).lookup y = some c := fun {y} hl => by
    have hy : (y, NameKind.free) ∈ scope.names := PySem.mem_of_lookup hl
    exact mem_lookup (cloFrom_has (cells := X.env.cells) (acc := []) hy)
  have cellK : ∀ {c : Addr} {v : Option Value}, s.heap.IsCell c v → h₁.IsCell c v := fun {c v} ⟨o, ho, hd⟩ => ⟨o, kp _ _ ho, hd⟩
  refine ⟨⟨e0.mod, ok.kind, I.ok.glob, rfl, Nat.le_refl _, fun y z c e1 e2 => I.ok.inj y z c (cm e1) (cm e2), fun y hy => ?_, fun y c z _ => ?_, fun _ => hh, Around.frames_deeper e0.frames, .inr ⟨rfl, rfl⟩, fun b hb => ⟨Nat.ne_of_lt (hfp b hb).2, fun x c e => (hfp b hb).1.2.2.2.2.1 x c (cm e)⟩, e0.bs, e0.bsz, fun b o e hb => ?_, fun b hb z => ?_, e0.funs, e0.frf⟩,
    rfl, hg, Un.kept kp, ⟨_, hns, fun i y v e1 e2 e3 => ?_⟩, fun y c e => ?_, e0.hok.fresh (Nat.le_refl _), fun y c e => ?_, fun q hq => absurd (show q ∈ ([] : List (Addr × Obj)) ++ [] from hq) (by simp), e0.hok.kept kp, ?_⟩
  · have hy : scope.names.lookup y = some .cell ∨ scope.names.lookup y = some .free := hy
    rcases hy with hy | hy
    · exact absurd rfl (ok.cell _ (PySem.mem_of_lookup hy))
    · exact look hy
  · have z : false = true := z
    cases z
  · obtain ⟨f1, f2, f3, f4, f5, f6⟩ := (hfp b hb).1
    rcases f4 with z | z
    · exact I.ok.noex b o e z
    · exact absurd (Nat.lt_of_lt_of_le (Heap.lt_size e) (Nat.le_trans I.ok.bsz z)) (Nat.lt_irrefl _)
  · obtain ⟨f1, f2, f3, f4, f5, f6⟩ := (hfp b hb).1
    rcases List.mem_cons.mp (I.stkSub b z) with z | z
    · exact f2 z
    · exact f3 z
  · have hi : i < vs.length := by
      unfold L2.start at e2
      by_cases hi : i < vs.length
      · exact hi
      · rw [List.getElem?_append_right (by simpa using hi), List.getElem?_replicate] at e2
        split at e2 <;> cases e2
    have e4 : vs[i]? = some v := by
      unfold L2.start at e2
      rw [List.getElem?_append_left (by simpa using hi), List.getElem?_map] at e2
      cases z : vs[i]? with
      | none => rw [z] at e2; cases e2
      | some a => rw [z] at e2; cases e2; rfl
    obtain ⟨hfr, j, q1, q2⟩ := ok.capt i y (by omega) e1
    obtain ⟨j', w1, w2⟩ := hv i v e4
    rw [q1] at w1
    cases w1
    obtain ⟨m, hn, hl'⟩ := I.loc
    have hvis : Vis X.env.scope y := (ok.free _ (PySem.mem_of_lookup hfr) rfl).elim (fun k => .inr (.inl k)) (fun k => .inr (.inr k))
    obtain ⟨w', r, q⟩ := hl' j y v q2 w2 hvis
    obtain ⟨c2, h2⟩ := look hfr
    refine ⟨w', r, .inr ⟨.inr hfr, c2, h2, ?_⟩⟩
    have c1 := cm h2
    rcases q with ⟨k', _⟩ | ⟨_, c3, e', z⟩
    · have k' : X.env.scope.names.lookup y = some .local := k'
      rcases ok.free _ (PySem.mem_of_lookup hfr) rfl with k2 | k2 <;> rw [show X.env.scope.names.lookup y = _ from k2] at k' <;> cases k'
    · rw [c1] at e'
      cases e'
      exact cellK z
  · obtain ⟨w', z⟩ := I.cell y c (cm e)
    exact ⟨w', cellK z⟩
  · exact I.freeC y c (cm e)
  · unfold L2.start
    show _ = N.length
    have := ok.len
    rw [List.length_append, List.length_map, List.length_replicate]
    omega
theorem over_gx {A : Around} {elt : Expr} {gs : List Comprehension} {scope : Scope} {pos : Pos} {it acc : Value} {env : Env} : A.over (.compLoop (.GeneratorExp elt gs scope pos) 0 it acc env) [] = A.deeper env := by
  first
    | rfl
    | (obtain ⟨hd, d, fr, gs, u⟩ := A; simp [Around.over, Around.deeper, marksOver, frameCount, unitsOf, envsOf, guardsOf, pushEnvs, pushGuards, Code.envs, Code.env?, Code.isFrame, Code.guards, Code.isGuard, Code.weight, Code.frames, Code.isCreation, Code.isCaller, Code.cUnits])
theorem over_gx0 {A : Around} {elt : Expr} {gs : List Comprehension} {scope : Scope} {pos : Pos} {it acc : Value} {env : Env} : A.over (.compStart (.GeneratorExp elt gs scope pos) 0 it acc env) [] = A.deeper env := by
  first
    | rfl
    | (obtain ⟨hd, d, fr, gs, u⟩ := A; simp [Around.over, Around.deeper, marksOver, frameCount, unitsOf, envsOf, guardsOf, pushEnvs, pushGuards, Code.envs, Code.env?, Code.isFrame, Code.guards, Code.isGuard, Code.weight, Code.frames, Code.isCreation, Code.isCaller, Code.cUnits])
end

/-! ### the loop -/
inductive Rb where
  | ok (b : Bool) (p : En)
  | bad
/-- stop = false: all; stop = true: any -/
def aLoop (stop : Bool) (gt : D → En → Option En) (fe : En → Rs) : List D → En → Rb
  | [], ρ => .ok (!stop) ρ
  | d :: ds, ρ => match gt d ρ with
    | none => .bad
    | some ρ1 => match fe ρ1 with
      | .ok (.val (.bool c)) ρ2 => if (c == stop) = true then .ok stop ρ2 else aLoop stop gt fe ds ρ2
      | _ => .bad
section
variable (Xg : Cx) (T : List Addr) (io : List Nat) (σ0 : L2.St) (F0 H0 : Hp) (ρ0 : En) (a : Addr) (go : Obj) (fp : List Addr) (tn : Nat → Heap → Prop) (stop : Bool) (gt : D → En → Option En) (fe : En → Rs) (its : List D) (b : Bool) (ρe : En)
def GTurn (i : Nat) (s : Shared) : Prop := ∃ σ' F H ρ, L2.Inv Xg [(a, go)] σ' H s ∧ MvS Xg.K T io σ0 F0 H0 ρ0 σ' F H ρ ∧ tn i s.heap ∧ (∀ b ∈ fp, H b = none) ∧ aLoop stop gt fe (its.drop i) ρ = .ok b ρe
def GFin (c : Bool) (s : Shared) : Prop := ∃ σ' F H, L2.Inv Xg [(a, go)] σ' H s ∧ MvS Xg.K T io σ0 F0 H0 ρ0 σ' F H ρe ∧ b = c
def GYp : Protocol := fun n s₀ v s₁ kap => ∃ c, v = .bool c ∧ s₁.heap.get? a = some go ∧ s₁.heap.NoLimit ∧ AllBare s₁.gens ∧
  if (c == stop) = true then GFin Xg T io σ0 F0 H0 ρ0 a go b ρe stop s₁ else ∀ s'' : Shared, s''.heap = s₁.heap → s''.os = s₁.os → AllBare s''.gens → kap (.send .none) s''
def GRp : GenEnd := fun n s₀ r s₁ => r = .ok .next ∧ GFin Xg T io σ0 F0 H0 ρ0 a go b ρe (!stop) s₁
end
theorem inv_woken {X : Cx} {pins : List (Addr × Obj)} {σ : L2.St} {H : Hp} {s s'' : Shared} (I : L2.Inv X pins σ H s) (h1 : s''.heap = s.heap) (h2 : s''.os = s.os) (h3 : AllBare s''.gens) : L2.Inv X pins σ H s'' :=
  I.call' (ch := []) h2 (Un.kept fun b u e => by rw [h1]; exact e) (I.hok.kept fun b u e => by rw [h1]; exact e) h3 fun b z => by simp at z
section
variable {X : Cx} {T : List Addr} {N : List Str} {scope : Scope} {s4 : Shared} {H4 : Hp} {code : Value} {fp : List Addr} {it a : Addr} {go : Obj} {tn : Nat → Heap → Prop} {J : It} {tg elt iter : Expr} {pos : Pos} {js io : List Nat} {gt : D → En → Option En} {fe : En → Rs} {its : List D} {b stop : Bool} {ρe ρ0 : En} {σ0 : L2.St} {F0 H0 : Hp}
theorem seg_gx (Tn : Turn X.prog X.w X.K tg J fp it tn) (hco : scope.isCoroutine = false) (hgo : ∀ v, go.data ≠ .cell v) (hfa : ∀ b ∈ fp, b ≠ a)
    (wd : WalkD X.K F0 J its) (hjs : ∀ i ∈ io, i ∉ js) (cg : CG (gxCx X N scope s4 H4 code fp) T js tg gt) (ce : CE (gxCx X N scope s4 H4 code fp) T W0 elt fe) :
    ∀ (k n i : Nat) (s₀ s : Shared), its.length - i = k → i ≤ its.length → its.length - i ≤ n → GTurn (gxCx X N scope s4 H4 code fp) T io σ0 F0 H0 ρ0 a go fp tn stop gt fe its b ρe i s →
      Seg (model X.prog X.w) X.A.in1.in1 (GRp (gxCx X N scope s4 H4 code fp) T io σ0 F0 H0 ρ0 a go stop b ρe) (GYp (gxCx X N scope s4 H4 code fp) T io σ0 F0 H0 ρ0 a go stop b ρe) n s₀
        (.compLoop (.GeneratorExp elt [⟨tg, iter, [], 0⟩] scope pos) 0 (.ref it) .none (gxEnv X scope s4.heap.objs.size code))
        ((model X.prog X.w).den (.compLoop (.GeneratorExp elt [⟨tg, iter, [], 0⟩] scope pos) 0 (.ref it) .none (gxEnv X scope s4.heap.objs.size code))) [] s := by
  have stat : ∀ {σ' : L2.St} {H' : Hp} {s' : Shared}, L2.Inv (gxCx X N scope s4 H4 code fp) [(a, go)] σ' H' s' → (∀ b ∈ fp, H' b = none) → ∀ b ∈ fp, FpOk (gxCx X N scope s4 H4 code fp) [(a, go)] H' b := fun {σ' H' s'} I' hn b hb =>
    ⟨hn b hb, (I'.ok.exf b hb).1, I'.ok.exfs b hb, .inl hb, fun x c e => (I'.ok.exf b hb).2 x c e, fun p hp => by
      have hp : p ∈ ([] : List (Addr × Obj)) ++ [(a, go)] := hp
      simp at hp
      subst hp
      exact fun z => hfa b hb z.symm⟩
  intro k
  induction k with
  | zero =>
    intro n i s₀ s hk hi hn ⟨σ', F, H, ρ, I, m, st, nf, el⟩
    have hin : i = its.length := by omega
    subst hin
    obtain ⟨go', sto, yl⟩ := wd F H (fun b o h => m.ext.fle b o h) m.good.le
    show Seg _ _ _ _ _ s₀ _ ((compTurn (.GeneratorExp elt [⟨tg, iter, [], 0⟩] scope pos) 0 (.ref it) .none (gxEnv X scope s4.heap.objs.size code)).onRaise (leaving (gxEnv X scope s4.heap.objs.size code))) [] s
    rw [compTurn_gen, Sem.onRaise_eq_wrap]
    refine seg_bind_wrap (wpAny_standAt ?_)
    refine seg_bind_wrap ?_
    rw [over_gx]
    refine thnF (Tn.done (gxCx X N scope s4 H4 code fp) rfl rfl rfl rfl its.length [(a, go)] s σ' H (fun _ _ => False) I (stat I nf) st sto) fun r s6 ⟨hr, I6⟩ => ?_
    subst hr
    rw [List.drop_length, aLoop] at el
    cases el
    exact seg_end (.ok .next) ⟨rfl, σ', F, H, I6, m, rfl⟩
  | succ k ih =>
    intro n i s₀ s hk hi hn ⟨σ', F, H, ρ, I, m, st, nf, el⟩
    have hlt : i < its.length := by omega
    obtain ⟨go', sto, yl⟩ := wd F H (fun b o h => m.ext.fle b o h) m.good.le
    show Seg _ _ _ _ _ s₀ _ ((compTurn (.GeneratorExp elt [⟨tg, iter, [], 0⟩] scope pos) 0 (.ref it) .none (gxEnv X scope s4.heap.objs.size code)).onRaise (leaving (gxEnv X scope s4.heap.objs.size code))) [] s
    rw [compTurn_gen, Sem.onRaise_eq_wrap]
    refine seg_bind_wrap (wpAny_standAt ?_)
    refine seg_bind_wrap ?_
    rw [over_gx]
    refine thnF (Tn.item (gxCx X N scope s4 H4 code fp) rfl rfl rfl rfl i [(a, go)] s σ' H (fun _ _ => False) I (stat I nf) st (go' i hlt)) fun r s6 ⟨u, hr, h6⟩ => ?_
    subst hr
    refine seg_bind_wrap ?_
    rw [over_gx]
    refine thnF h6 fun _ s7 ⟨x, H7, I7, r7, y7, st7, n7⟩ => ?_
    obtain ⟨F7, p7, dp7⟩ := yl i x H7 its[i] (List.getElem?_eq_getElem hlt) y7
    have m7 := m.p0 p7
    have I7' := I7.pinned (stat I7 n7) (Tn.obj _ _ st7)
    rw [List.drop_eq_getElem_cons hlt, aLoop] at el
    cases e2 : gt its[i] ρ with
    | none => simp only [e2] at el; cases el
    | some ρ1 =>
      simp only [e2] at el
      refine seg_bind_wrap ?_
      rw [over_gx]
      refine thnF (cg.run _ s7 _ H7 x u (fun σ8 H8 => H8 = H7 ∧ Good X.K T F7 H7 σ8 ρ1 ∧ (∀ a, Own σ8 ρ1 a → Own σ' ρ a) ∧ OS ρ ρ1 ∧ (∀ j, j ∉ js → σ8[j]? = σ'[j]?)) I7' r7 ⟨F7, ρ, its[i], m7.good, dp7, ?_⟩) fun _ s8 ⟨σ8, H8, I8, eH, G8, ow8, os8, k8⟩ => ?_
      · rw [e2]
        exact fun σ'' G' ow os k l => ⟨rfl, G', ow, os, k⟩
      subst eH
      have m8 : MvS X.K T io σ' F7 H8 ρ σ8 F7 H8 ρ1 := ⟨Ext.refl, G8, fun a z => .inl (ow8 a z), fun i hi => ⟨k8 i (hjs i hi), fun s h o => os8 i s h o⟩⟩
      have m9 := m7.trans m8
      simp only [List.forIn_nil]
      refine seg_bind_wrap (wpAny_pure ?_)
      simp only [if_true]
      have hy : ∀ v, yieldOut (gxEnv X scope s4.heap.objs.size code) v = yieldValue v := fun v => by
        have : (gxEnv X scope s4.heap.objs.size code).scope.isCoroutine = false := hco
        simp only [yieldOut, this, Bool.false_eq_true, if_false]
      simp only [hy]
      rw [Sem.bind_eq_wrap', Sem.bind_eq_wrap', Sem.wrap_wrap, Sem.wrap_wrap]
      refine seg_wrap ?_
      rw [over_gx]
      cases e3 : fe ρ1 with
      | bad => simp only [e3] at el; cases el
      | exc c ρ2 => simp only [e3] at el; cases el
      | ok r ρ2 =>
        cases r with
        | val d =>
          cases d with
          | bool c =>
            simp only [e3] at el
            refine thnF (ce.run _ s8 σ8 H8 (fun y H9 => y = .bl c ∧ ∃ F9, Mv X.K T σ8 F7 H8 ρ1 F9 H9 ρ2) I8 ⟨F7, ρ1, G8, ?_⟩) fun y s9 ⟨yv, H9, I9, r9, ey, F9, mv⟩ => ?_
            · rw [e3]
              intro F9 H9 v mv rs
              cases v with
              | bl c' => have := rs.rep; cases this; exact ⟨rfl, F9, mv⟩
              | _ => exact nomatch rs.rep
            subst ey
            obtain rfl : y = Value.bool c := r9
            have m10 := m9.trans mv.s
            have I10 : L2.Inv (gxCx X N scope s4 H4 code fp) [(a, go)] σ8 H9 s9 := I9.unpinned
            have pin' : ∀ b ∈ fp, ∀ o, s7.heap.get? b = some o → s9.heap.get? b = some o ∧ H9 b = none := fun b hb o e =>
              let z := I9.pin (b, o) (List.mem_append_right _ (List.mem_append_right _ (mem_pinsAt hb e)))
              ⟨z.1, z.2.1⟩
            have st9 : tn (i + 1) s9.heap := Tn.keep _ _ _ st7 fun b hb o e => (pin' b hb o e).1
            have n9 : ∀ b ∈ fp, H9 b = none := fun b hb => by
              obtain ⟨o, e, _⟩ := Tn.obj _ _ st7 b hb
              exact (pin' b hb o e).2
            cases n with
            | zero => omega
            | succ n =>
              refine seg_at (seg_yield rfl rfl rfl ⟨c, rfl, (I10.pin (a, go) (by simp)).1, I10.nolimit, I10.bare, ?_⟩)
              by_cases hc : (c == stop) = true
              · rw [if_pos hc] at el ⊢
                cases el
                exact ⟨σ8, F9, H9, I10, m10, rfl⟩
              · rw [if_neg hc] at el ⊢
                intro s'' h1 h2 h3
                exact seg_again rfl (ih n (i + 1) s'' s'' (by omega) hlt (by omega) ⟨σ8, F9, H9, ρ2, inv_woken I10 h1 h2 h3, m10, by rw [h1]; exact st9, n9, el⟩)
          | _ => simp only [e3] at el; cases el
        | _ => simp only [e3] at el; cases el
theorem seg_gx0 (Tn : Turn X.prog X.w X.K tg J fp it tn) (hco : scope.isCoroutine = false) (hgo : ∀ v, go.data ≠ .cell v) (hfa : ∀ b ∈ fp, b ≠ a)
    (wd : WalkD X.K F0 J its) (hjs : ∀ i ∈ io, i ∉ js) (cg : CG (gxCx X N scope s4 H4 code fp) T js tg gt) (ce : CE (gxCx X N scope s4 H4 code fp) T W0 elt fe)
    (n : Nat) (s₀ s : Shared) (hn : its.length ≤ n) (h : GTurn (gxCx X N scope s4 H4 code fp) T io σ0 F0 H0 ρ0 a go fp tn stop gt fe its b ρe 0 s) :
    Seg (model X.prog X.w) X.A.in1.in1 (GRp (gxCx X N scope s4 H4 code fp) T io σ0 F0 H0 ρ0 a go stop b ρe) (GYp (gxCx X N scope s4 H4 code fp) T io σ0 F0 H0 ρ0 a go stop b ρe) n s₀
      (.compStart (.GeneratorExp elt [⟨tg, iter, [], 0⟩] scope pos) 0 (.ref it) .none (gxEnv X scope s4.heap.objs.size code))
      ((model X.prog X.w).den (.compStart (.GeneratorExp elt [⟨tg, iter, [], 0⟩] scope pos) 0 (.ref it) .none (gxEnv X scope s4.heap.objs.size code))) [] s := by
  have loop := seg_gx (stop := stop) (iter := iter) (pos := pos) Tn hco hgo hfa wd hjs cg ce its.length n 0 s₀ s rfl (Nat.zero_le _) hn h
  obtain ⟨σ', F, H, ρ, I, m, st, nf, el⟩ := h
  show Seg _ _ _ _ _ s₀ _ ((compStart (.GeneratorExp elt [⟨tg, iter, [], 0⟩] scope pos) 0 (.ref it) .none (gxEnv X scope s4.heap.objs.size code)).onRaise (leaving (gxEnv X scope s4.heap.objs.size code))) [] s
  unfold compStart
  rw [Sem.onRaise_eq_wrap]
  show Seg _ _ _ _ _ s₀ _ ((ask >>= _).wrap _ _ _ _) [] s
  refine seg_bind_wrap (wpAny_askSetting ?_)
  split
  · exact seg_again rfl loop
  · first
      | exact seg_bind_wrap (wpAny_rule (seg_bind_wrap (wpAny_standAt (seg_bind_wrap (Tn.self _ 0 s _ _ st (seg_again rfl loop))))))
      | (refine seg_bind_wrap (wpAny_rule ?_); show Seg _ _ _ _ _ s₀ _ ((standAt iter.pos >>= _).wrap _ _ _ _) [] s; exact seg_bind_wrap (wpAny_standAt (seg_bind_wrap (Tn.self _ 0 s _ _ st (seg_again rfl loop)))))
/-- the consumer's loop -/
theorem all_gx {g : Nat} {Rr : Result → Shared → Prop} (hh : X.A.handled = none) (hd : X.A.depth < recursionLimit) (hgo : ∀ h : Heap, h.get? a = some go → h.IsGen a g)
    (hfin : ∀ c (s₁ s' : Shared), GFin (gxCx X N scope s4 H4 code fp) T io σ0 F0 H0 ρ0 a go b ρe c s₁ → s'.os = s₁.os → AllBare s'.gens → (∀ b o, s₁.heap.get? b = some o → s'.heap.get? b = some o) → Rr (.ok (.ret (.bool c))) s') :
    ∀ (n : Nat) (s : Shared) (gs : GenState), s.heap.get? a = some go → s.heap.NoLimit → AllBare s.gens → s.gens[g]? = some gs →
      gs.Goes (model X.prog X.w) X.A.in1.in1 (GRp (gxCx X N scope s4 H4 code fp) T io σ0 F0 H0 ρ0 a go false b ρe) (GYp (gxCx X N scope s4 H4 code fp) T io σ0 F0 H0 ρ0 a go false b ρe) n (.send .none) (s.setGen g .running) →
      codeAny (model X.prog X.w) X.A (.builtin "all.loop" ⟨[.ref a], []⟩) Rr s := by
  intro n
  induction n with
  | zero =>
    intro s gs hga hl hba hgs hgo'
    refine codeAny_builtin F.entry_all_loop ?_
    rw [Around.under_plainId F.plain_all_loop _]
    show wpAny _ X.A.in1 (pyNext (.ref a) >>= _) _ _ s
    refine wpAny_bind (wpAny_pyNext_genexpQ (A := X.A.in1) (P := fun n s₀ s₁ => GFin (gxCx X N scope s4 H4 code fp) T io σ0 F0 H0 ρ0 a go b ρe (!false) s₁) hh hl hd (hgo _ hga) hgs hgo' (fun v s₁ gs' hb hv => ?_) (fun s₁ hp h' hk => ?_))
    · obtain ⟨c, rfl, h1, h2, h3, h4⟩ := hv
      refine wpAny_bind (wpAny_holding (wpAny_truthy_bool ?_))
      refine wpAny_bind (wpAny_letGo ?_)
      cases c with
      | true => exact ((h4 : ∀ s'' : Shared, s''.heap = s₁.heap → s''.os = s₁.os → AllBare s''.gens → False) s₁ rfl rfl h3).elim
      | false =>
        simp only [Bool.false_eq_true, if_false]
        refine wpAny_bind (wpAny_rule (wpAny_pure ?_))
        exact hfin false s₁ _ h4 rfl (allBare_setGen h3 hb) fun _ _ e => e
    · refine wpAny_bind (wpAny_rule (wpAny_pure ?_))
      have hb1 : AllBare s₁.gens := by obtain ⟨_, _, _, I, _⟩ := hp; exact I.bare
      exact hfin true s₁ _ hp rfl (allBare_setGen hb1 rfl) hk
  | succ n ih =>
    intro s gs hga hl hba hgs hgo'
    refine codeAny_builtin F.entry_all_loop ?_
    rw [Around.under_plainId F.plain_all_loop _]
    show wpAny _ X.A.in1 (pyNext (.ref a) >>= _) _ _ s
    have hgl : g + 1 ≤ s.gens.size := (Array.getElem?_eq_some_iff.mp hgs).1
    refine wpAny_bind (GenW.wpAny_gsz hgl (wpAny_pyNext_genexpQ (A := X.A.in1) (P := fun n s₀ s₁ => GFin (gxCx X N scope s4 H4 code fp) T io σ0 F0 H0 ρ0 a go b ρe (!false) s₁) hh hl hd (hgo _ hga) hgs hgo' (fun v s₁ gs' hb hv => ?_) (fun s₁ hp h' hk => ?_)))
    · intro hsz
      rw [GenW.setGen_size] at hsz
      obtain ⟨c, rfl, h1, h2, h3, h4⟩ := hv
      refine wpAny_bind (wpAny_holding (wpAny_truthy_bool ?_))
      refine wpAny_bind (wpAny_letGo ?_)
      cases c with
      | true =>
        simp only [if_true]
        refine wpAny_pure ⟨plainId_quiet F.plain_all_loop _, ih (s₁.setGen g gs') gs' h1 h2 (allBare_setGen h3 hb) (setGen_at hsz) ?_⟩
        have h5 := (h4 : ∀ s'' : Shared, s''.heap = s₁.heap → s''.os = s₁.os → AllBare s''.gens → gs'.Goes _ _ _ _ n (.send .none) s'')
        exact h5 _ rfl rfl (allBare_setGen (allBare_setGen h3 hb) rfl)
      | false =>
        simp only [Bool.false_eq_true, if_false]
        refine wpAny_bind (wpAny_rule (wpAny_pure ?_))
        exact hfin false s₁ _ h4 rfl (allBare_setGen h3 hb) fun _ _ e => e
    · intro _
      refine wpAny_bind (wpAny_rule (wpAny_pure ?_))
      have hb1 : AllBare s₁.gens := by obtain ⟨_, _, _, I, _⟩ := hp; exact I.bare
      exact hfin true s₁ _ hp rfl (allBare_setGen hb1 rfl) hk
theorem any_gx {g : Nat} {Rr : Result → Shared → Prop} (hh : X.A.handled = none) (hd : X.A.depth < recursionLimit) (hgo : ∀ h : Heap, h.get? a = some go → h.IsGen a g)
    (hfin : ∀ c (s₁ s' : Shared), GFin (gxCx X N scope s4 H4 code fp) T io σ0 F0 H0 ρ0 a go b ρe c s₁ → s'.os = s₁.os → AllBare s'.gens → (∀ b o, s₁.heap.get? b = some o → s'.heap.get? b = some o) → Rr (.ok (.ret (.bool c))) s') :
    ∀ (n : Nat) (s : Shared) (gs : GenState), s.heap.get? a = some go → s.heap.NoLimit → AllBare s.gens → s.gens[g]? = some gs →
      gs.Goes (model X.prog X.w) X.A.in1.in1 (GRp (gxCx X N scope s4 H4 code fp) T io σ0 F0 H0 ρ0 a go true b ρe) (GYp (gxCx X N scope s4 H4 code fp) T io σ0 F0 H0 ρ0 a go true b ρe) n (.send .none) (s.setGen g .running) →
      codeAny (model X.prog X.w) X.A (.builtin "any.loop" ⟨[.ref a], []⟩) Rr s := by
  intro n
  induction n with
  | zero =>
    intro s gs hga hl hba hgs hgo'
    refine codeAny_builtin F.entry_any_loop ?_
    rw [Around.under_plainId F.plain_any_loop _]
    show wpAny _ X.A.in1 (pyNext (.ref a) >>= _) _ _ s
    refine wpAny_bind (wpAny_pyNext_genexpQ (A := X.A.in1) (P := fun n s₀ s₁ => GFin (gxCx X N scope s4 H4 code fp) T io σ0 F0 H0 ρ0 a go b ρe (!true) s₁) hh hl hd (hgo _ hga) hgs hgo' (fun v s₁ gs' hb hv => ?_) (fun s₁ hp h' hk => ?_))
    · obtain ⟨c, rfl, h1, h2, h3, h4⟩ := hv
      refine wpAny_bind (wpAny_holding (wpAny_truthy_bool ?_))
      refine wpAny_bind (wpAny_letGo ?_)
      cases c with
      | false => exact ((h4 : ∀ s'' : Shared, s''.heap = s₁.heap → s''.os = s₁.os → AllBare s''.gens → False) s₁ rfl rfl h3).elim
      | true =>
        simp only [if_true]
        refine wpAny_bind (wpAny_rule (wpAny_pure ?_))
        exact hfin true s₁ _ h4 rfl (allBare_setGen h3 hb) fun _ _ e => e
    · refine wpAny_bind (wpAny_rule (wpAny_pure ?_))
      have hb1 : AllBare s₁.gens := by obtain ⟨_, _, _, I, _⟩ := hp; exact I.bare
      exact hfin false s₁ _ hp rfl (allBare_setGen hb1 rfl) hk
  | succ n ih =>
    intro s gs hga hl hba hgs hgo'
    refine codeAny_builtin F.entry_any_loop ?_
    rw [Around.under_plainId F.plain_any_loop _]
    show wpAny _ X.A.in1 (pyNext (.ref a) >>= _) _ _ s
    have hgl : g + 1 ≤ s.gens.size := (Array.getElem?_eq_some_iff.mp hgs).1
    refine wpAny_bind (GenW.wpAny_gsz hgl (wpAny_pyNext_genexpQ (A := X.A.in1) (P := fun n s₀ s₁ => GFin (gxCx X N scope s4 H4 code fp) T io σ0 F0 H0 ρ0 a go b ρe (!true) s₁) hh hl hd (hgo _ hga) hgs hgo' (fun v s₁ gs' hb hv => ?_) (fun s₁ hp h' hk => ?_)))
    · intro hsz
      rw [GenW.setGen_size] at hsz
      obtain ⟨c, rfl, h1, h2, h3, h4⟩ := hv
      refine wpAny_bind (wpAny_holding (wpAny_truthy_bool ?_))
      refine wpAny_bind (wpAny_letGo ?_)
      cases c with
      | false =>
        simp only [Bool.false_eq_true, if_false]
        refine wpAny_pure ⟨plainId_quiet F.plain_any_loop _, ih (s₁.setGen g gs') gs' h1 h2 (allBare_setGen h3 hb) (setGen_at hsz) ?_⟩
        have h5 := (h4 : ∀ s'' : Shared, s''.heap = s₁.heap → s''.os = s₁.os → AllBare s''.gens → gs'.Goes _ _ _ _ n (.send .none) s'')
        exact h5 _ rfl rfl (allBare_setGen (allBare_setGen h3 hb) rfl)
      | true =>
        simp only [if_true]
        refine wpAny_bind (wpAny_rule (wpAny_pure ?_))
        exact hfin true s₁ _ h4 rfl (allBare_setGen h3 hb) fun _ _ e => e
    · intro _
      refine wpAny_bind (wpAny_rule (wpAny_pure ?_))
      have hb1 : AllBare s₁.gens := by obtain ⟨_, _, _, I, _⟩ := hp; exact I.bare
      exact hfin false s₁ _ hp rfl (allBare_setGen hb1 rfl) hk
end

/-! ### the rule -/
def sAA (stop : Bool) (h : En → Ri) (n : Nat) (cs : List Nat) (gt : D → En → Option En) (fe : En → Rs) : En → Rs := fun ρ => match h ρ with
  | .ok its ρ1 => match insOf (cs.map .inr) ρ1 [] with
    | some ins => match aLoop stop gt fe its (ins ++ List.replicate (n - ins.length) .un) with
      | .ok b ρg => .ok (.val (.bool b)) (backC (cs.map .inr) (outsOf (List.range cs.length) 0 ins ρg) ρ1)
      | .bad => .bad
    | none => .bad
  | .exc c ρ1 => .exc c ρ1
  | .bad => .bad
theorem okIns_all {io : List Nat} : ∀ {i : Nat} {ins : En}, (∀ j, i ≤ j → j < i + ins.length → j ∈ io) → okIns io i ins = true
  | _, [], _ => rfl
  | i, s :: r, h => by
    unfold okIns
    have h1 : i ∈ io := h i (Nat.le_refl _) (by simp)
    have h2 : okIns io (i + 1) r = true := okIns_all fun j h1 h2 => h j (by omega) (by simp; omega)
    rw [h2]
    simp [h1]
theorem argR_capt {K : PySem.W.Frag} {T : List Addr} {F H : Hp} {σ : L2.St} {ρ : En} (G : Good K T F H σ ρ) : ∀ {cs : List Nat} {us : List Nat} {ins : En}, insOf (cs.map .inr) ρ us = some ins → ∃ vs, ArgR K F σ vs (cs.map .inr)
  | [], _, _, _ => ⟨[], .nil⟩
  | i :: cs, us, ins, h => by
    rw [List.map_cons, insOf] at h
    cases e0 : ρ[i]? with
    | none => simp only [e0] at h; cases h
    | some s0 =>
      rcases G.at_ i s0 e0 with z | ⟨v, h1, _⟩
      · subst z; simp only [e0] at h; cases h
      · cases e1 : insOf (cs.map .inr) ρ (i :: us) with
        | none =>
          cases s0 <;> simp only [e0, e1] at h <;> first | cases h | (split at h <;> cases h)
        | some r =>
          obtain ⟨vs, ar⟩ := argR_capt G e1
          exact ⟨v :: vs, .inr h1 ar⟩
theorem good_tab {K : PySem.W.Frag} {T : List Addr} {F H : Hp} {σ : L2.St} {ρ : En} {P : Addr} {ps qs : Array Value} (G : Good K T F H σ ρ) (hP : P ∈ T) (e : H P = some (.tbl ps)) (ht : TriplesOk qs.toList) : Mv K T σ F H ρ F (upd H P (.tbl qs)) ρ := by
  have nF : F P = none := (G.tab P hP).1
  refine ⟨⟨fun _ _ h => h, fun b o h1 h2 => (by rw [h1] at h2; cases h2), fun b o h1 _ h2 => by rw [upd_ne (fun z => h2 (by rw [z]; exact hP))]; exact h1, fun b h => ?_⟩, ⟨fun b o h => by rw [upd_ne (ne_of_none h nF)]; exact G.le b o h, fun P' hP' => ?_, G.len, fun j s q => ?_, G.sep⟩, OS.refl _⟩
  · by_cases z : b = P
    · subst z; rw [upd_same] at h; cases h
    · rw [upd_ne z] at h; exact h
  · obtain ⟨h1, ps', h2, h3⟩ := G.tab P' hP'
    by_cases z : P' = P
    · subst z; exact ⟨h1, qs, upd_same, ht⟩
    · exact ⟨h1, ps', by rw [upd_ne z]; exact h2, h3⟩
  · rcases G.at_ j s q with z | ⟨v, h1, h2⟩
    · exact .inl z
    · refine .inr ⟨v, h1, ?_⟩
      have nb : ∀ b, s.owned = true → v = .ref b → b ≠ P := fun b ho ev z => by
        subst ev
        exact G.own_tab ⟨j, s, q, ho, h1⟩ (by rw [z]; exact hP)
      cases s with
      | un => exact h2
      | exc c => exact h2
      | val d => exact h2
      | lst ds =>
        obtain ⟨b, ws, e1, e5, e6, e7⟩ := h2
        exact ⟨b, ws, e1, e5, by rw [upd_ne (nb b rfl e1)]; exact e6, e7⟩
      | dct kvs =>
        obtain ⟨b, e1, e5, e6⟩ := h2
        exact ⟨b, e1, e5, dcrep_mono (fun _ _ q => q) (fun u q => by rw [upd_ne (nb b rfl e1)]; exact q) e6⟩
section
variable {X : Cx} {T : List Addr} {W : WX} {N : List Str} {scope : Scope} {cs : List Nat} {tg elt iter : Expr} {gpos pos p : Pos} {js : List Nat} {gt : D → En → Option En} {fe : En → Rs} {h : En → Ri} {k : Nat} {c P : Addr}
/-- a generator, made -/
structure Made (X : Cx) (T : List Addr) (N : List Str) (scope : Scope) (cs js : List Nat) (tg elt iter : Expr) (gpos : Pos) (gt : D → En → Option En) (fe : En → Rs) (pins : List (Addr × Obj)) (σ : L2.St) (F1 H1 : Hp) (ρ1 : En) (its : List D) (g a : Addr) (s5 : Shared) : Prop where
  ex : ∃ (s4 : Shared) (H4 : Hp) (code : Value) (fp : List Addr) (it : Addr) (tn : Nat → Heap → Prop) (J : It) (go : Obj) (vs : List V),
    L2.Inv X pins σ H4 s4 ∧ Mv X.K T σ F1 H1 ρ1 F1 H4 ρ1 ∧ Turn X.prog X.w X.K tg J fp it tn ∧ tn 0 s5.heap ∧ (∀ b ∈ fp, FpOk X pins H4 b) ∧ (∀ b ∈ fp, b ≠ a) ∧ WalkD X.K F1 J its ∧ ArgR X.K F1 σ vs (cs.map .inr) ∧
    L2.Inv (gxCx X N scope s4 H4 code fp) [(a, go)] (L2.start N vs) H4 s5 ∧ (∀ v, go.data ≠ .cell v) ∧ (∀ h : Heap, h.get? a = some go → h.IsGen a g) ∧ s5.gens[g]? = some (.fresh (.compStart (.GeneratorExp elt [⟨tg, iter, [], 0⟩] scope gpos) 0 (.ref it) .none (gxEnv X scope s4.heap.objs.size code)))
end
end Pu
end PuK_part
section PuN_part
set_option Elab.async false
set_option linter.all false
set_option maxRecDepth 100000
set_option maxHeartbeats 2000000
/-! The pure layer, part N: the rule for all and any. -/
namespace Pu
open PySem PySem.Spec PyProof.Rows L2
section
variable {X : Cx} {T : List Addr} {W : WX} {N : List Str} {scope : Scope} {cs : List Nat} {tg elt iter : Expr} {gpos pos p : Pos} {js : List Nat} {gt : D → En → Option En} {fe : En → Rs} {h : En → Ri} {k : Nat} {c P : Addr} {pins : List (Addr × Obj)} {σ : L2.St} {F H : Hp} {ρ : En} {s : Shared}
theorem gx_make {Q' : Value → Shared → Prop} (hr : Room k X.A) (hP : P ∈ T) (TB : LamX.TabB X.base X.mg c P) (hcode : X.env.code = .ref c) (ok : GxOk X.N N X.env.scope scope cs) (hi : CI X T W tg iter h) (hs : ∀ v, genFold iter X.env v = pure v)
    (I : L2.Inv X pins σ H s) (G : Good X.K T F H σ ρ)
    (q : match h ρ with
      | .ok its ρ1 => (∃ ins, insOf (cs.map .inr) ρ1 [] = some ins) ∧ ∀ F1 H1 g a s5, Mv X.K T σ F H ρ F1 H1 ρ1 → Made X T N scope cs js tg elt iter gpos gt fe pins σ F1 H1 ρ1 its g a s5 → Q' (.ref a) s5
      | .exc c ρ1 => ∀ F' H' C, X.mg c = some (.ref C) → Mv X.K T σ F H ρ F' H' ρ1 → W (.ref C) none σ H'
      | .bad => False) :
    wpAny (model X.prog X.w) X.A (eval (.GeneratorExp elt [⟨tg, iter, [], 0⟩] scope gpos) X.env) Q' X.xe s := by
  have hw : tI X.K T W X.mg h σ H fun J H1 => ∃ F1 ρ1 its, h ρ = .ok its ρ1 ∧ Mv X.K T σ F H ρ F1 H1 ρ1 ∧ WalkD X.K F1 J its := by
    refine ⟨F, ρ, G, ?_⟩
    cases e : h ρ with
    | bad => rw [e] at q; exact q
    | exc c ρ1 => rw [e] at q; exact q
    | ok its ρ1 => exact fun F' H' J m wd => ⟨F', ρ1, its, rfl, m, wd⟩
  refine wpAny_GeneratorExp_make ok.co (closure_ok (ok.has I.ok)) ok.cell ok.dot ok.kind (by have := hr.dp; omega) ?_ hs
  refine thn (hi.run pins s σ H _ I hw) fun xv s1 h1 => thn h1 fun itv s2 h2 => ?_
  obtain ⟨it, fp, tn, J, H1, e, I2, Tn, st2, f2, F1, ρ1, its, eh, m1, wd⟩ := h2
  subst e
  rw [eh] at q
  obtain ⟨⟨ins, hins⟩, q⟩ := q
  obtain ⟨nF, ps, hPs, ht⟩ := m1.good.tab P hP
  have hPs2 : s2.heap.get? P = some { cls := .none, data := .fields ps } := I2.hok P _ hPs
  have cd : PySem.W.CodeHd s2.heap c P := TB.code.keeps fun b u e => I2.bk b u e
  refine ⟨I2.nolimit, ?_⟩
  have cont : ∀ (code : Value) (h3 : Heap) (tk : Nat) (more : Array Value), Heap.ExtBut P s2.heap h3 → s2.heap.objs.size ≤ h3.objs.size → h3.get? P = some { cls := .none, data := .fields (ps ++ more) } → TriplesOk (ps ++ more).toList →
      wpAny (model X.prog X.w) X.A (builtinsFor X.env.globals X.env.builtins) (fun bi s₄ => ∀ h', h'.Ns s₄.heap.objs.size (fun y => if y = ".0" then some (.ref it) else none) → Heap.SameBut s₄.heap.objs.size (s₄.heap.push { cls := .type "frame", data := .dict #[] }) h' →
          Q' (.ref h'.objs.size) { s₄ with
            gens := s₄.gens.push (.fresh (.compStart (.GeneratorExp elt [⟨tg, iter, [], 0⟩] scope gpos) 0 (.ref it) .none (genEnv scope (cloFrom X.env.cells scope.names []) s₄.heap.objs.size code bi X.env))),
            toks := s₄.toks + 1 + 1 + 1,
            heap := h'.push { cls := .type "generator", data := .fields #[.int s₄.gens.size 0, .str "<genexpr>" (s₄.toks + 1), .str (X.env.qual ++ "<genexpr>") (s₄.toks + 1 + 1)] } }) X.xe { s2 with heap := h3, toks := tk } := by
    intro code h3 tk more hx hsz hP3 ht3
    obtain ⟨bm, ob, e1, e2, e3, e4, e5, e6, e7, e8⟩ := TB.bm
    have keep3 : ∀ b u, b ≠ P → s2.heap.get? b = some u → h3.get? b = some u := fun b u hb e => hx b u hb e
    refine wpAny_builtinsFor (m := X.mg) (by rw [I2.ok.glob]; exact ((I2.mod.glob.keeps I2.bk)).extBut hx TB.gP) e1 e2 (keep3 _ _ e4 (I2.bk _ _ e5)) e6 e7 e8 ?_
    intro h' hns hsb
    -- the state behind the code object
    have I4 : L2.Inv X pins σ (upd H1 P (.tbl (ps ++ more))) { s2 with heap := h3, gens := s2.gens, drawn := s2.drawn, toks := tk } :=
      GxR.inv_tab (more := more) (h' := h3) (g' := s2.gens) (d' := s2.drawn) (t' := tk) I2 hPs keep3 hP3 I2.bare
    have mt := good_tab m1.good hP hPs ht3
    have szb : ∀ b ∈ fp, b < h3.objs.size := fun b hb => by
      obtain ⟨o, e, _⟩ := Tn.obj _ _ st2 b hb
      exact Nat.lt_of_lt_of_le (Heap.lt_size e) hsz
    have neP : ∀ b ∈ fp, b ≠ P := fun b hb z => by
      have := (f2 b hb).1
      rw [z, hPs] at this
      cases this
    have f4 : ∀ b ∈ fp, FpOk X pins (upd H1 P (.tbl (ps ++ more))) b := fun b hb => ⟨by rw [upd_ne (neP b hb)]; exact (f2 b hb).1, (f2 b hb).2⟩
    have st4 : tn 0 h3 := Tn.keep _ _ _ st2 fun b hb o e => keep3 b o (neP b hb) e
    have hsz' : h'.objs.size = h3.objs.size + 1 := by rw [hsb.1, Heap.size_push]
    have keep' : ∀ b o, h3.get? b = some o → h'.get? b = some o := fun b o e => hsb.extBut b o (Nat.ne_of_lt (Heap.lt_size e)) (Heap.get?_push_of_some _ e)
    obtain ⟨vs, ar⟩ := argR_capt m1.good hins
    have hvl : vs.length = cs.length := by rw [ar.len, List.length_map]
    have hv : ∀ (k : Nat) (v : V), vs[k]? = some v → ∃ i, cs[k]? = some i ∧ σ[i]? = some (some v) := fun k v e => by
      have hk : k < cs.length := by have := (List.getElem?_eq_some_iff.mp e).1; omega
      obtain ⟨v', w1, w2⟩ := ar.inr_at (k := k) (i := cs[k]) (by rw [List.getElem?_map, List.getElem?_eq_getElem hk]; rfl)
      rw [e] at w1
      cases w1
      exact ⟨cs[k], List.getElem?_eq_getElem hk, w2⟩
    have I5 := gx_start (code := code) (fp := fp) (h₁ := h'.push { cls := .type "generator", data := .fields #[.int s2.gens.size 0, .str "<genexpr>" (tk + 1), .str (X.env.qual ++ "<genexpr>") (tk + 1 + 1)] })
      (g' := s2.gens.push (.fresh (.compStart (.GeneratorExp elt [⟨tg, iter, [], 0⟩] scope gpos) 0 (.ref it) .none (genEnv scope (cloFrom X.env.cells scope.names []) h3.objs.size code builtinsNs X.env)))) (tk := tk + 1 + 1 + 1)
      I4 ok hr.hd (fun b hb => ⟨f4 b hb, szb b hb⟩) (hns.push _) (fun b o e => Heap.get?_push_of_some _ (keep' b o e)) (AllBare.push I2.bare rfl) hvl hv
    have hget : (h'.push { cls := .type "generator", data := .fields #[.int s2.gens.size 0, .str "<genexpr>" (tk + 1), .str (X.env.qual ++ "<genexpr>") (tk + 1 + 1)] }).get? h'.objs.size = some { cls := .type "generator", data := .fields #[.int s2.gens.size 0, .str "<genexpr>" (tk + 1), .str (X.env.qual ++ "<genexpr>") (tk + 1 + 1)] } := Heap.get?_push_size _ rfl
    have hn4 : (upd H1 P (.tbl (ps ++ more))) h'.objs.size = none := I4.hok.fresh (by show h3.objs.size ≤ _; omega)
    refine q F1 H1 s2.gens.size h'.objs.size _ m1 ⟨{ s2 with heap := h3, toks := tk }, upd H1 P (.tbl (ps ++ more)), code, fp, it, tn, J, { cls := .type "generator", data := .fields #[.int s2.gens.size 0, .str "<genexpr>" (tk + 1), .str (X.env.qual ++ "<genexpr>") (tk + 1 + 1)] }, vs,
      I4, mt, Tn, Tn.keep _ _ _ st4 fun b _ o e => Heap.get?_push_of_some _ (keep' b o e), f4, fun b hb z => ?_, wd, ar, I5.pins_of fun p hp => ?_, fun v z => (by cases z), fun hh e => ⟨_, _, _, e, rfl, rfl, rfl⟩, Array.getElem?_push_size ..⟩
    · have := szb b hb
      rw [z, hsz'] at this
      have h9 : (h3.objs.size + 1 : Nat) < h3.objs.size := this
      omega
    · have hp' : p = (h'.objs.size, _) := List.mem_singleton.mp hp
      subst hp'
      refine ⟨hget, hn4, ?_, ?_, fun v z => by cases z⟩
      · show h'.objs.size ≠ h3.objs.size
        omega
      · intro z
        have hle : h3.objs.size ≤ h'.objs.size := by omega
        rcases List.mem_cons.mp (I4.stkSub _ z) with e | z
        · have h8 : X.env.locals < h3.objs.size := I4.lt
          rw [← e] at h8
          have h9 : (h'.objs.size : Nat) < h3.objs.size := h8
          omega
        · exact I4.nofs (show h3.objs.size ≤ h'.objs.size from hle) z
  cases hf : codeAmong gpos ps.toList with
  | none =>
    refine wpAny_genexprCodeX hcode (cd.code hPs2 ht) (cd.tab hPs2) hf fun c' h' tk hx hge hlt hco' _ htab' _ => ?_
    obtain ⟨o1, vs, f1, tf, fl, tg, inF, tx, tt, op, _, _, _, _, _, _, _, _, _, htr, _⟩ := hco'
    exact cont _ h' tk _ hx (Nat.le_trans hge (Nat.le_of_lt hlt)) htab'.2 htr
  | some cv =>
    refine wpAny_genexprCode_hit hcode (cd.code hPs2 ht) hf ?_
    exact cont cv s2.heap s2.toks #[] (Heap.ExtBut.refl _ _) (Nat.le_refl _) (by simpa using hPs2) (by simpa using ht)
/-- behind the consumer's loop -/
theorem gx_back {b : Bool} {ins : En} {ρe : En} {F1 H1 : Hp} {a : Addr} {s4 : Shared} {H4 : Hp} {code : Value} {fp : List Addr} {go : Obj} {vs : List V} {c0 : Bool} {s₁ s' : Shared} {ρ1 : En}
    (ok : GxOk X.N N X.env.scope scope cs) (I4 : L2.Inv X pins σ H4 s4) (m4 : Mv X.K T σ F1 H1 ρ1 F1 H4 ρ1) (f4 : ∀ b ∈ fp, FpOk X pins H4 b) (ar : ArgR X.K F1 σ vs (cs.map .inr)) (hins : insOf (cs.map .inr) ρ1 [] = some ins)
    (fin : GFin (gxCx X N scope s4 H4 code fp) T (List.range cs.length) (L2.start N vs) F1 H4 (ins ++ List.replicate (N.length - ins.length) .un) a go b ρe c0 s₁) (ho : s'.os = s₁.os) (hb : AllBare s'.gens) (hk : ∀ b o, s₁.heap.get? b = some o → s'.heap.get? b = some o) :
    b = c0 ∧ ∃ F' H', Mv X.K T σ F1 H1 ρ1 F' H' (backC (cs.map .inr) (outsOf (List.range cs.length) 0 ins ρe) ρ1) ∧ L2.Inv X pins σ H' s' := by
  obtain ⟨σ', F', H', I, m, e⟩ := fin
  have hvl : vs.length = cs.length := by rw [ar.len, List.length_map]
  obtain ⟨G1, ow1⟩ := good_ins m4.good ar hins
  have hil : ins.length = cs.length := by rw [G1.len, List.length_map, hvl]
  have hle : vs.length ≤ N.length := by rw [hvl]; exact ok.len
  have okI : okIns (List.range cs.length) 0 ins = true := okIns_all fun j _ h => List.mem_range.mpr (by omega)
  obtain ⟨m2, _⟩ := outs_mv G1 hle okI m
  obtain ⟨m3, _⟩ := mv_back m4.good ar hins m2
  refine ⟨e, F', H', m4.trans m3, ?_⟩
  have un : Un (frs X.stack) fp H4 H' s4.heap s₁.heap := I.base
  exact I4.call' (ch := fp) (ho.trans I.os) (un.trans (Un.kept hk)) (I.hok.kept hk) hb fun b hb => ⟨(f4 b hb).2.2.2.1, (f4 b hb).2.1, (f4 b hb).2.2.2.2.1, (f4 b hb).2.2.2.2.2⟩
theorem ce_all (hr : Room k X.A) (hg : Gl X "all") (hm : X.mg "all" = none) (hv : bootBuiltins "all" = some (.builtin "all")) (hP : P ∈ T) (TB : LamX.TabB X.base X.mg c P) (hcode : X.env.code = .ref c) (ok : GxOk X.N N X.env.scope scope cs)
    (hi : CI X T W tg iter h) (hs : ∀ v, genFold iter X.env v = pure v) (hjs : ∀ j ∈ js, cs.length ≤ j)
    (cg : ∀ (s : Shared) (H : Hp) (code : Value) (fp : List Addr), CG (gxCx X N scope s H code fp) T js tg gt) (ce : ∀ (s : Shared) (H : Hp) (code : Value) (fp : List Addr), CE (gxCx X N scope s H code fp) T W0 elt fe)
    (he : starEach [.GeneratorExp elt [⟨tg, iter, [], 0⟩] scope gpos] X.env = (false, eval (.GeneratorExp elt [⟨tg, iter, [], 0⟩] scope gpos) X.env) :: starEach [] X.env := by rfl) :
    CE X T W (.Call (.Name "all" p) [.GeneratorExp elt [⟨tg, iter, [], 0⟩] scope gpos] [] pos) (sAA false h N.length cs gt fe) := by
  refine ⟨fun pins s σ H Q I ⟨F, ρ, G, q⟩ => ?_⟩
  refine wpAny_Call_Name_kw (ld_blt I hg hm hv ?_)
  refine PyProof.Rows.callWith_builtin1 ?_ he (by rfl)
  rw [he]
  show wpAny _ _ (spliced ((false, eval (.GeneratorExp elt [⟨tg, iter, [], 0⟩] scope gpos) X.env) :: backTo pos (starEach [] X.env))) _ _ s
  refine Calls.spliced_cons (gx_make (js := js) (gt := gt) (fe := fe) hr hP TB hcode ok hi hs I G ?_)
  unfold sAA at q
  cases e1 : h ρ with
  | bad => simp only [e1] at q
  | exc c ρ1 => simp only [e1] at q; exact q
  | ok its ρ1 =>
    simp only [e1] at q
    cases e2 : insOf (cs.map .inr) ρ1 [] with
    | none => simp only [e2] at q
    | some ins =>
      simp only [e2] at q
      cases e3 : aLoop false gt fe its (ins ++ List.replicate (N.length - ins.length) .un) with
      | bad => simp only [e3] at q
      | ok b ρe =>
        simp only [e3] at q
        refine ⟨⟨ins, e2⟩, fun F1 H1 g a s5 m1 md => Calls.spliced_nil ?_⟩
        obtain ⟨s4, H4, code, fp, it, tn, J, go, vs, I4, m4, Tn, st5, f4, nfa, wd, ar, I5, hgc, hgo, hgs⟩ := md.ex
        refine call_function_tree PySem.F.kind_all PySem.F.plain_all PySem.F.entry_all (PySem.F.args_all1 _) ?_
        unfold Builtin.«all»
        refine wpAny_bind (m := oneArg "all" _) (wpAny_pure ?_)
        have hga : s5.heap.get? a = some go := (I5.pin (a, go) (by simp)).1
        refine wpAny_bind (wpAny_pyIter_gen (hgo _ hga) ?_)
        have hvl : vs.length = cs.length := by rw [ar.len, List.length_map]
        obtain ⟨G1, ow1⟩ := good_ins m4.good ar e2
        have hle : vs.length ≤ N.length := by rw [hvl]; exact ok.len
        obtain ⟨G0, _⟩ := good_start (N := N) G1 hle
        refine wpAny_pure ⟨plainId_quiet PySem.F.plain_all_loop _, all_gx (N := N) (scope := scope) (s4 := s4) (H4 := H4) (code := code) (fp := fp) (T := T) (io := List.range cs.length) (σ0 := L2.start N vs) (F0 := F1) (H0 := H4) (ρ0 := ins ++ List.replicate (N.length - ins.length) .un) (b := b) (ρe := ρe) (go := go)
          hr.hd (by have := hr.dp; omega) hgo (fun c0 s₁ s' fin ho hb hk => ?_) its.length s5 _ hga I5.nolimit I5.bare hgs ⟨rfl, ?_⟩⟩
        · obtain ⟨eb, F', H', mb, I6⟩ := gx_back ok I4 m4 f4 ar e2 fin ho hb hk
          subst eb
          exact ⟨.bl b, H', I6, rfl, q F' H' (.bl b) (m1.trans mb) ⟨.bl b, fun z => by cases z⟩⟩
        · refine seg_gx0 Tn ok.co hgc nfa wd (fun i hi z => ?_) (cg s4 H4 code fp) (ce s4 H4 code fp) _ _ _ (Nat.le_refl _) ⟨L2.start N vs, F1, H4, _, inv_woken I5 rfl rfl (allBare_setGen I5.bare rfl), MvS.refl G0, st5, fun b hb => (f4 b hb).1, e3⟩
          have h1 := hjs i z
          have h2 := List.mem_range.mp hi
          omega
theorem ce_any (hr : Room k X.A) (hg : Gl X "any") (hm : X.mg "any" = none) (hv : bootBuiltins "any" = some (.builtin "any")) (hP : P ∈ T) (TB : LamX.TabB X.base X.mg c P) (hcode : X.env.code = .ref c) (ok : GxOk X.N N X.env.scope scope cs)
    (hi : CI X T W tg iter h) (hs : ∀ v, genFold iter X.env v = pure v) (hjs : ∀ j ∈ js, cs.length ≤ j)
    (cg : ∀ (s : Shared) (H : Hp) (code : Value) (fp : List Addr), CG (gxCx X N scope s H code fp) T js tg gt) (ce : ∀ (s : Shared) (H : Hp) (code : Value) (fp : List Addr), CE (gxCx X N scope s H code fp) T W0 elt fe)
    (he : starEach [.GeneratorExp elt [⟨tg, iter, [], 0⟩] scope gpos] X.env = (false, eval (.GeneratorExp elt [⟨tg, iter, [], 0⟩] scope gpos) X.env) :: starEach [] X.env := by rfl) :
    CE X T W (.Call (.Name "any" p) [.GeneratorExp elt [⟨tg, iter, [], 0⟩] scope gpos] [] pos) (sAA true h N.length cs gt fe) := by
  refine ⟨fun pins s σ H Q I ⟨F, ρ, G, q⟩ => ?_⟩
  refine wpAny_Call_Name_kw (ld_blt I hg hm hv ?_)
  refine PyProof.Rows.callWith_builtin1 ?_ he (by rfl)
  rw [he]
  show wpAny _ _ (spliced ((false, eval (.GeneratorExp elt [⟨tg, iter, [], 0⟩] scope gpos) X.env) :: backTo pos (starEach [] X.env))) _ _ s
  refine Calls.spliced_cons (gx_make (js := js) (gt := gt) (fe := fe) hr hP TB hcode ok hi hs I G ?_)
  unfold sAA at q
  cases e1 : h ρ with
  | bad => simp only [e1] at q
  | exc c ρ1 => simp only [e1] at q; exact q
  | ok its ρ1 =>
    simp only [e1] at q
    cases e2 : insOf (cs.map .inr) ρ1 [] with
    | none => simp only [e2] at q
    | some ins =>
      simp only [e2] at q
      cases e3 : aLoop true gt fe its (ins ++ List.replicate (N.length - ins.length) .un) with
      | bad => simp only [e3] at q
      | ok b ρe =>
        simp only [e3] at q
        refine ⟨⟨ins, e2⟩, fun F1 H1 g a s5 m1 md => Calls.spliced_nil ?_⟩
        obtain ⟨s4, H4, code, fp, it, tn, J, go, vs, I4, m4, Tn, st5, f4, nfa, wd, ar, I5, hgc, hgo, hgs⟩ := md.ex
        refine call_function_tree PySem.F.kind_any PySem.F.plain_any PySem.F.entry_any (PySem.F.args_any1 _) ?_
        unfold Builtin.«any»
        refine wpAny_bind (m := oneArg "any" _) (wpAny_pure ?_)
        have hga : s5.heap.get? a = some go := (I5.pin (a, go) (by simp)).1
        refine wpAny_bind (wpAny_pyIter_gen (hgo _ hga) ?_)
        have hvl : vs.length = cs.length := by rw [ar.len, List.length_map]
        obtain ⟨G1, ow1⟩ := good_ins m4.good ar e2
        have hle : vs.length ≤ N.length := by rw [hvl]; exact ok.len
        obtain ⟨G0, _⟩ := good_start (N := N) G1 hle
        refine wpAny_pure ⟨plainId_quiet PySem.F.plain_any_loop _, any_gx (N := N) (scope := scope) (s4 := s4) (H4 := H4) (code := code) (fp := fp) (T := T) (io := List.range cs.length) (σ0 := L2.start N vs) (F0 := F1) (H0 := H4) (ρ0 := ins ++ List.replicate (N.length - ins.length) .un) (b := b) (ρe := ρe) (go := go)
          hr.hd (by have := hr.dp; omega) hgo (fun c0 s₁ s' fin ho hb hk => ?_) its.length s5 _ hga I5.nolimit I5.bare hgs ⟨rfl, ?_⟩⟩
        · obtain ⟨eb, F', H', mb, I6⟩ := gx_back ok I4 m4 f4 ar e2 fin ho hb hk
          subst eb
          exact ⟨.bl b, H', I6, rfl, q F' H' (.bl b) (m1.trans mb) ⟨.bl b, fun z => by cases z⟩⟩
        · refine seg_gx0 Tn ok.co hgc nfa wd (fun i hi z => ?_) (cg s4 H4 code fp) (ce s4 H4 code fp) _ _ _ (Nat.le_refl _) ⟨L2.start N vs, F1, H4, _, inv_woken I5 rfl rfl (allBare_setGen I5.bare rfl), MvS.refl G0, st5, fun b hb => (f4 b hb).1, e3⟩
          have h1 := hjs i z
          have h2 := List.mem_range.mp hi
          omega
end
end Pu
end PuN_part
section PuO_part
set_option Elab.async false
set_option linter.all false
set_option maxRecDepth 100000
set_option maxHeartbeats 2000000
/-! The pure layer, part O: stores to lists, module constants. -/
namespace Pu
open PySem PySem.Spec PyProof.Rows L2
section
variable {X : Cx} {T : List Addr} {W : WX} {io : List Nat}
/-- xs[i] = v, xs a list of the name's own -/
def sLput (n : Nat) (fv fi : En → Rs) : En → Rt := fun ρ => match fv ρ with
  | .ok r ρ1 => match fz r with
    | some d => match ρ1[n]? with
      | some (.lst _) => match fi ρ1 with
        | .ok (.val (.int k)) ρ2 => match ρ2[n]? with
          | some (.lst ds) => match ixN ds.length k with
            | some j => .nxt (ρ2.set n (.lst (ds.set j d)))
            | none => .bad
          | _ => .bad
        | .ok _ _ => .bad
        | .exc c ρ2 => .exc c ρ2
        | .bad => .bad
      | _ => .bad
    | none => .bad
  | .exc c ρ1 => .exc c ρ1
  | .bad => .bad
theorem dpa_set {K : PySem.W.Frag} {F : Hp} : ∀ {vs : List V} {ds : List D} {j : Nat} {v : V} {d : D}, DqAll K F vs ds → Dq K F v d → DqAll K F (vs.set j v) (ds.set j d)
  | _, _, _, _, _, .nil, _ => .nil
  | _, _, 0, _, _, .cons _ b, h => .cons h b
  | _, _, j + 1, _, _, .cons a b, h => .cons a (dpa_set b h)
theorem cs_lput {n : Nat} {o i value : Expr} {fv fi : En → Rs} {pos pos' : Pos} (ho : PE X o (tVar n)) (hi : CE X T W i fi) (hv : CE X T W value fv)
    (ha : ∀ v, assign (.Subscript o i pos') X.env v = (do
      let ov ← holding [v] (eval o X.env)
      let iv ← holding [v, ov] (eval i X.env)
      standAt pos'
      holding [v, ov, iv] (setItem ov iv v)
      release [v, ov, iv] []) := by intro _; rfl)
    (hs : swapsWithSole [.Subscript o i pos'] value pos.line X.env = pure false := by rfl) (hw : swappedStores [.Subscript o i pos'] value X.env = pure none := by rfl) (h1 : (assignEach [.Subscript o i pos'] X.env).map (·.2) = [assign (.Subscript o i pos') X.env] := by rfl) :
    CS X T W io (.Assign [.Subscript o i pos'] value pos) (sLput n fv fi) := by
  refine ps_imp (ps_asg hv (pg_sub ho hi set_list ha) hs hw h1) fun D σ H ⟨F, ρ, G, q⟩ => ⟨F, ρ, G, ?_⟩
  unfold sLput at q
  cases e1 : fv ρ with
  | bad => simp only [e1] at q; exact q
  | exc c ρ1 => simp only [e1] at q; exact fun F' H' C hc m => q F' H' σ C hc m.s
  | ok r ρ1 =>
    simp only [e1] at q
    intro F1 H1 v m1 rs
    cases e2 : fz r with
    | none => simp only [e2] at q; exact q.elim
    | some d =>
      simp only [e2] at q
      obtain ⟨F1', m1', dv⟩ := mv_fz m1 rs e2
      cases e3 : ρ1[n]? with
      | none => simp only [e3] at q; exact q.elim
      | some s =>
        cases s with
        | lst ds0 =>
          simp only [e3] at q
          rcases m1'.good.at_ n _ e3 with z | ⟨w, h1, a, vs0, ea, _, _, _⟩
          · cases z
          subst ea
          refine ⟨_, h1, F1', ρ1, m1'.good, ?_⟩
          cases e4 : fi ρ1 with
          | bad => simp only [e4] at q; exact q.elim
          | exc c ρ2 => simp only [e4] at q; exact fun F' H' C hc m => q F' H' σ C hc (m1'.trans m).s
          | ok rk ρ2 =>
            cases rk with
            | val k =>
              cases k with
              | int k =>
                simp only [e4] at q
                intro F2 H2 y m2 rs2
                cases e6 : ρ2[n]? with
                | none => simp only [e6] at q; exact q.elim
                | some s =>
                  cases s with
                  | lst ds =>
                    simp only [e6] at q
                    cases e7 : ixN ds.length k with
                    | none => simp only [e7] at q; exact q.elim
                    | some j =>
                      simp only [e7] at q
                      rcases m2.good.at_ n _ e6 with z | ⟨w2, h2, a2, vs, ea2, f2, hk, da⟩
                      · cases z
                      rw [h1] at h2
                      cases h2
                      cases ea2
                      have hy : y = .int k := by
                        cases y with
                        | int k' => have := rs2.rep; cases this; rfl
                        | _ => exact nomatch rs2.rep
                      subst hy
                      exact ⟨a, vs, k, j, rfl, rfl, hk, by rw [dpa_len da]; exact e7, q F2 _ σ ((m1'.trans m2).trans (mv_own m2.good e6 h1 hk f2 (dpa_set da (dp_le m2.ext.fle dv)))).s⟩
                  | _ => simp only [e6] at q; exact q.elim
              | _ => simp only [e4] at q; exact q.elim
            | _ => simp only [e4] at q; exact q.elim
        | _ => simp only [e3] at q; exact q.elim
/-- a module's constant -/
theorem ce_glob {x : Str} {u : Value} {v : V} {d : D} {pos : Pos} (hg : Gl X x) (hm : X.mg x = some u) (r : RelV v u) (hd : ∀ F, Dq X.K F v d) (hdb : (x == ("__debug__" : Str)) = false := by decide) : CE X T W (.Name x pos) (sC d) :=
  ce_c (pe_glob hg hm r hdb) hd
end
end Pu
end PuO_part
section PuQ_part
set_option Elab.async false
set_option linter.all false
set_option maxRecDepth 100000
set_option maxHeartbeats 2000000
/-! The pure layer, part Q: what a printed derivation leans on. -/
namespace Pu
open PySem PySem.Spec PyProof.Rows L2
/-- facts of a context -/
structure EC (X : Cx) (W : WX) (k : Nat) : Prop where
  hr : Room k X.A
  tk : Takes X W
  hc : X.calm = true
  hN : X.N.Nodup
theorem EC.lo {X : Cx} {W : WX} {k : Nat} (h : EC X W k) (j : Nat) (hj : j ≤ k := by decide) : Room j X.A := h.hr.mono hj
theorem EC.blk {X : Cx} {W : WX} {k : Nat} (h : EC X W k) (s : Shared) (H : Hp) (scope : Scope) (env : Env) (fp : List Addr) : EC (X.blk s H scope env fp) W0 k := ⟨h.hr, L2.takes0, h.hc, h.hN⟩
theorem EC.gx {X : Cx} {W : WX} {k : Nat} (h : EC X W (k + 1)) {N : List Str} (hN : N.Nodup) (scope : Scope) (s : Shared) (H : Hp) (code : Value) (fp : List Addr) : EC (gxCx X N scope s H code fp) W0 k := by
  refine ⟨⟨h.hr.hd, ?_, ?_⟩, L2.takes0, rfl, hN⟩
  · have := h.hr.dp
    show X.A.depth + 1 + 3 * k + 5 < _
    omega
  · have := h.hr.un
    show X.A.units + 1 + 1 + 3 + 16 * k + 200 < _
    omega
section
variable {P : Program} {w : World} {K : PySem.W.Frag} {mg : Str → Option Value} {base : Heap}
abbrev fnCx (P : Program) (w : World) (K : PySem.W.Frag) (mg : Str → Option Value) (base : Heap) (N : List Str) (qual : Str) (st : Stmt) (f : Addr) (cdv : Value) (A : Around) (outer : List Env) (s : Shared) (H : Hp) (E : XK) : Cx :=
  cxOf (L2.CX P w) P w K mg base N qual (defScope st) f cdv A outer s H E
abbrev WE (E : XK) : WX := fun cls d _ H' => E cls d H'
theorem ec_fn {N ps : List Str} {qual : Str} {st : Stmt} {f : Addr} {cdv : Value} {A : Around} {outer : List Env} {s : Shared} {H : Hp} {E : XK} {k : Nat} (S : FnScope N ps (defScope st)) (hr : Room k (A.deeper (envOfC qual (defScope st) s.heap.objs.size f cdv))) :
    EC (fnCx P w K mg base N qual st f cdv A outer s H E) (WE E) k :=
  ⟨hr, L2.takes_of rfl rfl rfl rfl, rfl, S.nd⟩
theorem po_fn {N : List Str} {qual : Str} {st : Stmt} {f : Addr} {cdv : Value} {A : Around} {outer : List Env} {s : Shared} {H : Hp} {E : XK} :
    PassesOwn (model P w) (fnCx P w K mg base N qual st f cdv A outer s H E).A (fnCx P w K mg base N qual st f cdv A outer s H E).env (fnCx P w K mg base N qual st f cdv A outer s H E).xe :=
  L2.passes_of (X := fnCx P w K mg base N qual st f cdv A outer s H E) rfl
/-- a def of the text, its code object told -/
structure FunC (K : PySem.W.Frag) (x qual : Str) (st : Stmt) (f : Addr) (fd : FuncData) (cdv : Value) : Prop where
  ex : ∃ (oc : Value) (od : Option Addr) (kV doc pm : Value) (an : Option Addr) (ct : Value) (osl : Array (Option Value)),
    fd = PySem.W.fnOf x qual (defArgs st) (defBody st) (defScope st) .none kV doc pm an cdv ct ∧ K.lookup f = some ⟨oc, od, .func fd, osl⟩ ∧ PySem.W.codeIn K cdv qual = true
  kp : PySem.W.keepIn K (.ref f) = true
theorem FunC.fn {x qual : Str} {st : Stmt} {f : Addr} {fd : FuncData} {cdv : Value} (F : FunC K x qual st f fd cdv) : Fun K x qual st f fd := by
  obtain ⟨oc, od, kV, doc, pm, an, ct, osl, e, lk, hcd⟩ := F.ex
  exact ⟨⟨oc, od, kV, doc, pm, an, cdv, ct, osl, e, lk, hcd⟩, F.kp⟩
theorem funC_mk {x qual : Str} {st : Stmt} {f : Addr} {oc : Value} {od an : Option Addr} {osl : Array (Option Value)} {kV doc pm cdv ct : Value} (l : K.lookup f = some ⟨oc, od, .func (PySem.W.fnOf x qual (defArgs st) (defBody st) (defScope st) .none kV doc pm an cdv ct), osl⟩)
    (c : PySem.W.codeIn K cdv qual = true) (k : PySem.W.keepIn K (.ref f) = true) : FunC K x qual st f (PySem.W.fnOf x qual (defArgs st) (defBody st) (defScope st) .none kV doc pm an cdv ct) cdv := ⟨⟨oc, od, kV, doc, pm, an, ct, osl, rfl, l, c⟩, k⟩
theorem fn_okC {T : List Addr} {io : List Nat} {g : En → Rt} {x qual : Str} {st : Stmt} {f : Addr} {fd : FuncData} {cdv : Value} {N ps : List Str} {k : Nat} (Fn : FunC K x qual st f fd cdv) (S : FnScope N ps (defScope st))
    (hbody : ∀ (A : Around) (outer : List Env) (s : Shared) (H : Hp) (E : XK), Room k (A.deeper (envOfC qual (defScope st) s.heap.objs.size f cdv)) →
      CSs (fnCx P w K mg base N qual st f cdv A outer s H E) T (WE E) io (defBody st) g) :
    FnOk P w K mg base (L2.CX P w) (k + 1) f fd ps (spM K T mg ps.length (mOf N.length io g)) := by
  have hpl : ps.length ≤ N.length := by have := congrArg List.length S.pre; rw [List.length_take] at this; omega
  obtain ⟨oc, od, kV, doc, pm, an, ct, osl, rfl, lk, hcd⟩ := Fn.ex
  refine fn_of lk hcd S (fun vs H Q E ⟨F, ins, _, h, _⟩ => h) fun A outer s H vs Q E hr ⟨F, ins, G, hl, q⟩ => ⟨_, hbody A outer s H E hr, ?_⟩
  have hvl : vs.length ≤ N.length := by omega
  have el : ins.length = vs.length := by rw [G.len, List.length_map]
  obtain ⟨G0, ow0⟩ := good_start (N := N) G hvl
  refine ⟨F, _, G0, ?_⟩
  unfold mOf at q
  by_cases ok : okIns io 0 ins = true
  case neg => simp only [if_neg ok] at q
  simp only [if_pos ok] at q
  cases e : g (ins ++ List.replicate (N.length - ins.length) .un) with
  | bad => simp only [e] at q
  | brk ρ1 => simp only [e] at q
  | cnt ρ1 => simp only [e] at q
  | nxt ρ1 =>
    simp only [e] at q
    intro F' H' σ' m
    obtain ⟨m2, _⟩ := outs_mv G hvl ok m
    exact q F' H' .non m2 ⟨.non, fun z => by cases z⟩
  | exc c ρ1 =>
    simp only [e] at q
    intro F' H' σ' C hc m
    obtain ⟨m2, _⟩ := outs_mv G hvl ok m
    exact q F' H' C hc m2
  | ret r ρ1 =>
    simp only [e] at q
    intro F' H' σ' v m rp fr
    obtain ⟨m2, ow2⟩ := outs_mv G hvl ok m
    refine q F' H' v m2 ⟨rp, fun ho a ea => ?_⟩
    obtain ⟨h1, h2⟩ := fr ho a ea
    refine ⟨fun z => h1 (ow2 a z), ?_⟩
    rcases h2 with z | z
    · exact .inl z
    · exact .inr (ow0 a z)
end
section
variable {X : Cx} {T : List Addr} {W : WX} {a b c : Expr} {fa fb fc : En → Rs} {o o' : List D → Option Sl} {op op' : CmpOp} {pos : Pos}
theorem ct_cmp (ho : OpR X (compareOp op) (rD X.K o)) (ha : CE X T W a fa) (hb : CE X T W b fb) (hm : behindInMarks op b = false) : CT X T W (.Compare a [op] [b] pos) (sPrim o [fa, fb]) :=
  pt_imp (pt_cmpR ho ha hb hm) fun σ H Q q => prim_two (tst_tE q)
theorem ct_chain (ho : OpR X (compareOp op) (rD X.K o)) (ho' : OpR X (compareOp op') (rD X.K o')) (ha : CE X T W a fa) (hb : CE X T W b fb) (hc : CE X T W c fc) (hm : lastMarks [op, op'] [b, c] = false := by with_unfolding_all rfl) :
    CT X T W (.Compare a [op, op'] [b, c] pos) (sChain o o' fa fb fc) :=
  pt_imp (pt_chain ho ho' ha hb hc hm) fun σ H Q q => chain_read (tst_tE q)
end
def oTupL : List D → Option Sl := fun ds => if ds.length ≤ 1000 then some (.val (.tuple ds)) else none
def oLstL : List D → Option Sl := fun ds => if ds.length ≤ 1000 then some (.lst ds) else none
def sTrue : En → Rs := sC (.bool true)
/-- the names of a generator expression, by computing -/
def gxB (XN N : List Str) (sc scope : Scope) (cs : List Nat) : Bool :=
  decide (scope.kind = .function) && !scope.isCoroutine && scope.names.all (fun y => !decide (y.2 = .cell)) && decide (scope.names.lookup (".0" : Str) = some NameKind.local) &&
    scope.names.all (fun y => !decide (y.2 = .free) || decide (sc.names.lookup y.1 = some .cell) || decide (sc.names.lookup y.1 = some .free)) && decide N.Nodup && decide (cs.length ≤ N.length) &&
    (List.range cs.length).all fun k => match N[k]?, cs[k]? with
      | some x, some i => decide (scope.names.lookup x = some .free) && decide (XN[i]? = some x)
      | _, _ => false
theorem gx_by {XN N : List Str} {sc scope : Scope} {cs : List Nat} (h : gxB XN N sc scope cs = true) : GxOk XN N sc scope cs := by
  unfold gxB at h
  simp only [Bool.and_eq_true, Bool.or_eq_true, Bool.not_eq_true', decide_eq_true_eq, decide_eq_false_iff_not, List.all_eq_true] at h
  obtain ⟨⟨⟨⟨⟨⟨⟨h1, h2⟩, h3⟩, h4⟩, h5⟩, h6⟩, h7⟩, h8⟩ := h
  refine ⟨h1, h2, h3, h4, fun y hy e => ?_, h6, h7, fun k x hk hx => ?_⟩
  · rcases h5 y hy with (z | z) | z
    · exact absurd e z
    · exact .inl z
    · exact .inr z
  · have h9 := h8 k (List.mem_range.mpr hk)
    rw [hx, List.getElem?_eq_getElem hk] at h9
    simp only [Bool.and_eq_true, decide_eq_true_eq] at h9
    exact ⟨h9.1, cs[k], List.getElem?_eq_getElem hk, h9.2⟩
theorem boot_isinstance : bootBuiltins "isinstance" = some (.builtin "isinstance") := by rfl
theorem boot_all' : bootBuiltins "all" = some (.builtin "all") := by rfl
theorem boot_any' : bootBuiltins "any" = some (.builtin "any") := by rfl
theorem boot_len' : bootBuiltins "len" = some (.builtin "len") := by rfl
theorem boot_abs' : bootBuiltins "abs" = some (.builtin "abs") := by rfl
theorem boot_max' : bootBuiltins "max" = some (.builtin "max") := by rfl
theorem boot_min' : bootBuiltins "min" = some (.builtin "min") := by rfl
theorem boot_sum' : bootBuiltins "sum" = some (.builtin "sum") := by rfl
theorem boot_sorted' : bootBuiltins "sorted" = some (.builtin "sorted") := by rfl
theorem boot_int' : bootBuiltins "int" = some (.type "int") := by rfl
theorem boot_bool' : bootBuiltins "bool" = some (.type "bool") := by rfl
theorem boot_str' : bootBuiltins "str" = some (.type "str") := by rfl
theorem boot_list' : bootBuiltins "list" = some (.type "list") := by rfl
theorem boot_tuple' : bootBuiltins "tuple" = some (.type "tuple") := by rfl
theorem boot_dict' : bootBuiltins "dict" = some (.type "dict") := by rfl
end Pu
end PuQ_part
section PuR_part
set_option Elab.async false
set_option linter.all false
set_option maxRecDepth 100000
set_option maxHeartbeats 2000000
/-! The pure layer, part R: the end of a law. -/
namespace Pu
open PySem PySem.Spec PyProof.Rows L2
theorem ints_dq {K : PySem.W.Frag} {F : Hp} : ∀ ns : List Int, DqAll K F (ns.map V.int) (ns.map PyData.int)
  | [] => .nil
  | n :: ns => .cons (.int n) (ints_dq ns)
/-- a law's def whose meaning is True at every script -/
theorem law_at {l : PySem.W.OpenLaw} {w : World} {K : PySem.W.Frag} {k n : Nat} {x : Str} {mg : Str → Option Value} {fa : Addr} {h : Heap} {fd : FuncData} {m : En → Rs} (cs : List (Addr × Addr))
    (hm : ∀ ns : List Int, ns.length ≤ n → (∀ z ∈ ns, Builtin.Int.intBits z ≤ 1048576) → ∃ outs, m [.val (.list (ns.map .int))] = .ok (.val (.bool true)) outs)
    (hT : ∀ p ∈ cs, h.get? p.2 = some { cls := .none, data := .fields #[] }) (nT : ∀ p ∈ cs, K.lookup p.2 = none) (C : ∀ p ∈ cs, PySem.W.CodeHd h p.1 p.2) (hb : ∀ (s : Shared) (u : Value), BindsTo s fd ⟨[u], []⟩ [(x, u)])
    (F : ∀ base : Heap, K.In base → base.Ns mainGlobals mg → (∀ p ∈ cs, LamX.TabB base mg p.1 p.2) → FnOk l.prog w K mg base (L2.CX l.prog w) k fa fd [x] (spM K (cs.map (·.2)) mg 1 m)) : LamX.LawAtS l w K (L2.CX l.prog w) k n x mg fa h := by
  refine ⟨fd, cs, _, hT, nT, C, hb, fun H a ns hl hbits hP hS => ?_, F⟩
  obtain ⟨outs, e⟩ := hm ns hl hbits
  have key : ∃ F : Hp, (∀ b o, F b = some o → H b = some o) ∧ (∀ P ∈ cs.map (·.2), F P = none) ∧ SqL K F a (ns.map V.int) := by
    rcases hS with q | q
    · refine ⟨fun b => if b = a then H a else none, fun b o z => ?_, fun P hp => ?_, .inl ?_⟩
      · by_cases hb : b = a
        · simp only [hb, if_true] at z; rw [hb]; exact z
        · simp only [hb, if_false] at z; cases z
      · obtain ⟨p, hp2, rfl⟩ := List.mem_map.mp hp
        have := hP p hp2
        by_cases hb : p.2 = a
        · rw [hb] at this
          rcases q with q | ⟨o, q⟩ <;> rw [this] at q <;> cases q
        · simp only [hb, if_false]
      · rcases q with q | ⟨o, q⟩
        · exact .inl (by simp only [if_true]; exact q)
        · exact .inr ⟨o, by simp only [if_true]; exact q⟩
    · exact ⟨fun _ => none, fun b o (z : (none : Option HO) = some o) => (nomatch z), fun _ _ => rfl, .inr q⟩
  obtain ⟨F, le, nt, sq⟩ := key
  have dq : Dq K F (.ref a) (.list (ns.map .int)) := .lst sq (ints_dq ns)
  refine ⟨F, [.val (.list (ns.map .int))], ⟨le, fun P hp => ⟨nt P hp, #[], ?_, True.intro⟩, rfl, fun i s z => ?_, fun i j s t c z _ ho => ?_⟩, rfl, ?_⟩
  · obtain ⟨p, hp2, rfl⟩ := List.mem_map.mp hp
    exact hP p hp2
  · cases i with
    | zero => simp at z; subst z; exact .inr ⟨_, rfl, dq⟩
    | succ i => simp at z
  · cases i with
    | zero => simp at z; subst z; cases ho
    | succ i => simp at z
  · rw [e]
    intro F' H' v _ rs
    have := rs.rep
    cases v with
    | bl b => cases this; rfl
    | _ => exact nomatch this
def tabB (K : PySem.W.Frag) (x : Str) : Bool := match PySem.W.tabIn K x with
  | some q => (K.lookup q.2).isNone
  | none => false
theorem tabB_ok {K : PySem.W.Frag} {x : Str} (h : tabB K x = true) : ∃ c P, PySem.W.tabIn K x = some (c, P) ∧ K.lookup P = none := by
  unfold tabB at h
  cases e : PySem.W.tabIn K x with
  | none => rw [e] at h; cases h
  | some q =>
    rw [e] at h
    exact ⟨q.1, q.2, rfl, Option.isNone_iff_eq_none.mp h⟩
theorem tab_code {K : PySem.W.Frag} {x : Str} {f c P : Addr} {oc : Value} {od : Option Addr} {fd : FuncData} {sl : Array (Option Value)} (a : PySem.W.nsIn K mainGlobals x = some (some (.ref f))) (l : K.lookup f = some ⟨oc, od, .func fd, sl⟩) (t : PySem.W.tabIn K x = some (c, P)) : fd.code = .ref c := by
  unfold PySem.W.tabIn at t
  rw [a] at t
  simp only at t
  rw [l] at t
  simp only at t
  split at t
  · rename_i c2 hc
    split at t
    · split at t
      · cases t; exact hc
      · cases t
    · cases t
  · cases t
theorem walk_ofTop {l : PySem.W.OpenLaw} {n k : Nat} {q : Program} {loose : List Str} {XP : (Str → Option Value) → Heap → Prop} {YP : World → Heap → Prop} {d : DefRec} {K : Params → PySem.W.Frag} {x : Str}
    (hn : l.most = some n) (hn2 : n ≤ sizeLine) (hdf : d.params.defaults = []) (hr : Room k callerA) (hY : ∀ (w : World) (h : Heap), YP w h → (K w.params).In h)
    (F : ∀ (w : World) (mg mb : Str → Option Value) (mean : ExcName → Option Value) (fa : Addr) (h : Heap), YP w h → (K w.params).In h → Top q (PySem.W.looseW q loose) mean mg mb h → h.Ns mainGlobals mg → mg d.name = some (.ref fa) → LamX.LawAtS l w (K w.params) (L2.CX l.prog w) k n x mg fa h) :
    PySem.W.WalkO q loose XP YP l.row.toRowW d [] (fun f vs => PySem.call f vs) := by
  refine Att.attach_callB hn hdf fun w s₀ s₁ mg mb fa o pm cd doc a vs ns G Y ho hd hcd hmg hobj hints hlen hbits hg => ?_
  have KX := hY w _ Y
  obtain ⟨fd, cs, sp, hT, nT, C, hb, hsp, hF⟩ := F w mg mb _ fa _ Y KX G.T G.T.g hmg
  refine LamX.law_callTs KX G.T.g G.T.b G.T.builtins G.T.nolimit hg hT nT C G.T.bmain hobj hints (Nat.le_trans hlen hn2) hr hF hb (fun H hH hS => hsp H a ns hlen hbits hH hS) fun H e s' h => ?_
  obtain ⟨_, _, _, _, _, _, _, _, _, _, _, _, z⟩ := h
  exact z
end Pu
end PuR_part
section PuS_part
set_option Elab.async false
set_option linter.all false
set_option maxRecDepth 100000
set_option maxHeartbeats 1000000
/-! The pure layer, part S: loops whose bodies leave the names as they were. -/
namespace Pu
open PySem PySem.Spec PyProof.Rows L2
theorem lc_pure {vs : List Nat} {gt : D → En → Option En} {ft fe : En → Rs} (p : D → Bool) (g : D → D) {ρ0 : En} {n : Nat} :
    ∀ (its : List D) (ρ : En), wipeE ρ vs = ρ0 → ρ.length = n → (∀ d ∈ its, ∃ ρ2, gt d ρ0 = some ρ2 ∧ wipeE ρ2 vs = ρ0 ∧ ρ2.length = n ∧ ft ρ2 = .ok (.val (.bool (p d))) ρ2 ∧ (p d = true → ∃ r, fe ρ2 = .ok r ρ2 ∧ fz r = some (g d))) →
      ∃ ρ', lcLoop vs gt ft fe its ρ = .ok ((its.filter p).map g) ρ' ∧ wipeE ρ' vs = ρ0 ∧ ρ'.length = n
  | [], ρ, h1, h2, _ => ⟨ρ, rfl, h1, h2⟩
  | d :: its, ρ, h1, h2, hb => by
    obtain ⟨ρ2, e1, e2, e3, e4, e5⟩ := hb d List.mem_cons_self
    obtain ⟨ρ', r1, r2, r3⟩ := lc_pure p g its ρ2 e2 e3 fun d hd => hb d (List.mem_cons_of_mem _ hd)
    refine ⟨ρ', ?_, r2, r3⟩
    unfold lcLoop
    rw [h1]
    simp only [e1, e4]
    cases hp : p d with
    | false => simp only [Bool.false_eq_true, if_false, r1, List.filter_cons, hp]
    | true =>
      obtain ⟨r, e6, e7⟩ := e5 hp
      simp only [if_true, e6, e7, r1, List.filter_cons, hp, List.map_cons]
theorem back_same {ρ ρ2 : En} {vs : List Nat} (h : wipeE ρ2 vs = wipeE ρ vs) (hl : ρ2.length = ρ.length) : backE ρ ρ2 vs = ρ := by
  refine List.ext_getElem? fun j => ?_
  by_cases hj : j ∈ vs
  · by_cases hlt : j < ρ2.length
    · rw [backE_in hj hlt, List.getD_eq_getElem?_getD, List.getElem?_eq_getElem (by omega)]; rfl
    · rw [List.getElem?_eq_none (by rw [backE_len]; omega), List.getElem?_eq_none (by omega)]
  · rw [backE_out hj, ← wipeE_out (ρ := ρ2) hj, h, wipeE_out hj]
/-- a list comprehension with a plain body -/
theorem sLc_pure {vs : List Nat} {h : En → Ri} {gt : D → En → Option En} {ft fe : En → Rs} {ρ ρ1 : En} {its : List D} (p : D → Bool) (g : D → D) (eh : h ρ = .ok its ρ1) (hl : its.length ≤ 1000000)
    (hb : ∀ d ∈ its, ∃ ρ2, gt d (wipeE ρ1 vs) = some ρ2 ∧ wipeE ρ2 vs = wipeE ρ1 vs ∧ ρ2.length = ρ1.length ∧ ft ρ2 = .ok (.val (.bool (p d))) ρ2 ∧ (p d = true → ∃ r, fe ρ2 = .ok r ρ2 ∧ fz r = some (g d))) :
    sLc vs h gt ft fe ρ = .ok (.lst ((its.filter p).map g)) ρ1 := by
  obtain ⟨ρ', r1, r2, r3⟩ := lc_pure p g its ρ1 rfl rfl hb
  simp only [sLc, eh, if_pos hl, r1, back_same r2 r3]
theorem aa_pure {stop : Bool} {gt : D → En → Option En} {fe : En → Rs} {ins : En} {m : Nat} (P : D → Bool) :
    ∀ (its : List D) (xs : En), xs.length = m → (∀ d ∈ its, ∀ xs : En, xs.length = m → ∃ xs' : En, xs'.length = m ∧ gt d (ins ++ xs) = some (ins ++ xs') ∧ fe (ins ++ xs') = .ok (.val (.bool (P d))) (ins ++ xs')) →
      ∃ xs' : En, aLoop stop gt fe its (ins ++ xs) = .ok (cond stop (its.any P) (its.all P)) (ins ++ xs')
  | [], xs, h, _ => ⟨xs, by unfold aLoop; cases stop <;> rfl⟩
  | d :: its, xs, h, hb => by
    obtain ⟨xs1, e1, e2, e3⟩ := hb d List.mem_cons_self xs h
    obtain ⟨xs2, r⟩ := aa_pure (stop := stop) P its xs1 e1 fun d hd => hb d (List.mem_cons_of_mem _ hd)
    unfold aLoop
    simp only [e2, e3]
    cases hp : P d with
    | false =>
      cases stop with
      | false => exact ⟨xs1, by simp [hp]⟩
      | true =>
        refine ⟨xs2, ?_⟩
        have r' : aLoop true gt fe its (ins ++ xs1) = .ok (its.any P) (ins ++ xs2) := r
        simp [hp, r']
    | true =>
      cases stop with
      | true => exact ⟨xs1, by simp [hp]⟩
      | false =>
        refine ⟨xs2, ?_⟩
        have r' : aLoop false gt fe its (ins ++ xs1) = .ok (its.all P) (ins ++ xs2) := r
        simp [hp, r']
theorem outs_all : ∀ {i : Nat} {ins pre xs : En} {io : List Nat}, pre.length = i → (∀ j, i ≤ j → j < i + ins.length → j ∈ io) → outsOf io i ins (pre ++ ins ++ xs) = ins
  | _, [], _, _, _, _, _ => rfl
  | i, s :: r, pre, xs, io, h, hio => by
    unfold outsOf
    have h1 : i ∈ io := hio i (Nat.le_refl _) (by simp)
    have h2 := outs_all (i := i + 1) (ins := r) (pre := pre ++ [s]) (xs := xs) (io := io) (by simp [h]) fun j a b => hio j (by omega) (by simp; omega)
    have h3 : (pre ++ s :: r ++ xs).getD i .un = s := by subst h; simp [List.getD_eq_getElem?_getD]
    rw [if_pos (by simpa using h1), h3]
    have e : pre ++ s :: r ++ xs = pre ++ [s] ++ r ++ xs := by simp
    rw [e, h2]
theorem back_ins {ρ : En} : ∀ {cs : List Nat} {ins : En} {us : List Nat}, insOf (cs.map .inr) ρ us = some ins → backC (cs.map .inr) ins ρ = ρ
  | [], ins, _, h => by cases h; rfl
  | i :: cs, ins, us, h => by
    rw [List.map_cons, insOf] at h
    cases e0 : ρ[i]? with
    | none => simp only [e0] at h; cases h
    | some s0 =>
      cases e1 : insOf (cs.map .inr) ρ (i :: us) with
      | none => cases s0 <;> simp only [e0, e1] at h <;> first | cases h | (split at h <;> cases h)
      | some r =>
        have : ins = s0 :: r := by
          cases s0 <;> simp only [e0, e1] at h <;> first | (split at h <;> first | (cases h; rfl) | cases h) | (cases h; rfl) | cases h
        subst this
        rw [List.map_cons, backC]
        have e2 : ρ.set i s0 = ρ := by
          refine List.ext_getElem? fun j => ?_
          by_cases hj : i = j
          · subst hj
            rw [List.getElem?_set_self (List.getElem?_eq_some_iff.mp e0).1, e0]
          · rw [List.getElem?_set_ne hj]
        rw [e2]
        exact back_ins e1
/-- all, any of a generator expression with a plain body -/
theorem sAA_pure {stop : Bool} {h : En → Ri} {n : Nat} {cs : List Nat} {gt : D → En → Option En} {fe : En → Rs} {ρ ρ1 ins : En} {its : List D} (P : D → Bool) (eh : h ρ = .ok its ρ1) (ei : insOf (cs.map .inr) ρ1 [] = some ins)
    (hb : ∀ d ∈ its, ∀ xs : En, xs.length = n - ins.length → ∃ xs' : En, xs'.length = n - ins.length ∧ gt d (ins ++ xs) = some (ins ++ xs') ∧ fe (ins ++ xs') = .ok (.val (.bool (P d))) (ins ++ xs')) :
    sAA stop h n cs gt fe ρ = .ok (.val (.bool (cond stop (its.any P) (its.all P)))) ρ1 := by
  obtain ⟨xs', r⟩ := aa_pure (stop := stop) (ins := ins) P its (List.replicate (n - ins.length) .un) (by simp) hb
  have hl : ins.length = cs.length := by have := (ins_spec ei).1; simpa using this
  have h1 : outsOf (List.range cs.length) 0 ins (ins ++ xs') = ins := outs_all (pre := []) rfl fun j _ h => List.mem_range.mpr (by omega)
  simp only [sAA, eh, ei, r, h1, back_ins ei]
/-- a for loop: an invariant of the names -/
theorem for_inv {gt : D → En → Option En} {g : En → Rt} (J : List D → En → Prop) :
    ∀ (its : List D) (ρ : En), J its ρ → (∀ d r ρ, J (d :: r) ρ → ∃ ρ1 ρ2, gt d ρ = some ρ1 ∧ g ρ1 = .nxt ρ2 ∧ J r ρ2) → ∃ ρ', forLoop gt g its ρ = .nxt ρ' ∧ J [] ρ'
  | [], ρ, h, _ => ⟨ρ, rfl, h⟩
  | d :: r, ρ, h, hb => by
    obtain ⟨ρ1, ρ2, e1, e2, h2⟩ := hb d r ρ h
    obtain ⟨ρ', e3, h3⟩ := for_inv J r ρ2 h2 hb
    refine ⟨ρ', ?_, h3⟩
    unfold forLoop
    simp only [e1, e2, e3]
end Pu
end PuS_part
section G57_part
set_option Elab.async false
set_option linter.all false
set_option maxRecDepth 100000
set_option maxHeartbeats 4000000
/-! The text of the law: its meaning, printed by gen.py. -/
namespace Pu
open PySem PySem.Spec PyProof.Rows L2

def topS (i : Nat) : Stmt := PySem.Challenge.pw_happenedfirst_k57_vectors.main.body.getD i (.Pass ⟨0, 0, 0, 0⟩)
abbrev s__law_open : Stmt := topS 14
abbrev s__law_mixed : Stmt := topS 15
abbrev s__law_draw : Stmt := topS 16
abbrev s__law_vector : Stmt := topS 19
abbrev s__law_number : Stmt := topS 20
abbrev s__law_join : Stmt := topS 21
abbrev s_is_name : Stmt := topS 2
abbrev s_is_names : Stmt := topS 3
abbrev s_is_number : Stmt := topS 1
abbrev s_is_vector : Stmt := topS 7
abbrev s__law_wrong : Stmt := topS 23
abbrev s_join : Stmt := topS 10
abbrev s_number_of : Stmt := topS 8
abbrev s_at_most : Stmt := topS 9
abbrev s_raised : Stmt := topS 12
abbrev s__law_int : Stmt := topS 17
abbrev s__law_at_most : Stmt := topS 22
abbrev s__law_same : Stmt := topS 18
abbrev s_compare : Stmt := topS 11
abbrev s_law : Stmt := topS 24
def g__law_open : En → Rt := (sSeq (sAsg 1 (sLc [2] (hSeq (sSl (sVar 0) .no (.at (sC (.int 63))))) (gN 2) sTrue (sPrim oAbs [(sPrim oInt [(sVar 2)])])))
  (sRet (sPrim oLstL [(sC (.int 0)), (sC (.int 0)), (sPrim oAdd [(sVar 1), (sPrim oLstL [(sC (.int 0))])])])))
def m__law_open : En → Rs := mOf 3 [] g__law_open
def g__law_mixed : En → Rt := (sSeq (sAsg 2 (sPrim oMod [(sPrim oAdd [(sPrim oAdd [(sPrim oMul [(sPrim oMod [(sVar 0), (sPrim oSub [(sPrim oPow [(sC (.int 2)), (sC (.int 61))]), (sC (.int 1))])]), (sC (.int 6364136223846793005))]), (sPrim oMul [(sVar 1), (sC (.int 1442695040888963407))])]), (sC (.int 97))]), (sPrim oPow [(sC (.int 2)), (sC (.int 61))])]))
  (sSeq (sAsg 2 (sPrim oMod [(sPrim oMul [(sPrim oXor [(sVar 2), (sPrim oShr [(sVar 2), (sC (.int 29))])]), (sC (.int 3935559000370003845))]), (sPrim oPow [(sC (.int 2)), (sC (.int 61))])]))
  (sRet (sPrim oMod [(sPrim oMul [(sPrim oXor [(sVar 2), (sPrim oShr [(sVar 2), (sC (.int 31))])]), (sC (.int 2862933555777941757))]), (sPrim oPow [(sC (.int 2)), (sC (.int 61))])]))))
def m__law_mixed : En → Rs := mOf 3 [] g__law_mixed
def g__law_draw : En → Rt := (sSeq (sUnp (gCons (gN 2) (gCons (gN 3) (gCons (gN 4) gNil))) 3 0)
  (sSeq (sIf (sPrim oLt [(sVar 3), (sVar 1)]) (sSeq (sAsg 5 (sPrim oIx [(sVar 4), (sPrim oMod [(sVar 2), (sPrim oLen [(sVar 4)])])]))
  (sSeq (sAsg 3 (sIfE (sAnd (sPrim oLt [(sVar 2), (sPrim oLen [(sVar 4)])]) (sPrim oGe [(sVar 5), (sPrim oPow [(sC (.int 10)), (sC (.int 18))])])) (sVar 5) (sCall m__law_mixed [.ex (sVar 5), .ex (sVar 2)])))
  (sAsg 2 (sPrim oAdd [(sVar 2), (sC (.int 1))])))) sNil)
  (sSeq (sLput 0 (sVar 2) (sC (.int 0)))
  (sSeq (sLput 0 (sPrim oFdiv [(sVar 3), (sVar 1)]) (sC (.int 1)))
  (sRet (sPrim oMod [(sVar 3), (sVar 1)]))))))
def m__law_draw : En → Rs := mOf 6 [0] g__law_draw
def g__law_vector : En → Rt := (sSeq (sAsg 2 (sPrim oLstL [(sC (.str "a")), (sC (.str "bob")), (sC (.str "c")), (sC (.str "d")), (sC (.str "e")), (sC (.str "f")), (sC (.str "g")), (sC (.str "h"))]))
  (sSeq (sAsg 3 (sPrim oIx [(sPrim oLstL [(sC (.int 2)), (sC (.int 4)), (sPrim oPow [(sC (.int 10)), (sC (.int 9))])]), (sCall m__law_draw [.nm 0, .ex (sC (.int 3))])]))
  (sRet (sPrim oTuple [(sLc [4] (hSeq (sSl (sVar 2) .no (.at (sVar 1)))) (gN 4) (sPrim oGt [(sCall m__law_draw [.nm 0, .ex (sC (.int 3))]), (sC (.int 0))]) (sPrim oTupL [(sVar 4), (sPrim oAdd [(sC (.int 1)), (sCall m__law_draw [.nm 0, .ex (sVar 3)])])]))]))))
def m__law_vector : En → Rs := mOf 5 [0] g__law_vector
def g__law_number : En → Rt := (sRet (sPrim oSum [(sLc [2, 3] (hSeq (sVar 0)) (gT 2 (gCons (gN 2) (gCons (gN 3) gNil))) (sPrim oEq [(sVar 2), (sVar 1)]) (sVar 3))]))
def m__law_number : En → Rs := mOf 4 [] g__law_number
def g__law_join : En → Rt := (sSeq (sAsg 2 (sPrim oSorted [(sPrim oAdd [(sLc [3, 4] (hSeq (sVar 0)) (gT 2 (gCons (gN 3) (gCons (gN 4) gNil))) sTrue (sVar 3)), (sLc [3, 4] (hSeq (sVar 1)) (gT 2 (gCons (gN 3) (gCons (gN 4) gNil))) (sPrim oEq [(sCall m__law_number [.ex (sVar 0), .ex (sVar 3)]), (sC (.int 0))]) (sVar 3))])]))
  (sRet (sPrim oTuple [(sLc [3] (hSeq (sVar 2)) (gN 3) sTrue (sPrim oTupL [(sVar 3), (sPrim oMax2 [(sCall m__law_number [.ex (sVar 0), .ex (sVar 3)]), (sCall m__law_number [.ex (sVar 1), .ex (sVar 3)])])]))])))
def m__law_join : En → Rs := mOf 5 [] g__law_join
def g_is_name : En → Rt := (sRet (sAnd (sPrim (oIsi "str") [(sVar 0)]) (sAnd (sChain oLe oLe (sC (.int 1)) (sPrim oLen [(sVar 0)]) (sC (.int 16))) (sAA false (hSeq (sVar 0)) 1 [] (gN 0) (sChain oLe oLe (sC (.str "a")) (sVar 0) (sC (.str "z")))))))
def m_is_name : En → Rs := mOf 1 [] g_is_name
def g_is_names : En → Rt := (sSeq (sIf (sOr (sNot (sPrim (oIsi "tuple") [(sVar 0)])) (sNot (sChain oLe oLe (sVar 1) (sPrim oLen [(sVar 0)]) (sVar 2)))) (sRet (sC (.bool false))) sNil)
  (sSeq (sIf (sNot (sAA false (hSeq (sVar 0)) 1 [] (gN 0) (sCall m_is_name [.ex (sVar 0)]))) (sRet (sC (.bool false))) sNil)
  (sRet (sAA false (hRng [(sPrim oSub [(sPrim oLen [(sVar 0)]), (sC (.int 1))])]) 2 [0] (gN 1) (sPrim oLt [(sPrim oIx [(sVar 0), (sVar 1)]), (sPrim oIx [(sVar 0), (sPrim oAdd [(sVar 1), (sC (.int 1))])])])))))
def m_is_names : En → Rs := mOf 3 [] g_is_names
def g_is_number : En → Rt := (sRet (sAnd (sPrim (oIsi "int") [(sVar 0)]) (sAnd (sNot (sPrim (oIsi "bool") [(sVar 0)])) (sChain oLe oLe (sVar 1) (sVar 0) (sVar 2)))))
def m_is_number : En → Rs := mOf 3 [] g_is_number
def g_is_vector : En → Rt := (sSeq (sIf (sOr (sNot (sPrim (oIsi "tuple") [(sVar 0)])) (sNot (sAA false (hSeq (sVar 0)) 1 [] (gN 0) (sAnd (sPrim (oIsi "tuple") [(sVar 0)]) (sPrim oEq [(sPrim oLen [(sVar 0)]), (sC (.int 2))]))))) (sRet (sC (.bool false))) sNil)
  (sSeq (sIf (sNot (sCall m_is_names [.ex (sPrim oTuple [(sLc [1] (hSeq (sVar 0)) (gN 1) sTrue (sPrim oIx [(sVar 1), (sC (.int 0))]))]), .ex (sC (.int 0)), .ex (sC (.int 8))])) (sRet (sC (.bool false))) sNil)
  (sRet (sAA false (hSeq (sVar 0)) 1 [] (gN 0) (sCall m_is_number [.ex (sPrim oIx [(sVar 0), (sC (.int 1))]), .ex (sC (.int 1)), .ex (sC (.int 1000000000))])))))
def m_is_vector : En → Rs := mOf 2 [] g_is_vector
def g__law_wrong : En → Rt := (sSeq (sAsg 1 (sPrim oLstL [(sC .none), (sPrim oList [(sVar 0)]), (sPrim oTupL [(sC .none)]), (sPrim oTupL [(sPrim oTupL [(sC (.str "a"))])]), (sPrim oTupL [(sPrim oTupL [(sC (.str "a")), (sC (.int 0))])]), (sPrim oTupL [(sPrim oTupL [(sC (.str "a")), (sPrim oAdd [(sPrim oPow [(sC (.int 10)), (sC (.int 9))]), (sC (.int 1))])])]), (sPrim oTupL [(sPrim oTupL [(sC (.str "a")), (sC (.bool true))])]), (sPrim oTupL [(sPrim oTupL [(sC (.str "a")), (sC .none)])]), (sPrim oTupL [(sPrim oTupL [(sC (.str "a")), (sC (.int 1)), (sC (.int 1))])]), (sPrim oTupL [(sPrim oLstL [(sC (.str "a")), (sC (.int 1))])]), (sPrim oTupL [(sPrim oTupL [(sC (.str "A")), (sC (.int 1))])]), (sPrim oTupL [(sPrim oTupL [(sC (.str "")), (sC (.int 1))])]), (sPrim oTupL [(sPrim oTupL [(sC (.str "b")), (sC (.int 1))]), (sPrim oTupL [(sC (.str "a")), (sC (.int 1))])]), (sPrim oTupL [(sPrim oTupL [(sC (.str "a")), (sC (.int 1))]), (sPrim oTupL [(sC (.str "a")), (sC (.int 2))])]), (sPrim oTupL [(sPrim oTupL [(sC (.str "a")), (sC (.int 1))]), (sPrim oTupL [(sC (.str "a")), (sC (.int 1))])]), (sPrim oTuple [(sLc [3] (hSeq (sC (.str "abcdefghi"))) (gN 3) sTrue (sPrim oTupL [(sPrim oAdd [(sC (.str "n")), (sVar 3)]), (sC (.int 1))]))]), (sPrim oTupL [(sC (.str "a")), (sC (.int 1))]), (sC (.int 5)), (sC (.str "a"))]))
  (sSeq (sAsg 2 (sPrim oTuple [(sLc [3] (hSeq (sC (.str "abcdefgh"))) (gN 3) sTrue (sPrim oTupL [(sPrim oAdd [(sC (.str "n")), (sVar 3)]), (sPrim oPow [(sC (.int 10)), (sC (.int 9))])]))]))
  (sRet (sAnd (sPrim oIs [(sCall m_is_vector [.ex (sVar 0)]), (sC (.bool true))]) (sAnd (sPrim oIs [(sCall m_is_vector [.ex (sPrim oTupL [])]), (sC (.bool true))]) (sAnd (sPrim oIs [(sCall m_is_vector [.ex (sVar 2)]), (sC (.bool true))]) (sPrim oEq [(sLc [4] (hSeq (sVar 1)) (gN 4) (sPrim oIsN [(sCall m_is_vector [.ex (sVar 4)]), (sC (.bool false))]) (sVar 4)), (sPrim oLstL [])])))))))
def m__law_wrong : En → Rs := mOf 5 [] g__law_wrong
def g_join : En → Rt := (sSeq (sAsg 2 (sPrim oDict [(sVar 1)]))
  (sSeq (sFor (hSeq (sVar 0)) (gT 2 (gCons (gN 3) (gCons (gN 4) gNil))) (sDput 2 (sPrim oMax2 [(sVar 4), (sGet2 (.nm 2) (sVar 3) (sC (.int 0)))]) (sVar 3)))
  (sRet (sPrim oTuple [(sSortIt (.nm 2))]))))
def m_join : En → Rs := mOf 5 [] g_join
def g_number_of : En → Rt := (sRet (sGet2 (.ex (sPrim oDict [(sVar 0)])) (sVar 1) (sC (.int 0))))
def m_number_of : En → Rs := mOf 2 [] g_number_of
def g_at_most : En → Rt := (sRet (sAA false (hSeq (sVar 0)) 3 [1] (gT 2 (gCons (gN 1) (gCons (gN 2) gNil))) (sPrim oLe [(sVar 2), (sCall m_number_of [.ex (sVar 0), .ex (sVar 1)])])))
def m_at_most : En → Rs := mOf 2 [] g_at_most
def g_raised : En → Rt := (sSeq (sAsg 3 (sPrim oDict [(sVar 0)]))
  (sSeq (sDput 3 (sPrim oAdd [(sGet2 (.nm 3) (sVar 1) (sC (.int 0))), (sVar 2)]) (sVar 1))
  (sRet (sPrim oTuple [(sSortIt (.nm 3))]))))
def m_raised : En → Rs := mOf 4 [] g_raised
def g__law_int : En → Rt := (sRet (sAnd (sPrim (oIsi "int") [(sVar 0)]) (sNot (sPrim (oIsi "bool") [(sVar 0)]))))
def m__law_int : En → Rs := mOf 1 [] g__law_int
def g__law_at_most : En → Rt := (sRet (sPrim oEq [(sLc [2, 3] (hSeq (sVar 0)) (gT 2 (gCons (gN 2) (gCons (gN 3) gNil))) (sPrim oGt [(sVar 3), (sCall m__law_number [.ex (sVar 1), .ex (sVar 2)])]) (sVar 2)), (sPrim oLstL [])]))
def m__law_at_most : En → Rs := mOf 4 [] g__law_at_most
def g__law_same : En → Rt := (sRet (sIfE (sVar 1) (sPrim oIs [(sVar 0), (sC (.bool true))]) (sPrim oIs [(sVar 0), (sC (.bool false))])))
def m__law_same : En → Rs := mOf 2 [] g__law_same
def g_compare : En → Rt := (sSeq (sIf (sCall m_at_most [.ex (sVar 0), .ex (sVar 1)]) (sRet (sIfE (sPrim oEq [(sVar 0), (sVar 1)]) (sC (.str "same")) (sC (.str "older")))) sNil)
  (sRet (sIfE (sCall m_at_most [.ex (sVar 1), .ex (sVar 0)]) (sC (.str "newer")) (sC (.str "beside")))))
def m_compare : En → Rs := mOf 2 [] g_compare
def g_law : En → Rt := (sSeq (sAsg 1 (sCall m__law_open [.ex (sVar 0)]))
  (sSeq (sAsg 2 (sCall m__law_vector [.nm 1, .ex (sC (.int 8))]))
  (sSeq (sAsg 3 (sPrim oIx [(sPrim oLstL [(sCall m__law_vector [.nm 1, .ex (sC (.int 8))]), (sVar 2), (sCall m__law_join [.ex (sVar 2), .ex (sCall m__law_vector [.nm 1, .ex (sC (.int 3))])]), (sPrim oTupL [])]), (sCall m__law_draw [.nm 1, .ex (sC (.int 4))])]))
  (sSeq (sAsg 4 (sCall m__law_vector [.nm 1, .ex (sC (.int 5))]))
  (sSeq (sIf (sNot (sCall m__law_wrong [.ex (sVar 2)])) (sRet (sC (.bool false))) sNil)
  (sSeq (sFor (hSeq (sPrim oLstL [(sPrim oTupL [(sVar 2), (sVar 3)]), (sPrim oTupL [(sVar 3), (sVar 2)]), (sPrim oTupL [(sVar 2), (sVar 2)]), (sPrim oTupL [(sVar 4), (sVar 2)])])) (gT 2 (gCons (gN 5) (gCons (gN 6) gNil))) (sSeq (sAsg 10 (sCall m_join [.ex (sVar 5), .ex (sVar 6)]))
  (sSeq (sAsg 11 (sCall m__law_join [.ex (sVar 5), .ex (sVar 6)]))
  (sSeq (sIf (sOr (sPrim oIsN [(sCall m_is_vector [.ex (sVar 10)]), (sC (.bool true))]) (sOr (sPrim oNe [(sVar 10), (sVar 11)]) (sNot (sCall m__law_same [.ex (sCall m_at_most [.ex (sVar 5), .ex (sVar 6)]), .ex (sCall m__law_at_most [.ex (sVar 5), .ex (sVar 6)])])))) (sRet (sC (.bool false))) sNil)
  (sSeq (sAsg 12 (sC (.str "beside")))
  (sSeq (sIf (sPrim oEq [(sVar 5), (sVar 6)]) (sAsg 12 (sC (.str "same"))) (sIf (sCall m__law_at_most [.ex (sVar 5), .ex (sVar 6)]) (sAsg 12 (sC (.str "older"))) (sIf (sCall m__law_at_most [.ex (sVar 6), .ex (sVar 5)]) (sAsg 12 (sC (.str "newer"))) sNil)))
  (sIf (sOr (sPrim oNe [(sCall m_compare [.ex (sVar 5), .ex (sVar 6)]), (sVar 12)]) (sOr (sPrim oIsN [(sCall m_at_most [.ex (sVar 5), .ex (sVar 10)]), (sC (.bool true))]) (sOr (sPrim oIsN [(sCall m_at_most [.ex (sVar 6), .ex (sVar 10)]), (sC (.bool true))]) (sPrim oNe [(sCall m_join [.ex (sVar 10), .ex (sVar 6)]), (sVar 10)])))) (sRet (sC (.bool false))) sNil)))))))
  (sSeq (sIf (sOr (sPrim oNe [(sCall m_join [.ex (sCall m_join [.ex (sVar 2), .ex (sVar 3)]), .ex (sVar 4)]), (sCall m_join [.ex (sVar 2), .ex (sCall m_join [.ex (sVar 3), .ex (sVar 4)])])]) (sPrim oNe [(sCall m_join [.ex (sVar 2), .ex (sVar 3)]), (sCall m_join [.ex (sVar 3), .ex (sVar 2)])])) (sRet (sC (.bool false))) sNil)
  (sSeq (sAsg 7 (sCall m__law_join [.ex (sCall m__law_join [.ex (sVar 2), .ex (sVar 3)]), .ex (sVar 4)]))
  (sSeq (sIf (sPrim oIsN [(sCall m_at_most [.ex (sCall m_join [.ex (sVar 2), .ex (sVar 3)]), .ex (sVar 7)]), (sC (.bool true))]) (sRet (sC (.bool false))) sNil)
  (sSeq (sAsg 8 (sPrim oIx [(sPrim oLstL [(sC (.str "a")), (sC (.str "c")), (sC (.str "h")), (sC (.str "zed"))]), (sCall m__law_draw [.nm 1, .ex (sC (.int 4))])]))
  (sSeq (sAsg 9 (sPrim oAdd [(sC (.int 1)), (sCall m__law_draw [.nm 1, .ex (sC (.int 9))])]))
  (sSeq (sIf (sAnd (sPrim oLt [(sCall m__law_number [.ex (sVar 2), .ex (sVar 8)]), (sPrim oSub [(sPrim oPow [(sC (.int 10)), (sC (.int 9))]), (sC (.int 10))])]) (sPrim oLt [(sPrim oLen [(sVar 2)]), (sC (.int 8))])) (sSeq (sAsg 10 (sCall m_raised [.ex (sVar 2), .ex (sVar 8), .ex (sVar 9)]))
  (sSeq (sAsg 11 (sPrim oTuple [(sPrim oSorted [(sPrim oAdd [(sLc [13] (hSeq (sVar 2)) (gN 13) (sPrim oNe [(sPrim oIx [(sVar 13), (sC (.int 0))]), (sVar 8)]) (sVar 13)), (sPrim oLstL [(sPrim oTupL [(sVar 8), (sPrim oAdd [(sCall m__law_number [.ex (sVar 2), .ex (sVar 8)]), (sVar 9)])])])])])]))
  (sIf (sOr (sPrim oNe [(sVar 10), (sVar 11)]) (sOr (sPrim oIsN [(sCall m_is_vector [.ex (sVar 10)]), (sC (.bool true))]) (sPrim oNe [(sCall m_number_of [.ex (sVar 10), .ex (sVar 8)]), (sPrim oAdd [(sCall m__law_number [.ex (sVar 2), .ex (sVar 8)]), (sVar 9)])]))) (sRet (sC (.bool false))) sNil))) sNil)
  (sRet (sAnd (sCall m__law_int [.ex (sCall m_number_of [.ex (sVar 2), .ex (sVar 8)])]) (sPrim oEq [(sCall m_number_of [.ex (sVar 2), .ex (sVar 8)]), (sCall m__law_number [.ex (sVar 2), .ex (sVar 8)])])))))))))))))))
def m_law : En → Rs := mOf 14 [] g_law
/-- what the top has written -/
structure Tops (P : Program) (w : World) (K : PySem.W.Frag) (mg : Str → Option Value) (base : Heap) (T : List Addr) where
  a__law_open : Addr
  d__law_open : FuncData
  c__law_open : Value
  F__law_open : FunC K "_law_open" "_law_open" s__law_open a__law_open d__law_open c__law_open
  g__law_open : mg "_law_open" = some (.ref a__law_open)
  b__law_open : Binds K d__law_open ["script"] []
  a__law_mixed : Addr
  d__law_mixed : FuncData
  c__law_mixed : Value
  F__law_mixed : FunC K "_law_mixed" "_law_mixed" s__law_mixed a__law_mixed d__law_mixed c__law_mixed
  g__law_mixed : mg "_law_mixed" = some (.ref a__law_mixed)
  b__law_mixed : Binds K d__law_mixed ["cell", "turn"] []
  a__law_draw : Addr
  d__law_draw : FuncData
  c__law_draw : Value
  F__law_draw : FunC K "_law_draw" "_law_draw" s__law_draw a__law_draw d__law_draw c__law_draw
  g__law_draw : mg "_law_draw" = some (.ref a__law_draw)
  b__law_draw : Binds K d__law_draw ["draws", "size"] []
  a__law_vector : Addr
  d__law_vector : FuncData
  c__law_vector : Value
  F__law_vector : FunC K "_law_vector" "_law_vector" s__law_vector a__law_vector d__law_vector c__law_vector
  g__law_vector : mg "_law_vector" = some (.ref a__law_vector)
  b__law_vector : Binds K d__law_vector ["draws", "most"] []
  a__law_number : Addr
  d__law_number : FuncData
  c__law_number : Value
  F__law_number : FunC K "_law_number" "_law_number" s__law_number a__law_number d__law_number c__law_number
  g__law_number : mg "_law_number" = some (.ref a__law_number)
  b__law_number : Binds K d__law_number ["vector", "node"] []
  a__law_join : Addr
  d__law_join : FuncData
  c__law_join : Value
  F__law_join : FunC K "_law_join" "_law_join" s__law_join a__law_join d__law_join c__law_join
  g__law_join : mg "_law_join" = some (.ref a__law_join)
  b__law_join : Binds K d__law_join ["one", "other"] []
  a_is_name : Addr
  d_is_name : FuncData
  c_is_name : Value
  o_is_name : Addr
  p_is_name : Addr
  e_is_name : c_is_name = .ref o_is_name
  B_is_name : LamX.TabB base mg o_is_name p_is_name
  T_is_name : p_is_name ∈ T
  F_is_name : FunC K "is_name" "is_name" s_is_name a_is_name d_is_name c_is_name
  g_is_name : mg "is_name" = some (.ref a_is_name)
  b_is_name : Binds K d_is_name ["value"] []
  a_is_names : Addr
  d_is_names : FuncData
  c_is_names : Value
  o_is_names : Addr
  p_is_names : Addr
  e_is_names : c_is_names = .ref o_is_names
  B_is_names : LamX.TabB base mg o_is_names p_is_names
  T_is_names : p_is_names ∈ T
  F_is_names : FunC K "is_names" "is_names" s_is_names a_is_names d_is_names c_is_names
  g_is_names : mg "is_names" = some (.ref a_is_names)
  b_is_names : Binds K d_is_names ["value", "least", "most"] []
  a_is_number : Addr
  d_is_number : FuncData
  c_is_number : Value
  F_is_number : FunC K "is_number" "is_number" s_is_number a_is_number d_is_number c_is_number
  g_is_number : mg "is_number" = some (.ref a_is_number)
  b_is_number : Binds K d_is_number ["value", "least", "most"] []
  a_is_vector : Addr
  d_is_vector : FuncData
  c_is_vector : Value
  o_is_vector : Addr
  p_is_vector : Addr
  e_is_vector : c_is_vector = .ref o_is_vector
  B_is_vector : LamX.TabB base mg o_is_vector p_is_vector
  T_is_vector : p_is_vector ∈ T
  F_is_vector : FunC K "is_vector" "is_vector" s_is_vector a_is_vector d_is_vector c_is_vector
  g_is_vector : mg "is_vector" = some (.ref a_is_vector)
  b_is_vector : Binds K d_is_vector ["value"] []
  a__law_wrong : Addr
  d__law_wrong : FuncData
  c__law_wrong : Value
  F__law_wrong : FunC K "_law_wrong" "_law_wrong" s__law_wrong a__law_wrong d__law_wrong c__law_wrong
  g__law_wrong : mg "_law_wrong" = some (.ref a__law_wrong)
  b__law_wrong : Binds K d__law_wrong ["vector"] []
  a_join : Addr
  d_join : FuncData
  c_join : Value
  F_join : FunC K "join" "join" s_join a_join d_join c_join
  g_join : mg "join" = some (.ref a_join)
  b_join : Binds K d_join ["one", "other"] []
  a_number_of : Addr
  d_number_of : FuncData
  c_number_of : Value
  F_number_of : FunC K "number_of" "number_of" s_number_of a_number_of d_number_of c_number_of
  g_number_of : mg "number_of" = some (.ref a_number_of)
  b_number_of : Binds K d_number_of ["vector", "node"] []
  a_at_most : Addr
  d_at_most : FuncData
  c_at_most : Value
  o_at_most : Addr
  p_at_most : Addr
  e_at_most : c_at_most = .ref o_at_most
  B_at_most : LamX.TabB base mg o_at_most p_at_most
  T_at_most : p_at_most ∈ T
  F_at_most : FunC K "at_most" "at_most" s_at_most a_at_most d_at_most c_at_most
  g_at_most : mg "at_most" = some (.ref a_at_most)
  b_at_most : Binds K d_at_most ["one", "other"] []
  a_raised : Addr
  d_raised : FuncData
  c_raised : Value
  F_raised : FunC K "raised" "raised" s_raised a_raised d_raised c_raised
  g_raised : mg "raised" = some (.ref a_raised)
  b_raised : Binds K d_raised ["vector", "node", "number"] []
  a__law_int : Addr
  d__law_int : FuncData
  c__law_int : Value
  F__law_int : FunC K "_law_int" "_law_int" s__law_int a__law_int d__law_int c__law_int
  g__law_int : mg "_law_int" = some (.ref a__law_int)
  b__law_int : Binds K d__law_int ["value"] []
  a__law_at_most : Addr
  d__law_at_most : FuncData
  c__law_at_most : Value
  F__law_at_most : FunC K "_law_at_most" "_law_at_most" s__law_at_most a__law_at_most d__law_at_most c__law_at_most
  g__law_at_most : mg "_law_at_most" = some (.ref a__law_at_most)
  b__law_at_most : Binds K d__law_at_most ["one", "other"] []
  a__law_same : Addr
  d__law_same : FuncData
  c__law_same : Value
  F__law_same : FunC K "_law_same" "_law_same" s__law_same a__law_same d__law_same c__law_same
  g__law_same : mg "_law_same" = some (.ref a__law_same)
  b__law_same : Binds K d__law_same ["told", "due"] []
  a_compare : Addr
  d_compare : FuncData
  c_compare : Value
  F_compare : FunC K "compare" "compare" s_compare a_compare d_compare c_compare
  g_compare : mg "compare" = some (.ref a_compare)
  b_compare : Binds K d_compare ["one", "other"] []
  a_law : Addr
  d_law : FuncData
  c_law : Value
  F_law : FunC K "law" "law" s_law a_law d_law c_law
  g_law : mg "law" = some (.ref a_law)
  b_law : Binds K d_law ["script"] []
  n_abs : mg "abs" = none
  n_all : mg "all" = none
  n_bool : mg "bool" = none
  n_dict : mg "dict" = none
  n_int : mg "int" = none
  n_isinstance : mg "isinstance" = none
  n_len : mg "len" = none
  n_list : mg "list" = none
  n_max : mg "max" = none
  n_range : mg "range" = none
  n_sorted : mg "sorted" = none
  n_str : mg "str" = none
  n_sum : mg "sum" = none
  n_tuple : mg "tuple" = none
  k_MOST_NODES : Tok
  m_MOST_NODES : mg "MOST_NODES" = some (.int 8 k_MOST_NODES)
  k_MOST_NUMBER : Tok
  m_MOST_NUMBER : mg "MOST_NUMBER" = some (.int 1000000000 k_MOST_NUMBER)
section
variable {P : Program} {w : World} {K : PySem.W.Frag} {mg : Str → Option Value} {base : Heap} {T : List Addr}
theorem sc__law_open : FnScope ["script", "cells", "cell"] ["script"] (defScope s__law_open) := ⟨rfl, rfl, rfl, by decide +kernel, rfl, by decide +kernel, by decide +kernel⟩
theorem ok__law_open (t : Tops P w K mg base T) : FnOk P w K mg base (L2.CX P w) 1 t.a__law_open t.d__law_open ["script"] (spM K T mg 1 m__law_open) := by
  refine fn_okC (io := []) t.F__law_open sc__law_open fun A outer s H E hr => ?_
  have ec := ec_fn (P := P) (w := w) (K := K) (mg := mg) (base := base) (A := A) (outer := outer) (s := s) (H := H) (E := E) (cdv := t.c__law_open) sc__law_open hr
  have po := po_fn (P := P) (w := w) (K := K) (mg := mg) (base := base) (N := ["script", "cells", "cell"]) (qual := "_law_open") (st := s__law_open) (f := t.a__law_open) (A := A) (outer := outer) (s := s) (H := H) (E := E) (cdv := t.c__law_open)
  exact (cs_seq (cs_asgLc (i := 1) ec.hc ec.hN rfl rfl (by decide) (sw_true rfl rfl rfl rfl) (ci_seq (ce_sl (ce_var (pv 0)) cp_no (cp_at (W := WE E) ce_int))) (own := [("cell", 2)]) (blkOk_by (by show blkC ["script", "cells", "cell"] (defScope s__law_open) _ [("cell", 2)] = true; decide +kernel)) (fun s1 H1 C1 cl1 fp1 => (cg_name (ec.blk s1 H1 _ _ fp1).hN (i := 2) rfl (by first | exact .inl rfl | exact .inr rfl))) (fun s1 H1 C1 cl1 fp1 => cts_nil) (fun s1 H1 C1 cl1 fp1 => (ce_blt p_abs (by rfl) t.n_abs boot_abs' (ca_cons (ce_bty p_int (by rfl) t.n_int boot_int' (ca_cons (ce_var (pv 2)) ca_nil)) ca_nil))) (by decide))
      (cs_one (cs_ret (ce_lst (ca_cons ce_int (ca_cons ce_int (ca_cons (ce_op p_add (ce_var (pv 1)) (ce_lst (ca_cons ce_int ca_nil))) ca_nil)))))))
theorem sc__law_mixed : FnScope ["cell", "turn", "number"] ["cell", "turn"] (defScope s__law_mixed) := ⟨rfl, rfl, rfl, by decide +kernel, rfl, by decide +kernel, by decide +kernel⟩
theorem ok__law_mixed (t : Tops P w K mg base T) : FnOk P w K mg base (L2.CX P w) 1 t.a__law_mixed t.d__law_mixed ["cell", "turn"] (spM K T mg 2 m__law_mixed) := by
  refine fn_okC (io := []) t.F__law_mixed sc__law_mixed fun A outer s H E hr => ?_
  have ec := ec_fn (P := P) (w := w) (K := K) (mg := mg) (base := base) (A := A) (outer := outer) (s := s) (H := H) (E := E) (cdv := t.c__law_mixed) sc__law_mixed hr
  have po := po_fn (P := P) (w := w) (K := K) (mg := mg) (base := base) (N := ["cell", "turn", "number"]) (qual := "_law_mixed") (st := s__law_mixed) (f := t.a__law_mixed) (A := A) (outer := outer) (s := s) (H := H) (E := E) (cdv := t.c__law_mixed)
  exact (cs_seq (cs_asg (i := 2) (ce_op p_mod (ce_op p_add (ce_op p_add (ce_op p_mul (ce_op p_mod (ce_var (pv 0)) (ce_op p_sub (ce_op p_pow ce_int ce_int) ce_int)) ce_int) (ce_op p_mul (ce_var (pv 1)) ce_int)) ce_int) (ce_op p_pow ce_int ce_int)) ec.hN rfl (by first | exact .inl rfl | exact .inr rfl) (by decide))
      (cs_seq (cs_asg (i := 2) (ce_op p_mod (ce_op p_mul (ce_op p_xor (ce_var (pv 2)) (ce_op p_shr (ce_var (pv 2)) ce_int)) ce_int) (ce_op p_pow ce_int ce_int)) ec.hN rfl (by first | exact .inl rfl | exact .inr rfl) (by decide))
      (cs_one (cs_ret (ce_op p_mod (ce_op p_mul (ce_op p_xor (ce_var (pv 2)) (ce_op p_shr (ce_var (pv 2)) ce_int)) ce_int) (ce_op p_pow ce_int ce_int))))))
theorem sc__law_draw : FnScope ["draws", "size", "turn", "left", "cells", "cell"] ["draws", "size"] (defScope s__law_draw) := ⟨rfl, rfl, rfl, by decide +kernel, rfl, by decide +kernel, by decide +kernel⟩
theorem ok__law_draw (t : Tops P w K mg base T) : FnOk P w K mg base (L2.CX P w) 2 t.a__law_draw t.d__law_draw ["draws", "size"] (spM K T mg 2 m__law_draw) := by
  refine fn_okC (io := [0]) t.F__law_draw sc__law_draw fun A outer s H E hr => ?_
  have ec := ec_fn (P := P) (w := w) (K := K) (mg := mg) (base := base) (A := A) (outer := outer) (s := s) (H := H) (E := E) (cdv := t.c__law_draw) sc__law_draw hr
  have po := po_fn (P := P) (w := w) (K := K) (mg := mg) (base := base) (N := ["draws", "size", "turn", "left", "cells", "cell"]) (qual := "_law_draw") (st := s__law_draw) (f := t.a__law_draw) (A := A) (outer := outer) (s := s) (H := H) (E := E) (cdv := t.c__law_draw)
  exact (cs_seq (cs_unp (pv 0) ec.hc (cgs_cons (cg_name ec.hN (i := 2) rfl (by first | exact .inl rfl | exact .inr rfl)) (cgs_cons (cg_name ec.hN (i := 3) rfl (by first | exact .inl rfl | exact .inr rfl)) (cgs_cons (cg_name ec.hN (i := 4) rfl (by first | exact .inl rfl | exact .inr rfl)) cgs_nil))) (by decide))
      (cs_seq (cs_if (ct_cmp (p_lt ec.hr) (ce_var (pv 3)) (ce_var (pv 1)) (nomark _)) (cs_seq (cs_asg (i := 5) (ce_ix (ce_var (pv 4)) (ce_op p_mod (ce_var (pv 2)) (ce_blt p_len (by rfl) t.n_len boot_len' (ca_cons (ce_var (pv 4)) ca_nil)))) ec.hN rfl (by first | exact .inl rfl | exact .inr rfl) (by decide))
      (cs_seq (cs_asg (i := 3) (ce_ifE (ct_and (ct_cmp (p_lt ec.hr) (ce_var (pv 2)) (ce_blt p_len (by rfl) t.n_len boot_len' (ca_cons (ce_var (pv 4)) ca_nil)) (nomark _)) (ct_and1 (ct_cmp p_ge (ce_var (pv 5)) (ce_op p_pow ce_int ce_int) (nomark _)))).pt (ce_var (pv 5)) (ce_call (ok__law_mixed t) rfl (ec.lo 1) ec.tk (by rfl) t.g__law_mixed t.F__law_mixed.kp t.b__law_mixed (cc_ex (ce_var (pv 5)) (cc_ex (ce_var (pv 2)) cc_nil)))) ec.hN rfl (by first | exact .inl rfl | exact .inr rfl) (by decide))
      (cs_one (cs_asg (i := 2) (ce_op p_add (ce_var (pv 2)) ce_int) ec.hN rfl (by first | exact .inl rfl | exact .inr rfl) (by decide))))) cs_nil)
      (cs_seq (cs_lput (n := 0) (pv 0) ce_int (ce_var (pv 2)))
      (cs_seq (cs_lput (n := 0) (pv 0) ce_int (ce_op p_fdiv (ce_var (pv 3)) (ce_var (pv 1))))
      (cs_one (cs_ret (ce_op p_mod (ce_var (pv 3)) (ce_var (pv 1)))))))))
theorem sc__law_vector : FnScope ["draws", "most", "names", "size", "name"] ["draws", "most"] (defScope s__law_vector) := ⟨rfl, rfl, rfl, by decide +kernel, rfl, by decide +kernel, by decide +kernel⟩
theorem ok__law_vector (t : Tops P w K mg base T) : FnOk P w K mg base (L2.CX P w) 3 t.a__law_vector t.d__law_vector ["draws", "most"] (spM K T mg 2 m__law_vector) := by
  refine fn_okC (io := [0]) t.F__law_vector sc__law_vector fun A outer s H E hr => ?_
  have ec := ec_fn (P := P) (w := w) (K := K) (mg := mg) (base := base) (A := A) (outer := outer) (s := s) (H := H) (E := E) (cdv := t.c__law_vector) sc__law_vector hr
  have po := po_fn (P := P) (w := w) (K := K) (mg := mg) (base := base) (N := ["draws", "most", "names", "size", "name"]) (qual := "_law_vector") (st := s__law_vector) (f := t.a__law_vector) (A := A) (outer := outer) (s := s) (H := H) (E := E) (cdv := t.c__law_vector)
  exact (cs_seq (cs_asg (i := 2) (ce_lst (ca_cons ce_str (ca_cons ce_str (ca_cons ce_str (ca_cons ce_str (ca_cons ce_str (ca_cons ce_str (ca_cons ce_str (ca_cons ce_str ca_nil))))))))) ec.hN rfl (by first | exact .inl rfl | exact .inr rfl) (by decide))
      (cs_seq (cs_asg (i := 3) (ce_ix (ce_lst (ca_cons ce_int (ca_cons ce_int (ca_cons (ce_op p_pow ce_int ce_int) ca_nil)))) (ce_call (ok__law_draw t) rfl (ec.lo 2) ec.tk (by rfl) t.g__law_draw t.F__law_draw.kp t.b__law_draw (cc_nm (pv 0) (cc_ex ce_int cc_nil)))) ec.hN rfl (by first | exact .inl rfl | exact .inr rfl) (by decide))
      (cs_one (cs_ret (ce_bty p_tuple (by rfl) t.n_tuple boot_tuple' (ca_cons (ce_lc ec.hc ec.hN (ci_seq (ce_sl (ce_var (pv 2)) cp_no (cp_at (W := WE E) (ce_var (pv 1))))) (own := [("name", 4)]) (blkOk_by (by show blkC ["draws", "most", "names", "size", "name"] (defScope s__law_vector) _ [("name", 4)] = true; decide +kernel)) (fun s2 H2 C2 cl2 fp2 => (cg_name (ec.blk s2 H2 _ _ fp2).hN (i := 4) rfl (by first | exact .inl rfl | exact .inr rfl))) (fun s2 H2 C2 cl2 fp2 => (cts_one (ct_cmp p_gt (ce_call (ok__law_draw t) rfl ((ec.blk s2 H2 _ _ fp2).lo 2) (ec.blk s2 H2 _ _ fp2).tk (by rfl) t.g__law_draw t.F__law_draw.kp t.b__law_draw (cc_nm (pv 0) (cc_ex ce_int cc_nil))) ce_int (nomark _)))) (fun s2 H2 C2 cl2 fp2 => (ce_tup (ca_cons (ce_var (pv 4)) (ca_cons (ce_op p_add ce_int (ce_call (ok__law_draw t) rfl ((ec.blk s2 H2 _ _ fp2).lo 2) (ec.blk s2 H2 _ _ fp2).tk (by rfl) t.g__law_draw t.F__law_draw.kp t.b__law_draw (cc_nm (pv 0) (cc_ex (ce_var (pv 3)) cc_nil)))) ca_nil)))) (by decide)) ca_nil))))))
theorem sc__law_number : FnScope ["vector", "node", "name", "number"] ["vector", "node"] (defScope s__law_number) := ⟨rfl, rfl, rfl, by decide +kernel, rfl, by decide +kernel, by decide +kernel⟩
theorem ok__law_number (t : Tops P w K mg base T) : FnOk P w K mg base (L2.CX P w) 1 t.a__law_number t.d__law_number ["vector", "node"] (spM K T mg 2 m__law_number) := by
  refine fn_okC (io := []) t.F__law_number sc__law_number fun A outer s H E hr => ?_
  have ec := ec_fn (P := P) (w := w) (K := K) (mg := mg) (base := base) (A := A) (outer := outer) (s := s) (H := H) (E := E) (cdv := t.c__law_number) sc__law_number hr
  have po := po_fn (P := P) (w := w) (K := K) (mg := mg) (base := base) (N := ["vector", "node", "name", "number"]) (qual := "_law_number") (st := s__law_number) (f := t.a__law_number) (A := A) (outer := outer) (s := s) (H := H) (E := E) (cdv := t.c__law_number)
  exact (cs_one (cs_ret (ce_blt (p_sum ec.hc) (by rfl) t.n_sum boot_sum' (ca_cons (ce_lc ec.hc ec.hN (ci_seq (ce_var (pv 0))) (own := [("name", 2), ("number", 3)]) (blkOk_by (by show blkC ["vector", "node", "name", "number"] (defScope s__law_number) _ [("name", 2), ("number", 3)] = true; decide +kernel)) (fun s3 H3 C3 cl3 fp3 => (cg_tup (ec.blk s3 H3 _ _ fp3).hc (cgs_cons (cg_name (ec.blk s3 H3 _ _ fp3).hN (i := 2) rfl (by first | exact .inl rfl | exact .inr rfl)) (cgs_cons (cg_name (ec.blk s3 H3 _ _ fp3).hN (i := 3) rfl (by first | exact .inl rfl | exact .inr rfl)) cgs_nil)))) (fun s3 H3 C3 cl3 fp3 => (cts_one (ct_cmp (p_eq (ec.blk s3 H3 _ _ fp3).hr) (ce_var (pv 2)) (ce_var (pv 1)) (nomark _)))) (fun s3 H3 C3 cl3 fp3 => (ce_var (pv 3))) (by decide)) ca_nil))))
theorem sc__law_join : FnScope ["one", "other", "nodes", "name", "number"] ["one", "other"] (defScope s__law_join) := ⟨rfl, rfl, rfl, by decide +kernel, rfl, by decide +kernel, by decide +kernel⟩
theorem ok__law_join (t : Tops P w K mg base T) : FnOk P w K mg base (L2.CX P w) 2 t.a__law_join t.d__law_join ["one", "other"] (spM K T mg 2 m__law_join) := by
  refine fn_okC (io := []) t.F__law_join sc__law_join fun A outer s H E hr => ?_
  have ec := ec_fn (P := P) (w := w) (K := K) (mg := mg) (base := base) (A := A) (outer := outer) (s := s) (H := H) (E := E) (cdv := t.c__law_join) sc__law_join hr
  have po := po_fn (P := P) (w := w) (K := K) (mg := mg) (base := base) (N := ["one", "other", "nodes", "name", "number"]) (qual := "_law_join") (st := s__law_join) (f := t.a__law_join) (A := A) (outer := outer) (s := s) (H := H) (E := E) (cdv := t.c__law_join)
  exact (cs_seq (cs_asg (i := 2) (ce_blt (p_sorted ec.hr) (by rfl) t.n_sorted boot_sorted' (ca_cons (ce_op p_add (ce_lc ec.hc ec.hN (ci_seq (ce_var (pv 0))) (own := [("name", 3), ("number", 4)]) (blkOk_by (by show blkC ["one", "other", "nodes", "name", "number"] (defScope s__law_join) _ [("name", 3), ("number", 4)] = true; decide +kernel)) (fun s4 H4 C4 cl4 fp4 => (cg_tup (ec.blk s4 H4 _ _ fp4).hc (cgs_cons (cg_name (ec.blk s4 H4 _ _ fp4).hN (i := 3) rfl (by first | exact .inl rfl | exact .inr rfl)) (cgs_cons (cg_name (ec.blk s4 H4 _ _ fp4).hN (i := 4) rfl (by first | exact .inl rfl | exact .inr rfl)) cgs_nil)))) (fun s4 H4 C4 cl4 fp4 => cts_nil) (fun s4 H4 C4 cl4 fp4 => (ce_var (pv 3))) (by decide)) (ce_lc ec.hc ec.hN (ci_seq (ce_var (pv 1))) (own := [("name", 3), ("number", 4)]) (blkOk_by (by show blkC ["one", "other", "nodes", "name", "number"] (defScope s__law_join) _ [("name", 3), ("number", 4)] = true; decide +kernel)) (fun s5 H5 C5 cl5 fp5 => (cg_tup (ec.blk s5 H5 _ _ fp5).hc (cgs_cons (cg_name (ec.blk s5 H5 _ _ fp5).hN (i := 3) rfl (by first | exact .inl rfl | exact .inr rfl)) (cgs_cons (cg_name (ec.blk s5 H5 _ _ fp5).hN (i := 4) rfl (by first | exact .inl rfl | exact .inr rfl)) cgs_nil)))) (fun s5 H5 C5 cl5 fp5 => (cts_one (ct_cmp (p_eq (ec.blk s5 H5 _ _ fp5).hr) (ce_call (ok__law_number t) rfl ((ec.blk s5 H5 _ _ fp5).lo 1) (ec.blk s5 H5 _ _ fp5).tk (by rfl) t.g__law_number t.F__law_number.kp t.b__law_number (cc_ex (ce_var (pv 0)) (cc_ex (ce_var (pv 3)) cc_nil))) ce_int (nomark _)))) (fun s5 H5 C5 cl5 fp5 => (ce_var (pv 3))) (by decide))) ca_nil)) ec.hN rfl (by first | exact .inl rfl | exact .inr rfl) (by decide))
      (cs_one (cs_ret (ce_bty p_tuple (by rfl) t.n_tuple boot_tuple' (ca_cons (ce_lc ec.hc ec.hN (ci_seq (ce_var (pv 2))) (own := [("name", 3)]) (blkOk_by (by show blkC ["one", "other", "nodes", "name", "number"] (defScope s__law_join) _ [("name", 3)] = true; decide +kernel)) (fun s6 H6 C6 cl6 fp6 => (cg_name (ec.blk s6 H6 _ _ fp6).hN (i := 3) rfl (by first | exact .inl rfl | exact .inr rfl))) (fun s6 H6 C6 cl6 fp6 => cts_nil) (fun s6 H6 C6 cl6 fp6 => (ce_tup (ca_cons (ce_var (pv 3)) (ca_cons (ce_blt (p_max2 (ec.blk s6 H6 _ _ fp6).hc) (by rfl) t.n_max boot_max' (ca_cons (ce_call (ok__law_number t) rfl ((ec.blk s6 H6 _ _ fp6).lo 1) (ec.blk s6 H6 _ _ fp6).tk (by rfl) t.g__law_number t.F__law_number.kp t.b__law_number (cc_ex (ce_var (pv 0)) (cc_ex (ce_var (pv 3)) cc_nil))) (ca_cons (ce_call (ok__law_number t) rfl ((ec.blk s6 H6 _ _ fp6).lo 1) (ec.blk s6 H6 _ _ fp6).tk (by rfl) t.g__law_number t.F__law_number.kp t.b__law_number (cc_ex (ce_var (pv 1)) (cc_ex (ce_var (pv 3)) cc_nil))) ca_nil))) ca_nil)))) (by decide)) ca_nil)))))
theorem sc_is_name : FnScope ["value"] ["value"] (defScope s_is_name) := ⟨rfl, rfl, rfl, by decide +kernel, rfl, by decide +kernel, by decide +kernel⟩
theorem ok_is_name (t : Tops P w K mg base T) : FnOk P w K mg base (L2.CX P w) 2 t.a_is_name t.d_is_name ["value"] (spM K T mg 1 m_is_name) := by
  have hF := t.F_is_name
  rw [t.e_is_name] at hF
  refine fn_okC (io := []) hF sc_is_name fun A outer s H E hr => ?_
  have ec := ec_fn (P := P) (w := w) (K := K) (mg := mg) (base := base) (A := A) (outer := outer) (s := s) (H := H) (E := E) (cdv := Value.ref t.o_is_name) sc_is_name hr
  have po := po_fn (P := P) (w := w) (K := K) (mg := mg) (base := base) (N := ["value"]) (qual := "is_name") (st := s_is_name) (f := t.a_is_name) (A := A) (outer := outer) (s := s) (H := H) (E := E) (cdv := Value.ref t.o_is_name)
  exact (cs_one (cs_ret (ce_and (ce_isi (by rfl) t.n_isinstance boot_isinstance (ce_var (pv 0)) (pe_bltn (by rfl) t.n_str boot_str' rfl)) (ce_and (ce_chain p_le p_le ce_int (ce_blt p_len (by rfl) t.n_len boot_len' (ca_cons (ce_var (pv 0)) ca_nil)) ce_int) (ce_one (ce_all ec.hr (by rfl) t.n_all boot_all' t.T_is_name t.B_is_name rfl (gx_by (N := ["sign"]) (cs := []) (by show gxB ["value"] ["sign"] (defScope s_is_name) _ [] = true; decide +kernel)) (ci_seq (ce_var (pv 0))) (fun _ => rfl) (by decide) (fun s7 H7 cd7 fp7 => (cg_name (ec.gx (N := ["sign"]) (by decide) _ s7 H7 cd7 fp7).hN (i := 0) rfl (by first | exact .inl rfl | exact .inr rfl))) (fun s7 H7 cd7 fp7 => (ce_chain p_le p_le ce_str (ce_var (pv 0)) ce_str))))))))
theorem sc_is_names : FnScope ["value", "least", "most"] ["value", "least", "most"] (defScope s_is_names) := ⟨rfl, rfl, rfl, by decide +kernel, rfl, by decide +kernel, by decide +kernel⟩
theorem ok_is_names (t : Tops P w K mg base T) : FnOk P w K mg base (L2.CX P w) 4 t.a_is_names t.d_is_names ["value", "least", "most"] (spM K T mg 3 m_is_names) := by
  have hF := t.F_is_names
  rw [t.e_is_names] at hF
  refine fn_okC (io := []) hF sc_is_names fun A outer s H E hr => ?_
  have ec := ec_fn (P := P) (w := w) (K := K) (mg := mg) (base := base) (A := A) (outer := outer) (s := s) (H := H) (E := E) (cdv := Value.ref t.o_is_names) sc_is_names hr
  have po := po_fn (P := P) (w := w) (K := K) (mg := mg) (base := base) (N := ["value", "least", "most"]) (qual := "is_names") (st := s_is_names) (f := t.a_is_names) (A := A) (outer := outer) (s := s) (H := H) (E := E) (cdv := Value.ref t.o_is_names)
  exact (cs_seq (cs_if (ct_or (ct_not (ct_val (ce_isi (by rfl) t.n_isinstance boot_isinstance (ce_var (pv 0)) (pe_bltn (by rfl) t.n_tuple boot_tuple' rfl)))) (ct_or1 (ct_not (ct_chain p_le p_le (ce_var (pv 1)) (ce_blt p_len (by rfl) t.n_len boot_len' (ca_cons (ce_var (pv 0)) ca_nil)) (ce_var (pv 2)))))).pt (cs_one (cs_ret ce_bl)) cs_nil)
      (cs_seq (cs_if (ct_not (ct_val (ce_all ec.hr (by rfl) t.n_all boot_all' t.T_is_names t.B_is_names rfl (gx_by (N := ["one"]) (cs := []) (by show gxB ["value", "least", "most"] ["one"] (defScope s_is_names) _ [] = true; decide +kernel)) (ci_seq (ce_var (pv 0))) (fun _ => rfl) (by decide) (fun s8 H8 cd8 fp8 => (cg_name (ec.gx (N := ["one"]) (by decide) _ s8 H8 cd8 fp8).hN (i := 0) rfl (by first | exact .inl rfl | exact .inr rfl))) (fun s8 H8 cd8 fp8 => (ce_call (ok_is_name t) rfl ((ec.gx (N := ["one"]) (by decide) _ s8 H8 cd8 fp8).lo 2) (ec.gx (N := ["one"]) (by decide) _ s8 H8 cd8 fp8).tk (by rfl) t.g_is_name t.F_is_name.kp t.b_is_name (cc_ex (ce_var (pv 0)) cc_nil)))))) (cs_one (cs_ret ce_bl)) cs_nil)
      (cs_one (cs_ret (ce_all ec.hr (by rfl) t.n_all boot_all' t.T_is_names t.B_is_names rfl (gx_by (N := ["value", "k"]) (cs := [0]) (by show gxB ["value", "least", "most"] ["value", "k"] (defScope s_is_names) _ [0] = true; decide +kernel)) (ci_range1 (by rfl) t.n_range (ca_cons (ce_op p_sub (ce_blt p_len (by rfl) t.n_len boot_len' (ca_cons (ce_var (pv 0)) ca_nil)) ce_int) ca_nil)) (fun _ => rfl) (by decide) (fun s9 H9 cd9 fp9 => (cg_name (ec.gx (N := ["value", "k"]) (by decide) _ s9 H9 cd9 fp9).hN (i := 1) rfl (by first | exact .inl rfl | exact .inr rfl))) (fun s9 H9 cd9 fp9 => (ce_cmp (p_lt (ec.gx (N := ["value", "k"]) (by decide) _ s9 H9 cd9 fp9).hr) (ce_ix (ce_var (pv 0)) (ce_var (pv 1))) (ce_ix (ce_var (pv 0)) (ce_op p_add (ce_var (pv 1)) ce_int)) (nomark _))))))))
theorem sc_is_number : FnScope ["value", "least", "most"] ["value", "least", "most"] (defScope s_is_number) := ⟨rfl, rfl, rfl, by decide +kernel, rfl, by decide +kernel, by decide +kernel⟩
theorem ok_is_number (t : Tops P w K mg base T) : FnOk P w K mg base (L2.CX P w) 1 t.a_is_number t.d_is_number ["value", "least", "most"] (spM K T mg 3 m_is_number) := by
  refine fn_okC (io := []) t.F_is_number sc_is_number fun A outer s H E hr => ?_
  have ec := ec_fn (P := P) (w := w) (K := K) (mg := mg) (base := base) (A := A) (outer := outer) (s := s) (H := H) (E := E) (cdv := t.c_is_number) sc_is_number hr
  have po := po_fn (P := P) (w := w) (K := K) (mg := mg) (base := base) (N := ["value", "least", "most"]) (qual := "is_number") (st := s_is_number) (f := t.a_is_number) (A := A) (outer := outer) (s := s) (H := H) (E := E) (cdv := t.c_is_number)
  exact (cs_one (cs_ret (ce_and (ce_isi (by rfl) t.n_isinstance boot_isinstance (ce_var (pv 0)) (pe_bltn (by rfl) t.n_int boot_int' rfl)) (ce_and (ce_not (ce_isi (by rfl) t.n_isinstance boot_isinstance (ce_var (pv 0)) (pe_bltn (by rfl) t.n_bool boot_bool' rfl))) (ce_one (ce_chain p_le p_le (ce_var (pv 1)) (ce_var (pv 0)) (ce_var (pv 2))))))))
theorem sc_is_vector : FnScope ["value", "pair"] ["value"] (defScope s_is_vector) := ⟨rfl, rfl, rfl, by decide +kernel, rfl, by decide +kernel, by decide +kernel⟩
theorem ok_is_vector (t : Tops P w K mg base T) : FnOk P w K mg base (L2.CX P w) 5 t.a_is_vector t.d_is_vector ["value"] (spM K T mg 1 m_is_vector) := by
  have hF := t.F_is_vector
  rw [t.e_is_vector] at hF
  refine fn_okC (io := []) hF sc_is_vector fun A outer s H E hr => ?_
  have ec := ec_fn (P := P) (w := w) (K := K) (mg := mg) (base := base) (A := A) (outer := outer) (s := s) (H := H) (E := E) (cdv := Value.ref t.o_is_vector) sc_is_vector hr
  have po := po_fn (P := P) (w := w) (K := K) (mg := mg) (base := base) (N := ["value", "pair"]) (qual := "is_vector") (st := s_is_vector) (f := t.a_is_vector) (A := A) (outer := outer) (s := s) (H := H) (E := E) (cdv := Value.ref t.o_is_vector)
  exact (cs_seq (cs_if (ct_or (ct_not (ct_val (ce_isi (by rfl) t.n_isinstance boot_isinstance (ce_var (pv 0)) (pe_bltn (by rfl) t.n_tuple boot_tuple' rfl)))) (ct_or1 (ct_not (ct_val (ce_all ec.hr (by rfl) t.n_all boot_all' t.T_is_vector t.B_is_vector rfl (gx_by (N := ["pair"]) (cs := []) (by show gxB ["value", "pair"] ["pair"] (defScope s_is_vector) _ [] = true; decide +kernel)) (ci_seq (ce_var (pv 0))) (fun _ => rfl) (by decide) (fun s10 H10 cd10 fp10 => (cg_name (ec.gx (N := ["pair"]) (by decide) _ s10 H10 cd10 fp10).hN (i := 0) rfl (by first | exact .inl rfl | exact .inr rfl))) (fun s10 H10 cd10 fp10 => (ce_and (ce_isi (by rfl) t.n_isinstance boot_isinstance (ce_var (pv 0)) (pe_bltn (by rfl) t.n_tuple boot_tuple' rfl)) (ce_one (ce_cmp (p_eq (ec.gx (N := ["pair"]) (by decide) _ s10 H10 cd10 fp10).hr) (ce_blt p_len (by rfl) t.n_len boot_len' (ca_cons (ce_var (pv 0)) ca_nil)) ce_int (nomark _)))))))))).pt (cs_one (cs_ret ce_bl)) cs_nil)
      (cs_seq (cs_if (ct_not (ct_val (ce_call (ok_is_names t) rfl (ec.lo 4) ec.tk (by rfl) t.g_is_names t.F_is_names.kp t.b_is_names (cc_ex (ce_bty p_tuple (by rfl) t.n_tuple boot_tuple' (ca_cons (ce_lc ec.hc ec.hN (ci_seq (ce_var (pv 0))) (own := [("pair", 1)]) (blkOk_by (by show blkC ["value", "pair"] (defScope s_is_vector) _ [("pair", 1)] = true; decide +kernel)) (fun s11 H11 C11 cl11 fp11 => (cg_name (ec.blk s11 H11 _ _ fp11).hN (i := 1) rfl (by first | exact .inl rfl | exact .inr rfl))) (fun s11 H11 C11 cl11 fp11 => cts_nil) (fun s11 H11 C11 cl11 fp11 => (ce_ix (ce_var (pv 1)) ce_int)) (by decide)) ca_nil)) (cc_ex ce_int (cc_ex (ce_glob (v := .int 8) (d := .int 8) (by rfl) t.m_MOST_NODES ⟨_, rfl⟩ fun _ => .int _) cc_nil)))))) (cs_one (cs_ret ce_bl)) cs_nil)
      (cs_one (cs_ret (ce_all ec.hr (by rfl) t.n_all boot_all' t.T_is_vector t.B_is_vector rfl (gx_by (N := ["pair"]) (cs := []) (by show gxB ["value", "pair"] ["pair"] (defScope s_is_vector) _ [] = true; decide +kernel)) (ci_seq (ce_var (pv 0))) (fun _ => rfl) (by decide) (fun s12 H12 cd12 fp12 => (cg_name (ec.gx (N := ["pair"]) (by decide) _ s12 H12 cd12 fp12).hN (i := 0) rfl (by first | exact .inl rfl | exact .inr rfl))) (fun s12 H12 cd12 fp12 => (ce_call (ok_is_number t) rfl ((ec.gx (N := ["pair"]) (by decide) _ s12 H12 cd12 fp12).lo 1) (ec.gx (N := ["pair"]) (by decide) _ s12 H12 cd12 fp12).tk (by rfl) t.g_is_number t.F_is_number.kp t.b_is_number (cc_ex (ce_ix (ce_var (pv 0)) ce_int) (cc_ex ce_int (cc_ex (ce_glob (v := .int 1000000000) (d := .int 1000000000) (by rfl) t.m_MOST_NUMBER ⟨_, rfl⟩ fun _ => .int _) cc_nil))))))))))
theorem sc__law_wrong : FnScope ["vector", "wrong", "eight", "sign", "value"] ["vector"] (defScope s__law_wrong) := ⟨rfl, rfl, rfl, by decide +kernel, rfl, by decide +kernel, by decide +kernel⟩
theorem ok__law_wrong (t : Tops P w K mg base T) : FnOk P w K mg base (L2.CX P w) 6 t.a__law_wrong t.d__law_wrong ["vector"] (spM K T mg 1 m__law_wrong) := by
  refine fn_okC (io := []) t.F__law_wrong sc__law_wrong fun A outer s H E hr => ?_
  have ec := ec_fn (P := P) (w := w) (K := K) (mg := mg) (base := base) (A := A) (outer := outer) (s := s) (H := H) (E := E) (cdv := t.c__law_wrong) sc__law_wrong hr
  have po := po_fn (P := P) (w := w) (K := K) (mg := mg) (base := base) (N := ["vector", "wrong", "eight", "sign", "value"]) (qual := "_law_wrong") (st := s__law_wrong) (f := t.a__law_wrong) (A := A) (outer := outer) (s := s) (H := H) (E := E) (cdv := t.c__law_wrong)
  exact (cs_seq (cs_asg (i := 1) (ce_lst (ca_cons ce_non (ca_cons (ce_bty p_list (by rfl) t.n_list boot_list' (ca_cons (ce_var (pv 0)) ca_nil)) (ca_cons (ce_tup (ca_cons ce_non ca_nil)) (ca_cons (ce_tup (ca_cons (ce_tup (ca_cons ce_str ca_nil)) ca_nil)) (ca_cons (ce_tup (ca_cons (ce_tup (ca_cons ce_str (ca_cons ce_int ca_nil))) ca_nil)) (ca_cons (ce_tup (ca_cons (ce_tup (ca_cons ce_str (ca_cons (ce_op p_add (ce_op p_pow ce_int ce_int) ce_int) ca_nil))) ca_nil)) (ca_cons (ce_tup (ca_cons (ce_tup (ca_cons ce_str (ca_cons ce_bl ca_nil))) ca_nil)) (ca_cons (ce_tup (ca_cons (ce_tup (ca_cons ce_str (ca_cons ce_non ca_nil))) ca_nil)) (ca_cons (ce_tup (ca_cons (ce_tup (ca_cons ce_str (ca_cons ce_int (ca_cons ce_int ca_nil)))) ca_nil)) (ca_cons (ce_tup (ca_cons (ce_lst (ca_cons ce_str (ca_cons ce_int ca_nil))) ca_nil)) (ca_cons (ce_tup (ca_cons (ce_tup (ca_cons ce_str (ca_cons ce_int ca_nil))) ca_nil)) (ca_cons (ce_tup (ca_cons (ce_tup (ca_cons ce_str (ca_cons ce_int ca_nil))) ca_nil)) (ca_cons (ce_tup (ca_cons (ce_tup (ca_cons ce_str (ca_cons ce_int ca_nil))) (ca_cons (ce_tup (ca_cons ce_str (ca_cons ce_int ca_nil))) ca_nil))) (ca_cons (ce_tup (ca_cons (ce_tup (ca_cons ce_str (ca_cons ce_int ca_nil))) (ca_cons (ce_tup (ca_cons ce_str (ca_cons ce_int ca_nil))) ca_nil))) (ca_cons (ce_tup (ca_cons (ce_tup (ca_cons ce_str (ca_cons ce_int ca_nil))) (ca_cons (ce_tup (ca_cons ce_str (ca_cons ce_int ca_nil))) ca_nil))) (ca_cons (ce_bty p_tuple (by rfl) t.n_tuple boot_tuple' (ca_cons (ce_lc ec.hc ec.hN (ci_seq ce_str) (own := [("sign", 3)]) (blkOk_by (by show blkC ["vector", "wrong", "eight", "sign", "value"] (defScope s__law_wrong) _ [("sign", 3)] = true; decide +kernel)) (fun s13 H13 C13 cl13 fp13 => (cg_name (ec.blk s13 H13 _ _ fp13).hN (i := 3) rfl (by first | exact .inl rfl | exact .inr rfl))) (fun s13 H13 C13 cl13 fp13 => cts_nil) (fun s13 H13 C13 cl13 fp13 => (ce_tup (ca_cons (ce_op p_add ce_str (ce_var (pv 3))) (ca_cons ce_int ca_nil)))) (by decide)) ca_nil)) (ca_cons (ce_tup (ca_cons ce_str (ca_cons ce_int ca_nil))) (ca_cons ce_int (ca_cons ce_str ca_nil)))))))))))))))))))) ec.hN rfl (by first | exact .inl rfl | exact .inr rfl) (by decide))
      (cs_seq (cs_asg (i := 2) (ce_bty p_tuple (by rfl) t.n_tuple boot_tuple' (ca_cons (ce_lc ec.hc ec.hN (ci_seq ce_str) (own := [("sign", 3)]) (blkOk_by (by show blkC ["vector", "wrong", "eight", "sign", "value"] (defScope s__law_wrong) _ [("sign", 3)] = true; decide +kernel)) (fun s14 H14 C14 cl14 fp14 => (cg_name (ec.blk s14 H14 _ _ fp14).hN (i := 3) rfl (by first | exact .inl rfl | exact .inr rfl))) (fun s14 H14 C14 cl14 fp14 => cts_nil) (fun s14 H14 C14 cl14 fp14 => (ce_tup (ca_cons (ce_op p_add ce_str (ce_var (pv 3))) (ca_cons (ce_op p_pow ce_int ce_int) ca_nil)))) (by decide)) ca_nil)) ec.hN rfl (by first | exact .inl rfl | exact .inr rfl) (by decide))
      (cs_one (cs_ret (ce_and (ce_cmp p_is (ce_call (ok_is_vector t) rfl (ec.lo 5) ec.tk (by rfl) t.g_is_vector t.F_is_vector.kp t.b_is_vector (cc_ex (ce_var (pv 0)) cc_nil)) ce_bl (nomark _)) (ce_and (ce_cmp p_is (ce_call (ok_is_vector t) rfl (ec.lo 5) ec.tk (by rfl) t.g_is_vector t.F_is_vector.kp t.b_is_vector (cc_ex (ce_tup ca_nil) cc_nil)) ce_bl (nomark _)) (ce_and (ce_cmp p_is (ce_call (ok_is_vector t) rfl (ec.lo 5) ec.tk (by rfl) t.g_is_vector t.F_is_vector.kp t.b_is_vector (cc_ex (ce_var (pv 2)) cc_nil)) ce_bl (nomark _)) (ce_one (ce_cmp (p_eq ec.hr) (ce_lc ec.hc ec.hN (ci_seq (ce_var (pv 1))) (own := [("value", 4)]) (blkOk_by (by show blkC ["vector", "wrong", "eight", "sign", "value"] (defScope s__law_wrong) _ [("value", 4)] = true; decide +kernel)) (fun s15 H15 C15 cl15 fp15 => (cg_name (ec.blk s15 H15 _ _ fp15).hN (i := 4) rfl (by first | exact .inl rfl | exact .inr rfl))) (fun s15 H15 C15 cl15 fp15 => (cts_one (ct_cmp p_isN (ce_call (ok_is_vector t) rfl ((ec.blk s15 H15 _ _ fp15).lo 5) (ec.blk s15 H15 _ _ fp15).tk (by rfl) t.g_is_vector t.F_is_vector.kp t.b_is_vector (cc_ex (ce_var (pv 4)) cc_nil)) ce_bl (nomark _)))) (fun s15 H15 C15 cl15 fp15 => (ce_var (pv 4))) (by decide)) (ce_lst ca_nil) (nomark _))))))))))
theorem sc_join : FnScope ["one", "other", "told", "node", "number"] ["one", "other"] (defScope s_join) := ⟨rfl, rfl, rfl, by decide +kernel, rfl, by decide +kernel, by decide +kernel⟩
theorem ok_join (t : Tops P w K mg base T) : FnOk P w K mg base (L2.CX P w) 1 t.a_join t.d_join ["one", "other"] (spM K T mg 2 m_join) := by
  refine fn_okC (io := []) t.F_join sc_join fun A outer s H E hr => ?_
  have ec := ec_fn (P := P) (w := w) (K := K) (mg := mg) (base := base) (A := A) (outer := outer) (s := s) (H := H) (E := E) (cdv := t.c_join) sc_join hr
  have po := po_fn (P := P) (w := w) (K := K) (mg := mg) (base := base) (N := ["one", "other", "told", "node", "number"]) (qual := "join") (st := s_join) (f := t.a_join) (A := A) (outer := outer) (s := s) (H := H) (E := E) (cdv := t.c_join)
  exact (cs_seq (cs_asg (i := 2) (ce_bty (p_dict ec.hc) (by rfl) t.n_dict boot_dict' (ca_cons (ce_var (pv 1)) ca_nil)) ec.hN rfl (by first | exact .inl rfl | exact .inr rfl) (by decide))
      (cs_seq (cs_for po ec.hc (ci_seq (ce_var (pv 0))) (cg_tup ec.hc (cgs_cons (cg_name ec.hN (i := 3) rfl (by first | exact .inl rfl | exact .inr rfl)) (cgs_cons (cg_name ec.hN (i := 4) rfl (by first | exact .inl rfl | exact .inr rfl)) cgs_nil))) (by decide) (cs_one (cs_dput (n := 2) ec.hr (pv 2) (ce_var (pv 3)) (ce_blt (p_max2 ec.hc) (by rfl) t.n_max boot_max' (ca_cons (ce_var (pv 4)) (ca_cons (ce_dget2 ec.hr (pv 2) (ce_var (pv 3)) ce_int ⟨rfl, rfl, rfl, rfl⟩) ca_nil))))))
      (cs_one (cs_ret (ce_bty p_tuple (by rfl) t.n_tuple boot_tuple' (ca_cons (ce_sortIt ec.hr ec.hc (by rfl) t.n_sorted boot_sorted' (pv 2)) ca_nil))))))
theorem sc_number_of : FnScope ["vector", "node"] ["vector", "node"] (defScope s_number_of) := ⟨rfl, rfl, rfl, by decide +kernel, rfl, by decide +kernel, by decide +kernel⟩
theorem ok_number_of (t : Tops P w K mg base T) : FnOk P w K mg base (L2.CX P w) 1 t.a_number_of t.d_number_of ["vector", "node"] (spM K T mg 2 m_number_of) := by
  refine fn_okC (io := []) t.F_number_of sc_number_of fun A outer s H E hr => ?_
  have ec := ec_fn (P := P) (w := w) (K := K) (mg := mg) (base := base) (A := A) (outer := outer) (s := s) (H := H) (E := E) (cdv := t.c_number_of) sc_number_of hr
  have po := po_fn (P := P) (w := w) (K := K) (mg := mg) (base := base) (N := ["vector", "node"]) (qual := "number_of") (st := s_number_of) (f := t.a_number_of) (A := A) (outer := outer) (s := s) (H := H) (E := E) (cdv := t.c_number_of)
  exact (cs_one (cs_ret (ce_dget2 ec.hr (ce_bty (p_dict ec.hc) (by rfl) t.n_dict boot_dict' (ca_cons (ce_var (pv 0)) ca_nil)) (ce_var (pv 1)) ce_int ⟨rfl, rfl, rfl, rfl⟩)))
theorem sc_at_most : FnScope ["one", "other"] ["one", "other"] (defScope s_at_most) := ⟨rfl, rfl, rfl, by decide +kernel, rfl, by decide +kernel, by decide +kernel⟩
theorem ok_at_most (t : Tops P w K mg base T) : FnOk P w K mg base (L2.CX P w) 3 t.a_at_most t.d_at_most ["one", "other"] (spM K T mg 2 m_at_most) := by
  have hF := t.F_at_most
  rw [t.e_at_most] at hF
  refine fn_okC (io := []) hF sc_at_most fun A outer s H E hr => ?_
  have ec := ec_fn (P := P) (w := w) (K := K) (mg := mg) (base := base) (A := A) (outer := outer) (s := s) (H := H) (E := E) (cdv := Value.ref t.o_at_most) sc_at_most hr
  have po := po_fn (P := P) (w := w) (K := K) (mg := mg) (base := base) (N := ["one", "other"]) (qual := "at_most") (st := s_at_most) (f := t.a_at_most) (A := A) (outer := outer) (s := s) (H := H) (E := E) (cdv := Value.ref t.o_at_most)
  exact (cs_one (cs_ret (ce_all ec.hr (by rfl) t.n_all boot_all' t.T_at_most t.B_at_most rfl (gx_by (N := ["other", "node", "number"]) (cs := [1]) (by show gxB ["one", "other"] ["other", "node", "number"] (defScope s_at_most) _ [1] = true; decide +kernel)) (ci_seq (ce_var (pv 0))) (fun _ => rfl) (by decide) (fun s16 H16 cd16 fp16 => (cg_tup (ec.gx (N := ["other", "node", "number"]) (by decide) _ s16 H16 cd16 fp16).hc (cgs_cons (cg_name (ec.gx (N := ["other", "node", "number"]) (by decide) _ s16 H16 cd16 fp16).hN (i := 1) rfl (by first | exact .inl rfl | exact .inr rfl)) (cgs_cons (cg_name (ec.gx (N := ["other", "node", "number"]) (by decide) _ s16 H16 cd16 fp16).hN (i := 2) rfl (by first | exact .inl rfl | exact .inr rfl)) cgs_nil)))) (fun s16 H16 cd16 fp16 => (ce_cmp p_le (ce_var (pv 2)) (ce_call (ok_number_of t) rfl ((ec.gx (N := ["other", "node", "number"]) (by decide) _ s16 H16 cd16 fp16).lo 1) (ec.gx (N := ["other", "node", "number"]) (by decide) _ s16 H16 cd16 fp16).tk (by rfl) t.g_number_of t.F_number_of.kp t.b_number_of (cc_ex (ce_var (pv 0)) (cc_ex (ce_var (pv 1)) cc_nil))) (nomark _))))))
theorem sc_raised : FnScope ["vector", "node", "number", "told"] ["vector", "node", "number"] (defScope s_raised) := ⟨rfl, rfl, rfl, by decide +kernel, rfl, by decide +kernel, by decide +kernel⟩
theorem ok_raised (t : Tops P w K mg base T) : FnOk P w K mg base (L2.CX P w) 1 t.a_raised t.d_raised ["vector", "node", "number"] (spM K T mg 3 m_raised) := by
  refine fn_okC (io := []) t.F_raised sc_raised fun A outer s H E hr => ?_
  have ec := ec_fn (P := P) (w := w) (K := K) (mg := mg) (base := base) (A := A) (outer := outer) (s := s) (H := H) (E := E) (cdv := t.c_raised) sc_raised hr
  have po := po_fn (P := P) (w := w) (K := K) (mg := mg) (base := base) (N := ["vector", "node", "number", "told"]) (qual := "raised") (st := s_raised) (f := t.a_raised) (A := A) (outer := outer) (s := s) (H := H) (E := E) (cdv := t.c_raised)
  exact (cs_seq (cs_asg (i := 3) (ce_bty (p_dict ec.hc) (by rfl) t.n_dict boot_dict' (ca_cons (ce_var (pv 0)) ca_nil)) ec.hN rfl (by first | exact .inl rfl | exact .inr rfl) (by decide))
      (cs_seq (cs_dput (n := 3) ec.hr (pv 3) (ce_var (pv 1)) (ce_op p_add (ce_dget2 ec.hr (pv 3) (ce_var (pv 1)) ce_int ⟨rfl, rfl, rfl, rfl⟩) (ce_var (pv 2))))
      (cs_one (cs_ret (ce_bty p_tuple (by rfl) t.n_tuple boot_tuple' (ca_cons (ce_sortIt ec.hr ec.hc (by rfl) t.n_sorted boot_sorted' (pv 3)) ca_nil))))))
theorem sc__law_int : FnScope ["value"] ["value"] (defScope s__law_int) := ⟨rfl, rfl, rfl, by decide +kernel, rfl, by decide +kernel, by decide +kernel⟩
theorem ok__law_int (t : Tops P w K mg base T) : FnOk P w K mg base (L2.CX P w) 1 t.a__law_int t.d__law_int ["value"] (spM K T mg 1 m__law_int) := by
  refine fn_okC (io := []) t.F__law_int sc__law_int fun A outer s H E hr => ?_
  have ec := ec_fn (P := P) (w := w) (K := K) (mg := mg) (base := base) (A := A) (outer := outer) (s := s) (H := H) (E := E) (cdv := t.c__law_int) sc__law_int hr
  have po := po_fn (P := P) (w := w) (K := K) (mg := mg) (base := base) (N := ["value"]) (qual := "_law_int") (st := s__law_int) (f := t.a__law_int) (A := A) (outer := outer) (s := s) (H := H) (E := E) (cdv := t.c__law_int)
  exact (cs_one (cs_ret (ce_and (ce_isi (by rfl) t.n_isinstance boot_isinstance (ce_var (pv 0)) (pe_bltn (by rfl) t.n_int boot_int' rfl)) (ce_one (ce_not (ce_isi (by rfl) t.n_isinstance boot_isinstance (ce_var (pv 0)) (pe_bltn (by rfl) t.n_bool boot_bool' rfl)))))))
theorem sc__law_at_most : FnScope ["one", "other", "name", "number"] ["one", "other"] (defScope s__law_at_most) := ⟨rfl, rfl, rfl, by decide +kernel, rfl, by decide +kernel, by decide +kernel⟩
theorem ok__law_at_most (t : Tops P w K mg base T) : FnOk P w K mg base (L2.CX P w) 2 t.a__law_at_most t.d__law_at_most ["one", "other"] (spM K T mg 2 m__law_at_most) := by
  refine fn_okC (io := []) t.F__law_at_most sc__law_at_most fun A outer s H E hr => ?_
  have ec := ec_fn (P := P) (w := w) (K := K) (mg := mg) (base := base) (A := A) (outer := outer) (s := s) (H := H) (E := E) (cdv := t.c__law_at_most) sc__law_at_most hr
  have po := po_fn (P := P) (w := w) (K := K) (mg := mg) (base := base) (N := ["one", "other", "name", "number"]) (qual := "_law_at_most") (st := s__law_at_most) (f := t.a__law_at_most) (A := A) (outer := outer) (s := s) (H := H) (E := E) (cdv := t.c__law_at_most)
  exact (cs_one (cs_ret (ce_cmp (p_eq ec.hr) (ce_lc ec.hc ec.hN (ci_seq (ce_var (pv 0))) (own := [("name", 2), ("number", 3)]) (blkOk_by (by show blkC ["one", "other", "name", "number"] (defScope s__law_at_most) _ [("name", 2), ("number", 3)] = true; decide +kernel)) (fun s17 H17 C17 cl17 fp17 => (cg_tup (ec.blk s17 H17 _ _ fp17).hc (cgs_cons (cg_name (ec.blk s17 H17 _ _ fp17).hN (i := 2) rfl (by first | exact .inl rfl | exact .inr rfl)) (cgs_cons (cg_name (ec.blk s17 H17 _ _ fp17).hN (i := 3) rfl (by first | exact .inl rfl | exact .inr rfl)) cgs_nil)))) (fun s17 H17 C17 cl17 fp17 => (cts_one (ct_cmp p_gt (ce_var (pv 3)) (ce_call (ok__law_number t) rfl ((ec.blk s17 H17 _ _ fp17).lo 1) (ec.blk s17 H17 _ _ fp17).tk (by rfl) t.g__law_number t.F__law_number.kp t.b__law_number (cc_ex (ce_var (pv 1)) (cc_ex (ce_var (pv 2)) cc_nil))) (nomark _)))) (fun s17 H17 C17 cl17 fp17 => (ce_var (pv 2))) (by decide)) (ce_lst ca_nil) (nomark _))))
theorem sc__law_same : FnScope ["told", "due"] ["told", "due"] (defScope s__law_same) := ⟨rfl, rfl, rfl, by decide +kernel, rfl, by decide +kernel, by decide +kernel⟩
theorem ok__law_same (t : Tops P w K mg base T) : FnOk P w K mg base (L2.CX P w) 1 t.a__law_same t.d__law_same ["told", "due"] (spM K T mg 2 m__law_same) := by
  refine fn_okC (io := []) t.F__law_same sc__law_same fun A outer s H E hr => ?_
  have ec := ec_fn (P := P) (w := w) (K := K) (mg := mg) (base := base) (A := A) (outer := outer) (s := s) (H := H) (E := E) (cdv := t.c__law_same) sc__law_same hr
  have po := po_fn (P := P) (w := w) (K := K) (mg := mg) (base := base) (N := ["told", "due"]) (qual := "_law_same") (st := s__law_same) (f := t.a__law_same) (A := A) (outer := outer) (s := s) (H := H) (E := E) (cdv := t.c__law_same)
  exact (cs_one (cs_ret (ce_ifE (ct_val (ce_var (pv 1))) (ce_cmp p_is (ce_var (pv 0)) ce_bl (nomark _)) (ce_cmp p_is (ce_var (pv 0)) ce_bl (nomark _)))))
theorem sc_compare : FnScope ["one", "other"] ["one", "other"] (defScope s_compare) := ⟨rfl, rfl, rfl, by decide +kernel, rfl, by decide +kernel, by decide +kernel⟩
theorem ok_compare (t : Tops P w K mg base T) : FnOk P w K mg base (L2.CX P w) 4 t.a_compare t.d_compare ["one", "other"] (spM K T mg 2 m_compare) := by
  refine fn_okC (io := []) t.F_compare sc_compare fun A outer s H E hr => ?_
  have ec := ec_fn (P := P) (w := w) (K := K) (mg := mg) (base := base) (A := A) (outer := outer) (s := s) (H := H) (E := E) (cdv := t.c_compare) sc_compare hr
  have po := po_fn (P := P) (w := w) (K := K) (mg := mg) (base := base) (N := ["one", "other"]) (qual := "compare") (st := s_compare) (f := t.a_compare) (A := A) (outer := outer) (s := s) (H := H) (E := E) (cdv := t.c_compare)
  exact (cs_seq (cs_if (ct_val (ce_call (ok_at_most t) rfl (ec.lo 3) ec.tk (by rfl) t.g_at_most t.F_at_most.kp t.b_at_most (cc_ex (ce_var (pv 0)) (cc_ex (ce_var (pv 1)) cc_nil)))) (cs_one (cs_ret (ce_ifE (ct_cmp (p_eq ec.hr) (ce_var (pv 0)) (ce_var (pv 1)) (nomark _)) ce_str ce_str))) cs_nil)
      (cs_one (cs_ret (ce_ifE (ct_val (ce_call (ok_at_most t) rfl (ec.lo 3) ec.tk (by rfl) t.g_at_most t.F_at_most.kp t.b_at_most (cc_ex (ce_var (pv 1)) (cc_ex (ce_var (pv 0)) cc_nil)))) ce_str ce_str))))
theorem sc_law : FnScope ["script", "draws", "one", "other", "third", "first", "second", "above", "node", "more", "told", "due", "word", "pair"] ["script"] (defScope s_law) := ⟨rfl, rfl, rfl, by decide +kernel, rfl, by decide +kernel, by decide +kernel⟩
theorem ok_law (t : Tops P w K mg base T) : FnOk P w K mg base (L2.CX P w) 7 t.a_law t.d_law ["script"] (spM K T mg 1 m_law) := by
  refine fn_okC (io := []) t.F_law sc_law fun A outer s H E hr => ?_
  have ec := ec_fn (P := P) (w := w) (K := K) (mg := mg) (base := base) (A := A) (outer := outer) (s := s) (H := H) (E := E) (cdv := t.c_law) sc_law hr
  have po := po_fn (P := P) (w := w) (K := K) (mg := mg) (base := base) (N := ["script", "draws", "one", "other", "third", "first", "second", "above", "node", "more", "told", "due", "word", "pair"]) (qual := "law") (st := s_law) (f := t.a_law) (A := A) (outer := outer) (s := s) (H := H) (E := E) (cdv := t.c_law)
  exact (cs_seq (cs_asg (i := 1) (ce_call (ok__law_open t) rfl (ec.lo 1) ec.tk (by rfl) t.g__law_open t.F__law_open.kp t.b__law_open (cc_ex (ce_var (pv 0)) cc_nil)) ec.hN rfl (by first | exact .inl rfl | exact .inr rfl) (by decide))
      (cs_seq (cs_asg (i := 2) (ce_call (ok__law_vector t) rfl (ec.lo 3) ec.tk (by rfl) t.g__law_vector t.F__law_vector.kp t.b__law_vector (cc_nm (pv 1) (cc_ex ce_int cc_nil))) ec.hN rfl (by first | exact .inl rfl | exact .inr rfl) (by decide))
      (cs_seq (cs_asg (i := 3) (ce_ix (ce_lst (ca_cons (ce_call (ok__law_vector t) rfl (ec.lo 3) ec.tk (by rfl) t.g__law_vector t.F__law_vector.kp t.b__law_vector (cc_nm (pv 1) (cc_ex ce_int cc_nil))) (ca_cons (ce_var (pv 2)) (ca_cons (ce_call (ok__law_join t) rfl (ec.lo 2) ec.tk (by rfl) t.g__law_join t.F__law_join.kp t.b__law_join (cc_ex (ce_var (pv 2)) (cc_ex (ce_call (ok__law_vector t) rfl (ec.lo 3) ec.tk (by rfl) t.g__law_vector t.F__law_vector.kp t.b__law_vector (cc_nm (pv 1) (cc_ex ce_int cc_nil))) cc_nil))) (ca_cons (ce_tup ca_nil) ca_nil))))) (ce_call (ok__law_draw t) rfl (ec.lo 2) ec.tk (by rfl) t.g__law_draw t.F__law_draw.kp t.b__law_draw (cc_nm (pv 1) (cc_ex ce_int cc_nil)))) ec.hN rfl (by first | exact .inl rfl | exact .inr rfl) (by decide))
      (cs_seq (cs_asg (i := 4) (ce_call (ok__law_vector t) rfl (ec.lo 3) ec.tk (by rfl) t.g__law_vector t.F__law_vector.kp t.b__law_vector (cc_nm (pv 1) (cc_ex ce_int cc_nil))) ec.hN rfl (by first | exact .inl rfl | exact .inr rfl) (by decide))
      (cs_seq (cs_if (ct_not (ct_val (ce_call (ok__law_wrong t) rfl (ec.lo 6) ec.tk (by rfl) t.g__law_wrong t.F__law_wrong.kp t.b__law_wrong (cc_ex (ce_var (pv 2)) cc_nil)))) (cs_one (cs_ret ce_bl)) cs_nil)
      (cs_seq (cs_for po ec.hc (ci_seq (ce_lst (ca_cons (ce_tup (ca_cons (ce_var (pv 2)) (ca_cons (ce_var (pv 3)) ca_nil))) (ca_cons (ce_tup (ca_cons (ce_var (pv 3)) (ca_cons (ce_var (pv 2)) ca_nil))) (ca_cons (ce_tup (ca_cons (ce_var (pv 2)) (ca_cons (ce_var (pv 2)) ca_nil))) (ca_cons (ce_tup (ca_cons (ce_var (pv 4)) (ca_cons (ce_var (pv 2)) ca_nil))) ca_nil)))))) (cg_tup ec.hc (cgs_cons (cg_name ec.hN (i := 5) rfl (by first | exact .inl rfl | exact .inr rfl)) (cgs_cons (cg_name ec.hN (i := 6) rfl (by first | exact .inl rfl | exact .inr rfl)) cgs_nil))) (by decide) (cs_seq (cs_asg (i := 10) (ce_call (ok_join t) rfl (ec.lo 1) ec.tk (by rfl) t.g_join t.F_join.kp t.b_join (cc_ex (ce_var (pv 5)) (cc_ex (ce_var (pv 6)) cc_nil))) ec.hN rfl (by first | exact .inl rfl | exact .inr rfl) (by decide))
      (cs_seq (cs_asg (i := 11) (ce_call (ok__law_join t) rfl (ec.lo 2) ec.tk (by rfl) t.g__law_join t.F__law_join.kp t.b__law_join (cc_ex (ce_var (pv 5)) (cc_ex (ce_var (pv 6)) cc_nil))) ec.hN rfl (by first | exact .inl rfl | exact .inr rfl) (by decide))
      (cs_seq (cs_if (ct_or (ct_cmp p_isN (ce_call (ok_is_vector t) rfl (ec.lo 5) ec.tk (by rfl) t.g_is_vector t.F_is_vector.kp t.b_is_vector (cc_ex (ce_var (pv 10)) cc_nil)) ce_bl (nomark _)) (ct_or (ct_cmp (p_ne ec.hr) (ce_var (pv 10)) (ce_var (pv 11)) (nomark _)) (ct_or1 (ct_not (ct_val (ce_call (ok__law_same t) rfl (ec.lo 1) ec.tk (by rfl) t.g__law_same t.F__law_same.kp t.b__law_same (cc_ex (ce_call (ok_at_most t) rfl (ec.lo 3) ec.tk (by rfl) t.g_at_most t.F_at_most.kp t.b_at_most (cc_ex (ce_var (pv 5)) (cc_ex (ce_var (pv 6)) cc_nil))) (cc_ex (ce_call (ok__law_at_most t) rfl (ec.lo 2) ec.tk (by rfl) t.g__law_at_most t.F__law_at_most.kp t.b__law_at_most (cc_ex (ce_var (pv 5)) (cc_ex (ce_var (pv 6)) cc_nil))) cc_nil)))))))).pt (cs_one (cs_ret ce_bl)) cs_nil)
      (cs_seq (cs_asg (i := 12) ce_str ec.hN rfl (by first | exact .inl rfl | exact .inr rfl) (by decide))
      (cs_seq (cs_if (ct_cmp (p_eq ec.hr) (ce_var (pv 5)) (ce_var (pv 6)) (nomark _)) (cs_one (cs_asg (i := 12) ce_str ec.hN rfl (by first | exact .inl rfl | exact .inr rfl) (by decide))) (cs_one (cs_if (ct_val (ce_call (ok__law_at_most t) rfl (ec.lo 2) ec.tk (by rfl) t.g__law_at_most t.F__law_at_most.kp t.b__law_at_most (cc_ex (ce_var (pv 5)) (cc_ex (ce_var (pv 6)) cc_nil)))) (cs_one (cs_asg (i := 12) ce_str ec.hN rfl (by first | exact .inl rfl | exact .inr rfl) (by decide))) (cs_one (cs_if (ct_val (ce_call (ok__law_at_most t) rfl (ec.lo 2) ec.tk (by rfl) t.g__law_at_most t.F__law_at_most.kp t.b__law_at_most (cc_ex (ce_var (pv 6)) (cc_ex (ce_var (pv 5)) cc_nil)))) (cs_one (cs_asg (i := 12) ce_str ec.hN rfl (by first | exact .inl rfl | exact .inr rfl) (by decide))) cs_nil)))))
      (cs_one (cs_if (ct_or (ct_cmp (p_ne ec.hr) (ce_call (ok_compare t) rfl (ec.lo 4) ec.tk (by rfl) t.g_compare t.F_compare.kp t.b_compare (cc_ex (ce_var (pv 5)) (cc_ex (ce_var (pv 6)) cc_nil))) (ce_var (pv 12)) (nomark _)) (ct_or (ct_cmp p_isN (ce_call (ok_at_most t) rfl (ec.lo 3) ec.tk (by rfl) t.g_at_most t.F_at_most.kp t.b_at_most (cc_ex (ce_var (pv 5)) (cc_ex (ce_var (pv 10)) cc_nil))) ce_bl (nomark _)) (ct_or (ct_cmp p_isN (ce_call (ok_at_most t) rfl (ec.lo 3) ec.tk (by rfl) t.g_at_most t.F_at_most.kp t.b_at_most (cc_ex (ce_var (pv 6)) (cc_ex (ce_var (pv 10)) cc_nil))) ce_bl (nomark _)) (ct_or1 (ct_cmp (p_ne ec.hr) (ce_call (ok_join t) rfl (ec.lo 1) ec.tk (by rfl) t.g_join t.F_join.kp t.b_join (cc_ex (ce_var (pv 10)) (cc_ex (ce_var (pv 6)) cc_nil))) (ce_var (pv 10)) (nomark _)))))).pt (cs_one (cs_ret ce_bl)) cs_nil))))))))
      (cs_seq (cs_if (ct_or (ct_cmp (p_ne ec.hr) (ce_call (ok_join t) rfl (ec.lo 1) ec.tk (by rfl) t.g_join t.F_join.kp t.b_join (cc_ex (ce_call (ok_join t) rfl (ec.lo 1) ec.tk (by rfl) t.g_join t.F_join.kp t.b_join (cc_ex (ce_var (pv 2)) (cc_ex (ce_var (pv 3)) cc_nil))) (cc_ex (ce_var (pv 4)) cc_nil))) (ce_call (ok_join t) rfl (ec.lo 1) ec.tk (by rfl) t.g_join t.F_join.kp t.b_join (cc_ex (ce_var (pv 2)) (cc_ex (ce_call (ok_join t) rfl (ec.lo 1) ec.tk (by rfl) t.g_join t.F_join.kp t.b_join (cc_ex (ce_var (pv 3)) (cc_ex (ce_var (pv 4)) cc_nil))) cc_nil))) (nomark _)) (ct_or1 (ct_cmp (p_ne ec.hr) (ce_call (ok_join t) rfl (ec.lo 1) ec.tk (by rfl) t.g_join t.F_join.kp t.b_join (cc_ex (ce_var (pv 2)) (cc_ex (ce_var (pv 3)) cc_nil))) (ce_call (ok_join t) rfl (ec.lo 1) ec.tk (by rfl) t.g_join t.F_join.kp t.b_join (cc_ex (ce_var (pv 3)) (cc_ex (ce_var (pv 2)) cc_nil))) (nomark _)))).pt (cs_one (cs_ret ce_bl)) cs_nil)
      (cs_seq (cs_asg (i := 7) (ce_call (ok__law_join t) rfl (ec.lo 2) ec.tk (by rfl) t.g__law_join t.F__law_join.kp t.b__law_join (cc_ex (ce_call (ok__law_join t) rfl (ec.lo 2) ec.tk (by rfl) t.g__law_join t.F__law_join.kp t.b__law_join (cc_ex (ce_var (pv 2)) (cc_ex (ce_var (pv 3)) cc_nil))) (cc_ex (ce_var (pv 4)) cc_nil))) ec.hN rfl (by first | exact .inl rfl | exact .inr rfl) (by decide))
      (cs_seq (cs_if (ct_cmp p_isN (ce_call (ok_at_most t) rfl (ec.lo 3) ec.tk (by rfl) t.g_at_most t.F_at_most.kp t.b_at_most (cc_ex (ce_call (ok_join t) rfl (ec.lo 1) ec.tk (by rfl) t.g_join t.F_join.kp t.b_join (cc_ex (ce_var (pv 2)) (cc_ex (ce_var (pv 3)) cc_nil))) (cc_ex (ce_var (pv 7)) cc_nil))) ce_bl (nomark _)) (cs_one (cs_ret ce_bl)) cs_nil)
      (cs_seq (cs_asg (i := 8) (ce_ix (ce_lst (ca_cons ce_str (ca_cons ce_str (ca_cons ce_str (ca_cons ce_str ca_nil))))) (ce_call (ok__law_draw t) rfl (ec.lo 2) ec.tk (by rfl) t.g__law_draw t.F__law_draw.kp t.b__law_draw (cc_nm (pv 1) (cc_ex ce_int cc_nil)))) ec.hN rfl (by first | exact .inl rfl | exact .inr rfl) (by decide))
      (cs_seq (cs_asg (i := 9) (ce_op p_add ce_int (ce_call (ok__law_draw t) rfl (ec.lo 2) ec.tk (by rfl) t.g__law_draw t.F__law_draw.kp t.b__law_draw (cc_nm (pv 1) (cc_ex ce_int cc_nil)))) ec.hN rfl (by first | exact .inl rfl | exact .inr rfl) (by decide))
      (cs_seq (cs_if (ct_and (ct_cmp (p_lt ec.hr) (ce_call (ok__law_number t) rfl (ec.lo 1) ec.tk (by rfl) t.g__law_number t.F__law_number.kp t.b__law_number (cc_ex (ce_var (pv 2)) (cc_ex (ce_var (pv 8)) cc_nil))) (ce_op p_sub (ce_op p_pow ce_int ce_int) ce_int) (nomark _)) (ct_and1 (ct_cmp (p_lt ec.hr) (ce_blt p_len (by rfl) t.n_len boot_len' (ca_cons (ce_var (pv 2)) ca_nil)) ce_int (nomark _)))).pt (cs_seq (cs_asg (i := 10) (ce_call (ok_raised t) rfl (ec.lo 1) ec.tk (by rfl) t.g_raised t.F_raised.kp t.b_raised (cc_ex (ce_var (pv 2)) (cc_ex (ce_var (pv 8)) (cc_ex (ce_var (pv 9)) cc_nil)))) ec.hN rfl (by first | exact .inl rfl | exact .inr rfl) (by decide))
      (cs_seq (cs_asg (i := 11) (ce_bty p_tuple (by rfl) t.n_tuple boot_tuple' (ca_cons (ce_blt (p_sorted ec.hr) (by rfl) t.n_sorted boot_sorted' (ca_cons (ce_op p_add (ce_lc ec.hc ec.hN (ci_seq (ce_var (pv 2))) (own := [("pair", 13)]) (blkOk_by (by show blkC ["script", "draws", "one", "other", "third", "first", "second", "above", "node", "more", "told", "due", "word", "pair"] (defScope s_law) _ [("pair", 13)] = true; decide +kernel)) (fun s18 H18 C18 cl18 fp18 => (cg_name (ec.blk s18 H18 _ _ fp18).hN (i := 13) rfl (by first | exact .inl rfl | exact .inr rfl))) (fun s18 H18 C18 cl18 fp18 => (cts_one (ct_cmp (p_ne (ec.blk s18 H18 _ _ fp18).hr) (ce_ix (ce_var (pv 13)) ce_int) (ce_var (pv 8)) (nomark _)))) (fun s18 H18 C18 cl18 fp18 => (ce_var (pv 13))) (by decide)) (ce_lst (ca_cons (ce_tup (ca_cons (ce_var (pv 8)) (ca_cons (ce_op p_add (ce_call (ok__law_number t) rfl (ec.lo 1) ec.tk (by rfl) t.g__law_number t.F__law_number.kp t.b__law_number (cc_ex (ce_var (pv 2)) (cc_ex (ce_var (pv 8)) cc_nil))) (ce_var (pv 9))) ca_nil))) ca_nil))) ca_nil)) ca_nil)) ec.hN rfl (by first | exact .inl rfl | exact .inr rfl) (by decide))
      (cs_one (cs_if (ct_or (ct_cmp (p_ne ec.hr) (ce_var (pv 10)) (ce_var (pv 11)) (nomark _)) (ct_or (ct_cmp p_isN (ce_call (ok_is_vector t) rfl (ec.lo 5) ec.tk (by rfl) t.g_is_vector t.F_is_vector.kp t.b_is_vector (cc_ex (ce_var (pv 10)) cc_nil)) ce_bl (nomark _)) (ct_or1 (ct_cmp (p_ne ec.hr) (ce_call (ok_number_of t) rfl (ec.lo 1) ec.tk (by rfl) t.g_number_of t.F_number_of.kp t.b_number_of (cc_ex (ce_var (pv 10)) (cc_ex (ce_var (pv 8)) cc_nil))) (ce_op p_add (ce_call (ok__law_number t) rfl (ec.lo 1) ec.tk (by rfl) t.g__law_number t.F__law_number.kp t.b__law_number (cc_ex (ce_var (pv 2)) (cc_ex (ce_var (pv 8)) cc_nil))) (ce_var (pv 9))) (nomark _))))).pt (cs_one (cs_ret ce_bl)) cs_nil)))) cs_nil)
      (cs_one (cs_ret (ce_and (ce_call (ok__law_int t) rfl (ec.lo 1) ec.tk (by rfl) t.g__law_int t.F__law_int.kp t.b__law_int (cc_ex (ce_call (ok_number_of t) rfl (ec.lo 1) ec.tk (by rfl) t.g_number_of t.F_number_of.kp t.b_number_of (cc_ex (ce_var (pv 2)) (cc_ex (ce_var (pv 8)) cc_nil))) cc_nil)) (ce_one (ce_cmp (p_eq ec.hr) (ce_call (ok_number_of t) rfl (ec.lo 1) ec.tk (by rfl) t.g_number_of t.F_number_of.kp t.b_number_of (cc_ex (ce_var (pv 2)) (cc_ex (ce_var (pv 8)) cc_nil))) (ce_call (ok__law_number t) rfl (ec.lo 1) ec.tk (by rfl) t.g__law_number t.F__law_number.kp t.b__law_number (cc_ex (ce_var (pv 2)) (cc_ex (ce_var (pv 8)) cc_nil))) (nomark _))))))))))))))))))
end
end Pu
end G57_part
section M57a_part
set_option Elab.async false
set_option linter.all false
set_option maxRecDepth 100000
set_option maxHeartbeats 1000000
namespace Pu
open PySem PySem.Spec PyProof.Rows L2
theorem abs2 : Int.natAbs 2 = 2 := rfl
theorem abs10 : Int.natAbs 10 = 10 := rfl
theorem ev_mixed (c t : Int) (hc : 0 ≤ c) (ht : 0 ≤ t) : ∃ r : Int, 0 ≤ r ∧ m__law_mixed [.val (.int c), .val (.int t)] = .ok (.val (.int r)) [.val (.int c), .val (.int t)] := by
  simp only [m__law_mixed, g__law_mixed, mOf, okIns, outsOf, sSeq, sNil, sAsg, sAsgT, sRet, sRetV, sRetN, sIf, sIfE, sAnd, sOr, sNot, sPrim, sArgs, sVar, sC, sTrue, sExp, sCall, sCArgs, insOf, backC, fz, sChain, oTupL, oLstL, sUnp, gCons, gN, gNil, gT, sLput, peek, again, List.getElem?_cons_zero, List.getElem?_cons_succ, List.getElem?_nil, List.set_cons_zero, List.set_cons_succ, List.length_cons, List.length_nil, List.replicate_succ, List.replicate_zero, List.cons_append, List.nil_append, List.append_nil, List.contains_cons, List.contains_nil, Sl.owned, List.getD_cons_zero, List.getD_cons_succ, List.map_cons, List.map_nil, Bool.false_and, Bool.and_true, Bool.true_and, Bool.and_false, Bool.not_true, Bool.not_false, Bool.true_or, Bool.false_or, Bool.or_false, Bool.or_true, if_true, if_false, reduceIte, Bool.false_eq_true, Nat.reduceSub, Nat.reduceAdd, Nat.reduceBEq, Nat.reduceLeDiff, Option.map_some, Option.map_none, beq_self_eq_true, Nat.reduceEqDiff, reduceCtorEq, oAdd, oSub, oMul, oFdiv, oMod, oPow, oShl, oShr, oXor, oAnd, oNeg, oLen, oAbs, oInt, oMax2, oMin2, oIx, oEq, oNe, oLt, oGt, oLe, oGe, ltD, oIs, oIsN, oTuple, oList, abs2, abs10, Int.reducePow, Int.reduceNeg, Int.reduceLT, Int.reduceLE, Int.reduceSub, Int.reduceAdd, Int.reduceMul, Int.reduceToNat, Nat.reducePow, Nat.reduceLT, Int.reduceEq, and_true, true_and, or_true, true_or, and_self, or_self, and_false, false_and, or_false, false_or]
  exact ⟨_, Int.emod_nonneg _ (by decide), rfl⟩
theorem ix30 : ixN 3 0 = some 0 := rfl
theorem ix31 : ixN 3 1 = some 1 := rfl
def DrawSt (s : Sl) : Prop := ∃ (t l : Int) (cells : List Int), 0 ≤ t ∧ 0 ≤ l ∧ cells ≠ [] ∧ (∀ z ∈ cells, 0 ≤ z) ∧ s = .lst [.int t, .int l, .list (cells.map .int)]
theorem ix_cells (cells : List Int) (hc : cells ≠ []) (h0 : ∀ z ∈ cells, 0 ≤ z) (t : Int) (ht : 0 ≤ t) : ∃ z : Int, 0 ≤ z ∧ oIx [.list (cells.map .int), .int (t % (cells.length : Int))] = some (.val (.int z)) := by
  have hl : 0 < cells.length := List.length_pos_iff.mpr hc
  have h1 : 0 ≤ t % (cells.length : Int) := Int.emod_nonneg _ (by omega)
  have h2 : t % (cells.length : Int) < cells.length := Int.emod_lt_of_pos _ (by omega)
  obtain ⟨j, hj⟩ := Int.eq_ofNat_of_zero_le h1
  have hj2 : j < cells.length := by omega
  refine ⟨cells[j], h0 _ (List.getElem_mem hj2), ?_⟩
  rw [hj]
  have : atI (cells.map PyData.int) (j : Int) = some (.int cells[j]) := by
    unfold atI ixN
    rw [List.length_map, if_pos (by omega), if_pos (by omega)]
    simp [hj2]
  simp only [oIx, this]
  rfl
theorem ev_draw {s : Sl} (hs : DrawSt s) (size : Int) (h1 : 0 < size) (h2 : size < 2 ^ 64) : ∃ (r : Int) (s' : Sl), 0 ≤ r ∧ r < size ∧ DrawSt s' ∧ m__law_draw [s, .val (.int size)] = .ok (.val (.int r)) [s', .val (.int size)] := by
  obtain ⟨t, l, cells, ht, hl, hc, h0, rfl⟩ := hs
  obtain ⟨z, hz, ez⟩ := ix_cells cells hc h0 t ht
  have hlen : (0 : Int) < cells.length := by have := List.length_pos_iff.mpr hc; omega
  have h2' : size < 18446744073709551616 := by simpa using h2
  have fin : ∀ z' : Int, 0 ≤ z' → ∀ t', 0 ≤ t' → DrawSt (.lst [.int t', .int (z' / size), .list (cells.map .int)]) := fun z' hz' t' ht' => ⟨t', z' / size, cells, ht', Int.ediv_nonneg hz' (by omega), hc, h0, rfl⟩
  by_cases hls : l < size
  · obtain ⟨m, hm, em⟩ := ev_mixed z t hz ht
    by_cases hbig : t < cells.length
    · by_cases hbig2 : 1000000000000000000 ≤ z
      · refine ⟨z % size, _, Int.emod_nonneg _ (by omega), Int.emod_lt_of_pos _ h1, fin z hz (t + 1) (by omega), ?_⟩
        simp only [m__law_draw, g__law_draw, sUnp, ez, em, hls, hlen, h1, h2', hbig, hbig2, ix30, ix31, List.length_map, decide_true, decide_false, mOf, okIns, outsOf, sSeq, sNil, sAsg, sAsgT, sRet, sRetV, sRetN, sIf, sIfE, sAnd, sOr, sNot, sPrim, sArgs, sVar, sC, sTrue, sExp, sCall, sCArgs, insOf, backC, fz, sChain, oTupL, oLstL, sUnp, gCons, gN, gNil, gT, sLput, peek, again, List.getElem?_cons_zero, List.getElem?_cons_succ, List.getElem?_nil, List.set_cons_zero, List.set_cons_succ, List.length_cons, List.length_nil, List.replicate_succ, List.replicate_zero, List.cons_append, List.nil_append, List.append_nil, List.contains_cons, List.contains_nil, Sl.owned, List.getD_cons_zero, List.getD_cons_succ, List.map_cons, List.map_nil, Bool.false_and, Bool.and_true, Bool.true_and, Bool.and_false, Bool.not_true, Bool.not_false, Bool.true_or, Bool.false_or, Bool.or_false, Bool.or_true, if_true, if_false, reduceIte, Bool.false_eq_true, Nat.reduceSub, Nat.reduceAdd, Nat.reduceBEq, Nat.reduceLeDiff, Option.map_some, Option.map_none, beq_self_eq_true, Nat.reduceEqDiff, reduceCtorEq, oAdd, oSub, oMul, oFdiv, oMod, oPow, oShl, oShr, oXor, oAnd, oNeg, oLen, oAbs, oInt, oMax2, oMin2, oEq, oNe, oLt, oGt, oLe, oGe, ltD, oIs, oIsN, oTuple, oList, abs2, abs10, Int.reducePow, Int.reduceNeg, Int.reduceLT, Int.reduceLE, Int.reduceSub, Int.reduceAdd, Int.reduceMul, Int.reduceToNat, Nat.reducePow, Nat.reduceLT, Int.reduceEq, and_true, true_and, or_true, true_or, and_self, or_self, and_false, false_and, or_false, false_or]
      · refine ⟨m % size, _, Int.emod_nonneg _ (by omega), Int.emod_lt_of_pos _ h1, fin m hm (t + 1) (by omega), ?_⟩
        simp only [m__law_draw, g__law_draw, sUnp, ez, em, hls, hlen, h1, h2', hbig, hbig2, ix30, ix31, List.length_map, decide_true, decide_false, mOf, okIns, outsOf, sSeq, sNil, sAsg, sAsgT, sRet, sRetV, sRetN, sIf, sIfE, sAnd, sOr, sNot, sPrim, sArgs, sVar, sC, sTrue, sExp, sCall, sCArgs, insOf, backC, fz, sChain, oTupL, oLstL, sUnp, gCons, gN, gNil, gT, sLput, peek, again, List.getElem?_cons_zero, List.getElem?_cons_succ, List.getElem?_nil, List.set_cons_zero, List.set_cons_succ, List.length_cons, List.length_nil, List.replicate_succ, List.replicate_zero, List.cons_append, List.nil_append, List.append_nil, List.contains_cons, List.contains_nil, Sl.owned, List.getD_cons_zero, List.getD_cons_succ, List.map_cons, List.map_nil, Bool.false_and, Bool.and_true, Bool.true_and, Bool.and_false, Bool.not_true, Bool.not_false, Bool.true_or, Bool.false_or, Bool.or_false, Bool.or_true, if_true, if_false, reduceIte, Bool.false_eq_true, Nat.reduceSub, Nat.reduceAdd, Nat.reduceBEq, Nat.reduceLeDiff, Option.map_some, Option.map_none, beq_self_eq_true, Nat.reduceEqDiff, reduceCtorEq, oAdd, oSub, oMul, oFdiv, oMod, oPow, oShl, oShr, oXor, oAnd, oNeg, oLen, oAbs, oInt, oMax2, oMin2, oEq, oNe, oLt, oGt, oLe, oGe, ltD, oIs, oIsN, oTuple, oList, abs2, abs10, Int.reducePow, Int.reduceNeg, Int.reduceLT, Int.reduceLE, Int.reduceSub, Int.reduceAdd, Int.reduceMul, Int.reduceToNat, Nat.reducePow, Nat.reduceLT, Int.reduceEq, and_true, true_and, or_true, true_or, and_self, or_self, and_false, false_and, or_false, false_or]
    · refine ⟨m % size, _, Int.emod_nonneg _ (by omega), Int.emod_lt_of_pos _ h1, fin m hm (t + 1) (by omega), ?_⟩
      simp only [m__law_draw, g__law_draw, sUnp, ez, em, hls, hlen, h1, h2', hbig, ix30, ix31, List.length_map, decide_true, decide_false, mOf, okIns, outsOf, sSeq, sNil, sAsg, sAsgT, sRet, sRetV, sRetN, sIf, sIfE, sAnd, sOr, sNot, sPrim, sArgs, sVar, sC, sTrue, sExp, sCall, sCArgs, insOf, backC, fz, sChain, oTupL, oLstL, sUnp, gCons, gN, gNil, gT, sLput, peek, again, List.getElem?_cons_zero, List.getElem?_cons_succ, List.getElem?_nil, List.set_cons_zero, List.set_cons_succ, List.length_cons, List.length_nil, List.replicate_succ, List.replicate_zero, List.cons_append, List.nil_append, List.append_nil, List.contains_cons, List.contains_nil, Sl.owned, List.getD_cons_zero, List.getD_cons_succ, List.map_cons, List.map_nil, Bool.false_and, Bool.and_true, Bool.true_and, Bool.and_false, Bool.not_true, Bool.not_false, Bool.true_or, Bool.false_or, Bool.or_false, Bool.or_true, if_true, if_false, reduceIte, Bool.false_eq_true, Nat.reduceSub, Nat.reduceAdd, Nat.reduceBEq, Nat.reduceLeDiff, Option.map_some, Option.map_none, beq_self_eq_true, Nat.reduceEqDiff, reduceCtorEq, oAdd, oSub, oMul, oFdiv, oMod, oPow, oShl, oShr, oXor, oAnd, oNeg, oLen, oAbs, oInt, oMax2, oMin2, oEq, oNe, oLt, oGt, oLe, oGe, ltD, oIs, oIsN, oTuple, oList, abs2, abs10, Int.reducePow, Int.reduceNeg, Int.reduceLT, Int.reduceLE, Int.reduceSub, Int.reduceAdd, Int.reduceMul, Int.reduceToNat, Nat.reducePow, Nat.reduceLT, Int.reduceEq, and_true, true_and, or_true, true_or, and_self, or_self, and_false, false_and, or_false, false_or]
  · refine ⟨l % size, _, Int.emod_nonneg _ (by omega), Int.emod_lt_of_pos _ h1, fin l hl t ht, ?_⟩
    simp only [m__law_draw, g__law_draw, sUnp, ez, hls, hlen, h1, h2', ix30, ix31, List.length_map, decide_true, decide_false, mOf, okIns, outsOf, sSeq, sNil, sAsg, sAsgT, sRet, sRetV, sRetN, sIf, sIfE, sAnd, sOr, sNot, sPrim, sArgs, sVar, sC, sTrue, sExp, sCall, sCArgs, insOf, backC, fz, sChain, oTupL, oLstL, sUnp, gCons, gN, gNil, gT, sLput, peek, again, List.getElem?_cons_zero, List.getElem?_cons_succ, List.getElem?_nil, List.set_cons_zero, List.set_cons_succ, List.length_cons, List.length_nil, List.replicate_succ, List.replicate_zero, List.cons_append, List.nil_append, List.append_nil, List.contains_cons, List.contains_nil, Sl.owned, List.getD_cons_zero, List.getD_cons_succ, List.map_cons, List.map_nil, Bool.false_and, Bool.and_true, Bool.true_and, Bool.and_false, Bool.not_true, Bool.not_false, Bool.true_or, Bool.false_or, Bool.or_false, Bool.or_true, if_true, if_false, reduceIte, Bool.false_eq_true, Nat.reduceSub, Nat.reduceAdd, Nat.reduceBEq, Nat.reduceLeDiff, Option.map_some, Option.map_none, beq_self_eq_true, Nat.reduceEqDiff, reduceCtorEq, oAdd, oSub, oMul, oFdiv, oMod, oPow, oShl, oShr, oXor, oAnd, oNeg, oLen, oAbs, oInt, oMax2, oMin2, oEq, oNe, oLt, oGt, oLe, oGe, ltD, oIs, oIsN, oTuple, oList, abs2, abs10, Int.reducePow, Int.reduceNeg, Int.reduceLT, Int.reduceLE, Int.reduceSub, Int.reduceAdd, Int.reduceMul, Int.reduceToNat, Nat.reducePow, Nat.reduceLT, Int.reduceEq, and_true, true_and, or_true, true_or, and_self, or_self, and_false, false_and, or_false, false_or]
end Pu
end M57a_part
section M57b_part
set_option Elab.async false
set_option linter.all false
set_option maxRecDepth 100000
set_option maxHeartbeats 1000000
/-! Vectors as lists of pairs. -/
namespace Pu
open PySem PySem.Spec PyProof.Rows L2
abbrev V2 := List (Str × Int)
def encP (p : Str × Int) : D := .tuple [.str p.1, .int p.2]
def encK (p : Str × Int) : D × D := (.str p.1, .int p.2)
def enc (v : V2) : D := .tuple (v.map encP)
def look (v : V2) (x : Str) : Int := match v.find? (fun p => decide (p.1 = x)) with
  | some p => p.2
  | none => 0
def nd (v : V2) : Prop := (v.map (·.1)).Nodup
def pz (v : V2) : Prop := ∀ p ∈ v, 1 ≤ p.2
def srt (v : V2) : Prop := v.Pairwise fun a b => a.1.cps.toList < b.1.cps.toList
theorem look_nil {x : Str} : look [] x = 0 := rfl
theorem look_cons {p : Str × Int} {v : V2} {x : Str} : look (p :: v) x = if p.1 = x then p.2 else look v x := by
  unfold look
  rw [List.find?_cons]
  by_cases h : p.1 = x
  · simp [h]
  · simp [h]
theorem look_none {v : V2} {x : Str} (h : ∀ p ∈ v, p.1 ≠ x) : look v x = 0 := by
  induction v with
  | nil => rfl
  | cons p v ih => rw [look_cons, if_neg (h p List.mem_cons_self)]; exact ih fun q hq => h q (List.mem_cons_of_mem _ hq)
theorem look_mem {v : V2} (hn : nd v) {p : Str × Int} (h : p ∈ v) : look v p.1 = p.2 := by
  induction v with
  | nil => cases h
  | cons q v ih =>
    unfold nd at hn
    rw [List.map_cons, List.nodup_cons] at hn
    rw [look_cons]
    rcases List.mem_cons.mp h with e | h
    · subst e; simp
    · have : q.1 ≠ p.1 := fun z => hn.1 (by rw [z]; exact List.mem_map.mpr ⟨p, h, rfl⟩)
      rw [if_neg this]; exact ih hn.2 h
theorem mem_look {v : V2} {x : Str} (h : look v x ≠ 0) : (x, look v x) ∈ v := by
  induction v with
  | nil => exact absurd rfl h
  | cons p v ih =>
    rw [look_cons] at h ⊢
    by_cases e : p.1 = x
    · rw [if_pos e]; subst e; exact List.mem_cons_self
    · rw [if_neg e] at h ⊢; exact List.mem_cons_of_mem _ (ih h)
theorem look_nonneg {v : V2} (hp : pz v) (x : Str) : 0 ≤ look v x := by
  induction v with
  | nil => exact Int.le_refl 0
  | cons p v ih =>
    rw [look_cons]
    split
    · have := hp p List.mem_cons_self; omega
    · exact ih fun q hq => hp q (List.mem_cons_of_mem _ hq)
theorem str_irr (x : Str) : ¬ x.cps.toList < x.cps.toList := List.lt_irrefl _
theorem str_ne {x y : Str} (h : x.cps.toList < y.cps.toList) : x ≠ y := fun e => by subst e; exact str_irr _ h
theorem str_tri (x y : Str) : x.cps.toList < y.cps.toList ∨ x = y ∨ y.cps.toList < x.cps.toList := by
  by_cases h1 : x.cps.toList < y.cps.toList
  · exact .inl h1
  · by_cases h2 : y.cps.toList < x.cps.toList
    · exact .inr (.inr h2)
    · exact .inr (.inl (PySem.W.str_of_cps (List.le_antisymm (List.not_lt.mp h2) (List.not_lt.mp h1))))
theorem srt_nd {v : V2} (h : srt v) : nd v := by
  unfold nd srt at *
  rw [List.Nodup, List.pairwise_map]
  exact h.imp fun h => str_ne h
theorem vec_ext : ∀ {u v : V2}, srt u → srt v → pz u → pz v → (∀ x, look u x = look v x) → u = v
  | [], [], _, _, _, _, _ => rfl
  | a :: u, [], _, _, hp, _, h => by
    have h1 := h a.1
    rw [look_cons, if_pos rfl, look_nil] at h1
    have := hp a List.mem_cons_self
    omega
  | [], b :: v, _, _, _, hp, h => by
    have h1 := h b.1
    rw [look_cons, if_pos rfl, look_nil] at h1
    have := hp b List.mem_cons_self
    omega
  | a :: u, b :: v, su, sv, pu, pv, h => by
    unfold srt at su sv
    rw [List.pairwise_cons] at su sv
    have ha := pu a List.mem_cons_self
    have hb := pv b List.mem_cons_self
    have e1 : a.1 = b.1 := by
      rcases str_tri a.1 b.1 with z | z | z
      · have h1 := h a.1
        rw [look_cons, if_pos rfl, look_none (v := b :: v) (fun p hp => ?_)] at h1
        · omega
        · rcases List.mem_cons.mp hp with e | hp
          · subst e; exact fun e => str_ne z e.symm
          · exact fun e => str_ne (List.lt_trans z (sv.1 p hp)) e.symm
      · exact z
      · have h1 := h b.1
        rw [look_cons (p := b), if_pos rfl, look_none (v := a :: u) (fun p hp => ?_)] at h1
        · omega
        · rcases List.mem_cons.mp hp with e | hp
          · subst e; exact fun e => str_ne z e.symm
          · exact fun e => str_ne (List.lt_trans z (su.1 p hp)) e.symm
    have e2 : a.2 = b.2 := by
      have h1 := h a.1
      rwa [look_cons, if_pos rfl, look_cons, if_pos e1.symm] at h1
    have e3 : u = v := vec_ext su.2 sv.2 (fun p hp => pu p (List.mem_cons_of_mem _ hp)) (fun p hp => pv p (List.mem_cons_of_mem _ hp)) fun x => by
      by_cases hx : x = a.1
      · subst hx
        rw [look_none fun p hp => fun e => str_ne (su.1 p hp) e.symm, look_none fun p hp => fun e => str_ne (sv.1 p hp) (by rw [← e1]; exact e.symm)]
      · have h1 := h x
        rwa [look_cons, if_neg (fun e => hx e.symm), look_cons, if_neg (fun e => hx (by rw [e1]; exact e.symm))] at h1
    rw [e3, Prod.ext e1 e2]
theorem look_perm {u v : V2} (h : u.Perm v) (hn : nd u) (x : Str) : look u x = look v x := by
  have hv : nd v := (h.map _).nodup_iff.mp hn
  by_cases e : ∃ p ∈ u, p.1 = x
  · obtain ⟨p, hp, rfl⟩ := e
    rw [look_mem hn hp, look_mem hv (h.mem_iff.mp hp)]
  · rw [look_none fun p hp z => e ⟨p, hp, z⟩, look_none fun p hp z => e ⟨p, h.mem_iff.mpr hp, z⟩]

/-! ### dicts -/
def putV (v : V2) (x : Str) (n : Int) : V2 := if (v.any fun p => decide (p.1 = x)) = true then v.map (fun p => if p.1 = x then (p.1, n) else p) else v ++ [(x, n)]
theorem put_enc (v : V2) (x : Str) (n : Int) : dPut (v.map encK) (.str x) (.int n) = (putV v x n).map encK := by
  unfold dPut putV
  have e1 : ((v.map encK).any fun p => keq p.1 (.str x)) = (v.any fun p => decide (p.1 = x)) := by
    rw [List.any_map]; rfl
  rw [e1]
  split
  · rw [List.map_map, List.map_map]
    refine List.map_congr_left fun p _ => ?_
    simp only [Function.comp, encK, keq]
    by_cases h : p.1 = x <;> simp [h]
  · rw [List.map_append]; rfl
theorem get_enc (v : V2) (x : Str) : dGet (v.map encK) (.str x) = (v.find? fun p => decide (p.1 = x)).map fun p => PyData.int p.2 := by
  unfold dGet
  rw [List.find?_map]
  have : ((fun p : D × D => keq p.1 (.str x)) ∘ encK) = fun p : Str × Int => decide (p.1 = x) := rfl
  rw [this, Option.map_map]
  rfl
theorem get_look (v : V2) (x : Str) : dLook (v.map encK) (.str x) = some (dGet (v.map encK) (.str x)) ∧ (dGet (v.map encK) (.str x)).getD (.int 0) = .int (look v x) := by
  refine ⟨rfl, ?_⟩
  rw [get_enc]
  unfold look
  cases v.find? fun p => decide (p.1 = x) <;> rfl
theorem look_put (v : V2) (x y : Str) (n : Int) : look (putV v x n) y = if y = x then n else look v y := by
  unfold putV
  by_cases h : (v.any fun p => decide (p.1 = x)) = true
  · rw [if_pos h]
    rw [List.any_eq_true] at h
    obtain ⟨q, hq, e⟩ := h
    have e : q.1 = x := of_decide_eq_true e
    induction v with
    | nil => cases hq
    | cons p v ih =>
      rw [List.map_cons, look_cons, look_cons]
      by_cases hp : p.1 = x
      · rw [if_pos hp]
        by_cases hy : y = x
        · rw [if_pos hy, if_pos (by rw [hp, hy])]
        · rw [if_neg hy, if_neg (by rw [hp]; exact fun z => hy z.symm), if_neg (by rw [hp]; exact fun z => hy z.symm)]
          clear ih hq
          induction v with
          | nil => rfl
          | cons p v ih =>
            rw [List.map_cons, look_cons, look_cons, ih]
            by_cases hp : p.1 = x
            · rw [if_pos hp, if_neg (by rw [hp]; exact fun z => hy z.symm), if_neg (by rw [hp]; exact fun z => hy z.symm)]
            · rw [if_neg hp]
      · rw [if_neg hp]
        have hq' : q ∈ v := (List.mem_cons.mp hq).resolve_left fun z => hp (by rw [← z]; exact e)
        rw [ih hq']
        by_cases hy : y = x
        · rw [if_pos hy, if_pos hy, if_neg (by rw [hy]; exact hp)]
        · rw [if_neg hy, if_neg hy]
  · rw [if_neg h]
    have h' : ∀ p ∈ v, p.1 ≠ x := fun p hp e => h (List.any_eq_true.mpr ⟨p, hp, decide_eq_true e⟩)
    clear h
    induction v with
    | nil =>
      rw [List.nil_append, look_cons, look_nil]
      by_cases hy : y = x
      · rw [if_pos hy, if_pos hy.symm]
      · rw [if_neg hy, if_neg fun z => hy z.symm]
    | cons p v ih =>
      rw [List.cons_append, look_cons, look_cons, ih fun q hq => h' q (List.mem_cons_of_mem _ hq)]
      by_cases hy : y = x
      · rw [if_pos hy, if_pos hy, if_neg (by rw [hy]; exact h' p List.mem_cons_self)]
      · rw [if_neg hy, if_neg hy]
theorem put_names (v : V2) (x : Str) (n : Int) : (putV v x n).map (·.1) = if (v.any fun p => decide (p.1 = x)) = true then v.map (·.1) else v.map (·.1) ++ [x] := by
  unfold putV
  split
  · rw [List.map_map]
    refine List.map_congr_left fun p _ => ?_
    simp only [Function.comp]
    split <;> rfl
  · rw [List.map_append]; rfl
theorem put_nd {v : V2} {x : Str} {n : Int} (h : nd v) : nd (putV v x n) := by
  unfold nd at *
  rw [put_names]
  split
  · exact h
  · rename_i hx
    rw [List.nodup_append]
    refine ⟨h, by simp, fun a ha b hb => ?_⟩
    rw [List.mem_singleton] at hb
    subst hb
    intro e
    subst e
    obtain ⟨p, hp, e⟩ := List.mem_map.mp ha
    exact hx (List.any_eq_true.mpr ⟨p, hp, decide_eq_true e⟩)
theorem put_pz {v : V2} {x : Str} {n : Int} (h : pz v) (hn : 1 ≤ n) : pz (putV v x n) := by
  unfold putV
  split
  · intro p hp
    obtain ⟨q, hq, rfl⟩ := List.mem_map.mp hp
    by_cases e : q.1 = x
    · rw [if_pos e]; exact hn
    · rw [if_neg e]; exact h q hq
  · intro p hp
    rcases List.mem_append.mp hp with hp | hp
    · exact h p hp
    · rw [List.mem_singleton] at hp; subst hp; exact hn
theorem pairs_enc : ∀ v : V2, pairsD (v.map encP) = some (v.map encK)
  | [] => rfl
  | p :: v => by
    rw [List.map_cons, encP, pairsD, pairs_enc v]
    rfl
theorem merge_enc {v : V2} (h : nd v) : mergeD (v.map encK) = v.map encK := by
  unfold mergeD
  have key : ∀ (r acc : V2), nd (acc ++ r) → (r.map encK).foldl (fun acc p => dPut acc p.1 p.2) (acc.map encK) = (acc ++ r).map encK := by
    intro r
    induction r with
    | nil => intro acc _; simp
    | cons p r ih =>
      intro acc hn
      rw [List.map_cons, List.foldl_cons]
      have e : dPut (acc.map encK) (encK p).1 (encK p).2 = (acc ++ [p]).map encK := by
        show dPut (acc.map encK) (.str p.1) (.int p.2) = _
        rw [put_enc]
        unfold putV
        have : ¬ (acc.any fun q => decide (q.1 = p.1)) = true := fun z => by
          obtain ⟨q, hq, e⟩ := List.any_eq_true.mp z
          have e : q.1 = p.1 := of_decide_eq_true e
          unfold nd at hn
          rw [List.map_append, List.nodup_append] at hn
          exact hn.2.2 q.1 (List.mem_map.mpr ⟨q, hq, rfl⟩) p.1 (List.mem_map.mpr ⟨p, List.mem_cons_self, rfl⟩) e
        rw [if_neg this]
      rw [e, ih (acc ++ [p]) (by rw [List.append_assoc]; exact hn), List.append_assoc]
      rfl
  have := key v [] (by simpa using h)
  simpa using this
end Pu
end M57b_part
section M57c_part
set_option Elab.async false
set_option linter.all false
set_option maxRecDepth 100000
set_option maxHeartbeats 1000000
/-! Sorting vectors; the first defs. -/
namespace Pu
open PySem PySem.Spec PyProof.Rows L2
def leP (p q : Str × Int) : Bool := PySem.W.dataLe false (fun d : D => d) (encP p) (encP q)
theorem alike_ss (x y : Str) : PySem.W.alike (.str x) (.str y) = true := by simp [PySem.W.alike]
theorem alike_ii (x y : Int) : PySem.W.alike (.int x) (.int y) = true := by simp [PySem.W.alike]
theorem alike_pp (p q : Str × Int) : PySem.W.alike (encP p) (encP q) = true := by simp [encP, PySem.W.alike, PySem.W.alikeAll]
theorem lt_pair (p q : Str × Int) : PySem.W.dataLt (encP p) (encP q) = if p.1 = q.1 then decide (p.2 < q.2) else decide (p.1.cps.toList < q.1.cps.toList) := by
  unfold encP
  rw [PySem.W.dataLt_pair (alike_ss _ _) (alike_ii _ _), PySem.W.dataLt_str, PySem.W.dataLt_int]
  have e1 : PyData.eqv (.str p.1) (.str q.1) = decide (p.1 = q.1) := by
    rw [PyData.eqv]
    by_cases h : p.1 = q.1 <;> simp [h]
  have e2 : PyData.eqv (.int p.2) (.int q.2) = decide (p.2 = q.2) := by
    rw [PyData.eqv]
    by_cases h : p.2 = q.2 <;> simp [h]
  rw [e1, e2]
  by_cases h : p.1 = q.1
  · simp only [h, decide_true, if_true]
    by_cases h2 : p.2 = q.2
    · simp [h2]
    · simp [h2]
  · simp [h]
theorem leP_iff (p q : Str × Int) : leP p q = true ↔ p.1.cps.toList < q.1.cps.toList ∨ (p.1 = q.1 ∧ p.2 ≤ q.2) := by
  unfold leP
  rw [PySem.W.dataLe_eq]
  show (!PySem.W.dataLt (encP q) (encP p)) = true ↔ _
  rw [lt_pair]
  by_cases h : q.1 = p.1
  · rw [if_pos h]
    constructor
    · intro z
      simp at z
      exact .inr ⟨h.symm, z⟩
    · intro z
      rcases z with z | z
      · exact absurd h.symm (str_ne z)
      · simp; exact z.2
  · rw [if_neg h]
    constructor
    · intro z
      rcases str_tri p.1 q.1 with y | y | y
      · exact .inl y
      · exact absurd y.symm h
      · rw [decide_eq_true y] at z; cases z
    · intro z
      rcases z with z | z
      · have : ¬ q.1.cps.toList < p.1.cps.toList := fun y => str_irr _ (List.lt_trans z y)
        rw [decide_eq_false this]; rfl
      · exact absurd z.1.symm h
theorem leP_trans (a b c : Str × Int) (h1 : leP a b = true) (h2 : leP b c = true) : leP a c = true := by
  rw [leP_iff] at *
  rcases h1 with h1 | ⟨e1, h1⟩ <;> rcases h2 with h2 | ⟨e2, h2⟩
  · exact .inl (List.lt_trans h1 h2)
  · exact .inl (by rw [← e2]; exact h1)
  · exact .inl (by rw [e1]; exact h2)
  · exact .inr ⟨e1.trans e2, by omega⟩
theorem leP_total (a b : Str × Int) : (leP a b || leP b a) = true := by
  rw [Bool.or_eq_true, leP_iff, leP_iff]
  rcases str_tri a.1 b.1 with h | h | h
  · exact .inl (.inl h)
  · rcases Int.le_total a.2 b.2 with z | z
    · exact .inl (.inr ⟨h, z⟩)
    · exact .inr (.inr ⟨h.symm, z⟩)
  · exact .inr (.inl h)
def sortV (v : V2) : V2 := v.mergeSort leP
theorem sort_enc (v : V2) : sortD (v.map encP) = (sortV v).map encP := (PySem.W.sort_maps encP (fun a _ b _ => rfl)).symm
theorem sort_perm (v : V2) : (sortV v).Perm v := List.mergeSort_perm v leP
theorem sort_nd {v : V2} (h : nd v) : nd (sortV v) := ((sort_perm v).map _).nodup_iff.mpr h
theorem sort_pz {v : V2} (h : pz v) : pz (sortV v) := fun p hp => h p ((sort_perm v).mem_iff.mp hp)
theorem sort_srt {v : V2} (h : nd v) : srt (sortV v) := by
  have h1 : (sortV v).Pairwise (fun a b => leP a b = true) := List.pairwise_mergeSort leP_trans leP_total v
  have h2 := sort_nd h
  unfold nd at h2
  rw [List.Nodup, List.pairwise_map] at h2
  exact (h1.and h2).imp fun {a b} z => by
    rcases (leP_iff a b).mp z.1 with y | y
    · exact y
    · exact absurd y.1 z.2
theorem sort_look {v : V2} (h : nd v) (x : Str) : look (sortV v) x = look v x := look_perm (sort_perm v) (sort_nd h) x
theorem sort_len (v : V2) : (sortV v).length = v.length := (sort_perm v).length_eq
theorem depth_pair (p : Str × Int) : (encP p).depth ≤ 50 := by
  unfold encP
  simp [PyData.depth, PyData.depthAll]
theorem sort_ok {v : V2} (h : v.length ≤ 1000) : sortOk (v.map encP) = true := by
  unfold sortOk allAlikeB sortableB isSmall
  simp only [Bool.and_eq_true, List.all_eq_true, List.length_map, decide_eq_true_eq, Bool.or_eq_true]
  refine ⟨⟨⟨fun d hd e he => ?_, .inl fun d hd => ?_⟩, by omega⟩, fun d hd => ?_⟩
  · obtain ⟨p, _, rfl⟩ := List.mem_map.mp hd
    obtain ⟨q, _, rfl⟩ := List.mem_map.mp he
    exact alike_pp p q
  · obtain ⟨p, _, rfl⟩ := List.mem_map.mp hd
    rfl
  · obtain ⟨p, _, rfl⟩ := List.mem_map.mp hd
    exact depth_pair p
theorem sorted_items {r : RK} {ρ ρ1 : En} {v : V2} (h : peek r ρ = .ok (.dct (v.map encK)) ρ1) (hl : v.length ≤ 1000) : sSortIt r ρ = .ok (.lst ((sortV v).map encP)) ρ1 := by
  have e : (v.map encK).map pairOf = v.map encP := by rw [List.map_map]; rfl
  simp only [sSortIt, h, e, sort_ok hl, if_true, sort_enc]
theorem dict_enc {v : V2} (h : nd v) (hl : v.length ≤ 1000) : oDict [enc v] = some (.dct (v.map encK)) := by
  have : isSmall (v.map encP).length = true := by unfold isSmall; rw [List.length_map]; exact decide_eq_true (by omega)
  simp only [oDict, enc, this, if_true, pairs_enc, Option.map_some, merge_enc h]
/-! ### number_of, _law_number -/
theorem ev_number_of {v : V2} (h : nd v) (hl : v.length ≤ 1000) (x : Str) : m_number_of [.val (enc v), .val (.str x)] = .ok (.val (.int (look v x))) [.val (enc v), .val (.str x)] := by
  simp only [m_number_of, g_number_of, sGet2, dict_enc h hl, (get_look v x).1, (get_look v x).2, mOf, okIns, outsOf, sSeq, sNil, sAsg, sAsgT, sRet, sRetV, sRetN, sIf, sIfE, sAnd, sOr, sNot, sPrim, sArgs, sVar, sC, sTrue, sExp, sCall, sCArgs, insOf, backC, fz, sChain, oTupL, oLstL, sUnp, gCons, gN, gNil, gT, sLput, peek, again, List.getElem?_cons_zero, List.getElem?_cons_succ, List.getElem?_nil, List.set_cons_zero, List.set_cons_succ, List.length_cons, List.length_nil, List.replicate_succ, List.replicate_zero, List.cons_append, List.nil_append, List.append_nil, List.contains_cons, List.contains_nil, Sl.owned, List.getD_cons_zero, List.getD_cons_succ, List.map_cons, List.map_nil, Bool.false_and, Bool.and_true, Bool.true_and, Bool.and_false, Bool.not_true, Bool.not_false, Bool.true_or, Bool.false_or, Bool.or_false, Bool.or_true, if_true, if_false, reduceIte, Bool.false_eq_true, Nat.reduceSub, Nat.reduceAdd, Nat.reduceBEq, Nat.reduceLeDiff, Option.map_some, Option.map_none, beq_self_eq_true, Nat.reduceEqDiff, reduceCtorEq]
def fstD : D → D
  | .tuple [a, _] => a
  | d => d
def sndD : D → D
  | .tuple [_, b] => b
  | d => d
theorem ints_of : ∀ ns : List Int, intsOf (ns.map PyData.int) = some ns
  | [] => rfl
  | n :: ns => by rw [List.map_cons, intsOf, ints_of ns]; rfl
theorem eqv_str (x y : Str) : PyData.eqv (.str x) (.str y) = decide (x = y) := by
  rw [PyData.eqv]
  by_cases h : x = y <;> simp [h]
theorem eqv_int (x y : Int) : PyData.eqv (.int x) (.int y) = decide (x = y) := by
  rw [PyData.eqv]
  by_cases h : x = y <;> simp [h]
theorem eq_str (x y : Str) : oEq [.str x, .str y] = some (.val (.bool (decide (x = y)))) := by
  have : PyData.depth (.str x) ≤ 60 := by simp [PyData.depth]
  simp only [oEq, this, true_or, if_true, eqv_str]
theorem eq_int (x y : Int) : oEq [.int x, .int y] = some (.val (.bool (decide (x = y)))) := by
  have : PyData.depth (.int x) ≤ 60 := by simp [PyData.depth]
  simp only [oEq, this, true_or, if_true, eqv_int]
theorem sum_look {v : V2} (h : nd v) (x : Str) : ((v.filter fun p => decide (p.1 = x)).map (·.2)).sum = look v x := by
  induction v with
  | nil => rfl
  | cons p v ih =>
    unfold nd at h
    rw [List.map_cons, List.nodup_cons] at h
    rw [look_cons, List.filter_cons]
    by_cases e : p.1 = x
    · subst e
      have : v.filter (fun q => decide (q.1 = p.1)) = [] := by
        rw [List.filter_eq_nil_iff]
        intro q hq z
        exact h.1 (by rw [← of_decide_eq_true z]; exact List.mem_map.mpr ⟨q, hq, rfl⟩)
      simp [this]
    · simp only [e, decide_false, Bool.false_eq_true, if_false]
      exact ih h.2
theorem ev_law_number {v : V2} (h : nd v) (hl : v.length ≤ 1000) (x : Str) : m__law_number [.val (enc v), .val (.str x)] = .ok (.val (.int (look v x))) [.val (enc v), .val (.str x)] := by
  have key : ∀ a b, sLc [2, 3] (hSeq (sVar 0)) (gT 2 (gCons (gN 2) (gCons (gN 3) gNil))) (sPrim oEq [(sVar 2), (sVar 1)]) (sVar 3) [.val (enc v), .val (.str x), a, b] =
      .ok (.lst (((v.map encP).filter fun d => PyData.eqv (fstD d) (.str x)).map sndD)) [.val (enc v), .val (.str x), a, b] := by
    intro a b
    refine sLc_pure _ _ (its := v.map encP) rfl (by rw [List.length_map]; omega) fun d hd => ?_
    obtain ⟨p, hp, rfl⟩ := List.mem_map.mp hd
    refine ⟨[.val (enc v), .val (.str x), .val (.str p.1), .val (.int p.2)], rfl, rfl, rfl, ?_, fun _ => ⟨.val (.int p.2), rfl, rfl⟩⟩
    simp only [eq_str, mOf, okIns, outsOf, sSeq, sNil, sAsg, sAsgT, sRet, sRetV, sRetN, sIf, sIfE, sAnd, sOr, sNot, sPrim, sArgs, sVar, sC, sTrue, sExp, sCall, sCArgs, insOf, backC, fz, sChain, oTupL, oLstL, sUnp, gCons, gN, gNil, gT, sLput, peek, again, List.getElem?_cons_zero, List.getElem?_cons_succ, List.getElem?_nil, List.set_cons_zero, List.set_cons_succ, List.length_cons, List.length_nil, List.replicate_succ, List.replicate_zero, List.cons_append, List.nil_append, List.append_nil, List.contains_cons, List.contains_nil, Sl.owned, List.getD_cons_zero, List.getD_cons_succ, List.map_cons, List.map_nil, Bool.false_and, Bool.and_true, Bool.true_and, Bool.and_false, Bool.not_true, Bool.not_false, Bool.true_or, Bool.false_or, Bool.or_false, Bool.or_true, if_true, if_false, reduceIte, Bool.false_eq_true, Nat.reduceSub, Nat.reduceAdd, Nat.reduceBEq, Nat.reduceLeDiff, Option.map_some, Option.map_none, beq_self_eq_true, Nat.reduceEqDiff, reduceCtorEq]
    rw [← eqv_str]
    rfl
  have e2 : ((v.map encP).filter fun d => PyData.eqv (fstD d) (.str x)).map sndD = ((v.filter fun p => decide (p.1 = x)).map (·.2)).map PyData.int := by
    have hf : v.filter ((fun d => PyData.eqv (fstD d) (.str x)) ∘ encP) = v.filter fun p => decide (p.1 = x) := List.filter_congr fun p _ => eqv_str p.1 x
    rw [List.filter_map, List.map_map, List.map_map, hf]
    rfl
  simp only [m__law_number, g__law_number, key, e2, oSum, ints_of, sum_look h, mOf, okIns, outsOf, sSeq, sNil, sAsg, sAsgT, sRet, sRetV, sRetN, sIf, sIfE, sAnd, sOr, sNot, sPrim, sArgs, sVar, sC, sTrue, sExp, sCall, sCArgs, insOf, backC, fz, sChain, oTupL, oLstL, sUnp, gCons, gN, gNil, gT, sLput, peek, again, List.getElem?_cons_zero, List.getElem?_cons_succ, List.getElem?_nil, List.set_cons_zero, List.set_cons_succ, List.length_cons, List.length_nil, List.replicate_succ, List.replicate_zero, List.cons_append, List.nil_append, List.append_nil, List.contains_cons, List.contains_nil, Sl.owned, List.getD_cons_zero, List.getD_cons_succ, List.map_cons, List.map_nil, Bool.false_and, Bool.and_true, Bool.true_and, Bool.and_false, Bool.not_true, Bool.not_false, Bool.true_or, Bool.false_or, Bool.or_false, Bool.or_true, if_true, if_false, reduceIte, Bool.false_eq_true, Nat.reduceSub, Nat.reduceAdd, Nat.reduceBEq, Nat.reduceLeDiff, Option.map_some, Option.map_none, beq_self_eq_true, Nat.reduceEqDiff, reduceCtorEq]
end Pu
end M57c_part
section M57d_part
set_option Elab.async false
set_option linter.all false
set_option maxRecDepth 100000
set_option maxHeartbeats 1000000
/-! join, at_most, compare, raised. -/
namespace Pu
open PySem PySem.Spec PyProof.Rows L2
theorem max2 (i j : Int) : oMax2 [.int i, .int j] = some (.val (.int (max i j))) := by
  have : (if j > i then j else i) = max i j := by split <;> omega
  simp only [oMax2, this]
theorem put_len (v : V2) (x : Str) (n : Int) : (putV v x n).length ≤ v.length + 1 := by
  unfold putV
  split
  · rw [List.length_map]; omega
  · rw [List.length_append]; simp
theorem small_of {n : Nat} (h : n ≤ 1000) : isSmall n = true := by unfold isSmall; exact decide_eq_true (by omega)
theorem ev_join {u v : V2} (hu : srt u) (hv : srt v) (pu : pz u) (pv : pz v) (lu : u.length ≤ 100) (lv : v.length ≤ 100) :
    ∃ w, srt w ∧ pz w ∧ w.length ≤ u.length + v.length ∧ (∀ x, look w x = max (look u x) (look v x)) ∧ m_join [.val (enc u), .val (enc v)] = .ok (.val (enc w)) [.val (enc u), .val (enc v)] := by
  have key := for_inv (gt := gT 2 (gCons (gN 3) (gCons (gN 4) gNil))) (g := sDput 2 (sPrim oMax2 [(sVar 4), (sGet2 (.nm 2) (sVar 3) (sC (.int 0)))]) (sVar 3))
    (fun its ρ => ∃ (r kv : V2) (a b : Sl), its = r.map encP ∧ ρ = [.val (enc u), .val (enc v), .dct (kv.map encK), a, b] ∧ (nd kv ∧ pz kv) ∧ (nd r ∧ pz r) ∧ kv.length + r.length ≤ u.length + v.length ∧ ∀ x, max (look r x) (look kv x) = max (look u x) (look v x))
    (u.map encP) [.val (enc u), .val (enc v), .dct (v.map encK), .un, .un] ⟨u, v, .un, .un, rfl, rfl, ⟨srt_nd hv, pv⟩, ⟨srt_nd hu, pu⟩, by omega, fun x => rfl⟩ (by
    rintro d its ρ ⟨r, kv, a, b, e1, rfl, ⟨n1, p1⟩, ⟨n2, p2⟩, hl, hx⟩
    cases r with
    | nil => cases e1
    | cons p r =>
      rw [List.map_cons] at e1
      cases e1
      have hn := n2
      unfold nd at hn
      rw [List.map_cons, List.nodup_cons] at hn
      have hp := p2 p List.mem_cons_self
      have hk : isSmall (kv.map encK).length = true := small_of (by rw [List.length_map]; simp only [List.length_cons] at hl; omega)
      refine ⟨[.val (enc u), .val (enc v), .dct (kv.map encK), .val (.str p.1), .val (.int p.2)], [.val (enc u), .val (enc v), .dct ((putV kv p.1 (max p.2 (look kv p.1))).map encK), .val (.str p.1), .val (.int p.2)], rfl, ?_, r, putV kv p.1 (max p.2 (look kv p.1)), _, _, rfl, rfl, ⟨put_nd n1, put_pz p1 (by omega)⟩, ⟨hn.2, fun q hq => p2 q (List.mem_cons_of_mem _ hq)⟩, ?_, fun y => ?_⟩
      · simp only [sDput, sGet2, (get_look kv p.1).1, (get_look kv p.1).2, max2, hk, keyO, put_enc, mOf, okIns, outsOf, sSeq, sNil, sAsg, sAsgT, sRet, sRetV, sRetN, sIf, sIfE, sAnd, sOr, sNot, sPrim, sArgs, sVar, sC, sTrue, sExp, sCall, sCArgs, insOf, backC, fz, sChain, oTupL, oLstL, sUnp, gCons, gN, gNil, gT, sLput, peek, again, List.getElem?_cons_zero, List.getElem?_cons_succ, List.getElem?_nil, List.set_cons_zero, List.set_cons_succ, List.length_cons, List.length_nil, List.replicate_succ, List.replicate_zero, List.cons_append, List.nil_append, List.append_nil, List.contains_cons, List.contains_nil, Sl.owned, List.getD_cons_zero, List.getD_cons_succ, List.map_cons, List.map_nil, Bool.false_and, Bool.and_true, Bool.true_and, Bool.and_false, Bool.not_true, Bool.not_false, Bool.true_or, Bool.false_or, Bool.or_false, Bool.or_true, if_true, if_false, reduceIte, Bool.false_eq_true, Nat.reduceSub, Nat.reduceAdd, Nat.reduceBEq, Nat.reduceLeDiff, Nat.reduceLT, Option.map_some, Option.map_none, beq_self_eq_true, Nat.reduceEqDiff, reduceCtorEq]
      · have := put_len kv p.1 (max p.2 (look kv p.1))
        simp only [List.length_cons] at hl
        omega
      · have hy := hx y
        rw [look_cons] at hy
        rw [look_put]
        by_cases e : y = p.1
        · subst e
          rw [if_pos rfl] at hy ⊢
          have : look r p.1 = 0 := look_none fun q hq z => hn.1 (by rw [← z]; exact List.mem_map.mpr ⟨q, hq, rfl⟩)
          have := look_nonneg p1 p.1
          omega
        · rw [if_neg (fun z => e z.symm)] at hy
          rw [if_neg e]
          exact hy)
  obtain ⟨ρ', hf, r, kv, a, b, h1, h2, h3, h4, h5, h6⟩ := key
  cases r with
  | cons p r => cases h1
  | nil =>
    subst h2
    simp only [List.length_nil, Nat.add_zero] at h5
    have hk : kv.length ≤ 1000 := by omega
    have hs := sorted_items (r := .nm 2) (ρ := [.val (enc u), .val (enc v), .dct (kv.map encK), a, b]) (v := kv) rfl hk
    refine ⟨sortV kv, sort_srt h3.1, sort_pz h3.2, by rw [sort_len]; exact h5, fun x => ?_, ?_⟩
    · rw [sort_look h3.1]
      have := h6 x
      have := look_nonneg h3.2 x
      rw [look_nil] at *
      omega
    · have hd := dict_enc (srt_nd hv) (by omega : v.length ≤ 1000)
      have hi : hSeq (sVar 0) [.val (enc u), .val (enc v), .dct (v.map encK), .un, .un] = .ok (u.map encP) [.val (enc u), .val (enc v), .dct (v.map encK), .un, .un] := rfl
      simp only [m_join, g_join, sFor, hd, hi, hf, hs, oTuple, mOf, okIns, outsOf, sSeq, sNil, sAsg, sAsgT, sRet, sRetV, sRetN, sIf, sIfE, sAnd, sOr, sNot, sPrim, sArgs, sVar, sC, sTrue, sExp, sCall, sCArgs, insOf, backC, fz, sChain, oTupL, oLstL, sUnp, gCons, gN, gNil, gT, sLput, peek, again, List.getElem?_cons_zero, List.getElem?_cons_succ, List.getElem?_nil, List.set_cons_zero, List.set_cons_succ, List.length_cons, List.length_nil, List.replicate_succ, List.replicate_zero, List.cons_append, List.nil_append, List.append_nil, List.contains_cons, List.contains_nil, Sl.owned, List.getD_cons_zero, List.getD_cons_succ, List.map_cons, List.map_nil, Bool.false_and, Bool.and_true, Bool.true_and, Bool.and_false, Bool.not_true, Bool.not_false, Bool.true_or, Bool.false_or, Bool.or_false, Bool.or_true, if_true, if_false, reduceIte, Bool.false_eq_true, Nat.reduceSub, Nat.reduceAdd, Nat.reduceBEq, Nat.reduceLeDiff, Nat.reduceLT, Option.map_some, Option.map_none, beq_self_eq_true, Nat.reduceEqDiff, reduceCtorEq]
      rfl
/-! ### at_most -/
def leV (u v : V2) : Bool := u.all fun p => decide (p.2 ≤ look v p.1)
theorem leV_iff {u v : V2} (hu : nd u) (pv : pz v) : leV u v = true ↔ ∀ x, look u x ≤ look v x := by
  unfold leV
  rw [List.all_eq_true]
  constructor
  · intro h x
    by_cases e : look u x = 0
    · rw [e]; exact look_nonneg pv x
    · exact of_decide_eq_true (h _ (mem_look e))
  · intro h p hp
    have := h p.1
    rw [look_mem hu hp] at this
    exact decide_eq_true this
theorem le_int (i j : Int) : oLe [.int i, .int j] = some (.val (.bool (decide (i ≤ j)))) := rfl
theorem ev_at_most {u v : V2} (hv : nd v) (lv : v.length ≤ 1000) : m_at_most [.val (enc u), .val (enc v)] = .ok (.val (.bool (leV u v))) [.val (enc u), .val (enc v)] := by
  have key : sAA false (hSeq (sVar 0)) 3 [1] (gT 2 (gCons (gN 1) (gCons (gN 2) gNil))) (sPrim oLe [(sVar 2), (sCall m_number_of [.ex (sVar 0), .ex (sVar 1)])]) [.val (enc u), .val (enc v)] = .ok (.val (.bool (leV u v))) [.val (enc u), .val (enc v)] := by
    have := sAA_pure (stop := false) (h := hSeq (sVar 0)) (n := 3) (cs := [1]) (gt := gT 2 (gCons (gN 1) (gCons (gN 2) gNil))) (fe := sPrim oLe [(sVar 2), (sCall m_number_of [.ex (sVar 0), .ex (sVar 1)])]) (ρ := [.val (enc u), .val (enc v)]) (ρ1 := [.val (enc u), .val (enc v)]) (ins := [.val (enc v)])
      (its := u.map encP) (fun d => match d with | .tuple [.str x, .int n] => decide (n ≤ look v x) | _ => false) rfl rfl fun d hd xs hx => ?_
    · rw [this]
      have e : (u.map encP).all (fun d => match d with | .tuple [.str x, .int n] => decide (n ≤ look v x) | _ => false) = leV u v := by
        rw [List.all_map]; rfl
      rw [cond_false, e]
    · obtain ⟨p, hp, rfl⟩ := List.mem_map.mp hd
      match xs, hx with
      | [a, b], _ =>
        refine ⟨[.val (.str p.1), .val (.int p.2)], rfl, rfl, ?_⟩
        simp only [ev_number_of hv lv, le_int, encP, mOf, okIns, outsOf, sSeq, sNil, sAsg, sAsgT, sRet, sRetV, sRetN, sIf, sIfE, sAnd, sOr, sNot, sPrim, sArgs, sVar, sC, sTrue, sExp, sCall, sCArgs, insOf, backC, fz, sChain, oTupL, oLstL, sUnp, gCons, gN, gNil, gT, sLput, peek, again, List.getElem?_cons_zero, List.getElem?_cons_succ, List.getElem?_nil, List.set_cons_zero, List.set_cons_succ, List.length_cons, List.length_nil, List.replicate_succ, List.replicate_zero, List.cons_append, List.nil_append, List.append_nil, List.contains_cons, List.contains_nil, Sl.owned, List.getD_cons_zero, List.getD_cons_succ, List.map_cons, List.map_nil, Bool.false_and, Bool.and_true, Bool.true_and, Bool.and_false, Bool.not_true, Bool.not_false, Bool.true_or, Bool.false_or, Bool.or_false, Bool.or_true, if_true, if_false, reduceIte, Bool.false_eq_true, Nat.reduceSub, Nat.reduceAdd, Nat.reduceBEq, Nat.reduceLeDiff, Nat.reduceLT, Option.map_some, Option.map_none, beq_self_eq_true, Nat.reduceEqDiff, reduceCtorEq]
  simp only [m_at_most, g_at_most, key, mOf, okIns, outsOf, sSeq, sNil, sAsg, sAsgT, sRet, sRetV, sRetN, sIf, sIfE, sAnd, sOr, sNot, sPrim, sArgs, sVar, sC, sTrue, sExp, sCall, sCArgs, insOf, backC, fz, sChain, oTupL, oLstL, sUnp, gCons, gN, gNil, gT, sLput, peek, again, List.getElem?_cons_zero, List.getElem?_cons_succ, List.getElem?_nil, List.set_cons_zero, List.set_cons_succ, List.length_cons, List.length_nil, List.replicate_succ, List.replicate_zero, List.cons_append, List.nil_append, List.append_nil, List.contains_cons, List.contains_nil, Sl.owned, List.getD_cons_zero, List.getD_cons_succ, List.map_cons, List.map_nil, Bool.false_and, Bool.and_true, Bool.true_and, Bool.and_false, Bool.not_true, Bool.not_false, Bool.true_or, Bool.false_or, Bool.or_false, Bool.or_true, if_true, if_false, reduceIte, Bool.false_eq_true, Nat.reduceSub, Nat.reduceAdd, Nat.reduceBEq, Nat.reduceLeDiff, Nat.reduceLT, Option.map_some, Option.map_none, beq_self_eq_true, Nat.reduceEqDiff, reduceCtorEq]
theorem gt_int (i j : Int) : oGt [.int i, .int j] = some (.val (.bool (decide (j < i)))) := rfl
theorem eqv_nil (l : List D) : oEq [.list l, .list []] = some (.val (.bool l.isEmpty)) := by
  have h : PyData.depth (.list []) ≤ 60 := by simp [PyData.depth, PyData.depthAll]
  simp only [oEq, h, or_true, if_true]
  cases l <;> simp [PyData.eqv, PyData.eqvAll]
theorem ev_law_at_most {u v : V2} (lu : u.length ≤ 1000) (hv : nd v) (lv : v.length ≤ 1000) : m__law_at_most [.val (enc u), .val (enc v)] = .ok (.val (.bool (leV u v))) [.val (enc u), .val (enc v)] := by
  have key : ∀ a b, sLc [2, 3] (hSeq (sVar 0)) (gT 2 (gCons (gN 2) (gCons (gN 3) gNil))) (sPrim oGt [(sVar 3), (sCall m__law_number [.ex (sVar 1), .ex (sVar 2)])]) (sVar 2) [.val (enc u), .val (enc v), a, b] =
      .ok (.lst (((u.map encP).filter fun d => match d with | .tuple [.str x, .int n] => decide (look v x < n) | _ => false).map fstD)) [.val (enc u), .val (enc v), a, b] := by
    intro a b
    refine sLc_pure _ _ (its := u.map encP) rfl (by rw [List.length_map]; omega) fun d hd => ?_
    obtain ⟨p, hp, rfl⟩ := List.mem_map.mp hd
    refine ⟨[.val (enc u), .val (enc v), .val (.str p.1), .val (.int p.2)], rfl, rfl, rfl, ?_, fun _ => ⟨.val (.str p.1), rfl, rfl⟩⟩
    simp only [ev_law_number hv lv, gt_int, encP, mOf, okIns, outsOf, sSeq, sNil, sAsg, sAsgT, sRet, sRetV, sRetN, sIf, sIfE, sAnd, sOr, sNot, sPrim, sArgs, sVar, sC, sTrue, sExp, sCall, sCArgs, insOf, backC, fz, sChain, oTupL, oLstL, sUnp, gCons, gN, gNil, gT, sLput, peek, again, List.getElem?_cons_zero, List.getElem?_cons_succ, List.getElem?_nil, List.set_cons_zero, List.set_cons_succ, List.length_cons, List.length_nil, List.replicate_succ, List.replicate_zero, List.cons_append, List.nil_append, List.append_nil, List.contains_cons, List.contains_nil, Sl.owned, List.getD_cons_zero, List.getD_cons_succ, List.map_cons, List.map_nil, Bool.false_and, Bool.and_true, Bool.true_and, Bool.and_false, Bool.not_true, Bool.not_false, Bool.true_or, Bool.false_or, Bool.or_false, Bool.or_true, if_true, if_false, reduceIte, Bool.false_eq_true, Nat.reduceSub, Nat.reduceAdd, Nat.reduceBEq, Nat.reduceLeDiff, Nat.reduceLT, Option.map_some, Option.map_none, beq_self_eq_true, Nat.reduceEqDiff, reduceCtorEq]
  have e : (((u.map encP).filter fun d => match d with | .tuple [.str x, .int n] => decide (look v x < n) | _ => false).map fstD).isEmpty = leV u v := by
    unfold leV
    rw [List.filter_map, List.map_map, List.isEmpty_map]
    rw [Bool.eq_iff_iff, List.isEmpty_iff, List.filter_eq_nil_iff, List.all_eq_true]
    refine forall_congr' fun p => forall_congr' fun hp => ?_
    show ¬ decide (look v p.1 < p.2) = true ↔ _
    simp
  simp only [m__law_at_most, g__law_at_most, key, eqv_nil, e, mOf, okIns, outsOf, sSeq, sNil, sAsg, sAsgT, sRet, sRetV, sRetN, sIf, sIfE, sAnd, sOr, sNot, sPrim, sArgs, sVar, sC, sTrue, sExp, sCall, sCArgs, insOf, backC, fz, sChain, oTupL, oLstL, sUnp, gCons, gN, gNil, gT, sLput, peek, again, List.getElem?_cons_zero, List.getElem?_cons_succ, List.getElem?_nil, List.set_cons_zero, List.set_cons_succ, List.length_cons, List.length_nil, List.replicate_succ, List.replicate_zero, List.cons_append, List.nil_append, List.append_nil, List.contains_cons, List.contains_nil, Sl.owned, List.getD_cons_zero, List.getD_cons_succ, List.map_cons, List.map_nil, Bool.false_and, Bool.and_true, Bool.true_and, Bool.and_false, Bool.not_true, Bool.not_false, Bool.true_or, Bool.false_or, Bool.or_false, Bool.or_true, if_true, if_false, reduceIte, Bool.false_eq_true, Nat.reduceSub, Nat.reduceAdd, Nat.reduceBEq, Nat.reduceLeDiff, Nat.reduceLT, Option.map_some, Option.map_none, beq_self_eq_true, Nat.reduceEqDiff, reduceCtorEq]
end Pu
end M57d_part
section M57e_part
set_option Elab.async false
set_option linter.all false
set_option maxRecDepth 100000
set_option maxHeartbeats 1000000
/-! _law_join, compare, raised. -/
namespace Pu
open PySem PySem.Spec PyProof.Rows L2
def sortS (l : List Str) : List Str := l.mergeSort fun x y => PySem.W.dataLe false (fun d : D => d) (.str x) (.str y)
theorem leS_eq : (fun x y : Str => PySem.W.dataLe false (fun d : D => d) (.str x) (.str y)) = fun x y => decide (x.cps.toList ≤ y.cps.toList) := PySem.W.dataLe_str (fun x : Str => x)
theorem sortS_enc (l : List Str) : sortD (l.map PyData.str) = (sortS l).map PyData.str := (PySem.W.sort_maps PyData.str (fun a _ b _ => rfl)).symm
theorem sortS_perm (l : List Str) : (sortS l).Perm l := List.mergeSort_perm l _
theorem sortS_srt {l : List Str} (h : l.Nodup) : (sortS l).Pairwise fun a b => a.cps.toList < b.cps.toList := by
  have h1 : (sortS l).Pairwise (fun a b => decide (a.cps.toList ≤ b.cps.toList) = true) := by
    unfold sortS
    rw [leS_eq]
    exact List.pairwise_mergeSort (fun a b c x y => by simp at *; exact List.le_trans x y) (fun a b => by simp; exact List.le_total _ _) l
  have h2 : (sortS l).Nodup := (sortS_perm l).nodup_iff.mpr h
  exact (h1.and h2).imp fun {a b} z => by
    rcases str_tri a b with y | y | y
    · exact y
    · exact absurd y z.2
    · have := of_decide_eq_true z.1
      exact absurd y (List.not_lt.mpr this)
theorem sortS_ok {l : List Str} (h : l.length ≤ 1000) : sortOk (l.map PyData.str) = true := by
  unfold sortOk allAlikeB sortableB isSmall
  simp only [Bool.and_eq_true, List.all_eq_true, List.length_map, decide_eq_true_eq, Bool.or_eq_true]
  refine ⟨⟨⟨fun d hd e he => ?_, .inr fun d hd => ?_⟩, by omega⟩, fun d hd => ?_⟩
  · obtain ⟨p, _, rfl⟩ := List.mem_map.mp hd
    obtain ⟨q, _, rfl⟩ := List.mem_map.mp he
    exact alike_ss p q
  · obtain ⟨p, _, rfl⟩ := List.mem_map.mp hd
    rfl
  · obtain ⟨p, _, rfl⟩ := List.mem_map.mp hd
    simp [PyData.depth]
theorem look_map (l : List Str) (f : Str → Int) (x : Str) : look (l.map fun y => (y, f y)) x = if x ∈ l then f x else 0 := by
  induction l with
  | nil => rfl
  | cons y l ih =>
    rw [List.map_cons, look_cons, ih]
    by_cases e : y = x
    · subst e; simp
    · have : x ≠ y := fun z => e z.symm
      simp [e, this]
theorem ev_law_join {u v : V2} (hu : srt u) (hv : srt v) (pu : pz u) (pv : pz v) (lu : u.length ≤ 100) (lv : v.length ≤ 100) :
    ∃ w, srt w ∧ pz w ∧ (∀ x, look w x = max (look u x) (look v x)) ∧ m__law_join [.val (enc u), .val (enc v)] = .ok (.val (enc w)) [.val (enc u), .val (enc v)] := by
  have nu := srt_nd hu
  have nv := srt_nd hv
  let names : List Str := u.map (·.1) ++ (v.filter fun p => decide (look u p.1 = 0)).map (·.1)
  have k1 : ∀ a b c, sLc [3, 4] (hSeq (sVar 0)) (gT 2 (gCons (gN 3) (gCons (gN 4) gNil))) sTrue (sVar 3) [.val (enc u), .val (enc v), a, b, c] = .ok (.lst ((u.map (·.1)).map PyData.str)) [.val (enc u), .val (enc v), a, b, c] := by
    intro a b c
    have := sLc_pure (vs := [3, 4]) (h := hSeq (sVar 0)) (gt := gT 2 (gCons (gN 3) (gCons (gN 4) gNil))) (ft := sTrue) (fe := sVar 3) (ρ := [.val (enc u), .val (enc v), a, b, c]) (fun _ => true) fstD (its := u.map encP) rfl (by rw [List.length_map]; omega) fun d hd => by
      obtain ⟨p, hp, rfl⟩ := List.mem_map.mp hd
      exact ⟨[.val (enc u), .val (enc v), a, .val (.str p.1), .val (.int p.2)], rfl, rfl, rfl, rfl, fun _ => ⟨.val (.str p.1), rfl, rfl⟩⟩
    rw [this, List.filter_eq_self.mpr fun _ _ => rfl, List.map_map, List.map_map]
    rfl
  have k2 : ∀ a b c, sLc [3, 4] (hSeq (sVar 1)) (gT 2 (gCons (gN 3) (gCons (gN 4) gNil))) (sPrim oEq [(sCall m__law_number [.ex (sVar 0), .ex (sVar 3)]), (sC (.int 0))]) (sVar 3) [.val (enc u), .val (enc v), a, b, c] = .ok (.lst (((v.filter fun p => decide (look u p.1 = 0)).map (·.1)).map PyData.str)) [.val (enc u), .val (enc v), a, b, c] := by
    intro a b c
    have := sLc_pure (vs := [3, 4]) (h := hSeq (sVar 1)) (gt := gT 2 (gCons (gN 3) (gCons (gN 4) gNil))) (ft := sPrim oEq [(sCall m__law_number [.ex (sVar 0), .ex (sVar 3)]), (sC (.int 0))]) (fe := sVar 3) (ρ := [.val (enc u), .val (enc v), a, b, c])
      (fun d => match d with | .tuple [.str x, _] => decide (look u x = 0) | _ => false) fstD (its := v.map encP) rfl (by rw [List.length_map]; omega) fun d hd => by
      obtain ⟨p, hp, rfl⟩ := List.mem_map.mp hd
      refine ⟨[.val (enc u), .val (enc v), a, .val (.str p.1), .val (.int p.2)], rfl, rfl, rfl, ?_, fun _ => ⟨.val (.str p.1), rfl, rfl⟩⟩
      simp only [ev_law_number nu (by omega : u.length ≤ 1000), eq_int, encP, mOf, okIns, outsOf, sSeq, sNil, sAsg, sAsgT, sRet, sRetV, sRetN, sIf, sIfE, sAnd, sOr, sNot, sPrim, sArgs, sVar, sC, sExp, sCall, sCArgs, insOf, backC, fz, sChain, oTupL, oLstL, sUnp, gCons, gN, gNil, gT, sLput, peek, again, List.getElem?_cons_zero, List.getElem?_cons_succ, List.getElem?_nil, List.set_cons_zero, List.set_cons_succ, List.length_cons, List.length_nil, List.replicate_succ, List.replicate_zero, List.cons_append, List.nil_append, List.append_nil, List.contains_cons, List.contains_nil, Sl.owned, List.getD_cons_zero, List.getD_cons_succ, List.map_cons, List.map_nil, Bool.false_and, Bool.and_true, Bool.true_and, Bool.and_false, Bool.not_true, Bool.not_false, Bool.true_or, Bool.false_or, Bool.or_false, Bool.or_true, if_true, if_false, reduceIte, Bool.false_eq_true, Nat.reduceSub, Nat.reduceAdd, Nat.reduceBEq, Nat.reduceLeDiff, Nat.reduceLT, Option.map_some, Option.map_none, beq_self_eq_true, Nat.reduceEqDiff, reduceCtorEq]
    rw [this, List.filter_map, List.map_map, List.map_map]
    rfl
  have k3 : ∀ a b, sLc [3] (hSeq (sVar 2)) (gN 3) sTrue (sPrim oTupL [(sVar 3), (sPrim oMax2 [(sCall m__law_number [.ex (sVar 0), .ex (sVar 3)]), (sCall m__law_number [.ex (sVar 1), .ex (sVar 3)])])]) [.val (enc u), .val (enc v), .lst ((sortS names).map PyData.str), a, b] =
      .ok (.lst (((sortS names).map fun x => (x, max (look u x) (look v x))).map encP)) [.val (enc u), .val (enc v), .val (.list ((sortS names).map PyData.str)), a, b] := by
    intro a b
    have hl : (sortS names).length ≤ 200 := by
      rw [(sortS_perm names).length_eq]
      show (u.map (·.1) ++ (v.filter fun p => decide (look u p.1 = 0)).map (·.1)).length ≤ 200
      have := List.length_filter_le (fun p : Str × Int => decide (look u p.1 = 0)) v
      rw [List.length_append, List.length_map, List.length_map]
      omega
    have := sLc_pure (vs := [3]) (h := hSeq (sVar 2)) (gt := gN 3) (ft := sTrue) (fe := sPrim oTupL [(sVar 3), (sPrim oMax2 [(sCall m__law_number [.ex (sVar 0), .ex (sVar 3)]), (sCall m__law_number [.ex (sVar 1), .ex (sVar 3)])])]) (ρ := [.val (enc u), .val (enc v), .lst ((sortS names).map PyData.str), a, b]) (ρ1 := [.val (enc u), .val (enc v), .val (.list ((sortS names).map PyData.str)), a, b])
      (fun _ => true) (fun d => match d with | .str x => encP (x, max (look u x) (look v x)) | d => d) (its := (sortS names).map PyData.str) rfl (by rw [List.length_map]; omega) fun d hd => by
      obtain ⟨x, hx, rfl⟩ := List.mem_map.mp hd
      refine ⟨[.val (enc u), .val (enc v), .val (.list ((sortS names).map PyData.str)), .val (.str x), b], rfl, rfl, rfl, rfl, fun _ => ⟨.val (encP (x, max (look u x) (look v x))), ?_, rfl⟩⟩
      simp only [ev_law_number nu (by omega : u.length ≤ 1000), ev_law_number nv (by omega : v.length ≤ 1000), max2, encP, mOf, okIns, outsOf, sSeq, sNil, sAsg, sAsgT, sRet, sRetV, sRetN, sIf, sIfE, sAnd, sOr, sNot, sPrim, sArgs, sVar, sC, sExp, sCall, sCArgs, insOf, backC, fz, sChain, oTupL, oLstL, sUnp, gCons, gN, gNil, gT, sLput, peek, again, List.getElem?_cons_zero, List.getElem?_cons_succ, List.getElem?_nil, List.set_cons_zero, List.set_cons_succ, List.length_cons, List.length_nil, List.replicate_succ, List.replicate_zero, List.cons_append, List.nil_append, List.append_nil, List.contains_cons, List.contains_nil, Sl.owned, List.getD_cons_zero, List.getD_cons_succ, List.map_cons, List.map_nil, Bool.false_and, Bool.and_true, Bool.true_and, Bool.and_false, Bool.not_true, Bool.not_false, Bool.true_or, Bool.false_or, Bool.or_false, Bool.or_true, if_true, if_false, reduceIte, Bool.false_eq_true, Nat.reduceSub, Nat.reduceAdd, Nat.reduceBEq, Nat.reduceLeDiff, Nat.reduceLT, Option.map_some, Option.map_none, beq_self_eq_true, Nat.reduceEqDiff, reduceCtorEq]
    rw [this, List.filter_eq_self.mpr fun _ _ => rfl, List.map_map, List.map_map]
    rfl
  have hin : ∀ x, x ∈ names ↔ look u x ≠ 0 ∨ look v x ≠ 0 := by
    intro x
    show x ∈ u.map (·.1) ++ (v.filter fun p => decide (look u p.1 = 0)).map (·.1) ↔ _
    rw [List.mem_append, List.mem_map, List.mem_map]
    constructor
    · rintro (⟨p, hp, rfl⟩ | ⟨p, hp, rfl⟩)
      · refine .inl ?_
        rw [look_mem nu hp]
        have := pu p hp
        omega
      · refine .inr ?_
        rw [look_mem nv ((List.mem_filter.mp hp).1)]
        have := pv p ((List.mem_filter.mp hp).1)
        omega
    · intro h
      by_cases h0 : look u x = 0
      · have h1 : look v x ≠ 0 := h.resolve_left fun z => z h0
        exact .inr ⟨_, List.mem_filter.mpr ⟨mem_look h1, decide_eq_true h0⟩, rfl⟩
      · exact .inl ⟨_, mem_look h0, rfl⟩
  have hnd : names.Nodup := by
    show (u.map (·.1) ++ (v.filter fun p => decide (look u p.1 = 0)).map (·.1)).Nodup
    rw [List.nodup_append]
    refine ⟨nu, nv.sublist (List.Sublist.map _ List.filter_sublist), fun a ha b hb e => ?_⟩
    subst e
    obtain ⟨p, hp, rfl⟩ := List.mem_map.mp ha
    obtain ⟨q, hq, e⟩ := List.mem_map.mp hb
    have h1 := of_decide_eq_true (List.mem_filter.mp hq).2
    have e : q.1 = p.1 := e
    rw [e, look_mem nu hp] at h1
    have := pu p hp
    omega
  have hl2 : names.length ≤ 1000 := by
    show (u.map (·.1) ++ (v.filter fun p => decide (look u p.1 = 0)).map (·.1)).length ≤ 1000
    have := List.length_filter_le (fun p : Str × Int => decide (look u p.1 = 0)) v
    rw [List.length_append, List.length_map, List.length_map]
    omega
  refine ⟨(sortS names).map fun x => (x, max (look u x) (look v x)), ?_, ?_, fun x => ?_, ?_⟩
  · unfold srt
    rw [List.pairwise_map]
    exact sortS_srt hnd
  · intro p hp
    obtain ⟨x, hx, rfl⟩ := List.mem_map.mp hp
    have h1 := (hin x).mp ((sortS_perm names).mem_iff.mp hx)
    have := look_nonneg pu x
    have := look_nonneg pv x
    show 1 ≤ max (look u x) (look v x)
    omega
  · rw [look_map]
    by_cases h : x ∈ sortS names
    · rw [if_pos h]
    · rw [if_neg h]
      have h1 : ¬ (look u x ≠ 0 ∨ look v x ≠ 0) := fun z => h ((sortS_perm names).mem_iff.mpr ((hin x).mpr z))
      have h2 : look u x = 0 := Classical.byContradiction fun z => h1 (.inl z)
      have h3 : look v x = 0 := Classical.byContradiction fun z => h1 (.inr z)
      rw [h2, h3]; rfl
  · have hs : oSorted [.list ((u.map (·.1)).map PyData.str ++ ((v.filter fun p => decide (look u p.1 = 0)).map (·.1)).map PyData.str)] = some (.lst ((sortS names).map PyData.str)) := by
      rw [← List.map_append]
      show oSorted [.list (names.map PyData.str)] = _
      simp only [oSorted, sortS_ok hl2, if_true, sortS_enc]
    have ha : isSmall (((u.map (·.1)).map PyData.str).length + (((v.filter fun p => decide (look u p.1 = 0)).map (·.1)).map PyData.str).length) = true := by
      refine small_of ?_
      have := List.length_filter_le (fun p : Str × Int => decide (look u p.1 = 0)) v
      simp only [List.length_map]
      omega
    simp only [m__law_join, g__law_join, k1, k2, k3, oAdd, ha, hs, oTuple, mOf, okIns, outsOf, sSeq, sNil, sAsg, sAsgT, sRet, sRetV, sRetN, sIf, sIfE, sAnd, sOr, sNot, sPrim, sArgs, sVar, sC, sExp, sCall, sCArgs, insOf, backC, fz, sChain, oTupL, oLstL, sUnp, gCons, gN, gNil, gT, sLput, peek, again, List.getElem?_cons_zero, List.getElem?_cons_succ, List.getElem?_nil, List.set_cons_zero, List.set_cons_succ, List.length_cons, List.length_nil, List.replicate_succ, List.replicate_zero, List.cons_append, List.nil_append, List.append_nil, List.contains_cons, List.contains_nil, Sl.owned, List.getD_cons_zero, List.getD_cons_succ, List.map_cons, List.map_nil, Bool.false_and, Bool.and_true, Bool.true_and, Bool.and_false, Bool.not_true, Bool.not_false, Bool.true_or, Bool.false_or, Bool.or_false, Bool.or_true, if_true, if_false, reduceIte, Bool.false_eq_true, Nat.reduceSub, Nat.reduceAdd, Nat.reduceBEq, Nat.reduceLeDiff, Nat.reduceLT, Option.map_some, Option.map_none, beq_self_eq_true, Nat.reduceEqDiff, reduceCtorEq]
    rfl
end Pu
end M57e_part
section M57f_part
set_option Elab.async false
set_option linter.all false
set_option maxRecDepth 100000
set_option maxHeartbeats 1000000
/-! compare, raised, is_name .. is_vector. -/
namespace Pu
open PySem PySem.Spec PyProof.Rows L2
theorem eqv_encs : ∀ u v : V2, PyData.eqvAll (u.map encP) (v.map encP) = decide (u = v)
  | [], [] => by simp [PyData.eqvAll]
  | [], q :: v => by simp [PyData.eqvAll]
  | p :: u, [] => by simp [PyData.eqvAll]
  | p :: u, q :: v => by
    rw [List.map_cons, List.map_cons, PySem.W.eqv_all_cons, eqv_encs u v]
    have : PyData.eqv (encP p) (encP q) = decide (p = q) := by
      unfold encP
      rw [PyData.eqv, PySem.W.eqv_all_cons, PySem.W.eqv_all_cons, eqv_str, eqv_int, PyData.eqvAll]
      obtain ⟨a, b⟩ := p
      obtain ⟨c, d⟩ := q
      by_cases h1 : a = c <;> by_cases h2 : b = d <;> simp [h1, h2]
    rw [this]
    by_cases h1 : p = q <;> by_cases h2 : u = v <;> simp [h1, h2]
theorem depth_encs : ∀ v : V2, PyData.depthAll (v.map encP) ≤ 5
  | [] => by simp [PyData.depthAll]
  | p :: v => by
    rw [List.map_cons, PyData.depthAll]
    have h1 : (encP p).depth ≤ 5 := by unfold encP; simp [PyData.depth, PyData.depthAll]
    have h2 := depth_encs v
    omega
theorem depth_enc (v : V2) : (enc v).depth ≤ 60 := by
  unfold enc
  rw [PyData.depth]
  have := depth_encs v
  omega
theorem eq_enc (u v : V2) : oEq [enc u, enc v] = some (.val (.bool (decide (u = v)))) := by
  have h : PyData.eqv (enc u) (enc v) = decide (u = v) := by unfold enc; rw [PyData.eqv]; exact eqv_encs u v
  simp only [oEq, depth_enc, true_or, if_true, h]
theorem ne_enc (u v : V2) : oNe [enc u, enc v] = some (.val (.bool (!decide (u = v)))) := by
  have h : PyData.eqv (enc u) (enc v) = decide (u = v) := by unfold enc; rw [PyData.eqv]; exact eqv_encs u v
  simp only [oNe, depth_enc, true_or, if_true, h]
def cmpW (u v : V2) : Str := if leV u v = true then (if u = v then "same" else "older") else if leV v u = true then "newer" else "beside"
theorem ev_compare {u v : V2} (hu : nd u) (hv : nd v) (lu : u.length ≤ 1000) (lv : v.length ≤ 1000) : m_compare [.val (enc u), .val (enc v)] = .ok (.val (.str (cmpW u v))) [.val (enc u), .val (enc v)] := by
  unfold cmpW
  cases h1 : leV u v with
  | true =>
    by_cases h2 : u = v
    · subst h2
      simp only [m_compare, g_compare, ev_at_most hv lv, h1, eq_enc, decide_true, mOf, okIns, outsOf, sSeq, sNil, sAsg, sAsgT, sRet, sRetV, sRetN, sIf, sIfE, sAnd, sOr, sNot, sPrim, sArgs, sVar, sC, sExp, sCall, sCArgs, insOf, backC, fz, sChain, oTupL, oLstL, sUnp, gCons, gN, gNil, gT, sLput, peek, again, List.getElem?_cons_zero, List.getElem?_cons_succ, List.getElem?_nil, List.set_cons_zero, List.set_cons_succ, List.length_cons, List.length_nil, List.replicate_succ, List.replicate_zero, List.cons_append, List.nil_append, List.append_nil, List.contains_cons, List.contains_nil, Sl.owned, List.getD_cons_zero, List.getD_cons_succ, List.map_cons, List.map_nil, Bool.false_and, Bool.and_true, Bool.true_and, Bool.and_false, Bool.not_true, Bool.not_false, Bool.true_or, Bool.false_or, Bool.or_false, Bool.or_true, if_true, if_false, reduceIte, Bool.false_eq_true, Nat.reduceSub, Nat.reduceAdd, Nat.reduceBEq, Nat.reduceLeDiff, Nat.reduceLT, Option.map_some, Option.map_none, beq_self_eq_true, Nat.reduceEqDiff, reduceCtorEq]
    · simp only [m_compare, g_compare, ev_at_most hv lv, h1, eq_enc, h2, decide_false, mOf, okIns, outsOf, sSeq, sNil, sAsg, sAsgT, sRet, sRetV, sRetN, sIf, sIfE, sAnd, sOr, sNot, sPrim, sArgs, sVar, sC, sExp, sCall, sCArgs, insOf, backC, fz, sChain, oTupL, oLstL, sUnp, gCons, gN, gNil, gT, sLput, peek, again, List.getElem?_cons_zero, List.getElem?_cons_succ, List.getElem?_nil, List.set_cons_zero, List.set_cons_succ, List.length_cons, List.length_nil, List.replicate_succ, List.replicate_zero, List.cons_append, List.nil_append, List.append_nil, List.contains_cons, List.contains_nil, Sl.owned, List.getD_cons_zero, List.getD_cons_succ, List.map_cons, List.map_nil, Bool.false_and, Bool.and_true, Bool.true_and, Bool.and_false, Bool.not_true, Bool.not_false, Bool.true_or, Bool.false_or, Bool.or_false, Bool.or_true, if_true, if_false, reduceIte, Bool.false_eq_true, Nat.reduceSub, Nat.reduceAdd, Nat.reduceBEq, Nat.reduceLeDiff, Nat.reduceLT, Option.map_some, Option.map_none, beq_self_eq_true, Nat.reduceEqDiff, reduceCtorEq]
  | false =>
    cases h3 : leV v u with
    | true => simp only [m_compare, g_compare, ev_at_most hv lv, ev_at_most hu lu, h1, h3, mOf, okIns, outsOf, sSeq, sNil, sAsg, sAsgT, sRet, sRetV, sRetN, sIf, sIfE, sAnd, sOr, sNot, sPrim, sArgs, sVar, sC, sExp, sCall, sCArgs, insOf, backC, fz, sChain, oTupL, oLstL, sUnp, gCons, gN, gNil, gT, sLput, peek, again, List.getElem?_cons_zero, List.getElem?_cons_succ, List.getElem?_nil, List.set_cons_zero, List.set_cons_succ, List.length_cons, List.length_nil, List.replicate_succ, List.replicate_zero, List.cons_append, List.nil_append, List.append_nil, List.contains_cons, List.contains_nil, Sl.owned, List.getD_cons_zero, List.getD_cons_succ, List.map_cons, List.map_nil, Bool.false_and, Bool.and_true, Bool.true_and, Bool.and_false, Bool.not_true, Bool.not_false, Bool.true_or, Bool.false_or, Bool.or_false, Bool.or_true, if_true, if_false, reduceIte, Bool.false_eq_true, Nat.reduceSub, Nat.reduceAdd, Nat.reduceBEq, Nat.reduceLeDiff, Nat.reduceLT, Option.map_some, Option.map_none, beq_self_eq_true, Nat.reduceEqDiff, reduceCtorEq]
    | false => simp only [m_compare, g_compare, ev_at_most hv lv, ev_at_most hu lu, h1, h3, mOf, okIns, outsOf, sSeq, sNil, sAsg, sAsgT, sRet, sRetV, sRetN, sIf, sIfE, sAnd, sOr, sNot, sPrim, sArgs, sVar, sC, sExp, sCall, sCArgs, insOf, backC, fz, sChain, oTupL, oLstL, sUnp, gCons, gN, gNil, gT, sLput, peek, again, List.getElem?_cons_zero, List.getElem?_cons_succ, List.getElem?_nil, List.set_cons_zero, List.set_cons_succ, List.length_cons, List.length_nil, List.replicate_succ, List.replicate_zero, List.cons_append, List.nil_append, List.append_nil, List.contains_cons, List.contains_nil, Sl.owned, List.getD_cons_zero, List.getD_cons_succ, List.map_cons, List.map_nil, Bool.false_and, Bool.and_true, Bool.true_and, Bool.and_false, Bool.not_true, Bool.not_false, Bool.true_or, Bool.false_or, Bool.or_false, Bool.or_true, if_true, if_false, reduceIte, Bool.false_eq_true, Nat.reduceSub, Nat.reduceAdd, Nat.reduceBEq, Nat.reduceLeDiff, Nat.reduceLT, Option.map_some, Option.map_none, beq_self_eq_true, Nat.reduceEqDiff, reduceCtorEq]
theorem ev_raised {v : V2} (hv : nd v) (lv : v.length ≤ 900) (x : Str) (n : Int) : m_raised [.val (enc v), .val (.str x), .val (.int n)] = .ok (.val (enc (sortV (putV v x (look v x + n))))) [.val (enc v), .val (.str x), .val (.int n)] := by
  have hk : isSmall (v.map encK).length = true := small_of (by rw [List.length_map]; omega)
  have hl := put_len v x (look v x + n)
  have hs := sorted_items (r := .nm 3) (ρ := [.val (enc v), .val (.str x), .val (.int n), .dct ((putV v x (look v x + n)).map encK)]) (v := putV v x (look v x + n)) rfl (by omega)
  simp only [m_raised, g_raised, dict_enc hv (by omega : v.length ≤ 1000), sDput, sGet2, (get_look v x).1, (get_look v x).2, oAdd, hk, keyO, put_enc, hs, oTuple, mOf, okIns, outsOf, sSeq, sNil, sAsg, sAsgT, sRet, sRetV, sRetN, sIf, sIfE, sAnd, sOr, sNot, sPrim, sArgs, sVar, sC, sExp, sCall, sCArgs, insOf, backC, fz, sChain, oTupL, oLstL, sUnp, gCons, gN, gNil, gT, sLput, peek, again, List.getElem?_cons_zero, List.getElem?_cons_succ, List.getElem?_nil, List.set_cons_zero, List.set_cons_succ, List.length_cons, List.length_nil, List.replicate_succ, List.replicate_zero, List.cons_append, List.nil_append, List.append_nil, List.contains_cons, List.contains_nil, Sl.owned, List.getD_cons_zero, List.getD_cons_succ, List.map_cons, List.map_nil, Bool.false_and, Bool.and_true, Bool.true_and, Bool.and_false, Bool.not_true, Bool.not_false, Bool.true_or, Bool.false_or, Bool.or_false, Bool.or_true, if_true, if_false, reduceIte, Bool.false_eq_true, Nat.reduceSub, Nat.reduceAdd, Nat.reduceBEq, Nat.reduceLeDiff, Nat.reduceLT, Option.map_some, Option.map_none, beq_self_eq_true, Nat.reduceEqDiff, reduceCtorEq]
  rfl
/-! ### is_number -/
theorem isi_int : ∀ d : D, oIsi "int" [d] = some (.val (.bool (match d with | .int _ => true | .bool _ => true | _ => false)))
  | .none => by rfl
  | .bool _ => by rfl
  | .int _ => by rfl
  | .str _ => by rfl
  | .list _ => by rfl
  | .tuple _ => by rfl
  | .dict _ => by rfl
theorem isi_bool : ∀ d : D, oIsi "bool" [d] = some (.val (.bool (match d with | .bool _ => true | _ => false)))
  | .none => by rfl
  | .bool _ => by rfl
  | .int _ => by rfl
  | .str _ => by rfl
  | .list _ => by rfl
  | .tuple _ => by rfl
  | .dict _ => by rfl
theorem isi_str : ∀ d : D, oIsi "str" [d] = some (.val (.bool (match d with | .str _ => true | _ => false)))
  | .none => by rfl
  | .bool _ => by rfl
  | .int _ => by rfl
  | .str _ => by rfl
  | .list _ => by rfl
  | .tuple _ => by rfl
  | .dict _ => by rfl
theorem isi_tuple : ∀ d : D, oIsi "tuple" [d] = some (.val (.bool (match d with | .tuple _ => true | _ => false)))
  | .none => by rfl
  | .bool _ => by rfl
  | .int _ => by rfl
  | .str _ => by rfl
  | .list _ => by rfl
  | .tuple _ => by rfl
  | .dict _ => by rfl
def isNum (a b : Int) : D → Bool
  | .int i => decide (a ≤ i) && decide (i ≤ b)
  | _ => false
theorem ev_is_number (d : D) (a b : Int) : m_is_number [.val d, .val (.int a), .val (.int b)] = .ok (.val (.bool (isNum a b d))) [.val d, .val (.int a), .val (.int b)] := by
  cases d with
  | int i =>
    by_cases h : a ≤ i
    · simp only [m_is_number, g_is_number, isi_int, isi_bool, le_int, h, isNum, decide_true, mOf, okIns, outsOf, sSeq, sNil, sAsg, sAsgT, sRet, sRetV, sRetN, sIf, sIfE, sAnd, sOr, sNot, sPrim, sArgs, sVar, sC, sExp, sCall, sCArgs, insOf, backC, fz, sChain, oTupL, oLstL, sUnp, gCons, gN, gNil, gT, sLput, peek, again, List.getElem?_cons_zero, List.getElem?_cons_succ, List.getElem?_nil, List.set_cons_zero, List.set_cons_succ, List.length_cons, List.length_nil, List.replicate_succ, List.replicate_zero, List.cons_append, List.nil_append, List.append_nil, List.contains_cons, List.contains_nil, Sl.owned, List.getD_cons_zero, List.getD_cons_succ, List.map_cons, List.map_nil, Bool.false_and, Bool.and_true, Bool.true_and, Bool.and_false, Bool.not_true, Bool.not_false, Bool.true_or, Bool.false_or, Bool.or_false, Bool.or_true, if_true, if_false, reduceIte, Bool.false_eq_true, Nat.reduceSub, Nat.reduceAdd, Nat.reduceBEq, Nat.reduceLeDiff, Nat.reduceLT, Option.map_some, Option.map_none, beq_self_eq_true, Nat.reduceEqDiff, reduceCtorEq]
    · simp only [m_is_number, g_is_number, isi_int, isi_bool, le_int, h, isNum, decide_false, mOf, okIns, outsOf, sSeq, sNil, sAsg, sAsgT, sRet, sRetV, sRetN, sIf, sIfE, sAnd, sOr, sNot, sPrim, sArgs, sVar, sC, sExp, sCall, sCArgs, insOf, backC, fz, sChain, oTupL, oLstL, sUnp, gCons, gN, gNil, gT, sLput, peek, again, List.getElem?_cons_zero, List.getElem?_cons_succ, List.getElem?_nil, List.set_cons_zero, List.set_cons_succ, List.length_cons, List.length_nil, List.replicate_succ, List.replicate_zero, List.cons_append, List.nil_append, List.append_nil, List.contains_cons, List.contains_nil, Sl.owned, List.getD_cons_zero, List.getD_cons_succ, List.map_cons, List.map_nil, Bool.false_and, Bool.and_true, Bool.true_and, Bool.and_false, Bool.not_true, Bool.not_false, Bool.true_or, Bool.false_or, Bool.or_false, Bool.or_true, if_true, if_false, reduceIte, Bool.false_eq_true, Nat.reduceSub, Nat.reduceAdd, Nat.reduceBEq, Nat.reduceLeDiff, Nat.reduceLT, Option.map_some, Option.map_none, beq_self_eq_true, Nat.reduceEqDiff, reduceCtorEq]
  | bool b => simp only [m_is_number, g_is_number, isi_int, isi_bool, isNum, mOf, okIns, outsOf, sSeq, sNil, sAsg, sAsgT, sRet, sRetV, sRetN, sIf, sIfE, sAnd, sOr, sNot, sPrim, sArgs, sVar, sC, sExp, sCall, sCArgs, insOf, backC, fz, sChain, oTupL, oLstL, sUnp, gCons, gN, gNil, gT, sLput, peek, again, List.getElem?_cons_zero, List.getElem?_cons_succ, List.getElem?_nil, List.set_cons_zero, List.set_cons_succ, List.length_cons, List.length_nil, List.replicate_succ, List.replicate_zero, List.cons_append, List.nil_append, List.append_nil, List.contains_cons, List.contains_nil, Sl.owned, List.getD_cons_zero, List.getD_cons_succ, List.map_cons, List.map_nil, Bool.false_and, Bool.and_true, Bool.true_and, Bool.and_false, Bool.not_true, Bool.not_false, Bool.true_or, Bool.false_or, Bool.or_false, Bool.or_true, if_true, if_false, reduceIte, Bool.false_eq_true, Nat.reduceSub, Nat.reduceAdd, Nat.reduceBEq, Nat.reduceLeDiff, Nat.reduceLT, Option.map_some, Option.map_none, beq_self_eq_true, Nat.reduceEqDiff, reduceCtorEq]
  | none => simp only [m_is_number, g_is_number, isi_int, isi_bool, isNum, mOf, okIns, outsOf, sSeq, sNil, sAsg, sAsgT, sRet, sRetV, sRetN, sIf, sIfE, sAnd, sOr, sNot, sPrim, sArgs, sVar, sC, sExp, sCall, sCArgs, insOf, backC, fz, sChain, oTupL, oLstL, sUnp, gCons, gN, gNil, gT, sLput, peek, again, List.getElem?_cons_zero, List.getElem?_cons_succ, List.getElem?_nil, List.set_cons_zero, List.set_cons_succ, List.length_cons, List.length_nil, List.replicate_succ, List.replicate_zero, List.cons_append, List.nil_append, List.append_nil, List.contains_cons, List.contains_nil, Sl.owned, List.getD_cons_zero, List.getD_cons_succ, List.map_cons, List.map_nil, Bool.false_and, Bool.and_true, Bool.true_and, Bool.and_false, Bool.not_true, Bool.not_false, Bool.true_or, Bool.false_or, Bool.or_false, Bool.or_true, if_true, if_false, reduceIte, Bool.false_eq_true, Nat.reduceSub, Nat.reduceAdd, Nat.reduceBEq, Nat.reduceLeDiff, Nat.reduceLT, Option.map_some, Option.map_none, beq_self_eq_true, Nat.reduceEqDiff, reduceCtorEq]
  | str b => simp only [m_is_number, g_is_number, isi_int, isi_bool, isNum, mOf, okIns, outsOf, sSeq, sNil, sAsg, sAsgT, sRet, sRetV, sRetN, sIf, sIfE, sAnd, sOr, sNot, sPrim, sArgs, sVar, sC, sExp, sCall, sCArgs, insOf, backC, fz, sChain, oTupL, oLstL, sUnp, gCons, gN, gNil, gT, sLput, peek, again, List.getElem?_cons_zero, List.getElem?_cons_succ, List.getElem?_nil, List.set_cons_zero, List.set_cons_succ, List.length_cons, List.length_nil, List.replicate_succ, List.replicate_zero, List.cons_append, List.nil_append, List.append_nil, List.contains_cons, List.contains_nil, Sl.owned, List.getD_cons_zero, List.getD_cons_succ, List.map_cons, List.map_nil, Bool.false_and, Bool.and_true, Bool.true_and, Bool.and_false, Bool.not_true, Bool.not_false, Bool.true_or, Bool.false_or, Bool.or_false, Bool.or_true, if_true, if_false, reduceIte, Bool.false_eq_true, Nat.reduceSub, Nat.reduceAdd, Nat.reduceBEq, Nat.reduceLeDiff, Nat.reduceLT, Option.map_some, Option.map_none, beq_self_eq_true, Nat.reduceEqDiff, reduceCtorEq]
  | list b => simp only [m_is_number, g_is_number, isi_int, isi_bool, isNum, mOf, okIns, outsOf, sSeq, sNil, sAsg, sAsgT, sRet, sRetV, sRetN, sIf, sIfE, sAnd, sOr, sNot, sPrim, sArgs, sVar, sC, sExp, sCall, sCArgs, insOf, backC, fz, sChain, oTupL, oLstL, sUnp, gCons, gN, gNil, gT, sLput, peek, again, List.getElem?_cons_zero, List.getElem?_cons_succ, List.getElem?_nil, List.set_cons_zero, List.set_cons_succ, List.length_cons, List.length_nil, List.replicate_succ, List.replicate_zero, List.cons_append, List.nil_append, List.append_nil, List.contains_cons, List.contains_nil, Sl.owned, List.getD_cons_zero, List.getD_cons_succ, List.map_cons, List.map_nil, Bool.false_and, Bool.and_true, Bool.true_and, Bool.and_false, Bool.not_true, Bool.not_false, Bool.true_or, Bool.false_or, Bool.or_false, Bool.or_true, if_true, if_false, reduceIte, Bool.false_eq_true, Nat.reduceSub, Nat.reduceAdd, Nat.reduceBEq, Nat.reduceLeDiff, Nat.reduceLT, Option.map_some, Option.map_none, beq_self_eq_true, Nat.reduceEqDiff, reduceCtorEq]
  | tuple b => simp only [m_is_number, g_is_number, isi_int, isi_bool, isNum, mOf, okIns, outsOf, sSeq, sNil, sAsg, sAsgT, sRet, sRetV, sRetN, sIf, sIfE, sAnd, sOr, sNot, sPrim, sArgs, sVar, sC, sExp, sCall, sCArgs, insOf, backC, fz, sChain, oTupL, oLstL, sUnp, gCons, gN, gNil, gT, sLput, peek, again, List.getElem?_cons_zero, List.getElem?_cons_succ, List.getElem?_nil, List.set_cons_zero, List.set_cons_succ, List.length_cons, List.length_nil, List.replicate_succ, List.replicate_zero, List.cons_append, List.nil_append, List.append_nil, List.contains_cons, List.contains_nil, Sl.owned, List.getD_cons_zero, List.getD_cons_succ, List.map_cons, List.map_nil, Bool.false_and, Bool.and_true, Bool.true_and, Bool.and_false, Bool.not_true, Bool.not_false, Bool.true_or, Bool.false_or, Bool.or_false, Bool.or_true, if_true, if_false, reduceIte, Bool.false_eq_true, Nat.reduceSub, Nat.reduceAdd, Nat.reduceBEq, Nat.reduceLeDiff, Nat.reduceLT, Option.map_some, Option.map_none, beq_self_eq_true, Nat.reduceEqDiff, reduceCtorEq]
  | dict b => simp only [m_is_number, g_is_number, isi_int, isi_bool, isNum, mOf, okIns, outsOf, sSeq, sNil, sAsg, sAsgT, sRet, sRetV, sRetN, sIf, sIfE, sAnd, sOr, sNot, sPrim, sArgs, sVar, sC, sExp, sCall, sCArgs, insOf, backC, fz, sChain, oTupL, oLstL, sUnp, gCons, gN, gNil, gT, sLput, peek, again, List.getElem?_cons_zero, List.getElem?_cons_succ, List.getElem?_nil, List.set_cons_zero, List.set_cons_succ, List.length_cons, List.length_nil, List.replicate_succ, List.replicate_zero, List.cons_append, List.nil_append, List.append_nil, List.contains_cons, List.contains_nil, Sl.owned, List.getD_cons_zero, List.getD_cons_succ, List.map_cons, List.map_nil, Bool.false_and, Bool.and_true, Bool.true_and, Bool.and_false, Bool.not_true, Bool.not_false, Bool.true_or, Bool.false_or, Bool.or_false, Bool.or_true, if_true, if_false, reduceIte, Bool.false_eq_true, Nat.reduceSub, Nat.reduceAdd, Nat.reduceBEq, Nat.reduceLeDiff, Nat.reduceLT, Option.map_some, Option.map_none, beq_self_eq_true, Nat.reduceEqDiff, reduceCtorEq]
def okc (c : Nat) : Bool := (!decide ([c] < ("a" : Str).cps.toList)) && !decide (("z" : Str).cps.toList < [c])
def isNm : D → Bool
  | .str x => decide (1 ≤ (x.length : Int)) && (decide ((x.length : Int) ≤ 16) && x.cps.toList.all okc)
  | _ => false
theorem le_str (x y : Str) : oLe [.str x, .str y] = some (.val (.bool (!decide (y.cps.toList < x.cps.toList)))) := rfl
theorem ev_is_name (d : D) (hd : ∀ x, d = .str x → x.length ≤ 1000) : m_is_name [.val d] = .ok (.val (.bool (isNm d))) [.val d] := by
  cases d with
  | str x =>
    have hs : isSmall x.length = true := small_of (hd x rfl)
    have key : sAA false (hSeq (sVar 0)) 1 [] (gN 0) (sChain oLe oLe (sC (.str "a")) (sVar 0) (sC (.str "z"))) [.val (.str x)] = .ok (.val (.bool (x.cps.toList.all okc))) [.val (.str x)] := by
      have := sAA_pure (stop := false) (h := hSeq (sVar 0)) (n := 1) (cs := []) (gt := gN 0) (fe := sChain oLe oLe (sC (.str "a")) (sVar 0) (sC (.str "z"))) (ρ := [.val (.str x)]) (ρ1 := [.val (.str x)]) (ins := []) (its := x.cps.toList.map fun c => .str ⟨#[c]⟩)
        (fun d => match d with | .str y => (!decide (y.cps.toList < ("a" : Str).cps.toList)) && !decide (("z" : Str).cps.toList < y.cps.toList) | _ => false) rfl rfl fun d hd xs hx => by
        obtain ⟨c, hc, rfl⟩ := List.mem_map.mp hd
        match xs, hx with
        | [a], _ =>
          refine ⟨[.val (.str ⟨#[c]⟩)], rfl, rfl, ?_⟩
          by_cases h : [c] < ("a" : Str).cps.toList
          · simp only [le_str, h, decide_true, mOf, okIns, outsOf, sSeq, sNil, sAsg, sAsgT, sRet, sRetV, sRetN, sIf, sIfE, sAnd, sOr, sNot, sPrim, sArgs, sVar, sC, sExp, sCall, sCArgs, insOf, backC, fz, sChain, oTupL, oLstL, sUnp, gCons, gN, gNil, gT, sLput, peek, again, List.getElem?_cons_zero, List.getElem?_cons_succ, List.getElem?_nil, List.set_cons_zero, List.set_cons_succ, List.length_cons, List.length_nil, List.replicate_succ, List.replicate_zero, List.cons_append, List.nil_append, List.append_nil, List.contains_cons, List.contains_nil, Sl.owned, List.getD_cons_zero, List.getD_cons_succ, List.map_cons, List.map_nil, Bool.false_and, Bool.and_true, Bool.true_and, Bool.and_false, Bool.not_true, Bool.not_false, Bool.true_or, Bool.false_or, Bool.or_false, Bool.or_true, if_true, if_false, reduceIte, Bool.false_eq_true, Nat.reduceSub, Nat.reduceAdd, Nat.reduceBEq, Nat.reduceLeDiff, Nat.reduceLT, Option.map_some, Option.map_none, beq_self_eq_true, Nat.reduceEqDiff, reduceCtorEq]
          · simp only [le_str, h, decide_false, mOf, okIns, outsOf, sSeq, sNil, sAsg, sAsgT, sRet, sRetV, sRetN, sIf, sIfE, sAnd, sOr, sNot, sPrim, sArgs, sVar, sC, sExp, sCall, sCArgs, insOf, backC, fz, sChain, oTupL, oLstL, sUnp, gCons, gN, gNil, gT, sLput, peek, again, List.getElem?_cons_zero, List.getElem?_cons_succ, List.getElem?_nil, List.set_cons_zero, List.set_cons_succ, List.length_cons, List.length_nil, List.replicate_succ, List.replicate_zero, List.cons_append, List.nil_append, List.append_nil, List.contains_cons, List.contains_nil, Sl.owned, List.getD_cons_zero, List.getD_cons_succ, List.map_cons, List.map_nil, Bool.false_and, Bool.and_true, Bool.true_and, Bool.and_false, Bool.not_true, Bool.not_false, Bool.true_or, Bool.false_or, Bool.or_false, Bool.or_true, if_true, if_false, reduceIte, Bool.false_eq_true, Nat.reduceSub, Nat.reduceAdd, Nat.reduceBEq, Nat.reduceLeDiff, Nat.reduceLT, Option.map_some, Option.map_none, beq_self_eq_true, Nat.reduceEqDiff, reduceCtorEq]
      rw [this, cond_false, List.all_map]
      rfl
    by_cases h1 : 1 ≤ (x.length : Int)
    · by_cases h2 : (x.length : Int) ≤ 16
      · simp only [m_is_name, g_is_name, isi_str, oLen, hs, le_int, h1, h2, key, isNm, decide_true, mOf, okIns, outsOf, sSeq, sNil, sAsg, sAsgT, sRet, sRetV, sRetN, sIf, sIfE, sAnd, sOr, sNot, sPrim, sArgs, sVar, sC, sExp, sCall, sCArgs, insOf, backC, fz, sChain, oTupL, oLstL, sUnp, gCons, gN, gNil, gT, sLput, peek, again, List.getElem?_cons_zero, List.getElem?_cons_succ, List.getElem?_nil, List.set_cons_zero, List.set_cons_succ, List.length_cons, List.length_nil, List.replicate_succ, List.replicate_zero, List.cons_append, List.nil_append, List.append_nil, List.contains_cons, List.contains_nil, Sl.owned, List.getD_cons_zero, List.getD_cons_succ, List.map_cons, List.map_nil, Bool.false_and, Bool.and_true, Bool.true_and, Bool.and_false, Bool.not_true, Bool.not_false, Bool.true_or, Bool.false_or, Bool.or_false, Bool.or_true, if_true, if_false, reduceIte, Bool.false_eq_true, Nat.reduceSub, Nat.reduceAdd, Nat.reduceBEq, Nat.reduceLeDiff, Nat.reduceLT, Option.map_some, Option.map_none, beq_self_eq_true, Nat.reduceEqDiff, reduceCtorEq]
      · simp only [m_is_name, g_is_name, isi_str, oLen, hs, le_int, h1, h2, key, isNm, decide_true, decide_false, mOf, okIns, outsOf, sSeq, sNil, sAsg, sAsgT, sRet, sRetV, sRetN, sIf, sIfE, sAnd, sOr, sNot, sPrim, sArgs, sVar, sC, sExp, sCall, sCArgs, insOf, backC, fz, sChain, oTupL, oLstL, sUnp, gCons, gN, gNil, gT, sLput, peek, again, List.getElem?_cons_zero, List.getElem?_cons_succ, List.getElem?_nil, List.set_cons_zero, List.set_cons_succ, List.length_cons, List.length_nil, List.replicate_succ, List.replicate_zero, List.cons_append, List.nil_append, List.append_nil, List.contains_cons, List.contains_nil, Sl.owned, List.getD_cons_zero, List.getD_cons_succ, List.map_cons, List.map_nil, Bool.false_and, Bool.and_true, Bool.true_and, Bool.and_false, Bool.not_true, Bool.not_false, Bool.true_or, Bool.false_or, Bool.or_false, Bool.or_true, if_true, if_false, reduceIte, Bool.false_eq_true, Nat.reduceSub, Nat.reduceAdd, Nat.reduceBEq, Nat.reduceLeDiff, Nat.reduceLT, Option.map_some, Option.map_none, beq_self_eq_true, Nat.reduceEqDiff, reduceCtorEq]
    · simp only [m_is_name, g_is_name, isi_str, oLen, hs, le_int, h1, key, isNm, decide_false, mOf, okIns, outsOf, sSeq, sNil, sAsg, sAsgT, sRet, sRetV, sRetN, sIf, sIfE, sAnd, sOr, sNot, sPrim, sArgs, sVar, sC, sExp, sCall, sCArgs, insOf, backC, fz, sChain, oTupL, oLstL, sUnp, gCons, gN, gNil, gT, sLput, peek, again, List.getElem?_cons_zero, List.getElem?_cons_succ, List.getElem?_nil, List.set_cons_zero, List.set_cons_succ, List.length_cons, List.length_nil, List.replicate_succ, List.replicate_zero, List.cons_append, List.nil_append, List.append_nil, List.contains_cons, List.contains_nil, Sl.owned, List.getD_cons_zero, List.getD_cons_succ, List.map_cons, List.map_nil, Bool.false_and, Bool.and_true, Bool.true_and, Bool.and_false, Bool.not_true, Bool.not_false, Bool.true_or, Bool.false_or, Bool.or_false, Bool.or_true, if_true, if_false, reduceIte, Bool.false_eq_true, Nat.reduceSub, Nat.reduceAdd, Nat.reduceBEq, Nat.reduceLeDiff, Nat.reduceLT, Option.map_some, Option.map_none, beq_self_eq_true, Nat.reduceEqDiff, reduceCtorEq]
  | bool b => simp only [m_is_name, g_is_name, isi_str, isNm, mOf, okIns, outsOf, sSeq, sNil, sAsg, sAsgT, sRet, sRetV, sRetN, sIf, sIfE, sAnd, sOr, sNot, sPrim, sArgs, sVar, sC, sExp, sCall, sCArgs, insOf, backC, fz, sChain, oTupL, oLstL, sUnp, gCons, gN, gNil, gT, sLput, peek, again, List.getElem?_cons_zero, List.getElem?_cons_succ, List.getElem?_nil, List.set_cons_zero, List.set_cons_succ, List.length_cons, List.length_nil, List.replicate_succ, List.replicate_zero, List.cons_append, List.nil_append, List.append_nil, List.contains_cons, List.contains_nil, Sl.owned, List.getD_cons_zero, List.getD_cons_succ, List.map_cons, List.map_nil, Bool.false_and, Bool.and_true, Bool.true_and, Bool.and_false, Bool.not_true, Bool.not_false, Bool.true_or, Bool.false_or, Bool.or_false, Bool.or_true, if_true, if_false, reduceIte, Bool.false_eq_true, Nat.reduceSub, Nat.reduceAdd, Nat.reduceBEq, Nat.reduceLeDiff, Nat.reduceLT, Option.map_some, Option.map_none, beq_self_eq_true, Nat.reduceEqDiff, reduceCtorEq]
  | none => simp only [m_is_name, g_is_name, isi_str, isNm, mOf, okIns, outsOf, sSeq, sNil, sAsg, sAsgT, sRet, sRetV, sRetN, sIf, sIfE, sAnd, sOr, sNot, sPrim, sArgs, sVar, sC, sExp, sCall, sCArgs, insOf, backC, fz, sChain, oTupL, oLstL, sUnp, gCons, gN, gNil, gT, sLput, peek, again, List.getElem?_cons_zero, List.getElem?_cons_succ, List.getElem?_nil, List.set_cons_zero, List.set_cons_succ, List.length_cons, List.length_nil, List.replicate_succ, List.replicate_zero, List.cons_append, List.nil_append, List.append_nil, List.contains_cons, List.contains_nil, Sl.owned, List.getD_cons_zero, List.getD_cons_succ, List.map_cons, List.map_nil, Bool.false_and, Bool.and_true, Bool.true_and, Bool.and_false, Bool.not_true, Bool.not_false, Bool.true_or, Bool.false_or, Bool.or_false, Bool.or_true, if_true, if_false, reduceIte, Bool.false_eq_true, Nat.reduceSub, Nat.reduceAdd, Nat.reduceBEq, Nat.reduceLeDiff, Nat.reduceLT, Option.map_some, Option.map_none, beq_self_eq_true, Nat.reduceEqDiff, reduceCtorEq]
  | int b => simp only [m_is_name, g_is_name, isi_str, isNm, mOf, okIns, outsOf, sSeq, sNil, sAsg, sAsgT, sRet, sRetV, sRetN, sIf, sIfE, sAnd, sOr, sNot, sPrim, sArgs, sVar, sC, sExp, sCall, sCArgs, insOf, backC, fz, sChain, oTupL, oLstL, sUnp, gCons, gN, gNil, gT, sLput, peek, again, List.getElem?_cons_zero, List.getElem?_cons_succ, List.getElem?_nil, List.set_cons_zero, List.set_cons_succ, List.length_cons, List.length_nil, List.replicate_succ, List.replicate_zero, List.cons_append, List.nil_append, List.append_nil, List.contains_cons, List.contains_nil, Sl.owned, List.getD_cons_zero, List.getD_cons_succ, List.map_cons, List.map_nil, Bool.false_and, Bool.and_true, Bool.true_and, Bool.and_false, Bool.not_true, Bool.not_false, Bool.true_or, Bool.false_or, Bool.or_false, Bool.or_true, if_true, if_false, reduceIte, Bool.false_eq_true, Nat.reduceSub, Nat.reduceAdd, Nat.reduceBEq, Nat.reduceLeDiff, Nat.reduceLT, Option.map_some, Option.map_none, beq_self_eq_true, Nat.reduceEqDiff, reduceCtorEq]
  | list b => simp only [m_is_name, g_is_name, isi_str, isNm, mOf, okIns, outsOf, sSeq, sNil, sAsg, sAsgT, sRet, sRetV, sRetN, sIf, sIfE, sAnd, sOr, sNot, sPrim, sArgs, sVar, sC, sExp, sCall, sCArgs, insOf, backC, fz, sChain, oTupL, oLstL, sUnp, gCons, gN, gNil, gT, sLput, peek, again, List.getElem?_cons_zero, List.getElem?_cons_succ, List.getElem?_nil, List.set_cons_zero, List.set_cons_succ, List.length_cons, List.length_nil, List.replicate_succ, List.replicate_zero, List.cons_append, List.nil_append, List.append_nil, List.contains_cons, List.contains_nil, Sl.owned, List.getD_cons_zero, List.getD_cons_succ, List.map_cons, List.map_nil, Bool.false_and, Bool.and_true, Bool.true_and, Bool.and_false, Bool.not_true, Bool.not_false, Bool.true_or, Bool.false_or, Bool.or_false, Bool.or_true, if_true, if_false, reduceIte, Bool.false_eq_true, Nat.reduceSub, Nat.reduceAdd, Nat.reduceBEq, Nat.reduceLeDiff, Nat.reduceLT, Option.map_some, Option.map_none, beq_self_eq_true, Nat.reduceEqDiff, reduceCtorEq]
  | tuple b => simp only [m_is_name, g_is_name, isi_str, isNm, mOf, okIns, outsOf, sSeq, sNil, sAsg, sAsgT, sRet, sRetV, sRetN, sIf, sIfE, sAnd, sOr, sNot, sPrim, sArgs, sVar, sC, sExp, sCall, sCArgs, insOf, backC, fz, sChain, oTupL, oLstL, sUnp, gCons, gN, gNil, gT, sLput, peek, again, List.getElem?_cons_zero, List.getElem?_cons_succ, List.getElem?_nil, List.set_cons_zero, List.set_cons_succ, List.length_cons, List.length_nil, List.replicate_succ, List.replicate_zero, List.cons_append, List.nil_append, List.append_nil, List.contains_cons, List.contains_nil, Sl.owned, List.getD_cons_zero, List.getD_cons_succ, List.map_cons, List.map_nil, Bool.false_and, Bool.and_true, Bool.true_and, Bool.and_false, Bool.not_true, Bool.not_false, Bool.true_or, Bool.false_or, Bool.or_false, Bool.or_true, if_true, if_false, reduceIte, Bool.false_eq_true, Nat.reduceSub, Nat.reduceAdd, Nat.reduceBEq, Nat.reduceLeDiff, Nat.reduceLT, Option.map_some, Option.map_none, beq_self_eq_true, Nat.reduceEqDiff, reduceCtorEq]
  | dict b => simp only [m_is_name, g_is_name, isi_str, isNm, mOf, okIns, outsOf, sSeq, sNil, sAsg, sAsgT, sRet, sRetV, sRetN, sIf, sIfE, sAnd, sOr, sNot, sPrim, sArgs, sVar, sC, sExp, sCall, sCArgs, insOf, backC, fz, sChain, oTupL, oLstL, sUnp, gCons, gN, gNil, gT, sLput, peek, again, List.getElem?_cons_zero, List.getElem?_cons_succ, List.getElem?_nil, List.set_cons_zero, List.set_cons_succ, List.length_cons, List.length_nil, List.replicate_succ, List.replicate_zero, List.cons_append, List.nil_append, List.append_nil, List.contains_cons, List.contains_nil, Sl.owned, List.getD_cons_zero, List.getD_cons_succ, List.map_cons, List.map_nil, Bool.false_and, Bool.and_true, Bool.true_and, Bool.and_false, Bool.not_true, Bool.not_false, Bool.true_or, Bool.false_or, Bool.or_false, Bool.or_true, if_true, if_false, reduceIte, Bool.false_eq_true, Nat.reduceSub, Nat.reduceAdd, Nat.reduceBEq, Nat.reduceLeDiff, Nat.reduceLT, Option.map_some, Option.map_none, beq_self_eq_true, Nat.reduceEqDiff, reduceCtorEq]
end Pu
end M57f_part
section M57g_part
set_option Elab.async false
set_option linter.all false
set_option maxRecDepth 100000
set_option maxHeartbeats 1000000
/-! is_names, is_vector. -/
namespace Pu
open PySem PySem.Spec PyProof.Rows L2
def incr : List Str → Bool
  | x :: y :: r => decide (x.cps.toList < y.cps.toList) && incr (y :: r)
  | _ => true
def strOf : D → Str
  | .str x => x
  | _ => ""
def stepB (xs : List Str) (k : Nat) : Bool := match xs[k]?, xs[k + 1]? with
  | some x, some y => decide (x.cps.toList < y.cps.toList)
  | _, _ => true
theorem incr_range : ∀ xs : List Str, (List.range (xs.length - 1)).all (stepB xs) = incr xs
  | [] => rfl
  | [x] => rfl
  | x :: y :: r => by
    have ih := incr_range (y :: r)
    have e : (x :: y :: r).length - 1 = ((y :: r).length - 1) + 1 := by simp
    rw [e, List.range_succ_eq_map, List.all_cons, List.all_map, incr, ← ih]
    rfl
theorem incr_of {xs : List Str} (h : xs.Pairwise fun a b => a.cps.toList < b.cps.toList) : incr xs = true := by
  induction xs with
  | nil => rfl
  | cons x xs ih =>
    rw [List.pairwise_cons] at h
    cases xs with
    | nil => rfl
    | cons y r => rw [incr, ih h.2, decide_eq_true (h.1 y List.mem_cons_self)]; rfl
def isNs (a b : Int) (ds : List D) : Bool := (decide (a ≤ (ds.length : Int)) && decide ((ds.length : Int) ≤ b)) && (ds.all isNm && incr (ds.map strOf))
theorem nm_str {d : D} (h : isNm d = true) : d = .str (strOf d) := by
  cases d <;> first | rfl | cases h
theorem ev_is_names (ds : List D) (a b : Int) (hl : ds.length ≤ 1000) (hs : ∀ d ∈ ds, ∀ x, d = .str x → x.length ≤ 1000) : m_is_names [.val (.tuple ds), .val (.int a), .val (.int b)] = .ok (.val (.bool (isNs a b ds))) [.val (.tuple ds), .val (.int a), .val (.int b)] := by
  have k1 : sAA false (hSeq (sVar 0)) 1 [] (gN 0) (sCall m_is_name [.ex (sVar 0)]) [.val (.tuple ds), .val (.int a), .val (.int b)] = .ok (.val (.bool (ds.all isNm))) [.val (.tuple ds), .val (.int a), .val (.int b)] := by
    have := sAA_pure (stop := false) (h := hSeq (sVar 0)) (n := 1) (cs := []) (gt := gN 0) (fe := sCall m_is_name [.ex (sVar 0)]) (ρ := [.val (.tuple ds), .val (.int a), .val (.int b)]) (ρ1 := [.val (.tuple ds), .val (.int a), .val (.int b)]) (ins := []) (its := ds) isNm rfl rfl fun d hd xs hx => by
      match xs, hx with
      | [z], _ =>
        refine ⟨[.val d], rfl, rfl, ?_⟩
        simp only [ev_is_name d (hs d hd), mOf, okIns, outsOf, sSeq, sNil, sAsg, sAsgT, sRet, sRetV, sRetN, sIf, sIfE, sAnd, sOr, sNot, sPrim, sArgs, sVar, sC, sExp, sCall, sCArgs, insOf, backC, fz, sChain, oTupL, oLstL, sUnp, gCons, gN, gNil, gT, sLput, peek, again, List.getElem?_cons_zero, List.getElem?_cons_succ, List.getElem?_nil, List.set_cons_zero, List.set_cons_succ, List.length_cons, List.length_nil, List.replicate_succ, List.replicate_zero, List.cons_append, List.nil_append, List.append_nil, List.contains_cons, List.contains_nil, Sl.owned, List.getD_cons_zero, List.getD_cons_succ, List.map_cons, List.map_nil, Bool.false_and, Bool.and_true, Bool.true_and, Bool.and_false, Bool.not_true, Bool.not_false, Bool.true_or, Bool.false_or, Bool.or_false, Bool.or_true, if_true, if_false, reduceIte, Bool.false_eq_true, Nat.reduceSub, Nat.reduceAdd, Nat.reduceBEq, Nat.reduceLeDiff, Nat.reduceLT, Option.map_some, Option.map_none, beq_self_eq_true, Nat.reduceEqDiff, reduceCtorEq]
    rw [this, cond_false]
  have k2 : ds.all isNm = true → sAA false (hRng [(sPrim oSub [(sPrim oLen [(sVar 0)]), (sC (.int 1))])]) 2 [0] (gN 1) (sPrim oLt [(sPrim oIx [(sVar 0), (sVar 1)]), (sPrim oIx [(sVar 0), (sPrim oAdd [(sVar 1), (sC (.int 1))])])]) [.val (.tuple ds), .val (.int a), .val (.int b)] = .ok (.val (.bool (incr (ds.map strOf)))) [.val (.tuple ds), .val (.int a), .val (.int b)] := by
    intro hn
    have hd : ∀ d ∈ ds, d = .str (strOf d) := fun d h => nm_str (List.all_eq_true.mp hn d h)
    have hr : hRng [(sPrim oSub [(sPrim oLen [(sVar 0)]), (sC (.int 1))])] [.val (.tuple ds), .val (.int a), .val (.int b)] = .ok (rangeD 0 ((ds.length : Int) - 1).toNat) [.val (.tuple ds), .val (.int a), .val (.int b)] := by
      have h1 : (ds.length : Int) - 1 < 4611686018427387904 ∧ -4611686018427387904 ≤ (ds.length : Int) - 1 := by omega
      simp only [hRng, oSub, oLen, rangeOf, h1, Int.reducePow, Int.reduceNeg, and_self, mOf, okIns, outsOf, sSeq, sNil, sAsg, sAsgT, sRet, sRetV, sRetN, sIf, sIfE, sAnd, sOr, sNot, sPrim, sArgs, sVar, sC, sExp, sCall, sCArgs, insOf, backC, fz, sChain, oTupL, oLstL, sUnp, gCons, gN, gNil, gT, sLput, peek, again, List.getElem?_cons_zero, List.getElem?_cons_succ, List.getElem?_nil, List.set_cons_zero, List.set_cons_succ, List.length_cons, List.length_nil, List.replicate_succ, List.replicate_zero, List.cons_append, List.nil_append, List.append_nil, List.contains_cons, List.contains_nil, Sl.owned, List.getD_cons_zero, List.getD_cons_succ, List.map_cons, List.map_nil, Bool.false_and, Bool.and_true, Bool.true_and, Bool.and_false, Bool.not_true, Bool.not_false, Bool.true_or, Bool.false_or, Bool.or_false, Bool.or_true, if_true, if_false, reduceIte, Bool.false_eq_true, Nat.reduceSub, Nat.reduceAdd, Nat.reduceBEq, Nat.reduceLeDiff, Nat.reduceLT, Option.map_some, Option.map_none, beq_self_eq_true, Nat.reduceEqDiff, reduceCtorEq]
    have := sAA_pure (stop := false) (h := hRng [(sPrim oSub [(sPrim oLen [(sVar 0)]), (sC (.int 1))])]) (n := 2) (cs := [0]) (gt := gN 1) (fe := sPrim oLt [(sPrim oIx [(sVar 0), (sVar 1)]), (sPrim oIx [(sVar 0), (sPrim oAdd [(sVar 1), (sC (.int 1))])])]) (ρ := [.val (.tuple ds), .val (.int a), .val (.int b)])
      (fun d => match d with | .int k => stepB (ds.map strOf) k.toNat | _ => true) hr rfl fun d hd' xs hx => by
      unfold rangeD at hd'
      obtain ⟨k, hk, rfl⟩ := List.mem_map.mp hd'
      have hk := List.mem_range.mp hk
      have hk1 : k < ds.length := by omega
      have hk2 : k + 1 < ds.length := by omega
      match xs, hx with
      | [z], _ =>
        refine ⟨[.val (.int (0 + (k : Int)))], rfl, rfl, ?_⟩
        have a1 : oIx [.tuple ds, .int (0 + (k : Int))] = some (.val (.str (strOf ds[k]))) := by
          have : atI ds (0 + (k : Int)) = some ds[k] := by
            unfold atI ixN
            rw [if_pos (by omega), if_pos (by omega)]
            simp [hk1]
          simp only [oIx, this, Option.map_some]
          exact congrArg (fun z => some (Sl.val z)) (hd _ (List.getElem_mem hk1))
        have a2 : oIx [.tuple ds, .int (0 + (k : Int) + 1)] = some (.val (.str (strOf ds[k + 1]))) := by
          have : atI ds (0 + (k : Int) + 1) = some ds[k + 1] := by
            unfold atI ixN
            rw [if_pos (by omega), if_pos (by omega)]
            have e : ((0 : Int) + (k : Int) + 1).toNat = k + 1 := by omega
            simp [e, hk2]
          simp only [oIx, this, Option.map_some]
          exact congrArg (fun z => some (Sl.val z)) (hd _ (List.getElem_mem hk2))
        have a3 : stepB (ds.map strOf) (0 + (k : Int)).toNat = decide ((strOf ds[k]).cps.toList < (strOf ds[k + 1]).cps.toList) := by
          have e : ((0 : Int) + (k : Int)).toNat = k := by omega
          unfold stepB
          rw [e, List.getElem?_map, List.getElem?_map, List.getElem?_eq_getElem hk1, List.getElem?_eq_getElem hk2]
          rfl
        simp only [a1, a2, a3, oAdd, oLt, ltD, mOf, okIns, outsOf, sSeq, sNil, sAsg, sAsgT, sRet, sRetV, sRetN, sIf, sIfE, sAnd, sOr, sNot, sPrim, sArgs, sVar, sC, sExp, sCall, sCArgs, insOf, backC, fz, sChain, oTupL, oLstL, sUnp, gCons, gN, gNil, gT, sLput, peek, again, List.getElem?_cons_zero, List.getElem?_cons_succ, List.getElem?_nil, List.set_cons_zero, List.set_cons_succ, List.length_cons, List.length_nil, List.replicate_succ, List.replicate_zero, List.cons_append, List.nil_append, List.append_nil, List.contains_cons, List.contains_nil, Sl.owned, List.getD_cons_zero, List.getD_cons_succ, List.map_cons, List.map_nil, Bool.false_and, Bool.and_true, Bool.true_and, Bool.and_false, Bool.not_true, Bool.not_false, Bool.true_or, Bool.false_or, Bool.or_false, Bool.or_true, if_true, if_false, reduceIte, Bool.false_eq_true, Nat.reduceSub, Nat.reduceAdd, Nat.reduceBEq, Nat.reduceLeDiff, Nat.reduceLT, Option.map_some, Option.map_none, beq_self_eq_true, Nat.reduceEqDiff, reduceCtorEq]
    rw [this, cond_false]
    have e : (rangeD 0 ((ds.length : Int) - 1).toNat).all (fun d => match d with | .int k => stepB (ds.map strOf) k.toNat | _ => true) = incr (ds.map strOf) := by
      rw [← incr_range]
      unfold rangeD
      rw [List.all_map, List.length_map]
      have e1 : ((ds.length : Int) - 1).toNat = ds.length - 1 := by omega
      rw [e1]
      congr 1
      funext k
      show stepB (ds.map strOf) ((0 : Int) + (k : Int)).toNat = _
      have : ((0 : Int) + (k : Int)).toNat = k := by omega
      rw [this]
    rw [e]
  unfold isNs
  by_cases h1 : a ≤ (ds.length : Int)
  · by_cases h2 : (ds.length : Int) ≤ b
    · cases h3 : ds.all isNm with
      | true => simp only [m_is_names, g_is_names, isi_tuple, oLen, le_int, h1, h2, k1, h3, k2 h3, decide_true, mOf, okIns, outsOf, sSeq, sNil, sAsg, sAsgT, sRet, sRetV, sRetN, sIf, sIfE, sAnd, sOr, sNot, sPrim, sArgs, sVar, sC, sExp, sCall, sCArgs, insOf, backC, fz, sChain, oTupL, oLstL, sUnp, gCons, gN, gNil, gT, sLput, peek, again, List.getElem?_cons_zero, List.getElem?_cons_succ, List.getElem?_nil, List.set_cons_zero, List.set_cons_succ, List.length_cons, List.length_nil, List.replicate_succ, List.replicate_zero, List.cons_append, List.nil_append, List.append_nil, List.contains_cons, List.contains_nil, Sl.owned, List.getD_cons_zero, List.getD_cons_succ, List.map_cons, List.map_nil, Bool.false_and, Bool.and_true, Bool.true_and, Bool.and_false, Bool.not_true, Bool.not_false, Bool.true_or, Bool.false_or, Bool.or_false, Bool.or_true, if_true, if_false, reduceIte, Bool.false_eq_true, Nat.reduceSub, Nat.reduceAdd, Nat.reduceBEq, Nat.reduceLeDiff, Nat.reduceLT, Option.map_some, Option.map_none, beq_self_eq_true, Nat.reduceEqDiff, reduceCtorEq]
      | false => simp only [m_is_names, g_is_names, isi_tuple, oLen, le_int, h1, h2, k1, h3, decide_true, mOf, okIns, outsOf, sSeq, sNil, sAsg, sAsgT, sRet, sRetV, sRetN, sIf, sIfE, sAnd, sOr, sNot, sPrim, sArgs, sVar, sC, sExp, sCall, sCArgs, insOf, backC, fz, sChain, oTupL, oLstL, sUnp, gCons, gN, gNil, gT, sLput, peek, again, List.getElem?_cons_zero, List.getElem?_cons_succ, List.getElem?_nil, List.set_cons_zero, List.set_cons_succ, List.length_cons, List.length_nil, List.replicate_succ, List.replicate_zero, List.cons_append, List.nil_append, List.append_nil, List.contains_cons, List.contains_nil, Sl.owned, List.getD_cons_zero, List.getD_cons_succ, List.map_cons, List.map_nil, Bool.false_and, Bool.and_true, Bool.true_and, Bool.and_false, Bool.not_true, Bool.not_false, Bool.true_or, Bool.false_or, Bool.or_false, Bool.or_true, if_true, if_false, reduceIte, Bool.false_eq_true, Nat.reduceSub, Nat.reduceAdd, Nat.reduceBEq, Nat.reduceLeDiff, Nat.reduceLT, Option.map_some, Option.map_none, beq_self_eq_true, Nat.reduceEqDiff, reduceCtorEq]
    · simp only [m_is_names, g_is_names, isi_tuple, oLen, le_int, h1, h2, decide_true, decide_false, mOf, okIns, outsOf, sSeq, sNil, sAsg, sAsgT, sRet, sRetV, sRetN, sIf, sIfE, sAnd, sOr, sNot, sPrim, sArgs, sVar, sC, sExp, sCall, sCArgs, insOf, backC, fz, sChain, oTupL, oLstL, sUnp, gCons, gN, gNil, gT, sLput, peek, again, List.getElem?_cons_zero, List.getElem?_cons_succ, List.getElem?_nil, List.set_cons_zero, List.set_cons_succ, List.length_cons, List.length_nil, List.replicate_succ, List.replicate_zero, List.cons_append, List.nil_append, List.append_nil, List.contains_cons, List.contains_nil, Sl.owned, List.getD_cons_zero, List.getD_cons_succ, List.map_cons, List.map_nil, Bool.false_and, Bool.and_true, Bool.true_and, Bool.and_false, Bool.not_true, Bool.not_false, Bool.true_or, Bool.false_or, Bool.or_false, Bool.or_true, if_true, if_false, reduceIte, Bool.false_eq_true, Nat.reduceSub, Nat.reduceAdd, Nat.reduceBEq, Nat.reduceLeDiff, Nat.reduceLT, Option.map_some, Option.map_none, beq_self_eq_true, Nat.reduceEqDiff, reduceCtorEq]
  · simp only [m_is_names, g_is_names, isi_tuple, oLen, le_int, h1, decide_false, mOf, okIns, outsOf, sSeq, sNil, sAsg, sAsgT, sRet, sRetV, sRetN, sIf, sIfE, sAnd, sOr, sNot, sPrim, sArgs, sVar, sC, sExp, sCall, sCArgs, insOf, backC, fz, sChain, oTupL, oLstL, sUnp, gCons, gN, gNil, gT, sLput, peek, again, List.getElem?_cons_zero, List.getElem?_cons_succ, List.getElem?_nil, List.set_cons_zero, List.set_cons_succ, List.length_cons, List.length_nil, List.replicate_succ, List.replicate_zero, List.cons_append, List.nil_append, List.append_nil, List.contains_cons, List.contains_nil, Sl.owned, List.getD_cons_zero, List.getD_cons_succ, List.map_cons, List.map_nil, Bool.false_and, Bool.and_true, Bool.true_and, Bool.and_false, Bool.not_true, Bool.not_false, Bool.true_or, Bool.false_or, Bool.or_false, Bool.or_true, if_true, if_false, reduceIte, Bool.false_eq_true, Nat.reduceSub, Nat.reduceAdd, Nat.reduceBEq, Nat.reduceLeDiff, Nat.reduceLT, Option.map_some, Option.map_none, beq_self_eq_true, Nat.reduceEqDiff, reduceCtorEq]
def isPr : D → Bool
  | .tuple es => decide ((es.length : Int) = 2)
  | _ => false
def isVec : D → Bool
  | .tuple ds => ds.all isPr && (isNs 0 8 (ds.map fstD) && ds.all fun e => isNum 1 1000000000 (sndD e))
  | _ => false
theorem pr_two {d : D} (h : isPr d = true) : ∃ a b, d = .tuple [a, b] := by
  cases d with
  | tuple es =>
    have := of_decide_eq_true h
    match es, this with
    | [a, b], _ => exact ⟨a, b, rfl⟩
  | _ => cases h
theorem ev_is_vector (d : D) (hd : ∀ ds, d = .tuple ds → ds.length ≤ 1000 ∧ ∀ e ∈ ds, ∀ x b, e = .tuple [.str x, b] → x.length ≤ 1000) : m_is_vector [.val d] = .ok (.val (.bool (isVec d))) [.val d] := by
  cases d with
  | tuple ds =>
    obtain ⟨hl, hs⟩ := hd ds rfl
    have k1 : sAA false (hSeq (sVar 0)) 1 [] (gN 0) (sAnd (sPrim (oIsi "tuple") [(sVar 0)]) (sPrim oEq [(sPrim oLen [(sVar 0)]), (sC (.int 2))])) [.val (.tuple ds), .un] = .ok (.val (.bool (ds.all isPr))) [.val (.tuple ds), .un] := by
      have := sAA_pure (stop := false) (h := hSeq (sVar 0)) (n := 1) (cs := []) (gt := gN 0) (fe := sAnd (sPrim (oIsi "tuple") [(sVar 0)]) (sPrim oEq [(sPrim oLen [(sVar 0)]), (sC (.int 2))])) (ρ := [.val (.tuple ds), .un]) (ρ1 := [.val (.tuple ds), .un]) (ins := []) (its := ds) isPr rfl rfl fun d hd xs hx => by
        match xs, hx with
        | [z], _ =>
          refine ⟨[.val d], rfl, rfl, ?_⟩
          cases d <;> simp only [isi_tuple, oLen, eq_int, isPr, mOf, okIns, outsOf, sSeq, sNil, sAsg, sAsgT, sRet, sRetV, sRetN, sIf, sIfE, sAnd, sOr, sNot, sPrim, sArgs, sVar, sC, sExp, sCall, sCArgs, insOf, backC, fz, sChain, oTupL, oLstL, sUnp, gCons, gN, gNil, gT, sLput, peek, again, List.getElem?_cons_zero, List.getElem?_cons_succ, List.getElem?_nil, List.set_cons_zero, List.set_cons_succ, List.length_cons, List.length_nil, List.replicate_succ, List.replicate_zero, List.cons_append, List.nil_append, List.append_nil, List.contains_cons, List.contains_nil, Sl.owned, List.getD_cons_zero, List.getD_cons_succ, List.map_cons, List.map_nil, Bool.false_and, Bool.and_true, Bool.true_and, Bool.and_false, Bool.not_true, Bool.not_false, Bool.true_or, Bool.false_or, Bool.or_false, Bool.or_true, if_true, if_false, reduceIte, Bool.false_eq_true, Nat.reduceSub, Nat.reduceAdd, Nat.reduceBEq, Nat.reduceLeDiff, Nat.reduceLT, Option.map_some, Option.map_none, beq_self_eq_true, Nat.reduceEqDiff, reduceCtorEq]
      rw [this, cond_false]
    cases h1 : ds.all isPr with
    | false => simp only [m_is_vector, g_is_vector, isi_tuple, k1, h1, isVec, mOf, okIns, outsOf, sSeq, sNil, sAsg, sAsgT, sRet, sRetV, sRetN, sIf, sIfE, sAnd, sOr, sNot, sPrim, sArgs, sVar, sC, sExp, sCall, sCArgs, insOf, backC, fz, sChain, oTupL, oLstL, sUnp, gCons, gN, gNil, gT, sLput, peek, again, List.getElem?_cons_zero, List.getElem?_cons_succ, List.getElem?_nil, List.set_cons_zero, List.set_cons_succ, List.length_cons, List.length_nil, List.replicate_succ, List.replicate_zero, List.cons_append, List.nil_append, List.append_nil, List.contains_cons, List.contains_nil, Sl.owned, List.getD_cons_zero, List.getD_cons_succ, List.map_cons, List.map_nil, Bool.false_and, Bool.and_true, Bool.true_and, Bool.and_false, Bool.not_true, Bool.not_false, Bool.true_or, Bool.false_or, Bool.or_false, Bool.or_true, if_true, if_false, reduceIte, Bool.false_eq_true, Nat.reduceSub, Nat.reduceAdd, Nat.reduceBEq, Nat.reduceLeDiff, Nat.reduceLT, Option.map_some, Option.map_none, beq_self_eq_true, Nat.reduceEqDiff, reduceCtorEq]
    | true =>
      have two : ∀ e ∈ ds, ∃ a b, e = .tuple [a, b] := fun e he => pr_two (List.all_eq_true.mp h1 e he)
      have k2 : sLc [1] (hSeq (sVar 0)) (gN 1) sTrue (sPrim oIx [(sVar 1), (sC (.int 0))]) [.val (.tuple ds), .un] = .ok (.lst (ds.map fstD)) [.val (.tuple ds), .un] := by
        have := sLc_pure (vs := [1]) (h := hSeq (sVar 0)) (gt := gN 1) (ft := sTrue) (fe := sPrim oIx [(sVar 1), (sC (.int 0))]) (ρ := [.val (.tuple ds), .un]) (ρ1 := [.val (.tuple ds), .un]) (fun _ => true) fstD (its := ds) rfl (by omega) fun d hd => by
          obtain ⟨a, b, rfl⟩ := two d hd
          exact ⟨[.val (.tuple ds), .val (.tuple [a, b])], rfl, rfl, rfl, rfl, fun _ => ⟨.val a, rfl, rfl⟩⟩
        rw [this, List.filter_eq_self.mpr fun _ _ => rfl]
      have k3 : sAA false (hSeq (sVar 0)) 1 [] (gN 0) (sCall m_is_number [.ex (sPrim oIx [(sVar 0), (sC (.int 1))]), .ex (sC (.int 1)), .ex (sC (.int 1000000000))]) [.val (.tuple ds), .un] = .ok (.val (.bool (ds.all fun e => isNum 1 1000000000 (sndD e)))) [.val (.tuple ds), .un] := by
        have := sAA_pure (stop := false) (h := hSeq (sVar 0)) (n := 1) (cs := []) (gt := gN 0) (fe := sCall m_is_number [.ex (sPrim oIx [(sVar 0), (sC (.int 1))]), .ex (sC (.int 1)), .ex (sC (.int 1000000000))]) (ρ := [.val (.tuple ds), .un]) (ρ1 := [.val (.tuple ds), .un]) (ins := []) (its := ds) (fun e => isNum 1 1000000000 (sndD e)) rfl rfl fun d hd xs hx => by
          obtain ⟨a, b, rfl⟩ := two d hd
          match xs, hx with
          | [z], _ =>
            refine ⟨[.val (.tuple [a, b])], rfl, rfl, ?_⟩
            have : oIx [.tuple [a, b], .int 1] = some (.val b) := rfl
            simp only [this, ev_is_number, sndD, mOf, okIns, outsOf, sSeq, sNil, sAsg, sAsgT, sRet, sRetV, sRetN, sIf, sIfE, sAnd, sOr, sNot, sPrim, sArgs, sVar, sC, sExp, sCall, sCArgs, insOf, backC, fz, sChain, oTupL, oLstL, sUnp, gCons, gN, gNil, gT, sLput, peek, again, List.getElem?_cons_zero, List.getElem?_cons_succ, List.getElem?_nil, List.set_cons_zero, List.set_cons_succ, List.length_cons, List.length_nil, List.replicate_succ, List.replicate_zero, List.cons_append, List.nil_append, List.append_nil, List.contains_cons, List.contains_nil, Sl.owned, List.getD_cons_zero, List.getD_cons_succ, List.map_cons, List.map_nil, Bool.false_and, Bool.and_true, Bool.true_and, Bool.and_false, Bool.not_true, Bool.not_false, Bool.true_or, Bool.false_or, Bool.or_false, Bool.or_true, if_true, if_false, reduceIte, Bool.false_eq_true, Nat.reduceSub, Nat.reduceAdd, Nat.reduceBEq, Nat.reduceLeDiff, Nat.reduceLT, Option.map_some, Option.map_none, beq_self_eq_true, Nat.reduceEqDiff, reduceCtorEq]
        rw [this, cond_false]
      have k4 := ev_is_names (ds.map fstD) 0 8 (by rw [List.length_map]; exact hl) fun d hd x e => by
        obtain ⟨e', he, rfl⟩ := List.mem_map.mp hd
        obtain ⟨a, b, rfl⟩ := two e' he
        have e : a = .str x := e
        subst e
        exact hs _ he x b rfl
      cases h2 : isNs 0 8 (ds.map fstD) with
      | false => simp only [m_is_vector, g_is_vector, isi_tuple, k1, h1, k2, k4, h2, oTuple, isVec, mOf, okIns, outsOf, sSeq, sNil, sAsg, sAsgT, sRet, sRetV, sRetN, sIf, sIfE, sAnd, sOr, sNot, sPrim, sArgs, sVar, sC, sExp, sCall, sCArgs, insOf, backC, fz, sChain, oTupL, oLstL, sUnp, gCons, gN, gNil, gT, sLput, peek, again, List.getElem?_cons_zero, List.getElem?_cons_succ, List.getElem?_nil, List.set_cons_zero, List.set_cons_succ, List.length_cons, List.length_nil, List.replicate_succ, List.replicate_zero, List.cons_append, List.nil_append, List.append_nil, List.contains_cons, List.contains_nil, Sl.owned, List.getD_cons_zero, List.getD_cons_succ, List.map_cons, List.map_nil, Bool.false_and, Bool.and_true, Bool.true_and, Bool.and_false, Bool.not_true, Bool.not_false, Bool.true_or, Bool.false_or, Bool.or_false, Bool.or_true, if_true, if_false, reduceIte, Bool.false_eq_true, Nat.reduceSub, Nat.reduceAdd, Nat.reduceBEq, Nat.reduceLeDiff, Nat.reduceLT, Option.map_some, Option.map_none, beq_self_eq_true, Nat.reduceEqDiff, reduceCtorEq]
      | true => simp only [m_is_vector, g_is_vector, isi_tuple, k1, h1, k2, k3, k4, h2, oTuple, isVec, mOf, okIns, outsOf, sSeq, sNil, sAsg, sAsgT, sRet, sRetV, sRetN, sIf, sIfE, sAnd, sOr, sNot, sPrim, sArgs, sVar, sC, sExp, sCall, sCArgs, insOf, backC, fz, sChain, oTupL, oLstL, sUnp, gCons, gN, gNil, gT, sLput, peek, again, List.getElem?_cons_zero, List.getElem?_cons_succ, List.getElem?_nil, List.set_cons_zero, List.set_cons_succ, List.length_cons, List.length_nil, List.replicate_succ, List.replicate_zero, List.cons_append, List.nil_append, List.append_nil, List.contains_cons, List.contains_nil, Sl.owned, List.getD_cons_zero, List.getD_cons_succ, List.map_cons, List.map_nil, Bool.false_and, Bool.and_true, Bool.true_and, Bool.and_false, Bool.not_true, Bool.not_false, Bool.true_or, Bool.false_or, Bool.or_false, Bool.or_true, if_true, if_false, reduceIte, Bool.false_eq_true, Nat.reduceSub, Nat.reduceAdd, Nat.reduceBEq, Nat.reduceLeDiff, Nat.reduceLT, Option.map_some, Option.map_none, beq_self_eq_true, Nat.reduceEqDiff, reduceCtorEq]
  | bool b => simp only [m_is_vector, g_is_vector, isi_tuple, isVec, mOf, okIns, outsOf, sSeq, sNil, sAsg, sAsgT, sRet, sRetV, sRetN, sIf, sIfE, sAnd, sOr, sNot, sPrim, sArgs, sVar, sC, sExp, sCall, sCArgs, insOf, backC, fz, sChain, oTupL, oLstL, sUnp, gCons, gN, gNil, gT, sLput, peek, again, List.getElem?_cons_zero, List.getElem?_cons_succ, List.getElem?_nil, List.set_cons_zero, List.set_cons_succ, List.length_cons, List.length_nil, List.replicate_succ, List.replicate_zero, List.cons_append, List.nil_append, List.append_nil, List.contains_cons, List.contains_nil, Sl.owned, List.getD_cons_zero, List.getD_cons_succ, List.map_cons, List.map_nil, Bool.false_and, Bool.and_true, Bool.true_and, Bool.and_false, Bool.not_true, Bool.not_false, Bool.true_or, Bool.false_or, Bool.or_false, Bool.or_true, if_true, if_false, reduceIte, Bool.false_eq_true, Nat.reduceSub, Nat.reduceAdd, Nat.reduceBEq, Nat.reduceLeDiff, Nat.reduceLT, Option.map_some, Option.map_none, beq_self_eq_true, Nat.reduceEqDiff, reduceCtorEq]
  | none => simp only [m_is_vector, g_is_vector, isi_tuple, isVec, mOf, okIns, outsOf, sSeq, sNil, sAsg, sAsgT, sRet, sRetV, sRetN, sIf, sIfE, sAnd, sOr, sNot, sPrim, sArgs, sVar, sC, sExp, sCall, sCArgs, insOf, backC, fz, sChain, oTupL, oLstL, sUnp, gCons, gN, gNil, gT, sLput, peek, again, List.getElem?_cons_zero, List.getElem?_cons_succ, List.getElem?_nil, List.set_cons_zero, List.set_cons_succ, List.length_cons, List.length_nil, List.replicate_succ, List.replicate_zero, List.cons_append, List.nil_append, List.append_nil, List.contains_cons, List.contains_nil, Sl.owned, List.getD_cons_zero, List.getD_cons_succ, List.map_cons, List.map_nil, Bool.false_and, Bool.and_true, Bool.true_and, Bool.and_false, Bool.not_true, Bool.not_false, Bool.true_or, Bool.false_or, Bool.or_false, Bool.or_true, if_true, if_false, reduceIte, Bool.false_eq_true, Nat.reduceSub, Nat.reduceAdd, Nat.reduceBEq, Nat.reduceLeDiff, Nat.reduceLT, Option.map_some, Option.map_none, beq_self_eq_true, Nat.reduceEqDiff, reduceCtorEq]
  | int b => simp only [m_is_vector, g_is_vector, isi_tuple, isVec, mOf, okIns, outsOf, sSeq, sNil, sAsg, sAsgT, sRet, sRetV, sRetN, sIf, sIfE, sAnd, sOr, sNot, sPrim, sArgs, sVar, sC, sExp, sCall, sCArgs, insOf, backC, fz, sChain, oTupL, oLstL, sUnp, gCons, gN, gNil, gT, sLput, peek, again, List.getElem?_cons_zero, List.getElem?_cons_succ, List.getElem?_nil, List.set_cons_zero, List.set_cons_succ, List.length_cons, List.length_nil, List.replicate_succ, List.replicate_zero, List.cons_append, List.nil_append, List.append_nil, List.contains_cons, List.contains_nil, Sl.owned, List.getD_cons_zero, List.getD_cons_succ, List.map_cons, List.map_nil, Bool.false_and, Bool.and_true, Bool.true_and, Bool.and_false, Bool.not_true, Bool.not_false, Bool.true_or, Bool.false_or, Bool.or_false, Bool.or_true, if_true, if_false, reduceIte, Bool.false_eq_true, Nat.reduceSub, Nat.reduceAdd, Nat.reduceBEq, Nat.reduceLeDiff, Nat.reduceLT, Option.map_some, Option.map_none, beq_self_eq_true, Nat.reduceEqDiff, reduceCtorEq]
  | list b => simp only [m_is_vector, g_is_vector, isi_tuple, isVec, mOf, okIns, outsOf, sSeq, sNil, sAsg, sAsgT, sRet, sRetV, sRetN, sIf, sIfE, sAnd, sOr, sNot, sPrim, sArgs, sVar, sC, sExp, sCall, sCArgs, insOf, backC, fz, sChain, oTupL, oLstL, sUnp, gCons, gN, gNil, gT, sLput, peek, again, List.getElem?_cons_zero, List.getElem?_cons_succ, List.getElem?_nil, List.set_cons_zero, List.set_cons_succ, List.length_cons, List.length_nil, List.replicate_succ, List.replicate_zero, List.cons_append, List.nil_append, List.append_nil, List.contains_cons, List.contains_nil, Sl.owned, List.getD_cons_zero, List.getD_cons_succ, List.map_cons, List.map_nil, Bool.false_and, Bool.and_true, Bool.true_and, Bool.and_false, Bool.not_true, Bool.not_false, Bool.true_or, Bool.false_or, Bool.or_false, Bool.or_true, if_true, if_false, reduceIte, Bool.false_eq_true, Nat.reduceSub, Nat.reduceAdd, Nat.reduceBEq, Nat.reduceLeDiff, Nat.reduceLT, Option.map_some, Option.map_none, beq_self_eq_true, Nat.reduceEqDiff, reduceCtorEq]
  | str b => simp only [m_is_vector, g_is_vector, isi_tuple, isVec, mOf, okIns, outsOf, sSeq, sNil, sAsg, sAsgT, sRet, sRetV, sRetN, sIf, sIfE, sAnd, sOr, sNot, sPrim, sArgs, sVar, sC, sExp, sCall, sCArgs, insOf, backC, fz, sChain, oTupL, oLstL, sUnp, gCons, gN, gNil, gT, sLput, peek, again, List.getElem?_cons_zero, List.getElem?_cons_succ, List.getElem?_nil, List.set_cons_zero, List.set_cons_succ, List.length_cons, List.length_nil, List.replicate_succ, List.replicate_zero, List.cons_append, List.nil_append, List.append_nil, List.contains_cons, List.contains_nil, Sl.owned, List.getD_cons_zero, List.getD_cons_succ, List.map_cons, List.map_nil, Bool.false_and, Bool.and_true, Bool.true_and, Bool.and_false, Bool.not_true, Bool.not_false, Bool.true_or, Bool.false_or, Bool.or_false, Bool.or_true, if_true, if_false, reduceIte, Bool.false_eq_true, Nat.reduceSub, Nat.reduceAdd, Nat.reduceBEq, Nat.reduceLeDiff, Nat.reduceLT, Option.map_some, Option.map_none, beq_self_eq_true, Nat.reduceEqDiff, reduceCtorEq]
  | dict b => simp only [m_is_vector, g_is_vector, isi_tuple, isVec, mOf, okIns, outsOf, sSeq, sNil, sAsg, sAsgT, sRet, sRetV, sRetN, sIf, sIfE, sAnd, sOr, sNot, sPrim, sArgs, sVar, sC, sExp, sCall, sCArgs, insOf, backC, fz, sChain, oTupL, oLstL, sUnp, gCons, gN, gNil, gT, sLput, peek, again, List.getElem?_cons_zero, List.getElem?_cons_succ, List.getElem?_nil, List.set_cons_zero, List.set_cons_succ, List.length_cons, List.length_nil, List.replicate_succ, List.replicate_zero, List.cons_append, List.nil_append, List.append_nil, List.contains_cons, List.contains_nil, Sl.owned, List.getD_cons_zero, List.getD_cons_succ, List.map_cons, List.map_nil, Bool.false_and, Bool.and_true, Bool.true_and, Bool.and_false, Bool.not_true, Bool.not_false, Bool.true_or, Bool.false_or, Bool.or_false, Bool.or_true, if_true, if_false, reduceIte, Bool.false_eq_true, Nat.reduceSub, Nat.reduceAdd, Nat.reduceBEq, Nat.reduceLeDiff, Nat.reduceLT, Option.map_some, Option.map_none, beq_self_eq_true, Nat.reduceEqDiff, reduceCtorEq]
end Pu
end M57g_part
section M57h_part
set_option Elab.async false
set_option linter.all false
set_option maxRecDepth 100000
set_option maxHeartbeats 1000000
/-! _law_open, _law_vector, _law_same, _law_int. -/
namespace Pu
open PySem PySem.Spec PyProof.Rows L2
theorem cut_to (xs : List D) (k : Nat) : cutD xs none (some (k : Int)) = xs.take k := by
  unfold cutD
  rw [HT.sIx_none, HT.sIx_nat, List.drop_zero, Nat.sub_zero]
  by_cases h : k ≤ xs.length
  · rw [Nat.min_eq_left h]
  · rw [Nat.min_eq_right (by omega), List.take_of_length_le (Nat.le_refl _), List.take_of_length_le (by omega)]
theorem ev_law_same (a b : Bool) : m__law_same [.val (.bool a), .val (.bool b)] = .ok (.val (.bool (a == b))) [.val (.bool a), .val (.bool b)] := by
  cases a <;> cases b <;> rfl
theorem ev_law_int (i : Int) : m__law_int [.val (.int i)] = .ok (.val (.bool true)) [.val (.int i)] := by
  simp only [m__law_int, g__law_int, isi_int, isi_bool, mOf, okIns, outsOf, sSeq, sNil, sAsg, sAsgT, sRet, sRetV, sRetN, sIf, sIfE, sAnd, sOr, sNot, sPrim, sArgs, sVar, sC, sExp, sCall, sCArgs, insOf, backC, fz, sChain, oTupL, oLstL, sUnp, gCons, gN, gNil, gT, sLput, peek, again, List.getElem?_cons_zero, List.getElem?_cons_succ, List.getElem?_nil, List.set_cons_zero, List.set_cons_succ, List.length_cons, List.length_nil, List.replicate_succ, List.replicate_zero, List.cons_append, List.nil_append, List.append_nil, List.contains_cons, List.contains_nil, Sl.owned, List.getD_cons_zero, List.getD_cons_succ, List.map_cons, List.map_nil, Bool.false_and, Bool.and_true, Bool.true_and, Bool.and_false, Bool.not_true, Bool.not_false, Bool.true_or, Bool.false_or, Bool.or_false, Bool.or_true, if_true, if_false, reduceIte, Bool.false_eq_true, Nat.reduceSub, Nat.reduceAdd, Nat.reduceBEq, Nat.reduceLeDiff, Nat.reduceLT, Option.map_some, Option.map_none, beq_self_eq_true, Nat.reduceEqDiff, reduceCtorEq]
def absI (i : Int) : Int := if i < 0 then -i else i
theorem ev_law_open (ns : List Int) (hl : ns.length ≤ 63) : ∃ s, DrawSt s ∧ m__law_open [.val (.list (ns.map .int))] = .ok s [.val (.list (ns.map .int))] := by
  have hc : cutD (ns.map PyData.int) none (some 63) = ns.map PyData.int := by
    have := cut_to (ns.map PyData.int) 63
    rw [List.take_of_length_le (by rw [List.length_map]; exact hl)] at this
    exact this
  have key : sLc [2] (hSeq (sSl (sVar 0) .no (.at (sC (.int 63))))) (gN 2) sTrue (sPrim oAbs [(sPrim oInt [(sVar 2)])]) [.val (.list (ns.map .int)), .un, .un] = .ok (.lst ((ns.map absI).map .int)) [.val (.list (ns.map .int)), .un, .un] := by
    have := sLc_pure (vs := [2]) (h := hSeq (sSl (sVar 0) .no (.at (sC (.int 63))))) (gt := gN 2) (ft := sTrue) (fe := sPrim oAbs [(sPrim oInt [(sVar 2)])]) (ρ := [.val (.list (ns.map .int)), .un, .un]) (ρ1 := [.val (.list (ns.map .int)), .un, .un]) (fun _ => true)
      (fun d => match d with | .int i => .int (absI i) | d => d) (its := ns.map .int) (by simp only [hSeq, sSl, sPt, oSl, hc, itemsD, mOf, okIns, outsOf, sSeq, sNil, sAsg, sAsgT, sRet, sRetV, sRetN, sIf, sIfE, sAnd, sOr, sNot, sPrim, sArgs, sVar, sC, sExp, sCall, sCArgs, insOf, backC, fz, sChain, oTupL, oLstL, sUnp, gCons, gN, gNil, gT, sLput, peek, again, List.getElem?_cons_zero, List.getElem?_cons_succ, List.getElem?_nil, List.set_cons_zero, List.set_cons_succ, List.length_cons, List.length_nil, List.replicate_succ, List.replicate_zero, List.cons_append, List.nil_append, List.append_nil, List.contains_cons, List.contains_nil, Sl.owned, List.getD_cons_zero, List.getD_cons_succ, List.map_cons, List.map_nil, Bool.false_and, Bool.and_true, Bool.true_and, Bool.and_false, Bool.not_true, Bool.not_false, Bool.true_or, Bool.false_or, Bool.or_false, Bool.or_true, if_true, if_false, reduceIte, Bool.false_eq_true, Nat.reduceSub, Nat.reduceAdd, Nat.reduceBEq, Nat.reduceLeDiff, Nat.reduceLT, Option.map_some, Option.map_none, beq_self_eq_true, Nat.reduceEqDiff, reduceCtorEq]) (by rw [List.length_map]; omega) fun d hd => by
      obtain ⟨i, hi, rfl⟩ := List.mem_map.mp hd
      exact ⟨[.val (.list (ns.map .int)), .un, .val (.int i)], rfl, rfl, rfl, rfl, fun _ => ⟨.val (.int (absI i)), rfl, rfl⟩⟩
    rw [this, List.filter_eq_self.mpr fun _ _ => rfl, List.map_map, List.map_map]
    rfl
  have hs : isSmall (((ns.map absI).map PyData.int).length + [PyData.int 0].length) = true := small_of (by simp only [List.length_map, List.length_cons, List.length_nil]; omega)
  have e : (ns.map absI).map PyData.int ++ [PyData.int 0] = (ns.map absI ++ [0]).map PyData.int := by rw [List.map_append]; rfl
  refine ⟨.lst [.int 0, .int 0, .list ((ns.map absI ++ [0]).map .int)], ⟨0, 0, ns.map absI ++ [0], by decide, by decide, by simp, fun z hz => ?_, rfl⟩, ?_⟩
  · rcases List.mem_append.mp hz with hz | hz
    · obtain ⟨i, _, rfl⟩ := List.mem_map.mp hz
      unfold absI
      split <;> omega
    · rw [List.mem_singleton] at hz; omega
  · simp only [m__law_open, g__law_open, key, oAdd, mOf, okIns, outsOf, sSeq, sNil, sAsg, sAsgT, sRet, sRetV, sRetN, sIf, sIfE, sAnd, sOr, sNot, sPrim, sArgs, sVar, sC, sExp, sCall, sCArgs, insOf, backC, fz, sChain, oTupL, oLstL, sUnp, gCons, gN, gNil, gT, sLput, peek, again, List.getElem?_cons_zero, List.getElem?_cons_succ, List.getElem?_nil, List.set_cons_zero, List.set_cons_succ, List.length_cons, List.length_nil, List.replicate_succ, List.replicate_zero, List.cons_append, List.nil_append, List.append_nil, List.contains_cons, List.contains_nil, Sl.owned, List.getD_cons_zero, List.getD_cons_succ, List.map_cons, List.map_nil, Bool.false_and, Bool.and_true, Bool.true_and, Bool.and_false, Bool.not_true, Bool.not_false, Bool.true_or, Bool.false_or, Bool.or_false, Bool.or_true, if_true, if_false, reduceIte, Bool.false_eq_true, Nat.reduceSub, Nat.reduceAdd, Nat.reduceBEq, Nat.reduceLeDiff, Nat.reduceLT, Option.map_some, Option.map_none, beq_self_eq_true, Nat.reduceEqDiff, reduceCtorEq] at *
    rw [if_pos hs, e]
    rfl
def NAMES8 : List Str := ["a", "bob", "c", "d", "e", "f", "g", "h"]
theorem names_srt : NAMES8.Pairwise fun a b => a.cps.toList < b.cps.toList := by unfold NAMES8; decide +kernel
theorem DrawSt.lst {s : Sl} (h : DrawSt s) : ∃ ds, s = .lst ds := let ⟨_, _, _, _, _, _, _, e⟩ := h; ⟨_, e⟩
theorem vec_loop (m L : D) (size : Int) (h1 : 0 < size) (h2 : size ≤ 1000000000) : ∀ (names : List Str) (s x : Sl), DrawSt s →
    ∃ (v : V2) (s' x' : Sl), DrawSt s' ∧ (v.map (·.1)).Sublist names ∧ (∀ p ∈ v, 1 ≤ p.2 ∧ p.2 ≤ 1000000000) ∧
      lcLoop [4] (gN 4) (sPrim oGt [(sCall m__law_draw [.nm 0, .ex (sC (.int 3))]), (sC (.int 0))]) (sPrim oTupL [(sVar 4), (sPrim oAdd [(sC (.int 1)), (sCall m__law_draw [.nm 0, .ex (sVar 3)])])]) (names.map PyData.str) [s, .val m, .val L, .val (.int size), x] =
        .ok (v.map encP) [s', .val m, .val L, .val (.int size), x']
  | [], s, x, hs => ⟨[], s, x, hs, List.nil_sublist _, (fun p hp => nomatch (hp : p ∈ ([] : V2))), rfl⟩
  | n :: names, s, x, hs => by
    obtain ⟨r, s1, r1, r2, hs1, e1⟩ := ev_draw hs 3 (by decide) (by decide)
    obtain ⟨ds, rfl⟩ := hs.lst
    obtain ⟨ds1, rfl⟩ := hs1.lst
    by_cases h0 : 0 < r
    · obtain ⟨q, s2, q1, q2, hs2, e2⟩ := ev_draw hs1 size h1 (by omega)
      obtain ⟨ds2, rfl⟩ := hs2.lst
      obtain ⟨v, s', x', a1, a2, a3, a4⟩ := vec_loop m L size h1 h2 names (.lst ds2) (.val (.str n)) hs2
      refine ⟨(n, 1 + q) :: v, s', x', a1, ?_, fun p hp => ?_, ?_⟩
      · rw [List.map_cons]; exact a2.cons₂ n
      · rcases List.mem_cons.mp hp with e | hp
        · subst e; exact ⟨by show 1 ≤ 1 + q; omega, by show 1 + q ≤ _; omega⟩
        · exact a3 p hp
      · simp only [List.map_cons, lcLoop, wipeE, e1, e2, gt_int, h0, oAdd, a4, encP, decide_true, mOf, okIns, outsOf, sSeq, sNil, sAsg, sAsgT, sRet, sRetV, sRetN, sIf, sIfE, sAnd, sOr, sNot, sPrim, sArgs, sVar, sC, sExp, sCall, sCArgs, insOf, backC, fz, sChain, oTupL, oLstL, sUnp, gCons, gN, gNil, gT, sLput, peek, again, List.getElem?_cons_zero, List.getElem?_cons_succ, List.getElem?_nil, List.set_cons_zero, List.set_cons_succ, List.length_cons, List.length_nil, List.replicate_succ, List.replicate_zero, List.cons_append, List.nil_append, List.append_nil, List.contains_cons, List.contains_nil, Sl.owned, List.getD_cons_zero, List.getD_cons_succ, List.map_cons, List.map_nil, Bool.false_and, Bool.and_true, Bool.true_and, Bool.and_false, Bool.not_true, Bool.not_false, Bool.true_or, Bool.false_or, Bool.or_false, Bool.or_true, if_true, if_false, reduceIte, Bool.false_eq_true, Nat.reduceSub, Nat.reduceAdd, Nat.reduceBEq, Nat.reduceLeDiff, Nat.reduceLT, Option.map_some, Option.map_none, beq_self_eq_true, Nat.reduceEqDiff, reduceCtorEq]
    · obtain ⟨v, s', x', a1, a2, a3, a4⟩ := vec_loop m L size h1 h2 names (.lst ds1) (.val (.str n)) hs1
      refine ⟨v, s', x', a1, a2.cons n, a3, ?_⟩
      simp only [List.map_cons, lcLoop, wipeE, e1, gt_int, h0, a4, decide_false, mOf, okIns, outsOf, sSeq, sNil, sAsg, sAsgT, sRet, sRetV, sRetN, sIf, sIfE, sAnd, sOr, sNot, sPrim, sArgs, sVar, sC, sExp, sCall, sCArgs, insOf, backC, fz, sChain, oTupL, oLstL, sUnp, gCons, gN, gNil, gT, sLput, peek, again, List.getElem?_cons_zero, List.getElem?_cons_succ, List.getElem?_nil, List.set_cons_zero, List.set_cons_succ, List.length_cons, List.length_nil, List.replicate_succ, List.replicate_zero, List.cons_append, List.nil_append, List.append_nil, List.contains_cons, List.contains_nil, Sl.owned, List.getD_cons_zero, List.getD_cons_succ, List.map_cons, List.map_nil, Bool.false_and, Bool.and_true, Bool.true_and, Bool.and_false, Bool.not_true, Bool.not_false, Bool.true_or, Bool.false_or, Bool.or_false, Bool.or_true, if_true, if_false, reduceIte, Bool.false_eq_true, Nat.reduceSub, Nat.reduceAdd, Nat.reduceBEq, Nat.reduceLeDiff, Nat.reduceLT, Option.map_some, Option.map_none, beq_self_eq_true, Nat.reduceEqDiff, reduceCtorEq]
/-- vectors of the law -/
def VOk (v : V2) : Prop := srt v ∧ (∀ p ∈ v, 1 ≤ p.2 ∧ p.2 ≤ 1000000000) ∧ ∀ p ∈ v, p.1 ∈ NAMES8
theorem VOk.pz {v : V2} (h : VOk v) : pz v := fun p hp => (h.2.1 p hp).1
theorem sub_len : ∀ {l m : List Str}, l.Nodup → (∀ x ∈ l, x ∈ m) → l.length ≤ m.length
  | [], _, _, _ => Nat.zero_le _
  | x :: l, m, hn, hs => by
    rw [List.nodup_cons] at hn
    have h1 := sub_len (l := l) (m := m.erase x) hn.2 fun y hy => (List.mem_erase_of_ne (fun e => hn.1 (by rw [← e]; exact hy))).mpr (hs y (List.mem_cons_of_mem _ hy))
    have h2 := List.length_erase_of_mem (hs x List.mem_cons_self)
    have h3 := List.length_pos_of_mem (hs x List.mem_cons_self)
    rw [List.length_cons]
    omega
theorem VOk.len {v : V2} (h : VOk v) : v.length ≤ 8 := by
  have := sub_len (srt_nd h.1) (m := NAMES8) fun x hx => by
    obtain ⟨p, hp, rfl⟩ := List.mem_map.mp hx
    exact h.2.2 p hp
  rw [List.length_map] at this
  exact this
theorem ev_law_vector {s : Sl} (hs : DrawSt s) (k : Nat) : ∃ v s', VOk v ∧ DrawSt s' ∧ m__law_vector [s, .val (.int (k : Int))] = .ok (.val (enc v)) [s', .val (.int (k : Int))] := by
  obtain ⟨r, s1, r1, r2, hs1, e1⟩ := ev_draw hs 3 (by decide) (by decide)
  obtain ⟨ds, rfl⟩ := hs.lst
  obtain ⟨ds1, rfl⟩ := hs1.lst
  obtain ⟨size, z1, z2, ez⟩ : ∃ size : Int, 0 < size ∧ size ≤ 1000000000 ∧ oIx [.list [.int 2, .int 4, .int 1000000000], .int r] = some (.val (.int size)) := by
    have : r = 0 ∨ r = 1 ∨ r = 2 := by omega
    rcases this with e | e | e
    · subst e; exact ⟨2, by decide, by decide, rfl⟩
    · subst e; exact ⟨4, by decide, by decide, rfl⟩
    · subst e; exact ⟨1000000000, by decide, by decide, rfl⟩
  obtain ⟨v, s', x', a1, a2, a3, a4⟩ := vec_loop (.int (k : Int)) (.list (NAMES8.map .str)) size z1 z2 (NAMES8.take k) (.lst ds1) .un hs1
  have hsub : (v.map (·.1)).Sublist NAMES8 := a2.trans (List.take_sublist k NAMES8)
  refine ⟨v, s', ⟨?_, a3, fun p hp => hsub.subset (List.mem_map.mpr ⟨p, hp, rfl⟩)⟩, a1, ?_⟩
  · unfold srt
    rw [← List.pairwise_map (f := fun p : Str × Int => p.1) (R := fun a b : Str => a.cps.toList < b.cps.toList)]
    exact names_srt.sublist hsub
  · have hc : cutD (NAMES8.map PyData.str) none (some (k : Int)) = (NAMES8.take k).map PyData.str := by rw [cut_to, List.map_take]
    have hn : [PyData.str "a", .str "bob", .str "c", .str "d", .str "e", .str "f", .str "g", .str "h"] = NAMES8.map PyData.str := rfl
    have hl : ((NAMES8.take k).map PyData.str).length ≤ 1000000 := by rw [List.length_map, List.length_take]; have : NAMES8.length = 8 := rfl; omega
    have key : sLc [4] (hSeq (sSl (sVar 2) .no (.at (sVar 1)))) (gN 4) (sPrim oGt [(sCall m__law_draw [.nm 0, .ex (sC (.int 3))]), (sC (.int 0))]) (sPrim oTupL [(sVar 4), (sPrim oAdd [(sC (.int 1)), (sCall m__law_draw [.nm 0, .ex (sVar 3)])])]) [.lst ds1, .val (.int (k : Int)), .lst (NAMES8.map PyData.str), .val (.int size), .un] =
        .ok (.lst (v.map encP)) [s', .val (.int (k : Int)), .val (.list (NAMES8.map PyData.str)), .val (.int size), .un] := by
      have hh : hSeq (sSl (sVar 2) .no (.at (sVar 1))) [.lst ds1, .val (.int (k : Int)), .lst (NAMES8.map PyData.str), .val (.int size), .un] = .ok ((NAMES8.take k).map PyData.str) [.lst ds1, .val (.int (k : Int)), .val (.list (NAMES8.map PyData.str)), .val (.int size), .un] := by
        simp only [hSeq, sSl, sPt, oSl, hc, itemsD, mOf, okIns, outsOf, sSeq, sNil, sAsg, sAsgT, sRet, sRetV, sRetN, sIf, sIfE, sAnd, sOr, sNot, sPrim, sArgs, sVar, sC, sExp, sCall, sCArgs, insOf, backC, fz, sChain, oTupL, oLstL, sUnp, gCons, gN, gNil, gT, sLput, peek, again, List.getElem?_cons_zero, List.getElem?_cons_succ, List.getElem?_nil, List.set_cons_zero, List.set_cons_succ, List.length_cons, List.length_nil, List.replicate_succ, List.replicate_zero, List.cons_append, List.nil_append, List.append_nil, List.contains_cons, List.contains_nil, Sl.owned, List.getD_cons_zero, List.getD_cons_succ, List.map_cons, List.map_nil, Bool.false_and, Bool.and_true, Bool.true_and, Bool.and_false, Bool.not_true, Bool.not_false, Bool.true_or, Bool.false_or, Bool.or_false, Bool.or_true, if_true, if_false, reduceIte, Bool.false_eq_true, Nat.reduceSub, Nat.reduceAdd, Nat.reduceBEq, Nat.reduceLeDiff, Nat.reduceLT, Option.map_some, Option.map_none, beq_self_eq_true, Nat.reduceEqDiff, reduceCtorEq]
      simp only [sLc, hh, hl, a4, if_true]
      rfl
    have p9 : oPow [.int 10, .int 9] = some (.val (.int 1000000000)) := rfl
    have hn8 : (NAMES8.map PyData.str).length = 8 := rfl
    have p9' : oPow [.int 10, .int 9] = some (.val (.int 1000000000)) := p9
    simp only [m__law_vector, g__law_vector, hn, hn8, p9, e1, ez, key, oTuple, Nat.reduceLeDiff, mOf, okIns, outsOf, sSeq, sNil, sAsg, sAsgT, sRet, sRetV, sRetN, sIf, sIfE, sAnd, sOr, sNot, sPrim, sArgs, sVar, sC, sExp, sCall, sCArgs, insOf, backC, fz, sChain, oTupL, oLstL, sUnp, gCons, gN, gNil, gT, sLput, peek, again, List.getElem?_cons_zero, List.getElem?_cons_succ, List.getElem?_nil, List.set_cons_zero, List.set_cons_succ, List.length_cons, List.length_nil, List.replicate_succ, List.replicate_zero, List.cons_append, List.nil_append, List.append_nil, List.contains_cons, List.contains_nil, Sl.owned, List.getD_cons_zero, List.getD_cons_succ, List.map_cons, List.map_nil, Bool.false_and, Bool.and_true, Bool.true_and, Bool.and_false, Bool.not_true, Bool.not_false, Bool.true_or, Bool.false_or, Bool.or_false, Bool.or_true, if_true, if_false, reduceIte, Bool.false_eq_true, Nat.reduceSub, Nat.reduceAdd, Nat.reduceBEq, Nat.reduceLeDiff, Nat.reduceLT, Option.map_some, Option.map_none, beq_self_eq_true, Nat.reduceEqDiff, reduceCtorEq]
    rfl
end Pu
end M57h_part
section M57i_part
set_option Elab.async false
set_option linter.all false
set_option maxRecDepth 100000
set_option maxHeartbeats 1000000
/-! _law_wrong. -/
namespace Pu
open PySem PySem.Spec PyProof.Rows L2
def NAMES9 : List Str := NAMES8 ++ [("zed" : Str)]
theorem names_ok : NAMES9.all (fun x => isNm (.str x) && decide (x.length ≤ 1000)) = true := by unfold NAMES9 NAMES8; decide +kernel
/-- vectors that is_vector takes -/
theorem isv_enc {v : V2} (h1 : srt v) (h2 : ∀ p ∈ v, 1 ≤ p.2 ∧ p.2 ≤ 1000000000) (h3 : ∀ p ∈ v, p.1 ∈ NAMES9) (h4 : v.length ≤ 8) : isVec (enc v) = true := by
  have hn := List.all_eq_true.mp names_ok
  have a1 : (v.map encP).all isPr = true := by
    rw [List.all_eq_true]; intro d hd
    obtain ⟨p, _, rfl⟩ := List.mem_map.mp hd
    rfl
  have a2 : (v.map encP).map fstD = (v.map (·.1)).map PyData.str := by
    rw [List.map_map, List.map_map]; rfl
  have a3 : ((v.map (·.1)).map PyData.str).map strOf = v.map (·.1) := by
    rw [List.map_map]; exact List.map_id _
  have a4 : incr (v.map (·.1)) = true := incr_of (by rw [List.pairwise_map]; exact h1)
  have a5 : ((v.map (·.1)).map PyData.str).all isNm = true := by
    rw [List.all_eq_true]; intro d hd
    obtain ⟨x, hx, rfl⟩ := List.mem_map.mp hd
    obtain ⟨p, hp, rfl⟩ := List.mem_map.mp hx
    have := hn _ (h3 p hp)
    rw [Bool.and_eq_true] at this
    exact this.1
  have a6 : (v.map encP).all (fun e => isNum 1 1000000000 (sndD e)) = true := by
    rw [List.all_eq_true]; intro d hd
    obtain ⟨p, hp, rfl⟩ := List.mem_map.mp hd
    show (decide (1 ≤ p.2) && decide (p.2 ≤ 1000000000)) = true
    rw [decide_eq_true (h2 p hp).1, decide_eq_true (h2 p hp).2]
    rfl
  have a7 : isNs 0 8 ((v.map encP).map fstD) = true := by
    rw [a2]
    unfold isNs
    rw [a3, a4, a5, List.length_map, List.length_map, decide_eq_true (by omega : (0:Int) ≤ (v.length : Int)), decide_eq_true (by omega : (v.length : Int) ≤ 8)]
    rfl
  show ((v.map encP).all isPr && (isNs 0 8 ((v.map encP).map fstD) && (v.map encP).all fun e => isNum 1 1000000000 (sndD e))) = true
  rw [a1, a6, a7]
  rfl
theorem ev_isv {v : V2} (h3 : ∀ p ∈ v, p.1 ∈ NAMES9) (h4 : v.length ≤ 1000) : m_is_vector [.val (enc v)] = .ok (.val (.bool (isVec (enc v)))) [.val (enc v)] :=
  ev_is_vector _ fun ds e => by
    cases e
    refine ⟨by rw [List.length_map]; exact h4, fun e he x b ee => ?_⟩
    obtain ⟨p, hp, rfl⟩ := List.mem_map.mp he
    cases ee
    have := List.all_eq_true.mp names_ok _ (h3 p hp)
    rw [Bool.and_eq_true] at this
    exact of_decide_eq_true this.2
theorem VOk.n9 {v : V2} (h : VOk v) : ∀ p ∈ v, p.1 ∈ NAMES9 := fun p hp => List.mem_append_left [("zed" : Str)] (h.2.2 p hp)
theorem VOk.isv {v : V2} (h : VOk v) : m_is_vector [.val (enc v)] = .ok (.val (.bool true)) [.val (enc v)] := by
  rw [ev_isv h.n9 (Nat.le_trans h.len (by decide)), isv_enc h.1 h.2.1 h.n9 h.len]
def sideB : D → Bool
  | .tuple ds => decide (ds.length ≤ 1000) && ds.all fun e => match e with | .tuple [.str x, _] => decide (x.length ≤ 1000) | _ => true
  | _ => true
theorem ev_side {d : D} (h : sideB d = true) : m_is_vector [.val d] = .ok (.val (.bool (isVec d))) [.val d] :=
  ev_is_vector d fun ds e => by
    subst e
    rw [sideB, Bool.and_eq_true] at h
    refine ⟨of_decide_eq_true h.1, fun e he x b ee => ?_⟩
    subst ee
    exact of_decide_eq_true (List.all_eq_true.mp h.2 _ he)
def nP (s : Str) (n : Int) : D := .tuple [.str s, .int n]
def pairsOf (s : Str) (n : Int) : List D := s.cps.toList.map fun c => .tuple [.str ("n" ++ (⟨#[c]⟩ : Str)), .int n]
def nine : List D := pairsOf "abcdefghi" 1
def eight : List D := pairsOf "abcdefgh" 1000000000
theorem ev_pairs (s : Str) (n : Int) {e2 : En → Rs} (he : ∀ ρ, e2 ρ = .ok (.val (.int n)) ρ) (hl : s.cps.toList.length ≤ 1000000) (a b c e : Sl) :
    sLc [3] (hSeq (sC (.str s))) (gN 3) sTrue (sPrim oTupL [(sPrim oAdd [(sC (.str "n")), (sVar 3)]), e2]) [a, b, c, .un, e] = .ok (.lst (pairsOf s n)) [a, b, c, .un, e] := by
  have := sLc_pure (vs := [3]) (h := hSeq (sC (.str s))) (gt := gN 3) (ft := sTrue) (fe := sPrim oTupL [(sPrim oAdd [(sC (.str "n")), (sVar 3)]), e2]) (ρ := [a, b, c, .un, e]) (ρ1 := [a, b, c, .un, e]) (fun _ => true)
    (fun d => match d with | .str x => .tuple [.str ("n" ++ x), .int n] | d => d) (its := s.cps.toList.map fun c => .str ⟨#[c]⟩) rfl (by rw [List.length_map]; exact hl) fun d hd => by
      obtain ⟨k, hk, rfl⟩ := List.mem_map.mp hd
      refine ⟨[a, b, c, .val (.str ⟨#[k]⟩), e], rfl, rfl, rfl, rfl, fun _ => ⟨.val (.tuple [.str ("n" ++ (⟨#[k]⟩ : Str)), .int n]), ?_, rfl⟩⟩
      have h1 : oAdd [.str "n", .str ⟨#[k]⟩] = some (.val (.str ("n" ++ (⟨#[k]⟩ : Str)))) := by
        have hs : isSmall (("n" : Str).length + (⟨#[k]⟩ : Str).length) = true := small_of (show 1 + 1 ≤ 1000 by decide)
        simp only [oAdd, hs, if_true]
      simp only [h1, he, mOf, okIns, outsOf, sSeq, sNil, sAsg, sAsgT, sRet, sRetV, sRetN, sIf, sIfE, sAnd, sOr, sNot, sPrim, sArgs, sVar, sC, sExp, sCall, sCArgs, insOf, backC, fz, sChain, oTupL, oLstL, sUnp, gCons, gN, gNil, gT, sLput, peek, again, List.getElem?_cons_zero, List.getElem?_cons_succ, List.getElem?_nil, List.set_cons_zero, List.set_cons_succ, List.length_cons, List.length_nil, List.replicate_succ, List.replicate_zero, List.cons_append, List.nil_append, List.append_nil, List.contains_cons, List.contains_nil, Sl.owned, List.getD_cons_zero, List.getD_cons_succ, List.map_cons, List.map_nil, Bool.false_and, Bool.and_true, Bool.true_and, Bool.and_false, Bool.not_true, Bool.not_false, Bool.true_or, Bool.false_or, Bool.or_false, Bool.or_true, if_true, if_false, reduceIte, Bool.false_eq_true, Nat.reduceSub, Nat.reduceAdd, Nat.reduceBEq, Nat.reduceLeDiff, Nat.reduceLT, Option.map_some, Option.map_none, beq_self_eq_true, Nat.reduceEqDiff, reduceCtorEq]
  rw [this, List.filter_eq_self.mpr fun _ _ => rfl, List.map_map]
  rfl
def wrongs (l : List D) : List D := [.none, .list l, .tuple [.none], .tuple [.tuple [.str "a"]], .tuple [nP "a" 0], .tuple [nP "a" 1000000001], .tuple [.tuple [.str "a", .bool true]], .tuple [.tuple [.str "a", .none]],
  .tuple [.tuple [.str "a", .int 1, .int 1]], .tuple [.list [.str "a", .int 1]], .tuple [nP "A" 1], .tuple [nP "" 1], .tuple [nP "b" 1, nP "a" 1], .tuple [nP "a" 1, nP "a" 2], .tuple [nP "a" 1, nP "a" 1], .tuple nine, .tuple [.str "a", .int 1], .int 5, .str "a"]
theorem wrongs_no (l : List D) : (wrongs l).all (fun d => !isVec d && sideB d) = true := by
  have h : ((wrongs []).all (fun d => !isVec d && sideB d)) = true := by decide +kernel
  exact h
theorem eight_ok : isVec (.tuple eight) = true ∧ sideB (.tuple eight) = true := by constructor <;> decide +kernel
theorem ev_wrongs (v : V2) : (sPrim oLstL [(sC .none), (sPrim oList [(sVar 0)]), (sPrim oTupL [(sC .none)]), (sPrim oTupL [(sPrim oTupL [(sC (.str "a"))])]), (sPrim oTupL [(sPrim oTupL [(sC (.str "a")), (sC (.int 0))])]), (sPrim oTupL [(sPrim oTupL [(sC (.str "a")), (sPrim oAdd [(sPrim oPow [(sC (.int 10)), (sC (.int 9))]), (sC (.int 1))])])]), (sPrim oTupL [(sPrim oTupL [(sC (.str "a")), (sC (.bool true))])]), (sPrim oTupL [(sPrim oTupL [(sC (.str "a")), (sC .none)])]), (sPrim oTupL [(sPrim oTupL [(sC (.str "a")), (sC (.int 1)), (sC (.int 1))])]), (sPrim oTupL [(sPrim oLstL [(sC (.str "a")), (sC (.int 1))])]), (sPrim oTupL [(sPrim oTupL [(sC (.str "A")), (sC (.int 1))])]), (sPrim oTupL [(sPrim oTupL [(sC (.str "")), (sC (.int 1))])]), (sPrim oTupL [(sPrim oTupL [(sC (.str "b")), (sC (.int 1))]), (sPrim oTupL [(sC (.str "a")), (sC (.int 1))])]), (sPrim oTupL [(sPrim oTupL [(sC (.str "a")), (sC (.int 1))]), (sPrim oTupL [(sC (.str "a")), (sC (.int 2))])]), (sPrim oTupL [(sPrim oTupL [(sC (.str "a")), (sC (.int 1))]), (sPrim oTupL [(sC (.str "a")), (sC (.int 1))])]), (sPrim oTuple [(sLc [3] (hSeq (sC (.str "abcdefghi"))) (gN 3) sTrue (sPrim oTupL [(sPrim oAdd [(sC (.str "n")), (sVar 3)]), (sC (.int 1))]))]), (sPrim oTupL [(sC (.str "a")), (sC (.int 1))]), (sC (.int 5)), (sC (.str "a"))]) [.val (enc v), .un, .un, .un, .un] = .ok (.lst (wrongs (v.map encP))) [.val (enc v), .un, .un, .un, .un] := by
  have q := ev_pairs "abcdefghi" 1 (e2 := sC (.int 1)) (fun _ => rfl) (by decide +kernel) (.val (enc v)) .un .un .un
  have h9 : oPow [.int 10, .int 9] = some (.val (.int 1000000000)) := rfl
  have h1 : oAdd [.int 1000000000, .int 1] = some (.val (.int 1000000001)) := rfl
  have hl : oList [enc v] = some (.lst (v.map encP)) := rfl
  simp only [q, h9, h1, hl, oTuple, Nat.reduceLeDiff, mOf, okIns, outsOf, sSeq, sNil, sAsg, sAsgT, sRet, sRetV, sRetN, sIf, sIfE, sAnd, sOr, sNot, sPrim, sArgs, sVar, sC, sExp, sCall, sCArgs, insOf, backC, fz, sChain, oTupL, oLstL, sUnp, gCons, gN, gNil, gT, sLput, peek, again, List.getElem?_cons_zero, List.getElem?_cons_succ, List.getElem?_nil, List.set_cons_zero, List.set_cons_succ, List.length_cons, List.length_nil, List.replicate_succ, List.replicate_zero, List.cons_append, List.nil_append, List.append_nil, List.contains_cons, List.contains_nil, Sl.owned, List.getD_cons_zero, List.getD_cons_succ, List.map_cons, List.map_nil, Bool.false_and, Bool.and_true, Bool.true_and, Bool.and_false, Bool.not_true, Bool.not_false, Bool.true_or, Bool.false_or, Bool.or_false, Bool.or_true, if_true, if_false, reduceIte, Bool.false_eq_true, Nat.reduceSub, Nat.reduceAdd, Nat.reduceBEq, Nat.reduceLeDiff, Nat.reduceLT, Option.map_some, Option.map_none, beq_self_eq_true, Nat.reduceEqDiff, reduceCtorEq]
  rfl
theorem ev_eight (v : V2) (w : Sl) : (sPrim oTuple [(sLc [3] (hSeq (sC (.str "abcdefgh"))) (gN 3) sTrue (sPrim oTupL [(sPrim oAdd [(sC (.str "n")), (sVar 3)]), (sPrim oPow [(sC (.int 10)), (sC (.int 9))])]))]) [.val (enc v), w, .un, .un, .un] = .ok (.val (.tuple eight)) [.val (enc v), w, .un, .un, .un] := by
  have h9 : oPow [.int 10, .int 9] = some (.val (.int 1000000000)) := rfl
  have q := ev_pairs "abcdefgh" 1000000000 (e2 := sPrim oPow [(sC (.int 10)), (sC (.int 9))]) (fun ρ => by simp only [h9, mOf, okIns, outsOf, sSeq, sNil, sAsg, sAsgT, sRet, sRetV, sRetN, sIf, sIfE, sAnd, sOr, sNot, sPrim, sArgs, sVar, sC, sExp, sCall, sCArgs, insOf, backC, fz, sChain, oTupL, oLstL, sUnp, gCons, gN, gNil, gT, sLput, peek, again, List.getElem?_cons_zero, List.getElem?_cons_succ, List.getElem?_nil, List.set_cons_zero, List.set_cons_succ, List.length_cons, List.length_nil, List.replicate_succ, List.replicate_zero, List.cons_append, List.nil_append, List.append_nil, List.contains_cons, List.contains_nil, Sl.owned, List.getD_cons_zero, List.getD_cons_succ, List.map_cons, List.map_nil, Bool.false_and, Bool.and_true, Bool.true_and, Bool.and_false, Bool.not_true, Bool.not_false, Bool.true_or, Bool.false_or, Bool.or_false, Bool.or_true, if_true, if_false, reduceIte, Bool.false_eq_true, Nat.reduceSub, Nat.reduceAdd, Nat.reduceBEq, Nat.reduceLeDiff, Nat.reduceLT, Option.map_some, Option.map_none, beq_self_eq_true, Nat.reduceEqDiff, reduceCtorEq]) (by decide +kernel) (.val (enc v)) w .un .un
  simp only [q, oTuple, mOf, okIns, outsOf, sSeq, sNil, sAsg, sAsgT, sRet, sRetV, sRetN, sIf, sIfE, sAnd, sOr, sNot, sPrim, sArgs, sVar, sC, sExp, sCall, sCArgs, insOf, backC, fz, sChain, oTupL, oLstL, sUnp, gCons, gN, gNil, gT, sLput, peek, again, List.getElem?_cons_zero, List.getElem?_cons_succ, List.getElem?_nil, List.set_cons_zero, List.set_cons_succ, List.length_cons, List.length_nil, List.replicate_succ, List.replicate_zero, List.cons_append, List.nil_append, List.append_nil, List.contains_cons, List.contains_nil, Sl.owned, List.getD_cons_zero, List.getD_cons_succ, List.map_cons, List.map_nil, Bool.false_and, Bool.and_true, Bool.true_and, Bool.and_false, Bool.not_true, Bool.not_false, Bool.true_or, Bool.false_or, Bool.or_false, Bool.or_true, if_true, if_false, reduceIte, Bool.false_eq_true, Nat.reduceSub, Nat.reduceAdd, Nat.reduceBEq, Nat.reduceLeDiff, Nat.reduceLT, Option.map_some, Option.map_none, beq_self_eq_true, Nat.reduceEqDiff, reduceCtorEq]
  rfl
theorem ev_filt (v : V2) : (sLc [4] (hSeq (sVar 1)) (gN 4) (sPrim oIsN [(sCall m_is_vector [.ex (sVar 4)]), (sC (.bool false))]) (sVar 4)) [.val (enc v), .lst (wrongs (v.map encP)), .val (.tuple eight), .un, .un] = .ok (.lst []) [.val (enc v), .val (.list (wrongs (v.map encP))), .val (.tuple eight), .un, .un] := by
  have hw := List.all_eq_true.mp (wrongs_no (v.map encP))
  have := sLc_pure (vs := [4]) (h := hSeq (sVar 1)) (gt := gN 4) (ft := sPrim oIsN [(sCall m_is_vector [.ex (sVar 4)]), (sC (.bool false))]) (fe := sVar 4) (ρ := [.val (enc v), .lst (wrongs (v.map encP)), .val (.tuple eight), .un, .un])
    (ρ1 := [.val (enc v), .val (.list (wrongs (v.map encP))), .val (.tuple eight), .un, .un]) isVec (fun d => d) (its := wrongs (v.map encP)) rfl (show 19 ≤ 1000000 by decide) fun d hd => by
      have q := hw d hd
      rw [Bool.and_eq_true] at q
      have e1 := ev_side q.2
      refine ⟨[.val (enc v), .val (.list (wrongs (v.map encP))), .val (.tuple eight), .un, .val d], rfl, rfl, rfl, ?_, fun _ => ⟨.val d, rfl, rfl⟩⟩
      have e2 : isVec d = false := by simpa using q.1
      simp only [e1, e2, oIsN, mOf, okIns, outsOf, sSeq, sNil, sAsg, sAsgT, sRet, sRetV, sRetN, sIf, sIfE, sAnd, sOr, sNot, sPrim, sArgs, sVar, sC, sExp, sCall, sCArgs, insOf, backC, fz, sChain, oTupL, oLstL, sUnp, gCons, gN, gNil, gT, sLput, peek, again, List.getElem?_cons_zero, List.getElem?_cons_succ, List.getElem?_nil, List.set_cons_zero, List.set_cons_succ, List.length_cons, List.length_nil, List.replicate_succ, List.replicate_zero, List.cons_append, List.nil_append, List.append_nil, List.contains_cons, List.contains_nil, Sl.owned, List.getD_cons_zero, List.getD_cons_succ, List.map_cons, List.map_nil, Bool.false_and, Bool.and_true, Bool.true_and, Bool.and_false, Bool.not_true, Bool.not_false, Bool.true_or, Bool.false_or, Bool.or_false, Bool.or_true, if_true, if_false, reduceIte, Bool.false_eq_true, Nat.reduceSub, Nat.reduceAdd, Nat.reduceBEq, Nat.reduceLeDiff, Nat.reduceLT, Option.map_some, Option.map_none, beq_self_eq_true, Nat.reduceEqDiff, reduceCtorEq]
      rfl
  rw [this]
  have e : (wrongs (v.map encP)).filter isVec = [] := by
    rw [List.filter_eq_nil_iff]
    intro d hd
    have q := hw d hd
    rw [Bool.and_eq_true] at q
    have e2 : isVec d = false := by simpa using q.1
    rw [e2]; decide
  rw [e]
  rfl
theorem wrong_run {v : V2} (hv : VOk v) (fW fE fF : En → Rs) {wr : List D} (ew : fW [.val (enc v), .un, .un, .un, .un] = .ok (.lst wr) [.val (enc v), .un, .un, .un, .un])
    (ee : fE [.val (enc v), .lst wr, .un, .un, .un] = .ok (.val (.tuple eight)) [.val (enc v), .lst wr, .un, .un, .un])
    (ef : fF [.val (enc v), .lst wr, .val (.tuple eight), .un, .un] = .ok (.lst []) [.val (enc v), .val (.list wr), .val (.tuple eight), .un, .un]) :
    mOf 5 [] (sSeq (sAsg 1 fW) (sSeq (sAsg 2 fE) (sRet (sAnd (sPrim oIs [(sCall m_is_vector [.ex (sVar 0)]), (sC (.bool true))]) (sAnd (sPrim oIs [(sCall m_is_vector [.ex (sPrim oTupL [])]), (sC (.bool true))]) (sAnd (sPrim oIs [(sCall m_is_vector [.ex (sVar 2)]), (sC (.bool true))]) (sPrim oEq [fF, (sPrim oLstL [])]))))))) [.val (enc v)] = .ok (.val (.bool true)) [.val (enc v)] := by
  have e0 : m_is_vector [.val (.tuple [])] = .ok (.val (.bool true)) [.val (.tuple [])] := ev_side (d := .tuple []) (by decide)
  have e8 : m_is_vector [.val (.tuple eight)] = .ok (.val (.bool true)) [.val (.tuple eight)] := by rw [ev_side eight_ok.2, eight_ok.1]
  have hi : oIs [.bool true, .bool true] = some (.val (.bool true)) := rfl
  have hq : oEq [.list [], .list []] = some (.val (.bool true)) := eqv_nil []
  simp only [ew, ee, ef, hv.isv, e0, e8, hi, hq, Nat.zero_le, mOf, okIns, outsOf, sSeq, sNil, sAsg, sAsgT, sRet, sRetV, sRetN, sIf, sIfE, sAnd, sOr, sNot, sPrim, sArgs, sVar, sC, sExp, sCall, sCArgs, insOf, backC, fz, sChain, oTupL, oLstL, sUnp, gCons, gN, gNil, gT, sLput, peek, again, List.getElem?_cons_zero, List.getElem?_cons_succ, List.getElem?_nil, List.set_cons_zero, List.set_cons_succ, List.length_cons, List.length_nil, List.replicate_succ, List.replicate_zero, List.cons_append, List.nil_append, List.append_nil, List.contains_cons, List.contains_nil, Sl.owned, List.getD_cons_zero, List.getD_cons_succ, List.map_cons, List.map_nil, Bool.false_and, Bool.and_true, Bool.true_and, Bool.and_false, Bool.not_true, Bool.not_false, Bool.true_or, Bool.false_or, Bool.or_false, Bool.or_true, if_true, if_false, reduceIte, Bool.false_eq_true, Nat.reduceSub, Nat.reduceAdd, Nat.reduceBEq, Nat.reduceLeDiff, Nat.reduceLT, Option.map_some, Option.map_none, beq_self_eq_true, Nat.reduceEqDiff, reduceCtorEq]
theorem ev_law_wrong {v : V2} (hv : VOk v) : m__law_wrong [.val (enc v)] = .ok (.val (.bool true)) [.val (enc v)] :=
  wrong_run hv _ _ _ (ev_wrongs v) (ev_eight v _) (ev_filt v)
end Pu
end M57i_part
section M57j_part
set_option Elab.async false
set_option linter.all false
set_option maxRecDepth 100000
set_option maxHeartbeats 2000000
/-! the law is true. -/
namespace Pu
open PySem PySem.Spec PyProof.Rows L2
theorem VOk.le {v : V2} (h : VOk v) : v.length ≤ 100 := Nat.le_trans h.len (by decide)
theorem VOk.le9 {v : V2} (h : VOk v) : v.length ≤ 900 := Nat.le_trans h.len (by decide)
theorem VOk.le10 {v : V2} (h : VOk v) : v.length ≤ 1000 := Nat.le_trans h.len (by decide)
theorem VOk.nd {v : V2} (h : VOk v) : nd v := srt_nd h.1
theorem vok_nil : VOk [] := ⟨List.Pairwise.nil, fun _ h => (nomatch h), fun _ h => (nomatch h)⟩
theorem join_ok {u v : V2} (hu : VOk u) (hv : VOk v) : ∃ w, VOk w ∧ (∀ x, look w x = max (look u x) (look v x)) ∧ m_join [.val (enc u), .val (enc v)] = .ok (.val (enc w)) [.val (enc u), .val (enc v)] ∧ m__law_join [.val (enc u), .val (enc v)] = .ok (.val (enc w)) [.val (enc u), .val (enc v)] := by
  obtain ⟨w, a1, a2, a3, a4, a5⟩ := ev_join hu.1 hv.1 hu.pz hv.pz hu.le hv.le
  obtain ⟨w', b1, b2, b4, b5⟩ := ev_law_join hu.1 hv.1 hu.pz hv.pz hu.le hv.le
  have e : w = w' := vec_ext a1 b1 a2 b2 fun x => (a4 x).trans (b4 x).symm
  subst e
  have hm : ∀ p ∈ w, p ∈ u ∨ p ∈ v := fun p hp => by
    have h1 := look_mem (srt_nd a1) hp
    have h2 := a2 p hp
    have h3 := a4 p.1
    have h4 := look_nonneg hu.pz p.1
    have h5 := look_nonneg hv.pz p.1
    by_cases hc : look u p.1 ≤ look v p.1
    · right
      have e : look v p.1 = p.2 := by omega
      have := mem_look (v := v) (x := p.1) (by omega)
      rw [e] at this
      exact this
    · left
      have e : look u p.1 = p.2 := by omega
      have := mem_look (v := u) (x := p.1) (by omega)
      rw [e] at this
      exact this
  exact ⟨w, ⟨a1, fun p hp => (hm p hp).elim (hu.2.1 p) (hv.2.1 p), fun p hp => (hm p hp).elim (hu.2.2 p) (hv.2.2 p)⟩, a4, a5, b5⟩
theorem VOk.ext {u v : V2} (hu : VOk u) (hv : VOk v) (h : ∀ x, look u x = look v x) : u = v := vec_ext hu.1 hv.1 hu.pz hv.pz h
theorem leV_refl {u : V2} (h : VOk u) : leV u u = true := (leV_iff h.nd h.pz).mpr fun _ => Int.le_refl _
def wordOf (u v : V2) : Str := if u = v then "same" else if leV u v = true then "older" else if leV v u = true then "newer" else "beside"
theorem word_cmp {u v : V2} (hu : VOk u) : cmpW u v = wordOf u v := by
  unfold cmpW wordOf
  by_cases e : u = v
  · subst e; rw [leV_refl hu]; simp
  · simp only [e, if_false]
theorem ne_str (x y : Str) : oNe [.str x, .str y] = some (.val (.bool (!decide (x = y)))) := by
  have : (PyData.str x).depth ≤ 60 := by simp [PyData.depth]
  simp only [oNe, this, true_or, if_true, eqv_str]
theorem ne_int (x y : Int) : oNe [.int x, .int y] = some (.val (.bool (!decide (x = y)))) := by
  have : (PyData.int x).depth ≤ 60 := by simp [PyData.depth]
  simp only [oNe, this, true_or, if_true, eqv_int]
def BODY : En → Rt := (sSeq (sAsg 10 (sCall m_join [.ex (sVar 5), .ex (sVar 6)]))
  (sSeq (sAsg 11 (sCall m__law_join [.ex (sVar 5), .ex (sVar 6)]))
  (sSeq (sIf (sOr (sPrim oIsN [(sCall m_is_vector [.ex (sVar 10)]), (sC (.bool true))]) (sOr (sPrim oNe [(sVar 10), (sVar 11)]) (sNot (sCall m__law_same [.ex (sCall m_at_most [.ex (sVar 5), .ex (sVar 6)]), .ex (sCall m__law_at_most [.ex (sVar 5), .ex (sVar 6)])])))) (sRet (sC (.bool false))) sNil)
  (sSeq (sAsg 12 (sC (.str "beside")))
  (sSeq (sIf (sPrim oEq [(sVar 5), (sVar 6)]) (sAsg 12 (sC (.str "same"))) (sIf (sCall m__law_at_most [.ex (sVar 5), .ex (sVar 6)]) (sAsg 12 (sC (.str "older"))) (sIf (sCall m__law_at_most [.ex (sVar 6), .ex (sVar 5)]) (sAsg 12 (sC (.str "newer"))) sNil)))
  (sIf (sOr (sPrim oNe [(sCall m_compare [.ex (sVar 5), .ex (sVar 6)]), (sVar 12)]) (sOr (sPrim oIsN [(sCall m_at_most [.ex (sVar 5), .ex (sVar 10)]), (sC (.bool true))]) (sOr (sPrim oIsN [(sCall m_at_most [.ex (sVar 6), .ex (sVar 10)]), (sC (.bool true))]) (sPrim oNe [(sCall m_join [.ex (sVar 10), .ex (sVar 6)]), (sVar 10)])))) (sRet (sC (.bool false))) sNil))))))
theorem isn_tt : oIsN [.bool true, .bool true] = some (.val (.bool false)) := rfl
theorem body_run {u v : V2} (hu : VOk u) (hv : VOk v) (a0 a1 a2 a3 a4 a7 a8 a9 x10 x11 x12 a13 : Sl) : ∃ y10 y11 y12, BODY [a0, a1, a2, a3, a4, .val (enc u), .val (enc v), a7, a8, a9, x10, x11, x12, a13] = .nxt [a0, a1, a2, a3, a4, .val (enc u), .val (enc v), a7, a8, a9, y10, y11, y12, a13] := by
  obtain ⟨w, hw, ew, j1, j2⟩ := join_ok hu hv
  obtain ⟨w2, hw2, ew2, j3, _⟩ := join_ok hw hv
  have e2 : w2 = w := hw2.ext hw fun x => by have := ew x; have := ew2 x; omega
  subst e2
  have l1 := ev_at_most (u := u) hv.nd hv.le10
  have l2 := ev_law_at_most hu.le10 hv.nd hv.le10
  have l3 := ev_law_at_most hv.le10 hu.nd hu.le10
  have l4 := ev_at_most (u := u) hw.nd hw.le10
  have l5 := ev_at_most (u := v) hw.nd hw.le10
  have t4 : leV u w2 = true := (leV_iff hu.nd hw.pz).mpr fun x => by have := ew x; omega
  have t5 : leV v w2 = true := (leV_iff hv.nd hw.pz).mpr fun x => by have := ew x; omega
  rw [t4] at l4
  rw [t5] at l5
  have c1 := ev_compare hu.nd hv.nd hu.le10 hv.le10
  have c2 := word_cmp (v := v) hu
  rw [c2] at c1
  have ls := ev_law_same
  refine ⟨.val (enc w2), .val (enc w2), .val (.str (wordOf u v)), ?_⟩
  by_cases q1 : u = v
  · have d1 : decide (u = v) = true := decide_eq_true q1
    have cw : wordOf u v = "same" := if_pos q1
    have dd : decide (w2 = w2) = true := decide_eq_true rfl
    rw [cw] at c1
    rw [cw]
    simp only [BODY, j1, j2, hw.isv, isn_tt, ne_enc, l1, l2, ls, eq_enc, d1, dd, c1, l4, l5, j3, ne_str, decide_true, mOf, okIns, outsOf, sSeq, sNil, sAsg, sAsgT, sRet, sRetV, sRetN, sIf, sIfE, sAnd, sOr, sNot, sPrim, sArgs, sVar, sC, sExp, sCall, sCArgs, insOf, backC, fz, sChain, oTupL, oLstL, sUnp, gCons, gN, gNil, gT, sLput, peek, again, List.getElem?_cons_zero, List.getElem?_cons_succ, List.getElem?_nil, List.set_cons_zero, List.set_cons_succ, List.length_cons, List.length_nil, List.replicate_succ, List.replicate_zero, List.cons_append, List.nil_append, List.append_nil, List.contains_cons, List.contains_nil, Sl.owned, List.getD_cons_zero, List.getD_cons_succ, List.map_cons, List.map_nil, Bool.false_and, Bool.and_true, Bool.true_and, Bool.and_false, Bool.not_true, Bool.not_false, Bool.true_or, Bool.false_or, Bool.or_false, Bool.or_true, if_true, if_false, reduceIte, Bool.false_eq_true, Nat.reduceSub, Nat.reduceAdd, Nat.reduceBEq, Nat.reduceLeDiff, Nat.reduceLT, Option.map_some, Option.map_none, beq_self_eq_true, Nat.reduceEqDiff, reduceCtorEq]
  · have d1 : decide (u = v) = false := decide_eq_false q1
    have dd : decide (w2 = w2) = true := decide_eq_true rfl
    cases q2 : leV u v with
    | true =>
      have cw : wordOf u v = "older" := by unfold wordOf; rw [if_neg q1, if_pos q2]
      rw [cw] at c1
      rw [cw]
      rw [q2] at l1 l2
      simp only [BODY, j1, j2, hw.isv, isn_tt, ne_enc, l1, l2, ls, eq_enc, d1, dd, c1, l4, l5, j3, ne_str, decide_true, mOf, okIns, outsOf, sSeq, sNil, sAsg, sAsgT, sRet, sRetV, sRetN, sIf, sIfE, sAnd, sOr, sNot, sPrim, sArgs, sVar, sC, sExp, sCall, sCArgs, insOf, backC, fz, sChain, oTupL, oLstL, sUnp, gCons, gN, gNil, gT, sLput, peek, again, List.getElem?_cons_zero, List.getElem?_cons_succ, List.getElem?_nil, List.set_cons_zero, List.set_cons_succ, List.length_cons, List.length_nil, List.replicate_succ, List.replicate_zero, List.cons_append, List.nil_append, List.append_nil, List.contains_cons, List.contains_nil, Sl.owned, List.getD_cons_zero, List.getD_cons_succ, List.map_cons, List.map_nil, Bool.false_and, Bool.and_true, Bool.true_and, Bool.and_false, Bool.not_true, Bool.not_false, Bool.true_or, Bool.false_or, Bool.or_false, Bool.or_true, if_true, if_false, reduceIte, Bool.false_eq_true, Nat.reduceSub, Nat.reduceAdd, Nat.reduceBEq, Nat.reduceLeDiff, Nat.reduceLT, Option.map_some, Option.map_none, beq_self_eq_true, Nat.reduceEqDiff, reduceCtorEq]
    | false =>
      rw [q2] at l1 l2
      cases q3 : leV v u with
      | true =>
        have cw : wordOf u v = "newer" := by unfold wordOf; rw [if_neg q1, if_neg (by rw [q2]; decide), if_pos q3]
        rw [cw] at c1
        rw [cw]
        rw [q3] at l3
        simp only [BODY, j1, j2, hw.isv, isn_tt, ne_enc, l1, l2, l3, ls, eq_enc, d1, dd, c1, l4, l5, j3, ne_str, decide_true, mOf, okIns, outsOf, sSeq, sNil, sAsg, sAsgT, sRet, sRetV, sRetN, sIf, sIfE, sAnd, sOr, sNot, sPrim, sArgs, sVar, sC, sExp, sCall, sCArgs, insOf, backC, fz, sChain, oTupL, oLstL, sUnp, gCons, gN, gNil, gT, sLput, peek, again, List.getElem?_cons_zero, List.getElem?_cons_succ, List.getElem?_nil, List.set_cons_zero, List.set_cons_succ, List.length_cons, List.length_nil, List.replicate_succ, List.replicate_zero, List.cons_append, List.nil_append, List.append_nil, List.contains_cons, List.contains_nil, Sl.owned, List.getD_cons_zero, List.getD_cons_succ, List.map_cons, List.map_nil, Bool.false_and, Bool.and_true, Bool.true_and, Bool.and_false, Bool.not_true, Bool.not_false, Bool.true_or, Bool.false_or, Bool.or_false, Bool.or_true, if_true, if_false, reduceIte, Bool.false_eq_true, Nat.reduceSub, Nat.reduceAdd, Nat.reduceBEq, Nat.reduceLeDiff, Nat.reduceLT, Option.map_some, Option.map_none, beq_self_eq_true, Nat.reduceEqDiff, reduceCtorEq]
      | false =>
        have cw : wordOf u v = "beside" := by unfold wordOf; rw [if_neg q1, if_neg (by rw [q2]; decide), if_neg (by rw [q3]; decide)]
        rw [cw] at c1
        rw [cw]
        rw [q3] at l3
        simp only [BODY, j1, j2, hw.isv, isn_tt, ne_enc, l1, l2, l3, ls, eq_enc, d1, dd, c1, l4, l5, j3, ne_str, decide_true, mOf, okIns, outsOf, sSeq, sNil, sAsg, sAsgT, sRet, sRetV, sRetN, sIf, sIfE, sAnd, sOr, sNot, sPrim, sArgs, sVar, sC, sExp, sCall, sCArgs, insOf, backC, fz, sChain, oTupL, oLstL, sUnp, gCons, gN, gNil, gT, sLput, peek, again, List.getElem?_cons_zero, List.getElem?_cons_succ, List.getElem?_nil, List.set_cons_zero, List.set_cons_succ, List.length_cons, List.length_nil, List.replicate_succ, List.replicate_zero, List.cons_append, List.nil_append, List.append_nil, List.contains_cons, List.contains_nil, Sl.owned, List.getD_cons_zero, List.getD_cons_succ, List.map_cons, List.map_nil, Bool.false_and, Bool.and_true, Bool.true_and, Bool.and_false, Bool.not_true, Bool.not_false, Bool.true_or, Bool.false_or, Bool.or_false, Bool.or_true, if_true, if_false, reduceIte, Bool.false_eq_true, Nat.reduceSub, Nat.reduceAdd, Nat.reduceBEq, Nat.reduceLeDiff, Nat.reduceLT, Option.map_some, Option.map_none, beq_self_eq_true, Nat.reduceEqDiff, reduceCtorEq]
end Pu
end M57j_part
section M57k_part
set_option Elab.async false
set_option linter.all false
set_option maxRecDepth 100000
set_option maxHeartbeats 2000000
/-! the law is true: the parts of `law`. -/
namespace Pu
open PySem PySem.Spec PyProof.Rows L2
def FOR : En → Rt := (sFor (hSeq (sPrim oLstL [(sPrim oTupL [(sVar 2), (sVar 3)]), (sPrim oTupL [(sVar 3), (sVar 2)]), (sPrim oTupL [(sVar 2), (sVar 2)]), (sPrim oTupL [(sVar 4), (sVar 2)])])) (gT 2 (gCons (gN 5) (gCons (gN 6) gNil))) BODY)
def OTHER : En → Rs := (sPrim oIx [(sPrim oLstL [(sCall m__law_vector [.nm 1, .ex (sC (.int 8))]), (sVar 2), (sCall m__law_join [.ex (sVar 2), .ex (sCall m__law_vector [.nm 1, .ex (sC (.int 3))])]), (sPrim oTupL [])]), (sCall m__law_draw [.nm 1, .ex (sC (.int 4))])])
def NODE : En → Rs := (sPrim oIx [(sPrim oLstL [(sC (.str "a")), (sC (.str "c")), (sC (.str "h")), (sC (.str "zed"))]), (sCall m__law_draw [.nm 1, .ex (sC (.int 4))])])
def MORE : En → Rs := (sPrim oAdd [(sC (.int 1)), (sCall m__law_draw [.nm 1, .ex (sC (.int 9))])])
def ASS : En → Rt := (sIf (sOr (sPrim oNe [(sCall m_join [.ex (sCall m_join [.ex (sVar 2), .ex (sVar 3)]), .ex (sVar 4)]), (sCall m_join [.ex (sVar 2), .ex (sCall m_join [.ex (sVar 3), .ex (sVar 4)])])]) (sPrim oNe [(sCall m_join [.ex (sVar 2), .ex (sVar 3)]), (sCall m_join [.ex (sVar 3), .ex (sVar 2)])])) (sRet (sC (.bool false))) sNil)
def LCP : En → Rs := (sLc [13] (hSeq (sVar 2)) (gN 13) (sPrim oNe [(sPrim oIx [(sVar 13), (sC (.int 0))]), (sVar 8)]) (sVar 13))
def RAI : En → Rt := (sIf (sAnd (sPrim oLt [(sCall m__law_number [.ex (sVar 2), .ex (sVar 8)]), (sPrim oSub [(sPrim oPow [(sC (.int 10)), (sC (.int 9))]), (sC (.int 10))])]) (sPrim oLt [(sPrim oLen [(sVar 2)]), (sC (.int 8))])) (sSeq (sAsg 10 (sCall m_raised [.ex (sVar 2), .ex (sVar 8), .ex (sVar 9)]))
  (sSeq (sAsg 11 (sPrim oTuple [(sPrim oSorted [(sPrim oAdd [LCP, (sPrim oLstL [(sPrim oTupL [(sVar 8), (sPrim oAdd [(sCall m__law_number [.ex (sVar 2), .ex (sVar 8)]), (sVar 9)])])])])])]))
  (sIf (sOr (sPrim oNe [(sVar 10), (sVar 11)]) (sOr (sPrim oIsN [(sCall m_is_vector [.ex (sVar 10)]), (sC (.bool true))]) (sPrim oNe [(sCall m_number_of [.ex (sVar 10), .ex (sVar 8)]), (sPrim oAdd [(sCall m__law_number [.ex (sVar 2), .ex (sVar 8)]), (sVar 9)])]))) (sRet (sC (.bool false))) sNil))) sNil)
def GLAW : En → Rt := (sSeq (sAsg 1 (sCall m__law_open [.ex (sVar 0)]))
  (sSeq (sAsg 2 (sCall m__law_vector [.nm 1, .ex (sC (.int 8))]))
  (sSeq (sAsg 3 OTHER)
  (sSeq (sAsg 4 (sCall m__law_vector [.nm 1, .ex (sC (.int 5))]))
  (sSeq (sIf (sNot (sCall m__law_wrong [.ex (sVar 2)])) (sRet (sC (.bool false))) sNil)
  (sSeq FOR
  (sSeq ASS
  (sSeq (sAsg 7 (sCall m__law_join [.ex (sCall m__law_join [.ex (sVar 2), .ex (sVar 3)]), .ex (sVar 4)]))
  (sSeq (sIf (sPrim oIsN [(sCall m_at_most [.ex (sCall m_join [.ex (sVar 2), .ex (sVar 3)]), .ex (sVar 7)]), (sC (.bool true))]) (sRet (sC (.bool false))) sNil)
  (sSeq (sAsg 8 NODE)
  (sSeq (sAsg 9 MORE)
  (sSeq RAI
  (sRet (sAnd (sCall m__law_int [.ex (sCall m_number_of [.ex (sVar 2), .ex (sVar 8)])]) (sPrim oEq [(sCall m_number_of [.ex (sVar 2), .ex (sVar 8)]), (sCall m__law_number [.ex (sVar 2), .ex (sVar 8)])])))))))))))))))
theorem glaw_eq : g_law = GLAW := rfl
end Pu
end M57k_part
section M57l_part
set_option Elab.async false
set_option linter.all false
set_option maxRecDepth 100000
set_option maxHeartbeats 2000000
/-! the law is true. -/
namespace Pu
open PySem PySem.Spec PyProof.Rows L2
theorem other_run {s : Sl} (hs : DrawSt s) {u : V2} (hu : VOk u) (a0 a3 a4 a5 a6 a7 a8 a9 a10 a11 a12 a13 : Sl) : ∃ v s', VOk v ∧ DrawSt s' ∧
    OTHER [a0, s, .val (enc u), a3, a4, a5, a6, a7, a8, a9, a10, a11, a12, a13] = .ok (.val (enc v)) [a0, s', .val (enc u), a3, a4, a5, a6, a7, a8, a9, a10, a11, a12, a13] := by
  obtain ⟨v1, s1, h1, hs1, e1⟩ := ev_law_vector hs 8
  obtain ⟨v2, s2, h2, hs2, e2⟩ := ev_law_vector hs1 3
  obtain ⟨r, s3, r1, r2, hs3, e3⟩ := ev_draw hs2 4 (by decide) (by decide)
  obtain ⟨w, hw, _, _, ej⟩ := join_ok hu h2
  replace e1 : m__law_vector [s, .val (.int 8)] = .ok (.val (enc v1)) [s1, .val (.int 8)] := e1
  replace e2 : m__law_vector [s1, .val (.int 3)] = .ok (.val (enc v2)) [s2, .val (.int 3)] := e2
  obtain ⟨ds, rfl⟩ := hs.lst
  obtain ⟨ds1, rfl⟩ := hs1.lst
  obtain ⟨ds2, rfl⟩ := hs2.lst
  obtain ⟨ds3, rfl⟩ := hs3.lst
  have hn : PyData.tuple [] = enc [] := rfl
  obtain ⟨v, hv, ev⟩ : ∃ v, VOk v ∧ oIx [.list [enc v1, enc u, enc w, enc []], .int r] = some (.val (enc v)) := by
    have : r = 0 ∨ r = 1 ∨ r = 2 ∨ r = 3 := by omega
    rcases this with e | e | e | e
    · subst e; exact ⟨v1, h1, rfl⟩
    · subst e; exact ⟨u, hu, rfl⟩
    · subst e; exact ⟨w, hw, rfl⟩
    · subst e; exact ⟨[], vok_nil, rfl⟩
  refine ⟨v, .lst ds3, hv, hs3, ?_⟩
  simp only [OTHER, e1, e2, e3, ej, hn, ev, mOf, okIns, outsOf, sSeq, sNil, sAsg, sAsgT, sRet, sRetV, sRetN, sIf, sIfE, sAnd, sOr, sNot, sPrim, sArgs, sVar, sC, sExp, sCall, sCArgs, insOf, backC, fz, sChain, oTupL, oLstL, sUnp, gCons, gN, gNil, gT, sLput, peek, again, List.getElem?_cons_zero, List.getElem?_cons_succ, List.getElem?_nil, List.set_cons_zero, List.set_cons_succ, List.length_cons, List.length_nil, List.replicate_succ, List.replicate_zero, List.cons_append, List.nil_append, List.append_nil, List.contains_cons, List.contains_nil, Sl.owned, List.getD_cons_zero, List.getD_cons_succ, List.map_cons, List.map_nil, Bool.false_and, Bool.and_true, Bool.true_and, Bool.and_false, Bool.not_true, Bool.not_false, Bool.true_or, Bool.false_or, Bool.or_false, Bool.or_true, if_true, if_false, reduceIte, Bool.false_eq_true, Nat.reduceSub, Nat.reduceAdd, Nat.reduceBEq, Nat.reduceLeDiff, Nat.reduceLT, Option.map_some, Option.map_none, beq_self_eq_true, Nat.reduceEqDiff, reduceCtorEq]
theorem for_run {u v w : V2} (hu : VOk u) (hv : VOk v) (hw : VOk w) (a0 a1 a5 a6 a7 a8 a9 a10 a11 a12 a13 : Sl) : ∃ y5 y6 y10 y11 y12,
    FOR [a0, a1, .val (enc u), .val (enc v), .val (enc w), a5, a6, a7, a8, a9, a10, a11, a12, a13] = .nxt [a0, a1, .val (enc u), .val (enc v), .val (enc w), y5, y6, a7, a8, a9, y10, y11, y12, a13] := by
  have hh : hSeq (sPrim oLstL [(sPrim oTupL [(sVar 2), (sVar 3)]), (sPrim oTupL [(sVar 3), (sVar 2)]), (sPrim oTupL [(sVar 2), (sVar 2)]), (sPrim oTupL [(sVar 4), (sVar 2)])]) [a0, a1, .val (enc u), .val (enc v), .val (enc w), a5, a6, a7, a8, a9, a10, a11, a12, a13]
    = .ok [.tuple [enc u, enc v], .tuple [enc v, enc u], .tuple [enc u, enc u], .tuple [enc w, enc u]] [a0, a1, .val (enc u), .val (enc v), .val (enc w), a5, a6, a7, a8, a9, a10, a11, a12, a13] := by
    simp only [hSeq, itemsD, mOf, okIns, outsOf, sSeq, sNil, sAsg, sAsgT, sRet, sRetV, sRetN, sIf, sIfE, sAnd, sOr, sNot, sPrim, sArgs, sVar, sC, sExp, sCall, sCArgs, insOf, backC, fz, sChain, oTupL, oLstL, sUnp, gCons, gN, gNil, gT, sLput, peek, again, List.getElem?_cons_zero, List.getElem?_cons_succ, List.getElem?_nil, List.set_cons_zero, List.set_cons_succ, List.length_cons, List.length_nil, List.replicate_succ, List.replicate_zero, List.cons_append, List.nil_append, List.append_nil, List.contains_cons, List.contains_nil, Sl.owned, List.getD_cons_zero, List.getD_cons_succ, List.map_cons, List.map_nil, Bool.false_and, Bool.and_true, Bool.true_and, Bool.and_false, Bool.not_true, Bool.not_false, Bool.true_or, Bool.false_or, Bool.or_false, Bool.or_true, if_true, if_false, reduceIte, Bool.false_eq_true, Nat.reduceSub, Nat.reduceAdd, Nat.reduceBEq, Nat.reduceLeDiff, Nat.reduceLT, Option.map_some, Option.map_none, beq_self_eq_true, Nat.reduceEqDiff, reduceCtorEq]
  obtain ⟨p1, p2, p3, b1⟩ := body_run hu hv a0 a1 (.val (enc u)) (.val (enc v)) (.val (enc w)) a7 a8 a9 a10 a11 a12 a13
  obtain ⟨q1, q2, q3, b2⟩ := body_run hv hu a0 a1 (.val (enc u)) (.val (enc v)) (.val (enc w)) a7 a8 a9 p1 p2 p3 a13
  obtain ⟨r1, r2, r3, b3⟩ := body_run hu hu a0 a1 (.val (enc u)) (.val (enc v)) (.val (enc w)) a7 a8 a9 q1 q2 q3 a13
  obtain ⟨s1, s2, s3, b4⟩ := body_run hw hu a0 a1 (.val (enc u)) (.val (enc v)) (.val (enc w)) a7 a8 a9 r1 r2 r3 a13
  refine ⟨.val (enc w), .val (enc u), s1, s2, s3, ?_⟩
  have ht : ∀ (x y : V2) (c5 c6 c10 c11 c12 : Sl), gT 2 (gCons (gN 5) (gCons (gN 6) gNil)) (.tuple [enc x, enc y]) [a0, a1, .val (enc u), .val (enc v), .val (enc w), c5, c6, a7, a8, a9, c10, c11, c12, a13] = some [a0, a1, .val (enc u), .val (enc v), .val (enc w), .val (enc x), .val (enc y), a7, a8, a9, c10, c11, c12, a13] := fun _ _ _ _ _ _ _ => rfl
  simp only [FOR, sFor, hh, forLoop, ht, b1, b2, b3, b4]
theorem ass_run {u v w : V2} (hu : VOk u) (hv : VOk v) (hw : VOk w) (a0 a1 a5 a6 a7 a8 a9 a10 a11 a12 a13 : Sl) :
    ASS [a0, a1, .val (enc u), .val (enc v), .val (enc w), a5, a6, a7, a8, a9, a10, a11, a12, a13] = .nxt [a0, a1, .val (enc u), .val (enc v), .val (enc w), a5, a6, a7, a8, a9, a10, a11, a12, a13] := by
  obtain ⟨x1, h1, l1, e1, _⟩ := join_ok hu hv
  obtain ⟨x2, h2, l2, e2, _⟩ := join_ok h1 hw
  obtain ⟨x3, h3, l3, e3, _⟩ := join_ok hv hw
  obtain ⟨x4, h4, l4, e4, _⟩ := join_ok hu h3
  obtain ⟨x5, h5, l5, e5, _⟩ := join_ok hv hu
  have q1 : x2 = x4 := h2.ext h4 fun x => by rw [l2, l4, l1, l3]; omega
  have q2 : x1 = x5 := h1.ext h5 fun x => by rw [l1, l5]; omega
  subst q1
  subst q2
  have dd : ∀ x : V2, decide (x = x) = true := fun x => decide_eq_true rfl
  simp only [ASS, e1, e2, e3, e4, e5, ne_enc, dd, decide_true, mOf, okIns, outsOf, sSeq, sNil, sAsg, sAsgT, sRet, sRetV, sRetN, sIf, sIfE, sAnd, sOr, sNot, sPrim, sArgs, sVar, sC, sExp, sCall, sCArgs, insOf, backC, fz, sChain, oTupL, oLstL, sUnp, gCons, gN, gNil, gT, sLput, peek, again, List.getElem?_cons_zero, List.getElem?_cons_succ, List.getElem?_nil, List.set_cons_zero, List.set_cons_succ, List.length_cons, List.length_nil, List.replicate_succ, List.replicate_zero, List.cons_append, List.nil_append, List.append_nil, List.contains_cons, List.contains_nil, Sl.owned, List.getD_cons_zero, List.getD_cons_succ, List.map_cons, List.map_nil, Bool.false_and, Bool.and_true, Bool.true_and, Bool.and_false, Bool.not_true, Bool.not_false, Bool.true_or, Bool.false_or, Bool.or_false, Bool.or_true, if_true, if_false, reduceIte, Bool.false_eq_true, Nat.reduceSub, Nat.reduceAdd, Nat.reduceBEq, Nat.reduceLeDiff, Nat.reduceLT, Option.map_some, Option.map_none, beq_self_eq_true, Nat.reduceEqDiff, reduceCtorEq]
theorem look_fil (x y : Str) (k : Int) : ∀ v : V2, look (v.filter (fun p => !decide (p.1 = x)) ++ [(x, k)]) y = if y = x then k else look v y
  | [] => by
    rw [List.filter_nil, List.nil_append, look_cons]
    by_cases h : y = x
    · subst h; simp
    · rw [if_neg h, if_neg fun e => h e.symm]
  | p :: v => by
    have ih := look_fil x y k v
    by_cases h : p.1 = x
    · rw [List.filter_cons_of_neg (by rw [decide_eq_true h]; decide), ih, look_cons]
      by_cases e : y = x
      · rw [if_pos e, if_pos e]
      · rw [if_neg e, if_neg e, if_neg fun e2 => e (e2.symm.trans h)]
    · rw [List.filter_cons_of_pos (by rw [decide_eq_false h]; rfl), List.cons_append, look_cons, ih, look_cons]
      by_cases e : y = x
      · subst e; rw [if_pos rfl, if_pos rfl, if_neg h]
      · rw [if_neg e, if_neg e]
theorem nd_fil {v : V2} (h : nd v) (x : Str) (k : Int) : nd (v.filter (fun p => !decide (p.1 = x)) ++ [(x, k)]) := by
  unfold nd at *
  rw [List.map_append, List.nodup_append]
  refine ⟨h.sublist (List.Sublist.map _ List.filter_sublist), by simp, fun a ha b hb e => ?_⟩
  obtain ⟨p, hp, rfl⟩ := List.mem_map.mp ha
  rw [List.map_cons, List.map_nil, List.mem_singleton] at hb
  have := (List.mem_filter.mp hp).2
  rw [e, hb] at this
  simp at this
theorem lcp_run {u : V2} (hu : VOk u) (x : Str) (a0 a1 a3 a4 a5 a6 a7 a9 a10 a11 a12 : Sl) :
    LCP [a0, a1, .val (enc u), a3, a4, a5, a6, a7, .val (.str x), a9, a10, a11, a12, .un] = .ok (.lst ((u.filter fun p => !decide (p.1 = x)).map encP)) [a0, a1, .val (enc u), a3, a4, a5, a6, a7, .val (.str x), a9, a10, a11, a12, .un] := by
  have := sLc_pure (vs := [13]) (h := hSeq (sVar 2)) (gt := gN 13) (ft := sPrim oNe [(sPrim oIx [(sVar 13), (sC (.int 0))]), (sVar 8)]) (fe := sVar 13) (ρ := [a0, a1, .val (enc u), a3, a4, a5, a6, a7, .val (.str x), a9, a10, a11, a12, .un]) (ρ1 := [a0, a1, .val (enc u), a3, a4, a5, a6, a7, .val (.str x), a9, a10, a11, a12, .un])
    (fun d => match d with | .tuple [.str y, _] => !decide (y = x) | _ => false) (fun d => d) (its := u.map encP) rfl (by rw [List.length_map]; have := hu.le; omega) fun d hd => by
      obtain ⟨p, hp, rfl⟩ := List.mem_map.mp hd
      refine ⟨[a0, a1, .val (enc u), a3, a4, a5, a6, a7, .val (.str x), a9, a10, a11, a12, .val (encP p)], rfl, rfl, rfl, ?_, fun _ => ⟨.val (encP p), rfl, rfl⟩⟩
      have h1 : oIx [encP p, .int 0] = some (.val (.str p.1)) := rfl
      show sPrim oNe [(sPrim oIx [(sVar 13), (sC (.int 0))]), (sVar 8)] _ = .ok (.val (.bool (!decide (p.1 = x)))) _
      simp only [h1, ne_str, mOf, okIns, outsOf, sSeq, sNil, sAsg, sAsgT, sRet, sRetV, sRetN, sIf, sIfE, sAnd, sOr, sNot, sPrim, sArgs, sVar, sC, sExp, sCall, sCArgs, insOf, backC, fz, sChain, oTupL, oLstL, sUnp, gCons, gN, gNil, gT, sLput, peek, again, List.getElem?_cons_zero, List.getElem?_cons_succ, List.getElem?_nil, List.set_cons_zero, List.set_cons_succ, List.length_cons, List.length_nil, List.replicate_succ, List.replicate_zero, List.cons_append, List.nil_append, List.append_nil, List.contains_cons, List.contains_nil, Sl.owned, List.getD_cons_zero, List.getD_cons_succ, List.map_cons, List.map_nil, Bool.false_and, Bool.and_true, Bool.true_and, Bool.and_false, Bool.not_true, Bool.not_false, Bool.true_or, Bool.false_or, Bool.or_false, Bool.or_true, if_true, if_false, reduceIte, Bool.false_eq_true, Nat.reduceSub, Nat.reduceAdd, Nat.reduceBEq, Nat.reduceLeDiff, Nat.reduceLT, Option.map_some, Option.map_none, beq_self_eq_true, Nat.reduceEqDiff, reduceCtorEq]
  unfold LCP
  rw [this, List.filter_map, List.map_map]
  rfl
theorem fil_len (v : V2) (x : Str) : (v.filter fun p => !decide (p.1 = x)).length ≤ v.length := List.length_filter_le _ _
theorem lt_int (i j : Int) : oLt [.int i, .int j] = some (.val (.bool (decide (i < j)))) := rfl
theorem rai_run {u : V2} (hu : VOk u) {x : Str} (hx : x ∈ NAMES9) {n : Int} (n1 : 1 ≤ n) (n2 : n ≤ 9) (a0 a1 a3 a4 a5 a6 a7 a10 a11 a12 : Sl) : ∃ y10 y11,
    RAI [a0, a1, .val (enc u), a3, a4, a5, a6, a7, .val (.str x), .val (.int n), a10, a11, a12, .un] = .nxt [a0, a1, .val (enc u), a3, a4, a5, a6, a7, .val (.str x), .val (.int n), y10, y11, a12, .un] := by
  have e1 := ev_law_number hu.nd hu.le10 x
  have p9 : oPow [.int 10, .int 9] = some (.val (.int 1000000000)) := rfl
  have p8 : oSub [.int 1000000000, .int 10] = some (.val (.int 999999990)) := rfl
  have ol : oLen [enc u] = some (.val (.int u.length)) := by
    show some (Sl.val (.int ((u.map encP).length : Int))) = _
    rw [List.length_map]
  by_cases c1 : look u x < 999999990
  · by_cases c2 : (u.length : Int) < 8
    · have hk : 1 ≤ look u x + n := by have := look_nonneg hu.pz x; omega
      have e2 := ev_raised hu.nd hu.le9 x n
      have e3 := lcp_run hu x a0 a1 a3 a4 a5 a6 a7 (.val (.int n)) (.val (enc (sortV (putV u x (look u x + n))))) a11 a12
      have oa : oAdd [.int (look u x), .int n] = some (.val (.int (look u x + n))) := rfl
      have fl := fil_len u x
      have hl := hu.le
      have o1 : oAdd [.list ((u.filter fun p => !decide (p.1 = x)).map encP), .list [.tuple [.str x, .int (look u x + n)]]] = some (.lst ((u.filter (fun p => !decide (p.1 = x)) ++ [(x, look u x + n)]).map encP)) := by
        have hs : isSmall (((u.filter fun p => !decide (p.1 = x)).map encP).length + [PyData.tuple [.str x, .int (look u x + n)]].length) = true := small_of (by rw [List.length_map]; simp only [List.length_cons, List.length_nil]; omega)
        simp only [oAdd, hs, if_true]
        rw [List.map_append]
        rfl
      have hfl : (u.filter (fun p => !decide (p.1 = x)) ++ [(x, look u x + n)]).length ≤ 1000 := by rw [List.length_append]; simp only [List.length_cons, List.length_nil]; omega
      have o2 : oSorted [.list ((u.filter (fun p => !decide (p.1 = x)) ++ [(x, look u x + n)]).map encP)] = some (.lst ((sortV (u.filter (fun p => !decide (p.1 = x)) ++ [(x, look u x + n)])).map encP)) := by
        show (if sortOk _ = true then some (Sl.lst (sortD _)) else none) = _
        rw [if_pos (sort_ok hfl), sort_enc]
      have hnd := nd_fil hu.nd x (look u x + n)
      have pnd := put_nd (x := x) (n := look u x + n) hu.nd
      have ppz := put_pz (x := x) hu.pz hk
      have fpz : pz (u.filter (fun p => !decide (p.1 = x)) ++ [(x, look u x + n)]) := fun p hp => by
        rcases List.mem_append.mp hp with hp | hp
        · exact hu.pz p (List.mem_filter.mp hp).1
        · rw [List.mem_singleton] at hp; subst hp; exact hk
      have eq : sortV (u.filter (fun p => !decide (p.1 = x)) ++ [(x, look u x + n)]) = sortV (putV u x (look u x + n)) := vec_ext (sort_srt hnd) (sort_srt pnd) (sort_pz fpz) (sort_pz ppz) fun y => by
        rw [sort_look hnd, sort_look pnd, look_fil, look_put]
      rw [eq] at o2
      have hmem : ∀ p ∈ sortV (putV u x (look u x + n)), p.1 ∈ NAMES9 ∧ p.2 ≤ 1000000000 := fun p hp => by
        have hp' : p ∈ sortV (u.filter (fun p => !decide (p.1 = x)) ++ [(x, look u x + n)]) := by rw [eq]; exact hp
        have := (sort_perm _).mem_iff.mp hp'
        rcases List.mem_append.mp this with h | h
        · have := (List.mem_filter.mp h).1
          exact ⟨hu.n9 p this, (hu.2.1 p this).2⟩
        · rw [List.mem_singleton] at h; subst h; exact ⟨hx, by show look u x + n ≤ _; omega⟩
      have hlen : (sortV (putV u x (look u x + n))).length ≤ 8 := by
        rw [sort_len]
        have := put_len u x (look u x + n)
        omega
      have hiv : m_is_vector [.val (enc (sortV (putV u x (look u x + n))))] = .ok (.val (.bool true)) [.val (enc (sortV (putV u x (look u x + n))))] := by
        rw [ev_isv (fun p hp => (hmem p hp).1) (Nat.le_trans hlen (by decide)), isv_enc (sort_srt pnd) (fun p hp => ⟨sort_pz ppz p hp, (hmem p hp).2⟩) (fun p hp => (hmem p hp).1) hlen]
      have e4 := ev_number_of (sort_nd pnd) (Nat.le_trans hlen (by decide)) x
      rw [sort_look pnd, look_put, if_pos rfl] at e4
      have dd : ∀ x : V2, decide (x = x) = true := fun x => decide_eq_true rfl
      have di : ∀ x : Int, decide (x = x) = true := fun x => decide_eq_true rfl
      have ot : ∀ v : V2, oTuple [.list (v.map encP)] = some (.val (enc v)) := fun _ => rfl
      refine ⟨.val (enc (sortV (putV u x (look u x + n)))), .val (enc (sortV (putV u x (look u x + n)))), ?_⟩
      simp only [RAI, e1, p9, p8, ol, lt_int, c1, c2, decide_true, e2, e3, oa, o1, o2, ot, ne_enc, dd, hiv, isn_tt, e4, ne_int, di, mOf, okIns, outsOf, sSeq, sNil, sAsg, sAsgT, sRet, sRetV, sRetN, sIf, sIfE, sAnd, sOr, sNot, sPrim, sArgs, sVar, sC, sExp, sCall, sCArgs, insOf, backC, fz, sChain, oTupL, oLstL, sUnp, gCons, gN, gNil, gT, sLput, peek, again, List.getElem?_cons_zero, List.getElem?_cons_succ, List.getElem?_nil, List.set_cons_zero, List.set_cons_succ, List.length_cons, List.length_nil, List.replicate_succ, List.replicate_zero, List.cons_append, List.nil_append, List.append_nil, List.contains_cons, List.contains_nil, Sl.owned, List.getD_cons_zero, List.getD_cons_succ, List.map_cons, List.map_nil, Bool.false_and, Bool.and_true, Bool.true_and, Bool.and_false, Bool.not_true, Bool.not_false, Bool.true_or, Bool.false_or, Bool.or_false, Bool.or_true, if_true, if_false, reduceIte, Bool.false_eq_true, Nat.reduceSub, Nat.reduceAdd, Nat.reduceBEq, Nat.reduceLeDiff, Nat.reduceLT, Option.map_some, Option.map_none, beq_self_eq_true, Nat.reduceEqDiff, reduceCtorEq]
    · refine ⟨a10, a11, ?_⟩
      simp only [RAI, e1, p9, p8, ol, lt_int, c1, c2, decide_true, decide_false, mOf, okIns, outsOf, sSeq, sNil, sAsg, sAsgT, sRet, sRetV, sRetN, sIf, sIfE, sAnd, sOr, sNot, sPrim, sArgs, sVar, sC, sExp, sCall, sCArgs, insOf, backC, fz, sChain, oTupL, oLstL, sUnp, gCons, gN, gNil, gT, sLput, peek, again, List.getElem?_cons_zero, List.getElem?_cons_succ, List.getElem?_nil, List.set_cons_zero, List.set_cons_succ, List.length_cons, List.length_nil, List.replicate_succ, List.replicate_zero, List.cons_append, List.nil_append, List.append_nil, List.contains_cons, List.contains_nil, Sl.owned, List.getD_cons_zero, List.getD_cons_succ, List.map_cons, List.map_nil, Bool.false_and, Bool.and_true, Bool.true_and, Bool.and_false, Bool.not_true, Bool.not_false, Bool.true_or, Bool.false_or, Bool.or_false, Bool.or_true, if_true, if_false, reduceIte, Bool.false_eq_true, Nat.reduceSub, Nat.reduceAdd, Nat.reduceBEq, Nat.reduceLeDiff, Nat.reduceLT, Option.map_some, Option.map_none, beq_self_eq_true, Nat.reduceEqDiff, reduceCtorEq]
  · refine ⟨a10, a11, ?_⟩
    simp only [RAI, e1, p9, p8, lt_int, c1, decide_false, mOf, okIns, outsOf, sSeq, sNil, sAsg, sAsgT, sRet, sRetV, sRetN, sIf, sIfE, sAnd, sOr, sNot, sPrim, sArgs, sVar, sC, sExp, sCall, sCArgs, insOf, backC, fz, sChain, oTupL, oLstL, sUnp, gCons, gN, gNil, gT, sLput, peek, again, List.getElem?_cons_zero, List.getElem?_cons_succ, List.getElem?_nil, List.set_cons_zero, List.set_cons_succ, List.length_cons, List.length_nil, List.replicate_succ, List.replicate_zero, List.cons_append, List.nil_append, List.append_nil, List.contains_cons, List.contains_nil, Sl.owned, List.getD_cons_zero, List.getD_cons_succ, List.map_cons, List.map_nil, Bool.false_and, Bool.and_true, Bool.true_and, Bool.and_false, Bool.not_true, Bool.not_false, Bool.true_or, Bool.false_or, Bool.or_false, Bool.or_true, if_true, if_false, reduceIte, Bool.false_eq_true, Nat.reduceSub, Nat.reduceAdd, Nat.reduceBEq, Nat.reduceLeDiff, Nat.reduceLT, Option.map_some, Option.map_none, beq_self_eq_true, Nat.reduceEqDiff, reduceCtorEq]
theorem node_run {s : Sl} (hs : DrawSt s) (a0 a2 a3 a4 a5 a6 a7 a8 a9 a10 a11 a12 a13 : Sl) : ∃ x s', x ∈ NAMES9 ∧ DrawSt s' ∧
    NODE [a0, s, a2, a3, a4, a5, a6, a7, a8, a9, a10, a11, a12, a13] = .ok (.val (.str x)) [a0, s', a2, a3, a4, a5, a6, a7, a8, a9, a10, a11, a12, a13] := by
  obtain ⟨r, s3, r1, r2, hs3, e3⟩ := ev_draw hs 4 (by decide) (by decide)
  obtain ⟨ds, rfl⟩ := hs.lst
  obtain ⟨ds3, rfl⟩ := hs3.lst
  obtain ⟨x, hx, ex⟩ : ∃ x, x ∈ NAMES9 ∧ oIx [.list [.str "a", .str "c", .str "h", .str "zed"], .int r] = some (.val (.str x)) := by
    have : r = 0 ∨ r = 1 ∨ r = 2 ∨ r = 3 := by omega
    rcases this with e | e | e | e
    · subst e; exact ⟨"a", by unfold NAMES9 NAMES8; decide +kernel, rfl⟩
    · subst e; exact ⟨"c", by unfold NAMES9 NAMES8; decide +kernel, rfl⟩
    · subst e; exact ⟨"h", by unfold NAMES9 NAMES8; decide +kernel, rfl⟩
    · subst e; exact ⟨"zed", by unfold NAMES9 NAMES8; decide +kernel, rfl⟩
  refine ⟨x, .lst ds3, hx, hs3, ?_⟩
  simp only [NODE, e3, ex, mOf, okIns, outsOf, sSeq, sNil, sAsg, sAsgT, sRet, sRetV, sRetN, sIf, sIfE, sAnd, sOr, sNot, sPrim, sArgs, sVar, sC, sExp, sCall, sCArgs, insOf, backC, fz, sChain, oTupL, oLstL, sUnp, gCons, gN, gNil, gT, sLput, peek, again, List.getElem?_cons_zero, List.getElem?_cons_succ, List.getElem?_nil, List.set_cons_zero, List.set_cons_succ, List.length_cons, List.length_nil, List.replicate_succ, List.replicate_zero, List.cons_append, List.nil_append, List.append_nil, List.contains_cons, List.contains_nil, Sl.owned, List.getD_cons_zero, List.getD_cons_succ, List.map_cons, List.map_nil, Bool.false_and, Bool.and_true, Bool.true_and, Bool.and_false, Bool.not_true, Bool.not_false, Bool.true_or, Bool.false_or, Bool.or_false, Bool.or_true, if_true, if_false, reduceIte, Bool.false_eq_true, Nat.reduceSub, Nat.reduceAdd, Nat.reduceBEq, Nat.reduceLeDiff, Nat.reduceLT, Option.map_some, Option.map_none, beq_self_eq_true, Nat.reduceEqDiff, reduceCtorEq]
theorem more_run {s : Sl} (hs : DrawSt s) (a0 a2 a3 a4 a5 a6 a7 a8 a9 a10 a11 a12 a13 : Sl) : ∃ n s', 1 ≤ n ∧ n ≤ 9 ∧ DrawSt s' ∧
    MORE [a0, s, a2, a3, a4, a5, a6, a7, a8, a9, a10, a11, a12, a13] = .ok (.val (.int n)) [a0, s', a2, a3, a4, a5, a6, a7, a8, a9, a10, a11, a12, a13] := by
  obtain ⟨r, s3, r1, r2, hs3, e3⟩ := ev_draw hs 9 (by decide) (by decide)
  obtain ⟨ds, rfl⟩ := hs.lst
  obtain ⟨ds3, rfl⟩ := hs3.lst
  have oa : oAdd [.int 1, .int r] = some (.val (.int (1 + r))) := rfl
  refine ⟨1 + r, .lst ds3, by omega, by omega, hs3, ?_⟩
  simp only [MORE, e3, oa, mOf, okIns, outsOf, sSeq, sNil, sAsg, sAsgT, sRet, sRetV, sRetN, sIf, sIfE, sAnd, sOr, sNot, sPrim, sArgs, sVar, sC, sExp, sCall, sCArgs, insOf, backC, fz, sChain, oTupL, oLstL, sUnp, gCons, gN, gNil, gT, sLput, peek, again, List.getElem?_cons_zero, List.getElem?_cons_succ, List.getElem?_nil, List.set_cons_zero, List.set_cons_succ, List.length_cons, List.length_nil, List.replicate_succ, List.replicate_zero, List.cons_append, List.nil_append, List.append_nil, List.contains_cons, List.contains_nil, Sl.owned, List.getD_cons_zero, List.getD_cons_succ, List.map_cons, List.map_nil, Bool.false_and, Bool.and_true, Bool.true_and, Bool.and_false, Bool.not_true, Bool.not_false, Bool.true_or, Bool.false_or, Bool.or_false, Bool.or_true, if_true, if_false, reduceIte, Bool.false_eq_true, Nat.reduceSub, Nat.reduceAdd, Nat.reduceBEq, Nat.reduceLeDiff, Nat.reduceLT, Option.map_some, Option.map_none, beq_self_eq_true, Nat.reduceEqDiff, reduceCtorEq]
theorem law_true (ns : List Int) (hl : ns.length ≤ 63) (hb : ∀ z ∈ ns, Builtin.Int.intBits z ≤ 1048576) : ∃ outs, m_law [.val (.list (ns.map .int))] = .ok (.val (.bool true)) outs := by
  obtain ⟨s1, hs1, e1⟩ := ev_law_open ns hl
  obtain ⟨u, s2, hu, hs2, e2⟩ := ev_law_vector hs1 8
  replace e2 : m__law_vector [s1, .val (.int 8)] = .ok (.val (enc u)) [s2, .val (.int 8)] := e2
  obtain ⟨v, s3, hv, hs3, e3⟩ := other_run hs2 hu (.val (.list (ns.map .int))) .un .un .un .un .un .un .un .un .un .un .un
  obtain ⟨w, s4, hw, hs4, e4⟩ := ev_law_vector hs3 5
  replace e4 : m__law_vector [s3, .val (.int 5)] = .ok (.val (enc w)) [s4, .val (.int 5)] := e4
  have e5 := ev_law_wrong hu
  obtain ⟨y5, y6, y10, y11, y12, e6⟩ := for_run hu hv hw (.val (.list (ns.map .int))) s4 .un .un .un .un .un .un .un .un .un
  have e7 := ass_run hu hv hw (.val (.list (ns.map .int))) s4 y5 y6 .un .un .un y10 y11 y12 .un
  obtain ⟨x1, h1, l1, e8, e8'⟩ := join_ok hu hv
  obtain ⟨x2, h2, l2, _, e9⟩ := join_ok h1 hw
  have e10 := ev_at_most (u := x1) h2.nd h2.le10
  have t10 : leV x1 x2 = true := (leV_iff h1.nd h2.pz).mpr fun x => by have := l2 x; omega
  rw [t10] at e10
  obtain ⟨x, s5, hx, hs5, e11⟩ := node_run hs4 (.val (.list (ns.map .int))) (.val (enc u)) (.val (enc v)) (.val (enc w)) y5 y6 (.val (enc x2)) .un .un y10 y11 y12 .un
  obtain ⟨n, s6, n1, n2, hs6, e12⟩ := more_run hs5 (.val (.list (ns.map .int))) (.val (enc u)) (.val (enc v)) (.val (enc w)) y5 y6 (.val (enc x2)) (.val (.str x)) .un y10 y11 y12 .un
  obtain ⟨z10, z11, e13⟩ := rai_run hu hx n1 n2 (.val (.list (ns.map .int))) s6 (.val (enc v)) (.val (enc w)) y5 y6 (.val (enc x2)) y10 y11 y12
  have e14 := ev_number_of hu.nd hu.le10 x
  have e15 := ev_law_number hu.nd hu.le10 x
  have e16 := ev_law_int (look u x)
  have di : ∀ x : Int, decide (x = x) = true := fun x => decide_eq_true rfl
  obtain ⟨d1, rfl⟩ := hs1.lst
  obtain ⟨d2, rfl⟩ := hs2.lst
  obtain ⟨d3, rfl⟩ := hs3.lst
  obtain ⟨d4, rfl⟩ := hs4.lst
  obtain ⟨d5, rfl⟩ := hs5.lst
  obtain ⟨d6, rfl⟩ := hs6.lst
  unfold m_law
  rw [glaw_eq]
  simp only [GLAW, e1, e2, e3, e4, e5, e6, e7, e8, e8', e9, e10, isn_tt, e11, e12, e13, e14, e15, e16, eq_int, di, decide_true, mOf, okIns, outsOf, sSeq, sNil, sAsg, sAsgT, sRet, sRetV, sRetN, sIf, sIfE, sAnd, sOr, sNot, sPrim, sArgs, sVar, sC, sExp, sCall, sCArgs, insOf, backC, fz, sChain, oTupL, oLstL, sUnp, gCons, gN, gNil, gT, sLput, peek, again, List.getElem?_cons_zero, List.getElem?_cons_succ, List.getElem?_nil, List.set_cons_zero, List.set_cons_succ, List.length_cons, List.length_nil, List.replicate_succ, List.replicate_zero, List.cons_append, List.nil_append, List.append_nil, List.contains_cons, List.contains_nil, Sl.owned, List.getD_cons_zero, List.getD_cons_succ, List.map_cons, List.map_nil, Bool.false_and, Bool.and_true, Bool.true_and, Bool.and_false, Bool.not_true, Bool.not_false, Bool.true_or, Bool.false_or, Bool.or_false, Bool.or_true, if_true, if_false, reduceIte, Bool.false_eq_true, Nat.reduceSub, Nat.reduceAdd, Nat.reduceBEq, Nat.reduceLeDiff, Nat.reduceLT, Option.map_some, Option.map_none, beq_self_eq_true, Nat.reduceEqDiff, reduceCtorEq]
  exact ⟨_, rfl⟩
end Pu
end M57l_part
section G57_end_part
namespace Pu
open PySem PySem.Spec PyProof.Rows L2
set_option maxHeartbeats 0 in
theorem law_end {w : World} {K : PySem.W.Frag} {mg mb : Str → Option Value} {mean : ExcName → Option Value} {fa : Addr} {h : Heap} {q : Program} {loose : List Str} (X : K.In h) (Tp : Top q loose mean mg mb h) (G : h.Ns mainGlobals mg) (hfa : mg "law" = some (.ref fa))
    (hm : ∀ ns : List Int, ns.length ≤ 63 → (∀ z ∈ ns, Builtin.Int.intBits z ≤ 1048576) → ∃ outs, m_law [.val (.list (ns.map .int))] = .ok (.val (.bool true)) outs)
    {f0 : Addr} {od0 an0 : Option Addr} {sl0 : Array (Option Value)} {oc0 kV0 dc0 pm0 cd0 ct0 : Value}
    (a0 : PySem.W.nsIn K mainGlobals "_law_open" = some (some (.ref f0))) (l0 : K.lookup f0 = some ⟨oc0, od0, .func (PySem.W.fnOf "_law_open" "_law_open" (defArgs s__law_open) (defBody s__law_open) (defScope s__law_open) .none kV0 dc0 pm0 an0 cd0 ct0), sl0⟩) (c0 : PySem.W.codeIn K cd0 "_law_open" = true) (k0 : PySem.W.keepIn K (.ref f0) = true)
    {f1 : Addr} {od1 an1 : Option Addr} {sl1 : Array (Option Value)} {oc1 kV1 dc1 pm1 cd1 ct1 : Value}
    (a1 : PySem.W.nsIn K mainGlobals "_law_mixed" = some (some (.ref f1))) (l1 : K.lookup f1 = some ⟨oc1, od1, .func (PySem.W.fnOf "_law_mixed" "_law_mixed" (defArgs s__law_mixed) (defBody s__law_mixed) (defScope s__law_mixed) .none kV1 dc1 pm1 an1 cd1 ct1), sl1⟩) (c1 : PySem.W.codeIn K cd1 "_law_mixed" = true) (k1 : PySem.W.keepIn K (.ref f1) = true)
    {f2 : Addr} {od2 an2 : Option Addr} {sl2 : Array (Option Value)} {oc2 kV2 dc2 pm2 cd2 ct2 : Value}
    (a2 : PySem.W.nsIn K mainGlobals "_law_draw" = some (some (.ref f2))) (l2 : K.lookup f2 = some ⟨oc2, od2, .func (PySem.W.fnOf "_law_draw" "_law_draw" (defArgs s__law_draw) (defBody s__law_draw) (defScope s__law_draw) .none kV2 dc2 pm2 an2 cd2 ct2), sl2⟩) (c2 : PySem.W.codeIn K cd2 "_law_draw" = true) (k2 : PySem.W.keepIn K (.ref f2) = true)
    {f3 : Addr} {od3 an3 : Option Addr} {sl3 : Array (Option Value)} {oc3 kV3 dc3 pm3 cd3 ct3 : Value}
    (a3 : PySem.W.nsIn K mainGlobals "_law_vector" = some (some (.ref f3))) (l3 : K.lookup f3 = some ⟨oc3, od3, .func (PySem.W.fnOf "_law_vector" "_law_vector" (defArgs s__law_vector) (defBody s__law_vector) (defScope s__law_vector) .none kV3 dc3 pm3 an3 cd3 ct3), sl3⟩) (c3 : PySem.W.codeIn K cd3 "_law_vector" = true) (k3 : PySem.W.keepIn K (.ref f3) = true)
    {f4 : Addr} {od4 an4 : Option Addr} {sl4 : Array (Option Value)} {oc4 kV4 dc4 pm4 cd4 ct4 : Value}
    (a4 : PySem.W.nsIn K mainGlobals "_law_number" = some (some (.ref f4))) (l4 : K.lookup f4 = some ⟨oc4, od4, .func (PySem.W.fnOf "_law_number" "_law_number" (defArgs s__law_number) (defBody s__law_number) (defScope s__law_number) .none kV4 dc4 pm4 an4 cd4 ct4), sl4⟩) (c4 : PySem.W.codeIn K cd4 "_law_number" = true) (k4 : PySem.W.keepIn K (.ref f4) = true)
    {f5 : Addr} {od5 an5 : Option Addr} {sl5 : Array (Option Value)} {oc5 kV5 dc5 pm5 cd5 ct5 : Value}
    (a5 : PySem.W.nsIn K mainGlobals "_law_join" = some (some (.ref f5))) (l5 : K.lookup f5 = some ⟨oc5, od5, .func (PySem.W.fnOf "_law_join" "_law_join" (defArgs s__law_join) (defBody s__law_join) (defScope s__law_join) .none kV5 dc5 pm5 an5 cd5 ct5), sl5⟩) (c5 : PySem.W.codeIn K cd5 "_law_join" = true) (k5 : PySem.W.keepIn K (.ref f5) = true)
    {f6 : Addr} {od6 an6 : Option Addr} {sl6 : Array (Option Value)} {oc6 kV6 dc6 pm6 cd6 ct6 : Value}
    (a6 : PySem.W.nsIn K mainGlobals "is_name" = some (some (.ref f6))) (l6 : K.lookup f6 = some ⟨oc6, od6, .func (PySem.W.fnOf "is_name" "is_name" (defArgs s_is_name) (defBody s_is_name) (defScope s_is_name) .none kV6 dc6 pm6 an6 cd6 ct6), sl6⟩) (c6 : PySem.W.codeIn K cd6 "is_name" = true) (k6 : PySem.W.keepIn K (.ref f6) = true)
    {f7 : Addr} {od7 an7 : Option Addr} {sl7 : Array (Option Value)} {oc7 kV7 dc7 pm7 cd7 ct7 : Value}
    (a7 : PySem.W.nsIn K mainGlobals "is_names" = some (some (.ref f7))) (l7 : K.lookup f7 = some ⟨oc7, od7, .func (PySem.W.fnOf "is_names" "is_names" (defArgs s_is_names) (defBody s_is_names) (defScope s_is_names) .none kV7 dc7 pm7 an7 cd7 ct7), sl7⟩) (c7 : PySem.W.codeIn K cd7 "is_names" = true) (k7 : PySem.W.keepIn K (.ref f7) = true)
    {f8 : Addr} {od8 an8 : Option Addr} {sl8 : Array (Option Value)} {oc8 kV8 dc8 pm8 cd8 ct8 : Value}
    (a8 : PySem.W.nsIn K mainGlobals "is_number" = some (some (.ref f8))) (l8 : K.lookup f8 = some ⟨oc8, od8, .func (PySem.W.fnOf "is_number" "is_number" (defArgs s_is_number) (defBody s_is_number) (defScope s_is_number) .none kV8 dc8 pm8 an8 cd8 ct8), sl8⟩) (c8 : PySem.W.codeIn K cd8 "is_number" = true) (k8 : PySem.W.keepIn K (.ref f8) = true)
    {f9 : Addr} {od9 an9 : Option Addr} {sl9 : Array (Option Value)} {oc9 kV9 dc9 pm9 cd9 ct9 : Value}
    (a9 : PySem.W.nsIn K mainGlobals "is_vector" = some (some (.ref f9))) (l9 : K.lookup f9 = some ⟨oc9, od9, .func (PySem.W.fnOf "is_vector" "is_vector" (defArgs s_is_vector) (defBody s_is_vector) (defScope s_is_vector) .none kV9 dc9 pm9 an9 cd9 ct9), sl9⟩) (c9 : PySem.W.codeIn K cd9 "is_vector" = true) (k9 : PySem.W.keepIn K (.ref f9) = true)
    {f10 : Addr} {od10 an10 : Option Addr} {sl10 : Array (Option Value)} {oc10 kV10 dc10 pm10 cd10 ct10 : Value}
    (a10 : PySem.W.nsIn K mainGlobals "_law_wrong" = some (some (.ref f10))) (l10 : K.lookup f10 = some ⟨oc10, od10, .func (PySem.W.fnOf "_law_wrong" "_law_wrong" (defArgs s__law_wrong) (defBody s__law_wrong) (defScope s__law_wrong) .none kV10 dc10 pm10 an10 cd10 ct10), sl10⟩) (c10 : PySem.W.codeIn K cd10 "_law_wrong" = true) (k10 : PySem.W.keepIn K (.ref f10) = true)
    {f11 : Addr} {od11 an11 : Option Addr} {sl11 : Array (Option Value)} {oc11 kV11 dc11 pm11 cd11 ct11 : Value}
    (a11 : PySem.W.nsIn K mainGlobals "join" = some (some (.ref f11))) (l11 : K.lookup f11 = some ⟨oc11, od11, .func (PySem.W.fnOf "join" "join" (defArgs s_join) (defBody s_join) (defScope s_join) .none kV11 dc11 pm11 an11 cd11 ct11), sl11⟩) (c11 : PySem.W.codeIn K cd11 "join" = true) (k11 : PySem.W.keepIn K (.ref f11) = true)
    {f12 : Addr} {od12 an12 : Option Addr} {sl12 : Array (Option Value)} {oc12 kV12 dc12 pm12 cd12 ct12 : Value}
    (a12 : PySem.W.nsIn K mainGlobals "number_of" = some (some (.ref f12))) (l12 : K.lookup f12 = some ⟨oc12, od12, .func (PySem.W.fnOf "number_of" "number_of" (defArgs s_number_of) (defBody s_number_of) (defScope s_number_of) .none kV12 dc12 pm12 an12 cd12 ct12), sl12⟩) (c12 : PySem.W.codeIn K cd12 "number_of" = true) (k12 : PySem.W.keepIn K (.ref f12) = true)
    {f13 : Addr} {od13 an13 : Option Addr} {sl13 : Array (Option Value)} {oc13 kV13 dc13 pm13 cd13 ct13 : Value}
    (a13 : PySem.W.nsIn K mainGlobals "at_most" = some (some (.ref f13))) (l13 : K.lookup f13 = some ⟨oc13, od13, .func (PySem.W.fnOf "at_most" "at_most" (defArgs s_at_most) (defBody s_at_most) (defScope s_at_most) .none kV13 dc13 pm13 an13 cd13 ct13), sl13⟩) (c13 : PySem.W.codeIn K cd13 "at_most" = true) (k13 : PySem.W.keepIn K (.ref f13) = true)
    {f14 : Addr} {od14 an14 : Option Addr} {sl14 : Array (Option Value)} {oc14 kV14 dc14 pm14 cd14 ct14 : Value}
    (a14 : PySem.W.nsIn K mainGlobals "raised" = some (some (.ref f14))) (l14 : K.lookup f14 = some ⟨oc14, od14, .func (PySem.W.fnOf "raised" "raised" (defArgs s_raised) (defBody s_raised) (defScope s_raised) .none kV14 dc14 pm14 an14 cd14 ct14), sl14⟩) (c14 : PySem.W.codeIn K cd14 "raised" = true) (k14 : PySem.W.keepIn K (.ref f14) = true)
    {f15 : Addr} {od15 an15 : Option Addr} {sl15 : Array (Option Value)} {oc15 kV15 dc15 pm15 cd15 ct15 : Value}
    (a15 : PySem.W.nsIn K mainGlobals "_law_int" = some (some (.ref f15))) (l15 : K.lookup f15 = some ⟨oc15, od15, .func (PySem.W.fnOf "_law_int" "_law_int" (defArgs s__law_int) (defBody s__law_int) (defScope s__law_int) .none kV15 dc15 pm15 an15 cd15 ct15), sl15⟩) (c15 : PySem.W.codeIn K cd15 "_law_int" = true) (k15 : PySem.W.keepIn K (.ref f15) = true)
    {f16 : Addr} {od16 an16 : Option Addr} {sl16 : Array (Option Value)} {oc16 kV16 dc16 pm16 cd16 ct16 : Value}
    (a16 : PySem.W.nsIn K mainGlobals "_law_at_most" = some (some (.ref f16))) (l16 : K.lookup f16 = some ⟨oc16, od16, .func (PySem.W.fnOf "_law_at_most" "_law_at_most" (defArgs s__law_at_most) (defBody s__law_at_most) (defScope s__law_at_most) .none kV16 dc16 pm16 an16 cd16 ct16), sl16⟩) (c16 : PySem.W.codeIn K cd16 "_law_at_most" = true) (k16 : PySem.W.keepIn K (.ref f16) = true)
    {f17 : Addr} {od17 an17 : Option Addr} {sl17 : Array (Option Value)} {oc17 kV17 dc17 pm17 cd17 ct17 : Value}
    (a17 : PySem.W.nsIn K mainGlobals "_law_same" = some (some (.ref f17))) (l17 : K.lookup f17 = some ⟨oc17, od17, .func (PySem.W.fnOf "_law_same" "_law_same" (defArgs s__law_same) (defBody s__law_same) (defScope s__law_same) .none kV17 dc17 pm17 an17 cd17 ct17), sl17⟩) (c17 : PySem.W.codeIn K cd17 "_law_same" = true) (k17 : PySem.W.keepIn K (.ref f17) = true)
    {f18 : Addr} {od18 an18 : Option Addr} {sl18 : Array (Option Value)} {oc18 kV18 dc18 pm18 cd18 ct18 : Value}
    (a18 : PySem.W.nsIn K mainGlobals "compare" = some (some (.ref f18))) (l18 : K.lookup f18 = some ⟨oc18, od18, .func (PySem.W.fnOf "compare" "compare" (defArgs s_compare) (defBody s_compare) (defScope s_compare) .none kV18 dc18 pm18 an18 cd18 ct18), sl18⟩) (c18 : PySem.W.codeIn K cd18 "compare" = true) (k18 : PySem.W.keepIn K (.ref f18) = true)
    {f19 : Addr} {od19 an19 : Option Addr} {sl19 : Array (Option Value)} {oc19 kV19 dc19 pm19 cd19 ct19 : Value}
    (a19 : PySem.W.nsIn K mainGlobals "law" = some (some (.ref f19))) (l19 : K.lookup f19 = some ⟨oc19, od19, .func (PySem.W.fnOf "law" "law" (defArgs s_law) (defBody s_law) (defScope s_law) .none kV19 dc19 pm19 an19 cd19 ct19), sl19⟩) (c19 : PySem.W.codeIn K cd19 "law" = true) (k19 : PySem.W.keepIn K (.ref f19) = true)
    (t6 : tabB K "is_name" = true) (q6 : ((recsOf q).find? (fun e => e.name == ("is_name" : Str))).isSome = true)
    (t7 : tabB K "is_names" = true) (q7 : ((recsOf q).find? (fun e => e.name == ("is_names" : Str))).isSome = true)
    (t9 : tabB K "is_vector" = true) (q9 : ((recsOf q).find? (fun e => e.name == ("is_vector" : Str))).isSome = true)
    (t13 : tabB K "at_most" = true) (q13 : ((recsOf q).find? (fun e => e.name == ("at_most" : Str))).isSome = true)
    (z0 : PySem.W.nsIn K mainGlobals "abs" = some none)
    (z1 : PySem.W.nsIn K mainGlobals "all" = some none)
    (z2 : PySem.W.nsIn K mainGlobals "bool" = some none)
    (z3 : PySem.W.nsIn K mainGlobals "dict" = some none)
    (z4 : PySem.W.nsIn K mainGlobals "int" = some none)
    (z5 : PySem.W.nsIn K mainGlobals "isinstance" = some none)
    (z6 : PySem.W.nsIn K mainGlobals "len" = some none)
    (z7 : PySem.W.nsIn K mainGlobals "list" = some none)
    (z8 : PySem.W.nsIn K mainGlobals "max" = some none)
    (z9 : PySem.W.nsIn K mainGlobals "range" = some none)
    (z10 : PySem.W.nsIn K mainGlobals "sorted" = some none)
    (z11 : PySem.W.nsIn K mainGlobals "str" = some none)
    (z12 : PySem.W.nsIn K mainGlobals "sum" = some none)
    (z13 : PySem.W.nsIn K mainGlobals "tuple" = some none)
    {y0 : Tok} (x0 : PySem.W.nsIn K mainGlobals "MOST_NODES" = some (some (.int 8 y0)))
    {y1 : Tok} (x1 : PySem.W.nsIn K mainGlobals "MOST_NUMBER" = some (some (.int 1000000000 y1)))
    : LamX.LawAtS PySem.Challenge.rw_happenedfirst_k57_vectors w K (L2.CX (PySem.Challenge.rw_happenedfirst_k57_vectors).prog w) 7 63 "script" mg fa h := by
  have e := hfa.symm.trans (PySem.W.mg_of X G a19)
  cases e
  obtain ⟨o6, p6, u6, n6⟩ := tabB_ok t6
  have e6 : cd6 = .ref o6 := tab_code a6 l6 u6
  obtain ⟨r6, hr6⟩ := Option.isSome_iff_exists.mp q6
  obtain ⟨hC6, hT6⟩ := PySem.W.tab_of Tp X hr6 u6
  obtain ⟨o7, p7, u7, n7⟩ := tabB_ok t7
  have e7 : cd7 = .ref o7 := tab_code a7 l7 u7
  obtain ⟨r7, hr7⟩ := Option.isSome_iff_exists.mp q7
  obtain ⟨hC7, hT7⟩ := PySem.W.tab_of Tp X hr7 u7
  obtain ⟨o9, p9, u9, n9⟩ := tabB_ok t9
  have e9 : cd9 = .ref o9 := tab_code a9 l9 u9
  obtain ⟨r9, hr9⟩ := Option.isSome_iff_exists.mp q9
  obtain ⟨hC9, hT9⟩ := PySem.W.tab_of Tp X hr9 u9
  obtain ⟨o13, p13, u13, n13⟩ := tabB_ok t13
  have e13 : cd13 = .ref o13 := tab_code a13 l13 u13
  obtain ⟨r13, hr13⟩ := Option.isSome_iff_exists.mp q13
  obtain ⟨hC13, hT13⟩ := PySem.W.tab_of Tp X hr13 u13
  refine law_at (fd := PySem.W.fnOf "law" "law" (defArgs s_law) (defBody s_law) (defScope s_law) .none kV19 dc19 pm19 an19 cd19 ct19) (m := m_law) [(o6, p6), (o7, p7), (o9, p9), (o13, p13)] hm (List.forall_mem_cons.mpr ⟨hT6, List.forall_mem_cons.mpr ⟨hT7, List.forall_mem_cons.mpr ⟨hT9, List.forall_mem_cons.mpr ⟨hT13, (fun _ hz => nomatch hz)⟩⟩⟩⟩) (List.forall_mem_cons.mpr ⟨n6, List.forall_mem_cons.mpr ⟨n7, List.forall_mem_cons.mpr ⟨n9, List.forall_mem_cons.mpr ⟨n13, (fun _ hz => nomatch hz)⟩⟩⟩⟩) (List.forall_mem_cons.mpr ⟨hC6, List.forall_mem_cons.mpr ⟨hC7, List.forall_mem_cons.mpr ⟨hC9, List.forall_mem_cons.mpr ⟨hC13, (fun _ hz => nomatch hz)⟩⟩⟩⟩) (fun s v => .of_eq rfl) fun base Xb Gb TB => ?_
  have hTb : ∀ p ∈ [(o6, p6), (o7, p7), (o9, p9), (o13, p13)], LamX.TabB base mg p.1 p.2 := TB
  have tb6 := hTb (o6, p6) (by simp)
  have tb7 := hTb (o7, p7) (by simp)
  have tb9 := hTb (o9, p9) (by simp)
  have tb13 := hTb (o13, p13) (by simp)
  exact ok_law (T := [(o6, p6), (o7, p7), (o9, p9), (o13, p13)].map (·.2)) {
    a__law_open := f0, d__law_open := _, c__law_open := cd0,
    F__law_open := funC_mk (st := s__law_open) l0 c0 k0, g__law_open := PySem.W.mg_of X G a0, b__law_open := (fun_mk (st := s__law_open) l0 c0 k0).binds (ps := ["script"]) (fun _ _ _ _ _ _ us hl => match us, hl with | [_], _ => rfl),
    a__law_mixed := f1, d__law_mixed := _, c__law_mixed := cd1,
    F__law_mixed := funC_mk (st := s__law_mixed) l1 c1 k1, g__law_mixed := PySem.W.mg_of X G a1, b__law_mixed := (fun_mk (st := s__law_mixed) l1 c1 k1).binds (ps := ["cell", "turn"]) (fun _ _ _ _ _ _ us hl => match us, hl with | [_, _], _ => rfl),
    a__law_draw := f2, d__law_draw := _, c__law_draw := cd2,
    F__law_draw := funC_mk (st := s__law_draw) l2 c2 k2, g__law_draw := PySem.W.mg_of X G a2, b__law_draw := (fun_mk (st := s__law_draw) l2 c2 k2).binds (ps := ["draws", "size"]) (fun _ _ _ _ _ _ us hl => match us, hl with | [_, _], _ => rfl),
    a__law_vector := f3, d__law_vector := _, c__law_vector := cd3,
    F__law_vector := funC_mk (st := s__law_vector) l3 c3 k3, g__law_vector := PySem.W.mg_of X G a3, b__law_vector := (fun_mk (st := s__law_vector) l3 c3 k3).binds (ps := ["draws", "most"]) (fun _ _ _ _ _ _ us hl => match us, hl with | [_, _], _ => rfl),
    a__law_number := f4, d__law_number := _, c__law_number := cd4,
    F__law_number := funC_mk (st := s__law_number) l4 c4 k4, g__law_number := PySem.W.mg_of X G a4, b__law_number := (fun_mk (st := s__law_number) l4 c4 k4).binds (ps := ["vector", "node"]) (fun _ _ _ _ _ _ us hl => match us, hl with | [_, _], _ => rfl),
    a__law_join := f5, d__law_join := _, c__law_join := cd5,
    F__law_join := funC_mk (st := s__law_join) l5 c5 k5, g__law_join := PySem.W.mg_of X G a5, b__law_join := (fun_mk (st := s__law_join) l5 c5 k5).binds (ps := ["one", "other"]) (fun _ _ _ _ _ _ us hl => match us, hl with | [_, _], _ => rfl),
    a_is_name := f6, d_is_name := _, c_is_name := cd6,
    o_is_name := o6, p_is_name := p6, e_is_name := e6, B_is_name := tb6, T_is_name := by simp,
    F_is_name := funC_mk (st := s_is_name) l6 c6 k6, g_is_name := PySem.W.mg_of X G a6, b_is_name := (fun_mk (st := s_is_name) l6 c6 k6).binds (ps := ["value"]) (fun _ _ _ _ _ _ us hl => match us, hl with | [_], _ => rfl),
    a_is_names := f7, d_is_names := _, c_is_names := cd7,
    o_is_names := o7, p_is_names := p7, e_is_names := e7, B_is_names := tb7, T_is_names := by simp,
    F_is_names := funC_mk (st := s_is_names) l7 c7 k7, g_is_names := PySem.W.mg_of X G a7, b_is_names := (fun_mk (st := s_is_names) l7 c7 k7).binds (ps := ["value", "least", "most"]) (fun _ _ _ _ _ _ us hl => match us, hl with | [_, _, _], _ => rfl),
    a_is_number := f8, d_is_number := _, c_is_number := cd8,
    F_is_number := funC_mk (st := s_is_number) l8 c8 k8, g_is_number := PySem.W.mg_of X G a8, b_is_number := (fun_mk (st := s_is_number) l8 c8 k8).binds (ps := ["value", "least", "most"]) (fun _ _ _ _ _ _ us hl => match us, hl with | [_, _, _], _ => rfl),
    a_is_vector := f9, d_is_vector := _, c_is_vector := cd9,
    o_is_vector := o9, p_is_vector := p9, e_is_vector := e9, B_is_vector := tb9, T_is_vector := by simp,
    F_is_vector := funC_mk (st := s_is_vector) l9 c9 k9, g_is_vector := PySem.W.mg_of X G a9, b_is_vector := (fun_mk (st := s_is_vector) l9 c9 k9).binds (ps := ["value"]) (fun _ _ _ _ _ _ us hl => match us, hl with | [_], _ => rfl),
    a__law_wrong := f10, d__law_wrong := _, c__law_wrong := cd10,
    F__law_wrong := funC_mk (st := s__law_wrong) l10 c10 k10, g__law_wrong := PySem.W.mg_of X G a10, b__law_wrong := (fun_mk (st := s__law_wrong) l10 c10 k10).binds (ps := ["vector"]) (fun _ _ _ _ _ _ us hl => match us, hl with | [_], _ => rfl),
    a_join := f11, d_join := _, c_join := cd11,
    F_join := funC_mk (st := s_join) l11 c11 k11, g_join := PySem.W.mg_of X G a11, b_join := (fun_mk (st := s_join) l11 c11 k11).binds (ps := ["one", "other"]) (fun _ _ _ _ _ _ us hl => match us, hl with | [_, _], _ => rfl),
    a_number_of := f12, d_number_of := _, c_number_of := cd12,
    F_number_of := funC_mk (st := s_number_of) l12 c12 k12, g_number_of := PySem.W.mg_of X G a12, b_number_of := (fun_mk (st := s_number_of) l12 c12 k12).binds (ps := ["vector", "node"]) (fun _ _ _ _ _ _ us hl => match us, hl with | [_, _], _ => rfl),
    a_at_most := f13, d_at_most := _, c_at_most := cd13,
    o_at_most := o13, p_at_most := p13, e_at_most := e13, B_at_most := tb13, T_at_most := by simp,
    F_at_most := funC_mk (st := s_at_most) l13 c13 k13, g_at_most := PySem.W.mg_of X G a13, b_at_most := (fun_mk (st := s_at_most) l13 c13 k13).binds (ps := ["one", "other"]) (fun _ _ _ _ _ _ us hl => match us, hl with | [_, _], _ => rfl),
    a_raised := f14, d_raised := _, c_raised := cd14,
    F_raised := funC_mk (st := s_raised) l14 c14 k14, g_raised := PySem.W.mg_of X G a14, b_raised := (fun_mk (st := s_raised) l14 c14 k14).binds (ps := ["vector", "node", "number"]) (fun _ _ _ _ _ _ us hl => match us, hl with | [_, _, _], _ => rfl),
    a__law_int := f15, d__law_int := _, c__law_int := cd15,
    F__law_int := funC_mk (st := s__law_int) l15 c15 k15, g__law_int := PySem.W.mg_of X G a15, b__law_int := (fun_mk (st := s__law_int) l15 c15 k15).binds (ps := ["value"]) (fun _ _ _ _ _ _ us hl => match us, hl with | [_], _ => rfl),
    a__law_at_most := f16, d__law_at_most := _, c__law_at_most := cd16,
    F__law_at_most := funC_mk (st := s__law_at_most) l16 c16 k16, g__law_at_most := PySem.W.mg_of X G a16, b__law_at_most := (fun_mk (st := s__law_at_most) l16 c16 k16).binds (ps := ["one", "other"]) (fun _ _ _ _ _ _ us hl => match us, hl with | [_, _], _ => rfl),
    a__law_same := f17, d__law_same := _, c__law_same := cd17,
    F__law_same := funC_mk (st := s__law_same) l17 c17 k17, g__law_same := PySem.W.mg_of X G a17, b__law_same := (fun_mk (st := s__law_same) l17 c17 k17).binds (ps := ["told", "due"]) (fun _ _ _ _ _ _ us hl => match us, hl with | [_, _], _ => rfl),
    a_compare := f18, d_compare := _, c_compare := cd18,
    F_compare := funC_mk (st := s_compare) l18 c18 k18, g_compare := PySem.W.mg_of X G a18, b_compare := (fun_mk (st := s_compare) l18 c18 k18).binds (ps := ["one", "other"]) (fun _ _ _ _ _ _ us hl => match us, hl with | [_, _], _ => rfl),
    a_law := fa, d_law := _, c_law := cd19,
    F_law := funC_mk (st := s_law) l19 c19 k19, g_law := PySem.W.mg_of X G a19, b_law := (fun_mk (st := s_law) l19 c19 k19).binds (ps := ["script"]) (fun _ _ _ _ _ _ us hl => match us, hl with | [_], _ => rfl),
    n_abs := PySem.W.mg_none_of X G z0,
    n_all := PySem.W.mg_none_of X G z1,
    n_bool := PySem.W.mg_none_of X G z2,
    n_dict := PySem.W.mg_none_of X G z3,
    n_int := PySem.W.mg_none_of X G z4,
    n_isinstance := PySem.W.mg_none_of X G z5,
    n_len := PySem.W.mg_none_of X G z6,
    n_list := PySem.W.mg_none_of X G z7,
    n_max := PySem.W.mg_none_of X G z8,
    n_range := PySem.W.mg_none_of X G z9,
    n_sorted := PySem.W.mg_none_of X G z10,
    n_str := PySem.W.mg_none_of X G z11,
    n_sum := PySem.W.mg_none_of X G z12,
    n_tuple := PySem.W.mg_none_of X G z13,
    k_MOST_NODES := y0, m_MOST_NODES := PySem.W.mg_of X G x0,
    k_MOST_NUMBER := y1, m_MOST_NUMBER := PySem.W.mg_of X G x1 }
end Pu
open PySem PySem.W PyProof.Rows
set_option maxHeartbeats 0 in
theorem PySem.Challenge.cw_happenedfirst_k57_vectors_holds : PySem.Challenge.rw_happenedfirst_k57_vectors.Holds := by
  w_on; o_law; k_head; (case hw => w_witness2)
  k_fill
  refine Pu.walk_ofTop (l := PySem.Challenge.rw_happenedfirst_k57_vectors) (n := 63) (k := 7) (x := "script") rfl (by decide) rfl ⟨rfl, by decide, by decide⟩ (fun w h Y => PySem.W.kIn_of Y) ?F
  case F =>
    intro w mg mb mean fa h Y KX Tp G hmg
    refine' Pu.law_end KX Tp G hmg Pu.law_true ?a0 ?l0 ?c0 ?k0 ?a1 ?l1 ?c1 ?k1 ?a2 ?l2 ?c2 ?k2 ?a3 ?l3 ?c3 ?k3 ?a4 ?l4 ?c4 ?k4 ?a5 ?l5 ?c5 ?k5 ?a6 ?l6 ?c6 ?k6 ?a7 ?l7 ?c7 ?k7 ?a8 ?l8 ?c8 ?k8 ?a9 ?l9 ?c9 ?k9 ?a10 ?l10 ?c10 ?k10 ?a11 ?l11 ?c11 ?k11 ?a12 ?l12 ?c12 ?k12 ?a13 ?l13 ?c13 ?k13 ?a14 ?l14 ?c14 ?k14 ?a15 ?l15 ?c15 ?k15 ?a16 ?l16 ?c16 ?k16 ?a17 ?l17 ?c17 ?k17 ?a18 ?l18 ?c18 ?k18 ?a19 ?l19 ?c19 ?k19 ?t6 ?q6 ?t7 ?q7 ?t9 ?q9 ?t13 ?q13 ?z0 ?z1 ?z2 ?z3 ?z4 ?z5 ?z6 ?z7 ?z8 ?z9 ?z10 ?z11 ?z12 ?z13 ?x0 ?x1
    (case a0 => k_is)
    (case l0 => k_is)
    (case c0 => k_is)
    (case k0 => k_is)
    (case a1 => k_is)
    (case l1 => k_is)
    (case c1 => k_is)
    (case k1 => k_is)
    (case a2 => k_is)
    (case l2 => k_is)
    (case c2 => k_is)
    (case k2 => k_is)
    (case a3 => k_is)
    (case l3 => k_is)
    (case c3 => k_is)
    (case k3 => k_is)
    (case a4 => k_is)
    (case l4 => k_is)
    (case c4 => k_is)
    (case k4 => k_is)
    (case a5 => k_is)
    (case l5 => k_is)
    (case c5 => k_is)
    (case k5 => k_is)
    (case a6 => k_is)
    (case l6 => k_is)
    (case c6 => k_is)
    (case k6 => k_is)
    (case a7 => k_is)
    (case l7 => k_is)
    (case c7 => k_is)
    (case k7 => k_is)
    (case a8 => k_is)
    (case l8 => k_is)
    (case c8 => k_is)
    (case k8 => k_is)
    (case a9 => k_is)
    (case l9 => k_is)
    (case c9 => k_is)
    (case k9 => k_is)
    (case a10 => k_is)
    (case l10 => k_is)
    (case c10 => k_is)
    (case k10 => k_is)
    (case a11 => k_is)
    (case l11 => k_is)
    (case c11 => k_is)
    (case k11 => k_is)
    (case a12 => k_is)
    (case l12 => k_is)
    (case c12 => k_is)
    (case k12 => k_is)
    (case a13 => k_is)
    (case l13 => k_is)
    (case c13 => k_is)
    (case k13 => k_is)
    (case a14 => k_is)
    (case l14 => k_is)
    (case c14 => k_is)
    (case k14 => k_is)
    (case a15 => k_is)
    (case l15 => k_is)
    (case c15 => k_is)
    (case k15 => k_is)
    (case a16 => k_is)
    (case l16 => k_is)
    (case c16 => k_is)
    (case k16 => k_is)
    (case a17 => k_is)
    (case l17 => k_is)
    (case c17 => k_is)
    (case k17 => k_is)
    (case a18 => k_is)
    (case l18 => k_is)
    (case c18 => k_is)
    (case k18 => k_is)
    (case a19 => k_is)
    (case l19 => k_is)
    (case c19 => k_is)
    (case k19 => k_is)
    (case t6 => kernel_rfl)
    (case q6 => kernel_rfl)
    (case t7 => kernel_rfl)
    (case q7 => kernel_rfl)
    (case t9 => kernel_rfl)
    (case q9 => kernel_rfl)
    (case t13 => kernel_rfl)
    (case q13 => kernel_rfl)
    (case z0 => k_is)
    (case z1 => k_is)
    (case z2 => k_is)
    (case z3 => k_is)
    (case z4 => k_is)
    (case z5 => k_is)
    (case z6 => k_is)
    (case z7 => k_is)
    (case z8 => k_is)
    (case z9 => k_is)
    (case z10 => k_is)
    (case z11 => k_is)
    (case z12 => k_is)
    (case z13 => k_is)
    (case x0 => k_is)
    (case x1 => k_is)
end G57_end_part
