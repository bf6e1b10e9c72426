import PyProof.Rows.All
import Wide.All
import OpenK.AllK
import Wide.FinOn
import HandS.ForMost
import HandS.ForExc
import HandS.Wide
import HandS.Defaults
import HandS.Style
import HandS.Deep
import HandS.SortInts
import HandS.TupAny
import HandS.IsInst
import HandS.Conv
import HandS.HeadEnd
import HandS.Head0
import HandS.Head1
import HandS.Head2
import HandS.HeadHook1
import HandS.HeadHook2
import KE.KRevSl
import HandS.SortRule
import HandS.TryOnly
import KE.SortData
import HandS.TupSets
import HandS.Small
import HandS.Star
import HandS.WideBits
import HandS.Iter
import PySem.Challenge.RW_sureturns_k09_points_moved_far
set_option Elab.async false
set_option linter.all false
set_option maxRecDepth 100000
set_option maxHeartbeats 0
set_option autoImplicit false
namespace T3
open PySem PySem.Spec PyProof.Rows L2
abbrev Sl := L2.St
abbrev D := PyData
abbrev Fg := PySem.W.Frag
def kD : Key → D
  | .inl i => .int i
  | .inr x => .str x
/-- the mark of a dict whose keys are tuples -/
def mkT : D × D := (.none, .none)
/-- a tuple that is a key -/
def kT (k : List Key) : D := .tuple (k.map kD)
mutual
inductive Rep (K : Fg) (A : Hp) : V → D → Prop
  | non : Rep K A .non .none
  | bl (b : Bool) : Rep K A (.bl b) (.bool b)
  | int (i : Int) : Rep K A (.int i) (.int i)
  | str (x : Str) : Rep K A (.str x) (.str x)
  | lst {a : Addr} {xs : List V} {ds : List D} : SqL K A a xs → Reps K A xs ds → Rep K A (.ref a) (.list ds)
  | tup {a : Addr} {xs : List V} {ds : List D} : A a = some (.tup xs) → Reps K A xs ds → Rep K A (.ref a) (.tuple ds)
  | dic {a : Addr} {kvs : List (Key × V)} {ds : List D} : Rd A a (.dK kvs) → Reps K A (kvs.map (·.2)) ds → Rep K A (.ref a) (.dict ((kvs.map fun p => kD p.1).zip ds))
  | dicT {a : Addr} {kvs : List (List Key × V)} {ds : List D} : A a = some (.dT kvs) → Reps K A (kvs.map (·.2)) ds → Rep K A (.ref a) (.dict (mkT :: (kvs.map fun p => kT p.1).zip ds))
inductive Reps (K : Fg) (A : Hp) : List V → List D → Prop
  | nil : Reps K A [] []
  | cons {v : V} {vs : List V} {d : D} {ds : List D} : Rep K A v d → Reps K A vs ds → Reps K A (v :: vs) (d :: ds)
end
theorem sameRd {H H' : Hp} {a : Addr} {u : HO} (e : Same H H') (h : Rd H a u) : Rd H' a u := by
  rcases h with h | ⟨o, h⟩
  · exact .inl (e _ _ h)
  · exact .inr ⟨o, e _ _ h⟩
section
variable {K : Fg} {A A' : Hp}
theorem Reps.same (e : Same A A') {vs : List V} {ds : List D} (h : Reps K A vs ds) : Reps K A' vs ds :=
  Reps.rec (motive_1 := fun v d _ => Rep K A' v d) (motive_2 := fun vs ds _ => Reps K A' vs ds)
    .non .bl .int .str (fun s _ ih => .lst (e.seq s) ih) (fun s _ ih => .tup (e _ _ s) ih) (fun s _ ih => .dic (sameRd e s) ih) (fun s _ ih => .dicT (e _ _ s) ih) .nil (fun _ _ i1 i2 => .cons i1 i2) h
theorem Rep.same (e : Same A A') {v : V} {d : D} (h : Rep K A v d) : Rep K A' v d :=
  Rep.rec (motive_1 := fun v d _ => Rep K A' v d) (motive_2 := fun vs ds _ => Reps K A' vs ds)
    .non .bl .int .str (fun s _ ih => .lst (e.seq s) ih) (fun s _ ih => .tup (e _ _ s) ih) (fun s _ ih => .dic (sameRd e s) ih) (fun s _ ih => .dicT (e _ _ s) ih) .nil (fun _ _ i1 i2 => .cons i1 i2) h
theorem Reps.length {vs : List V} {ds : List D} (h : Reps K A vs ds) : vs.length = ds.length := by
  induction ds generalizing vs with
  | nil => cases h; rfl
  | cons d ds ih => cases h with | cons _ h2 => exact congrArg Nat.succ (ih h2)
theorem Reps.get {vs : List V} {ds : List D} {i : Nat} {d : D} (h : Reps K A vs ds) (e : ds[i]? = some d) : ∃ v, vs[i]? = some v ∧ Rep K A v d := by
  induction ds generalizing vs i with
  | nil => simp at e
  | cons d' ds ih =>
    cases h with
    | cons h1 h2 =>
      cases i with
      | zero => simp at e; subst e; exact ⟨_, rfl, h1⟩
      | succ i => obtain ⟨v, a, b⟩ := ih h2 (by simpa using e); exact ⟨v, by simpa using a, b⟩
theorem Reps.append {vs ws : List V} {ds es : List D} (h : Reps K A vs ds) (g : Reps K A ws es) : Reps K A (vs ++ ws) (ds ++ es) := by
  induction ds generalizing vs with
  | nil => cases h; exact g
  | cons d ds ih => cases h with | cons a b => exact .cons a (ih b)
theorem Reps.take {vs : List V} {ds : List D} (h : Reps K A vs ds) (n : Nat) : Reps K A (vs.take n) (ds.take n) := by
  induction ds generalizing vs n with
  | nil => cases h; simp; exact .nil
  | cons d ds ih =>
    cases h with
    | cons a b =>
      cases n with
      | zero => simp; exact .nil
      | succ n => simp only [List.take_succ_cons]; exact .cons a (ih b n)
theorem Reps.drop {vs : List V} {ds : List D} (h : Reps K A vs ds) (n : Nat) : Reps K A (vs.drop n) (ds.drop n) := by
  induction ds generalizing vs n with
  | nil => cases h; simp; exact .nil
  | cons d ds ih =>
    cases h with
    | cons a b =>
      cases n with
      | zero => simp; exact .cons a b
      | succ n => simp only [List.drop_succ_cons]; exact ih b n
theorem Reps.set {vs : List V} {ds : List D} {v : V} {d : D} (h : Reps K A vs ds) (r : Rep K A v d) (n : Nat) : Reps K A (vs.set n v) (ds.set n d) := by
  induction ds generalizing vs n with
  | nil => cases h; simp; exact .nil
  | cons d' ds ih =>
    cases h with
    | cons a b =>
      cases n with
      | zero => simp only [List.set_cons_zero]; exact .cons r b
      | succ n => simp only [List.set_cons_succ]; exact .cons a (ih b n)
theorem Reps.reverse {vs : List V} {ds : List D} (h : Reps K A vs ds) : Reps K A vs.reverse ds.reverse := by
  induction ds generalizing vs with
  | nil => cases h; simp; exact .nil
  | cons d ds ih =>
    cases h with
    | cons a b => simp only [List.reverse_cons]; exact (ih b).append (.cons a .nil)
theorem Reps.eraseIdx {vs : List V} {ds : List D} (h : Reps K A vs ds) (n : Nat) : Reps K A (vs.eraseIdx n) (ds.eraseIdx n) := by
  induction ds generalizing vs n with
  | nil => cases h; simp; exact .nil
  | cons d' ds ih =>
    cases h with
    | cons a b =>
      cases n with
      | zero => simp only [List.eraseIdx_cons_zero]; exact b
      | succ n => simp only [List.eraseIdx_cons_succ]; exact .cons a (ih b n)
theorem Reps.ints (ns : List Int) : Reps K A (ns.map V.int) (ns.map PyData.int) := by
  induction ns with
  | nil => exact .nil
  | cons n ns ih => exact .cons (.int n) ih
theorem Reps.flat_ints {vs : List V} {ns : List Int} (h : Reps K A vs (ns.map PyData.int)) : vs = ns.map V.int := by
  induction ns generalizing vs with
  | nil => cases h; rfl
  | cons n ns ih =>
    cases h with
    | cons a b => cases a; exact congrArg _ (ih b)
end
inductive Cell where
  | no | v (d : D) | own (d : D) | par (d : D) | raw (v : V)
inductive Op where
  | val (d : D) | slot (i : Nat) | new (d : D) | raw (v : V)
abbrev En := List Cell
inductive Out (S α : Type) where
  | ok (a : α) (s : S) | exc (n : Str) (s : S) | bad
@[simp] def Out.bind {S α β : Type} (m : Out S α) (k : α → S → Out S β) : Out S β := match m with
  | .ok a s => k a s
  | .exc n s => .exc n s
  | .bad => .bad
inductive Fl where
  | nx | rt (o : Op) | bk | ct
abbrev Ex := En → Out En Op
abbrev Tx := En → Out En Bool
abbrev Sx := En → Out En Fl
abbrev Ax := En → Out En (List Op)
abbrev Fn := List D → Out (List D) Op
/-- a list (or a dict) that is its slot's alone -/
def Bod (K : Fg) (A H : Hp) (p : Addr) : D → Prop
  | .list ds => ∃ vs, H p = some (.lst vs) ∧ Reps K A vs ds
  | .dict es => (∃ kvs ds, H p = some (.dK kvs) ∧ Reps K A (kvs.map (·.2)) ds ∧ es = (kvs.map fun q => kD q.1).zip ds) ∨ ∃ kvs ds, H p = some (.dT kvs) ∧ Reps K A (kvs.map (·.2)) ds ∧ es = mkT :: (kvs.map fun q => kT q.1).zip ds
  | _ => False
theorem Bod.mut {K : Fg} {A H : Hp} {p : Addr} {d : D} (h : Bod K A H p d) : ∃ o, H p = some o := by
  cases d <;> first | exact False.elim h | skip
  · obtain ⟨vs, e, _⟩ := h; exact ⟨_, e⟩
  · rcases h with ⟨kvs, ds, e, _⟩ | ⟨kvs, ds, e, _⟩ <;> exact ⟨_, e⟩
theorem Bod.lstdic {K : Fg} {A H : Hp} {p : Addr} {d : D} (h : Bod K A H p d) {o : HO} (e : H p = some o) : (∃ xs, o = .lst xs) ∨ (∃ kvs, o = .dK kvs) ∨ ∃ kvs, o = .dT kvs := by
  cases d <;> first | exact False.elim h | skip
  · obtain ⟨vs, e', _⟩ := h; rw [e] at e'; cases e'; exact .inl ⟨_, rfl⟩
  · rcases h with ⟨kvs, ds, e', _⟩ | ⟨kvs, ds, e', _⟩ <;> rw [e] at e' <;> cases e'
    · exact .inr (.inl ⟨_, rfl⟩)
    · exact .inr (.inr ⟨_, rfl⟩)
theorem Bod.move {K : Fg} {A A' H H' : Hp} {p : Addr} {d : D} (h : Bod K A H p d) (e : Same A A') (k : H' p = H p) : Bod K A' H' p d := by
  cases d <;> first | exact False.elim h | skip
  · obtain ⟨vs, a, b⟩ := h; exact ⟨vs, k.trans a, b.same e⟩
  · rcases h with ⟨kvs, ds, a, b, c⟩ | ⟨kvs, ds, a, b, c⟩
    · exact .inl ⟨kvs, ds, k.trans a, b.same e, c⟩
    · exact .inr ⟨kvs, ds, k.trans a, b.same e, c⟩
/-- frozen where it stands -/
theorem Bod.rep {K : Fg} {A A' H : Hp} {p : Addr} {d : D} (h : Bod K A H p d) (e : Same A A') (k : A' p = H p) : Rep K A' (.ref p) d := by
  cases d <;> first | exact False.elim h | skip
  · obtain ⟨vs, a, b⟩ := h; exact .lst (.inl (.inl (k.trans a))) (b.same e)
  · rcases h with ⟨kvs, ds, a, b, c⟩ | ⟨kvs, ds, a, b, c⟩ <;> subst c
    · exact .dic (.inl (k.trans a)) (b.same e)
    · exact .dicT (k.trans a) (b.same e)
/-- the mark of a parameter that the caller lends: it stays at its address -/
def mkP (i : Nat) : HO := .tbl #[.int i 0]
theorem mkP_inj {i j : Nat} (h : mkP i = mkP j) : i = j := by
  unfold mkP at h
  injection h with h
  have h2 := congrArg (fun a : Array Value => a.toList) h
  simp at h2
  omega
theorem Bod.notmk {K : Fg} {A H : Hp} {p : Addr} {d : D} (h : Bod K A H p d) {o : HO} (e : H p = some o) : ∀ i, o ≠ mkP i := fun i z => by
  subst z
  rcases h.lstdic e with ⟨_, z⟩ | ⟨_, z⟩ | ⟨_, z⟩ <;> cases z
def SubF (F H : Hp) : Prop := ∀ b o, F b = some o → H b = some o ∨ ((∃ i, o = mkP i) ∧ ∃ u, H b = some u)
theorem SubF.free {F H : Hp} (s : SubF F H) {b : Addr} (h : H b = none) : F b = none := by
  cases e : F b with
  | none => rfl
  | some o =>
    rcases s b o e with q | ⟨_, u, q⟩
    · rw [h] at q; cases q
    · rw [h] at q; cases q
theorem SubF.there {F H : Hp} (s : SubF F H) {b : Addr} (h : (F b).isSome) : (H b).isSome := by
  obtain ⟨o, ho⟩ := Option.isSome_iff_exists.mp h
  rcases s b o ho with q | ⟨_, u, q⟩
  · rw [q]; rfl
  · rw [q]; rfl
theorem SubF.trans {F H H' : Hp} (s : SubF F H) (e : Same H H') : SubF F H' := fun b o h => by
  rcases s b o h with q | ⟨a, u, q⟩
  · exact .inl (e _ _ q)
  · exact .inr ⟨a, u, e _ _ q⟩
theorem SubF.lst {F H : Hp} (s : SubF F H) {b : Addr} {o : HO} (h : F b = some o) (n : ∀ i, o ≠ mkP i) : H b = some o := by
  rcases s b o h with q | ⟨⟨i, a⟩, _⟩
  · exact q
  · exact absurd a (n i)
structure Low (F F' : Hp) : Prop where
  same : Same F F'
  back : ∀ b i, F' b = some (mkP i) → F b = some (mkP i)
theorem Low.refl (F : Hp) : Low F F := ⟨Same.refl F, fun _ _ h => h⟩
theorem low_upd {F : Hp} {p : Addr} {o : HO} (n : F p = none) (h : ∀ i, o ≠ mkP i) : Low F (upd F p o) := ⟨fun b u e => by rw [upd_ne (ne_of_none e n)]; exact e, fun b i e => by
  by_cases hb : b = p
  · subst hb; rw [upd_same] at e; exact absurd (Option.some.inj e) (h i)
  · rw [upd_ne hb] at e; exact e⟩
theorem lst_mk {xs : List V} : ∀ i, (HO.lst xs) ≠ mkP i := fun i h => nomatch h
def CellOk (K : Fg) (F A H : Hp) (i : Nat) (sv : Option (Option V)) : Cell → Prop
  | .no => True
  | .v d => ∃ v, sv = some (some v) ∧ Rep K A v d
  | .own d => ∃ p, sv = some (some (.ref p)) ∧ A p = none ∧ F p = none ∧ Bod K A H p d
  | .par d => ∃ p, sv = some (some (.ref p)) ∧ A p = none ∧ F p = some (mkP i) ∧ Bod K A H p d
  | .raw v => sv = some (some v)
structure SOk (K : Fg) (F : Hp) (σ : Sl) (env : En) (H A : Hp) : Prop where
  subA : Same A H
  subF : SubF F H
  cell : ∀ i, CellOk K F A H i σ[i]? (env.getD i .no)
  apart : ∀ i j d e p, env.getD i .no = .own d → env.getD j .no = .own e → σ[i]? = some (some (.ref p)) → σ[j]? = some (some (.ref p)) → i = j
  lens : env.length = σ.length
  nomk : ∀ b i, H b ≠ some (mkP i)
def Grow (F A A' : Hp) : Prop := Same A A' ∧ ∀ b, (F b).isSome → A' b = A b
theorem Grow.refl {F A : Hp} : Grow F A A := ⟨Same.refl A, fun _ _ => rfl⟩
theorem Grow.trans {F A B C : Hp} (h : Grow F A B) (g : Grow F B C) : Grow F A C := ⟨h.1.trans g.1, fun b s => (g.2 b s).trans (h.2 b s)⟩
theorem Grow.mono {F F' A B : Hp} (h : Grow F' A B) (e : Low F F') : Grow F A B := ⟨h.1, fun b s => h.2 b (by
  obtain ⟨o, ho⟩ := Option.isSome_iff_exists.mp s
  rw [e.same b o ho]; rfl)⟩
def OpOk (K : Fg) (F A H : Hp) (σ : Sl) (env : En) (v : V) : Op → Prop
  | .val d => Rep K A v d
  | .slot i => σ[i]? = some (some v)
  | .new d => ∃ p, v = .ref p ∧ A p = none ∧ F p = none ∧ Bod K A H p d ∧ ∀ j e, env.getD j .no = .own e → σ[j]? ≠ some (some (.ref p))
  | .raw w => v = w
section
variable {K : Fg} {F A H A' H' : Hp} {σ : Sl} {env : En}
theorem SOk.parA (S : SOk K F σ env H A) {i : Nat} {d : D} (e : env.getD i .no = .par d) : ∃ p, σ[i]? = some (some (.ref p)) ∧ A p = none ∧ F p = some (mkP i) ∧ Bod K A H p d := by
  have h := S.cell i
  rw [e] at h
  exact h
theorem SOk.ownA (S : SOk K F σ env H A) {i : Nat} {d : D} (e : env.getD i .no = .own d) : ∃ p, σ[i]? = some (some (.ref p)) ∧ A p = none ∧ F p = none ∧ Bod K A H p d := by
  have h := S.cell i
  rw [e] at h
  exact h
theorem SOk.weakF {F' : Hp} (S : SOk K F' σ env H A) (e : Low F F') : SOk K F σ env H A where
  subA := S.subA
  subF := fun b o h => S.subF b o (e.same b o h)
  apart := S.apart
  lens := S.lens
  nomk := S.nomk
  cell := fun i => by
    have h := S.cell i
    generalize env.getD i .no = c at h
    cases c with
    | own d => obtain ⟨p, a, b, c, d⟩ := h; exact ⟨p, a, b, e.same.free c, d⟩
    | par d => obtain ⟨p, a, b, c, d⟩ := h; exact ⟨p, a, b, e.back _ _ c, d⟩
    | no => exact h
    | v d => exact h
    | raw v => exact h
/-- nothing but new things -/
structure Ext (A H A' H' : Hp) : Prop where
  hh : Same H H'
  sub : Same A' H'
  aa : Same A A'
  old : ∀ b, (H b).isSome → A' b = A b
  unmk : ∀ b i, H' b = some (mkP i) → H b = some (mkP i)
theorem Ext.refl (h : Same A H) : Ext A H A H := ⟨Same.refl H, h, Same.refl A, fun _ _ => rfl, fun _ _ z => z⟩
theorem Ext.trans {A2 H2 : Hp} (x : Ext A H A' H') (y : Ext A' H' A2 H2) : Ext A H A2 H2 := ⟨x.hh.trans y.hh, y.sub, x.aa.trans y.aa, fun b s => (y.old b (by
  obtain ⟨o, ho⟩ := Option.isSome_iff_exists.mp s
  rw [x.hh b o ho]; rfl)).trans (x.old b s), fun b i z => x.unmk b i (y.unmk b i z)⟩
theorem Ext.grow (x : Ext A H A' H') (e : SubF F H) : Grow F A A' := ⟨x.aa, fun b s => x.old b (e.there s)⟩
theorem SOk.ext (S : SOk K F σ env H A) (x : Ext A H A' H') : SOk K F σ env H' A' where
  subA := x.sub
  subF := S.subF.trans x.hh
  apart := S.apart
  lens := S.lens
  nomk := fun b i z => S.nomk b i (x.unmk b i z)
  cell := fun i => by
    have h := S.cell i
    generalize env.getD i .no = c at h
    cases c with
    | own d =>
      obtain ⟨p, a, b, c, d⟩ := h
      obtain ⟨o, ho⟩ := d.mut
      exact ⟨p, a, (x.old p (by rw [ho]; rfl)).trans b, c, d.move x.aa (by rw [ho]; exact x.hh p o ho)⟩
    | par d =>
      obtain ⟨p, a, b, c, d⟩ := h
      obtain ⟨o, ho⟩ := d.mut
      exact ⟨p, a, (x.old p (by rw [ho]; rfl)).trans b, c, d.move x.aa (by rw [ho]; exact x.hh p o ho)⟩
    | no => exact h
    | v d => obtain ⟨v, a, b⟩ := h; exact ⟨v, a, b.same x.aa⟩
    | raw v => exact h
theorem mk_upd {H : Hp} {p : Addr} {o : HO} (hm : ∀ i, o ≠ mkP i) (b : Addr) (i : Nat) (z : upd H p o b = some (mkP i)) : H b = some (mkP i) := by
  by_cases hb : b = p
  · subst hb; rw [upd_same] at z; exact absurd (Option.some.inj z) (hm i)
  · rw [upd_ne hb] at z; exact z
theorem ext_frozen (h : Same A H) {p : Addr} {o : HO} (n : H p = none) (hm : ∀ i, o ≠ mkP i := by intro i h; cases h) : Ext A H (upd A p o) (upd H p o) where
  hh := fun b u e => by rw [upd_ne (ne_of_none e n)]; exact e
  sub := fun b u e => by
    by_cases hb : b = p
    · subst hb; rw [upd_same] at e ⊢; exact e
    · rw [upd_ne hb] at e ⊢; exact h b u e
  aa := fun b u e => by rw [upd_ne (ne_of_none (h b u e) n)]; exact e
  old := fun b s => by
    obtain ⟨u, hu⟩ := Option.isSome_iff_exists.mp s
    rw [upd_ne (ne_of_none hu n)]
  unmk := mk_upd hm
theorem ext_new (h : Same A H) {p : Addr} {o : HO} (n : H p = none) (hm : ∀ i, o ≠ mkP i := by intro i h; cases h) : Ext A H A (upd H p o) where
  hh := fun b u e => by rw [upd_ne (ne_of_none e n)]; exact e
  sub := fun b u e => by rw [upd_ne (ne_of_none (h b u e) n)]; exact h b u e
  aa := Same.refl A
  old := fun _ _ => rfl
  unmk := mk_upd hm
/-- a result that is a value, or a new list -/
def RV (K : Fg) (H A' H' : Hp) (v : V) : Op → Prop
  | .val d => Rep K A' v d
  | .new d => ∃ p, v = .ref p ∧ H p = none ∧ A' p = none ∧ Bod K A' H' p d
  | .raw w => v = w
  | .slot _ => False
def Fin (K : Fg) (A H : Hp) (r : Op) (Q : V → Hp → Prop) : Prop := ∀ v A' H', Ext A H A' H' → RV K H A' H' v r → Q v H'
theorem RV.op {v : V} {r : Op} (S : SOk K F σ env H A) (x : Ext A H A' H') (h : RV K H A' H' v r) : OpOk K F A' H' σ env v r := by
  cases r with
  | val d => exact h
  | raw w => exact h
  | slot i => exact False.elim h
  | new d =>
    obtain ⟨p, a, b, c, d⟩ := h
    refine ⟨p, a, c, S.subF.free b, d, fun j e hj hs => ?_⟩
    obtain ⟨q, e1, e2, e3, e4⟩ := S.ownA hj
    rw [hs] at e1; cases e1
    obtain ⟨o, ho⟩ := e4.mut
    rw [b] at ho; cases ho
/-- what an operand is worth now -/
def res (o : Op) (env : En) : Option D := match o with
  | .val d => some d
  | .new d => some d
  | .slot i => (match env.getD i .no with | .v d => some d | .own d => some d | .par d => some d | _ => none)
  | .raw _ => none
def View (K : Fg) (A H : Hp) (v : V) (d : D) : Prop := Rep K A v d ∨ ∃ p, v = .ref p ∧ A p = none ∧ Bod K A H p d
theorem OpOk.view {v : V} {o : Op} {d : D} (S : SOk K F σ env H A) (h : OpOk K F A H σ env v o) (e : res o env = some d) : View K A H v d := by
  cases o with
  | val d' => cases e; exact .inl h
  | new d' => cases e; obtain ⟨p, a, b, _, c, _⟩ := h; exact .inr ⟨p, a, b, c⟩
  | raw w => cases e
  | slot i =>
    have hc := S.cell i
    have hv : σ[i]? = some (some v) := h
    simp only [res] at e
    cases hh : env.getD i .no with
    | no => rw [hh] at e; cases e
    | raw w => rw [hh] at e; cases e
    | v d' => rw [hh] at e hc; cases e; obtain ⟨v', a, b⟩ := hc; rw [hv] at a; cases a; exact .inl b
    | own d' => rw [hh] at e hc; cases e; obtain ⟨p, a, b, _, c⟩ := hc; rw [hv] at a; cases a; exact .inr ⟨p, rfl, b, c⟩
    | par d' => rw [hh] at e hc; cases e; obtain ⟨p, a, b, _, c⟩ := hc; rw [hv] at a; cases a; exact .inr ⟨p, rfl, b, c⟩
theorem View.lst {v : V} {ds : List D} (h : View K A H v (.list ds)) (s : Same A H) : ∃ p vs, v = .ref p ∧ SqL K H p vs ∧ Reps K A vs ds := by
  rcases h with h | ⟨p, e, n, vs, a, b⟩
  · cases h with | lst x y => exact ⟨_, _, rfl, s.seq x, y⟩
  · exact ⟨p, vs, e, .inl (.inl a), b⟩
theorem View.tup {v : V} {ds : List D} (h : View K A H v (.tuple ds)) (s : Same A H) : ∃ p vs, v = .ref p ∧ SqT K H p vs ∧ Reps K A vs ds := by
  rcases h with h | ⟨p, e, n, a⟩
  · cases h with | tup x y => exact ⟨_, _, rfl, .inl (.inl (s _ _ x)), y⟩
  · exact False.elim a
theorem View.int {v : V} {i : Int} (h : View K A H v (.int i)) : v = .int i := by
  rcases h with h | ⟨p, e, n, a⟩
  · cases h; rfl
  · exact False.elim a
theorem View.bool {v : V} {i : Bool} (h : View K A H v (.bool i)) : v = .bl i := by
  rcases h with h | ⟨p, e, n, a⟩
  · cases h; rfl
  · exact False.elim a
theorem View.str {v : V} {i : Str} (h : View K A H v (.str i)) : v = .str i := by
  rcases h with h | ⟨p, e, n, a⟩
  · cases h; rfl
  · exact False.elim a
theorem View.none {v : V} (h : View K A H v .none) : v = .non := by
  rcases h with h | ⟨p, e, n, a⟩
  · cases h; rfl
  · exact False.elim a
theorem View.rep {v : V} {d : D} (h : View K A H v d) (s : Same A H) : Rep K H v d := by
  rcases h with h | ⟨p, e, n, a⟩
  · exact h.same s
  · subst e; exact a.rep s rfl
/-- an operand is held while others are reckoned -/
theorem hold {v : V} {o : Op} (S : SOk K F σ env H A) (h : OpOk K F A H σ env v o) :
    ∃ F1, Low F F1 ∧ SOk K F1 σ env H A ∧ (∀ d p, o = .new d → v = .ref p → (F1 p).isSome) ∧ ∀ env' H' A', SOk K F1 σ env' H' A' → Grow F1 A A' → OpOk K F A' H' σ env' v o := by
  cases o with
  | val d => exact ⟨F, Low.refl F, S, fun _ _ e => (nomatch e), fun _ _ _ _ g => h.same g.1⟩
  | raw w => exact ⟨F, Low.refl F, S, fun _ _ e => (nomatch e), fun _ _ _ _ _ => h⟩
  | slot i => exact ⟨F, Low.refl F, S, fun _ _ e => (nomatch e), fun _ _ _ _ _ => h⟩
  | new d =>
    obtain ⟨p, e, a, f, b, n⟩ := h
    obtain ⟨o, ho⟩ := b.mut
    have nm := b.notmk ho
    refine ⟨upd F p o, low_upd f nm, ⟨S.subA, fun b u e => ?_, fun i => ?_, S.apart, S.lens, S.nomk⟩, fun d' q _ e' => ?_, fun env' H' A' S' g => ?_⟩
    · by_cases hb : b = p
      · subst hb; rw [upd_same] at e; cases e; exact .inl ho
      · rw [upd_ne hb] at e; exact S.subF b u e
    · have hc := S.cell i
      have hn := n i
      generalize env.getD i .no = c at hc hn
      cases c with
      | no => exact hc
      | raw w => exact hc
      | v d' => exact hc
      | own d' =>
        obtain ⟨q, a1, a2, a3, a4⟩ := hc
        refine ⟨q, a1, a2, ?_, a4⟩
        have : q ≠ p := fun z => by subst z; exact hn d' rfl a1
        rw [upd_ne this]; exact a3
      | par d' =>
        obtain ⟨q, a1, a2, a3, a4⟩ := hc
        have : q ≠ p := fun z => by subst z; rw [f] at a3; cases a3
        exact ⟨q, a1, a2, by rw [upd_ne this]; exact a3, a4⟩
    · subst e; cases e'; rw [upd_same]; rfl
    · have h1 : A' p = none := (g.2 p (by rw [upd_same]; rfl)).trans a
      have h2 : H' p = some o := S'.subF.lst (by rw [upd_same]) nm
      refine ⟨p, e, h1, f, b.move g.1 (h2.trans ho.symm), fun j d' hj hs => ?_⟩
      obtain ⟨q, b1, b2, b3, b4⟩ := S'.ownA hj
      rw [hs] at b1; cases b1
      rw [upd_same] at b3; cases b3
end
def tJ (K : Fg) (mg : Str → Option Value) (E : Sl → XK) (f : Ex) : TE := fun σ H Q => ∃ env A F, SOk K F σ env H A ∧ match f env with
  | .ok o env' => ∀ v H' A', SOk K F σ env' H' A' → Grow F A A' → OpOk K F A' H' σ env' v o → Q v H'
  | .exc n env' => ∀ C H' A', mg n = some (.ref C) → SOk K F σ env' H' A' → Grow F A A' → E σ (.ref C) none H'
  | .bad => False
def tJT (K : Fg) (mg : Str → Option Value) (E : Sl → XK) (f : Tx) : TT := fun σ H Q => ∃ env A F, SOk K F σ env H A ∧ match f env with
  | .ok b env' => ∀ H' A', SOk K F σ env' H' A' → Grow F A A' → Q b H'
  | .exc n env' => ∀ C H' A', mg n = some (.ref C) → SOk K F σ env' H' A' → Grow F A A' → E σ (.ref C) none H'
  | .bad => False
/-- several operands; new ones stand apart -/
def OpsOk (K : Fg) (F A H : Hp) (σ : Sl) (env : En) : List Op → List V → Prop
  | [], vs => vs = []
  | o :: os, vs => ∃ v r, vs = v :: r ∧ OpOk K F A H σ env v o ∧ OpsOk K F A H σ env os r ∧ ∀ d, o = .new d → ∀ (j : Nat) e, os[j]? = some (.new e) → r[j]? ≠ some v
def tJA (K : Fg) (mg : Str → Option Value) (E : Sl → XK) (f : Ax) : TA := fun σ H Q => ∃ env A F, SOk K F σ env H A ∧ match f env with
  | .ok os env' => ∀ vs H' A', SOk K F σ env' H' A' → Grow F A A' → OpsOk K F A' H' σ env' os vs → Q vs H'
  | .exc n env' => ∀ C H' A', mg n = some (.ref C) → SOk K F σ env' H' A' → Grow F A A' → E σ (.ref C) none H'
  | .bad => False
/-- a statement's ways -/
def LS (K : Fg) (mg : Str → Option Value) (E : Sl → XK) (F A : Hp) (Z : Ends) : Out En Fl → Prop
  | .ok .nx env' => ∀ σ' H' A', SOk K F σ' env' H' A' → Grow F A A' → Z.nx σ' H'
  | .ok .bk env' => ∀ σ' H' A', SOk K F σ' env' H' A' → Grow F A A' → Z.bk σ' H'
  | .ok .ct env' => ∀ σ' H' A', SOk K F σ' env' H' A' → Grow F A A' → Z.ct σ' H'
  | .ok (.rt o) env' => ∀ v σ' H' A', SOk K F σ' env' H' A' → Grow F A A' → OpOk K F A' H' σ' env' v o → Z.rt v H'
  | .exc n env' => ∀ C σ' H' A', mg n = some (.ref C) → SOk K F σ' env' H' A' → Grow F A A' → E σ' (.ref C) none H'
  | .bad => False
theorem LS.grow {K : Fg} {mg : Str → Option Value} {E : Sl → XK} {F A A1 : Hp} {Z : Ends} {r : Out En Fl} (h : LS K mg E F A Z r) (g : Grow F A A1) : LS K mg E F A1 Z r := by
  cases r with
  | bad => exact h
  | exc n e => exact fun C σ' H' A' m S' g' => h C σ' H' A' m S' (g.trans g')
  | ok fl e =>
    cases fl with
    | nx => exact fun σ' H' A' S' g' => h σ' H' A' S' (g.trans g')
    | bk => exact fun σ' H' A' S' g' => h σ' H' A' S' (g.trans g')
    | ct => exact fun σ' H' A' S' g' => h σ' H' A' S' (g.trans g')
    | rt o => exact fun v σ' H' A' S' g' => h v σ' H' A' S' (g.trans g')
def tJS (K : Fg) (mg : Str → Option Value) (E : Sl → XK) (f : Sx) : TS := fun Z σ H => ∃ env A F, SOk K F σ env H A ∧ LS K mg E F A Z (f env)
end T3
namespace T3
open PySem PySem.Spec PyProof.Rows L2
theorem impE {X : Cx} {e : Expr} {t t' : TE} (h : PE X e t) (i : ∀ σ H Q, t' σ H Q → t σ H Q) : PE X e t' := ⟨fun p s σ H Q I w => h.run p s σ H Q I (i σ H Q w)⟩
theorem impT {X : Cx} {e : Expr} {t t' : TT} (h : PT X e t) (i : ∀ σ H Q, t' σ H Q → t σ H Q) : PT X e t' := ⟨fun p s σ H Q I w => h.run p s σ H Q I (i σ H Q w)⟩
theorem impW {X : Cx} {e : Expr} {t t' : TT} (h : PW X e t) (i : ∀ σ H Q, t' σ H Q → t σ H Q) : PW X e t' := ⟨fun w p s σ H Q I q => h.run w p s σ H Q I (i σ H Q q)⟩
theorem impA {X : Cx} {es : List Expr} {t t' : TA} (h : PA X es t) (i : ∀ σ H Q, t' σ H Q → t σ H Q) : PA X es t' := ⟨fun o p s σ H Q I w => h.run o p s σ H Q I (i σ H Q w)⟩
theorem impS {X : Cx} {st : Stmt} {t t' : TS} (h : PS X st t) (i : ∀ Z σ H, t' Z σ H → t Z σ H) : PS X st t' := ⟨fun p s σ H Z I w => h.run p s σ H Z I (i Z σ H w)⟩
theorem impB {X : Cx} {st : List Stmt} {t t' : TS} (h : PSs X st t) (i : ∀ Z σ H, t' Z σ H → t Z σ H) : PSs X st t' := ⟨fun p s σ H Z I w => h.run p s σ H Z I (i Z σ H w)⟩
abbrev JP (X : Cx) (E : Sl → XK) (e : Expr) (f : Ex) : Prop := PE X e (tJ X.K X.mg E f)
abbrev JT (X : Cx) (E : Sl → XK) (e : Expr) (f : Tx) : Prop := PT X e (tJT X.K X.mg E f)
abbrev JW (X : Cx) (E : Sl → XK) (e : Expr) (f : Tx) : Prop := PW X e (tJT X.K X.mg E f)
abbrev JA (X : Cx) (E : Sl → XK) (es : List Expr) (f : Ax) : Prop := PA X es (tJA X.K X.mg E f)
abbrev JS (X : Cx) (E : Sl → XK) (st : Stmt) (f : Sx) : Prop := PS X st (tJS X.K X.mg E f)
abbrev JB (X : Cx) (E : Sl → XK) (st : List Stmt) (f : Sx) : Prop := PSs X st (tJS X.K X.mg E f)
def eC (d : D) : Ex := fun env => .ok (.val d) env
def eS (i : Nat) : Ex := fun env => match env.getD i .no with
  | .no => .bad
  | _ => .ok (.slot i) env
section
variable {X : Cx} {E : Sl → XK} {pos : Pos}
theorem tJ_c {K : Fg} {mg : Str → Option Value} {d : D} {v : V} (r : ∀ A, Rep K A v d) {σ H Q} (h : tJ K mg E (eC d) σ H Q) : tC v σ H Q := by
  obtain ⟨env, A, F, S, h⟩ := h
  exact h v H A S Grow.refl (r A)
theorem jp_int {i : Int} {j : Nat} : JP X E (.Constant (.int i) j pos) (eC (.int i)) := impE pe_int fun _ _ _ h => tJ_c (fun _ => .int i) h
theorem jp_bl {b : Bool} {j : Nat} : JP X E (.Constant (.bool b) j pos) (eC (.bool b)) := impE pe_bl fun _ _ _ h => tJ_c (fun _ => .bl b) h
theorem jp_non {j : Nat} : JP X E (.Constant .none j pos) (eC .none) := impE pe_non fun _ _ _ h => tJ_c (fun _ => .non) h
theorem SOk.has {K : Fg} {F A H : Hp} {σ : Sl} {env : En} (S : SOk K F σ env H A) {i : Nat} (h : env.getD i .no ≠ .no) : ∃ v, σ[i]? = some (some v) := by
  have hc := S.cell i
  generalize env.getD i .no = c at hc h
  cases c with
  | no => exact absurd rfl h
  | v d => obtain ⟨v, e, _⟩ := hc; exact ⟨v, e⟩
  | own d => obtain ⟨p, e, _⟩ := hc; exact ⟨_, e⟩
  | par d => obtain ⟨p, e, _⟩ := hc; exact ⟨_, e⟩
  | raw v => exact ⟨v, hc⟩
theorem tJ_s {K : Fg} {mg : Str → Option Value} {i : Nat} {σ H Q} (h : tJ K mg E (eS i) σ H Q) : tVar i σ H Q := by
  obtain ⟨env, A, F, S, h⟩ := h
  unfold eS at h
  have key : env.getD i .no ≠ .no → (∀ v H' A', SOk K F σ env H' A' → Grow F A A' → OpOk K F A' H' σ env v (.slot i) → Q v H') → ∃ v, σ[i]? = some (some v) ∧ Q v H := fun n k => by
    obtain ⟨v, e⟩ := S.has n
    exact ⟨v, e, k v H A S Grow.refl e⟩
  cases hh : env.getD i .no with
  | no => rw [hh] at h; exact h.elim
  | v d => rw [hh] at h key; exact key (fun z => nomatch z) h
  | own d => rw [hh] at h key; exact key (fun z => nomatch z) h
  | par d => rw [hh] at h key; exact key (fun z => nomatch z) h
  | raw v => rw [hh] at h key; exact key (fun z => nomatch z) h
theorem jp_s (i : Nat) {x : Str} (hN : X.N[i]? = some x := by rfl) (hv : Vis X.env.scope x := by first | exact Or.inl rfl | exact Or.inr (Or.inl rfl) | exact Or.inr (Or.inr rfl))
    (hd : (x == ("__debug__" : Str)) = false := by decide) (hc : (x == ("__classdict__" : Str)) = false := by decide) : JP X E (.Name x pos) (eS i) := impE (pe_var hN hv hd hc) fun _ _ _ h => tJ_s h
theorem jp_gint {x : Str} {i : Int} {u : Value} (hg : Gl X x) (hm : X.mg x = some u) (r : RelV (.int i) u) (hd : (x == ("__debug__" : Str)) = false := by decide) : JP X E (.Name x pos) (eC (.int i)) :=
  impE (pe_glob hg hm r hd) fun _ _ _ h => tJ_c (fun _ => .int i) h
end
def fin (r : Option Op) (e : En) : Out En Op := match r with
  | some o => .ok o e
  | none => .bad
def eTwo {α : Type} (fa fb : Ex) (k : D → D → En → Out En α) : En → Out En α := fun env => (fa env).bind fun o1 e1 => (fb e1).bind fun o2 e2 => match res o1 e2 with
  | some d1 => (match res o2 e2 with | some d2 => k d1 d2 e2 | none => .bad)
  | none => .bad
def eOp2 (g : D → D → Option Op) (fa fb : Ex) : Ex := eTwo fa fb fun d1 d2 e => fin (g d1 d2) e
def Impl2 (K : Fg) (r : R2) (g : D → D → Option Op) : Prop := ∀ A H x y d1 d2 o Q, Same A H → View K A H x d1 → View K A H y d2 → g d1 d2 = some o → Fin K A H o Q → r x y H Q
section
variable {K : Fg} {mg : Str → Option Value} {E : Sl → XK} {fa fb fc : Ex} {σ : Sl} {H : Hp}
theorem Fin.of {F A : Hp} {env : En} {o : Op} {Q : V → Hp → Prop} (S : SOk K F σ env H A) (h : ∀ v H' A', SOk K F σ env H' A' → Grow F A A' → OpOk K F A' H' σ env v o → Q v H') : Fin K A H o Q :=
  fun v A' H' x r => h v H' A' (S.ext x) (x.grow S.subF) (RV.op S x r)
/-- the first of two, then the second -/
theorem tJ_two {α : Type} {k : D → D → En → Out En α} {R : V → V → Hp → Prop} {W : Out En α → Hp → Hp → Prop} (h : ∃ env A F, SOk K F σ env H A ∧
      match eTwo fa fb (fun d1 d2 e => .ok (d1, d2) e) env with
      | .ok p env' => ∀ x y H' A', SOk K F σ env' H' A' → Grow F A A' → View K A' H' x p.1 → View K A' H' y p.2 → R x y H'
      | .exc n env' => ∀ C H' A', mg n = some (.ref C) → SOk K F σ env' H' A' → Grow F A A' → E σ (.ref C) none H'
      | .bad => False) : tJ K mg E fa σ H fun x H1 => tJ K mg E fb σ H1 fun y H2 => R x y H2 := by
  obtain ⟨env, A, F, S, h⟩ := h
  refine ⟨env, A, F, S, ?_⟩
  unfold eTwo at h
  cases e1 : fa env with
  | bad => rw [e1] at h; exact h
  | exc n env' => rw [e1] at h; exact h
  | ok o1 env1 =>
    rw [e1] at h
    intro x H1 A1 S1 g1 r1
    obtain ⟨F1, sF, S1', _, keep⟩ := hold S1 r1
    refine ⟨env1, A1, F1, S1', ?_⟩
    simp only [Out.bind] at h
    cases e2 : fb env1 with
    | bad => rw [e2] at h; exact h
    | exc n env' =>
      rw [e2] at h
      intro C H' A' hC S' g'
      exact h C H' A' hC (S'.weakF sF) (g1.trans (g'.mono sF))
    | ok o2 env2 =>
      rw [e2] at h
      intro y H2 A2 S2 g2 r2
      have S2' := S2.weakF sF
      have q1 := keep env2 H2 A2 S2 g2
      simp only at h
      cases d1 : res o1 env2 with
      | none => rw [d1] at h; exact h.elim
      | some v1 =>
        rw [d1] at h
        simp only at h
        cases d2 : res o2 env2 with
        | none => rw [d2] at h; exact h.elim
        | some v2 =>
          rw [d2] at h
          exact h x y H2 A2 S2' (g1.trans (g2.mono sF)) (q1.view S2' d1) (r2.view S2 d2)
theorem eTwo_k {α : Type} (k : D → D → En → Out En α) (env : En) : eTwo fa fb k env = (eTwo fa fb (fun d1 d2 e => .ok (d1, d2) e) env).bind fun p e => k p.1 p.2 e := by
  unfold eTwo
  cases fa env with
  | bad => rfl
  | exc n e => rfl
  | ok o1 e1 =>
    simp only [Out.bind]
    cases fb e1 with
    | bad => rfl
    | exc n e => rfl
    | ok o2 e2 =>
      simp only
      cases res o1 e2 with
      | none => rfl
      | some d1 =>
        simp only
        cases res o2 e2 <;> rfl
theorem tJ_op2 {r : R2} {g : D → D → Option Op} (hr : Impl2 K r g) {Q : VK} (h : tJ K mg E (eOp2 g fa fb) σ H Q) : tOp r (tJ K mg E fa) (tJ K mg E fb) σ H Q := by
  obtain ⟨env, A, F, S, h⟩ := h
  refine tJ_two (α := Op) (k := fun d1 d2 e => fin (g d1 d2) e) (W := fun _ _ _ => True) (R := fun x y H2 => r x y H2 Q) ⟨env, A, F, S, ?_⟩
  unfold eOp2 at h
  rw [eTwo_k] at h
  cases e : eTwo fa fb (fun d1 d2 e => Out.ok (d1, d2) e) env with
  | bad => rw [e] at h; exact h
  | exc n e' => rw [e] at h; exact h
  | ok p e' =>
    rw [e] at h
    intro x y H2 A2 S2 g2 v1 v2
    simp only [Out.bind] at h
    cases hg : g p.1 p.2 with
    | none => rw [hg] at h; exact h.elim
    | some o =>
      rw [hg] at h
      exact hr A2 H2 x y p.1 p.2 o Q S2.subA v1 v2 hg (Fin.of S2 fun v H' A' S' g' r' => h v H' A' S' (g2.trans g') r')
end
section
variable {X : Cx} {E : Sl → XK} {pos : Pos} {a b c : Expr} {fa fb fc : Ex}
theorem jp_op {op : Operator} {r : R2} {g : D → D → Option Op} (ho : OpR X (binaryOp op) r) (hr : Impl2 X.K r g) (ha : JP X E a fa) (hb : JP X E b fb) : JP X E (.BinOp a op b pos) (eOp2 g fa fb) :=
  impE (pe_op ho ha hb) fun _ _ _ h => tJ_op2 hr h
theorem jp_cmp {op : CmpOp} {r : R2} {g : D → D → Option Op} (ho : OpR X (compareOp op) r) (hr : Impl2 X.K r g) (hm : behindInMarks op b = false) (ha : JP X E a fa) (hb : JP X E b fb) : JP X E (.Compare a [op] [b] pos) (eOp2 g fa fb) :=
  impE (pe_cmpR ho ha hb hm) fun _ _ _ h => tJ_op2 hr h
theorem jp_sub {r : R2} {g : D → D → Option Op} (hr : IxR X r) (hi : Impl2 X.K r g) (hs : PlainIx b) (ha : JP X E a fa) (hb : JP X E b fb) : JP X E (.Subscript a b pos) (eOp2 g fa fb) :=
  impE (pe_ix hr ha hb hs) fun _ _ _ h => tJ_op2 hi h
end
def tOf (f : Ex) : Tx := fun env => (f env).bind fun o e => match o with
  | .val (.bool b) => .ok b e
  | .slot i => (match e.getD i .no with | .v (.bool b) => .ok b e | _ => .bad)
  | _ => .bad
section
variable {K : Fg} {mg : Str → Option Value} {E : Sl → XK} {f : Ex} {σ : Sl} {H : Hp}
theorem tJT_of {Q : Bool → Hp → Prop} (h : tJT K mg E (tOf f) σ H Q) : tJ K mg E f σ H fun x H' => ∃ k, x = .bl k ∧ Q k H' := by
  obtain ⟨env, A, F, S, h⟩ := h
  refine ⟨env, A, F, S, ?_⟩
  unfold tOf at h
  cases e : f env with
  | bad => rw [e] at h; exact h
  | exc n e' => rw [e] at h; exact h
  | ok o e' =>
    rw [e] at h
    simp only [Out.bind] at h
    intro v H' A' S' g' r'
    cases o with
    | raw w => exact h.elim
    | new d => exact h.elim
    | val d =>
      cases d <;> first | exact h.elim | skip
      cases r' with | bl b => exact ⟨_, rfl, h H' A' S' g'⟩
    | slot i =>
      simp only at h
      cases hh : e'.getD i .no with
      | no => rw [hh] at h; exact h.elim
      | own d => rw [hh] at h; exact h.elim
      | par d => rw [hh] at h; exact h.elim
      | raw d => rw [hh] at h; exact h.elim
      | v d =>
        rw [hh] at h
        cases d <;> first | exact h.elim | skip
        have hc := S'.cell i
        rw [hh] at hc
        obtain ⟨w, e1, e2⟩ := hc
        have r2 : σ[i]? = some (some v) := r'
        rw [e1] at r2; cases r2
        cases e2 with | bl b => exact ⟨_, rfl, h H' A' S' g'⟩
end
def tAndM (a b : Tx) : Tx := fun env => (a env).bind fun c e => if c = true then b e else .ok false e
def tOrM (a b : Tx) : Tx := fun env => (a env).bind fun c e => if c = true then .ok true e else b e
def tNotM (a : Tx) : Tx := fun env => (a env).bind fun c e => .ok (!c) e
def eIf (t : Tx) (a b : Ex) : Ex := fun env => (t env).bind fun c e => if c = true then a e else b e
def eAndM (a : Ex) (b : Ex) : Ex := fun env => (tOf a env).bind fun c e => if c = true then b e else .ok (.val (.bool false)) e
def eOrM (a : Ex) (b : Ex) : Ex := fun env => (tOf a env).bind fun c e => if c = true then .ok (.val (.bool true)) e else b e
def eNotM (a : Ex) : Ex := fun env => (tOf a env).bind fun c e => .ok (.val (.bool (!c))) e
section
variable {K : Fg} {mg : Str → Option Value} {E : Sl → XK} {σ : Sl} {H : Hp} {ta tb : Tx} {fa fb : Ex}
theorem tJT_bind {k : Bool → En → Out En Bool} {Q : Bool → Hp → Prop} {R : Bool → Hp → Prop} (hR : ∀ b env H A F, SOk K F σ env H A → (match k b env with
      | .ok b env' => ∀ H' A', SOk K F σ env' H' A' → Grow F A A' → Q b H'
      | .exc n env' => ∀ C H' A', mg n = some (.ref C) → SOk K F σ env' H' A' → Grow F A A' → E σ (.ref C) none H'
      | .bad => False) → R b H) (h : tJT K mg E (fun env => (ta env).bind k) σ H Q) : tJT K mg E ta σ H R := by
  obtain ⟨env, A, F, S, h⟩ := h
  refine ⟨env, A, F, S, ?_⟩
  simp only at h
  cases e : ta env with
  | bad => rw [e] at h; exact h
  | exc n e' => rw [e] at h; exact h
  | ok b e' =>
    rw [e] at h
    intro H' A' S' g'
    refine hR b e' H' A' F S' ?_
    simp only [Out.bind] at h
    cases e2 : k b e' with
    | bad => rw [e2] at h; exact h
    | exc n e3 => rw [e2] at h; exact fun C H2 A2 hC S2 g2 => h C H2 A2 hC S2 (g'.trans g2)
    | ok b2 e3 => rw [e2] at h; exact fun H2 A2 S2 g2 => h H2 A2 S2 (g'.trans g2)
theorem tJT_or {Q} (h : tJT K mg E (tOrM ta tb) σ H Q) : tOr (tJT K mg E ta) (tJT K mg E tb) σ H Q := by
  refine tJT_bind (fun b env H A F S hk => ?_) h
  cases b with
  | true => rw [if_pos rfl] at hk ⊢; exact hk H A S Grow.refl
  | false => rw [if_neg Bool.false_ne_true] at hk ⊢; exact ⟨env, A, F, S, hk⟩
theorem tJT_not {Q} (h : tJT K mg E (tNotM ta) σ H Q) : tNot (tJT K mg E ta) σ H Q :=
  tJT_bind (k := fun c e => .ok (!c) e) (fun b env H A F S hk => hk H A S Grow.refl) h
/-- a test, then an expression -/
theorem tJ_test {k : Bool → Ex} {Q : VK} {R : Bool → Hp → Prop} (hR : ∀ b H, tJ K mg E (k b) σ H Q → R b H) (h : tJ K mg E (fun env => (ta env).bind fun b e => k b e) σ H Q) : tJT K mg E ta σ H R := by
  obtain ⟨env, A, F, S, h⟩ := h
  refine ⟨env, A, F, S, ?_⟩
  simp only at h
  cases e : ta env with
  | bad => rw [e] at h; exact h
  | exc n e' => rw [e] at h; exact h
  | ok b e' =>
    rw [e] at h
    intro H' A' S' g'
    refine hR b H' ⟨e', A', F, S', ?_⟩
    simp only [Out.bind] at h
    cases e2 : k b e' with
    | bad => rw [e2] at h; exact h
    | exc n e3 => rw [e2] at h; exact fun C H2 A2 hC S2 g2 => h C H2 A2 hC S2 (g'.trans g2)
    | ok b2 e3 => rw [e2] at h; exact fun v H2 A2 S2 g2 => h v H2 A2 S2 (g'.trans g2)
theorem tJ_if {Q} (h : tJ K mg E (eIf ta fa fb) σ H Q) : tIf (tJT K mg E ta) (tJ K mg E fa) (tJ K mg E fb) σ H Q := by
  refine tJ_test (k := fun b e => if b = true then fa e else fb e) (fun b H hk => ?_) h
  cases b with
  | true => rw [if_pos rfl]; simpa only [if_true] using hk
  | false => rw [if_neg Bool.false_ne_true]; simpa only [Bool.false_eq_true, if_false] using hk
theorem tJ_andV {Q} (h : tJ K mg E (eAndM fa fb) σ H Q) : tAndV (tJ K mg E fa) (tJ K mg E fb) σ H Q := by
  refine tJT_of (tJ_test (k := fun b e => if b = true then fb e else .ok (.val (.bool false)) e) (fun b H hk => ?_) h)
  cases b with
  | true => rw [if_pos rfl]; simpa only [if_true] using hk
  | false =>
    rw [if_neg Bool.false_ne_true]
    obtain ⟨env, A, F, S, hk⟩ := hk
    simp only [Bool.false_eq_true, if_false] at hk
    exact hk _ H A S Grow.refl (.bl false)
theorem tJ_orV {Q} (h : tJ K mg E (eOrM fa fb) σ H Q) : tOrV (tJ K mg E fa) (tJ K mg E fb) σ H Q := by
  refine tJT_of (tJ_test (k := fun b e => if b = true then .ok (.val (.bool true)) e else fb e) (fun b H hk => ?_) h)
  cases b with
  | false => rw [if_neg Bool.false_ne_true]; simpa only [Bool.false_eq_true, if_false] using hk
  | true =>
    rw [if_pos rfl]
    obtain ⟨env, A, F, S, hk⟩ := hk
    simp only [if_true] at hk
    exact hk _ H A S Grow.refl (.bl true)
end
section
variable {X : Cx} {E : Sl → XK} {pos : Pos} {a b c : Expr} {rest : List Expr} {fa fb : Ex} {ta tb : Tx}
theorem jt_val (ha : JP X E a fa) (he : ∀ whole, isTrue a X.env whole = (do let v ← whole; standAt a.pos; holding [v] (truthy v)) := by intro _; rfl) : JT X E a (tOf fa) :=
  impT (pt_val ha he) fun _ _ _ h => tJT_of h
theorem jt_cmp {op : CmpOp} {r : R2} {g : D → D → Option Op} (ho : OpR X (compareOp op) r) (hr : Impl2 X.K r g) (hm : behindInMarks op b = false) (ha : JP X E a fa) (hb : JP X E b fb) : JT X E (.Compare a [op] [b] pos) (tOf (eOp2 g fa fb)) :=
  impT (pt_cmpR ho ha hb hm) fun _ _ _ h => tJ_op2 (r := r) hr (tJT_of h)
theorem jt_w (h : JW X E a ta) : JT X E a ta := h.pt
theorem jw_or1 (h : JT X E a ta) : JW X E (.BoolOp .Or [a] pos) ta := pw_or1 h
theorem jw_or (h : JT X E a ta) (k : JW X E (.BoolOp .Or (b :: rest) pos) tb) : JW X E (.BoolOp .Or (a :: b :: rest) pos) (tOrM ta tb) := impW (pw_or h k) fun _ _ _ q => tJT_or q
theorem jt_not (h : JT X E a ta) : JT X E (.UnaryOp .Not a pos) (tNotM ta) := impT (pt_not h) fun _ _ _ q => tJT_not q
theorem jp_if (h : JT X E c ta) (ha : JP X E a fa) (hb : JP X E b fb) : JP X E (.IfExp c a b pos) (eIf ta fa fb) := impE (pe_ifExp h ha hb) fun _ _ _ q => tJ_if q
theorem jp_one {op : BoolOp} (h : JP X E a fa) : JP X E (.BoolOp op [a] pos) fa := pe_one h
theorem jp_and (h : JP X E a fa) (k : JP X E (.BoolOp .And (b :: rest) pos) fb) : JP X E (.BoolOp .And (a :: b :: rest) pos) (eAndM fa fb) := impE (pe_and h k) fun _ _ _ q => tJ_andV q
theorem jp_or (h : JP X E a fa) (k : JP X E (.BoolOp .Or (b :: rest) pos) fb) : JP X E (.BoolOp .Or (a :: b :: rest) pos) (eOrM fa fb) := impE (pe_or h k) fun _ _ _ q => tJ_orV q
end
end T3
namespace T3
open PySem PySem.Spec PyProof.Rows L2
section
variable {K : Fg} {A H : Hp} {Q : V → Hp → Prop}
theorem Fin.val {d : D} {v : V} (h : Fin K A H (.val d) Q) (s : Same A H) (r : Rep K A v d) : Q v H := h v A H (Ext.refl s) r
theorem Fin.int {i : Int} (h : Fin K A H (.val (.int i)) Q) (s : Same A H) : Q (.int i) H := h.val s (.int i)
theorem Fin.bool {i : Bool} (h : Fin K A H (.val (.bool i)) Q) (s : Same A H) : Q (.bl i) H := h.val s (.bl i)
theorem Fin.str {i : Str} (h : Fin K A H (.val (.str i)) Q) (s : Same A H) : Q (.str i) H := h.val s (.str i)
theorem Fin.non (h : Fin K A H (.val .none) Q) (s : Same A H) : Q .non H := h.val s .non
theorem Fin.list {ds : List D} {vs : List V} (h : Fin K A H (.new (.list ds)) Q) (s : Same A H) (r : Reps K A vs ds) : ∀ p, H p = none → Q (.ref p) (upd H p (.lst vs)) :=
  fun p n => h (.ref p) A _ (ext_new s n) ⟨p, rfl, n, s.free n, vs, upd_same, r⟩
theorem Fin.tuple {ds : List D} {vs : List V} (h : Fin K A H (.val (.tuple ds)) Q) (s : Same A H) (r : Reps K A vs ds) : ∀ p, H p = none → Q (.ref p) (upd H p (.tup vs)) :=
  fun p n => h (.ref p) (upd A p (.tup vs)) _ (ext_frozen s n) (.tup upd_same (r.same (ext_frozen (o := .tup vs) s n).aa))
end
def mulOk (i j : Int) : Bool := decide (i.natAbs < 2 ^ 64) || decide (j.natAbs < 2 ^ 64) || decide (i.natAbs.log2 + j.natAbs.log2 < 1000000)
def divOk (j : Int) : Bool := decide (j ≠ 0) && decide (j.natAbs.log2 < 9000)
def powOk (i n : Int) : Bool := decide (0 ≤ n) && decide ((Builtin.Int.intBits i : Int) * n ≤ 2 ^ 27)
def dAdd : D → D → Option Op
  | .int i, .int j => some (.val (.int (i + j)))
  | .str x, .str y => if x.length + y.length ≤ sizeLine then some (.val (.str (x ++ y))) else none
  | .list xs, .list ys => if xs.length + ys.length ≤ sizeLine then some (.new (.list (xs ++ ys))) else none
  | _, _ => none
def dSub : D → D → Option Op
  | .int i, .int j => some (.val (.int (i - j)))
  | _, _ => none
def dMul : D → D → Option Op
  | .int i, .int j => if mulOk i j then some (.val (.int (i * j))) else none
  | .list xs, .int k => if -(2 ^ 63) ≤ k ∧ k < 2 ^ 63 ∧ xs.length * k.toNat ≤ sizeLine then some (.new (.list (List.replicate k.toNat xs).flatten)) else none
  | _, _ => none
def dDiv : D → D → Option Op
  | .int i, .int j => if divOk j then some (.val (.int (i.fdiv j))) else none
  | _, _ => none
def dMod : D → D → Option Op
  | .int i, .int j => if j ≠ 0 then some (.val (.int (i.fmod j))) else none
  | _, _ => none
def dPow : D → D → Option Op
  | .int i, .int j => if powOk i j then some (.val (.int (i ^ j.toNat))) else none
  | _, _ => none
def rOr (r r' : R2) : R2 := fun x y H Q => r x y H Q ∨ r' x y H Q
theorem op_or {X : Cx} {f : Value → Value → Sem Value} {r r' : R2} (h : OpR X f r) (h' : OpR X f r') : OpR X f (rOr r r') := h.or h'
theorem op_mulA {X : Cx} : OpR X (binaryOp .Mult) (rI (fun i j => mulOk i j = true) fun i j => .int (i * j)) := opI fun i j _ _ _ _ _ hc q => mul_int q (by
  unfold mulOk at hc
  simp only [Bool.or_eq_true, decide_eq_true_eq] at hc
  rcases hc with (h | h) | h
  · exact CMul.ok (.inl ⟨by omega, by omega⟩)
  · exact CMul.ok (.inr ⟨by omega, by omega⟩)
  · exact CMulW.ok h)
theorem op_divA {X : Cx} : OpR X (binaryOp .FloorDiv) (rI (fun _ j => divOk j = true) fun i j => .int (i.fdiv j)) := opI fun i j _ _ _ _ _ hc q => by
  unfold divOk at hc
  simp only [Bool.and_eq_true, decide_eq_true_eq] at hc
  exact floordiv_int hc.1 q (.inl (PyProof.noPylong_of_log2 hc.2))
theorem op_powA {X : Cx} : OpR X (binaryOp .Pow) (rI (fun i j => powOk i j = true) fun i j => .int (i ^ j.toNat)) := opI fun i j _ _ _ _ _ hc q => by
  unfold powOk at hc
  simp only [Bool.and_eq_true, decide_eq_true_eq] at hc
  exact PyProof.Rows.pow_int hc.1 hc.2 q
/-- list + list, tracked or read -/
def rCatR (K : Fg) : R2 := fun x y H Q => ∃ l b xs zs, x = .ref l ∧ y = .ref b ∧ SqL K H l xs ∧ SqL K H b zs ∧ xs.length + zs.length ≤ sizeLine ∧ ∀ p, H p = none → Q (.ref p) (upd H p (.lst (xs ++ zs)))
theorem op_catR {X : Cx} : OpR X (binaryOp .Add) (rCatR X.K) := by
  intro pins s σ H x y v u Q I rx ry h
  obtain ⟨l, b, xs, zs, rfl, rfl, hl, hb, hz, q⟩ := h
  cases rx
  cases ry
  obtain ⟨its, r, ⟨⟨c1, e1, t1, u1⟩, m1, g1, k1, _, d1⟩, _⟩ := I.list hl
  obtain ⟨jts, r2, ⟨⟨c2, e2, t2, u2⟩, m2, g2, k2, _, d2⟩, _⟩ := I.list hb
  dsimp only at k1 d1 k2 d2
  subst k1 d1 k2 d2
  have n1 := r.length
  have n2 := r2.length
  refine PySem.concat_meets ⟨_, g1, rfl⟩ ⟨_, g2, rfl⟩ PySem.noFill_list_add PySem.seq_list_add PySem.F.slot_list_add PySem.F.entry_list_add
    (PySem.F.args_list_add_2 _ _) (PyProof.Rows.list_addW l b _ _ m1 m2 e1 e2 u1 u2 (by simp only [List.size_toArray]; omega)) ⟨g1, g2, ?_⟩
  rw [show its.toArray ++ jts.toArray = (its ++ jts).toArray by simp]
  exact ⟨.ref _, _, I.lnew (t' := s.toks) (r.append r2) (by simp only [List.length_append]; omega), rfl, q _ I.fresh⟩
/-- two lists of other lengths -/
def rLen (K : Fg) (r : Bool) : R2 := fun x y H Q => ∃ l b xs zs, x = .ref l ∧ y = .ref b ∧ SqL K H l xs ∧ SqL K H b zs ∧ xs.length ≠ zs.length ∧ Q (.bl r) H
theorem op_eqLen {X : Cx} (hu : X.A.units + 64 < cLine) : OpR X (compareOp .Eq) (rLen X.K false) := by
  intro pins s σ H x y v u Q I rx ry h
  obtain ⟨l, b, xs, zs, rfl, rfl, hl, hb, hz, q⟩ := h
  cases rx
  cases ry
  obtain ⟨its, r, ⟨o1, m1, g1, k1, _, d1⟩, _⟩ := I.list hl
  obtain ⟨jts, r2, ⟨o2, m2, g2, k2, _, d2⟩, _⟩ := I.list hb
  have n1 := r.length
  have n2 := r2.length
  exact SeqAt.eq_list_lengthsAt ⟨_, g1, k1, m1, d1⟩ ⟨_, g2, k2, m2, d2⟩ (by simp only [List.size_toArray, bne_iff_ne, ne_eq]; omega) (by omega) ⟨.bl _, H, I, rfl, q⟩
theorem op_neLen {X : Cx} (hu : X.A.units + 64 < cLine) : OpR X (compareOp .NotEq) (rLen X.K true) := by
  intro pins s σ H x y v u Q I rx ry h
  obtain ⟨l, b, xs, zs, rfl, rfl, hl, hb, hz, q⟩ := h
  cases rx
  cases ry
  obtain ⟨its, r, ⟨o1, m1, g1, k1, _, d1⟩, _⟩ := I.list hl
  obtain ⟨jts, r2, ⟨o2, m2, g2, k2, _, d2⟩, _⟩ := I.list hb
  have n1 := r.length
  have n2 := r2.length
  exact SeqAt.RcNeAt.lists_lengths ⟨_, g1, k1, m1, d1⟩ ⟨_, g2, k2, m2, d2⟩ (by simp only [List.size_toArray, bne_iff_ne, ne_eq]; omega) (by omega) _ _ _ _ ⟨.bl _, H, I, rfl, q⟩
/-- list * int, tracked or read -/
theorem rmulAny (a : Int) (t : Tok) (l : Addr) (xs : Array Value) (n : Nat) (dd : Option Addr) (sl : Array (Option Value)) :
    PySem.Meets (Builtin.«int.__rmul__» ⟨[.int a t, .ref l], []⟩) (fun _ R s => s.heap.get? l = some ⟨.type "list", dd, .seq xs n, sl⟩ ∧ R (.ok (.ret Value.notImplemented)) s) :=
  .of_wp fun prog w A R s h => by
    obtain ⟨hp, g, d, tk, os⟩ := s
    obtain ⟨e0, h⟩ := h
    wp_walk using AutoSeq1.wpAny_loadPart' e0
    exact ⟨_, rfl, h⟩
theorem mulAny (l : Addr) (xs : Array Value) (n : Nat) (x : Int) (u : Tok) (dd : Option Addr) (sl : Array (Option Value)) (c0 : ¬(!Builtin.List.listFitsIndex x) = true) (c1 : ¬xs.size * x.toNat > (2 ^ 63 - 1) / 8)
    (c2 : ¬Builtin.List.listTooLong (xs.size * x.toNat) = true) :
    PySem.Meets (Builtin.«list.__mul__» ⟨[.ref l, .int x u], []⟩) (fun _ R s => s.heap.get? l = some ⟨.type "list", dd, .seq xs n, sl⟩ ∧
      R (.ok (.ret (Value.ref s.heap.objs.size))) { s with heap := s.heap.push { cls := Value.type "list", data := Data.seq (List.foldl (fun p q => p ++ q) #[] (List.replicate (if xs.isEmpty = true then 0 else x.toNat) xs)) }, toks := s.toks }) :=
  .of_wp fun prog w A R s h => by
    obtain ⟨hp, g, d, tk, os⟩ := s
    obtain ⟨e0, h⟩ := h
    have fits := AutoListH.joined_fits (items := xs) c2
    wp_walk using AutoSeq1.wpAny_loadPart' e0
    refine wpAny_ite_false (decide_eq_false (Nat.not_lt.mpr fits)) ?_
    wp_walk using AutoSeq1.wpAny_loadPart' e0
    exact ⟨_, rfl, h⟩
def rRepR (K : Fg) : R2 := fun x y H Q => ∃ l k xs, x = .ref l ∧ y = .int k ∧ SqL K H l xs ∧ -(2 ^ 63) ≤ k ∧ k < 2 ^ 63 ∧ xs.length * k.toNat ≤ sizeLine ∧ ∀ p, H p = none → Q (.ref p) (upd H p (.lst (List.replicate k.toNat xs).flatten))
theorem op_repR {X : Cx} : OpR X (binaryOp .Mult) (rRepR X.K) := by
  intro pins s σ H x y v u Q I rx ry h
  obtain ⟨l, k, xs, rfl, rfl, hl, k1, k2, hz, q⟩ := h
  cases rx
  obtain ⟨t, rfl⟩ := ry
  obtain ⟨its, r, ⟨⟨c1, e1, t1, u1⟩, m1, g1, kk1, _, d1⟩, _⟩ := I.list hl
  dsimp only at kk1 d1
  subst kk1 d1
  have n1 := r.length
  have w1 : its.toArray.size * k.toNat ≤ sizeLine := by rw [List.size_toArray, ← n1]; exact hz
  have w2 : ¬ its.toArray.size * k.toNat > (2 ^ 63 - 1) / 8 := by
    have : (sizeLine : Nat) ≤ (2 ^ 63 - 1) / 8 := by decide
    omega
  have w3 : ¬ (!Builtin.List.listFitsIndex k) = true := by simp [Builtin.List.listFitsIndex]; omega
  have w4 : ¬ Builtin.List.listTooLong (its.toArray.size * k.toNat) = true := by rw [notLongL w1]; exact Bool.false_ne_true
  have w5 : List.foldl (fun p q => p ++ q) #[] (List.replicate (if its.toArray.isEmpty = true then 0 else k.toNat) its.toArray) = (List.replicate k.toNat its).flatten.toArray := by
    have f0 := fun m : Nat => (foldl_rep its m []).trans (congrArg List.toArray (List.nil_append _))
    cases its with
    | nil => exact (f0 0).trans (by simp)
    | cons a z => rw [if_neg (by simp)]; exact f0 _
  refine PySem.wpAny_binaryOp_repeat_ref (T := "list") (U := "int") (by decide) ⟨_, g1, rfl⟩ (fun s' => typeIs_int s' k t) PySem.noFill_list_mul PySem.F.fills_int_mul PySem.F.slot_int_rmul PySem.repeat_list PySem.F.slot_int_index.lookup
    (call_meets PySem.F.slot_int_rmul (typeIs_int s k t) PySem.F.entry_int_rmul (PySem.F.args_int_rmul_2 _ _) (rmulAny k t l its.toArray m1 e1 u1)
      ⟨g1, rfl, ⟨_, g1, rfl⟩, call_meets PySem.F.slot_list_mul ⟨_, g1, rfl⟩ PySem.F.entry_list_mul (PySem.F.args_list_mul_2 _ _) (mulAny l its.toArray m1 k t e1 u1 w3 w2 w4) ⟨g1, ?_⟩⟩)
  rw [w5]
  exact ⟨.ref _, _, I.lnew (t' := s.toks) (r.rep k.toNat) (by rw [PyProof.Rows.lm_len_rep_flat, Nat.mul_comm]; exact hz), rfl, q _ I.fresh⟩
section
variable {K : Fg}
theorem i_add : Impl2 K (rOr (rI0 fun i j => .int (i + j)) (rOr (fun x y H Q => ∃ i j, x = .str i ∧ y = .str j ∧ i.length + j.length ≤ sizeLine ∧ Q (.str (i ++ j)) H) (rCatR K))) dAdd := by
  intro A H x y d1 d2 o Q s v1 v2 g q
  unfold dAdd at g
  split at g
  · cases g; exact .inl ⟨_, _, v1.int, v2.int, q.int s⟩
  · split at g
    · rename_i hz
      cases g; exact .inr (.inl ⟨_, _, v1.str, v2.str, hz, q.str s⟩)
    · cases g
  · split at g
    · rename_i hz
      cases g
      obtain ⟨p, vs, e1, s1, r1⟩ := v1.lst s
      obtain ⟨p', vs', e2, s2, r2⟩ := v2.lst s
      exact .inr (.inr ⟨p, p', vs, vs', e1, e2, s1, s2, by rw [r1.length, r2.length]; exact hz, q.list s (r1.append r2)⟩)
    · cases g
  · cases g
theorem i_sub : Impl2 K (rI0 fun i j => .int (i - j)) dSub := by
  intro A H x y d1 d2 o Q s v1 v2 g q
  unfold dSub at g
  split at g
  · cases g; exact ⟨_, _, v1.int, v2.int, q.int s⟩
  · cases g
theorem Reps.rep {A : Hp} {vs : List V} {ds : List D} (h : Reps K A vs ds) (k : Nat) : Reps K A (List.replicate k vs).flatten (List.replicate k ds).flatten := by
  induction k with
  | zero => exact .nil
  | succ k ih => simp only [List.replicate_succ, List.flatten_cons]; exact h.append ih
theorem i_mul : Impl2 K (rOr (rI (fun i j => mulOk i j = true) fun i j => .int (i * j)) (rRepR K)) dMul := by
  intro A H x y d1 d2 o Q s v1 v2 g q
  unfold dMul at g
  split at g
  · split at g
    · rename_i hz
      cases g; exact .inl ⟨_, _, v1.int, v2.int, hz, q.int s⟩
    · cases g
  · split at g
    · rename_i hz
      cases g
      obtain ⟨p, vs, e1, s1, r1⟩ := v1.lst s
      exact .inr ⟨p, _, vs, e1, v2.int, s1, hz.1, hz.2.1, by rw [r1.length]; exact hz.2.2, q.list s (r1.rep _)⟩
    · cases g
  · cases g
theorem i_div : Impl2 K (rI (fun _ j => divOk j = true) fun i j => .int (i.fdiv j)) dDiv := by
  intro A H x y d1 d2 o Q s v1 v2 g q
  unfold dDiv at g
  split at g
  · split at g
    · rename_i hz; cases g; exact ⟨_, _, v1.int, v2.int, hz, q.int s⟩
    · cases g
  · cases g
theorem i_mod : Impl2 K (rI (fun _ j => j ≠ 0) fun i j => .int (i.fmod j)) dMod := by
  intro A H x y d1 d2 o Q s v1 v2 g q
  unfold dMod at g
  split at g
  · split at g
    · rename_i hz; cases g; exact ⟨_, _, v1.int, v2.int, hz, q.int s⟩
    · cases g
  · cases g
theorem i_pow : Impl2 K (rI (fun i j => powOk i j = true) fun i j => .int (i ^ j.toNat)) dPow := by
  intro A H x y d1 d2 o Q s v1 v2 g q
  unfold dPow at g
  split at g
  · split at g
    · rename_i hz; cases g; exact ⟨_, _, v1.int, v2.int, hz, q.int s⟩
    · cases g
  · cases g
end
def dCmp (p : Int → Int → Bool) : D → D → Option Op
  | .int i, .int j => some (.val (.bool (p i j)))
  | _, _ => none
abbrev dLt := dCmp fun i j => decide (i < j)
abbrev dLe := dCmp fun i j => decide (i ≤ j)
abbrev dGt := dCmp fun i j => decide (j < i)
abbrev dGe := dCmp fun i j => decide (j ≤ i)
/-- two texts -/
def isSS : D → D → Bool
  | .str _, .str _ => true
  | _, _ => false
def dLen (r : Bool) : D → D → Option Op
  | .list xs, .list ys => if xs.length ≠ ys.length then some (.val (.bool r)) else none
  | _, _ => none
def dEq (d e : D) : Option Op := if isSS d e || (SeqAt.shaped d && SeqAt.shaped e) then some (.val (.bool (PyData.eqv d e))) else dLen false d e
def dNe (d e : D) : Option Op := if isSS d e || (SeqAt.shaped d && SeqAt.shaped e) then some (.val (.bool (!PyData.eqv d e))) else dLen true d e
def dIs : D → D → Option Op
  | .none, .none => some (.val (.bool true))
  | .bool a, .bool b => some (.val (.bool (decide (a = b))))
  | _, .none => some (.val (.bool false))
  | _, _ => none
section
variable {K : Fg} {A : Hp}
theorem Rep.dp {v : V} {d : D} (h : Rep K A v d) : d.canLay0 = true → Dp K A v d :=
  Rep.rec (motive_1 := fun v d _ => d.canLay0 = true → Dp K A v d) (motive_2 := fun vs ds _ => PyData.canLayAll0 ds = true → DpAll K A vs ds)
    (fun _ => .non) (fun b _ => .bl b) (fun i _ => .int i) (fun x _ => .str x) (fun s _ ih c => .lst s (ih (by simpa [PyData.canLay0] using c))) (fun s _ ih c => .tup (.inl (.inl s)) (ih (by simpa [PyData.canLay0] using c)))
    (fun _ _ _ c => by simp [PyData.canLay0] at c) (fun _ _ _ c => by simp [PyData.canLay0] at c) (fun _ => .nil) (fun _ _ i1 i2 c => by
      simp only [PyData.canLayAll0, Bool.and_eq_true] at c
      exact .cons (i1 c.1) (i2 c.2)) h
theorem View.dp {H : Hp} {v : V} {d : D} (h : View K A H v d) (s : Same A H) (c : SeqAt.shaped d = true) : Dp K H v d := (h.rep s).dp (SeqAt.canLay_of_shaped c)
theorem i_cmp {p : Int → Int → Bool} : Impl2 K (rI0 fun i j => .bl (p i j)) (dCmp p) := by
  intro A H x y d1 d2 o Q s v1 v2 g q
  unfold dCmp at g
  split at g
  · cases g; exact ⟨_, _, v1.int, v2.int, q.bool s⟩
  · cases g
theorem isSS_of {d e : D} (h : isSS d e = true) : ∃ x y, d = .str x ∧ e = .str y := by
  unfold isSS at h
  split at h
  · exact ⟨_, _, rfl, rfl⟩
  · cases h
theorem dec_str {x y : Str} : decide (V.str x = V.str y) = PyData.eqv (.str x) (.str y) := by
  rw [Bool.eq_iff_iff, decide_eq_true_eq]
  simp [PyData.eqv]
theorem i_len {r : Bool} : Impl2 K (rLen K r) (dLen r) := by
  intro A H x y d1 d2 o Q s v1 v2 g q
  unfold dLen at g
  split at g
  · split at g
    · rename_i hn
      cases g
      obtain ⟨p, vs, e1, s1, r1⟩ := v1.lst s
      obtain ⟨p2, vs2, e2, s2, r2⟩ := v2.lst s
      exact ⟨p, p2, vs, vs2, e1, e2, s1, s2, by rw [r1.length, r2.length]; exact hn, q.bool s⟩
    · cases g
  · cases g
theorem i_eq : Impl2 K (rOr (rOr (rEqD K) rEq) (rLen K false)) dEq := by
  intro A H x y d1 d2 o Q s v1 v2 g q
  unfold dEq at g
  split at g
  · rename_i h
    rw [Bool.or_eq_true] at h
    rcases h with h | h
    · obtain ⟨a, b, rfl, rfl⟩ := isSS_of h
      cases g
      refine .inl (.inr ?_)
      rw [v1.str, v2.str]
      exact ⟨rfl, by rw [dec_str]; exact q.bool s⟩
    · rw [Bool.and_eq_true] at h
      cases g; exact .inl (.inl ⟨_, _, v1.dp s h.1, v2.dp s h.2, h.1, h.2, q.bool s⟩)
  · exact .inr (i_len A H x y d1 d2 o Q s v1 v2 g q)
theorem i_ne : Impl2 K (rOr (rOr (rNeD K) rNe) (rLen K true)) dNe := by
  intro A H x y d1 d2 o Q s v1 v2 g q
  unfold dNe at g
  split at g
  · rename_i h
    rw [Bool.or_eq_true] at h
    rcases h with h | h
    · obtain ⟨a, b, rfl, rfl⟩ := isSS_of h
      cases g
      refine .inl (.inr ?_)
      rw [v1.str, v2.str]
      exact ⟨rfl, by rw [dec_str]; exact q.bool s⟩
    · rw [Bool.and_eq_true] at h
      cases g; exact .inl (.inl ⟨_, _, v1.dp s h.1, v2.dp s h.2, h.1, h.2, q.bool s⟩)
  · exact .inr (i_len A H x y d1 d2 o Q s v1 v2 g q)
theorem View.not_non {H : Hp} {v : V} {d : D} (h : View K A H v d) (n : d ≠ .none) : v ≠ .non := fun e => by
  subst e
  rcases h with h | ⟨p, e, _⟩
  · cases h; exact n rfl
  · cases e
theorem i_is : Impl2 K (rOr (fun x y H Q => y = .non ∧ Q (.bl (decide (x = .non))) H) rIsB) dIs := by
  intro A H x y d1 d2 o Q s v1 v2 g q
  unfold dIs at g
  split at g
  · cases g; have := v1.none; subst this; exact .inl ⟨v2.none, q.bool s⟩
  · cases g; exact .inr ⟨_, _, v1.bool, v2.bool, q.bool s⟩
  · rename_i h
    cases g
    have n := v1.not_non fun e => h e
    refine .inl ⟨v2.none, ?_⟩
    rw [decide_eq_false n]; exact q.bool s
  · cases g
end
def dIx : D → D → Option Op
  | .list ds, .int i => (atI ds i).map .val
  | .tuple ds, .int i => (atI ds i).map .val
  | .str z, .int i => if z.length ≤ sizeLine then (atI z.cps.toList i).map fun c => .val (.str ⟨#[c]⟩) else none
  | _, _ => none
def cutD {α : Type} (xs : List α) (lo hi : Option Int) : List α := (xs.drop (HT.sIx xs.length 0 lo)).take (HT.sIx xs.length xs.length hi - HT.sIx xs.length 0 lo)
section
variable {K : Fg} {A : Hp}
theorem Reps.atI {vs : List V} {ds : List D} {i : Int} {d : D} (h : Reps K A vs ds) (e : L2.atI ds i = some d) : ∃ v, L2.atI vs i = some v ∧ Rep K A v d := by
  unfold L2.atI at e ⊢
  rw [h.length]
  cases hh : ixN ds.length i with
  | none => rw [hh] at e; cases e
  | some j => rw [hh] at e; exact h.get e
theorem Reps.cut {vs : List V} {ds : List D} (h : Reps K A vs ds) (lo hi : Option Int) : Reps K A (cutV vs lo hi) (cutD ds lo hi) := by
  unfold cutV cutD
  rw [h.length]
  exact (h.drop _).take _
theorem i_ix : Impl2 K (rIx K) dIx := by
  intro A H x y d1 d2 o Q s v1 v2 g q
  unfold dIx at g
  split at g
  · obtain ⟨d, e, rfl⟩ := Option.map_eq_some_iff.mp g
    obtain ⟨p, vs, e1, s1, r1⟩ := v1.lst s
    obtain ⟨v, a, b⟩ := r1.atI e
    exact .inl ⟨p, vs, _, v, e1, v2.int, s1, a, q.val s b⟩
  · obtain ⟨d, e, rfl⟩ := Option.map_eq_some_iff.mp g
    obtain ⟨p, vs, e1, s1, r1⟩ := v1.tup s
    obtain ⟨v, a, b⟩ := r1.atI e
    exact .inr (.inl ⟨p, vs, _, v, e1, v2.int, s1, a, q.val s b⟩)
  · split at g
    · rename_i hz
      obtain ⟨c, e, rfl⟩ := Option.map_eq_some_iff.mp g
      exact .inr (.inr ⟨_, _, c, v1.str, v2.int, hz, e, q.str s⟩)
    · cases g
  · cases g
end
section
variable {X : Cx} {E : Sl → XK} {pos : Pos} {a b : Expr} {fa fb : Ex}
theorem jp_add (ha : JP X E a fa) (hb : JP X E b fb) : JP X E (.BinOp a .Add b pos) (eOp2 dAdd fa fb) := jp_op (op_or op_add (op_or op_add_str op_catR)) i_add ha hb
theorem jp_subt (ha : JP X E a fa) (hb : JP X E b fb) : JP X E (.BinOp a .Sub b pos) (eOp2 dSub fa fb) := jp_op L2.op_sub i_sub ha hb
theorem jp_mul (ha : JP X E a fa) (hb : JP X E b fb) : JP X E (.BinOp a .Mult b pos) (eOp2 dMul fa fb) := jp_op (op_or op_mulA op_repR) i_mul ha hb
theorem jp_div (ha : JP X E a fa) (hb : JP X E b fb) : JP X E (.BinOp a .FloorDiv b pos) (eOp2 dDiv fa fb) := jp_op op_divA i_div ha hb
theorem jp_mod (ha : JP X E a fa) (hb : JP X E b fb) : JP X E (.BinOp a .Mod b pos) (eOp2 dMod fa fb) := jp_op L2.op_modN i_mod ha hb
theorem jp_pow (ha : JP X E a fa) (hb : JP X E b fb) : JP X E (.BinOp a .Pow b pos) (eOp2 dPow fa fb) := jp_op op_powA i_pow ha hb
theorem jp_lt (ha : JP X E a fa) (hb : JP X E b fb) : JP X E (.Compare a [.Lt] [b] pos) (eOp2 dLt fa fb) := jp_cmp L2.op_lt i_cmp (nomark _) ha hb
theorem jp_le (ha : JP X E a fa) (hb : JP X E b fb) : JP X E (.Compare a [.LtE] [b] pos) (eOp2 dLe fa fb) := jp_cmp L2.op_le i_cmp (nomark _) ha hb
theorem jp_ge (ha : JP X E a fa) (hb : JP X E b fb) : JP X E (.Compare a [.GtE] [b] pos) (eOp2 dGe fa fb) := jp_cmp L2.op_ge i_cmp (nomark _) ha hb
theorem jt_lt (ha : JP X E a fa) (hb : JP X E b fb) : JT X E (.Compare a [.Lt] [b] pos) (tOf (eOp2 dLt fa fb)) := jt_cmp L2.op_lt i_cmp (nomark _) ha hb
theorem jt_le (ha : JP X E a fa) (hb : JP X E b fb) : JT X E (.Compare a [.LtE] [b] pos) (tOf (eOp2 dLe fa fb)) := jt_cmp L2.op_le i_cmp (nomark _) ha hb
theorem jt_gt (ha : JP X E a fa) (hb : JP X E b fb) : JT X E (.Compare a [.Gt] [b] pos) (tOf (eOp2 dGt fa fb)) := jt_cmp L2.op_gt i_cmp (nomark _) ha hb
theorem jt_ge (ha : JP X E a fa) (hb : JP X E b fb) : JT X E (.Compare a [.GtE] [b] pos) (tOf (eOp2 dGe fa fb)) := jt_cmp L2.op_ge i_cmp (nomark _) ha hb
theorem jp_eq (hu : X.A.units + 65 < cLine) (ha : JP X E a fa) (hb : JP X E b fb) : JP X E (.Compare a [.Eq] [b] pos) (eOp2 dEq fa fb) := jp_cmp (op_or (op_or (L2.op_eqD (by omega)) L2.op_eq) (op_eqLen (by omega))) i_eq (nomark _) ha hb
theorem jt_eq (hu : X.A.units + 65 < cLine) (ha : JP X E a fa) (hb : JP X E b fb) : JT X E (.Compare a [.Eq] [b] pos) (tOf (eOp2 dEq fa fb)) := jt_cmp (op_or (op_or (L2.op_eqD (by omega)) L2.op_eq) (op_eqLen (by omega))) i_eq (nomark _) ha hb
theorem jt_ne (hu : X.A.units + 65 < cLine) (ha : JP X E a fa) (hb : JP X E b fb) : JT X E (.Compare a [.NotEq] [b] pos) (tOf (eOp2 dNe fa fb)) := jt_cmp (op_or (op_or (L2.op_neD (by omega)) L2.op_ne) (op_neLen (by omega))) i_ne (nomark _) ha hb
theorem jp_is (ha : JP X E a fa) (hb : JP X E b fb) : JP X E (.Compare a [.Is] [b] pos) (eOp2 dIs fa fb) := jp_cmp (op_or L2.op_isN L2.op_isBl) i_is (nomark _) ha hb
theorem jp_ix (hs : PlainIx b) (ha : JP X E a fa) (hb : JP X E b fb) : JP X E (.Subscript a b pos) (eOp2 dIx fa fb) := jp_sub ix_seq i_ix hs ha hb
end
end T3
namespace T3
open PySem PySem.Spec PyProof.Rows L2
def eNil : Ax := fun env => .ok [] env
def eCons (f : Ex) (g : Ax) : Ax := fun env => (f env).bind fun o e => (g e).bind fun os e2 => .ok (o :: os) e2
def resAll : List Op → En → Option (List D)
  | [], _ => some []
  | o :: os, e => match res o e with
    | some d => (match resAll os e with | some ds => some (d :: ds) | none => none)
    | none => none
def frz1 : Op → En → Option (D × En)
  | .val d, e => some (d, e)
  | .new d, e => some (d, e)
  | .slot i, e => (match e.getD i .no with
    | .v d => some (d, e)
    | .own d => some (d, e.set i (.v d))
    | _ => none)
  | .raw _, _ => none
def frzAll : List Op → En → Option (List D × En)
  | [], e => some ([], e)
  | o :: os, e => match frz1 o e with
    | some (d, e1) => (match frzAll os e1 with | some (ds, e2) => some (d :: ds, e2) | none => none)
    | none => none
section
variable {K : Fg} {F A H A' H' : Hp} {σ : Sl} {env : En}
theorem OpOk.weakF {F' : Hp} {v : V} {o : Op} (h : OpOk K F' A H σ env v o) (e : Low F F') : OpOk K F A H σ env v o := by
  cases o with
  | new d => obtain ⟨p, a, b, c, d⟩ := h; exact ⟨p, a, b, e.same.free c, d⟩
  | val d => exact h
  | slot i => exact h
  | raw w => exact h
theorem OpsOk.weakF {F' : Hp} {os : List Op} : ∀ {vs : List V}, OpsOk K F' A H σ env os vs → Low F F' → OpsOk K F A H σ env os vs := by
  induction os with
  | nil => exact fun h _ => h
  | cons o os ih =>
    intro vs h e
    obtain ⟨v, r, e1, h1, h2, h3⟩ := h
    exact ⟨v, r, e1, h1.weakF e, ih h2 e, h3⟩
theorem OpsOk.newF {os : List Op} : ∀ {vs : List V} {j : Nat} {d : D} {v : V}, OpsOk K F A H σ env os vs → os[j]? = some (.new d) → vs[j]? = some v → ∃ p, v = .ref p ∧ F p = none := by
  induction os with
  | nil => intro vs j d v _ h; simp at h
  | cons o os ih =>
    intro vs j d v h e1 e2
    obtain ⟨v0, r, rfl, h1, h2, _⟩ := h
    cases j with
    | zero => simp at e1 e2; subst e1 e2; obtain ⟨p, a, _, c, _⟩ := h1; exact ⟨p, a, c⟩
    | succ j => exact ih h2 (by simpa using e1) (by simpa using e2)
theorem OpsOk.views {os : List Op} (S : SOk K F σ env H A) : ∀ {vs : List V} {ds : List D}, OpsOk K F A H σ env os vs → resAll os env = some ds → Paired (View K A H) vs ds := by
  induction os with
  | nil => intro vs ds h e; cases h; cases e; exact .nil
  | cons o os ih =>
    intro vs ds h e
    obtain ⟨v, r, rfl, h1, h2, _⟩ := h
    unfold resAll at e
    cases hd : res o env with
    | none => rw [hd] at e; cases e
    | some d =>
      rw [hd] at e
      simp only at e
      cases hr : resAll os env with
      | none => rw [hr] at e; cases e
      | some ds' => rw [hr] at e; cases e; exact .cons (h1.view S hd) (ih h2 hr)
theorem set_getD (env : En) (i j : Nat) (c : Cell) : (env.set i c).getD j .no = if i = j ∧ i < env.length then c else env.getD j .no := by
  simp only [List.getD_eq_getElem?_getD, List.getElem?_set]
  by_cases h : i = j
  · subst h
    by_cases hl : i < env.length
    · simp [hl]
    · simp [hl]
  · simp [h]
theorem getD_lt {env : En} {i : Nat} (h : env.getD i .no ≠ .no) : i < env.length := by
  apply Classical.byContradiction
  intro n
  rw [List.getD_eq_getElem?_getD, List.getElem?_eq_none (by omega)] at h
  exact h rfl
/-- a slot's own list is frozen -/
theorem SOk.freeze (S : SOk K F σ env H A) {i : Nat} {d : D} (e : env.getD i .no = .own d) : ∃ A' p, σ[i]? = some (some (.ref p)) ∧ SOk K F σ (env.set i (.v d)) H A' ∧ Grow F A A' ∧ Rep K A' (.ref p) d ∧ ∀ b, A' b ≠ A b → b = p := by
  obtain ⟨p, hs, a, f, b⟩ := S.ownA e
  obtain ⟨o, ho⟩ := b.mut
  have aa : Same A (upd A p o) := fun c u q => by rw [upd_ne (ne_of_none q a)]; exact q
  have hr : Rep K (upd A p o) (.ref p) d := b.rep aa (by rw [upd_same, ho])
  have hlen : i < env.length := getD_lt (by rw [e]; exact fun z => nomatch z)
  refine ⟨upd A p o, p, hs, ⟨fun c u q => ?_, S.subF, fun j => ?_, fun j k d1 d2 q h1 h2 h3 h4 => ?_, by rw [List.length_set]; exact S.lens, S.nomk⟩, ⟨aa, fun c s => ?_⟩, hr, fun c n => ?_⟩
  · by_cases hc : c = p
    · subst hc; rw [upd_same] at q; cases q; exact ho
    · rw [upd_ne hc] at q; exact S.subA c u q
  · rw [set_getD]
    by_cases hj : i = j ∧ i < env.length
    · rw [if_pos hj]; obtain ⟨rfl, _⟩ := hj; exact ⟨_, hs, hr⟩
    · rw [if_neg hj]
      have hj' : j ≠ i := fun z => hj ⟨z.symm, hlen⟩
      have hc := S.cell j
      cases hh : env.getD j .no with
      | no => trivial
      | raw w => rw [hh] at hc; exact hc
      | v d' => rw [hh] at hc; obtain ⟨v, x, y⟩ := hc; exact ⟨v, x, y.same aa⟩
      | own d' =>
        rw [hh] at hc; obtain ⟨q, x1, x2, x3, x4⟩ := hc
        have : q ≠ p := fun z => by subst z; exact hj' (S.apart j i d' d q hh e x1 hs)
        exact ⟨q, x1, by rw [upd_ne this]; exact x2, x3, x4.move aa rfl⟩
      | par d' =>
        rw [hh] at hc; obtain ⟨q, x1, x2, x3, x4⟩ := hc
        have : q ≠ p := fun z => by subst z; rw [f] at x3; cases x3
        exact ⟨q, x1, by rw [upd_ne this]; exact x2, x3, x4.move aa rfl⟩
  · rw [set_getD] at h1 h2
    split at h1
    · cases h1
    · split at h2
      · cases h2
      · exact S.apart j k d1 d2 q h1 h2 h3 h4
  · have : c ≠ p := fun z => by subst z; rw [f] at s; cases s
    rw [upd_ne this]
  · apply Classical.byContradiction
    intro z
    exact n (by rw [upd_ne z])
theorem frz1_ok (S : SOk K F σ env H A) {o : Op} {v : V} {d : D} {e' : En} (h : OpOk K F A H σ env v o) (e : frz1 o env = some (d, e')) :
    ∃ A', SOk K F σ e' H A' ∧ Grow F A A' ∧ Rep K A' v d ∧ (∀ b, A' b ≠ A b → v = .ref b ∧ ((∃ d, o = .new d) ∨ ∃ i d, env.getD i .no = .own d ∧ σ[i]? = some (some (.ref b)))) ∧ ∀ j d, e'.getD j .no = .own d → env.getD j .no = .own d := by
  cases o with
  | raw w => cases e
  | val d' => cases e; exact ⟨A, S, Grow.refl, h, fun b n => absurd rfl n, fun _ _ x => x⟩
  | new d' =>
    cases e
    obtain ⟨p, ev, a, f, b, ap⟩ := h
    obtain ⟨o, ho⟩ := b.mut
    have aa : Same A (upd A p o) := fun c u q => by rw [upd_ne (ne_of_none q a)]; exact q
    refine ⟨upd A p o, ⟨fun c u q => ?_, S.subF, fun j => ?_, S.apart, S.lens, S.nomk⟩, ⟨aa, fun c s => ?_⟩, ?_, fun c n => ?_, fun _ _ x => x⟩
    · by_cases hc : c = p
      · subst hc; rw [upd_same] at q; cases q; exact ho
      · rw [upd_ne hc] at q; exact S.subA c u q
    · have hc := S.cell j
      have hap := ap j
      cases hh : env.getD j .no with
      | no => trivial
      | raw w => rw [hh] at hc; exact hc
      | v d' => rw [hh] at hc; obtain ⟨v, x, y⟩ := hc; exact ⟨v, x, y.same aa⟩
      | own d' =>
        rw [hh] at hc; obtain ⟨q, x1, x2, x3, x4⟩ := hc
        have : q ≠ p := fun z => by subst z; exact hap d' hh x1
        exact ⟨q, x1, by rw [upd_ne this]; exact x2, x3, x4.move aa rfl⟩
      | par d' =>
        rw [hh] at hc; obtain ⟨q, x1, x2, x3, x4⟩ := hc
        have : q ≠ p := fun z => by subst z; rw [f] at x3; cases x3
        exact ⟨q, x1, by rw [upd_ne this]; exact x2, x3, x4.move aa rfl⟩
    · have : c ≠ p := fun z => by subst z; rw [f] at s; cases s
      rw [upd_ne this]
    · subst ev; exact b.rep aa (by rw [upd_same, ho])
    · have : c = p := Classical.byContradiction fun z => n (by rw [upd_ne z])
      subst this
      exact ⟨ev, .inl ⟨_, rfl⟩⟩
  | slot i =>
    have hv : σ[i]? = some (some v) := h
    simp only [frz1] at e
    cases hh : env.getD i .no with
    | no => rw [hh] at e; cases e
    | raw w => rw [hh] at e; cases e
    | par w => rw [hh] at e; cases e
    | v d' =>
      rw [hh] at e; cases e
      have hc := S.cell i
      rw [hh] at hc
      obtain ⟨v', x, y⟩ := hc
      rw [hv] at x; cases x
      exact ⟨A, S, Grow.refl, y, fun b n => absurd rfl n, fun _ _ x => x⟩
    | own d' =>
      rw [hh] at e; cases e
      obtain ⟨A', p, x, y, z, r, n⟩ := S.freeze hh
      rw [hv] at x; cases x
      refine ⟨A', y, z, r, fun b nb => ?_, fun j d1 hj => ?_⟩
      · have := n b nb
        subst this
        exact ⟨rfl, .inr ⟨i, _, hh, hv⟩⟩
      · rw [set_getD] at hj
        split at hj
        · cases hj
        · exact hj
/-- the other operands stay -/
theorem OpsOk.move {os : List Op} {e' : En} (aa : Same A A') (own : ∀ j d, e'.getD j .no = .own d → env.getD j .no = .own d) : ∀ {vs : List V}, (∀ (j : Nat) d p, os[j]? = some (.new d) → vs[j]? = some (.ref p) → A' p = A p) → OpsOk K F A H σ env os vs → OpsOk K F A' H σ e' os vs := by
  induction os with
  | nil => exact fun _ h => h
  | cons o os ih =>
    intro vs hn h
    obtain ⟨v, r, rfl, h1, h2, h3⟩ := h
    refine ⟨v, r, rfl, ?_, ih (fun j d p a b => hn (j + 1) d p (by simpa using a) (by simpa using b)) h2, h3⟩
    cases o with
    | val d => exact Rep.same aa h1
    | raw w => exact h1
    | slot i => exact h1
    | new d =>
      obtain ⟨p, a, b, c, d1, e1⟩ := h1
      subst a
      exact ⟨p, rfl, (hn 0 d p rfl rfl).trans b, c, d1.move aa rfl, fun j d2 hj => e1 j d2 (own j d2 hj)⟩
theorem OpsOk.newAt {os : List Op} : ∀ {vs : List V} {j : Nat} {d : D} {v : V}, OpsOk K F A H σ env os vs → os[j]? = some (.new d) → vs[j]? = some v → OpOk K F A H σ env v (.new d) := by
  induction os with
  | nil => intro vs j d v _ h; simp at h
  | cons o os ih =>
    intro vs j d v h e1 e2
    obtain ⟨v0, r, rfl, h1, h2, _⟩ := h
    cases j with
    | zero => simp at e1 e2; subst e1 e2; exact h1
    | succ j => exact ih h2 (by simpa using e1) (by simpa using e2)
theorem frzAll_ok {os : List Op} : ∀ {env : En} {A : Hp} {vs : List V} {ds : List D} {e' : En}, SOk K F σ env H A → OpsOk K F A H σ env os vs → frzAll os env = some (ds, e') → ∃ A', SOk K F σ e' H A' ∧ Grow F A A' ∧ Reps K A' vs ds := by
  induction os with
  | nil => intro env A vs ds e' S h e; cases h; cases e; exact ⟨A, S, Grow.refl, .nil⟩
  | cons o os ih =>
    intro env A vs ds e' S h e
    obtain ⟨v, r, rfl, h1, h2, h3⟩ := h
    unfold frzAll at e
    cases hf : frz1 o env with
    | none => rw [hf] at e; cases e
    | some q =>
      obtain ⟨d, e1⟩ := q
      rw [hf] at e
      simp only at e
      cases hr : frzAll os e1 with
      | none => rw [hr] at e; cases e
      | some q2 =>
        obtain ⟨ds2, e2⟩ := q2
        rw [hr] at e
        cases e
        obtain ⟨A1, S1, g1, r1, n1, o1⟩ := frz1_ok S h1 hf
        have h2' : OpsOk K F A1 H σ e1 os r := h2.move g1.1 o1 fun j d' p a b => Classical.byContradiction fun nb => by
          obtain ⟨ev, hk⟩ := n1 p nb
          rcases hk with ⟨d0, rfl⟩ | ⟨i, d0, hi, hs⟩
          · exact h3 d0 rfl j d' a (by rw [b, ev])
          · obtain ⟨p', x1, x2, x3, x4, x5⟩ := h2.newAt a b
            cases x1
            exact x5 i d0 hi hs
        obtain ⟨A2, S2, g2, r2⟩ := ih S1 h2' hr
        exact ⟨A2, S2, g1.trans g2, .cons (r1.same g2.1) r2⟩
end
section
variable {K : Fg} {mg : Str → Option Value} {E : Sl → XK} {f : Ex} {g : Ax} {σ : Sl} {H : Hp}
theorem tJA_nil {Q} (h : tJA K mg E eNil σ H Q) : tNil σ H Q := by
  obtain ⟨env, A, F, S, h⟩ := h
  exact h [] H A S Grow.refl rfl
theorem tJA_cons {Q} (h : tJA K mg E (eCons f g) σ H Q) : tCons (tJ K mg E f) (tJA K mg E g) σ H Q := by
  obtain ⟨env, A, F, S, h⟩ := h
  refine ⟨env, A, F, S, ?_⟩
  unfold eCons at h
  cases e1 : f env with
  | bad => rw [e1] at h; exact h
  | exc n e' => rw [e1] at h; exact h
  | ok o env1 =>
    rw [e1] at h
    intro x H1 A1 S1 g1 r1
    obtain ⟨F1, sF, S1', isF, keep⟩ := hold S1 r1
    refine ⟨env1, A1, F1, S1', ?_⟩
    simp only [Out.bind] at h
    cases e2 : g env1 with
    | bad => rw [e2] at h; exact h
    | exc n e' => rw [e2] at h; exact fun C H' A' hC S' g' => h C H' A' hC (S'.weakF sF) (g1.trans (g'.mono sF))
    | ok os env2 =>
      rw [e2] at h
      intro xs H2 A2 S2 g2 r2
      have q := keep env2 H2 A2 S2 g2
      refine h (x :: xs) H2 A2 (S2.weakF sF) (g1.trans (g2.mono sF)) ⟨x, xs, rfl, q, r2.weakF sF, fun d hd j e hj hx => ?_⟩
      subst hd
      obtain ⟨p, e1, fp⟩ := r2.newF hj hx
      have := isF d p rfl e1
      rw [fp] at this
      cases this
end
/-- a function of operands' values -/
def eArgs (k : List D → En → Out En Op) (fa : Ax) : Ex := fun env => (fa env).bind fun os e => match resAll os e with
  | some ds => k ds e
  | none => .bad
def eCallB (g : List D → Option Op) (fa : Ax) : Ex := eArgs (fun ds e => fin (g ds) e) fa
def ImplN (K : Fg) (r : List V → Hp → VK → Prop) (g : List D → Option Op) : Prop := ∀ A H vs ds o Q, Same A H → Paired (View K A H) vs ds → g ds = some o → Fin K A H o Q → r vs H Q
def eFrz (k : List D → Option Op) (fa : Ax) : Ex := fun env => (fa env).bind fun os e => match frzAll os e with
  | some (ds, e2) => fin (k ds) e2
  | none => .bad
def dList (ds : List D) : Option Op := if ds.length ≤ sizeLine then some (.new (.list ds)) else none
def dTup (ds : List D) : Option Op := if ds.length ≤ sizeLine then some (.val (.tuple ds)) else none
section
variable {K : Fg} {mg : Str → Option Value} {E : Sl → XK} {fa : Ax} {σ : Sl} {H : Hp}
theorem tJ_args {r : List V → Hp → VK → Prop} {g : List D → Option Op} (hr : ImplN K r g) {Q} (h : tJ K mg E (eCallB g fa) σ H Q) : tJA K mg E fa σ H fun vs H1 => r vs H1 Q := by
  obtain ⟨env, A, F, S, h⟩ := h
  refine ⟨env, A, F, S, ?_⟩
  unfold eCallB eArgs at h
  cases e : fa env with
  | bad => rw [e] at h; exact h
  | exc n e' => rw [e] at h; exact h
  | ok os e' =>
    rw [e] at h
    intro vs H1 A1 S1 g1 r1
    simp only [Out.bind] at h
    cases hd : resAll os e' with
    | none => rw [hd] at h; exact h.elim
    | some ds =>
      rw [hd] at h
      simp only at h
      cases hg : g ds with
      | none => rw [hg] at h; exact h.elim
      | some o =>
        rw [hg] at h
        exact hr A1 H1 vs ds o Q S1.subA (r1.views S1 hd) hg (Fin.of S1 fun v H' A' S' g' r' => h v H' A' S' (g1.trans g') r')
theorem tJ_frz {k : List D → Option Op} {R : List V → Hp → VK → Prop} (hr : ∀ A H vs ds o Q, Same A H → Reps K A vs ds → k ds = some o → Fin K A H o Q → R vs H Q) {Q} (h : tJ K mg E (eFrz k fa) σ H Q) : tJA K mg E fa σ H fun vs H1 => R vs H1 Q := by
  obtain ⟨env, A, F, S, h⟩ := h
  refine ⟨env, A, F, S, ?_⟩
  unfold eFrz at h
  cases e : fa env with
  | bad => rw [e] at h; exact h
  | exc n e' => rw [e] at h; exact h
  | ok os e' =>
    rw [e] at h
    intro vs H1 A1 S1 g1 r1
    simp only [Out.bind] at h
    cases hd : frzAll os e' with
    | none => rw [hd] at h; exact h.elim
    | some q =>
      obtain ⟨ds, e2⟩ := q
      rw [hd] at h
      simp only at h
      cases hg : k ds with
      | none => rw [hg] at h; exact h.elim
      | some o =>
        rw [hg] at h
        obtain ⟨A2, S2, g2, r2⟩ := frzAll_ok S1 r1 hd
        exact hr A2 H1 vs ds o Q S2.subA r2 hg (Fin.of S2 fun v H' A' S' g' r' => h v H' A' S' (g1.trans (g2.trans g')) r')
theorem tJ_list {Q} (h : tJ K mg E (eFrz dList fa) σ H Q) : tLst (tJA K mg E fa) σ H Q :=
  tJ_frz (R := fun vs H1 Q => vs.length ≤ sizeLine ∧ ∀ p, H1 p = none → Q (.ref p) (upd H1 p (.lst vs))) (fun A H vs ds o Q s r k f => by
    unfold dList at k
    split at k
    · cases k; exact ⟨by rw [r.length]; assumption, f.list s r⟩
    · cases k) h
theorem tJ_tup {Q} (h : tJ K mg E (eFrz dTup fa) σ H Q) : tTup (tJA K mg E fa) σ H Q :=
  tJ_frz (R := fun vs H1 Q => vs.length ≤ sizeLine ∧ ∀ p, H1 p = none → Q (.ref p) (upd H1 p (.tup vs))) (fun A H vs ds o Q s r k f => by
    unfold dTup at k
    split at k
    · cases k; exact ⟨by rw [r.length]; assumption, f.tuple s r⟩
    · cases k) h
end
section
variable {X : Cx} {E : Sl → XK} {pos p : Pos} {e : Expr} {es : List Expr} {f : Ex} {fa : Ax} {x : Str} {id T : String}
theorem ja_nil : JA X E [] eNil := impA pa_nil fun _ _ _ h => tJA_nil h
theorem ja_cons (h : JP X E e f) (k : JA X E es fa) (hs : starEach (e :: es) X.env = (false, eval e X.env) :: starEach es X.env := by rfl) : JA X E (e :: es) (eCons f fa) := impA (pa_cons h k hs) fun _ _ _ q => tJA_cons q
theorem jp_list (h : JA X E es fa) : JP X E (.List es pos) (eFrz dList fa) := impE (pe_lst h) fun _ _ _ q => tJ_list q
theorem jp_tup {k : Nat} (h : JA X E es fa) : JP X E (.Tuple es k pos) (eFrz dTup fa) := impE (pe_tup h) fun _ _ _ q => tJ_tup q
theorem jp_callB {r : List V → Hp → VK → Prop} {g : List D → Option Op} (hc : CallR X (.builtin id) r) (hr : ImplN X.K r g) (hg : Gl X x) (hm : X.mg x = none) (hv : bootBuiltins x = some (.builtin id)) (ha : JA X E (e :: es) fa)
    (hn : x ≠ "__name__" := by decide) (hdb : (x == ("__debug__" : Str)) = false := by decide) (he : starEach (e :: es) X.env = (false, eval e X.env) :: starEach es X.env := by rfl)
    (hpl : (backTo pos (starEach es X.env)).any (·.1) = false := by rfl) : JP X E (.Call (.Name x p) (e :: es) [] pos) (eCallB g fa) :=
  impE (pe_callB hc hg hm hv ha hn hdb he hpl) fun _ _ _ q => tJ_args hr q
theorem jp_callT {r : List V → Hp → VK → Prop} {g : List D → Option Op} (hc : CallR X (.type T) r) (hr : ImplN X.K r g) (hg : Gl X x) (hm : X.mg x = none) (hv : bootBuiltins x = some (.type T)) (ha : JA X E (e :: es) fa)
    (hn : x ≠ "__name__" := by decide) (hdb : (x == ("__debug__" : Str)) = false := by decide) (he : starEach (e :: es) X.env = (false, eval e X.env) :: starEach es X.env := by rfl)
    (hpl : (backTo pos (starEach es X.env)).any (·.1) = false := by rfl) : JP X E (.Call (.Name x p) (e :: es) [] pos) (eCallB g fa) :=
  impE (pe_callTy hc hg hm hv ha hn hdb he hpl) fun _ _ _ q => tJ_args hr q
end
def bAbs : List D → Option Op
  | [.int i] => some (.val (.int (if i < 0 then -i else i)))
  | _ => none
def bMax2 : List D → Option Op
  | [.int i, .int j] => some (.val (.int (if j > i then j else i)))
  | _ => none
def bMin2 : List D → Option Op
  | [.int i, .int j] => some (.val (.int (if j < i then j else i)))
  | _ => none
def bInt : List D → Option Op
  | [.int i] => some (.val (.int i))
  | [.bool k] => some (.val (.int (if k then 1 else 0)))
  | _ => none
def bLen : List D → Option Op
  | [.list ds] => some (.val (.int ds.length))
  | [.tuple ds] => some (.val (.int ds.length))
  | [.str z] => if z.length ≤ sizeLine then some (.val (.int z.length)) else none
  | _ => none
def intsOf : List D → Option (List Int)
  | [] => some []
  | .int i :: ds => (intsOf ds).map (i :: ·)
  | _ => none
def boolsOf : List D → Option (List Bool)
  | [] => some []
  | .bool i :: ds => (boolsOf ds).map (i :: ·)
  | _ => none
def bAll : List D → Option Op
  | [.list ds] => (boolsOf ds).map fun ns => .val (.bool (ns.all id))
  | _ => none
def bList : List D → Option Op
  | [.list ds] => some (.new (.list ds))
  | [.tuple ds] => some (.new (.list ds))
  | _ => none
/-- insertion -/
def insI (n : Int) : List Int → List Int
  | [] => [n]
  | m :: r => if n ≤ m then n :: m :: r else m :: insI n r
def sortI : List Int → List Int
  | [] => []
  | n :: r => insI n (sortI r)
def bSorted : List D → Option Op
  | [.list ds] => (intsOf ds).map fun ns => .new (.list ((sortI ns).map .int))
  | _ => none
section
variable {K : Fg} {A : Hp}
theorem Reps.boolsOf {vs : List V} {ds : List D} {ns : List Bool} (h : Reps K A vs ds) (e : boolsOf ds = some ns) : vs = ns.map V.bl := by
  induction ds generalizing vs ns with
  | nil => cases h; cases e; rfl
  | cons d ds ih =>
    cases h with
    | cons a b =>
      cases d <;> first | cases e | skip
      unfold T3.boolsOf at e
      obtain ⟨ms, h1, rfl⟩ := Option.map_eq_some_iff.mp e
      cases a
      rw [ih b h1] <;> rfl
theorem Pv1 {H : Hp} {vs : List V} {d : D} (h : Paired (View K A H) vs [d]) : ∃ v, vs = [v] ∧ View K A H v d := by
  cases h with
  | cons a b => cases b; exact ⟨_, rfl, a⟩
theorem Pv2 {H : Hp} {vs : List V} {d e : D} (h : Paired (View K A H) vs [d, e]) : ∃ v w, vs = [v, w] ∧ View K A H v d ∧ View K A H w e := by
  cases h with
  | cons a b => cases b with | cons c d => cases d; exact ⟨_, _, rfl, a, c⟩
theorem n_abs : ImplN K (fun xs H Q => ∃ i, xs = [.int i] ∧ Q (.int (if i < 0 then -i else i)) H) bAbs := by
  intro A H vs ds o Q s v g q
  unfold bAbs at g
  split at g
  · cases g; obtain ⟨v, rfl, a⟩ := Pv1 v; exact ⟨_, by rw [a.int], q.int s⟩
  · cases g
theorem n_max2 : ImplN K (fun xs H Q => ∃ i j, xs = [.int i, .int j] ∧ Q (.int (if j > i then j else i)) H) bMax2 := by
  intro A H vs ds o Q s v g q
  unfold bMax2 at g
  split at g
  · cases g; obtain ⟨v, w, rfl, a, b⟩ := Pv2 v; exact ⟨_, _, by rw [a.int, b.int], q.int s⟩
  · cases g
theorem n_min2 : ImplN K (fun xs H Q => ∃ i j, xs = [.int i, .int j] ∧ Q (.int (if j < i then j else i)) H) bMin2 := by
  intro A H vs ds o Q s v g q
  unfold bMin2 at g
  split at g
  · cases g; obtain ⟨v, w, rfl, a, b⟩ := Pv2 v; exact ⟨_, _, by rw [a.int, b.int], q.int s⟩
  · cases g
theorem n_int : ImplN K (fun xs H Q => (∃ i, xs = [.int i] ∧ Q (.int i) H) ∨ ∃ k, xs = [.bl k] ∧ Q (.int (if k then 1 else 0)) H) bInt := by
  intro A H vs ds o Q s v g q
  unfold bInt at g
  split at g
  · cases g; obtain ⟨v, rfl, a⟩ := Pv1 v; exact .inl ⟨_, by rw [a.int], q.int s⟩
  · cases g; obtain ⟨v, rfl, a⟩ := Pv1 v; exact .inr ⟨_, by rw [a.bool], q.int s⟩
  · cases g
theorem n_len : ImplN K (fun xs H Q => (∃ p ys, xs = [.ref p] ∧ (SqL K H p ys ∨ SqT K H p ys) ∧ Q (.int ys.length) H) ∨ ∃ z, xs = [.str z] ∧ z.length ≤ sizeLine ∧ Q (.int z.length) H) bLen := by
  intro A H vs ds o Q s v g q
  unfold bLen at g
  split at g
  · cases g; obtain ⟨v, rfl, a⟩ := Pv1 v
    obtain ⟨p, ws, e, s1, r⟩ := a.lst s
    exact .inl ⟨p, ws, by rw [e], .inl s1, by rw [r.length]; exact q.int s⟩
  · cases g; obtain ⟨v, rfl, a⟩ := Pv1 v
    obtain ⟨p, ws, e, s1, r⟩ := a.tup s
    exact .inl ⟨p, ws, by rw [e], .inr s1, by rw [r.length]; exact q.int s⟩
  · split at g
    · rename_i hz
      cases g; obtain ⟨v, rfl, a⟩ := Pv1 v; exact .inr ⟨_, by rw [a.str], hz, q.int s⟩
    · cases g
  · cases g
theorem n_all : ImplN K (rAll K) bAll := by
  intro A H vs ds o Q s v g q
  unfold bAll at g
  split at g
  · obtain ⟨ns, e, rfl⟩ := Option.map_eq_some_iff.mp g
    obtain ⟨v, rfl, a⟩ := Pv1 v
    obtain ⟨p, ws, e1, s1, r⟩ := a.lst s
    subst e1
    exact ⟨p, ns, rfl, by rw [← r.boolsOf e]; exact s1, q.bool s⟩
  · cases g
theorem n_list : ImplN K (fun xs H Q => ∃ p ys, xs = [.ref p] ∧ (SqL K H p ys ∨ SqT K H p ys) ∧ ∀ l, H l = none → Q (.ref l) (upd H l (.lst ys))) bList := by
  intro A H vs ds o Q s v g q
  unfold bList at g
  split at g
  · cases g; obtain ⟨v, rfl, a⟩ := Pv1 v
    obtain ⟨p, ws, e, s1, r⟩ := a.lst s
    exact ⟨p, ws, by rw [e], .inl s1, q.list s r⟩
  · cases g; obtain ⟨v, rfl, a⟩ := Pv1 v
    obtain ⟨p, ws, e, s1, r⟩ := a.tup s
    exact ⟨p, ws, by rw [e], .inr s1, q.list s r⟩
  · cases g
end
section
variable {X : Cx} {E : Sl → XK} {pos p : Pos} {e e2 : Expr} {es : List Expr} {fa : Ax}
theorem jp_abs (hg : Gl X "abs") (hm : X.mg "abs" = none) (ha : JA X E [e] fa) (he : starEach [e] X.env = (false, eval e X.env) :: starEach [] X.env := by rfl) : JP X E (.Call (.Name "abs" p) [e] [] pos) (eCallB bAbs fa) :=
  jp_callB call_abs n_abs hg hm (by decide +kernel) ha (he := he) (hpl := rfl)
theorem jp_max2 (hc : X.calm = true) (hg : Gl X "max") (hm : X.mg "max" = none) (ha : JA X E [e, e2] fa) (he : starEach [e, e2] X.env = (false, eval e X.env) :: starEach [e2] X.env := by rfl) (hpl : (backTo pos (starEach [e2] X.env)).any (·.1) = false := by rfl) :
    JP X E (.Call (.Name "max" p) [e, e2] [] pos) (eCallB bMax2 fa) := jp_callB (call_max2 hc) n_max2 hg hm (by decide +kernel) ha (he := he) (hpl := hpl)
theorem jp_min2 (hc : X.calm = true) (hg : Gl X "min") (hm : X.mg "min" = none) (ha : JA X E [e, e2] fa) (he : starEach [e, e2] X.env = (false, eval e X.env) :: starEach [e2] X.env := by rfl) (hpl : (backTo pos (starEach [e2] X.env)).any (·.1) = false := by rfl) :
    JP X E (.Call (.Name "min" p) [e, e2] [] pos) (eCallB bMin2 fa) := jp_callB (call_min2 hc) n_min2 hg hm (by decide +kernel) ha (he := he) (hpl := hpl)
theorem jp_int1 (hg : Gl X "int") (hm : X.mg "int" = none) (ha : JA X E [e] fa) (he : starEach [e] X.env = (false, eval e X.env) :: starEach [] X.env := by rfl) : JP X E (.Call (.Name "int" p) [e] [] pos) (eCallB bInt fa) :=
  jp_callT call_int1 n_int hg hm (by decide +kernel) ha (he := he) (hpl := rfl)
theorem jp_len (hg : Gl X "len") (hm : X.mg "len" = none) (ha : JA X E [e] fa) (he : starEach [e] X.env = (false, eval e X.env) :: starEach [] X.env := by rfl) : JP X E (.Call (.Name "len" p) [e] [] pos) (eCallB bLen fa) :=
  jp_callB (call_len_seq.or call_len_str) n_len hg hm (by decide +kernel) ha (he := he) (hpl := rfl)
theorem jp_all (hc : X.calm = true) (hg : Gl X "all") (hm : X.mg "all" = none) (ha : JA X E [e] fa) (he : starEach [e] X.env = (false, eval e X.env) :: starEach [] X.env := by rfl) : JP X E (.Call (.Name "all" p) [e] [] pos) (eCallB bAll fa) :=
  jp_callB (cr_all hc) n_all hg hm (by decide +kernel) ha (he := he) (hpl := rfl)
theorem jp_lst (hg : Gl X "list") (hm : X.mg "list" = none) (ha : JA X E [e] fa) (he : starEach [e] X.env = (false, eval e X.env) :: starEach [] X.env := by rfl) : JP X E (.Call (.Name "list" p) [e] [] pos) (eCallB bList fa) :=
  jp_callT call_list_of n_list hg hm (by decide +kernel) ha (he := he) (hpl := rfl)
end
end T3
namespace T3
open PySem PySem.Spec PyProof.Rows L2
def tyName : D → String
  | .none => "NoneType"
  | .bool _ => "bool"
  | .int _ => "int"
  | .str _ => "str"
  | .list _ => "list"
  | .tuple _ => "tuple"
  | .dict _ => "dict"
def isiB (T : String) : D → Bool
  | .none => T == "NoneType"
  | .bool _ => T == "bool" || T == "int"
  | .int _ => T == "int"
  | .str _ => T == "str"
  | .list _ => T == "list"
  | .tuple _ => T == "tuple"
  | .dict _ => T == "dict"
/-- the answers that isiB tells are the library's -/
def kitAll (T : String) : Bool := [(.none : D), .bool true, .int 0, .str ⟨#[]⟩, .list [], .tuple [], .dict []].all fun d => decide (kitB (tyName d) T = some (isiB T d))
def eOne (k : D → Option Op) (f : Ex) : Ex := fun env => (f env).bind fun o e => match res o e with
  | some d => fin (k d) e
  | none => .bad
def dIsi (T : String) (d : D) : Option Op := some (.val (.bool (isiB T d)))
section
variable {K : Fg} {mg : Str → Option Value} {E : Sl → XK} {f : Ex} {σ : Sl} {H : Hp}
theorem tJ_one {k : D → Option Op} {R : V → Hp → VK → Prop} (hr : ∀ A H v d o Q, Same A H → View K A H v d → k d = some o → Fin K A H o Q → R v H Q) {Q} (h : tJ K mg E (eOne k f) σ H Q) : tJ K mg E f σ H fun v H1 => R v H1 Q := by
  obtain ⟨env, A, F, S, h⟩ := h
  refine ⟨env, A, F, S, ?_⟩
  unfold eOne at h
  cases e : f env with
  | bad => rw [e] at h; exact h
  | exc n e' => rw [e] at h; exact h
  | ok o e' =>
    rw [e] at h
    intro v H1 A1 S1 g1 r1
    simp only [Out.bind] at h
    cases hd : res o e' with
    | none => rw [hd] at h; exact h.elim
    | some d =>
      rw [hd] at h
      simp only at h
      cases hk : k d with
      | none => rw [hk] at h; exact h.elim
      | some o2 =>
        rw [hk] at h
        exact hr A1 H1 v d o2 Q S1.subA (r1.view S1 hd) hk (Fin.of S1 fun v H' A' S' g' r' => h v H' A' S' (g1.trans g') r')
theorem View.ty {A : Hp} {v : V} {d : D} (h : View K A H v d) (s : Same A H) : TyX K H v (.type (tyName d)) := by
  have r := h.rep s
  cases r with
  | non => exact .base .non
  | bl b => exact .base (.bl b)
  | int i => exact .base (.int i)
  | str x => exact .base (.str x)
  | lst a b =>
    rcases a with (a | ⟨o, a⟩) | ⟨o, its, n, a, c, _⟩
    · exact .base (.lst a)
    · exact .base (.frz a)
    · exact .kList a c
  | tup a b =>
    exact .base (.tup a)
  | dic a b =>
    rcases a with a | ⟨o, a⟩
    · exact .base (.dK a)
    · exact .fDict a
  | dicT a b => exact .base (.dT a)
theorem kit_all {T : String} (h : kitAll T = true) (d : D) : kitB (tyName d) T = some (isiB T d) := by
  unfold kitAll at h
  simp only [List.all_cons, List.all_nil, Bool.and_true, Bool.and_eq_true, decide_eq_true_eq] at h
  obtain ⟨h1, h2, h3, h4, h5, h6, h7⟩ := h
  cases d
  · exact h1
  · exact h2
  · exact h3
  · exact h4
  · exact h5
  · exact h6
  · exact h7
end
section
variable {X : Cx} {E : Sl → XK} {pos p p2 : Pos} {e : Expr} {f : Ex}
theorem jp_isi {T : Str} {TT : String} (hk : kitAll TT = true) (hg : Gl X "isinstance") (hm : X.mg "isinstance" = none) (gT : Gl X T) (mT : X.mg T = none) (bT : bootBuiltins T = some (.type TT)) (he : JP X E e f)
    (hs : starEach [e, .Name T p2] X.env = (false, eval e X.env) :: starEach [.Name T p2] X.env := by rfl) (hpl : (backTo pos (starEach [.Name T p2] X.env)).any (·.1) = false := by rfl) (hs2 : starEach [.Name T p2] X.env = (false, eval (.Name T p2) X.env) :: starEach [] X.env := by rfl)
    (nT : T ≠ "__name__" := by decide) (dT : (T == ("__debug__" : Str)) = false := by decide) : JP X E (.Call (.Name "isinstance" p) [e, .Name T p2] [] pos) (eOne (dIsi TT) f) :=
  impE (pe_callB call_isi hg hm (by decide +kernel) (pa_cons he (pa_cons (pe_bltn (v := .ty TT) gT mT bT rfl nT dT) pa_nil hs2) hs) (he := hs) (hpl := hpl)) fun σ H Q h => by
    refine tJ_one (R := fun v H1 Q => rIsi X.K [v, .ty TT] H1 Q) (fun A H v d o Q s w k q => ?_) h
    cases k
    exact ⟨v, .ty TT, _, _, _, rfl, .ty TT, w.ty s, kit_ty (kit_all hk d), q.bool s⟩
end
abbrev Ox := En → Out En (Option Int)
def oNone : Ox := fun env => .ok none env
def oSome (f : Ex) : Ox := fun env => (f env).bind fun o e => match res o e with
  | some (.int i) => .ok (some i) e
  | _ => .bad
def tJO (K : Fg) (mg : Str → Option Value) (E : Sl → XK) (f : Ox) : TO := fun σ H Q => ∃ env A F, SOk K F σ env H A ∧ match f env with
  | .ok o env' => ∀ H' A', SOk K F σ env' H' A' → Grow F A A' → Q o H'
  | .exc n env' => ∀ C H' A', mg n = some (.ref C) → SOk K F σ env' H' A' → Grow F A A' → E σ (.ref C) none H'
  | .bad => False
def eSlice (f : Ex) (a b : Ox) : Ex := fun env => (f env).bind fun o e => (a e).bind fun l e1 => (b e1).bind fun u e2 => match res o e2 with
  | some (.list ds) => .ok (.new (.list (cutD ds l u))) e2
  | some (.tuple ds) => .ok (.val (.tuple (cutD ds l u))) e2
  | some (.str z) => if z.length ≤ sizeLine then .ok (.val (.str (cutS z l u))) e2 else .bad
  | _ => .bad
def eRev (f : Ex) : Ex := eOne (fun d => match d with | .list ds => some (.new (.list ds.reverse)) | _ => none) f
section
variable {X : Cx} {E : Sl → XK} {pos p2 : Pos} {e : Expr} {lo hi : Option Expr} {f : Ex} {a b : Ox}
abbrev JO (X : Cx) (E : Sl → XK) (e : Option Expr) (f : Ox) : Prop := PO X e (tJO X.K X.mg E f)
theorem impO {e : Option Expr} {t t' : TO} (h : PO X e t) (i : ∀ σ H Q, t' σ H Q → t σ H Q) : PO X e t' := ⟨fun p s σ H Q I w => h.run p s σ H Q I (i σ H Q w)⟩
theorem jo_none : JO X E none oNone := impO po_none fun σ H Q ⟨env, A, F, S, h⟩ => h H A S Grow.refl
theorem jo_some {e : Expr} (h : JP X E e f) : JO X E (some e) (oSome f) := impO (po_some h) fun σ H Q ⟨env, A, F, S, h⟩ => by
  refine ⟨env, A, F, S, ?_⟩
  unfold oSome at h
  cases e : f env with
  | bad => rw [e] at h; exact h
  | exc n e' => rw [e] at h; exact h
  | ok o e' =>
    rw [e] at h
    intro v H1 A1 S1 g1 r1
    simp only [Out.bind] at h
    cases hd : res o e' with
    | none => rw [hd] at h; exact h.elim
    | some d =>
      rw [hd] at h
      cases d <;> first | exact h.elim | skip
      exact ⟨_, (r1.view S1 hd).int, h H1 A1 S1 g1⟩
theorem jp_slice (he : JP X E e f) (ha : JO X E lo a) (hb : JO X E hi b) : JP X E (.Subscript e (.Slice lo hi none p2) pos) (eSlice f a b) :=
  impE (pe_slice (sl_list.or (sl_tupA.or sl_str)) he ha hb) fun σ H Q ⟨env, A, F, S, h⟩ => by
    refine ⟨env, A, F, S, ?_⟩
    unfold eSlice at h
    cases e1 : f env with
    | bad => rw [e1] at h; exact h
    | exc n e' => rw [e1] at h; exact h
    | ok o env1 =>
      rw [e1] at h
      intro x H1 A1 S1 g1 r1
      obtain ⟨F1, sF, S1', _, keep⟩ := hold S1 r1
      refine ⟨env1, A1, F1, S1', ?_⟩
      simp only [Out.bind] at h
      cases e2 : a env1 with
      | bad => rw [e2] at h; exact h
      | exc n e' => rw [e2] at h; exact fun C H' A' hC S' g' => h C H' A' hC (S'.weakF sF) (g1.trans (g'.mono sF))
      | ok l env2 =>
        rw [e2] at h
        intro H2 A2 S2 g2
        refine ⟨env2, A2, F1, S2, ?_⟩
        simp only at h
        cases e3 : b env2 with
        | bad => rw [e3] at h; exact h
        | exc n e' => rw [e3] at h; exact fun C H' A' hC S' g' => h C H' A' hC (S'.weakF sF) (g1.trans ((g2.trans g').mono sF))
        | ok u env3 =>
          rw [e3] at h
          intro H3 A3 S3 g3
          have S3' := S3.weakF sF
          have g0 := g1.trans ((g2.trans g3).mono sF)
          have ok := keep env3 H3 A3 S3 (g2.trans g3)
          simp only at h
          cases hd : res o env3 with
          | none => rw [hd] at h; exact h.elim
          | some d =>
            have w := ok.view S3' hd
            rw [hd] at h
            have s := S3'.subA
            cases d <;> first | exact h.elim | skip
            · simp only at h
              rename_i z
              by_cases hz : z.length ≤ sizeLine
              · rw [if_pos hz] at h
                have q := Fin.of S3' fun v H' A' S' g' r' => h v H' A' S' (g0.trans g') r'
                exact .inr (.inr ⟨_, w.str, hz, q.str s⟩)
              · rw [if_neg hz] at h
                exact h.elim
            · have q := Fin.of S3' fun v H' A' S' g' r' => h v H' A' S' (g0.trans g') r'
              obtain ⟨p, vs, e5, s5, r5⟩ := w.lst s
              exact .inl ⟨p, vs, e5, s5, q.list s (r5.cut l u)⟩
            · rename_i ds
              have q := Fin.of S3' fun v H' A' S' g' r' => h v H' A' S' (g0.trans g') r'
              obtain ⟨p, vs, e5, s5, r5⟩ := w.tup s
              refine .inr (.inl ⟨p, vs, e5, s5, fun hh => ?_, fun hh => q.tuple s (r5.cut l u)⟩)
              have e6 : cutD ds l u = ds := by
                unfold cutD
                rw [← r5.length, hh.1, hh.2, List.drop_zero, Nat.sub_zero, r5.length, List.take_length]
              rw [e6] at q
              subst e5
              exact q.val s (by
                rcases w with w | ⟨_, _, _, w⟩
                · exact w
                · exact w.elim)
theorem jp_rev {k : Nat} {p1 p3 : Pos} (he : JP X E e f) : JP X E (.Subscript e (.Slice none none (some (.UnaryOp .USub (.Constant (.int 1) k p1) p2)) p3) pos) (eRev f) :=
  impE (pe_revL he) fun σ H Q h => tJ_one (R := fun x H1 Q => ∃ a xs, x = .ref a ∧ SqL X.K H1 a xs ∧ ∀ p, H1 p = none → Q (.ref p) (upd H1 p (.lst xs.reverse))) (fun A H v d o Q s w k q => by
    split at k
    · cases k
      obtain ⟨p, vs, e5, s5, r5⟩ := w.lst s
      exact ⟨p, vs, e5, s5, q.list s r5.reverse⟩
    · cases k) h
end
end T3
namespace T3
open PySem PySem.Spec PyProof.Rows L2
def rangeD (a b : Int) : List D := (List.range (b - a).toNat).map fun (i : Nat) => .int (a + (i : Int))
def rgOk (a b : Int) : Bool := decide (-(2 ^ 62) ≤ a) && decide (a < 2 ^ 62) && decide (-(2 ^ 62) ≤ b) && decide (b < 2 ^ 62) && decide ((b - a).toNat ≤ 2 ^ 24)
theorem rgOk_of {a b : Int} (h : rgOk a b = true) : RgOk a b := by
  unfold rgOk at h
  simp only [Bool.and_eq_true, decide_eq_true_eq] at h
  exact ⟨h.1.1.1.1, h.1.1.1.2, h.1.1.2, h.1.2, h.2⟩
def dRg1 : D → Option Op
  | .int n => if rgOk 0 n then some (.new (.list (rangeD 0 n))) else none
  | _ => none
def dRg2 : D → D → Option Op
  | .int a, .int b => if rgOk a b then some (.new (.list (rangeD a b))) else none
  | _, _ => none
theorem reps_range {K : Fg} {A : Hp} (a b : Int) : Reps K A (rgV a b) (rangeD a b) := by
  unfold rgV rangeD
  generalize List.range (b - a).toNat = l
  induction l with
  | nil => exact .nil
  | cons i l ih => exact .cons (.int _) ih
section
variable {X : Cx} {E : Sl → XK} {pos p p2 q2 : Pos} {e e2 : Expr} {f f2 : Ex}
theorem jp_listRg1 (hc : X.calm = true) (hg : Gl X "list") (hm : X.mg "list" = none) (hr : Gl X "range") (mr : X.mg "range" = none) (he : JP X E e f)
    (na : starEach [e] X.env = (false, eval e X.env) :: starEach [] X.env := by rfl) (nb : starEach [.Call (.Name "range" p2) [e] [] q2] X.env = (false, eval (.Call (.Name "range" p2) [e] [] q2) X.env) :: starEach [] X.env := by rfl) :
    JP X E (.Call (.Name "list" p) [.Call (.Name "range" p2) [e] [] q2] [] pos) (eOne dRg1 f) :=
  impE (pe_listRg hc hg hm (prg_1 hr mr he na) nb) fun σ H Q h => tJ_one (R := fun x H1 Q => ∃ n, x = .int n ∧ RgOk 0 n ∧ ∀ q, H1 q = none → Q (.ref q) (upd H1 q (.lst (rgV 0 n)))) (fun A H v d o Q s w k q => by
    unfold dRg1 at k
    split at k
    · split at k
      · cases k; exact ⟨_, w.int, rgOk_of (by assumption), q.list s (reps_range _ _)⟩
      · cases k
    · cases k) h
end
end T3
namespace T3
open PySem PySem.Spec PyProof.Rows L2
def put0 (i : Nat) : Op → En → Option En
  | .val d, e => some (e.set i (.v d))
  | .new d, e => some (e.set i (.own d))
  | .raw v, e => some (e.set i (.raw v))
  | .slot j, e => (match e.getD j .no with
    | .v d => some (e.set i (.v d))
    | .own d => if i = j then some e else some ((e.set j (.v d)).set i (.v d))
    | .raw v => some (e.set i (.raw v))
    | _ => none)
def isPar : Cell → Bool
  | .par _ => true
  | _ => false
/-- a lent parameter's name is not stored -/
def put (i : Nat) (o : Op) (e : En) : Option En := if i < e.length ∧ isPar (e.getD i .no) = false then put0 i o e else none
section
variable {K : Fg} {F A H : Hp} {σ : Sl} {env : En}
theorem getσ_set {σ : Sl} {i j : Nat} {v : V} (hi : i < σ.length) : (σ.set i (some v))[j]? = if i = j then some (some v) else σ[j]? := by
  rw [List.getElem?_set]
  by_cases h : i = j
  · subst h; simp [hi]
  · simp [h]
theorem SOk.setV (S : SOk K F σ env H A) {i : Nat} (hi : i < σ.length) {v : V} {d : D} (r : Rep K A v d) : SOk K F (σ.set i (some v)) (env.set i (.v d)) H A where
  subA := S.subA
  subF := S.subF
  lens := by rw [List.length_set, List.length_set]; exact S.lens
  nomk := S.nomk
  cell := fun j => by
    rw [getσ_set hi, set_getD]
    by_cases h : i = j
    · rw [if_pos h, if_pos ⟨h, by rw [S.lens]; exact hi⟩]; exact ⟨v, rfl, r⟩
    · rw [if_neg h, if_neg (fun z => h z.1)]; exact S.cell j
  apart := fun j k d1 d2 p h1 h2 h3 h4 => by
    rw [set_getD] at h1 h2
    rw [getσ_set hi] at h3 h4
    split at h1
    · cases h1
    · rename_i n1
      split at h2
      · cases h2
      · rename_i n2
        have hl : i < env.length := by rw [S.lens]; exact hi
        rw [if_neg (fun z => n1 ⟨z, hl⟩)] at h3
        rw [if_neg (fun z => n2 ⟨z, hl⟩)] at h4
        exact S.apart j k d1 d2 p h1 h2 h3 h4
theorem SOk.setR (S : SOk K F σ env H A) {i : Nat} (hi : i < σ.length) {v : V} : SOk K F (σ.set i (some v)) (env.set i (.raw v)) H A where
  subA := S.subA
  subF := S.subF
  lens := by rw [List.length_set, List.length_set]; exact S.lens
  nomk := S.nomk
  cell := fun j => by
    rw [getσ_set hi, set_getD]
    by_cases h : i = j
    · rw [if_pos h, if_pos ⟨h, by rw [S.lens]; exact hi⟩]; exact rfl
    · rw [if_neg h, if_neg (fun z => h z.1)]; exact S.cell j
  apart := fun j k d1 d2 p h1 h2 h3 h4 => by
    rw [set_getD] at h1 h2
    rw [getσ_set hi] at h3 h4
    split at h1
    · cases h1
    · rename_i n1
      split at h2
      · cases h2
      · rename_i n2
        have hl : i < env.length := by rw [S.lens]; exact hi
        rw [if_neg (fun z => n1 ⟨z, hl⟩)] at h3
        rw [if_neg (fun z => n2 ⟨z, hl⟩)] at h4
        exact S.apart j k d1 d2 p h1 h2 h3 h4
theorem SOk.setN (S : SOk K F σ env H A) {i : Nat} (hi : i < σ.length) {v : V} {d : D} (r : OpOk K F A H σ env v (.new d)) : SOk K F (σ.set i (some v)) (env.set i (.own d)) H A := by
  obtain ⟨p, rfl, a, f, b, n⟩ := r
  have hl : i < env.length := by rw [S.lens]; exact hi
  refine ⟨S.subA, S.subF, fun j => ?_, fun j k d1 d2 q h1 h2 h3 h4 => ?_, by rw [List.length_set, List.length_set]; exact S.lens, S.nomk⟩
  · rw [getσ_set hi, set_getD]
    by_cases h : i = j
    · rw [if_pos h, if_pos ⟨h, hl⟩]; exact ⟨p, rfl, a, f, b⟩
    · rw [if_neg h, if_neg (fun z => h z.1)]; exact S.cell j
  · rw [set_getD] at h1 h2
    rw [getσ_set hi] at h3 h4
    by_cases e1 : i = j
    · by_cases e2 : i = k
      · exact e1.symm.trans e2
      · rw [if_pos e1] at h3
        rw [if_neg e2] at h4
        rw [if_neg (fun z => e2 z.1)] at h2
        cases h3
        exact absurd h4 (n k d2 h2)
    · by_cases e2 : i = k
      · rw [if_neg e1] at h3
        rw [if_pos e2] at h4
        rw [if_neg (fun z => e1 z.1)] at h1
        cases h4
        exact absurd h3 (n j d1 h1)
      · rw [if_neg e1] at h3
        rw [if_neg e2] at h4
        rw [if_neg (fun z => e1 z.1)] at h1
        rw [if_neg (fun z => e2 z.1)] at h2
        exact S.apart j k d1 d2 q h1 h2 h3 h4
theorem set_same {σ : Sl} {i : Nat} {v : V} (h : σ[i]? = some (some v)) : σ.set i (some v) = σ := by
  apply List.ext_getElem?
  intro j
  rw [List.getElem?_set]
  by_cases e : i = j
  · subst e
    have hl : i < σ.length := (List.getElem?_eq_some_iff.mp h).1
    simp [hl]
    exact (List.getElem?_eq_some_iff.mp h).2.symm
  · simp [e]
theorem put_ok (S : SOk K F σ env H A) {i : Nat} {v : V} {o : Op} {e' : En} (r : OpOk K F A H σ env v o) (h : put i o env = some e') : ∃ A', SOk K F (σ.set i (some v)) e' H A' ∧ Grow F A A' := by
  unfold put at h
  by_cases hi1 : i < env.length ∧ isPar (env.getD i .no) = false
  rotate_left
  · rw [if_neg hi1] at h; cases h
  rw [if_pos hi1] at h
  have hi0 := hi1.1
  have hi : i < σ.length := by rw [← S.lens]; exact hi0
  cases o with
  | val d => cases h; exact ⟨A, S.setV hi r, Grow.refl⟩
  | new d => cases h; exact ⟨A, S.setN hi r, Grow.refl⟩
  | raw w => cases h; cases (show v = w from r); exact ⟨A, S.setR hi, Grow.refl⟩
  | slot j =>
    have hv : σ[j]? = some (some v) := r
    simp only [put0] at h
    cases hh : env.getD j .no with
    | no => rw [hh] at h; cases h
    | par d => rw [hh] at h; cases h
    | raw w =>
      rw [hh] at h; cases h
      have hc := S.cell j
      rw [hh] at hc
      have hc' : σ[j]? = some (some w) := hc
      rw [hv] at hc'; cases hc'
      exact ⟨A, S.setR hi, Grow.refl⟩
    | v d =>
      rw [hh] at h; cases h
      have hc := S.cell j
      rw [hh] at hc
      obtain ⟨w, a, b⟩ := hc
      rw [hv] at a; cases a
      exact ⟨A, S.setV hi b, Grow.refl⟩
    | own d =>
      rw [hh] at h
      simp only at h
      split at h
      · rename_i e
        cases h
        subst e
        rw [set_same hv]
        exact ⟨A, S, Grow.refl⟩
      · cases h
        obtain ⟨A', p, x, S', g, r', _⟩ := S.freeze hh
        rw [hv] at x; cases x
        exact ⟨A', S'.setV hi r', g⟩
end
def sNext : Sx := fun env => .ok .nx env
def sSeq (a b : Sx) : Sx := fun env => (a env).bind fun fl e => match fl with
  | .nx => b e
  | fl => .ok fl e
def sSet (i : Nat) (f : Ex) : Sx := fun env => (f env).bind fun o e => match put i o e with
  | some e2 => .ok .nx e2
  | none => .bad
def sDrop (f : Ex) : Sx := fun env => (f env).bind fun _ e => .ok .nx e
def retOp (o : Op) (e : En) : Out En Fl := match o with
  | .slot i => (match e.getD i .no with
    | .own d => .ok (.rt (.new d)) (e.set i .no)
    | .v d => .ok (.rt (.val d)) e
    | .raw v => .ok (.rt (.raw v)) e
    | _ => .bad)
  | o => .ok (.rt o) e
def sRet (f : Ex) : Sx := fun env => (f env).bind retOp
def sIf (t : Tx) (a b : Sx) : Sx := fun env => (t env).bind fun c e => if c = true then a e else b e
section
variable {K : Fg} {mg : Str → Option Value} {E : Sl → XK} {F A H : Hp} {σ : Sl} {env : En} {Z : Ends}
theorem LS.of_ex {f : Ex} {k : Op → En → Out En Fl} {Q : VK} (h : LS K mg E F A Z ((f env).bind k)) (S : SOk K F σ env H A)
    (hk : ∀ o e v H' A', SOk K F σ e H' A' → Grow F A A' → OpOk K F A' H' σ e v o → LS K mg E F A' Z (k o e) → Q v H') : tJ K mg E f σ H Q := by
  refine ⟨env, A, F, S, ?_⟩
  cases e : f env with
  | bad => rw [e] at h; exact h
  | exc n e' => rw [e] at h; exact fun C H' A' m S' g' => h C σ H' A' m S' g'
  | ok o e' => rw [e] at h; exact fun v H' A' S' g' r' => hk o e' v H' A' S' g' r' (LS.grow h g')
theorem LS.of_t {f : Tx} {k : Bool → En → Out En Fl} {Q : Bool → Hp → Prop} (h : LS K mg E F A Z ((f env).bind k)) (S : SOk K F σ env H A)
    (hk : ∀ o e H' A', SOk K F σ e H' A' → Grow F A A' → LS K mg E F A' Z (k o e) → Q o H') : tJT K mg E f σ H Q := by
  refine ⟨env, A, F, S, ?_⟩
  cases e : f env with
  | bad => rw [e] at h; exact h
  | exc n e' => rw [e] at h; exact fun C H' A' m S' g' => h C σ H' A' m S' g'
  | ok o e' => rw [e] at h; exact fun H' A' S' g' => hk o e' H' A' S' g' (LS.grow h g')
theorem LS.seq {a : Out En Fl} {b : Sx} (h : LS K mg E F A Z (a.bind fun fl e => match fl with | .nx => b e | fl => .ok fl e)) : LS K mg E F A { Z with nx := tJS K mg E b Z } a := by
  cases a with
  | bad => exact h
  | exc n e => exact h
  | ok fl e =>
    cases fl with
    | nx => exact fun σ' H' A' S' g' => ⟨e, A', F, S', LS.grow h g'⟩
    | bk => exact h
    | ct => exact h
    | rt o => exact h
end
section
variable {X : Cx} {E : Sl → XK} {pos : Pos} {st : Stmt} {rest : List Stmt} {a b : Sx} {e : Expr} {f : Ex} {t : Tx}
theorem jb_nil : JB X E [] sNext := impB pss_nil fun Z σ H ⟨env, A, F, S, h⟩ => h σ H A S Grow.refl
theorem jb_cons (h : JS X E st a) (k : JB X E rest b) : JB X E (st :: rest) (sSeq a b) := impB (pss_cons h k) fun Z σ H ⟨env, A, F, S, q⟩ => ⟨env, A, F, S, LS.seq q⟩
theorem jb_one (h : JS X E st a) : JB X E [st] a := pss_one h
theorem js_expr (h : JP X E e f) (hs : swapsWith e none pos.line X.env = pure false := by rfl) : JS X E (.Expr e pos) (sDrop f) :=
  impS (ps_expr h hs) fun Z σ H ⟨env, A, F, S, q⟩ => LS.of_ex q S fun o e v H' A' S' g' r' k => k σ H' A' S' Grow.refl
theorem retOp_ok {K : Fg} {mg : Str → Option Value} {F A H : Hp} {σ : Sl} {env : En} {Z : Ends} {v : V} {o : Op} (S : SOk K F σ env H A) (r : OpOk K F A H σ env v o) (h : LS K mg E F A Z (retOp o env)) : Z.rt v H := by
  cases o with
  | val d => exact h v σ H A S Grow.refl r
  | new d => exact h v σ H A S Grow.refl r
  | raw d => exact h v σ H A S Grow.refl r
  | slot i =>
    have hv : σ[i]? = some (some v) := r
    have hc := S.cell i
    simp only [retOp] at h
    cases hh : env.getD i .no with
    | no => rw [hh] at h; exact h.elim
    | par d => rw [hh] at h; exact h.elim
    | v d => rw [hh] at h hc; obtain ⟨w, x, y⟩ := hc; rw [hv] at x; cases x; exact h v σ H A S Grow.refl y
    | raw w => rw [hh] at h hc; have hc' : σ[i]? = some (some w) := hc; rw [hv] at hc'; cases hc'; exact h v σ H A S Grow.refl rfl
    | own d =>
      rw [hh] at h hc
      obtain ⟨p, x, a1, f1, b1⟩ := hc
      rw [hv] at x; cases x
      refine h (.ref p) σ H A ⟨S.subA, S.subF, fun j => ?_, fun j k d1 d2 q h1 h2 h3 h4 => ?_, by rw [List.length_set]; exact S.lens, S.nomk⟩ Grow.refl ⟨p, rfl, a1, f1, b1, fun j e hj hs => ?_⟩
      · rw [set_getD]
        split
        · trivial
        · exact S.cell j
      · rw [set_getD] at h1 h2
        split at h1
        · cases h1
        · split at h2
          · cases h2
          · exact S.apart j k d1 d2 q h1 h2 h3 h4
      · rw [set_getD] at hj
        split at hj
        · cases hj
        · rename_i n
          exact n ⟨S.apart i j d e p hh hj hv hs, getD_lt (by rw [hh]; exact fun z => nomatch z)⟩
theorem js_ret (h : JP X E e f) : JS X E (.Return (some e) pos) (sRet f) :=
  impS (ps_ret h) fun Z σ H ⟨env, A, F, S, q⟩ => LS.of_ex q S fun o e v H' A' S' g' r' k => retOp_ok S' r' k
theorem js_set {i : Nat} {x : Str} {pos' : Pos} (h : JP X E e f) (hN : X.N.Nodup) (hi : X.N[i]? = some x) (hx : Loc X.env.scope x) (hs : swapsWith e (some (.Name x pos')) pos.line X.env = pure false := by rfl)
    (hf : X.fn x = true ∨ X.env.scope.names.lookup x = some .local := by first | exact .inl rfl | exact .inr rfl | assumption) : JS X E (.Assign [.Name x pos'] e pos) (sSet i f) := by
  refine ⟨fun pins s σ H Z I h' => ?_⟩
  refine (ps_set hN hi hx h hs hf).run pins s σ H Z I ?_
  obtain ⟨env, A, F, S, q⟩ := h'
  refine LS.of_ex q S fun o e v H' A' S' g' r' k => ?_
  cases hp : put i o e with
  | none => rw [hp] at k; exact k.elim
  | some e2 =>
    rw [hp] at k
    obtain ⟨A2, S2, g2⟩ := put_ok S' r' hp
    exact k _ H' A2 S2 g2
theorem js_if {c : Expr} {bs cs : List Stmt} (h : JT X E c t) (ha : JB X E bs a) (hb : JB X E cs b) : JS X E (.If c bs cs pos) (sIf t a b) :=
  impS (ps_if h ha hb) fun Z σ H ⟨env, A, F, S, q⟩ => LS.of_t q S fun c e H' A' S' g' k => by
    cases c with
    | true => rw [if_pos rfl] at k ⊢; exact ⟨e, A', F, S', k⟩
    | false => rw [if_neg Bool.false_ne_true] at k ⊢; exact ⟨e, A', F, S', k⟩
end
def wLoop (t : Tx) (b : Sx) : Nat → Sx
  | 0 => fun _ => .bad
  | n + 1 => fun env => (t env).bind fun c e => if c = true then (b e).bind fun fl e2 => (match fl with
    | .nx => wLoop t b n e2
    | .ct => wLoop t b n e2
    | .bk => .ok .nx e2
    | .rt o => .ok (.rt o) e2) else .ok .nx e
theorem js_while {X : Cx} {E : Sl → XK} {pos : Pos} {c : Expr} {body : List Stmt} {t : Tx} {b : Sx} (n : Nat) (hp : PassesOwn (model X.prog X.w) X.A X.env X.xe) (h : JT X E c t) (hb : JB X E body b) : JS X E (.While c body [] pos) (wLoop t b n) :=
  impS (ps_while hp h hb) fun Z σ H ⟨env, A, F, S, q⟩ => by
    refine ⟨fun m σ H => ∃ env A, SOk X.K F σ env H A ∧ LS X.K X.mg E F A Z (wLoop t b m env), ⟨n, env, A, S, q⟩, ?_⟩
    rintro m σ H ⟨env, A, S, q⟩
    cases m with
    | zero => exact q.elim
    | succ m =>
      refine LS.of_t q S fun c e H' A' S' g' k => ?_
      cases c with
      | false => rw [if_neg Bool.false_ne_true] at k ⊢; exact k σ H' A' S' Grow.refl
      | true =>
        rw [if_pos rfl] at k ⊢
        refine ⟨fun σ' H' => ∃ env A, SOk X.K F σ' env H' A ∧ LS X.K X.mg E F A Z (wLoop t b m env), fun σ' H' w => ⟨m, Nat.lt_succ_self m, w⟩, e, A', F, S', ?_⟩
        cases he : b e with
        | bad => rw [he] at k; exact k
        | exc n e2 => rw [he] at k; exact k
        | ok fl e2 =>
          rw [he] at k
          cases fl with
          | nx => exact fun σ' H2 A2 S2 g2 => ⟨e2, A2, S2, LS.grow k g2⟩
          | ct => exact fun σ' H2 A2 S2 g2 => ⟨e2, A2, S2, LS.grow k g2⟩
          | bk => exact k
          | rt o => exact k
abbrev Gx := D → En → Option En
def gSlot (i : Nat) : Gx := fun d e => if i < e.length ∧ isPar (e.getD i .no) = false then some (e.set i (.v d)) else none
def gAll : List Gx → List D → En → Option En
  | [], [], e => some e
  | g :: gs, d :: ds, e => (match g d e with | some e2 => gAll gs ds e2 | none => none)
  | _, _, _ => none
def gTupM (gs : List Gx) : Gx := fun d e => match d with
  | .tuple ds => gAll gs ds e
  | _ => none
/-- but the slots vs -/
def ButVs (vs : List Nat) (σ σ' : Sl) : Prop := σ'.length = σ.length ∧ ∀ j, j ∉ vs → σ'[j]? = σ[j]?
def tGJ (K : Fg) (vs : List Nat) (g : Gx) : TG := fun v σ H Q => ∃ env A F d, SOk K F σ env H A ∧ Rep K A v d ∧ ∃ e', g d env = some e' ∧ ∀ σ' H' A', ButVs vs σ σ' → SOk K F σ' e' H' A' → Grow F A A' → Q σ' H'
def tGJs (K : Fg) (vs : List Nat) (gs : List Gx) : TGs := fun ws σ H Q => ∃ env A F ds, SOk K F σ env H A ∧ Reps K A ws ds ∧ ∃ e', gAll gs ds env = some e' ∧ ∀ σ' H' A', ButVs vs σ σ' → SOk K F σ' e' H' A' → Grow F A A' → Q σ' H'
theorem ButVs.refl {vs : List Nat} {σ : Sl} : ButVs vs σ σ := ⟨rfl, fun _ _ => rfl⟩
theorem ButVs.trans {vs : List Nat} {σ σ' σ2 : Sl} (h : ButVs vs σ σ') (k : ButVs vs σ' σ2) : ButVs vs σ σ2 := ⟨k.1.trans h.1, fun j n => (k.2 j n).trans (h.2 j n)⟩
theorem impG {X : Cx} {tg : Expr} {t t' : TG} (h : PG X tg t) (i : ∀ v σ H Q, t' v σ H Q → t v σ H Q) : PG X tg t' := ⟨fun p s σ H v u Q I r w => h.run p s σ H v u Q I r (i v σ H Q w)⟩
theorem impGs {X : Cx} {tg : List Expr} {t t' : TGs} (h : PGs X tg t) (i : ∀ v σ H Q, t' v σ H Q → t v σ H Q) : PGs X tg t' := ⟨fun p s σ H v u Q I r w => h.run p s σ H v u Q I r (i v σ H Q w)⟩
abbrev JG (X : Cx) (vs : List Nat) (tg : Expr) (g : Gx) : Prop := PG X tg (tGJ X.K vs g)
abbrev JGs (X : Cx) (vs : List Nat) (tg : List Expr) (g : List Gx) : Prop := PGs X tg (tGJs X.K vs g)
section
variable {X : Cx} {vs : List Nat} {pos : Pos}
theorem jg_name {i : Nat} {x : Str} (hN : X.N.Nodup) (hi : X.N[i]? = some x) (hx : Loc X.env.scope x) (hv : i ∈ vs) (hf : X.fn x = true ∨ X.env.scope.names.lookup x = some .local := by first | exact .inl rfl | exact .inr rfl | assumption) : JG X vs (.Name x pos) (gSlot i) :=
  impG (pg_name hN hi hx hf) fun v σ H Q ⟨env, A, F, d, S, r, e', he, h⟩ => by
    unfold gSlot at he
    split at he
    · rename_i hl
      cases he
      have hlen : i < σ.length := by rw [← S.lens]; exact hl.1
      exact h _ H A ⟨List.length_set, fun j n => by rw [getσ_set hlen, if_neg (fun z : i = j => by subst z; exact n hv)]⟩ (S.setV hlen r) Grow.refl
    · cases he
theorem jgs_nil : JGs X vs [] [] := impGs pgs_nil fun v σ H Q ⟨env, A, F, ds, S, r, e', he, h⟩ => by
  cases ds with
  | cons d ds => cases he
  | nil => cases r; cases he; exact ⟨rfl, h σ H A ButVs.refl S Grow.refl⟩
theorem jgs_cons {e : Expr} {es : List Expr} {g : Gx} {gs : List Gx} (h : JG X vs e g) (k : JGs X vs es gs) (hs : (assignEach (e :: es) X.env).map (·.2) = assign e X.env :: (assignEach es X.env).map (·.2) := by rfl) : JGs X vs (e :: es) (g :: gs) :=
  impGs (pgs_cons h k hs) fun v σ H Q ⟨env, A, F, ds, S, r, e', he, q⟩ => by
    cases ds with
    | nil => cases he
    | cons d ds =>
      cases r with
      | cons r1 r2 =>
        unfold gAll at he
        cases hg : g d env with
        | none => rw [hg] at he; cases he
        | some e2 =>
          rw [hg] at he
          refine ⟨_, _, rfl, env, A, F, d, S, r1, e2, hg, fun σ' H' A' b S' g' => ?_⟩
          exact ⟨e2, A', F, ds, S', r2.same g'.1, e', he, fun σ2 H2 A2 b2 S2 g2 => q σ2 H2 A2 (b.trans b2) S2 (g'.trans g2)⟩
theorem jg_tup {es : List Expr} {k : Nat} {gs : List Gx} {n : Nat} (hc : X.calm = true) (h : JGs X vs es gs) (hn : (assignEach es X.env).length = n := by rfl) (hst : (assignEach es X.env).findIdx? (·.1) = none := by rfl) (hg : gs.length = n := by rfl) : JG X vs (.Tuple es k pos) (gTupM gs) :=
  impG (pg_tup hc h hn hst) fun v σ H Q ⟨env, A, F, d, S, r, e', he, q⟩ => by
    cases d <;> first | cases he | skip
    rename_i ds
    cases r with
    | tup s1 r1 =>
      have hl : ∀ (gs : List Gx) (ds : List D) (e e' : En), gAll gs ds e = some e' → ds.length = gs.length := by
        intro gs
        induction gs with
        | nil => intro ds e e' h; cases ds with | nil => rfl | cons d ds => cases h
        | cons g gs ih =>
          intro ds e e' h
          cases ds with
          | nil => cases h
          | cons d ds =>
            unfold gAll at h
            cases hg : g d e with
            | none => rw [hg] at h; cases h
            | some e2 => rw [hg] at h; exact congrArg Nat.succ (ih ds e2 e' h)
      exact ⟨_, _, rfl, (Or.inl (.inl (S.subA _ _ s1))), by rw [r1.length, hl gs ds env e' he, hg], env, A, F, ds, S, r1, e', he, q⟩
end
abbrev Ix := En → Out En (List D)
def Walks (K : Fg) (J : It) (ds : List D) (A : Hp) : Prop := ∀ (i : Nat) (H A2 : Hp), Same A A2 → Same A2 H → (∀ d, ds[i]? = some d → J.go i H ∧ ∀ x H2, J.yld i H x H2 → ∃ A3, Ext A2 H A3 H2 ∧ Rep K A3 x d) ∧ (ds.length ≤ i → J.stop i H)
def tJI (K : Fg) (mg : Str → Option Value) (E : Sl → XK) (f : Ix) : TI := fun σ H R => ∃ env A F, SOk K F σ env H A ∧ match f env with
  | .ok ds env' => ∀ J H' A', SOk K F σ env' H' A' → Grow F A A' → Walks K J ds A' → R J H'
  | .exc n env' => ∀ C H' A', mg n = some (.ref C) → SOk K F σ env' H' A' → Grow F A A' → E σ (.ref C) none H'
  | .bad => False
abbrev JI (X : Cx) (E : Sl → XK) (tg iter : Expr) (f : Ix) : Prop := PI X tg iter (tJI X.K X.mg E f)
theorem impI {X : Cx} {tg it : Expr} {t t' : TI} (h : PI X tg it t) (i : ∀ σ H R, t' σ H R → t σ H R) : PI X tg it t' := ⟨fun p s σ H R I w => h.run p s σ H R I (i σ H R w)⟩
def iLst (f : Ex) : Ix := fun env => (f env).bind fun o e => match frz1 o e with
  | some (.list ds, e2) => .ok ds e2
  | _ => .bad
def iTupM (f : Ex) : Ix := fun env => (f env).bind fun o e => match frz1 o e with
  | some (.tuple ds, e2) => .ok ds e2
  | _ => .bad
def iRg1 (f : Ax) : Ix := fun env => (f env).bind fun os e => match resAll os e with
  | some [.int n] => if -(2 ^ 62) ≤ n ∧ n < 2 ^ 62 then .ok (rangeD 0 n) e else .bad
  | _ => .bad
def iRg2 (f : Ax) : Ix := fun env => (f env).bind fun os e => match resAll os e with
  | some [.int m, .int n] => if (-(2 ^ 62) ≤ m ∧ m < 2 ^ 62) ∧ -(2 ^ 62) ≤ n ∧ n < 2 ^ 62 then .ok (rangeD m n) e else .bad
  | _ => .bad
def enumD (ds : List D) : List D := List.zipWith (fun (i : Nat) d => .tuple [.int (i : Int), d]) (List.range ds.length) ds
def zipD (xs ys : List D) : List D := List.zipWith (fun x y => .tuple [x, y]) xs ys
def iEnumM (f : Ax) : Ix := fun env => (f env).bind fun os e => match frzAll os e with
  | some ([.list ds], e2) => .ok (enumD ds) e2
  | _ => .bad
def iZipM (f : Ax) : Ix := fun env => (f env).bind fun os e => match frzAll os e with
  | some ([.list xs, .list ys], e2) => .ok (zipD xs ys) e2
  | _ => .bad
section
variable {K : Fg} {A : Hp}
theorem walks_list {a : Addr} {xs : List V} {ds : List D} (s : SqL K A a xs) (r : Reps K A xs ds) : Walks K (Itl K a) ds A := fun i H A2 h1 h2 => by
  have sH := (h1.trans h2).seq s
  refine ⟨fun d hd => ?_, fun hl => ⟨xs, sH, by rw [r.length]; exact hl⟩⟩
  obtain ⟨x, hx, rx⟩ := r.get hd
  refine ⟨⟨xs, x, sH, hx⟩, fun y H2 hy => ?_⟩
  obtain ⟨rfl, hy⟩ := hy
  have := hy xs sH
  rw [hx] at this; cases this
  exact ⟨A2, Ext.refl h2, rx.same h1⟩
theorem walks_range {lo hi : Int} : Walks K (Itr lo (hi - lo).toNat) (rangeD lo hi) A := fun i H A2 h1 h2 => by
  unfold rangeD
  refine ⟨fun d hd => ?_, fun hl => (by simpa using hl : (hi - lo).toNat ≤ i)⟩
  rw [List.getElem?_map] at hd
  obtain ⟨j, hj, rfl⟩ := Option.map_eq_some_iff.mp hd
  obtain ⟨h3, h4⟩ := List.getElem?_eq_some_iff.mp hj
  rw [List.getElem_range] at h4
  subst h4
  refine ⟨(by simpa using h3 : i < (hi - lo).toNat), fun x H2 hy => ?_⟩
  obtain ⟨rfl, rfl⟩ := hy
  exact ⟨A2, Ext.refl h2, .int _⟩
theorem reps_pair {A : Hp} {x y : V} {d e : D} (h : Rep K A x d) (k : Rep K A y e) : Reps K A [x, y] [d, e] := .cons h (.cons k .nil)
theorem walks_enum {a : Addr} {xs : List V} {ds : List D} (s : SqL K A a xs) (r : Reps K A xs ds) : Walks K (Ite K a) (enumD ds) A := fun i H A2 h1 h2 => by
  have sH := (h1.trans h2).seq s
  refine ⟨fun d hd => ?_, fun hl => ⟨xs, sH, by rw [r.length]; simpa [enumD] using hl⟩⟩
  unfold enumD at hd
  rw [List.getElem?_zipWith] at hd
  cases h3 : (List.range ds.length)[i]? with
  | none => rw [h3] at hd; simp at hd
  | some j =>
    rw [h3] at hd
    cases h4 : ds[i]? with
    | none => rw [h4] at hd; simp at hd
    | some d' =>
      rw [h4] at hd
      simp at hd
      obtain ⟨h5, h6⟩ := List.getElem?_eq_some_iff.mp h3
      rw [List.getElem_range] at h6
      subst h6 hd
      obtain ⟨x, hx, rx⟩ := r.get h4
      refine ⟨⟨xs, x, sH, hx⟩, fun y H2 hy => ?_⟩
      obtain ⟨T, x', rfl, nT, rfl, hy⟩ := hy
      have := hy xs sH
      rw [hx] at this; cases this
      have ex := ext_frozen (o := .tup [.int (i : Nat), x]) h2 nT
      exact ⟨_, ex, .tup upd_same (reps_pair (.int _) (rx.same (h1.trans ex.aa)))⟩
end
section
variable {X : Cx} {E : Sl → XK} {tg e e2 : Expr} {f : Ex} {fa : Ax} {p pos tpos : Pos} {elts : List Expr} {kk : Nat}
theorem tJI_ex {K : Fg} {mg : Str → Option Value} {f : Ex} {k : Op → En → Out En (List D)} {σ : Sl} {H : Hp} {R : It → Hp → Prop} {Q : VK} (h : tJI K mg E (fun env => (f env).bind k) σ H R)
    (hk : ∀ o e v H' A' F, SOk K F σ e H' A' → OpOk K F A' H' σ e v o → (match k o e with
      | .ok ds env' => ∀ J H2 A2, SOk K F σ env' H2 A2 → Grow F A' A2 → Walks K J ds A2 → R J H2
      | .exc n env' => ∀ C H2 A2, mg n = some (.ref C) → SOk K F σ env' H2 A2 → Grow F A' A2 → E σ (.ref C) none H2
      | .bad => False) → Q v H') : tJ K mg E f σ H Q := by
  obtain ⟨env, A, F, S, h⟩ := h
  refine ⟨env, A, F, S, ?_⟩
  simp only at h
  cases e : f env with
  | bad => rw [e] at h; exact h
  | exc n e' => rw [e] at h; exact h
  | ok o e' =>
    rw [e] at h
    intro v H' A' S' g' r'
    refine hk o e' v H' A' F S' r' ?_
    simp only [Out.bind] at h
    cases e3 : k o e' with
    | bad => rw [e3] at h; exact h
    | exc n e4 => rw [e3] at h; exact fun C H2 A2 m S2 g2 => h C H2 A2 m S2 (g'.trans g2)
    | ok ds e4 => rw [e3] at h; exact fun J H2 A2 S2 g2 => h J H2 A2 S2 (g'.trans g2)
theorem tJI_ax {K : Fg} {mg : Str → Option Value} {f : Ax} {k : List Op → En → Out En (List D)} {σ : Sl} {H : Hp} {R : It → Hp → Prop} {Q : List V → Hp → Prop} (h : tJI K mg E (fun env => (f env).bind k) σ H R)
    (hk : ∀ o e v H' A' F, SOk K F σ e H' A' → OpsOk K F A' H' σ e o v → (match k o e with
      | .ok ds env' => ∀ J H2 A2, SOk K F σ env' H2 A2 → Grow F A' A2 → Walks K J ds A2 → R J H2
      | .exc n env' => ∀ C H2 A2, mg n = some (.ref C) → SOk K F σ env' H2 A2 → Grow F A' A2 → E σ (.ref C) none H2
      | .bad => False) → Q v H') : tJA K mg E f σ H Q := by
  obtain ⟨env, A, F, S, h⟩ := h
  refine ⟨env, A, F, S, ?_⟩
  simp only at h
  cases e : f env with
  | bad => rw [e] at h; exact h
  | exc n e' => rw [e] at h; exact h
  | ok o e' =>
    rw [e] at h
    intro v H' A' S' g' r'
    refine hk o e' v H' A' F S' r' ?_
    simp only [Out.bind] at h
    cases e3 : k o e' with
    | bad => rw [e3] at h; exact h
    | exc n e4 => rw [e3] at h; exact fun C H2 A2 m S2 g2 => h C H2 A2 m S2 (g'.trans g2)
    | ok ds e4 => rw [e3] at h; exact fun J H2 A2 S2 g2 => h J H2 A2 S2 (g'.trans g2)
theorem ji_list (h : JP X E e f) : JI X E tg e (iLst f) := impI (pi_list h) fun σ H R q => tJI_ex (k := fun o e => match frz1 o e with | some (.list ds, e2) => .ok ds e2 | _ => .bad) q fun o e v H' A' F S r k => by
  split at k
  · rename_i h1
    split at h1
    · rename_i hf
      cases h1
      obtain ⟨A2, S2, g2, r2, _⟩ := frz1_ok S r hf
      cases r2 with
      | lst s1 r1 => exact ⟨_, rfl, ⟨_, S2.subA.seq s1⟩, k _ H' A2 S2 g2 (walks_list s1 r1)⟩
    · cases h1
  · rename_i h1
    split at h1 <;> cases h1
  · exact k.elim
theorem ji_range1 (hg : Gl X "range") (hm : X.mg "range" = none) (ha : JA X E [e] fa) (hs : starEach [e] X.env = [(false, eval e X.env)] := by rfl) : JI X E tg (.Call (.Name "range" p) [e] [] pos) (iRg1 fa) :=
  impI (pi_range1 hg hm ha hs) fun σ H R q => tJI_ax (k := fun os e => match resAll os e with | some [.int n] => if -(2 ^ 62) ≤ n ∧ n < 2 ^ 62 then .ok (rangeD 0 n) e else .bad | _ => .bad) q fun o e v H' A' F S r k => by
    split at k
    · rename_i h1
      split at h1
      · rename_i hr
        split at h1
        · rename_i hb
          cases h1
          have w := r.views S hr
          obtain ⟨x, rfl, wx⟩ := Pv1 w
          refine ⟨_, by rw [wx.int], hb.1, hb.2, ?_⟩
          have := k _ H' A' S Grow.refl (walks_range (lo := 0))
          rw [Int.sub_zero] at this
          exact this
        · cases h1
      · cases h1
    · rename_i h1
      split at h1
      · split at h1 <;> cases h1
      · cases h1
    · exact k.elim
theorem ji_enum (hg : Gl X "enumerate") (hm : X.mg "enumerate" = none) (ha : JA X E [e] fa) (hs : starEach [e] X.env = [(false, eval e X.env)] := by rfl) : JI X E (.Tuple elts kk tpos) (.Call (.Name "enumerate" p) [e] [] pos) (iEnumM fa) :=
  impI (pi_enum hg hm ha hs) fun σ H R q => tJI_ax (k := fun os e => match frzAll os e with | some ([.list ds], e2) => .ok (enumD ds) e2 | _ => .bad) q fun o e v H' A' F S r k => by
    split at k
    · rename_i h1
      split at h1
      · rename_i hf
        cases h1
        obtain ⟨A2, S2, g2, r2⟩ := frzAll_ok S r hf
        cases r2 with
        | cons a b =>
          cases b
          cases a with
          | lst s1 r1 => exact ⟨_, _, rfl, S2.subA.seq s1, k _ H' A2 S2 g2 (walks_enum s1 r1)⟩
      · cases h1
    · rename_i h1
      split at h1 <;> cases h1
    · exact k.elim
end
def fLoop (g : Gx) (b : Sx) : List D → Sx
  | [] => fun env => .ok .nx env
  | d :: ds => fun env => match g d env with
    | none => .bad
    | some e1 => (b e1).bind fun fl e2 => (match fl with
      | .nx => fLoop g b ds e2
      | .ct => fLoop g b ds e2
      | .bk => .ok .nx e2
      | .rt o => .ok (.rt o) e2)
def sFor (fi : Ix) (g : Gx) (b : Sx) : Sx := fun env => (fi env).bind fun ds e => fLoop g b ds e
theorem js_for {X : Cx} {E : Sl → XK} {pos : Pos} {tg iter : Expr} {body : List Stmt} {vs : List Nat} {fi : Ix} {g : Gx} {b : Sx} (hp : PassesOwn (model X.prog X.w) X.A X.env X.xe) (hc : X.calm = true) (hi : JI X E tg iter fi) (hg : JG X vs tg g) (hb : JB X E body b)
    (hs : ∀ x, foldedSetIterable iter X.env x = pure x := by intro _; rfl) : JS X E (.For tg iter body [] pos) (sFor fi g b) := by
  refine impS (ps_for hp hc hi hg hb hs) fun Z σ H ⟨env, A, F, S, h⟩ => ?_
  refine ⟨env, A, F, S, ?_⟩
  unfold sFor at h
  cases e : fi env with
  | bad => rw [e] at h; exact h
  | exc n e' => rw [e] at h; exact fun C H' A' m S' g' => h C σ H' A' m S' g'
  | ok ds e' =>
    rw [e] at h
    intro J H1 A1 S1 g1 w
    refine ⟨fun i m σ H => ∃ env A, SOk X.K F σ env H A ∧ Same A1 A ∧ m = ds.length - i ∧ i ≤ ds.length ∧ LS X.K X.mg E F A Z (fLoop g b (ds.drop i) env), ⟨_, e', A1, S1, Same.refl A1, rfl, Nat.zero_le _, by simpa using LS.grow h g1⟩, ?_⟩
    rintro i m σ H ⟨env, A, S, sA, rfl, hi, q⟩
    obtain ⟨w1, w2⟩ := w i H A sA S.subA
    by_cases hlt : i < ds.length
    · refine .inr ?_
      obtain ⟨go, yl⟩ := w1 ds[i] (List.getElem?_eq_getElem hlt)
      rw [List.drop_eq_getElem_cons hlt] at q
      refine ⟨go, fun σ' H' => ∃ env A, SOk X.K F σ' env H' A ∧ Same A1 A ∧ LS X.K X.mg E F A Z (fLoop g b (ds.drop (i + 1)) env), fun σ' H' ⟨env, A, a1, a2, a4⟩ => ⟨_, by omega, env, A, a1, a2, rfl, hlt, a4⟩, fun x H2 hy => ?_⟩
      obtain ⟨A3, ex, rx⟩ := yl x H2 hy
      unfold fLoop at q
      cases hg2 : g ds[i] env with
      | none => rw [hg2] at q; exact q.elim
      | some e1 =>
        rw [hg2] at q
        simp only at q
        refine ⟨env, A3, F, ds[i], S.ext ex, rx, e1, hg2, fun σ3 H3 A4 bv S3 g3 => ⟨e1, A4, F, S3, ?_⟩⟩
        have q2 := LS.grow q ((ex.grow S.subF).trans g3)
        have sm : Same A1 A4 := sA.trans (ex.aa.trans g3.1)
        cases he : b e1 with
        | bad => rw [he] at q2; exact q2
        | exc n e2 => rw [he] at q2; exact q2
        | ok fl e2 =>
          rw [he] at q2
          cases fl with
          | nx => exact fun σ' H' A' S' g' => ⟨e2, A', S', sm.trans g'.1, LS.grow q2 g'⟩
          | ct => exact fun σ' H' A' S' g' => ⟨e2, A', S', sm.trans g'.1, LS.grow q2 g'⟩
          | bk => exact q2
          | rt o => exact q2
    · have e0 : i = ds.length := by omega
      subst e0
      rw [List.drop_length] at q
      exact .inl ⟨w2 (Nat.le_refl _), q σ H A S Grow.refl⟩
end T3
namespace T3
open PySem PySem.Spec PyProof.Rows L2
def wipeE (e : En) : List Nat → En
  | [] => e
  | v :: vs => (wipeE e vs).set v .no
def noX {S α : Type} : Out S α → Out S α
  | .exc _ _ => .bad
  | o => o
def restore (e1 e2 : En) : List Nat → Option En
  | [] => some e2
  | v :: vs => match e1.getD v .no with
    | .own _ => none
    | .par _ => none
    | c => (restore e1 e2 vs).map fun e => e.set v c
def lcLoop (g : Gx) (tt : Tx) (fe : Ex) (vs : List Nat) : List D → List D → En → Out En (List D)
  | [], acc, e => .ok acc e
  | d :: ds, acc, e => match g d e with
    | none => .bad
    | some e2 => (noX (tt e2)).bind fun c e3 => if c = true then (noX (fe e3)).bind fun o e4 => (match frz1 o e4 with
      | some (y, e5) => if acc.length < sizeLine then lcLoop g tt fe vs ds (acc ++ [y]) (wipeE e5 vs) else .bad
      | none => .bad) else lcLoop g tt fe vs ds acc (wipeE e3 vs)
def eLc (vs : List Nat) (fi : Ix) (g : Gx) (tt : Tx) (fe : Ex) : Ex := fun env => (fi env).bind fun ds e1 => (lcLoop g tt fe vs ds [] (wipeE e1 vs)).bind fun l e2 => match restore e1 e2 vs with
  | some e3 => .ok (.new (.list l)) e3
  | none => .bad
def tYesM : Tx := fun env => .ok true env
theorem wipe_get {σ : Sl} {j : Nat} : ∀ {vs : List Nat}, (wipe σ vs)[j]? = if j ∈ vs ∧ j < σ.length then some none else σ[j]?
  | [] => by simp [wipe]
  | v :: vs => by
    unfold wipe
    rw [List.getElem?_set, wipe_get, wipe_length]
    by_cases h : v = j
    · subst h
      by_cases hl : v < σ.length
      · simp [hl]
      · simp [hl]
    · have : j ≠ v := fun z => h z.symm
      simp [h, this]
theorem wipe_but {σ σ' : Sl} {vs : List Nat} (b : ButVs vs σ σ') : wipe σ' vs = wipe σ vs := by
  apply List.ext_getElem?
  intro j
  rw [wipe_get, wipe_get, b.1]
  by_cases h : j ∈ vs
  · by_cases hl : j < σ.length
    · simp [h, hl]
    · have h1 : σ.length ≤ j := by omega
      have h2 : σ'.length ≤ j := by rw [b.1]; exact h1
      rw [List.getElem?_eq_none h1, List.getElem?_eq_none h2]
  · rw [b.2 j h]
theorem wipe_wipe {σ : Sl} {vs : List Nat} : wipe (wipe σ vs) vs = wipe σ vs := wipe_but ⟨wipe_length σ vs, fun j h => by rw [wipe_get]; simp [h]⟩
theorem wipeE_len (e : En) : ∀ vs : List Nat, (wipeE e vs).length = e.length
  | [] => rfl
  | v :: vs => by unfold wipeE; rw [List.length_set, wipeE_len e vs]
theorem wipeE_get {e : En} {j : Nat} : ∀ {vs : List Nat}, (wipeE e vs).getD j .no = if j ∈ vs then .no else e.getD j .no
  | [] => by simp [wipeE]
  | v :: vs => by
    unfold wipeE
    rw [set_getD, wipeE_get, wipeE_len]
    by_cases h : v = j
    · subst h
      by_cases hl : v < e.length
      · simp [hl]
      · have h0 : e.getD v .no = .no := by rw [List.getD_eq_getElem?_getD, List.getElem?_eq_none (by omega)]; rfl
        simp [hl]
    · have : j ≠ v := fun z => h z.symm
      simp [h, this]
theorem restore_get {e1 e2 e3 : En} : ∀ {vs : List Nat}, restore e1 e2 vs = some e3 → e3.length = e2.length ∧ (∀ j, j ∉ vs → e3.getD j .no = e2.getD j .no) ∧ ∀ j, j ∈ vs → j < e2.length → e3.getD j .no = e1.getD j .no ∧ ∀ d, e1.getD j .no ≠ .own d ∧ e1.getD j .no ≠ .par d
  | [], h => by cases h; exact ⟨rfl, fun _ _ => rfl, fun j hj => by simp at hj⟩
  | v :: vs, h => by
    unfold restore at h
    have key : ∀ c, (∀ d, c ≠ .own d ∧ c ≠ .par d) → e1.getD v .no = c → (restore e1 e2 vs).map (fun e => e.set v c) = some e3 → e3.length = e2.length ∧ (∀ j, j ∉ v :: vs → e3.getD j .no = e2.getD j .no) ∧ ∀ j, j ∈ v :: vs → j < e2.length → e3.getD j .no = e1.getD j .no ∧ ∀ d, e1.getD j .no ≠ .own d ∧ e1.getD j .no ≠ .par d := by
      intro c hc hv hm
      obtain ⟨e, he, rfl⟩ := Option.map_eq_some_iff.mp hm
      obtain ⟨l, h1, h2⟩ := restore_get he
      refine ⟨by rw [List.length_set, l], fun j hj => ?_, fun j hj hl => ?_⟩
      · simp only [List.mem_cons, not_or] at hj
        rw [set_getD, if_neg (fun z => hj.1 z.1.symm)]
        exact h1 j hj.2
      · rw [set_getD]
        by_cases e0 : v = j
        · subst e0
          rw [if_pos ⟨rfl, by rw [l]; exact hl⟩, hv]
          exact ⟨rfl, hc⟩
        · rw [if_neg (fun z => e0 z.1)]
          rcases List.mem_cons.mp hj with z | z
          · exact absurd z.symm e0
          · exact h2 j z hl
    cases hh : e1.getD v .no with
    | own d => rw [hh] at h; cases h
    | par d => rw [hh] at h; cases h
    | no => rw [hh] at h; exact key _ (fun d => ⟨(fun z => by cases z), (fun z => by cases z)⟩) hh h
    | v d => rw [hh] at h; exact key _ (fun d => ⟨(fun z => by cases z), (fun z => by cases z)⟩) hh h
    | raw d => rw [hh] at h; exact key _ (fun d => ⟨(fun z => by cases z), (fun z => by cases z)⟩) hh h
section
variable {K : Fg} {F A H : Hp} {σ : Sl} {env : En}
theorem SOk.wipe (S : SOk K F σ env H A) (vs : List Nat) : SOk K F (L2.wipe σ vs) (wipeE env vs) H A where
  subA := S.subA
  subF := S.subF
  lens := by rw [wipe_length, wipeE_len]; exact S.lens
  nomk := S.nomk
  cell := fun j => by
    rw [wipeE_get]
    by_cases h : j ∈ vs
    · rw [if_pos h]; trivial
    · rw [if_neg h, wipe_get, if_neg (fun z => h z.1)]; exact S.cell j
  apart := fun j k d1 d2 p h1 h2 h3 h4 => by
    rw [wipeE_get] at h1 h2
    split at h1
    · cases h1
    · rename_i n1
      split at h2
      · cases h2
      · rename_i n2
        rw [wipe_get, if_neg (fun z => n1 z.1)] at h3
        rw [wipe_get, if_neg (fun z => n2 z.1)] at h4
        exact S.apart j k d1 d2 p h1 h2 h3 h4
/-- a new thing that F is to hold -/
theorem SOk.held (S : SOk K F σ env H A) {p : Addr} {xs : List V} (n : H p = none) : SOk K (upd F p (.lst xs)) σ env (upd H p (.lst xs)) A where
  nomk := fun b i z => S.nomk b i (mk_upd lst_mk b i z)
  subA := fun b u e => by rw [upd_ne (ne_of_none (S.subA b u e) n)]; exact S.subA b u e
  subF := fun b u e => by
    by_cases hb : b = p
    · subst hb; rw [upd_same] at e ⊢; exact .inl e
    · rw [upd_ne hb] at e ⊢; exact S.subF b u e
  lens := S.lens
  apart := S.apart
  cell := fun j => by
    have hc := S.cell j
    cases hh : env.getD j .no with
    | no => trivial
    | v d => rw [hh] at hc; exact hc
    | raw d => rw [hh] at hc; exact hc
    | own d =>
      rw [hh] at hc
      obtain ⟨q, a, b, c, e⟩ := hc
      obtain ⟨u, hu⟩ := e.mut
      have hq : q ≠ p := ne_of_none hu n
      exact ⟨q, a, b, by rw [upd_ne hq]; exact c, e.move (Same.refl A) (by rw [upd_ne hq])⟩
    | par d =>
      rw [hh] at hc
      obtain ⟨q, a, b, c, e⟩ := hc
      obtain ⟨u, hu⟩ := e.mut
      have hq : q ≠ p := ne_of_none hu n
      exact ⟨q, a, b, by rw [upd_ne hq]; exact c, e.move (Same.refl A) (by rw [upd_ne hq])⟩
theorem SOk.bump {p : Addr} {xs : List V} (S : SOk K (upd F p (.lst xs)) σ env H A) (hA : A p = none) (ys : List V) : SOk K (upd F p (.lst ys)) σ env (upd H p (.lst ys)) A where
  nomk := fun b i z => S.nomk b i (mk_upd lst_mk b i z)
  subA := fun b u e => by rw [upd_ne (ne_of_none e hA)]; exact S.subA b u e
  subF := fun b u e => by
    by_cases hb : b = p
    · subst hb; rw [upd_same] at e ⊢; exact .inl e
    · rw [upd_ne hb] at e ⊢; exact S.subF b u (by rw [upd_ne hb]; exact e)
  lens := S.lens
  apart := S.apart
  cell := fun j => by
    have hc := S.cell j
    cases hh : env.getD j .no with
    | no => trivial
    | v d => rw [hh] at hc; exact hc
    | raw d => rw [hh] at hc; exact hc
    | own d =>
      rw [hh] at hc
      obtain ⟨q, a, b, c, e⟩ := hc
      have hq : q ≠ p := fun z => by subst z; rw [upd_same] at c; cases c
      exact ⟨q, a, b, by rw [upd_ne hq] at c ⊢; exact c, e.move (Same.refl A) (by rw [upd_ne hq])⟩
    | par d =>
      rw [hh] at hc
      obtain ⟨q, a, b, c, e⟩ := hc
      have hq : q ≠ p := fun z => by subst z; rw [upd_same] at c; cases c
      exact ⟨q, a, b, by rw [upd_ne hq] at c ⊢; exact c, e.move (Same.refl A) (by rw [upd_ne hq])⟩
theorem SOk.lower {p : Addr} {xs : List V} (S : SOk K (upd F p (.lst xs)) σ env H A) (hF : F p = none) : SOk K F σ env H A := S.weakF (low_upd hF lst_mk)
end
section
variable {K : Fg} {mg : Str → Option Value} {E : Sl → XK} {E0 : Sl → XK} {vs : List Nat} {fi : Ix} {g : Gx} {tt : Tx} {fe : Ex} {σ : Sl} {H : Hp}
theorem tJ_lc {Q : VK} (h : tJ K mg E (eLc vs fi g tt fe) σ H Q) : tLc (tJI K mg E fi) (tGJ K vs g) (tJT K mg E0 tt) (tJ K mg E0 fe) vs σ H Q := by
  obtain ⟨env, A, F, S, h⟩ := h
  refine ⟨env, A, F, S, ?_⟩
  unfold eLc at h
  cases e : fi env with
  | bad => rw [e] at h; exact h
  | exc n e' => rw [e] at h; exact h
  | ok ds e1 =>
    rw [e] at h
    intro J H1 A1 S1 g1 w P nP
    have FP : F P = none := S1.subF.free nP
    have AP : A1 P = none := S1.subA.free nP
    have fin : ∀ (l : List D) (e2 : En) (H' A' : Hp) (vsL : List V), lcLoop g tt fe vs ds [] (wipeE e1 vs) = .ok l e2 → SOk K (upd F P (.lst vsL)) (wipe σ vs) e2 H' A' → Grow F A1 A' → Reps K A' vsL l → A' P = none → Q (.ref P) H' := by
      intro l e2 H' A' vsL hl S' g' r' a'
      simp only [Out.bind] at h
      rw [hl] at h
      simp only at h
      cases hr : restore e1 e2 vs with
      | none => rw [hr] at h; exact h.elim
      | some e3 =>
        rw [hr] at h
        obtain ⟨l3, n3, m3⟩ := restore_get hr
        have le2 : e2.length = σ.length := by rw [S'.lens, wipe_length]
        have S3 : SOk K (upd F P (.lst vsL)) σ e3 H' A' := ⟨S'.subA, S'.subF, fun j => ?_, fun j k d1 d2 p h1 h2 h3 h4 => ?_, by rw [l3, le2], S'.nomk⟩
        · have hP : H' P = some (.lst vsL) := S'.subF.lst upd_same lst_mk
          refine h (.ref P) H' A' (S3.lower FP) (g1.trans g') ⟨P, rfl, a', FP, ⟨vsL, hP, r'⟩, fun j d hj hs => ?_⟩
          obtain ⟨q, a, b, c, _⟩ := S3.ownA hj
          rw [hs] at a; cases a
          rw [upd_same] at c; cases c
        · by_cases hj : j ∈ vs
          · by_cases hl : j < e2.length
            · obtain ⟨q1, q2⟩ := m3 j hj hl
              rw [q1]
              have hc := S1.cell j
              cases hh : e1.getD j .no with
              | no => trivial
              | raw v => rw [hh] at hc; exact hc
              | v d => rw [hh] at hc; obtain ⟨v, a, b⟩ := hc; exact ⟨v, a, b.same g'.1⟩
              | own d => exact absurd hh (q2 d).1
              | par d => exact absurd hh (q2 d).2
            · have : e3.getD j .no = .no := by rw [List.getD_eq_getElem?_getD, List.getElem?_eq_none (by rw [l3]; omega)]; rfl
              rw [this]; trivial
          · rw [n3 j hj]
            have hc := S'.cell j
            rw [wipe_get, if_neg (fun z => hj z.1)] at hc
            exact hc
        · have nj : ∀ j d, e3.getD j .no = .own d → j ∉ vs := fun j d hj hm => by
            have hl : j < e2.length := by rw [← l3]; exact getD_lt (by rw [hj]; exact fun z => nomatch z)
            obtain ⟨q1, q2⟩ := m3 j hm hl
            exact (q2 d).1 (q1.symm.trans hj)
          have a1 := nj j d1 h1
          have a2 := nj k d2 h2
          exact S'.apart j k d1 d2 p ((n3 j a1).symm.trans h1) ((n3 k a2).symm.trans h2) (by rw [wipe_get, if_neg (fun z => a1 z.1)]; exact h3) (by rw [wipe_get, if_neg (fun z => a2 z.1)]; exact h4)
    have notbad : ∀ r, lcLoop g tt fe vs ds [] (wipeE e1 vs) = r → (∃ l e2, r = .ok l e2) := by
      intro r hr
      have nx : ∀ (ds acc : List D) (e : En) (n : Str) (e' : En), lcLoop g tt fe vs ds acc e ≠ .exc n e' := by
        intro ds
        induction ds with
        | nil => intro acc e n e' z; cases z
        | cons d ds ih =>
          intro acc e n e' z
          unfold lcLoop at z
          cases hg : g d e with
          | none => rw [hg] at z; cases z
          | some e2 =>
            rw [hg] at z
            simp only at z
            cases ht : tt e2 with
            | bad => rw [ht] at z; cases z
            | exc a b => rw [ht] at z; cases z
            | ok c e3 =>
              rw [ht] at z
              simp only [noX, Out.bind] at z
              split at z
              · cases hf : fe e3 with
                | bad => rw [hf] at z; cases z
                | exc a b => rw [hf] at z; cases z
                | ok o e4 =>
                  rw [hf] at z
                  simp only [Out.bind] at z
                  split at z
                  · split at z
                    · exact ih _ _ _ _ z
                    · cases z
                  · cases z
              · exact ih _ _ _ _ z
      cases r with
      | ok l e2 => exact ⟨l, e2, rfl⟩
      | bad => simp only [Out.bind] at h; rw [hr] at h; exact h.elim
      | exc n e' => exact absurd hr (nx _ _ _ _ _)
    obtain ⟨l, e2, hl⟩ := notbad _ rfl
    refine ⟨fun i m H => ∃ env A vsL acc, SOk K (upd F P (.lst vsL)) (wipe σ vs) env H A ∧ Grow F A1 A ∧ Reps K A vsL acc ∧ A P = none ∧ m = ds.length - i ∧ i ≤ ds.length ∧ lcLoop g tt fe vs (ds.drop i) acc env = .ok l e2,
      ⟨_, wipeE e1 vs, A1, [], [], (S1.held nP).wipe vs, Grow.refl, .nil, AP, rfl, Nat.zero_le _, by simpa using hl⟩, ?_⟩
    rintro i m H2 ⟨env2, A2, vsL, acc, S2, g2, r2, a2, rfl, hi, q⟩
    obtain ⟨w1, w2⟩ := w i H2 A2 g2.1 S2.subA
    by_cases hlt : i < ds.length
    · refine .inr ?_
      obtain ⟨go, yl⟩ := w1 ds[i] (List.getElem?_eq_getElem hlt)
      rw [List.drop_eq_getElem_cons hlt] at q
      refine ⟨go, fun H' => ∃ env A vsL acc, SOk K (upd F P (.lst vsL)) (wipe σ vs) env H' A ∧ Grow F A1 A ∧ Reps K A vsL acc ∧ A P = none ∧ lcLoop g tt fe vs (ds.drop (i + 1)) acc env = .ok l e2, fun H' ⟨a, b, c, d, q1, q2, q3, q4, q5⟩ => ⟨_, by omega, a, b, c, d, q1, q2, q3, q4, rfl, hlt, q5⟩, fun x H3 hy => ?_⟩
      obtain ⟨A3, ex, rx⟩ := yl x H3 hy
      have a3 : A3 P = none := (ex.old P (by rw [S2.subF.lst upd_same lst_mk]; rfl)).trans a2
      unfold lcLoop at q
      cases hg : g ds[i] env2 with
      | none => rw [hg] at q; cases q
      | some e3 =>
        rw [hg] at q
        simp only at q
        have gF : ∀ {B C : Hp}, Grow (upd F P (.lst vsL)) B C → Grow F B C := fun k => k.mono (low_upd FP lst_mk)
        refine ⟨env2, A3, _, ds[i], S2.ext ex, rx, e3, hg, fun σ3 H4 A4 bv S4 g4 => ⟨(wipe_but bv).trans wipe_wipe, e3, A4, _, S4, ?_⟩⟩
        have a4 : A4 P = none := (g4.2 P (by rw [upd_same]; rfl)).trans a3
        have ws : wipe σ3 vs = wipe σ vs := (wipe_but bv).trans wipe_wipe
        cases ht : tt e3 with
        | bad => rw [ht] at q; cases q
        | exc a b => rw [ht] at q; cases q
        | ok c e4 =>
          rw [ht] at q
          simp only [noX, Out.bind] at q
          intro H5 A5 S5 g5
          have a5 : A5 P = none := (g5.2 P (by rw [upd_same]; rfl)).trans a4
          cases c with
          | false =>
            rw [if_neg Bool.false_ne_true] at q ⊢
            have S6 := S5.wipe vs
            rw [ws] at S6
            exact ⟨_, A5, vsL, acc, S6, g2.trans ((ex.grow (S2.lower FP).subF).trans ((gF g4).trans (gF g5))), r2.same (ex.aa.trans (g4.1.trans g5.1)), a5, q⟩
          | true =>
            rw [if_pos rfl] at q ⊢
            refine ⟨e4, A5, _, S5, ?_⟩
            cases hf : fe e4 with
            | bad => rw [hf] at q; cases q
            | exc a b => rw [hf] at q; cases q
            | ok o e5 =>
              rw [hf] at q
              simp only [Out.bind] at q
              intro v H6 A6 S6 g6 r6
              have a6 : A6 P = none := (g6.2 P (by rw [upd_same]; rfl)).trans a5
              cases hz : frz1 o e5 with
              | none => rw [hz] at q; cases q
              | some y =>
                obtain ⟨y, e6⟩ := y
                rw [hz] at q
                simp only at q
                by_cases hlen : acc.length < sizeLine
                · rw [if_pos hlen] at q
                  obtain ⟨A7, S7, g7, r7, _⟩ := frz1_ok S6 r6 hz
                  have a7 : A7 P = none := (g7.2 P (by rw [upd_same]; rfl)).trans a6
                  refine ⟨vsL, S7.subF.lst upd_same lst_mk, by rw [r2.length]; exact hlen, ?_⟩
                  have S8 := (S7.wipe vs).bump a7 (vsL ++ [v])
                  rw [ws] at S8
                  refine ⟨_, A7, vsL ++ [v], acc ++ [y], S8, g2.trans ((ex.grow (S2.lower FP).subF).trans ((gF g4).trans ((gF g5).trans ((gF g6).trans (gF g7))))), ?_, a7, q⟩
                  exact (r2.same (ex.aa.trans (g4.1.trans (g5.1.trans (g6.1.trans g7.1))))).append (.cons r7 .nil)
                · rw [if_neg hlen] at q; cases q
    · have e0 : i = ds.length := by omega
      subst e0
      rw [List.drop_length] at q
      cases q
      exact .inl ⟨w2 (Nat.le_refl _), fin l _ H2 A2 vsL hl S2 g2 r2 a2⟩
end
section
variable {X : Cx} {E : Sl → XK} {vs : List Nat} {fi : Ix} {g : Gx} {tt : Tx} {fe : Ex} {elt tg iter : Expr} {ifs : List Expr} {scope : Scope} {own : List (Str × Nat)} {pos : Pos}
abbrev EF : Sl → XK := fun _ _ _ _ => False
abbrev JTs (X : Cx) (E : Sl → XK) (ifs : List Expr) (f : Tx) : Prop := PTs X ifs (tJT X.K X.mg E f)
theorem jts_nil : JTs X E [] tYesM := ⟨fun p s σ H Q I ⟨env, A, F, S, h⟩ => pts_nil.run p s σ H Q I (h H A S Grow.refl)⟩
theorem jts_one {c : Expr} (h : JT X E c tt) : JTs X E [c] tt := pts_one h
theorem jp_lc (hc : X.calm = true) (hN : X.N.Nodup) (hi : JI X E tg iter fi) (ok : BlkOk X.N X.env.scope scope own)
    (hg : ∀ (s : Shared) (H : Hp) (C : Addr) (cl : List (Str × Addr)) (fp : List Addr), JG (X.blk s H scope (compEnvC scope cl C X.env) fp) (own.map (·.2)) tg g)
    (ht : ∀ (s : Shared) (H : Hp) (C : Addr) (cl : List (Str × Addr)) (fp : List Addr), JTs (X.blk s H scope (compEnvC scope cl C X.env) fp) EF ifs tt)
    (he : ∀ (s : Shared) (H : Hp) (C : Addr) (cl : List (Str × Addr)) (fp : List Addr), JP (X.blk s H scope (compEnvC scope cl C X.env) fp) EF elt fe)
    (hs : ∀ x, foldedSetIterable iter X.env x = pure x := by intro _; rfl) : JP X E (.ListComp elt [⟨tg, iter, ifs, 0⟩] scope pos) (eLc (own.map (·.2)) fi g tt fe) :=
  impE (pe_lc hc hN hi ok hg ht he hs) fun _ _ _ h => tJ_lc h
end
end T3
namespace T3
open PySem PySem.Spec PyProof.Rows L2
section
variable {K : Fg} {F A H : Hp} {σ : Sl} {env : En}
/-- a slot's own list (or a lent one) -/
def getM : Cell → Option D
  | .own d => some d
  | .par d => some d
  | _ => none
def setM : Cell → D → Cell
  | .par _, d => .par d
  | _, d => .own d
/-- .. is changed -/
theorem SOk.mutA (S : SOk K F σ env H A) {i : Nat} {d : D} (e : getM (env.getD i .no) = some d) : ∃ p, σ[i]? = some (some (.ref p)) ∧ A p = none ∧ Bod K A H p d ∧
    ∀ o' d', Bod K A (upd H p o') p d' → SOk K F σ (env.set i (setM (env.getD i .no) d')) (upd H p o') A := by
  have hl : i < env.length := getD_lt (by intro z; rw [z] at e; cases e)
  have base : ∃ p, σ[i]? = some (some (.ref p)) ∧ A p = none ∧ Bod K A H p d ∧ (F p = none ∨ F p = some (mkP i)) ∧ (∀ d' H', Bod K A H' p d' → CellOk K F A H' i σ[i]? (setM (env.getD i .no) d')) ∧ ∀ j d2 q, j ≠ i → (env.getD j .no = .own d2 ∨ env.getD j .no = .par d2) → σ[j]? = some (some (.ref q)) → q ≠ p := by
    cases hh : env.getD i .no with
    | no => rw [hh] at e; cases e
    | v d => rw [hh] at e; cases e
    | raw d => rw [hh] at e; cases e
    | own d1 =>
      rw [hh] at e; cases e
      obtain ⟨p, hs, hA, hF, b⟩ := S.ownA hh
      refine ⟨p, hs, hA, b, .inl hF, fun d' H' b' => ⟨p, hs, hA, hF, b'⟩, fun j d2 q hj hc hq z => ?_⟩
      subst z
      rcases hc with hc | hc
      · exact hj (S.apart j i d2 d q hc hh hq hs)
      · obtain ⟨r, x1, x2, x3, x4⟩ := S.parA hc
        rw [hq] at x1; cases x1
        rw [hF] at x3; cases x3
    | par d1 =>
      rw [hh] at e; cases e
      obtain ⟨p, hs, hA, hF, b⟩ := S.parA hh
      refine ⟨p, hs, hA, b, .inr hF, fun d' H' b' => ⟨p, hs, hA, hF, b'⟩, fun j d2 q hj hc hq z => ?_⟩
      subst z
      rcases hc with hc | hc
      · obtain ⟨r, x1, x2, x3, x4⟩ := S.ownA hc
        rw [hq] at x1; cases x1
        rw [hF] at x3; cases x3
      · obtain ⟨r, x1, x2, x3, x4⟩ := S.parA hc
        rw [hq] at x1; cases x1
        rw [hF] at x3
        exact hj (mkP_inj (Option.some.inj x3)).symm
  obtain ⟨p, hs, hA, b, hF, hcell, hne⟩ := base
  refine ⟨p, hs, hA, b, fun o' d' b' => ⟨fun c u q => ?_, fun c u q => ?_, fun j => ?_, fun j k d1 d2 q h1 h2 h3 h4 => ?_, by rw [List.length_set]; exact S.lens, fun c i z => S.nomk c i (mk_upd (b'.notmk upd_same) c i z)⟩⟩
  · rw [upd_ne (ne_of_none q hA)]; exact S.subA c u q
  · by_cases hc : c = p
    · subst hc
      rw [upd_same]
      rcases hF with hF | hF
      · rw [hF] at q; cases q
      · rw [hF] at q; cases q; exact .inr ⟨⟨i, rfl⟩, _, rfl⟩
    · rw [upd_ne hc]; exact S.subF c u q
  · rw [set_getD]
    by_cases h : i = j
    · rw [if_pos ⟨h, hl⟩]; subst h; exact hcell d' _ b'
    · rw [if_neg (fun z => h z.1)]
      have hc := S.cell j
      cases hh : env.getD j .no with
      | no => trivial
      | v d => rw [hh] at hc; exact hc
      | raw d => rw [hh] at hc; exact hc
      | own d2 =>
        rw [hh] at hc
        obtain ⟨q, a1, a2, a3, a4⟩ := hc
        exact ⟨q, a1, a2, a3, a4.move (Same.refl A) (by rw [upd_ne (hne j d2 q (fun z => h z.symm) (.inl hh) a1)])⟩
      | par d2 =>
        rw [hh] at hc
        obtain ⟨q, a1, a2, a3, a4⟩ := hc
        exact ⟨q, a1, a2, a3, a4.move (Same.refl A) (by rw [upd_ne (hne j d2 q (fun z => h z.symm) (.inr hh) a1)])⟩
  · have key : ∀ j d, (env.set i (setM (env.getD i .no) d')).getD j .no = .own d → ∃ d0, env.getD j .no = .own d0 := fun j d hj => by
      rw [set_getD] at hj
      split at hj
      · rename_i hh
        obtain ⟨rfl, _⟩ := hh
        cases hz : env.getD i .no with
        | own d0 => exact ⟨d0, rfl⟩
        | par d0 => rw [hz] at hj; cases hj
        | no => rw [hz] at e; cases e
        | v d0 => rw [hz] at e; cases e
        | raw d0 => rw [hz] at e; cases e
      · exact ⟨d, hj⟩
    obtain ⟨e1, q1⟩ := key j d1 h1
    obtain ⟨e2, q2⟩ := key k d2 h2
    exact S.apart j k e1 e2 q q1 q2 h3 h4
end
/-- x.m(..) where slot i holds x's own list -/
def eMeth (i : Nat) (k : D → List D → Option (D × D)) (fa : Ax) : Ex := fun env => match getM (env.getD i .no) with
  | some (.list _) => (fa env).bind fun os e => (match frzAll os e with
    | some (ds, e2) => (match getM (e2.getD i .no) with
      | some d => (match k d ds with
        | some (r, d') => .ok (.val r) (e2.set i (setM (e2.getD i .no) d'))
        | none => .bad)
      | none => .bad)
    | none => .bad)
  | _ => .bad
def kAppend : D → List D → Option (D × D)
  | .list xs, [y] => if xs.length < sizeLine then some (.none, .list (xs ++ [y])) else none
  | _, _ => none
def kPopAt : D → List D → Option (D × D)
  | .list xs, [.int i] => if -(2 ^ 63) ≤ i ∧ i < 2 ^ 63 then (seqIndex? i xs.length).bind fun k => (xs[k]?).map fun y => (y, .list (xs.eraseIdx k)) else none
  | _, _ => none
def ImplM (K : Fg) (r : V → List V → Hp → VK → Prop) (k : D → List D → Option (D × D)) : Prop := ∀ A H p vs d ds y d' Q, Same A H → Bod K A H p d → Reps K A vs ds → k d ds = some (y, d') →
  (∀ v o', Bod K A (upd H p o') p d' → Rep K A v y → Q v (upd H p o')) → r (.ref p) vs H Q
section
variable {K : Fg} {mg : Str → Option Value} {E : Sl → XK} {i : Nat} {k : D → List D → Option (D × D)} {fa : Ax} {σ : Sl} {H : Hp}
theorem tJ_meth {r : V → List V → Hp → VK → Prop} (hr : ImplM K r k) {Q} (h : tJ K mg E (eMeth i k fa) σ H Q) : tBM K "list" r (tVar i) (tJA K mg E fa) σ H Q := by
  obtain ⟨env, A, F, S, h⟩ := h
  unfold eMeth at h
  cases hh : getM (env.getD i .no) with
  | none => rw [hh] at h; exact h.elim
  | some d =>
    rw [hh] at h
    cases d <;> first | exact h.elim | skip
    obtain ⟨p, hs, hA, ⟨vs0, hb, hr0⟩, _⟩ := S.mutA hh
    refine ⟨.ref p, hs, .inl ⟨rfl, vs0, .inl (.inl hb)⟩, env, A, F, S, ?_⟩
    simp only at h
    cases e : fa env with
    | bad => rw [e] at h; exact h
    | exc n e' => rw [e] at h; exact h
    | ok os e1 =>
      rw [e] at h
      intro vs H1 A1 S1 g1 r1
      simp only [Out.bind] at h
      cases hf : frzAll os e1 with
      | none => rw [hf] at h; exact h.elim
      | some q =>
        obtain ⟨ds, e2⟩ := q
        rw [hf] at h
        simp only at h
        obtain ⟨A2, S2, g2, r2⟩ := frzAll_ok S1 r1 hf
        cases h2 : getM (e2.getD i .no) with
        | none => rw [h2] at h; exact h.elim
        | some d2 =>
          rw [h2] at h
          simp only at h
          obtain ⟨p2, hs2, hA2, b2, mu⟩ := S2.mutA h2
          rw [hs] at hs2; cases hs2
          cases hk : k d2 ds with
          | none => rw [hk] at h; exact h.elim
          | some w =>
            obtain ⟨y, d'⟩ := w
            rw [hk] at h
            exact hr A2 H1 p vs d2 ds y d' Q S2.subA b2 r2 hk fun v o' b ry => h v _ A2 (mu o' d' b) (g1.trans g2) ry
theorem m_append : ImplM K rAppend kAppend := by
  intro A H p vs d ds y d' Q s b r h q
  unfold kAppend at h
  split at h
  · split at h
    · rename_i hz
      cases h
      obtain ⟨ws, hw, rw'⟩ := b
      cases r with
      | cons r1 r2 =>
        cases r2
        exact ⟨p, ws, _, rfl, rfl, hw, by rw [rw'.length]; exact hz, q .non _ ⟨_, upd_same, rw'.append (.cons r1 .nil)⟩ .non⟩
    · cases h
  · cases h
theorem m_popAt : ImplM K rPopAt kPopAt := by
  intro A H p vs d ds y d' Q s b r h q
  unfold kPopAt at h
  split at h
  · split at h
    · rename_i hb
      obtain ⟨k, hk, h⟩ := Option.bind_eq_some_iff.mp h
      obtain ⟨z, hz, e⟩ := Option.map_eq_some_iff.mp h
      cases e
      obtain ⟨ws, hw, rw'⟩ := b
      cases r with
      | cons r1 r2 =>
        cases r2
        cases r1
        obtain ⟨v, hv, rv⟩ := rw'.get hz
        exact ⟨p, ws, _, k, v, rfl, rfl, hw, hb.1, hb.2, by rw [rw'.length]; exact hk, hv, q v _ ⟨_, upd_same, rw'.eraseIdx k⟩ rv⟩
    · cases h
  · cases h
end
/-- x.extend(ys), ys new or a slot's own -/
def ownList (o : Op) (e : En) : Option (List D) := match o with
  | .new (.list ys) => some ys
  | .slot j => (match getM (e.getD j .no) with | some (.list ys) => some ys | _ => none)
  | _ => none
def eExtend (i : Nat) (f : Ex) : Ex := fun env => match getM (env.getD i .no) with
  | some (.list _) => (f env).bind fun o e => (match getM (e.getD i .no) with
    | some (.list xs) => (match ownList o e with
      | some ys => if xs.length + ys.length ≤ sizeLine then .ok (.val .none) (e.set i (setM (e.getD i .no) (.list (xs ++ ys)))) else .bad
      | none => .bad)
    | _ => .bad)
  | _ => .bad
section
variable {X : Cx} {E : Sl → XK} {pos p apos cpos : Pos} {e o : Expr} {es : List Expr} {f fo : Ex} {fa : Ax} {x : Str}
theorem jp_append (i : Nat) {px : Pos} (ha : JA X E [e] fa) (hN : X.N[i]? = some x := by rfl) (hv : Vis X.env.scope x := by first | exact Or.inl rfl | exact Or.inr (Or.inl rfl) | exact Or.inr (Or.inr rfl))
    (hd : (x == ("__debug__" : Str)) = false := by decide) (hcd : (x == ("__classdict__" : Str)) = false := by decide) (hbase : attributeBase (.Name x px) "append" X.env (eval (.Name x px) X.env) = eval (.Name x px) X.env := by rfl)
    (hfew : ((backTo cpos (starEach [e] X.env)).all (fun x => !x.1) && (backToKw cpos (keywordEach [] X.env)).all (fun x => x.1.isSome) && decide ([e].length + ([] : List Keyword).length + (if ([] : List Keyword).isEmpty then 0 else 1) < 30)) = true := by rfl)
    (hline : (apos.endLine == cpos.line) = true := by rfl) (hs : starEach [e] X.env = (false, eval e X.env) :: starEach [] X.env := by rfl) (hplain : (backTo cpos (starEach [] X.env)).any (·.1) = false := by rfl) :
    JP X E (.Call (.Attribute (.Name x px) "append" apos) [e] [] cpos) (eMeth i kAppend fa) :=
  impE (pe_bm PySem.F.plainAttrs_list PySem.F.slot_list_append PySem.F.type_list_append mt_append (pe_var hN hv hd hcd) ha hbase hfew hline hs hplain) fun _ _ _ h => tJ_meth m_append h
theorem jp_popAt (i : Nat) {px : Pos} (ha : JA X E [e] fa) (hN : X.N[i]? = some x := by rfl) (hv : Vis X.env.scope x := by first | exact Or.inl rfl | exact Or.inr (Or.inl rfl) | exact Or.inr (Or.inr rfl))
    (hd : (x == ("__debug__" : Str)) = false := by decide) (hcd : (x == ("__classdict__" : Str)) = false := by decide) (hbase : attributeBase (.Name x px) "pop" X.env (eval (.Name x px) X.env) = eval (.Name x px) X.env := by rfl)
    (hfew : ((backTo cpos (starEach [e] X.env)).all (fun x => !x.1) && (backToKw cpos (keywordEach [] X.env)).all (fun x => x.1.isSome) && decide ([e].length + ([] : List Keyword).length + (if ([] : List Keyword).isEmpty then 0 else 1) < 30)) = true := by rfl)
    (hline : (apos.endLine == cpos.line) = true := by rfl) (hs : starEach [e] X.env = (false, eval e X.env) :: starEach [] X.env := by rfl) (hplain : (backTo cpos (starEach [] X.env)).any (·.1) = false := by rfl) :
    JP X E (.Call (.Attribute (.Name x px) "pop" apos) [e] [] cpos) (eMeth i kPopAt fa) :=
  impE (pe_bm PySem.F.plainAttrs_list PySem.F.slot_list_pop PySem.F.type_list_pop mt_popAt (pe_var hN hv hd hcd) ha hbase hfew hline hs hplain) fun _ _ _ h => tJ_meth m_popAt h
end
/-- a method that reads: the receiver any view -/
def eRead (ok : D → Bool) (g : D → D → Option Op) (fa fb : Ex) : Ex := fun env => (fa env).bind fun o1 e1 => match res o1 e1 with
  | some d0 => if ok d0 = true then (fb e1).bind fun o2 e2 => (match res o1 e2 with
    | some d1 => (match res o2 e2 with | some d2 => fin (g d1 d2) e2 | none => .bad)
    | none => .bad) else .bad
  | none => .bad
def sStore (i : Nat) (fe fi : Ex) : Sx := fun env => (fe env).bind fun o e1 => match getM (e1.getD i .no) with
  | some _ => (fi e1).bind fun oi e2 => (match res oi e2 with
    | some (.int k) => (match frz1 o e2 with
      | some (d, e3) => (match getM (e3.getD i .no) with
        | some (.list xs) => (match ixN xs.length k with
          | some j => .ok .nx (e3.set i (setM (e3.getD i .no) (.list (xs.set j d))))
          | none => .bad)
        | _ => .bad)
      | none => .bad)
    | _ => .bad)
  | none => .bad
theorem OpOk.keep {K : Fg} {F A A' H : Hp} {σ : Sl} {env env' : En} {v : V} {o : Op} (h : OpOk K F A H σ env v o) (a : Same A A') (ho : ∀ j d, env'.getD j .no = .own d → env.getD j .no = .own d) (hn : ∀ d p, o = .new d → v = .ref p → A' p = A p) : OpOk K F A' H σ env' v o := by
  cases o with
  | val d => exact Rep.same a h
  | raw w => exact h
  | slot i => exact h
  | new d =>
    obtain ⟨p, e, x1, x2, x3, x4⟩ := h
    exact ⟨p, e, (hn d p rfl e).trans x1, x2, x3.move a rfl, fun j d2 hj => x4 j d2 (ho j d2 hj)⟩
section
variable {X : Cx} {E : Sl → XK} {pos tpos px : Pos} {e ei : Expr} {fe fi : Ex} {x : Str}
theorem js_store (i : Nat) (h : JP X E e fe) (k : JP X E ei fi) (hN : X.N[i]? = some x := by rfl) (hv : Vis X.env.scope x := by first | exact Or.inl rfl | exact Or.inr (Or.inl rfl) | exact Or.inr (Or.inr rfl))
    (hd : (x == ("__debug__" : Str)) = false := by decide) (hcd : (x == ("__classdict__" : Str)) = false := by decide)
    (ha : ∀ v, assign (.Subscript (.Name x px) ei tpos) X.env v = (do
      let ov ← holding [v] (eval (.Name x px) X.env)
      let iv ← holding [v, ov] (eval ei X.env)
      standAt tpos
      holding [v, ov, iv] (setItem ov iv v)
      release [v, ov, iv] []) := by intro _; rfl)
    (hs : swapsWithSole [.Subscript (.Name x px) ei tpos] e pos.line X.env = pure false := by rfl) (hw : swappedStores [.Subscript (.Name x px) ei tpos] e X.env = pure none := by rfl)
    (h1 : (assignEach [.Subscript (.Name x px) ei tpos] X.env).map (·.2) = [assign (.Subscript (.Name x px) ei tpos) X.env] := by rfl) : JS X E (.Assign [.Subscript (.Name x px) ei tpos] e pos) (sStore i fe fi) :=
  impS (ps_asg h (pg_sub (pe_var hN hv hd hcd) k set_list ha) hs hw h1) fun Z σ H ⟨env, A, F, S, q⟩ => LS.of_ex q S fun o e1 v H1 A1 S1 g1 r1 q => by
    cases hh : getM (e1.getD i .no) with
    | none => rw [hh] at q; exact q.elim
    | some d0 =>
      rw [hh] at q
      obtain ⟨p, hs, _⟩ := S1.mutA hh
      refine ⟨.ref p, hs, ?_⟩
      obtain ⟨F1, sF, S1', _, keep⟩ := hold S1 r1
      refine ⟨e1, A1, F1, S1', ?_⟩
      simp only at q
      cases e2h : fi e1 with
      | bad => rw [e2h] at q; exact q.elim
      | exc n e2 => rw [e2h] at q; exact fun C H' A' m S' g' => q C σ H' A' m (S'.weakF sF) (g'.mono sF)
      | ok oi e2 =>
        rw [e2h] at q
        intro y H2 A2 S2 g2 r2
        have S2' := S2.weakF sF
        have q1 := keep e2 H2 A2 S2 g2
        simp only [Out.bind] at q
        cases hr : res oi e2 with
        | none => rw [hr] at q; exact q.elim
        | some dk =>
          rw [hr] at q
          cases dk <;> first | exact q.elim | skip
          rename_i k
          have ey := (r2.view S2 hr).int
          simp only at q
          cases hf : frz1 o e2 with
          | none => rw [hf] at q; exact q.elim
          | some w =>
            obtain ⟨d, e3⟩ := w
            rw [hf] at q
            simp only at q
            obtain ⟨A3, S3, g3, r3, _⟩ := frz1_ok S2' q1 hf
            cases h3 : getM (e3.getD i .no) with
            | none => rw [h3] at q; exact q.elim
            | some d3 =>
              rw [h3] at q
              cases d3 <;> first | exact q.elim | skip
              rename_i xs
              simp only at q
              obtain ⟨p3, hs3, a3, ⟨ws, hw, rw3⟩, mu⟩ := S3.mutA h3
              rw [hs] at hs3; cases hs3
              cases hj : ixN xs.length k with
              | none => rw [hj] at q; exact q.elim
              | some j =>
                rw [hj] at q
                refine ⟨p, ws, k, j, rfl, ey, hw, by rw [rw3.length]; exact hj, ?_⟩
                exact q σ _ A3 (mu _ _ ⟨_, upd_same, rw3.set r3 j⟩) ((g2.mono sF).trans g3)
end
def sAug (i : Nat) (g : Int → Int → Int) (f : Ex) : Sx := fun env => match env.getD i .no with
  | .v (.int a) => (f env).bind fun o e => (match res o e with
    | some (.int b) => if i < e.length then .ok .nx (e.set i (.v (.int (g a b)))) else .bad
    | _ => .bad)
  | _ => .bad
def unslot : Op → En → Option (Op × En)
  | .slot i, e => (match e.getD i .no with
    | .v d => some (.val d, e)
    | .own d => some (.val d, e.set i (.v d))
    | .raw v => some (.raw v, e)
    | _ => none)
  | o, e => some (o, e)
def unslots : List Op → En → Option (List Op × En)
  | [], e => some ([], e)
  | o :: os, e => match unslot o e with
    | some (o1, e1) => (match unslots os e1 with | some (os1, e2) => some (o1 :: os1, e2) | none => none)
    | none => none
def putAll : List Nat → List Op → En → Option En
  | [], [], e => some e
  | i :: is, o :: os, e => (match put i o e with | some e2 => putAll is os e2 | none => none)
  | _, _, _ => none
def setAll : List Nat → List V → Sl → Sl
  | i :: is, v :: vs, σ => setAll is vs (σ.set i (some v))
  | _, _, σ => σ
def sPar (is : List Nat) (fa : Ax) : Sx := fun env => (fa env).bind fun os e => match unslots os e with
  | some (os1, e1) => (match putAll is os1 e1 with | some e2 => .ok .nx e2 | none => .bad)
  | none => .bad
def noSlot : Op → Bool
  | .slot _ => false
  | _ => true
section
variable {K : Fg} {F A H : Hp} {σ : Sl} {env : En}
theorem unslot_ok (S : SOk K F σ env H A) {o o1 : Op} {e' : En} {v : V} (h : OpOk K F A H σ env v o) (e : unslot o env = some (o1, e')) :
    ∃ A', SOk K F σ e' H A' ∧ Grow F A A' ∧ OpOk K F A' H σ e' v o1 ∧ noSlot o1 = true ∧ (∀ b, A' b ≠ A b → v = .ref b ∧ ∃ i d, env.getD i .no = .own d ∧ σ[i]? = some (some (.ref b))) ∧ (∀ j d, e'.getD j .no = .own d → env.getD j .no = .own d) ∧ ∀ d, o1 = .new d → o = .new d := by
  cases o with
  | val d => cases e; exact ⟨A, S, Grow.refl, h, rfl, fun b n => absurd rfl n, fun _ _ x => x, fun _ z => z⟩
  | new d => cases e; exact ⟨A, S, Grow.refl, h, rfl, fun b n => absurd rfl n, fun _ _ x => x, fun _ z => z⟩
  | raw d => cases e; exact ⟨A, S, Grow.refl, h, rfl, fun b n => absurd rfl n, fun _ _ x => x, fun _ z => z⟩
  | slot i =>
    have hv : σ[i]? = some (some v) := h
    have hc := S.cell i
    simp only [unslot] at e
    cases hh : env.getD i .no with
    | no => rw [hh] at e; cases e
    | par w => rw [hh] at e; cases e
    | raw w =>
      rw [hh] at e hc; cases e
      have hc' : σ[i]? = some (some w) := hc
      rw [hv] at hc'; cases hc'
      exact ⟨A, S, Grow.refl, rfl, rfl, fun b n => absurd rfl n, fun _ _ x => x, fun _ z => by cases z⟩
    | v d =>
      rw [hh] at e hc; cases e
      obtain ⟨w, x, y⟩ := hc
      rw [hv] at x; cases x
      exact ⟨A, S, Grow.refl, y, rfl, fun b n => absurd rfl n, fun _ _ x => x, fun _ z => by cases z⟩
    | own d =>
      rw [hh] at e; cases e
      obtain ⟨A', p, x, y, z, r, n⟩ := S.freeze hh
      rw [hv] at x; cases x
      refine ⟨A', y, z, r, rfl, fun b nb => ?_, fun j d1 hj => ?_, fun _ z => by cases z⟩
      · have := n b nb
        subst this
        exact ⟨rfl, i, _, hh, hv⟩
      · rw [set_getD] at hj
        split at hj
        · cases hj
        · exact hj
theorem unslots_ok {os : List Op} : ∀ {env : En} {A : Hp} {vs : List V} {os1 : List Op} {e' : En}, SOk K F σ env H A → OpsOk K F A H σ env os vs → unslots os env = some (os1, e') →
    ∃ A', SOk K F σ e' H A' ∧ Grow F A A' ∧ OpsOk K F A' H σ e' os1 vs ∧ (∀ o ∈ os1, noSlot o = true) ∧ (∀ (j : Nat) d, os1[j]? = some (.new d) → os[j]? = some (.new d)) ∧ (∀ b, A' b ≠ A b → ∃ i d, env.getD i .no = .own d ∧ σ[i]? = some (some (.ref b))) ∧ ∀ j d, e'.getD j .no = .own d → env.getD j .no = .own d := by
  induction os with
  | nil => intro env A vs os1 e' S h e; cases e; exact ⟨A, S, Grow.refl, h, fun o ho => by simp at ho, fun j d hj => by simp at hj, fun b n => absurd rfl n, fun _ _ x => x⟩
  | cons o os ih =>
    intro env A vs os1 e' S h e
    obtain ⟨v, r, rfl, h1, h2, h3⟩ := h
    unfold unslots at e
    cases hu : unslot o env with
    | none => rw [hu] at e; cases e
    | some w =>
      obtain ⟨o1, e1⟩ := w
      rw [hu] at e
      simp only at e
      cases hr : unslots os e1 with
      | none => rw [hr] at e; cases e
      | some w2 =>
        obtain ⟨os2, e2⟩ := w2
        rw [hr] at e; cases e
        obtain ⟨A1, S1, g1, r1, n1, b1, w1, y1⟩ := unslot_ok S h1 hu
        have h2' : OpsOk K F A1 H σ e1 os r := h2.move g1.1 w1 fun j d' p a b => Classical.byContradiction fun nb => by
          obtain ⟨ev, i, d0, hi, hs⟩ := b1 p nb
          obtain ⟨p', x1, x2, x3, x4, x5⟩ := h2.newAt a b
          cases x1
          exact x5 i d0 hi hs
        obtain ⟨A2, S2, g2, r2, n2, nw, b2, w2⟩ := ih S1 h2' hr
        refine ⟨A2, S2, g1.trans g2, ⟨v, r, rfl, r1.keep g2.1 w2 fun d p hd hv => Classical.byContradiction fun nb => ?_, r2, fun d hd j e hj => ?_⟩, fun o ho => ?_, fun j d hj => ?_, fun b nb => ?_, fun j d hj => w1 j d (w2 j d hj)⟩
        · obtain ⟨i, d0, hi, hs⟩ := b2 p nb
          subst hd hv
          obtain ⟨p', x1, x2, x3, x4, x5⟩ := r1
          cases x1
          exact x5 i d0 hi hs
        · exact h3 d (y1 d hd) j e (nw j e hj)
        · rcases List.mem_cons.mp ho with rfl | ho
          · exact n1
          · exact n2 o ho
        · cases j with
          | zero => simp at hj ⊢; exact y1 d hj
          | succ j => simpa using nw j d (by simpa using hj)
        · by_cases hb : A1 b = A b
          · obtain ⟨i, d, hi, hs⟩ := b2 b (by rw [hb]; exact nb)
            exact ⟨i, d, w1 i d hi, hs⟩
          · exact (b1 b hb).2
theorem putAll_ok {is : List Nat} : ∀ {os : List Op} {env e' : En} {σ : Sl} {A : Hp} {vs : List V}, SOk K F σ env H A → OpsOk K F A H σ env os vs → (∀ o ∈ os, noSlot o = true) → putAll is os env = some e' → ∃ A', SOk K F (setAll is vs σ) e' H A' ∧ Grow F A A' := by
  induction is with
  | nil =>
    intro os env e' σ A vs S h n e
    cases os with
    | nil => cases e; cases h; exact ⟨A, S, Grow.refl⟩
    | cons o os => cases e
  | cons i is ih =>
    intro os env e' σ A vs S h n e
    cases os with
    | nil => cases e
    | cons o os =>
      obtain ⟨v, r, rfl, h1, h2, h3⟩ := h
      unfold putAll at e
      cases hp : put i o env with
      | none => rw [hp] at e; cases e
      | some e2 =>
        rw [hp] at e
        simp only at e
        have ho := n o List.mem_cons_self
        have hl : i < env.length := by
          unfold put at hp
          by_cases hi : i < env.length ∧ isPar (env.getD i .no) = false
          · exact hi.1
          · rw [if_neg hi] at hp; cases hp
        have hσ : i < σ.length := by rw [← S.lens]; exact hl
        obtain ⟨A2, S2, g2⟩ := put_ok S h1 hp
        have key : ∃ c, e2 = env.set i c ∧ (∀ d, c = .own d → o = .new d) ∧ SOk K F (σ.set i (some v)) e2 H A := by
          unfold put at hp
          by_cases hi : i < env.length ∧ isPar (env.getD i .no) = false
          rotate_left
          · rw [if_neg hi] at hp; cases hp
          rw [if_pos hi] at hp
          cases o with
          | slot j => cases ho
          | val d => cases hp; exact ⟨_, rfl, fun d z => (by cases z), S.setV hσ h1⟩
          | raw w => cases hp; cases (show v = w from h1); exact ⟨_, rfl, fun d z => (by cases z), S.setR hσ⟩
          | new d => cases hp; exact ⟨_, rfl, fun d z => (by cases z; rfl), S.setN hσ h1⟩
        obtain ⟨c, rfl, hc, S3⟩ := key
        have h2' : OpsOk K F A H (σ.set i (some v)) (env.set i c) os r := by
          have gen : ∀ (os : List Op) (r : List V), OpsOk K F A H σ env os r → (∀ o ∈ os, noSlot o = true) → (∀ d, o = .new d → ∀ (j : Nat) e, os[j]? = some (.new e) → r[j]? ≠ some v) → OpsOk K F A H (σ.set i (some v)) (env.set i c) os r := by
            intro os
            induction os with
            | nil => exact fun r h _ _ => h
            | cons o' os ih' =>
              intro r h n h3
              obtain ⟨v', r', rfl, k1, k2, k3⟩ := h
              refine ⟨v', r', rfl, ?_, ih' r' k2 (fun o ho => n o (List.mem_cons_of_mem _ ho)) (fun d hd j e hj => by simpa using h3 d hd (j + 1) e (by simpa using hj)), k3⟩
              have hn := n o' List.mem_cons_self
              cases o' with
              | slot j => cases hn
              | val d => exact k1
              | raw w => exact k1
              | new d =>
                obtain ⟨p, ep, x1, x2, x3, x4⟩ := k1
                refine ⟨p, ep, x1, x2, x3, fun j d' hj hs => ?_⟩
                rw [set_getD] at hj
                rw [getσ_set hσ] at hs
                by_cases e0 : i = j
                · rw [if_pos ⟨e0, hl⟩] at hj
                  rw [if_pos e0] at hs
                  cases hs
                  exact h3 d' (hc d' hj) 0 d (by simp) (by simp [ep])
                · rw [if_neg (fun z => e0 z.1)] at hj
                  rw [if_neg e0] at hs
                  exact x4 j d' hj hs
          exact gen os r h2 (fun o ho => n o (List.mem_cons_of_mem _ ho)) h3
        obtain ⟨A4, S4, g4⟩ := ih S3 h2' (fun o ho => n o (List.mem_cons_of_mem _ ho)) e
        exact ⟨A4, S4, g4⟩
end
section
variable {X : Cx} {E : Sl → XK} {pos : Pos} {fa : Ax}
theorem LS.of_ax {K : Fg} {mg : Str → Option Value} {F A H : Hp} {σ : Sl} {env : En} {Z : Ends} {f : Ax} {k : List Op → En → Out En Fl} {Q : List V → Hp → Prop} (h : LS K mg E F A Z ((f env).bind k)) (S : SOk K F σ env H A)
    (hk : ∀ o e v H' A', SOk K F σ e H' A' → Grow F A A' → OpsOk K F A' H' σ e o v → LS K mg E F A' Z (k o e) → Q v H') : tJA K mg E f σ H Q := by
  refine ⟨env, A, F, S, ?_⟩
  cases e : f env with
  | bad => rw [e] at h; exact h
  | exc n e' => rw [e] at h; exact fun C H' A' m S' g' => h C σ H' A' m S' g'
  | ok o e' => rw [e] at h; exact fun v H' A' S' g' r' => hk o e' v H' A' S' g' r' (LS.grow h g')
theorem par_core {K : Fg} {mg : Str → Option Value} {F A H : Hp} {σ : Sl} {Z : Ends} {is : List Nat} {os : List Op} {e : En} {vs : List V} (S : SOk K F σ e H A) (r : OpsOk K F A H σ e os vs)
    (k : LS K mg E F A Z (match unslots os e with
      | some (os1, e1) => (match putAll is os1 e1 with | some e2 => .ok .nx e2 | none => .bad)
      | none => .bad)) : vs.length = is.length ∧ Z.nx (setAll is vs σ) H := by
  cases hu : unslots os e with
  | none => rw [hu] at k; exact k.elim
  | some w =>
    obtain ⟨os1, e1⟩ := w
    rw [hu] at k
    simp only at k
    obtain ⟨A1, S1, g1, r1, n1, _⟩ := unslots_ok S r hu
    cases hp : putAll is os1 e1 with
    | none => rw [hp] at k; exact k.elim
    | some e2 =>
      rw [hp] at k
      obtain ⟨A2, S2, g2⟩ := putAll_ok S1 r1 n1 hp
      refine ⟨?_, k _ H A2 S2 (g1.trans g2)⟩
      have l1 : ∀ (os : List Op) (vs : List V), OpsOk K F A1 H σ e1 os vs → vs.length = os.length := by
        intro os
        induction os with
        | nil => intro vs h; cases h; rfl
        | cons o os ih => intro vs h; obtain ⟨v, r, rfl, _, h2, _⟩ := h; exact congrArg Nat.succ (ih r h2)
      have l2 : ∀ (is : List Nat) (os : List Op) (e e' : En), putAll is os e = some e' → os.length = is.length := by
        intro is
        induction is with
        | nil => intro os e e' h; cases os with | nil => rfl | cons o os => cases h
        | cons i is ih =>
          intro os e e' h
          cases os with
          | nil => cases h
          | cons o os =>
            unfold putAll at h
            cases hq : put i o e with
            | none => rw [hq] at h; cases h
            | some e3 => rw [hq] at h; exact congrArg Nat.succ (ih os e3 e' h)
      exact (l1 _ _ r1).trans (l2 _ _ _ _ hp)
theorem js_par {i j : Nat} {x y : Str} {a b : Expr} {px py pt : Pos} {kt k2 pt2} (hc : X.calm = true) (hN : X.N.Nodup) (hi : X.N[i]? = some x) (hj : X.N[j]? = some y) (hij : i ≠ j)
    (hx : X.env.scope.names.lookup x = some .local) (hy : X.env.scope.names.lookup y = some .local) (ha : JA X E [a, b] fa) (hw : swappedStores [.Tuple [.Name x px, .Name y py] kt pt] (.Tuple [a, b] k2 pt2) X.env = pure (some [x, y]))
    (hs : swapsWithSole [.Tuple [.Name x px, .Name y py] kt pt] (.Tuple [a, b] k2 pt2) pos.line X.env = pure false := by rfl) : JS X E (.Assign [.Tuple [.Name x px, .Name y py] kt pt] (.Tuple [a, b] k2 pt2) pos) (sPar [i, j] fa) :=
  impS (ps_par hc hN hi hj hij hx hy ha hw hs) fun Z σ H ⟨env, A, F, S, q⟩ => LS.of_ax q S fun os e vs H' A' S' g' r' k => by
    obtain ⟨l, n⟩ := par_core S' r' k
    match vs, l, n with
    | [v, w], _, n => exact ⟨v, w, rfl, n⟩
/-- .. by a tuple, where some name is a cell -/
theorem js_parC {i j : Nat} {x y : Str} {a b : Expr} {px py pt : Pos} {kt k2 pt2} (hc : X.calm = true) (hN : X.N.Nodup) (hi : X.N[i]? = some x) (hj : X.N[j]? = some y) (hx : Loc X.env.scope x) (hy : Loc X.env.scope y) (fx : X.fn x = true ∨ X.env.scope.names.lookup x = some .local) (fy : X.fn y = true ∨ X.env.scope.names.lookup y = some .local) (ha : JA X E [a, b] fa)
    (hs : swapsWithSole [.Tuple [.Name x px, .Name y py] kt pt] (.Tuple [a, b] k2 pt2) pos.line X.env = pure false := by rfl) (hw : swappedStores [.Tuple [.Name x px, .Name y py] kt pt] (.Tuple [a, b] k2 pt2) X.env = pure none := by rfl)
    (h1 : (assignEach [.Tuple [.Name x px, .Name y py] kt pt] X.env).map (·.2) = [assign (.Tuple [.Name x px, .Name y py] kt pt) X.env] := by rfl)
    (hs1 : (assignEach [.Name x px, .Name y py] X.env).map (·.2) = assign (.Name x px) X.env :: (assignEach [.Name y py] X.env).map (·.2) := by rfl) (hs2 : (assignEach [.Name y py] X.env).map (·.2) = assign (.Name y py) X.env :: (assignEach [] X.env).map (·.2) := by rfl)
    (hn : (assignEach [.Name x px, .Name y py] X.env).length = 2 := by rfl) (hst : (assignEach [.Name x px, .Name y py] X.env).findIdx? (·.1) = none := by rfl) :
    JS X E (.Assign [.Tuple [.Name x px, .Name y py] kt pt] (.Tuple [a, b] k2 pt2) pos) (sPar [i, j] fa) :=
  impS (ps_asg (pe_tup ha) (pg_tup hc (pgs_cons (pg_name hN hi hx fx) (pgs_cons (pg_name hN hj hy fy) pgs_nil hs2) hs1) hn hst) hs hw h1) fun Z σ H ⟨env, A, F, S, q⟩ => LS.of_ax q S fun os e vs H' A' S' g' r' k => by
    have lv : vs.length = 2 := (par_core S' r' k).1
    refine ⟨by rw [lv]; decide, fun p hp => ?_⟩
    have x' := ext_new (o := .tup vs) S'.subA hp
    have r2 : OpsOk X.K F A' (upd H' p (.tup vs)) σ e os vs := by
      have gen : ∀ (os : List Op) (vs : List V), OpsOk X.K F A' H' σ e os vs → OpsOk X.K F A' (upd H' p (.tup vs)) σ e os vs := fun os => by
        intro vs0
        have : ∀ (os : List Op) (vs1 : List V), OpsOk X.K F A' H' σ e os vs1 → OpsOk X.K F A' (upd H' p (.tup vs0)) σ e os vs1 := by
          intro os
          induction os with
          | nil => exact fun _ h => h
          | cons o os ih =>
            intro vs1 h
            obtain ⟨v, r, rfl, k1, k2, k3⟩ := h
            refine ⟨v, r, rfl, ?_, ih r k2, k3⟩
            cases o with
            | slot j => exact k1
            | val d => exact k1
            | raw w => exact k1
            | new d =>
              obtain ⟨q, e1, x1, x2, x3, x4⟩ := k1
              obtain ⟨u, hu⟩ := x3.mut
              exact ⟨q, e1, x1, x2, x3.move (Same.refl _) (by rw [upd_ne (ne_of_none hu hp)]), x4⟩
        exact this os vs0
      exact gen os vs r'
    obtain ⟨l, n⟩ := par_core (S'.ext x') r2 k
    match vs, l, n with
    | [v, w], _, n => exact ⟨p, [v, w], rfl, .inl (.inl upd_same), rfl, v, [w], rfl, w, [], rfl, rfl, n⟩
end
def eChain (g1 g2 : D → D → Option Op) (fa fb fc : Ex) : Ex := fun env => (fa env).bind fun o1 e1 => (fb e1).bind fun o2 e2 => match res o1 e2 with
  | some d1 => (match res o2 e2 with
    | some d2 => (match g1 d1 d2 with
      | some (.val (.bool true)) => (fc e2).bind fun o3 e3 => (match res o2 e3 with
        | some d2' => (match res o3 e3 with | some d3 => fin (g2 d2' d3) e3 | none => .bad)
        | none => .bad)
      | some (.val (.bool false)) => .ok (.val (.bool false)) e2
      | _ => .bad)
    | none => .bad)
  | none => .bad
section
variable {K : Fg} {mg : Str → Option Value} {E : Sl → XK} {fa fb fc : Ex} {σ : Sl} {H : Hp} {g1 g2 : D → D → Option Op} {r1 r2 : R2}
theorem tJ_chain (hr1 : Impl2 K r1 g1) (hr2 : Impl2 K r2 g2) {Q} (h : tJ K mg E (eChain g1 g2 fa fb fc) σ H Q) : tChain r1 r2 (tJ K mg E fa) (tJ K mg E fb) (tJ K mg E fc) σ H Q := by
  obtain ⟨env, A, F, S, h⟩ := h
  refine ⟨env, A, F, S, ?_⟩
  unfold eChain at h
  cases e1 : fa env with
  | bad => rw [e1] at h; exact h
  | exc n e' => rw [e1] at h; exact h
  | ok o1 env1 =>
    rw [e1] at h
    intro x H1 A1 S1 G1 R1
    obtain ⟨F1, sF, S1', _, keep⟩ := hold S1 R1
    refine ⟨env1, A1, F1, S1', ?_⟩
    simp only [Out.bind] at h
    cases e2 : fb env1 with
    | bad => rw [e2] at h; exact h
    | exc n e' => rw [e2] at h; exact fun C H' A' hC S' g' => h C H' A' hC (S'.weakF sF) (G1.trans (g'.mono sF))
    | ok o2 env2 =>
      rw [e2] at h
      intro y H2 A2 S2 G2 R2'
      have S2' := S2.weakF sF
      have q1 := keep env2 H2 A2 S2 G2
      simp only at h
      cases d1 : res o1 env2 with
      | none => rw [d1] at h; exact h.elim
      | some v1 =>
        rw [d1] at h
        simp only at h
        cases d2 : res o2 env2 with
        | none => rw [d2] at h; exact h.elim
        | some v2 =>
          rw [d2] at h
          simp only at h
          cases hg : g1 v1 v2 with
          | none => rw [hg] at h; exact h.elim
          | some o =>
            rw [hg] at h
            cases o with
            | slot j => exact h.elim
            | new j => exact h.elim
            | raw j => exact h.elim
            | val d =>
              cases d <;> first | exact h.elim | skip
              rename_i b
              refine hr1 A2 H2 x y v1 v2 _ _ S2.subA (q1.view S2' d1) (R2'.view S2 d2) hg fun v A3 H3 ex rv => ?_
              cases rv with
              | bl b =>
                refine ⟨_, rfl, ?_⟩
                have S3 := S2'.ext ex
                have G3 : Grow F A A3 := G1.trans ((G2.mono sF).trans (ex.grow S2'.subF))
                cases b with
                | false =>
                  rw [if_neg Bool.false_ne_true]
                  exact h _ H3 A3 S3 G3 (.bl false)
                | true =>
                  rw [if_pos rfl]
                  have R3 : OpOk K F A3 H3 σ env2 y o2 := by
                    have R2w := R2'.weakF sF
                    cases o2 with
                    | val d => exact Rep.same ex.aa R2w
                    | raw w => exact R2w
                    | slot j => exact R2w
                    | new d =>
                      obtain ⟨q, e4, x1, x2, x3, x4⟩ := R2w
                      obtain ⟨u, hu⟩ := x3.mut
                      exact ⟨q, e4, (ex.old q (by rw [hu]; rfl)).trans x1, x2, x3.move ex.aa (by rw [hu]; exact ex.hh q u hu), x4⟩
                  obtain ⟨F2, sF2, S3', _, keep2⟩ := hold S3 R3
                  refine ⟨env2, A3, F2, S3', ?_⟩
                  simp only at h
                  cases e3 : fc env2 with
                  | bad => rw [e3] at h; exact h
                  | exc n e' => rw [e3] at h; exact fun C H' A' hC S' g' => h C H' A' hC (S'.weakF sF2) (G3.trans (g'.mono sF2))
                  | ok o3 env3 =>
                    rw [e3] at h
                    intro z H4 A4 S4 G4 R4
                    have S4' := S4.weakF sF2
                    have q2 := keep2 env3 H4 A4 S4 G4
                    simp only at h
                    cases d3 : res o2 env3 with
                    | none => rw [d3] at h; exact h.elim
                    | some w2 =>
                      rw [d3] at h
                      simp only at h
                      cases d4 : res o3 env3 with
                      | none => rw [d4] at h; exact h.elim
                      | some w3 =>
                        rw [d4] at h
                        simp only at h
                        cases hg2 : g2 w2 w3 with
                        | none => rw [hg2] at h; exact h.elim
                        | some o4 =>
                          rw [hg2] at h
                          exact hr2 A4 H4 y z w2 w3 o4 Q S4.subA (q2.view S4' d3) (R4.view S4 d4) hg2 (Fin.of S4' fun v H' A' S' g' r' => h v H' A' S' (G3.trans ((G4.mono sF2).trans g')) r')
end
section
variable {X : Cx} {E : Sl → XK} {pos : Pos} {a b c : Expr} {fa fb fc : Ex} {op op' : CmpOp} {p q : Int → Int → Bool}
/-- of ints: lt, le -/
theorem jp_chain (ho : OpR X (compareOp op) (rI0 fun i j => .bl (p i j))) (ho' : OpR X (compareOp op') (rI0 fun i j => .bl (q i j))) (ha : JP X E a fa) (hb : JP X E b fb) (hc : JP X E c fc) (hm : lastMarks [op, op'] [b, c] = false := by with_unfolding_all rfl) :
    JP X E (.Compare a [op, op'] [b, c] pos) (eChain (dCmp p) (dCmp q) fa fb fc) := impE (pe_chain ho ho' ha hb hc hm) fun _ _ _ h => tJ_chain i_cmp i_cmp h
end
end T3
namespace T3
open PySem PySem.Spec PyProof.Rows L2
/-- a def's promise, where no text of a value is under way -/
structure FnG (P : Program) (w : World) (K : Fg) (mg : Str → Option Value) (base : Heap) (k : Nat) (f : Addr) (fd : FuncData) (ps : List Str) (sp : Sp) : Prop where
  len : ∀ vs H Q E, sp vs H Q E → vs.length = ps.length
  run : ∀ (A : Around) (outer : List Env) (s : Shared) (H : Hp) (args : Args) (us : List Value) (vs : List V) (Q : VK) (E : XK), Room k A → A.guards = some [] → Env0 P w K mg base A outer s H →
    BindsTo s fd args (ps.zip us) → Vals vs us → sp vs H Q E → codeAny (model P w) A (.call (.ref f) args) (CR (L2.CX P w) outer P w H s Q E) s
theorem FnG.mono {P : Program} {w : World} {K : Fg} {mg : Str → Option Value} {base : Heap} {j k : Nat} {f : Addr} {fd : FuncData} {ps : List Str} {sp : Sp} (F : FnG P w K mg base j f fd ps sp) (h : j ≤ k) : FnG P w K mg base k f fd ps sp :=
  ⟨F.len, fun A o s H a us vs Q E r => F.run A o s H a us vs Q E (r.mono h)⟩
/-- a def by its body -/
theorem fn_g {P : Program} {w : World} {K : Fg} {mg : Str → Option Value} {base : Heap} {k : Nat} {f : Addr} {x qual : Str} {params : Arguments} {body : List Stmt} {scope : Scope} {dvs : List V} {kws : List (Str × V)} {fd : FuncData} {N ps : List Str} {sp : Sp}
    (FD : FunD K x qual params body scope dvs kws f fd) (S : FnScope N ps scope) (len : ∀ vs H Q E, sp vs H Q E → vs.length = ps.length)
    (hb : ∀ (c : Value) (A : Around) (outer : List Env) (s : Shared) (H : Hp) (vs : List V) (Q : VK) (E : XK), Room k (A.deeper (envOfC qual scope s.heap.objs.size f c)) → A.guards = some [] → sp vs H Q E →
      ∃ t, PSs (cxOf (L2.CX P w) P w K mg base N qual scope f c A outer s H E) body t ∧ t { nx := fun _ H' => Q .non H', rt := Q } (start N vs) H) : FnG P w K mg base (k + 1) f fd ps sp := by
  obtain ⟨oc, od, dV, kV, doc, pm, an, c, ct, osl, rfl, lk, hcd, _, _⟩ := FD.ex
  refine ⟨len, fun A outer s H args us vs Q E hr hG e0 hbind r hsp => ?_⟩
  have inK : K.In s.heap := e0.mod.kin.keeps fun b o e => (e0.bs b o e).1
  have nol : s.heap.NoLimit := e0.mod.nolimit.keeps fun b o e => (e0.bs b o e).1
  refine codeAny_call_function hr.depth (inK _ _ lk) rfl S.co S.gen rfl (PySem.W.codeRec_of inK hcd) (hbind _ _ _ _ ?_)
  refine wpAny_newFunctionEnv_cells S.kind (fun y hy => ?_) fun env he s1 st => ?_
  · rcases S.par y.1 (List.of_mem_zip (show (y.1, y.2) ∈ _ from hy)).1 with q | q
    · exact .inl q
    · exact .inr ⟨q, PySem.W.cellsFrom_some _ _ _ (.inl q)⟩
  · subst he
    refine ⟨nol.keeps st.toInCall.keep, codeAny_func ?_⟩
    obtain ⟨t, ht, hq⟩ := hb c A outer s H vs Q E (hr.deeper _) hG hsp
    have J0 := inv_start (CX := L2.CX P w) (E := E) (mg := mg) (base := base) S hr.hd e0 (len _ _ _ _ hsp) r st
    refine wpAny_mono (ht.run [] s1 (start N vs) H _ J0 hq) (fun fl s' hs => ?_) fun _ _ z => z
    cases fl with
    | brk => obtain ⟨_, _, _, z⟩ := hs; exact z.elim
    | cont => obtain ⟨_, _, _, z⟩ := hs; exact z.elim
    | next => obtain ⟨σ', H', J, z⟩ := hs; exact ⟨.non, H', J.os, J.bare, J.base, J.hok, rfl, z⟩
    | ret u => obtain ⟨v, σ', H', J, rv, z⟩ := hs; exact ⟨v, H', J.os, J.bare, J.base, J.hok, rv, z⟩
/-- what a call has left -/
structure After (K : Fg) (A H A' H' : Hp) (vs : List V) (ms : List Nat) (cs : List D) : Prop where
  aa : Same A A'
  sub : Same A' H'
  old : ∀ b, (H b).isSome → A' b = A b
  frame : ∀ b o, H b = some o → (∀ i ∈ ms, vs[i]? ≠ some (.ref b)) → H' b = some o
  there : ∀ b, (H b).isSome → (H' b).isSome
  lens : cs.length = ms.length
  nomk : ∀ b i, H' b ≠ some (mkP i)
  muts : ∀ (k i : Nat) c p, ms[k]? = some i → cs[k]? = some c → vs[i]? = some (.ref p) → Bod K A' H' p c
structure ArgsOk (K : Fg) (A H : Hp) (vs : List V) (ds : List D) (ms : List Nat) : Prop where
  sub : Same A H
  nomk : ∀ b i, H b ≠ some (mkP i)
  len : vs.length = ds.length
  val : ∀ (i : Nat) v d, i ∉ ms → vs[i]? = some v → ds[i]? = some d → Rep K A v d
  lent : ∀ (i : Nat) v d, i ∈ ms → vs[i]? = some v → ds[i]? = some d → ∃ p, v = .ref p ∧ A p = none ∧ Bod K A H p d
  apart : ∀ (i j : Nat) p, i ∈ ms → j ∈ ms → vs[i]? = some (.ref p) → vs[j]? = some (.ref p) → i = j
def spFn (K : Fg) (mg : Str → Option Value) (ms : List Nat) (np : Nat) (f : Fn) : Sp := fun vs H Q E => ∃ ds A, vs.length = np ∧ ArgsOk K A H vs ds ms ∧ match f ds with
  | .ok o cs => ∀ v H' A', After K A H A' H' vs ms cs → RV K H A' H' v o → Q v H'
  | .exc n cs => ∀ C H' A', mg n = some (.ref C) → After K A H A' H' vs ms cs → E (.ref C) none H'
  | .bad => False
def argCells (ms : List Nat) : Nat → List D → En
  | _, [] => []
  | i, d :: ds => (if i ∈ ms then .par d else .v d) :: argCells ms (i + 1) ds
def outs : List Nat → En → Option (List D)
  | [], _ => some []
  | m :: ms, e => match e.getD m .no with
    | .par d => (outs ms e).map (d :: ·)
    | _ => none
def runFn (n : Nat) (ms : List Nat) (b : Sx) : Fn := fun ds => match b (argCells ms 0 ds ++ List.replicate (n - ds.length) .no) with
  | .ok (.rt o) e => (match outs ms e with
    | some cs => if noSlot o = true then .ok o cs else .bad
    | none => .bad)
  | .ok .nx e => (match outs ms e with
    | some cs => .ok (.val .none) cs
    | none => .bad)
  | .exc x e => (match outs ms e with
    | some cs => .exc x cs
    | none => .bad)
  | _ => .bad
theorem argCells_get {ms : List Nat} : ∀ {ds : List D} {k i : Nat}, (argCells ms k ds)[i]? = (ds[i]?).map fun d => if k + i ∈ ms then .par d else .v d
  | [], k, i => by simp [argCells]
  | d :: ds, k, 0 => by simp [argCells]
  | d :: ds, k, i + 1 => by
    simp only [argCells, List.getElem?_cons_succ]
    rw [argCells_get, show k + 1 + i = k + (i + 1) by omega]
theorem argCells_len {ms : List Nat} : ∀ {ds : List D} {k : Nat}, (argCells ms k ds).length = ds.length
  | [], _ => rfl
  | d :: ds, k => congrArg Nat.succ argCells_len
theorem outs_get {e : En} : ∀ {ms : List Nat} {cs : List D}, outs ms e = some cs → cs.length = ms.length ∧ ∀ (k i : Nat) c, ms[k]? = some i → cs[k]? = some c → e.getD i .no = .par c
  | [], cs, h => by cases h; exact ⟨rfl, fun k i c h => by simp at h⟩
  | m :: ms, cs, h => by
    unfold outs at h
    split at h
    · rename_i d hd
      obtain ⟨cs', h1, rfl⟩ := Option.map_eq_some_iff.mp h
      obtain ⟨l, g⟩ := outs_get h1
      refine ⟨congrArg Nat.succ l, fun k i c a b => ?_⟩
      cases k with
      | zero => simp at a b; subst a b; exact hd
      | succ k => exact g k i c (by simpa using a) (by simpa using b)
    · cases h
section
variable {P : Program} {w : World} {K : Fg} {mg : Str → Option Value} {base : Heap}
theorem body_fn {N : List Str} {ms : List Nat} {b : Sx} {vs : List V} {H : Hp} {Q : VK} {E : XK} {np : Nat} (hn : np ≤ N.length) (h : spFn K mg ms np (runFn N.length ms b) vs H Q E) :
    tJS K mg (fun _ => E) b { nx := fun _ H' => Q .non H', rt := Q } (start N vs) H := by
  obtain ⟨ds, A, hl, ok, h⟩ := h
  have hds : ds.length = np := by rw [← ok.len, hl]
  let F : Hp := fun a => match H a with
    | none => none
    | some o => if ∃ i, i ∈ ms ∧ vs[i]? = some (.ref a) then some (mkP (Classical.epsilon fun i => i ∈ ms ∧ vs[i]? = some (.ref a))) else some o
  have Fmk : ∀ i p, i ∈ ms → vs[i]? = some (.ref p) → (H p).isSome → F p = some (mkP i) := fun i p hi hv hp => by
    obtain ⟨o, ho⟩ := Option.isSome_iff_exists.mp hp
    show (match H p with | none => none | some o => _) = _
    rw [ho]
    have ex : ∃ i, i ∈ ms ∧ vs[i]? = some (.ref p) := ⟨i, hi, hv⟩
    show (if _ then _ else _) = _
    rw [if_pos ex]
    have := Classical.epsilon_spec ex
    rw [ok.apart _ i p this.1 hi this.2 hv]
  have Fid : ∀ p o, H p = some o → (∀ i ∈ ms, vs[i]? ≠ some (.ref p)) → F p = some o := fun p o ho hn => by
    show (match H p with | none => none | some o => _) = _
    rw [ho]
    show (if _ then _ else _) = _
    rw [if_neg (fun ⟨i, a, b⟩ => hn i a b)]
  have Fnone : ∀ p, H p = none → F p = none := fun p hp => by
    show (match H p with | none => none | some o => _) = _
    rw [hp]
  have Fsome : ∀ p, (H p).isSome → (F p).isSome := fun p hp => by
    obtain ⟨o, ho⟩ := Option.isSome_iff_exists.mp hp
    show (match H p with | none => none | some o => _ : Option HO).isSome = true
    rw [ho]
    show (if _ then _ else _ : Option HO).isSome = true
    split <;> rfl
  have markH : ∀ b i, ¬ H b = some (mkP i) := ok.nomk
  have get0 : ∀ i : Nat, (argCells ms 0 ds ++ List.replicate (N.length - ds.length) Cell.no).getD i .no = (match ds[i]? with
      | some d => if i ∈ ms then Cell.par d else .v d
      | none => .no) := fun i => by
    rw [List.getD_eq_getElem?_getD]
    by_cases hi : i < ds.length
    · rw [List.getElem?_append_left (by rw [argCells_len]; exact hi), argCells_get, List.getElem?_eq_getElem hi, Nat.zero_add]
      rfl
    · rw [List.getElem?_append_right (by rw [argCells_len]; omega), List.getElem?_eq_none (show ds.length ≤ i by omega), List.getElem?_replicate]
      split <;> rfl
  have gets : ∀ i : Nat, (L2.start N vs)[i]? = (match vs[i]? with
      | some (v : V) => some (some v)
      | none => if i < N.length then some none else none) := fun i => by
    unfold L2.start
    by_cases hi : i < vs.length
    · rw [List.getElem?_append_left (by rw [List.length_map]; exact hi), List.getElem?_map, List.getElem?_eq_getElem hi]
      rfl
    · rw [List.getElem?_append_right (by rw [List.length_map]; omega), List.getElem?_eq_none (show vs.length ≤ i by omega), List.getElem?_replicate, List.length_map]
      have e : i - vs.length < N.length - vs.length ↔ i < N.length := by omega
      simp only [e]
  have S0 : SOk K F (L2.start N vs) (argCells ms 0 ds ++ List.replicate (N.length - ds.length) .no) H A := by
    refine ⟨ok.sub, fun b o hb => ?_, fun i => ?_, fun i j d e p h1 h2 => ?_, ?_, ok.nomk⟩
    · cases hh : H b with
      | none => rw [Fnone b hh] at hb; cases hb
      | some u =>
        by_cases ex : ∃ i, i ∈ ms ∧ vs[i]? = some (.ref b)
        · obtain ⟨i, h1, h2⟩ := ex
          rw [Fmk i b h1 h2 (by rw [hh]; rfl)] at hb; cases hb
          exact .inr ⟨⟨i, rfl⟩, u, rfl⟩
        · rw [Fid b u hh (fun i a c => ex ⟨i, a, c⟩)] at hb; cases hb
          exact .inl rfl
    · rw [get0, gets]
      cases hd : ds[i]? with
      | none => trivial
      | some d =>
        have hi : i < vs.length := by rw [ok.len]; exact (List.getElem?_eq_some_iff.mp hd).1
        rw [List.getElem?_eq_getElem hi]
        by_cases hm : i ∈ ms
        · simp only [if_pos hm]
          obtain ⟨p, e, a, bd⟩ := ok.lent i vs[i] d hm (List.getElem?_eq_getElem hi) hd
          obtain ⟨o, ho⟩ := bd.mut
          exact ⟨p, by rw [e], a, Fmk i p hm (by rw [List.getElem?_eq_getElem hi, e]) (by rw [ho]; rfl), bd⟩
        · simp only [if_neg hm]
          exact ⟨vs[i], rfl, ok.val i vs[i] d hm (List.getElem?_eq_getElem hi) hd⟩
    · rw [get0] at h1
      cases hd : ds[i]? with
      | none => rw [hd] at h1; cases h1
      | some d0 =>
        rw [hd] at h1
        simp only at h1
        split at h1 <;> cases h1
    · unfold L2.start
      rw [List.length_append, argCells_len, List.length_replicate, List.length_append, List.length_map, List.length_replicate, ok.len]
  refine ⟨_, A, F, S0, ?_⟩
  have fin : ∀ {σ' : Sl} {e : En} {H' A' : Hp} {cs : List D}, SOk K F σ' e H' A' → Grow F A A' → outs ms e = some cs → After K A H A' H' vs ms cs := by
    intro σ' e H' A' cs S g ho
    obtain ⟨l, go⟩ := outs_get ho
    refine ⟨g.1, S.subA, fun b hb => g.2 b (Fsome b hb), fun b o hb hn => ?_, fun b hb => S.subF.there (Fsome b hb), l, S.nomk, fun k i c p h1 h2 h3 => ?_⟩
    · rcases S.subF b o (Fid b o hb hn) with z | ⟨⟨i, z⟩, _⟩
      · exact z
      · subst z; exact (markH b i hb).elim
    · obtain ⟨q, a1, a2, a3, a4⟩ := S.parA (go k i c h1 h2)
      have hi : i ∈ ms := List.mem_of_getElem? h1
      have iv : i < vs.length := (List.getElem?_eq_some_iff.mp h3).1
      obtain ⟨p', e1, _, e2⟩ := ok.lent i (.ref p) ds[i] hi h3 (List.getElem?_eq_getElem (by rw [← ok.len]; exact iv))
      cases e1
      obtain ⟨u0, hu0⟩ := e2.mut
      have : q = p := by
        cases hq : H q with
        | none => rw [Fnone q hq] at a3; cases a3
        | some u =>
          by_cases ex : ∃ j, j ∈ ms ∧ vs[j]? = some (.ref q)
          · obtain ⟨j, h5, h6⟩ := ex
            rw [Fmk j q h5 h6 (by rw [hq]; rfl)] at a3
            have := mkP_inj (Option.some.inj a3)
            subst this
            rw [h6] at h3; cases h3; rfl
          · rw [Fid q u hq (fun i a c => ex ⟨i, a, c⟩)] at a3
            cases a3
            exact (markH q i hq).elim
      subst this
      exact a4
  unfold runFn at h
  cases hb : b (argCells ms 0 ds ++ List.replicate (N.length - ds.length) .no) with
  | bad => rw [hb] at h; exact h.elim
  | exc n e =>
    rw [hb] at h
    simp only at h
    cases ho : outs ms e with
    | none => rw [ho] at h; exact h.elim
    | some cs => rw [ho] at h; exact fun C σ' H' A' m S g => h C H' A' m (fin S g ho)
  | ok fl e =>
    rw [hb] at h
    cases fl with
    | bk => exact h.elim
    | ct => exact h.elim
    | nx =>
      simp only at h
      cases ho : outs ms e with
      | none => rw [ho] at h; exact h.elim
      | some cs => rw [ho] at h; exact fun σ' H' A' S g => h .non H' A' (fin S g ho) .non
    | rt o =>
      simp only at h
      cases ho : outs ms e with
      | none => rw [ho] at h; exact h.elim
      | some cs =>
        rw [ho] at h
        simp only at h
        by_cases hs : noSlot o = true
        · rw [if_pos hs] at h
          intro v σ' H' A' S g r
          refine h v H' A' (fin S g ho) ?_
          cases o with
          | slot i => cases hs
          | val d => exact r
          | raw d => exact r
          | new d =>
            obtain ⟨p, e1, x1, x2, x3, x4⟩ := r
            refine ⟨p, e1, ?_, x1, x3⟩
            cases hp : H p with
            | none => rfl
            | some u =>
              have := Fsome p (by rw [hp]; rfl)
              rw [x2] at this
              cases this
        · rw [if_neg hs] at h; exact h.elim
/-- a def, by its body's function -/
theorem jfn {k : Nat} {f : Addr} {x qual : Str} {params : Arguments} {body : List Stmt} {scope : Scope} {dvs : List V} {kws : List (Str × V)} {fd : FuncData} {N ps : List Str} {ms : List Nat} {b : Sx}
    (FD : FunD K x qual params body scope dvs kws f fd) (S : FnScope N ps scope) (hn : ps.length ≤ N.length)
    (hb : ∀ (c : Value) (A : Around) (outer : List Env) (s : Shared) (H : Hp) (E : XK), Room k (A.deeper (envOfC qual scope s.heap.objs.size f c)) → A.guards = some [] →
      JB (cxOf (L2.CX P w) P w K mg base N qual scope f c A outer s H E) (fun _ => E) body b) : FnG P w K mg base (k + 1) f fd ps (spFn K mg ms ps.length (runFn N.length ms b)) :=
  fn_g FD S (fun vs H Q E ⟨_, _, h, _⟩ => h) fun c A outer s H vs Q E hr hG h => ⟨_, hb c A outer s H E hr hG, body_fn hn h⟩
end
end T3
namespace T3
open PySem PySem.Spec PyProof.Rows L2
def argsD (ms : List Nat) (e : En) : Nat → List Op → Option (List D)
  | _, [] => some []
  | k, o :: os => match (if k ∈ ms then (match o with | .slot i => getM (e.getD i .no) | _ => none) else res o e) with
    | some d => (argsD ms e (k + 1) os).map (d :: ·)
    | none => none
/-- the slots that are lent, in the order of ms -/
def mutS (os : List Op) : List Nat → Option (List Nat)
  | [] => some []
  | m :: ms => match os[m]? with
    | some (.slot i) => (mutS os ms).map (i :: ·)
    | _ => none
/-- the slots of the other operands -/
def borS (ms : List Nat) : Nat → List Op → List Nat
  | _, [] => []
  | k, o :: os => match o with
    | .slot i => if k ∈ ms then borS ms (k + 1) os else i :: borS ms (k + 1) os
    | _ => borS ms (k + 1) os
def nodupB : List Nat → Bool
  | [] => true
  | i :: is => !(is.contains i) && nodupB is
mutual
def safeD : D → Bool
  | .none => true
  | .bool _ => true
  | .int _ => true
  | .str _ => true
  | .tuple ds => safeDs ds
  | .list _ => false
  | .dict _ => false
def safeDs : List D → Bool
  | [] => true
  | d :: ds => safeD d && safeDs ds
end
def safeC : D → Bool
  | .list ds => safeDs ds
  | _ => false
def safeOp : Op → Bool
  | .val d => safeD d
  | .new d => safeC d
  | _ => false
def putM : List Nat → List D → En → En
  | i :: is, c :: cs, e => putM is cs (e.set i (setM (e.getD i .no) c))
  | _, _, e => e
/-- the other operands are frozen -/
def frzN (ms : List Nat) : Nat → List Op → En → Option En
  | _, [], e => some e
  | k, o :: os, e => if k ∈ ms then frzN ms (k + 1) os e else match frz1 o e with
    | some (_, e1) => frzN ms (k + 1) os e1
    | none => none
def callM (ms : List Nat) (fn : Fn) (dflt : List D) (os : List Op) (e : En) : Out En Op := match mutS os ms with
  | some mu => if nodupB mu && (borS ms 0 os).all (fun i => !(mu.contains i)) then (match argsD ms e 0 os with
    | some ds => (match fn (ds ++ dflt) with
      | .ok o cs => if safeOp o && cs.all safeC then .ok o (putM mu cs e) else (match frzN ms 0 os e with
        | some e1 => .ok o (putM mu cs e1)
        | none => .bad)
      | .exc n cs => if cs.all safeC then .exc n (putM mu cs e) else .bad
      | .bad => .bad)
    | none => .bad) else .bad
  | none => .bad
def eCall (ms : List Nat) (fn : Fn) (dflt : List D) (fa : Ax) : Ex := fun env => (fa env).bind fun os e => callM ms fn dflt os e
/-- values that hold no list: they stand in any part that has the tuples -/
theorem Rep.safe {K : Fg} {A A2 : Hp} (ht : ∀ b xs, A b = some (.tup xs) → A2 b = some (.tup xs)) {v : V} {d : D} (h : Rep K A v d) : safeD d = true → Rep K A2 v d :=
  Rep.rec (motive_1 := fun v d _ => safeD d = true → Rep K A2 v d) (motive_2 := fun vs ds _ => safeDs ds = true → Reps K A2 vs ds)
    (fun _ => .non) (fun b _ => .bl b) (fun i _ => .int i) (fun x _ => .str x) (fun _ _ _ c => by simp [safeD] at c)
    (fun {a xs ds} s _ ih c => .tup (ht _ _ s) (ih (by simpa [safeD] using c))) (fun _ _ _ c => by simp [safeD] at c) (fun _ _ _ c => by simp [safeD] at c) (fun _ => .nil) (fun _ _ i1 i2 c => by
      simp only [safeDs, Bool.and_eq_true] at c
      exact .cons (i1 c.1) (i2 c.2)) h
theorem Reps.safe {K : Fg} {A A2 : Hp} (ht : ∀ b xs, A b = some (.tup xs) → A2 b = some (.tup xs)) {vs : List V} {ds : List D} (h : Reps K A vs ds) (c : safeDs ds = true) : Reps K A2 vs ds := by
  induction ds generalizing vs with
  | nil => cases h; exact .nil
  | cons d ds ih =>
    cases h with
    | cons a b =>
      simp only [safeDs, Bool.and_eq_true] at c
      exact .cons (a.safe ht c.1) (ih b c.2)
theorem mem_of_nodupB : ∀ {l : List Nat}, nodupB l = true → l.Nodup
  | [], _ => .nil
  | i :: is, h => by
    simp only [nodupB, Bool.and_eq_true, Bool.not_eq_true'] at h
    refine List.nodup_cons.mpr ⟨fun hm => ?_, mem_of_nodupB h.2⟩
    have := List.contains_iff_mem.mpr hm
    rw [h.1] at this
    cases this
theorem mutS_get {os : List Op} : ∀ {ms mu : List Nat}, mutS os ms = some mu → mu.length = ms.length ∧ ∀ (k m : Nat), ms[k]? = some m → ∃ i, mu[k]? = some i ∧ os[m]? = some (.slot i)
  | [], mu, h => by cases h; exact ⟨rfl, fun k m z => by simp at z⟩
  | m :: ms, mu, h => by
    unfold mutS at h
    split at h
    · rename_i i hi
      obtain ⟨mu', h1, rfl⟩ := Option.map_eq_some_iff.mp h
      obtain ⟨l, g⟩ := mutS_get h1
      refine ⟨congrArg Nat.succ l, fun k m' z => ?_⟩
      cases k with
      | zero => simp at z; subst z; exact ⟨i, rfl, hi⟩
      | succ k => obtain ⟨j, a, b⟩ := g k m' (by simpa using z); exact ⟨j, by simpa using a, b⟩
    · cases h
theorem borS_mem {ms : List Nat} : ∀ {os : List Op} {k j i : Nat}, os[j]? = some (.slot i) → k + j ∉ ms → i ∈ borS ms k os
  | [], _, _, _, h, _ => by simp at h
  | o :: os, k, 0, i, h, n => by
    simp at h; subst h
    simp only [borS]
    rw [if_neg (by simpa using n)]
    exact List.mem_cons_self
  | o :: os, k, j + 1, i, h, n => by
    have ih := borS_mem (ms := ms) (os := os) (k := k + 1) (j := j) (i := i) (by simpa using h) (by rw [show k + 1 + j = k + (j + 1) by omega]; exact n)
    simp only [borS]
    split
    · split
      · exact ih
      · exact List.mem_cons_of_mem _ ih
    · exact ih
theorem argsD_get {ms : List Nat} {e : En} : ∀ {os : List Op} {k : Nat} {ds : List D}, argsD ms e k os = some ds → ds.length = os.length ∧ ∀ (j : Nat) o, os[j]? = some o → ∃ d, ds[j]? = some d ∧ (if k + j ∈ ms then ∃ i, o = .slot i ∧ getM (e.getD i .no) = some d else res o e = some d)
  | [], k, ds, h => by cases h; exact ⟨rfl, fun j o z => by simp at z⟩
  | o :: os, k, ds, h => by
    unfold argsD at h
    split at h
    · rename_i d hd
      obtain ⟨ds', h1, rfl⟩ := Option.map_eq_some_iff.mp h
      obtain ⟨l, g⟩ := argsD_get h1
      refine ⟨congrArg Nat.succ l, fun j o' z => ?_⟩
      cases j with
      | zero =>
        simp at z; subst z
        refine ⟨d, rfl, ?_⟩
        by_cases hk : k ∈ ms
        · rw [if_pos hk] at hd
          rw [if_pos (by simpa using hk)]
          split at hd
          · exact ⟨_, rfl, hd⟩
          · cases hd
        · rw [if_neg hk] at hd
          rw [if_neg (by simpa using hk)]
          exact hd
      | succ j =>
        obtain ⟨d', a, b⟩ := g j o' (by simpa using z)
        exact ⟨d', by simpa using a, by rw [show k + (j + 1) = k + 1 + j by omega]; exact b⟩
    · cases h
section
variable {K : Fg} {F A H : Hp} {σ : Sl} {env : En}
theorem OpsOk.len {os : List Op} : ∀ {vs : List V}, OpsOk K F A H σ env os vs → vs.length = os.length := by
  induction os with
  | nil => intro vs h; cases h; rfl
  | cons o os ih => intro vs h; obtain ⟨v, r, rfl, _, h2, _⟩ := h; exact congrArg Nat.succ (ih h2)
theorem OpsOk.at {os : List Op} : ∀ {vs : List V} {j : Nat} {o : Op} {v : V}, OpsOk K F A H σ env os vs → os[j]? = some o → vs[j]? = some v → OpOk K F A H σ env v o := by
  induction os with
  | nil => intro vs j o v _ h; simp at h
  | cons o os ih =>
    intro vs j o' v h e1 e2
    obtain ⟨v0, r, rfl, h1, h2, _⟩ := h
    cases j with
    | zero => simp at e1 e2; subst e1 e2; exact h1
    | succ j => exact ih h2 (by simpa using e1) (by simpa using e2)
/-- lent or own: F's word of the address -/
theorem SOk.mutF (S : SOk K F σ env H A) {i : Nat} {d : D} (e : getM (env.getD i .no) = some d) : ∃ p, σ[i]? = some (some (.ref p)) ∧ A p = none ∧ Bod K A H p d ∧ ((F p = none ∧ env.getD i .no = .own d) ∨ (F p = some (mkP i) ∧ env.getD i .no = .par d)) := by
  cases hh : env.getD i .no with
  | no => rw [hh] at e; cases e
  | v d => rw [hh] at e; cases e
  | raw d => rw [hh] at e; cases e
  | own d1 =>
    rw [hh] at e; cases e
    obtain ⟨p, a, b, c, f⟩ := S.ownA hh
    exact ⟨p, a, b, f, .inl ⟨c, rfl⟩⟩
  | par d1 =>
    rw [hh] at e; cases e
    obtain ⟨p, a, b, c, f⟩ := S.parA hh
    exact ⟨p, a, b, f, .inr ⟨c, rfl⟩⟩
theorem SOk.apartM (S : SOk K F σ env H A) {i j : Nat} {d e : D} {p : Addr} (h1 : getM (env.getD i .no) = some d) (h2 : getM (env.getD j .no) = some e) (h3 : σ[i]? = some (some (.ref p))) (h4 : σ[j]? = some (some (.ref p))) : i = j := by
  obtain ⟨q, a1, a2, a3, a4⟩ := S.mutF h1
  obtain ⟨r, b1, b2, b3, b4⟩ := S.mutF h2
  rw [h3] at a1; cases a1
  rw [h4] at b1; cases b1
  rcases a4 with ⟨a4, a5⟩ | ⟨a4, a5⟩
  · rcases b4 with ⟨b4, b5⟩ | ⟨b4, b5⟩
    · exact S.apart i j d e p a5 b5 h3 h4
    · rw [a4] at b4; cases b4
  · rcases b4 with ⟨b4, b5⟩ | ⟨b4, b5⟩
    · rw [a4] at b4; cases b4
    · rw [a4] at b4; exact mkP_inj (Option.some.inj b4)
theorem OpOk.newM (S : SOk K F σ env H A) {v : V} {d e : D} {p : Addr} (r : OpOk K F A H σ env v (.new d)) (hv : v = .ref p) {j : Nat} (h : getM (env.getD j .no) = some e) : σ[j]? ≠ some (some (.ref p)) := fun hs => by
  obtain ⟨q, a1, a2, a3, a4, a5⟩ := r
  rw [hv] at a1; cases a1
  obtain ⟨r, b1, b2, b3, b4⟩ := S.mutF h
  rw [hs] at b1; cases b1
  rcases b4 with ⟨b4, b5⟩ | ⟨b4, b5⟩
  · exact a5 j e b5 hs
  · rw [a3] at b4; cases b4
theorem setM_own {c : Cell} {d d' : D} (h : setM c d = .own d') (g : ∃ e, getM c = some e) : ∃ e, c = .own e := by
  obtain ⟨e, g⟩ := g
  cases c with
  | own x => exact ⟨x, rfl⟩
  | par x => cases h
  | no => cases g
  | v x => cases g
  | raw x => cases g
/-- behind a call the lent lists hold cs -/
theorem settle {H2 A2 : Hp} {mu : List Nat} {cs : List D} (S : SOk K F σ env H A) (nd : mu.Nodup) (hl : cs.length = mu.length) (hm : ∀ i ∈ mu, ∃ d, getM (env.getD i .no) = some d) (aa : Same A A2) (sub : Same A2 H2) (nomk : ∀ b i, H2 b ≠ some (mkP i))
    (an : ∀ j d p, getM (env.getD j .no) = some d → σ[j]? = some (some (.ref p)) → A2 p = none) (there : ∀ b, (H b).isSome → (H2 b).isSome)
    (frame : ∀ b o, H b = some o → (∀ i ∈ mu, σ[i]? ≠ some (some (.ref b))) → H2 b = some o) (bod : ∀ (k i : Nat) c p, mu[k]? = some i → cs[k]? = some c → σ[i]? = some (some (.ref p)) → Bod K A2 H2 p c) : SOk K F σ (putM mu cs env) H2 A2 := by
  have get : ∀ (mu : List Nat) (cs : List D) (e : En), mu.Nodup → cs.length = mu.length → (∀ i ∈ mu, i < e.length) → (putM mu cs e).length = e.length ∧ ∀ j, (j ∉ mu → (putM mu cs e).getD j .no = e.getD j .no) ∧ ∀ (k : Nat), mu[k]? = some j → ∃ c, cs[k]? = some c ∧ (putM mu cs e).getD j .no = setM (e.getD j .no) c := by
    intro mu
    induction mu with
    | nil => intro cs e _ _ _; cases cs <;> exact ⟨rfl, fun j => ⟨fun _ => rfl, fun k h => by simp at h⟩⟩
    | cons i is ih =>
      intro cs e nd hl hlt
      cases cs with
      | nil => cases hl
      | cons c cs =>
        obtain ⟨n1, n2⟩ := List.nodup_cons.mp nd
        have hi := hlt i List.mem_cons_self
        obtain ⟨l, g⟩ := ih cs (e.set i (setM (e.getD i .no) c)) n2 (by simpa using hl) (fun j hj => by rw [List.length_set]; exact hlt j (List.mem_cons_of_mem _ hj))
        refine ⟨by show (putM is cs _).length = _; rw [l, List.length_set], fun j => ⟨fun hj => ?_, fun k hk => ?_⟩⟩
        · simp only [List.mem_cons, not_or] at hj
          show (putM is cs _).getD j .no = _
          rw [(g j).1 hj.2, set_getD, if_neg (fun z => hj.1 z.1.symm)]
        · cases k with
          | zero =>
            simp at hk; subst hk
            refine ⟨c, rfl, ?_⟩
            show (putM is cs _).getD i .no = _
            rw [(g i).1 n1, set_getD, if_pos ⟨rfl, hi⟩]
          | succ k =>
            have hk' : is[k]? = some j := by simpa using hk
            obtain ⟨c', h1, h2⟩ := (g j).2 k hk'
            refine ⟨c', by simpa using h1, ?_⟩
            show (putM is cs _).getD j .no = _
            have hij : i ≠ j := fun z => n1 (z ▸ List.mem_of_getElem? hk')
            rw [h2, set_getD, if_neg (fun z => hij z.1)]
  have hlt : ∀ i ∈ mu, i < env.length := fun i hi => getD_lt (by
    obtain ⟨d, hd⟩ := hm i hi
    intro z
    rw [z] at hd
    cases hd)
  obtain ⟨gl, g⟩ := get mu cs env nd hl hlt
  have keepB : ∀ j d, j ∉ mu → getM (env.getD j .no) = some d → ∀ p, σ[j]? = some (some (.ref p)) → H2 p = H p := fun j d hj hd p hp => by
    obtain ⟨q, a1, a2, a3, a4⟩ := S.mutF hd
    rw [hp] at a1; cases a1
    obtain ⟨o, ho⟩ := a3.mut
    rw [ho]
    refine frame p o ho fun i hi hs => ?_
    obtain ⟨d', hd'⟩ := hm i hi
    exact hj ((S.apartM hd' hd hs hp) ▸ hi)
  refine ⟨sub, fun b o hb => ?_, fun j => ?_, fun i j d e p h1 h2 h3 h4 => ?_, by rw [gl]; exact S.lens, nomk⟩
  · rcases S.subF b o hb with z | ⟨z, u, hu⟩
    · by_cases hx : ∃ i, i ∈ mu ∧ σ[i]? = some (some (.ref b))
      · obtain ⟨i, hi, hs⟩ := hx
        obtain ⟨d, hd⟩ := hm i hi
        obtain ⟨q, a1, a2, a3, a4⟩ := S.mutF hd
        rw [hs] at a1; cases a1
        rcases a4 with ⟨a4, _⟩ | ⟨a4, _⟩
        · rw [hb] at a4; cases a4
        · rw [hb] at a4
          exact .inr ⟨⟨i, Option.some.inj a4⟩, Option.isSome_iff_exists.mp (there b (by rw [z]; rfl))⟩
      · exact .inl (frame b o z fun i hi hs => hx ⟨i, hi, hs⟩)
    · exact .inr ⟨z, Option.isSome_iff_exists.mp (there b (by rw [hu]; rfl))⟩
  · by_cases hj : j ∈ mu
    · obtain ⟨k, hk⟩ := List.getElem?_of_mem hj
      obtain ⟨c, hc, e1⟩ := (g j).2 k hk
      rw [e1]
      obtain ⟨d, hd⟩ := hm j hj
      obtain ⟨p, a1, a2, a3, a4⟩ := S.mutF hd
      have b2 := bod k j c p hk hc a1
      rcases a4 with ⟨a4, a5⟩ | ⟨a4, a5⟩
      · rw [a5]; exact ⟨p, a1, an j d p hd a1, a4, b2⟩
      · rw [a5]; exact ⟨p, a1, an j d p hd a1, a4, b2⟩
    · rw [(g j).1 hj]
      have hc := S.cell j
      cases hh : env.getD j .no with
      | no => trivial
      | v d => rw [hh] at hc; obtain ⟨v, x, y⟩ := hc; exact ⟨v, x, y.same aa⟩
      | raw d => rw [hh] at hc; exact hc
      | own d =>
        rw [hh] at hc
        obtain ⟨p, a1, a2, a3, a4⟩ := hc
        have hd : getM (env.getD j .no) = some d := by rw [hh]; rfl
        exact ⟨p, a1, an j d p hd a1, a3, a4.move aa (keepB j d hj hd p a1)⟩
      | par d =>
        rw [hh] at hc
        obtain ⟨p, a1, a2, a3, a4⟩ := hc
        have hd : getM (env.getD j .no) = some d := by rw [hh]; rfl
        exact ⟨p, a1, an j d p hd a1, a3, a4.move aa (keepB j d hj hd p a1)⟩
  · have key : ∀ j d, (putM mu cs env).getD j .no = .own d → ∃ d0, env.getD j .no = .own d0 := fun j d hj => by
      by_cases hm' : j ∈ mu
      · obtain ⟨k, hk⟩ := List.getElem?_of_mem hm'
        obtain ⟨c, hc, e1⟩ := (g j).2 k hk
        rw [e1] at hj
        exact setM_own hj (hm j hm')
      · rw [(g j).1 hm'] at hj; exact ⟨d, hj⟩
    obtain ⟨e1, q1⟩ := key i d h1
    obtain ⟨e2, q2⟩ := key j e h2
    exact S.apart i j e1 e2 p q1 q2 h3 h4
theorem putM_own {mu : List Nat} : ∀ {cs : List D} {e : En} {j : Nat} {d : D}, (∀ i ∈ mu, ∃ d, getM (e.getD i .no) = some d) → mu.Nodup → (putM mu cs e).getD j .no = .own d → ∃ d0, e.getD j .no = .own d0 := by
  induction mu with
  | nil => intro cs e j d _ _ h; cases cs <;> exact ⟨d, h⟩
  | cons i is ih =>
    intro cs e j d hm nd h
    cases cs with
    | nil => exact ⟨d, h⟩
    | cons c cs =>
      obtain ⟨n1, n2⟩ := List.nodup_cons.mp nd
      have h' : (putM is cs (e.set i (setM (e.getD i .no) c))).getD j .no = .own d := h
      obtain ⟨d0, h0⟩ := ih (fun k hk => by
        have hik : i ≠ k := fun z => n1 (z ▸ hk)
        rw [set_getD, if_neg (fun z => hik z.1)]
        exact hm k (List.mem_cons_of_mem _ hk)) n2 h'
      rw [set_getD] at h0
      split at h0
      · rename_i hh
        obtain ⟨rfl, _⟩ := hh
        exact setM_own h0 (hm i List.mem_cons_self)
      · exact ⟨d0, h0⟩
end
section
variable {K : Fg} {F A H : Hp} {σ : Sl} {env : En}
theorem frz1_res {o o' : Op} {d : D} {e' : En} (h : frz1 o env = some (d, e')) : res o' e' = res o' env := by
  cases o with
  | val x => cases h; rfl
  | new x => cases h; rfl
  | raw x => cases h
  | slot i =>
    simp only [frz1] at h
    cases hh : env.getD i .no with
    | no => rw [hh] at h; cases h
    | raw x => rw [hh] at h; cases h
    | par x => rw [hh] at h; cases h
    | v x => rw [hh] at h; cases h; rfl
    | own x =>
      rw [hh] at h; cases h
      cases o' with
      | val y => rfl
      | new y => rfl
      | raw y => rfl
      | slot j =>
        simp only [res]
        rw [set_getD]
        by_cases hj : i = j
        · subst hj
          rw [if_pos ⟨rfl, getD_lt (by rw [hh]; exact fun z => nomatch z)⟩, hh]
        · rw [if_neg (fun z => hj z.1)]
theorem frz1_get {o : Op} {d : D} {e' : En} (h : frz1 o env = some (d, e')) {i : Nat} (n : o ≠ .slot i) : e'.getD i .no = env.getD i .no := by
  cases o with
  | val x => cases h; rfl
  | new x => cases h; rfl
  | raw x => cases h
  | slot j =>
    have hj : j ≠ i := fun z => n (by rw [z])
    simp only [frz1] at h
    cases hh : env.getD j .no with
    | no => rw [hh] at h; cases h
    | raw x => rw [hh] at h; cases h
    | par x => rw [hh] at h; cases h
    | v x => rw [hh] at h; cases h; rfl
    | own x => rw [hh] at h; cases h; rw [set_getD, if_neg (fun z => hj z.1)]
theorem frz1_d {o : Op} {d : D} {e' : En} (h : frz1 o env = some (d, e')) : res o env = some d := by
  cases o with
  | val x => cases h; rfl
  | new x => cases h; rfl
  | raw x => cases h
  | slot i =>
    simp only [frz1] at h
    simp only [res]
    cases hh : env.getD i .no with
    | no => rw [hh] at h; cases h
    | raw x => rw [hh] at h; cases h
    | par x => rw [hh] at h; cases h
    | v x => rw [hh] at h; cases h; rfl
    | own x => rw [hh] at h; cases h; rfl
theorem frzN_ok {ms : List Nat} {os : List Op} : ∀ {k : Nat} {env : En} {A : Hp} {vs : List V} {env1 : En}, SOk K F σ env H A → OpsOk K F A H σ env os vs → frzN ms k os env = some env1 →
    ∃ A1, SOk K F σ env1 H A1 ∧ Grow F A A1 ∧ (∀ (j : Nat) v o d, k + j ∉ ms → os[j]? = some o → vs[j]? = some v → res o env = some d → Rep K A1 v d) ∧
      (∀ i, (∀ j : Nat, k + j ∉ ms → os[j]? ≠ some (.slot i)) → env1.getD i .no = env.getD i .no) ∧ ∀ j d, env1.getD j .no = .own d → env.getD j .no = .own d := by
  induction os with
  | nil => intro k env A vs env1 S r h; cases h; exact ⟨A, S, Grow.refl, fun j v o d _ z => by simp at z, fun i _ => rfl, fun _ _ z => z⟩
  | cons o os ih =>
    intro k env A vs env1 S r h
    obtain ⟨v, rs, rfl, r1, r2, r3⟩ := r
    unfold frzN at h
    by_cases hk : k ∈ ms
    · rw [if_pos hk] at h
      obtain ⟨A1, S1, g1, a1, b1, c1⟩ := ih S r2 h
      refine ⟨A1, S1, g1, fun j v' o' d hj ho hv hd => ?_, fun i hi => b1 i fun j hj => ?_, c1⟩
      · cases j with
        | zero => exact absurd (by simpa using hk) hj
        | succ j => exact a1 j v' o' d (by rw [show k + 1 + j = k + (j + 1) by omega]; exact hj) (by simpa using ho) (by simpa using hv) hd
      · have := hi (j + 1) (by rw [show k + (j + 1) = k + 1 + j by omega]; exact hj)
        simpa using this
    · rw [if_neg hk] at h
      cases hf : frz1 o env with
      | none => rw [hf] at h; cases h
      | some w =>
        obtain ⟨d0, e1⟩ := w
        rw [hf] at h
        simp only at h
        obtain ⟨A1, S1, g1, q1, n1, o1⟩ := frz1_ok S r1 hf
        have r2' : OpsOk K F A1 H σ e1 os rs := r2.move g1.1 o1 fun j d' p a b => Classical.byContradiction fun nb => by
          obtain ⟨ev, hh⟩ := n1 p nb
          rcases hh with ⟨dd, rfl⟩ | ⟨i, dd, hi, hs⟩
          · exact r3 dd rfl j d' a (by rw [b, ev])
          · obtain ⟨p', x1, x2, x3, x4, x5⟩ := r2.newAt a b
            cases x1
            exact x5 i dd hi hs
        obtain ⟨A2, S2, g2, a2, b2, c2⟩ := ih S1 r2' h
        refine ⟨A2, S2, g1.trans g2, fun j v' o' d hj ho hv hd => ?_, fun i hi => ?_, fun j d hj => o1 j d (c2 j d hj)⟩
        · cases j with
          | zero =>
            simp at ho hv
            subst ho hv
            have := frz1_d hf
            rw [hd] at this; cases this
            exact q1.same g2.1
          | succ j => exact a2 j v' o' d (by rw [show k + 1 + j = k + (j + 1) by omega]; exact hj) (by simpa using ho) (by simpa using hv) (by rw [frz1_res hf]; exact hd)
        · rw [b2 i fun j hj => by
            have := hi (j + 1) (by rw [show k + (j + 1) = k + 1 + j by omega]; exact hj)
            simpa using this]
          exact frz1_get hf fun z => hi 0 (by simpa using hk) (by rw [z]; rfl)
theorem Bod.safe {A' A2 H' : Hp} {p : Addr} {d : D} (ht : ∀ b xs, A' b = some (.tup xs) → A2 b = some (.tup xs)) (h : Bod K A' H' p d) (c : safeC d = true) : Bod K A2 H' p d := by
  cases d <;> first | exact h.elim | skip
  · obtain ⟨vs, a, b⟩ := h; exact ⟨vs, a, b.safe ht c⟩
  · cases c
/-- THE CALL -/
theorem call_ok {mg : Str → Option Value} {E : Sl → XK} {ms : List Nat} {fn : Fn} {dflt : List D} {dvs : List V} {os : List Op} {vs : List V} {np : Nat} {Q : VK} (S : SOk K F σ env H A) (r : OpsOk K F A H σ env os vs) (dd : ∀ A, Reps K A dvs dflt)
    (hnp : vs.length + dvs.length = np) (h : match callM ms fn dflt os env with
      | .ok o env' => ∀ v H' A', SOk K F σ env' H' A' → Grow F A A' → OpOk K F A' H' σ env' v o → Q v H'
      | .exc n env' => ∀ C H' A', mg n = some (.ref C) → SOk K F σ env' H' A' → Grow F A A' → E σ (.ref C) none H'
      | .bad => False) : spFn K mg ms np fn (vs ++ dvs) H Q (E σ) := by
  unfold callM at h
  cases hmu : mutS os ms with
  | none => rw [hmu] at h; exact h.elim
  | some mu =>
    rw [hmu] at h
    simp only at h
    by_cases hok : (nodupB mu && (borS ms 0 os).all (fun i => !(mu.contains i))) = true
    rotate_left
    · rw [if_neg hok] at h; exact h.elim
    rw [if_pos hok] at h
    rw [Bool.and_eq_true] at hok
    have nd := mem_of_nodupB hok.1
    have hbor : ∀ i ∈ borS ms 0 os, i ∉ mu := fun i hi hm => by
      have := List.all_eq_true.mp hok.2 i hi
      rw [List.contains_iff_mem.mpr hm] at this
      cases this
    cases hds : argsD ms env 0 os with
    | none => rw [hds] at h; exact h.elim
    | some ds =>
      rw [hds] at h
      simp only at h
      obtain ⟨lmu, gmu⟩ := mutS_get hmu
      obtain ⟨lds, gds⟩ := argsD_get hds
      have lvs := r.len
      -- a lent place
      have lent : ∀ i ∈ ms, ∃ (k j : Nat) (d : D) (p : Addr), ms[k]? = some i ∧ mu[k]? = some j ∧ os[i]? = some (.slot j) ∧ ds[i]? = some d ∧ getM (env.getD j .no) = some d ∧ vs[i]? = some (.ref p) ∧ σ[j]? = some (some (.ref p)) ∧ i < vs.length := by
        intro i hi
        obtain ⟨k, hk⟩ := List.getElem?_of_mem hi
        obtain ⟨j, h1, h2⟩ := gmu k i hk
        obtain ⟨d, h3, h4⟩ := gds i _ h2
        rw [if_pos (by simpa using hi)] at h4
        obtain ⟨j', e1, h5⟩ := h4
        cases e1
        have il : i < vs.length := by rw [lvs]; exact (List.getElem?_eq_some_iff.mp h2).1
        have h6 : σ[j]? = some (some vs[i]) := r.at h2 (List.getElem?_eq_getElem il)
        obtain ⟨p, a1, _⟩ := S.mutF h5
        rw [h6] at a1
        have e2 : vs[i] = .ref p := by simpa using a1
        exact ⟨k, j, d, p, hk, h1, h2, h3, h5, by rw [List.getElem?_eq_getElem il, e2], by rw [h6, e2], il⟩
      have hm : ∀ j ∈ mu, ∃ d, getM (env.getD j .no) = some d := fun j hj => by
        obtain ⟨k, hk⟩ := List.getElem?_of_mem hj
        have hk2 : k < ms.length := by rw [← lmu]; exact (List.getElem?_eq_some_iff.mp hk).1
        obtain ⟨k', j', d, p, h1, h2, h3, h4, h5, _⟩ := lent ms[k] (List.getElem_mem hk2)
        obtain ⟨j2, h6, h7⟩ := gmu k ms[k] (List.getElem?_eq_getElem hk2)
        rw [hk] at h6; cases h6
        rw [h3] at h7; cases h7
        exact ⟨d, h5⟩
      have getl : ∀ (i : Nat) v, i < vs.length → ((vs ++ dvs)[i]? = some v ↔ vs[i]? = some v) := fun i v hi => by rw [List.getElem?_append_left hi]
      have apart : ∀ (i j : Nat) p, i ∈ ms → j ∈ ms → (vs ++ dvs)[i]? = some (.ref p) → (vs ++ dvs)[j]? = some (.ref p) → i = j := by
        intro i j p hi hj h1 h2
        obtain ⟨k1, s1, d1, p1, a1, a2, a3, a4, a5, a6, a7, a8⟩ := lent i hi
        obtain ⟨k2, s2, d2, p2, b1, b2, b3, b4, b5, b6, b7, b8⟩ := lent j hj
        rw [getl i _ a8, a6] at h1; cases h1
        rw [getl j _ b8, b6] at h2; cases h2
        have := S.apartM a5 b5 a7 b7
        subst this
        have : k1 = k2 := by
          obtain ⟨x1, y1⟩ := List.getElem?_eq_some_iff.mp a2
          obtain ⟨x2, y2⟩ := List.getElem?_eq_some_iff.mp b2
          exact (List.getElem_inj nd).mp (y1.trans y2.symm)
        subst this
        rw [a1] at b1; cases b1; rfl
      have defl : ∀ (B : Hp) (i : Nat) v d, ¬ i < vs.length → (vs ++ dvs)[i]? = some v → (ds ++ dflt)[i]? = some d → Rep K B v d := fun B i v d hi h1 h2 => by
        rw [List.getElem?_append_right (by omega)] at h1 h2
        rw [lds, ← lvs] at h2
        obtain ⟨v', e1, e2⟩ := (dd B).get h2
        rw [h1] at e1; cases e1
        exact e2
      have frame' : ∀ b, (∀ i ∈ mu, σ[i]? ≠ some (some (.ref b))) → ∀ i ∈ ms, (vs ++ dvs)[i]? ≠ some (.ref b) := fun b hb i hi hv => by
        obtain ⟨k1, s1, d1, p1, a1, a2, a3, a4, a5, a6, a7, a8⟩ := lent i hi
        rw [getl i _ a8, a6] at hv; cases hv
        exact hb s1 (List.mem_of_getElem? a2) a7
      have muts' : ∀ (k i : Nat) p, mu[k]? = some i → σ[i]? = some (some (.ref p)) → ∃ m, ms[k]? = some m ∧ (vs ++ dvs)[m]? = some (.ref p) := fun k i p h1 h2 => by
        have hk2 : k < ms.length := by rw [← lmu]; exact (List.getElem?_eq_some_iff.mp h1).1
        obtain ⟨k', j', d, p', a1, a2, a3, a4, a5, a6, a7, a8⟩ := lent ms[k] (List.getElem_mem hk2)
        obtain ⟨j2, h6, h7⟩ := gmu k ms[k] (List.getElem?_eq_getElem hk2)
        rw [h1] at h6; cases h6
        rw [a3] at h7; cases h7
        rw [h2] at a7; cases a7
        exact ⟨ms[k], List.getElem?_eq_getElem hk2, (getl _ _ a8).mpr a6⟩
      have len0 : (vs ++ dvs).length = (ds ++ dflt).length := by rw [List.length_append, List.length_append, lds, lvs, (dd A).length]
      -- the part with the other operands' lists
      let PB : Addr → Prop := fun b => ∃ (k : Nat) (o : Op), k ∉ ms ∧ os[k]? = some o ∧ vs[k]? = some (.ref b) ∧ ((∃ d, o = .new d) ∨ ∃ i d, o = .slot i ∧ getM (env.getD i .no) = some d)
      have pbA : ∀ b, PB b → A b = none ∧ (∃ d, Bod K A H b d) ∧ (∀ j ∈ mu, σ[j]? ≠ some (some (.ref b))) := by
        rintro b ⟨k, o, h1, h2, h3, h4⟩
        have ro := r.at h2 h3
        rcases h4 with ⟨d, rfl⟩ | ⟨i, d, rfl, hd⟩
        · refine ⟨?_, ?_, fun j hj => ?_⟩
          · obtain ⟨p, x1, x2, _⟩ := ro; cases x1; exact x2
          · obtain ⟨p, x1, x2, x3, x4, _⟩ := ro; cases x1; exact ⟨d, x4⟩
          · obtain ⟨d', hd'⟩ := hm j hj
            exact ro.newM S rfl hd'
        · have hs : σ[i]? = some (some (.ref b)) := ro
          obtain ⟨p, a1, a2, a3, a4⟩ := S.mutF hd
          rw [hs] at a1; cases a1
          refine ⟨a2, ⟨d, a3⟩, fun j hj hs2 => ?_⟩
          obtain ⟨d', hd'⟩ := hm j hj
          have := S.apartM hd' hd hs2 hs
          subst this
          exact hbor j (borS_mem h2 (by simpa using h1)) hj
      -- what the function gives
      have rest : ∀ (B : Hp), Same A B → Same B H → (∀ (i : Nat) v d, i ∉ ms → vs[i]? = some v → ds[i]? = some d → Rep K B v d) → (∀ i ∈ ms, ∀ p, vs[i]? = some (.ref p) → B p = none) → ArgsOk K B H (vs ++ dvs) (ds ++ dflt) ms := by
        intro B sAB sBH hv hn
        refine ⟨sBH, S.nomk, len0, fun i v d hi h1 h2 => ?_, fun i v d hi h1 h2 => ?_, apart⟩
        · by_cases hl : i < vs.length
          · rw [List.getElem?_append_left hl] at h1
            rw [List.getElem?_append_left (by rw [lds, ← lvs]; exact hl)] at h2
            exact hv i v d hi h1 h2
          · exact defl B i v d hl h1 h2
        · obtain ⟨k1, s1, d1, p1, a1, a2, a3, a4, a5, a6, a7, a8⟩ := lent i hi
          rw [getl i _ a8, a6] at h1; cases h1
          rw [List.getElem?_append_left (by rw [lds, ← lvs]; exact a8), a4] at h2; cases h2
          obtain ⟨q, b1, b2, b3, b4⟩ := S.mutF a5
          rw [a7] at b1; cases b1
          exact ⟨p1, rfl, hn i hi p1 a6, b3.move sAB rfl⟩
      have noPB : ∀ i ∈ ms, ∀ p, vs[i]? = some (.ref p) → ¬ PB p := fun i hi p hp hb => by
        obtain ⟨k1, s1, d1, p1, a1, a2, a3, a4, a5, a6, a7, a8⟩ := lent i hi
        rw [a6] at hp; cases hp
        exact (pbA _ hb).2.2 s1 (List.mem_of_getElem? a2) a7
      have lentA : ∀ i ∈ ms, ∀ p, vs[i]? = some (.ref p) → A p = none := fun i hi p hp => by
        obtain ⟨k1, s1, d1, p1, a1, a2, a3, a4, a5, a6, a7, a8⟩ := lent i hi
        rw [a6] at hp; cases hp
        obtain ⟨q, b1, b2, b3, b4⟩ := S.mutF a5
        rw [a7] at b1; cases b1
        exact b2
      have dec : DecidablePred PB := fun b => Classical.propDecidable _
      let AP : Hp := fun b => if PB b then H b else A b
      have apY : ∀ b, PB b → AP b = H b := fun b hb => if_pos hb
      have apN : ∀ b, ¬ PB b → AP b = A b := fun b hb => if_neg hb
      have sAP : Same A AP := fun b o hb => by
        rw [apN b fun z => by rw [(pbA b z).1] at hb; cases hb]; exact hb
      have sPH : Same AP H := fun b o hb => by
        by_cases hp : PB b
        · rw [apY b hp] at hb; exact hb
        · rw [apN b hp] at hb; exact S.subA b o hb
      have valP : ∀ (i : Nat) v d, i ∉ ms → vs[i]? = some v → ds[i]? = some d → Rep K AP v d := fun i v d hi h1 h2 => by
        have il : i < os.length := by rw [← lvs]; exact (List.getElem?_eq_some_iff.mp h1).1
        have ho := List.getElem?_eq_getElem il
        obtain ⟨d', h3, h4⟩ := gds i _ ho
        rw [h2] at h3; cases h3
        rw [if_neg (by simpa using hi)] at h4
        have ro := r.at ho h1
        generalize hc : os[i] = c at h4 ro ho
        cases c with
        | val d0 => cases h4; exact Rep.same sAP ro
        | raw w => cases h4
        | new d0 =>
          cases h4
          obtain ⟨p, e1, x2, x3, x4, _⟩ := ro
          subst e1
          exact x4.rep sAP (apY p ⟨i, _, hi, ho, h1, .inl ⟨_, rfl⟩⟩)
        | slot j =>
          have hv : σ[j]? = some (some v) := ro
          simp only [res] at h4
          have mutcase : getM (env.getD j .no) = some d → Rep K AP v d := fun hg => by
            obtain ⟨p, a1, a2, a3, a4⟩ := S.mutF hg
            rw [hv] at a1; cases a1
            exact a3.rep sAP (apY p ⟨i, _, hi, ho, h1, .inr ⟨j, d, rfl, hg⟩⟩)
          cases hh : env.getD j .no with
          | no => rw [hh] at h4; cases h4
          | raw w => rw [hh] at h4; cases h4
          | own d0 => rw [hh] at h4 mutcase; cases h4; exact mutcase rfl
          | par d0 => rw [hh] at h4 mutcase; cases h4; exact mutcase rfl
          | v d0 =>
            rw [hh] at h4; cases h4
            have hc2 := S.cell j
            rw [hh] at hc2
            obtain ⟨w, x, y⟩ := hc2
            rw [hv] at x; cases x
            exact y.same sAP
      have argsP : ArgsOk K AP H (vs ++ dvs) (ds ++ dflt) ms := rest AP sAP sPH valP (fun i hi p hp => by rw [apN p (noPB i hi p hp)]; exact lentA i hi p hp)
      -- behind it, nothing that hangs on a lent or held list being kept
      have safeEnd : ∀ H' A' cs, After K AP H A' H' (vs ++ dvs) ms cs → cs.all safeC = true → ∃ A2, SOk K F σ (putM mu cs env) H' A2 ∧ Grow F A A2 ∧ ∀ v o, RV K H A' H' v o → safeOp o = true → OpOk K F A2 H' σ (putM mu cs env) v o := by
        intro H' A' cs af hcs
        let A2 : Hp := fun b => if PB b then none else A' b
        have a2Y : ∀ b, PB b → A2 b = none := fun b hb => if_pos hb
        have a2N : ∀ b, ¬ PB b → A2 b = A' b := fun b hb => if_neg hb
        have pbH : ∀ b, PB b → A' b = H b := fun b hb => by
          obtain ⟨_, ⟨d, bd⟩, _⟩ := pbA b hb
          obtain ⟨o, ho⟩ := bd.mut
          exact (af.old b (by rw [ho]; rfl)).trans (apY b hb)
        have ht : ∀ b xs, A' b = some (.tup xs) → A2 b = some (.tup xs) := fun b xs hr => by
          have n : ¬ PB b := fun hb => by
            obtain ⟨_, ⟨d, bd⟩, _⟩ := pbA b hb
            obtain ⟨o, ho⟩ := bd.mut
            have e1 := pbH b hb
            rw [ho] at e1
            rcases bd.lstdic ho with ⟨_, rfl⟩ | ⟨_, rfl⟩ | ⟨_, rfl⟩ <;> (rw [e1] at hr; cases hr)
          exact (a2N b n).trans hr
        have aa : Same A A2 := fun b o hb => by
          have n : ¬ PB b := fun z => by rw [(pbA b z).1] at hb; cases hb
          rw [a2N b n]
          exact af.aa b o (sAP b o hb)
        have S2 : SOk K F σ (putM mu cs env) H' A2 := by
          refine settle S nd (by rw [lmu]; exact af.lens) hm aa (fun b o hb => ?_) af.nomk (fun j d p hd hp => ?_) af.there (fun b o hb hn => af.frame b o hb (frame' b hn)) (fun k i c p h1 h2 h3 => ?_)
          · by_cases hp : PB b
            · rw [a2Y b hp] at hb; cases hb
            · rw [a2N b hp] at hb; exact af.sub b o hb
          · by_cases hb : PB p
            · exact a2Y p hb
            · obtain ⟨q, x1, x2, x3, x4⟩ := S.mutF hd
              rw [hp] at x1; cases x1
              obtain ⟨o, ho⟩ := x3.mut
              rw [a2N p hb, af.old p (by rw [ho]; rfl), apN p hb]
              exact x2
          · obtain ⟨m, e1, e2⟩ := muts' k i p h1 h3
            exact (af.muts k m c p e1 h2 e2).safe ht (List.all_eq_true.mp hcs c (List.mem_of_getElem? h2))
        have gr : Grow F A A2 := ⟨aa, fun b hb => by
          have hH := S.subF.there hb
          by_cases hp : PB b
          · rw [a2Y b hp, (pbA b hp).1]
          · rw [a2N b hp, af.old b hH, apN b hp]⟩
        refine ⟨A2, S2, gr, fun v o rv hs => ?_⟩
        cases o with
        | slot i => exact rv.elim
        | raw w => cases hs
        | val d => exact Rep.safe ht rv hs
        | new d =>
          obtain ⟨p, e1, n1, n2, b2⟩ := rv
          have np : ¬ PB p := fun hb => by
            obtain ⟨_, ⟨d, bd⟩, _⟩ := pbA p hb
            obtain ⟨o, ho⟩ := bd.mut
            rw [n1] at ho; cases ho
          refine ⟨p, e1, (a2N p np).trans n2, S.subF.free n1, b2.safe ht hs, fun j d' hj hsj => ?_⟩
          obtain ⟨d0, h0⟩ := putM_own hm nd hj
          obtain ⟨q, x1, x2, x3, x4⟩ := S.ownA h0
          rw [hsj] at x1; cases x1
          obtain ⟨o, ho⟩ := x4.mut
          rw [n1] at ho; cases ho
      cases hf : fn (ds ++ dflt) with
      | bad => rw [hf] at h; exact h.elim
      | exc n cs =>
        rw [hf] at h
        simp only at h
        by_cases hcs : cs.all safeC = true
        rotate_left
        · rw [if_neg hcs] at h; exact h.elim
        rw [if_pos hcs] at h
        refine ⟨ds ++ dflt, AP, by rw [List.length_append]; exact hnp, argsP, ?_⟩
        rw [hf]
        intro C H' A' hC af
        obtain ⟨A2, S2, g2, _⟩ := safeEnd H' A' cs af hcs
        exact h C H' A2 hC S2 g2
      | ok o cs =>
        rw [hf] at h
        simp only at h
        by_cases hcs : (safeOp o && cs.all safeC) = true
        · rw [if_pos hcs] at h
          rw [Bool.and_eq_true] at hcs
          refine ⟨ds ++ dflt, AP, by rw [List.length_append]; exact hnp, argsP, ?_⟩
          rw [hf]
          intro v H' A' af rv
          obtain ⟨A2, S2, g2, k2⟩ := safeEnd H' A' cs af hcs.2
          exact h v H' A2 S2 g2 (k2 v o rv hcs.1)
        · rw [if_neg hcs] at h
          cases hz : frzN ms 0 os env with
          | none => rw [hz] at h; exact h.elim
          | some e1 =>
            rw [hz] at h
            simp only at h
            obtain ⟨A1, S1, g1, v1, k1, o1⟩ := frzN_ok S r hz
            have keepm : ∀ j ∈ mu, e1.getD j .no = env.getD j .no := fun j hj => k1 j fun i hi hs => hbor j (borS_mem hs hi) hj
            have hm1 : ∀ j ∈ mu, ∃ d, getM (e1.getD j .no) = some d := fun j hj => by rw [keepm j hj]; exact hm j hj
            have valA : ∀ (i : Nat) v d, i ∉ ms → vs[i]? = some v → ds[i]? = some d → Rep K A1 v d := fun i v d hi h1 h2 => by
              have il : i < os.length := by rw [← lvs]; exact (List.getElem?_eq_some_iff.mp h1).1
              have ho := List.getElem?_eq_getElem il
              obtain ⟨d', h3, h4⟩ := gds i _ ho
              rw [h2] at h3; cases h3
              rw [if_neg (by simpa using hi)] at h4
              exact v1 i v _ d (by simpa using hi) ho h1 h4
            have argsA : ArgsOk K A1 H (vs ++ dvs) (ds ++ dflt) ms := rest A1 g1.1 S1.subA valA (fun i hi p hp => by
              obtain ⟨k0, s0, d0, p0, a1, a2, a3, a4, a5, a6, a7, a8⟩ := lent i hi
              rw [a6] at hp; cases hp
              obtain ⟨q, x1, x2, x3, x4⟩ := S1.mutF (by rw [keepm s0 (List.mem_of_getElem? a2)]; exact a5)
              rw [a7] at x1; cases x1
              exact x2)
            refine ⟨ds ++ dflt, A1, by rw [List.length_append]; exact hnp, argsA, ?_⟩
            rw [hf]
            intro v H' A' af rv
            have S2 : SOk K F σ (putM mu cs e1) H' A' := by
              refine settle S1 nd (by rw [lmu]; exact af.lens) hm1 af.aa af.sub af.nomk (fun j d p hd hp => ?_) af.there (fun b o hb hn => af.frame b o hb (frame' b hn)) (fun k i c p h1 h2 h3 => ?_)
              · obtain ⟨q, x1, x2, x3, x4⟩ := S1.mutF hd
                rw [hp] at x1; cases x1
                obtain ⟨o, ho⟩ := x3.mut
                rw [af.old p (by rw [ho]; rfl)]
                exact x2
              · obtain ⟨m, q1, q2⟩ := muts' k i p h1 h3
                exact af.muts k m c p q1 h2 q2
            refine h v H' A' S2 (g1.trans ⟨af.aa, fun b hb => af.old b (S1.subF.there hb)⟩) ?_
            cases o with
            | slot i => exact rv.elim
            | raw w => exact rv
            | val d => exact rv
            | new d =>
              obtain ⟨p, q1, n1, n2, b2⟩ := rv
              refine ⟨p, q1, n2, S.subF.free n1, b2, fun j d' hj hsj => ?_⟩
              obtain ⟨d0, h0⟩ := putM_own hm1 nd hj
              obtain ⟨q, x1, x2, x3, x4⟩ := S1.ownA h0
              rw [hsj] at x1; cases x1
              obtain ⟨o, ho⟩ := x4.mut
              rw [n1] at ho; cases ho
end
section
variable {K : Fg} {mg : Str → Option Value} {E : Sl → XK} {fa : Ax} {σ : Sl} {H : Hp} {ms : List Nat} {fn : Fn} {dflt : List D} {dvs : List V} {np : Nat}
theorem tJ_call (dd : ∀ A, Reps K A dvs dflt) {n : Nat} (hn : n + dvs.length = np) (hl : ∀ env os e, fa env = .ok os e → os.length = n) {Q : VK} (h : tJ K mg E (eCall ms fn dflt fa) σ H Q) : tJA K mg E fa σ H fun vs H1 => spFn K mg ms np fn (vs ++ dvs) H1 Q (E σ) := by
  obtain ⟨env, A, F, S, h⟩ := h
  refine ⟨env, A, F, S, ?_⟩
  unfold eCall at h
  cases e : fa env with
  | bad => rw [e] at h; exact h
  | exc n e' => rw [e] at h; exact h
  | ok os e' =>
    rw [e] at h
    intro vs H1 A1 S1 g1 r1
    refine call_ok S1 r1 dd (by rw [r1.len, hl env os e' e]; exact hn) ?_
    simp only [Out.bind] at h
    cases hc : callM ms fn dflt os e' with
    | bad => rw [hc] at h; exact h
    | exc n e2 => rw [hc] at h; exact fun C H' A' m S' g' => h C H' A' m S' (g1.trans g')
    | ok o e2 => rw [hc] at h; exact fun v H' A' S' g' r' => h v H' A' S' (g1.trans g') r'
end
end T3
namespace T3
open PySem PySem.Spec PyProof.Rows L2
/-- what a call asks: the arguments, then the promise with the defaults behind them, exceptions by the slots -/
def tCallD (sp : Sp) (dvs : List V) (E : Sl → XK) (t : TA) : TE := fun σ H Q => t σ H fun vs H1 => sp (vs ++ dvs) H1 Q (E σ)
def ArgLen (n : Nat) (fa : Ax) : Prop := ∀ env os e, fa env = .ok os e → os.length = n
theorem al_nil : ArgLen 0 eNil := fun env os e h => by cases h; rfl
theorem al_cons {n : Nat} {f : Ex} {fa : Ax} (h : ArgLen n fa) : ArgLen (n + 1) (eCons f fa) := fun env os e q => by
  unfold eCons at q
  cases h1 : f env with
  | bad => rw [h1] at q; cases q
  | exc n s => rw [h1] at q; cases q
  | ok o e1 =>
    rw [h1] at q
    simp only [Out.bind] at q
    cases h2 : fa e1 with
    | bad => rw [h2] at q; cases q
    | exc n s => rw [h2] at q; cases q
    | ok os1 e2 =>
      rw [h2] at q
      simp only at q
      cases q
      exact congrArg Nat.succ (h _ _ _ h2)
section
variable {X : Cx} {k : Nat} {f : Addr} {fd : FuncData} {ps : List Str} {sp : Sp} {dvs : List V} {ds : List Value} {E : Sl → XK} {x : Str} {p pos : Pos} {e : Expr} {es : List Expr} {t : TA}
theorem run_fnG {pins : List (Addr × Obj)} {σ : Sl} {H : Hp} {s : Shared} {Q : VK} {us : List Value} {vs : List V} (F : FnG X.prog X.w X.K X.mg X.base k f fd ps sp) (hr : Room k X.A) (hG : X.A.guards = some []) (hb : Binds X.K fd ps ds) (hd : Vals dvs ds)
    (hx : PassesAt (L2.CX X.prog X.w) X σ (E σ)) (I : Inv X pins σ H s) (r : Vals vs us) (h : sp (vs ++ dvs) H Q (E σ)) : wpAny (model X.prog X.w) X.A (call (.ref f) us) (EP X pins σ Q) X.xe s := by
  have r2 : Vals (vs ++ dvs) (us ++ ds) := r.append hd
  have hl : (us ++ ds).length = ps.length := by rw [← r2.length]; exact F.len _ _ _ _ h
  refine wpAny_call (codeAny_mono (F.run X.A X.stack s H ⟨us, []⟩ (us ++ ds) (vs ++ dvs) Q (E σ) hr hG I.env0 (hb s us I.kIn hl) r2 h) fun r s' hq => ?_)
  match r, hq with
  | .error e, hq => exact hx pins H s e s' I hq
  | .ok (.ret u), hq => exact I.after hq
  | .ok .next, hq => exact False.elim hq
  | .ok .brk, hq => exact False.elim hq
  | .ok .cont, hq => exact False.elim hq
theorem pe_callG (F : FnG X.prog X.w X.K X.mg X.base k f fd ps sp) (hr : Room k X.A) (hG : X.A.guards = some []) (hg : Gl X x) (hm : X.mg x = some (.ref f)) (hk : PySem.W.keepIn X.K (.ref f) = true) (hb : Binds X.K fd ps ds) (hd : Vals dvs ds)
    (hx : ∀ σ, PassesAt (L2.CX X.prog X.w) X σ (E σ)) (ha : PA X (e :: es) t) (hdb : (x == ("__debug__" : Str)) = false := by decide)
    (he : starEach (e :: es) X.env = (false, eval e X.env) :: starEach es X.env := by rfl) (hpl : (backTo pos (starEach es X.env)).any (·.1) = false := by rfl) :
    PE X (.Call (.Name x p) (e :: es) [] pos) (tCallD sp dvs E t) := ⟨fun pins s σ H Q I h =>
  wpAny_Call_Name_kw (ld_glob I hg hm (PySem.W.callWith_K (h₀ := X.base) I.ok.mod.kin hk (thn (ha.run pos pins s σ H _ I h) fun us s1 ⟨vs, H1, I1, r, q⟩ => ⟨I1.kIn, run_fnG F hr hG hb hd (hx σ) I1 r q⟩) he hpl) hdb)⟩
theorem jp_call {fa : Ax} {ms : List Nat} {fn : Fn} {dflt : List D} {n np : Nat} (F : FnG X.prog X.w X.K X.mg X.base k f fd ps (spFn X.K X.mg ms np fn)) (hr : Room k X.A) (hG : X.A.guards = some []) (hg : Gl X x) (hm : X.mg x = some (.ref f)) (hk : PySem.W.keepIn X.K (.ref f) = true) (hb : Binds X.K fd ps ds)
    (hd : Vals dvs ds) (dd : ∀ A, Reps X.K A dvs dflt) (hn : n + dvs.length = np) (hl : ArgLen n fa) (hx : ∀ σ, PassesAt (L2.CX X.prog X.w) X σ (E σ)) (ha : JA X E (e :: es) fa) (hdb : (x == ("__debug__" : Str)) = false := by decide)
    (he : starEach (e :: es) X.env = (false, eval e X.env) :: starEach es X.env := by rfl) (hpl : (backTo pos (starEach es X.env)).any (·.1) = false := by rfl) :
    JP X E (.Call (.Name x p) (e :: es) [] pos) (eCall ms fn dflt fa) := impE (pe_callG F hr hG hg hm hk hb hd hx ha hdb he hpl) fun σ H Q h => tJ_call dd hn hl h
def sRaise (n : Str) : Sx := fun env => .exc n env
def TakesE (X : Cx) (E : Sl → XK) : Prop := Takes X (fun cls d σ H => E σ cls d H)
theorem TakesE.at {X : Cx} {E : Sl → XK} (t : TakesE X E) (σ : Sl) : PassesAt (L2.CX X.prog X.w) X σ (E σ) := passAt t σ
theorem takesEF {X : Cx} : TakesE X EF := fun u s' h => takes0 u s' h
theorem js_raise {C : Addr} {bmB : List Value} {B newId initId : String} {m : Str} {j : Nat} {p2 pos2 : Pos} (hc : X.calm = true) (tk : TakesE X E) (F : ExcBaseFacts B newId initId bmB) (q : PySem.W.excIn X.K C bmB newId = true) (gC : X.mg x = some (.ref C)) (kC : PySem.W.keepIn X.K (.ref C) = true)
    (r : Raises X (.ref C)) (hg : Gl X x) (hdb : (x == ("__debug__" : Str)) = false := by decide) : JS X E (.Raise (some (.Call (.Name x p) [.Constant (.str m) j p2] [] pos)) none pos2) (sRaise x) :=
  impS (ps_raise hc tk (pmk_own F q gC kC r hg hdb)) fun Z σ H ⟨env, A, F, S, h⟩ => h C σ H A gC S Grow.refl
end
/-- a law's promise: the script is a list of ints of at most n; True comes back -/
def Says (n : Nat) (fn : Fn) : Prop := ∀ ns : List Int, ns.length ≤ n → ∃ cs, fn [.list (ns.map .int)] = .ok (.val (.bool true)) cs
theorem says_sp {K : Fg} {mg : Str → Option Value} {n : Nat} {fn : Fn} (h : Says n fn) {H : Hp} {a : Addr} {ns : List Int} (hl : ns.length ≤ n) (hO : Only H) (hS : SqL K H a (ns.map V.int)) :
    spFn K mg [] 1 fn [.ref a] H (fun v _ => v = .bl true) fun _ _ _ => False := by
  obtain ⟨cs, hc⟩ := h ns hl
  refine ⟨[.list (ns.map .int)], H, rfl, ⟨Same.refl H, fun b i z => ?_, rfl, fun i v d _ hv hd => ?_, fun i v d hi => absurd hi (by simp), fun i j p hi => absurd hi (by simp)⟩, ?_⟩
  · rcases hO b with h | ⟨o, xs, h⟩ <;> rw [h] at z <;> cases z
  · cases i with
    | zero => cases hv; cases hd; exact .lst hS (Reps.ints ns)
    | succ i => cases hv
  · rw [hc]
    intro v H' A' _ rv
    cases rv
    rfl
theorem law_g {P : Program} {w : World} {K : Fg} {mg mb : Str → Option Value} {k : Nat} {fa a : Addr} {fd : FuncData} {x : Str} {sp : Sp} {s₁ : Shared} {vs : List Value} {ns : List Int}
    (KX : K.In s₁.heap) (hns : s₁.heap.Ns mainGlobals mg) (hb : s₁.heap.Ns builtinsNs mb) (hbb : ∀ x : Str, x ≠ "__name__" → mb x = bootBuiltins x) (hlim : s₁.heap.NoLimit) (hg : s₁.gens = #[])
    (ha : s₁.heap.get? a = some { cls := .type "list", data := .seq vs.toArray }) (hi : IntsAre vs ns) (hl : ns.length ≤ sizeLine) (hr : Room k callerA)
    (F : ∀ base : Heap, K.In base → base.Ns mainGlobals mg → FnG P w K mg base k fa fd [x] sp) (hbind : ∀ (s : Shared) (u : Value), BindsTo s fd ⟨[u], []⟩ [(x, u)])
    (hsp : ∀ H : Hp, Only H → SqL K H a (ns.map V.int) → sp [.ref a] H (fun v _ => v = .bl true) fun _ _ _ => False) :
    codeAny (model P w) callerA (.call (.ref fa) ⟨[.ref a], []⟩) (fun r s' => r = .ok (.ret (.bool true)) ∧ OldK s₁.heap s'.heap ∧ s'.os = s₁.os ∧ AllBare s'.gens) s₁ := by
  -- what is tracked: the script alone, if it is none of the module's own objects
  have core : ∀ H : Hp, Only H → SqL K H a (ns.map V.int) → HOk P w H s₁.heap → (∀ b o, s₁.heap.get? b = some o → H b ≠ none → b = a ∧ K.lookup a = none) →
      codeAny (model P w) callerA (.call (.ref fa) ⟨[.ref a], []⟩) (fun r s' => r = .ok (.ret (.bool true)) ∧ OldK s₁.heap s'.heap ∧ s'.os = s₁.os ∧ AllBare s'.gens) s₁ := by
    intro H hO hS hok hA
    have stays : ∀ b o, s₁.heap.get? b = some o → (∀ xs, b = a → o = { cls := .type "list", data := .seq xs } → K.lookup b = none → False) → (hidT s₁.heap H).get? b = some o := fun b o e n => hidT_get e (by
      cases q : H b with
      | none => rfl
      | some u =>
        obtain ⟨rfl, k⟩ := hA b o e (by rw [q]; exact fun z => nomatch z)
        rw [ha] at e
        exact (n _ rfl (Option.some.inj e).symm k).elim)
    have ns' : ∀ {b : Addr} {m : Str → Option Value}, s₁.heap.Ns b m → (hidT s₁.heap H).Ns b m := fun ⟨o, es, ep, e, d, r⟩ => ⟨o, es, ep, stays _ o e (fun xs _ h _ => by rw [h] at d; cases d), d, r⟩
    have kin : K.In (hidT s₁.heap H) := fun b o e => stays b o (KX b o e) fun _ _ _ k => by rw [e] at k; cases k
    obtain ⟨mc, c1, c2⟩ := hlim
    have mod : Mod K mg (hidT s₁.heap H) := ⟨kin, ns' hns, ⟨mb, ns' hb, hbb⟩, mc, ns' c1, c2⟩
    refine codeAny_mono ((F _ kin (ns' hns)).run callerA [] s₁ H ⟨[.ref a], []⟩ [.ref a] [.ref a] _ _ hr rfl ⟨rfl, mod, fun b o e => of_hidT e, Nat.le_of_eq (hidT_size _ _), trivial, fun b hb => (List.not_mem_nil hb).elim, hok, .of_eq hg⟩ (hbind s₁ (.ref a)) (.cons rfl .nil) (hsp H hO hS)) fun r s' h => ?_
    match r, h with
    | .error e, h =>
      obtain ⟨_, _, _, _, _, _, _, _, _, _, _, _, z⟩ := h
      exact z.elim
    | .ok .next, h => exact False.elim h
    | .ok .brk, h => exact False.elim h
    | .ok .cont, h => exact False.elim h
    | .ok (.ret u), h =>
      obtain ⟨v, H', os, bare, un, hok', r', q⟩ := h
      cases (show v = .bl true from q)
      cases (show u = Value.bool true from r')
      refine ⟨rfl, OldK.of_keep fun b o e => ?_, os, bare⟩
      rcases hO b with z | ⟨ob, xs, z⟩
      · exact un.keep b o e z (by intro q; exact (List.not_mem_nil q).elim) (by simp)
      · have e1 := (hok b _ z).1
        rw [e] at e1; cases e1
        exact (hok' b _ (un.frzs b _ _ z)).1
  have rv := vals_ints hi
  have lv := hi.length
  cases hk : K.lookup a with
  | some o =>
    have e := KX a o hk
    rw [ha] at e; cases e
    exact core (fun _ => none) (fun _ => .inl rfl) (.inr ⟨_, vs.toArray, _, hk, rfl, rfl, rfl, by rw [List.size_toArray, lv]; exact hl, by simpa using rv⟩) (fun b u z => nomatch z) fun b o _ z => absurd rfl z
  | none =>
    have at1 : ∀ {b u}, (if b = a then some (HO.frz { cls := .type "list", data := .seq vs.toArray } (.lst (ns.map V.int))) else none) = some u → b = a ∧ u = HO.frz { cls := .type "list", data := .seq vs.toArray } (.lst (ns.map V.int)) := fun {b u} z => by
      by_cases hb : b = a
      · rw [if_pos hb] at z; exact ⟨hb, (Option.some.inj z).symm⟩
      · rw [if_neg hb] at z; cases z
    refine core (fun b => if b = a then some (.frz { cls := .type "list", data := .seq vs.toArray } (.lst (ns.map V.int))) else none) (fun b => ?_) (.inl (.inr ⟨{ cls := .type "list", data := .seq vs.toArray }, if_pos rfl⟩)) (fun b u z => ?_) fun b o _ z => ?_
    · by_cases hb : b = a
      · exact .inr ⟨_, _, if_pos hb⟩
      · exact .inl (if_neg hb)
    · obtain ⟨rfl, rfl⟩ := at1 z
      exact ⟨ha, by rw [List.length_map]; exact hl, vs, _, rv, ha⟩
    · by_cases hb : b = a
      · exact ⟨hb, hk⟩
      · exact absurd (if_neg hb) z
/-- a law: F gives the written part, the function object, the promise over every base -/
theorem walk_g {l : PySem.W.OpenLaw} {n k : Nat} {q : Program} {loose : List Str} {XP : (Str → Option Value) → Heap → Prop} {YP : World → Heap → Prop} {d : DefRec} {x : Str}
    (hn : l.most = some n) (hn2 : n ≤ sizeLine) (hdf : d.params.defaults = []) (hr : Room k callerA)
    (F : ∀ (w : World) (mg : Str → Option Value) (fa : Addr) (h : Heap), YP w h → h.Ns mainGlobals mg → mg d.name = some (.ref fa) →
      ∃ (K : Fg) (fd : FuncData) (fn : Fn), K.In h ∧ (∀ (s : Shared) (u : Value), BindsTo s fd ⟨[u], []⟩ [(x, u)]) ∧ Says n fn ∧
        ∀ base : Heap, K.In base → base.Ns mainGlobals mg → FnG l.prog w K mg base k fa fd [x] (spFn K mg [] 1 fn)) :
    PySem.W.WalkO q loose XP YP l.row.toRowW d [] (fun f vs => PySem.call f vs) := by
  refine Att.attach_call hn hdf fun w s₀ s₁ mg mb fa o pm cd doc a vs ns G Y ho hd hcd hmg hobj hints hlen hg => ?_
  obtain ⟨K, fd, fn, KX, hb, hS, hF⟩ := F w mg fa _ Y G.T.g hmg
  exact law_g KX G.T.g G.T.b G.T.builtins G.T.nolimit hg hobj hints (Nat.le_trans hlen hn2) hr hF hb fun H hO hq => says_sp hS hlen hO hq
end T3
namespace T3
open PySem PySem.Spec PyProof.Rows L2
mutual
def plainD : D → Bool
  | .none => true
  | .bool _ => true
  | .int i => decide (i.natAbs.log2 < 1920)
  | .str _ => true
  | .list ds => plainDs ds
  | .tuple ds => plainDs ds
  | .dict kvs => kvs.isEmpty
def plainDs : List D → Bool
  | [] => true
  | d :: ds => plainD d && plainDs ds
end
mutual
def wtD : D → Nat
  | .none => 1
  | .bool _ => 1
  | .int i => 1
  | .str x => (reprText x).length
  | .list ds => wtDs ds + 1
  | .tuple ds => wtDs ds + 1
  | .dict kvs => 1
def wtDs : List D → Nat
  | [] => 0
  | d :: ds => wtD d + wtDs ds
end
/-- a text that repr can make -/
def reprOk (d : D) : Bool := plainD d && decide (d.depth ≤ 100) && decide (wtD d ≤ 8000)
theorem join_le (sep : Str) : ∀ (ts : List Str), (Str.join sep ts).length ≤ (ts.map fun t => t.length + sep.length).sum
  | [] => Nat.le_refl 0
  | [x] => by show x.length ≤ _; simp
  | x :: y :: r => by
    show (x ++ sep ++ Str.join sep (y :: r)).length ≤ _
    rw [strLen_append, strLen_append]
    have := join_le sep (y :: r)
    simp only [List.map_cons, List.sum_cons] at this ⊢
    omega
theorem textFrom_le : ∀ (ts : List Str) (n : Nat) (b : Str), (textFrom n b ts).length ≤ b.length + (ts.map fun t => t.length + 2).sum
  | [], n, b => by simp [textFrom]
  | t :: ts, n, b => by
    have h := textFrom_le ts (n + 1) (b ++ (if n > 0 then ", " else "" : String) ++ t)
    show (textFrom (n + 1) (b ++ (if n > 0 then ", " else "" : String) ++ t) ts).length ≤ _
    refine Nat.le_trans h ?_
    simp only [List.map_cons, List.sum_cons]
    rw [strLen_append, strLen_append]
    have e1 : (Str.ofString ", ").length = 2 := by decide
    have e2 : (Str.ofString "").length = 0 := by decide
    split
    · rw [e1]; omega
    · rw [e2]; omega
theorem listText_le (ts : List Str) : (listText ts).length ≤ 2 + (ts.map fun t => t.length + 2).sum := by
  have e : listText ts = textFrom 0 "[" ts ++ "]" := rfl
  rw [e, strLen_append]
  have := textFrom_le ts 0 "["
  have e1 : ("[" : Str).length = 1 := by decide
  have e2 : ("]" : Str).length = 1 := by decide
  omega
theorem tupleText_le (ts : List Str) : (tupleText ts).length ≤ 3 + (ts.map fun t => t.length + 2).sum := by
  unfold tupleText
  have := join_le ", " ts
  have e0 : (", " : Str).length = 2 := by decide
  rw [e0] at this
  have e1 : ("(" : Str).length = 1 := by decide
  have e2 : (")" : Str).length = 1 := by decide
  have e3 : (",)" : Str).length = 2 := by decide
  rw [strLen_append, strLen_append]
  split <;> omega
mutual
theorem shown_le : ∀ d : D, plainD d = true → d.shown.length + 2 ≤ 2000 * wtD d
  | .none, _ => by simp only [PyData.shown]; decide
  | .bool b, _ => by cases b <;> simp only [PyData.shown] <;> decide
  | .int i, h => by
    have h' : i.natAbs.log2 < 1920 := by simpa [plainD] using h
    have := int_text_len_1921 h'
    simp only [PyData.shown, wtD]
    have e : (toString i : Str) = PySem.Str.ofString (toString i) := rfl
    rw [e]; omega
  | .str x, _ => by
    have := StrLaws.reprText_ge2 x
    simp only [PyData.shown, wtD]; omega
  | .list ds, h => by
    have := shownAll_le ds (by simpa [plainD] using h)
    have k := listText_le (PyData.shownAll ds)
    simp only [PyData.shown, wtD]; omega
  | .tuple ds, h => by
    have := shownAll_le ds (by simpa [plainD] using h)
    have k := tupleText_le (PyData.shownAll ds)
    simp only [PyData.shown, wtD]; omega
  | .dict kvs, h => by
    cases kvs with
    | nil => simp only [PyData.shown, PyData.shownKv, wtD]; decide
    | cons _ _ => simp [plainD] at h
theorem shownAll_le : ∀ ds : List D, plainDs ds = true → ((PyData.shownAll ds).map fun t => t.length + 2).sum ≤ 2000 * wtDs ds
  | [], _ => by simp [PyData.shownAll]
  | d :: ds, h => by
    simp only [plainDs, Bool.and_eq_true] at h
    have h1 := shown_le d h.1
    have h2 := shownAll_le ds h.2
    simp only [PyData.shownAll, List.map_cons, List.sum_cons, wtDs]; omega
end
theorem shown_fits {d : D} (h : reprOk d = true) : d.shown.length ≤ sizeLine := by
  simp only [reprOk, Bool.and_eq_true, decide_eq_true_eq] at h
  have := shown_le d h.1.1
  have e : sizeLine = 16777216 := sizeLine_eq
  omega
section
variable {X : Cx} {pins : List (Addr × Obj)} {σ : Sl} {H : Hp} {s : Shared}
theorem reads_cons_bs {h : Heap} {n m : Nat} {b1 b2 : List Addr} (h1 : ReadAtMost h n b1) (h2 : ReadAtMost h m b2) : ReadAtMost h (max n m) (b1 ++ b2) := (h1.mono (Nat.le_max_left _ _)).append (h2.mono (Nat.le_max_right _ _))
theorem rep_repr (I : Inv X pins σ H s) {v : V} {d : D} (r : Rep X.K H v d) : ∀ u, RelV v u → plainD d = true → d.shown.length ≤ sizeLine → ∃ bs as, Reads s.heap u d as ∧ ReadAtMost s.heap d.depth bs ∧ ReprK X.prog X.w bs s.heap d.depth u d.shown :=
  Rep.rec (motive_1 := fun v d _ => ∀ u, RelV v u → plainD d = true → d.shown.length ≤ sizeLine → ∃ bs as, Reads s.heap u d as ∧ ReadAtMost s.heap d.depth bs ∧ ReprK X.prog X.w bs s.heap d.depth u d.shown)
    (motive_2 := fun vs ds _ => ∀ us, Vals vs us → plainDs ds = true → (∀ t ∈ PyData.shownAll ds, t.length ≤ sizeLine) → ∃ bs as, ReadsAll s.heap us ds as ∧ ReadAtMost s.heap (PyData.depthAll ds) bs ∧ ReprAllK X.prog X.w bs s.heap (PyData.depthAll ds) us (PyData.shownAll ds))
    (fun u ru _ _ => by
      cases (show u = .none from ru)
      exact ⟨[], [], .none, (fun _ h => nomatch h), by simp only [PyData.shown]; exact .of_is ReprIs.none _ _ _⟩)
    (fun b u ru _ _ => by
      cases (show u = .bool b from ru)
      exact ⟨[], [], .bool b, (fun _ h => nomatch h), by simp only [PyData.shown]; exact .of_is (ReprIs.bool b) _ _ _⟩)
    (fun i u ru hp _ => by
      obtain ⟨t, rfl⟩ := (show ∃ t, u = .int i t from ru)
      exact ⟨[], [], .int i t, (fun _ h => nomatch h), by simp only [PyData.shown]; exact .of_is (ReprIs.int t (by simpa [plainD] using hp)) _ _ _⟩)
    (fun x u ru _ hz => by
      obtain ⟨t, rfl⟩ := (show ∃ t, u = .str x t from ru)
      exact ⟨[], [], .str x t, (fun _ h => nomatch h), by simp only [PyData.shown]; exact .of_is (ReprIs.str x t (by simpa only [PyData.shown] using hz)) _ _ _⟩)
    (fun {a xs ds} hs _ ih u ru hp hz => by
      cases (show u = .ref a from ru)
      obtain ⟨its, r', ⟨o, n, h1, h2, _, h3⟩, _⟩ := I.list hs
      have hz' : (listText (PyData.shownAll ds)).length ≤ sizeLine := by simpa only [PyData.shown] using hz
      obtain ⟨bs, as, rd, hb, hk⟩ := ih its r' (by simpa [plainD] using hp) (fun t ht => Nat.le_trans (listText_mem_le ht) hz')
      have r : Reads s.heap (.ref a) (.list ds) (a :: as) := .list h1 h2 h3 (by simpa using rd)
      have hna : a ∉ bs := not_mem_of_deeper r (by simp only [PyData.depth]; omega) hb
      refine ⟨a :: bs, _, r, ReadAtMost.cons r (by simp only [PyData.depth]; omega) hb, ?_⟩
      simp only [PyData.depth, PyData.shown]
      cases its with
      | nil =>
        cases rd
        simp only [PyData.shownAll, listText_nil]
        exact ReprK.listEmpty h1 h2 h3
      | cons x l => exact ReprK.list h1 h2 h3 hna (by simpa using hk.length_eq) (fun i y e => hk.item i y (by simpa using e)))
    (fun {a xs ds} hs _ ih u ru hp hz => by
      cases (show u = .ref a from ru)
      obtain ⟨its, r', ⟨o, h1, h2, n, h3⟩, _⟩ := I.tuple (.inl (.inl hs))
      have hz' : (tupleText (PyData.shownAll ds)).length ≤ sizeLine := by simpa only [PyData.shown] using hz
      obtain ⟨bs, as, rd, hb, hk⟩ := ih its r' (by simpa [plainD] using hp) (fun t ht => Nat.le_trans (tupleText_mem_le ht) hz')
      have r : Reads s.heap (.ref a) (.tuple ds) as := .tuple h1 h2 h3 (by simpa using rd)
      have hna : a ∉ bs := not_mem_of_deeper r (by simp only [PyData.depth]; omega) hb
      refine ⟨a :: bs, _, r, ReadAtMost.cons r (by simp only [PyData.depth]; omega) hb, ?_⟩
      simp only [PyData.depth, PyData.shown]
      exact ReprK.tuple h1 h2 h3 hna (by simpa using hk))
    (fun {a kvs ds} hs hrs ih u ru hp hz => by
      cases (show u = .ref a from ru)
      obtain ⟨_, hsys, vs, kv, o, es, ep, h1, h2, h3, _, hpr, _⟩ := dk_rd (P := X.prog) (w := X.w) I.hok hs
      cases kvs with
      | cons kv kvs =>
        cases hrs
        simp [plainD] at hp
      | nil =>
        cases kv
        have he : es.toList = [] := List.length_eq_zero_iff.mp hpr.length
        have e1 : ((([] : List (Key × V)).map fun p => kD p.1).zip ds) = [] := rfl
        have r : Reads s.heap (.ref a) (.dict []) (a :: [] ++ []) := .dict h1 h2.1 h3 (by rw [he]; exact .nil) (by rw [he]; exact .nil)
        have d1 : (PyData.dict []).depth = 1 := rfl
        refine ⟨[a], _, r, ReadAtMost.cons (n := 0) r (Nat.zero_le _) (fun _ h => nomatch h), ?_⟩
        simp only [PyData.shown, PyData.shownKv]
        exact ReprK.dict h1 h2.1 h3 hsys (fun h => nomatch h) (by rw [he]; exact .nil))
    (fun {a kvs ds} hs hrs ih u ru hp hz => by simp [plainD] at hp)
    (fun us r _ _ => by
      cases r
      exact ⟨[], [], .nil, (fun _ h => nomatch h), by simp only [PyData.shownAll]; exact .nil⟩)
    (fun _ _ i1 i2 us r hp hz => by
      cases r with
      | cons r1 r2 =>
        simp only [plainDs, Bool.and_eq_true] at hp
        obtain ⟨b1, a1, q1, h1, k1⟩ := i1 _ r1 hp.1 (hz _ (by simp only [PyData.shownAll]; exact List.mem_cons_self ..))
        obtain ⟨b2, a2, q2, h2, k2⟩ := i2 _ r2 hp.2 (fun t ht => hz t (by simp only [PyData.shownAll]; exact List.mem_cons_of_mem _ ht))
        refine ⟨b1 ++ b2, _, .cons q1 q2, ?_, ?_⟩
        · simp only [PyData.depthAll]; exact reads_cons_bs h1 h2
        · simp only [PyData.depthAll, PyData.shownAll]
          exact .cons ((k1.more fun b hb => List.mem_append_left _ hb).level_le (Nat.le_max_left _ _)) (k2.more_le (fun b hb => List.mem_append_right _ hb) (Nat.le_max_right _ _))) r
end
section
variable {X : Cx} {E : Sl → XK} {f : Ex} {e : Expr} {es : List Expr} {fa : Ax} {pos p : Pos} {pins : List (Addr × Obj)} {σ : Sl} {H : Hp} {s : Shared}
theorem reps_repr (I : Inv X pins σ H s) : ∀ {vs : List V} {ds : List D}, Reps X.K H vs ds → ∀ us, Vals vs us → plainDs ds = true → (∀ t ∈ PyData.shownAll ds, t.length ≤ sizeLine) →
    ∃ bs as, ReadsAll s.heap us ds as ∧ ReadAtMost s.heap (PyData.depthAll ds) bs ∧ ReprAllK X.prog X.w bs s.heap (PyData.depthAll ds) us (PyData.shownAll ds)
  | _, [], r, us, v, _, _ => by
    cases r; cases v
    exact ⟨[], [], .nil, (fun _ h => nomatch h), by simp only [PyData.shownAll]; exact .nil⟩
  | _, d :: ds, r, us, v, hp, hz => by
    cases r with
    | cons ra rb =>
      cases v with
      | cons r1 r2 =>
        simp only [plainDs, Bool.and_eq_true] at hp
        obtain ⟨b1, a1, q1, h1, k1⟩ := rep_repr I ra _ r1 hp.1 (hz _ (by simp only [PyData.shownAll]; exact List.mem_cons_self ..))
        obtain ⟨b2, a2, q2, h2, k2⟩ := reps_repr I rb _ r2 hp.2 (fun t ht => hz t (by simp only [PyData.shownAll]; exact List.mem_cons_of_mem _ ht))
        refine ⟨b1 ++ b2, _, .cons q1 q2, ?_, ?_⟩
        · simp only [PyData.depthAll]; exact reads_cons_bs h1 h2
        · simp only [PyData.depthAll, PyData.shownAll]
          exact .cons ((k1.more fun b hb => List.mem_append_left _ hb).level_le (Nat.le_max_left _ _)) (k2.more_le (fun b hb => List.mem_append_right _ hb) (Nat.le_max_right _ _))
theorem call_repr_rep {v : V} {d : D} {u : Value} {Q : VK} (hG : X.A.guards = some []) (hu : X.A.units + 160 < cLine) (I : Inv X pins σ H s) (r : Rep X.K H v d) (ru : RelV v u) (hok : reprOk d = true) (q : Q (.str d.shown) H) :
    wpAny (model X.prog X.w) X.A (call (.builtin "repr") [u]) (EP X pins σ Q) X.xe s := by
  have hz := shown_fits hok
  simp only [reprOk, Bool.and_eq_true, decide_eq_true_eq] at hok
  obtain ⟨⟨hp, hdep⟩, _⟩ := hok
  have fin : ∀ (h' : Heap) (u : Tok) (tk : Nat), (∀ b o, s.heap.get? b = some o → h'.get? b = some o) → EP X pins σ Q (.str d.shown u) { s with heap := h', toks := tk } := fun h' u tk hk => ⟨.str d.shown, H, I.kept hk, ⟨u, rfl⟩, q⟩
  have hk0 : ∀ b o, s.heap.get? b = some o → s.heap.get? b = some o := fun _ _ e => e
  have hG1 : X.A.in1.guards = some [] := hG
  cases r with
  | non =>
    cases (show u = .none from ru)
    simp only [PyData.shown] at fin
    exact PySem.P.repr_of_none (fin _ _ _ hk0)
  | bl b =>
    cases (show u = .bool b from ru)
    simp only [PyData.shown] at fin
    exact PySem.P.repr_of_bool (fin _ _ _ hk0)
  | int i =>
    obtain ⟨t, rfl⟩ := (show ∃ t, u = .int i t from ru)
    exact PySem.P.repr_of_int (by simpa [plainD] using hp) (fin _ _ _ hk0)
  | str x =>
    obtain ⟨t, rfl⟩ := (show ∃ t, u = .str x t from ru)
    exact PySem.P.repr_of_str (fin _ _ _ hk0) (by simpa only [PyData.shown] using hz)
  | @lst a xs ds hs hr =>
    cases (show u = .ref a from ru)
    obtain ⟨its, r', ⟨o, n, h1, h2, _, h3⟩, _⟩ := I.list hs
    have hz' : (listText (PyData.shownAll ds)).length ≤ sizeLine := by simpa only [PyData.shown] using hz
    obtain ⟨bs, as, rd, hb, hk⟩ := reps_repr I hr its r' (by simpa [plainD] using hp) (fun t ht => Nat.le_trans (listText_mem_le ht) hz')
    have r : Reads s.heap (.ref a) (.list ds) (a :: as) := .list h1 h2 h3 (by simpa using rd)
    have hna : a ∉ bs := not_mem_of_deeper r (by simp only [PyData.depth]; omega) hb
    simp only [PyData.depth] at hdep
    simp only [PyData.shown] at fin
    refine call_repr_slot (by omega) ⟨o, h1, h2⟩ F.slot_list_repr.toG ?_
    cases its with
    | nil =>
      cases rd
      simp only [PyData.shownAll, listText_nil] at fin
      exact call_list_repr_empty ⟨o, h1, h2⟩ h1 h3 ⟨_, _, rfl, fin _ _ _ hk0⟩
    | cons x l => exact call_list_reprK h1 h2 h3 hna (by simpa using hk.length_eq) (fun i y e => hk.item i y (by simpa using e)) hG1 (fun b _ => Clear.nil b) (by show X.A.units + 1 + _ < cLine; omega) hk0 (fun h' u tk hk' => ⟨_, _, rfl, fin h' u tk hk'⟩) hz'
  | @tup a xs ds hs hr =>
    cases (show u = .ref a from ru)
    obtain ⟨its, r', ⟨o, h1, h2, n, h3⟩, _⟩ := I.tuple (.inl (.inl hs))
    have hz' : (tupleText (PyData.shownAll ds)).length ≤ sizeLine := by simpa only [PyData.shown] using hz
    obtain ⟨bs, as, rd, hb, hk⟩ := reps_repr I hr its r' (by simpa [plainD] using hp) (fun t ht => Nat.le_trans (tupleText_mem_le ht) hz')
    have r : Reads s.heap (.ref a) (.tuple ds) as := .tuple h1 h2 h3 (by simpa using rd)
    have hna : a ∉ bs := not_mem_of_deeper r (by simp only [PyData.depth]; omega) hb
    simp only [PyData.depth] at hdep
    simp only [PyData.shown] at fin
    exact call_repr_slot (by omega) ⟨o, h1, h2⟩ F.slot_tuple_repr (call_tuple_reprK h1 h2 h3 hna (by simpa using hk) hG1 (fun b _ => Clear.nil b) (by show X.A.units + 1 + _ < cLine; omega) hk0 (fun h' u tk hk' => ⟨_, _, rfl, fin h' u tk hk'⟩) hz')
  | @dic a kvs ds hs hr =>
    cases (show u = .ref a from ru)
    obtain ⟨_, hsys, vs, kv, o, es, ep, h1, h2, h3, _, hpr, _⟩ := dk_rd (P := X.prog) (w := X.w) I.hok hs
    cases kvs with
    | cons kv kvs =>
      cases hr
      simp [plainD] at hp
    | nil =>
      cases kv
      have he : es.toList = [] := List.length_eq_zero_iff.mp hpr.length
      have hf : EP X pins σ Q = EP X pins σ Q := rfl
      have fin' : ∀ (h' : Heap) (u : Tok) (tk : Nat), (∀ b o, s.heap.get? b = some o → h'.get? b = some o) → EP X pins σ Q (.str (dictText []) u) { s with heap := h', toks := tk } := fun h' u tk hk => by
        have := fin h' u tk hk
        simpa only [PyData.shown, List.map_nil, List.zip_nil_left, PyData.shownKv] using this
      exact call_repr_slot (by omega) ⟨o, h1, h2.1⟩ F.slot_dict_repr (call_dict_reprK (as := []) (d := 0) h1 h2.1 h3 hsys (fun h => nomatch h) (by rw [he]; exact .nil) hG1 (fun b _ => Clear.nil b) (by show X.A.units + 1 + _ < cLine; omega) hk0 (fun h' u tk hk' => ⟨_, _, rfl, fin' h' u tk hk'⟩) (by decide))
  | @dicT a kvs ds hs hr => simp [plainD] at hp
def bRepr : List D → Option Op
  | [d] => if reprOk d = true then some (.val (.str d.shown)) else none
  | _ => none
theorem cr_repr (hG : X.A.guards = some []) (hu : X.A.units + 160 < cLine) : CallR X (.builtin "repr") (fun xs H Q => ∃ x d, xs = [x] ∧ Rep X.K H x d ∧ reprOk d = true ∧ Q (.str d.shown) H) := by
  intro pins s σ H xs us Q I r h
  obtain ⟨x, d, rfl, hr, ho, q⟩ := h
  obtain ⟨u, rfl, rx⟩ := vals1 r
  exact call_repr_rep hG hu I hr rx ho q
theorem Pw1 {K : Fg} {A : Hp} {vs : List V} {d : D} (v : Paired (View K A H) vs [d]) : ∃ x, vs = [x] ∧ View K A H x d := by
  cases v with
  | cons a b => cases b; exact ⟨_, rfl, a⟩
theorem n_repr {K : Fg} : ImplN K (fun xs H Q => ∃ x d, xs = [x] ∧ Rep K H x d ∧ reprOk d = true ∧ Q (.str d.shown) H) bRepr := by
  intro A H vs ds o Q s v g q
  unfold bRepr at g
  split at g
  · split at g
    · rename_i d hok
      cases g; obtain ⟨v, rfl, a⟩ := Pw1 v; exact ⟨_, _, rfl, a.rep s, hok, q _ _ _ (Ext.refl s) (.str _)⟩
    · cases g
  · cases g
theorem jp_repr (hG : X.A.guards = some []) (hu : X.A.units + 160 < cLine) (hg : Gl X "repr") (hm : X.mg "repr" = none) (ha : JA X E [e] fa) (he : starEach [e] X.env = (false, eval e X.env) :: starEach [] X.env := by rfl) : JP X E (.Call (.Name "repr" p) [e] [] pos) (eCallB bRepr fa) :=
  jp_callB (cr_repr hG hu) n_repr hg hm (by decide +kernel) ha (he := he) (hpl := rfl)
end
end T3
namespace T3
open PySem PySem.Spec PyProof.Rows L2
def liftM (ms : List Nat) : Nat → List Op → Nat → List Op × En
  | _, [], _ => ([], [])
  | k, .new d :: os, n => if k ∈ ms then ((.slot n :: (liftM ms (k + 1) os (n + 1)).1), .own d :: (liftM ms (k + 1) os (n + 1)).2) else (.new d :: (liftM ms (k + 1) os n).1, (liftM ms (k + 1) os n).2)
  | k, o :: os, n => (o :: (liftM ms (k + 1) os n).1, (liftM ms (k + 1) os n).2)
def cutM (n : Nat) : Out En Op → Out En Op
  | .ok (.slot _) _ => .bad
  | .ok o e => .ok o (e.take n)
  | .exc x e => .exc x (e.take n)
  | .bad => .bad
def callX (ms : List Nat) (fn : Fn) (dflt : List D) (os : List Op) (e : En) : Out En Op := cutM e.length (callM ms fn dflt (liftM ms 0 os e.length).1 (e ++ (liftM ms 0 os e.length).2))
def eCallX (ms : List Nat) (fn : Fn) (dflt : List D) (fa : Ax) : Ex := fun env => (fa env).bind fun os e => callX ms fn dflt os e
section
variable {K : Fg} {F A H : Hp} {σ : Sl} {env : En}
theorem getD_app {env : En} {c : Cell} {j : Nat} : (env ++ [c]).getD j .no = if j = env.length then c else env.getD j .no := by
  rw [List.getD_eq_getElem?_getD, List.getD_eq_getElem?_getD]
  by_cases h : j < env.length
  · rw [List.getElem?_append_left h, if_neg (by omega)]
  · by_cases e : j = env.length
    · rw [if_pos e, e, List.getElem?_append_right (Nat.le_refl _)]; simp
    · rw [if_neg e, List.getElem?_append_right (by omega), List.getElem?_eq_none (by simp; omega), List.getElem?_eq_none (by omega)]
theorem get_app {σ : Sl} {v : Option V} {j : Nat} : (σ ++ [v])[j]? = if j = σ.length then some v else σ[j]? := by
  by_cases h : j < σ.length
  · rw [List.getElem?_append_left h, if_neg (by omega)]
  · by_cases e : j = σ.length
    · rw [if_pos e, e, List.getElem?_append_right (Nat.le_refl _)]; simp
    · rw [if_neg e, List.getElem?_append_right (by omega), List.getElem?_eq_none (by simp; omega), List.getElem?_eq_none (by omega)]
theorem SOk.push (S : SOk K F σ env H A) {v : V} {d : D} (r : OpOk K F A H σ env v (.new d)) : SOk K F (σ ++ [some v]) (env ++ [.own d]) H A := by
  obtain ⟨p, rfl, a, f, b, n⟩ := r
  have hl := S.lens
  refine ⟨S.subA, S.subF, fun i => ?_, fun i j d' e q h1 h2 h3 h4 => ?_, by rw [List.length_append, List.length_append, hl]; rfl, S.nomk⟩
  · rw [getD_app, get_app, hl]
    by_cases hi : i = σ.length
    · rw [if_pos hi, if_pos hi]; exact ⟨p, rfl, a, f, b⟩
    · rw [if_neg hi, if_neg hi]; exact S.cell i
  · rw [getD_app, hl] at h1 h2
    rw [get_app] at h3 h4
    by_cases hi : i = σ.length
    · by_cases hj : j = σ.length
      · rw [hi, hj]
      · rw [if_pos hi] at h3; cases h3
        rw [if_neg hj] at h2 h4
        exact absurd h4 (n j e h2)
    · by_cases hj : j = σ.length
      · rw [if_pos hj] at h4; cases h4
        rw [if_neg hi] at h1 h3
        exact absurd h3 (n i d' h1)
      · rw [if_neg hi] at h1 h3
        rw [if_neg hj] at h2 h4
        exact S.apart i j d' e q h1 h2 h3 h4
theorem OpOk.push (S : SOk K F σ env H A) {v w : V} {o : Op} {d : D} (r : OpOk K F A H σ env v o) (n : ∀ d', o = .new d' → v ≠ w) : OpOk K F A H (σ ++ [some w]) (env ++ [.own d]) v o := by
  have hl := S.lens
  cases o with
  | val d' => exact r
  | raw u => exact r
  | slot i =>
    have h : σ[i]? = some (some v) := r
    show (σ ++ [some w])[i]? = _
    rw [get_app, if_neg (fun z => by rw [z, List.getElem?_eq_none (Nat.le_refl _)] at h; cases h)]
    exact h
  | new d' =>
    obtain ⟨p, rfl, a, f, b, m⟩ := r
    refine ⟨p, rfl, a, f, b, fun j e hj hs => ?_⟩
    rw [getD_app, hl] at hj
    rw [get_app] at hs
    by_cases hi : j = σ.length
    · rw [if_pos hi] at hs
      exact n d' rfl (by simpa using hs.symm)
    · rw [if_neg hi] at hj hs
      exact m j e hj hs
theorem OpsOk.push (S : SOk K F σ env H A) {w : V} {d : D} : ∀ {os : List Op} {vs : List V}, OpsOk K F A H σ env os vs → (∀ (j : Nat) e, os[j]? = some (.new e) → vs[j]? ≠ some w) → OpsOk K F A H (σ ++ [some w]) (env ++ [.own d]) os vs
  | [], vs, r, _ => r
  | o :: os, vs, r, n => by
    obtain ⟨v, rs, rfl, r1, r2, r3⟩ := r
    exact ⟨v, rs, rfl, r1.push S (fun d' e z => n 0 d' (by rw [e]; rfl) (by rw [z]; rfl)), OpsOk.push S r2 (fun j e h => n (j + 1) e (by simpa using h)), r3⟩
theorem liftM_new {ms : List Nat} : ∀ {os : List Op} {k n j : Nat} {e : D}, (liftM ms k os n).1[j]? = some (.new e) → os[j]? = some (.new e)
  | [], k, n, j, e, h => by simp [liftM] at h
  | o :: os, k, n, j, e, h => by
    cases o with
    | new d =>
      unfold liftM at h
      split at h
      · cases j with
        | zero => simp at h
        | succ j => have := liftM_new (os := os) (by simpa using h); simpa using this
      · cases j with
        | zero => simpa using h
        | succ j => have := liftM_new (os := os) (by simpa using h); simpa using this
    | val d =>
      simp only [liftM] at h
      cases j with
      | zero => simpa using h
      | succ j => have := liftM_new (os := os) (by simpa using h); simpa using this
    | raw d =>
      simp only [liftM] at h
      cases j with
      | zero => simpa using h
      | succ j => have := liftM_new (os := os) (by simpa using h); simpa using this
    | slot d =>
      simp only [liftM] at h
      cases j with
      | zero => simpa using h
      | succ j => have := liftM_new (os := os) (by simpa using h); simpa using this
theorem lift_ok {ms : List Nat} : ∀ {os : List Op} {k : Nat} {σ : Sl} {env : En} {vs : List V}, SOk K F σ env H A → OpsOk K F A H σ env os vs →
    ∃ τ : Sl, SOk K F (σ ++ τ) (env ++ (liftM ms k os env.length).2) H A ∧ OpsOk K F A H (σ ++ τ) (env ++ (liftM ms k os env.length).2) (liftM ms k os env.length).1 vs ∧
      (∀ (i : Nat), i < σ.length → (σ ++ τ)[i]? = σ[i]? ∧ (env ++ (liftM ms k os env.length).2).getD i .no = env.getD i .no) ∧
      ∀ v o, OpOk K F A H σ env v o → (∀ d, o = .new d → ∀ (j : Nat) e, os[j]? = some (.new e) → vs[j]? ≠ some v) → OpOk K F A H (σ ++ τ) (env ++ (liftM ms k os env.length).2) v o
  | [], k, σ, env, vs, S, r => by
    refine ⟨[], ?_⟩
    simp only [liftM, List.append_nil]
    exact ⟨S, r, by simp, fun v o h _ => h⟩
  | o :: os, k, σ, env, vs, S, r => by
    obtain ⟨v, rs, rfl, r1, r2, r3⟩ := r
    have plain : (∀ d, o = .new d → k ∉ ms) → (liftM ms k (o :: os) env.length) = (o :: (liftM ms (k + 1) os env.length).1, (liftM ms (k + 1) os env.length).2) := fun h => by
      cases o with
      | new d => exact if_neg (h d rfl)
      | val d => rfl
      | raw d => rfl
      | slot d => rfl
    by_cases hn : ∃ d, o = .new d ∧ k ∈ ms
    · obtain ⟨d, rfl, hk⟩ := hn
      have e1 : liftM ms k (.new d :: os) env.length = (.slot env.length :: (liftM ms (k + 1) os (env.length + 1)).1, .own d :: (liftM ms (k + 1) os (env.length + 1)).2) := by
        show (if k ∈ ms then _ else _) = _
        rw [if_pos hk]
      rw [e1]
      have S1 := S.push r1
      have R1 := OpsOk.push (d := d) S r2 (w := v) (r3 d rfl)
      obtain ⟨τ, S2, R2, g2, k2⟩ := lift_ok (ms := ms) (k := k + 1) S1 R1
      have el : (env ++ [Cell.own d]).length = env.length + 1 := by simp
      have sl : (σ ++ [some v]).length = σ.length + 1 := by simp
      rw [el] at S2 R2 g2 k2
      refine ⟨some v :: τ, ?_⟩
      have e2 : ∀ l : Sl, σ ++ some v :: l = (σ ++ [some v]) ++ l := fun l => by simp
      have e3 : ∀ l : En, env ++ Cell.own d :: l = (env ++ [Cell.own d]) ++ l := fun l => by simp
      simp only
      rw [e2, e3]
      refine ⟨S2, ⟨v, rs, rfl, ?_, R2, fun d' h => nomatch h⟩, fun i hi => ?_, fun u o' h n => ?_⟩
      · show ((σ ++ [some v]) ++ τ)[env.length]? = some (some v)
        rw [(g2 env.length (by rw [sl, S.lens]; omega)).1, get_app, if_pos S.lens]
      · obtain ⟨a, b⟩ := g2 i (by rw [sl]; omega)
        refine ⟨a.trans ?_, b.trans ?_⟩
        · rw [get_app, if_neg (by omega)]
        · rw [getD_app, if_neg (by rw [S.lens]; omega)]
      · refine k2 u o' (h.push S fun d' e z => n d' e 0 d rfl (by rw [z]; rfl)) fun d' e j e' hj => ?_
        have := n d' e (j + 1) e' (by simpa using hj)
        simpa using this
    · have hp := plain fun d h hk => hn ⟨d, h, hk⟩
      rw [hp]
      obtain ⟨τ, S2, R2, g2, k2⟩ := lift_ok (ms := ms) (k := k + 1) S r2
      refine ⟨τ, S2, ⟨v, rs, rfl, k2 v o r1 r3, R2, fun d h j e hj => r3 d h j e (liftM_new hj)⟩, g2, fun u o' h n => k2 u o' h fun d' e j e' hj => ?_⟩
      have := n d' e (j + 1) e' (by simpa using hj)
      simpa using this
theorem SOk.cut {τ : Sl} {env' : En} (S : SOk K F (σ ++ τ) env' H A) : SOk K F σ (env'.take σ.length) H A := by
  have gt : ∀ i, (env'.take σ.length).getD i .no = if i < σ.length then env'.getD i .no else .no := fun i => by
    rw [List.getD_eq_getElem?_getD, List.getD_eq_getElem?_getD, List.getElem?_take]
    split <;> rfl
  have gs : ∀ i, i < σ.length → (σ ++ τ)[i]? = σ[i]? := fun i h => List.getElem?_append_left h
  refine ⟨S.subA, S.subF, fun i => ?_, fun i j d e p h1 h2 h3 h4 => ?_, ?_, S.nomk⟩
  · rw [gt]
    by_cases h : i < σ.length
    · rw [if_pos h, ← gs i h]; exact S.cell i
    · rw [if_neg h]; trivial
  · rw [gt] at h1 h2
    split at h1 <;> first | cases h1; done | skip
    split at h2 <;> first | cases h2; done | skip
    rename_i hi hj
    exact S.apart i j d e p h1 h2 ((gs i hi).trans h3) ((gs j hj).trans h4)
  · have := S.lens
    rw [List.length_append] at this
    rw [List.length_take]; omega
theorem OpOk.cut {τ : Sl} {env' : En} {v : V} {o : Op} (hn : ∀ i, o ≠ .slot i) (r : OpOk K F A H (σ ++ τ) env' v o) : OpOk K F A H σ (env'.take σ.length) v o := by
  cases o with
  | val d => exact r
  | raw d => exact r
  | slot i => exact absurd rfl (hn i)
  | new d =>
    obtain ⟨p, e, a, f, b, n⟩ := r
    refine ⟨p, e, a, f, b, fun j d' hj hs => ?_⟩
    have hl : j < σ.length := (List.getElem?_eq_some_iff.mp hs).1
    rw [List.getD_eq_getElem?_getD, List.getElem?_take, if_pos hl, ← List.getD_eq_getElem?_getD] at hj
    exact n j d' hj ((List.getElem?_append_left hl).trans hs)
theorem callX_ok {mg : Str → Option Value} {E : Sl → XK} {ms : List Nat} {fn : Fn} {dflt : List D} {dvs : List V} {os : List Op} {vs : List V} {np : Nat} {Q : VK} (S : SOk K F σ env H A) (r : OpsOk K F A H σ env os vs) (dd : ∀ A, Reps K A dvs dflt)
    (hnp : vs.length + dvs.length = np) (h : match callX ms fn dflt os env with
      | .ok o env' => ∀ v H' A', SOk K F σ env' H' A' → Grow F A A' → OpOk K F A' H' σ env' v o → Q v H'
      | .exc n env' => ∀ C H' A', mg n = some (.ref C) → SOk K F σ env' H' A' → Grow F A A' → E σ (.ref C) none H'
      | .bad => False) : spFn K mg ms np fn (vs ++ dvs) H Q (E σ) := by
  obtain ⟨τ, S1, R1, _, _⟩ := lift_ok (ms := ms) (k := 0) S r
  refine call_ok (E := fun _ => E σ) S1 R1 dd hnp ?_
  unfold callX at h
  generalize callM ms fn dflt (liftM ms 0 os env.length).1 (env ++ (liftM ms 0 os env.length).2) = z at h ⊢
  cases z with
  | bad => exact h
  | exc n e => exact fun C H' A' m S' g => h C H' A' m (by rw [S.lens]; exact S'.cut) g
  | ok o e =>
    cases o with
    | slot i => exact h.elim
    | val d => exact fun v H' A' S' g r' => h v H' A' (by rw [S.lens]; exact S'.cut) g (by rw [S.lens]; exact r'.cut (fun i h => nomatch h))
    | raw d => exact fun v H' A' S' g r' => h v H' A' (by rw [S.lens]; exact S'.cut) g (by rw [S.lens]; exact r'.cut (fun i h => nomatch h))
    | new d => exact fun v H' A' S' g r' => h v H' A' (by rw [S.lens]; exact S'.cut) g (by rw [S.lens]; exact r'.cut (fun i h => nomatch h))
end
section
variable {K : Fg} {mg : Str → Option Value} {E : Sl → XK} {fa : Ax} {σ : Sl} {H : Hp} {ms : List Nat} {fn : Fn} {dflt : List D} {dvs : List V} {np : Nat}
theorem tJ_callX (dd : ∀ A, Reps K A dvs dflt) {n : Nat} (hn : n + dvs.length = np) (hl : ArgLen n fa) {Q : VK} (h : tJ K mg E (eCallX ms fn dflt fa) σ H Q) : tJA K mg E fa σ H fun vs H1 => spFn K mg ms np fn (vs ++ dvs) H1 Q (E σ) := by
  obtain ⟨env, A, F, S, h⟩ := h
  refine ⟨env, A, F, S, ?_⟩
  unfold eCallX at h
  cases e : fa env with
  | bad => rw [e] at h; exact h
  | exc n e' => rw [e] at h; exact h
  | ok os e' =>
    rw [e] at h
    intro vs H1 A1 S1 g1 r1
    refine callX_ok S1 r1 dd (by rw [r1.len, hl env os e' e]; exact hn) ?_
    simp only [Out.bind] at h
    cases hc : callX ms fn dflt os e' with
    | bad => rw [hc] at h; exact h
    | exc n e2 => rw [hc] at h; exact fun C H' A' m S' g' => h C H' A' m S' (g1.trans g')
    | ok o e2 => rw [hc] at h; exact fun v H' A' S' g' r' => h v H' A' S' (g1.trans g') r'
end
section
variable {X : Cx} {k : Nat} {f : Addr} {fd : FuncData} {ps : List Str} {dvs : List V} {ds : List Value} {E : Sl → XK} {x : Str} {p pos : Pos} {e : Expr} {es : List Expr}
theorem jp_callX {fa : Ax} {ms : List Nat} {fn : Fn} {dflt : List D} {n np : Nat} (F : FnG X.prog X.w X.K X.mg X.base k f fd ps (spFn X.K X.mg ms np fn)) (hr : Room k X.A) (hG : X.A.guards = some []) (hg : Gl X x) (hm : X.mg x = some (.ref f)) (hk : PySem.W.keepIn X.K (.ref f) = true) (hb : Binds X.K fd ps ds)
    (hd : Vals dvs ds) (dd : ∀ A, Reps X.K A dvs dflt) (hn : n + dvs.length = np) (hl : ArgLen n fa) (hx : ∀ σ, PassesAt (L2.CX X.prog X.w) X σ (E σ)) (ha : JA X E (e :: es) fa) (hdb : (x == ("__debug__" : Str)) = false := by decide)
    (he : starEach (e :: es) X.env = (false, eval e X.env) :: starEach es X.env := by rfl) (hpl : (backTo pos (starEach es X.env)).any (·.1) = false := by rfl) :
    JP X E (.Call (.Name x p) (e :: es) [] pos) (eCallX ms fn dflt fa) := impE (pe_callG F hr hG hg hm hk hb hd hx ha hdb he hpl) fun σ H Q h => tJ_callX dd hn hl h
end
end T3
namespace T3
open PySem PySem.Spec PyProof.Rows L2
def sDes (g : Gx) (f : Ex) : Sx := fun env => (f env).bind fun o e => match frz1 o e with
  | some (d, e2) => (match g d e2 with
    | some e3 => .ok .nx e3
    | none => .bad)
  | none => .bad
def gIdx (i : Nat) (fi : Ex) : Gx := fun d e => match getM (e.getD i .no) with
  | some _ => (match fi e with
    | .ok oi e2 => (match res oi e2 with
      | some (.int k) => (match getM (e2.getD i .no) with
        | some (.list xs) => (match ixN xs.length k with
          | some j => some (e2.set i (setM (e2.getD i .no) (.list (xs.set j d))))
          | none => none)
        | _ => none)
      | _ => none)
    | _ => none)
  | none => none
section
variable {X : Cx} {E : Sl → XK} {pos tpos px : Pos} {tg e ei : Expr} {f fi : Ex} {g : Gx} {x : Str} {vs : List Nat}
theorem js_des (h : JP X E e f) (hg : JG X vs tg g) (hs : swapsWithSole [tg] e pos.line X.env = pure false := by rfl) (hw : swappedStores [tg] e X.env = pure none := by rfl)
    (h1 : (assignEach [tg] X.env).map (·.2) = [assign tg X.env] := by rfl) : JS X E (.Assign [tg] e pos) (sDes g f) :=
  impS (ps_asg h hg hs hw h1) fun Z σ H ⟨env, A, F, S, q⟩ => LS.of_ex q S fun o e v H' A' S' g' r' k => by
    cases hf : frz1 o e with
    | none => rw [hf] at k; exact k.elim
    | some w =>
      obtain ⟨d, e2⟩ := w
      rw [hf] at k
      simp only at k
      obtain ⟨A2, S2, g2, r2, _⟩ := frz1_ok S' r' hf
      cases hg : g d e2 with
      | none => rw [hg] at k; exact k.elim
      | some e3 =>
        rw [hg] at k
        exact ⟨e2, A2, F, d, S2, r2, e3, hg, fun σ' H3 A3 b S3 g3 => k σ' H3 A3 S3 (g2.trans g3)⟩
end
def eDict0 : Ex := fun env => .ok (.new (.dict [])) env
section
variable {X : Cx} {E : Sl → XK} {pos p : Pos} {e : Expr} {es : List Expr} {fa : Ax}
/-- a dict whose keys are tuples -/
def eDict0T : Ex := fun env => .ok (.new (.dict [mkT])) env
theorem jp_dict0T : JP X E (.Dict [] [] pos) eDict0T := impE pe_dnewT fun σ H Q ⟨env, A, F, S, h⟩ => fun a ha => by
  have x := ext_new (o := .dT []) S.subA ha
  exact h _ _ A (S.ext x) Grow.refl (RV.op S x ⟨a, rfl, ha, by cases q : A a with | none => rfl | some o => (rw [S.subA a o q] at ha; cases ha), .inr ⟨[], [], upd_same, .nil, rfl⟩⟩)
def bStr : List D → Option Op
  | [.int i] => if i.natAbs.log2 < 1920 then some (.val (.str (toString i))) else none
  | _ => none
def bTuple : List D → Option Op
  | [.list ds] => some (.val (.tuple ds))
  | [.tuple ds] => some (.val (.tuple ds))
  | _ => none
end
end T3
namespace T3
open PySem PySem.Spec PyProof.Rows L2
theorem kit_int : kitAll "int" = true := by decide +kernel
theorem kit_bool : kitAll "bool" = true := by decide +kernel
theorem kit_list : kitAll "list" = true := by decide +kernel
theorem kit_tuple : kitAll "tuple" = true := by decide +kernel
def sBreak : Sx := fun env => .ok .bk env
def sCont : Sx := fun env => .ok .ct env
def sRetN : Sx := fun env => .ok (.rt (.val .none)) env
theorem jp_negc {X : Cx} {E : Sl → XK} {i : Int} {k : Nat} {p p2 : Pos} : JP X E (.UnaryOp .USub (.Constant (.int i) k p) p2) (eC (.int (-i))) :=
  impE (pe_un un_neg pe_int) fun σ H Q h => ⟨i, rfl, tJ_c (fun _ => .int (-i)) h⟩
theorem u160 {k : Nat} {A : Around} (r : Room k A) : A.units + 160 < cLine := by have := r.un; omega
theorem u65 {k : Nat} {A : Around} (r : Room k A) : A.units + 65 < cLine := by have := r.un; omega
theorem xVE : ExcBaseFacts "ValueError" "ValueError.__new__" "ValueError.__init__" He.veBase := PySem.F.excBase_ValueError
end T3
namespace T3
open PySem PySem.Spec PyProof.Rows L2
/-- told as a step of its own -/
theorem nr {γ : Sort _} {a b : γ} (h : a = b) : a = b := Eq.trans h (Eq.refl b)
section
variable {α β : Type}
def kCons (g : Ax) : Op → En → Out En (List Op) := fun o e => (g e).bind fun os e2 => .ok (o :: os) e2
def kCons2 (o : Op) : List Op → En → Out En (List Op) := fun os e2 => .ok (o :: os) e2
def kOp (g : D → D → Option Op) (fb : Ex) : Op → En → Out En Op := fun o1 e1 => (fb e1).bind fun o2 e2 => match res o1 e2 with
  | some d1 => (match res o2 e2 with | some d2 => fin (g d1 d2) e2 | none => .bad)
  | none => .bad
def kOp2 (g : D → D → Option Op) (o1 : Op) : Op → En → Out En Op := fun o2 e2 => match res o1 e2 with
  | some d1 => (match res o2 e2 with | some d2 => fin (g d1 d2) e2 | none => .bad)
  | none => .bad
def kArg (g : List D → Option Op) : List Op → En → Out En Op := fun os e => match resAll os e with
  | some ds => fin (g ds) e
  | none => .bad
def kOne (k : D → Option Op) : Op → En → Out En Op := fun o e => match res o e with
  | some d => fin (k d) e
  | none => .bad
def kFrz (k : List D → Option Op) : List Op → En → Out En Op := fun os e => match frzAll os e with
  | some (ds, e2) => fin (k ds) e2
  | none => .bad
def kOf : Op → En → Out En Bool := fun o e => match o with
  | .val (.bool b) => .ok b e
  | .slot i => (match e.getD i .no with | .v (.bool b) => .ok b e | _ => .bad)
  | _ => .bad
def kCond (a b : Tx) : Bool → En → Out En Bool := fun c e => if c = true then a e else b e
def kNot : Bool → En → Out En Bool := fun c e => .ok (!c) e
def kCondE (a b : Ex) : Bool → En → Out En Op := fun c e => if c = true then a e else b e
def kCondS (a b : Sx) : Bool → En → Out En Fl := fun c e => if c = true then a e else b e
def kSeq (b : Sx) : Fl → En → Out En Fl := fun fl e => match fl with
  | .nx => b e
  | fl => .ok fl e
def kSet (i : Nat) : Op → En → Out En Fl := fun o e => match put i o e with
  | some e2 => .ok .nx e2
  | none => .bad
def kDrop : Op → En → Out En Fl := fun _ e => .ok .nx e
def kPar (is : List Nat) : List Op → En → Out En Fl := fun os e => match unslots os e with
  | some (os1, e1) => (match putAll is os1 e1 with | some e2 => .ok .nx e2 | none => .bad)
  | none => .bad
def kDes (g : Gx) : Op → En → Out En Fl := fun o e => match frz1 o e with
  | some (d, e2) => (match g d e2 with
    | some e3 => .ok .nx e3
    | none => .bad)
  | none => .bad
def kStore (i : Nat) (fi : Ex) : Op → En → Out En Fl := fun o e1 => match getM (e1.getD i .no) with
  | some _ => (fi e1).bind fun oi e2 => (match res oi e2 with
    | some (.int k) => (match frz1 o e2 with
      | some (d, e3) => (match getM (e3.getD i .no) with
        | some (.list xs) => (match ixN xs.length k with
          | some j => .ok .nx (e3.set i (setM (e3.getD i .no) (.list (xs.set j d))))
          | none => .bad)
        | _ => .bad)
      | none => .bad)
    | _ => .bad)
  | none => .bad
def kStore2 (i : Nat) (o : Op) : Op → En → Out En Fl := fun oi e2 => match res oi e2 with
    | some (.int k) => (match frz1 o e2 with
      | some (d, e3) => (match getM (e3.getD i .no) with
        | some (.list xs) => (match ixN xs.length k with
          | some j => .ok .nx (e3.set i (setM (e3.getD i .no) (.list (xs.set j d))))
          | none => .bad)
        | _ => .bad)
      | none => .bad)
    | _ => .bad
def kAug (i : Nat) (g : Int → Int → Int) (a : Int) : Op → En → Out En Fl := fun o e => match res o e with
    | some (.int b) => if i < e.length then .ok .nx (e.set i (.v (.int (g a b)))) else .bad
    | _ => .bad
def kMeth (i : Nat) (k : D → List D → Option (D × D)) : List Op → En → Out En Op := fun os e => match frzAll os e with
    | some (ds, e2) => (match getM (e2.getD i .no) with
      | some d => (match k d ds with
        | some (r, d') => .ok (.val r) (e2.set i (setM (e2.getD i .no) d'))
        | none => .bad)
      | none => .bad)
    | none => .bad
def kExt (i : Nat) : Op → En → Out En Op := fun o e => match getM (e.getD i .no) with
    | some (.list xs) => (match ownList o e with
      | some ys => if xs.length + ys.length ≤ sizeLine then .ok (.val .none) (e.set i (setM (e.getD i .no) (.list (xs ++ ys)))) else .bad
      | none => .bad)
    | _ => .bad
def kRead (ok : D → Bool) (g : D → D → Option Op) (fb : Ex) : Op → En → Out En Op := fun o1 e1 => match res o1 e1 with
  | some d0 => if ok d0 = true then (fb e1).bind fun o2 e2 => (match res o1 e2 with
    | some d1 => (match res o2 e2 with | some d2 => fin (g d1 d2) e2 | none => .bad)
    | none => .bad) else .bad
  | none => .bad
def kChain (g1 g2 : D → D → Option Op) (fb fc : Ex) : Op → En → Out En Op := fun o1 e1 => (fb e1).bind fun o2 e2 => match res o1 e2 with
  | some d1 => (match res o2 e2 with
    | some d2 => (match g1 d1 d2 with
      | some (.val (.bool true)) => (fc e2).bind fun o3 e3 => (match res o2 e3 with
        | some d2' => (match res o3 e3 with | some d3 => fin (g2 d2' d3) e3 | none => .bad)
        | none => .bad)
      | some (.val (.bool false)) => .ok (.val (.bool false)) e2
      | _ => .bad)
    | none => .bad)
  | none => .bad
def kChain3 (g2 : D → D → Option Op) (o2 : Op) : Op → En → Out En Op := fun o3 e3 => match res o2 e3 with
        | some d2' => (match res o3 e3 with | some d3 => fin (g2 d2' d3) e3 | none => .bad)
        | none => .bad
def kChain2 (g1 g2 : D → D → Option Op) (fc : Ex) (o1 : Op) : Op → En → Out En Op := fun o2 e2 => match res o1 e2 with
  | some d1 => (match res o2 e2 with
    | some d2 => (match g1 d1 d2 with
      | some (.val (.bool true)) => (fc e2).bind (kChain3 g2 o2)
      | some (.val (.bool false)) => .ok (.val (.bool false)) e2
      | _ => .bad)
    | none => .bad)
  | none => .bad
def kSome : Op → En → Out En (Option Int) := fun o e => match res o e with
  | some (.int i) => .ok (some i) e
  | _ => .bad
def kSlice (a b : Ox) : Op → En → Out En Op := fun o e => (a e).bind fun l e1 => (b e1).bind fun u e2 => match res o e2 with
  | some (.list ds) => .ok (.new (.list (cutD ds l u))) e2
  | some (.tuple ds) => .ok (.val (.tuple (cutD ds l u))) e2
  | some (.str z) => if z.length ≤ sizeLine then .ok (.val (.str (cutS z l u))) e2 else .bad
  | _ => .bad
def kSlice3 (o : Op) (l : Option Int) : Option Int → En → Out En Op := fun u e2 => match res o e2 with
  | some (.list ds) => .ok (.new (.list (cutD ds l u))) e2
  | some (.tuple ds) => .ok (.val (.tuple (cutD ds l u))) e2
  | some (.str z) => if z.length ≤ sizeLine then .ok (.val (.str (cutS z l u))) e2 else .bad
  | _ => .bad
def kSlice2 (b : Ox) (o : Op) : Option Int → En → Out En Op := fun l e1 => (b e1).bind (kSlice3 o l)
def kFor (g : Gx) (b : Sx) : List D → En → Out En Fl := fun ds e => fLoop g b ds e
def kLoop (g : Gx) (b : Sx) (ds : List D) : Fl → En → Out En Fl := fun fl e2 => match fl with
      | .nx => fLoop g b ds e2
      | .ct => fLoop g b ds e2
      | .bk => .ok .nx e2
      | .rt o => .ok (.rt o) e2
def kWh (t : Tx) (b : Sx) (n : Nat) : Bool → En → Out En Fl := fun c e => if c = true then (b e).bind fun fl e2 => (match fl with
    | .nx => wLoop t b n e2
    | .ct => wLoop t b n e2
    | .bk => .ok .nx e2
    | .rt o => .ok (.rt o) e2) else .ok .nx e
def kWh2 (t : Tx) (b : Sx) (n : Nat) : Fl → En → Out En Fl := fun fl e2 => match fl with
    | .nx => wLoop t b n e2
    | .ct => wLoop t b n e2
    | .bk => .ok .nx e2
    | .rt o => .ok (.rt o) e2
def kLc (vs : List Nat) (g : Gx) (tt : Tx) (fe : Ex) : List D → En → Out En Op := fun ds e1 => (lcLoop g tt fe vs ds [] (wipeE e1 vs)).bind fun l e2 => match restore e1 e2 vs with
  | some e3 => .ok (.new (.list l)) e3
  | none => .bad
def kLc2 (vs : List Nat) (e1 : En) : List D → En → Out En Op := fun l e2 => match restore e1 e2 vs with
  | some e3 => .ok (.new (.list l)) e3
  | none => .bad
def kLst : Op → En → Out En (List D) := fun o e => match frz1 o e with
  | some (.list ds, e2) => .ok ds e2
  | _ => .bad
def kTupI : Op → En → Out En (List D) := fun o e => match frz1 o e with
  | some (.tuple ds, e2) => .ok ds e2
  | _ => .bad
def kRg1 : List Op → En → Out En (List D) := fun os e => match resAll os e with
  | some [.int n] => if -(2 ^ 62) ≤ n ∧ n < 2 ^ 62 then .ok (rangeD 0 n) e else .bad
  | _ => .bad
def kCall (ms : List Nat) (fn : Fn) (dflt : List D) : List Op → En → Out En Op := fun os e => callM ms fn dflt os e
def kCallX (ms : List Nat) (fn : Fn) (dflt : List D) : List Op → En → Out En Op := fun os e => callX ms fn dflt os e
theorem bind_ok (a : α) (s : En) (k : α → En → Out En β) : (Out.ok a s : Out En α).bind k = k a s := nr rfl
theorem bind_exc (n : Str) (s : En) (k : α → En → Out En β) : (Out.exc n s : Out En α).bind k = .exc n s := nr rfl
theorem bind_bad (k : α → En → Out En β) : (Out.bad : Out En α).bind k = .bad := nr rfl
end
section
variable (f fa fb fc fe : Ex) (ga : Ax) (t a b : Tx) (s s' : Sx) (e e1 : En) (o o1 o2 o3 : Op) (os : List Op) (g : D → D → Option Op) (g1 : D → Option Op) (gn : List D → Option Op) (i : Nat) (c : Bool) (is : List Nat) (gx : Gx) (fl : Fl) (ox oy : Ox) (l u : Option Int) (ix : Ix) (ds : List D) (n : Nat) (ms : List Nat) (fn : Fn)
/-- expressions -/
theorem ev_c (d : D) : eC d e = .ok (.val d) e := nr rfl
theorem ev_nil : eNil e = .ok [] e := nr rfl
theorem ev_cons : eCons f ga e = (f e).bind (kCons ga) := nr rfl
theorem kv_cons : kCons ga o e = (ga e).bind (kCons2 o) := nr rfl
theorem kv_cons2 : kCons2 o os e = .ok (o :: os) e := nr rfl
theorem ev_two : eOp2 g fa fb e = (fa e).bind (kOp g fb) := nr rfl
theorem kv_two : kOp g fb o e = (fb e).bind (kOp2 g o) := nr rfl
theorem kv_two2 : kOp2 g o1 o2 e = (match res o1 e with
  | some d1 => (match res o2 e with | some d2 => fin (g d1 d2) e | none => .bad)
  | none => .bad) := nr rfl
theorem ev_one : eOne g1 f e = (f e).bind (kOne g1) := nr rfl
theorem kv_one : kOne g1 o e = (match res o e with
  | some d => fin (g1 d) e
  | none => .bad) := nr rfl
theorem ev_callB : eCallB gn ga e = (ga e).bind (kArg gn) := nr rfl
theorem kv_args : kArg gn os e = (match resAll os e with
  | some ds => fin (gn ds) e
  | none => .bad) := nr rfl
theorem ev_frz : eFrz gn ga e = (ga e).bind (kFrz gn) := nr rfl
theorem kv_frz : kFrz gn os e = (match frzAll os e with
  | some (ds, e2) => fin (gn ds) e2
  | none => .bad) := nr rfl
theorem fin_some : fin (some o) e = .ok o e := nr rfl
theorem ev_if : eIf t fa fb e = (t e).bind (kCondE fa fb) := nr rfl
theorem kv_condE : kCondE fa fb c e = if c = true then fa e else fb e := nr rfl
theorem ev_and : eAndM fa fb e = (tOf fa e).bind (kCondE fb (eC (.bool false))) := nr rfl
theorem ev_or : eOrM fa fb e = (tOf fa e).bind (kCondE (eC (.bool true)) fb) := nr rfl
def kNotE : Bool → En → Out En Op := fun c e => .ok (.val (.bool (!c))) e
theorem ev_not : eNotM fa e = (tOf fa e).bind kNotE := nr rfl
theorem kv_notE : kNotE c e = .ok (.val (.bool (!c))) e := nr rfl
theorem ev_slice : eSlice f ox oy e = (f e).bind (kSlice ox oy) := nr rfl
theorem kv_slice : kSlice ox oy o e = (ox e).bind (kSlice2 oy o) := nr rfl
theorem kv_slice2 : kSlice2 oy o l e = (oy e).bind (kSlice3 o l) := nr rfl
theorem kv_slice3 : kSlice3 o l u e = (match res o e with
  | some (.list ds) => .ok (.new (.list (cutD ds l u))) e
  | some (.tuple ds) => .ok (.val (.tuple (cutD ds l u))) e
  | some (.str z) => if z.length ≤ sizeLine then .ok (.val (.str (cutS z l u))) e else .bad
  | _ => .bad) := nr rfl
theorem ev_none : oNone e = .ok none e := nr rfl
theorem ev_some : oSome f e = (f e).bind kSome := nr rfl
theorem kv_some : kSome o e = (match res o e with
  | some (.int i) => .ok (some i) e
  | _ => .bad) := nr rfl
def dRev : D → Option Op := fun d => match d with | .list ds => some (.new (.list ds.reverse)) | _ => none
theorem dRev_l : dRev (.list ds) = some (.new (.list ds.reverse)) := nr rfl
theorem ev_rev : eRev f e = (f e).bind (kOne dRev) := nr rfl
theorem ev_chain (g2 : D → D → Option Op) : eChain g g2 fa fb fc e = (fa e).bind (kChain g g2 fb fc) := nr rfl
theorem kv_chain (g2 : D → D → Option Op) : kChain g g2 fb fc o e = (fb e).bind (kChain2 g g2 fc o) := nr rfl
theorem kv_chain2 (g2 : D → D → Option Op) : kChain2 g g2 fc o1 o2 e = (match res o1 e with
  | some d1 => (match res o2 e with
    | some d2 => (match g d1 d2 with
      | some (.val (.bool true)) => (fc e).bind (kChain3 g2 o2)
      | some (.val (.bool false)) => .ok (.val (.bool false)) e
      | _ => .bad)
    | none => .bad)
  | none => .bad) := nr rfl
theorem kv_chain3 (g2 : D → D → Option Op) : kChain3 g2 o2 o3 e = (match res o2 e with
        | some d2' => (match res o3 e with | some d3 => fin (g2 d2' d3) e | none => .bad)
        | none => .bad) := nr rfl
theorem ev_read (ok : D → Bool) : eRead ok g fa fb e = (fa e).bind (kRead ok g fb) := nr rfl
theorem kv_read (ok : D → Bool) : kRead ok g fb o1 e1 = (match res o1 e1 with
  | some d0 => if ok d0 = true then (fb e1).bind (kOp2 g o1) else .bad
  | none => .bad) := nr rfl
theorem ev_call : eCall ms fn ds ga e = (ga e).bind (kCall ms fn ds) := nr rfl
theorem ev_callX : eCallX ms fn ds ga e = (ga e).bind (kCallX ms fn ds) := nr rfl
theorem kv_call : kCall ms fn ds os e = callM ms fn ds os e := nr rfl
theorem kv_callX : kCallX ms fn ds os e = callX ms fn ds os e := nr rfl
theorem ev_lc : eLc is ix gx t fe e = (ix e).bind (kLc is gx t fe) := nr rfl
theorem kv_lc : kLc is gx t fe ds e1 = (lcLoop gx t fe is ds [] (wipeE e1 is)).bind (kLc2 is e1) := nr rfl
theorem kv_lc2 (e2 : En) : kLc2 is e1 ds e2 = (match restore e1 e2 is with
  | some e3 => .ok (.new (.list ds)) e3
  | none => .bad) := nr rfl
/-- tests -/
theorem ev_of : tOf f e = (f e).bind kOf := nr rfl
theorem kv_of_b (c : Bool) : kOf (.val (.bool c)) e = .ok c e := nr rfl
theorem kv_of_s : kOf (.slot i) e = (match e.getD i .no with | .v (.bool b) => .ok b e | _ => .bad) := nr rfl
theorem ev_tnot : tNotM t e = (t e).bind kNot := nr rfl
theorem kv_not : kNot c e = .ok (!c) e := nr rfl
def tF : Tx := fun e => .ok false e
def tT : Tx := fun e => .ok true e
theorem ev_tand : tAndM a b e = (a e).bind (kCond b tF) := nr rfl
theorem ev_tor : tOrM a b e = (a e).bind (kCond tT b) := nr rfl
theorem kv_cond : kCond a b c e = if c = true then a e else b e := nr rfl
theorem ev_tF : tF e = .ok false e := nr rfl
theorem ev_tT : tT e = .ok true e := nr rfl
theorem ev_yes : tYesM e = .ok true e := nr rfl
/-- statements -/
theorem ev_seq : sSeq s s' e = (s e).bind (kSeq s') := nr rfl
theorem kv_seq : kSeq s .nx e = s e := nr rfl
theorem kv_seq_rt : kSeq s (.rt o) e = .ok (.rt o) e := nr rfl
theorem kv_seq_bk : kSeq s .bk e = .ok .bk e := nr rfl
theorem kv_seq_ct : kSeq s .ct e = .ok .ct e := nr rfl
theorem ev_sif : sIf t s s' e = (t e).bind (kCondS s s') := nr rfl
theorem kv_condS : kCondS s s' c e = if c = true then s e else s' e := nr rfl
theorem ev_next : sNext e = .ok .nx e := nr rfl
theorem ev_break : sBreak e = .ok .bk e := nr rfl
theorem ev_cont : sCont e = .ok .ct e := nr rfl
theorem ev_retN : sRetN e = .ok (.rt (.val .none)) e := nr rfl
theorem ev_raise (x : Str) : sRaise x e = .exc x e := nr rfl
theorem ev_set : sSet i f e = (f e).bind (kSet i) := nr rfl
theorem kv_set : kSet i o e = (match put i o e with
  | some e2 => .ok .nx e2
  | none => .bad) := nr rfl
theorem ev_drop : sDrop f e = (f e).bind kDrop := nr rfl
theorem kv_drop : kDrop o e = .ok .nx e := nr rfl
theorem ev_ret : sRet f e = (f e).bind retOp := nr rfl
theorem ev_par : sPar is ga e = (ga e).bind (kPar is) := nr rfl
theorem kv_par : kPar is os e = (match unslots os e with
  | some (os1, e1) => (match putAll is os1 e1 with | some e2 => .ok .nx e2 | none => .bad)
  | none => .bad) := nr rfl
theorem ev_des : sDes gx f e = (f e).bind (kDes gx) := nr rfl
theorem kv_des : kDes gx o e = (match frz1 o e with
  | some (d, e2) => (match gx d e2 with
    | some e3 => .ok .nx e3
    | none => .bad)
  | none => .bad) := nr rfl
theorem ev_store : sStore i fa fb e = (fa e).bind (kStore i fb) := nr rfl
theorem kv_store : kStore i fb o e = (match getM (e.getD i .no) with
  | some _ => (fb e).bind (kStore2 i o)
  | none => .bad) := nr rfl
theorem kv_store2 : kStore2 i o o2 e = (match res o2 e with
    | some (.int k) => (match frz1 o e with
      | some (d, e3) => (match getM (e3.getD i .no) with
        | some (.list xs) => (match ixN xs.length k with
          | some j => .ok .nx (e3.set i (setM (e3.getD i .no) (.list (xs.set j d))))
          | none => .bad)
        | _ => .bad)
      | none => .bad)
    | _ => .bad) := nr rfl
theorem ev_aug (h : Int → Int → Int) : sAug i h f e = (match e.getD i .no with
  | .v (.int a) => (f e).bind (kAug i h a)
  | _ => .bad) := nr rfl
theorem kv_aug (h : Int → Int → Int) (a : Int) : kAug i h a o e = (match res o e with
    | some (.int b) => if i < e.length then .ok .nx (e.set i (.v (.int (h a b)))) else .bad
    | _ => .bad) := nr rfl
theorem ev_meth (k : D → List D → Option (D × D)) : eMeth i k ga e = (match getM (e.getD i .no) with
  | some (.list _) => (ga e).bind (kMeth i k)
  | _ => .bad) := nr rfl
theorem kv_meth (k : D → List D → Option (D × D)) : kMeth i k os e = (match frzAll os e with
    | some (ds, e2) => (match getM (e2.getD i .no) with
      | some d => (match k d ds with
        | some (r, d') => .ok (.val r) (e2.set i (setM (e2.getD i .no) d'))
        | none => .bad)
      | none => .bad)
    | none => .bad) := nr rfl
theorem ev_ext : eExtend i f e = (match getM (e.getD i .no) with
  | some (.list _) => (f e).bind (kExt i)
  | _ => .bad) := nr rfl
theorem kv_ext : kExt i o e = (match getM (e.getD i .no) with
    | some (.list xs) => (match ownList o e with
      | some ys => if xs.length + ys.length ≤ sizeLine then .ok (.val .none) (e.set i (setM (e.getD i .no) (.list (xs ++ ys)))) else .bad
      | none => .bad)
    | _ => .bad) := nr rfl
/-- loops -/
theorem ev_for : sFor ix gx s e = (ix e).bind (kFor gx s) := nr rfl
theorem kv_for : kFor gx s ds e = fLoop gx s ds e := nr rfl
theorem loop_nil : fLoop gx s [] e = .ok .nx e := nr rfl
theorem kv_loop_nx : kLoop gx s ds .nx e = fLoop gx s ds e := nr rfl
theorem kv_loop_ct : kLoop gx s ds .ct e = fLoop gx s ds e := nr rfl
theorem kv_loop_bk : kLoop gx s ds .bk e = .ok .nx e := nr rfl
theorem kv_loop_rt : kLoop gx s ds (.rt o) e = .ok (.rt o) e := nr rfl
theorem while_succ : wLoop t s (n + 1) e = (t e).bind (kWh t s n) := nr rfl
theorem kv_wh : kWh t s n c e = if c = true then (s e).bind (kWh2 t s n) else .ok .nx e := nr rfl
theorem kv_wh_nx : kWh2 t s n .nx e = wLoop t s n e := nr rfl
theorem kv_wh_ct : kWh2 t s n .ct e = wLoop t s n e := nr rfl
theorem kv_wh_bk : kWh2 t s n .bk e = .ok .nx e := nr rfl
theorem kv_wh_rt : kWh2 t s n (.rt o) e = .ok (.rt o) e := nr rfl
theorem ev_ilst : iLst f e = (f e).bind kLst := nr rfl
theorem kv_lst : kLst o e = (match frz1 o e with
  | some (.list ds, e2) => .ok ds e2
  | _ => .bad) := nr rfl
theorem ev_itup : iTupM f e = (f e).bind kTupI := nr rfl
theorem kv_itup : kTupI o e = (match frz1 o e with
  | some (.tuple ds, e2) => .ok ds e2
  | _ => .bad) := nr rfl
end
section
variable (i j : Int) (xs ys ds : List D) (d e : D) (b c : Bool) (p : Int → Int → Bool) (x y : Str) (en : En) (o : Op) (os : List Op) (n : Nat)
theorem add_i : dAdd (.int i) (.int j) = some (.val (.int (i + j))) := nr rfl
theorem add_l : dAdd (.list xs) (.list ys) = if xs.length + ys.length ≤ sizeLine then some (.new (.list (xs ++ ys))) else none := nr rfl
theorem sub_i : dSub (.int i) (.int j) = some (.val (.int (i - j))) := nr rfl
theorem mul_i : dMul (.int i) (.int j) = if mulOk i j then some (.val (.int (i * j))) else none := nr rfl
theorem div_i : dDiv (.int i) (.int j) = if divOk j then some (.val (.int (i.fdiv j))) else none := nr rfl
theorem mod_i : dMod (.int i) (.int j) = if j ≠ 0 then some (.val (.int (i.fmod j))) else none := nr rfl
theorem pow_i : dPow (.int i) (.int j) = if powOk i j then some (.val (.int (i ^ j.toNat))) else none := nr rfl
theorem cmp_i : dCmp p (.int i) (.int j) = some (.val (.bool (p i j))) := nr rfl
theorem eq_d : dEq d e = if isSS d e || (SeqAt.shaped d && SeqAt.shaped e) then some (.val (.bool (PyData.eqv d e))) else dLen false d e := nr rfl
theorem ne_d : dNe d e = if isSS d e || (SeqAt.shaped d && SeqAt.shaped e) then some (.val (.bool (!PyData.eqv d e))) else dLen true d e := nr rfl
theorem is_nn : dIs .none .none = some (.val (.bool true)) := nr rfl
theorem is_bb : dIs (.bool b) (.bool c) = some (.val (.bool (decide (b = c)))) := nr rfl
theorem is_in : dIs (.int i) .none = some (.val (.bool false)) := nr rfl
theorem is_bn : dIs (.bool b) .none = some (.val (.bool false)) := nr rfl
theorem is_ln : dIs (.list xs) .none = some (.val (.bool false)) := nr rfl
theorem is_tn : dIs (.tuple xs) .none = some (.val (.bool false)) := nr rfl
theorem ix_l : dIx (.list ds) (.int i) = (atI ds i).map .val := nr rfl
theorem ix_t : dIx (.tuple ds) (.int i) = (atI ds i).map .val := nr rfl
theorem isi_d (T : String) : dIsi T d = some (.val (.bool (isiB T d))) := nr rfl
theorem abs_i : bAbs [.int i] = some (.val (.int (if i < 0 then -i else i))) := nr rfl
theorem max_i : bMax2 [.int i, .int j] = some (.val (.int (if j > i then j else i))) := nr rfl
theorem min_i : bMin2 [.int i, .int j] = some (.val (.int (if j < i then j else i))) := nr rfl
theorem int_i : bInt [.int i] = some (.val (.int i)) := nr rfl
theorem int_b : bInt [.bool b] = some (.val (.int (if b then 1 else 0))) := nr rfl
theorem len_l : bLen [.list ds] = some (.val (.int ds.length)) := nr rfl
theorem len_t : bLen [.tuple ds] = some (.val (.int ds.length)) := nr rfl
theorem lst_l : bList [.list ds] = some (.new (.list ds)) := nr rfl
theorem lst_t : bList [.tuple ds] = some (.new (.list ds)) := nr rfl
theorem tup_l : bTuple [.list ds] = some (.val (.tuple ds)) := nr rfl
theorem rep_d : bRepr [d] = if reprOk d = true then some (.val (.str d.shown)) else none := nr rfl
theorem app_l : kAppend (.list xs) [d] = if xs.length < sizeLine then some (.none, .list (xs ++ [d])) else none := nr rfl
theorem rg1_i : dRg1 (.int i) = if rgOk 0 i then some (.new (.list (rangeD 0 i))) else none := nr rfl
theorem rg2_i : dRg2 (.int i) (.int j) = if rgOk i j then some (.new (.list (rangeD i j))) else none := nr rfl
theorem fin_map (a : Option D) : fin (a.map .val) en = (match a with | some d => .ok (.val d) en | none => .bad) := by cases a <;> rfl
/-- what stands where -/
theorem res_v : res (.val d) en = some d := nr rfl
theorem res_n : res (.new d) en = some d := nr rfl
theorem frz_v : frz1 (.val d) en = some (d, en) := nr rfl
theorem frz_n : frz1 (.new d) en = some (d, en) := nr rfl
def resC : Cell → Option D
  | .v d => some d | .own d => some d | .par d => some d | _ => none
theorem res_s : res (.slot n) en = resC (en.getD n .no) := by unfold res resC; exact nr rfl
theorem resC_v : resC (.v d) = some d := nr rfl
theorem resC_o : resC (.own d) = some d := nr rfl
theorem resC_p : resC (.par d) = some d := nr rfl
def frzC (n : Nat) (en : En) : Cell → Option (D × En)
  | .v d => some (d, en) | .own d => some (d, en.set n (.v d)) | _ => none
theorem frz_s : frz1 (.slot n) en = frzC n en (en.getD n .no) := by unfold frz1 frzC; exact nr rfl
theorem frzC_v : frzC n en (.v d) = some (d, en) := nr rfl
theorem frzC_o : frzC n en (.own d) = some (d, en.set n (.v d)) := nr rfl
theorem resAll_nil : resAll [] en = some [] := nr rfl
theorem resAll_cons : resAll (o :: os) en = (match res o en with
    | some d => (match resAll os en with | some ds => some (d :: ds) | none => none)
    | none => none) := nr rfl
theorem frzAll_nil : frzAll [] en = some ([], en) := nr rfl
theorem frzAll_cons : frzAll (o :: os) en = (match frz1 o en with
    | some (d, e1) => (match frzAll os e1 with | some (ds, e2) => some (d :: ds, e2) | none => none)
    | none => none) := nr rfl
def sC (n : Nat) (en : En) : Cell → Out En Op
  | .no => .bad
  | _ => .ok (.slot n) en
theorem ev_s : eS n en = sC n en (en.getD n .no) := by unfold eS sC; exact nr rfl
theorem sC_v : sC n en (.v d) = .ok (.slot n) en := nr rfl
theorem sC_o : sC n en (.own d) = .ok (.slot n) en := nr rfl
theorem sC_p : sC n en (.par d) = .ok (.slot n) en := nr rfl
theorem sC_r (v : V) : sC n en (.raw v) = .ok (.slot n) en := nr rfl
theorem getM_o : getM (.own d) = some d := nr rfl
theorem getM_p : getM (.par d) = some d := nr rfl
theorem setM_o : setM (.own d) e = .own e := nr rfl
theorem setM_p : setM (.par d) e = .par e := nr rfl
theorem ret_v : retOp (.val d) en = .ok (.rt (.val d)) en := nr rfl
theorem ret_n : retOp (.new d) en = .ok (.rt (.new d)) en := nr rfl
def retC (n : Nat) (en : En) : Cell → Out En Fl
  | .own d => .ok (.rt (.new d)) (en.set n .no)
  | .v d => .ok (.rt (.val d)) en
  | .raw v => .ok (.rt (.raw v)) en
  | _ => .bad
theorem ret_s : retOp (.slot n) en = retC n en (en.getD n .no) := by unfold retOp retC; exact nr rfl
theorem retC_o : retC n en (.own d) = .ok (.rt (.new d)) (en.set n .no) := nr rfl
theorem retC_v : retC n en (.v d) = .ok (.rt (.val d)) en := nr rfl
theorem put_v : put n (.val d) en = if n < en.length ∧ isPar (en.getD n .no) = false then some (en.set n (.v d)) else none := nr rfl
theorem put_n : put n (.new d) en = if n < en.length ∧ isPar (en.getD n .no) = false then some (en.set n (.own d)) else none := nr rfl
def putC (n m : Nat) (en : En) : Cell → Option En
  | .v d => some (en.set n (.v d))
  | .own d => if n = m then some en else some ((en.set m (.v d)).set n (.v d))
  | .raw v => some (en.set n (.raw v))
  | _ => none
theorem put_s (m : Nat) : put n (.slot m) en = if n < en.length ∧ isPar (en.getD n .no) = false then putC n m en (en.getD m .no) else none := nr rfl
theorem putC_v (m : Nat) : putC n m en (.v d) = some (en.set n (.v d)) := nr rfl
theorem putC_o (m : Nat) : putC n m en (.own d) = if n = m then some en else some ((en.set m (.v d)).set n (.v d)) := nr rfl
theorem isPar_no : isPar .no = false := nr rfl
theorem isPar_v : isPar (.v d) = false := nr rfl
theorem isPar_o : isPar (.own d) = false := nr rfl
theorem uns_v : unslot (.val d) en = some (.val d, en) := nr rfl
theorem uns_n : unslot (.new d) en = some (.new d, en) := nr rfl
def unsC (n : Nat) (en : En) : Cell → Option (Op × En)
  | .v d => some (.val d, en)
  | .own d => some (.val d, en.set n (.v d))
  | .raw v => some (.raw v, en)
  | _ => none
theorem uns_s : unslot (.slot n) en = unsC n en (en.getD n .no) := by unfold unslot unsC; exact nr rfl
theorem unsC_v : unsC n en (.v d) = some (.val d, en) := nr rfl
theorem unsC_o : unsC n en (.own d) = some (.val d, en.set n (.v d)) := nr rfl
theorem unss_nil : unslots [] en = some ([], en) := nr rfl
theorem unss_cons : unslots (o :: os) en = (match unslot o en with
    | some (o1, e1) => (match unslots os e1 with | some (os1, e2) => some (o1 :: os1, e2) | none => none)
    | none => none) := nr rfl
theorem puts_nil : T3.putAll [] [] en = some en := nr rfl
theorem puts_cons (is : List Nat) : T3.putAll (n :: is) (o :: os) en = (match put n o en with | some e2 => T3.putAll is os e2 | none => none) := nr rfl
theorem g_slot : gSlot n d en = if n < en.length ∧ isPar (en.getD n .no) = false then some (en.set n (.v d)) else none := nr rfl
theorem g_tup (gs : List Gx) : gTupM gs (.tuple ds) en = gAll gs ds en := nr rfl
theorem g_all_nil : gAll [] [] en = some en := nr rfl
theorem g_all_cons (g : Gx) (gs : List Gx) : gAll (g :: gs) (d :: ds) en = (match g d en with | some e2 => gAll gs ds e2 | none => none) := nr rfl
def endR (ms : List Nat) : Out En Fl → Out (List D) Op
  | .ok (.rt o) e => (match outs ms e with
    | some cs => if noSlot o = true then .ok o cs else .bad
    | none => .bad)
  | .ok .nx e => (match outs ms e with
    | some cs => .ok (.val .none) cs
    | none => .bad)
  | .exc x e => (match outs ms e with
    | some cs => .exc x cs
    | none => .bad)
  | _ => .bad
theorem run_eq (ms : List Nat) (bd : Sx) : runFn n ms bd ds = endR ms (bd (argCells ms 0 ds ++ List.replicate (n - ds.length) .no)) := by
  unfold runFn endR; exact nr rfl
theorem endR_rt (ms : List Nat) : endR ms (.ok (.rt o) en) = (match outs ms en with
    | some cs => if noSlot o = true then .ok o cs else .bad
    | none => .bad) := nr rfl
theorem endR_nx (ms : List Nat) : endR ms (.ok .nx en) = (match outs ms en with
    | some cs => .ok (.val .none) cs
    | none => .bad) := nr rfl
theorem endR_exc (ms : List Nat) (q : Str) : endR ms (.exc q en) = (match outs ms en with
    | some cs => .exc q cs
    | none => .bad) := nr rfl
theorem outs_nil : outs [] en = some [] := nr rfl
def outC (ms : List Nat) (en : En) : Cell → Option (List D)
  | .par d => (outs ms en).map (d :: ·)
  | _ => none
theorem outs_cons (ms : List Nat) : outs (n :: ms) en = outC ms en (en.getD n .no) := by
  show (match en.getD n .no with | .par d => _ | _ => _) = _
  unfold outC
  rfl
theorem outC_p (ms : List Nat) : outC ms en (.par d) = (outs ms en).map (d :: ·) := nr rfl
theorem nos_v : noSlot (.val d) = true := nr rfl
theorem nos_n : noSlot (.new d) = true := nr rfl
/-- a call, where the slots of what is lent are told -/
def kRet (ms : List Nat) (mu : List Nat) (os : List Op) (e : En) : Out (List D) Op → Out En Op
      | .ok o cs => if safeOp o && cs.all safeC then .ok o (putM mu cs e) else (match frzN ms 0 os e with
        | some e1 => .ok o (putM mu cs e1)
        | none => .bad)
      | .exc n cs => if cs.all safeC then .exc n (putM mu cs e) else .bad
      | .bad => .bad
theorem call_eq (ms : List Nat) (fn : Fn) : callM ms fn ds os en = (match mutS os ms with
  | some mu => if nodupB mu && (borS ms 0 os).all (fun i => !(mu.contains i)) then (match argsD ms en 0 os with
    | some as => kRet ms mu os en (fn (as ++ ds))
    | none => .bad) else .bad
  | none => .bad) := by
  unfold callM kRet; exact nr rfl
theorem ret_ok (ms mu : List Nat) (cs : List D) : kRet ms mu os en (.ok o cs) = if safeOp o && cs.all safeC then .ok o (putM mu cs en) else (match frzN ms 0 os en with
        | some e1 => .ok o (putM mu cs e1)
        | none => .bad) := nr rfl
theorem ret_exc (ms mu : List Nat) (cs : List D) (q : Str) : kRet ms mu os en (.exc q cs) = if cs.all safeC then .exc q (putM mu cs en) else .bad := nr rfl
end
theorem ev_irg1 (ga : Ax) (e : En) : iRg1 ga e = (ga e).bind kRg1 := nr rfl
/-- within what a range takes -/
def in62 (n : Int) : Bool := decide (-(2 ^ 62) ≤ n) && decide (n < 2 ^ 62)
def in63 (n : Int) : Bool := decide (-(2 ^ 63) ≤ n) && decide (n < 2 ^ 63)
theorem in62_iff (n : Int) : in62 n = true ↔ -(2 ^ 62) ≤ n ∧ n < 2 ^ 62 := by simp [in62]
theorem in63_iff (n : Int) : in63 n = true ↔ -(2 ^ 63) ≤ n ∧ n < 2 ^ 63 := by simp [in63]
def rgC : Option (List D) → En → Out En (List D)
  | some [.int n], e => if in62 n = true then .ok (rangeD 0 n) e else .bad
  | _, _ => .bad
theorem kv_irg1 (os : List Op) (e : En) : kRg1 os e = rgC (resAll os e) e := by
  show (match resAll os e with
    | some [.int n] => if -(2 ^ 62) ≤ n ∧ n < 2 ^ 62 then Out.ok (rangeD 0 n) e else .bad
    | _ => .bad) = _
  split
  · rename_i n h
    rw [h]
    by_cases hn : in62 n = true
    · rw [if_pos ((in62_iff n).mp hn)]; exact (if_pos hn).symm
    · rw [if_neg fun z => hn ((in62_iff n).mpr z)]; exact (if_neg hn).symm
  · rename_i h
    unfold rgC
    split
    · rename_i n h1; exact absurd h1 (h n)
    · rfl
theorem rgC_i (n : Int) (e : En) : rgC (some [.int n]) e = if in62 n = true then .ok (rangeD 0 n) e else .bad := nr rfl
def kRg2 : List Op → En → Out En (List D) := fun os e => match resAll os e with
  | some [.int m, .int n] => if (-(2 ^ 62) ≤ m ∧ m < 2 ^ 62) ∧ -(2 ^ 62) ≤ n ∧ n < 2 ^ 62 then .ok (rangeD m n) e else .bad
  | _ => .bad
theorem ev_irg2 (ga : Ax) (e : En) : iRg2 ga e = (ga e).bind kRg2 := nr rfl
def rgC2 : Option (List D) → En → Out En (List D)
  | some [.int m, .int n], e => if (in62 m && in62 n) = true then .ok (rangeD m n) e else .bad
  | _, _ => .bad
theorem kv_irg2 (os : List Op) (e : En) : kRg2 os e = rgC2 (resAll os e) e := by
  show (match resAll os e with
    | some [.int m, .int n] => if (-(2 ^ 62) ≤ m ∧ m < 2 ^ 62) ∧ -(2 ^ 62) ≤ n ∧ n < 2 ^ 62 then Out.ok (rangeD m n) e else .bad
    | _ => .bad) = _
  split
  · rename_i m n h
    rw [h]
    have key : (in62 m && in62 n) = true ↔ (-(2 ^ 62) ≤ m ∧ m < 2 ^ 62) ∧ -(2 ^ 62) ≤ n ∧ n < 2 ^ 62 := by rw [Bool.and_eq_true, in62_iff, in62_iff]
    by_cases hn : (in62 m && in62 n) = true
    · rw [if_pos (key.mp hn)]; exact (if_pos hn).symm
    · rw [if_neg fun z => hn (key.mpr z)]; exact (if_neg hn).symm
  · rename_i h
    unfold rgC2
    split
    · rename_i m n h1; exact absurd h1 (h m n)
    · rfl
theorem rgC2_i (m n : Int) (e : En) : rgC2 (some [.int m, .int n]) e = if (in62 m && in62 n) = true then .ok (rangeD m n) e else .bad := nr rfl
theorem pop_l (xs : List D) (i : Int) : kPopAt (.list xs) [.int i] = if in63 i = true then (seqIndex? i xs.length).bind fun k => (xs[k]?).map fun y => (y, .list (xs.eraseIdx k)) else none := by
  show (if -(2 ^ 63) ≤ i ∧ i < 2 ^ 63 then _ else _) = _
  by_cases hn : in63 i = true
  · rw [if_pos ((in63_iff i).mp hn), if_pos hn]
  · rw [if_neg fun z => hn ((in63_iff i).mpr z), if_neg hn]
/-- n times -/
def timesOk (n : Nat) (j : Int) : Bool := in63 j && decide (n * j.toNat ≤ sizeLine)
theorem mul_l (xs : List D) (j : Int) : dMul (.list xs) (.int j) = if timesOk xs.length j = true then some (.new (.list (List.replicate j.toNat xs).flatten)) else none := by
  show (if -(2 ^ 63) ≤ j ∧ j < 2 ^ 63 ∧ xs.length * j.toNat ≤ sizeLine then _ else _) = _
  have key : timesOk xs.length j = true ↔ -(2 ^ 63) ≤ j ∧ j < 2 ^ 63 ∧ xs.length * j.toNat ≤ sizeLine := by
    unfold timesOk
    rw [Bool.and_eq_true, in63_iff, decide_eq_true_eq, and_assoc]
  by_cases hn : timesOk xs.length j = true
  · rw [if_pos (key.mp hn), if_pos hn]
  · rw [if_neg fun z => hn (key.mpr z), if_neg hn]
def kEnum : List Op → En → Out En (List D) := fun os e => match frzAll os e with
  | some ([.list ds], e2) => .ok (enumD ds) e2
  | _ => .bad
theorem ev_ienum (ga : Ax) (e : En) : iEnumM ga e = (ga e).bind kEnum := nr rfl
theorem kv_ienum (os : List Op) (e : En) : kEnum os e = (match frzAll os e with
  | some ([.list ds], e2) => .ok (enumD ds) e2
  | _ => .bad) := nr rfl
def kZip : List Op → En → Out En (List D) := fun os e => match frzAll os e with
  | some ([.list xs, .list ys], e2) => .ok (zipD xs ys) e2
  | _ => .bad
theorem ev_izip (ga : Ax) (e : En) : iZipM ga e = (ga e).bind kZip := nr rfl
theorem kv_izip (os : List Op) (e : En) : kZip os e = (match frzAll os e with
  | some ([.list xs, .list ys], e2) => .ok (zipD xs ys) e2
  | _ => .bad) := nr rfl
theorem g_idx (i : Nat) (fi : Ex) (d : D) (e : En) : gIdx i fi d e = (match getM (e.getD i .no) with
  | some _ => (match fi e with
    | .ok oi e2 => (match T3.res oi e2 with
      | some (.int k) => (match getM (e2.getD i .no) with
        | some (.list xs) => (match ixN xs.length k with
          | some j => some (e2.set i (setM (e2.getD i .no) (.list (xs.set j d))))
          | none => none)
        | _ => none)
      | _ => none)
    | _ => none)
  | none => none) := nr rfl
theorem ev_dict0 (e : En) : eDict0 e = .ok (.new (.dict [])) e := nr rfl
theorem own_n (ys : List D) (e : En) : ownList (.new (.list ys)) e = some ys := nr rfl
end T3
namespace T3
open PySem PySem.Spec PyProof.Rows L2
theorem nodup_len : ∀ {n : Nat} {l : List Nat}, l.Nodup → (∀ x ∈ l, x < n) → l.length ≤ n
  | 0, l, _, h => by
    cases l with
    | nil => exact Nat.le_refl 0
    | cons x l => exact absurd (h x List.mem_cons_self) (Nat.not_lt_zero x)
  | n + 1, l, nd, h => by
    by_cases hm : n ∈ l
    · have := nodup_len (n := n) (nd.erase n) (fun x hx => by
        have := (nd.mem_erase_iff).mp hx
        have := h x this.2
        omega)
      rw [List.length_erase_of_mem hm] at this
      omega
    · have := nodup_len (n := n) nd (fun x hx => by
        have := h x hx
        have : x ≠ n := fun z => hm (z ▸ hx)
        omega)
      omega
theorem nodup_all {n : Nat} {l : List Nat} (nd : l.Nodup) (h : ∀ x ∈ l, x < n) (hl : l.length = n) {k : Nat} (hk : k < n) : k ∈ l := by
  refine Classical.byContradiction fun hm => ?_
  have : (k :: l).length ≤ n := nodup_len (List.nodup_cons.mpr ⟨hm, nd⟩) fun x hx => by
    rcases List.mem_cons.mp hx with e | hx
    · omega
    · exact h x hx
  rw [List.length_cons] at this
  omega
theorem eqvAll_ints : ∀ (xs ys : List Int), PyData.eqvAll (xs.map PyData.int) (ys.map PyData.int) = decide (xs = ys)
  | [], [] => by simp [PyData.eqvAll]
  | [], _ :: _ => by simp [PyData.eqvAll]
  | _ :: _, [] => by simp [PyData.eqvAll]
  | x :: xs, y :: ys => by
    simp only [List.map_cons, PyData.eqvAll, eqvAll_ints xs ys, PyData.eqv, List.cons.injEq]
    rw [Bool.eq_iff_iff]
    simp
theorem eqv_ints (xs ys : List Int) : PyData.eqv (.list (xs.map PyData.int)) (.list (ys.map PyData.int)) = decide (xs = ys) := by
  simp only [PyData.eqv, eqvAll_ints]
theorem lay_ints : ∀ xs : List Int, PyData.canLayAll0 (xs.map PyData.int) = true
  | [] => by simp [PyData.canLayAll0]
  | x :: xs => by simp [PyData.canLayAll0, PyData.canLay0, lay_ints xs]
theorem dep_ints : ∀ xs : List Int, PyData.depthAll (xs.map PyData.int) = 0
  | [] => by simp [PyData.depthAll]
  | x :: xs => by simp [PyData.depthAll, PyData.depth, dep_ints xs]
theorem shaped_ints (xs : List Int) : SeqAt.shaped (.list (xs.map PyData.int)) = true := by
  unfold SeqAt.shaped
  simp [PyData.canLay0, PyData.depth, lay_ints, dep_ints]
theorem intsOf_ints : ∀ xs : List Int, intsOf (xs.map PyData.int) = some xs
  | [] => rfl
  | x :: xs => by
    show (intsOf (xs.map PyData.int)).map (x :: ·) = _
    rw [intsOf_ints xs]
    rfl
theorem boolsOf_bools : ∀ xs : List Bool, boolsOf (xs.map PyData.bool) = some xs
  | [] => rfl
  | x :: xs => by
    show (boolsOf (xs.map PyData.bool)).map (x :: ·) = _
    rw [boolsOf_bools xs]
    rfl
theorem sorted_ints (xs : List Int) : bSorted [.list (xs.map PyData.int)] = some (.new (.list ((sortI xs).map .int))) := by
  show (intsOf (xs.map PyData.int)).map _ = _
  rw [intsOf_ints]
  rfl
/-- the way of 0 under f -/
def it (f : Nat → Nat) : Nat → Nat
  | 0 => 0
  | k + 1 => f (it f k)
theorem it_add (f : Nat → Nat) (i : Nat) {a b : Nat} (h : it f a = it f b) : it f (a + i) = it f (b + i) := by
  induction i with
  | zero => exact h
  | succ i ih => exact congrArg f ih
theorem it_lt {f : Nat → Nat} {n : Nat} (hn : 0 < n) (hf : ∀ i, i < n → f i < n) : ∀ k, it f k < n
  | 0 => hn
  | k + 1 => hf _ (it_lt hn hf k)
theorem lc_all {gx : Gx} {t : Tx} {fe : Ex} {is : List Nat} {e : En} (P : D → Bool) (F : D → D) : ∀ (ds acc : List D), (∀ d ∈ ds, ∃ e2 e3, gx d e = some e2 ∧ t e2 = .ok (P d) e3 ∧ (P d = false → wipeE e3 is = e) ∧ (P d = true → ∃ o e4 e5, fe e3 = .ok o e4 ∧ frz1 o e4 = some (F d, e5) ∧ wipeE e5 is = e)) →
    acc.length + ds.length ≤ sizeLine → lcLoop gx t fe is ds acc e = .ok (acc ++ (ds.filter P).map F) e
  | [], acc, _, _ => by simp [lcLoop]
  | d :: ds, acc, h, hl => by
    obtain ⟨e2, e3, h1, h2, h3, h4⟩ := h d List.mem_cons_self
    have rest : ∀ acc', acc'.length + ds.length ≤ sizeLine → lcLoop gx t fe is ds acc' e = .ok (acc' ++ (ds.filter P).map F) e := fun acc' => lc_all P F ds acc' fun d' hd => h d' (List.mem_cons_of_mem _ hd)
    rw [List.length_cons] at hl
    unfold lcLoop
    rw [h1]
    simp only [h2, noX, Out.bind]
    cases hp : P d with
    | false =>
      rw [if_neg (by decide), h3 hp, rest acc (by omega), List.filter_cons, hp]
      simp
    | true =>
      obtain ⟨o, e4, e5, h5, h6, h7⟩ := h4 hp
      rw [if_pos rfl, h5]
      simp only [h6]
      rw [if_pos (by omega), h7, rest (acc ++ [F d]) (by rw [List.length_append]; simp; omega), List.filter_cons, hp]
      simp
theorem lc_map {gx : Gx} {fe : Ex} {is : List Nat} {e : En} (F : D → D) (ds : List D) (h : ∀ d ∈ ds, ∃ e2 o e4 e5, gx d e = some e2 ∧ fe e2 = .ok o e4 ∧ frz1 o e4 = some (F d, e5) ∧ wipeE e5 is = e) (hl : ds.length ≤ sizeLine) :
    lcLoop gx tYesM fe is ds [] e = .ok (ds.map F) e := by
  have q := lc_all (gx := gx) (t := tYesM) (fe := fe) (is := is) (e := e) (fun _ => true) F ds [] (fun d hd => by
    obtain ⟨e2, o, e4, e5, a, b, c, g⟩ := h d hd
    exact ⟨e2, e2, a, rfl, (fun z => Bool.noConfusion z), fun _ => ⟨o, e4, e5, b, c, g⟩⟩) (by simpa using hl)
  rw [q, List.nil_append, List.filter_eq_self.mpr fun _ _ => rfl]
/-- a loop without a way out -/
theorem loop_inv {g : Gx} {s : Sx} (I : Nat → En → Prop) : ∀ (ds : List D) (k : Nat) (e : En), I k e → (∀ (i : Nat) d e, ds[i]? = some d → I (k + i) e → ∃ e1, g d e = some e1 ∧ ∃ e2, (s e1 = .ok .nx e2 ∨ s e1 = .ok .ct e2) ∧ I (k + i + 1) e2) →
    ∃ e', fLoop g s ds e = .ok .nx e' ∧ I (k + ds.length) e'
  | [], k, e, h, _ => ⟨e, rfl, h⟩
  | d :: ds, k, e, h, st => by
    obtain ⟨e1, h1, e2, h2, h3⟩ := st 0 d e rfl h
    obtain ⟨e', h4, h5⟩ := loop_inv I ds (k + 1) e2 h3 (fun i d' e0 hi q => by
      have := st (i + 1) d' e0 (by simpa using hi) (by rw [show k + (i + 1) = k + 1 + i by omega]; exact q)
      rw [show k + (i + 1) = k + 1 + i by omega] at this
      exact this)
    refine ⟨e', ?_, by rw [List.length_cons, show k + (ds.length + 1) = k + 1 + ds.length by omega]; exact h5⟩
    unfold fLoop
    rw [h1]
    rcases h2 with h2 | h2 <;> simp only [h2, Out.bind] <;> exact h4
theorem all_map (g : D → Bool) (ds : List D) : bAll [.list (ds.map fun d => .bool (g d))] = some (.val (.bool (ds.all g))) := by
  have e : (ds.map fun d => PyData.bool (g d)) = (ds.map g).map PyData.bool := by rw [List.map_map]; rfl
  show (boolsOf _).map _ = _
  rw [e, boolsOf_bools]
  simp [List.all_map, Function.comp_def]
/-- in a range -/
def irD (lo hi : Int) : D → Bool
  | .int i => decide (lo ≤ i) && decide (i ≤ hi)
  | _ => false
end T3
namespace T3
open PySem PySem.Spec PyProof.Rows L2
theorem sz {n : Nat} (h : n ≤ 16777216) : n ≤ sizeLine := by rw [sizeLine_eq]; exact h
theorem mulOkL {i j : Int} (h : i.natAbs < 2 ^ 64) : mulOk i j = true := by unfold mulOk; rw [decide_eq_true h]; rfl
theorem mulOkR {i j : Int} (h : j.natAbs < 2 ^ 64) : mulOk i j = true := by unfold mulOk; rw [decide_eq_true h]; simp
theorem at0 {α : Type} (x : α) (xs : List α) : atI (x :: xs) 0 = some x := by
  unfold atI ixN
  rw [if_pos (by decide), if_pos (by simp only [List.length_cons]; omega)]
  rfl
theorem at1 {α : Type} (x y : α) (xs : List α) : atI (x :: y :: xs) 1 = some y := by
  unfold atI ixN
  rw [if_pos (by decide), if_pos (by simp only [List.length_cons]; omega)]
  rfl
theorem at2 {α : Type} (x y z : α) (xs : List α) : atI (x :: y :: z :: xs) 2 = some z := by
  unfold atI ixN
  rw [if_pos (by decide), if_pos (by simp only [List.length_cons]; omega)]
  rfl
theorem eqv_nil (ds : List D) : PyData.eqv (.list ds) (.list []) = decide (ds.length = 0) := by
  cases ds with
  | nil => simp [PyData.eqv, PyData.eqvAll]
  | cons x xs => simp [PyData.eqv, PyData.eqvAll]
theorem shaped_nil : SeqAt.shaped (.list []) = true := by decide
theorem szlt {n : Nat} (h : n < 16777216) : n < sizeLine := by rw [sizeLine_eq]; exact h
theorem perm_erase {α : Type} : ∀ {l : List α} {i : Nat} {x : α}, l[i]? = some x → (x :: l.eraseIdx i).Perm l
  | [], _, _, h => by simp at h
  | y :: l, 0, x, h => by simp at h; subst h; exact List.Perm.refl _
  | y :: l, i + 1, x, h => by
    rw [List.eraseIdx_cons_succ]
    exact (List.Perm.swap y x _).trans ((perm_erase (l := l) (by simpa using h)).cons y)
theorem map_erase {α β : Type} (f : α → β) : ∀ (l : List α) (i : Nat), (l.map f).eraseIdx i = (l.eraseIdx i).map f
  | [], _ => rfl
  | _ :: _, 0 => rfl
  | y :: l, i + 1 => by simp only [List.map_cons, List.eraseIdx_cons_succ, map_erase f l i]
structure Each (n : Nat) (w : Nat → Nat) : Prop where
  lt : ∀ k, k < n → w k < n
  inj : ∀ j k, j < n → k < n → w j = w k → j = k
  on : ∀ m, m < n → ∃ k, k < n ∧ w k = m
theorem each_of {n : Nat} {fs : List Int} (p : fs.Perm ((List.range n).map fun (i : Nat) => (i : Int))) : fs.length = n ∧ ∃ w, Each n w ∧ ∀ k, k < n → fs[k]? = some ((w k : Nat) : Int) := by
  have hl : fs.length = n := by rw [p.length_eq]; simp
  have hm : ∀ x ∈ fs, ∃ m, m < n ∧ x = ((m : Nat) : Int) := fun x hx => by
    obtain ⟨m, a, b⟩ := List.mem_map.mp (p.mem_iff.mp hx)
    exact ⟨m, List.mem_range.mp a, b.symm⟩
  have hg : ∀ k, k < n → fs[k]? = some (((fs.getD k 0).toNat : Nat) : Int) ∧ (fs.getD k 0).toNat < n := fun k hk => by
    have hk' : k < fs.length := by omega
    obtain ⟨m, a, b⟩ := hm fs[k] (List.getElem_mem hk')
    have e : fs.getD k 0 = fs[k] := by rw [List.getD_eq_getElem?_getD, List.getElem?_eq_getElem hk']; rfl
    rw [e, List.getElem?_eq_getElem hk', b, Int.toNat_natCast]
    exact ⟨rfl, a⟩
  have nd : fs.Nodup := p.nodup_iff.mpr (by
    rw [List.Nodup, List.pairwise_map]
    exact (List.nodup_range (n := n)).imp fun h z => h (by omega))
  refine ⟨hl, fun k => (fs.getD k 0).toNat, ⟨fun k hk => (hg k hk).2, fun j k hj hk e => ?_, fun m hm' => ?_⟩, fun k hk => (hg k hk).1⟩
  · have q := List.pairwise_iff_getElem.mp nd
    have e1 := (hg j hj).1
    have e2 := (hg k hk).1
    rw [List.getElem?_eq_getElem (by omega)] at e1 e2
    have e3 : fs[j]'(by omega) = fs[k]'(by omega) := by
      rw [Option.some.inj e1, Option.some.inj e2]
      exact congrArg _ e
    refine Classical.byContradiction fun hne => ?_
    rcases Nat.lt_or_gt_of_ne hne with h | h
    · exact q j k (by omega) (by omega) h e3
    · exact q k j (by omega) (by omega) h e3.symm
  · have : ((m : Nat) : Int) ∈ fs := p.mem_iff.mpr (List.mem_map.mpr ⟨m, List.mem_range.mpr hm', rfl⟩)
    obtain ⟨k, hk⟩ := List.getElem?_of_mem this
    have hk' : k < n := by rw [← hl]; exact (List.getElem?_eq_some_iff.mp hk).1
    refine ⟨k, hk', ?_⟩
    have := (hg k hk').1
    rw [hk] at this
    have := Option.some.inj this
    show (fs.getD k 0).toNat = m
    omega
theorem ring_way {n : Nat} {w f : Nat → Nat} (hn : 0 < n) (E : Each n w) (h : ∀ k, k < n → f (w k) = w ((k + 1) % n)) : it f n = 0 ∧ ∀ j, 1 ≤ j → j < n → it f j ≠ 0 := by
  obtain ⟨p, hp, e⟩ := E.on 0 hn
  have go : ∀ j, it f j = w ((p + j) % n) := fun j => by
    induction j with
    | zero => rw [Nat.add_zero, Nat.mod_eq_of_lt hp, e]; rfl
    | succ j ih =>
      show f (it f j) = _
      rw [ih, h _ (Nat.mod_lt _ hn), Nat.mod_add_mod, Nat.add_assoc]
  refine ⟨by rw [go, Nat.add_mod_right, Nat.mod_eq_of_lt hp, e], fun j h1 h2 h3 => ?_⟩
  rw [go, ← e] at h3
  have := E.inj _ _ (Nat.mod_lt _ hn) hp h3
  rcases Nat.lt_or_ge (p + j) n with c | c
  · rw [Nat.mod_eq_of_lt c] at this; omega
  · rw [Nat.mod_eq_sub_mod c, Nat.mod_eq_of_lt (by omega)] at this; omega
theorem safe_ints : ∀ xs : List Int, safeDs (xs.map PyData.int) = true
  | [] => rfl
  | x :: xs => by simp [safeDs, safeD, safe_ints xs]
structure Good (d : D) : Prop where
  p : plainD d = true
  l : d = .dict [] ∨ PyData.canLay0 d = true
  dp : d.depth ≤ 3
  w : wtD d ≤ 50
theorem Good.shaped {ds : List D} (g : Good (.list ds)) : SeqAt.shaped (.list ds) = true := by
  rcases g.l with h | h
  · cases h
  · unfold SeqAt.shaped
    rw [h, decide_eq_true (show (PyData.list ds).depth ≤ 64 by have := g.dp; omega)]
    rfl
theorem plainDs_app : ∀ (xs ys : List D), plainDs (xs ++ ys) = (plainDs xs && plainDs ys)
  | [], ys => by simp [plainDs]
  | x :: xs, ys => by simp [plainDs, plainDs_app xs ys, Bool.and_assoc]
theorem dep_app : ∀ (xs ys : List D), PyData.depthAll (xs ++ ys) = max (PyData.depthAll xs) (PyData.depthAll ys)
  | [], ys => by simp [PyData.depthAll]
  | x :: xs, ys => by simp [PyData.depthAll, dep_app xs ys, Nat.max_assoc]
theorem wt_app : ∀ (xs ys : List D), wtDs (xs ++ ys) = wtDs xs + wtDs ys
  | [], ys => by simp [wtDs]
  | x :: xs, ys => by simp [wtDs, wt_app xs ys, Nat.add_assoc]
theorem cut_to {α : Type} (ds : List α) (k : Nat) : T3.cutD ds none (some (k : Int)) = ds.take k := by
  unfold T3.cutD
  rw [HT.sIx_nat, HT.sIx_none]
  simp [Nat.min_comm]
theorem cut_from {α : Type} (ds : List α) (k : Nat) : T3.cutD ds (some (k : Int)) none = ds.drop k := by
  unfold T3.cutD
  rw [HT.sIx_nat, HT.sIx_none]
  rw [List.take_of_length_le (by rw [List.length_drop]; omega)]
  rcases Nat.le_total k ds.length with h | h
  · rw [Nat.min_eq_left h]
  · rw [Nat.min_eq_right h, List.drop_eq_nil_of_le (Nat.le_refl _), List.drop_eq_nil_of_le h]
theorem repr_bool (b : Bool) : reprOk (.bool b) = true := by cases b <;> decide
theorem eqv_str (x : Str) : PyData.eqv (.str x) (.str x) = true := by simp [PyData.eqv]
end T3
namespace T3
open PySem PySem.Spec PyProof.Rows L2
def menuOp (e : En) : Op → Option Op
  | .val d => some (.val d)
  | .new d => some (.new d)
  | .slot i => (match e.getD i .no with | .v d => some (.val d) | _ => none)
  | .raw _ => none
def eMenu (ga : Ax) (fi : Ex) : Ex := fun env => (ga env).bind fun os e1 => if os.length ≤ sizeLine then (fi e1).bind fun oi e2 => (match res oi e2 with
  | some (.int k) => (match atI os k with
    | some o => fin (menuOp e2 o) e2
    | none => .bad)
  | _ => .bad) else .bad
section
variable {K : Fg} {F A H A' H' : Hp} {σ : Sl} {env : En}
theorem hold2 {v : V} {o : Op} (S : SOk K F σ env H A) (h : OpOk K F A H σ env v o) :
    ∃ F1, Low F F1 ∧ SOk K F1 σ env H A ∧ (∀ p, F1 p ≠ F p → v = .ref p ∧ ∃ d, o = .new d) ∧ ∀ env' H' A', SOk K F1 σ env' H' A' → Grow F1 A A' → OpOk K F A' H' σ env' v o := by
  cases o with
  | val d => exact ⟨F, Low.refl F, S, fun _ n => absurd rfl n, fun _ _ _ _ g => h.same g.1⟩
  | raw w => exact ⟨F, Low.refl F, S, fun _ n => absurd rfl n, fun _ _ _ _ _ => h⟩
  | slot i => exact ⟨F, Low.refl F, S, fun _ n => absurd rfl n, fun _ _ _ _ _ => h⟩
  | new d =>
    obtain ⟨p, e, a, f, b, n⟩ := h
    obtain ⟨o, ho⟩ := b.mut
    have nm := b.notmk ho
    refine ⟨upd F p o, low_upd f nm, ⟨S.subA, fun b u e => ?_, fun i => ?_, S.apart, S.lens, S.nomk⟩, fun q hq => ?_, fun env' H' A' S' g => ?_⟩
    · by_cases hb : b = p
      · subst hb; rw [upd_same] at e; cases e; exact .inl ho
      · rw [upd_ne hb] at e; exact S.subF b u e
    · have hc := S.cell i
      have hn := n i
      generalize env.getD i .no = c at hc hn
      cases c with
      | no => exact hc
      | raw w => exact hc
      | v d' => exact hc
      | own d' =>
        obtain ⟨q, a1, a2, a3, a4⟩ := hc
        refine ⟨q, a1, a2, ?_, a4⟩
        have : q ≠ p := fun z => by subst z; exact hn d' rfl a1
        rw [upd_ne this]; exact a3
      | par d' =>
        obtain ⟨q, a1, a2, a3, a4⟩ := hc
        have : q ≠ p := fun z => by subst z; rw [f] at a3; cases a3
        exact ⟨q, a1, a2, by rw [upd_ne this]; exact a3, a4⟩
    · by_cases hb : q = p
      · subst hb; exact ⟨e, _, rfl⟩
      · exact absurd (upd_ne hb) hq
    · have h1 : A' p = none := (g.2 p (by rw [upd_same]; rfl)).trans a
      have h2 : H' p = some o := S'.subF.lst (by rw [upd_same]) nm
      refine ⟨p, e, h1, f, b.move g.1 (h2.trans ho.symm), fun j d' hj hs => ?_⟩
      obtain ⟨q, b1, b2, b3, b4⟩ := S'.ownA hj
      rw [hs] at b1; cases b1
      rw [upd_same] at b3; cases b3
theorem OpOk.upF {F1 : Hp} {v : V} {o : Op} (h : OpOk K F A H σ env v o) (k : ∀ p d, o = .new d → v = .ref p → F1 p = F p) : OpOk K F1 A H σ env v o := by
  cases o with
  | new d => obtain ⟨p, a, b, c, d⟩ := h; exact ⟨p, a, b, (k p _ rfl a).trans c, d⟩
  | val d => exact h
  | slot i => exact h
  | raw w => exact h
theorem OpsOk.upF {F1 : Hp} {os : List Op} : ∀ {vs : List V}, OpsOk K F A H σ env os vs → (∀ (j : Nat) p d, os[j]? = some (.new d) → vs[j]? = some (.ref p) → F1 p = F p) → OpsOk K F1 A H σ env os vs := by
  induction os with
  | nil => exact fun h _ => h
  | cons o os ih =>
    intro vs h k
    obtain ⟨v, r, rfl, h1, h2, h3⟩ := h
    exact ⟨v, r, rfl, h1.upF fun p d a b => k 0 p d (by rw [a]; rfl) (by rw [b]; rfl), ih h2 fun j p d a b => k (j + 1) p d (by simpa using a) (by simpa using b), h3⟩
theorem holdAll {os : List Op} : ∀ {F : Hp} {vs : List V}, SOk K F σ env H A → OpsOk K F A H σ env os vs →
    ∃ F1, Low F F1 ∧ SOk K F1 σ env H A ∧ ∀ env' H' A', SOk K F1 σ env' H' A' → Grow F1 A A' → OpsOk K F A' H' σ env' os vs := by
  induction os with
  | nil => intro F vs S h; exact ⟨F, Low.refl F, S, fun _ _ _ _ _ => h⟩
  | cons o os ih =>
    intro F vs S h
    obtain ⟨v, r, rfl, h1, h2, h3⟩ := h
    obtain ⟨F1, low1, S1, n1, keep1⟩ := hold2 S h1
    have h2' : OpsOk K F1 A H σ env os r := h2.upF fun j p d a b => Classical.byContradiction fun ne => by
      obtain ⟨e, d0, e0⟩ := n1 p ne
      exact h3 d0 e0 j d a (by rw [b, e])
    obtain ⟨F2, low2, S2, keep2⟩ := ih S1 h2'
    refine ⟨F2, ⟨low1.same.trans low2.same, fun b i e => low1.back b i (low2.back b i e)⟩, S2, fun env' H' A' S' g => ?_⟩
    exact ⟨v, r, rfl, keep1 env' H' A' (S'.weakF low2) (g.mono low2), (keep2 env' H' A' S' g).weakF low1, h3⟩
/-- a new list is kept as it is -/
theorem SOk.keepNew (S : SOk K F σ env H A) {p : Addr} {o : HO} (n : H p = none) (hm : ∀ i, o ≠ mkP i) : SOk K (upd F p o) σ env (upd H p o) A ∧ Low F (upd F p o) := by
  have fp := S.subF.free n
  refine ⟨⟨fun c u q => ?_, fun b u e => ?_, fun i => ?_, S.apart, S.lens, fun b i z => S.nomk b i (mk_upd hm b i z)⟩, low_upd fp hm⟩
  · rw [upd_ne (ne_of_none (S.subA c u q) n)]; exact S.subA c u q
  · by_cases hb : b = p
    · subst hb; rw [upd_same] at e ⊢; exact .inl e
    · rw [upd_ne hb] at e ⊢; exact S.subF b u e
  · have hc := S.cell i
    generalize env.getD i .no = c at hc
    cases c with
    | no => exact hc
    | raw w => exact hc
    | v d' => exact hc
    | own d' =>
      obtain ⟨q, a1, a2, a3, a4⟩ := hc
      obtain ⟨u, hu⟩ := a4.mut
      have : q ≠ p := ne_of_none hu n
      exact ⟨q, a1, a2, by rw [upd_ne this]; exact a3, a4.move (Same.refl A) (upd_ne this)⟩
    | par d' =>
      obtain ⟨q, a1, a2, a3, a4⟩ := hc
      obtain ⟨u, hu⟩ := a4.mut
      have : q ≠ p := ne_of_none hu n
      exact ⟨q, a1, a2, by rw [upd_ne this]; exact a3, a4.move (Same.refl A) (upd_ne this)⟩
end
section
variable {K : Fg} {mg : Str → Option Value} {E : Sl → XK} {fa : Ax} {fb : Ex} {σ : Sl} {H : Hp}
theorem atI_get {α : Type} {xs : List α} {k : Int} {x : α} (h : atI xs k = some x) : ∃ j, ixN xs.length k = some j ∧ xs[j]? = some x := by
  unfold atI at h
  cases e : ixN xs.length k with
  | none => rw [e] at h; cases h
  | some j => rw [e] at h; exact ⟨j, rfl, h⟩
theorem tJ_menu {Q : VK} (h : tJ K mg E (eMenu fa fb) σ H Q) : tOp (rIx K) (tLst (tJA K mg E fa)) (tJ K mg E fb) σ H Q := by
  obtain ⟨env, A, F, S, h⟩ := h
  refine ⟨env, A, F, S, ?_⟩
  unfold eMenu at h
  cases e1 : fa env with
  | bad => rw [e1] at h; exact h
  | exc n e' => rw [e1] at h; exact h
  | ok os env1 =>
    rw [e1] at h
    intro vs H1 A1 S1 g1 r1
    simp only [Out.bind] at h
    by_cases hl : os.length ≤ sizeLine
    rotate_left
    · rw [if_neg hl] at h; exact h.elim
    rw [if_pos hl] at h
    refine ⟨by rw [r1.len]; exact hl, fun p hp => ?_⟩
    obtain ⟨F1, low1, S1', keep1⟩ := holdAll S1 r1
    obtain ⟨S2, low2⟩ := S1'.keepNew (o := .lst vs) hp lst_mk
    refine ⟨env1, A1, _, S2, ?_⟩
    cases e2 : fb env1 with
    | bad => rw [e2] at h; exact h
    | exc n e' => rw [e2] at h; exact fun C H' A' hC S' g' => h C H' A' hC ((S'.weakF low2).weakF low1) (g1.trans ((g'.mono low2).mono low1))
    | ok oi env2 =>
      rw [e2] at h
      intro y H2 A2 S3 g2 r2
      simp only at h
      cases hd : res oi env2 with
      | none => rw [hd] at h; exact h.elim
      | some dk =>
        rw [hd] at h
        cases dk with
        | int k =>
          simp only at h
          cases ha : atI os k with
          | none => rw [ha] at h; exact h.elim
          | some o =>
            rw [ha] at h
            simp only at h
            have S4 := (S3.weakF low2).weakF low1
            have q1 := keep1 env2 H2 A2 (S3.weakF low2) (g2.mono low2)
            have hy : y = .int k := (r2.view S3 hd).int
            have hH : H2 p = some (.lst vs) := S3.subF.lst (by rw [upd_same]) lst_mk
            obtain ⟨j, hj, ho⟩ := atI_get ha
            have hjl : j < vs.length := by rw [q1.len]; exact (List.getElem?_eq_some_iff.mp ho).1
            have hv := List.getElem?_eq_getElem hjl
            have hat : atI vs k = some vs[j] := by
              unfold atI
              rw [q1.len, hj]
              exact hv
            have qo := q1.at ho hv
            refine .inl ⟨p, vs, k, vs[j], rfl, hy, .inl (.inl hH), hat, ?_⟩
            cases hm : menuOp env2 o with
            | none => rw [hm] at h; exact h.elim
            | some o2 =>
              rw [hm] at h
              refine h vs[j] H2 A2 S4 (g1.trans ((g2.mono low2).mono low1)) ?_
              cases o with
              | val d => cases hm; exact qo
              | new d => cases hm; exact qo
              | raw w => cases hm
              | slot i =>
                unfold menuOp at hm
                simp only at hm
                split at hm
                · rename_i d hc
                  cases hm
                  have hcell := S4.cell i
                  rw [hc] at hcell
                  obtain ⟨v, a, b⟩ := hcell
                  have q2 : σ[i]? = some (some vs[j]) := qo
                  rw [q2] at a
                  cases a
                  exact b
                · cases hm
        | _ => exact h.elim
end
section
variable {X : Cx} {E : Sl → XK} {pos p : Pos} {b : Expr} {es : List Expr} {fa : Ax} {fb : Ex}
theorem jp_menu (hs : PlainIx b) (ha : JA X E es fa) (hb : JP X E b fb) : JP X E (.Subscript (.List es p) b pos) (eMenu fa fb) :=
  impE (pe_ix ix_seq (pe_lst ha) hb hs) fun _ _ _ h => tJ_menu h
end
def kMenu (fi : Ex) : List Op → En → Out En Op := fun os e1 => if os.length ≤ sizeLine then (fi e1).bind fun oi e2 => (match res oi e2 with
  | some (.int k) => (match atI os k with
    | some o => fin (menuOp e2 o) e2
    | none => .bad)
  | _ => .bad) else .bad
def kMenu2 (os : List Op) : Op → En → Out En Op := fun oi e2 => (match res oi e2 with
  | some (.int k) => (match atI os k with
    | some o => fin (menuOp e2 o) e2
    | none => .bad)
  | _ => .bad)
def kMenu3 (os : List Op) (e2 : En) : Option D → Out En Op
  | some (.int k) => (match atI os k with
    | some o => fin (menuOp e2 o) e2
    | none => .bad)
  | _ => .bad
theorem ev_menu (ga : Ax) (fi : Ex) (e : En) : eMenu ga fi e = (ga e).bind (kMenu fi) := Eq.trans rfl (Eq.refl _)
theorem kv_menu (fi : Ex) (os : List Op) (e : En) : kMenu fi os e = if os.length ≤ sizeLine then (fi e).bind (kMenu2 os) else .bad := Eq.trans rfl (Eq.refl _)
theorem kv_menu2 (os : List Op) (oi : Op) (e : En) : kMenu2 os oi e = kMenu3 os e (res oi e) := by unfold kMenu2 kMenu3; exact Eq.trans rfl (Eq.refl _)
theorem menu_2 {a b : Op} {i : Int} {e : En} (h : 0 ≤ i) (g : i < 2) : kMenu3 [a, b] e (some (.int i)) = if i = 0 then fin (menuOp e a) e else fin (menuOp e b) e := by
  have : i = 0 ∨ i = 1 := by omega
  rcases this with rfl | rfl
  · rfl
  · rfl
theorem menu_v (e : En) (d : D) : menuOp e (.val d) = some (.val d) := Eq.trans rfl (Eq.refl _)
theorem menu_n (e : En) (d : D) : menuOp e (.new d) = some (.new d) := Eq.trans rfl (Eq.refl _)
end T3
namespace T3
open PySem PySem.Spec PyProof.Rows L2
theorem szT {n : Nat} (h : n ≤ 16777216) : (n ≤ sizeLine) = True := eq_true (sz h)
theorem szltT {n : Nat} (h : n < 16777216) : (n < sizeLine) = True := eq_true (szlt h)
theorem decT {p : Prop} [Decidable p] (h : p) : decide p = true := decide_eq_true h
theorem decF {p : Prop} [Decidable p] (h : ¬ p) : decide p = false := decide_eq_false h
theorem beqT {a b : Int} (h : a = b) : (a == b) = true := beq_iff_eq.mpr h
theorem beqF {a b : Int} (h : a ≠ b) : (a == b) = false := beq_eq_false_iff_ne.mpr h
section
variable {i j : Int} {xs ys : List Int} {ds es : List D} {n : Nat}
theorem mul_ii1 (h : i.natAbs < 2 ^ 64) : dMul (.int i) (.int j) = some (.val (.int (i * j))) := by rw [mul_i, mulOkL h]; rfl
theorem mul_ii2 (h : j.natAbs < 2 ^ 64) : dMul (.int i) (.int j) = some (.val (.int (i * j))) := by rw [mul_i, mulOkR h]; rfl
theorem log_of {m : Nat} (h : m < 2 ^ 8000) : m.log2 < 8000 := by
  by_cases h0 : m = 0
  · subst h0
    exact Nat.lt_of_le_of_lt (show Nat.log2 0 ≤ 0 by decide) (by omega)
  · exact (Nat.log2_lt h0).mpr h
/-- great numbers, but not too great ones -/
def Big (i : Int) : Prop := i.natAbs < 2 ^ 8000
theorem big_of {k : Nat} (h : i.natAbs < 2 ^ k) (hk : k ≤ 8000) : Big i := Nat.lt_of_lt_of_le h (Nat.pow_le_pow_right (by omega) hk)
theorem mul_ii3 (h : Big i) (g : Big j) : dMul (.int i) (.int j) = some (.val (.int (i * j))) := by
  have h1 := log_of h
  have h2 := log_of g
  have : mulOk i j = true := by
    unfold mulOk
    rw [decide_eq_true (show i.natAbs.log2 + j.natAbs.log2 < 1000000 by omega)]
    simp
  rw [mul_i, this]
  rfl
theorem divOk_big (h : 0 < j) (g : Big j) : divOk j = true := by
  have := log_of g
  unfold divOk
  rw [decide_eq_true (show j ≠ 0 by omega), decide_eq_true (show j.natAbs.log2 < 9000 by omega)]
  rfl
theorem div_ii2 (h : 0 < j) (g : Big j) : dDiv (.int i) (.int j) = some (.val (.int (i / j))) := by
  rw [div_i, divOk_big h g, Int.fdiv_eq_ediv_of_nonneg _ (by omega)]
  rfl
theorem div_ii1 (h : 0 < j) (g : j < 2 ^ 64) : dDiv (.int i) (.int j) = some (.val (.int (i / j))) :=
  div_ii2 h (big_of (k := 64) (by omega) (by omega))
theorem mod_ii (h : 0 < j) : dMod (.int i) (.int j) = some (.val (.int (i % j))) := by
  rw [mod_i, if_pos (by omega), Int.fmod_eq_emod_of_nonneg _ (by omega)]
theorem pow_ii (h : powOk i j = true) : dPow (.int i) (.int j) = some (.val (.int (i ^ j.toNat))) := by
  rw [pow_i, h]
  rfl
theorem in62T (h : -(2 ^ 62) ≤ i) (g : i < 2 ^ 62) : in62 i = true := (in62_iff _).mpr ⟨h, g⟩
theorem in63T (h : -(2 ^ 63) ≤ i) (g : i < 2 ^ 63) : in63 i = true := (in63_iff _).mpr ⟨h, g⟩
theorem rgOkT (h : -(2 ^ 62) ≤ i ∧ i < 2 ^ 62 ∧ -(2 ^ 62) ≤ j ∧ j < 2 ^ 62 ∧ (j - i).toNat ≤ 2 ^ 24) : rgOk i j = true := by
  unfold rgOk
  simp only [Bool.and_eq_true, decide_eq_true_eq]
  omega
theorem timesT (h : -(2 ^ 63) ≤ j) (g : j < 2 ^ 63) (k : n * j.toNat ≤ 16777216) : timesOk n j = true := by
  unfold timesOk
  rw [Bool.and_eq_true, in63_iff, decide_eq_true_eq, sizeLine_eq]
  exact ⟨⟨h, g⟩, k⟩
theorem ixNT (h : 0 ≤ i) (g : i < (n : Int)) : ixN n i = some i.toNat := by
  unfold ixN
  rw [if_pos h, if_pos (by omega)]
theorem ixNL (h : 0 < n) : ixN n (-1) = some (n - 1) := by
  unfold ixN
  rw [if_neg (by omega), if_pos (by omega)]
  exact congrArg _ (by omega)
theorem ix_li (h : 0 ≤ i) (g : i < (xs.length : Int)) : dIx (.list (xs.map .int)) (.int i) = some (.val (.int (xs.getD i.toNat 0))) := by
  rw [ix_l]
  unfold atI
  rw [ixNT (n := (xs.map PyData.int).length) h (by rw [List.length_map]; exact g)]
  show ((xs.map PyData.int)[i.toNat]?).map _ = _
  rw [List.getElem?_map, List.getD_eq_getElem?_getD, List.getElem?_eq_getElem (by omega)]
  rfl
theorem ix_ll (h : 0 < xs.length) : dIx (.list (xs.map .int)) (.int (-1)) = some (.val (.int (xs.getD (xs.length - 1) 0))) := by
  rw [ix_l]
  unfold atI
  rw [ixNL (n := (xs.map PyData.int).length) (by rw [List.length_map]; exact h), List.length_map]
  show ((xs.map PyData.int)[xs.length - 1]?).map _ = _
  rw [List.getElem?_map, List.getD_eq_getElem?_getD, List.getElem?_eq_getElem (by omega)]
  rfl
theorem ix_d {d : D} (h : 0 ≤ i) (e : ds[i.toNat]? = some d) : dIx (.list ds) (.int i) = some (.val d) := by
  rw [ix_l]
  unfold atI
  rw [ixNT (n := ds.length) h (by have := (List.getElem?_eq_some_iff.mp e).1; omega)]
  show (ds[i.toNat]?).map _ = _
  rw [e]
  rfl
theorem ix_0 {d : D} : dIx (.list (d :: ds)) (.int 0) = some (.val d) := by rw [ix_l, at0]; rfl
theorem ix_1 {d d1 : D} : dIx (.list (d :: d1 :: ds)) (.int 1) = some (.val d1) := by rw [ix_l, at1]; rfl
theorem ix_2 {d d1 d2 : D} : dIx (.list (d :: d1 :: d2 :: ds)) (.int 2) = some (.val d2) := by rw [ix_l, at2]; rfl
theorem ix_t0 {d : D} : dIx (.tuple (d :: ds)) (.int 0) = some (.val d) := by rw [ix_t, at0]; rfl
theorem ix_t1 {d d1 : D} : dIx (.tuple (d :: d1 :: ds)) (.int 1) = some (.val d1) := by rw [ix_t, at1]; rfl
theorem ix_2i {a b : Int} (h : 0 ≤ i) (g : i < 2) : dIx (.list [.int a, .int b]) (.int i) = some (.val (.int (if i = 0 then a else b))) := by
  have : i = 0 ∨ i = 1 := by omega
  rcases this with rfl | rfl
  · rw [ix_0]; rfl
  · rw [ix_1]; rfl
theorem ix_3i {a b c : Int} (h : 0 ≤ i) (g : i < 3) : dIx (.list [.int a, .int b, .int c]) (.int i) = some (.val (.int (if i = 0 then a else if i = 1 then b else c))) := by
  have : i = 0 ∨ i = 1 ∨ i = 2 := by omega
  rcases this with rfl | rfl | rfl
  · rw [ix_0]; rfl
  · rw [ix_1]; rfl
  · rw [ix_2]; rfl
/-- equality -/
theorem shaped_int : SeqAt.shaped (.int i) = true := by unfold SeqAt.shaped; simp [PyData.canLay0, PyData.depth]
theorem eq_ii : dEq (.int i) (.int j) = some (.val (.bool (i == j))) := by
  rw [eq_d, shaped_int, shaped_int]; simp [PyData.eqv]
theorem ne_ii : dNe (.int i) (.int j) = some (.val (.bool (!(i == j)))) := by
  rw [ne_d, shaped_int, shaped_int]; simp [PyData.eqv]
theorem eq_ll : dEq (.list (xs.map .int)) (.list (ys.map .int)) = some (.val (.bool (decide (xs = ys)))) := by
  rw [eq_d, shaped_ints, shaped_ints, eqv_ints]; simp
theorem ne_ll : dNe (.list (xs.map .int)) (.list (ys.map .int)) = some (.val (.bool (!decide (xs = ys)))) := by
  rw [ne_d, shaped_ints, shaped_ints, eqv_ints]; simp
theorem eq_ln : dEq (.list (xs.map .int)) (.list []) = some (.val (.bool (decide (xs.length = 0)))) := by
  rw [eq_d, shaped_ints, shaped_nil, eqv_nil, List.length_map]; simp
theorem ne_ln : dNe (.list (xs.map .int)) (.list []) = some (.val (.bool (!decide (xs.length = 0)))) := by
  rw [ne_d, shaped_ints, shaped_nil, eqv_nil, List.length_map]; simp
theorem eq_nn : dEq (.list []) (.list []) = some (.val (.bool true)) := by
  rw [eq_d, shaped_nil, eqv_nil]; simp
theorem ne_nn : dNe (.list []) (.list []) = some (.val (.bool false)) := by
  rw [ne_d, shaped_nil, eqv_nil]; simp
theorem eq_same {d : D} (h : SeqAt.shaped d = true) (g : PyData.eqv d d = true) : dEq d d = some (.val (.bool true)) := by
  rw [eq_d, h, g]; simp
theorem shaped_str {z : Str} : isSS (.str z) (.str z) = true := by rfl
theorem eq_zz {z : Str} : dEq (.str z) (.str z) = some (.val (.bool true)) := by
  rw [eq_d, shaped_str, eqv_str]; simp
theorem ne_zz {z : Str} : dNe (.str z) (.str z) = some (.val (.bool false)) := by
  rw [ne_d, shaped_str, eqv_str]; simp
mutual
theorem eqv_refl : ∀ d : D, (∀ es, d ≠ .dict es) → PyData.canLay0 d = true → PyData.eqv d d = true
  | .none, _, _ => by simp [PyData.eqv]
  | .bool _, _, _ => by simp [PyData.eqv]
  | .int _, _, _ => by simp [PyData.eqv]
  | .str _, _, _ => by simp [PyData.eqv]
  | .list ds, _, h => by
    simp only [PyData.canLay0] at h
    simp only [PyData.eqv]
    exact eqv_refls ds h
  | .tuple ds, _, h => by
    simp only [PyData.canLay0] at h
    simp only [PyData.eqv]
    exact eqv_refls ds h
  | .dict es, h, _ => absurd rfl (h es)
theorem eqv_refls : ∀ ds : List D, PyData.canLayAll0 ds = true → PyData.eqvAll ds ds = true
  | [], _ => by simp [PyData.eqvAll]
  | d :: ds, h => by
    simp only [PyData.canLayAll0, Bool.and_eq_true] at h
    simp only [PyData.eqvAll, Bool.and_eq_true]
    refine ⟨eqv_refl d (fun es z => ?_) h.1, eqv_refls ds h.2⟩
    subst z
    simp [PyData.canLay0] at h
end
end
theorem safeC_l {ds : List D} : safeC (.list ds) = safeDs ds := rfl
theorem safeC_d {ds : List (D × D)} : safeC (.dict ds) = false := rfl
theorem modN (k n : Nat) : ((k : Int) + 1) % (n : Int) = (((k + 1) % n : Nat) : Int) := by rw [Int.natCast_emod, Int.natCast_add]; rfl
theorem flt_none {α : Type} (xs : List α) : xs.filter (fun _ => false) = [] := by simp
section
variable {i j : Int} {xs ys : List Int} {n : Nat} {v : Int}
theorem map_snoc : xs.map PyData.int ++ [PyData.int v] = (xs ++ [v]).map PyData.int := by rw [List.map_append]; rfl
theorem map_app : xs.map PyData.int ++ ys.map PyData.int = (xs ++ ys).map PyData.int := List.map_append.symm
theorem map_tak : (xs.map PyData.int).take n = (xs.take n).map PyData.int := List.map_take.symm
theorem map_drp : (xs.map PyData.int).drop n = (xs.drop n).map PyData.int := List.map_drop.symm
theorem map_rev : (xs.map PyData.int).reverse = xs.reverse.map PyData.int := List.map_reverse.symm
theorem map_st : (xs.map PyData.int).set n (.int v) = (xs.set n v).map PyData.int := List.map_set.symm
theorem map_ers : (xs.map PyData.int).eraseIdx n = (xs.eraseIdx n).map PyData.int := map_erase _ _ _
theorem map_repl : List.replicate n (PyData.int v) = (List.replicate n v).map PyData.int := List.map_replicate.symm
theorem repl_one {α : Type} {x : α} : (List.replicate n [x]).flatten = List.replicate n x := by
  induction n with
  | zero => rfl
  | succ n ih => simp [List.replicate_succ, ih]
def rgI (a b : Int) : List Int := (List.range (b - a).toNat).map fun (k : Nat) => a + (k : Int)
theorem rangeD_rg : rangeD i j = (rgI i j).map PyData.int := by unfold rangeD rgI; rw [List.map_map]; rfl
theorem rgI_len : (rgI i j).length = (j - i).toNat := by simp [rgI]
theorem rgI_get {k : Nat} (h : (rgI i j)[k]? = some v) : k < (j - i).toNat ∧ v = i + (k : Int) := by
  have hk : k < (j - i).toNat := by rw [← rgI_len]; exact (List.getElem?_eq_some_iff.mp h).1
  unfold rgI at h
  rw [List.getElem?_map, List.getElem?_range hk] at h
  exact ⟨hk, (Option.some.inj h).symm⟩
theorem rgI_get0 {k : Nat} (h : (rgI 0 j)[k]? = some v) : k < j.toNat ∧ v = (k : Int) := by
  obtain ⟨a, b⟩ := rgI_get h
  exact ⟨by omega, by omega⟩
theorem rgI_mem : v ∈ rgI i j ↔ i ≤ v ∧ v < j := by
  unfold rgI
  rw [List.mem_map]
  constructor
  · rintro ⟨k, hk, rfl⟩
    have := List.mem_range.mp hk
    omega
  · intro h
    exact ⟨(v - i).toNat, List.mem_range.mpr (by omega), by omega⟩
theorem rgI_nat (n : Nat) : rgI 0 n = (List.range n).map fun (k : Nat) => (k : Int) := by
  unfold rgI; simp
theorem pop_li (h : 0 ≤ i) (g : i < (xs.length : Int)) (l : xs.length < 2 ^ 60) : kPopAt (.list (xs.map .int)) [.int i] = some (.int (xs.getD i.toNat 0), .list ((xs.eraseIdx i.toNat).map .int)) := by
  rw [pop_l, (in63_iff i).mpr (by omega), if_pos rfl, List.length_map]
  have : seqIndex? i xs.length = some i.toNat := by
    unfold seqIndex?
    simp only [if_neg (show ¬ i < 0 by omega), decide_eq_true h, decide_eq_true g, Bool.and_self, if_true]
  rw [this]
  show ((xs.map PyData.int)[i.toNat]?).map _ = _
  rw [List.getElem?_map, List.getD_eq_getElem?_getD, List.getElem?_eq_getElem (by omega), map_ers]
  rfl
theorem cut_ti {α : Type} {ds : List α} (h : 0 ≤ i) : cutD ds none (some i) = ds.take i.toNat := by
  have := cut_to ds i.toNat
  rwa [show ((i.toNat : Nat) : Int) = i by omega] at this
theorem cut_fi {α : Type} {ds : List α} (h : 0 ≤ i) : cutD ds (some i) none = ds.drop i.toNat := by
  have := cut_from ds i.toNat
  rwa [show ((i.toNat : Nat) : Int) = i by omega] at this
theorem gd_mem (h : 0 ≤ i) (g : i < (xs.length : Int)) : xs.getD i.toNat 0 ∈ xs := by
  rw [List.getD_eq_getElem?_getD, List.getElem?_eq_getElem (by omega)]
  exact List.getElem_mem _
theorem sorted_li : bSorted [.list (xs.map PyData.int)] = some (.new (.list ((sortI xs).map .int))) := sorted_ints xs
theorem lst_li : bList [.list (xs.map PyData.int)] = some (.new (.list (xs.map .int))) := rfl
end
/-- over ints -/
theorem for_ints {g : Gx} {s : Sx} (I : Nat → En → Prop) (xs : List Int) (e : En) (h : I 0 e)
    (st : ∀ (i : Nat) x e, xs[i]? = some x → I i e → ∃ e1, g (.int x) e = some e1 ∧ ∃ e2, (s e1 = .ok .nx e2 ∨ s e1 = .ok .ct e2) ∧ I (i + 1) e2) :
    ∃ e', fLoop g s (xs.map .int) e = .ok .nx e' ∧ I xs.length e' := by
  obtain ⟨e', a, b⟩ := loop_inv (g := g) (s := s) I (xs.map .int) 0 e h (fun i d e hd hI => by
    rw [List.getElem?_map] at hd
    obtain ⟨x, hx, rfl⟩ := Option.map_eq_some_iff.mp hd
    rw [Nat.zero_add] at hI ⊢
    exact st i x e hx hI)
  rw [List.length_map, Nat.zero_add] at b
  exact ⟨e', a, b⟩
theorem lc_inv {gx : Gx} {t : Tx} {fe : Ex} {is : List Nat} (I : Nat → List D → En → Prop) : ∀ (ds : List D) (k : Nat) (acc : List D) (e : En), I k acc e →
    (∀ (i : Nat) d acc e, ds[i]? = some d → I (k + i) acc e → ∃ e2, gx d e = some e2 ∧
      ((∃ e3, t e2 = .ok false e3 ∧ I (k + i + 1) acc (wipeE e3 is)) ∨
       ∃ e3 o e4 y e5, t e2 = .ok true e3 ∧ fe e3 = .ok o e4 ∧ frz1 o e4 = some (y, e5) ∧ acc.length < sizeLine ∧ I (k + i + 1) (acc ++ [y]) (wipeE e5 is))) →
    ∃ acc' e', lcLoop gx t fe is ds acc e = .ok acc' e' ∧ I (k + ds.length) acc' e'
  | [], k, acc, e, h, _ => ⟨acc, e, rfl, h⟩
  | d :: ds, k, acc, e, h, st => by
    have rest : ∀ acc e, I (k + 1) acc e → ∃ acc' e', lcLoop gx t fe is ds acc e = .ok acc' e' ∧ I (k + 1 + ds.length) acc' e' := fun acc e q =>
      lc_inv I ds (k + 1) acc e q (fun i d' acc e hi q => by
        have := st (i + 1) d' acc e (by simpa using hi) (by rw [show k + (i + 1) = k + 1 + i by omega]; exact q)
        rw [show k + (i + 1) = k + 1 + i by omega] at this
        exact this)
    obtain ⟨e2, h1, h2⟩ := st 0 d acc e rfl h
    rw [List.length_cons, show k + (ds.length + 1) = k + 1 + ds.length by omega]
    unfold lcLoop
    rw [h1]
    rcases h2 with ⟨e3, h2, h3⟩ | ⟨e3, o, e4, y, e5, h2, h3, h4, h5, h6⟩
    · simp only [h2, noX, Out.bind, if_neg (show ¬ (false = true) by decide)]
      exact rest _ _ h3
    · simp only [h2, noX, Out.bind, if_true, h3, h4, if_pos h5]
      exact rest _ _ h6
/-- a comprehension over ints without a test -/
theorem lc_ints {gx : Gx} {fe : Ex} {is : List Nat} (I : Nat → List D → En → Prop) (xs : List Int) (e : En) (h : I 0 [] e) (hl : xs.length ≤ 16777216)
    (st : ∀ (i : Nat) x acc e, xs[i]? = some x → acc.length = i → I i acc e → ∃ e2 o e4 y e5, gx (.int x) e = some e2 ∧ fe e2 = .ok o e4 ∧ frz1 o e4 = some (y, e5) ∧ I (i + 1) (acc ++ [y]) (wipeE e5 is)) :
    ∃ acc e', lcLoop gx tYesM fe is (xs.map .int) [] e = .ok acc e' ∧ acc.length = xs.length ∧ I xs.length acc e' := by
  obtain ⟨acc, e', a, b, c⟩ := lc_inv (gx := gx) (t := tYesM) (fe := fe) (is := is) (fun k acc e => acc.length = k ∧ I k acc e) (xs.map .int) 0 [] e ⟨rfl, h⟩ (fun i d acc e hd hI => by
    rw [List.getElem?_map] at hd
    obtain ⟨x, hx, rfl⟩ := Option.map_eq_some_iff.mp hd
    rw [Nat.zero_add] at hI ⊢
    obtain ⟨e2, o, e4, y, e5, h1, h2, h3, h4⟩ := st i x acc e hx hI.1 hI.2
    have hi := (List.getElem?_eq_some_iff.mp hx).1
    exact ⟨e2, h1, .inr ⟨e2, o, e4, y, e5, rfl, h2, h3, szlt (by have := hI.1; omega), by rw [List.length_append, hI.1]; rfl, h4⟩⟩)
  rw [List.length_map, Nat.zero_add] at b c
  exact ⟨acc, e', a, b, c⟩
/-- .. with a test -/
theorem lc_flt {gx : Gx} {t : Tx} {fe : Ex} {is : List Nat} {e : En} (P : Int → Bool) (F : Int → D) (xs : List Int) (hl : xs.length ≤ 16777216)
    (st : ∀ x ∈ xs, ∃ e2 e3, gx (.int x) e = some e2 ∧ t e2 = .ok (P x) e3 ∧ (P x = false → wipeE e3 is = e) ∧ (P x = true → ∃ o e4 e5, fe e3 = .ok o e4 ∧ frz1 o e4 = some (F x, e5) ∧ wipeE e5 is = e)) :
    lcLoop gx t fe is (xs.map .int) [] e = .ok ((xs.filter P).map F) e := by
  have q := lc_all (gx := gx) (t := t) (fe := fe) (is := is) (e := e) (fun d => match d with | .int x => P x | _ => false) (fun d => match d with | .int x => F x | d => d) (xs.map .int) [] (fun d hd => by
    obtain ⟨x, hx, rfl⟩ := List.mem_map.mp hd
    exact st x hx) (sz (by rw [List.length_map, List.length_nil]; omega))
  rw [q, List.nil_append, List.filter_map, List.map_map]
  rfl
/-- a while loop by a number that falls; it may return -/
theorem while_inv {t : Tx} {s : Sx} (I : En → Prop) (μ : En → Nat) (Q : En → Prop) (R : Op → En → Prop)
    (st : ∀ e, I e → (∃ e1, t e = .ok false e1 ∧ Q e1) ∨ ∃ e1, t e = .ok true e1 ∧
      ((∃ e2, (s e1 = .ok .nx e2 ∨ s e1 = .ok .ct e2) ∧ I e2 ∧ μ e2 < μ e) ∨ (∃ e2, s e1 = .ok .bk e2 ∧ Q e2) ∨ ∃ o e2, s e1 = .ok (.rt o) e2 ∧ R o e2)) :
    ∀ (fuel : Nat) (e : En), I e → μ e < fuel → (∃ e', wLoop t s fuel e = .ok .nx e' ∧ Q e') ∨ ∃ o e', wLoop t s fuel e = .ok (.rt o) e' ∧ R o e'
  | 0, _, _, h => absurd h (Nat.not_lt_zero _)
  | fuel + 1, e, hI, hμ => by
    have e0 := while_succ t s e fuel
    rw [e0]
    rcases st e hI with ⟨e1, h1, h2⟩ | ⟨e1, h1, h2⟩
    · refine .inl ⟨e1, ?_, h2⟩
      rw [h1, bind_ok, kv_wh, if_neg (by decide)]
    · rw [h1, bind_ok, kv_wh, if_pos rfl]
      rcases h2 with ⟨e2, h2, h3, h4⟩ | ⟨e2, h2, h3⟩ | ⟨o, e2, h2, h3⟩
      · rcases while_inv I μ Q R st fuel e2 h3 (by omega) with ⟨e', a, b⟩ | ⟨o, e', a, b⟩
        · refine .inl ⟨e', ?_, b⟩
          rcases h2 with h2 | h2 <;> rw [h2, bind_ok]
          · rw [kv_wh_nx]; exact a
          · rw [kv_wh_ct]; exact a
        · refine .inr ⟨o, e', ?_, b⟩
          rcases h2 with h2 | h2 <;> rw [h2, bind_ok]
          · rw [kv_wh_nx]; exact a
          · rw [kv_wh_ct]; exact a
      · refine .inl ⟨e2, ?_, h3⟩
        rw [h2, bind_ok, kv_wh_bk]
      · refine .inr ⟨o, e2, ?_, h3⟩
        rw [h2, bind_ok, kv_wh_rt]
/-- a while loop that does not return -/
theorem while_nx {t : Tx} {s : Sx} (I : En → Prop) (μ : En → Nat) (Q : En → Prop)
    (st : ∀ e, I e → (∃ e1, t e = .ok false e1 ∧ Q e1) ∨ ∃ e1 e2, t e = .ok true e1 ∧ s e1 = .ok .nx e2 ∧ I e2 ∧ μ e2 < μ e)
    (fuel : Nat) (e : En) (h : I e) (g : μ e < fuel) : ∃ e', wLoop t s fuel e = .ok .nx e' ∧ Q e' := by
  rcases while_inv (t := t) (s := s) I μ Q (fun _ _ => False) (fun e h => by
    rcases st e h with q | ⟨e1, e2, a, b, c, d⟩
    · exact .inl q
    · exact .inr ⟨e1, a, .inl ⟨e2, .inl b, c, d⟩⟩) fuel e h g with q | ⟨_, _, _, q⟩
  · exact q
  · exact q.elim
end T3
namespace T3
open PySem PySem.Spec PyProof.Rows L2
def ev0 := And.intro @ev_c ( And.intro @ev_nil ( And.intro @ev_cons ( And.intro @kv_cons ( And.intro @kv_cons2 ( And.intro @ev_two ( And.intro @kv_two ( And.intro @kv_two2 ( And.intro @ev_one ( And.intro @kv_one ( And.intro @ev_callB ( And.intro @kv_args ( And.intro @ev_frz ( And.intro @kv_frz ( And.intro @fin_some ( And.intro @fin_map ( And.intro @ev_if ( And.intro @kv_condE ( And.intro @ev_and ( And.intro @ev_or ( And.intro @ev_not ( And.intro @kv_notE ( And.intro @ev_slice ( And.intro @kv_slice ( And.intro @kv_slice2 ( And.intro @kv_slice3 ( And.intro @ev_none ( And.intro @ev_some ( And.intro @kv_some ( And.intro @ev_rev ( And.intro @dRev_l ( And.intro @ev_chain ( And.intro @kv_chain ( And.intro @kv_chain2 ( And.intro @kv_chain3 ( And.intro @ev_read ( And.intro @kv_read ( And.intro @ev_call ( And.intro @ev_callX (@kv_call)))))))))))))))))))))))))))))))))))))))
def ev1 := And.intro @kv_callX ( And.intro @ev_lc ( And.intro @kv_lc ( And.intro @kv_lc2 ( And.intro @ev_of ( And.intro @kv_of_b ( And.intro @kv_of_s ( And.intro @ev_tnot ( And.intro @kv_not ( And.intro @ev_tand ( And.intro @ev_tor ( And.intro @kv_cond ( And.intro @ev_tF ( And.intro @ev_tT ( And.intro @ev_yes ( And.intro @ev_seq ( And.intro @kv_seq ( And.intro @kv_seq_rt ( And.intro @kv_seq_bk ( And.intro @kv_seq_ct ( And.intro @ev_sif ( And.intro @kv_condS ( And.intro @ev_next ( And.intro @ev_break ( And.intro @ev_cont ( And.intro @ev_retN ( And.intro @ev_raise ( And.intro @ev_set ( And.intro @kv_set ( And.intro @ev_drop ( And.intro @kv_drop ( And.intro @ev_ret ( And.intro @ev_par ( And.intro @kv_par ( And.intro @ev_des ( And.intro @kv_des ( And.intro @ev_store ( And.intro @kv_store ( And.intro @kv_store2 (@ev_aug)))))))))))))))))))))))))))))))))))))))
def ev2 := And.intro @kv_aug ( And.intro @ev_meth ( And.intro @kv_meth ( And.intro @ev_ext ( And.intro @kv_ext ( And.intro @ev_for ( And.intro @kv_for ( And.intro @loop_nil ( And.intro @kv_loop_nx ( And.intro @kv_loop_ct ( And.intro @kv_loop_bk ( And.intro @kv_loop_rt ( And.intro @kv_wh ( And.intro @kv_wh_nx ( And.intro @kv_wh_ct ( And.intro @kv_wh_bk ( And.intro @kv_wh_rt ( And.intro @ev_ilst ( And.intro @kv_lst ( And.intro @ev_irg1 ( And.intro @kv_irg1 ( And.intro @rgC_i ( And.intro @ev_irg2 ( And.intro @kv_irg2 ( And.intro @rgC2_i ( And.intro @ev_ienum ( And.intro @kv_ienum ( And.intro @ev_izip ( And.intro @kv_izip ( And.intro @ev_itup ( And.intro @kv_itup ( And.intro @bind_ok ( And.intro @bind_exc ( And.intro @bind_bad ( And.intro @add_i ( And.intro @sub_i ( And.intro @cmp_i ( And.intro @is_nn ( And.intro @is_bb (@is_in)))))))))))))))))))))))))))))))))))))))
def ev3 := And.intro @is_bn ( And.intro @is_ln ( And.intro @is_tn ( And.intro @isi_d ( And.intro @abs_i ( And.intro @max_i ( And.intro @min_i ( And.intro @int_i ( And.intro @int_b ( And.intro @len_l ( And.intro @len_t ( And.intro @lst_l ( And.intro @lst_t ( And.intro @tup_l ( And.intro @res_v ( And.intro @res_n ( And.intro @frz_v ( And.intro @frz_n ( And.intro @res_s ( And.intro @resC_v ( And.intro @resC_o ( And.intro @resC_p ( And.intro @frz_s ( And.intro @frzC_v ( And.intro @frzC_o ( And.intro @resAll_nil ( And.intro @resAll_cons ( And.intro @frzAll_nil ( And.intro @frzAll_cons ( And.intro @ev_s ( And.intro @sC_v ( And.intro @sC_o ( And.intro @sC_p ( And.intro @sC_r ( And.intro @getM_o ( And.intro @getM_p ( And.intro @setM_o ( And.intro @setM_p ( And.intro @ret_v (@ret_n)))))))))))))))))))))))))))))))))))))))
def ev4 := And.intro @ret_s ( And.intro @retC_o ( And.intro @retC_v ( And.intro @put_v ( And.intro @put_n ( And.intro @put_s ( And.intro @putC_v ( And.intro @putC_o ( And.intro @isPar_no ( And.intro @isPar_v ( And.intro @isPar_o ( And.intro @uns_v ( And.intro @uns_n ( And.intro @uns_s ( And.intro @unsC_v ( And.intro @unsC_o ( And.intro @unss_nil ( And.intro @unss_cons ( And.intro @puts_nil ( And.intro @puts_cons ( And.intro @g_slot ( And.intro @g_tup ( And.intro @g_all_nil ( And.intro @g_all_cons ( And.intro @g_idx ( And.intro @ev_dict0 ( And.intro @own_n ( And.intro @run_eq ( And.intro @endR_rt ( And.intro @endR_nx ( And.intro @endR_exc ( And.intro @outs_nil ( And.intro @outs_cons ( And.intro @outC_p ( And.intro @nos_v ( And.intro @nos_n ( And.intro @call_eq ( And.intro @ret_ok ( And.intro @ret_exc (@szT)))))))))))))))))))))))))))))))))))))))
def ev5 := And.intro @szltT ( And.intro @decT ( And.intro @decF ( And.intro @beqT ( And.intro @beqF ( And.intro @mul_ii1 ( And.intro @mul_ii2 ( And.intro @mul_ii3 ( And.intro @div_ii1 ( And.intro @div_ii2 ( And.intro @mod_ii ( And.intro @pow_ii ( And.intro @in62T ( And.intro @in63T ( And.intro @rgOkT ( And.intro @timesT ( And.intro @ixNT ( And.intro @ixNL ( And.intro @ix_li ( And.intro @ix_0 ( And.intro @ix_1 ( And.intro @ix_2 ( And.intro @ix_t0 ( And.intro @ix_t1 ( And.intro @ix_2i ( And.intro @ix_3i ( And.intro @eq_ii ( And.intro @ne_ii ( And.intro @eq_ll ( And.intro @ne_ll ( And.intro @eq_nn ( And.intro @ne_nn ( And.intro @eq_zz ( And.intro @ne_zz ( And.intro @rg1_i ( And.intro @rg2_i ( And.intro @app_l ( And.intro @add_l ( And.intro @mul_l (@safe_ints)))))))))))))))))))))))))))))))))))))))
def ev6 := And.intro @repr_bool ( And.intro @rangeD_rg ( And.intro @rgI_len ( And.intro @map_tak ( And.intro @map_drp ( And.intro @map_rev ( And.intro @map_st ( And.intro @map_ers ( And.intro @map_repl ( And.intro @repl_one ( And.intro @ev_menu ( And.intro @kv_menu ( And.intro @kv_menu2 ( And.intro @menu_2 ( And.intro @menu_v ( And.intro @menu_n ( And.intro @safeC_l ( And.intro @safeC_d ( And.intro @pop_li ( And.intro @cut_ti ( And.intro @cut_fi ( And.intro @sorted_li (@lst_li))))))))))))))))))))))
end T3
namespace T3
open PySem PySem.Spec PyProof.Rows L2
end T3
namespace T3
open PySem PySem.Spec PyProof.Rows L2
end T3
namespace T3
open PySem PySem.Spec PyProof.Rows L2
end T3
namespace T3
open PySem PySem.Spec PyProof.Rows L2
open PySem.W (EachIs)
theorem intsOf_eq : ∀ {ds : List D} {xs : List Int}, intsOf ds = some xs → ds = xs.map .int
  | [], xs, h => by cases h; rfl
  | d :: ds, xs, h => by
    cases d <;> first | (unfold intsOf at h; cases h; done) | skip
    unfold intsOf at h
    obtain ⟨ys, h1, rfl⟩ := Option.map_eq_some_iff.mp h
    rw [intsOf_eq h1]; rfl
theorem intsOf_map' : ∀ xs : List Int, intsOf (xs.map .int) = some xs
  | [] => rfl
  | x :: xs => by
    show (intsOf (xs.map .int)).map (x :: ·) = _
    rw [intsOf_map' xs]; rfl
end T3
namespace T3
open PySem PySem.Spec PyProof.Rows L2
end T3
namespace T3
open PySem PySem.Spec PyProof.Rows L2
end T3
namespace T3
open PySem PySem.Spec PyProof.Rows L2
end T3
namespace T3
open PySem PySem.Spec PyProof.Rows L2
end T3
namespace T3
open PySem PySem.Spec PyProof.Rows L2
def keyI : D → Option (List Int)
  | .tuple ds => intsOf ds
  | _ => none
def inlK (is : List Int) : List Key := is.map Sum.inl
theorem inlK_V (is : List Int) : (inlK is).map kV = is.map V.int := by
  unfold inlK
  rw [List.map_map]; rfl
theorem kT_inl (is : List Int) : kT (inlK is) = .tuple (is.map .int) := by
  unfold kT inlK
  rw [List.map_map]; rfl
theorem intsOf_kD : ∀ {k : List Key} {is : List Int}, intsOf (k.map kD) = some is → k = inlK is
  | [], is, h => by cases h; rfl
  | .inl i :: k, is, h => by
    have h : (intsOf (k.map kD)).map (i :: ·) = some is := h
    obtain ⟨js, e, rfl⟩ := Option.map_eq_some_iff.mp h
    rw [intsOf_kD e]; rfl
  | .inr x :: k, is, h => by cases h
theorem keyI_kT (k : List Key) (is : List Int) : keyI (kT k) = some is ↔ k = inlK is := by
  constructor
  · exact intsOf_kD
  · rintro rfl
    rw [kT_inl]
    exact intsOf_map' is
theorem keyI_eq {d : D} {is : List Int} (h : keyI d = some is) : d = .tuple (is.map .int) := by
  cases d <;> first | cases h | skip
  exact congrArg _ (intsOf_eq h)
def isMk : D × D → Bool
  | (.none, .none) => true
  | _ => false
theorem isMk_eq {m : D × D} (h : isMk m = true) : m = mkT := by
  unfold isMk at h
  split at h
  · rfl
  · cases h
/-- what stands at a key -/
def findT (es : List (D × D)) (is : List Int) : Option D := (es.find? fun p => decide (keyI p.1 = some is)).map (·.2)
/-- a key put in its place, or at the end -/
def putT (es : List (D × D)) (is : List Int) (d : D) : List (D × D) :=
  if (es.any fun p => decide (keyI p.1 = some is)) = true then es.map (fun p => if keyI p.1 = some is then (p.1, d) else p) else es ++ [(.tuple (is.map .int), d)]
section
variable {K : Fg} {A : Hp}
theorem find_rep {is : List Int} : ∀ {kvs : List (List Key × V)} {ds : List D}, Reps K A (kvs.map (·.2)) ds →
    match findT ((kvs.map fun q => kT q.1).zip ds) is with
    | some d => ∃ v, valV kvs (inlK is) = some v ∧ Rep K A v d
    | none => valV kvs (inlK is) = none
  | [], ds, h => rfl
  | q :: kvs, ds, h => by
    cases h with
    | @cons v vs d ds h1 h2 =>
      have ih := find_rep (is := is) h2
      by_cases c : q.1 = inlK is
      · have e : findT (((q :: kvs).map fun q => kT q.1).zip (d :: ds)) is = some d := by
          unfold findT
          rw [List.map_cons, List.zip_cons_cons, List.find?_cons_of_pos (by exact decide_eq_true ((keyI_kT _ _).mpr c))]
          rfl
        rw [e]
        refine ⟨q.2, ?_, h1⟩
        unfold valV
        rw [List.find?_cons_of_pos (by exact decide_eq_true c)]
        rfl
      · have e : findT (((q :: kvs).map fun q => kT q.1).zip (d :: ds)) is = findT ((kvs.map fun q => kT q.1).zip ds) is := by
          unfold findT
          rw [List.map_cons, List.zip_cons_cons, List.find?_cons_of_neg (by
            rw [decide_eq_true_eq, keyI_kT]; exact c)]
        have e2 : valV (q :: kvs) (inlK is) = valV kvs (inlK is) := by
          unfold valV
          rw [List.find?_cons_of_neg (by rw [decide_eq_true_eq]; exact c)]
        rw [e, e2]
        exact ih
theorem any_rep {is : List Int} : ∀ {kvs : List (List Key × V)} {ds : List D}, kvs.length = ds.length →
    (((kvs.map fun q => kT q.1).zip ds).any fun p => decide (keyI p.1 = some is)) = kvs.any fun kv => decide (kv.1 = inlK is)
  | [], ds, _ => rfl
  | q :: kvs, [], h => by cases h
  | q :: kvs, d :: ds, h => by
    rw [List.map_cons, List.zip_cons_cons, List.any_cons, List.any_cons, any_rep (Nat.succ.inj h)]
    congr 1
    rw [decide_eq_decide]
    exact keyI_kT _ _
theorem put_rep {is : List Int} {v : V} {d : D} (r : Rep K A v d) {kvs : List (List Key × V)} {ds : List D} (h : Reps K A (kvs.map (·.2)) ds) :
    ∃ ds', Reps K A ((putK kvs (inlK is) v).map (·.2)) ds' ∧ putT ((kvs.map fun q => kT q.1).zip ds) is d = ((putK kvs (inlK is) v).map fun q => kT q.1).zip ds' := by
  have hl : kvs.length = ds.length := by have := h.length; rwa [List.length_map] at this
  unfold putT putK
  rw [any_rep hl]
  by_cases c : (kvs.any fun kv => decide (kv.1 = inlK is)) = true
  · rw [if_pos c, if_pos c]
    clear c
    induction ds generalizing kvs with
    | nil =>
      cases kvs with
      | nil => exact ⟨[], .nil, rfl⟩
      | cons q kvs => cases hl
    | cons d0 ds ih =>
      cases kvs with
      | nil => cases hl
      | cons q kvs =>
        cases h with
        | cons h1 h2 =>
          obtain ⟨ds', a, b⟩ := ih h2 (Nat.succ.inj hl)
          by_cases c : q.1 = inlK is
          · refine ⟨d :: ds', ?_, ?_⟩
            · rw [List.map_cons, List.map_cons, if_pos c]
              exact .cons r a
            · rw [List.map_cons, List.zip_cons_cons, List.map_cons, List.map_cons, List.map_cons, if_pos ((keyI_kT _ _).mpr c), if_pos c, List.zip_cons_cons, b]
          · refine ⟨d0 :: ds', ?_, ?_⟩
            · rw [List.map_cons, List.map_cons, if_neg c]
              exact .cons h1 a
            · rw [List.map_cons, List.zip_cons_cons, List.map_cons, List.map_cons, List.map_cons, if_neg (fun z => c ((keyI_kT _ _).mp z)), if_neg c, List.zip_cons_cons, b]
  · rw [if_neg c, if_neg c]
    refine ⟨ds ++ [d], ?_, ?_⟩
    · rw [List.map_append]
      exact h.append (.cons r .nil)
    · rw [List.map_append, List.zip_append (by rw [List.length_map]; exact hl)]
      show _ = _ ++ [(kT (inlK is), d)]
      rw [kT_inl]
theorem noMk {kvs : List (Key × V)} {ds : List D} {es : List (D × D)} (h : mkT :: es = (kvs.map fun q => kD q.1).zip ds) : False := by
  cases kvs with
  | nil => cases h
  | cons q kvs =>
    cases ds with
    | nil => cases h
    | cons d ds =>
      rw [List.map_cons, List.zip_cons_cons] at h
      have e := (List.cons.inj h).1
      have e1 : (PyData.none : D) = kD q.1 := congrArg Prod.fst e
      cases hq : q.1 with
      | inl i => rw [hq] at e1; cases e1
      | inr x => rw [hq] at e1; cases e1
theorem Bod.dT {H : Hp} {p : Addr} {es : List (D × D)} (h : Bod K A H p (.dict (mkT :: es))) : ∃ kvs ds, H p = some (.dT kvs) ∧ Reps K A (kvs.map (·.2)) ds ∧ es = (kvs.map fun q => kT q.1).zip ds := by
  rcases h with ⟨kvs, ds, a, b, c⟩ | ⟨kvs, ds, a, b, c⟩
  · exact (noMk c).elim
  · exact ⟨kvs, ds, a, b, (List.cons.inj c).2⟩
theorem View.dT {H : Hp} {v : V} {es : List (D × D)} (h : View K A H v (.dict (mkT :: es))) (s : Same A H) : ∃ p kvs ds, v = .ref p ∧ H p = some (.dT kvs) ∧ Reps K A (kvs.map (·.2)) ds ∧ es = (kvs.map fun q => kT q.1).zip ds := by
  rcases h with h | ⟨p, e, n, b⟩
  · generalize hd : PyData.dict (mkT :: es) = d at h
    cases h <;> first | cases hd | skip
    · injection hd with hd
      exact (noMk hd).elim
    · rename_i a kvs ds x y
      exact ⟨a, kvs, ds, rfl, s _ _ x, y, rfl⟩
  · obtain ⟨kvs, ds, a, b, c⟩ := b.dT
    exact ⟨p, kvs, ds, e, a, b, c⟩
theorem View.key {H : Hp} {v : V} {is : List Int} (h : View K A H v (.tuple (is.map .int))) (s : Same A H) : ∃ b, v = .ref b ∧ H b = some (.tup ((inlK is).map kV)) := by
  have r := h.rep s
  cases r with
  | tup a b =>
    have := Reps.flat_ints b
    subst this
    rw [inlK_V]
    exact ⟨_, rfl, by first | exact s _ _ a | exact a⟩
end
def dInT (b : Bool) : D → D → Option Op
  | x, .dict (m :: es) => if isMk m = true then (keyI x).map fun is => .val (.bool ((findT es is).isSome == b)) else none
  | _, _ => none
def dGetT : D → D → Option Op
  | .dict (m :: es), x => if isMk m = true then (keyI x).bind fun is => (findT es is).map fun d => .val d else none
  | _, _ => none
def rDInT (b : Bool) : R2 := fun x y H Q => ∃ a o, y = .ref a ∧ DGet H a x o ∧ Q (.bl (o.isSome == b)) H
def rDGetT : R2 := fun x y H Q => ∃ a v, x = .ref a ∧ DGet H a y (some v) ∧ Q v H
theorem isSome_of {K : Fg} {A : Hp} {o : Option D} {p : Option V} (h : match o with | some d => ∃ v, p = some v ∧ Rep K A v d | none => p = none) : o.isSome = p.isSome := by
  cases o with
  | none => have h : p = none := h; rw [h]; rfl
  | some d => obtain ⟨v, e, _⟩ := h; rw [e]; rfl
theorem i_inT {K : Fg} {b : Bool} : Impl2 K (rDInT b) (dInT b) := by
  intro A H x y d1 d2 o Q s v1 v2 g q
  unfold dInT at g
  split at g
  · rename_i m es
    split at g
    · rename_i hm
      obtain ⟨is, e, rfl⟩ := Option.map_eq_some_iff.mp g
      rw [isMk_eq hm] at v2
      obtain ⟨p, kvs, ds, ep, h1, h2, h3⟩ := v2.dT s
      rw [keyI_eq e] at v1
      obtain ⟨c, ec, hc⟩ := v1.key s
      have f := isSome_of (find_rep (is := is) h2)
      rw [← h3] at f
      refine ⟨p, _, ep, by rw [ec]; exact DGet.t h1 hc, ?_⟩
      rw [← f]
      exact q.bool s
    · cases g
  · cases g
theorem i_getT {K : Fg} : Impl2 K rDGetT dGetT := by
  intro A H x y d1 d2 o Q s v1 v2 g q
  unfold dGetT at g
  split at g
  · rename_i m es
    split at g
    · rename_i hm
      obtain ⟨is, e, g⟩ := Option.bind_eq_some_iff.mp g
      obtain ⟨d, e2, rfl⟩ := Option.map_eq_some_iff.mp g
      rw [isMk_eq hm] at v1
      obtain ⟨p, kvs, ds, ep, h1, h2, h3⟩ := v1.dT s
      rw [keyI_eq e] at v2
      obtain ⟨c, ec, hc⟩ := v2.key s
      have f := find_rep (is := is) h2
      rw [← h3, e2] at f
      obtain ⟨v, ev, rv⟩ := f
      exact ⟨p, v, ep, by rw [ec, ← ev]; exact DGet.t h1 hc, q.val s rv⟩
    · cases g
  · cases g
section
variable {X : Cx} {E : Sl → XK} {pos tpos px : Pos} {a b e ei : Expr} {fa fb fe fi : Ex} {x : Str}
theorem op_ninT (hu : X.A.units + 1 < cLine) : OpR X (compareOp .NotIn) (rDInT false) := by
  intro pins s σ H x y v u Q I rx ry h
  obtain ⟨a, o, ey, g, q⟩ := h
  subst ey
  obtain rfl : u = Value.ref a := ry
  refine d_notIn hu I g rx fun s3 I3 => ⟨.bl (!o.isSome), H, I3, rfl, ?_⟩
  have e : (o.isSome == false) = !o.isSome := by cases o.isSome <;> rfl
  rw [e] at q
  exact q
theorem jt_ninT (hu : X.A.units + 65 < cLine) (ha : JP X E a fa) (hb : JP X E b fb) (hm : behindInMarks .NotIn b = false := by rfl) : JT X E (.Compare a [.NotIn] [b] pos) (tOf (eOp2 (dInT false) fa fb)) := jt_cmp (op_ninT (by omega)) i_inT hm ha hb
theorem jp_getT (hu : X.A.units + 65 < cLine) (hs : NoSl b) (ha : JP X E a fa) (hb : JP X E b fb) : JP X E (.Subscript a b pos) (eOp2 dGetT fa fb) :=
  impE (pe_dget (by omega) ha hb hs) fun _ _ _ h => tJ_op2 (r := rDGetT) i_getT h
def sStoreT (i : Nat) (fe fi : Ex) : Sx := fun env => (fe env).bind fun o e1 => match getM (e1.getD i .no) with
  | some _ => (fi e1).bind fun oi e2 => (match (res oi e2).bind keyI with
    | some is => (match frz1 o e2 with
      | some (d, e3) => (match getM (e3.getD i .no) with
        | some (.dict (m :: es)) => if isMk m = true ∧ es.length < sizeLine then .ok .nx (e3.set i (setM (e3.getD i .no) (.dict (m :: putT es is d)))) else .bad
        | _ => .bad)
      | none => .bad)
    | none => .bad)
  | none => .bad
theorem js_storeT (hu : X.A.units + 65 < cLine) (i : Nat) (h : JP X E e fe) (k : JP X E ei fi) (hN : X.N[i]? = some x := by rfl) (hv : Vis X.env.scope x := by first | exact Or.inl rfl | exact Or.inr (Or.inl rfl) | exact Or.inr (Or.inr rfl))
    (hd : (x == ("__debug__" : Str)) = false := by decide) (hcd : (x == ("__classdict__" : Str)) = false := by decide)
    (ha : ∀ v, assign (.Subscript (.Name x px) ei tpos) X.env v = (do
      let ov ← holding [v] (eval (.Name x px) X.env)
      let iv ← holding [v, ov] (eval ei X.env)
      standAt tpos
      holding [v, ov, iv] (setItem ov iv v)
      release [v, ov, iv] []) := by intro _; rfl)
    (hs : swapsWithSole [.Subscript (.Name x px) ei tpos] e pos.line X.env = pure false := by rfl) (hw : swappedStores [.Subscript (.Name x px) ei tpos] e X.env = pure none := by rfl)
    (h1 : (assignEach [.Subscript (.Name x px) ei tpos] X.env).map (·.2) = [assign (.Subscript (.Name x px) ei tpos) X.env] := by rfl) : JS X E (.Assign [.Subscript (.Name x px) ei tpos] e pos) (sStoreT i fe fi) :=
  impS (ps_asg h (pg_sub (pe_var hN hv hd hcd) k (set_dict (by omega)) ha) hs hw h1) fun Z σ H ⟨env, A, F, S, q⟩ => LS.of_ex q S fun o e1 v H1 A1 S1 g1 r1 q => by
    cases hh : getM (e1.getD i .no) with
    | none => rw [hh] at q; exact q.elim
    | some d0 =>
      rw [hh] at q
      obtain ⟨p, hs, _⟩ := S1.mutA hh
      refine ⟨.ref p, hs, ?_⟩
      obtain ⟨F1, sF, S1', _, keep⟩ := hold S1 r1
      refine ⟨e1, A1, F1, S1', ?_⟩
      simp only at q
      cases e2h : fi e1 with
      | bad => rw [e2h] at q; exact q.elim
      | exc n e2 => rw [e2h] at q; exact fun C H' A' m S' g' => q C σ H' A' m (S'.weakF sF) (g'.mono sF)
      | ok oi e2 =>
        rw [e2h] at q
        intro y H2 A2 S2 g2 r2
        have S2' := S2.weakF sF
        have q1 := keep e2 H2 A2 S2 g2
        simp only [Out.bind] at q
        cases hr : (res oi e2).bind keyI with
        | none => rw [hr] at q; exact q.elim
        | some is =>
          rw [hr] at q
          obtain ⟨dk, hr1, hr2⟩ := Option.bind_eq_some_iff.mp hr
          have vk := r2.view S2 hr1
          rw [keyI_eq hr2] at vk
          obtain ⟨c, ec, hc⟩ := vk.key S2.subA
          simp only at q
          cases hf : frz1 o e2 with
          | none => rw [hf] at q; exact q.elim
          | some w =>
            obtain ⟨d, e3⟩ := w
            rw [hf] at q
            simp only at q
            obtain ⟨A3, S3, g3, r3, _⟩ := frz1_ok S2' q1 hf
            cases h3 : getM (e3.getD i .no) with
            | none => rw [h3] at q; exact q.elim
            | some d3 =>
              rw [h3] at q
              cases d3 <;> first | exact q.elim | skip
              rename_i es
              cases es with
              | nil => exact q.elim
              | cons m es =>
                simp only at q
                split at q
                · rename_i hm
                  obtain ⟨p3, hs3, a3, bd, mu⟩ := S3.mutA h3
                  rw [hs] at hs3; cases hs3
                  rw [isMk_eq hm.1] at bd q
                  obtain ⟨kvs, ds, b1, b2, b3⟩ := bd.dT
                  obtain ⟨ds', c1, c2⟩ := put_rep (is := is) r3 b2
                  have hl : kvs.length < sizeLine := by
                    have := b2.length
                    rw [List.length_map] at this
                    have h2 := hm.2
                    rw [b3, List.length_zip, List.length_map] at h2
                    omega
                  refine ⟨p, _, rfl, by rw [ec]; exact DPut.t b1 hc hl, ?_⟩
                  rw [← b3] at c2
                  exact q σ _ A3 (mu _ _ (.inr ⟨_, ds', upd_same, c1, by rw [c2]⟩)) ((g2.mono sF).trans g3)
                · exact q.elim
end
def kStoreT (i : Nat) (fi : Ex) : Op → En → Out En Fl := fun o e1 => match getM (e1.getD i .no) with
  | some _ => (fi e1).bind fun oi e2 => (match (res oi e2).bind keyI with
    | some is => (match frz1 o e2 with
      | some (d, e3) => (match getM (e3.getD i .no) with
        | some (.dict (m :: es)) => if isMk m = true ∧ es.length < sizeLine then .ok .nx (e3.set i (setM (e3.getD i .no) (.dict (m :: putT es is d)))) else .bad
        | _ => .bad)
      | none => .bad)
    | none => .bad)
  | none => .bad
def kStoreT2 (i : Nat) (o : Op) : Op → En → Out En Fl := fun oi e2 => match (res oi e2).bind keyI with
    | some is => (match frz1 o e2 with
      | some (d, e3) => (match getM (e3.getD i .no) with
        | some (.dict (m :: es)) => if isMk m = true ∧ es.length < sizeLine then .ok .nx (e3.set i (setM (e3.getD i .no) (.dict (m :: putT es is d)))) else .bad
        | _ => .bad)
      | none => .bad)
    | none => .bad
theorem ev_dict0T (e : En) : eDict0T e = .ok (.new (.dict [mkT])) e := Eq.trans rfl (Eq.refl _)
theorem ev_storeT (i : Nat) (fa fb : Ex) (e : En) : sStoreT i fa fb e = (fa e).bind (kStoreT i fb) := Eq.trans rfl (Eq.refl _)
theorem kv_storeT (i : Nat) (fb : Ex) (o : Op) (e : En) : kStoreT i fb o e = (match getM (e.getD i .no) with
  | some _ => (fb e).bind (kStoreT2 i o)
  | none => .bad) := Eq.trans rfl (Eq.refl _)
theorem kv_storeT2 (i : Nat) (o oi : Op) (e2 : En) : kStoreT2 i o oi e2 = (match (res oi e2).bind keyI with
    | some is => (match frz1 o e2 with
      | some (d, e3) => (match getM (e3.getD i .no) with
        | some (.dict (m :: es)) => if isMk m = true ∧ es.length < sizeLine then .ok .nx (e3.set i (setM (e3.getD i .no) (.dict (m :: putT es is d)))) else .bad
        | _ => .bad)
      | none => .bad)
    | none => .bad) := Eq.trans rfl (Eq.refl _)
theorem keyI_p {a b : Int} : keyI (.tuple [.int a, .int b]) = some [a, b] := intsOf_map' [a, b]
theorem inT_p {b : Bool} {x y : Int} {es : List (D × D)} : dInT b (.tuple [.int x, .int y]) (.dict (mkT :: es)) = some (.val (.bool ((findT es [x, y]).isSome == b))) := by
  have e : dInT b (.tuple [.int x, .int y]) (.dict (mkT :: es)) = (if isMk mkT = true then (keyI (.tuple [.int x, .int y])).map (fun is => Op.val (.bool ((findT es is).isSome == b))) else none) := rfl
  rw [e, if_pos (by rfl), keyI_p]; rfl
theorem getT_p {x y : Int} {es : List (D × D)} {d : D} (h : findT es [x, y] = some d) : dGetT (.dict (mkT :: es)) (.tuple [.int x, .int y]) = some (.val d) := by
  have e : dGetT (.dict (mkT :: es)) (.tuple [.int x, .int y]) = (if isMk mkT = true then (keyI (.tuple [.int x, .int y])).bind (fun is => (findT es is).map fun d => Op.val d) else none) := rfl
  rw [e, if_pos (by rfl), keyI_p]
  show (findT es [x, y]).map _ = _
  rw [h]; rfl
end T3
namespace T3
open PySem PySem.Spec PyProof.Rows L2
end T3
namespace Pg
open PySem PySem.Spec PyProof.Rows L2 T3
/-- is_integer(value, low, high): slots 0 value, 1 low, 2 high -/
def b_is_integer : Sx := sSeq (sIf (tOrM (tNotM (tOf (eOne (dIsi "int") (eS 0)))) (tOf (eOne (dIsi "bool") (eS 0)))) (sRet (eC (.bool false))) (sNext)) (sRet (eAndM (eOrM (eOp2 dIs (eS 1) (eC .none)) (eOp2 dGe (eS 0) (eS 1))) (eOrM (eOp2 dIs (eS 2) (eC .none)) (eOp2 dLe (eS 0) (eS 2)))))
def m_is_integer : Fn := runFn 3 [] b_is_integer
/-- _law_tap(_law_cell, _law_turn_here): slots 0 _law_cell, 1 _law_turn_here, 2 _law_whole -/
def b_l_tap : Sx := sSeq (sSet 2 (eOp2 dAdd (eOp2 dMul (eC (.int 2)) (eCallB bAbs (eCons (eS 0) (eNil)))) (eCallB bInt (eCons (eOp2 dLt (eS 0) (eC (.int 0))) (eNil))))) (sRet (eFrz dList (eCons (eS 2) (eCons (eOp2 dAdd (eOp2 dAdd (eOp2 dMod (eCallB bInt (eCons (eS 2) (eNil))) (eC (.int 4294967291))) (eOp2 dMul (eC (.int 977)) (eS 1))) (eC (.int 1))) (eCons (eOp2 dAdd (eOp2 dAdd (eOp2 dMod (eCallB bInt (eCons (eS 2) (eNil))) (eC (.int 2147483587))) (eOp2 dMul (eC (.int 31)) (eS 1))) (eC (.int 2))) (eNil))))))
def m_l_tap : Fn := runFn 3 [] b_l_tap
/-- _law_draw(_law_tap_here, _law_bound): slots 0 _law_tap_here, 1 _law_bound, 2 _law_found -/
def b_l_draw : Sx := sSeq (sIf (tOf (eOp2 dGe (eOp2 dIx (eS 0) (eC (.int 0))) (eOp2 dPow (eC (.int 10)) (eC (.int 18))))) (sSeq (sSet 2 (eOp2 dMod (eCallB bInt (eCons (eOp2 dIx (eS 0) (eC (.int 0))) (eNil))) (eS 1))) (sSeq (sStore 0 (eOp2 dDiv (eOp2 dIx (eS 0) (eC (.int 0))) (eS 1)) (eC (.int 0))) (sRet (eS 2)))) (sNext)) (sSeq (sStore 0 (eOp2 dMod (eCallB bInt (eCons (eOp2 dAdd (eOp2 dMul (eOp2 dIx (eS 0) (eC (.int 1))) (eC (.int 69069))) (eC (.int 40503))) (eNil))) (eC (.int 4294967291))) (eC (.int 1))) (sSeq (sStore 0 (eOp2 dMod (eCallB bInt (eCons (eOp2 dAdd (eOp2 dMul (eOp2 dIx (eS 0) (eC (.int 2))) (eOp2 dIx (eS 0) (eC (.int 2)))) (eOp2 dIx (eS 0) (eC (.int 1)))) (eNil))) (eC (.int 2147483587))) (eC (.int 2))) (sRet (eOp2 dMod (eCallB bInt (eCons (eOp2 dAdd (eOp2 dDiv (eOp2 dIx (eS 0) (eC (.int 1))) (eC (.int 32))) (eOp2 dDiv (eOp2 dIx (eS 0) (eC (.int 2))) (eC (.int 16)))) (eNil))) (eS 1)))))
def m_l_draw : Fn := runFn 3 [0] b_l_draw
/-- _law_cells(_law_script, _law_many): slots 0 _law_script, 1 _law_many -/
def b_l_cells : Sx := sRet (eSlice (eOp2 dAdd (eS 0) (eFrz dList (eCons (eC (.int 0)) (eNil)))) (oNone) (oSome (eCallB bMax2 (eCons (eC (.int 1)) (eCons (eCallB bMin2 (eCons (eS 1) (eCons (eCallB bLen (eCons (eS 0) (eNil))) (eNil)))) (eNil))))))
def m_l_cells : Fn := runFn 2 [] b_l_cells
/-- _law_is_turn(_law_value): slots 0 _law_value, 1 _law_one, 2 _law_turn_here, 3 _law_here, 4 _law_been -/
def f_l_is_turn_1 : Sx := sIf (tOrM (tNotM (tOf (eOne (dIsi "int") (eS 1)))) (tOrM (tOf (eOne (dIsi "bool") (eS 1))) (tNotM (tOf (eChain dLe dLt (eC (.int 0)) (eS 1) (eCallB bLen (eCons (eS 0) (eNil)))))))) (sRet (eC (.bool false))) (sNext)
def f_l_is_turn_2 : Sx := sSeq (sSet 3 (eOp2 dIx (eS 0) (eS 3))) (sDrop (eMeth 4 kAppend (eCons (eS 3) (eNil))))
def b_l_is_turn : Sx := sSeq (sIf (tOrM (tNotM (tOf (eOne (dIsi "list") (eS 0)))) (tOrM (tOf (eOp2 dEq (eS 0) (eFrz dList (eNil)))) (tOf (eOp2 dGt (eCallB bLen (eCons (eS 0) (eNil))) (eC (.int 12)))))) (sRet (eC (.bool false))) (sNext)) (sSeq (sFor (iLst (eS 0)) (gSlot 1) (f_l_is_turn_1)) (sSeq (sPar [3, 4] (eCons (eC (.int 0)) (eCons (eFrz dList (eNil)) (eNil)))) (sSeq (sFor (iRg1 (eCons (eCallB bLen (eCons (eS 0) (eNil))) (eNil))) (gSlot 2) (f_l_is_turn_2)) (sRet (eOp2 dEq (eCallB bSorted (eCons (eS 4) (eNil))) (eOne dRg1 (eCallB bLen (eCons (eS 0) (eNil)))))))))
def m_l_is_turn : Fn := runFn 5 [] b_l_is_turn
/-- is_turn(value): slots 0 value, 1 here, 2 steps, 3 item -/
def x_is_turn_1 : Ex := eCall [] m_is_integer [] (eCons (eS 3) (eCons (eC (.int 0)) (eCons (eOp2 dSub (eCallB bLen (eCons (eS 0) (eNil))) (eC (.int 1))) (eNil))))
def t_is_turn_1 : Tx := tAndM (tOf (eOp2 dNe (eS 1) (eC (.int 0)))) (tOf (eOp2 dLt (eS 2) (eCallB bLen (eCons (eS 0) (eNil)))))
def w_is_turn_1 : Sx := sPar [1, 2] (eCons (eOp2 dIx (eS 0) (eS 1)) (eCons (eOp2 dAdd (eS 2) (eC (.int 1))) (eNil)))
def b_is_turn : Sx := sSeq (sIf (tOrM (tNotM (tOf (eOne (dIsi "list") (eS 0)))) (tNotM (tOf (eChain dLe dLe (eC (.int 1)) (eCallB bLen (eCons (eS 0) (eNil))) (eC (.int 12)))))) (sRet (eC (.bool false))) (sNext)) (sSeq (sIf (tNotM (tOf (eCallB bAll (eCons (eLc [3] (iLst (eS 0)) (gSlot 3) (tYesM) (x_is_turn_1)) (eNil))))) (sRet (eC (.bool false))) (sNext)) (sSeq (sPar [1, 2] (eCons (eOp2 dIx (eS 0) (eC (.int 0))) (eCons (eC (.int 1)) (eNil)))) (sSeq (wLoop (t_is_turn_1) (w_is_turn_1) 1000) (sRet (eAndM (eOp2 dEq (eS 1) (eC (.int 0))) (eOp2 dEq (eS 2) (eCallB bLen (eCons (eS 0) (eNil)))))))))
def m_is_turn : Fn := runFn 4 [] b_is_turn
/-- _law_mixed(_law_tap_here, _law_count): slots 0 _law_tap_here, 1 _law_count, 2 _law_left, 3 _law_found -/
def t_l_mixed_1 : Tx := tOf (eOp2 dNe (eS 2) (eFrz dList (eNil)))
def w_l_mixed_1 : Sx := sDrop (eMeth 3 kAppend (eCons (eMeth 2 kPopAt (eCons (eCall [0] m_l_draw [] (eCons (eS 0) (eCons (eCallB bLen (eCons (eS 2) (eNil))) (eNil)))) (eNil))) (eNil)))
def b_l_mixed : Sx := sSeq (sPar [2, 3] (eCons (eOne dRg1 (eS 1)) (eCons (eFrz dList (eNil)) (eNil)))) (sSeq (wLoop (t_l_mixed_1) (w_l_mixed_1) 1000) (sRet (eS 3)))
def m_l_mixed : Fn := runFn 4 [0] b_l_mixed
/-- _law_near(_law_tap_here, _law_turn_here): slots 0 _law_tap_here, 1 _law_turn_here, 2 _law_moved_on, 3 _law_found, 4 _law_others, 5 _law_one, 6 _law_at, 7 _law_to, 8 _law_count -/
def f_l_near_1 : Sx := sDrop (eMeth 3 kAppend (eCons (eOp2 dAdd (eOp2 dAdd (eSlice (eS 1) (oNone) (oSome (eS 6))) (eFrz dList (eCons (eS 5) (eNil)))) (eSlice (eS 1) (oSome (eOp2 dAdd (eS 6) (eC (.int 1)))) (oNone))) (eNil)))
def x_l_near_1 : Ex := eIf (tOf (eOp2 dLt (eS 5) (eC (.int 2)))) (eOp2 dEq (eS 5) (eC (.int 1))) (eS 5)
def x_l_near_2 : Ex := eOp2 dMod (eCallB bInt (eCons (eOp2 dAdd (eS 5) (eC (.int 1))) (eNil))) (eS 8)
def x_l_near_3 : Ex := eOp2 dAdd (eS 5) (eC (.int 1))
def b_l_near : Sx := sSeq (sDes (gTupM [gSlot 6, gSlot 7, gSlot 8]) (eFrz dTup (eCons (eCall [0] m_l_draw [] (eCons (eS 0) (eCons (eCallB bLen (eCons (eS 1) (eNil))) (eNil)))) (eCons (eCall [0] m_l_draw [] (eCons (eS 0) (eCons (eCallB bLen (eCons (eS 1) (eNil))) (eNil)))) (eCons (eCallB bLen (eCons (eS 1) (eNil))) (eNil)))))) (sSeq (sSet 2 (eCallB bList (eCons (eS 1) (eNil)))) (sSeq (sDes (gTupM [gIdx 2 (eS 6), gIdx 2 (eS 7)]) (eFrz dTup (eCons (eOp2 dIx (eS 1) (eS 7)) (eCons (eOp2 dIx (eS 1) (eS 6)) (eNil))))) (sSeq (sSet 3 (eFrz dList (eCons (eS 1) (eCons (eS 2) (eCons (eRev (eS 1)) (eCons (eCallB bTuple (eCons (eS 1) (eNil))) (eCons (eSlice (eS 1) (oSome (eC (.int 1))) (oNone)) (eCons (eOp2 dAdd (eS 1) (eFrz dList (eCons (eS 8) (eNil)))) (eCons (eOp2 dAdd (eS 1) (eSlice (eS 1) (oNone) (oSome (eC (.int 1))))) (eCons (eFrz dList (eCons (eS 1) (eNil))) (eCons (eOp2 dMul (eS 1) (eC (.int 2))) (eNil)))))))))))) (sSeq (sSet 4 (eFrz dList (eCons (eCall [0] m_l_draw [] (eCons (eS 0) (eCons (eS 8) (eNil)))) (eCons (eC (.int (-1))) (eCons (eS 8) (eCons (eOp2 dPow (eC (.int 10)) (eC (.int 39))) (eCons (eC (.bool true)) (eCons (eC (.bool false)) (eCons (eC .none) (eCons (eCallB bStr (eCons (eOp2 dIx (eS 1) (eS 6)) (eNil))) (eCons (eFrz dList (eCons (eOp2 dIx (eS 1) (eS 6)) (eNil))) (eCons (eOp2 dEq (eOp2 dIx (eS 1) (eS 6)) (eC (.int 1))) (eNil))))))))))))) (sSeq (sFor (iLst (eS 4)) (gSlot 5) (f_l_near_1)) (sSeq (sDrop (eMeth 3 kAppend (eCons (eLc [5] (iLst (eS 1)) (gSlot 5) (tYesM) (x_l_near_1)) (eNil)))) (sRet (eOp2 dAdd (eS 3) (eFrz dList (eCons (eLc [5] (iLst (eS 1)) (gSlot 5) (tYesM) (x_l_near_3)) (eCons (eOne dRg1 (eS 8)) (eCons (eLc [5] (iRg1 (eCons (eS 8) (eNil))) (gSlot 5) (tYesM) (x_l_near_2)) (eNil)))))))))))))
def m_l_near : Fn := runFn 9 [0] b_l_near
/-- _law_turn(_law_tap_here, _law_count): slots 0 _law_tap_here, 1 _law_count, 2 _law_k, 3 _law_way, 4 _law_found -/
def f_l_turn_1 : Sx := sStore 4 (eOp2 dIx (eS 3) (eOp2 dMod (eCallB bInt (eCons (eOp2 dAdd (eS 2) (eC (.int 1))) (eNil))) (eS 1))) (eOp2 dIx (eS 3) (eS 2))
def b_l_turn : Sx := sSeq (sPar [3, 4] (eCons (eCall [0] m_l_mixed [] (eCons (eS 0) (eCons (eS 1) (eNil)))) (eCons (eOp2 dMul (eFrz dList (eCons (eC (.int 0)) (eNil))) (eS 1)) (eNil)))) (sSeq (sFor (iRg1 (eCons (eS 1) (eNil))) (gSlot 2) (f_l_turn_1)) (sRet (eS 4)))
def m_l_turn : Fn := runFn 5 [0] b_l_turn
/-- _law_right(_law_tap_here): slots 0 _law_tap_here, 1 _law_turn_here, 2 _law_values, 3 _law_before, 4 _law_value -/
def f_l_right_1 : Sx := sIf (tOf (eOp2 dNe (eCallB bRepr (eCons (eCall [] m_is_turn [] (eCons (eS 4) (eNil))) (eNil))) (eCallB bRepr (eCons (eCall [] m_l_is_turn [] (eCons (eS 4) (eNil))) (eNil))))) (sRet (eC (.bool false))) (sNext)
def b_l_right : Sx := sSeq (sSet 1 (eCall [0] m_l_turn [] (eCons (eS 0) (eCons (eOp2 dAdd (eC (.int 1)) (eCall [0] m_l_draw [] (eCons (eS 0) (eCons (eC (.int 12)) (eNil))))) (eNil))))) (sSeq (sSet 2 (eFrz dList (eCons (eC .none) (eCons (eC (.bool true)) (eCons (eC (.int 0)) (eCons (eC (.str "")) (eCons (eC (.str "1 0")) (eCons (eFrz dTup (eNil)) (eCons (eFrz dList (eNil)) (eCons (eDict0) (eCons (eOp2 dAdd (eOp2 dRg2 (eC (.int 1)) (eC (.int 13))) (eFrz dList (eCons (eC (.int 0)) (eNil)))) (eCons (eOp2 dMul (eFrz dList (eCons (eC (.int 0)) (eNil))) (eC (.int 13))) (eCons (eFrz dList (eCons (eC (.bool false)) (eNil))) (eNil)))))))))))))) (sSeq (sSet 2 (eOp2 dAdd (eOp2 dAdd (eS 2) (eCall [0] m_l_near [] (eCons (eS 0) (eCons (eS 1) (eNil))))) (eCall [0] m_l_near [] (eCons (eS 0) (eCons (eCall [0] m_l_turn [] (eCons (eS 0) (eCons (eOp2 dAdd (eC (.int 1)) (eCall [0] m_l_draw [] (eCons (eS 0) (eCons (eC (.int 4)) (eNil))))) (eNil)))) (eNil)))))) (sSeq (sSet 3 (eCallB bRepr (eCons (eS 2) (eNil)))) (sSeq (sFor (iLst (eS 2)) (gSlot 4) (f_l_right_1)) (sRet (eAndM (eOp2 dIs (eCall [] m_is_turn [] (eCons (eS 1) (eNil))) (eC (.bool true))) (eOp2 dEq (eCallB bRepr (eCons (eS 2) (eNil))) (eS 3))))))))
end Pg
namespace Pg
open PySem PySem.Spec PyProof.Rows L2 T3
structure TapS where
  a : Int
  x : Int
  y : Int
  hx : x.natAbs < 2 ^ 63
  hy : y.natAbs < 2 ^ 63
def TapS.enc (t : TapS) : D := .list [.int t.a, .int t.x, .int t.y]
theorem tap_safe (t : TapS) : safeC t.enc = true := rfl
def drX (t : TapS) : Int := (t.x * 69069 + 40503) % 4294967291
def drY (t : TapS) : Int := (t.y * t.y + drX t) % 2147483587
def drR (t : TapS) (b : Int) : Int := if 10 ^ 18 ≤ t.a then t.a % b else (drX t / 32 + drY t / 16) % b
def drT (t : TapS) (b : Int) : TapS := if 10 ^ 18 ≤ t.a then ⟨t.a / b, t.x, t.y, t.hx, t.hy⟩ else
  ⟨t.a, drX t, drY t, by unfold drX; omega, by unfold drY; omega⟩
theorem drR_lt (t : TapS) {b : Int} (h : 0 < b) : 0 ≤ drR t b ∧ drR t b < b := by
  unfold drR
  split
  · exact ⟨Int.emod_nonneg _ (by omega), Int.emod_lt_of_pos _ h⟩
  · exact ⟨Int.emod_nonneg _ (by omega), Int.emod_lt_of_pos _ h⟩
theorem draw_eq (t : TapS) {b : Int} (hb : 0 < b) (hb2 : b < 10 ^ 200) : m_l_draw [t.enc, .int b] = .ok (.val (.int (drR t b))) [(drT t b).enc] := by
  obtain ⟨a, x, y, hx, hy⟩ := t
  have hB : Big b := big_of (k := 700) (by omega) (by omega)
  unfold m_l_draw b_l_draw
  by_cases ha : 10 ^ 18 ≤ a
  · unfold drR drT
    rw [if_pos ha, if_pos ha]
    unfold TapS.enc
    simp (disch := first | assumption | omega | decide) only [ev0, ev1, ev2, ev3, ev4, ev5, ev6, dList, dTup, mutS, borS, argsD, nodupB, putM, frzN, safeOp, safeD, safeDs, wipeE, restore, argCells, List.getD_cons_zero, List.getD_cons_succ, List.set_cons_zero, List.set_cons_succ, List.length_cons, List.length_nil, List.cons_append, List.nil_append, List.append_nil, List.replicate_succ, List.replicate_zero, List.not_mem_nil, List.mem_cons, if_true, if_false, ite_true, ite_false, Bool.true_and, Bool.and_true, Bool.not_true, Bool.not_false, Bool.false_eq_true, reduceIte, List.getElem?_cons_zero, List.getElem?_cons_succ, List.all_nil, List.all_cons, List.contains_nil, Option.map_some, Option.map_none, Option.bind_some, and_self, and_true, true_and, or_false, false_or, or_true, true_or, Nat.reduceAdd, Nat.reduceSub, Nat.reduceLT, Nat.reduceLeDiff, Nat.reduceEqDiff, Nat.zero_add, eq_self, true_implies, not_false_eq_true, not_true_eq_false, Nat.lt_irrefl, Nat.succ_ne_zero, Nat.lt_add_one, ne_eq, Int.reduceEq, Int.reduceNe, decide_true, decide_false, Nat.zero_lt_succ, Bool.not_eq_true', decide_not, Nat.add_one_ne_zero, Nat.zero_le, Nat.le_refl, Bool.or_true, Bool.or_false, Bool.true_or, Bool.false_or, Bool.and_false, Bool.false_and, Nat.reduceMul, isiB, String.reduceBEq, Bool.or_self, Bool.and_self, reduceCtorEq, isSS, List.contains_cons, Nat.reduceBEq, ix_ll, eq_ln, ne_ln, List.length_map, List.length_range, Int.reduceToNat, Int.reducePow, Int.reduceMul, Int.reduceAdd, Int.reduceSub, Int.reduceNeg, Int.reduceLE, Int.reduceLT, Int.toNat_natCast, Bool.and_eq_true, Bool.or_eq_true, decide_eq_true_eq, Bool.decide_eq_true, rep_d, List.length_append, List.length_reverse, map_snoc, map_app, Int.sub_zero, List.append_assoc, ite_self, ha]
  · unfold drR drT
    rw [if_neg ha, if_neg ha]
    unfold TapS.enc drY drX
    simp (disch := first | assumption | omega | decide) only [ev0, ev1, ev2, ev3, ev4, ev5, ev6, dList, dTup, mutS, borS, argsD, nodupB, putM, frzN, safeOp, safeD, safeDs, wipeE, restore, argCells, List.getD_cons_zero, List.getD_cons_succ, List.set_cons_zero, List.set_cons_succ, List.length_cons, List.length_nil, List.cons_append, List.nil_append, List.append_nil, List.replicate_succ, List.replicate_zero, List.not_mem_nil, List.mem_cons, if_true, if_false, ite_true, ite_false, Bool.true_and, Bool.and_true, Bool.not_true, Bool.not_false, Bool.false_eq_true, reduceIte, List.getElem?_cons_zero, List.getElem?_cons_succ, List.all_nil, List.all_cons, List.contains_nil, Option.map_some, Option.map_none, Option.bind_some, and_self, and_true, true_and, or_false, false_or, or_true, true_or, Nat.reduceAdd, Nat.reduceSub, Nat.reduceLT, Nat.reduceLeDiff, Nat.reduceEqDiff, Nat.zero_add, eq_self, true_implies, not_false_eq_true, not_true_eq_false, Nat.lt_irrefl, Nat.succ_ne_zero, Nat.lt_add_one, ne_eq, Int.reduceEq, Int.reduceNe, decide_true, decide_false, Nat.zero_lt_succ, Bool.not_eq_true', decide_not, Nat.add_one_ne_zero, Nat.zero_le, Nat.le_refl, Bool.or_true, Bool.or_false, Bool.true_or, Bool.false_or, Bool.and_false, Bool.false_and, Nat.reduceMul, isiB, String.reduceBEq, Bool.or_self, Bool.and_self, reduceCtorEq, isSS, List.contains_cons, Nat.reduceBEq, ix_ll, eq_ln, ne_ln, List.length_map, List.length_range, Int.reduceToNat, Int.reducePow, Int.reduceMul, Int.reduceAdd, Int.reduceSub, Int.reduceNeg, Int.reduceLE, Int.reduceLT, Int.toNat_natCast, Bool.and_eq_true, Bool.or_eq_true, decide_eq_true_eq, Bool.decide_eq_true, rep_d, List.length_append, List.length_reverse, map_snoc, map_app, Int.sub_zero, List.append_assoc, ite_self, ha]
theorem tap_eq (c t : Int) (h0 : 0 ≤ t) (h1 : t < 1000) : ∃ d : TapS, m_l_tap [.int c, .int t] = .ok (.new d.enc) [] := by
  refine ⟨⟨(2 * if c < 0 then -c else c) + (if decide (c < 0) = true then 1 else 0), ((2 * if c < 0 then -c else c) + (if decide (c < 0) = true then 1 else 0)) % 4294967291 + 977 * t + 1, ((2 * if c < 0 then -c else c) + (if decide (c < 0) = true then 1 else 0)) % 2147483587 + 31 * t + 2, by omega, by omega⟩, ?_⟩
  unfold m_l_tap b_l_tap TapS.enc
  simp (disch := first | assumption | omega | decide) only [ev0, ev1, ev2, ev3, ev4, ev5, ev6, dList, dTup, mutS, borS, argsD, nodupB, putM, frzN, safeOp, safeD, safeDs, wipeE, restore, argCells, List.getD_cons_zero, List.getD_cons_succ, List.set_cons_zero, List.set_cons_succ, List.length_cons, List.length_nil, List.cons_append, List.nil_append, List.append_nil, List.replicate_succ, List.replicate_zero, List.not_mem_nil, List.mem_cons, if_true, if_false, ite_true, ite_false, Bool.true_and, Bool.and_true, Bool.not_true, Bool.not_false, Bool.false_eq_true, reduceIte, List.getElem?_cons_zero, List.getElem?_cons_succ, List.all_nil, List.all_cons, List.contains_nil, Option.map_some, Option.map_none, Option.bind_some, and_self, and_true, true_and, or_false, false_or, or_true, true_or, Nat.reduceAdd, Nat.reduceSub, Nat.reduceLT, Nat.reduceLeDiff, Nat.reduceEqDiff, Nat.zero_add, eq_self, true_implies, not_false_eq_true, not_true_eq_false, Nat.lt_irrefl, Nat.succ_ne_zero, Nat.lt_add_one, ne_eq, Int.reduceEq, Int.reduceNe, decide_true, decide_false, Nat.zero_lt_succ, Bool.not_eq_true', decide_not, Nat.add_one_ne_zero, Nat.zero_le, Nat.le_refl, Bool.or_true, Bool.or_false, Bool.true_or, Bool.false_or, Bool.and_false, Bool.false_and, Nat.reduceMul, isiB, String.reduceBEq, Bool.or_self, Bool.and_self, reduceCtorEq, isSS, List.contains_cons, Nat.reduceBEq, ix_ll, eq_ln, ne_ln, List.length_map, List.length_range, Int.reduceToNat, Int.reducePow, Int.reduceMul, Int.reduceAdd, Int.reduceSub, Int.reduceNeg, Int.reduceLE, Int.reduceLT, Int.toNat_natCast, Bool.and_eq_true, Bool.or_eq_true, decide_eq_true_eq, Bool.decide_eq_true, rep_d, List.length_append, List.length_reverse, map_snoc, map_app, Int.sub_zero, List.append_assoc, ite_self]
  try rfl
theorem cells_eq (ns : List Int) (hl : ns.length ≤ 1000) (m : Int) (h1 : 1 ≤ m) (h2 : m < 100) : ∃ cs : List Int, cs.length ≤ m.toNat ∧ m_l_cells [.list (ns.map .int), .int m] = .ok (.new (.list (cs.map .int))) [] := by
  refine ⟨(ns ++ [0]).take (if (if (ns.length : Int) < m then (ns.length : Int) else m) > 1 then (if (ns.length : Int) < m then (ns.length : Int) else m) else 1).toNat, ?_, ?_⟩
  · rw [List.length_take]
    split <;> split <;> omega
  · have h3 : 0 ≤ (if (if (ns.length : Int) < m then (ns.length : Int) else m) > 1 then (if (ns.length : Int) < m then (ns.length : Int) else m) else 1) := by
      split <;> split <;> omega
    unfold m_l_cells b_l_cells
    simp (disch := first | assumption | omega | decide) only [ev0, ev1, ev2, ev3, ev4, ev5, ev6, dList, dTup, mutS, borS, argsD, nodupB, putM, frzN, safeOp, safeD, safeDs, wipeE, restore, argCells, List.getD_cons_zero, List.getD_cons_succ, List.set_cons_zero, List.set_cons_succ, List.length_cons, List.length_nil, List.cons_append, List.nil_append, List.append_nil, List.replicate_succ, List.replicate_zero, List.not_mem_nil, List.mem_cons, if_true, if_false, ite_true, ite_false, Bool.true_and, Bool.and_true, Bool.not_true, Bool.not_false, Bool.false_eq_true, reduceIte, List.getElem?_cons_zero, List.getElem?_cons_succ, List.all_nil, List.all_cons, List.contains_nil, Option.map_some, Option.map_none, Option.bind_some, and_self, and_true, true_and, or_false, false_or, or_true, true_or, Nat.reduceAdd, Nat.reduceSub, Nat.reduceLT, Nat.reduceLeDiff, Nat.reduceEqDiff, Nat.zero_add, eq_self, true_implies, not_false_eq_true, not_true_eq_false, Nat.lt_irrefl, Nat.succ_ne_zero, Nat.lt_add_one, ne_eq, Int.reduceEq, Int.reduceNe, decide_true, decide_false, Nat.zero_lt_succ, Bool.not_eq_true', decide_not, Nat.add_one_ne_zero, Nat.zero_le, Nat.le_refl, Bool.or_true, Bool.or_false, Bool.true_or, Bool.false_or, Bool.and_false, Bool.false_and, Nat.reduceMul, isiB, String.reduceBEq, Bool.or_self, Bool.and_self, reduceCtorEq, isSS, List.contains_cons, Nat.reduceBEq, ix_ll, eq_ln, ne_ln, List.length_map, List.length_range, Int.reduceToNat, Int.reducePow, Int.reduceMul, Int.reduceAdd, Int.reduceSub, Int.reduceNeg, Int.reduceLE, Int.reduceLT, Int.toNat_natCast, Bool.and_eq_true, Bool.or_eq_true, decide_eq_true_eq, Bool.decide_eq_true, rep_d, List.length_append, List.length_reverse, map_snoc, map_app, Int.sub_zero, List.append_assoc, ite_self]
theorem mixed_eq (t : TapS) {n : Nat} (hn : n < 1000) : ∃ (t' : TapS) (fs : List Int), fs.Perm (rgI 0 n) ∧ m_l_mixed [t.enc, .int n] = .ok (.new (.list (fs.map .int))) [t'.enc] := by
  obtain ⟨e', w1, t', fs, w2, rfl⟩ := while_nx (t := t_l_mixed_1) (s := w_l_mixed_1)
    (fun e => ∃ (t : TapS) (ls fs : List Int), (ls ++ fs).Perm (rgI 0 n) ∧ e = [.par t.enc, .v (.int n), .own (.list (ls.map .int)), .own (.list (fs.map .int))])
    (fun e => match e with | [_, _, .own (.list l), _] => l.length | _ => 0)
    (fun e => ∃ (t : TapS) (fs : List Int), fs.Perm (rgI 0 n) ∧ e = [.par t.enc, .v (.int n), .own (.list []), .own (.list (fs.map .int))])
    (fun e hI => by
      obtain ⟨t, ls, fs, hp, rfl⟩ := hI
      have hlen := hp.length_eq
      rw [rgI_len, List.length_append] at hlen
      unfold t_l_mixed_1 w_l_mixed_1
      cases hls : ls with
      | nil =>
        subst hls
        refine .inl ⟨_, by simp (disch := first | assumption | omega | decide) only [ev0, ev1, ev2, ev3, ev4, ev5, ev6, dList, dTup, mutS, borS, argsD, nodupB, putM, frzN, safeOp, safeD, safeDs, wipeE, restore, argCells, List.getD_cons_zero, List.getD_cons_succ, List.set_cons_zero, List.set_cons_succ, List.length_cons, List.length_nil, List.cons_append, List.nil_append, List.append_nil, List.replicate_succ, List.replicate_zero, List.not_mem_nil, List.mem_cons, if_true, if_false, ite_true, ite_false, Bool.true_and, Bool.and_true, Bool.not_true, Bool.not_false, Bool.false_eq_true, reduceIte, List.getElem?_cons_zero, List.getElem?_cons_succ, List.all_nil, List.all_cons, List.contains_nil, Option.map_some, Option.map_none, Option.bind_some, and_self, and_true, true_and, or_false, false_or, or_true, true_or, Nat.reduceAdd, Nat.reduceSub, Nat.reduceLT, Nat.reduceLeDiff, Nat.reduceEqDiff, Nat.zero_add, eq_self, true_implies, not_false_eq_true, not_true_eq_false, Nat.lt_irrefl, Nat.succ_ne_zero, Nat.lt_add_one, ne_eq, Int.reduceEq, Int.reduceNe, decide_true, decide_false, Nat.zero_lt_succ, Bool.not_eq_true', decide_not, Nat.add_one_ne_zero, Nat.zero_le, Nat.le_refl, Bool.or_true, Bool.or_false, Bool.true_or, Bool.false_or, Bool.and_false, Bool.false_and, Nat.reduceMul, isiB, String.reduceBEq, Bool.or_self, Bool.and_self, reduceCtorEq, isSS, List.contains_cons, Nat.reduceBEq, ix_ll, eq_ln, ne_ln, List.length_map, List.length_range, Int.reduceToNat, Int.reducePow, Int.reduceMul, Int.reduceAdd, Int.reduceSub, Int.reduceNeg, Int.reduceLE, Int.reduceLT, Int.toNat_natCast, Bool.and_eq_true, Bool.or_eq_true, decide_eq_true_eq, Bool.decide_eq_true, rep_d, List.length_append, List.length_reverse, map_snoc, map_app, Int.sub_zero, List.append_assoc, ite_self, List.map_nil] <;> rfl, t, fs, hp, rfl⟩
      | cons l r =>
        rw [← hls]
        have h1 : 0 < ls.length := by rw [hls]; exact Nat.zero_lt_succ _
        obtain ⟨d1, d2⟩ := drR_lt t (b := (ls.length : Int)) (by omega)
        refine .inr ⟨_, _, by simp (disch := first | assumption | omega | decide) only [ev0, ev1, ev2, ev3, ev4, ev5, ev6, dList, dTup, mutS, borS, argsD, nodupB, putM, frzN, safeOp, safeD, safeDs, wipeE, restore, argCells, List.getD_cons_zero, List.getD_cons_succ, List.set_cons_zero, List.set_cons_succ, List.length_cons, List.length_nil, List.cons_append, List.nil_append, List.append_nil, List.replicate_succ, List.replicate_zero, List.not_mem_nil, List.mem_cons, if_true, if_false, ite_true, ite_false, Bool.true_and, Bool.and_true, Bool.not_true, Bool.not_false, Bool.false_eq_true, reduceIte, List.getElem?_cons_zero, List.getElem?_cons_succ, List.all_nil, List.all_cons, List.contains_nil, Option.map_some, Option.map_none, Option.bind_some, and_self, and_true, true_and, or_false, false_or, or_true, true_or, Nat.reduceAdd, Nat.reduceSub, Nat.reduceLT, Nat.reduceLeDiff, Nat.reduceEqDiff, Nat.zero_add, eq_self, true_implies, not_false_eq_true, not_true_eq_false, Nat.lt_irrefl, Nat.succ_ne_zero, Nat.lt_add_one, ne_eq, Int.reduceEq, Int.reduceNe, decide_true, decide_false, Nat.zero_lt_succ, Bool.not_eq_true', decide_not, Nat.add_one_ne_zero, Nat.zero_le, Nat.le_refl, Bool.or_true, Bool.or_false, Bool.true_or, Bool.false_or, Bool.and_false, Bool.false_and, Nat.reduceMul, isiB, String.reduceBEq, Bool.or_self, Bool.and_self, reduceCtorEq, isSS, List.contains_cons, Nat.reduceBEq, ix_ll, eq_ln, ne_ln, List.length_map, List.length_range, Int.reduceToNat, Int.reducePow, Int.reduceMul, Int.reduceAdd, Int.reduceSub, Int.reduceNeg, Int.reduceLE, Int.reduceLT, Int.toNat_natCast, Bool.and_eq_true, Bool.or_eq_true, decide_eq_true_eq, Bool.decide_eq_true, rep_d, List.length_append, List.length_reverse, map_snoc, map_app, Int.sub_zero, List.append_assoc, ite_self] <;> rfl, by simp (disch := first | assumption | omega | decide) only [ev0, ev1, ev2, ev3, ev4, ev5, ev6, dList, dTup, mutS, borS, argsD, nodupB, putM, frzN, safeOp, safeD, safeDs, wipeE, restore, argCells, List.getD_cons_zero, List.getD_cons_succ, List.set_cons_zero, List.set_cons_succ, List.length_cons, List.length_nil, List.cons_append, List.nil_append, List.append_nil, List.replicate_succ, List.replicate_zero, List.not_mem_nil, List.mem_cons, if_true, if_false, ite_true, ite_false, Bool.true_and, Bool.and_true, Bool.not_true, Bool.not_false, Bool.false_eq_true, reduceIte, List.getElem?_cons_zero, List.getElem?_cons_succ, List.all_nil, List.all_cons, List.contains_nil, Option.map_some, Option.map_none, Option.bind_some, and_self, and_true, true_and, or_false, false_or, or_true, true_or, Nat.reduceAdd, Nat.reduceSub, Nat.reduceLT, Nat.reduceLeDiff, Nat.reduceEqDiff, Nat.zero_add, eq_self, true_implies, not_false_eq_true, not_true_eq_false, Nat.lt_irrefl, Nat.succ_ne_zero, Nat.lt_add_one, ne_eq, Int.reduceEq, Int.reduceNe, decide_true, decide_false, Nat.zero_lt_succ, Bool.not_eq_true', decide_not, Nat.add_one_ne_zero, Nat.zero_le, Nat.le_refl, Bool.or_true, Bool.or_false, Bool.true_or, Bool.false_or, Bool.and_false, Bool.false_and, Nat.reduceMul, isiB, String.reduceBEq, Bool.or_self, Bool.and_self, reduceCtorEq, isSS, List.contains_cons, Nat.reduceBEq, ix_ll, eq_ln, ne_ln, List.length_map, List.length_range, Int.reduceToNat, Int.reducePow, Int.reduceMul, Int.reduceAdd, Int.reduceSub, Int.reduceNeg, Int.reduceLE, Int.reduceLT, Int.toNat_natCast, Bool.and_eq_true, Bool.or_eq_true, decide_eq_true_eq, Bool.decide_eq_true, rep_d, List.length_append, List.length_reverse, map_snoc, map_app, Int.sub_zero, List.append_assoc, ite_self, draw_eq, tap_safe] <;> rfl, ⟨drT t ls.length, ls.eraseIdx (drR t ls.length).toNat, fs ++ [ls.getD (drR t ls.length).toNat 0], ?_, rfl⟩, ?_⟩
        · refine List.Perm.trans ?_ hp
          have hg : ls[(drR t ls.length).toNat]? = some (ls.getD (drR t ls.length).toNat 0) := by
            rw [List.getD_eq_getElem?_getD, List.getElem?_eq_getElem (by omega)]; rfl
          rw [← List.append_assoc]
          refine (List.perm_append_singleton _ _).trans ?_
          exact (perm_erase hg).append_right fs
        · show ((ls.eraseIdx (drR t ls.length).toNat).map PyData.int).length < (ls.map PyData.int).length
          rw [List.length_map, List.length_map, List.length_eraseIdx]
          rw [if_pos (by omega)]; omega)
    1000 [.par t.enc, .v (.int n), .own (.list ((rgI 0 n).map .int)), .own (.list (([] : List Int).map .int))]
    ⟨t, rgI 0 n, [], by simp, rfl⟩ (by show ((rgI 0 n).map PyData.int).length < 1000; rw [List.length_map, rgI_len]; omega)
  rw [List.map_nil] at w1
  refine ⟨t', fs, w2, ?_⟩
  unfold m_l_mixed b_l_mixed
  simp (disch := first | assumption | omega | decide) only [ev0, ev1, ev2, ev3, ev4, ev5, ev6, dList, dTup, mutS, borS, argsD, nodupB, putM, frzN, safeOp, safeD, safeDs, wipeE, restore, argCells, List.getD_cons_zero, List.getD_cons_succ, List.set_cons_zero, List.set_cons_succ, List.length_cons, List.length_nil, List.cons_append, List.nil_append, List.append_nil, List.replicate_succ, List.replicate_zero, List.not_mem_nil, List.mem_cons, if_true, if_false, ite_true, ite_false, Bool.true_and, Bool.and_true, Bool.not_true, Bool.not_false, Bool.false_eq_true, reduceIte, List.getElem?_cons_zero, List.getElem?_cons_succ, List.all_nil, List.all_cons, List.contains_nil, Option.map_some, Option.map_none, Option.bind_some, and_self, and_true, true_and, or_false, false_or, or_true, true_or, Nat.reduceAdd, Nat.reduceSub, Nat.reduceLT, Nat.reduceLeDiff, Nat.reduceEqDiff, Nat.zero_add, eq_self, true_implies, not_false_eq_true, not_true_eq_false, Nat.lt_irrefl, Nat.succ_ne_zero, Nat.lt_add_one, ne_eq, Int.reduceEq, Int.reduceNe, decide_true, decide_false, Nat.zero_lt_succ, Bool.not_eq_true', decide_not, Nat.add_one_ne_zero, Nat.zero_le, Nat.le_refl, Bool.or_true, Bool.or_false, Bool.true_or, Bool.false_or, Bool.and_false, Bool.false_and, Nat.reduceMul, isiB, String.reduceBEq, Bool.or_self, Bool.and_self, reduceCtorEq, isSS, List.contains_cons, Nat.reduceBEq, ix_ll, eq_ln, ne_ln, List.length_map, List.length_range, Int.reduceToNat, Int.reducePow, Int.reduceMul, Int.reduceAdd, Int.reduceSub, Int.reduceNeg, Int.reduceLE, Int.reduceLT, Int.toNat_natCast, Bool.and_eq_true, Bool.or_eq_true, decide_eq_true_eq, Bool.decide_eq_true, rep_d, List.length_append, List.length_reverse, map_snoc, map_app, Int.sub_zero, List.append_assoc, ite_self, w1]
end Pg
namespace Pg
open PySem PySem.Spec PyProof.Rows L2 T3
/-- common_divisor(one, other): slots 0 one, 1 other -/
def t_common_divisor_1 : Tx := tOf (eOp2 dNe (eS 1) (eC (.int 0)))
def w_common_divisor_1 : Sx := sPar [0, 1] (eCons (eS 1) (eCons (eOp2 dMod (eS 0) (eS 1)) (eNil)))
def b_common_divisor : Sx := sSeq (sPar [0, 1] (eCons (eCallB bAbs (eCons (eS 0) (eNil))) (eCons (eCallB bAbs (eCons (eS 1) (eNil))) (eNil)))) (sSeq (wLoop (t_common_divisor_1) (w_common_divisor_1) 1000000000000000000000000000000000000000000000000000000000000000000000000000000000000000000000000000000000000000000000000) (sRet (eS 0)))
def m_common_divisor : Fn := runFn 2 [] b_common_divisor
/-- _law_lowest(_law_top, _law_bottom): slots 0 _law_top, 1 _law_bottom, 2 _law_one, 3 _law_other -/
def t_l_lowest_1 : Tx := tOf (eOp2 dNe (eS 3) (eC (.int 0)))
def w_l_lowest_1 : Sx := sPar [2, 3] (eCons (eS 3) (eCons (eOp2 dMod (eCallB bInt (eCons (eS 2) (eNil))) (eS 3)) (eNil)))
def b_l_lowest : Sx := sSeq (sPar [2, 3] (eCons (eCallB bAbs (eCons (eS 0) (eNil))) (eCons (eCallB bAbs (eCons (eS 1) (eNil))) (eNil)))) (sSeq (wLoop (t_l_lowest_1) (w_l_lowest_1) 1000000000000000000000000000000000000000000000000000000000000000000000000000000000000000000000000000000000000000000000000) (sSeq (sIf (tOf (eOp2 dLt (eS 1) (eC (.int 0)))) (sSet 2 (eOp2 dSub (eC (.int 0)) (eS 2))) (sNext)) (sRet (eFrz dTup (eCons (eOp2 dDiv (eS 0) (eS 2)) (eCons (eOp2 dDiv (eS 1) (eS 2)) (eNil)))))))
def m_l_lowest : Fn := runFn 4 [] b_l_lowest
/-- are_integers(value, low, high): slots 0 value, 1 low, 2 high, 3 item -/
def x_are_integers_1 : Ex := eCall [] m_is_integer [] (eCons (eS 3) (eCons (eS 1) (eCons (eS 2) (eNil))))
def b_are_integers : Sx := sRet (eAndM (eOne (dIsi "list") (eS 0)) (eCallB bAll (eCons (eLc [3] (iLst (eS 0)) (gSlot 3) (tYesM) (x_are_integers_1)) (eNil))))
def m_are_integers : Fn := runFn 4 [] b_are_integers
/-- is_point(value): slots 0 value -/
def b_is_point : Sx := sRet (eAndM (eOne (dIsi "tuple") (eS 0)) (eAndM (eOp2 dEq (eCallB bLen (eCons (eS 0) (eNil))) (eC (.int 2))) (eAndM (eCall [] m_is_integer [.none, .none] (eCons (eOp2 dIx (eS 0) (eC (.int 0))) (eNil))) (eCall [] m_is_integer [.none] (eCons (eOp2 dIx (eS 0) (eC (.int 1))) (eCons (eC (.int 1)) (eNil)))))))
def m_is_point : Fn := runFn 1 [] b_is_point
/-- lowest_terms(top, bottom): slots 0 top, 1 bottom, 2 divisor -/
def b_lowest_terms : Sx := sSeq (sIf (tOf (eOp2 dLt (eS 1) (eC (.int 0)))) (sPar [0, 1] (eCons (eOp2 dSub (eC (.int 0)) (eS 0)) (eCons (eOp2 dSub (eC (.int 0)) (eS 1)) (eNil)))) (sNext)) (sSeq (sSet 2 (eCall [] m_common_divisor [] (eCons (eS 0) (eCons (eS 1) (eNil))))) (sRet (eFrz dTup (eCons (eOp2 dDiv (eS 0) (eS 2)) (eCons (eOp2 dDiv (eS 1) (eS 2)) (eNil))))))
def m_lowest_terms : Fn := runFn 3 [] b_lowest_terms
/-- _law_straight(_law_table_here, _law_point): slots 0 _law_table_here, 1 _law_point, 2 _law_place, 3 _law_part, 4 _law_top, 5 _law_bottom, 6 _law_one, 7 _law_other -/
def b_l_straight : Sx := sSeq (sDes (gTupM [gSlot 4, gSlot 5]) (eS 1)) (sSeq (sIf (tOf (eOp2 dLe (eS 4) (eC (.int 0)))) (sRet (eFrz dTup (eCons (eOp2 dIx (eS 0) (eC (.int 0))) (eCons (eC (.int 1)) (eNil))))) (sNext)) (sSeq (sIf (tOf (eOp2 dGe (eS 4) (eOp2 dMul (eOp2 dSub (eCallB bLen (eCons (eS 0) (eNil))) (eC (.int 1))) (eS 5)))) (sRet (eFrz dTup (eCons (eOp2 dIx (eS 0) (eC (.int (-1)))) (eCons (eC (.int 1)) (eNil))))) (sNext)) (sSeq (sSet 2 (eOp2 dDiv (eS 4) (eS 5))) (sSeq (sSet 3 (eOp2 dSub (eS 4) (eOp2 dMul (eS 2) (eS 5)))) (sSeq (sPar [6, 7] (eCons (eOp2 dIx (eS 0) (eS 2)) (eCons (eOp2 dIx (eS 0) (eOp2 dAdd (eS 2) (eC (.int 1)))) (eNil)))) (sRet (eCall [] m_l_lowest [] (eCons (eOp2 dAdd (eOp2 dMul (eS 6) (eOp2 dSub (eS 5) (eS 3))) (eOp2 dMul (eS 7) (eS 3))) (eCons (eS 5) (eNil))))))))))
def m_l_straight : Fn := runFn 8 [] b_l_straight
/-- is_table(value): slots 0 value -/
def b_is_table : Sx := sRet (eAndM (eOne (dIsi "list") (eS 0)) (eAndM (eChain dLe dLe (eC (.int 1)) (eCallB bLen (eCons (eS 0) (eNil))) (eC (.int 12))) (eCall [] m_are_integers [] (eCons (eS 0) (eCons (eC (.int 0)) (eCons (eOp2 dSub (eCallB bLen (eCons (eS 0) (eNil))) (eC (.int 1))) (eNil)))))))
def m_is_table : Fn := runFn 1 [] b_is_table
/-- need_point(point): slots 0 point -/
def b_need_point : Sx := sIf (tNotM (tOf (eCall [] m_is_point [] (eCons (eS 0) (eNil))))) (sRaise "InvalidPoint") (sNext)
def m_need_point : Fn := runFn 1 [] b_need_point
/-- straight(moves, point): slots 0 moves, 1 point, 2 place, 3 rise, 4 top, 5 bottom -/
def b_straight : Sx := sSeq (sDes (gTupM [gSlot 4, gSlot 5]) (eS 1)) (sSeq (sIf (tOf (eOp2 dLe (eS 4) (eC (.int 0)))) (sRet (eFrz dTup (eCons (eOp2 dIx (eS 0) (eC (.int 0))) (eCons (eC (.int 1)) (eNil))))) (sNext)) (sSeq (sIf (tOf (eOp2 dGe (eS 4) (eOp2 dMul (eOp2 dSub (eCallB bLen (eCons (eS 0) (eNil))) (eC (.int 1))) (eS 5)))) (sRet (eFrz dTup (eCons (eOp2 dIx (eS 0) (eC (.int (-1)))) (eCons (eC (.int 1)) (eNil))))) (sNext)) (sSeq (sSet 2 (eOp2 dDiv (eS 4) (eS 5))) (sSeq (sSet 3 (eOp2 dSub (eOp2 dIx (eS 0) (eOp2 dAdd (eS 2) (eC (.int 1)))) (eOp2 dIx (eS 0) (eS 2)))) (sRet (eCall [] m_lowest_terms [] (eCons (eOp2 dAdd (eOp2 dMul (eOp2 dIx (eS 0) (eS 2)) (eS 5)) (eOp2 dMul (eS 3) (eOp2 dSub (eS 4) (eOp2 dMul (eS 2) (eS 5))))) (eCons (eS 5) (eNil)))))))))
def m_straight : Fn := runFn 6 [] b_straight
/-- need_moves(moves): slots 0 moves -/
def b_need_moves : Sx := sIf (tNotM (tOf (eCall [] m_is_table [] (eCons (eS 0) (eNil))))) (sRaise "InvalidMoves") (sNext)
def m_need_moves : Fn := runFn 1 [] b_need_moves
/-- _law_table(_law_tap_here, _law_count): slots 0 _law_tap_here, 1 _law_count, 2 _law_kind, 3 _law_some, 4 _law_found, 5 _law_turn_here, 6 _law_place -/
def x_l_table_1 : Ex := eCall [0] m_l_draw [] (eCons (eS 0) (eCons (eS 1) (eNil)))
def x_l_table_2 : Ex := eOp2 dIx (eS 3) (eCall [0] m_l_draw [] (eCons (eS 0) (eCons (eC (.int 2)) (eNil))))
def x_l_table_3 : Ex := eCallB bMin2 (eCons (eOp2 dSub (eS 1) (eC (.int 1))) (eCons (eCallB bMax2 (eCons (eC (.int 0)) (eCons (eOp2 dSub (eOp2 dAdd (eS 6) (eCall [0] m_l_draw [] (eCons (eS 0) (eCons (eC (.int 3)) (eNil))))) (eC (.int 1))) (eNil)))) (eNil)))
def f_l_table_1 : Sx := sStore 4 (eCall [0] m_l_draw [] (eCons (eS 0) (eCons (eS 1) (eNil)))) (eCall [0] m_l_draw [] (eCons (eS 0) (eCons (eS 1) (eNil))))
def x_l_table_4 : Ex := eCall [0] m_l_draw [] (eCons (eS 0) (eCons (eS 1) (eNil)))
def b_l_table : Sx := sSeq (sSet 2 (eCall [0] m_l_draw [] (eCons (eS 0) (eCons (eC (.int 6)) (eNil))))) (sSeq (sIf (tOf (eOp2 dEq (eS 2) (eC (.int 0)))) (sRet (eCall [0] m_l_turn [] (eCons (eS 0) (eCons (eS 1) (eNil))))) (sNext)) (sSeq (sIf (tOf (eOp2 dEq (eS 2) (eC (.int 1)))) (sRet (eCall [0] m_l_mixed [] (eCons (eS 0) (eCons (eS 1) (eNil))))) (sNext)) (sSeq (sIf (tOf (eOp2 dEq (eS 2) (eC (.int 2)))) (sSeq (sSet 3 (eLc [5] (iRg1 (eCons (eC (.int 2)) (eNil))) (gSlot 5) (tYesM) (x_l_table_1))) (sRet (eLc [6] (iRg1 (eCons (eS 1) (eNil))) (gSlot 6) (tYesM) (x_l_table_2)))) (sNext)) (sSeq (sIf (tOf (eOp2 dEq (eS 2) (eC (.int 3)))) (sRet (eLc [6] (iRg1 (eCons (eS 1) (eNil))) (gSlot 6) (tYesM) (x_l_table_3))) (sNext)) (sSeq (sIf (tOf (eOp2 dEq (eS 2) (eC (.int 4)))) (sSeq (sSet 4 (eMenu (eCons (eOne dRg1 (eS 1)) (eCons (eRev (eOne dRg1 (eS 1))) (eNil))) (eCall [0] m_l_draw [] (eCons (eS 0) (eCons (eC (.int 2)) (eNil)))))) (sSeq (sFor (iRg1 (eCons (eCall [0] m_l_draw [] (eCons (eS 0) (eCons (eC (.int 3)) (eNil)))) (eNil))) (gSlot 5) (f_l_table_1)) (sRet (eS 4)))) (sNext)) (sRet (eLc [6] (iRg1 (eCons (eS 1) (eNil))) (gSlot 6) (tYesM) (x_l_table_4))))))))
def m_l_table : Fn := runFn 7 [0] b_l_table
/-- moved(moves, point): slots 0 moves, 1 point -/
def b_moved : Sx := sSeq (sDrop (eCall [] m_need_moves [] (eCons (eS 0) (eNil)))) (sSeq (sDrop (eCall [] m_need_point [] (eCons (eS 1) (eNil)))) (sRet (eCall [] m_straight [] (eCons (eS 0) (eCons (eS 1) (eNil))))))
def m_moved : Fn := runFn 2 [] b_moved
end Pg
namespace Pg
open PySem PySem.Spec PyProof.Rows L2 T3
def InR (n : Nat) (ns : List Int) : Prop := ns.length = n ∧ ∀ x ∈ ns, 0 ≤ x ∧ x < (n : Int)
/-- the step of a list of places -/
def stp (ns : List Int) (i : Nat) : Nat := (ns.getD i 0).toNat
/-- who goes on from 0 is back just behind as many steps as there are points -/
def Turny (ns : List Int) : Prop := it (stp ns) ns.length = 0 ∧ ∀ j, 1 ≤ j → j < ns.length → it (stp ns) j ≠ 0
theorem getD_of {xs : List Int} {k : Nat} {x : Int} (h : xs[k]? = some x) : xs.getD k 0 = x := by
  rw [List.getD_eq_getElem?_getD, h]; rfl
theorem get_of {xs : List Int} {k : Nat} (h : k < xs.length) : xs[k]? = some (xs.getD k 0) := by
  rw [List.getD_eq_getElem?_getD, List.getElem?_eq_getElem h]; rfl
theorem InR.get {n : Nat} {ns : List Int} (h : InR n ns) {k : Nat} (hk : k < n) : 0 ≤ ns.getD k 0 ∧ ns.getD k 0 < n :=
  h.2 _ (List.mem_of_getElem? (get_of (by rw [h.1]; exact hk)))
theorem InR.of {n : Nat} {ns : List Int} (hl : ns.length = n) (h : ∀ k, k < n → 0 ≤ ns.getD k 0 ∧ ns.getD k 0 < n) : InR n ns := ⟨hl, fun x hx => by
  obtain ⟨k, hk⟩ := List.getElem?_of_mem hx
  have := h k (by rw [← hl]; exact (List.getElem?_eq_some_iff.mp hk).1)
  rwa [getD_of hk] at this⟩
theorem InR.perm {n : Nat} {fs : List Int} (p : fs.Perm (rgI 0 n)) : InR n fs :=
  ⟨by rw [p.length_eq, rgI_len]; omega, fun x hx => rgI_mem.mp (p.mem_iff.mp hx)⟩
theorem turn_eq (t : TapS) {n : Nat} (h1 : 1 ≤ n) (h2 : n < 1000) : ∃ (t' : TapS) (ns : List Int), m_l_turn [t.enc, .int n] = .ok (.new (.list (ns.map .int))) [t'.enc] ∧ InR n ns ∧ Turny ns := by
  obtain ⟨t1, fs, a1, a2⟩ := mixed_eq t (n := n) (by omega)
  obtain ⟨hl, w, E, hw⟩ := each_of (rgI_nat n ▸ a1)
  obtain ⟨e', b1, c, gs, rfl, b2, b3⟩ := for_ints (g := gSlot 2) (s := f_l_turn_1)
    (fun k e => ∃ c gs, e = [.par t1.enc, .v (.int n), c, .own (.list (fs.map .int)), .own (.list (gs.map .int))] ∧ (isPar c = false ∧ gs.length = n) ∧ ∀ j, j < k → j < n → gs[w j]? = some ((w ((j + 1) % n) : Nat) : Int))
    (rgI 0 n) [.par t1.enc, .v (.int n), .no, .own (.list (fs.map .int)), .own (.list ((List.replicate n 0).map .int))]
    ⟨.no, List.replicate n 0, rfl, ⟨rfl, by simp⟩, fun j h => by omega⟩ (fun i x e hx hI => by
      obtain ⟨c, gs, rfl, ⟨hc, h1⟩, h2⟩ := hI
      obtain ⟨hi, rfl⟩ := rgI_get0 hx
      have hi' : i < n := by omega
      have e1 : fs.getD i 0 = (w i : Nat) := getD_of (hw i hi')
      have hm : (i + 1) % n < n := Nat.mod_lt _ (by omega)
      have e2 : fs.getD ((i + 1) % n) 0 = (w ((i + 1) % n) : Nat) := getD_of (hw _ hm)
      have l1 := E.lt i hi'
      refine ⟨_, by simp (disch := first | assumption | omega | decide) only [ev0, ev1, ev2, ev3, ev4, ev5, ev6, dList, dTup, mutS, borS, argsD, nodupB, putM, frzN, safeOp, safeD, safeDs, wipeE, restore, argCells, List.getD_cons_zero, List.getD_cons_succ, List.set_cons_zero, List.set_cons_succ, List.length_cons, List.length_nil, List.cons_append, List.nil_append, List.append_nil, List.replicate_succ, List.replicate_zero, List.not_mem_nil, List.mem_cons, if_true, if_false, ite_true, ite_false, Bool.true_and, Bool.and_true, Bool.not_true, Bool.not_false, Bool.false_eq_true, reduceIte, List.getElem?_cons_zero, List.getElem?_cons_succ, List.all_nil, List.all_cons, List.contains_nil, Option.map_some, Option.map_none, Option.bind_some, and_self, and_true, true_and, or_false, false_or, or_true, true_or, Nat.reduceAdd, Nat.reduceSub, Nat.reduceLT, Nat.reduceLeDiff, Nat.reduceEqDiff, Nat.zero_add, eq_self, true_implies, not_false_eq_true, not_true_eq_false, Nat.lt_irrefl, Nat.succ_ne_zero, Nat.lt_add_one, ne_eq, Int.reduceEq, Int.reduceNe, decide_true, decide_false, Nat.zero_lt_succ, Bool.not_eq_true', decide_not, Nat.add_one_ne_zero, Nat.zero_le, Nat.le_refl, Bool.or_true, Bool.or_false, Bool.true_or, Bool.false_or, Bool.and_false, Bool.false_and, Nat.reduceMul, isiB, String.reduceBEq, Bool.or_self, Bool.and_self, reduceCtorEq, isSS, List.contains_cons, Nat.reduceBEq, ix_ll, eq_ln, ne_ln, List.length_map, List.length_range, Int.reduceToNat, Int.reducePow, Int.reduceMul, Int.reduceAdd, Int.reduceSub, Int.reduceNeg, Int.reduceLE, Int.reduceLT, Int.toNat_natCast, Bool.and_eq_true, Bool.or_eq_true, decide_eq_true_eq, Bool.decide_eq_true, rep_d, List.length_append, List.length_reverse, map_snoc, map_app, Int.sub_zero, List.append_assoc, ite_self, hc] <;> rfl, _, .inl (by
        unfold f_l_turn_1
        simp (disch := first | assumption | omega | decide) only [ev0, ev1, ev2, ev3, ev4, ev5, ev6, dList, dTup, mutS, borS, argsD, nodupB, putM, frzN, safeOp, safeD, safeDs, wipeE, restore, argCells, List.getD_cons_zero, List.getD_cons_succ, List.set_cons_zero, List.set_cons_succ, List.length_cons, List.length_nil, List.cons_append, List.nil_append, List.append_nil, List.replicate_succ, List.replicate_zero, List.not_mem_nil, List.mem_cons, if_true, if_false, ite_true, ite_false, Bool.true_and, Bool.and_true, Bool.not_true, Bool.not_false, Bool.false_eq_true, reduceIte, List.getElem?_cons_zero, List.getElem?_cons_succ, List.all_nil, List.all_cons, List.contains_nil, Option.map_some, Option.map_none, Option.bind_some, and_self, and_true, true_and, or_false, false_or, or_true, true_or, Nat.reduceAdd, Nat.reduceSub, Nat.reduceLT, Nat.reduceLeDiff, Nat.reduceEqDiff, Nat.zero_add, eq_self, true_implies, not_false_eq_true, not_true_eq_false, Nat.lt_irrefl, Nat.succ_ne_zero, Nat.lt_add_one, ne_eq, Int.reduceEq, Int.reduceNe, decide_true, decide_false, Nat.zero_lt_succ, Bool.not_eq_true', decide_not, Nat.add_one_ne_zero, Nat.zero_le, Nat.le_refl, Bool.or_true, Bool.or_false, Bool.true_or, Bool.false_or, Bool.and_false, Bool.false_and, Nat.reduceMul, isiB, String.reduceBEq, Bool.or_self, Bool.and_self, reduceCtorEq, isSS, List.contains_cons, Nat.reduceBEq, ix_ll, eq_ln, ne_ln, List.length_map, List.length_range, Int.reduceToNat, Int.reducePow, Int.reduceMul, Int.reduceAdd, Int.reduceSub, Int.reduceNeg, Int.reduceLE, Int.reduceLT, Int.toNat_natCast, Bool.and_eq_true, Bool.or_eq_true, decide_eq_true_eq, Bool.decide_eq_true, rep_d, List.length_append, List.length_reverse, map_snoc, map_app, Int.sub_zero, List.append_assoc, ite_self, modN, e1, e2] <;> rfl), _, _, rfl, ⟨rfl, by rw [List.length_set]; exact h1⟩, fun j hj hjn => ?_⟩
      by_cases hji : j = i
      · subst hji
        rw [List.getElem?_set_self (by rw [h1]; exact l1)]
      · rw [List.getElem?_set_ne (fun z => hji (E.inj i j hi' hjn z).symm)]
        exact h2 j (by omega) hjn)
  rw [rgI_len] at b3
  have hg : ∀ j, j < n → gs[w j]? = some ((w ((j + 1) % n) : Nat) : Int) := fun j hj => b3 j (by omega) hj
  refine ⟨t1, gs, ?_, InR.of b2.2 (fun k hk => ?_), ?_⟩
  · have b1' := b1
    unfold m_l_turn b_l_turn
    simp (disch := first | assumption | omega | decide) only [ev0, ev1, ev2, ev3, ev4, ev5, ev6, dList, dTup, mutS, borS, argsD, nodupB, putM, frzN, safeOp, safeD, safeDs, wipeE, restore, argCells, List.getD_cons_zero, List.getD_cons_succ, List.set_cons_zero, List.set_cons_succ, List.length_cons, List.length_nil, List.cons_append, List.nil_append, List.append_nil, List.replicate_succ, List.replicate_zero, List.not_mem_nil, List.mem_cons, if_true, if_false, ite_true, ite_false, Bool.true_and, Bool.and_true, Bool.not_true, Bool.not_false, Bool.false_eq_true, reduceIte, List.getElem?_cons_zero, List.getElem?_cons_succ, List.all_nil, List.all_cons, List.contains_nil, Option.map_some, Option.map_none, Option.bind_some, and_self, and_true, true_and, or_false, false_or, or_true, true_or, Nat.reduceAdd, Nat.reduceSub, Nat.reduceLT, Nat.reduceLeDiff, Nat.reduceEqDiff, Nat.zero_add, eq_self, true_implies, not_false_eq_true, not_true_eq_false, Nat.lt_irrefl, Nat.succ_ne_zero, Nat.lt_add_one, ne_eq, Int.reduceEq, Int.reduceNe, decide_true, decide_false, Nat.zero_lt_succ, Bool.not_eq_true', decide_not, Nat.add_one_ne_zero, Nat.zero_le, Nat.le_refl, Bool.or_true, Bool.or_false, Bool.true_or, Bool.false_or, Bool.and_false, Bool.false_and, Nat.reduceMul, isiB, String.reduceBEq, Bool.or_self, Bool.and_self, reduceCtorEq, isSS, List.contains_cons, Nat.reduceBEq, ix_ll, eq_ln, ne_ln, List.length_map, List.length_range, Int.reduceToNat, Int.reducePow, Int.reduceMul, Int.reduceAdd, Int.reduceSub, Int.reduceNeg, Int.reduceLE, Int.reduceLT, Int.toNat_natCast, Bool.and_eq_true, Bool.or_eq_true, decide_eq_true_eq, Bool.decide_eq_true, rep_d, List.length_append, List.length_reverse, map_snoc, map_app, Int.sub_zero, List.append_assoc, ite_self, a2, tap_safe, b1']
  · obtain ⟨j, hj, rfl⟩ := E.on k hk
    rw [getD_of (hg j hj)]
    have := E.lt ((j + 1) % n) (Nat.mod_lt _ (by omega))
    omega
  · have : ∀ k, k < n → stp gs (w k) = w ((k + 1) % n) := fun k hk => by
      unfold stp
      rw [getD_of (hg k hk)]
      omega
    have q := ring_way (by omega) E this
    rw [← b2.2] at q
    exact q
/-- a comprehension of draws: what is drawn, item by item -/
theorem tab_lc {n : Nat} (hn : n < 1000) (m : Nat) (fe : Ex) (i : Nat) (envF : TapS → Cell → En) (t : TapS)
    (hg : ∀ (t : TapS) (x : Int), gSlot i (.int x) (envF t .no) = some (envF t (.v (.int x))))
    (hf : ∀ (t : TapS) (x : Int), 0 ≤ x → x < n → ∃ (t' : TapS) (y : Int), fe (envF t (.v (.int x))) = .ok (.val (.int y)) (envF t' (.v (.int x))) ∧ 0 ≤ y ∧ y < m)
    (hw : ∀ (t : TapS) (x : Int), wipeE (envF t (.v (.int x))) [i] = envF t .no) :
    ∃ (t' : TapS) (gs : List Int), lcLoop (gSlot i) tYesM fe [i] ((rgI 0 n).map .int) [] (envF t .no) = .ok (gs.map .int) (envF t' .no) ∧ gs.length = n ∧ ∀ x ∈ gs, 0 ≤ x ∧ x < (m : Int) := by
  obtain ⟨acc, e', a1, a2, t', gs, rfl, rfl, a3⟩ := lc_ints (gx := gSlot i) (fe := fe) (is := [i])
    (fun k acc e => ∃ (t' : TapS) (gs : List Int), acc = gs.map .int ∧ e = envF t' .no ∧ ∀ x ∈ gs, 0 ≤ x ∧ x < (m : Int)) (rgI 0 n) (envF t .no) ⟨t, [], rfl, rfl, fun x h => by cases h⟩ (by rw [rgI_len]; omega)
    (fun k x acc e hx hl hI => by
      obtain ⟨t1, gs, rfl, rfl, h1⟩ := hI
      obtain ⟨hk, rfl⟩ := rgI_get0 hx
      obtain ⟨t2, y, h2, h3, h4⟩ := hf t1 (k : Nat) (by omega) (by omega)
      exact ⟨_, _, _, .int y, _, hg t1 _, h2, rfl, t2, gs ++ [y], map_snoc, hw t2 _, fun z hz => by
        rcases List.mem_append.mp hz with hz | hz
        · exact h1 z hz
        · rw [List.mem_singleton.mp hz]; exact ⟨h3, h4⟩⟩)
  rw [List.length_map, rgI_len] at a2
  exact ⟨t', gs, a1, by omega, a3⟩
theorem InR.set {n : Nat} {ns : List Int} (h : InR n ns) (k : Nat) {v : Int} (h0 : 0 ≤ v) (h1 : v < n) : InR n (ns.set k v) :=
  ⟨by rw [List.length_set]; exact h.1, fun x hx => by
    rcases List.mem_or_eq_of_mem_set hx with hx | rfl
    · exact h.2 x hx
    · exact ⟨h0, h1⟩⟩
theorem InR.rg (n : Nat) : InR n (rgI 0 n) := .perm (List.Perm.refl _)
theorem InR.rev {n : Nat} {ns : List Int} (h : InR n ns) : InR n ns.reverse := ⟨by rw [List.length_reverse]; exact h.1, fun x hx => h.2 x (List.mem_reverse.mp hx)⟩
theorem table_eq (t : TapS) {n : Nat} (h1 : 1 ≤ n) (h2 : n < 1000) : ∃ (t' : TapS) (ns : List Int), m_l_table [t.enc, .int n] = .ok (.new (.list (ns.map .int))) [t'.enc] ∧ InR n ns := by
  obtain ⟨d1, d2⟩ := drR_lt t (b := 6) (by decide)
  unfold m_l_table b_l_table
  generalize hk : drR t 6 = k at d1 d2
  have hk2 : m_l_draw [t.enc, .int 6] = .ok (.val (.int k)) [(drT t 6).enc] := hk ▸ draw_eq t (b := 6) (by decide) (by decide)
  generalize drT t 6 = t0 at hk2
  have : k = 0 ∨ k = 1 ∨ k = 2 ∨ k = 3 ∨ k = 4 ∨ k = 5 := by omega
  rcases this with rfl | rfl | rfl | rfl | rfl | rfl
  · obtain ⟨t', ns, a1, a2, _⟩ := turn_eq t0 h1 h2
    refine ⟨t', ns, ?_, a2⟩
    simp (disch := first | assumption | omega | decide) only [ev0, ev1, ev2, ev3, ev4, ev5, ev6, dList, dTup, mutS, borS, argsD, nodupB, putM, frzN, safeOp, safeD, safeDs, wipeE, restore, argCells, List.getD_cons_zero, List.getD_cons_succ, List.set_cons_zero, List.set_cons_succ, List.length_cons, List.length_nil, List.cons_append, List.nil_append, List.append_nil, List.replicate_succ, List.replicate_zero, List.not_mem_nil, List.mem_cons, if_true, if_false, ite_true, ite_false, Bool.true_and, Bool.and_true, Bool.not_true, Bool.not_false, Bool.false_eq_true, reduceIte, List.getElem?_cons_zero, List.getElem?_cons_succ, List.all_nil, List.all_cons, List.contains_nil, Option.map_some, Option.map_none, Option.bind_some, and_self, and_true, true_and, or_false, false_or, or_true, true_or, Nat.reduceAdd, Nat.reduceSub, Nat.reduceLT, Nat.reduceLeDiff, Nat.reduceEqDiff, Nat.zero_add, eq_self, true_implies, not_false_eq_true, not_true_eq_false, Nat.lt_irrefl, Nat.succ_ne_zero, Nat.lt_add_one, ne_eq, Int.reduceEq, Int.reduceNe, decide_true, decide_false, Nat.zero_lt_succ, Bool.not_eq_true', decide_not, Nat.add_one_ne_zero, Nat.zero_le, Nat.le_refl, Bool.or_true, Bool.or_false, Bool.true_or, Bool.false_or, Bool.and_false, Bool.false_and, Nat.reduceMul, isiB, String.reduceBEq, Bool.or_self, Bool.and_self, reduceCtorEq, isSS, List.contains_cons, Nat.reduceBEq, ix_ll, eq_ln, ne_ln, List.length_map, List.length_range, Int.reduceToNat, Int.reducePow, Int.reduceMul, Int.reduceAdd, Int.reduceSub, Int.reduceNeg, Int.reduceLE, Int.reduceLT, Int.toNat_natCast, Bool.and_eq_true, Bool.or_eq_true, decide_eq_true_eq, Bool.decide_eq_true, rep_d, List.length_append, List.length_reverse, map_snoc, map_app, Int.sub_zero, List.append_assoc, ite_self, hk2, tap_safe, a1]
  · obtain ⟨t', ns, a1, a2⟩ := mixed_eq t0 h2
    refine ⟨t', ns, ?_, .perm a1⟩
    simp (disch := first | assumption | omega | decide) only [ev0, ev1, ev2, ev3, ev4, ev5, ev6, dList, dTup, mutS, borS, argsD, nodupB, putM, frzN, safeOp, safeD, safeDs, wipeE, restore, argCells, List.getD_cons_zero, List.getD_cons_succ, List.set_cons_zero, List.set_cons_succ, List.length_cons, List.length_nil, List.cons_append, List.nil_append, List.append_nil, List.replicate_succ, List.replicate_zero, List.not_mem_nil, List.mem_cons, if_true, if_false, ite_true, ite_false, Bool.true_and, Bool.and_true, Bool.not_true, Bool.not_false, Bool.false_eq_true, reduceIte, List.getElem?_cons_zero, List.getElem?_cons_succ, List.all_nil, List.all_cons, List.contains_nil, Option.map_some, Option.map_none, Option.bind_some, and_self, and_true, true_and, or_false, false_or, or_true, true_or, Nat.reduceAdd, Nat.reduceSub, Nat.reduceLT, Nat.reduceLeDiff, Nat.reduceEqDiff, Nat.zero_add, eq_self, true_implies, not_false_eq_true, not_true_eq_false, Nat.lt_irrefl, Nat.succ_ne_zero, Nat.lt_add_one, ne_eq, Int.reduceEq, Int.reduceNe, decide_true, decide_false, Nat.zero_lt_succ, Bool.not_eq_true', decide_not, Nat.add_one_ne_zero, Nat.zero_le, Nat.le_refl, Bool.or_true, Bool.or_false, Bool.true_or, Bool.false_or, Bool.and_false, Bool.false_and, Nat.reduceMul, isiB, String.reduceBEq, Bool.or_self, Bool.and_self, reduceCtorEq, isSS, List.contains_cons, Nat.reduceBEq, ix_ll, eq_ln, ne_ln, List.length_map, List.length_range, Int.reduceToNat, Int.reducePow, Int.reduceMul, Int.reduceAdd, Int.reduceSub, Int.reduceNeg, Int.reduceLE, Int.reduceLT, Int.toNat_natCast, Bool.and_eq_true, Bool.or_eq_true, decide_eq_true_eq, Bool.decide_eq_true, rep_d, List.length_append, List.length_reverse, map_snoc, map_app, Int.sub_zero, List.append_assoc, ite_self, hk2, tap_safe, a2]
  · obtain ⟨t1, gs, a1, a2, a3⟩ := tab_lc (n := 2) (by decide) n x_l_table_1 5 (fun t c => [.par t.enc, .v (.int n), .v (.int 2), .no, .no, c, .no]) t0 (fun t x => by simp (disch := first | assumption | omega | decide) only [ev0, ev1, ev2, ev3, ev4, ev5, ev6, dList, dTup, mutS, borS, argsD, nodupB, putM, frzN, safeOp, safeD, safeDs, wipeE, restore, argCells, List.getD_cons_zero, List.getD_cons_succ, List.set_cons_zero, List.set_cons_succ, List.length_cons, List.length_nil, List.cons_append, List.nil_append, List.append_nil, List.replicate_succ, List.replicate_zero, List.not_mem_nil, List.mem_cons, if_true, if_false, ite_true, ite_false, Bool.true_and, Bool.and_true, Bool.not_true, Bool.not_false, Bool.false_eq_true, reduceIte, List.getElem?_cons_zero, List.getElem?_cons_succ, List.all_nil, List.all_cons, List.contains_nil, Option.map_some, Option.map_none, Option.bind_some, and_self, and_true, true_and, or_false, false_or, or_true, true_or, Nat.reduceAdd, Nat.reduceSub, Nat.reduceLT, Nat.reduceLeDiff, Nat.reduceEqDiff, Nat.zero_add, eq_self, true_implies, not_false_eq_true, not_true_eq_false, Nat.lt_irrefl, Nat.succ_ne_zero, Nat.lt_add_one, ne_eq, Int.reduceEq, Int.reduceNe, decide_true, decide_false, Nat.zero_lt_succ, Bool.not_eq_true', decide_not, Nat.add_one_ne_zero, Nat.zero_le, Nat.le_refl, Bool.or_true, Bool.or_false, Bool.true_or, Bool.false_or, Bool.and_false, Bool.false_and, Nat.reduceMul, isiB, String.reduceBEq, Bool.or_self, Bool.and_self, reduceCtorEq, isSS, List.contains_cons, Nat.reduceBEq, ix_ll, eq_ln, ne_ln, List.length_map, List.length_range, Int.reduceToNat, Int.reducePow, Int.reduceMul, Int.reduceAdd, Int.reduceSub, Int.reduceNeg, Int.reduceLE, Int.reduceLT, Int.toNat_natCast, Bool.and_eq_true, Bool.or_eq_true, decide_eq_true_eq, Bool.decide_eq_true, rep_d, List.length_append, List.length_reverse, map_snoc, map_app, Int.sub_zero, List.append_assoc, ite_self]) (fun t x _ _ => by
      obtain ⟨r1, r2⟩ := drR_lt t (b := n) (by omega)
      refine ⟨drT t n, drR t n, ?_, r1, r2⟩
      unfold x_l_table_1
      simp (disch := first | assumption | omega | decide) only [ev0, ev1, ev2, ev3, ev4, ev5, ev6, dList, dTup, mutS, borS, argsD, nodupB, putM, frzN, safeOp, safeD, safeDs, wipeE, restore, argCells, List.getD_cons_zero, List.getD_cons_succ, List.set_cons_zero, List.set_cons_succ, List.length_cons, List.length_nil, List.cons_append, List.nil_append, List.append_nil, List.replicate_succ, List.replicate_zero, List.not_mem_nil, List.mem_cons, if_true, if_false, ite_true, ite_false, Bool.true_and, Bool.and_true, Bool.not_true, Bool.not_false, Bool.false_eq_true, reduceIte, List.getElem?_cons_zero, List.getElem?_cons_succ, List.all_nil, List.all_cons, List.contains_nil, Option.map_some, Option.map_none, Option.bind_some, and_self, and_true, true_and, or_false, false_or, or_true, true_or, Nat.reduceAdd, Nat.reduceSub, Nat.reduceLT, Nat.reduceLeDiff, Nat.reduceEqDiff, Nat.zero_add, eq_self, true_implies, not_false_eq_true, not_true_eq_false, Nat.lt_irrefl, Nat.succ_ne_zero, Nat.lt_add_one, ne_eq, Int.reduceEq, Int.reduceNe, decide_true, decide_false, Nat.zero_lt_succ, Bool.not_eq_true', decide_not, Nat.add_one_ne_zero, Nat.zero_le, Nat.le_refl, Bool.or_true, Bool.or_false, Bool.true_or, Bool.false_or, Bool.and_false, Bool.false_and, Nat.reduceMul, isiB, String.reduceBEq, Bool.or_self, Bool.and_self, reduceCtorEq, isSS, List.contains_cons, Nat.reduceBEq, ix_ll, eq_ln, ne_ln, List.length_map, List.length_range, Int.reduceToNat, Int.reducePow, Int.reduceMul, Int.reduceAdd, Int.reduceSub, Int.reduceNeg, Int.reduceLE, Int.reduceLT, Int.toNat_natCast, Bool.and_eq_true, Bool.or_eq_true, decide_eq_true_eq, Bool.decide_eq_true, rep_d, List.length_append, List.length_reverse, map_snoc, map_app, Int.sub_zero, List.append_assoc, ite_self, draw_eq, tap_safe]) (fun t x => by simp (disch := first | assumption | omega | decide) only [ev0, ev1, ev2, ev3, ev4, ev5, ev6, dList, dTup, mutS, borS, argsD, nodupB, putM, frzN, safeOp, safeD, safeDs, wipeE, restore, argCells, List.getD_cons_zero, List.getD_cons_succ, List.set_cons_zero, List.set_cons_succ, List.length_cons, List.length_nil, List.cons_append, List.nil_append, List.append_nil, List.replicate_succ, List.replicate_zero, List.not_mem_nil, List.mem_cons, if_true, if_false, ite_true, ite_false, Bool.true_and, Bool.and_true, Bool.not_true, Bool.not_false, Bool.false_eq_true, reduceIte, List.getElem?_cons_zero, List.getElem?_cons_succ, List.all_nil, List.all_cons, List.contains_nil, Option.map_some, Option.map_none, Option.bind_some, and_self, and_true, true_and, or_false, false_or, or_true, true_or, Nat.reduceAdd, Nat.reduceSub, Nat.reduceLT, Nat.reduceLeDiff, Nat.reduceEqDiff, Nat.zero_add, eq_self, true_implies, not_false_eq_true, not_true_eq_false, Nat.lt_irrefl, Nat.succ_ne_zero, Nat.lt_add_one, ne_eq, Int.reduceEq, Int.reduceNe, decide_true, decide_false, Nat.zero_lt_succ, Bool.not_eq_true', decide_not, Nat.add_one_ne_zero, Nat.zero_le, Nat.le_refl, Bool.or_true, Bool.or_false, Bool.true_or, Bool.false_or, Bool.and_false, Bool.false_and, Nat.reduceMul, isiB, String.reduceBEq, Bool.or_self, Bool.and_self, reduceCtorEq, isSS, List.contains_cons, Nat.reduceBEq, ix_ll, eq_ln, ne_ln, List.length_map, List.length_range, Int.reduceToNat, Int.reducePow, Int.reduceMul, Int.reduceAdd, Int.reduceSub, Int.reduceNeg, Int.reduceLE, Int.reduceLT, Int.toNat_natCast, Bool.and_eq_true, Bool.or_eq_true, decide_eq_true_eq, Bool.decide_eq_true, rep_d, List.length_append, List.length_reverse, map_snoc, map_app, Int.sub_zero, List.append_assoc, ite_self])
    rw [show ((2 : Nat) : Int) = 2 from rfl] at a1
    obtain ⟨t2, hs, b1, b2, b3⟩ := tab_lc (n := n) h2 n x_l_table_2 6 (fun t c => [.par t.enc, .v (.int n), .v (.int 2), .own (.list (gs.map .int)), .no, .no, c]) t1 (fun t x => by simp (disch := first | assumption | omega | decide) only [ev0, ev1, ev2, ev3, ev4, ev5, ev6, dList, dTup, mutS, borS, argsD, nodupB, putM, frzN, safeOp, safeD, safeDs, wipeE, restore, argCells, List.getD_cons_zero, List.getD_cons_succ, List.set_cons_zero, List.set_cons_succ, List.length_cons, List.length_nil, List.cons_append, List.nil_append, List.append_nil, List.replicate_succ, List.replicate_zero, List.not_mem_nil, List.mem_cons, if_true, if_false, ite_true, ite_false, Bool.true_and, Bool.and_true, Bool.not_true, Bool.not_false, Bool.false_eq_true, reduceIte, List.getElem?_cons_zero, List.getElem?_cons_succ, List.all_nil, List.all_cons, List.contains_nil, Option.map_some, Option.map_none, Option.bind_some, and_self, and_true, true_and, or_false, false_or, or_true, true_or, Nat.reduceAdd, Nat.reduceSub, Nat.reduceLT, Nat.reduceLeDiff, Nat.reduceEqDiff, Nat.zero_add, eq_self, true_implies, not_false_eq_true, not_true_eq_false, Nat.lt_irrefl, Nat.succ_ne_zero, Nat.lt_add_one, ne_eq, Int.reduceEq, Int.reduceNe, decide_true, decide_false, Nat.zero_lt_succ, Bool.not_eq_true', decide_not, Nat.add_one_ne_zero, Nat.zero_le, Nat.le_refl, Bool.or_true, Bool.or_false, Bool.true_or, Bool.false_or, Bool.and_false, Bool.false_and, Nat.reduceMul, isiB, String.reduceBEq, Bool.or_self, Bool.and_self, reduceCtorEq, isSS, List.contains_cons, Nat.reduceBEq, ix_ll, eq_ln, ne_ln, List.length_map, List.length_range, Int.reduceToNat, Int.reducePow, Int.reduceMul, Int.reduceAdd, Int.reduceSub, Int.reduceNeg, Int.reduceLE, Int.reduceLT, Int.toNat_natCast, Bool.and_eq_true, Bool.or_eq_true, decide_eq_true_eq, Bool.decide_eq_true, rep_d, List.length_append, List.length_reverse, map_snoc, map_app, Int.sub_zero, List.append_assoc, ite_self]) (fun t x _ _ => by
      obtain ⟨r1, r2⟩ := drR_lt t (b := 2) (by omega)
      have hm := a3 _ (gd_mem (xs := gs) r1 (by omega))
      refine ⟨drT t 2, gs.getD (drR t 2).toNat 0, ?_, hm.1, hm.2⟩
      unfold x_l_table_2
      simp (disch := first | assumption | omega | decide) only [ev0, ev1, ev2, ev3, ev4, ev5, ev6, dList, dTup, mutS, borS, argsD, nodupB, putM, frzN, safeOp, safeD, safeDs, wipeE, restore, argCells, List.getD_cons_zero, List.getD_cons_succ, List.set_cons_zero, List.set_cons_succ, List.length_cons, List.length_nil, List.cons_append, List.nil_append, List.append_nil, List.replicate_succ, List.replicate_zero, List.not_mem_nil, List.mem_cons, if_true, if_false, ite_true, ite_false, Bool.true_and, Bool.and_true, Bool.not_true, Bool.not_false, Bool.false_eq_true, reduceIte, List.getElem?_cons_zero, List.getElem?_cons_succ, List.all_nil, List.all_cons, List.contains_nil, Option.map_some, Option.map_none, Option.bind_some, and_self, and_true, true_and, or_false, false_or, or_true, true_or, Nat.reduceAdd, Nat.reduceSub, Nat.reduceLT, Nat.reduceLeDiff, Nat.reduceEqDiff, Nat.zero_add, eq_self, true_implies, not_false_eq_true, not_true_eq_false, Nat.lt_irrefl, Nat.succ_ne_zero, Nat.lt_add_one, ne_eq, Int.reduceEq, Int.reduceNe, decide_true, decide_false, Nat.zero_lt_succ, Bool.not_eq_true', decide_not, Nat.add_one_ne_zero, Nat.zero_le, Nat.le_refl, Bool.or_true, Bool.or_false, Bool.true_or, Bool.false_or, Bool.and_false, Bool.false_and, Nat.reduceMul, isiB, String.reduceBEq, Bool.or_self, Bool.and_self, reduceCtorEq, isSS, List.contains_cons, Nat.reduceBEq, ix_ll, eq_ln, ne_ln, List.length_map, List.length_range, Int.reduceToNat, Int.reducePow, Int.reduceMul, Int.reduceAdd, Int.reduceSub, Int.reduceNeg, Int.reduceLE, Int.reduceLT, Int.toNat_natCast, Bool.and_eq_true, Bool.or_eq_true, decide_eq_true_eq, Bool.decide_eq_true, rep_d, List.length_append, List.length_reverse, map_snoc, map_app, Int.sub_zero, List.append_assoc, ite_self, draw_eq, tap_safe]) (fun t x => by simp (disch := first | assumption | omega | decide) only [ev0, ev1, ev2, ev3, ev4, ev5, ev6, dList, dTup, mutS, borS, argsD, nodupB, putM, frzN, safeOp, safeD, safeDs, wipeE, restore, argCells, List.getD_cons_zero, List.getD_cons_succ, List.set_cons_zero, List.set_cons_succ, List.length_cons, List.length_nil, List.cons_append, List.nil_append, List.append_nil, List.replicate_succ, List.replicate_zero, List.not_mem_nil, List.mem_cons, if_true, if_false, ite_true, ite_false, Bool.true_and, Bool.and_true, Bool.not_true, Bool.not_false, Bool.false_eq_true, reduceIte, List.getElem?_cons_zero, List.getElem?_cons_succ, List.all_nil, List.all_cons, List.contains_nil, Option.map_some, Option.map_none, Option.bind_some, and_self, and_true, true_and, or_false, false_or, or_true, true_or, Nat.reduceAdd, Nat.reduceSub, Nat.reduceLT, Nat.reduceLeDiff, Nat.reduceEqDiff, Nat.zero_add, eq_self, true_implies, not_false_eq_true, not_true_eq_false, Nat.lt_irrefl, Nat.succ_ne_zero, Nat.lt_add_one, ne_eq, Int.reduceEq, Int.reduceNe, decide_true, decide_false, Nat.zero_lt_succ, Bool.not_eq_true', decide_not, Nat.add_one_ne_zero, Nat.zero_le, Nat.le_refl, Bool.or_true, Bool.or_false, Bool.true_or, Bool.false_or, Bool.and_false, Bool.false_and, Nat.reduceMul, isiB, String.reduceBEq, Bool.or_self, Bool.and_self, reduceCtorEq, isSS, List.contains_cons, Nat.reduceBEq, ix_ll, eq_ln, ne_ln, List.length_map, List.length_range, Int.reduceToNat, Int.reducePow, Int.reduceMul, Int.reduceAdd, Int.reduceSub, Int.reduceNeg, Int.reduceLE, Int.reduceLT, Int.toNat_natCast, Bool.and_eq_true, Bool.or_eq_true, decide_eq_true_eq, Bool.decide_eq_true, rep_d, List.length_append, List.length_reverse, map_snoc, map_app, Int.sub_zero, List.append_assoc, ite_self])
    refine ⟨t2, hs, ?_, b2, b3⟩
    simp (disch := first | assumption | omega | decide) only [ev0, ev1, ev2, ev3, ev4, ev5, ev6, dList, dTup, mutS, borS, argsD, nodupB, putM, frzN, safeOp, safeD, safeDs, wipeE, restore, argCells, List.getD_cons_zero, List.getD_cons_succ, List.set_cons_zero, List.set_cons_succ, List.length_cons, List.length_nil, List.cons_append, List.nil_append, List.append_nil, List.replicate_succ, List.replicate_zero, List.not_mem_nil, List.mem_cons, if_true, if_false, ite_true, ite_false, Bool.true_and, Bool.and_true, Bool.not_true, Bool.not_false, Bool.false_eq_true, reduceIte, List.getElem?_cons_zero, List.getElem?_cons_succ, List.all_nil, List.all_cons, List.contains_nil, Option.map_some, Option.map_none, Option.bind_some, and_self, and_true, true_and, or_false, false_or, or_true, true_or, Nat.reduceAdd, Nat.reduceSub, Nat.reduceLT, Nat.reduceLeDiff, Nat.reduceEqDiff, Nat.zero_add, eq_self, true_implies, not_false_eq_true, not_true_eq_false, Nat.lt_irrefl, Nat.succ_ne_zero, Nat.lt_add_one, ne_eq, Int.reduceEq, Int.reduceNe, decide_true, decide_false, Nat.zero_lt_succ, Bool.not_eq_true', decide_not, Nat.add_one_ne_zero, Nat.zero_le, Nat.le_refl, Bool.or_true, Bool.or_false, Bool.true_or, Bool.false_or, Bool.and_false, Bool.false_and, Nat.reduceMul, isiB, String.reduceBEq, Bool.or_self, Bool.and_self, reduceCtorEq, isSS, List.contains_cons, Nat.reduceBEq, ix_ll, eq_ln, ne_ln, List.length_map, List.length_range, Int.reduceToNat, Int.reducePow, Int.reduceMul, Int.reduceAdd, Int.reduceSub, Int.reduceNeg, Int.reduceLE, Int.reduceLT, Int.toNat_natCast, Bool.and_eq_true, Bool.or_eq_true, decide_eq_true_eq, Bool.decide_eq_true, rep_d, List.length_append, List.length_reverse, map_snoc, map_app, Int.sub_zero, List.append_assoc, ite_self, hk2, tap_safe, a1, b1]
  · obtain ⟨t2, hs, b1, b2, b3⟩ := tab_lc (n := n) h2 n x_l_table_3 6 (fun t c => [.par t.enc, .v (.int n), .v (.int 3), .no, .no, .no, c]) t0 (fun t x => by simp (disch := first | assumption | omega | decide) only [ev0, ev1, ev2, ev3, ev4, ev5, ev6, dList, dTup, mutS, borS, argsD, nodupB, putM, frzN, safeOp, safeD, safeDs, wipeE, restore, argCells, List.getD_cons_zero, List.getD_cons_succ, List.set_cons_zero, List.set_cons_succ, List.length_cons, List.length_nil, List.cons_append, List.nil_append, List.append_nil, List.replicate_succ, List.replicate_zero, List.not_mem_nil, List.mem_cons, if_true, if_false, ite_true, ite_false, Bool.true_and, Bool.and_true, Bool.not_true, Bool.not_false, Bool.false_eq_true, reduceIte, List.getElem?_cons_zero, List.getElem?_cons_succ, List.all_nil, List.all_cons, List.contains_nil, Option.map_some, Option.map_none, Option.bind_some, and_self, and_true, true_and, or_false, false_or, or_true, true_or, Nat.reduceAdd, Nat.reduceSub, Nat.reduceLT, Nat.reduceLeDiff, Nat.reduceEqDiff, Nat.zero_add, eq_self, true_implies, not_false_eq_true, not_true_eq_false, Nat.lt_irrefl, Nat.succ_ne_zero, Nat.lt_add_one, ne_eq, Int.reduceEq, Int.reduceNe, decide_true, decide_false, Nat.zero_lt_succ, Bool.not_eq_true', decide_not, Nat.add_one_ne_zero, Nat.zero_le, Nat.le_refl, Bool.or_true, Bool.or_false, Bool.true_or, Bool.false_or, Bool.and_false, Bool.false_and, Nat.reduceMul, isiB, String.reduceBEq, Bool.or_self, Bool.and_self, reduceCtorEq, isSS, List.contains_cons, Nat.reduceBEq, ix_ll, eq_ln, ne_ln, List.length_map, List.length_range, Int.reduceToNat, Int.reducePow, Int.reduceMul, Int.reduceAdd, Int.reduceSub, Int.reduceNeg, Int.reduceLE, Int.reduceLT, Int.toNat_natCast, Bool.and_eq_true, Bool.or_eq_true, decide_eq_true_eq, Bool.decide_eq_true, rep_d, List.length_append, List.length_reverse, map_snoc, map_app, Int.sub_zero, List.append_assoc, ite_self]) (fun t x x0 x1 => by
      obtain ⟨r1, r2⟩ := drR_lt t (b := 3) (by omega)
      refine ⟨drT t 3, _, by
        unfold x_l_table_3
        simp (disch := first | assumption | omega | decide) only [ev0, ev1, ev2, ev3, ev4, ev5, ev6, dList, dTup, mutS, borS, argsD, nodupB, putM, frzN, safeOp, safeD, safeDs, wipeE, restore, argCells, List.getD_cons_zero, List.getD_cons_succ, List.set_cons_zero, List.set_cons_succ, List.length_cons, List.length_nil, List.cons_append, List.nil_append, List.append_nil, List.replicate_succ, List.replicate_zero, List.not_mem_nil, List.mem_cons, if_true, if_false, ite_true, ite_false, Bool.true_and, Bool.and_true, Bool.not_true, Bool.not_false, Bool.false_eq_true, reduceIte, List.getElem?_cons_zero, List.getElem?_cons_succ, List.all_nil, List.all_cons, List.contains_nil, Option.map_some, Option.map_none, Option.bind_some, and_self, and_true, true_and, or_false, false_or, or_true, true_or, Nat.reduceAdd, Nat.reduceSub, Nat.reduceLT, Nat.reduceLeDiff, Nat.reduceEqDiff, Nat.zero_add, eq_self, true_implies, not_false_eq_true, not_true_eq_false, Nat.lt_irrefl, Nat.succ_ne_zero, Nat.lt_add_one, ne_eq, Int.reduceEq, Int.reduceNe, decide_true, decide_false, Nat.zero_lt_succ, Bool.not_eq_true', decide_not, Nat.add_one_ne_zero, Nat.zero_le, Nat.le_refl, Bool.or_true, Bool.or_false, Bool.true_or, Bool.false_or, Bool.and_false, Bool.false_and, Nat.reduceMul, isiB, String.reduceBEq, Bool.or_self, Bool.and_self, reduceCtorEq, isSS, List.contains_cons, Nat.reduceBEq, ix_ll, eq_ln, ne_ln, List.length_map, List.length_range, Int.reduceToNat, Int.reducePow, Int.reduceMul, Int.reduceAdd, Int.reduceSub, Int.reduceNeg, Int.reduceLE, Int.reduceLT, Int.toNat_natCast, Bool.and_eq_true, Bool.or_eq_true, decide_eq_true_eq, Bool.decide_eq_true, rep_d, List.length_append, List.length_reverse, map_snoc, map_app, Int.sub_zero, List.append_assoc, ite_self, draw_eq, tap_safe] <;> rfl, ?_, ?_⟩
      · split <;> split <;> omega
      · split <;> split <;> omega) (fun t x => by simp (disch := first | assumption | omega | decide) only [ev0, ev1, ev2, ev3, ev4, ev5, ev6, dList, dTup, mutS, borS, argsD, nodupB, putM, frzN, safeOp, safeD, safeDs, wipeE, restore, argCells, List.getD_cons_zero, List.getD_cons_succ, List.set_cons_zero, List.set_cons_succ, List.length_cons, List.length_nil, List.cons_append, List.nil_append, List.append_nil, List.replicate_succ, List.replicate_zero, List.not_mem_nil, List.mem_cons, if_true, if_false, ite_true, ite_false, Bool.true_and, Bool.and_true, Bool.not_true, Bool.not_false, Bool.false_eq_true, reduceIte, List.getElem?_cons_zero, List.getElem?_cons_succ, List.all_nil, List.all_cons, List.contains_nil, Option.map_some, Option.map_none, Option.bind_some, and_self, and_true, true_and, or_false, false_or, or_true, true_or, Nat.reduceAdd, Nat.reduceSub, Nat.reduceLT, Nat.reduceLeDiff, Nat.reduceEqDiff, Nat.zero_add, eq_self, true_implies, not_false_eq_true, not_true_eq_false, Nat.lt_irrefl, Nat.succ_ne_zero, Nat.lt_add_one, ne_eq, Int.reduceEq, Int.reduceNe, decide_true, decide_false, Nat.zero_lt_succ, Bool.not_eq_true', decide_not, Nat.add_one_ne_zero, Nat.zero_le, Nat.le_refl, Bool.or_true, Bool.or_false, Bool.true_or, Bool.false_or, Bool.and_false, Bool.false_and, Nat.reduceMul, isiB, String.reduceBEq, Bool.or_self, Bool.and_self, reduceCtorEq, isSS, List.contains_cons, Nat.reduceBEq, ix_ll, eq_ln, ne_ln, List.length_map, List.length_range, Int.reduceToNat, Int.reducePow, Int.reduceMul, Int.reduceAdd, Int.reduceSub, Int.reduceNeg, Int.reduceLE, Int.reduceLT, Int.toNat_natCast, Bool.and_eq_true, Bool.or_eq_true, decide_eq_true_eq, Bool.decide_eq_true, rep_d, List.length_append, List.length_reverse, map_snoc, map_app, Int.sub_zero, List.append_assoc, ite_self])
    refine ⟨t2, hs, ?_, b2, b3⟩
    simp (disch := first | assumption | omega | decide) only [ev0, ev1, ev2, ev3, ev4, ev5, ev6, dList, dTup, mutS, borS, argsD, nodupB, putM, frzN, safeOp, safeD, safeDs, wipeE, restore, argCells, List.getD_cons_zero, List.getD_cons_succ, List.set_cons_zero, List.set_cons_succ, List.length_cons, List.length_nil, List.cons_append, List.nil_append, List.append_nil, List.replicate_succ, List.replicate_zero, List.not_mem_nil, List.mem_cons, if_true, if_false, ite_true, ite_false, Bool.true_and, Bool.and_true, Bool.not_true, Bool.not_false, Bool.false_eq_true, reduceIte, List.getElem?_cons_zero, List.getElem?_cons_succ, List.all_nil, List.all_cons, List.contains_nil, Option.map_some, Option.map_none, Option.bind_some, and_self, and_true, true_and, or_false, false_or, or_true, true_or, Nat.reduceAdd, Nat.reduceSub, Nat.reduceLT, Nat.reduceLeDiff, Nat.reduceEqDiff, Nat.zero_add, eq_self, true_implies, not_false_eq_true, not_true_eq_false, Nat.lt_irrefl, Nat.succ_ne_zero, Nat.lt_add_one, ne_eq, Int.reduceEq, Int.reduceNe, decide_true, decide_false, Nat.zero_lt_succ, Bool.not_eq_true', decide_not, Nat.add_one_ne_zero, Nat.zero_le, Nat.le_refl, Bool.or_true, Bool.or_false, Bool.true_or, Bool.false_or, Bool.and_false, Bool.false_and, Nat.reduceMul, isiB, String.reduceBEq, Bool.or_self, Bool.and_self, reduceCtorEq, isSS, List.contains_cons, Nat.reduceBEq, ix_ll, eq_ln, ne_ln, List.length_map, List.length_range, Int.reduceToNat, Int.reducePow, Int.reduceMul, Int.reduceAdd, Int.reduceSub, Int.reduceNeg, Int.reduceLE, Int.reduceLT, Int.toNat_natCast, Bool.and_eq_true, Bool.or_eq_true, decide_eq_true_eq, Bool.decide_eq_true, rep_d, List.length_append, List.length_reverse, map_snoc, map_app, Int.sub_zero, List.append_assoc, ite_self, hk2, tap_safe, b1]
  · obtain ⟨r1, r2⟩ := drR_lt t0 (b := 2) (by omega)
    generalize hns : (if drR t0 2 = 0 then rgI 0 n else (rgI 0 n).reverse) = ns0
    have hn0 : InR n ns0 := by
      rw [← hns]
      split
      · exact .rg n
      · exact (InR.rg n).rev
    obtain ⟨e', b1, t1, ns, c, rfl, b2, b3⟩ := for_ints (g := gSlot 5) (s := f_l_table_1)
      (fun k e => ∃ (t1 : TapS) (ns : List Int) (c : Cell), e = [.par t1.enc, .v (.int n), .v (.int 4), .no, .own (.list (ns.map .int)), c, .no] ∧ isPar c = false ∧ InR n ns)
      (rgI 0 (drR (drT t0 2) 3)) [.par (drT (drT t0 2) 3).enc, .v (.int n), .v (.int 4), .no, .own (.list (ns0.map .int)), .no, .no]
      ⟨_, ns0, _, rfl, rfl, hn0⟩ (fun i x e hx hI => by
        obtain ⟨t1, ns, c, rfl, hc, h3⟩ := hI
        obtain ⟨p1, p2⟩ := drR_lt t1 (b := n) (by omega)
        obtain ⟨q1, q2⟩ := drR_lt (drT t1 n) (b := n) (by omega)
        have hl := h3.1
        refine ⟨_, by simp (disch := first | assumption | omega | decide) only [ev0, ev1, ev2, ev3, ev4, ev5, ev6, dList, dTup, mutS, borS, argsD, nodupB, putM, frzN, safeOp, safeD, safeDs, wipeE, restore, argCells, List.getD_cons_zero, List.getD_cons_succ, List.set_cons_zero, List.set_cons_succ, List.length_cons, List.length_nil, List.cons_append, List.nil_append, List.append_nil, List.replicate_succ, List.replicate_zero, List.not_mem_nil, List.mem_cons, if_true, if_false, ite_true, ite_false, Bool.true_and, Bool.and_true, Bool.not_true, Bool.not_false, Bool.false_eq_true, reduceIte, List.getElem?_cons_zero, List.getElem?_cons_succ, List.all_nil, List.all_cons, List.contains_nil, Option.map_some, Option.map_none, Option.bind_some, and_self, and_true, true_and, or_false, false_or, or_true, true_or, Nat.reduceAdd, Nat.reduceSub, Nat.reduceLT, Nat.reduceLeDiff, Nat.reduceEqDiff, Nat.zero_add, eq_self, true_implies, not_false_eq_true, not_true_eq_false, Nat.lt_irrefl, Nat.succ_ne_zero, Nat.lt_add_one, ne_eq, Int.reduceEq, Int.reduceNe, decide_true, decide_false, Nat.zero_lt_succ, Bool.not_eq_true', decide_not, Nat.add_one_ne_zero, Nat.zero_le, Nat.le_refl, Bool.or_true, Bool.or_false, Bool.true_or, Bool.false_or, Bool.and_false, Bool.false_and, Nat.reduceMul, isiB, String.reduceBEq, Bool.or_self, Bool.and_self, reduceCtorEq, isSS, List.contains_cons, Nat.reduceBEq, ix_ll, eq_ln, ne_ln, List.length_map, List.length_range, Int.reduceToNat, Int.reducePow, Int.reduceMul, Int.reduceAdd, Int.reduceSub, Int.reduceNeg, Int.reduceLE, Int.reduceLT, Int.toNat_natCast, Bool.and_eq_true, Bool.or_eq_true, decide_eq_true_eq, Bool.decide_eq_true, rep_d, List.length_append, List.length_reverse, map_snoc, map_app, Int.sub_zero, List.append_assoc, ite_self, hc] <;> rfl, _, .inl (by
          unfold f_l_table_1
          simp (disch := first | assumption | omega | decide) only [ev0, ev1, ev2, ev3, ev4, ev5, ev6, dList, dTup, mutS, borS, argsD, nodupB, putM, frzN, safeOp, safeD, safeDs, wipeE, restore, argCells, List.getD_cons_zero, List.getD_cons_succ, List.set_cons_zero, List.set_cons_succ, List.length_cons, List.length_nil, List.cons_append, List.nil_append, List.append_nil, List.replicate_succ, List.replicate_zero, List.not_mem_nil, List.mem_cons, if_true, if_false, ite_true, ite_false, Bool.true_and, Bool.and_true, Bool.not_true, Bool.not_false, Bool.false_eq_true, reduceIte, List.getElem?_cons_zero, List.getElem?_cons_succ, List.all_nil, List.all_cons, List.contains_nil, Option.map_some, Option.map_none, Option.bind_some, and_self, and_true, true_and, or_false, false_or, or_true, true_or, Nat.reduceAdd, Nat.reduceSub, Nat.reduceLT, Nat.reduceLeDiff, Nat.reduceEqDiff, Nat.zero_add, eq_self, true_implies, not_false_eq_true, not_true_eq_false, Nat.lt_irrefl, Nat.succ_ne_zero, Nat.lt_add_one, ne_eq, Int.reduceEq, Int.reduceNe, decide_true, decide_false, Nat.zero_lt_succ, Bool.not_eq_true', decide_not, Nat.add_one_ne_zero, Nat.zero_le, Nat.le_refl, Bool.or_true, Bool.or_false, Bool.true_or, Bool.false_or, Bool.and_false, Bool.false_and, Nat.reduceMul, isiB, String.reduceBEq, Bool.or_self, Bool.and_self, reduceCtorEq, isSS, List.contains_cons, Nat.reduceBEq, ix_ll, eq_ln, ne_ln, List.length_map, List.length_range, Int.reduceToNat, Int.reducePow, Int.reduceMul, Int.reduceAdd, Int.reduceSub, Int.reduceNeg, Int.reduceLE, Int.reduceLT, Int.toNat_natCast, Bool.and_eq_true, Bool.or_eq_true, decide_eq_true_eq, Bool.decide_eq_true, rep_d, List.length_append, List.length_reverse, map_snoc, map_app, Int.sub_zero, List.append_assoc, ite_self, draw_eq, tap_safe] <;> rfl), _, _, _, rfl, rfl, h3.set _ p1 p2⟩)
    obtain ⟨s1, s2⟩ := drR_lt (drT t0 2) (b := 3) (by omega)
    refine ⟨t1, ns, ?_, b3⟩
    by_cases hz : drR t0 2 = 0
    · rw [if_pos hz] at hns
      subst hns
      simp (disch := first | assumption | omega | decide) only [ev0, ev1, ev2, ev3, ev4, ev5, ev6, dList, dTup, mutS, borS, argsD, nodupB, putM, frzN, safeOp, safeD, safeDs, wipeE, restore, argCells, List.getD_cons_zero, List.getD_cons_succ, List.set_cons_zero, List.set_cons_succ, List.length_cons, List.length_nil, List.cons_append, List.nil_append, List.append_nil, List.replicate_succ, List.replicate_zero, List.not_mem_nil, List.mem_cons, if_true, if_false, ite_true, ite_false, Bool.true_and, Bool.and_true, Bool.not_true, Bool.not_false, Bool.false_eq_true, reduceIte, List.getElem?_cons_zero, List.getElem?_cons_succ, List.all_nil, List.all_cons, List.contains_nil, Option.map_some, Option.map_none, Option.bind_some, and_self, and_true, true_and, or_false, false_or, or_true, true_or, Nat.reduceAdd, Nat.reduceSub, Nat.reduceLT, Nat.reduceLeDiff, Nat.reduceEqDiff, Nat.zero_add, eq_self, true_implies, not_false_eq_true, not_true_eq_false, Nat.lt_irrefl, Nat.succ_ne_zero, Nat.lt_add_one, ne_eq, Int.reduceEq, Int.reduceNe, decide_true, decide_false, Nat.zero_lt_succ, Bool.not_eq_true', decide_not, Nat.add_one_ne_zero, Nat.zero_le, Nat.le_refl, Bool.or_true, Bool.or_false, Bool.true_or, Bool.false_or, Bool.and_false, Bool.false_and, Nat.reduceMul, isiB, String.reduceBEq, Bool.or_self, Bool.and_self, reduceCtorEq, isSS, List.contains_cons, Nat.reduceBEq, ix_ll, eq_ln, ne_ln, List.length_map, List.length_range, Int.reduceToNat, Int.reducePow, Int.reduceMul, Int.reduceAdd, Int.reduceSub, Int.reduceNeg, Int.reduceLE, Int.reduceLT, Int.toNat_natCast, Bool.and_eq_true, Bool.or_eq_true, decide_eq_true_eq, Bool.decide_eq_true, rep_d, List.length_append, List.length_reverse, map_snoc, map_app, Int.sub_zero, List.append_assoc, ite_self, hk2, tap_safe, draw_eq, if_pos hz, b1]
    · rw [if_neg hz] at hns
      subst hns
      simp (disch := first | assumption | omega | decide) only [ev0, ev1, ev2, ev3, ev4, ev5, ev6, dList, dTup, mutS, borS, argsD, nodupB, putM, frzN, safeOp, safeD, safeDs, wipeE, restore, argCells, List.getD_cons_zero, List.getD_cons_succ, List.set_cons_zero, List.set_cons_succ, List.length_cons, List.length_nil, List.cons_append, List.nil_append, List.append_nil, List.replicate_succ, List.replicate_zero, List.not_mem_nil, List.mem_cons, if_true, if_false, ite_true, ite_false, Bool.true_and, Bool.and_true, Bool.not_true, Bool.not_false, Bool.false_eq_true, reduceIte, List.getElem?_cons_zero, List.getElem?_cons_succ, List.all_nil, List.all_cons, List.contains_nil, Option.map_some, Option.map_none, Option.bind_some, and_self, and_true, true_and, or_false, false_or, or_true, true_or, Nat.reduceAdd, Nat.reduceSub, Nat.reduceLT, Nat.reduceLeDiff, Nat.reduceEqDiff, Nat.zero_add, eq_self, true_implies, not_false_eq_true, not_true_eq_false, Nat.lt_irrefl, Nat.succ_ne_zero, Nat.lt_add_one, ne_eq, Int.reduceEq, Int.reduceNe, decide_true, decide_false, Nat.zero_lt_succ, Bool.not_eq_true', decide_not, Nat.add_one_ne_zero, Nat.zero_le, Nat.le_refl, Bool.or_true, Bool.or_false, Bool.true_or, Bool.false_or, Bool.and_false, Bool.false_and, Nat.reduceMul, isiB, String.reduceBEq, Bool.or_self, Bool.and_self, reduceCtorEq, isSS, List.contains_cons, Nat.reduceBEq, ix_ll, eq_ln, ne_ln, List.length_map, List.length_range, Int.reduceToNat, Int.reducePow, Int.reduceMul, Int.reduceAdd, Int.reduceSub, Int.reduceNeg, Int.reduceLE, Int.reduceLT, Int.toNat_natCast, Bool.and_eq_true, Bool.or_eq_true, decide_eq_true_eq, Bool.decide_eq_true, rep_d, List.length_append, List.length_reverse, map_snoc, map_app, Int.sub_zero, List.append_assoc, ite_self, hk2, tap_safe, draw_eq, if_neg hz, b1]
  · obtain ⟨t2, hs, b1, b2, b3⟩ := tab_lc (n := n) h2 n x_l_table_4 6 (fun t c => [.par t.enc, .v (.int n), .v (.int 5), .no, .no, .no, c]) t0 (fun t x => by simp (disch := first | assumption | omega | decide) only [ev0, ev1, ev2, ev3, ev4, ev5, ev6, dList, dTup, mutS, borS, argsD, nodupB, putM, frzN, safeOp, safeD, safeDs, wipeE, restore, argCells, List.getD_cons_zero, List.getD_cons_succ, List.set_cons_zero, List.set_cons_succ, List.length_cons, List.length_nil, List.cons_append, List.nil_append, List.append_nil, List.replicate_succ, List.replicate_zero, List.not_mem_nil, List.mem_cons, if_true, if_false, ite_true, ite_false, Bool.true_and, Bool.and_true, Bool.not_true, Bool.not_false, Bool.false_eq_true, reduceIte, List.getElem?_cons_zero, List.getElem?_cons_succ, List.all_nil, List.all_cons, List.contains_nil, Option.map_some, Option.map_none, Option.bind_some, and_self, and_true, true_and, or_false, false_or, or_true, true_or, Nat.reduceAdd, Nat.reduceSub, Nat.reduceLT, Nat.reduceLeDiff, Nat.reduceEqDiff, Nat.zero_add, eq_self, true_implies, not_false_eq_true, not_true_eq_false, Nat.lt_irrefl, Nat.succ_ne_zero, Nat.lt_add_one, ne_eq, Int.reduceEq, Int.reduceNe, decide_true, decide_false, Nat.zero_lt_succ, Bool.not_eq_true', decide_not, Nat.add_one_ne_zero, Nat.zero_le, Nat.le_refl, Bool.or_true, Bool.or_false, Bool.true_or, Bool.false_or, Bool.and_false, Bool.false_and, Nat.reduceMul, isiB, String.reduceBEq, Bool.or_self, Bool.and_self, reduceCtorEq, isSS, List.contains_cons, Nat.reduceBEq, ix_ll, eq_ln, ne_ln, List.length_map, List.length_range, Int.reduceToNat, Int.reducePow, Int.reduceMul, Int.reduceAdd, Int.reduceSub, Int.reduceNeg, Int.reduceLE, Int.reduceLT, Int.toNat_natCast, Bool.and_eq_true, Bool.or_eq_true, decide_eq_true_eq, Bool.decide_eq_true, rep_d, List.length_append, List.length_reverse, map_snoc, map_app, Int.sub_zero, List.append_assoc, ite_self]) (fun t x _ _ => by
      obtain ⟨r1, r2⟩ := drR_lt t (b := n) (by omega)
      refine ⟨drT t n, drR t n, ?_, r1, r2⟩
      unfold x_l_table_4
      simp (disch := first | assumption | omega | decide) only [ev0, ev1, ev2, ev3, ev4, ev5, ev6, dList, dTup, mutS, borS, argsD, nodupB, putM, frzN, safeOp, safeD, safeDs, wipeE, restore, argCells, List.getD_cons_zero, List.getD_cons_succ, List.set_cons_zero, List.set_cons_succ, List.length_cons, List.length_nil, List.cons_append, List.nil_append, List.append_nil, List.replicate_succ, List.replicate_zero, List.not_mem_nil, List.mem_cons, if_true, if_false, ite_true, ite_false, Bool.true_and, Bool.and_true, Bool.not_true, Bool.not_false, Bool.false_eq_true, reduceIte, List.getElem?_cons_zero, List.getElem?_cons_succ, List.all_nil, List.all_cons, List.contains_nil, Option.map_some, Option.map_none, Option.bind_some, and_self, and_true, true_and, or_false, false_or, or_true, true_or, Nat.reduceAdd, Nat.reduceSub, Nat.reduceLT, Nat.reduceLeDiff, Nat.reduceEqDiff, Nat.zero_add, eq_self, true_implies, not_false_eq_true, not_true_eq_false, Nat.lt_irrefl, Nat.succ_ne_zero, Nat.lt_add_one, ne_eq, Int.reduceEq, Int.reduceNe, decide_true, decide_false, Nat.zero_lt_succ, Bool.not_eq_true', decide_not, Nat.add_one_ne_zero, Nat.zero_le, Nat.le_refl, Bool.or_true, Bool.or_false, Bool.true_or, Bool.false_or, Bool.and_false, Bool.false_and, Nat.reduceMul, isiB, String.reduceBEq, Bool.or_self, Bool.and_self, reduceCtorEq, isSS, List.contains_cons, Nat.reduceBEq, ix_ll, eq_ln, ne_ln, List.length_map, List.length_range, Int.reduceToNat, Int.reducePow, Int.reduceMul, Int.reduceAdd, Int.reduceSub, Int.reduceNeg, Int.reduceLE, Int.reduceLT, Int.toNat_natCast, Bool.and_eq_true, Bool.or_eq_true, decide_eq_true_eq, Bool.decide_eq_true, rep_d, List.length_append, List.length_reverse, map_snoc, map_app, Int.sub_zero, List.append_assoc, ite_self, draw_eq, tap_safe]) (fun t x => by simp (disch := first | assumption | omega | decide) only [ev0, ev1, ev2, ev3, ev4, ev5, ev6, dList, dTup, mutS, borS, argsD, nodupB, putM, frzN, safeOp, safeD, safeDs, wipeE, restore, argCells, List.getD_cons_zero, List.getD_cons_succ, List.set_cons_zero, List.set_cons_succ, List.length_cons, List.length_nil, List.cons_append, List.nil_append, List.append_nil, List.replicate_succ, List.replicate_zero, List.not_mem_nil, List.mem_cons, if_true, if_false, ite_true, ite_false, Bool.true_and, Bool.and_true, Bool.not_true, Bool.not_false, Bool.false_eq_true, reduceIte, List.getElem?_cons_zero, List.getElem?_cons_succ, List.all_nil, List.all_cons, List.contains_nil, Option.map_some, Option.map_none, Option.bind_some, and_self, and_true, true_and, or_false, false_or, or_true, true_or, Nat.reduceAdd, Nat.reduceSub, Nat.reduceLT, Nat.reduceLeDiff, Nat.reduceEqDiff, Nat.zero_add, eq_self, true_implies, not_false_eq_true, not_true_eq_false, Nat.lt_irrefl, Nat.succ_ne_zero, Nat.lt_add_one, ne_eq, Int.reduceEq, Int.reduceNe, decide_true, decide_false, Nat.zero_lt_succ, Bool.not_eq_true', decide_not, Nat.add_one_ne_zero, Nat.zero_le, Nat.le_refl, Bool.or_true, Bool.or_false, Bool.true_or, Bool.false_or, Bool.and_false, Bool.false_and, Nat.reduceMul, isiB, String.reduceBEq, Bool.or_self, Bool.and_self, reduceCtorEq, isSS, List.contains_cons, Nat.reduceBEq, ix_ll, eq_ln, ne_ln, List.length_map, List.length_range, Int.reduceToNat, Int.reducePow, Int.reduceMul, Int.reduceAdd, Int.reduceSub, Int.reduceNeg, Int.reduceLE, Int.reduceLT, Int.toNat_natCast, Bool.and_eq_true, Bool.or_eq_true, decide_eq_true_eq, Bool.decide_eq_true, rep_d, List.length_append, List.length_reverse, map_snoc, map_app, Int.sub_zero, List.append_assoc, ite_self])
    refine ⟨t2, hs, ?_, b2, b3⟩
    simp (disch := first | assumption | omega | decide) only [ev0, ev1, ev2, ev3, ev4, ev5, ev6, dList, dTup, mutS, borS, argsD, nodupB, putM, frzN, safeOp, safeD, safeDs, wipeE, restore, argCells, List.getD_cons_zero, List.getD_cons_succ, List.set_cons_zero, List.set_cons_succ, List.length_cons, List.length_nil, List.cons_append, List.nil_append, List.append_nil, List.replicate_succ, List.replicate_zero, List.not_mem_nil, List.mem_cons, if_true, if_false, ite_true, ite_false, Bool.true_and, Bool.and_true, Bool.not_true, Bool.not_false, Bool.false_eq_true, reduceIte, List.getElem?_cons_zero, List.getElem?_cons_succ, List.all_nil, List.all_cons, List.contains_nil, Option.map_some, Option.map_none, Option.bind_some, and_self, and_true, true_and, or_false, false_or, or_true, true_or, Nat.reduceAdd, Nat.reduceSub, Nat.reduceLT, Nat.reduceLeDiff, Nat.reduceEqDiff, Nat.zero_add, eq_self, true_implies, not_false_eq_true, not_true_eq_false, Nat.lt_irrefl, Nat.succ_ne_zero, Nat.lt_add_one, ne_eq, Int.reduceEq, Int.reduceNe, decide_true, decide_false, Nat.zero_lt_succ, Bool.not_eq_true', decide_not, Nat.add_one_ne_zero, Nat.zero_le, Nat.le_refl, Bool.or_true, Bool.or_false, Bool.true_or, Bool.false_or, Bool.and_false, Bool.false_and, Nat.reduceMul, isiB, String.reduceBEq, Bool.or_self, Bool.and_self, reduceCtorEq, isSS, List.contains_cons, Nat.reduceBEq, ix_ll, eq_ln, ne_ln, List.length_map, List.length_range, Int.reduceToNat, Int.reducePow, Int.reduceMul, Int.reduceAdd, Int.reduceSub, Int.reduceNeg, Int.reduceLE, Int.reduceLT, Int.toNat_natCast, Bool.and_eq_true, Bool.or_eq_true, decide_eq_true_eq, Bool.decide_eq_true, rep_d, List.length_append, List.length_reverse, map_snoc, map_app, Int.sub_zero, List.append_assoc, ite_self, hk2, tap_safe, b1]
end Pg
namespace Pg
open PySem PySem.Spec PyProof.Rows L2 T3
theorem isint_eq (d : D) (lo hi : Int) : m_is_integer [d, .int lo, .int hi] = .ok (.val (.bool (irD lo hi d))) [] := by
  unfold m_is_integer b_is_integer
  cases d with
  | int i =>
    by_cases h : lo ≤ i
    · simp (disch := first | assumption | omega | decide) only [ev0, ev1, ev2, ev3, ev4, ev5, ev6, dList, dTup, mutS, borS, argsD, nodupB, putM, frzN, safeOp, safeD, safeDs, wipeE, restore, argCells, List.getD_cons_zero, List.getD_cons_succ, List.set_cons_zero, List.set_cons_succ, List.length_cons, List.length_nil, List.cons_append, List.nil_append, List.append_nil, List.replicate_succ, List.replicate_zero, List.not_mem_nil, List.mem_cons, if_true, if_false, ite_true, ite_false, Bool.true_and, Bool.and_true, Bool.not_true, Bool.not_false, Bool.false_eq_true, reduceIte, List.getElem?_cons_zero, List.getElem?_cons_succ, List.all_nil, List.all_cons, List.contains_nil, Option.map_some, Option.map_none, Option.bind_some, and_self, and_true, true_and, or_false, false_or, or_true, true_or, Nat.reduceAdd, Nat.reduceSub, Nat.reduceLT, Nat.reduceLeDiff, Nat.reduceEqDiff, Nat.zero_add, eq_self, true_implies, not_false_eq_true, not_true_eq_false, Nat.lt_irrefl, Nat.succ_ne_zero, Nat.lt_add_one, ne_eq, Int.reduceEq, Int.reduceNe, decide_true, decide_false, Nat.zero_lt_succ, Bool.not_eq_true', decide_not, Nat.add_one_ne_zero, Nat.zero_le, Nat.le_refl, Bool.or_true, Bool.or_false, Bool.true_or, Bool.false_or, Bool.and_false, Bool.false_and, Nat.reduceMul, isiB, String.reduceBEq, Bool.or_self, Bool.and_self, reduceCtorEq, isSS, List.contains_cons, Nat.reduceBEq, ix_ll, eq_ln, ne_ln, List.length_map, List.length_range, Int.reduceToNat, Int.reducePow, Int.reduceMul, Int.reduceAdd, Int.reduceSub, Int.reduceNeg, Int.reduceLE, Int.reduceLT, Int.toNat_natCast, Bool.and_eq_true, Bool.or_eq_true, decide_eq_true_eq, Bool.decide_eq_true, rep_d, List.length_append, List.length_reverse, map_snoc, map_app, Int.sub_zero, List.append_assoc, ite_self, irD, h]
    · simp (disch := first | assumption | omega | decide) only [ev0, ev1, ev2, ev3, ev4, ev5, ev6, dList, dTup, mutS, borS, argsD, nodupB, putM, frzN, safeOp, safeD, safeDs, wipeE, restore, argCells, List.getD_cons_zero, List.getD_cons_succ, List.set_cons_zero, List.set_cons_succ, List.length_cons, List.length_nil, List.cons_append, List.nil_append, List.append_nil, List.replicate_succ, List.replicate_zero, List.not_mem_nil, List.mem_cons, if_true, if_false, ite_true, ite_false, Bool.true_and, Bool.and_true, Bool.not_true, Bool.not_false, Bool.false_eq_true, reduceIte, List.getElem?_cons_zero, List.getElem?_cons_succ, List.all_nil, List.all_cons, List.contains_nil, Option.map_some, Option.map_none, Option.bind_some, and_self, and_true, true_and, or_false, false_or, or_true, true_or, Nat.reduceAdd, Nat.reduceSub, Nat.reduceLT, Nat.reduceLeDiff, Nat.reduceEqDiff, Nat.zero_add, eq_self, true_implies, not_false_eq_true, not_true_eq_false, Nat.lt_irrefl, Nat.succ_ne_zero, Nat.lt_add_one, ne_eq, Int.reduceEq, Int.reduceNe, decide_true, decide_false, Nat.zero_lt_succ, Bool.not_eq_true', decide_not, Nat.add_one_ne_zero, Nat.zero_le, Nat.le_refl, Bool.or_true, Bool.or_false, Bool.true_or, Bool.false_or, Bool.and_false, Bool.false_and, Nat.reduceMul, isiB, String.reduceBEq, Bool.or_self, Bool.and_self, reduceCtorEq, isSS, List.contains_cons, Nat.reduceBEq, ix_ll, eq_ln, ne_ln, List.length_map, List.length_range, Int.reduceToNat, Int.reducePow, Int.reduceMul, Int.reduceAdd, Int.reduceSub, Int.reduceNeg, Int.reduceLE, Int.reduceLT, Int.toNat_natCast, Bool.and_eq_true, Bool.or_eq_true, decide_eq_true_eq, Bool.decide_eq_true, rep_d, List.length_append, List.length_reverse, map_snoc, map_app, Int.sub_zero, List.append_assoc, ite_self, irD, h]
  | _ => simp (disch := first | assumption | omega | decide) only [ev0, ev1, ev2, ev3, ev4, ev5, ev6, dList, dTup, mutS, borS, argsD, nodupB, putM, frzN, safeOp, safeD, safeDs, wipeE, restore, argCells, List.getD_cons_zero, List.getD_cons_succ, List.set_cons_zero, List.set_cons_succ, List.length_cons, List.length_nil, List.cons_append, List.nil_append, List.append_nil, List.replicate_succ, List.replicate_zero, List.not_mem_nil, List.mem_cons, if_true, if_false, ite_true, ite_false, Bool.true_and, Bool.and_true, Bool.not_true, Bool.not_false, Bool.false_eq_true, reduceIte, List.getElem?_cons_zero, List.getElem?_cons_succ, List.all_nil, List.all_cons, List.contains_nil, Option.map_some, Option.map_none, Option.bind_some, and_self, and_true, true_and, or_false, false_or, or_true, true_or, Nat.reduceAdd, Nat.reduceSub, Nat.reduceLT, Nat.reduceLeDiff, Nat.reduceEqDiff, Nat.zero_add, eq_self, true_implies, not_false_eq_true, not_true_eq_false, Nat.lt_irrefl, Nat.succ_ne_zero, Nat.lt_add_one, ne_eq, Int.reduceEq, Int.reduceNe, decide_true, decide_false, Nat.zero_lt_succ, Bool.not_eq_true', decide_not, Nat.add_one_ne_zero, Nat.zero_le, Nat.le_refl, Bool.or_true, Bool.or_false, Bool.true_or, Bool.false_or, Bool.and_false, Bool.false_and, Nat.reduceMul, isiB, String.reduceBEq, Bool.or_self, Bool.and_self, reduceCtorEq, isSS, List.contains_cons, Nat.reduceBEq, ix_ll, eq_ln, ne_ln, List.length_map, List.length_range, Int.reduceToNat, Int.reducePow, Int.reduceMul, Int.reduceAdd, Int.reduceSub, Int.reduceNeg, Int.reduceLE, Int.reduceLT, Int.toNat_natCast, Bool.and_eq_true, Bool.or_eq_true, decide_eq_true_eq, Bool.decide_eq_true, rep_d, List.length_append, List.length_reverse, map_snoc, map_app, Int.sub_zero, List.append_assoc, ite_self, irD]
def isI : D → Bool
  | .int _ => true
  | _ => false
def isIf (lo : Int) : D → Bool
  | .int i => decide (lo ≤ i)
  | _ => false
theorem isint_nn (d : D) : m_is_integer [d, .none, .none] = .ok (.val (.bool (isI d))) [] := by
  unfold m_is_integer b_is_integer
  cases d <;> simp (disch := first | assumption | omega | decide) only [ev0, ev1, ev2, ev3, ev4, ev5, ev6, dList, dTup, mutS, borS, argsD, nodupB, putM, frzN, safeOp, safeD, safeDs, wipeE, restore, argCells, List.getD_cons_zero, List.getD_cons_succ, List.set_cons_zero, List.set_cons_succ, List.length_cons, List.length_nil, List.cons_append, List.nil_append, List.append_nil, List.replicate_succ, List.replicate_zero, List.not_mem_nil, List.mem_cons, if_true, if_false, ite_true, ite_false, Bool.true_and, Bool.and_true, Bool.not_true, Bool.not_false, Bool.false_eq_true, reduceIte, List.getElem?_cons_zero, List.getElem?_cons_succ, List.all_nil, List.all_cons, List.contains_nil, Option.map_some, Option.map_none, Option.bind_some, and_self, and_true, true_and, or_false, false_or, or_true, true_or, Nat.reduceAdd, Nat.reduceSub, Nat.reduceLT, Nat.reduceLeDiff, Nat.reduceEqDiff, Nat.zero_add, eq_self, true_implies, not_false_eq_true, not_true_eq_false, Nat.lt_irrefl, Nat.succ_ne_zero, Nat.lt_add_one, ne_eq, Int.reduceEq, Int.reduceNe, decide_true, decide_false, Nat.zero_lt_succ, Bool.not_eq_true', decide_not, Nat.add_one_ne_zero, Nat.zero_le, Nat.le_refl, Bool.or_true, Bool.or_false, Bool.true_or, Bool.false_or, Bool.and_false, Bool.false_and, Nat.reduceMul, isiB, String.reduceBEq, Bool.or_self, Bool.and_self, reduceCtorEq, isSS, List.contains_cons, Nat.reduceBEq, ix_ll, eq_ln, ne_ln, List.length_map, List.length_range, Int.reduceToNat, Int.reducePow, Int.reduceMul, Int.reduceAdd, Int.reduceSub, Int.reduceNeg, Int.reduceLE, Int.reduceLT, Int.toNat_natCast, Bool.and_eq_true, Bool.or_eq_true, decide_eq_true_eq, Bool.decide_eq_true, rep_d, List.length_append, List.length_reverse, map_snoc, map_app, Int.sub_zero, List.append_assoc, ite_self, isI]
theorem isint_n (d : D) (lo : Int) : m_is_integer [d, .int lo, .none] = .ok (.val (.bool (isIf lo d))) [] := by
  unfold m_is_integer b_is_integer
  cases d with
  | int i =>
    by_cases h : lo ≤ i
    · simp (disch := first | assumption | omega | decide) only [ev0, ev1, ev2, ev3, ev4, ev5, ev6, dList, dTup, mutS, borS, argsD, nodupB, putM, frzN, safeOp, safeD, safeDs, wipeE, restore, argCells, List.getD_cons_zero, List.getD_cons_succ, List.set_cons_zero, List.set_cons_succ, List.length_cons, List.length_nil, List.cons_append, List.nil_append, List.append_nil, List.replicate_succ, List.replicate_zero, List.not_mem_nil, List.mem_cons, if_true, if_false, ite_true, ite_false, Bool.true_and, Bool.and_true, Bool.not_true, Bool.not_false, Bool.false_eq_true, reduceIte, List.getElem?_cons_zero, List.getElem?_cons_succ, List.all_nil, List.all_cons, List.contains_nil, Option.map_some, Option.map_none, Option.bind_some, and_self, and_true, true_and, or_false, false_or, or_true, true_or, Nat.reduceAdd, Nat.reduceSub, Nat.reduceLT, Nat.reduceLeDiff, Nat.reduceEqDiff, Nat.zero_add, eq_self, true_implies, not_false_eq_true, not_true_eq_false, Nat.lt_irrefl, Nat.succ_ne_zero, Nat.lt_add_one, ne_eq, Int.reduceEq, Int.reduceNe, decide_true, decide_false, Nat.zero_lt_succ, Bool.not_eq_true', decide_not, Nat.add_one_ne_zero, Nat.zero_le, Nat.le_refl, Bool.or_true, Bool.or_false, Bool.true_or, Bool.false_or, Bool.and_false, Bool.false_and, Nat.reduceMul, isiB, String.reduceBEq, Bool.or_self, Bool.and_self, reduceCtorEq, isSS, List.contains_cons, Nat.reduceBEq, ix_ll, eq_ln, ne_ln, List.length_map, List.length_range, Int.reduceToNat, Int.reducePow, Int.reduceMul, Int.reduceAdd, Int.reduceSub, Int.reduceNeg, Int.reduceLE, Int.reduceLT, Int.toNat_natCast, Bool.and_eq_true, Bool.or_eq_true, decide_eq_true_eq, Bool.decide_eq_true, rep_d, List.length_append, List.length_reverse, map_snoc, map_app, Int.sub_zero, List.append_assoc, ite_self, isIf, h]
    · simp (disch := first | assumption | omega | decide) only [ev0, ev1, ev2, ev3, ev4, ev5, ev6, dList, dTup, mutS, borS, argsD, nodupB, putM, frzN, safeOp, safeD, safeDs, wipeE, restore, argCells, List.getD_cons_zero, List.getD_cons_succ, List.set_cons_zero, List.set_cons_succ, List.length_cons, List.length_nil, List.cons_append, List.nil_append, List.append_nil, List.replicate_succ, List.replicate_zero, List.not_mem_nil, List.mem_cons, if_true, if_false, ite_true, ite_false, Bool.true_and, Bool.and_true, Bool.not_true, Bool.not_false, Bool.false_eq_true, reduceIte, List.getElem?_cons_zero, List.getElem?_cons_succ, List.all_nil, List.all_cons, List.contains_nil, Option.map_some, Option.map_none, Option.bind_some, and_self, and_true, true_and, or_false, false_or, or_true, true_or, Nat.reduceAdd, Nat.reduceSub, Nat.reduceLT, Nat.reduceLeDiff, Nat.reduceEqDiff, Nat.zero_add, eq_self, true_implies, not_false_eq_true, not_true_eq_false, Nat.lt_irrefl, Nat.succ_ne_zero, Nat.lt_add_one, ne_eq, Int.reduceEq, Int.reduceNe, decide_true, decide_false, Nat.zero_lt_succ, Bool.not_eq_true', decide_not, Nat.add_one_ne_zero, Nat.zero_le, Nat.le_refl, Bool.or_true, Bool.or_false, Bool.true_or, Bool.false_or, Bool.and_false, Bool.false_and, Nat.reduceMul, isiB, String.reduceBEq, Bool.or_self, Bool.and_self, reduceCtorEq, isSS, List.contains_cons, Nat.reduceBEq, ix_ll, eq_ln, ne_ln, List.length_map, List.length_range, Int.reduceToNat, Int.reducePow, Int.reduceMul, Int.reduceAdd, Int.reduceSub, Int.reduceNeg, Int.reduceLE, Int.reduceLT, Int.toNat_natCast, Bool.and_eq_true, Bool.or_eq_true, decide_eq_true_eq, Bool.decide_eq_true, rep_d, List.length_append, List.length_reverse, map_snoc, map_app, Int.sub_zero, List.append_assoc, ite_self, isIf, h]
  | _ => simp (disch := first | assumption | omega | decide) only [ev0, ev1, ev2, ev3, ev4, ev5, ev6, dList, dTup, mutS, borS, argsD, nodupB, putM, frzN, safeOp, safeD, safeDs, wipeE, restore, argCells, List.getD_cons_zero, List.getD_cons_succ, List.set_cons_zero, List.set_cons_succ, List.length_cons, List.length_nil, List.cons_append, List.nil_append, List.append_nil, List.replicate_succ, List.replicate_zero, List.not_mem_nil, List.mem_cons, if_true, if_false, ite_true, ite_false, Bool.true_and, Bool.and_true, Bool.not_true, Bool.not_false, Bool.false_eq_true, reduceIte, List.getElem?_cons_zero, List.getElem?_cons_succ, List.all_nil, List.all_cons, List.contains_nil, Option.map_some, Option.map_none, Option.bind_some, and_self, and_true, true_and, or_false, false_or, or_true, true_or, Nat.reduceAdd, Nat.reduceSub, Nat.reduceLT, Nat.reduceLeDiff, Nat.reduceEqDiff, Nat.zero_add, eq_self, true_implies, not_false_eq_true, not_true_eq_false, Nat.lt_irrefl, Nat.succ_ne_zero, Nat.lt_add_one, ne_eq, Int.reduceEq, Int.reduceNe, decide_true, decide_false, Nat.zero_lt_succ, Bool.not_eq_true', decide_not, Nat.add_one_ne_zero, Nat.zero_le, Nat.le_refl, Bool.or_true, Bool.or_false, Bool.true_or, Bool.false_or, Bool.and_false, Bool.false_and, Nat.reduceMul, isiB, String.reduceBEq, Bool.or_self, Bool.and_self, reduceCtorEq, isSS, List.contains_cons, Nat.reduceBEq, ix_ll, eq_ln, ne_ln, List.length_map, List.length_range, Int.reduceToNat, Int.reducePow, Int.reduceMul, Int.reduceAdd, Int.reduceSub, Int.reduceNeg, Int.reduceLE, Int.reduceLT, Int.toNat_natCast, Bool.and_eq_true, Bool.or_eq_true, decide_eq_true_eq, Bool.decide_eq_true, rep_d, List.length_append, List.length_reverse, map_snoc, map_app, Int.sub_zero, List.append_assoc, ite_self, isIf]
/-- a list of ints of a range -/
def areD (lo hi : Int) : D → Bool
  | .list ds => ds.all (irD lo hi)
  | _ => false
theorem are_eq (d : D) (lo hi : Int) (hl : ∀ ds, d = .list ds → ds.length ≤ 16777216) : m_are_integers [d, .int lo, .int hi] = .ok (.val (.bool (areD lo hi d))) [] := by
  unfold m_are_integers b_are_integers
  cases d with
  | list ds =>
    have hl := hl ds rfl
    have q := lc_map (gx := gSlot 3) (fe := x_are_integers_1) (is := [3]) (e := [.v (.list ds), .v (.int lo), .v (.int hi), .no]) (fun d => .bool (irD lo hi d)) ds (fun d _ => ⟨_, _, _, _, by simp (disch := first | assumption | omega | decide) only [ev0, ev1, ev2, ev3, ev4, ev5, ev6, dList, dTup, mutS, borS, argsD, nodupB, putM, frzN, safeOp, safeD, safeDs, wipeE, restore, argCells, List.getD_cons_zero, List.getD_cons_succ, List.set_cons_zero, List.set_cons_succ, List.length_cons, List.length_nil, List.cons_append, List.nil_append, List.append_nil, List.replicate_succ, List.replicate_zero, List.not_mem_nil, List.mem_cons, if_true, if_false, ite_true, ite_false, Bool.true_and, Bool.and_true, Bool.not_true, Bool.not_false, Bool.false_eq_true, reduceIte, List.getElem?_cons_zero, List.getElem?_cons_succ, List.all_nil, List.all_cons, List.contains_nil, Option.map_some, Option.map_none, Option.bind_some, and_self, and_true, true_and, or_false, false_or, or_true, true_or, Nat.reduceAdd, Nat.reduceSub, Nat.reduceLT, Nat.reduceLeDiff, Nat.reduceEqDiff, Nat.zero_add, eq_self, true_implies, not_false_eq_true, not_true_eq_false, Nat.lt_irrefl, Nat.succ_ne_zero, Nat.lt_add_one, ne_eq, Int.reduceEq, Int.reduceNe, decide_true, decide_false, Nat.zero_lt_succ, Bool.not_eq_true', decide_not, Nat.add_one_ne_zero, Nat.zero_le, Nat.le_refl, Bool.or_true, Bool.or_false, Bool.true_or, Bool.false_or, Bool.and_false, Bool.false_and, Nat.reduceMul, isiB, String.reduceBEq, Bool.or_self, Bool.and_self, reduceCtorEq, isSS, List.contains_cons, Nat.reduceBEq, ix_ll, eq_ln, ne_ln, List.length_map, List.length_range, Int.reduceToNat, Int.reducePow, Int.reduceMul, Int.reduceAdd, Int.reduceSub, Int.reduceNeg, Int.reduceLE, Int.reduceLT, Int.toNat_natCast, Bool.and_eq_true, Bool.or_eq_true, decide_eq_true_eq, Bool.decide_eq_true, rep_d, List.length_append, List.length_reverse, map_snoc, map_app, Int.sub_zero, List.append_assoc, ite_self] <;> rfl, by
      unfold x_are_integers_1
      simp (disch := first | assumption | omega | decide) only [ev0, ev1, ev2, ev3, ev4, ev5, ev6, dList, dTup, mutS, borS, argsD, nodupB, putM, frzN, safeOp, safeD, safeDs, wipeE, restore, argCells, List.getD_cons_zero, List.getD_cons_succ, List.set_cons_zero, List.set_cons_succ, List.length_cons, List.length_nil, List.cons_append, List.nil_append, List.append_nil, List.replicate_succ, List.replicate_zero, List.not_mem_nil, List.mem_cons, if_true, if_false, ite_true, ite_false, Bool.true_and, Bool.and_true, Bool.not_true, Bool.not_false, Bool.false_eq_true, reduceIte, List.getElem?_cons_zero, List.getElem?_cons_succ, List.all_nil, List.all_cons, List.contains_nil, Option.map_some, Option.map_none, Option.bind_some, and_self, and_true, true_and, or_false, false_or, or_true, true_or, Nat.reduceAdd, Nat.reduceSub, Nat.reduceLT, Nat.reduceLeDiff, Nat.reduceEqDiff, Nat.zero_add, eq_self, true_implies, not_false_eq_true, not_true_eq_false, Nat.lt_irrefl, Nat.succ_ne_zero, Nat.lt_add_one, ne_eq, Int.reduceEq, Int.reduceNe, decide_true, decide_false, Nat.zero_lt_succ, Bool.not_eq_true', decide_not, Nat.add_one_ne_zero, Nat.zero_le, Nat.le_refl, Bool.or_true, Bool.or_false, Bool.true_or, Bool.false_or, Bool.and_false, Bool.false_and, Nat.reduceMul, isiB, String.reduceBEq, Bool.or_self, Bool.and_self, reduceCtorEq, isSS, List.contains_cons, Nat.reduceBEq, ix_ll, eq_ln, ne_ln, List.length_map, List.length_range, Int.reduceToNat, Int.reducePow, Int.reduceMul, Int.reduceAdd, Int.reduceSub, Int.reduceNeg, Int.reduceLE, Int.reduceLT, Int.toNat_natCast, Bool.and_eq_true, Bool.or_eq_true, decide_eq_true_eq, Bool.decide_eq_true, rep_d, List.length_append, List.length_reverse, map_snoc, map_app, Int.sub_zero, List.append_assoc, ite_self, isint_eq] <;> rfl, by simp (disch := first | assumption | omega | decide) only [ev0, ev1, ev2, ev3, ev4, ev5, ev6, dList, dTup, mutS, borS, argsD, nodupB, putM, frzN, safeOp, safeD, safeDs, wipeE, restore, argCells, List.getD_cons_zero, List.getD_cons_succ, List.set_cons_zero, List.set_cons_succ, List.length_cons, List.length_nil, List.cons_append, List.nil_append, List.append_nil, List.replicate_succ, List.replicate_zero, List.not_mem_nil, List.mem_cons, if_true, if_false, ite_true, ite_false, Bool.true_and, Bool.and_true, Bool.not_true, Bool.not_false, Bool.false_eq_true, reduceIte, List.getElem?_cons_zero, List.getElem?_cons_succ, List.all_nil, List.all_cons, List.contains_nil, Option.map_some, Option.map_none, Option.bind_some, and_self, and_true, true_and, or_false, false_or, or_true, true_or, Nat.reduceAdd, Nat.reduceSub, Nat.reduceLT, Nat.reduceLeDiff, Nat.reduceEqDiff, Nat.zero_add, eq_self, true_implies, not_false_eq_true, not_true_eq_false, Nat.lt_irrefl, Nat.succ_ne_zero, Nat.lt_add_one, ne_eq, Int.reduceEq, Int.reduceNe, decide_true, decide_false, Nat.zero_lt_succ, Bool.not_eq_true', decide_not, Nat.add_one_ne_zero, Nat.zero_le, Nat.le_refl, Bool.or_true, Bool.or_false, Bool.true_or, Bool.false_or, Bool.and_false, Bool.false_and, Nat.reduceMul, isiB, String.reduceBEq, Bool.or_self, Bool.and_self, reduceCtorEq, isSS, List.contains_cons, Nat.reduceBEq, ix_ll, eq_ln, ne_ln, List.length_map, List.length_range, Int.reduceToNat, Int.reducePow, Int.reduceMul, Int.reduceAdd, Int.reduceSub, Int.reduceNeg, Int.reduceLE, Int.reduceLT, Int.toNat_natCast, Bool.and_eq_true, Bool.or_eq_true, decide_eq_true_eq, Bool.decide_eq_true, rep_d, List.length_append, List.length_reverse, map_snoc, map_app, Int.sub_zero, List.append_assoc, ite_self] <;> rfl, by simp (disch := first | assumption | omega | decide) only [ev0, ev1, ev2, ev3, ev4, ev5, ev6, dList, dTup, mutS, borS, argsD, nodupB, putM, frzN, safeOp, safeD, safeDs, wipeE, restore, argCells, List.getD_cons_zero, List.getD_cons_succ, List.set_cons_zero, List.set_cons_succ, List.length_cons, List.length_nil, List.cons_append, List.nil_append, List.append_nil, List.replicate_succ, List.replicate_zero, List.not_mem_nil, List.mem_cons, if_true, if_false, ite_true, ite_false, Bool.true_and, Bool.and_true, Bool.not_true, Bool.not_false, Bool.false_eq_true, reduceIte, List.getElem?_cons_zero, List.getElem?_cons_succ, List.all_nil, List.all_cons, List.contains_nil, Option.map_some, Option.map_none, Option.bind_some, and_self, and_true, true_and, or_false, false_or, or_true, true_or, Nat.reduceAdd, Nat.reduceSub, Nat.reduceLT, Nat.reduceLeDiff, Nat.reduceEqDiff, Nat.zero_add, eq_self, true_implies, not_false_eq_true, not_true_eq_false, Nat.lt_irrefl, Nat.succ_ne_zero, Nat.lt_add_one, ne_eq, Int.reduceEq, Int.reduceNe, decide_true, decide_false, Nat.zero_lt_succ, Bool.not_eq_true', decide_not, Nat.add_one_ne_zero, Nat.zero_le, Nat.le_refl, Bool.or_true, Bool.or_false, Bool.true_or, Bool.false_or, Bool.and_false, Bool.false_and, Nat.reduceMul, isiB, String.reduceBEq, Bool.or_self, Bool.and_self, reduceCtorEq, isSS, List.contains_cons, Nat.reduceBEq, ix_ll, eq_ln, ne_ln, List.length_map, List.length_range, Int.reduceToNat, Int.reducePow, Int.reduceMul, Int.reduceAdd, Int.reduceSub, Int.reduceNeg, Int.reduceLE, Int.reduceLT, Int.toNat_natCast, Bool.and_eq_true, Bool.or_eq_true, decide_eq_true_eq, Bool.decide_eq_true, rep_d, List.length_append, List.length_reverse, map_snoc, map_app, Int.sub_zero, List.append_assoc, ite_self]⟩) (sz hl)
    simp (disch := first | assumption | omega | decide) only [ev0, ev1, ev2, ev3, ev4, ev5, ev6, dList, dTup, mutS, borS, argsD, nodupB, putM, frzN, safeOp, safeD, safeDs, wipeE, restore, argCells, List.getD_cons_zero, List.getD_cons_succ, List.set_cons_zero, List.set_cons_succ, List.length_cons, List.length_nil, List.cons_append, List.nil_append, List.append_nil, List.replicate_succ, List.replicate_zero, List.not_mem_nil, List.mem_cons, if_true, if_false, ite_true, ite_false, Bool.true_and, Bool.and_true, Bool.not_true, Bool.not_false, Bool.false_eq_true, reduceIte, List.getElem?_cons_zero, List.getElem?_cons_succ, List.all_nil, List.all_cons, List.contains_nil, Option.map_some, Option.map_none, Option.bind_some, and_self, and_true, true_and, or_false, false_or, or_true, true_or, Nat.reduceAdd, Nat.reduceSub, Nat.reduceLT, Nat.reduceLeDiff, Nat.reduceEqDiff, Nat.zero_add, eq_self, true_implies, not_false_eq_true, not_true_eq_false, Nat.lt_irrefl, Nat.succ_ne_zero, Nat.lt_add_one, ne_eq, Int.reduceEq, Int.reduceNe, decide_true, decide_false, Nat.zero_lt_succ, Bool.not_eq_true', decide_not, Nat.add_one_ne_zero, Nat.zero_le, Nat.le_refl, Bool.or_true, Bool.or_false, Bool.true_or, Bool.false_or, Bool.and_false, Bool.false_and, Nat.reduceMul, isiB, String.reduceBEq, Bool.or_self, Bool.and_self, reduceCtorEq, isSS, List.contains_cons, Nat.reduceBEq, ix_ll, eq_ln, ne_ln, List.length_map, List.length_range, Int.reduceToNat, Int.reducePow, Int.reduceMul, Int.reduceAdd, Int.reduceSub, Int.reduceNeg, Int.reduceLE, Int.reduceLT, Int.toNat_natCast, Bool.and_eq_true, Bool.or_eq_true, decide_eq_true_eq, Bool.decide_eq_true, rep_d, List.length_append, List.length_reverse, map_snoc, map_app, Int.sub_zero, List.append_assoc, ite_self, q, all_map, areD]
  | _ => simp (disch := first | assumption | omega | decide) only [ev0, ev1, ev2, ev3, ev4, ev5, ev6, dList, dTup, mutS, borS, argsD, nodupB, putM, frzN, safeOp, safeD, safeDs, wipeE, restore, argCells, List.getD_cons_zero, List.getD_cons_succ, List.set_cons_zero, List.set_cons_succ, List.length_cons, List.length_nil, List.cons_append, List.nil_append, List.append_nil, List.replicate_succ, List.replicate_zero, List.not_mem_nil, List.mem_cons, if_true, if_false, ite_true, ite_false, Bool.true_and, Bool.and_true, Bool.not_true, Bool.not_false, Bool.false_eq_true, reduceIte, List.getElem?_cons_zero, List.getElem?_cons_succ, List.all_nil, List.all_cons, List.contains_nil, Option.map_some, Option.map_none, Option.bind_some, and_self, and_true, true_and, or_false, false_or, or_true, true_or, Nat.reduceAdd, Nat.reduceSub, Nat.reduceLT, Nat.reduceLeDiff, Nat.reduceEqDiff, Nat.zero_add, eq_self, true_implies, not_false_eq_true, not_true_eq_false, Nat.lt_irrefl, Nat.succ_ne_zero, Nat.lt_add_one, ne_eq, Int.reduceEq, Int.reduceNe, decide_true, decide_false, Nat.zero_lt_succ, Bool.not_eq_true', decide_not, Nat.add_one_ne_zero, Nat.zero_le, Nat.le_refl, Bool.or_true, Bool.or_false, Bool.true_or, Bool.false_or, Bool.and_false, Bool.false_and, Nat.reduceMul, isiB, String.reduceBEq, Bool.or_self, Bool.and_self, reduceCtorEq, isSS, List.contains_cons, Nat.reduceBEq, ix_ll, eq_ln, ne_ln, List.length_map, List.length_range, Int.reduceToNat, Int.reducePow, Int.reduceMul, Int.reduceAdd, Int.reduceSub, Int.reduceNeg, Int.reduceLE, Int.reduceLT, Int.toNat_natCast, Bool.and_eq_true, Bool.or_eq_true, decide_eq_true_eq, Bool.decide_eq_true, rep_d, List.length_append, List.length_reverse, map_snoc, map_app, Int.sub_zero, List.append_assoc, ite_self, areD]
/-- a table of moves -/
def isTb : D → Bool
  | .list ds => decide (1 ≤ ds.length) && decide (ds.length ≤ 12) && ds.all (irD 0 ((ds.length : Int) - 1))
  | _ => false
theorem is_table_eq (d : D) : m_is_table [d] = .ok (.val (.bool (isTb d))) [] := by
  unfold m_is_table b_is_table
  cases d with
  | list ds =>
    by_cases h1 : 1 ≤ ds.length
    · by_cases h2 : ds.length ≤ 12
      · have e := are_eq (.list ds) 0 ((ds.length : Int) - 1) (fun _ h => by cases h; omega)
        simp (disch := first | assumption | omega | decide) only [ev0, ev1, ev2, ev3, ev4, ev5, ev6, dList, dTup, mutS, borS, argsD, nodupB, putM, frzN, safeOp, safeD, safeDs, wipeE, restore, argCells, List.getD_cons_zero, List.getD_cons_succ, List.set_cons_zero, List.set_cons_succ, List.length_cons, List.length_nil, List.cons_append, List.nil_append, List.append_nil, List.replicate_succ, List.replicate_zero, List.not_mem_nil, List.mem_cons, if_true, if_false, ite_true, ite_false, Bool.true_and, Bool.and_true, Bool.not_true, Bool.not_false, Bool.false_eq_true, reduceIte, List.getElem?_cons_zero, List.getElem?_cons_succ, List.all_nil, List.all_cons, List.contains_nil, Option.map_some, Option.map_none, Option.bind_some, and_self, and_true, true_and, or_false, false_or, or_true, true_or, Nat.reduceAdd, Nat.reduceSub, Nat.reduceLT, Nat.reduceLeDiff, Nat.reduceEqDiff, Nat.zero_add, eq_self, true_implies, not_false_eq_true, not_true_eq_false, Nat.lt_irrefl, Nat.succ_ne_zero, Nat.lt_add_one, ne_eq, Int.reduceEq, Int.reduceNe, decide_true, decide_false, Nat.zero_lt_succ, Bool.not_eq_true', decide_not, Nat.add_one_ne_zero, Nat.zero_le, Nat.le_refl, Bool.or_true, Bool.or_false, Bool.true_or, Bool.false_or, Bool.and_false, Bool.false_and, Nat.reduceMul, isiB, String.reduceBEq, Bool.or_self, Bool.and_self, reduceCtorEq, isSS, List.contains_cons, Nat.reduceBEq, ix_ll, eq_ln, ne_ln, List.length_map, List.length_range, Int.reduceToNat, Int.reducePow, Int.reduceMul, Int.reduceAdd, Int.reduceSub, Int.reduceNeg, Int.reduceLE, Int.reduceLT, Int.toNat_natCast, Bool.and_eq_true, Bool.or_eq_true, decide_eq_true_eq, Bool.decide_eq_true, rep_d, List.length_append, List.length_reverse, map_snoc, map_app, Int.sub_zero, List.append_assoc, ite_self, e, isTb, areD]
      · simp (disch := first | assumption | omega | decide) only [ev0, ev1, ev2, ev3, ev4, ev5, ev6, dList, dTup, mutS, borS, argsD, nodupB, putM, frzN, safeOp, safeD, safeDs, wipeE, restore, argCells, List.getD_cons_zero, List.getD_cons_succ, List.set_cons_zero, List.set_cons_succ, List.length_cons, List.length_nil, List.cons_append, List.nil_append, List.append_nil, List.replicate_succ, List.replicate_zero, List.not_mem_nil, List.mem_cons, if_true, if_false, ite_true, ite_false, Bool.true_and, Bool.and_true, Bool.not_true, Bool.not_false, Bool.false_eq_true, reduceIte, List.getElem?_cons_zero, List.getElem?_cons_succ, List.all_nil, List.all_cons, List.contains_nil, Option.map_some, Option.map_none, Option.bind_some, and_self, and_true, true_and, or_false, false_or, or_true, true_or, Nat.reduceAdd, Nat.reduceSub, Nat.reduceLT, Nat.reduceLeDiff, Nat.reduceEqDiff, Nat.zero_add, eq_self, true_implies, not_false_eq_true, not_true_eq_false, Nat.lt_irrefl, Nat.succ_ne_zero, Nat.lt_add_one, ne_eq, Int.reduceEq, Int.reduceNe, decide_true, decide_false, Nat.zero_lt_succ, Bool.not_eq_true', decide_not, Nat.add_one_ne_zero, Nat.zero_le, Nat.le_refl, Bool.or_true, Bool.or_false, Bool.true_or, Bool.false_or, Bool.and_false, Bool.false_and, Nat.reduceMul, isiB, String.reduceBEq, Bool.or_self, Bool.and_self, reduceCtorEq, isSS, List.contains_cons, Nat.reduceBEq, ix_ll, eq_ln, ne_ln, List.length_map, List.length_range, Int.reduceToNat, Int.reducePow, Int.reduceMul, Int.reduceAdd, Int.reduceSub, Int.reduceNeg, Int.reduceLE, Int.reduceLT, Int.toNat_natCast, Bool.and_eq_true, Bool.or_eq_true, decide_eq_true_eq, Bool.decide_eq_true, rep_d, List.length_append, List.length_reverse, map_snoc, map_app, Int.sub_zero, List.append_assoc, ite_self, isTb]
    · simp (disch := first | assumption | omega | decide) only [ev0, ev1, ev2, ev3, ev4, ev5, ev6, dList, dTup, mutS, borS, argsD, nodupB, putM, frzN, safeOp, safeD, safeDs, wipeE, restore, argCells, List.getD_cons_zero, List.getD_cons_succ, List.set_cons_zero, List.set_cons_succ, List.length_cons, List.length_nil, List.cons_append, List.nil_append, List.append_nil, List.replicate_succ, List.replicate_zero, List.not_mem_nil, List.mem_cons, if_true, if_false, ite_true, ite_false, Bool.true_and, Bool.and_true, Bool.not_true, Bool.not_false, Bool.false_eq_true, reduceIte, List.getElem?_cons_zero, List.getElem?_cons_succ, List.all_nil, List.all_cons, List.contains_nil, Option.map_some, Option.map_none, Option.bind_some, and_self, and_true, true_and, or_false, false_or, or_true, true_or, Nat.reduceAdd, Nat.reduceSub, Nat.reduceLT, Nat.reduceLeDiff, Nat.reduceEqDiff, Nat.zero_add, eq_self, true_implies, not_false_eq_true, not_true_eq_false, Nat.lt_irrefl, Nat.succ_ne_zero, Nat.lt_add_one, ne_eq, Int.reduceEq, Int.reduceNe, decide_true, decide_false, Nat.zero_lt_succ, Bool.not_eq_true', decide_not, Nat.add_one_ne_zero, Nat.zero_le, Nat.le_refl, Bool.or_true, Bool.or_false, Bool.true_or, Bool.false_or, Bool.and_false, Bool.false_and, Nat.reduceMul, isiB, String.reduceBEq, Bool.or_self, Bool.and_self, reduceCtorEq, isSS, List.contains_cons, Nat.reduceBEq, ix_ll, eq_ln, ne_ln, List.length_map, List.length_range, Int.reduceToNat, Int.reducePow, Int.reduceMul, Int.reduceAdd, Int.reduceSub, Int.reduceNeg, Int.reduceLE, Int.reduceLT, Int.toNat_natCast, Bool.and_eq_true, Bool.or_eq_true, decide_eq_true_eq, Bool.decide_eq_true, rep_d, List.length_append, List.length_reverse, map_snoc, map_app, Int.sub_zero, List.append_assoc, ite_self, isTb]
  | _ => simp (disch := first | assumption | omega | decide) only [ev0, ev1, ev2, ev3, ev4, ev5, ev6, dList, dTup, mutS, borS, argsD, nodupB, putM, frzN, safeOp, safeD, safeDs, wipeE, restore, argCells, List.getD_cons_zero, List.getD_cons_succ, List.set_cons_zero, List.set_cons_succ, List.length_cons, List.length_nil, List.cons_append, List.nil_append, List.append_nil, List.replicate_succ, List.replicate_zero, List.not_mem_nil, List.mem_cons, if_true, if_false, ite_true, ite_false, Bool.true_and, Bool.and_true, Bool.not_true, Bool.not_false, Bool.false_eq_true, reduceIte, List.getElem?_cons_zero, List.getElem?_cons_succ, List.all_nil, List.all_cons, List.contains_nil, Option.map_some, Option.map_none, Option.bind_some, and_self, and_true, true_and, or_false, false_or, or_true, true_or, Nat.reduceAdd, Nat.reduceSub, Nat.reduceLT, Nat.reduceLeDiff, Nat.reduceEqDiff, Nat.zero_add, eq_self, true_implies, not_false_eq_true, not_true_eq_false, Nat.lt_irrefl, Nat.succ_ne_zero, Nat.lt_add_one, ne_eq, Int.reduceEq, Int.reduceNe, decide_true, decide_false, Nat.zero_lt_succ, Bool.not_eq_true', decide_not, Nat.add_one_ne_zero, Nat.zero_le, Nat.le_refl, Bool.or_true, Bool.or_false, Bool.true_or, Bool.false_or, Bool.and_false, Bool.false_and, Nat.reduceMul, isiB, String.reduceBEq, Bool.or_self, Bool.and_self, reduceCtorEq, isSS, List.contains_cons, Nat.reduceBEq, ix_ll, eq_ln, ne_ln, List.length_map, List.length_range, Int.reduceToNat, Int.reducePow, Int.reduceMul, Int.reduceAdd, Int.reduceSub, Int.reduceNeg, Int.reduceLE, Int.reduceLT, Int.toNat_natCast, Bool.and_eq_true, Bool.or_eq_true, decide_eq_true_eq, Bool.decide_eq_true, rep_d, List.length_append, List.length_reverse, map_snoc, map_app, Int.sub_zero, List.append_assoc, ite_self, isTb]
theorem need_moves_eq (d : D) : m_need_moves [d] = if isTb d = true then .ok (.val .none) [] else .exc "InvalidMoves" [] := by
  unfold m_need_moves b_need_moves
  cases h : isTb d <;> simp (disch := first | assumption | omega | decide) only [ev0, ev1, ev2, ev3, ev4, ev5, ev6, dList, dTup, mutS, borS, argsD, nodupB, putM, frzN, safeOp, safeD, safeDs, wipeE, restore, argCells, List.getD_cons_zero, List.getD_cons_succ, List.set_cons_zero, List.set_cons_succ, List.length_cons, List.length_nil, List.cons_append, List.nil_append, List.append_nil, List.replicate_succ, List.replicate_zero, List.not_mem_nil, List.mem_cons, if_true, if_false, ite_true, ite_false, Bool.true_and, Bool.and_true, Bool.not_true, Bool.not_false, Bool.false_eq_true, reduceIte, List.getElem?_cons_zero, List.getElem?_cons_succ, List.all_nil, List.all_cons, List.contains_nil, Option.map_some, Option.map_none, Option.bind_some, and_self, and_true, true_and, or_false, false_or, or_true, true_or, Nat.reduceAdd, Nat.reduceSub, Nat.reduceLT, Nat.reduceLeDiff, Nat.reduceEqDiff, Nat.zero_add, eq_self, true_implies, not_false_eq_true, not_true_eq_false, Nat.lt_irrefl, Nat.succ_ne_zero, Nat.lt_add_one, ne_eq, Int.reduceEq, Int.reduceNe, decide_true, decide_false, Nat.zero_lt_succ, Bool.not_eq_true', decide_not, Nat.add_one_ne_zero, Nat.zero_le, Nat.le_refl, Bool.or_true, Bool.or_false, Bool.true_or, Bool.false_or, Bool.and_false, Bool.false_and, Nat.reduceMul, isiB, String.reduceBEq, Bool.or_self, Bool.and_self, reduceCtorEq, isSS, List.contains_cons, Nat.reduceBEq, ix_ll, eq_ln, ne_ln, List.length_map, List.length_range, Int.reduceToNat, Int.reducePow, Int.reduceMul, Int.reduceAdd, Int.reduceSub, Int.reduceNeg, Int.reduceLE, Int.reduceLT, Int.toNat_natCast, Bool.and_eq_true, Bool.or_eq_true, decide_eq_true_eq, Bool.decide_eq_true, rep_d, List.length_append, List.length_reverse, map_snoc, map_app, Int.sub_zero, List.append_assoc, ite_self, is_table_eq, h]
theorem InR.tb {n : Nat} {ns : List Int} (h : InR n ns) (h1 : 1 ≤ n) (h2 : n ≤ 12) : isTb (.list (ns.map .int)) = true := by
  have hl := h.1
  have : (ns.map PyData.int).all (irD 0 ((ns.length : Int) - 1)) = true := by
    rw [List.all_eq_true]
    intro d hd
    obtain ⟨x, hx, rfl⟩ := List.mem_map.mp hd
    have := h.2 x hx
    simp only [irD, Bool.and_eq_true, decide_eq_true_eq]
    omega
  simp only [isTb, List.length_map, this, Bool.and_true, Bool.and_eq_true, decide_eq_true_eq]
  omega
abbrev Pt (t b : Int) : D := .tuple [.int t, .int b]
theorem is_point_eq (t b : Int) (h : 0 < b) : m_is_point [Pt t b] = .ok (.val (.bool true)) [] := by
  unfold m_is_point b_is_point
  simp (disch := first | assumption | omega | decide) only [ev0, ev1, ev2, ev3, ev4, ev5, ev6, dList, dTup, mutS, borS, argsD, nodupB, putM, frzN, safeOp, safeD, safeDs, wipeE, restore, argCells, List.getD_cons_zero, List.getD_cons_succ, List.set_cons_zero, List.set_cons_succ, List.length_cons, List.length_nil, List.cons_append, List.nil_append, List.append_nil, List.replicate_succ, List.replicate_zero, List.not_mem_nil, List.mem_cons, if_true, if_false, ite_true, ite_false, Bool.true_and, Bool.and_true, Bool.not_true, Bool.not_false, Bool.false_eq_true, reduceIte, List.getElem?_cons_zero, List.getElem?_cons_succ, List.all_nil, List.all_cons, List.contains_nil, Option.map_some, Option.map_none, Option.bind_some, and_self, and_true, true_and, or_false, false_or, or_true, true_or, Nat.reduceAdd, Nat.reduceSub, Nat.reduceLT, Nat.reduceLeDiff, Nat.reduceEqDiff, Nat.zero_add, eq_self, true_implies, not_false_eq_true, not_true_eq_false, Nat.lt_irrefl, Nat.succ_ne_zero, Nat.lt_add_one, ne_eq, Int.reduceEq, Int.reduceNe, decide_true, decide_false, Nat.zero_lt_succ, Bool.not_eq_true', decide_not, Nat.add_one_ne_zero, Nat.zero_le, Nat.le_refl, Bool.or_true, Bool.or_false, Bool.true_or, Bool.false_or, Bool.and_false, Bool.false_and, Nat.reduceMul, isiB, String.reduceBEq, Bool.or_self, Bool.and_self, reduceCtorEq, isSS, List.contains_cons, Nat.reduceBEq, ix_ll, eq_ln, ne_ln, List.length_map, List.length_range, Int.reduceToNat, Int.reducePow, Int.reduceMul, Int.reduceAdd, Int.reduceSub, Int.reduceNeg, Int.reduceLE, Int.reduceLT, Int.toNat_natCast, Bool.and_eq_true, Bool.or_eq_true, decide_eq_true_eq, Bool.decide_eq_true, rep_d, List.length_append, List.length_reverse, map_snoc, map_app, Int.sub_zero, List.append_assoc, ite_self, isint_nn, isint_n, isI, isIf]
theorem need_point_eq (t b : Int) (h : 0 < b) : m_need_point [Pt t b] = .ok (.val .none) [] := by
  unfold m_need_point b_need_point
  simp (disch := first | assumption | omega | decide) only [ev0, ev1, ev2, ev3, ev4, ev5, ev6, dList, dTup, mutS, borS, argsD, nodupB, putM, frzN, safeOp, safeD, safeDs, wipeE, restore, argCells, List.getD_cons_zero, List.getD_cons_succ, List.set_cons_zero, List.set_cons_succ, List.length_cons, List.length_nil, List.cons_append, List.nil_append, List.append_nil, List.replicate_succ, List.replicate_zero, List.not_mem_nil, List.mem_cons, if_true, if_false, ite_true, ite_false, Bool.true_and, Bool.and_true, Bool.not_true, Bool.not_false, Bool.false_eq_true, reduceIte, List.getElem?_cons_zero, List.getElem?_cons_succ, List.all_nil, List.all_cons, List.contains_nil, Option.map_some, Option.map_none, Option.bind_some, and_self, and_true, true_and, or_false, false_or, or_true, true_or, Nat.reduceAdd, Nat.reduceSub, Nat.reduceLT, Nat.reduceLeDiff, Nat.reduceEqDiff, Nat.zero_add, eq_self, true_implies, not_false_eq_true, not_true_eq_false, Nat.lt_irrefl, Nat.succ_ne_zero, Nat.lt_add_one, ne_eq, Int.reduceEq, Int.reduceNe, decide_true, decide_false, Nat.zero_lt_succ, Bool.not_eq_true', decide_not, Nat.add_one_ne_zero, Nat.zero_le, Nat.le_refl, Bool.or_true, Bool.or_false, Bool.true_or, Bool.false_or, Bool.and_false, Bool.false_and, Nat.reduceMul, isiB, String.reduceBEq, Bool.or_self, Bool.and_self, reduceCtorEq, isSS, List.contains_cons, Nat.reduceBEq, ix_ll, eq_ln, ne_ln, List.length_map, List.length_range, Int.reduceToNat, Int.reducePow, Int.reduceMul, Int.reduceAdd, Int.reduceSub, Int.reduceNeg, Int.reduceLE, Int.reduceLT, Int.toNat_natCast, Bool.and_eq_true, Bool.or_eq_true, decide_eq_true_eq, Bool.decide_eq_true, rep_d, List.length_append, List.length_reverse, map_snoc, map_app, Int.sub_zero, List.append_assoc, ite_self, is_point_eq]
theorem gcd_step (x y : Int) (hx : 0 ≤ x) (hy : 0 < y) : Int.gcd y (x % y) = Int.gcd x y := by
  obtain ⟨m, rfl⟩ := Int.eq_ofNat_of_zero_le hx
  obtain ⟨n, rfl⟩ := Int.eq_ofNat_of_zero_le (show 0 ≤ y by omega)
  rw [← Int.natCast_emod]
  simp only [Int.gcd_natCast_natCast]
  rw [Nat.gcd_comm m n, Nat.gcd_rec n m, Nat.gcd_comm]
theorem absI (i : Int) : (if i < 0 then -i else i) = (i.natAbs : Int) := by split <;> omega
theorem euclid {t : Tx} {w : Sx} (F : Int → Int → En)
    (ht : ∀ x y, t (F x y) = .ok (!(y == 0)) (F x y)) (hw : ∀ x y, 0 ≤ x → 0 < y → w (F x y) = .ok .nx (F y (x % y))) : ∀ (fuel : Nat) (a b : Int), 0 ≤ a → 0 ≤ b → b.natAbs < fuel →
    wLoop t w fuel (F a b) = .ok .nx (F (Int.gcd a b) 0)
  | 0, _, _, _, _, h => absurd h (Nat.not_lt_zero _)
  | fuel + 1, a, b, ha, hb, h => by
    rw [while_succ, ht, bind_ok, kv_wh]
    by_cases hz : b = 0
    · subst hz
      rw [if_neg (by decide), Int.gcd_zero_right, show ((a.natAbs : Nat) : Int) = a by omega]
    · have h1 := Int.emod_nonneg a hz
      have h2 := Int.emod_lt_of_pos a (b := b) (by omega)
      rw [if_pos (by rw [beqF hz]; rfl), hw a b ha (by omega), bind_ok, kv_wh_nx, euclid F ht hw fuel b (a % b) hb h1 (by omega), gcd_step a b ha (by omega)]
theorem divisor_eq (a b : Int) (h : b.natAbs < 10 ^ 120) : m_common_divisor [.int a, .int b] = .ok (.val (.int (Int.gcd a b))) [] := by
  have q := euclid (t := t_common_divisor_1) (w := w_common_divisor_1) (fun x y => [.v (.int x), .v (.int y)]) (fun x y => by
    unfold t_common_divisor_1
    simp (disch := first | assumption | omega | decide) only [ev0, ev1, ev2, ev3, ev4, ev5, ev6, dList, dTup, mutS, borS, argsD, nodupB, putM, frzN, safeOp, safeD, safeDs, wipeE, restore, argCells, List.getD_cons_zero, List.getD_cons_succ, List.set_cons_zero, List.set_cons_succ, List.length_cons, List.length_nil, List.cons_append, List.nil_append, List.append_nil, List.replicate_succ, List.replicate_zero, List.not_mem_nil, List.mem_cons, if_true, if_false, ite_true, ite_false, Bool.true_and, Bool.and_true, Bool.not_true, Bool.not_false, Bool.false_eq_true, reduceIte, List.getElem?_cons_zero, List.getElem?_cons_succ, List.all_nil, List.all_cons, List.contains_nil, Option.map_some, Option.map_none, Option.bind_some, and_self, and_true, true_and, or_false, false_or, or_true, true_or, Nat.reduceAdd, Nat.reduceSub, Nat.reduceLT, Nat.reduceLeDiff, Nat.reduceEqDiff, Nat.zero_add, eq_self, true_implies, not_false_eq_true, not_true_eq_false, Nat.lt_irrefl, Nat.succ_ne_zero, Nat.lt_add_one, ne_eq, Int.reduceEq, Int.reduceNe, decide_true, decide_false, Nat.zero_lt_succ, Bool.not_eq_true', decide_not, Nat.add_one_ne_zero, Nat.zero_le, Nat.le_refl, Bool.or_true, Bool.or_false, Bool.true_or, Bool.false_or, Bool.and_false, Bool.false_and, Nat.reduceMul, isiB, String.reduceBEq, Bool.or_self, Bool.and_self, reduceCtorEq, isSS, List.contains_cons, Nat.reduceBEq, ix_ll, eq_ln, ne_ln, List.length_map, List.length_range, Int.reduceToNat, Int.reducePow, Int.reduceMul, Int.reduceAdd, Int.reduceSub, Int.reduceNeg, Int.reduceLE, Int.reduceLT, Int.toNat_natCast, Bool.and_eq_true, Bool.or_eq_true, decide_eq_true_eq, Bool.decide_eq_true, rep_d, List.length_append, List.length_reverse, map_snoc, map_app, Int.sub_zero, List.append_assoc, ite_self]) (fun x y hx hy => by
    unfold w_common_divisor_1
    simp (disch := first | assumption | omega | decide) only [ev0, ev1, ev2, ev3, ev4, ev5, ev6, dList, dTup, mutS, borS, argsD, nodupB, putM, frzN, safeOp, safeD, safeDs, wipeE, restore, argCells, List.getD_cons_zero, List.getD_cons_succ, List.set_cons_zero, List.set_cons_succ, List.length_cons, List.length_nil, List.cons_append, List.nil_append, List.append_nil, List.replicate_succ, List.replicate_zero, List.not_mem_nil, List.mem_cons, if_true, if_false, ite_true, ite_false, Bool.true_and, Bool.and_true, Bool.not_true, Bool.not_false, Bool.false_eq_true, reduceIte, List.getElem?_cons_zero, List.getElem?_cons_succ, List.all_nil, List.all_cons, List.contains_nil, Option.map_some, Option.map_none, Option.bind_some, and_self, and_true, true_and, or_false, false_or, or_true, true_or, Nat.reduceAdd, Nat.reduceSub, Nat.reduceLT, Nat.reduceLeDiff, Nat.reduceEqDiff, Nat.zero_add, eq_self, true_implies, not_false_eq_true, not_true_eq_false, Nat.lt_irrefl, Nat.succ_ne_zero, Nat.lt_add_one, ne_eq, Int.reduceEq, Int.reduceNe, decide_true, decide_false, Nat.zero_lt_succ, Bool.not_eq_true', decide_not, Nat.add_one_ne_zero, Nat.zero_le, Nat.le_refl, Bool.or_true, Bool.or_false, Bool.true_or, Bool.false_or, Bool.and_false, Bool.false_and, Nat.reduceMul, isiB, String.reduceBEq, Bool.or_self, Bool.and_self, reduceCtorEq, isSS, List.contains_cons, Nat.reduceBEq, ix_ll, eq_ln, ne_ln, List.length_map, List.length_range, Int.reduceToNat, Int.reducePow, Int.reduceMul, Int.reduceAdd, Int.reduceSub, Int.reduceNeg, Int.reduceLE, Int.reduceLT, Int.toNat_natCast, Bool.and_eq_true, Bool.or_eq_true, decide_eq_true_eq, Bool.decide_eq_true, rep_d, List.length_append, List.length_reverse, map_snoc, map_app, Int.sub_zero, List.append_assoc, ite_self]) (10 ^ 120) a.natAbs b.natAbs (by omega) (by omega) (by omega)
  rw [show Int.gcd (a.natAbs : Int) (b.natAbs : Int) = Int.gcd a b by simp [Int.gcd]] at q
  unfold m_common_divisor b_common_divisor
  rw [show (10 ^ 120 : Nat) = 1000000000000000000000000000000000000000000000000000000000000000000000000000000000000000000000000000000000000000000000000 by decide] at q
  simp (disch := first | assumption | omega | decide) only [ev0, ev1, ev2, ev3, ev4, ev5, ev6, dList, dTup, mutS, borS, argsD, nodupB, putM, frzN, safeOp, safeD, safeDs, wipeE, restore, argCells, List.getD_cons_zero, List.getD_cons_succ, List.set_cons_zero, List.set_cons_succ, List.length_cons, List.length_nil, List.cons_append, List.nil_append, List.append_nil, List.replicate_succ, List.replicate_zero, List.not_mem_nil, List.mem_cons, if_true, if_false, ite_true, ite_false, Bool.true_and, Bool.and_true, Bool.not_true, Bool.not_false, Bool.false_eq_true, reduceIte, List.getElem?_cons_zero, List.getElem?_cons_succ, List.all_nil, List.all_cons, List.contains_nil, Option.map_some, Option.map_none, Option.bind_some, and_self, and_true, true_and, or_false, false_or, or_true, true_or, Nat.reduceAdd, Nat.reduceSub, Nat.reduceLT, Nat.reduceLeDiff, Nat.reduceEqDiff, Nat.zero_add, eq_self, true_implies, not_false_eq_true, not_true_eq_false, Nat.lt_irrefl, Nat.succ_ne_zero, Nat.lt_add_one, ne_eq, Int.reduceEq, Int.reduceNe, decide_true, decide_false, Nat.zero_lt_succ, Bool.not_eq_true', decide_not, Nat.add_one_ne_zero, Nat.zero_le, Nat.le_refl, Bool.or_true, Bool.or_false, Bool.true_or, Bool.false_or, Bool.and_false, Bool.false_and, Nat.reduceMul, isiB, String.reduceBEq, Bool.or_self, Bool.and_self, reduceCtorEq, isSS, List.contains_cons, Nat.reduceBEq, ix_ll, eq_ln, ne_ln, List.length_map, List.length_range, Int.reduceToNat, Int.reducePow, Int.reduceMul, Int.reduceAdd, Int.reduceSub, Int.reduceNeg, Int.reduceLE, Int.reduceLT, Int.toNat_natCast, Bool.and_eq_true, Bool.or_eq_true, decide_eq_true_eq, Bool.decide_eq_true, rep_d, List.length_append, List.length_reverse, map_snoc, map_app, Int.sub_zero, List.append_assoc, ite_self, absI, q]
def lowT (t b : Int) : Int := t / (Int.gcd t b : Int)
def lowB (t b : Int) : Int := b / (Int.gcd t b : Int)
theorem gcd_pos {t b : Int} (h : 0 < b) : 0 < (Int.gcd t b : Int) := by
  have : 0 < Int.gcd t b := Int.gcd_pos_of_ne_zero_right _ (by omega)
  omega
theorem gcd_le {t b : Int} (h : 0 < b) : (Int.gcd t b : Int) ≤ b := Int.le_of_dvd h (Int.gcd_dvd_right ..)
theorem lowest_eq (t b : Int) (h : 0 < b) (g : b < 10 ^ 120) : m_lowest_terms [.int t, .int b] = .ok (.val (Pt (lowT t b) (lowB t b))) [] := by
  have h1 := gcd_pos (t := t) h
  have h2 := gcd_le (t := t) h
  have hB : Big (Int.gcd t b : Int) := big_of (k := 500) (by omega) (by omega)
  unfold m_lowest_terms b_lowest_terms
  simp (disch := first | assumption | omega | decide) only [ev0, ev1, ev2, ev3, ev4, ev5, ev6, dList, dTup, mutS, borS, argsD, nodupB, putM, frzN, safeOp, safeD, safeDs, wipeE, restore, argCells, List.getD_cons_zero, List.getD_cons_succ, List.set_cons_zero, List.set_cons_succ, List.length_cons, List.length_nil, List.cons_append, List.nil_append, List.append_nil, List.replicate_succ, List.replicate_zero, List.not_mem_nil, List.mem_cons, if_true, if_false, ite_true, ite_false, Bool.true_and, Bool.and_true, Bool.not_true, Bool.not_false, Bool.false_eq_true, reduceIte, List.getElem?_cons_zero, List.getElem?_cons_succ, List.all_nil, List.all_cons, List.contains_nil, Option.map_some, Option.map_none, Option.bind_some, and_self, and_true, true_and, or_false, false_or, or_true, true_or, Nat.reduceAdd, Nat.reduceSub, Nat.reduceLT, Nat.reduceLeDiff, Nat.reduceEqDiff, Nat.zero_add, eq_self, true_implies, not_false_eq_true, not_true_eq_false, Nat.lt_irrefl, Nat.succ_ne_zero, Nat.lt_add_one, ne_eq, Int.reduceEq, Int.reduceNe, decide_true, decide_false, Nat.zero_lt_succ, Bool.not_eq_true', decide_not, Nat.add_one_ne_zero, Nat.zero_le, Nat.le_refl, Bool.or_true, Bool.or_false, Bool.true_or, Bool.false_or, Bool.and_false, Bool.false_and, Nat.reduceMul, isiB, String.reduceBEq, Bool.or_self, Bool.and_self, reduceCtorEq, isSS, List.contains_cons, Nat.reduceBEq, ix_ll, eq_ln, ne_ln, List.length_map, List.length_range, Int.reduceToNat, Int.reducePow, Int.reduceMul, Int.reduceAdd, Int.reduceSub, Int.reduceNeg, Int.reduceLE, Int.reduceLT, Int.toNat_natCast, Bool.and_eq_true, Bool.or_eq_true, decide_eq_true_eq, Bool.decide_eq_true, rep_d, List.length_append, List.length_reverse, map_snoc, map_app, Int.sub_zero, List.append_assoc, ite_self, divisor_eq, lowT, lowB]
theorem l_lowest_eq (t b : Int) (h : 0 < b) (g : b < 10 ^ 120) : m_l_lowest [.int t, .int b] = .ok (.val (Pt (lowT t b) (lowB t b))) [] := by
  have h1 := gcd_pos (t := t) h
  have h2 := gcd_le (t := t) h
  have hB : Big (Int.gcd t b : Int) := big_of (k := 500) (by omega) (by omega)
  have q := euclid (t := t_l_lowest_1) (w := w_l_lowest_1) (fun x y => [.v (.int t), .v (.int b), .v (.int x), .v (.int y)]) (fun x y => by
    unfold t_l_lowest_1
    simp (disch := first | assumption | omega | decide) only [ev0, ev1, ev2, ev3, ev4, ev5, ev6, dList, dTup, mutS, borS, argsD, nodupB, putM, frzN, safeOp, safeD, safeDs, wipeE, restore, argCells, List.getD_cons_zero, List.getD_cons_succ, List.set_cons_zero, List.set_cons_succ, List.length_cons, List.length_nil, List.cons_append, List.nil_append, List.append_nil, List.replicate_succ, List.replicate_zero, List.not_mem_nil, List.mem_cons, if_true, if_false, ite_true, ite_false, Bool.true_and, Bool.and_true, Bool.not_true, Bool.not_false, Bool.false_eq_true, reduceIte, List.getElem?_cons_zero, List.getElem?_cons_succ, List.all_nil, List.all_cons, List.contains_nil, Option.map_some, Option.map_none, Option.bind_some, and_self, and_true, true_and, or_false, false_or, or_true, true_or, Nat.reduceAdd, Nat.reduceSub, Nat.reduceLT, Nat.reduceLeDiff, Nat.reduceEqDiff, Nat.zero_add, eq_self, true_implies, not_false_eq_true, not_true_eq_false, Nat.lt_irrefl, Nat.succ_ne_zero, Nat.lt_add_one, ne_eq, Int.reduceEq, Int.reduceNe, decide_true, decide_false, Nat.zero_lt_succ, Bool.not_eq_true', decide_not, Nat.add_one_ne_zero, Nat.zero_le, Nat.le_refl, Bool.or_true, Bool.or_false, Bool.true_or, Bool.false_or, Bool.and_false, Bool.false_and, Nat.reduceMul, isiB, String.reduceBEq, Bool.or_self, Bool.and_self, reduceCtorEq, isSS, List.contains_cons, Nat.reduceBEq, ix_ll, eq_ln, ne_ln, List.length_map, List.length_range, Int.reduceToNat, Int.reducePow, Int.reduceMul, Int.reduceAdd, Int.reduceSub, Int.reduceNeg, Int.reduceLE, Int.reduceLT, Int.toNat_natCast, Bool.and_eq_true, Bool.or_eq_true, decide_eq_true_eq, Bool.decide_eq_true, rep_d, List.length_append, List.length_reverse, map_snoc, map_app, Int.sub_zero, List.append_assoc, ite_self]) (fun x y hx hy => by
    unfold w_l_lowest_1
    simp (disch := first | assumption | omega | decide) only [ev0, ev1, ev2, ev3, ev4, ev5, ev6, dList, dTup, mutS, borS, argsD, nodupB, putM, frzN, safeOp, safeD, safeDs, wipeE, restore, argCells, List.getD_cons_zero, List.getD_cons_succ, List.set_cons_zero, List.set_cons_succ, List.length_cons, List.length_nil, List.cons_append, List.nil_append, List.append_nil, List.replicate_succ, List.replicate_zero, List.not_mem_nil, List.mem_cons, if_true, if_false, ite_true, ite_false, Bool.true_and, Bool.and_true, Bool.not_true, Bool.not_false, Bool.false_eq_true, reduceIte, List.getElem?_cons_zero, List.getElem?_cons_succ, List.all_nil, List.all_cons, List.contains_nil, Option.map_some, Option.map_none, Option.bind_some, and_self, and_true, true_and, or_false, false_or, or_true, true_or, Nat.reduceAdd, Nat.reduceSub, Nat.reduceLT, Nat.reduceLeDiff, Nat.reduceEqDiff, Nat.zero_add, eq_self, true_implies, not_false_eq_true, not_true_eq_false, Nat.lt_irrefl, Nat.succ_ne_zero, Nat.lt_add_one, ne_eq, Int.reduceEq, Int.reduceNe, decide_true, decide_false, Nat.zero_lt_succ, Bool.not_eq_true', decide_not, Nat.add_one_ne_zero, Nat.zero_le, Nat.le_refl, Bool.or_true, Bool.or_false, Bool.true_or, Bool.false_or, Bool.and_false, Bool.false_and, Nat.reduceMul, isiB, String.reduceBEq, Bool.or_self, Bool.and_self, reduceCtorEq, isSS, List.contains_cons, Nat.reduceBEq, ix_ll, eq_ln, ne_ln, List.length_map, List.length_range, Int.reduceToNat, Int.reducePow, Int.reduceMul, Int.reduceAdd, Int.reduceSub, Int.reduceNeg, Int.reduceLE, Int.reduceLT, Int.toNat_natCast, Bool.and_eq_true, Bool.or_eq_true, decide_eq_true_eq, Bool.decide_eq_true, rep_d, List.length_append, List.length_reverse, map_snoc, map_app, Int.sub_zero, List.append_assoc, ite_self]) (10 ^ 120) t.natAbs b.natAbs (by omega) (by omega) (by omega)
  rw [show Int.gcd (t.natAbs : Int) (b.natAbs : Int) = Int.gcd t b by simp [Int.gcd]] at q
  unfold m_l_lowest b_l_lowest
  rw [show (10 ^ 120 : Nat) = 1000000000000000000000000000000000000000000000000000000000000000000000000000000000000000000000000000000000000000000000000 by decide] at q
  simp (disch := first | assumption | omega | decide) only [ev0, ev1, ev2, ev3, ev4, ev5, ev6, dList, dTup, mutS, borS, argsD, nodupB, putM, frzN, safeOp, safeD, safeDs, wipeE, restore, argCells, List.getD_cons_zero, List.getD_cons_succ, List.set_cons_zero, List.set_cons_succ, List.length_cons, List.length_nil, List.cons_append, List.nil_append, List.append_nil, List.replicate_succ, List.replicate_zero, List.not_mem_nil, List.mem_cons, if_true, if_false, ite_true, ite_false, Bool.true_and, Bool.and_true, Bool.not_true, Bool.not_false, Bool.false_eq_true, reduceIte, List.getElem?_cons_zero, List.getElem?_cons_succ, List.all_nil, List.all_cons, List.contains_nil, Option.map_some, Option.map_none, Option.bind_some, and_self, and_true, true_and, or_false, false_or, or_true, true_or, Nat.reduceAdd, Nat.reduceSub, Nat.reduceLT, Nat.reduceLeDiff, Nat.reduceEqDiff, Nat.zero_add, eq_self, true_implies, not_false_eq_true, not_true_eq_false, Nat.lt_irrefl, Nat.succ_ne_zero, Nat.lt_add_one, ne_eq, Int.reduceEq, Int.reduceNe, decide_true, decide_false, Nat.zero_lt_succ, Bool.not_eq_true', decide_not, Nat.add_one_ne_zero, Nat.zero_le, Nat.le_refl, Bool.or_true, Bool.or_false, Bool.true_or, Bool.false_or, Bool.and_false, Bool.false_and, Nat.reduceMul, isiB, String.reduceBEq, Bool.or_self, Bool.and_self, reduceCtorEq, isSS, List.contains_cons, Nat.reduceBEq, ix_ll, eq_ln, ne_ln, List.length_map, List.length_range, Int.reduceToNat, Int.reducePow, Int.reduceMul, Int.reduceAdd, Int.reduceSub, Int.reduceNeg, Int.reduceLE, Int.reduceLT, Int.toNat_natCast, Bool.and_eq_true, Bool.or_eq_true, decide_eq_true_eq, Bool.decide_eq_true, rep_d, List.length_append, List.length_reverse, map_snoc, map_app, Int.sub_zero, List.append_assoc, ite_self, absI, q, lowT, lowB]
/-- tops and bottoms of where a point is led, not in lowest terms within the places -/
def strN (ms : List Int) (t b : Int) : Int := ms.getD (t / b).toNat 0 * b + (ms.getD (t / b + 1).toNat 0 - ms.getD (t / b).toNat 0) * (t - t / b * b)
def strP (ms : List Int) (t b : Int) : Int × Int := if t ≤ 0 then (ms.getD 0 0, 1) else if ((ms.length : Int) - 1) * b ≤ t then (ms.getD (ms.length - 1) 0, 1) else (lowT (strN ms t b) b, lowB (strN ms t b) b)
theorem place_in {t b l : Int} (hb : 0 < b) (h0 : 0 < t) (h1 : ¬ l * b ≤ t) : 0 ≤ t / b ∧ t / b < l :=
  ⟨Int.ediv_nonneg (by omega) (by omega), Int.ediv_lt_of_lt_mul hb (by omega)⟩
theorem straight_eq {n : Nat} {ms : List Int} (hm : InR n ms) (h1 : 1 ≤ n) (h2 : n ≤ 1000) (t b : Int) (hb : 0 < b) (hB : b < 10 ^ 120) : m_straight [.list (ms.map .int), Pt t b] = .ok (.val (Pt (strP ms t b).1 (strP ms t b).2)) [] := by
  have hl := hm.1
  have bB : Big b := big_of (k := 500) (by omega) (by omega)
  unfold m_straight b_straight strP
  by_cases c1 : t ≤ 0
  · rw [if_pos c1]
    simp (disch := first | assumption | omega | decide) only [ev0, ev1, ev2, ev3, ev4, ev5, ev6, dList, dTup, mutS, borS, argsD, nodupB, putM, frzN, safeOp, safeD, safeDs, wipeE, restore, argCells, List.getD_cons_zero, List.getD_cons_succ, List.set_cons_zero, List.set_cons_succ, List.length_cons, List.length_nil, List.cons_append, List.nil_append, List.append_nil, List.replicate_succ, List.replicate_zero, List.not_mem_nil, List.mem_cons, if_true, if_false, ite_true, ite_false, Bool.true_and, Bool.and_true, Bool.not_true, Bool.not_false, Bool.false_eq_true, reduceIte, List.getElem?_cons_zero, List.getElem?_cons_succ, List.all_nil, List.all_cons, List.contains_nil, Option.map_some, Option.map_none, Option.bind_some, and_self, and_true, true_and, or_false, false_or, or_true, true_or, Nat.reduceAdd, Nat.reduceSub, Nat.reduceLT, Nat.reduceLeDiff, Nat.reduceEqDiff, Nat.zero_add, eq_self, true_implies, not_false_eq_true, not_true_eq_false, Nat.lt_irrefl, Nat.succ_ne_zero, Nat.lt_add_one, ne_eq, Int.reduceEq, Int.reduceNe, decide_true, decide_false, Nat.zero_lt_succ, Bool.not_eq_true', decide_not, Nat.add_one_ne_zero, Nat.zero_le, Nat.le_refl, Bool.or_true, Bool.or_false, Bool.true_or, Bool.false_or, Bool.and_false, Bool.false_and, Nat.reduceMul, isiB, String.reduceBEq, Bool.or_self, Bool.and_self, reduceCtorEq, isSS, List.contains_cons, Nat.reduceBEq, ix_ll, eq_ln, ne_ln, List.length_map, List.length_range, Int.reduceToNat, Int.reducePow, Int.reduceMul, Int.reduceAdd, Int.reduceSub, Int.reduceNeg, Int.reduceLE, Int.reduceLT, Int.toNat_natCast, Bool.and_eq_true, Bool.or_eq_true, decide_eq_true_eq, Bool.decide_eq_true, rep_d, List.length_append, List.length_reverse, map_snoc, map_app, Int.sub_zero, List.append_assoc, ite_self]
  · rw [if_neg c1]
    by_cases c2 : ((ms.length : Int) - 1) * b ≤ t
    · rw [if_pos c2]
      simp (disch := first | assumption | omega | decide) only [ev0, ev1, ev2, ev3, ev4, ev5, ev6, dList, dTup, mutS, borS, argsD, nodupB, putM, frzN, safeOp, safeD, safeDs, wipeE, restore, argCells, List.getD_cons_zero, List.getD_cons_succ, List.set_cons_zero, List.set_cons_succ, List.length_cons, List.length_nil, List.cons_append, List.nil_append, List.append_nil, List.replicate_succ, List.replicate_zero, List.not_mem_nil, List.mem_cons, if_true, if_false, ite_true, ite_false, Bool.true_and, Bool.and_true, Bool.not_true, Bool.not_false, Bool.false_eq_true, reduceIte, List.getElem?_cons_zero, List.getElem?_cons_succ, List.all_nil, List.all_cons, List.contains_nil, Option.map_some, Option.map_none, Option.bind_some, and_self, and_true, true_and, or_false, false_or, or_true, true_or, Nat.reduceAdd, Nat.reduceSub, Nat.reduceLT, Nat.reduceLeDiff, Nat.reduceEqDiff, Nat.zero_add, eq_self, true_implies, not_false_eq_true, not_true_eq_false, Nat.lt_irrefl, Nat.succ_ne_zero, Nat.lt_add_one, ne_eq, Int.reduceEq, Int.reduceNe, decide_true, decide_false, Nat.zero_lt_succ, Bool.not_eq_true', decide_not, Nat.add_one_ne_zero, Nat.zero_le, Nat.le_refl, Bool.or_true, Bool.or_false, Bool.true_or, Bool.false_or, Bool.and_false, Bool.false_and, Nat.reduceMul, isiB, String.reduceBEq, Bool.or_self, Bool.and_self, reduceCtorEq, isSS, List.contains_cons, Nat.reduceBEq, ix_ll, eq_ln, ne_ln, List.length_map, List.length_range, Int.reduceToNat, Int.reducePow, Int.reduceMul, Int.reduceAdd, Int.reduceSub, Int.reduceNeg, Int.reduceLE, Int.reduceLT, Int.toNat_natCast, Bool.and_eq_true, Bool.or_eq_true, decide_eq_true_eq, Bool.decide_eq_true, rep_d, List.length_append, List.length_reverse, map_snoc, map_app, Int.sub_zero, List.append_assoc, ite_self]
    · rw [if_neg c2]
      obtain ⟨p0, p1⟩ := place_in hb (by omega) c2
      have r1 := hm.get (k := (t / b).toNat) (by omega)
      have r2 := hm.get (k := (t / b + 1).toNat) (by omega)
      simp (disch := first | assumption | omega | decide) only [ev0, ev1, ev2, ev3, ev4, ev5, ev6, dList, dTup, mutS, borS, argsD, nodupB, putM, frzN, safeOp, safeD, safeDs, wipeE, restore, argCells, List.getD_cons_zero, List.getD_cons_succ, List.set_cons_zero, List.set_cons_succ, List.length_cons, List.length_nil, List.cons_append, List.nil_append, List.append_nil, List.replicate_succ, List.replicate_zero, List.not_mem_nil, List.mem_cons, if_true, if_false, ite_true, ite_false, Bool.true_and, Bool.and_true, Bool.not_true, Bool.not_false, Bool.false_eq_true, reduceIte, List.getElem?_cons_zero, List.getElem?_cons_succ, List.all_nil, List.all_cons, List.contains_nil, Option.map_some, Option.map_none, Option.bind_some, and_self, and_true, true_and, or_false, false_or, or_true, true_or, Nat.reduceAdd, Nat.reduceSub, Nat.reduceLT, Nat.reduceLeDiff, Nat.reduceEqDiff, Nat.zero_add, eq_self, true_implies, not_false_eq_true, not_true_eq_false, Nat.lt_irrefl, Nat.succ_ne_zero, Nat.lt_add_one, ne_eq, Int.reduceEq, Int.reduceNe, decide_true, decide_false, Nat.zero_lt_succ, Bool.not_eq_true', decide_not, Nat.add_one_ne_zero, Nat.zero_le, Nat.le_refl, Bool.or_true, Bool.or_false, Bool.true_or, Bool.false_or, Bool.and_false, Bool.false_and, Nat.reduceMul, isiB, String.reduceBEq, Bool.or_self, Bool.and_self, reduceCtorEq, isSS, List.contains_cons, Nat.reduceBEq, ix_ll, eq_ln, ne_ln, List.length_map, List.length_range, Int.reduceToNat, Int.reducePow, Int.reduceMul, Int.reduceAdd, Int.reduceSub, Int.reduceNeg, Int.reduceLE, Int.reduceLT, Int.toNat_natCast, Bool.and_eq_true, Bool.or_eq_true, decide_eq_true_eq, Bool.decide_eq_true, rep_d, List.length_append, List.length_reverse, map_snoc, map_app, Int.sub_zero, List.append_assoc, ite_self, lowest_eq, strN]
theorem l_straight_eq {n : Nat} {ms : List Int} (hm : InR n ms) (h1 : 1 ≤ n) (h2 : n ≤ 1000) (t b : Int) (hb : 0 < b) (hB : b < 10 ^ 120) : m_l_straight [.list (ms.map .int), Pt t b] = .ok (.val (Pt (strP ms t b).1 (strP ms t b).2)) [] := by
  have hl := hm.1
  have bB : Big b := big_of (k := 500) (by omega) (by omega)
  unfold m_l_straight b_l_straight strP
  by_cases c1 : t ≤ 0
  · rw [if_pos c1]
    simp (disch := first | assumption | omega | decide) only [ev0, ev1, ev2, ev3, ev4, ev5, ev6, dList, dTup, mutS, borS, argsD, nodupB, putM, frzN, safeOp, safeD, safeDs, wipeE, restore, argCells, List.getD_cons_zero, List.getD_cons_succ, List.set_cons_zero, List.set_cons_succ, List.length_cons, List.length_nil, List.cons_append, List.nil_append, List.append_nil, List.replicate_succ, List.replicate_zero, List.not_mem_nil, List.mem_cons, if_true, if_false, ite_true, ite_false, Bool.true_and, Bool.and_true, Bool.not_true, Bool.not_false, Bool.false_eq_true, reduceIte, List.getElem?_cons_zero, List.getElem?_cons_succ, List.all_nil, List.all_cons, List.contains_nil, Option.map_some, Option.map_none, Option.bind_some, and_self, and_true, true_and, or_false, false_or, or_true, true_or, Nat.reduceAdd, Nat.reduceSub, Nat.reduceLT, Nat.reduceLeDiff, Nat.reduceEqDiff, Nat.zero_add, eq_self, true_implies, not_false_eq_true, not_true_eq_false, Nat.lt_irrefl, Nat.succ_ne_zero, Nat.lt_add_one, ne_eq, Int.reduceEq, Int.reduceNe, decide_true, decide_false, Nat.zero_lt_succ, Bool.not_eq_true', decide_not, Nat.add_one_ne_zero, Nat.zero_le, Nat.le_refl, Bool.or_true, Bool.or_false, Bool.true_or, Bool.false_or, Bool.and_false, Bool.false_and, Nat.reduceMul, isiB, String.reduceBEq, Bool.or_self, Bool.and_self, reduceCtorEq, isSS, List.contains_cons, Nat.reduceBEq, ix_ll, eq_ln, ne_ln, List.length_map, List.length_range, Int.reduceToNat, Int.reducePow, Int.reduceMul, Int.reduceAdd, Int.reduceSub, Int.reduceNeg, Int.reduceLE, Int.reduceLT, Int.toNat_natCast, Bool.and_eq_true, Bool.or_eq_true, decide_eq_true_eq, Bool.decide_eq_true, rep_d, List.length_append, List.length_reverse, map_snoc, map_app, Int.sub_zero, List.append_assoc, ite_self]
  · rw [if_neg c1]
    by_cases c2 : ((ms.length : Int) - 1) * b ≤ t
    · rw [if_pos c2]
      simp (disch := first | assumption | omega | decide) only [ev0, ev1, ev2, ev3, ev4, ev5, ev6, dList, dTup, mutS, borS, argsD, nodupB, putM, frzN, safeOp, safeD, safeDs, wipeE, restore, argCells, List.getD_cons_zero, List.getD_cons_succ, List.set_cons_zero, List.set_cons_succ, List.length_cons, List.length_nil, List.cons_append, List.nil_append, List.append_nil, List.replicate_succ, List.replicate_zero, List.not_mem_nil, List.mem_cons, if_true, if_false, ite_true, ite_false, Bool.true_and, Bool.and_true, Bool.not_true, Bool.not_false, Bool.false_eq_true, reduceIte, List.getElem?_cons_zero, List.getElem?_cons_succ, List.all_nil, List.all_cons, List.contains_nil, Option.map_some, Option.map_none, Option.bind_some, and_self, and_true, true_and, or_false, false_or, or_true, true_or, Nat.reduceAdd, Nat.reduceSub, Nat.reduceLT, Nat.reduceLeDiff, Nat.reduceEqDiff, Nat.zero_add, eq_self, true_implies, not_false_eq_true, not_true_eq_false, Nat.lt_irrefl, Nat.succ_ne_zero, Nat.lt_add_one, ne_eq, Int.reduceEq, Int.reduceNe, decide_true, decide_false, Nat.zero_lt_succ, Bool.not_eq_true', decide_not, Nat.add_one_ne_zero, Nat.zero_le, Nat.le_refl, Bool.or_true, Bool.or_false, Bool.true_or, Bool.false_or, Bool.and_false, Bool.false_and, Nat.reduceMul, isiB, String.reduceBEq, Bool.or_self, Bool.and_self, reduceCtorEq, isSS, List.contains_cons, Nat.reduceBEq, ix_ll, eq_ln, ne_ln, List.length_map, List.length_range, Int.reduceToNat, Int.reducePow, Int.reduceMul, Int.reduceAdd, Int.reduceSub, Int.reduceNeg, Int.reduceLE, Int.reduceLT, Int.toNat_natCast, Bool.and_eq_true, Bool.or_eq_true, decide_eq_true_eq, Bool.decide_eq_true, rep_d, List.length_append, List.length_reverse, map_snoc, map_app, Int.sub_zero, List.append_assoc, ite_self]
    · rw [if_neg c2]
      obtain ⟨p0, p1⟩ := place_in hb (by omega) c2
      have r1 := hm.get (k := (t / b).toNat) (by omega)
      have r2 := hm.get (k := (t / b + 1).toNat) (by omega)
      have e : ms.getD (t / b).toNat 0 * (b - (t - t / b * b)) + ms.getD (t / b + 1).toNat 0 * (t - t / b * b) = strN ms t b := by
        unfold strN
        generalize t / b * b = q
        generalize ms.getD (t / b).toNat 0 = x
        generalize ms.getD (t / b + 1).toNat 0 = y
        simp only [Int.mul_sub, Int.sub_mul]
        omega
      simp (disch := first | assumption | omega | decide) only [ev0, ev1, ev2, ev3, ev4, ev5, ev6, dList, dTup, mutS, borS, argsD, nodupB, putM, frzN, safeOp, safeD, safeDs, wipeE, restore, argCells, List.getD_cons_zero, List.getD_cons_succ, List.set_cons_zero, List.set_cons_succ, List.length_cons, List.length_nil, List.cons_append, List.nil_append, List.append_nil, List.replicate_succ, List.replicate_zero, List.not_mem_nil, List.mem_cons, if_true, if_false, ite_true, ite_false, Bool.true_and, Bool.and_true, Bool.not_true, Bool.not_false, Bool.false_eq_true, reduceIte, List.getElem?_cons_zero, List.getElem?_cons_succ, List.all_nil, List.all_cons, List.contains_nil, Option.map_some, Option.map_none, Option.bind_some, and_self, and_true, true_and, or_false, false_or, or_true, true_or, Nat.reduceAdd, Nat.reduceSub, Nat.reduceLT, Nat.reduceLeDiff, Nat.reduceEqDiff, Nat.zero_add, eq_self, true_implies, not_false_eq_true, not_true_eq_false, Nat.lt_irrefl, Nat.succ_ne_zero, Nat.lt_add_one, ne_eq, Int.reduceEq, Int.reduceNe, decide_true, decide_false, Nat.zero_lt_succ, Bool.not_eq_true', decide_not, Nat.add_one_ne_zero, Nat.zero_le, Nat.le_refl, Bool.or_true, Bool.or_false, Bool.true_or, Bool.false_or, Bool.and_false, Bool.false_and, Nat.reduceMul, isiB, String.reduceBEq, Bool.or_self, Bool.and_self, reduceCtorEq, isSS, List.contains_cons, Nat.reduceBEq, ix_ll, eq_ln, ne_ln, List.length_map, List.length_range, Int.reduceToNat, Int.reducePow, Int.reduceMul, Int.reduceAdd, Int.reduceSub, Int.reduceNeg, Int.reduceLE, Int.reduceLT, Int.toNat_natCast, Bool.and_eq_true, Bool.or_eq_true, decide_eq_true_eq, Bool.decide_eq_true, rep_d, List.length_append, List.length_reverse, map_snoc, map_app, Int.sub_zero, List.append_assoc, ite_self, l_lowest_eq, e]
theorem moved_eq {n : Nat} {ms : List Int} (hm : InR n ms) (h1 : 1 ≤ n) (h2 : n ≤ 12) (t b : Int) (hb : 0 < b) (hB : b < 10 ^ 120) : m_moved [.list (ms.map .int), Pt t b] = .ok (.val (Pt (strP ms t b).1 (strP ms t b).2)) [] := by
  have q := straight_eq hm h1 (by omega) t b hb hB
  have p := need_point_eq t b hb
  unfold Pt at q p ⊢
  unfold m_moved b_moved
  simp (disch := first | assumption | omega | decide) only [ev0, ev1, ev2, ev3, ev4, ev5, ev6, dList, dTup, mutS, borS, argsD, nodupB, putM, frzN, safeOp, safeD, safeDs, wipeE, restore, argCells, List.getD_cons_zero, List.getD_cons_succ, List.set_cons_zero, List.set_cons_succ, List.length_cons, List.length_nil, List.cons_append, List.nil_append, List.append_nil, List.replicate_succ, List.replicate_zero, List.not_mem_nil, List.mem_cons, if_true, if_false, ite_true, ite_false, Bool.true_and, Bool.and_true, Bool.not_true, Bool.not_false, Bool.false_eq_true, reduceIte, List.getElem?_cons_zero, List.getElem?_cons_succ, List.all_nil, List.all_cons, List.contains_nil, Option.map_some, Option.map_none, Option.bind_some, and_self, and_true, true_and, or_false, false_or, or_true, true_or, Nat.reduceAdd, Nat.reduceSub, Nat.reduceLT, Nat.reduceLeDiff, Nat.reduceEqDiff, Nat.zero_add, eq_self, true_implies, not_false_eq_true, not_true_eq_false, Nat.lt_irrefl, Nat.succ_ne_zero, Nat.lt_add_one, ne_eq, Int.reduceEq, Int.reduceNe, decide_true, decide_false, Nat.zero_lt_succ, Bool.not_eq_true', decide_not, Nat.add_one_ne_zero, Nat.zero_le, Nat.le_refl, Bool.or_true, Bool.or_false, Bool.true_or, Bool.false_or, Bool.and_false, Bool.false_and, Nat.reduceMul, isiB, String.reduceBEq, Bool.or_self, Bool.and_self, reduceCtorEq, isSS, List.contains_cons, Nat.reduceBEq, ix_ll, eq_ln, ne_ln, List.length_map, List.length_range, Int.reduceToNat, Int.reducePow, Int.reduceMul, Int.reduceAdd, Int.reduceSub, Int.reduceNeg, Int.reduceLE, Int.reduceLT, Int.toNat_natCast, Bool.and_eq_true, Bool.or_eq_true, decide_eq_true_eq, Bool.decide_eq_true, rep_d, List.length_append, List.length_reverse, map_snoc, map_app, Int.sub_zero, List.append_assoc, ite_self, need_moves_eq, hm.tb h1 h2, p, q]
end Pg
namespace Pg
open PySem PySem.Spec PyProof.Rows L2 T3
theorem low_one (x : Int) : lowT x 1 = x ∧ lowB x 1 = 1 := by
  unfold lowT lowB
  simp
theorem strN_eq (ms : List Int) (t b : Int) : strN ms t b = ms.getD (t / b).toNat 0 * (b - t % b) + ms.getD (t / b + 1).toNat 0 * (t % b) := by
  unfold strN
  have : t - t / b * b = t % b := by have := Int.mul_ediv_add_emod t b; rw [Int.mul_comm] at this; omega
  rw [this]
  generalize ms.getD (t / b).toNat 0 = x
  generalize ms.getD (t / b + 1).toNat 0 = y
  simp only [Int.mul_sub, Int.sub_mul]
  omega
theorem strN_in {n : Nat} {ms : List Int} (hm : InR n ms) {t b : Int} (hb : 0 < b) (h0 : 0 < t) (h1 : ¬ ((n : Int) - 1) * b ≤ t) : 0 ≤ strN ms t b ∧ strN ms t b ≤ ((n : Int) - 1) * b := by
  obtain ⟨p0, p1⟩ := place_in hb h0 h1
  have r1 := hm.get (k := (t / b).toNat) (by omega)
  have r2 := hm.get (k := (t / b + 1).toNat) (by omega)
  have hr0 := Int.emod_nonneg t (show b ≠ 0 by omega)
  have hr1 := Int.emod_lt_of_pos t hb
  rw [strN_eq]
  generalize ms.getD (t / b).toNat 0 = x at *
  generalize ms.getD (t / b + 1).toNat 0 = y at *
  generalize t % b = r at *
  have a1 : 0 ≤ x * (b - r) := Int.mul_nonneg (by omega) (by omega)
  have a2 : 0 ≤ y * r := Int.mul_nonneg (by omega) (by omega)
  have a3 : x * (b - r) ≤ ((n : Int) - 1) * (b - r) := Int.mul_le_mul_of_nonneg_right (by omega) (by omega)
  have a4 : y * r ≤ ((n : Int) - 1) * r := Int.mul_le_mul_of_nonneg_right (by omega) (by omega)
  rw [Int.mul_sub ((n : Int) - 1)] at a3
  omega
theorem lowB_in {t b : Int} (hb : 0 < b) : 0 < lowB t b ∧ lowB t b ≤ b := by
  have h1 := gcd_pos (t := t) hb
  have h2 := gcd_le (t := t) hb
  unfold lowB
  refine ⟨Int.ediv_pos_of_pos_of_dvd hb (by omega) (Int.gcd_dvd_right ..), ?_⟩
  exact Int.ediv_le_self _ (by omega)
theorem eq_self {d : D} (h : PyData.canLay0 d = true) (g : d.depth ≤ 64) : dEq d d = some (.val (.bool true)) := by
  refine eq_same ?_ (eqv_refl d (fun es z => ?_) h)
  · unfold SeqAt.shaped
    rw [h, decide_eq_true g]
    rfl
  · subst z; simp [PyData.canLay0] at h
theorem log_big {i : Int} (h : i.natAbs < 2 ^ 1900) : i.natAbs.log2 < 1920 := by
  by_cases h0 : i.natAbs = 0
  · rw [h0]; exact Nat.lt_of_le_of_lt (show Nat.log2 0 ≤ 0 by decide) (by omega)
  · have := (Nat.log2_lt h0).mpr h
    omega
theorem repr_pt (t b : Int) (h1 : t.natAbs < 10 ^ 500) (h2 : b.natAbs < 10 ^ 500) : reprOk (Pt t b) = true := by
  have h3 := log_big (i := t) (Nat.lt_of_lt_of_le h1 (by decide))
  have h4 := log_big (i := b) (Nat.lt_of_lt_of_le h2 (by decide))
  simp [reprOk, plainD, plainDs, wtD, wtDs, PyData.depth, PyData.depthAll, h3, h4]
end Pg
namespace Pg
open PySem PySem.Spec PyProof.Rows L2 T3
end Pg
namespace T3
open PySem PySem.Spec PyProof.Rows L2
end T3
namespace Pg
open PySem PySem.Spec PyProof.Rows L2 T3
/-- the first stretch that one covers, and the first one behind -/
def loS (ms : List Int) (k : Int) : Int := if ms.getD (k + 1).toNat 0 < ms.getD k.toNat 0 then ms.getD (k + 1).toNat 0 else ms.getD k.toNat 0
def hiS (ms : List Int) (k : Int) : Int := if ms.getD (k + 1).toNat 0 > ms.getD k.toNat 0 then ms.getD (k + 1).toNat 0 else ms.getD k.toNat 0
def cov (ms : List Int) (k j : Int) : Bool := decide (loS ms k ≤ j) && decide (j < hiS ms k)
section
variable {n : Nat} {ms : List Int}
/-- each one covers the next one -/
def chain (ms : List Int) (xs : List Int) : Bool := (xs.zip (xs.drop 1)).all fun p => cov ms p.1 p.2
/-- a loop as a list of ints -/
structure Loop (ms xs : List Int) : Prop where
  ne : xs ≠ []
  mem : ∀ x ∈ xs, 0 ≤ x ∧ x < (ms.length : Int) - 1
  ch : chain ms xs = true
  cl : cov ms (xs.getD (xs.length - 1) 0) (xs.getD 0 0) = true
theorem chain_iff {xs : List Int} : chain ms xs = true ↔ ∀ k, k + 1 < xs.length → cov ms (xs.getD k 0) (xs.getD (k + 1) 0) = true := by
  unfold chain
  rw [List.all_eq_true]
  constructor
  · intro h k hk
    refine h (xs.getD k 0, xs.getD (k + 1) 0) (List.mem_of_getElem? (i := k) ?_)
    rw [List.getElem?_zip_eq_some]
    refine ⟨get_of (by omega), ?_⟩
    rw [List.getElem?_drop, Nat.add_comm]
    exact get_of hk
  · rintro h ⟨a, b⟩ hp
    obtain ⟨k, hk⟩ := List.getElem?_of_mem hp
    rw [List.getElem?_zip_eq_some, List.getElem?_drop, Nat.add_comm] at hk
    have h1 := (List.getElem?_eq_some_iff.mp hk.2).1
    have := h k h1
    rwa [getD_of hk.1, getD_of hk.2] at this
end
end Pg
namespace T3
open PySem PySem.Spec PyProof.Rows L2
theorem ne_pp {a b c d : Int} : dNe (.tuple [.int a, .int b]) (.tuple [.int c, .int d]) = some (.val (.bool (!decide (a = c ∧ b = d)))) := by
  have h : ∀ x y : Int, SeqAt.shaped (.tuple [.int x, .int y]) = true := fun x y => by
    unfold SeqAt.shaped
    simp [PyData.canLay0, PyData.canLayAll0, PyData.depth, PyData.depthAll]
  rw [ne_d, h, h]
  simp [PyData.eqv, PyData.eqvAll, Bool.decide_and]
  try rfl
end T3
namespace Pg
open PySem PySem.Spec PyProof.Rows L2 T3
section
variable {n : Nat} {ms : List Int}
/-- each covers just one -/
def stf (ms xs : List Int) : Bool := xs.all fun s => decide (hiS ms s - loS ms s = 1)
/-- how many go down -/
def dn (ms : List Int) (s : Int) : Bool := decide (ms.getD (s + 1).toNat 0 < ms.getD s.toNat 0)
def dnc (ms xs : List Int) : Nat := (xs.filter (dn ms)).length
def sl (ms : List Int) (s : Int) : Int := ms.getD (s + 1).toNat 0 - ms.getD s.toNat 0
def rshS (ms : List Int) (p : Int × Int) (s : Int) : Int × Int := (sl ms s * p.1, sl ms s * (p.2 - s) + ms.getD s.toNat 0)
/-- behind the stretches x has become .1 * x + .2 -/
def rsh (ms xs : List Int) : Int × Int := xs.foldl (rshS ms) (1, 0)
end
end Pg
namespace Pg
open PySem PySem.Spec PyProof.Rows L2 T3
def lw (t b : Int) : Int × Int := (lowT t b, lowB t b)
theorem lw_scale {g t b : Int} (hg : 0 < g) : lw (g * t) (g * b) = lw t b := by
  unfold lw lowT lowB
  rw [Int.gcd_mul_left]
  have e : ((g.natAbs * Int.gcd t b : Nat) : Int) = g * (Int.gcd t b : Int) := by
    rw [Int.natCast_mul, show ((g.natAbs : Nat) : Int) = g by omega]
  rw [e, Int.mul_ediv_mul_of_pos _ _ hg, Int.mul_ediv_mul_of_pos _ _ hg]
theorem lw_spec {t b : Int} (hb : 0 < b) : ∃ g : Int, 0 < g ∧ t = g * lowT t b ∧ b = g * lowB t b := by
  refine ⟨(Int.gcd t b : Int), gcd_pos hb, ?_, ?_⟩
  · exact (Int.mul_ediv_cancel' (Int.gcd_dvd_left ..)).symm
  · exact (Int.mul_ediv_cancel' (Int.gcd_dvd_right ..)).symm
theorem lw_idem {t b : Int} (hb : 0 < b) : lw (lw t b).1 (lw t b).2 = lw t b := by
  obtain ⟨g, hg, h1, h2⟩ := lw_spec (t := t) hb
  have := lw_scale (t := lowT t b) (b := lowB t b) hg
  rw [← h1, ← h2] at this
  exact this.symm
theorem lw_cross {t b u c : Int} (hb : 0 < b) (hc : 0 < c) : lw t b = lw u c ↔ t * c = u * b := by
  constructor
  · intro h
    obtain ⟨g, _, h1, h2⟩ := lw_spec (t := t) hb
    obtain ⟨k, _, h3, h4⟩ := lw_spec (t := u) hc
    have e1 : lowT t b = lowT u c := congrArg Prod.fst h
    have e2 : lowB t b = lowB u c := congrArg Prod.snd h
    rw [e1] at h1
    rw [e2] at h2
    generalize lowT u c = T at *
    generalize lowB u c = B at *
    rw [h1, h2, h3, h4]
    ac_rfl
  · intro h
    have a := lw_scale (t := t) (b := b) hc
    have b' := lw_scale (t := u) (b := c) hb
    rw [← a, ← b', Int.mul_comm c t, h, Int.mul_comm u b, Int.mul_comm c b]
theorem lw_one (x : Int) : lw x 1 = (x, 1) := by
  unfold lw; rw [(low_one x).1, (low_one x).2]
theorem lw_pos {t b : Int} (hb : 0 < b) : 0 < (lw t b).2 ∧ (lw t b).2 ≤ b := lowB_in hb
def aff (ms : List Int) (s t b : Int) : Int := sl ms s * (t - s * b) + ms.getD s.toNat 0 * b
section
variable {n : Nat} {ms : List Int}
def affL (ms : List Int) (xs : List Int) (t b : Int) : Int := xs.foldl (fun t s => aff ms s t b) t
theorem fold_rsh (t b : Int) : ∀ (xs : List Int) (p : Int × Int), xs.foldl (fun t s => aff ms s t b) (p.1 * t + p.2 * b) = (xs.foldl (rshS ms) p).1 * t + (xs.foldl (rshS ms) p).2 * b
  | [], p => rfl
  | s :: r, p => by
    rw [List.foldl_cons, List.foldl_cons, ← fold_rsh t b r (rshS ms p s)]
    congr 1
    unfold aff rshS
    dsimp only
    generalize sl ms s = q
    generalize ms.getD s.toNat 0 = x
    simp only [Int.mul_sub, Int.mul_add, Int.add_mul, Int.sub_mul, Int.mul_assoc]
    omega
theorem affL_eq (xs : List Int) (t b : Int) : affL ms xs t b = (rsh ms xs).1 * t + (rsh ms xs).2 * b := by
  have := fold_rsh (ms := ms) t b xs (1, 0)
  simp only [Int.one_mul, Int.zero_mul, Int.add_zero] at this
  exact this
theorem fold_comp : ∀ (xs : List Int) (p : Int × Int), xs.foldl (rshS ms) p = ((rsh ms xs).1 * p.1, (rsh ms xs).1 * p.2 + (rsh ms xs).2)
  | [], p => by simp [rsh]
  | s :: r, p => by
    have h1 := fold_comp r (rshS ms p s)
    have h2 := fold_comp r (rshS ms (1, 0) s)
    have h3 : rsh ms (s :: r) = r.foldl (rshS ms) (rshS ms (1, 0) s) := rfl
    rw [List.foldl_cons, h1, h3, h2]
    unfold rshS
    dsimp only
    generalize sl ms s = q
    generalize ms.getD s.toNat 0 = x
    generalize (rsh ms r).1 = R
    generalize (rsh ms r).2 = S
    refine Prod.ext ?_ ?_
    · dsimp only; rw [Int.mul_one, Int.mul_assoc]
    · dsimp only
      simp only [Int.mul_sub, Int.mul_add, Int.add_mul, Int.sub_mul, Int.mul_assoc, Int.mul_zero, Int.zero_sub, Int.mul_neg, Int.mul_one]
      omega
theorem rsh_app (xs ys : List Int) : rsh ms (xs ++ ys) = ((rsh ms ys).1 * (rsh ms xs).1, (rsh ms ys).1 * (rsh ms xs).2 + (rsh ms ys).2) := by
  show (xs ++ ys).foldl (rshS ms) (1, 0) = _
  rw [List.foldl_append]
  exact fold_comp ys (rsh ms xs)
theorem rsh_one (s : Int) : rsh ms [s] = (sl ms s, ms.getD s.toNat 0 - sl ms s * s) := by
  show rshS ms (1, 0) s = _
  unfold rshS
  dsimp only
  rw [Int.mul_one, Int.zero_sub, Int.mul_neg]
  refine Prod.ext rfl ?_
  dsimp only
  omega
theorem cov_iff {s z : Int} : cov ms s z = true ↔ loS ms s ≤ z ∧ z < hiS ms s := by
  unfold cov; rw [Bool.and_eq_true, decide_eq_true_eq, decide_eq_true_eq]
/-- each covers the next one, the last one z -/
def cvs (ms : List Int) : List Int → Int → Prop
  | [], _ => True
  | s :: r, z => cov ms s (r.headD z) = true ∧ cvs ms r z
theorem headD_app {xs ys : List Int} {z : Int} : (xs ++ ys).headD z = xs.headD (ys.headD z) := by cases xs <;> rfl
theorem cvs_app : ∀ {xs ys : List Int} {z : Int}, cvs ms (xs ++ ys) z ↔ cvs ms xs (ys.headD z) ∧ cvs ms ys z
  | [], ys, z => by simp [cvs]
  | s :: r, ys, z => by
    show cov ms s ((r ++ ys).headD z) = true ∧ cvs ms (r ++ ys) z ↔ (cov ms s (r.headD (ys.headD z)) = true ∧ cvs ms r (ys.headD z)) ∧ cvs ms ys z
    rw [headD_app, cvs_app, and_assoc]
theorem chain_cvs : ∀ {xs : List Int} {z : Int}, xs ≠ [] → chain ms xs = true → cov ms (xs.getD (xs.length - 1) 0) z = true → cvs ms xs z
  | [], z, h, _, _ => absurd rfl h
  | [s], z, _, _, h => ⟨h, trivial⟩
  | s :: s2 :: r, z, _, h, k => by
    have h' : cov ms s s2 = true ∧ chain ms (s2 :: r) = true := by
      unfold chain at h ⊢
      simpa using h
    exact ⟨h'.1, chain_cvs (by simp) h'.2 (by simpa using k)⟩
theorem Loop.cvs {xs : List Int} (h : Loop ms xs) : cvs ms xs (xs.headD 0) := by
  refine chain_cvs h.ne h.ch ?_
  have : xs.headD 0 = xs.getD 0 0 := by cases xs <;> rfl
  rw [this]
  exact h.cl
theorem affL_app (xs ys : List Int) (t b : Int) : affL ms (xs ++ ys) t b = affL ms ys (affL ms xs t b) b := by
  unfold affL; rw [List.foldl_append]
end
end Pg
namespace Pg
open PySem PySem.Spec PyProof.Rows L2 T3
section
variable {n : Nat} {ms : List Int}
theorem mul1 {a b : Nat} : a * b = 1 ↔ a = 1 ∧ b = 1 := by
  constructor
  · intro h
    have ha : a ≠ 0 := fun z => by rw [z, Nat.zero_mul] at h; omega
    have hb : b ≠ 0 := fun z => by rw [z, Nat.mul_zero] at h; omega
    have h1 : a * 1 ≤ a * b := Nat.mul_le_mul_left _ (by omega)
    have h2 : 1 * b ≤ a * b := Nat.mul_le_mul_right _ (by omega)
    omega
  · rintro ⟨rfl, rfl⟩; rfl
theorem sl_hl (s : Int) : hiS ms s - loS ms s = (sl ms s).natAbs := by
  unfold hiS loS sl
  split <;> split <;> omega
theorem dn_iff (s : Int) : dn ms s = true ↔ sl ms s < 0 := by
  unfold dn sl; rw [decide_eq_true_eq]; omega
theorem cov_sl {s z : Int} (h : cov ms s z = true) : sl ms s ≠ 0 := by
  have := cov_iff.mp h
  have := sl_hl (ms := ms) s
  omega
/-- sign and size of what a way makes of x -/
theorem rise_facts : ∀ {xs : List Int} {z : Int}, cvs ms xs z → (rsh ms xs).1 ≠ 0 ∧ ((rsh ms xs).1 < 0 ↔ dnc ms xs % 2 = 1) ∧ (stf ms xs = true ↔ (rsh ms xs).1.natAbs = 1)
  | [], z, _ => by
    refine ⟨by show (1 : Int) ≠ 0; decide, ?_, ?_⟩
    · show (1 : Int) < 0 ↔ 0 % 2 = 1
      decide
    · exact ⟨fun _ => rfl, fun _ => rfl⟩
  | s :: r, z, h => by
    obtain ⟨a, b, c⟩ := rise_facts h.2
    have h0 := cov_sl h.1
    have e := rsh_app (ms := ms) [s] r
    rw [show [s] ++ r = s :: r from rfl, rsh_one] at e
    have e1 : (rsh ms (s :: r)).1 = (rsh ms r).1 * sl ms s := by rw [e]
    rw [e1]
    refine ⟨Int.mul_ne_zero a h0, ?_, ?_⟩
    · have hd : dnc ms (s :: r) = (if sl ms s < 0 then 1 else 0) + dnc ms r := by
        unfold dnc
        rw [List.filter_cons]
        by_cases hs : sl ms s < 0
        · rw [if_pos ((dn_iff s).mpr hs), if_pos hs, List.length_cons]; omega
        · rw [if_neg fun z => hs ((dn_iff s).mp z), if_neg hs]; omega
      rw [hd]
      by_cases hs : sl ms s < 0
      · rw [if_pos hs]
        by_cases hr : (rsh ms r).1 < 0
        · have := Int.mul_pos_of_neg_of_neg hr hs
          have := b.mp hr
          constructor <;> intro _ <;> omega
        · have := Int.mul_neg_of_pos_of_neg (show 0 < (rsh ms r).1 by omega) hs
          have : ¬ dnc ms r % 2 = 1 := fun q => hr (b.mpr q)
          constructor <;> intro _ <;> omega
      · rw [if_neg hs]
        by_cases hr : (rsh ms r).1 < 0
        · have := Int.mul_neg_of_neg_of_pos hr (show 0 < sl ms s by omega)
          have := b.mp hr
          constructor <;> intro _ <;> omega
        · have := Int.mul_pos (show 0 < (rsh ms r).1 by omega) (show 0 < sl ms s by omega)
          have : ¬ dnc ms r % 2 = 1 := fun q => hr (b.mpr q)
          constructor <;> intro _ <;> omega
    · have e2 : stf ms (s :: r) = (decide (hiS ms s - loS ms s = 1) && stf ms r) := rfl
      rw [e2, Int.natAbs_mul, Bool.and_eq_true, decide_eq_true_eq, c, sl_hl, mul1]
      constructor
      · rintro ⟨p, q⟩; exact ⟨q, by omega⟩
      · rintro ⟨p, q⟩; exact ⟨by omega, p⟩
/-- round about by k all is the same -/
def Per (xs : List Int) (k : Nat) : Prop := ∀ i, i < xs.length → xs.getD ((i + k) % xs.length) 0 = xs.getD i 0
theorem Per.mod {xs : List Int} {a b : Nat} (ha : Per xs a) (hb : Per xs b) (h : b ≤ a) : Per xs (a - b) := fun i hi => by
  -- xs (i + a - b) = xs (i + a - b + b) = xs (i + a) = xs i
  have h1 := hb ((i + (a - b)) % xs.length) (Nat.mod_lt _ (by omega))
  rw [Nat.mod_add_mod, show i + (a - b) + b = i + a by omega, ha i hi] at h1
  exact h1.symm
theorem Per.modn {xs : List Int} {a b : Nat} (ha : Per xs a) (hb : Per xs b) : Per xs (a % b) := by
  induction a using Nat.strongRecOn with
  | ind a ih =>
    by_cases c : b = 0
    · subst c; rwa [Nat.mod_zero]
    by_cases h : a < b
    · rwa [Nat.mod_eq_of_lt h]
    · rw [Nat.mod_eq_sub_mod (by omega)]
      exact ih (a - b) (by omega) (ha.mod hb (by omega))
theorem Per.all {xs : List Int} : Per xs xs.length := fun i hi => by
  rw [Nat.add_mod_right, Nat.mod_eq_of_lt hi]
/-- the least one -/
theorem Per.least {xs : List Int} {k : Nat} (h : Per xs k) (h1 : 1 ≤ k) : ∃ p, 1 ≤ p ∧ p ≤ k ∧ Per xs p ∧ xs.length % p = 0 := by
  induction k using Nat.strongRecOn with
  | ind k ih =>
    by_cases c : xs.length % k = 0
    · exact ⟨k, h1, Nat.le_refl k, h, c⟩
    · have h2 := Per.all.modn h
      have h3 := Nat.mod_lt xs.length (show k > 0 by omega)
      obtain ⟨p, a, b, d, e⟩ := ih (xs.length % k) h3 h2 (by omega)
      exact ⟨p, a, by omega, d, e⟩
theorem flat_len (ys : List Int) (m : Nat) : (List.replicate m ys).flatten.length = m * ys.length := by
  induction m with
  | zero => simp
  | succ m ih => rw [List.replicate_succ, List.flatten_cons, List.length_append, ih, Nat.add_mul]; omega
end
end Pg
namespace Pg
open PySem PySem.Spec PyProof.Rows L2 T3
end Pg
namespace Pg
open PySem PySem.Spec PyProof.Rows L2 T3
section
variable {n : Nat} {ms : List Int}
theorem Loop.hd {xs : List Int} (h : Loop ms xs) : xs.headD 0 = xs.getD 0 0 := by cases xs <;> rfl
end
end Pg
namespace T3
open PySem PySem.Spec PyProof.Rows L2
end T3
namespace Pg
open PySem PySem.Spec PyProof.Rows L2 T3
section
variable {n : Nat} {ms : List Int}
structure GV (W : Nat) (vs : List D) : Prop where
  len : ∀ d ∈ vs, ∀ ds, d = .list ds → ds.length ≤ 1000
  p : plainDs vs = true
  dp : PyData.depthAll vs ≤ 4
  w : wtDs vs ≤ W
theorem GV.nil : GV 0 [] := ⟨fun _ h => (nomatch h), rfl, by simp [PyData.depthAll], by simp [wtDs]⟩
theorem GV.app {a b : Nat} {xs ys : List D} (h : GV a xs) (g : GV b ys) : GV (a + b) (xs ++ ys) where
  len := fun d hd => by
    rcases List.mem_append.mp hd with hd | hd
    · exact h.len d hd
    · exact g.len d hd
  p := by rw [plainDs_app, h.p, g.p]; rfl
  dp := by rw [dep_app]; have := h.dp; have := g.dp; omega
  w := by rw [wt_app]; have := h.w; have := g.w; omega
theorem GV.cons {a b : Nat} {d : D} {ds : List D} (h : GV a [d]) (g : GV b ds) : GV (a + b) (d :: ds) := h.app g
theorem GV.mono {a b : Nat} {xs : List D} (h : GV a xs) (k : a ≤ b) : GV b xs := ⟨h.len, h.p, h.dp, Nat.le_trans h.w k⟩
theorem cvs_chain : ∀ {xs : List Int} {z : Int}, xs ≠ [] → cvs ms xs z → chain ms xs = true ∧ cov ms (xs.getD (xs.length - 1) 0) z = true
  | [], z, h, _ => absurd rfl h
  | [s], z, _, h => ⟨rfl, h.1⟩
  | s :: s2 :: r, z, _, h => by
    obtain ⟨a, b⟩ := cvs_chain (xs := s2 :: r) (z := z) (by simp) h.2
    refine ⟨?_, by simpa using b⟩
    unfold chain at a ⊢
    have := h.1
    simp at a ⊢
    exact ⟨this, a⟩
theorem Loop.of_cvs {xs : List Int} (h0 : xs ≠ []) (h1 : ∀ x ∈ xs, 0 ≤ x ∧ x < (ms.length : Int) - 1) (h : Pg.cvs ms xs (xs.headD 0)) : Loop ms xs := by
  obtain ⟨a, b⟩ := cvs_chain h0 h
  have : xs.headD 0 = xs.getD 0 0 := by cases xs <;> rfl
  rw [this] at b
  exact ⟨h0, h1, a, b⟩
theorem rep_cvs {xs : List Int} {z : Int} (hz : xs.headD z = z) (h : cvs ms xs z) : ∀ m, cvs ms (List.replicate m xs).flatten z ∧ (List.replicate m xs).flatten.headD z = z
  | 0 => ⟨trivial, rfl⟩
  | m + 1 => by
    obtain ⟨a, b⟩ := rep_cvs hz h m
    rw [List.replicate_succ, List.flatten_cons]
    refine ⟨cvs_app.mpr ⟨by rw [b]; exact h, a⟩, by rw [headD_app, b, hz]⟩
theorem Loop.rep {xs : List Int} (h : Loop ms xs) {m : Nat} (hm : 1 ≤ m) : Loop ms (List.replicate m xs).flatten := by
  have hz : ∀ z, xs.headD z = xs.headD 0 := fun z => by
    cases xs with
    | nil => exact absurd rfl h.ne
    | cons s r => rfl
  obtain ⟨a, b⟩ := rep_cvs (hz _) h.cvs m
  have hne : (List.replicate m xs).flatten ≠ [] := fun e => by
    have := congrArg List.length e
    rw [flat_len] at this
    have hp : 0 < xs.length := List.length_pos_iff.mpr h.ne
    have := Nat.mul_le_mul (show 1 ≤ m from hm) (show 1 ≤ xs.length from hp)
    simp at this
    simp_all
  refine .of_cvs hne (fun x hx => ?_) ?_
  · obtain ⟨l, hl, hx⟩ := List.mem_flatten.mp hx
    rw [(List.mem_replicate.mp hl).2] at hx
    exact h.mem x hx
  · have e : (List.replicate m xs).flatten.headD 0 = xs.headD 0 := by
      obtain ⟨k, rfl⟩ : ∃ k, m = k + 1 := ⟨m - 1, by omega⟩
      rw [List.replicate_succ, List.flatten_cons, headD_app, hz]
    rw [e]
    exact a
end
end Pg
namespace Pg
open PySem PySem.Spec PyProof.Rows L2 T3
def mv1 (ms : List Int) (p : Int × Int) : Int × Int := strP ms p.1 p.2
def orb (ms : List Int) (p : Int × Int) : Nat → Int × Int
  | 0 => p
  | k + 1 => mv1 ms (orb ms p k)
section
variable {n : Nat} {ms : List Int}
theorem orb_add (p : Int × Int) (i : Nat) : ∀ k, orb ms p (i + k) = orb ms (orb ms p i) k
  | 0 => rfl
  | k + 1 => by
    show mv1 ms (orb ms p (i + k)) = mv1 ms (orb ms (orb ms p i) k)
    rw [orb_add p i k]
theorem red_mv1 {p : Int × Int} (hp : 0 < p.2) : lw (mv1 ms p).1 (mv1 ms p).2 = mv1 ms p ∧ 0 < (mv1 ms p).2 := by
  unfold mv1 strP
  split
  · exact ⟨lw_one _, by show (0 : Int) < 1; decide⟩
  · split
    · exact ⟨lw_one _, by show (0 : Int) < 1; decide⟩
    · exact ⟨lw_idem hp, (lw_pos hp).1⟩
theorem red_orb {p : Int × Int} (h : lw p.1 p.2 = p ∧ 0 < p.2) : ∀ i, lw (orb ms p i).1 (orb ms p i).2 = orb ms p i ∧ 0 < (orb ms p i).2
  | 0 => h
  | i + 1 => red_mv1 (red_orb h i).2
theorem orb_per {p : Int × Int} {L : Nat} (h : orb ms p L = p) (i : Nat) : orb ms p (L + i) = orb ms p i := by
  rw [orb_add, h]
theorem orb_mul {p : Int × Int} {L : Nat} (h : orb ms p L = p) (i : Nat) : ∀ q, orb ms p (L * q + i) = orb ms p i
  | 0 => by rw [Nat.mul_zero, Nat.zero_add]
  | q + 1 => by
    rw [Nat.mul_add, Nat.mul_one, Nat.add_right_comm, Nat.add_comm (L * q + i) L, orb_per h, orb_mul h i q]
theorem orb_mod {p : Int × Int} {L : Nat} (h : orb ms p L = p) (i : Nat) : orb ms p i = orb ms p (i % L) := by
  have := orb_mul h (i % L) (i / L)
  rwa [Nat.div_add_mod] at this
end
end Pg
namespace Pg
open PySem PySem.Spec PyProof.Rows L2 T3
/-- _law_lowest(_law_top, _law_bottom): slots 0 _law_top, 1 _law_bottom, 2 _law_sign, 3 _law_one, 4 _law_other -/
def t_l_lowest_k38_1 : Tx := tOf (eOp2 dNe (eS 4) (eC (.int 0)))
def w_l_lowest_k38_1 : Sx := sPar [3, 4] (eCons (eS 4) (eCons (eOp2 dMod (eCallB bInt (eCons (eS 3) (eNil))) (eS 4)) (eNil)))
def b_l_lowest_k38 : Sx := sSeq (sPar [3, 4] (eCons (eCallB bAbs (eCons (eS 0) (eNil))) (eCons (eCallB bAbs (eCons (eS 1) (eNil))) (eNil)))) (sSeq (wLoop (t_l_lowest_k38_1) (w_l_lowest_k38_1) 1000000000000000000000000000000000000000000000000000000000000000000000000000000000000000000000000000000000000000000000000) (sSeq (sSet 2 (eIf (tOf (eOp2 dGt (eS 1) (eC (.int 0)))) (eC (.int 1)) (eC (.int (-1))))) (sRet (eFrz dTup (eCons (eOp2 dDiv (eOp2 dMul (eS 2) (eS 0)) (eS 3)) (eCons (eOp2 dDiv (eOp2 dMul (eS 2) (eS 1)) (eS 3)) (eNil)))))))
def m_l_lowest_k38 : Fn := runFn 5 [] b_l_lowest_k38
end Pg
namespace Pg
open PySem PySem.Spec PyProof.Rows L2 T3
/-- _law_point(_law_plan, _law_loop): slots 0 _law_plan, 1 _law_loop, 2 _law_stretch, 3 _law_rise, 4 _law_shift, 5 _law_slope -/
def f_l_point_1 : Sx := sSeq (sSet 5 (eOp2 dSub (eOp2 dIx (eS 0) (eOp2 dAdd (eS 2) (eC (.int 1)))) (eOp2 dIx (eS 0) (eS 2)))) (sSeq (sSet 4 (eOp2 dAdd (eOp2 dMul (eS 5) (eOp2 dSub (eS 4) (eS 2))) (eOp2 dIx (eS 0) (eS 2)))) (sSet 3 (eOp2 dMul (eS 5) (eS 3))))
def b_l_point : Sx := sSeq (sPar [3, 4] (eCons (eC (.int 1)) (eCons (eC (.int 0)) (eNil)))) (sSeq (sFor (iLst (eS 1)) (gSlot 2) (f_l_point_1)) (sRet (eIf (tOf (eOp2 dEq (eS 3) (eC (.int 1)))) (eFrz dTup (eCons (eOp2 dAdd (eOp2 dMul (eC (.int 2)) (eOp2 dIx (eS 1) (eC (.int 0)))) (eC (.int 1))) (eCons (eC (.int 2)) (eNil)))) (eCall [] m_l_lowest_k38 [] (eCons (eS 4) (eCons (eOp2 dSub (eC (.int 1)) (eS 3)) (eNil)))))))
end Pg
namespace Pg
open PySem PySem.Spec PyProof.Rows L2 T3
end Pg
namespace Pg
open PySem PySem.Spec PyProof.Rows L2 T3
def itA (f : Nat → Nat) : Nat → Nat → Nat
  | 0, a => a
  | k + 1, a => f (itA f k a)
theorem itA_zero (f : Nat → Nat) : ∀ k, itA f k 0 = it f k
  | 0 => rfl
  | k + 1 => congrArg f (itA_zero f k)
theorem itA_add (f : Nat → Nat) (a : Nat) (i : Nat) : ∀ k, itA f (i + k) a = itA f k (itA f i a)
  | 0 => rfl
  | k + 1 => congrArg f (itA_add f a i k)
structure TurnP (n : Nat) (f : Nat → Nat) : Prop where
  pos : 0 < n
  lt : ∀ i, i < n → f i < n
  back : it f n = 0
  first : ∀ j, 1 ≤ j → j < n → it f j ≠ 0
section
variable {n : Nat} {f : Nat → Nat}
theorem TurnP.itlt (T : TurnP n f) (k : Nat) : it f k < n := it_lt T.pos T.lt k
theorem TurnP.per (T : TurnP n f) (k : Nat) : it f (n + k) = it f k := by
  have := it_add f k (a := n) (b := 0) (by rw [T.back]; rfl)
  rwa [Nat.zero_add] at this
theorem TurnP.perm (T : TurnP n f) (k : Nat) : it f k = it f (k % n) := by
  induction k using Nat.strongRecOn with
  | ind k ih =>
    by_cases h : k < n
    · rw [Nat.mod_eq_of_lt h]
    · rw [Nat.mod_eq_sub_mod (by omega), ← ih (k - n) (by have := T.pos; omega), ← T.per (k - n), show n + (k - n) = k by omega]
theorem TurnP.zero (T : TurnP n f) {k : Nat} : it f k = 0 ↔ k % n = 0 := by
  rw [T.perm]
  have := Nat.mod_lt k T.pos
  constructor
  · intro h
    by_cases h0 : k % n = 0
    · exact h0
    · exact absurd h (T.first _ (by omega) this)
  · intro h; rw [h]; rfl
theorem TurnP.inj (T : TurnP n f) {i j : Nat} (hi : i < n) (hj : j < n) (e : it f i = it f j) : i = j := by
  refine Classical.byContradiction fun hne => ?_
  have key : ∀ a b, a < b → b < n → it f a = it f b → False := fun a b hab hb e => by
    have h1 := it_add f (n - b) e
    rw [show b + (n - b) = n by omega, T.back] at h1
    have := T.zero.mp h1
    rw [Nat.mod_eq_of_lt (by omega)] at this
    omega
  rcases Nat.lt_or_gt_of_ne hne with h | h
  · exact key i j h hj e
  · exact key j i h hi e.symm
theorem TurnP.on (T : TurnP n f) {a : Nat} (ha : a < n) : ∃ k, k < n ∧ it f k = a := by
  have nd : ((List.range n).map (it f)).Nodup := by
    rw [List.Nodup, List.pairwise_map]
    refine (List.pairwise_iff_getElem).mpr fun i j hi hj hij e => ?_
    simp only [List.getElem_range] at e
    rw [List.length_range] at hi hj
    have := T.inj hi hj e
    omega
  have := nodup_all nd (fun x hx => by obtain ⟨k, _, rfl⟩ := List.mem_map.mp hx; exact T.itlt k) (by simp) ha
  obtain ⟨k, hk, e⟩ := List.mem_map.mp this
  exact ⟨k, List.mem_range.mp hk, e⟩
theorem it_itA (f : Nat → Nat) (m k : Nat) : itA f k (it f m) = it f (m + k) := by
  rw [← itA_zero, ← itA_zero, itA_add]
/-- from anywhere -/
theorem TurnP.any (T : TurnP n f) {a : Nat} (ha : a < n) {k : Nat} : itA f k a = a ↔ k % n = 0 := by
  obtain ⟨m, hm, rfl⟩ := T.on ha
  rw [it_itA]
  constructor
  · intro e
    have h1 := it_add f (n - m) e
    rw [show m + (n - m) = n by omega, T.back, show m + k + (n - m) = n + k by omega, T.per] at h1
    exact T.zero.mp h1
  · intro h
    rw [T.perm (m + k), Nat.add_mod, h, Nat.add_zero, Nat.mod_mod, ← T.perm]
end
def keeps (ns : List Int) (s : Nat) : Prop := ∀ i, i < ns.length → ns.getD i 0 / (s : Int) = ns.getD (i / s * s) 0 / (s : Int)
instance (ns : List Int) (s : Nat) : Decidable (keeps ns s) := by unfold keeps; infer_instance
end Pg
namespace Pg
open PySem PySem.Spec PyProof.Rows L2 T3
section
variable {n : Nat} {ns : List Int}
/-- the sizes of blocks -/
def blk (ns : List Int) : List Int := (rgI 2 ns.length).filter fun s => decide ((ns.length : Int) % s = 0) && decide (keeps ns s.toNat)
end
end Pg
namespace Pg
open PySem PySem.Spec PyProof.Rows L2 T3
theorem dep_ints : ∀ xs : List Int, PyData.depthAll (xs.map PyData.int) = 0
  | [] => by simp [PyData.depthAll]
  | x :: xs => by simp [PyData.depthAll, PyData.depth, dep_ints xs]
end Pg
namespace Pg
open PySem PySem.Spec PyProof.Rows L2 T3
end Pg
namespace Pg
open PySem PySem.Spec PyProof.Rows L2 T3
def GoesBy (n : Nat) (w : Nat → Nat) (ns : List Int) : Prop := ns.length = n ∧ ∀ k, k < n → ns[w k]? = some ((w ((k + 1) % n) : Nat) : Int)
theorem GoesBy.uniq {n : Nat} {w : Nat → Nat} {ns ms : List Int} (E : Each n w) (h : GoesBy n w ns) (k : GoesBy n w ms) : ns = ms := by
  refine List.ext_getElem? fun i => ?_
  by_cases c : i < n
  · obtain ⟨j, hj, rfl⟩ := E.on i c
    rw [h.2 j hj, k.2 j hj]
  · rw [List.getElem?_eq_none (by rw [h.1]; omega), List.getElem?_eq_none (by rw [k.1]; omega)]
theorem GoesBy.stp {n : Nat} {w : Nat → Nat} {ns : List Int} (h : GoesBy n w ns) {k : Nat} (hk : k < n) : stp ns (w k) = w ((k + 1) % n) := by
  unfold Pg.stp
  rw [getD_of (h.2 k hk)]
  omega
/-- a list filled item by item -/
def Fill (n : Nat) (w : Nat → Nat) (k : Nat) (gs : List Int) : Prop := gs.length = n ∧ ∀ j, j < k → j < n → gs[w j]? = some ((w ((j + 1) % n) : Nat) : Int)
theorem Fill.zero (n : Nat) (w : Nat → Nat) : Fill n w 0 (List.replicate n 0) := ⟨by simp, fun j h => by omega⟩
theorem Fill.step {n : Nat} {w : Nat → Nat} {k : Nat} {gs : List Int} (E : Each n w) (hk : k < n) (h : Fill n w k gs) : Fill n w (k + 1) (gs.set (w k) ((w ((k + 1) % n) : Nat) : Int)) := by
  have l1 := E.lt k hk
  refine ⟨by rw [List.length_set]; exact h.1, fun j hj hjn => ?_⟩
  by_cases hji : j = k
  · subst hji
    rw [List.getElem?_set_self (by rw [h.1]; exact l1)]
  · rw [List.getElem?_set_ne (fun z => hji (E.inj k j hk hjn z).symm)]
    exact h.2 j (by omega) hjn
def plt (p q : Int × Int) : Bool := decide (p.1 * q.2 < q.1 * p.2)
theorem plt_iff {p q : Int × Int} : plt p q = true ↔ p.1 * q.2 < q.1 * p.2 := by unfold plt; exact decide_eq_true_iff
def RdP (p : Int × Int) : Prop := lw p.1 p.2 = p ∧ 0 < p.2
theorem plt_trans {p q r : Int × Int} (hp : 0 < p.2) (hq : 0 < q.2) (hr : 0 < r.2) (a : plt p q = true) (b : plt q r = true) : plt p r = true := by
  rw [plt_iff] at *
  have x1 : p.1 * q.2 * r.2 < q.1 * p.2 * r.2 := Int.mul_lt_mul_of_pos_right a hr
  have x2 : q.1 * r.2 * p.2 < r.1 * q.2 * p.2 := Int.mul_lt_mul_of_pos_right b hp
  have e1 : q.1 * p.2 * r.2 = q.1 * r.2 * p.2 := Int.mul_right_comm ..
  have e2 : p.1 * q.2 * r.2 = p.1 * r.2 * q.2 := Int.mul_right_comm ..
  have e3 : r.1 * q.2 * p.2 = r.1 * p.2 * q.2 := Int.mul_right_comm ..
  exact Int.lt_of_mul_lt_mul_right (by omega) (Int.le_of_lt hq)
theorem plt_irr (p : Int × Int) : plt p p = false := by
  unfold plt; exact decide_eq_false (Int.lt_irrefl _)
theorem plt_tot {p q : Int × Int} (hp : RdP p) (hq : RdP q) (ne : p ≠ q) : plt p q = true ∨ plt q p = true := by
  rw [plt_iff, plt_iff]
  rcases Int.lt_trichotomy (p.1 * q.2) (q.1 * p.2) with h | h | h
  · exact .inl h
  · exfalso
    have := (lw_cross hp.2 hq.2).mpr h
    rw [hp.1, hq.1] at this
    exact ne this
  · exact .inr h
/-- how many lie on the left -/
def rk (ps : List (Int × Int)) (p : Int × Int) : Nat := (ps.filter fun q => plt q p).length
structure Rng (n : Nat) (ps : List (Int × Int)) : Prop where
  len : ps.length = n
  red : ∀ p ∈ ps, RdP p
  nd : ps.Nodup
section
variable {n : Nat} {ps : List (Int × Int)}
theorem Rng.at (R : Rng n ps) {i : Nat} (hi : i < n) : ps[i]? = some (ps.getD i (0, 1)) ∧ ps.getD i (0, 1) ∈ ps := by
  have : i < ps.length := by rw [R.len]; exact hi
  have e : ps[i]? = some (ps.getD i (0, 1)) := by
    rw [List.getD_eq_getElem?_getD, List.getElem?_eq_getElem this]; rfl
  exact ⟨e, List.mem_of_getElem? e⟩
def rw' (ps : List (Int × Int)) (i : Nat) : Nat := rk ps (ps.getD i (0, 1))
end
end Pg
namespace Pg
open PySem PySem.Spec PyProof.Rows L2 T3
theorem lw_le1 {t b c d : Int} (hb : 0 < b) : (lw t b).1 * d ≤ c * (lw t b).2 ↔ t * d ≤ c * b := by
  obtain ⟨g, hg, h1, h2⟩ := lw_spec (t := t) hb
  show lowT t b * d ≤ c * lowB t b ↔ _
  generalize lowT t b = T at *
  generalize lowB t b = B at *
  subst h1 h2
  rw [Int.mul_assoc, Int.mul_left_comm c g B]
  exact ⟨fun h => Int.mul_le_mul_of_nonneg_left h (by omega), fun h => Int.le_of_mul_le_mul_left h hg⟩
theorem lw_le2 {t b c d : Int} (hb : 0 < b) : c * (lw t b).2 ≤ (lw t b).1 * d ↔ c * b ≤ t * d := by
  obtain ⟨g, hg, h1, h2⟩ := lw_spec (t := t) hb
  show c * lowB t b ≤ lowT t b * d ↔ _
  generalize lowT t b = T at *
  generalize lowB t b = B at *
  subst h1 h2
  rw [Int.mul_assoc, Int.mul_left_comm c g B]
  exact ⟨fun h => Int.mul_le_mul_of_nonneg_left h (by omega), fun h => Int.le_of_mul_le_mul_left h hg⟩
end Pg
namespace Pg
open PySem PySem.Spec PyProof.Rows L2 T3
section
variable {n : Nat} {ms : List Int} {p : Int × Int}
theorem lowB_dvd {t b : Int} (hb : 0 < b) : lowB t b ∣ b := by
  obtain ⟨g, hg, _, e⟩ := lw_spec (t := t) hb
  exact ⟨g, by rw [Int.mul_comm]; exact e⟩
theorem mv_bd (hm : InR n ms) (h1 : 1 ≤ n) (hp : 0 < p.2) : 0 ≤ (mv1 ms p).1 ∧ (mv1 ms p).1 ≤ ((n : Int) - 1) * (mv1 ms p).2 ∧ (mv1 ms p).2 ∣ p.2 := by
  have hl := hm.1
  have q0 := hm.get (k := 0) (by omega)
  have q1 := hm.get (k := n - 1) (by omega)
  unfold mv1 strP
  rw [hl]
  by_cases c1 : p.1 ≤ 0
  · rw [if_pos c1]; dsimp only; exact ⟨by omega, by omega, Int.one_dvd _⟩
  · rw [if_neg c1]
    by_cases c2 : ((n : Int) - 1) * p.2 ≤ p.1
    · rw [if_pos c2]; dsimp only; exact ⟨by omega, by omega, Int.one_dvd _⟩
    · rw [if_neg c2]
      obtain ⟨a, c⟩ := strN_in hm hp (by omega) c2
      have x1 := lw_le2 (t := strN ms p.1 p.2) (b := p.2) (c := 0) (d := 1) hp
      have x2 := lw_le1 (t := strN ms p.1 p.2) (b := p.2) (c := (n : Int) - 1) (d := 1) hp
      rw [Int.mul_one] at x2
      rw [Int.mul_one] at x2
      rw [Int.zero_mul, Int.zero_mul, Int.mul_one, Int.mul_one] at x1
      exact ⟨x1.mpr a, x2.mpr c, lowB_dvd hp⟩
theorem orb_dvd (hm : InR n ms) (h1 : 1 ≤ n) (hp : RdP p) : ∀ i, (orb ms p i).2 ∣ p.2
  | 0 => Int.dvd_refl _
  | i + 1 => Int.dvd_trans (mv_bd hm h1 (red_orb hp i).2).2.2 (orb_dvd hm h1 hp i)
/-- unlike points are few -/
theorem unlike_few (hm : InR n ms) (h1 : 1 ≤ n) (hp : RdP p) {k : Nat} (h : ∀ i j, i < j → j < k → orb ms p i ≠ orb ms p j) : (k : Int) ≤ ((n : Int) - 1) * p.2 + 2 := by
  have nn := Int.mul_nonneg (show 0 ≤ (n : Int) - 1 by omega) (show 0 ≤ p.2 by have := hp.2; omega)
  obtain ⟨T, hT⟩ : ∃ T : Nat → Int, ∀ i, T i = (orb ms p (i + 1)).1 * (p.2 / (orb ms p (i + 1)).2) := ⟨_, fun _ => rfl⟩
  have fac : ∀ i, ∃ c : Int, 0 < c ∧ p.2 = (orb ms p (i + 1)).2 * c ∧ p.2 / (orb ms p (i + 1)).2 = c := fun i => by
    obtain ⟨c, hc⟩ := orb_dvd hm h1 hp (i + 1)
    have r := (red_orb (ms := ms) hp (i + 1)).2
    refine ⟨c, ?_, hc, by rw [hc]; exact Int.mul_ediv_cancel_left _ (by omega)⟩
    have := hp.2
    rw [hc] at this
    exact Int.pos_of_mul_pos_right this (by omega)
  have rg : ∀ i, 0 ≤ T i ∧ T i ≤ ((n : Int) - 1) * p.2 := fun i => by
    obtain ⟨c, c0, c1, c2⟩ := fac i
    obtain ⟨a, b, _⟩ := mv_bd hm h1 (red_orb hp i).2
    have e : mv1 ms (orb ms p i) = orb ms p (i + 1) := rfl
    rw [e] at a b
    rw [hT, c2]
    refine ⟨Int.mul_nonneg a (by omega), ?_⟩
    have := Int.mul_le_mul_of_nonneg_right b (show 0 ≤ c by omega)
    rw [Int.mul_assoc, ← c1] at this
    exact this
  have inj : ∀ i j, T i = T j → orb ms p (i + 1) = orb ms p (j + 1) := fun i j e => by
    obtain ⟨c, c0, c1, c2⟩ := fac i
    obtain ⟨d, d0, d1, d2⟩ := fac j
    rw [hT, hT, c2, d2] at e
    have ri := red_orb (ms := ms) hp (i + 1)
    have rj := red_orb (ms := ms) hp (j + 1)
    have cr : (orb ms p (i + 1)).1 * (orb ms p (j + 1)).2 = (orb ms p (j + 1)).1 * (orb ms p (i + 1)).2 := by
      refine Int.eq_of_mul_eq_mul_right (show c * d ≠ 0 from Int.mul_ne_zero (by omega) (by omega)) ?_
      have x1 : (orb ms p (i + 1)).1 * (orb ms p (j + 1)).2 * (c * d) = ((orb ms p (i + 1)).1 * c) * ((orb ms p (j + 1)).2 * d) := by ac_rfl
      have x2 : (orb ms p (j + 1)).1 * (orb ms p (i + 1)).2 * (c * d) = ((orb ms p (j + 1)).1 * d) * ((orb ms p (i + 1)).2 * c) := by ac_rfl
      rw [x1, x2, ← c1, ← d1, e]
    have := (lw_cross ri.2 rj.2).mpr cr
    rwa [ri.1, rj.1] at this
  by_cases hk : k ≤ 1
  · omega
  have nd : ((List.range (k - 1)).map T).Nodup := by
    rw [List.Nodup]
    refine List.pairwise_map.mpr (List.Pairwise.imp_of_mem (fun {i j} hi hj hij e => ?_) (List.pairwise_lt_range (n := k - 1)))
    have := List.mem_range.mp hj
    exact h (i + 1) (j + 1) (by omega) (by omega) (inj i j e)
  have := nd.length_le_of_subset (l₂ := rgI 0 (((n : Int) - 1) * p.2 + 1)) fun y hy => by
    obtain ⟨i, _, rfl⟩ := List.mem_map.mp hy
    have := rg i
    exact rgI_mem.mpr (by omega)
  rw [List.length_map, List.length_range, rgI_len] at this
  omega
/-- the course: its length, and where it comes back -/
structure Crs (ms : List Int) (p : Int × Int) (N B : Nat) : Prop where
  lt : B < N
  bk : orb ms p N = orb ms p B
  nd : ∀ i j, i < j → j < N → orb ms p i ≠ orb ms p j
theorem Crs.uniq {N B N' B' : Nat} (C : Crs ms p N B) (C' : Crs ms p N' B') : N = N' ∧ B = B' := by
  have hl := C.lt
  have hl' := C'.lt
  have e : N = N' := by
    rcases Nat.lt_trichotomy N N' with c | c | c
    · exact absurd C.bk.symm (C'.nd B N C.lt c)
    · exact c
    · exact absurd C'.bk.symm (C.nd B' N' C'.lt c)
  subst e
  refine ⟨rfl, ?_⟩
  have q := C.bk.symm.trans C'.bk
  rcases Nat.lt_trichotomy B B' with c | c | c
  · exact absurd q (C.nd _ _ c C'.lt)
  · exact c
  · exact absurd q.symm (C.nd _ _ c C.lt)
/-- the ring at the end, from its least point on -/
structure IsEnd (ms : List Int) (p : Int × Int) (L : Nat) (q : Int × Int) : Prop where
  pos : 1 ≤ L
  on : ∃ k, orb ms p k = q
  bk : orb ms q L = q
  fst : ∀ j, 1 ≤ j → j < L → orb ms q j ≠ q
  least : ∀ j, plt (orb ms q j) q = false
theorem IsEnd.uniq {L L' : Nat} {q q' : Int × Int} (hp : RdP p) (E : IsEnd ms p L q) (E' : IsEnd ms p L' q') : L = L' ∧ q = q' := by
  obtain ⟨k, hk⟩ := E.on
  obtain ⟨k', hk'⟩ := E'.on
  have com : orb ms q k' = orb ms q' k := by rw [← hk, ← hk', ← orb_add, ← orb_add, Nat.add_comm]
  have on1 : ∃ j, orb ms q j = q' := by
    have pos := E'.pos
    refine ⟨k' + (L' * k - k), ?_⟩
    have le : k ≤ L' * k := Nat.le_mul_of_pos_left k pos
    rw [orb_add, com, ← orb_add, show k + (L' * k - k) = L' * k + 0 by omega, orb_mul E'.bk]
    rfl
  have on2 : ∃ j, orb ms q' j = q := by
    have pos := E.pos
    refine ⟨k + (L * k' - k'), ?_⟩
    have le : k' ≤ L * k' := Nat.le_mul_of_pos_left k' pos
    rw [orb_add, ← com, ← orb_add, show k' + (L * k' - k') = L * k' + 0 by omega, orb_mul E.bk]
    rfl
  have rq : RdP q := by rw [← hk]; exact red_orb hp k
  have rq' : RdP q' := by rw [← hk']; exact red_orb hp k'
  have eq : q = q' := by
    refine Classical.byContradiction fun c => ?_
    obtain ⟨j, hj⟩ := on1
    obtain ⟨j', hj'⟩ := on2
    have a := E.least j
    have b := E'.least j'
    rw [hj] at a
    rw [hj'] at b
    rcases plt_tot rq rq' c with h | h
    · rw [h] at b; cases b
    · rw [h] at a; cases a
  subst eq
  refine ⟨?_, rfl⟩
  rcases Nat.lt_trichotomy L L' with c | c | c
  · exact absurd E.bk (E'.fst L E.pos c)
  · exact c
  · exact absurd E'.bk (E.fst L' E'.pos c)
/-- one step on the way changes nothing -/
theorem IsEnd.step {L : Nat} {q : Int × Int} (E : IsEnd ms p L q) : IsEnd ms (orb ms p 1) L q := by
  obtain ⟨k, hk⟩ := E.on
  refine ⟨E.pos, ?_, E.bk, E.fst, E.least⟩
  have pos := E.pos
  by_cases c : k = 0
  · refine ⟨L - 1, ?_⟩
    rw [← orb_add, show 1 + (L - 1) = L by omega]
    subst c
    have hk : p = q := hk
    rw [hk]
    exact E.bk
  · refine ⟨k - 1, ?_⟩
    rw [← orb_add, show 1 + (k - 1) = k by omega]
    exact hk
/-- the least place of the ring of a course -/
theorem Crs.end' {N B : Nat} (C : Crs ms p N B) {m : Nat} (hm : m < N - B) (hl : ∀ j, j < N - B → plt (orb ms p (B + j)) (orb ms p (B + m)) = false) : IsEnd ms p (N - B) (orb ms p (B + m)) := by
  have lt := C.lt
  have bk : orb ms (orb ms p B) (N - B) = orb ms p B := by
    rw [← orb_add, show B + (N - B) = N by omega]; exact C.bk
  have cyc : ∀ j, orb ms (orb ms p (B + m)) j = orb ms p (B + (m + j) % (N - B)) := fun j => by
    rw [← orb_add, show B + m + j = B + (m + j) by omega, orb_add, orb_mod bk, ← orb_add]
  refine ⟨by omega, ⟨_, rfl⟩, ?_, fun j j1 j2 => ?_, fun j => ?_⟩
  · rw [cyc, Nat.add_mod_right, Nat.mod_eq_of_lt hm]
  · rw [cyc]
    intro e
    have l1 := Nat.mod_lt (m + j) (show N - B > 0 by omega)
    have ne : (m + j) % (N - B) ≠ m := fun z => by
      by_cases c : m + j < N - B
      · rw [Nat.mod_eq_of_lt c] at z; omega
      · rw [Nat.mod_eq_sub_mod (by omega), Nat.mod_eq_of_lt (by omega)] at z; omega
    rcases Nat.lt_or_gt_of_ne ne with c | c
    · exact C.nd _ _ (show B + (m + j) % (N - B) < B + m by omega) (by omega) e
    · exact C.nd _ _ (show B + m < B + (m + j) % (N - B) by omega) (by omega) e.symm
  · rw [cyc]
    exact hl _ (Nat.mod_lt _ (by omega))
/-- far on the way -/
theorem Crs.at {N B : Nat} (C : Crs ms p N B) {k : Nat} (h : B ≤ k) : orb ms p k = orb ms p (B + (k - B) % (N - B)) := by
  have lt := C.lt
  have bk : orb ms (orb ms p B) (N - B) = orb ms p B := by
    rw [← orb_add, show B + (N - B) = N by omega]; exact C.bk
  have : orb ms p k = orb ms (orb ms p B) (k - B) := by rw [← orb_add, show B + (k - B) = k by omega]
  rw [this, orb_mod bk, ← orb_add]
theorem least_nat {P : Nat → Prop} : ∀ k, P k → ∃ j, j ≤ k ∧ P j ∧ ∀ i, i < j → ¬ P i := fun k => by
  induction k using Nat.strongRecOn with
  | _ k ih =>
    intro h
    by_cases c : ∃ i, i < k ∧ P i
    · obtain ⟨i, hi, hp⟩ := c
      obtain ⟨j, a, b, c⟩ := ih i hi hp
      exact ⟨j, by omega, b, c⟩
    · exact ⟨k, Nat.le_refl _, h, fun i hi hp => c ⟨i, hi, hp⟩⟩
theorem crs_ex (hm : InR n ms) (h1 : 1 ≤ n) (hp : RdP p) : ∃ N B, Crs ms p N B ∧ (N : Int) ≤ ((n : Int) - 1) * p.2 + 2 := by
  have nn := Int.mul_nonneg (show 0 ≤ (n : Int) - 1 by omega) (show 0 ≤ p.2 by have := hp.2; omega)
  obtain ⟨K, hK⟩ : ∃ K : Nat, (K : Int) = ((n : Int) - 1) * p.2 + 3 := ⟨(((n : Int) - 1) * p.2 + 3).toNat, by omega⟩
  have ex : ∃ j, j < K ∧ ∃ i, i < j ∧ orb ms p i = orb ms p j := by
    refine Classical.byContradiction fun c => ?_
    have := unlike_few hm h1 hp (k := K) fun i j hij hj e => c ⟨j, hj, i, hij, e⟩
    omega
  obtain ⟨j, hj, ej⟩ := ex
  obtain ⟨N, hN, ⟨B, hB, eB⟩, mn⟩ := least_nat (P := fun j => ∃ i, i < j ∧ orb ms p i = orb ms p j) j ej
  exact ⟨N, B, ⟨hB, eB.symm, fun i j hij hj e => mn j hj ⟨i, hij, e⟩⟩, by omega⟩
theorem strP_lw {t b : Int} (hb : 0 < b) : strP ms t b = mv1 ms (lw t b) := by
  obtain ⟨g, hg, e1, e2⟩ := lw_spec (t := t) hb
  have hB : 0 < lowB t b := (lw_pos (t := t) hb).1
  show strP ms t b = strP ms (lowT t b) (lowB t b)
  generalize lowT t b = T at *
  generalize lowB t b = B at *
  clear hb
  subst e1 e2
  have c1 : g * T ≤ 0 ↔ T ≤ 0 := by
    constructor
    · intro h
      refine Classical.byContradiction fun c => ?_
      have := Int.mul_pos hg (show 0 < T by omega)
      omega
    · intro h
      have := Int.mul_le_mul_of_nonneg_left h (show 0 ≤ g by omega)
      omega
  have c2 : ((ms.length : Int) - 1) * (g * B) ≤ g * T ↔ ((ms.length : Int) - 1) * B ≤ T := by
    rw [Int.mul_left_comm]
    exact ⟨fun h => Int.le_of_mul_le_mul_left h hg, fun h => Int.mul_le_mul_of_nonneg_left h (by omega)⟩
  have c3 : strN ms (g * T) (g * B) = g * strN ms T B := by
    unfold strN
    rw [Int.mul_ediv_mul_of_pos _ _ hg, Int.mul_left_comm (T / B) g B, ← Int.mul_sub, Int.mul_left_comm _ g B, Int.mul_left_comm _ g (T - T / B * B), ← Int.mul_add]
  have c4 : lw (strN ms (g * T) (g * B)) (g * B) = lw (strN ms T B) B := by rw [c3, lw_scale hg]
  unfold strP
  by_cases d1 : T ≤ 0
  · rw [if_pos (c1.mpr d1), if_pos d1]
  · rw [if_neg (fun z => d1 (c1.mp z)), if_neg d1]
    by_cases d2 : ((ms.length : Int) - 1) * B ≤ T
    · rw [if_pos (c2.mpr d2), if_pos d2]
    · rw [if_neg (fun z => d2 (c2.mp z)), if_neg d2]
      exact c4
end
end Pg
namespace Pg
open PySem PySem.Spec PyProof.Rows L2 T3
/-- need_ticks(ticks, low, most): slots 0 ticks, 1 low, 2 most -/
def b_need_ticks : Sx := sIf (tNotM (tOf (eCall [] m_is_integer [] (eCons (eS 0) (eCons (eS 1) (eCons (eS 2) (eNil))))))) (sRaise "InvalidTicks") (sNext)
def m_need_ticks : Fn := runFn 3 [] b_need_ticks
/-- _law_point(_law_tap_here, _law_count, _law_most): slots 0 _law_tap_here, 1 _law_count, 2 _law_most, 3 _law_bottom -/
def b_l_point_k09 : Sx := sSeq (sSet 3 (eOp2 dIx (eFrz dList (eCons (eC (.int 1)) (eCons (eC (.int 2)) (eCons (eOp2 dAdd (eC (.int 1)) (eCall [0] m_l_draw [] (eCons (eS 0) (eCons (eC (.int 40)) (eNil))))) (eCons (eOp2 dAdd (eC (.int 1)) (eCall [0] m_l_draw [] (eCons (eS 0) (eCons (eS 2) (eNil))))) (eNil)))))) (eCall [0] m_l_draw [] (eCons (eS 0) (eCons (eC (.int 4)) (eNil)))))) (sSeq (sIf (tOf (eOp2 dEq (eCall [0] m_l_draw [] (eCons (eS 0) (eCons (eC (.int 8)) (eNil)))) (eC (.int 0)))) (sRet (eFrz dTup (eCons (eOp2 dIx (eFrz dList (eCons (eOp2 dPow (eC (.int 10)) (eC (.int 39))) (eCons (eOp2 dSub (eC (.int 0)) (eOp2 dPow (eC (.int 10)) (eC (.int 39)))) (eNil)))) (eCall [0] m_l_draw [] (eCons (eS 0) (eCons (eC (.int 2)) (eNil))))) (eCons (eS 3) (eNil))))) (sNext)) (sRet (eFrz dTup (eCons (eOp2 dSub (eCall [0] m_l_draw [] (eCons (eS 0) (eCons (eOp2 dAdd (eOp2 dMul (eS 1) (eS 3)) (eOp2 dMul (eC (.int 2)) (eS 3))) (eNil)))) (eS 3)) (eCons (eS 3) (eNil))))))
def m_l_point_k09 : Fn := runFn 4 [0] b_l_point_k09
/-- _law_course(_law_table_here, _law_point_here): slots 0 _law_table_here, 1 _law_point_here, 2 _law_found, 3 _law_known -/
def t_l_course_1 : Tx := tOf (eOp2 (dInT false) (eS 1) (eS 3))
def w_l_course_1 : Sx := sSeq (sStoreT 3 (eCallB bLen (eCons (eS 2) (eNil))) (eS 1)) (sSeq (sDrop (eMeth 2 kAppend (eCons (eS 1) (eNil)))) (sSet 1 (eCall [] m_l_straight [] (eCons (eS 0) (eCons (eS 1) (eNil))))))
def b_l_course : Sx := sSeq (sPar [2, 3] (eCons (eFrz dList (eNil)) (eCons (eDict0T) (eNil)))) (sSeq (wLoop (t_l_course_1) (w_l_course_1) 3000) (sRet (eFrz dTup (eCons (eS 2) (eCons (eOp2 dGetT (eS 3) (eS 1)) (eNil))))))
def m_l_course : Fn := runFn 4 [] b_l_course
/-- course_of(moves, point): slots 0 moves, 1 point, 2 found, 3 seen -/
def t_course_of_1 : Tx := tOf (eOp2 (dInT false) (eS 1) (eS 3))
def w_course_of_1 : Sx := sSeq (sStoreT 3 (eCallB bLen (eCons (eS 2) (eNil))) (eS 1)) (sSeq (sDrop (eMeth 2 kAppend (eCons (eS 1) (eNil)))) (sSet 1 (eCall [] m_straight [] (eCons (eS 0) (eCons (eS 1) (eNil))))))
def b_course_of : Sx := sSeq (sPar [2, 3] (eCons (eFrz dList (eNil)) (eCons (eDict0T) (eNil)))) (sSeq (wLoop (t_course_of_1) (w_course_of_1) 3000) (sRet (eFrz dTup (eCons (eS 2) (eCons (eOp2 dGetT (eS 3) (eS 1)) (eNil))))))
def m_course_of : Fn := runFn 4 [] b_course_of
/-- moved_far(moves, point, ticks): slots 0 moves, 1 point, 2 ticks, 3 points, 4 begin -/
def b_moved_far : Sx := sSeq (sDrop (eCall [] m_need_moves [] (eCons (eS 0) (eNil)))) (sSeq (sDrop (eCall [] m_need_point [] (eCons (eS 1) (eNil)))) (sSeq (sDrop (eCall [] m_need_ticks [] (eCons (eS 2) (eCons (eC (.int 0)) (eCons (eC (.int 1000000000000000000000000000000)) (eNil)))))) (sSeq (sDes (gTupM [gSlot 3, gSlot 4]) (eCall [] m_course_of [] (eCons (eS 0) (eCons (eCall [] m_lowest_terms [] (eCons (eOp2 dIx (eS 1) (eC (.int 0))) (eCons (eOp2 dIx (eS 1) (eC (.int 1))) (eNil)))) (eNil))))) (sSeq (sIf (tOf (eOp2 dLt (eS 2) (eCallB bLen (eCons (eS 3) (eNil))))) (sRet (eOp2 dIx (eS 3) (eS 2))) (sNext)) (sRet (eOp2 dIx (eS 3) (eOp2 dAdd (eS 4) (eOp2 dMod (eOp2 dSub (eS 2) (eS 4)) (eOp2 dSub (eCallB bLen (eCons (eS 3) (eNil))) (eS 4))))))))))
def m_moved_far : Fn := runFn 5 [] b_moved_far
/-- ring_at_end(moves, point): slots 0 moves, 1 point, 2 points, 3 begin, 4 ring, 5 at, 6 index, 7 top, 8 bottom -/
def f_ring_at_end_1 : Sx := sIf (tOf (eOp2 dLt (eOp2 dMul (eS 7) (eOp2 dIx (eOp2 dIx (eS 4) (eS 5)) (eC (.int 1)))) (eOp2 dMul (eOp2 dIx (eOp2 dIx (eS 4) (eS 5)) (eC (.int 0))) (eS 8)))) (sSet 5 (eS 6)) (sNext)
def b_ring_at_end : Sx := sSeq (sDrop (eCall [] m_need_moves [] (eCons (eS 0) (eNil)))) (sSeq (sDrop (eCall [] m_need_point [] (eCons (eS 1) (eNil)))) (sSeq (sDes (gTupM [gSlot 2, gSlot 3]) (eCall [] m_course_of [] (eCons (eS 0) (eCons (eCall [] m_lowest_terms [] (eCons (eOp2 dIx (eS 1) (eC (.int 0))) (eCons (eOp2 dIx (eS 1) (eC (.int 1))) (eNil)))) (eNil))))) (sSeq (sPar [4, 5] (eCons (eSlice (eS 2) (oSome (eS 3)) (oNone)) (eCons (eC (.int 0)) (eNil)))) (sSeq (sFor (iEnumM (eCons (eS 4) (eNil))) (gTupM [gSlot 6, gTupM [gSlot 7, gSlot 8]]) (f_ring_at_end_1)) (sRet (eOp2 dAdd (eSlice (eS 4) (oSome (eS 5)) (oNone)) (eSlice (eS 4) (oNone) (oSome (eS 5)))))))))
def m_ring_at_end : Fn := runFn 9 [] b_ring_at_end
/-- _law_ring_right(_law_table_here, _law_point_here, _law_ring): slots 0 _law_table_here, 1 _law_point_here, 2 _law_ring, 3 _law_least, 4 _law_k, 5 _law_found, 6 _law_due, 7 _law_given -/
def f_l_ring_right_1 : Sx := sIf (tOf (eOp2 dLt (eOp2 dMul (eOp2 dIx (eOp2 dIx (eS 2) (eS 4)) (eC (.int 0))) (eOp2 dIx (eOp2 dIx (eS 2) (eS 3)) (eC (.int 1)))) (eOp2 dMul (eOp2 dIx (eOp2 dIx (eS 2) (eS 3)) (eC (.int 0))) (eOp2 dIx (eOp2 dIx (eS 2) (eS 4)) (eC (.int 1)))))) (sSet 3 (eS 4)) (sNext)
def x_l_ring_right_1 : Ex := eS 4
def c_l_ring_right_1 : Tx := tOf (eOp2 dNe (eCall [] m_moved [] (eCons (eS 7) (eCons (eOp2 dIx (eS 6) (eS 4)) (eNil)))) (eOp2 dIx (eS 6) (eOp2 dMod (eCallB bInt (eCons (eOp2 dAdd (eS 4) (eC (.int 1))) (eNil))) (eCallB bLen (eCons (eS 6) (eNil))))))
def b_l_ring_right : Sx := sSeq (sSet 3 (eC (.int 0))) (sSeq (sFor (iRg1 (eCons (eCallB bLen (eCons (eS 2) (eNil))) (eNil))) (gSlot 4) (f_l_ring_right_1)) (sSeq (sPar [6, 7] (eCons (eOp2 dAdd (eSlice (eS 2) (oSome (eS 3)) (oNone)) (eSlice (eS 2) (oNone) (oSome (eS 3)))) (eCons (eCallB bList (eCons (eS 0) (eNil))) (eNil)))) (sSeq (sSet 5 (eCall [] m_ring_at_end [] (eCons (eS 7) (eCons (eS 1) (eNil))))) (sSeq (sIf (tOrM (tOf (eOp2 dNe (eCallB bRepr (eCons (eS 5) (eNil))) (eCallB bRepr (eCons (eS 6) (eNil))))) (tOf (eOp2 dNe (eS 7) (eS 0)))) (sRet (eC (.bool false))) (sNext)) (sSeq (sDrop (eMeth 5 kAppend (eCons (eC (.int 0)) (eNil)))) (sSeq (sIf (tOrM (tOf (eOp2 dNe (eCall [] m_ring_at_end [] (eCons (eS 7) (eCons (eS 1) (eNil)))) (eS 6))) (tOf (eOp2 dNe (eCall [] m_ring_at_end [] (eCons (eS 7) (eCons (eCall [] m_moved [] (eCons (eS 7) (eCons (eS 1) (eNil)))) (eNil)))) (eS 6)))) (sRet (eC (.bool false))) (sNext)) (sRet (eOp2 dEq (eLc [4] (iRg1 (eCons (eCallB bLen (eCons (eS 6) (eNil))) (eNil))) (gSlot 4) (c_l_ring_right_1) (x_l_ring_right_1)) (eFrz dList (eNil))))))))))
def m_l_ring_right : Fn := runFn 8 [] b_l_ring_right
/-- _law_course_right(_law_tap_here, _law_table_here, _law_point_here): slots 0 _law_tap_here, 1 _law_table_here, 2 _law_point_here, 3 _law_wide, 4 _law_ticks, 5 _law_course_here, 6 _law_begin, 7 _law_at, 8 _law_due -/
def f_l_course_right_1 : Sx := sSeq (sSet 7 (eIf (tOf (eOp2 dLt (eS 4) (eS 6))) (eS 4) (eOp2 dAdd (eS 6) (eOp2 dMod (eCallB bInt (eCons (eOp2 dSub (eS 4) (eS 6)) (eNil))) (eS 3))))) (sSeq (sSet 8 (eOp2 dIx (eS 5) (eS 7))) (sIf (tOf (eOp2 dNe (eCallB bRepr (eCons (eCall [] m_moved_far [] (eCons (eS 1) (eCons (eS 2) (eCons (eS 4) (eNil))))) (eNil))) (eCallB bRepr (eCons (eS 8) (eNil))))) (sRet (eC (.bool false))) (sNext)))
def b_l_course_right : Sx := sSeq (sDes (gTupM [gSlot 5, gSlot 6]) (eCall [] m_l_course [] (eCons (eS 1) (eCons (eCall [] m_l_lowest [] (eCons (eOp2 dIx (eS 2) (eC (.int 0))) (eCons (eOp2 dIx (eS 2) (eC (.int 1))) (eNil)))) (eNil))))) (sSeq (sSet 3 (eOp2 dSub (eCallB bLen (eCons (eS 5) (eNil))) (eS 6))) (sSeq (sFor (iLst (eFrz dList (eCons (eC (.int 0)) (eCons (eC (.int 1)) (eCons (eCall [0] m_l_draw [] (eCons (eS 0) (eCons (eC (.int 51)) (eNil)))) (eCons (eCallB bLen (eCons (eS 5) (eNil))) (eCons (eCall [0] m_l_draw [] (eCons (eS 0) (eCons (eOp2 dPow (eC (.int 10)) (eC (.int 30))) (eNil)))) (eCons (eOp2 dPow (eC (.int 10)) (eC (.int 30))) (eNil))))))))) (gSlot 4) (f_l_course_right_1)) (sRet (eCall [] m_l_ring_right [] (eCons (eS 1) (eCons (eS 2) (eCons (eSlice (eS 5) (oSome (eS 6)) (oNone)) (eNil))))))))
def m_l_course_right : Fn := runFn 9 [0] b_l_course_right
/-- _law_right(_law_tap_here, _law_most): slots 0 _law_tap_here, 1 _law_most, 2 _law_count, 3 _law_table_here, 4 _law_turn_here, 5 _law_some -/
def f_l_right_k09_1 : Sx := sIf (tNotM (tOf (eCall [0] m_l_course_right [] (eCons (eS 0) (eCons (eS 3) (eCons (eCall [0] m_l_point_k09 [] (eCons (eS 0) (eCons (eS 2) (eCons (eS 1) (eNil))))) (eNil))))))) (sRet (eC (.bool false))) (sNext)
def b_l_right_k09 : Sx := sSeq (sSet 2 (eOp2 dAdd (eC (.int 1)) (eCall [0] m_l_draw [] (eCons (eS 0) (eCons (eC (.int 12)) (eNil)))))) (sSeq (sSet 3 (eCall [0] m_l_table [] (eCons (eS 0) (eCons (eS 2) (eNil))))) (sSeq (sFor (iRg1 (eCons (eC (.int 5)) (eNil))) (gSlot 4) (f_l_right_k09_1)) (sSeq (sSet 5 (eIf (tOf (eOp2 dGt (eS 1) (eC (.int 60)))) (eFrz dList (eCons (eC (.int 199)) (eCons (eC (.int 197)) (eCons (eC (.int 193)) (eNil))))) (eFrz dList (eCons (eC (.int 59)) (eCons (eC (.int 53)) (eCons (eC (.int 47)) (eNil))))))) (sRet (eCall [0] m_l_course_right [] (eCons (eS 0) (eCons (eOp2 dMul (eFrz dList (eCons (eC (.int 0)) (eCons (eC (.int 11)) (eNil)))) (eC (.int 6))) (eCons (eFrz dTup (eCons (eCall [0] m_l_draw [] (eCons (eS 0) (eCons (eOp2 dMul (eC (.int 11)) (eOp2 dIx (eS 5) (eC (.int 0)))) (eNil)))) (eCons (eOp2 dIx (eS 5) (eCall [0] m_l_draw [] (eCons (eS 0) (eCons (eC (.int 3)) (eNil))))) (eNil)))) (eNil)))))))))
def m_l_right_k09 : Fn := runFn 6 [0] b_l_right_k09
/-- law(_law_script): slots 0 _law_script, 1 _law_cells_here, 2 _law_told, 3 _law_k -/
def x_law_k09_1 : Ex := eS 3
def c_law_k09_1 : Tx := tNotM (tOf (eCallX [0] m_l_right_k09 [] (eCons (eCall [] m_l_tap [] (eCons (eOp2 dIx (eS 1) (eS 3)) (eCons (eS 3) (eNil)))) (eCons (eOp2 dIx (eFrz dList (eCons (eC (.int 60)) (eCons (eC (.int 200)) (eNil)))) (eCallB bInt (eCons (eOp2 dEq (eS 3) (eC (.int 0))) (eNil)))) (eNil)))))
def b_law_k09 : Sx := sSeq (sSet 1 (eCall [] m_l_cells [] (eCons (eS 0) (eCons (eC (.int 4)) (eNil))))) (sSeq (sIf (tOf (eOp2 dNe (eLc [3] (iRg1 (eCons (eCallB bLen (eCons (eS 1) (eNil))) (eNil))) (gSlot 3) (c_law_k09_1) (x_law_k09_1)) (eFrz dList (eNil)))) (sRet (eC (.bool false))) (sNext)) (sSeq (sSet 2 (eFrz dList (eCons (eCall [] m_moved_far [] (eCons (eFrz dList (eCons (eC (.int 1)) (eCons (eC (.int 2)) (eCons (eC (.int 0)) (eNil))))) (eCons (eFrz dTup (eCons (eC (.int 4)) (eCons (eC (.int 3)) (eNil)))) (eCons (eOp2 dPow (eC (.int 10)) (eC (.int 30))) (eNil))))) (eCons (eCall [] m_ring_at_end [] (eCons (eFrz dList (eCons (eC (.int 1)) (eCons (eC (.int 2)) (eCons (eC (.int 0)) (eNil))))) (eCons (eFrz dTup (eCons (eC (.int 1)) (eCons (eC (.int 2)) (eNil)))) (eNil)))) (eCons (eCall [] m_moved_far [] (eCons (eFrz dList (eCons (eC (.int 1)) (eCons (eC (.int 2)) (eCons (eC (.int 0)) (eNil))))) (eCons (eFrz dTup (eCons (eC (.int 2)) (eCons (eC (.int 4)) (eNil)))) (eCons (eC (.int 0)) (eNil))))) (eNil)))))) (sRet (eOp2 dEq (eS 2) (eFrz dList (eCons (eFrz dTup (eCons (eC (.int 4)) (eCons (eC (.int 3)) (eNil)))) (eCons (eFrz dList (eCons (eFrz dTup (eCons (eC (.int 0)) (eCons (eC (.int 1)) (eNil)))) (eCons (eFrz dTup (eCons (eC (.int 1)) (eCons (eC (.int 1)) (eNil)))) (eCons (eFrz dTup (eCons (eC (.int 2)) (eCons (eC (.int 1)) (eNil)))) (eNil))))) (eCons (eFrz dTup (eCons (eC (.int 1)) (eCons (eC (.int 2)) (eNil)))) (eNil)))))))))
def m_law_k09 : Fn := runFn 4 [] b_law_k09
end Pg
namespace G_k09
open PySem PySem.Spec PyProof.Rows L2 T3 Pg
def top (i : Nat) : Stmt := PySem.Challenge.pw_sureturns_k09_points_moved_far.main.body.getD i (.Pass ⟨0, 0, 0, 0⟩)
abbrev s_is_integer : Stmt := top 7
abbrev s_common_divisor : Stmt := top 14
abbrev s_l_tap : Stmt := top 24
abbrev s_l_draw : Stmt := top 25
abbrev s_l_cells : Stmt := top 26
abbrev s_l_lowest : Stmt := top 30
abbrev s_are_integers : Stmt := top 8
abbrev N_are_integers : List Str := ["value", "low", "high", "item"]
abbrev s_need_ticks : Stmt := top 11
abbrev s_is_point : Stmt := top 12
abbrev s_lowest_terms : Stmt := top 15
abbrev s_l_mixed : Stmt := top 27
abbrev s_l_straight : Stmt := top 31
abbrev s_l_point : Stmt := top 33
abbrev s_is_table : Stmt := top 9
abbrev s_need_point : Stmt := top 13
abbrev s_straight : Stmt := top 18
abbrev s_l_turn : Stmt := top 28
abbrev s_l_course : Stmt := top 32
abbrev s_need_moves : Stmt := top 10
abbrev s_course_of : Stmt := top 20
abbrev s_l_table : Stmt := top 29
abbrev N_l_table : List Str := ["_law_tap_here", "_law_count", "_law_kind", "_law_some", "_law_found", "_law_turn_here", "_law_place"]
abbrev s_moved : Stmt := top 19
abbrev s_moved_far : Stmt := top 21
abbrev s_ring_at_end : Stmt := top 22
abbrev s_l_ring_right : Stmt := top 34
abbrev N_l_ring_right : List Str := ["_law_table_here", "_law_point_here", "_law_ring", "_law_least", "_law_k", "_law_found", "_law_due", "_law_given"]
abbrev s_l_course_right : Stmt := top 35
abbrev s_l_right : Stmt := top 36
abbrev s_law : Stmt := top 37
abbrev N_law : List Str := ["_law_script", "_law_cells_here", "_law_told", "_law_k"]
structure Txt (K : Fg) (mg : Str → Option Value) where
  a_is_integer : Addr
  d_is_integer : FuncData
  F_is_integer : FunD K "is_integer" "is_integer" (defArgs s_is_integer) (defBody s_is_integer) (defScope s_is_integer) [.non, .non] [] a_is_integer d_is_integer
  g_is_integer : mg "is_integer" = some (.ref a_is_integer)
  a_common_divisor : Addr
  d_common_divisor : FuncData
  F_common_divisor : FunD K "common_divisor" "common_divisor" (defArgs s_common_divisor) (defBody s_common_divisor) (defScope s_common_divisor) [] [] a_common_divisor d_common_divisor
  g_common_divisor : mg "common_divisor" = some (.ref a_common_divisor)
  a_l_tap : Addr
  d_l_tap : FuncData
  F_l_tap : FunD K "_law_tap" "_law_tap" (defArgs s_l_tap) (defBody s_l_tap) (defScope s_l_tap) [] [] a_l_tap d_l_tap
  g_l_tap : mg "_law_tap" = some (.ref a_l_tap)
  a_l_draw : Addr
  d_l_draw : FuncData
  F_l_draw : FunD K "_law_draw" "_law_draw" (defArgs s_l_draw) (defBody s_l_draw) (defScope s_l_draw) [] [] a_l_draw d_l_draw
  g_l_draw : mg "_law_draw" = some (.ref a_l_draw)
  a_l_cells : Addr
  d_l_cells : FuncData
  F_l_cells : FunD K "_law_cells" "_law_cells" (defArgs s_l_cells) (defBody s_l_cells) (defScope s_l_cells) [] [] a_l_cells d_l_cells
  g_l_cells : mg "_law_cells" = some (.ref a_l_cells)
  a_l_lowest : Addr
  d_l_lowest : FuncData
  F_l_lowest : FunD K "_law_lowest" "_law_lowest" (defArgs s_l_lowest) (defBody s_l_lowest) (defScope s_l_lowest) [] [] a_l_lowest d_l_lowest
  g_l_lowest : mg "_law_lowest" = some (.ref a_l_lowest)
  a_are_integers : Addr
  d_are_integers : FuncData
  F_are_integers : FunD K "are_integers" "are_integers" (defArgs s_are_integers) (defBody s_are_integers) (defScope s_are_integers) [.non, .non] [] a_are_integers d_are_integers
  g_are_integers : mg "are_integers" = some (.ref a_are_integers)
  a_need_ticks : Addr
  d_need_ticks : FuncData
  F_need_ticks : FunD K "need_ticks" "need_ticks" (defArgs s_need_ticks) (defBody s_need_ticks) (defScope s_need_ticks) [] [] a_need_ticks d_need_ticks
  g_need_ticks : mg "need_ticks" = some (.ref a_need_ticks)
  a_is_point : Addr
  d_is_point : FuncData
  F_is_point : FunD K "is_point" "is_point" (defArgs s_is_point) (defBody s_is_point) (defScope s_is_point) [] [] a_is_point d_is_point
  g_is_point : mg "is_point" = some (.ref a_is_point)
  a_lowest_terms : Addr
  d_lowest_terms : FuncData
  F_lowest_terms : FunD K "lowest_terms" "lowest_terms" (defArgs s_lowest_terms) (defBody s_lowest_terms) (defScope s_lowest_terms) [] [] a_lowest_terms d_lowest_terms
  g_lowest_terms : mg "lowest_terms" = some (.ref a_lowest_terms)
  a_l_mixed : Addr
  d_l_mixed : FuncData
  F_l_mixed : FunD K "_law_mixed" "_law_mixed" (defArgs s_l_mixed) (defBody s_l_mixed) (defScope s_l_mixed) [] [] a_l_mixed d_l_mixed
  g_l_mixed : mg "_law_mixed" = some (.ref a_l_mixed)
  a_l_straight : Addr
  d_l_straight : FuncData
  F_l_straight : FunD K "_law_straight" "_law_straight" (defArgs s_l_straight) (defBody s_l_straight) (defScope s_l_straight) [] [] a_l_straight d_l_straight
  g_l_straight : mg "_law_straight" = some (.ref a_l_straight)
  a_l_point : Addr
  d_l_point : FuncData
  F_l_point : FunD K "_law_point" "_law_point" (defArgs s_l_point) (defBody s_l_point) (defScope s_l_point) [] [] a_l_point d_l_point
  g_l_point : mg "_law_point" = some (.ref a_l_point)
  a_is_table : Addr
  d_is_table : FuncData
  F_is_table : FunD K "is_table" "is_table" (defArgs s_is_table) (defBody s_is_table) (defScope s_is_table) [] [] a_is_table d_is_table
  g_is_table : mg "is_table" = some (.ref a_is_table)
  a_need_point : Addr
  d_need_point : FuncData
  F_need_point : FunD K "need_point" "need_point" (defArgs s_need_point) (defBody s_need_point) (defScope s_need_point) [] [] a_need_point d_need_point
  g_need_point : mg "need_point" = some (.ref a_need_point)
  a_straight : Addr
  d_straight : FuncData
  F_straight : FunD K "straight" "straight" (defArgs s_straight) (defBody s_straight) (defScope s_straight) [] [] a_straight d_straight
  g_straight : mg "straight" = some (.ref a_straight)
  a_l_turn : Addr
  d_l_turn : FuncData
  F_l_turn : FunD K "_law_turn" "_law_turn" (defArgs s_l_turn) (defBody s_l_turn) (defScope s_l_turn) [] [] a_l_turn d_l_turn
  g_l_turn : mg "_law_turn" = some (.ref a_l_turn)
  a_l_course : Addr
  d_l_course : FuncData
  F_l_course : FunD K "_law_course" "_law_course" (defArgs s_l_course) (defBody s_l_course) (defScope s_l_course) [] [] a_l_course d_l_course
  g_l_course : mg "_law_course" = some (.ref a_l_course)
  a_need_moves : Addr
  d_need_moves : FuncData
  F_need_moves : FunD K "need_moves" "need_moves" (defArgs s_need_moves) (defBody s_need_moves) (defScope s_need_moves) [] [] a_need_moves d_need_moves
  g_need_moves : mg "need_moves" = some (.ref a_need_moves)
  a_course_of : Addr
  d_course_of : FuncData
  F_course_of : FunD K "course_of" "course_of" (defArgs s_course_of) (defBody s_course_of) (defScope s_course_of) [] [] a_course_of d_course_of
  g_course_of : mg "course_of" = some (.ref a_course_of)
  a_l_table : Addr
  d_l_table : FuncData
  F_l_table : FunD K "_law_table" "_law_table" (defArgs s_l_table) (defBody s_l_table) (defScope s_l_table) [] [] a_l_table d_l_table
  g_l_table : mg "_law_table" = some (.ref a_l_table)
  a_moved : Addr
  d_moved : FuncData
  F_moved : FunD K "moved" "moved" (defArgs s_moved) (defBody s_moved) (defScope s_moved) [] [] a_moved d_moved
  g_moved : mg "moved" = some (.ref a_moved)
  a_moved_far : Addr
  d_moved_far : FuncData
  F_moved_far : FunD K "moved_far" "moved_far" (defArgs s_moved_far) (defBody s_moved_far) (defScope s_moved_far) [] [] a_moved_far d_moved_far
  g_moved_far : mg "moved_far" = some (.ref a_moved_far)
  a_ring_at_end : Addr
  d_ring_at_end : FuncData
  F_ring_at_end : FunD K "ring_at_end" "ring_at_end" (defArgs s_ring_at_end) (defBody s_ring_at_end) (defScope s_ring_at_end) [] [] a_ring_at_end d_ring_at_end
  g_ring_at_end : mg "ring_at_end" = some (.ref a_ring_at_end)
  a_l_ring_right : Addr
  d_l_ring_right : FuncData
  F_l_ring_right : FunD K "_law_ring_right" "_law_ring_right" (defArgs s_l_ring_right) (defBody s_l_ring_right) (defScope s_l_ring_right) [] [] a_l_ring_right d_l_ring_right
  g_l_ring_right : mg "_law_ring_right" = some (.ref a_l_ring_right)
  a_l_course_right : Addr
  d_l_course_right : FuncData
  F_l_course_right : FunD K "_law_course_right" "_law_course_right" (defArgs s_l_course_right) (defBody s_l_course_right) (defScope s_l_course_right) [] [] a_l_course_right d_l_course_right
  g_l_course_right : mg "_law_course_right" = some (.ref a_l_course_right)
  a_l_right : Addr
  d_l_right : FuncData
  F_l_right : FunD K "_law_right" "_law_right" (defArgs s_l_right) (defBody s_l_right) (defScope s_l_right) [] [] a_l_right d_l_right
  g_l_right : mg "_law_right" = some (.ref a_l_right)
  a_law : Addr
  d_law : FuncData
  F_law : FunD K "law" "law" (defArgs s_law) (defBody s_law) (defScope s_law) [] [] a_law d_law
  g_law : mg "law" = some (.ref a_law)
  b_l_cells : ∃ ds : List Value, Vals [] ds ∧ Binds K d_l_cells ["_law_script", "_law_many"] ds
  b_l_course : ∃ ds : List Value, Vals [] ds ∧ Binds K d_l_course ["_law_table_here", "_law_point_here"] ds
  b_l_course_right : ∃ ds : List Value, Vals [] ds ∧ Binds K d_l_course_right ["_law_tap_here", "_law_table_here", "_law_point_here"] ds
  b_l_draw : ∃ ds : List Value, Vals [] ds ∧ Binds K d_l_draw ["_law_tap_here", "_law_bound"] ds
  b_l_lowest : ∃ ds : List Value, Vals [] ds ∧ Binds K d_l_lowest ["_law_top", "_law_bottom"] ds
  b_l_mixed : ∃ ds : List Value, Vals [] ds ∧ Binds K d_l_mixed ["_law_tap_here", "_law_count"] ds
  b_l_point : ∃ ds : List Value, Vals [] ds ∧ Binds K d_l_point ["_law_tap_here", "_law_count", "_law_most"] ds
  b_l_right : ∃ ds : List Value, Vals [] ds ∧ Binds K d_l_right ["_law_tap_here", "_law_most"] ds
  b_l_ring_right : ∃ ds : List Value, Vals [] ds ∧ Binds K d_l_ring_right ["_law_table_here", "_law_point_here", "_law_ring"] ds
  b_l_straight : ∃ ds : List Value, Vals [] ds ∧ Binds K d_l_straight ["_law_table_here", "_law_point_here"] ds
  b_l_table : ∃ ds : List Value, Vals [] ds ∧ Binds K d_l_table ["_law_tap_here", "_law_count"] ds
  b_l_tap : ∃ ds : List Value, Vals [] ds ∧ Binds K d_l_tap ["_law_cell", "_law_turn_here"] ds
  b_l_turn : ∃ ds : List Value, Vals [] ds ∧ Binds K d_l_turn ["_law_tap_here", "_law_count"] ds
  b_are_integers_3 : ∃ ds : List Value, Vals [] ds ∧ Binds K d_are_integers ["value", "low", "high"] ds
  b_common_divisor : ∃ ds : List Value, Vals [] ds ∧ Binds K d_common_divisor ["one", "other"] ds
  b_course_of : ∃ ds : List Value, Vals [] ds ∧ Binds K d_course_of ["moves", "point"] ds
  b_is_integer_1 : ∃ ds : List Value, Vals [.non, .non] ds ∧ Binds K d_is_integer ["value", "low", "high"] ds
  b_is_integer_2 : ∃ ds : List Value, Vals [.non] ds ∧ Binds K d_is_integer ["value", "low", "high"] ds
  b_is_integer_3 : ∃ ds : List Value, Vals [] ds ∧ Binds K d_is_integer ["value", "low", "high"] ds
  b_is_point : ∃ ds : List Value, Vals [] ds ∧ Binds K d_is_point ["value"] ds
  b_is_table : ∃ ds : List Value, Vals [] ds ∧ Binds K d_is_table ["value"] ds
  b_lowest_terms : ∃ ds : List Value, Vals [] ds ∧ Binds K d_lowest_terms ["top", "bottom"] ds
  b_moved : ∃ ds : List Value, Vals [] ds ∧ Binds K d_moved ["moves", "point"] ds
  b_moved_far : ∃ ds : List Value, Vals [] ds ∧ Binds K d_moved_far ["moves", "point", "ticks"] ds
  b_need_moves : ∃ ds : List Value, Vals [] ds ∧ Binds K d_need_moves ["moves"] ds
  b_need_point : ∃ ds : List Value, Vals [] ds ∧ Binds K d_need_point ["point"] ds
  b_need_ticks : ∃ ds : List Value, Vals [] ds ∧ Binds K d_need_ticks ["ticks", "low", "most"] ds
  b_ring_at_end : ∃ ds : List Value, Vals [] ds ∧ Binds K d_ring_at_end ["moves", "point"] ds
  b_straight : ∃ ds : List Value, Vals [] ds ∧ Binds K d_straight ["moves", "point"] ds
  f_abs : mg "abs" = none
  f_all : mg "all" = none
  f_bool : mg "bool" = none
  f_enumerate : mg "enumerate" = none
  f_int : mg "int" = none
  f_isinstance : mg "isinstance" = none
  f_len : mg "len" = none
  f_list : mg "list" = none
  f_max : mg "max" = none
  f_min : mg "min" = none
  f_range : mg "range" = none
  f_repr : mg "repr" = none
  f_tuple : mg "tuple" = none
  c_MOST_PLACES : ∃ t, mg "MOST_PLACES" = some (.int 12 t)
  c_MOST_TICKS : ∃ t, mg "MOST_TICKS" = some (.int 1000000000000000000000000000000 t)
  e_InvalidMoves : Addr
  gx_InvalidMoves : mg "InvalidMoves" = some (.ref e_InvalidMoves)
  x_InvalidMoves : PySem.W.excIn K e_InvalidMoves He.veBase "ValueError.__new__" = true ∧ PySem.W.keepIn K (.ref e_InvalidMoves) = true ∧ PySem.W.subIn K (.ref e_InvalidMoves) (.type "BaseException") = some true ∧ PySem.W.typeIn K (.ref e_InvalidMoves) = some (.type "type")
  e_InvalidPoint : Addr
  gx_InvalidPoint : mg "InvalidPoint" = some (.ref e_InvalidPoint)
  x_InvalidPoint : PySem.W.excIn K e_InvalidPoint He.veBase "ValueError.__new__" = true ∧ PySem.W.keepIn K (.ref e_InvalidPoint) = true ∧ PySem.W.subIn K (.ref e_InvalidPoint) (.type "BaseException") = some true ∧ PySem.W.typeIn K (.ref e_InvalidPoint) = some (.type "type")
  e_InvalidTicks : Addr
  gx_InvalidTicks : mg "InvalidTicks" = some (.ref e_InvalidTicks)
  x_InvalidTicks : PySem.W.excIn K e_InvalidTicks He.veBase "ValueError.__new__" = true ∧ PySem.W.keepIn K (.ref e_InvalidTicks) = true ∧ PySem.W.subIn K (.ref e_InvalidTicks) (.type "BaseException") = some true ∧ PySem.W.typeIn K (.ref e_InvalidTicks) = some (.type "type")
section
variable {P : Program} {w : World} {K : Fg} {mg : Str → Option Value} {base : Heap}
theorem sc_is_integer : FnScope ["value", "low", "high"] ["value", "low", "high"] (defScope s_is_integer) := ⟨rfl, rfl, rfl, by decide +kernel, rfl, by decide +kernel, by decide +kernel⟩
theorem ok_is_integer (T : Txt K mg) : FnG P w K mg base 1 T.a_is_integer T.d_is_integer ["value", "low", "high"] (spFn K mg [] 3 m_is_integer) :=
  jfn T.F_is_integer sc_is_integer (by decide) fun c A outer s H E hr hG => by
    have hu := T3.u160 hr
    have hu65 := T3.u65 hr
    have tk : TakesE (cxOf (L2.CX P w) P w K mg base ["value", "low", "high"] "is_integer" (defScope s_is_integer) T.a_is_integer c A outer s H E) (fun _ => E) := takes_of rfl rfl rfl rfl
    exact (jb_cons (js_if (jt_w (jw_or (jt_not (jt_val (jp_isi kit_int rfl T.f_isinstance rfl T.f_int (by decide +kernel) (jp_s 0)))) (jw_or1 (jt_val (jp_isi kit_bool rfl T.f_isinstance rfl T.f_bool (by decide +kernel) (jp_s 0)))))) (jb_one (js_ret jp_bl)) jb_nil)
    (jb_one (js_ret (jp_and (jp_or (jp_is (jp_s 1) jp_non) (jp_one (jp_ge (jp_s 0) (jp_s 1)))) (jp_one (jp_or (jp_is (jp_s 2) jp_non) (jp_one (jp_le (jp_s 0) (jp_s 2)))))))))
theorem sc_common_divisor : FnScope ["one", "other"] ["one", "other"] (defScope s_common_divisor) := ⟨rfl, rfl, rfl, by decide +kernel, rfl, by decide +kernel, by decide +kernel⟩
theorem ok_common_divisor (T : Txt K mg) : FnG P w K mg base 1 T.a_common_divisor T.d_common_divisor ["one", "other"] (spFn K mg [] 2 m_common_divisor) :=
  jfn T.F_common_divisor sc_common_divisor (by decide) fun c A outer s H E hr hG => by
    have hu := T3.u160 hr
    have hu65 := T3.u65 hr
    have tk : TakesE (cxOf (L2.CX P w) P w K mg base ["one", "other"] "common_divisor" (defScope s_common_divisor) T.a_common_divisor c A outer s H E) (fun _ => E) := takes_of rfl rfl rfl rfl
    exact (jb_cons (js_par (i := 0) (j := 1) rfl sc_common_divisor.nd rfl rfl (by decide) rfl rfl (ja_cons (jp_abs rfl T.f_abs (ja_cons (jp_s 0) ja_nil)) (ja_cons (jp_abs rfl T.f_abs (ja_cons (jp_s 1) ja_nil)) ja_nil)) rfl)
    (jb_cons (js_while 1000000000000000000000000000000000000000000000000000000000000000000000000000000000000000000000000000000000000000000000000 (passes_of rfl) (jt_ne hu65 (jp_s 1) jp_int) (jb_one (js_par (i := 0) (j := 1) rfl sc_common_divisor.nd rfl rfl (by decide) rfl rfl (ja_cons (jp_s 1) (ja_cons (jp_mod (jp_s 0) (jp_s 1)) ja_nil)) rfl)))
    (jb_one (js_ret (jp_s 0)))))
theorem sc_l_tap : FnScope ["_law_cell", "_law_turn_here", "_law_whole"] ["_law_cell", "_law_turn_here"] (defScope s_l_tap) := ⟨rfl, rfl, rfl, by decide +kernel, rfl, by decide +kernel, by decide +kernel⟩
theorem ok_l_tap (T : Txt K mg) : FnG P w K mg base 1 T.a_l_tap T.d_l_tap ["_law_cell", "_law_turn_here"] (spFn K mg [] 2 m_l_tap) :=
  jfn T.F_l_tap sc_l_tap (by decide) fun c A outer s H E hr hG => by
    have hu := T3.u160 hr
    have hu65 := T3.u65 hr
    have tk : TakesE (cxOf (L2.CX P w) P w K mg base ["_law_cell", "_law_turn_here", "_law_whole"] "_law_tap" (defScope s_l_tap) T.a_l_tap c A outer s H E) (fun _ => E) := takes_of rfl rfl rfl rfl
    exact (jb_cons (js_set (i := 2) (jp_add (jp_mul jp_int (jp_abs rfl T.f_abs (ja_cons (jp_s 0) ja_nil))) (jp_int1 rfl T.f_int (ja_cons (jp_lt (jp_s 0) jp_int) ja_nil))) sc_l_tap.nd rfl (by first | exact Or.inl rfl | exact Or.inr rfl))
    (jb_one (js_ret (jp_list (ja_cons (jp_s 2) (ja_cons (jp_add (jp_add (jp_mod (jp_int1 rfl T.f_int (ja_cons (jp_s 2) ja_nil)) jp_int) (jp_mul jp_int (jp_s 1))) jp_int) (ja_cons (jp_add (jp_add (jp_mod (jp_int1 rfl T.f_int (ja_cons (jp_s 2) ja_nil)) jp_int) (jp_mul jp_int (jp_s 1))) jp_int) ja_nil)))))))
theorem sc_l_draw : FnScope ["_law_tap_here", "_law_bound", "_law_found"] ["_law_tap_here", "_law_bound"] (defScope s_l_draw) := ⟨rfl, rfl, rfl, by decide +kernel, rfl, by decide +kernel, by decide +kernel⟩
theorem ok_l_draw (T : Txt K mg) : FnG P w K mg base 1 T.a_l_draw T.d_l_draw ["_law_tap_here", "_law_bound"] (spFn K mg [0] 2 m_l_draw) :=
  jfn T.F_l_draw sc_l_draw (by decide) fun c A outer s H E hr hG => by
    have hu := T3.u160 hr
    have hu65 := T3.u65 hr
    have tk : TakesE (cxOf (L2.CX P w) P w K mg base ["_law_tap_here", "_law_bound", "_law_found"] "_law_draw" (defScope s_l_draw) T.a_l_draw c A outer s H E) (fun _ => E) := takes_of rfl rfl rfl rfl
    exact (jb_cons (js_if (jt_ge (jp_ix (fun _ _ => rfl) (jp_s 0) jp_int) (jp_pow jp_int jp_int)) (jb_cons (js_set (i := 2) (jp_mod (jp_int1 rfl T.f_int (ja_cons (jp_ix (fun _ _ => rfl) (jp_s 0) jp_int) ja_nil)) (jp_s 1)) sc_l_draw.nd rfl (by first | exact Or.inl rfl | exact Or.inr rfl))
    (jb_cons (js_store 0 (jp_div (jp_ix (fun _ _ => rfl) (jp_s 0) jp_int) (jp_s 1)) jp_int)
    (jb_one (js_ret (jp_s 2))))) jb_nil)
    (jb_cons (js_store 0 (jp_mod (jp_int1 rfl T.f_int (ja_cons (jp_add (jp_mul (jp_ix (fun _ _ => rfl) (jp_s 0) jp_int) jp_int) jp_int) ja_nil)) jp_int) jp_int)
    (jb_cons (js_store 0 (jp_mod (jp_int1 rfl T.f_int (ja_cons (jp_add (jp_mul (jp_ix (fun _ _ => rfl) (jp_s 0) jp_int) (jp_ix (fun _ _ => rfl) (jp_s 0) jp_int)) (jp_ix (fun _ _ => rfl) (jp_s 0) jp_int)) ja_nil)) jp_int) jp_int)
    (jb_one (js_ret (jp_mod (jp_int1 rfl T.f_int (ja_cons (jp_add (jp_div (jp_ix (fun _ _ => rfl) (jp_s 0) jp_int) jp_int) (jp_div (jp_ix (fun _ _ => rfl) (jp_s 0) jp_int) jp_int)) ja_nil)) (jp_s 1)))))))
theorem sc_l_cells : FnScope ["_law_script", "_law_many"] ["_law_script", "_law_many"] (defScope s_l_cells) := ⟨rfl, rfl, rfl, by decide +kernel, rfl, by decide +kernel, by decide +kernel⟩
theorem ok_l_cells (T : Txt K mg) : FnG P w K mg base 1 T.a_l_cells T.d_l_cells ["_law_script", "_law_many"] (spFn K mg [] 2 m_l_cells) :=
  jfn T.F_l_cells sc_l_cells (by decide) fun c A outer s H E hr hG => by
    have hu := T3.u160 hr
    have hu65 := T3.u65 hr
    have tk : TakesE (cxOf (L2.CX P w) P w K mg base ["_law_script", "_law_many"] "_law_cells" (defScope s_l_cells) T.a_l_cells c A outer s H E) (fun _ => E) := takes_of rfl rfl rfl rfl
    exact (jb_one (js_ret (jp_slice (jp_add (jp_s 0) (jp_list (ja_cons jp_int ja_nil))) jo_none (jo_some (jp_max2 rfl rfl T.f_max (ja_cons jp_int (ja_cons (jp_min2 rfl rfl T.f_min (ja_cons (jp_s 1) (ja_cons (jp_len rfl T.f_len (ja_cons (jp_s 0) ja_nil)) ja_nil))) ja_nil)))))))
theorem sc_l_lowest : FnScope ["_law_top", "_law_bottom", "_law_one", "_law_other"] ["_law_top", "_law_bottom"] (defScope s_l_lowest) := ⟨rfl, rfl, rfl, by decide +kernel, rfl, by decide +kernel, by decide +kernel⟩
theorem ok_l_lowest (T : Txt K mg) : FnG P w K mg base 1 T.a_l_lowest T.d_l_lowest ["_law_top", "_law_bottom"] (spFn K mg [] 2 m_l_lowest) :=
  jfn T.F_l_lowest sc_l_lowest (by decide) fun c A outer s H E hr hG => by
    have hu := T3.u160 hr
    have hu65 := T3.u65 hr
    have tk : TakesE (cxOf (L2.CX P w) P w K mg base ["_law_top", "_law_bottom", "_law_one", "_law_other"] "_law_lowest" (defScope s_l_lowest) T.a_l_lowest c A outer s H E) (fun _ => E) := takes_of rfl rfl rfl rfl
    exact (jb_cons (js_par (i := 2) (j := 3) rfl sc_l_lowest.nd rfl rfl (by decide) rfl rfl (ja_cons (jp_abs rfl T.f_abs (ja_cons (jp_s 0) ja_nil)) (ja_cons (jp_abs rfl T.f_abs (ja_cons (jp_s 1) ja_nil)) ja_nil)) rfl)
    (jb_cons (js_while 1000000000000000000000000000000000000000000000000000000000000000000000000000000000000000000000000000000000000000000000000 (passes_of rfl) (jt_ne hu65 (jp_s 3) jp_int) (jb_one (js_par (i := 2) (j := 3) rfl sc_l_lowest.nd rfl rfl (by decide) rfl rfl (ja_cons (jp_s 3) (ja_cons (jp_mod (jp_int1 rfl T.f_int (ja_cons (jp_s 2) ja_nil)) (jp_s 3)) ja_nil)) rfl)))
    (jb_cons (js_if (jt_lt (jp_s 1) jp_int) (jb_one (js_set (i := 2) (jp_subt jp_int (jp_s 2)) sc_l_lowest.nd rfl (by first | exact Or.inl rfl | exact Or.inr rfl))) jb_nil)
    (jb_one (js_ret (jp_tup (ja_cons (jp_div (jp_s 0) (jp_s 2)) (ja_cons (jp_div (jp_s 1) (jp_s 2)) ja_nil))))))))
theorem sc_are_integers : FnScope ["value", "low", "high", "item"] ["value", "low", "high"] (defScope s_are_integers) := ⟨rfl, rfl, rfl, by decide +kernel, rfl, by decide +kernel, by decide +kernel⟩
theorem ok_are_integers (T : Txt K mg) : FnG P w K mg base 2 T.a_are_integers T.d_are_integers ["value", "low", "high"] (spFn K mg [] 3 m_are_integers) :=
  jfn T.F_are_integers sc_are_integers (by decide) fun c A outer s H E hr hG => by
    have hu := T3.u160 hr
    have hu65 := T3.u65 hr
    have tk : TakesE (cxOf (L2.CX P w) P w K mg base ["value", "low", "high", "item"] "are_integers" (defScope s_are_integers) T.a_are_integers c A outer s H E) (fun _ => E) := takes_of rfl rfl rfl rfl
    exact (jb_one (js_ret (jp_and (jp_isi kit_list rfl T.f_isinstance rfl T.f_list (by decide +kernel) (jp_s 0)) (jp_one (jp_all rfl rfl T.f_all (ja_cons (jp_lc (own := [("item", 3)]) rfl sc_are_integers.nd (ji_list (jp_s 0)) (blkOk_by (N := N_are_integers) (sc := defScope s_are_integers) (by decide +kernel)) (fun _ _ _ _ _ => (jg_name sc_are_integers.nd rfl (by first | exact Or.inl rfl | exact Or.inr rfl) (by decide))) (fun _ _ _ _ _ => jts_nil) (fun _ _ _ _ _ => (jp_call (ms := []) (fn := m_is_integer) (dflt := []) ((ok_is_integer T).mono (by decide)) hr hG rfl T.g_is_integer T.F_is_integer.kp T.b_is_integer_3.choose_spec.2 T.b_is_integer_3.choose_spec.1 (fun _ => .nil) rfl (al_cons (al_cons (al_cons al_nil))) (TakesE.at takesEF) (ja_cons (jp_s 3) (ja_cons (jp_s 1) (ja_cons (jp_s 2) ja_nil)))))) ja_nil))))))
theorem sc_need_ticks : FnScope ["ticks", "low", "most"] ["ticks", "low", "most"] (defScope s_need_ticks) := ⟨rfl, rfl, rfl, by decide +kernel, rfl, by decide +kernel, by decide +kernel⟩
theorem ok_need_ticks (T : Txt K mg) : FnG P w K mg base 2 T.a_need_ticks T.d_need_ticks ["ticks", "low", "most"] (spFn K mg [] 3 m_need_ticks) :=
  jfn T.F_need_ticks sc_need_ticks (by decide) fun c A outer s H E hr hG => by
    have hu := T3.u160 hr
    have hu65 := T3.u65 hr
    have tk : TakesE (cxOf (L2.CX P w) P w K mg base ["ticks", "low", "most"] "need_ticks" (defScope s_need_ticks) T.a_need_ticks c A outer s H E) (fun _ => E) := takes_of rfl rfl rfl rfl
    exact (jb_one (js_if (jt_not (jt_val (jp_call (ms := []) (fn := m_is_integer) (dflt := []) ((ok_is_integer T).mono (by decide)) hr hG rfl T.g_is_integer T.F_is_integer.kp T.b_is_integer_3.choose_spec.2 T.b_is_integer_3.choose_spec.1 (fun _ => .nil) rfl (al_cons (al_cons (al_cons al_nil))) (TakesE.at tk) (ja_cons (jp_s 0) (ja_cons (jp_s 1) (ja_cons (jp_s 2) ja_nil)))))) (jb_one (js_raise rfl tk xVE T.x_InvalidTicks.1 T.gx_InvalidTicks T.x_InvalidTicks.2.1 (raises_own T.x_InvalidTicks.2.2.1 T.x_InvalidTicks.2.2.2) rfl)) jb_nil))
theorem sc_is_point : FnScope ["value"] ["value"] (defScope s_is_point) := ⟨rfl, rfl, rfl, by decide +kernel, rfl, by decide +kernel, by decide +kernel⟩
theorem ok_is_point (T : Txt K mg) : FnG P w K mg base 2 T.a_is_point T.d_is_point ["value"] (spFn K mg [] 1 m_is_point) :=
  jfn T.F_is_point sc_is_point (by decide) fun c A outer s H E hr hG => by
    have hu := T3.u160 hr
    have hu65 := T3.u65 hr
    have tk : TakesE (cxOf (L2.CX P w) P w K mg base ["value"] "is_point" (defScope s_is_point) T.a_is_point c A outer s H E) (fun _ => E) := takes_of rfl rfl rfl rfl
    exact (jb_one (js_ret (jp_and (jp_isi kit_tuple rfl T.f_isinstance rfl T.f_tuple (by decide +kernel) (jp_s 0)) (jp_and (jp_eq hu65 (jp_len rfl T.f_len (ja_cons (jp_s 0) ja_nil)) jp_int) (jp_and (jp_call (ms := []) (fn := m_is_integer) (dflt := [.none, .none]) ((ok_is_integer T).mono (by decide)) hr hG rfl T.g_is_integer T.F_is_integer.kp T.b_is_integer_1.choose_spec.2 T.b_is_integer_1.choose_spec.1 (fun _ => (.cons .non (.cons .non .nil))) rfl (al_cons al_nil) (TakesE.at tk) (ja_cons (jp_ix (fun _ _ => rfl) (jp_s 0) jp_int) ja_nil)) (jp_one (jp_call (ms := []) (fn := m_is_integer) (dflt := [.none]) ((ok_is_integer T).mono (by decide)) hr hG rfl T.g_is_integer T.F_is_integer.kp T.b_is_integer_2.choose_spec.2 T.b_is_integer_2.choose_spec.1 (fun _ => (.cons .non .nil)) rfl (al_cons (al_cons al_nil)) (TakesE.at tk) (ja_cons (jp_ix (fun _ _ => rfl) (jp_s 0) jp_int) (ja_cons jp_int ja_nil)))))))))
theorem sc_lowest_terms : FnScope ["top", "bottom", "divisor"] ["top", "bottom"] (defScope s_lowest_terms) := ⟨rfl, rfl, rfl, by decide +kernel, rfl, by decide +kernel, by decide +kernel⟩
theorem ok_lowest_terms (T : Txt K mg) : FnG P w K mg base 2 T.a_lowest_terms T.d_lowest_terms ["top", "bottom"] (spFn K mg [] 2 m_lowest_terms) :=
  jfn T.F_lowest_terms sc_lowest_terms (by decide) fun c A outer s H E hr hG => by
    have hu := T3.u160 hr
    have hu65 := T3.u65 hr
    have tk : TakesE (cxOf (L2.CX P w) P w K mg base ["top", "bottom", "divisor"] "lowest_terms" (defScope s_lowest_terms) T.a_lowest_terms c A outer s H E) (fun _ => E) := takes_of rfl rfl rfl rfl
    exact (jb_cons (js_if (jt_lt (jp_s 1) jp_int) (jb_one (js_par (i := 0) (j := 1) rfl sc_lowest_terms.nd rfl rfl (by decide) rfl rfl (ja_cons (jp_subt jp_int (jp_s 0)) (ja_cons (jp_subt jp_int (jp_s 1)) ja_nil)) rfl)) jb_nil)
    (jb_cons (js_set (i := 2) (jp_call (ms := []) (fn := m_common_divisor) (dflt := []) ((ok_common_divisor T).mono (by decide)) hr hG rfl T.g_common_divisor T.F_common_divisor.kp T.b_common_divisor.choose_spec.2 T.b_common_divisor.choose_spec.1 (fun _ => .nil) rfl (al_cons (al_cons al_nil)) (TakesE.at tk) (ja_cons (jp_s 0) (ja_cons (jp_s 1) ja_nil))) sc_lowest_terms.nd rfl (by first | exact Or.inl rfl | exact Or.inr rfl))
    (jb_one (js_ret (jp_tup (ja_cons (jp_div (jp_s 0) (jp_s 2)) (ja_cons (jp_div (jp_s 1) (jp_s 2)) ja_nil)))))))
theorem sc_l_mixed : FnScope ["_law_tap_here", "_law_count", "_law_left", "_law_found"] ["_law_tap_here", "_law_count"] (defScope s_l_mixed) := ⟨rfl, rfl, rfl, by decide +kernel, rfl, by decide +kernel, by decide +kernel⟩
theorem ok_l_mixed (T : Txt K mg) : FnG P w K mg base 2 T.a_l_mixed T.d_l_mixed ["_law_tap_here", "_law_count"] (spFn K mg [0] 2 m_l_mixed) :=
  jfn T.F_l_mixed sc_l_mixed (by decide) fun c A outer s H E hr hG => by
    have hu := T3.u160 hr
    have hu65 := T3.u65 hr
    have tk : TakesE (cxOf (L2.CX P w) P w K mg base ["_law_tap_here", "_law_count", "_law_left", "_law_found"] "_law_mixed" (defScope s_l_mixed) T.a_l_mixed c A outer s H E) (fun _ => E) := takes_of rfl rfl rfl rfl
    exact (jb_cons (js_par (i := 2) (j := 3) rfl sc_l_mixed.nd rfl rfl (by decide) rfl rfl (ja_cons (jp_listRg1 rfl rfl T.f_list rfl T.f_range (jp_s 1)) (ja_cons (jp_list ja_nil) ja_nil)) rfl)
    (jb_cons (js_while 1000 (passes_of rfl) (jt_ne hu65 (jp_s 2) (jp_list ja_nil)) (jb_one (js_expr (jp_append 3 (ja_cons (jp_popAt 2 (ja_cons (jp_call (ms := [0]) (fn := m_l_draw) (dflt := []) ((ok_l_draw T).mono (by decide)) hr hG rfl T.g_l_draw T.F_l_draw.kp T.b_l_draw.choose_spec.2 T.b_l_draw.choose_spec.1 (fun _ => .nil) rfl (al_cons (al_cons al_nil)) (TakesE.at tk) (ja_cons (jp_s 0) (ja_cons (jp_len rfl T.f_len (ja_cons (jp_s 2) ja_nil)) ja_nil))) ja_nil)) ja_nil)))))
    (jb_one (js_ret (jp_s 3)))))
theorem sc_l_straight : FnScope ["_law_table_here", "_law_point_here", "_law_place", "_law_part", "_law_top", "_law_bottom", "_law_one", "_law_other"] ["_law_table_here", "_law_point_here"] (defScope s_l_straight) := ⟨rfl, rfl, rfl, by decide +kernel, rfl, by decide +kernel, by decide +kernel⟩
theorem ok_l_straight (T : Txt K mg) : FnG P w K mg base 2 T.a_l_straight T.d_l_straight ["_law_table_here", "_law_point_here"] (spFn K mg [] 2 m_l_straight) :=
  jfn T.F_l_straight sc_l_straight (by decide) fun c A outer s H E hr hG => by
    have hu := T3.u160 hr
    have hu65 := T3.u65 hr
    have tk : TakesE (cxOf (L2.CX P w) P w K mg base ["_law_table_here", "_law_point_here", "_law_place", "_law_part", "_law_top", "_law_bottom", "_law_one", "_law_other"] "_law_straight" (defScope s_l_straight) T.a_l_straight c A outer s H E) (fun _ => E) := takes_of rfl rfl rfl rfl
    exact (jb_cons (js_des (vs := [4, 5]) (jp_s 1) (jg_tup rfl (jgs_cons (jg_name sc_l_straight.nd rfl (by first | exact Or.inl rfl | exact Or.inr rfl) (by decide)) (jgs_cons (jg_name sc_l_straight.nd rfl (by first | exact Or.inl rfl | exact Or.inr rfl) (by decide)) jgs_nil))))
    (jb_cons (js_if (jt_le (jp_s 4) jp_int) (jb_one (js_ret (jp_tup (ja_cons (jp_ix (fun _ _ => rfl) (jp_s 0) jp_int) (ja_cons jp_int ja_nil))))) jb_nil)
    (jb_cons (js_if (jt_ge (jp_s 4) (jp_mul (jp_subt (jp_len rfl T.f_len (ja_cons (jp_s 0) ja_nil)) jp_int) (jp_s 5))) (jb_one (js_ret (jp_tup (ja_cons (jp_ix (fun _ _ => rfl) (jp_s 0) jp_negc) (ja_cons jp_int ja_nil))))) jb_nil)
    (jb_cons (js_set (i := 2) (jp_div (jp_s 4) (jp_s 5)) sc_l_straight.nd rfl (by first | exact Or.inl rfl | exact Or.inr rfl))
    (jb_cons (js_set (i := 3) (jp_subt (jp_s 4) (jp_mul (jp_s 2) (jp_s 5))) sc_l_straight.nd rfl (by first | exact Or.inl rfl | exact Or.inr rfl))
    (jb_cons (js_par (i := 6) (j := 7) rfl sc_l_straight.nd rfl rfl (by decide) rfl rfl (ja_cons (jp_ix (fun _ _ => rfl) (jp_s 0) (jp_s 2)) (ja_cons (jp_ix (fun _ _ => rfl) (jp_s 0) (jp_add (jp_s 2) jp_int)) ja_nil)) rfl)
    (jb_one (js_ret (jp_call (ms := []) (fn := m_l_lowest) (dflt := []) ((ok_l_lowest T).mono (by decide)) hr hG rfl T.g_l_lowest T.F_l_lowest.kp T.b_l_lowest.choose_spec.2 T.b_l_lowest.choose_spec.1 (fun _ => .nil) rfl (al_cons (al_cons al_nil)) (TakesE.at tk) (ja_cons (jp_add (jp_mul (jp_s 6) (jp_subt (jp_s 5) (jp_s 3))) (jp_mul (jp_s 7) (jp_s 3))) (ja_cons (jp_s 5) ja_nil)))))))))))
theorem sc_l_point : FnScope ["_law_tap_here", "_law_count", "_law_most", "_law_bottom"] ["_law_tap_here", "_law_count", "_law_most"] (defScope s_l_point) := ⟨rfl, rfl, rfl, by decide +kernel, rfl, by decide +kernel, by decide +kernel⟩
theorem ok_l_point (T : Txt K mg) : FnG P w K mg base 2 T.a_l_point T.d_l_point ["_law_tap_here", "_law_count", "_law_most"] (spFn K mg [0] 3 m_l_point_k09) :=
  jfn T.F_l_point sc_l_point (by decide) fun c A outer s H E hr hG => by
    have hu := T3.u160 hr
    have hu65 := T3.u65 hr
    have tk : TakesE (cxOf (L2.CX P w) P w K mg base ["_law_tap_here", "_law_count", "_law_most", "_law_bottom"] "_law_point" (defScope s_l_point) T.a_l_point c A outer s H E) (fun _ => E) := takes_of rfl rfl rfl rfl
    exact (jb_cons (js_set (i := 3) (jp_ix (fun _ _ => rfl) (jp_list (ja_cons jp_int (ja_cons jp_int (ja_cons (jp_add jp_int (jp_call (ms := [0]) (fn := m_l_draw) (dflt := []) ((ok_l_draw T).mono (by decide)) hr hG rfl T.g_l_draw T.F_l_draw.kp T.b_l_draw.choose_spec.2 T.b_l_draw.choose_spec.1 (fun _ => .nil) rfl (al_cons (al_cons al_nil)) (TakesE.at tk) (ja_cons (jp_s 0) (ja_cons jp_int ja_nil)))) (ja_cons (jp_add jp_int (jp_call (ms := [0]) (fn := m_l_draw) (dflt := []) ((ok_l_draw T).mono (by decide)) hr hG rfl T.g_l_draw T.F_l_draw.kp T.b_l_draw.choose_spec.2 T.b_l_draw.choose_spec.1 (fun _ => .nil) rfl (al_cons (al_cons al_nil)) (TakesE.at tk) (ja_cons (jp_s 0) (ja_cons (jp_s 2) ja_nil)))) ja_nil))))) (jp_call (ms := [0]) (fn := m_l_draw) (dflt := []) ((ok_l_draw T).mono (by decide)) hr hG rfl T.g_l_draw T.F_l_draw.kp T.b_l_draw.choose_spec.2 T.b_l_draw.choose_spec.1 (fun _ => .nil) rfl (al_cons (al_cons al_nil)) (TakesE.at tk) (ja_cons (jp_s 0) (ja_cons jp_int ja_nil)))) sc_l_point.nd rfl (by first | exact Or.inl rfl | exact Or.inr rfl))
    (jb_cons (js_if (jt_eq hu65 (jp_call (ms := [0]) (fn := m_l_draw) (dflt := []) ((ok_l_draw T).mono (by decide)) hr hG rfl T.g_l_draw T.F_l_draw.kp T.b_l_draw.choose_spec.2 T.b_l_draw.choose_spec.1 (fun _ => .nil) rfl (al_cons (al_cons al_nil)) (TakesE.at tk) (ja_cons (jp_s 0) (ja_cons jp_int ja_nil))) jp_int) (jb_one (js_ret (jp_tup (ja_cons (jp_ix (fun _ _ => rfl) (jp_list (ja_cons (jp_pow jp_int jp_int) (ja_cons (jp_subt jp_int (jp_pow jp_int jp_int)) ja_nil))) (jp_call (ms := [0]) (fn := m_l_draw) (dflt := []) ((ok_l_draw T).mono (by decide)) hr hG rfl T.g_l_draw T.F_l_draw.kp T.b_l_draw.choose_spec.2 T.b_l_draw.choose_spec.1 (fun _ => .nil) rfl (al_cons (al_cons al_nil)) (TakesE.at tk) (ja_cons (jp_s 0) (ja_cons jp_int ja_nil)))) (ja_cons (jp_s 3) ja_nil))))) jb_nil)
    (jb_one (js_ret (jp_tup (ja_cons (jp_subt (jp_call (ms := [0]) (fn := m_l_draw) (dflt := []) ((ok_l_draw T).mono (by decide)) hr hG rfl T.g_l_draw T.F_l_draw.kp T.b_l_draw.choose_spec.2 T.b_l_draw.choose_spec.1 (fun _ => .nil) rfl (al_cons (al_cons al_nil)) (TakesE.at tk) (ja_cons (jp_s 0) (ja_cons (jp_add (jp_mul (jp_s 1) (jp_s 3)) (jp_mul jp_int (jp_s 3))) ja_nil))) (jp_s 3)) (ja_cons (jp_s 3) ja_nil)))))))
theorem sc_is_table : FnScope ["value"] ["value"] (defScope s_is_table) := ⟨rfl, rfl, rfl, by decide +kernel, rfl, by decide +kernel, by decide +kernel⟩
theorem ok_is_table (T : Txt K mg) : FnG P w K mg base 3 T.a_is_table T.d_is_table ["value"] (spFn K mg [] 1 m_is_table) :=
  jfn T.F_is_table sc_is_table (by decide) fun c A outer s H E hr hG => by
    have hu := T3.u160 hr
    have hu65 := T3.u65 hr
    have tk : TakesE (cxOf (L2.CX P w) P w K mg base ["value"] "is_table" (defScope s_is_table) T.a_is_table c A outer s H E) (fun _ => E) := takes_of rfl rfl rfl rfl
    exact (jb_one (js_ret (jp_and (jp_isi kit_list rfl T.f_isinstance rfl T.f_list (by decide +kernel) (jp_s 0)) (jp_and (jp_chain L2.op_le L2.op_le jp_int (jp_len rfl T.f_len (ja_cons (jp_s 0) ja_nil)) (jp_gint rfl T.c_MOST_PLACES.choose_spec ⟨_, rfl⟩)) (jp_one (jp_call (ms := []) (fn := m_are_integers) (dflt := []) ((ok_are_integers T).mono (by decide)) hr hG rfl T.g_are_integers T.F_are_integers.kp T.b_are_integers_3.choose_spec.2 T.b_are_integers_3.choose_spec.1 (fun _ => .nil) rfl (al_cons (al_cons (al_cons al_nil))) (TakesE.at tk) (ja_cons (jp_s 0) (ja_cons jp_int (ja_cons (jp_subt (jp_len rfl T.f_len (ja_cons (jp_s 0) ja_nil)) jp_int) ja_nil)))))))))
theorem sc_need_point : FnScope ["point"] ["point"] (defScope s_need_point) := ⟨rfl, rfl, rfl, by decide +kernel, rfl, by decide +kernel, by decide +kernel⟩
theorem ok_need_point (T : Txt K mg) : FnG P w K mg base 3 T.a_need_point T.d_need_point ["point"] (spFn K mg [] 1 m_need_point) :=
  jfn T.F_need_point sc_need_point (by decide) fun c A outer s H E hr hG => by
    have hu := T3.u160 hr
    have hu65 := T3.u65 hr
    have tk : TakesE (cxOf (L2.CX P w) P w K mg base ["point"] "need_point" (defScope s_need_point) T.a_need_point c A outer s H E) (fun _ => E) := takes_of rfl rfl rfl rfl
    exact (jb_one (js_if (jt_not (jt_val (jp_call (ms := []) (fn := m_is_point) (dflt := []) ((ok_is_point T).mono (by decide)) hr hG rfl T.g_is_point T.F_is_point.kp T.b_is_point.choose_spec.2 T.b_is_point.choose_spec.1 (fun _ => .nil) rfl (al_cons al_nil) (TakesE.at tk) (ja_cons (jp_s 0) ja_nil)))) (jb_one (js_raise rfl tk xVE T.x_InvalidPoint.1 T.gx_InvalidPoint T.x_InvalidPoint.2.1 (raises_own T.x_InvalidPoint.2.2.1 T.x_InvalidPoint.2.2.2) rfl)) jb_nil))
theorem sc_straight : FnScope ["moves", "point", "place", "rise", "top", "bottom"] ["moves", "point"] (defScope s_straight) := ⟨rfl, rfl, rfl, by decide +kernel, rfl, by decide +kernel, by decide +kernel⟩
theorem ok_straight (T : Txt K mg) : FnG P w K mg base 3 T.a_straight T.d_straight ["moves", "point"] (spFn K mg [] 2 m_straight) :=
  jfn T.F_straight sc_straight (by decide) fun c A outer s H E hr hG => by
    have hu := T3.u160 hr
    have hu65 := T3.u65 hr
    have tk : TakesE (cxOf (L2.CX P w) P w K mg base ["moves", "point", "place", "rise", "top", "bottom"] "straight" (defScope s_straight) T.a_straight c A outer s H E) (fun _ => E) := takes_of rfl rfl rfl rfl
    exact (jb_cons (js_des (vs := [4, 5]) (jp_s 1) (jg_tup rfl (jgs_cons (jg_name sc_straight.nd rfl (by first | exact Or.inl rfl | exact Or.inr rfl) (by decide)) (jgs_cons (jg_name sc_straight.nd rfl (by first | exact Or.inl rfl | exact Or.inr rfl) (by decide)) jgs_nil))))
    (jb_cons (js_if (jt_le (jp_s 4) jp_int) (jb_one (js_ret (jp_tup (ja_cons (jp_ix (fun _ _ => rfl) (jp_s 0) jp_int) (ja_cons jp_int ja_nil))))) jb_nil)
    (jb_cons (js_if (jt_ge (jp_s 4) (jp_mul (jp_subt (jp_len rfl T.f_len (ja_cons (jp_s 0) ja_nil)) jp_int) (jp_s 5))) (jb_one (js_ret (jp_tup (ja_cons (jp_ix (fun _ _ => rfl) (jp_s 0) jp_negc) (ja_cons jp_int ja_nil))))) jb_nil)
    (jb_cons (js_set (i := 2) (jp_div (jp_s 4) (jp_s 5)) sc_straight.nd rfl (by first | exact Or.inl rfl | exact Or.inr rfl))
    (jb_cons (js_set (i := 3) (jp_subt (jp_ix (fun _ _ => rfl) (jp_s 0) (jp_add (jp_s 2) jp_int)) (jp_ix (fun _ _ => rfl) (jp_s 0) (jp_s 2))) sc_straight.nd rfl (by first | exact Or.inl rfl | exact Or.inr rfl))
    (jb_one (js_ret (jp_call (ms := []) (fn := m_lowest_terms) (dflt := []) ((ok_lowest_terms T).mono (by decide)) hr hG rfl T.g_lowest_terms T.F_lowest_terms.kp T.b_lowest_terms.choose_spec.2 T.b_lowest_terms.choose_spec.1 (fun _ => .nil) rfl (al_cons (al_cons al_nil)) (TakesE.at tk) (ja_cons (jp_add (jp_mul (jp_ix (fun _ _ => rfl) (jp_s 0) (jp_s 2)) (jp_s 5)) (jp_mul (jp_s 3) (jp_subt (jp_s 4) (jp_mul (jp_s 2) (jp_s 5))))) (ja_cons (jp_s 5) ja_nil))))))))))
theorem sc_l_turn : FnScope ["_law_tap_here", "_law_count", "_law_k", "_law_way", "_law_found"] ["_law_tap_here", "_law_count"] (defScope s_l_turn) := ⟨rfl, rfl, rfl, by decide +kernel, rfl, by decide +kernel, by decide +kernel⟩
theorem ok_l_turn (T : Txt K mg) : FnG P w K mg base 3 T.a_l_turn T.d_l_turn ["_law_tap_here", "_law_count"] (spFn K mg [0] 2 m_l_turn) :=
  jfn T.F_l_turn sc_l_turn (by decide) fun c A outer s H E hr hG => by
    have hu := T3.u160 hr
    have hu65 := T3.u65 hr
    have tk : TakesE (cxOf (L2.CX P w) P w K mg base ["_law_tap_here", "_law_count", "_law_k", "_law_way", "_law_found"] "_law_turn" (defScope s_l_turn) T.a_l_turn c A outer s H E) (fun _ => E) := takes_of rfl rfl rfl rfl
    exact (jb_cons (js_par (i := 3) (j := 4) rfl sc_l_turn.nd rfl rfl (by decide) rfl rfl (ja_cons (jp_call (ms := [0]) (fn := m_l_mixed) (dflt := []) ((ok_l_mixed T).mono (by decide)) hr hG rfl T.g_l_mixed T.F_l_mixed.kp T.b_l_mixed.choose_spec.2 T.b_l_mixed.choose_spec.1 (fun _ => .nil) rfl (al_cons (al_cons al_nil)) (TakesE.at tk) (ja_cons (jp_s 0) (ja_cons (jp_s 1) ja_nil))) (ja_cons (jp_mul (jp_list (ja_cons jp_int ja_nil)) (jp_s 1)) ja_nil)) rfl)
    (jb_cons (js_for (vs := [2]) (passes_of rfl) rfl (ji_range1 rfl T.f_range (ja_cons (jp_s 1) ja_nil)) (jg_name sc_l_turn.nd rfl (by first | exact Or.inl rfl | exact Or.inr rfl) (by decide)) (jb_one (js_store 4 (jp_ix (fun _ _ => rfl) (jp_s 3) (jp_mod (jp_int1 rfl T.f_int (ja_cons (jp_add (jp_s 2) jp_int) ja_nil)) (jp_s 1))) (jp_ix (fun _ _ => rfl) (jp_s 3) (jp_s 2)))))
    (jb_one (js_ret (jp_s 4)))))
theorem sc_l_course : FnScope ["_law_table_here", "_law_point_here", "_law_found", "_law_known"] ["_law_table_here", "_law_point_here"] (defScope s_l_course) := ⟨rfl, rfl, rfl, by decide +kernel, rfl, by decide +kernel, by decide +kernel⟩
theorem ok_l_course (T : Txt K mg) : FnG P w K mg base 3 T.a_l_course T.d_l_course ["_law_table_here", "_law_point_here"] (spFn K mg [] 2 m_l_course) :=
  jfn T.F_l_course sc_l_course (by decide) fun c A outer s H E hr hG => by
    have hu := T3.u160 hr
    have hu65 := T3.u65 hr
    have tk : TakesE (cxOf (L2.CX P w) P w K mg base ["_law_table_here", "_law_point_here", "_law_found", "_law_known"] "_law_course" (defScope s_l_course) T.a_l_course c A outer s H E) (fun _ => E) := takes_of rfl rfl rfl rfl
    exact (jb_cons (js_par (i := 2) (j := 3) rfl sc_l_course.nd rfl rfl (by decide) rfl rfl (ja_cons (jp_list ja_nil) (ja_cons jp_dict0T ja_nil)) rfl)
    (jb_cons (js_while 3000 (passes_of rfl) (jt_ninT hu65 (jp_s 1) (jp_s 3)) (jb_cons (js_storeT hu65 3 (jp_len rfl T.f_len (ja_cons (jp_s 2) ja_nil)) (jp_s 1))
    (jb_cons (js_expr (jp_append 2 (ja_cons (jp_s 1) ja_nil)))
    (jb_one (js_set (i := 1) (jp_call (ms := []) (fn := m_l_straight) (dflt := []) ((ok_l_straight T).mono (by decide)) hr hG rfl T.g_l_straight T.F_l_straight.kp T.b_l_straight.choose_spec.2 T.b_l_straight.choose_spec.1 (fun _ => .nil) rfl (al_cons (al_cons al_nil)) (TakesE.at tk) (ja_cons (jp_s 0) (ja_cons (jp_s 1) ja_nil))) sc_l_course.nd rfl (by first | exact Or.inl rfl | exact Or.inr rfl))))))
    (jb_one (js_ret (jp_tup (ja_cons (jp_s 2) (ja_cons (jp_getT hu65 (fun _ _ => rfl) (jp_s 3) (jp_s 1)) ja_nil)))))))
theorem sc_need_moves : FnScope ["moves"] ["moves"] (defScope s_need_moves) := ⟨rfl, rfl, rfl, by decide +kernel, rfl, by decide +kernel, by decide +kernel⟩
theorem ok_need_moves (T : Txt K mg) : FnG P w K mg base 4 T.a_need_moves T.d_need_moves ["moves"] (spFn K mg [] 1 m_need_moves) :=
  jfn T.F_need_moves sc_need_moves (by decide) fun c A outer s H E hr hG => by
    have hu := T3.u160 hr
    have hu65 := T3.u65 hr
    have tk : TakesE (cxOf (L2.CX P w) P w K mg base ["moves"] "need_moves" (defScope s_need_moves) T.a_need_moves c A outer s H E) (fun _ => E) := takes_of rfl rfl rfl rfl
    exact (jb_one (js_if (jt_not (jt_val (jp_call (ms := []) (fn := m_is_table) (dflt := []) ((ok_is_table T).mono (by decide)) hr hG rfl T.g_is_table T.F_is_table.kp T.b_is_table.choose_spec.2 T.b_is_table.choose_spec.1 (fun _ => .nil) rfl (al_cons al_nil) (TakesE.at tk) (ja_cons (jp_s 0) ja_nil)))) (jb_one (js_raise rfl tk xVE T.x_InvalidMoves.1 T.gx_InvalidMoves T.x_InvalidMoves.2.1 (raises_own T.x_InvalidMoves.2.2.1 T.x_InvalidMoves.2.2.2) rfl)) jb_nil))
theorem sc_course_of : FnScope ["moves", "point", "found", "seen"] ["moves", "point"] (defScope s_course_of) := ⟨rfl, rfl, rfl, by decide +kernel, rfl, by decide +kernel, by decide +kernel⟩
theorem ok_course_of (T : Txt K mg) : FnG P w K mg base 4 T.a_course_of T.d_course_of ["moves", "point"] (spFn K mg [] 2 m_course_of) :=
  jfn T.F_course_of sc_course_of (by decide) fun c A outer s H E hr hG => by
    have hu := T3.u160 hr
    have hu65 := T3.u65 hr
    have tk : TakesE (cxOf (L2.CX P w) P w K mg base ["moves", "point", "found", "seen"] "course_of" (defScope s_course_of) T.a_course_of c A outer s H E) (fun _ => E) := takes_of rfl rfl rfl rfl
    exact (jb_cons (js_par (i := 2) (j := 3) rfl sc_course_of.nd rfl rfl (by decide) rfl rfl (ja_cons (jp_list ja_nil) (ja_cons jp_dict0T ja_nil)) rfl)
    (jb_cons (js_while 3000 (passes_of rfl) (jt_ninT hu65 (jp_s 1) (jp_s 3)) (jb_cons (js_storeT hu65 3 (jp_len rfl T.f_len (ja_cons (jp_s 2) ja_nil)) (jp_s 1))
    (jb_cons (js_expr (jp_append 2 (ja_cons (jp_s 1) ja_nil)))
    (jb_one (js_set (i := 1) (jp_call (ms := []) (fn := m_straight) (dflt := []) ((ok_straight T).mono (by decide)) hr hG rfl T.g_straight T.F_straight.kp T.b_straight.choose_spec.2 T.b_straight.choose_spec.1 (fun _ => .nil) rfl (al_cons (al_cons al_nil)) (TakesE.at tk) (ja_cons (jp_s 0) (ja_cons (jp_s 1) ja_nil))) sc_course_of.nd rfl (by first | exact Or.inl rfl | exact Or.inr rfl))))))
    (jb_one (js_ret (jp_tup (ja_cons (jp_s 2) (ja_cons (jp_getT hu65 (fun _ _ => rfl) (jp_s 3) (jp_s 1)) ja_nil)))))))
theorem sc_l_table : FnScope ["_law_tap_here", "_law_count", "_law_kind", "_law_some", "_law_found", "_law_turn_here", "_law_place"] ["_law_tap_here", "_law_count"] (defScope s_l_table) := ⟨rfl, rfl, rfl, by decide +kernel, rfl, by decide +kernel, by decide +kernel⟩
theorem ok_l_table (T : Txt K mg) : FnG P w K mg base 4 T.a_l_table T.d_l_table ["_law_tap_here", "_law_count"] (spFn K mg [0] 2 m_l_table) :=
  jfn T.F_l_table sc_l_table (by decide) fun c A outer s H E hr hG => by
    have hu := T3.u160 hr
    have hu65 := T3.u65 hr
    have tk : TakesE (cxOf (L2.CX P w) P w K mg base ["_law_tap_here", "_law_count", "_law_kind", "_law_some", "_law_found", "_law_turn_here", "_law_place"] "_law_table" (defScope s_l_table) T.a_l_table c A outer s H E) (fun _ => E) := takes_of rfl rfl rfl rfl
    exact (jb_cons (js_set (i := 2) (jp_call (ms := [0]) (fn := m_l_draw) (dflt := []) ((ok_l_draw T).mono (by decide)) hr hG rfl T.g_l_draw T.F_l_draw.kp T.b_l_draw.choose_spec.2 T.b_l_draw.choose_spec.1 (fun _ => .nil) rfl (al_cons (al_cons al_nil)) (TakesE.at tk) (ja_cons (jp_s 0) (ja_cons jp_int ja_nil))) sc_l_table.nd rfl (by first | exact Or.inl rfl | exact Or.inr rfl))
    (jb_cons (js_if (jt_eq hu65 (jp_s 2) jp_int) (jb_one (js_ret (jp_call (ms := [0]) (fn := m_l_turn) (dflt := []) ((ok_l_turn T).mono (by decide)) hr hG rfl T.g_l_turn T.F_l_turn.kp T.b_l_turn.choose_spec.2 T.b_l_turn.choose_spec.1 (fun _ => .nil) rfl (al_cons (al_cons al_nil)) (TakesE.at tk) (ja_cons (jp_s 0) (ja_cons (jp_s 1) ja_nil))))) jb_nil)
    (jb_cons (js_if (jt_eq hu65 (jp_s 2) jp_int) (jb_one (js_ret (jp_call (ms := [0]) (fn := m_l_mixed) (dflt := []) ((ok_l_mixed T).mono (by decide)) hr hG rfl T.g_l_mixed T.F_l_mixed.kp T.b_l_mixed.choose_spec.2 T.b_l_mixed.choose_spec.1 (fun _ => .nil) rfl (al_cons (al_cons al_nil)) (TakesE.at tk) (ja_cons (jp_s 0) (ja_cons (jp_s 1) ja_nil))))) jb_nil)
    (jb_cons (js_if (jt_eq hu65 (jp_s 2) jp_int) (jb_cons (js_set (i := 3) (jp_lc (own := [("_law_turn_here", 5)]) rfl sc_l_table.nd (ji_range1 rfl T.f_range (ja_cons jp_int ja_nil)) (blkOk_by (N := N_l_table) (sc := defScope s_l_table) (by decide +kernel)) (fun _ _ _ _ _ => (jg_name sc_l_table.nd rfl (by first | exact Or.inl rfl | exact Or.inr rfl) (by decide))) (fun _ _ _ _ _ => jts_nil) (fun _ _ _ _ _ => (jp_call (ms := [0]) (fn := m_l_draw) (dflt := []) ((ok_l_draw T).mono (by decide)) hr hG rfl T.g_l_draw T.F_l_draw.kp T.b_l_draw.choose_spec.2 T.b_l_draw.choose_spec.1 (fun _ => .nil) rfl (al_cons (al_cons al_nil)) (TakesE.at takesEF) (ja_cons (jp_s 0) (ja_cons (jp_s 1) ja_nil))))) sc_l_table.nd rfl (by first | exact Or.inl rfl | exact Or.inr rfl))
    (jb_one (js_ret (jp_lc (own := [("_law_place", 6)]) rfl sc_l_table.nd (ji_range1 rfl T.f_range (ja_cons (jp_s 1) ja_nil)) (blkOk_by (N := N_l_table) (sc := defScope s_l_table) (by decide +kernel)) (fun _ _ _ _ _ => (jg_name sc_l_table.nd rfl (by first | exact Or.inl rfl | exact Or.inr rfl) (by decide))) (fun _ _ _ _ _ => jts_nil) (fun _ _ _ _ _ => (jp_ix (fun _ _ => rfl) (jp_s 3) (jp_call (ms := [0]) (fn := m_l_draw) (dflt := []) ((ok_l_draw T).mono (by decide)) hr hG rfl T.g_l_draw T.F_l_draw.kp T.b_l_draw.choose_spec.2 T.b_l_draw.choose_spec.1 (fun _ => .nil) rfl (al_cons (al_cons al_nil)) (TakesE.at takesEF) (ja_cons (jp_s 0) (ja_cons jp_int ja_nil))))))))) jb_nil)
    (jb_cons (js_if (jt_eq hu65 (jp_s 2) jp_int) (jb_one (js_ret (jp_lc (own := [("_law_place", 6)]) rfl sc_l_table.nd (ji_range1 rfl T.f_range (ja_cons (jp_s 1) ja_nil)) (blkOk_by (N := N_l_table) (sc := defScope s_l_table) (by decide +kernel)) (fun _ _ _ _ _ => (jg_name sc_l_table.nd rfl (by first | exact Or.inl rfl | exact Or.inr rfl) (by decide))) (fun _ _ _ _ _ => jts_nil) (fun _ _ _ _ _ => (jp_min2 rfl rfl T.f_min (ja_cons (jp_subt (jp_s 1) jp_int) (ja_cons (jp_max2 rfl rfl T.f_max (ja_cons jp_int (ja_cons (jp_subt (jp_add (jp_s 6) (jp_call (ms := [0]) (fn := m_l_draw) (dflt := []) ((ok_l_draw T).mono (by decide)) hr hG rfl T.g_l_draw T.F_l_draw.kp T.b_l_draw.choose_spec.2 T.b_l_draw.choose_spec.1 (fun _ => .nil) rfl (al_cons (al_cons al_nil)) (TakesE.at takesEF) (ja_cons (jp_s 0) (ja_cons jp_int ja_nil)))) jp_int) ja_nil))) ja_nil))))))) jb_nil)
    (jb_cons (js_if (jt_eq hu65 (jp_s 2) jp_int) (jb_cons (js_set (i := 4) (jp_menu (fun _ _ => rfl) (ja_cons (jp_listRg1 rfl rfl T.f_list rfl T.f_range (jp_s 1)) (ja_cons (jp_rev (jp_listRg1 rfl rfl T.f_list rfl T.f_range (jp_s 1))) ja_nil)) (jp_call (ms := [0]) (fn := m_l_draw) (dflt := []) ((ok_l_draw T).mono (by decide)) hr hG rfl T.g_l_draw T.F_l_draw.kp T.b_l_draw.choose_spec.2 T.b_l_draw.choose_spec.1 (fun _ => .nil) rfl (al_cons (al_cons al_nil)) (TakesE.at tk) (ja_cons (jp_s 0) (ja_cons jp_int ja_nil)))) sc_l_table.nd rfl (by first | exact Or.inl rfl | exact Or.inr rfl))
    (jb_cons (js_for (vs := [5]) (passes_of rfl) rfl (ji_range1 rfl T.f_range (ja_cons (jp_call (ms := [0]) (fn := m_l_draw) (dflt := []) ((ok_l_draw T).mono (by decide)) hr hG rfl T.g_l_draw T.F_l_draw.kp T.b_l_draw.choose_spec.2 T.b_l_draw.choose_spec.1 (fun _ => .nil) rfl (al_cons (al_cons al_nil)) (TakesE.at tk) (ja_cons (jp_s 0) (ja_cons jp_int ja_nil))) ja_nil)) (jg_name sc_l_table.nd rfl (by first | exact Or.inl rfl | exact Or.inr rfl) (by decide)) (jb_one (js_store 4 (jp_call (ms := [0]) (fn := m_l_draw) (dflt := []) ((ok_l_draw T).mono (by decide)) hr hG rfl T.g_l_draw T.F_l_draw.kp T.b_l_draw.choose_spec.2 T.b_l_draw.choose_spec.1 (fun _ => .nil) rfl (al_cons (al_cons al_nil)) (TakesE.at tk) (ja_cons (jp_s 0) (ja_cons (jp_s 1) ja_nil))) (jp_call (ms := [0]) (fn := m_l_draw) (dflt := []) ((ok_l_draw T).mono (by decide)) hr hG rfl T.g_l_draw T.F_l_draw.kp T.b_l_draw.choose_spec.2 T.b_l_draw.choose_spec.1 (fun _ => .nil) rfl (al_cons (al_cons al_nil)) (TakesE.at tk) (ja_cons (jp_s 0) (ja_cons (jp_s 1) ja_nil))))))
    (jb_one (js_ret (jp_s 4))))) jb_nil)
    (jb_one (js_ret (jp_lc (own := [("_law_place", 6)]) rfl sc_l_table.nd (ji_range1 rfl T.f_range (ja_cons (jp_s 1) ja_nil)) (blkOk_by (N := N_l_table) (sc := defScope s_l_table) (by decide +kernel)) (fun _ _ _ _ _ => (jg_name sc_l_table.nd rfl (by first | exact Or.inl rfl | exact Or.inr rfl) (by decide))) (fun _ _ _ _ _ => jts_nil) (fun _ _ _ _ _ => (jp_call (ms := [0]) (fn := m_l_draw) (dflt := []) ((ok_l_draw T).mono (by decide)) hr hG rfl T.g_l_draw T.F_l_draw.kp T.b_l_draw.choose_spec.2 T.b_l_draw.choose_spec.1 (fun _ => .nil) rfl (al_cons (al_cons al_nil)) (TakesE.at takesEF) (ja_cons (jp_s 0) (ja_cons (jp_s 1) ja_nil)))))))))))))
theorem sc_moved : FnScope ["moves", "point"] ["moves", "point"] (defScope s_moved) := ⟨rfl, rfl, rfl, by decide +kernel, rfl, by decide +kernel, by decide +kernel⟩
theorem ok_moved (T : Txt K mg) : FnG P w K mg base 5 T.a_moved T.d_moved ["moves", "point"] (spFn K mg [] 2 m_moved) :=
  jfn T.F_moved sc_moved (by decide) fun c A outer s H E hr hG => by
    have hu := T3.u160 hr
    have hu65 := T3.u65 hr
    have tk : TakesE (cxOf (L2.CX P w) P w K mg base ["moves", "point"] "moved" (defScope s_moved) T.a_moved c A outer s H E) (fun _ => E) := takes_of rfl rfl rfl rfl
    exact (jb_cons (js_expr (jp_call (ms := []) (fn := m_need_moves) (dflt := []) ((ok_need_moves T).mono (by decide)) hr hG rfl T.g_need_moves T.F_need_moves.kp T.b_need_moves.choose_spec.2 T.b_need_moves.choose_spec.1 (fun _ => .nil) rfl (al_cons al_nil) (TakesE.at tk) (ja_cons (jp_s 0) ja_nil)))
    (jb_cons (js_expr (jp_call (ms := []) (fn := m_need_point) (dflt := []) ((ok_need_point T).mono (by decide)) hr hG rfl T.g_need_point T.F_need_point.kp T.b_need_point.choose_spec.2 T.b_need_point.choose_spec.1 (fun _ => .nil) rfl (al_cons al_nil) (TakesE.at tk) (ja_cons (jp_s 1) ja_nil)))
    (jb_one (js_ret (jp_call (ms := []) (fn := m_straight) (dflt := []) ((ok_straight T).mono (by decide)) hr hG rfl T.g_straight T.F_straight.kp T.b_straight.choose_spec.2 T.b_straight.choose_spec.1 (fun _ => .nil) rfl (al_cons (al_cons al_nil)) (TakesE.at tk) (ja_cons (jp_s 0) (ja_cons (jp_s 1) ja_nil)))))))
theorem sc_moved_far : FnScope ["moves", "point", "ticks", "points", "begin"] ["moves", "point", "ticks"] (defScope s_moved_far) := ⟨rfl, rfl, rfl, by decide +kernel, rfl, by decide +kernel, by decide +kernel⟩
theorem ok_moved_far (T : Txt K mg) : FnG P w K mg base 5 T.a_moved_far T.d_moved_far ["moves", "point", "ticks"] (spFn K mg [] 3 m_moved_far) :=
  jfn T.F_moved_far sc_moved_far (by decide) fun c A outer s H E hr hG => by
    have hu := T3.u160 hr
    have hu65 := T3.u65 hr
    have tk : TakesE (cxOf (L2.CX P w) P w K mg base ["moves", "point", "ticks", "points", "begin"] "moved_far" (defScope s_moved_far) T.a_moved_far c A outer s H E) (fun _ => E) := takes_of rfl rfl rfl rfl
    exact (jb_cons (js_expr (jp_call (ms := []) (fn := m_need_moves) (dflt := []) ((ok_need_moves T).mono (by decide)) hr hG rfl T.g_need_moves T.F_need_moves.kp T.b_need_moves.choose_spec.2 T.b_need_moves.choose_spec.1 (fun _ => .nil) rfl (al_cons al_nil) (TakesE.at tk) (ja_cons (jp_s 0) ja_nil)))
    (jb_cons (js_expr (jp_call (ms := []) (fn := m_need_point) (dflt := []) ((ok_need_point T).mono (by decide)) hr hG rfl T.g_need_point T.F_need_point.kp T.b_need_point.choose_spec.2 T.b_need_point.choose_spec.1 (fun _ => .nil) rfl (al_cons al_nil) (TakesE.at tk) (ja_cons (jp_s 1) ja_nil)))
    (jb_cons (js_expr (jp_call (ms := []) (fn := m_need_ticks) (dflt := []) ((ok_need_ticks T).mono (by decide)) hr hG rfl T.g_need_ticks T.F_need_ticks.kp T.b_need_ticks.choose_spec.2 T.b_need_ticks.choose_spec.1 (fun _ => .nil) rfl (al_cons (al_cons (al_cons al_nil))) (TakesE.at tk) (ja_cons (jp_s 2) (ja_cons jp_int (ja_cons (jp_gint rfl T.c_MOST_TICKS.choose_spec ⟨_, rfl⟩) ja_nil)))))
    (jb_cons (js_des (vs := [3, 4]) (jp_call (ms := []) (fn := m_course_of) (dflt := []) ((ok_course_of T).mono (by decide)) hr hG rfl T.g_course_of T.F_course_of.kp T.b_course_of.choose_spec.2 T.b_course_of.choose_spec.1 (fun _ => .nil) rfl (al_cons (al_cons al_nil)) (TakesE.at tk) (ja_cons (jp_s 0) (ja_cons (jp_call (ms := []) (fn := m_lowest_terms) (dflt := []) ((ok_lowest_terms T).mono (by decide)) hr hG rfl T.g_lowest_terms T.F_lowest_terms.kp T.b_lowest_terms.choose_spec.2 T.b_lowest_terms.choose_spec.1 (fun _ => .nil) rfl (al_cons (al_cons al_nil)) (TakesE.at tk) (ja_cons (jp_ix (fun _ _ => rfl) (jp_s 1) jp_int) (ja_cons (jp_ix (fun _ _ => rfl) (jp_s 1) jp_int) ja_nil))) ja_nil))) (jg_tup rfl (jgs_cons (jg_name sc_moved_far.nd rfl (by first | exact Or.inl rfl | exact Or.inr rfl) (by decide)) (jgs_cons (jg_name sc_moved_far.nd rfl (by first | exact Or.inl rfl | exact Or.inr rfl) (by decide)) jgs_nil))))
    (jb_cons (js_if (jt_lt (jp_s 2) (jp_len rfl T.f_len (ja_cons (jp_s 3) ja_nil))) (jb_one (js_ret (jp_ix (fun _ _ => rfl) (jp_s 3) (jp_s 2)))) jb_nil)
    (jb_one (js_ret (jp_ix (fun _ _ => rfl) (jp_s 3) (jp_add (jp_s 4) (jp_mod (jp_subt (jp_s 2) (jp_s 4)) (jp_subt (jp_len rfl T.f_len (ja_cons (jp_s 3) ja_nil)) (jp_s 4))))))))))))
theorem sc_ring_at_end : FnScope ["moves", "point", "points", "begin", "ring", "at", "index", "top", "bottom"] ["moves", "point"] (defScope s_ring_at_end) := ⟨rfl, rfl, rfl, by decide +kernel, rfl, by decide +kernel, by decide +kernel⟩
theorem ok_ring_at_end (T : Txt K mg) : FnG P w K mg base 5 T.a_ring_at_end T.d_ring_at_end ["moves", "point"] (spFn K mg [] 2 m_ring_at_end) :=
  jfn T.F_ring_at_end sc_ring_at_end (by decide) fun c A outer s H E hr hG => by
    have hu := T3.u160 hr
    have hu65 := T3.u65 hr
    have tk : TakesE (cxOf (L2.CX P w) P w K mg base ["moves", "point", "points", "begin", "ring", "at", "index", "top", "bottom"] "ring_at_end" (defScope s_ring_at_end) T.a_ring_at_end c A outer s H E) (fun _ => E) := takes_of rfl rfl rfl rfl
    exact (jb_cons (js_expr (jp_call (ms := []) (fn := m_need_moves) (dflt := []) ((ok_need_moves T).mono (by decide)) hr hG rfl T.g_need_moves T.F_need_moves.kp T.b_need_moves.choose_spec.2 T.b_need_moves.choose_spec.1 (fun _ => .nil) rfl (al_cons al_nil) (TakesE.at tk) (ja_cons (jp_s 0) ja_nil)))
    (jb_cons (js_expr (jp_call (ms := []) (fn := m_need_point) (dflt := []) ((ok_need_point T).mono (by decide)) hr hG rfl T.g_need_point T.F_need_point.kp T.b_need_point.choose_spec.2 T.b_need_point.choose_spec.1 (fun _ => .nil) rfl (al_cons al_nil) (TakesE.at tk) (ja_cons (jp_s 1) ja_nil)))
    (jb_cons (js_des (vs := [2, 3]) (jp_call (ms := []) (fn := m_course_of) (dflt := []) ((ok_course_of T).mono (by decide)) hr hG rfl T.g_course_of T.F_course_of.kp T.b_course_of.choose_spec.2 T.b_course_of.choose_spec.1 (fun _ => .nil) rfl (al_cons (al_cons al_nil)) (TakesE.at tk) (ja_cons (jp_s 0) (ja_cons (jp_call (ms := []) (fn := m_lowest_terms) (dflt := []) ((ok_lowest_terms T).mono (by decide)) hr hG rfl T.g_lowest_terms T.F_lowest_terms.kp T.b_lowest_terms.choose_spec.2 T.b_lowest_terms.choose_spec.1 (fun _ => .nil) rfl (al_cons (al_cons al_nil)) (TakesE.at tk) (ja_cons (jp_ix (fun _ _ => rfl) (jp_s 1) jp_int) (ja_cons (jp_ix (fun _ _ => rfl) (jp_s 1) jp_int) ja_nil))) ja_nil))) (jg_tup rfl (jgs_cons (jg_name sc_ring_at_end.nd rfl (by first | exact Or.inl rfl | exact Or.inr rfl) (by decide)) (jgs_cons (jg_name sc_ring_at_end.nd rfl (by first | exact Or.inl rfl | exact Or.inr rfl) (by decide)) jgs_nil))))
    (jb_cons (js_par (i := 4) (j := 5) rfl sc_ring_at_end.nd rfl rfl (by decide) rfl rfl (ja_cons (jp_slice (jp_s 2) (jo_some (jp_s 3)) jo_none) (ja_cons jp_int ja_nil)) rfl)
    (jb_cons (js_for (vs := [6, 7, 8]) (passes_of rfl) rfl (ji_enum rfl T.f_enumerate (ja_cons (jp_s 4) ja_nil)) (jg_tup rfl (jgs_cons (jg_name sc_ring_at_end.nd rfl (by first | exact Or.inl rfl | exact Or.inr rfl) (by decide)) (jgs_cons (jg_tup rfl (jgs_cons (jg_name sc_ring_at_end.nd rfl (by first | exact Or.inl rfl | exact Or.inr rfl) (by decide)) (jgs_cons (jg_name sc_ring_at_end.nd rfl (by first | exact Or.inl rfl | exact Or.inr rfl) (by decide)) jgs_nil))) jgs_nil))) (jb_one (js_if (jt_lt (jp_mul (jp_s 7) (jp_ix (fun _ _ => rfl) (jp_ix (fun _ _ => rfl) (jp_s 4) (jp_s 5)) jp_int)) (jp_mul (jp_ix (fun _ _ => rfl) (jp_ix (fun _ _ => rfl) (jp_s 4) (jp_s 5)) jp_int) (jp_s 8))) (jb_one (js_set (i := 5) (jp_s 6) sc_ring_at_end.nd rfl (by first | exact Or.inl rfl | exact Or.inr rfl))) jb_nil)))
    (jb_one (js_ret (jp_add (jp_slice (jp_s 4) (jo_some (jp_s 5)) jo_none) (jp_slice (jp_s 4) jo_none (jo_some (jp_s 5)))))))))))
theorem sc_l_ring_right : FnScope ["_law_table_here", "_law_point_here", "_law_ring", "_law_least", "_law_k", "_law_found", "_law_due", "_law_given"] ["_law_table_here", "_law_point_here", "_law_ring"] (defScope s_l_ring_right) := ⟨rfl, rfl, rfl, by decide +kernel, rfl, by decide +kernel, by decide +kernel⟩
theorem ok_l_ring_right (T : Txt K mg) : FnG P w K mg base 6 T.a_l_ring_right T.d_l_ring_right ["_law_table_here", "_law_point_here", "_law_ring"] (spFn K mg [] 3 m_l_ring_right) :=
  jfn T.F_l_ring_right sc_l_ring_right (by decide) fun c A outer s H E hr hG => by
    have hu := T3.u160 hr
    have hu65 := T3.u65 hr
    have tk : TakesE (cxOf (L2.CX P w) P w K mg base ["_law_table_here", "_law_point_here", "_law_ring", "_law_least", "_law_k", "_law_found", "_law_due", "_law_given"] "_law_ring_right" (defScope s_l_ring_right) T.a_l_ring_right c A outer s H E) (fun _ => E) := takes_of rfl rfl rfl rfl
    exact (jb_cons (js_set (i := 3) jp_int sc_l_ring_right.nd rfl (by first | exact Or.inl rfl | exact Or.inr rfl))
    (jb_cons (js_for (vs := [4]) (passes_of rfl) rfl (ji_range1 rfl T.f_range (ja_cons (jp_len rfl T.f_len (ja_cons (jp_s 2) ja_nil)) ja_nil)) (jg_name sc_l_ring_right.nd rfl (by first | exact Or.inl rfl | exact Or.inr rfl) (by decide)) (jb_one (js_if (jt_lt (jp_mul (jp_ix (fun _ _ => rfl) (jp_ix (fun _ _ => rfl) (jp_s 2) (jp_s 4)) jp_int) (jp_ix (fun _ _ => rfl) (jp_ix (fun _ _ => rfl) (jp_s 2) (jp_s 3)) jp_int)) (jp_mul (jp_ix (fun _ _ => rfl) (jp_ix (fun _ _ => rfl) (jp_s 2) (jp_s 3)) jp_int) (jp_ix (fun _ _ => rfl) (jp_ix (fun _ _ => rfl) (jp_s 2) (jp_s 4)) jp_int))) (jb_one (js_set (i := 3) (jp_s 4) sc_l_ring_right.nd rfl (by first | exact Or.inl rfl | exact Or.inr rfl))) jb_nil)))
    (jb_cons (js_parC (i := 6) (j := 7) rfl sc_l_ring_right.nd rfl rfl (by first | exact Or.inl rfl | exact Or.inr rfl) (by first | exact Or.inl rfl | exact Or.inr rfl) (by first | exact .inl rfl | exact .inr rfl) (by first | exact .inl rfl | exact .inr rfl) (ja_cons (jp_add (jp_slice (jp_s 2) (jo_some (jp_s 3)) jo_none) (jp_slice (jp_s 2) jo_none (jo_some (jp_s 3)))) (ja_cons (jp_lst rfl T.f_list (ja_cons (jp_s 0) ja_nil)) ja_nil)))
    (jb_cons (js_set (i := 5) (jp_call (ms := []) (fn := m_ring_at_end) (dflt := []) ((ok_ring_at_end T).mono (by decide)) hr hG rfl T.g_ring_at_end T.F_ring_at_end.kp T.b_ring_at_end.choose_spec.2 T.b_ring_at_end.choose_spec.1 (fun _ => .nil) rfl (al_cons (al_cons al_nil)) (TakesE.at tk) (ja_cons (jp_s 7) (ja_cons (jp_s 1) ja_nil))) sc_l_ring_right.nd rfl (by first | exact Or.inl rfl | exact Or.inr rfl))
    (jb_cons (js_if (jt_w (jw_or (jt_ne hu65 (jp_repr hG hu rfl T.f_repr (ja_cons (jp_s 5) ja_nil)) (jp_repr hG hu rfl T.f_repr (ja_cons (jp_s 6) ja_nil))) (jw_or1 (jt_ne hu65 (jp_s 7) (jp_s 0))))) (jb_one (js_ret jp_bl)) jb_nil)
    (jb_cons (js_expr (jp_append 5 (ja_cons jp_int ja_nil)))
    (jb_cons (js_if (jt_w (jw_or (jt_ne hu65 (jp_call (ms := []) (fn := m_ring_at_end) (dflt := []) ((ok_ring_at_end T).mono (by decide)) hr hG rfl T.g_ring_at_end T.F_ring_at_end.kp T.b_ring_at_end.choose_spec.2 T.b_ring_at_end.choose_spec.1 (fun _ => .nil) rfl (al_cons (al_cons al_nil)) (TakesE.at tk) (ja_cons (jp_s 7) (ja_cons (jp_s 1) ja_nil))) (jp_s 6)) (jw_or1 (jt_ne hu65 (jp_call (ms := []) (fn := m_ring_at_end) (dflt := []) ((ok_ring_at_end T).mono (by decide)) hr hG rfl T.g_ring_at_end T.F_ring_at_end.kp T.b_ring_at_end.choose_spec.2 T.b_ring_at_end.choose_spec.1 (fun _ => .nil) rfl (al_cons (al_cons al_nil)) (TakesE.at tk) (ja_cons (jp_s 7) (ja_cons (jp_call (ms := []) (fn := m_moved) (dflt := []) ((ok_moved T).mono (by decide)) hr hG rfl T.g_moved T.F_moved.kp T.b_moved.choose_spec.2 T.b_moved.choose_spec.1 (fun _ => .nil) rfl (al_cons (al_cons al_nil)) (TakesE.at tk) (ja_cons (jp_s 7) (ja_cons (jp_s 1) ja_nil))) ja_nil))) (jp_s 6))))) (jb_one (js_ret jp_bl)) jb_nil)
    (jb_one (js_ret (jp_eq hu65 (jp_lc (own := [("_law_k", 4)]) rfl sc_l_ring_right.nd (ji_range1 rfl T.f_range (ja_cons (jp_len rfl T.f_len (ja_cons (jp_s 6) ja_nil)) ja_nil)) (blkOk_by (N := N_l_ring_right) (sc := defScope s_l_ring_right) (by decide +kernel)) (fun _ _ _ _ _ => (jg_name sc_l_ring_right.nd rfl (by first | exact Or.inl rfl | exact Or.inr rfl) (by decide))) (fun _ _ _ _ _ => (jts_one (jt_ne hu65 (jp_call (ms := []) (fn := m_moved) (dflt := []) ((ok_moved T).mono (by decide)) hr hG rfl T.g_moved T.F_moved.kp T.b_moved.choose_spec.2 T.b_moved.choose_spec.1 (fun _ => .nil) rfl (al_cons (al_cons al_nil)) (TakesE.at takesEF) (ja_cons (jp_s 7) (ja_cons (jp_ix (fun _ _ => rfl) (jp_s 6) (jp_s 4)) ja_nil))) (jp_ix (fun _ _ => rfl) (jp_s 6) (jp_mod (jp_int1 rfl T.f_int (ja_cons (jp_add (jp_s 4) jp_int) ja_nil)) (jp_len rfl T.f_len (ja_cons (jp_s 6) ja_nil))))))) (fun _ _ _ _ _ => (jp_s 4))) (jp_list ja_nil)))))))))))
theorem sc_l_course_right : FnScope ["_law_tap_here", "_law_table_here", "_law_point_here", "_law_wide", "_law_ticks", "_law_course_here", "_law_begin", "_law_at", "_law_due"] ["_law_tap_here", "_law_table_here", "_law_point_here"] (defScope s_l_course_right) := ⟨rfl, rfl, rfl, by decide +kernel, rfl, by decide +kernel, by decide +kernel⟩
theorem ok_l_course_right (T : Txt K mg) : FnG P w K mg base 7 T.a_l_course_right T.d_l_course_right ["_law_tap_here", "_law_table_here", "_law_point_here"] (spFn K mg [0] 3 m_l_course_right) :=
  jfn T.F_l_course_right sc_l_course_right (by decide) fun c A outer s H E hr hG => by
    have hu := T3.u160 hr
    have hu65 := T3.u65 hr
    have tk : TakesE (cxOf (L2.CX P w) P w K mg base ["_law_tap_here", "_law_table_here", "_law_point_here", "_law_wide", "_law_ticks", "_law_course_here", "_law_begin", "_law_at", "_law_due"] "_law_course_right" (defScope s_l_course_right) T.a_l_course_right c A outer s H E) (fun _ => E) := takes_of rfl rfl rfl rfl
    exact (jb_cons (js_des (vs := [5, 6]) (jp_call (ms := []) (fn := m_l_course) (dflt := []) ((ok_l_course T).mono (by decide)) hr hG rfl T.g_l_course T.F_l_course.kp T.b_l_course.choose_spec.2 T.b_l_course.choose_spec.1 (fun _ => .nil) rfl (al_cons (al_cons al_nil)) (TakesE.at tk) (ja_cons (jp_s 1) (ja_cons (jp_call (ms := []) (fn := m_l_lowest) (dflt := []) ((ok_l_lowest T).mono (by decide)) hr hG rfl T.g_l_lowest T.F_l_lowest.kp T.b_l_lowest.choose_spec.2 T.b_l_lowest.choose_spec.1 (fun _ => .nil) rfl (al_cons (al_cons al_nil)) (TakesE.at tk) (ja_cons (jp_ix (fun _ _ => rfl) (jp_s 2) jp_int) (ja_cons (jp_ix (fun _ _ => rfl) (jp_s 2) jp_int) ja_nil))) ja_nil))) (jg_tup rfl (jgs_cons (jg_name sc_l_course_right.nd rfl (by first | exact Or.inl rfl | exact Or.inr rfl) (by decide)) (jgs_cons (jg_name sc_l_course_right.nd rfl (by first | exact Or.inl rfl | exact Or.inr rfl) (by decide)) jgs_nil))))
    (jb_cons (js_set (i := 3) (jp_subt (jp_len rfl T.f_len (ja_cons (jp_s 5) ja_nil)) (jp_s 6)) sc_l_course_right.nd rfl (by first | exact Or.inl rfl | exact Or.inr rfl))
    (jb_cons (js_for (vs := [4]) (passes_of rfl) rfl (ji_list (jp_list (ja_cons jp_int (ja_cons jp_int (ja_cons (jp_call (ms := [0]) (fn := m_l_draw) (dflt := []) ((ok_l_draw T).mono (by decide)) hr hG rfl T.g_l_draw T.F_l_draw.kp T.b_l_draw.choose_spec.2 T.b_l_draw.choose_spec.1 (fun _ => .nil) rfl (al_cons (al_cons al_nil)) (TakesE.at tk) (ja_cons (jp_s 0) (ja_cons jp_int ja_nil))) (ja_cons (jp_len rfl T.f_len (ja_cons (jp_s 5) ja_nil)) (ja_cons (jp_call (ms := [0]) (fn := m_l_draw) (dflt := []) ((ok_l_draw T).mono (by decide)) hr hG rfl T.g_l_draw T.F_l_draw.kp T.b_l_draw.choose_spec.2 T.b_l_draw.choose_spec.1 (fun _ => .nil) rfl (al_cons (al_cons al_nil)) (TakesE.at tk) (ja_cons (jp_s 0) (ja_cons (jp_pow jp_int jp_int) ja_nil))) (ja_cons (jp_pow jp_int jp_int) ja_nil)))))))) (jg_name sc_l_course_right.nd rfl (by first | exact Or.inl rfl | exact Or.inr rfl) (by decide)) (jb_cons (js_set (i := 7) (jp_if (jt_lt (jp_s 4) (jp_s 6)) (jp_s 4) (jp_add (jp_s 6) (jp_mod (jp_int1 rfl T.f_int (ja_cons (jp_subt (jp_s 4) (jp_s 6)) ja_nil)) (jp_s 3)))) sc_l_course_right.nd rfl (by first | exact Or.inl rfl | exact Or.inr rfl))
    (jb_cons (js_set (i := 8) (jp_ix (fun _ _ => rfl) (jp_s 5) (jp_s 7)) sc_l_course_right.nd rfl (by first | exact Or.inl rfl | exact Or.inr rfl))
    (jb_one (js_if (jt_ne hu65 (jp_repr hG hu rfl T.f_repr (ja_cons (jp_call (ms := []) (fn := m_moved_far) (dflt := []) ((ok_moved_far T).mono (by decide)) hr hG rfl T.g_moved_far T.F_moved_far.kp T.b_moved_far.choose_spec.2 T.b_moved_far.choose_spec.1 (fun _ => .nil) rfl (al_cons (al_cons (al_cons al_nil))) (TakesE.at tk) (ja_cons (jp_s 1) (ja_cons (jp_s 2) (ja_cons (jp_s 4) ja_nil)))) ja_nil)) (jp_repr hG hu rfl T.f_repr (ja_cons (jp_s 8) ja_nil))) (jb_one (js_ret jp_bl)) jb_nil)))))
    (jb_one (js_ret (jp_call (ms := []) (fn := m_l_ring_right) (dflt := []) ((ok_l_ring_right T).mono (by decide)) hr hG rfl T.g_l_ring_right T.F_l_ring_right.kp T.b_l_ring_right.choose_spec.2 T.b_l_ring_right.choose_spec.1 (fun _ => .nil) rfl (al_cons (al_cons (al_cons al_nil))) (TakesE.at tk) (ja_cons (jp_s 1) (ja_cons (jp_s 2) (ja_cons (jp_slice (jp_s 5) (jo_some (jp_s 6)) jo_none) ja_nil)))))))))
theorem sc_l_right : FnScope ["_law_tap_here", "_law_most", "_law_count", "_law_table_here", "_law_turn_here", "_law_some"] ["_law_tap_here", "_law_most"] (defScope s_l_right) := ⟨rfl, rfl, rfl, by decide +kernel, rfl, by decide +kernel, by decide +kernel⟩
theorem ok_l_right (T : Txt K mg) : FnG P w K mg base 8 T.a_l_right T.d_l_right ["_law_tap_here", "_law_most"] (spFn K mg [0] 2 m_l_right_k09) :=
  jfn T.F_l_right sc_l_right (by decide) fun c A outer s H E hr hG => by
    have hu := T3.u160 hr
    have hu65 := T3.u65 hr
    have tk : TakesE (cxOf (L2.CX P w) P w K mg base ["_law_tap_here", "_law_most", "_law_count", "_law_table_here", "_law_turn_here", "_law_some"] "_law_right" (defScope s_l_right) T.a_l_right c A outer s H E) (fun _ => E) := takes_of rfl rfl rfl rfl
    exact (jb_cons (js_set (i := 2) (jp_add jp_int (jp_call (ms := [0]) (fn := m_l_draw) (dflt := []) ((ok_l_draw T).mono (by decide)) hr hG rfl T.g_l_draw T.F_l_draw.kp T.b_l_draw.choose_spec.2 T.b_l_draw.choose_spec.1 (fun _ => .nil) rfl (al_cons (al_cons al_nil)) (TakesE.at tk) (ja_cons (jp_s 0) (ja_cons jp_int ja_nil)))) sc_l_right.nd rfl (by first | exact Or.inl rfl | exact Or.inr rfl))
    (jb_cons (js_set (i := 3) (jp_call (ms := [0]) (fn := m_l_table) (dflt := []) ((ok_l_table T).mono (by decide)) hr hG rfl T.g_l_table T.F_l_table.kp T.b_l_table.choose_spec.2 T.b_l_table.choose_spec.1 (fun _ => .nil) rfl (al_cons (al_cons al_nil)) (TakesE.at tk) (ja_cons (jp_s 0) (ja_cons (jp_s 2) ja_nil))) sc_l_right.nd rfl (by first | exact Or.inl rfl | exact Or.inr rfl))
    (jb_cons (js_for (vs := [4]) (passes_of rfl) rfl (ji_range1 rfl T.f_range (ja_cons jp_int ja_nil)) (jg_name sc_l_right.nd rfl (by first | exact Or.inl rfl | exact Or.inr rfl) (by decide)) (jb_one (js_if (jt_not (jt_val (jp_call (ms := [0]) (fn := m_l_course_right) (dflt := []) ((ok_l_course_right T).mono (by decide)) hr hG rfl T.g_l_course_right T.F_l_course_right.kp T.b_l_course_right.choose_spec.2 T.b_l_course_right.choose_spec.1 (fun _ => .nil) rfl (al_cons (al_cons (al_cons al_nil))) (TakesE.at tk) (ja_cons (jp_s 0) (ja_cons (jp_s 3) (ja_cons (jp_call (ms := [0]) (fn := m_l_point_k09) (dflt := []) ((ok_l_point T).mono (by decide)) hr hG rfl T.g_l_point T.F_l_point.kp T.b_l_point.choose_spec.2 T.b_l_point.choose_spec.1 (fun _ => .nil) rfl (al_cons (al_cons (al_cons al_nil))) (TakesE.at tk) (ja_cons (jp_s 0) (ja_cons (jp_s 2) (ja_cons (jp_s 1) ja_nil)))) ja_nil)))))) (jb_one (js_ret jp_bl)) jb_nil)))
    (jb_cons (js_set (i := 5) (jp_if (jt_gt (jp_s 1) jp_int) (jp_list (ja_cons jp_int (ja_cons jp_int (ja_cons jp_int ja_nil)))) (jp_list (ja_cons jp_int (ja_cons jp_int (ja_cons jp_int ja_nil))))) sc_l_right.nd rfl (by first | exact Or.inl rfl | exact Or.inr rfl))
    (jb_one (js_ret (jp_call (ms := [0]) (fn := m_l_course_right) (dflt := []) ((ok_l_course_right T).mono (by decide)) hr hG rfl T.g_l_course_right T.F_l_course_right.kp T.b_l_course_right.choose_spec.2 T.b_l_course_right.choose_spec.1 (fun _ => .nil) rfl (al_cons (al_cons (al_cons al_nil))) (TakesE.at tk) (ja_cons (jp_s 0) (ja_cons (jp_mul (jp_list (ja_cons jp_int (ja_cons jp_int ja_nil))) jp_int) (ja_cons (jp_tup (ja_cons (jp_call (ms := [0]) (fn := m_l_draw) (dflt := []) ((ok_l_draw T).mono (by decide)) hr hG rfl T.g_l_draw T.F_l_draw.kp T.b_l_draw.choose_spec.2 T.b_l_draw.choose_spec.1 (fun _ => .nil) rfl (al_cons (al_cons al_nil)) (TakesE.at tk) (ja_cons (jp_s 0) (ja_cons (jp_mul jp_int (jp_ix (fun _ _ => rfl) (jp_s 5) jp_int)) ja_nil))) (ja_cons (jp_ix (fun _ _ => rfl) (jp_s 5) (jp_call (ms := [0]) (fn := m_l_draw) (dflt := []) ((ok_l_draw T).mono (by decide)) hr hG rfl T.g_l_draw T.F_l_draw.kp T.b_l_draw.choose_spec.2 T.b_l_draw.choose_spec.1 (fun _ => .nil) rfl (al_cons (al_cons al_nil)) (TakesE.at tk) (ja_cons (jp_s 0) (ja_cons jp_int ja_nil)))) ja_nil))) ja_nil))))))))))
theorem sc_law : FnScope ["_law_script", "_law_cells_here", "_law_told", "_law_k"] ["_law_script"] (defScope s_law) := ⟨rfl, rfl, rfl, by decide +kernel, rfl, by decide +kernel, by decide +kernel⟩
theorem ok_law (T : Txt K mg) : FnG P w K mg base 9 T.a_law T.d_law ["_law_script"] (spFn K mg [] 1 m_law_k09) :=
  jfn T.F_law sc_law (by decide) fun c A outer s H E hr hG => by
    have hu := T3.u160 hr
    have hu65 := T3.u65 hr
    have tk : TakesE (cxOf (L2.CX P w) P w K mg base ["_law_script", "_law_cells_here", "_law_told", "_law_k"] "law" (defScope s_law) T.a_law c A outer s H E) (fun _ => E) := takes_of rfl rfl rfl rfl
    exact (jb_cons (js_set (i := 1) (jp_call (ms := []) (fn := m_l_cells) (dflt := []) ((ok_l_cells T).mono (by decide)) hr hG rfl T.g_l_cells T.F_l_cells.kp T.b_l_cells.choose_spec.2 T.b_l_cells.choose_spec.1 (fun _ => .nil) rfl (al_cons (al_cons al_nil)) (TakesE.at tk) (ja_cons (jp_s 0) (ja_cons jp_int ja_nil))) sc_law.nd rfl (by first | exact Or.inl rfl | exact Or.inr rfl))
    (jb_cons (js_if (jt_ne hu65 (jp_lc (own := [("_law_k", 3)]) rfl sc_law.nd (ji_range1 rfl T.f_range (ja_cons (jp_len rfl T.f_len (ja_cons (jp_s 1) ja_nil)) ja_nil)) (blkOk_by (N := N_law) (sc := defScope s_law) (by decide +kernel)) (fun _ _ _ _ _ => (jg_name sc_law.nd rfl (by first | exact Or.inl rfl | exact Or.inr rfl) (by decide))) (fun _ _ _ _ _ => (jts_one (jt_not (jt_val (jp_callX (ms := [0]) (fn := m_l_right_k09) (dflt := []) ((ok_l_right T).mono (by decide)) hr hG rfl T.g_l_right T.F_l_right.kp T.b_l_right.choose_spec.2 T.b_l_right.choose_spec.1 (fun _ => .nil) rfl (al_cons (al_cons al_nil)) (TakesE.at takesEF) (ja_cons (jp_call (ms := []) (fn := m_l_tap) (dflt := []) ((ok_l_tap T).mono (by decide)) hr hG rfl T.g_l_tap T.F_l_tap.kp T.b_l_tap.choose_spec.2 T.b_l_tap.choose_spec.1 (fun _ => .nil) rfl (al_cons (al_cons al_nil)) (TakesE.at takesEF) (ja_cons (jp_ix (fun _ _ => rfl) (jp_s 1) (jp_s 3)) (ja_cons (jp_s 3) ja_nil))) (ja_cons (jp_ix (fun _ _ => rfl) (jp_list (ja_cons jp_int (ja_cons jp_int ja_nil))) (jp_int1 rfl T.f_int (ja_cons (jp_eq hu65 (jp_s 3) jp_int) ja_nil))) ja_nil))))))) (fun _ _ _ _ _ => (jp_s 3))) (jp_list ja_nil)) (jb_one (js_ret jp_bl)) jb_nil)
    (jb_cons (js_set (i := 2) (jp_list (ja_cons (jp_call (ms := []) (fn := m_moved_far) (dflt := []) ((ok_moved_far T).mono (by decide)) hr hG rfl T.g_moved_far T.F_moved_far.kp T.b_moved_far.choose_spec.2 T.b_moved_far.choose_spec.1 (fun _ => .nil) rfl (al_cons (al_cons (al_cons al_nil))) (TakesE.at tk) (ja_cons (jp_list (ja_cons jp_int (ja_cons jp_int (ja_cons jp_int ja_nil)))) (ja_cons (jp_tup (ja_cons jp_int (ja_cons jp_int ja_nil))) (ja_cons (jp_pow jp_int jp_int) ja_nil)))) (ja_cons (jp_call (ms := []) (fn := m_ring_at_end) (dflt := []) ((ok_ring_at_end T).mono (by decide)) hr hG rfl T.g_ring_at_end T.F_ring_at_end.kp T.b_ring_at_end.choose_spec.2 T.b_ring_at_end.choose_spec.1 (fun _ => .nil) rfl (al_cons (al_cons al_nil)) (TakesE.at tk) (ja_cons (jp_list (ja_cons jp_int (ja_cons jp_int (ja_cons jp_int ja_nil)))) (ja_cons (jp_tup (ja_cons jp_int (ja_cons jp_int ja_nil))) ja_nil))) (ja_cons (jp_call (ms := []) (fn := m_moved_far) (dflt := []) ((ok_moved_far T).mono (by decide)) hr hG rfl T.g_moved_far T.F_moved_far.kp T.b_moved_far.choose_spec.2 T.b_moved_far.choose_spec.1 (fun _ => .nil) rfl (al_cons (al_cons (al_cons al_nil))) (TakesE.at tk) (ja_cons (jp_list (ja_cons jp_int (ja_cons jp_int (ja_cons jp_int ja_nil)))) (ja_cons (jp_tup (ja_cons jp_int (ja_cons jp_int ja_nil))) (ja_cons jp_int ja_nil)))) ja_nil)))) sc_law.nd rfl (by first | exact Or.inl rfl | exact Or.inr rfl))
    (jb_one (js_ret (jp_eq hu65 (jp_s 2) (jp_list (ja_cons (jp_tup (ja_cons jp_int (ja_cons jp_int ja_nil))) (ja_cons (jp_list (ja_cons (jp_tup (ja_cons jp_int (ja_cons jp_int ja_nil))) (ja_cons (jp_tup (ja_cons jp_int (ja_cons jp_int ja_nil))) (ja_cons (jp_tup (ja_cons jp_int (ja_cons jp_int ja_nil))) ja_nil)))) (ja_cons (jp_tup (ja_cons jp_int (ja_cons jp_int ja_nil))) ja_nil))))))))))
end
def dd_is_integer : He.DefD := ⟨("is_integer", none), "is_integer", "is_integer", defArgs s_is_integer, defBody s_is_integer, defScope s_is_integer, [.non, .non], []⟩
def dd_common_divisor : He.DefD := ⟨("common_divisor", none), "common_divisor", "common_divisor", defArgs s_common_divisor, defBody s_common_divisor, defScope s_common_divisor, [], []⟩
def dd_l_tap : He.DefD := ⟨("_law_tap", none), "_law_tap", "_law_tap", defArgs s_l_tap, defBody s_l_tap, defScope s_l_tap, [], []⟩
def dd_l_draw : He.DefD := ⟨("_law_draw", none), "_law_draw", "_law_draw", defArgs s_l_draw, defBody s_l_draw, defScope s_l_draw, [], []⟩
def dd_l_cells : He.DefD := ⟨("_law_cells", none), "_law_cells", "_law_cells", defArgs s_l_cells, defBody s_l_cells, defScope s_l_cells, [], []⟩
def dd_l_lowest : He.DefD := ⟨("_law_lowest", none), "_law_lowest", "_law_lowest", defArgs s_l_lowest, defBody s_l_lowest, defScope s_l_lowest, [], []⟩
def dd_are_integers : He.DefD := ⟨("are_integers", none), "are_integers", "are_integers", defArgs s_are_integers, defBody s_are_integers, defScope s_are_integers, [.non, .non], []⟩
def dd_need_ticks : He.DefD := ⟨("need_ticks", none), "need_ticks", "need_ticks", defArgs s_need_ticks, defBody s_need_ticks, defScope s_need_ticks, [], []⟩
def dd_is_point : He.DefD := ⟨("is_point", none), "is_point", "is_point", defArgs s_is_point, defBody s_is_point, defScope s_is_point, [], []⟩
def dd_lowest_terms : He.DefD := ⟨("lowest_terms", none), "lowest_terms", "lowest_terms", defArgs s_lowest_terms, defBody s_lowest_terms, defScope s_lowest_terms, [], []⟩
def dd_l_mixed : He.DefD := ⟨("_law_mixed", none), "_law_mixed", "_law_mixed", defArgs s_l_mixed, defBody s_l_mixed, defScope s_l_mixed, [], []⟩
def dd_l_straight : He.DefD := ⟨("_law_straight", none), "_law_straight", "_law_straight", defArgs s_l_straight, defBody s_l_straight, defScope s_l_straight, [], []⟩
def dd_l_point : He.DefD := ⟨("_law_point", none), "_law_point", "_law_point", defArgs s_l_point, defBody s_l_point, defScope s_l_point, [], []⟩
def dd_is_table : He.DefD := ⟨("is_table", none), "is_table", "is_table", defArgs s_is_table, defBody s_is_table, defScope s_is_table, [], []⟩
def dd_need_point : He.DefD := ⟨("need_point", none), "need_point", "need_point", defArgs s_need_point, defBody s_need_point, defScope s_need_point, [], []⟩
def dd_straight : He.DefD := ⟨("straight", none), "straight", "straight", defArgs s_straight, defBody s_straight, defScope s_straight, [], []⟩
def dd_l_turn : He.DefD := ⟨("_law_turn", none), "_law_turn", "_law_turn", defArgs s_l_turn, defBody s_l_turn, defScope s_l_turn, [], []⟩
def dd_l_course : He.DefD := ⟨("_law_course", none), "_law_course", "_law_course", defArgs s_l_course, defBody s_l_course, defScope s_l_course, [], []⟩
def dd_need_moves : He.DefD := ⟨("need_moves", none), "need_moves", "need_moves", defArgs s_need_moves, defBody s_need_moves, defScope s_need_moves, [], []⟩
def dd_course_of : He.DefD := ⟨("course_of", none), "course_of", "course_of", defArgs s_course_of, defBody s_course_of, defScope s_course_of, [], []⟩
def dd_l_table : He.DefD := ⟨("_law_table", none), "_law_table", "_law_table", defArgs s_l_table, defBody s_l_table, defScope s_l_table, [], []⟩
def dd_moved : He.DefD := ⟨("moved", none), "moved", "moved", defArgs s_moved, defBody s_moved, defScope s_moved, [], []⟩
def dd_moved_far : He.DefD := ⟨("moved_far", none), "moved_far", "moved_far", defArgs s_moved_far, defBody s_moved_far, defScope s_moved_far, [], []⟩
def dd_ring_at_end : He.DefD := ⟨("ring_at_end", none), "ring_at_end", "ring_at_end", defArgs s_ring_at_end, defBody s_ring_at_end, defScope s_ring_at_end, [], []⟩
def dd_l_ring_right : He.DefD := ⟨("_law_ring_right", none), "_law_ring_right", "_law_ring_right", defArgs s_l_ring_right, defBody s_l_ring_right, defScope s_l_ring_right, [], []⟩
def dd_l_course_right : He.DefD := ⟨("_law_course_right", none), "_law_course_right", "_law_course_right", defArgs s_l_course_right, defBody s_l_course_right, defScope s_l_course_right, [], []⟩
def dd_l_right : He.DefD := ⟨("_law_right", none), "_law_right", "_law_right", defArgs s_l_right, defBody s_l_right, defScope s_l_right, [], []⟩
def dd_law : He.DefD := ⟨("law", none), "law", "law", defArgs s_law, defBody s_law, defScope s_law, [], []⟩
def fn : List He.DefD := [dd_is_integer, dd_common_divisor, dd_l_tap, dd_l_draw, dd_l_cells, dd_l_lowest, dd_are_integers, dd_need_ticks, dd_is_point, dd_lowest_terms, dd_l_mixed, dd_l_straight, dd_l_point, dd_is_table, dd_need_point, dd_straight, dd_l_turn, dd_l_course, dd_need_moves, dd_course_of, dd_l_table, dd_moved, dd_moved_far, dd_ring_at_end, dd_l_ring_right, dd_l_course_right, dd_l_right, dd_law]
def fa : List He.Fa := ([.glo "is_integer", .glo "common_divisor", .glo "_law_tap", .glo "_law_draw", .glo "_law_cells", .glo "_law_lowest", .glo "are_integers", .glo "need_ticks", .glo "is_point", .glo "lowest_terms", .glo "_law_mixed", .glo "_law_straight", .glo "_law_point", .glo "is_table", .glo "need_point", .glo "straight", .glo "_law_turn", .glo "_law_course", .glo "need_moves", .glo "course_of", .glo "_law_table", .glo "moved", .glo "moved_far", .glo "ring_at_end", .glo "_law_ring_right", .glo "_law_course_right", .glo "_law_right", .glo "law", .free "abs", .free "all"] : List He.Fa) ++ ([.free "bool", .free "enumerate", .free "int", .free "isinstance", .free "len", .free "list", .free "max", .free "min", .free "range", .free "repr", .free "tuple", .int "MOST_PLACES" 12, .int "MOST_TICKS" 1000000000000000000000000000000, .glo "InvalidMoves", .exc "InvalidMoves", .glo "InvalidPoint", .exc "InvalidPoint", .glo "InvalidTicks", .exc "InvalidTicks"] : List He.Fa)
theorem txt {K : Fg} {h : Heap} {mg : Str → Option Value} (X : K.In h) (G : h.Ns mainGlobals mg) (c : He.SaysD fa fn K) : Nonempty (Txt K mg) := by
  obtain ⟨d0, F0⟩ := c.def_ 0 (d := dd_is_integer) rfl
  obtain ⟨d1, F1⟩ := c.def_ 1 (d := dd_common_divisor) rfl
  obtain ⟨d2, F2⟩ := c.def_ 2 (d := dd_l_tap) rfl
  obtain ⟨d3, F3⟩ := c.def_ 3 (d := dd_l_draw) rfl
  obtain ⟨d4, F4⟩ := c.def_ 4 (d := dd_l_cells) rfl
  obtain ⟨d5, F5⟩ := c.def_ 5 (d := dd_l_lowest) rfl
  obtain ⟨d6, F6⟩ := c.def_ 6 (d := dd_are_integers) rfl
  obtain ⟨d7, F7⟩ := c.def_ 7 (d := dd_need_ticks) rfl
  obtain ⟨d8, F8⟩ := c.def_ 8 (d := dd_is_point) rfl
  obtain ⟨d9, F9⟩ := c.def_ 9 (d := dd_lowest_terms) rfl
  obtain ⟨d10, F10⟩ := c.def_ 10 (d := dd_l_mixed) rfl
  obtain ⟨d11, F11⟩ := c.def_ 11 (d := dd_l_straight) rfl
  obtain ⟨d12, F12⟩ := c.def_ 12 (d := dd_l_point) rfl
  obtain ⟨d13, F13⟩ := c.def_ 13 (d := dd_is_table) rfl
  obtain ⟨d14, F14⟩ := c.def_ 14 (d := dd_need_point) rfl
  obtain ⟨d15, F15⟩ := c.def_ 15 (d := dd_straight) rfl
  obtain ⟨d16, F16⟩ := c.def_ 16 (d := dd_l_turn) rfl
  obtain ⟨d17, F17⟩ := c.def_ 17 (d := dd_l_course) rfl
  obtain ⟨d18, F18⟩ := c.def_ 18 (d := dd_need_moves) rfl
  obtain ⟨d19, F19⟩ := c.def_ 19 (d := dd_course_of) rfl
  obtain ⟨d20, F20⟩ := c.def_ 20 (d := dd_l_table) rfl
  obtain ⟨d21, F21⟩ := c.def_ 21 (d := dd_moved) rfl
  obtain ⟨d22, F22⟩ := c.def_ 22 (d := dd_moved_far) rfl
  obtain ⟨d23, F23⟩ := c.def_ 23 (d := dd_ring_at_end) rfl
  obtain ⟨d24, F24⟩ := c.def_ 24 (d := dd_l_ring_right) rfl
  obtain ⟨d25, F25⟩ := c.def_ 25 (d := dd_l_course_right) rfl
  obtain ⟨d26, F26⟩ := c.def_ 26 (d := dd_l_right) rfl
  obtain ⟨d27, F27⟩ := c.def_ 27 (d := dd_law) rfl
  exact ⟨{
    a_is_integer := _, d_is_integer := d0, F_is_integer := F0, g_is_integer := He.glo_ok X G (c.fact 0 (f := .glo "is_integer") rfl),
    a_common_divisor := _, d_common_divisor := d1, F_common_divisor := F1, g_common_divisor := He.glo_ok X G (c.fact 1 (f := .glo "common_divisor") rfl),
    a_l_tap := _, d_l_tap := d2, F_l_tap := F2, g_l_tap := He.glo_ok X G (c.fact 2 (f := .glo "_law_tap") rfl),
    a_l_draw := _, d_l_draw := d3, F_l_draw := F3, g_l_draw := He.glo_ok X G (c.fact 3 (f := .glo "_law_draw") rfl),
    a_l_cells := _, d_l_cells := d4, F_l_cells := F4, g_l_cells := He.glo_ok X G (c.fact 4 (f := .glo "_law_cells") rfl),
    a_l_lowest := _, d_l_lowest := d5, F_l_lowest := F5, g_l_lowest := He.glo_ok X G (c.fact 5 (f := .glo "_law_lowest") rfl),
    a_are_integers := _, d_are_integers := d6, F_are_integers := F6, g_are_integers := He.glo_ok X G (c.fact 6 (f := .glo "are_integers") rfl),
    a_need_ticks := _, d_need_ticks := d7, F_need_ticks := F7, g_need_ticks := He.glo_ok X G (c.fact 7 (f := .glo "need_ticks") rfl),
    a_is_point := _, d_is_point := d8, F_is_point := F8, g_is_point := He.glo_ok X G (c.fact 8 (f := .glo "is_point") rfl),
    a_lowest_terms := _, d_lowest_terms := d9, F_lowest_terms := F9, g_lowest_terms := He.glo_ok X G (c.fact 9 (f := .glo "lowest_terms") rfl),
    a_l_mixed := _, d_l_mixed := d10, F_l_mixed := F10, g_l_mixed := He.glo_ok X G (c.fact 10 (f := .glo "_law_mixed") rfl),
    a_l_straight := _, d_l_straight := d11, F_l_straight := F11, g_l_straight := He.glo_ok X G (c.fact 11 (f := .glo "_law_straight") rfl),
    a_l_point := _, d_l_point := d12, F_l_point := F12, g_l_point := He.glo_ok X G (c.fact 12 (f := .glo "_law_point") rfl),
    a_is_table := _, d_is_table := d13, F_is_table := F13, g_is_table := He.glo_ok X G (c.fact 13 (f := .glo "is_table") rfl),
    a_need_point := _, d_need_point := d14, F_need_point := F14, g_need_point := He.glo_ok X G (c.fact 14 (f := .glo "need_point") rfl),
    a_straight := _, d_straight := d15, F_straight := F15, g_straight := He.glo_ok X G (c.fact 15 (f := .glo "straight") rfl),
    a_l_turn := _, d_l_turn := d16, F_l_turn := F16, g_l_turn := He.glo_ok X G (c.fact 16 (f := .glo "_law_turn") rfl),
    a_l_course := _, d_l_course := d17, F_l_course := F17, g_l_course := He.glo_ok X G (c.fact 17 (f := .glo "_law_course") rfl),
    a_need_moves := _, d_need_moves := d18, F_need_moves := F18, g_need_moves := He.glo_ok X G (c.fact 18 (f := .glo "need_moves") rfl),
    a_course_of := _, d_course_of := d19, F_course_of := F19, g_course_of := He.glo_ok X G (c.fact 19 (f := .glo "course_of") rfl),
    a_l_table := _, d_l_table := d20, F_l_table := F20, g_l_table := He.glo_ok X G (c.fact 20 (f := .glo "_law_table") rfl),
    a_moved := _, d_moved := d21, F_moved := F21, g_moved := He.glo_ok X G (c.fact 21 (f := .glo "moved") rfl),
    a_moved_far := _, d_moved_far := d22, F_moved_far := F22, g_moved_far := He.glo_ok X G (c.fact 22 (f := .glo "moved_far") rfl),
    a_ring_at_end := _, d_ring_at_end := d23, F_ring_at_end := F23, g_ring_at_end := He.glo_ok X G (c.fact 23 (f := .glo "ring_at_end") rfl),
    a_l_ring_right := _, d_l_ring_right := d24, F_l_ring_right := F24, g_l_ring_right := He.glo_ok X G (c.fact 24 (f := .glo "_law_ring_right") rfl),
    a_l_course_right := _, d_l_course_right := d25, F_l_course_right := F25, g_l_course_right := He.glo_ok X G (c.fact 25 (f := .glo "_law_course_right") rfl),
    a_l_right := _, d_l_right := d26, F_l_right := F26, g_l_right := He.glo_ok X G (c.fact 26 (f := .glo "_law_right") rfl),
    a_law := _, d_law := d27, F_law := F27, g_law := He.glo_ok X G (c.fact 27 (f := .glo "law") rfl),
    b_l_cells := ⟨[], .nil, F4.bindsN fun _ _ _ _ _ _ us hl => match us, hl with | [_, _], _ => rfl⟩,
    b_l_course := ⟨[], .nil, F17.bindsN fun _ _ _ _ _ _ us hl => match us, hl with | [_, _], _ => rfl⟩,
    b_l_course_right := ⟨[], .nil, F25.bindsN fun _ _ _ _ _ _ us hl => match us, hl with | [_, _, _], _ => rfl⟩,
    b_l_draw := ⟨[], .nil, F3.bindsN fun _ _ _ _ _ _ us hl => match us, hl with | [_, _], _ => rfl⟩,
    b_l_lowest := ⟨[], .nil, F5.bindsN fun _ _ _ _ _ _ us hl => match us, hl with | [_, _], _ => rfl⟩,
    b_l_mixed := ⟨[], .nil, F10.bindsN fun _ _ _ _ _ _ us hl => match us, hl with | [_, _], _ => rfl⟩,
    b_l_point := ⟨[], .nil, F12.bindsN fun _ _ _ _ _ _ us hl => match us, hl with | [_, _, _], _ => rfl⟩,
    b_l_right := ⟨[], .nil, F26.bindsN fun _ _ _ _ _ _ us hl => match us, hl with | [_, _], _ => rfl⟩,
    b_l_ring_right := ⟨[], .nil, F24.bindsN fun _ _ _ _ _ _ us hl => match us, hl with | [_, _, _], _ => rfl⟩,
    b_l_straight := ⟨[], .nil, F11.bindsN fun _ _ _ _ _ _ us hl => match us, hl with | [_, _], _ => rfl⟩,
    b_l_table := ⟨[], .nil, F20.bindsN fun _ _ _ _ _ _ us hl => match us, hl with | [_, _], _ => rfl⟩,
    b_l_tap := ⟨[], .nil, F2.bindsN fun _ _ _ _ _ _ us hl => match us, hl with | [_, _], _ => rfl⟩,
    b_l_turn := ⟨[], .nil, F16.bindsN fun _ _ _ _ _ _ us hl => match us, hl with | [_, _], _ => rfl⟩,
    b_are_integers_3 := F6.binds1 (ps := ["value", "low", "high"]) 3 2 (List.cons_ne_nil _ _) rfl fun _ _ _ _ _ _ _ us its hl hi => match us, its, hl, hi with | [_, _, _], [_, _], _, _ => ⟨_, rfl, rfl⟩,
    b_common_divisor := ⟨[], .nil, F1.bindsN fun _ _ _ _ _ _ us hl => match us, hl with | [_, _], _ => rfl⟩,
    b_course_of := ⟨[], .nil, F19.bindsN fun _ _ _ _ _ _ us hl => match us, hl with | [_, _], _ => rfl⟩,
    b_is_integer_1 := F0.binds1 (ps := ["value", "low", "high"]) 1 0 (List.cons_ne_nil _ _) rfl fun _ _ _ _ _ _ _ us its hl hi => match us, its, hl, hi with | [_], [_, _], _, _ => ⟨_, rfl, rfl⟩,
    b_is_integer_2 := F0.binds1 (ps := ["value", "low", "high"]) 2 1 (List.cons_ne_nil _ _) rfl fun _ _ _ _ _ _ _ us its hl hi => match us, its, hl, hi with | [_, _], [_, _], _, _ => ⟨_, rfl, rfl⟩,
    b_is_integer_3 := F0.binds1 (ps := ["value", "low", "high"]) 3 2 (List.cons_ne_nil _ _) rfl fun _ _ _ _ _ _ _ us its hl hi => match us, its, hl, hi with | [_, _, _], [_, _], _, _ => ⟨_, rfl, rfl⟩,
    b_is_point := ⟨[], .nil, F8.bindsN fun _ _ _ _ _ _ us hl => match us, hl with | [_], _ => rfl⟩,
    b_is_table := ⟨[], .nil, F13.bindsN fun _ _ _ _ _ _ us hl => match us, hl with | [_], _ => rfl⟩,
    b_lowest_terms := ⟨[], .nil, F9.bindsN fun _ _ _ _ _ _ us hl => match us, hl with | [_, _], _ => rfl⟩,
    b_moved := ⟨[], .nil, F21.bindsN fun _ _ _ _ _ _ us hl => match us, hl with | [_, _], _ => rfl⟩,
    b_moved_far := ⟨[], .nil, F22.bindsN fun _ _ _ _ _ _ us hl => match us, hl with | [_, _, _], _ => rfl⟩,
    b_need_moves := ⟨[], .nil, F18.bindsN fun _ _ _ _ _ _ us hl => match us, hl with | [_], _ => rfl⟩,
    b_need_point := ⟨[], .nil, F14.bindsN fun _ _ _ _ _ _ us hl => match us, hl with | [_], _ => rfl⟩,
    b_need_ticks := ⟨[], .nil, F7.bindsN fun _ _ _ _ _ _ us hl => match us, hl with | [_, _, _], _ => rfl⟩,
    b_ring_at_end := ⟨[], .nil, F23.bindsN fun _ _ _ _ _ _ us hl => match us, hl with | [_, _], _ => rfl⟩,
    b_straight := ⟨[], .nil, F15.bindsN fun _ _ _ _ _ _ us hl => match us, hl with | [_, _], _ => rfl⟩,
    f_abs := He.free_ok X G (c.fact 28 (f := .free "abs") rfl),
    f_all := He.free_ok X G (c.fact 29 (f := .free "all") rfl),
    f_bool := He.free_ok X G (c.fact 30 (f := .free "bool") rfl),
    f_enumerate := He.free_ok X G (c.fact 31 (f := .free "enumerate") rfl),
    f_int := He.free_ok X G (c.fact 32 (f := .free "int") rfl),
    f_isinstance := He.free_ok X G (c.fact 33 (f := .free "isinstance") rfl),
    f_len := He.free_ok X G (c.fact 34 (f := .free "len") rfl),
    f_list := He.free_ok X G (c.fact 35 (f := .free "list") rfl),
    f_max := He.free_ok X G (c.fact 36 (f := .free "max") rfl),
    f_min := He.free_ok X G (c.fact 37 (f := .free "min") rfl),
    f_range := He.free_ok X G (c.fact 38 (f := .free "range") rfl),
    f_repr := He.free_ok X G (c.fact 39 (f := .free "repr") rfl),
    f_tuple := He.free_ok X G (c.fact 40 (f := .free "tuple") rfl),
    c_MOST_PLACES := He.int_ok X G (c.fact 41 (f := .int "MOST_PLACES" 12) rfl),
    c_MOST_TICKS := He.int_ok X G (c.fact 42 (f := .int "MOST_TICKS" 1000000000000000000000000000000) rfl),
    e_InvalidMoves := _, gx_InvalidMoves := He.glo_ok X G (c.fact 43 (f := .glo "InvalidMoves") rfl), x_InvalidMoves := He.exc_ok (c.fact 44 (f := .exc "InvalidMoves") rfl),
    e_InvalidPoint := _, gx_InvalidPoint := He.glo_ok X G (c.fact 45 (f := .glo "InvalidPoint") rfl), x_InvalidPoint := He.exc_ok (c.fact 46 (f := .exc "InvalidPoint") rfl),
    e_InvalidTicks := _, gx_InvalidTicks := He.glo_ok X G (c.fact 47 (f := .glo "InvalidTicks") rfl), x_InvalidTicks := He.exc_ok (c.fact 48 (f := .exc "InvalidTicks") rfl),
  }⟩
abbrev R : PySem.W.OpenRow := PySem.W.OpenLaw.row PySem.Challenge.rw_sureturns_k09_points_moved_far
def loose : List Str := (["InvalidMoves", "InvalidPoint", "InvalidTicks", "TurnError", "MOST_PLACES", "MOST_TICKS", "is_integer", "are_integers", "is_table", "need_moves", "need_ticks", "is_point", "need_point", "common_divisor", "lowest_terms", "straight", "moved", "course_of", "moved_far", "ring_at_end", "_law_tap", "_law_draw", "_law_cells", "_law_mixed", "_law_turn", "_law_table", "_law_lowest", "_law_straight", "_law_course", "_law_point"] : List Str) ++ (["_law_ring_right", "_law_course_right", "_law_right"] : List Str)
abbrev hk : PySem.W.Hook := He.hookD 6 fa fn
def ob (s : PySem.W.SharedT) : He.AlD := He.obsDG 6 fa fn (HandSHeadRun.getT s)
theorem ob_eq (s : PySem.W.SharedT) : ob s = hk.obs s.abs := He.obsDG_eq (HandSHeadRun.getT_eq s)
theorem run (w : World) : HandSHeadRun.RunEq R (PySem.W.view R.prog [37]) hk ob 4000 loose w := by
  intro os
  kernel_rfl
theorem walk (H : Says 63 m_law_k09) {P : Program} {w : World} {K : Fg} {h : Heap} {mg : Str → Option Value} {f : Addr} (X : K.In h) (G : h.Ns mainGlobals mg) (hfa : mg ("law" : Str) = some (.ref f)) (c : He.SaysD fa fn K) :
    ∃ (fd : FuncData), (∀ (s : Shared) (v : Value), BindsTo s fd ⟨[v], []⟩ [("_law_script", v)]) ∧ ∀ base : Heap, K.In base → base.Ns mainGlobals mg → FnG P w K mg base 9 f fd ["_law_script"] (spFn K mg [] 1 m_law_k09) := by
  obtain ⟨T⟩ := txt X G c
  have e := hfa.symm.trans T.g_law
  cases e
  have b := FunD.bindsA (ps := ["_law_script"]) T.F_law fun _ _ _ _ _ _ us hl => match us, hl with | [_], _ => rfl
  exact ⟨T.d_law, fun s v => b s [v] rfl, fun base _ _ => ok_law T⟩
end G_k09
namespace Pg
open PySem PySem.Spec PyProof.Rows L2 T3
theorem itA_succ (f : Nat → Nat) (j c : Nat) : itA f (j + 1) c = itA f j (f c) := by
  have := itA_add f c 1 j
  rw [Nat.add_comm] at this
  exact this
/-- from b the steps that are known lead to k, j of them -/
def Ch (f : Nat → Nat) (k j b : Nat) : Prop := itA f j b = k ∧ ∀ i, i < j → itA f i b < k
def Acyc (f : Nat → Nat) (k : Nat) : Prop := ∀ a, a < k → ∀ j, 1 ≤ j → (∀ i, i < j → itA f i a < k) → itA f j a ≠ a
def Inj (f : Nat → Nat) (k : Nat) : Prop := ∀ a b, a < k → b < k → f a = f b → a = b
section
variable {n k : Nat} {f : Nat → Nat}
theorem Ch.step {j b c : Nat} (h : Ch f k j b) (hc : c < k) (e : f c = b) : Ch f k (j + 1) c := by
  refine ⟨by rw [itA_succ, e]; exact h.1, fun i hi => ?_⟩
  cases i with
  | zero => exact hc
  | succ i => rw [itA_succ, e]; exact h.2 i (by omega)
theorem Ch.ne {j b i i' : Nat} (h : Ch f k j b) (hi : i < i') (hj : i' ≤ j) : itA f i b ≠ itA f i' b := fun e => by
  have h1 := itA_add f b i' (j - i')
  rw [show i' + (j - i') = j by omega, h.1, ← e, ← itA_add] at h1
  have := h.2 (i + (j - i')) (by omega)
  omega
theorem Ch.le {j b : Nat} (h : Ch f k j b) : j ≤ k := by
  have nd : ((List.range j).map fun i => itA f i b).Nodup := by
    rw [List.Nodup, List.pairwise_map]
    refine (List.pairwise_iff_getElem).mpr fun i i' hi hi' hij e => ?_
    simp only [List.getElem_range] at e
    rw [List.length_range] at hi hi'
    exact h.ne hij (by omega) e
  have sub : ((List.range j).map fun i => itA f i b) ⊆ List.range k := fun x hx => by
    obtain ⟨i, hi, rfl⟩ := List.mem_map.mp hx
    exact List.mem_range.mpr (h.2 i (List.mem_range.mp hi))
  have := nd.length_le_of_subset sub
  simpa using this
theorem TurnP.injF (T : TurnP n f) : Inj f n := fun a b ha hb e => by
  obtain ⟨i, hi, rfl⟩ := T.on ha
  obtain ⟨j, hj, rfl⟩ := T.on hb
  have e' : it f (i + 1) = it f (j + 1) := e
  rw [T.perm (i + 1), T.perm (j + 1)] at e'
  have := T.inj (Nat.mod_lt _ T.pos) (Nat.mod_lt _ T.pos) e'
  have h : i = j := by
    rcases Nat.lt_or_ge (i + 1) n with h1 | h1
    · rcases Nat.lt_or_ge (j + 1) n with h2 | h2
      · rw [Nat.mod_eq_of_lt h1, Nat.mod_eq_of_lt h2] at this; omega
      · have h3 : j + 1 = n := by omega
        rw [Nat.mod_eq_of_lt h1, h3, Nat.mod_self] at this
        omega
    · have h3 : i + 1 = n := by omega
      rcases Nat.lt_or_ge (j + 1) n with h2 | h2
      · rw [h3, Nat.mod_self, Nat.mod_eq_of_lt h2] at this; omega
      · omega
  rw [h]
end
end Pg
namespace Pg
open PySem PySem.Spec PyProof.Rows L2 T3
end Pg
namespace Pg
open PySem PySem.Spec PyProof.Rows L2 T3
/-- a beginning of a turn of n points -/
def Beg (n : Nat) (p : List Int) : Prop := p.length ≤ n ∧ (∀ x ∈ p, 0 ≤ x ∧ x < (n : Int)) ∧ Inj (stp p) p.length ∧ Acyc (stp p) p.length
theorem Beg.at {n : Nat} {p : List Int} (h : Beg n p) {i : Nat} (hi : i < p.length) : p[i]? = some ((stp p i : Nat) : Int) ∧ stp p i < n := by
  have e := get_of hi
  have m := h.2.1 _ (List.mem_of_getElem? e)
  unfold stp
  refine ⟨?_, by omega⟩
  rw [e]
  congr 1
  omega
theorem Beg.mem {n : Nat} {p : List Int} (h : Beg n p) {b : Nat} : ((b : Nat) : Int) ∈ p ↔ ∃ c, c < p.length ∧ stp p c = b := by
  constructor
  · intro m
    obtain ⟨i, hi⟩ := List.mem_iff_getElem?.mp m
    have hl : i < p.length := (List.getElem?_eq_some_iff.mp hi).1
    have := (h.at hl).1
    rw [hi] at this
    exact ⟨i, hl, by have := Option.some.inj this; omega⟩
  · rintro ⟨c, hc, rfl⟩
    exact List.mem_of_getElem? (h.at hc).1
theorem Beg.nil {n : Nat} : Beg n [] := ⟨Nat.zero_le _, fun x hx => absurd hx (by simp), fun a b ha => absurd ha (Nat.not_lt_zero _), fun a ha => absurd ha (Nat.not_lt_zero _)⟩
end Pg
namespace Pg
open PySem PySem.Spec PyProof.Rows L2 T3
abbrev ptE (p : Int × Int) : D := .tuple [.int p.1, .int p.2]
def Bnd (p : Int × Int) : Prop := p.1.natAbs < 10 ^ 200 ∧ p.2 < 10 ^ 100
set_option exponentiation.threshold 10000 in
theorem big1200 {i : Int} (h : i.natAbs < 10 ^ 1500) : Big i := by
  refine big_of (k := 5000) (Nat.lt_trans h ?_) (by decide)
  decide +kernel
def NV (c : Cell) : Prop := c = .no ∨ ∃ d, c = .v d
theorem NV.par {c : Cell} (h : NV c) : isPar c = false := by rcases h with rfl | ⟨d, rfl⟩ <;> rfl
end Pg
namespace Pg
open PySem PySem.Spec PyProof.Rows L2 T3
section
variable {n : Nat} {ps : List (Int × Int)}
theorem Rng.perm (R : Rng n ps) {qs : List (Int × Int)} (p : qs.Perm ps) : Rng n qs := ⟨by rw [p.length_eq]; exact R.len, fun x hx => R.red x (p.mem_iff.mp hx), p.nodup_iff.mpr R.nd⟩
end
end Pg
namespace Pg
open PySem PySem.Spec PyProof.Rows L2 T3
theorem ix_4v {i a b c d : Int} (h : 0 ≤ i) (g : i < 4) : dIx (.list [.int a, .int b, .int c, .int d]) (.int i) = some (.val (.int (if i = 0 then a else if i = 1 then b else if i = 2 then c else d))) := by
  have : i = 0 ∨ i = 1 ∨ i = 2 ∨ i = 3 := by omega
  rcases this with rfl | rfl | rfl | rfl <;> exact ix_d (by decide) rfl
theorem low_abs {t b : Int} (hb : 0 < b) : (lw t b).1.natAbs ≤ t.natAbs := by
  obtain ⟨g, hg, e1, e2⟩ := lw_spec (t := t) hb
  show (lowT t b).natAbs ≤ t.natAbs
  conv => rhs; rw [e1, Int.natAbs_mul]
  exact Nat.le_mul_of_pos_left _ (by omega)
theorem lay_pts : ∀ ps : List (Int × Int), PyData.canLayAll0 (ps.map ptE) = true ∧ PyData.depthAll (ps.map ptE) ≤ 1
  | [] => by simp [PyData.canLayAll0, PyData.depthAll]
  | p :: ps => by
    obtain ⟨a, b⟩ := lay_pts ps
    refine ⟨by simp [PyData.canLayAll0, PyData.canLay0, a], ?_⟩
    simp only [List.map_cons, PyData.depthAll, PyData.depth]
    exact Nat.max_le.mpr ⟨by decide, b⟩
theorem shaped_pts (ps : List (Int × Int)) : SeqAt.shaped (.list (ps.map ptE)) = true := by
  obtain ⟨a, b⟩ := lay_pts ps
  unfold SeqAt.shaped
  simp only [PyData.canLay0, a, PyData.depth, Bool.true_and]
  exact decide_eq_true (by omega)
theorem eqv_pts : ∀ ps qs : List (Int × Int), PyData.eqvAll (ps.map ptE) (qs.map ptE) = decide (ps = qs)
  | [], [] => by simp [PyData.eqvAll]
  | [], q :: qs => by simp [PyData.eqvAll]
  | p :: ps, [] => by simp [PyData.eqvAll]
  | p :: ps, q :: qs => by
    have : PyData.eqv (ptE p) (ptE q) = decide (p = q) := by
      simp only [PyData.eqv, PyData.eqvAll, Bool.and_true]
      rw [Bool.eq_iff_iff]
      simp [Prod.ext_iff]
    simp only [List.map_cons, PyData.eqvAll, eqv_pts ps qs, this]
    rw [Bool.eq_iff_iff]
    simp
theorem ne_pts {ps qs : List (Int × Int)} : dNe (.list (ps.map ptE)) (.list (qs.map ptE)) = some (.val (.bool (!decide (ps = qs)))) := by
  rw [ne_d, shaped_pts, shaped_pts]
  simp [PyData.eqv, eqv_pts]
/-- points that are drawn so far -/
structure PI (k : Nat) (ps : List (Int × Int)) : Prop where
  len : ps.length = k
  red : ∀ p ∈ ps, RdP p
  nd : ps.Nodup
  bd : ∀ p ∈ ps, p.1.natAbs ≤ 10 ^ 41 + k ∧ p.2 < 10 ^ 40
end Pg
namespace Pg
open PySem PySem.Spec PyProof.Rows L2 T3
end Pg
namespace Pg
open PySem PySem.Spec PyProof.Rows L2 T3
end Pg
namespace Pg
open PySem PySem.Spec PyProof.Rows L2 T3
/-- a path: neighbours cover one another -/
def Pth (n : Nat) (ms : List Int) (xs : List Int) : Prop := xs ≠ [] ∧ (∀ x ∈ xs, 0 ≤ x ∧ x < (n : Int) - 1) ∧ chain ms xs = true
section
variable {n : Nat} {ms : List Int}
theorem Pth.hd {s : Int} {xs : List Int} (h : Pth n ms (s :: xs)) : 0 ≤ s ∧ s < (n : Int) - 1 := h.2.1 s List.mem_cons_self
end
end Pg
namespace Pg
open PySem PySem.Spec PyProof.Rows L2 T3
end Pg
namespace Pg
open PySem PySem.Spec PyProof.Rows L2 T3
structure Lay (n m : Nat) (ms : List Int) (f : Nat → Nat) (row : List Int) : Prop where
  len : row.length = m
  mem : ∀ x ∈ row, 0 ≤ x ∧ x < (n : Int) - 1
  asc : ∀ a, a + 1 < m → row.getD a 0 ≤ row.getD (a + 1) 0
  cv : ∀ a, a < m → cov ms (row.getD a 0) (row.getD (f a) 0) = true
  eqs : ∀ a, a + 1 < m → row.getD a 0 = row.getD (a + 1) 0 → (f a < f (a + 1) ↔ 0 < sl ms (row.getD a 0))
section
variable {n m : Nat} {ms row : List Int} {f : Nat → Nat}
theorem Lay.le (Y : Lay n m ms f row) {a b : Nat} (h : a ≤ b) (hb : b < m) : row.getD a 0 ≤ row.getD b 0 := by
  obtain ⟨k, rfl⟩ : ∃ k, b = a + k := ⟨b - a, by omega⟩
  clear h
  induction k with
  | zero => exact Int.le_refl _
  | succ k ih => exact Int.le_trans (ih (by omega)) (Y.asc (a + k) hb)
theorem Lay.same (Y : Lay n m ms f row) {a b z : Nat} (h : a ≤ z) (k : z ≤ b) (hb : b < m) (e : row.getD a 0 = row.getD b 0) : row.getD z 0 = row.getD a 0 := by
  have x := Y.le h (by omega)
  have y := Y.le k hb
  omega
/-- within one stretch the turn rises or falls as the stretch does -/
theorem Lay.mono (Y : Lay n m ms f row) (T : TurnP m f) {a : Nat} : ∀ k, 1 ≤ k → a + k < m → row.getD a 0 = row.getD (a + k) 0 → (0 < sl ms (row.getD a 0) → f a < f (a + k)) ∧ (sl ms (row.getD a 0) < 0 → f (a + k) < f a)
  | 0, h, _, _ => absurd h (by omega)
  | k + 1, _, hb, e => by
    have e1 := Y.same (a := a) (b := a + (k + 1)) (z := a + k) (by omega) (by omega) hb e
    have q := Y.eqs (a + k) hb (by rw [e1]; exact e)
    rw [e1] at q
    have ne : f (a + k) ≠ f (a + k + 1) := fun z => by
      have := T.injF (a + k) (a + k + 1) (by omega) hb z
      omega
    by_cases c : k = 0
    · subst c
      rw [Nat.add_zero] at q ne
      exact ⟨fun h => q.mpr h, fun h => by
        have : ¬ f a < f (a + 1) := fun z => by have := q.mp z; omega
        show f (a + 1) < f a
        omega⟩
    · obtain ⟨i1, i2⟩ := Lay.mono Y T k (by omega) (by omega) e1.symm
      exact ⟨fun h => Nat.lt_trans (i1 h) (q.mpr h), fun h => by
        have : ¬ f (a + k) < f (a + k + 1) := fun z => by have := q.mp z; omega
        have := i2 h
        show f (a + k + 1) < f a
        omega⟩
end
end Pg
namespace Pg
open PySem PySem.Spec PyProof.Rows L2 T3
/-- a ring of points over one bottom, with the stretches in which they lie -/
structure Run (ms : List Int) (s T : Nat → Int) (b : Int) (m : Nat) : Prop where
  b0 : 0 < b
  inn : ∀ i, s i * b < T i ∧ T i < (s i + 1) * b
  stp : ∀ i, T (i + 1) = aff ms (s i) (T i) b
  per : ∀ i, T (i + m) = T i
  nd : ∀ i j, i < m → j < m → T i = T j → i = j
section
variable {n m : Nat} {ms : List Int} {f : Nat → Nat} {s T : Nat → Int} {b : Int}
theorem Run.mod (R : Run ms s T b m) (i : Nat) : T i = T (i % m) := by
  have : ∀ q, T (i % m + m * q) = T (i % m) := fun q => by
    induction q with
    | zero => rfl
    | succ q ih => rw [Nat.mul_add, Nat.mul_one, ← Nat.add_assoc, R.per, ih]
  have e := this (i / m)
  rwa [Nat.mod_add_div] at e
theorem Run.eq (R : Run ms s T b m) (h0 : 0 < m) {i j : Nat} (e : T i = T j) : i % m = j % m := by
  rw [R.mod i, R.mod j] at e
  exact R.nd _ _ (Nat.mod_lt _ h0) (Nat.mod_lt _ h0) e
theorem Run.flr (R : Run ms s T b m) {i : Nat} {z : Int} (h1 : z * b < T i) (h2 : T i < (z + 1) * b) : s i = z := by
  obtain ⟨a, c⟩ := R.inn i
  have x1 := Int.lt_of_mul_lt_mul_right (Int.lt_trans a h2) (Int.le_of_lt R.b0)
  have x2 := Int.lt_of_mul_lt_mul_right (Int.lt_trans h1 c) (Int.le_of_lt R.b0)
  omega
theorem Run.sper (R : Run ms s T b m) {i j : Nat} (e : T i = T j) : s i = s j := by
  obtain ⟨a, c⟩ := R.inn j
  rw [← e] at a c
  exact R.flr a c
/-- what a stretch does with what lies in it -/
theorem Run.cv (R : Run ms s T b m) (i : Nat) : cov ms (s i) (s (i + 1)) = true := by
  rw [cov_iff]
  obtain ⟨a, c⟩ := R.inn i
  obtain ⟨a', c'⟩ := R.inn (i + 1)
  have hb := R.b0
  rw [R.stp i] at a' c'
  unfold aff at a' c'
  have u0 : 0 < T i - s i * b := by omega
  have u1 : T i - s i * b < b := by rw [Int.add_mul] at c; omega
  generalize T i - s i * b = u at *
  unfold loS hiS
  have e0 : sl ms (s i) = ms.getD (s i + 1).toNat 0 - ms.getD (s i).toNat 0 := rfl
  generalize ms.getD (s i).toNat 0 = x at *
  generalize ms.getD (s i + 1).toNat 0 = y at *
  generalize s (i + 1) = z at *
  have low : ∀ w : Int, w * b < (z + 1) * b → w ≤ z := fun w h => by
    have := Int.lt_of_mul_lt_mul_right h (Int.le_of_lt hb); omega
  have upp : ∀ w : Int, z * b < w * b → z < w := fun w h => Int.lt_of_mul_lt_mul_right h (Int.le_of_lt hb)
  rcases Int.lt_trichotomy (sl ms (s i)) 0 with k | k | k
  · have e1 : sl ms (s i) * b < sl ms (s i) * u := Int.mul_lt_mul_of_neg_left u1 k
    have e2 : sl ms (s i) * u < sl ms (s i) * 0 := Int.mul_lt_mul_of_neg_left u0 k
    rw [Int.mul_zero] at e2
    have ey : y * b = sl ms (s i) * b + x * b := by rw [← Int.add_mul, e0]; congr 1; omega
    have l1 := low y (by omega)
    have l2 := upp x (by omega)
    constructor <;> split <;> omega
  · exfalso
    rw [k, Int.zero_mul, Int.zero_add] at a' c'
    have := low x c'
    have := upp x a'
    omega
  · have e1 : sl ms (s i) * u < sl ms (s i) * b := Int.mul_lt_mul_of_pos_left u1 k
    have e2 : sl ms (s i) * 0 < sl ms (s i) * u := Int.mul_lt_mul_of_pos_left u0 k
    rw [Int.mul_zero] at e2
    have ey : y * b = sl ms (s i) * b + x * b := by rw [← Int.add_mul, e0]; congr 1; omega
    have l1 := low x (by omega)
    have l2 := upp y (by omega)
    constructor <;> split <;> omega
def rwS (s : Nat → Int) (m : Nat) : List Int := (List.range m).map s
theorem rwS_len (s : Nat → Int) (m : Nat) : (rwS s m).length = m := by simp [rwS]
theorem rwS_get (s : Nat → Int) {m i : Nat} (h : i < m) : (rwS s m).getD i 0 = s i := by
  unfold rwS
  rw [List.getD_eq_getElem?_getD, List.getElem?_map, List.getElem?_range h]; rfl
theorem rwS_snoc (s : Nat → Int) (k : Nat) : rwS s (k + 1) = rwS s k ++ [s k] := by
  unfold rwS
  rw [List.range_succ, List.map_append]; rfl
theorem Run.along (R : Run ms s T b m) : ∀ k, affL ms (rwS s k) (T 0) b = T k
  | 0 => rfl
  | k + 1 => by
    rw [rwS_snoc, affL_app, R.along k]
    exact (R.stp k).symm
end
end Pg
namespace Pg
open PySem PySem.Spec PyProof.Rows L2 T3
section
variable {n m : Nat} {ms : List Int} {f : Nat → Nat} {s T : Nat → Int} {b : Int}
theorem Run.shift (R : Run ms s T b m) (k : Nat) : Run ms (fun i => s (k + i)) (fun i => T (k + i)) b m where
  b0 := R.b0
  inn := fun i => R.inn _
  stp := fun i => R.stp _
  per := fun i => by show T (k + (i + m)) = _; rw [← Nat.add_assoc, R.per]
  nd := fun i j hi hj e => by
    have h := R.eq (by omega) e
    have e1 : ((k + i) + (m - k % m)) % m = i := by
      have := Nat.mod_lt k (show m > 0 by omega)
      have q := Nat.mod_add_div k m
      rw [show k + i + (m - k % m) = i + m * (k / m + 1) by rw [Nat.mul_add]; omega, Nat.add_mul_mod_self_left, Nat.mod_eq_of_lt hi]
    have e2 : ((k + j) + (m - k % m)) % m = j := by
      have := Nat.mod_lt k (show m > 0 by omega)
      have q := Nat.mod_add_div k m
      rw [show k + j + (m - k % m) = j + m * (k / m + 1) by rw [Nat.mul_add]; omega, Nat.add_mul_mod_self_left, Nat.mod_eq_of_lt hj]
    rw [← e1, ← e2, Nat.add_mod (k + i), Nat.add_mod (k + j), h]
theorem pow_one_abs {r : Int} {k : Nat} (hk : 0 < k) (h : r ^ k = 1) : r = 1 ∨ r = -1 := by
  have h2 : r.natAbs ^ k = 1 := by rw [← Int.natAbs_pow, h]; rfl
  have : r.natAbs = 1 := by
    rcases Nat.lt_trichotomy r.natAbs 1 with c | c | c
    · have : r.natAbs = 0 := by omega
      rw [this, Nat.zero_pow hk] at h2
      omega
    · exact c
    · have := Nat.one_lt_pow (show k ≠ 0 by omega) c
      omega
  omega
/-- along a repeated loop: half of it turns its stretch about -/
theorem Run.rep (R : Run ms s T b m) {d : Nat} (d1 : 1 ≤ d) (d2 : d < m) (hp : Per (rwS s m) d) : m = 2 * d ∧ (∀ i, s (i + d) = s i) ∧ ∀ i, (sl ms (s i)).natAbs = 1 := by
  have h0 : 0 < m := by omega
  have sm : ∀ i, s i = s (i % m) := fun i => R.sper (R.mod i)
  have sd : ∀ i, s (i + d) = s i := fun i => by
    have q := hp (i % m) (by rw [rwS_len]; exact Nat.mod_lt _ h0)
    rw [rwS_len, rwS_get s (Nat.mod_lt _ h0), rwS_get s (Nat.mod_lt _ h0), Nat.mod_add_mod] at q
    rw [sm (i + d), sm i, q]
  have sdq : ∀ q i, s (d * q + i) = s i := fun q => by
    induction q with
    | zero => intro i; rw [Nat.mul_zero, Nat.zero_add]
    | succ q ih => intro i; rw [Nat.mul_add, Nat.mul_one, show d * q + d + i = d * q + i + d by omega, sd, ih]
  have st : ∀ q, T (d * q + d) = (rsh ms (rwS s d)).1 * T (d * q) + (rsh ms (rwS s d)).2 * b := fun q => by
    have a := (R.shift (d * q)).along d
    have e : rwS (fun i => s (d * q + i)) d = rwS s d := by
      unfold rwS
      exact List.map_congr_left fun i _ => sdq q i
    rw [e, affL_eq] at a
    exact a.symm
  have hd : ∀ q, T (d * (q + 1) + d) - T (d * (q + 1)) = (rsh ms (rwS s d)).1 * (T (d * q + d) - T (d * q)) := fun q => by
    have a := st (q + 1)
    have c := st q
    have e : d * (q + 1) = d * q + d := by rw [Nat.mul_add, Nat.mul_one]
    rw [e] at a ⊢
    rw [a, c]
    simp only [Int.mul_sub, Int.mul_add]
    omega
  have hq : ∀ q, T (d * q + d) - T (d * q) = (rsh ms (rwS s d)).1 ^ q * (T d - T 0) := fun q => by
    induction q with
    | zero => rw [Nat.mul_zero, Nat.zero_add, Int.pow_zero, Int.one_mul]
    | succ q ih => rw [hd, ih, Int.mul_left_comm, Int.pow_succ, Int.mul_assoc]
  have n0 : T d - T 0 ≠ 0 := fun z => by
    have := R.nd d 0 d2 h0 (by omega)
    omega
  have e0 : T (d * m) = T 0 := by rw [R.mod (d * m), Nat.mul_mod_left]
  have e1 : T (d * m + d) = T d := by rw [R.mod (d * m + d), Nat.add_comm, Nat.add_mul_mod_self_right, ← R.mod]
  have rm : (rsh ms (rwS s d)).1 ^ m = 1 := by
    have q := hq m
    rw [e0, e1] at q
    have : (rsh ms (rwS s d)).1 ^ m * (T d - T 0) = 1 * (T d - T 0) := by rw [← q, Int.one_mul]
    exact Int.eq_of_mul_eq_mul_right n0 this
  have ab := pow_one_abs h0 rm
  have neg : (rsh ms (rwS s d)).1 = -1 := by
    refine ab.resolve_left fun z => n0 ?_
    have lin : ∀ q : Nat, T (d * q) = T 0 + q * (T d - T 0) := fun q => by
      induction q with
      | zero => rw [Nat.mul_zero]; show T 0 = T 0 + 0 * _; rw [Int.zero_mul, Int.add_zero]
      | succ q ih =>
        have a := hq q
        rw [z, Int.one_pow, Int.one_mul] at a
        rw [Nat.mul_add, Nat.mul_one, Int.natCast_add, Int.add_mul]
        show _ = T 0 + (_ + 1 * _)
        omega
    have := lin m
    rw [e0] at this
    have h2 : (m : Int) * (T d - T 0) = 0 := by omega
    rcases Int.mul_eq_zero.mp h2 with h | h
    · omega
    · exact h
  have two : m = 2 * d := by
    have a := hq 1
    rw [neg, Nat.mul_one, Int.pow_succ, Int.pow_zero, Int.one_mul, Int.neg_mul, Int.one_mul] at a
    have : T (d + d) = T 0 := by omega
    have q := R.eq h0 this
    rw [Nat.zero_mod] at q
    obtain ⟨c, hc⟩ := Nat.dvd_of_mod_eq_zero q
    have c1 : 1 ≤ c := by
      refine Nat.one_le_iff_ne_zero.mpr fun z => ?_
      subst z
      omega
    have c2 : c < 2 := by
      refine Nat.lt_of_not_le fun z => ?_
      have := Nat.mul_le_mul_left m z
      omega
    have : c = 1 := by omega
    subst this
    omega
  refine ⟨two, sd, fun i => ?_⟩
  have cv : cvs ms (rwS s d) (s d) := by
    refine chain_cvs (fun z => ?_) (chain_iff.mpr fun k hk => ?_) ?_
    · have := rwS_len s d
      rw [z] at this
      have : d = 0 := this.symm
      omega
    · rw [rwS_len] at hk
      rw [rwS_get s (by omega), rwS_get s hk]
      exact R.cv k
    · rw [rwS_len, rwS_get s (by omega)]
      have := R.cv (d - 1)
      rwa [show d - 1 + 1 = d by omega] at this
  have stf1 := (rise_facts cv).2.2.mpr (by rw [neg]; rfl)
  have e := sdq (i / d) (i % d)
  rw [Nat.div_add_mod] at e
  rw [e]
  have mem : s (i % d) ∈ rwS s d := List.mem_map.mpr ⟨i % d, List.mem_range.mpr (Nat.mod_lt _ (by omega)), rfl⟩
  unfold stf at stf1
  have := List.all_eq_true.mp stf1 _ mem
  rw [decide_eq_true_eq] at this
  have := sl_hl (ms := ms) (s (i % d))
  omega
end
end Pg
namespace Pg
open PySem PySem.Spec PyProof.Rows L2 T3
def rgO (ms : List Int) (p : Int × Int) (m : Nat) : List (Int × Int) := (List.range m).map (orb ms p)
/-- a ring of m unlike points -/
structure ORing (ms : List Int) (m : Nat) (p : Int × Int) : Prop where
  red : RdP p
  bk : orb ms p m = p
  nd : ∀ i j, i < m → j < m → orb ms p i = orb ms p j → i = j
section
variable {n m : Nat} {ms gs : List Int} {f : Nat → Nat} {p : Int × Int}
theorem rgO_len (ms : List Int) (p : Int × Int) (m : Nat) : (rgO ms p m).length = m := by simp [rgO]
theorem ORing.mod (O : ORing ms m p) (i : Nat) : orb ms p i = orb ms p (i % m) := orb_mod O.bk i
end
end Pg
namespace Pg
open PySem PySem.Spec PyProof.Rows L2 T3
section
variable {n : Nat} {ms : List Int} {p q : Int × Int}
def crsE (ms : List Int) (p : Int × Int) (i : Nat) : List (D × D) := (List.range i).map fun (j : Nat) => (ptE (orb ms p j), .int (j : Int))
theorem crsE_len (ms : List Int) (p : Int × Int) (i : Nat) : (crsE ms p i).length = i := by simp [crsE]
theorem crsE_succ (ms : List Int) (p : Int × Int) (i : Nat) : crsE ms p (i + 1) = crsE ms p i ++ [(ptE (orb ms p i), .int (i : Int))] := by
  unfold crsE; rw [List.range_succ, List.map_append]; rfl
theorem rgO_succ (ms : List Int) (p : Int × Int) (i : Nat) : rgO ms p (i + 1) = rgO ms p i ++ [orb ms p i] := by
  unfold rgO; rw [List.range_succ, List.map_append]; rfl
theorem isMk_mk : isMk mkT = true := rfl
theorem key_ne {q r : Int × Int} (h : q ≠ r) : keyI (ptE q) ≠ some [r.1, r.2] := fun e => by
  rw [keyI_p] at e
  have e := Option.some.inj e
  simp only [List.cons.injEq, and_true] at e
  exact h (Prod.ext e.1 e.2)
theorem find_none {i : Nat} (h : ∀ j, j < i → orb ms p j ≠ q) : findT (crsE ms p i) [q.1, q.2] = none := by
  unfold findT
  rw [List.find?_eq_none.mpr]
  · rfl
  · intro x hx
    obtain ⟨j, hj, rfl⟩ := List.mem_map.mp hx
    rw [decide_eq_true_eq]
    exact key_ne (h j (List.mem_range.mp hj))
theorem find_some {B : Nat} : ∀ {i : Nat}, B < i → orb ms p B = q → (∀ j, j < B → orb ms p j ≠ q) → findT (crsE ms p i) [q.1, q.2] = some (.int (B : Int))
  | i + 1, hi, e, h => by
    by_cases c : B < i
    · have ih := find_some c e h
      unfold findT at ih ⊢
      rw [crsE_succ, List.find?_append]
      obtain ⟨x, hx, hx2⟩ := Option.map_eq_some_iff.mp ih
      rw [hx, Option.some_or, Option.map_some, hx2]
    · obtain rfl : B = i := by omega
      have f := find_none (ms := ms) (p := p) (i := B) (q := q) h
      unfold findT at f ⊢
      rw [crsE_succ, List.find?_append, Option.map_eq_none_iff.mp f, Option.none_or, List.find?_cons_of_pos (by rw [decide_eq_true_eq, e]; exact keyI_p)]
      rfl
theorem put_new {i : Nat} (h : ∀ j, j < i → orb ms p j ≠ orb ms p i) : putT (crsE ms p i) [(orb ms p i).1, (orb ms p i).2] (.int (i : Int)) = crsE ms p (i + 1) := by
  unfold putT
  rw [if_neg, crsE_succ]
  · rfl
  · intro e
    obtain ⟨x, hx, hk⟩ := List.any_eq_true.mp e
    obtain ⟨j, hj, rfl⟩ := List.mem_map.mp hx
    rw [decide_eq_true_eq] at hk
    exact key_ne (h j (List.mem_range.mp hj)) hk
/-- the loop's state behind i points -/
def crsS (ms : List Int) (p : Int × Int) (i : Nat) : En := [.v (.list (ms.map .int)), .v (ptE (orb ms p i)), .own (.list ((rgO ms p i).map ptE)), .own (.dict (mkT :: crsE ms p i))]
def crsM (N : Nat) (e : En) : Nat := match e.getD 2 .no with
  | .own (.list ds) => N - ds.length
  | _ => 0
theorem crsM_at (N i : Nat) : crsM N (crsS ms p i) = N - i := by
  show N - ((rgO ms p i).map ptE).length = _
  rw [List.length_map, rgO_len]
theorem course_eq (hm : InR n ms) (h1 : 1 ≤ n) (h2 : n ≤ 1000) (hp : RdP p) (hB : p.2 < 10 ^ 100) {N B : Nat} (C : Crs ms p N B) (hN : N < 3000) : m_course_of [.list (ms.map .int), ptE p] = .ok (.val (.tuple [.list ((rgO ms p N).map ptE), .int (B : Nat)])) [] := by
  have q := while_nx (t := t_course_of_1) (s := w_course_of_1) (fun e => ∃ i, i ≤ N ∧ e = crsS ms p i) (crsM N) (fun e => e = crsS ms p N) (fun e h => by
    obtain ⟨i, hi, rfl⟩ := h
    have cl := crsE_len ms p i
    have rl := rgO_len ms p i
    have r1 := (red_orb (ms := ms) hp i).2
    have d1 := Int.le_of_dvd hp.2 (orb_dvd hm h1 hp i)
    have ls := straight_eq hm h1 h2 (orb ms p i).1 (orb ms p i).2 r1 (by omega)
    have ls : m_straight [.list (ms.map .int), ptE (orb ms p i)] = .ok (.val (ptE (orb ms p (i + 1)))) [] := ls
    by_cases c : i = N
    · subst c
      have f := find_some (i := i) C.lt C.bk.symm (fun j hj => fun e => C.nd j B hj C.lt (e.trans C.bk))
      refine .inl ⟨crsS ms p i, ?_, rfl⟩
      unfold t_course_of_1 crsS
      simp (disch := first | assumption | omega | decide) only [ev0, ev1, ev2, ev3, ev4, ev5, ev6, dList, dTup, mutS, borS, argsD, nodupB, putM, frzN, safeOp, safeD, safeDs, wipeE, restore, argCells, List.getD_cons_zero, List.getD_cons_succ, List.set_cons_zero, List.set_cons_succ, List.length_cons, List.length_nil, List.cons_append, List.nil_append, List.append_nil, List.replicate_succ, List.replicate_zero, List.not_mem_nil, List.mem_cons, if_true, if_false, ite_true, ite_false, Bool.true_and, Bool.and_true, Bool.not_true, Bool.not_false, Bool.false_eq_true, reduceIte, List.getElem?_cons_zero, List.getElem?_cons_succ, List.all_nil, List.all_cons, List.contains_nil, Option.map_some, Option.map_none, Option.bind_some, and_self, and_true, true_and, or_false, false_or, or_true, true_or, Nat.reduceAdd, Nat.reduceSub, Nat.reduceLT, Nat.reduceLeDiff, Nat.reduceEqDiff, Nat.zero_add, eq_self, true_implies, not_false_eq_true, not_true_eq_false, Nat.lt_irrefl, Nat.succ_ne_zero, Nat.lt_add_one, ne_eq, Int.reduceEq, Int.reduceNe, decide_true, decide_false, Nat.zero_lt_succ, Bool.not_eq_true', decide_not, Nat.add_one_ne_zero, Nat.zero_le, Nat.le_refl, Bool.or_true, Bool.or_false, Bool.true_or, Bool.false_or, Bool.and_false, Bool.false_and, Nat.reduceMul, isiB, String.reduceBEq, Bool.or_self, Bool.and_self, reduceCtorEq, isSS, List.contains_cons, Nat.reduceBEq, ix_ll, eq_ln, ne_ln, List.length_map, List.length_range, Int.reduceToNat, Int.reducePow, Int.reduceMul, Int.reduceAdd, Int.reduceSub, Int.reduceNeg, Int.reduceLE, Int.reduceLT, Int.toNat_natCast, Bool.and_eq_true, Bool.or_eq_true, decide_eq_true_eq, Bool.decide_eq_true, rep_d, List.length_append, List.length_reverse, map_snoc, map_app, Int.sub_zero, List.append_assoc, ite_self, inT_p, f, Option.isSome] <;> rfl
    · have f := find_none (i := i) (q := orb ms p i) (fun j hj => C.nd j i hj (by omega))
      have pn := put_new (i := i) (fun j hj => C.nd j i hj (by omega))
      refine .inr ⟨crsS ms p i, crsS ms p (i + 1), ?_, ?_, ⟨i + 1, by omega, rfl⟩, ?_⟩
      · unfold t_course_of_1 crsS
        simp (disch := first | assumption | omega | decide) only [ev0, ev1, ev2, ev3, ev4, ev5, ev6, dList, dTup, mutS, borS, argsD, nodupB, putM, frzN, safeOp, safeD, safeDs, wipeE, restore, argCells, List.getD_cons_zero, List.getD_cons_succ, List.set_cons_zero, List.set_cons_succ, List.length_cons, List.length_nil, List.cons_append, List.nil_append, List.append_nil, List.replicate_succ, List.replicate_zero, List.not_mem_nil, List.mem_cons, if_true, if_false, ite_true, ite_false, Bool.true_and, Bool.and_true, Bool.not_true, Bool.not_false, Bool.false_eq_true, reduceIte, List.getElem?_cons_zero, List.getElem?_cons_succ, List.all_nil, List.all_cons, List.contains_nil, Option.map_some, Option.map_none, Option.bind_some, and_self, and_true, true_and, or_false, false_or, or_true, true_or, Nat.reduceAdd, Nat.reduceSub, Nat.reduceLT, Nat.reduceLeDiff, Nat.reduceEqDiff, Nat.zero_add, eq_self, true_implies, not_false_eq_true, not_true_eq_false, Nat.lt_irrefl, Nat.succ_ne_zero, Nat.lt_add_one, ne_eq, Int.reduceEq, Int.reduceNe, decide_true, decide_false, Nat.zero_lt_succ, Bool.not_eq_true', decide_not, Nat.add_one_ne_zero, Nat.zero_le, Nat.le_refl, Bool.or_true, Bool.or_false, Bool.true_or, Bool.false_or, Bool.and_false, Bool.false_and, Nat.reduceMul, isiB, String.reduceBEq, Bool.or_self, Bool.and_self, reduceCtorEq, isSS, List.contains_cons, Nat.reduceBEq, ix_ll, eq_ln, ne_ln, List.length_map, List.length_range, Int.reduceToNat, Int.reducePow, Int.reduceMul, Int.reduceAdd, Int.reduceSub, Int.reduceNeg, Int.reduceLE, Int.reduceLT, Int.toNat_natCast, Bool.and_eq_true, Bool.or_eq_true, decide_eq_true_eq, Bool.decide_eq_true, rep_d, List.length_append, List.length_reverse, map_snoc, map_app, Int.sub_zero, List.append_assoc, ite_self, inT_p, f, Option.isSome] <;> rfl
      · unfold w_course_of_1 crsS
        rw [rgO_succ, List.map_append]
        simp (disch := first | assumption | omega | decide) only [ev0, ev1, ev2, ev3, ev4, ev5, ev6, dList, dTup, mutS, borS, argsD, nodupB, putM, frzN, safeOp, safeD, safeDs, wipeE, restore, argCells, List.getD_cons_zero, List.getD_cons_succ, List.set_cons_zero, List.set_cons_succ, List.length_cons, List.length_nil, List.cons_append, List.nil_append, List.append_nil, List.replicate_succ, List.replicate_zero, List.not_mem_nil, List.mem_cons, if_true, if_false, ite_true, ite_false, Bool.true_and, Bool.and_true, Bool.not_true, Bool.not_false, Bool.false_eq_true, reduceIte, List.getElem?_cons_zero, List.getElem?_cons_succ, List.all_nil, List.all_cons, List.contains_nil, Option.map_some, Option.map_none, Option.bind_some, and_self, and_true, true_and, or_false, false_or, or_true, true_or, Nat.reduceAdd, Nat.reduceSub, Nat.reduceLT, Nat.reduceLeDiff, Nat.reduceEqDiff, Nat.zero_add, eq_self, true_implies, not_false_eq_true, not_true_eq_false, Nat.lt_irrefl, Nat.succ_ne_zero, Nat.lt_add_one, ne_eq, Int.reduceEq, Int.reduceNe, decide_true, decide_false, Nat.zero_lt_succ, Bool.not_eq_true', decide_not, Nat.add_one_ne_zero, Nat.zero_le, Nat.le_refl, Bool.or_true, Bool.or_false, Bool.true_or, Bool.false_or, Bool.and_false, Bool.false_and, Nat.reduceMul, isiB, String.reduceBEq, Bool.or_self, Bool.and_self, reduceCtorEq, isSS, List.contains_cons, Nat.reduceBEq, ix_ll, eq_ln, ne_ln, List.length_map, List.length_range, Int.reduceToNat, Int.reducePow, Int.reduceMul, Int.reduceAdd, Int.reduceSub, Int.reduceNeg, Int.reduceLE, Int.reduceLT, Int.toNat_natCast, Bool.and_eq_true, Bool.or_eq_true, decide_eq_true_eq, Bool.decide_eq_true, rep_d, List.length_append, List.length_reverse, map_snoc, map_app, Int.sub_zero, List.append_assoc, ite_self, ev_storeT, kv_storeT, kv_storeT2, keyI_p, isMk_mk, Option.bind, pn, cl, rl, ls, List.map_cons, List.map_nil] <;> rfl
      · rw [crsM_at, crsM_at]; omega) 3000 (crsS ms p 0) ⟨0, by omega, rfl⟩ (by rw [crsM_at]; omega)
  obtain ⟨e', q1, rfl⟩ := q
  have cl := crsE_len ms p N
  have g := getT_p (find_some (i := N) C.lt C.bk.symm (fun j hj => fun e => C.nd j B hj C.lt (e.trans C.bk)))
  have q0 : wLoop t_course_of_1 w_course_of_1 3000 [.v (.list (ms.map .int)), .v (ptE p), .own (.list []), .own (.dict [mkT])] = .ok .nx (crsS ms p N) := q1
  unfold crsS at q0
  unfold m_course_of b_course_of
  simp (disch := first | assumption | omega | decide) only [ev0, ev1, ev2, ev3, ev4, ev5, ev6, dList, dTup, mutS, borS, argsD, nodupB, putM, frzN, safeOp, safeD, safeDs, wipeE, restore, argCells, List.getD_cons_zero, List.getD_cons_succ, List.set_cons_zero, List.set_cons_succ, List.length_cons, List.length_nil, List.cons_append, List.nil_append, List.append_nil, List.replicate_succ, List.replicate_zero, List.not_mem_nil, List.mem_cons, if_true, if_false, ite_true, ite_false, Bool.true_and, Bool.and_true, Bool.not_true, Bool.not_false, Bool.false_eq_true, reduceIte, List.getElem?_cons_zero, List.getElem?_cons_succ, List.all_nil, List.all_cons, List.contains_nil, Option.map_some, Option.map_none, Option.bind_some, and_self, and_true, true_and, or_false, false_or, or_true, true_or, Nat.reduceAdd, Nat.reduceSub, Nat.reduceLT, Nat.reduceLeDiff, Nat.reduceEqDiff, Nat.zero_add, eq_self, true_implies, not_false_eq_true, not_true_eq_false, Nat.lt_irrefl, Nat.succ_ne_zero, Nat.lt_add_one, ne_eq, Int.reduceEq, Int.reduceNe, decide_true, decide_false, Nat.zero_lt_succ, Bool.not_eq_true', decide_not, Nat.add_one_ne_zero, Nat.zero_le, Nat.le_refl, Bool.or_true, Bool.or_false, Bool.true_or, Bool.false_or, Bool.and_false, Bool.false_and, Nat.reduceMul, isiB, String.reduceBEq, Bool.or_self, Bool.and_self, reduceCtorEq, isSS, List.contains_cons, Nat.reduceBEq, ix_ll, eq_ln, ne_ln, List.length_map, List.length_range, Int.reduceToNat, Int.reducePow, Int.reduceMul, Int.reduceAdd, Int.reduceSub, Int.reduceNeg, Int.reduceLE, Int.reduceLT, Int.toNat_natCast, Bool.and_eq_true, Bool.or_eq_true, decide_eq_true_eq, Bool.decide_eq_true, rep_d, List.length_append, List.length_reverse, map_snoc, map_app, Int.sub_zero, List.append_assoc, ite_self, ev_dict0T, q0, g]
theorem l_course_eq (hm : InR n ms) (h1 : 1 ≤ n) (h2 : n ≤ 1000) (hp : RdP p) (hB : p.2 < 10 ^ 100) {N B : Nat} (C : Crs ms p N B) (hN : N < 3000) : m_l_course [.list (ms.map .int), ptE p] = .ok (.val (.tuple [.list ((rgO ms p N).map ptE), .int (B : Nat)])) [] := by
  have q := while_nx (t := t_l_course_1) (s := w_l_course_1) (fun e => ∃ i, i ≤ N ∧ e = crsS ms p i) (crsM N) (fun e => e = crsS ms p N) (fun e h => by
    obtain ⟨i, hi, rfl⟩ := h
    have cl := crsE_len ms p i
    have rl := rgO_len ms p i
    have r1 := (red_orb (ms := ms) hp i).2
    have d1 := Int.le_of_dvd hp.2 (orb_dvd hm h1 hp i)
    have ls := l_straight_eq hm h1 h2 (orb ms p i).1 (orb ms p i).2 r1 (by omega)
    have ls : m_l_straight [.list (ms.map .int), ptE (orb ms p i)] = .ok (.val (ptE (orb ms p (i + 1)))) [] := ls
    by_cases c : i = N
    · subst c
      have f := find_some (i := i) C.lt C.bk.symm (fun j hj => fun e => C.nd j B hj C.lt (e.trans C.bk))
      refine .inl ⟨crsS ms p i, ?_, rfl⟩
      unfold t_l_course_1 crsS
      simp (disch := first | assumption | omega | decide) only [ev0, ev1, ev2, ev3, ev4, ev5, ev6, dList, dTup, mutS, borS, argsD, nodupB, putM, frzN, safeOp, safeD, safeDs, wipeE, restore, argCells, List.getD_cons_zero, List.getD_cons_succ, List.set_cons_zero, List.set_cons_succ, List.length_cons, List.length_nil, List.cons_append, List.nil_append, List.append_nil, List.replicate_succ, List.replicate_zero, List.not_mem_nil, List.mem_cons, if_true, if_false, ite_true, ite_false, Bool.true_and, Bool.and_true, Bool.not_true, Bool.not_false, Bool.false_eq_true, reduceIte, List.getElem?_cons_zero, List.getElem?_cons_succ, List.all_nil, List.all_cons, List.contains_nil, Option.map_some, Option.map_none, Option.bind_some, and_self, and_true, true_and, or_false, false_or, or_true, true_or, Nat.reduceAdd, Nat.reduceSub, Nat.reduceLT, Nat.reduceLeDiff, Nat.reduceEqDiff, Nat.zero_add, eq_self, true_implies, not_false_eq_true, not_true_eq_false, Nat.lt_irrefl, Nat.succ_ne_zero, Nat.lt_add_one, ne_eq, Int.reduceEq, Int.reduceNe, decide_true, decide_false, Nat.zero_lt_succ, Bool.not_eq_true', decide_not, Nat.add_one_ne_zero, Nat.zero_le, Nat.le_refl, Bool.or_true, Bool.or_false, Bool.true_or, Bool.false_or, Bool.and_false, Bool.false_and, Nat.reduceMul, isiB, String.reduceBEq, Bool.or_self, Bool.and_self, reduceCtorEq, isSS, List.contains_cons, Nat.reduceBEq, ix_ll, eq_ln, ne_ln, List.length_map, List.length_range, Int.reduceToNat, Int.reducePow, Int.reduceMul, Int.reduceAdd, Int.reduceSub, Int.reduceNeg, Int.reduceLE, Int.reduceLT, Int.toNat_natCast, Bool.and_eq_true, Bool.or_eq_true, decide_eq_true_eq, Bool.decide_eq_true, rep_d, List.length_append, List.length_reverse, map_snoc, map_app, Int.sub_zero, List.append_assoc, ite_self, inT_p, f, Option.isSome] <;> rfl
    · have f := find_none (i := i) (q := orb ms p i) (fun j hj => C.nd j i hj (by omega))
      have pn := put_new (i := i) (fun j hj => C.nd j i hj (by omega))
      refine .inr ⟨crsS ms p i, crsS ms p (i + 1), ?_, ?_, ⟨i + 1, by omega, rfl⟩, ?_⟩
      · unfold t_l_course_1 crsS
        simp (disch := first | assumption | omega | decide) only [ev0, ev1, ev2, ev3, ev4, ev5, ev6, dList, dTup, mutS, borS, argsD, nodupB, putM, frzN, safeOp, safeD, safeDs, wipeE, restore, argCells, List.getD_cons_zero, List.getD_cons_succ, List.set_cons_zero, List.set_cons_succ, List.length_cons, List.length_nil, List.cons_append, List.nil_append, List.append_nil, List.replicate_succ, List.replicate_zero, List.not_mem_nil, List.mem_cons, if_true, if_false, ite_true, ite_false, Bool.true_and, Bool.and_true, Bool.not_true, Bool.not_false, Bool.false_eq_true, reduceIte, List.getElem?_cons_zero, List.getElem?_cons_succ, List.all_nil, List.all_cons, List.contains_nil, Option.map_some, Option.map_none, Option.bind_some, and_self, and_true, true_and, or_false, false_or, or_true, true_or, Nat.reduceAdd, Nat.reduceSub, Nat.reduceLT, Nat.reduceLeDiff, Nat.reduceEqDiff, Nat.zero_add, eq_self, true_implies, not_false_eq_true, not_true_eq_false, Nat.lt_irrefl, Nat.succ_ne_zero, Nat.lt_add_one, ne_eq, Int.reduceEq, Int.reduceNe, decide_true, decide_false, Nat.zero_lt_succ, Bool.not_eq_true', decide_not, Nat.add_one_ne_zero, Nat.zero_le, Nat.le_refl, Bool.or_true, Bool.or_false, Bool.true_or, Bool.false_or, Bool.and_false, Bool.false_and, Nat.reduceMul, isiB, String.reduceBEq, Bool.or_self, Bool.and_self, reduceCtorEq, isSS, List.contains_cons, Nat.reduceBEq, ix_ll, eq_ln, ne_ln, List.length_map, List.length_range, Int.reduceToNat, Int.reducePow, Int.reduceMul, Int.reduceAdd, Int.reduceSub, Int.reduceNeg, Int.reduceLE, Int.reduceLT, Int.toNat_natCast, Bool.and_eq_true, Bool.or_eq_true, decide_eq_true_eq, Bool.decide_eq_true, rep_d, List.length_append, List.length_reverse, map_snoc, map_app, Int.sub_zero, List.append_assoc, ite_self, inT_p, f, Option.isSome] <;> rfl
      · unfold w_l_course_1 crsS
        rw [rgO_succ, List.map_append]
        simp (disch := first | assumption | omega | decide) only [ev0, ev1, ev2, ev3, ev4, ev5, ev6, dList, dTup, mutS, borS, argsD, nodupB, putM, frzN, safeOp, safeD, safeDs, wipeE, restore, argCells, List.getD_cons_zero, List.getD_cons_succ, List.set_cons_zero, List.set_cons_succ, List.length_cons, List.length_nil, List.cons_append, List.nil_append, List.append_nil, List.replicate_succ, List.replicate_zero, List.not_mem_nil, List.mem_cons, if_true, if_false, ite_true, ite_false, Bool.true_and, Bool.and_true, Bool.not_true, Bool.not_false, Bool.false_eq_true, reduceIte, List.getElem?_cons_zero, List.getElem?_cons_succ, List.all_nil, List.all_cons, List.contains_nil, Option.map_some, Option.map_none, Option.bind_some, and_self, and_true, true_and, or_false, false_or, or_true, true_or, Nat.reduceAdd, Nat.reduceSub, Nat.reduceLT, Nat.reduceLeDiff, Nat.reduceEqDiff, Nat.zero_add, eq_self, true_implies, not_false_eq_true, not_true_eq_false, Nat.lt_irrefl, Nat.succ_ne_zero, Nat.lt_add_one, ne_eq, Int.reduceEq, Int.reduceNe, decide_true, decide_false, Nat.zero_lt_succ, Bool.not_eq_true', decide_not, Nat.add_one_ne_zero, Nat.zero_le, Nat.le_refl, Bool.or_true, Bool.or_false, Bool.true_or, Bool.false_or, Bool.and_false, Bool.false_and, Nat.reduceMul, isiB, String.reduceBEq, Bool.or_self, Bool.and_self, reduceCtorEq, isSS, List.contains_cons, Nat.reduceBEq, ix_ll, eq_ln, ne_ln, List.length_map, List.length_range, Int.reduceToNat, Int.reducePow, Int.reduceMul, Int.reduceAdd, Int.reduceSub, Int.reduceNeg, Int.reduceLE, Int.reduceLT, Int.toNat_natCast, Bool.and_eq_true, Bool.or_eq_true, decide_eq_true_eq, Bool.decide_eq_true, rep_d, List.length_append, List.length_reverse, map_snoc, map_app, Int.sub_zero, List.append_assoc, ite_self, ev_storeT, kv_storeT, kv_storeT2, keyI_p, isMk_mk, Option.bind, pn, cl, rl, ls, List.map_cons, List.map_nil] <;> rfl
      · rw [crsM_at, crsM_at]; omega) 3000 (crsS ms p 0) ⟨0, by omega, rfl⟩ (by rw [crsM_at]; omega)
  obtain ⟨e', q1, rfl⟩ := q
  have cl := crsE_len ms p N
  have g := getT_p (find_some (i := N) C.lt C.bk.symm (fun j hj => fun e => C.nd j B hj C.lt (e.trans C.bk)))
  have q0 : wLoop t_l_course_1 w_l_course_1 3000 [.v (.list (ms.map .int)), .v (ptE p), .own (.list []), .own (.dict [mkT])] = .ok .nx (crsS ms p N) := q1
  unfold crsS at q0
  unfold m_l_course b_l_course
  simp (disch := first | assumption | omega | decide) only [ev0, ev1, ev2, ev3, ev4, ev5, ev6, dList, dTup, mutS, borS, argsD, nodupB, putM, frzN, safeOp, safeD, safeDs, wipeE, restore, argCells, List.getD_cons_zero, List.getD_cons_succ, List.set_cons_zero, List.set_cons_succ, List.length_cons, List.length_nil, List.cons_append, List.nil_append, List.append_nil, List.replicate_succ, List.replicate_zero, List.not_mem_nil, List.mem_cons, if_true, if_false, ite_true, ite_false, Bool.true_and, Bool.and_true, Bool.not_true, Bool.not_false, Bool.false_eq_true, reduceIte, List.getElem?_cons_zero, List.getElem?_cons_succ, List.all_nil, List.all_cons, List.contains_nil, Option.map_some, Option.map_none, Option.bind_some, and_self, and_true, true_and, or_false, false_or, or_true, true_or, Nat.reduceAdd, Nat.reduceSub, Nat.reduceLT, Nat.reduceLeDiff, Nat.reduceEqDiff, Nat.zero_add, eq_self, true_implies, not_false_eq_true, not_true_eq_false, Nat.lt_irrefl, Nat.succ_ne_zero, Nat.lt_add_one, ne_eq, Int.reduceEq, Int.reduceNe, decide_true, decide_false, Nat.zero_lt_succ, Bool.not_eq_true', decide_not, Nat.add_one_ne_zero, Nat.zero_le, Nat.le_refl, Bool.or_true, Bool.or_false, Bool.true_or, Bool.false_or, Bool.and_false, Bool.false_and, Nat.reduceMul, isiB, String.reduceBEq, Bool.or_self, Bool.and_self, reduceCtorEq, isSS, List.contains_cons, Nat.reduceBEq, ix_ll, eq_ln, ne_ln, List.length_map, List.length_range, Int.reduceToNat, Int.reducePow, Int.reduceMul, Int.reduceAdd, Int.reduceSub, Int.reduceNeg, Int.reduceLE, Int.reduceLT, Int.toNat_natCast, Bool.and_eq_true, Bool.or_eq_true, decide_eq_true_eq, Bool.decide_eq_true, rep_d, List.length_append, List.length_reverse, map_snoc, map_app, Int.sub_zero, List.append_assoc, ite_self, ev_dict0T, q0, g]
end
end Pg
namespace Pg
open PySem PySem.Spec PyProof.Rows L2 T3
section
variable {n : Nat} {ms : List Int} {p q : Int × Int}
theorem rd_lw {t b : Int} (hb : 0 < b) : RdP (lw t b) := ⟨lw_idem hb, (lw_pos hb).1⟩
theorem lowest_pt {t b : Int} (hb : 0 < b) (hB : b < 10 ^ 120) : m_lowest_terms [.int t, .int b] = .ok (.val (ptE (lw t b))) [] := lowest_eq t b hb hB
theorem l_lowest_pt {t b : Int} (hb : 0 < b) (hB : b < 10 ^ 120) : m_l_lowest [.int t, .int b] = .ok (.val (ptE (lw t b))) [] := l_lowest_eq t b hb hB
theorem rgO_at {N i : Nat} (h : i < N) : ((rgO ms p N).map ptE)[i]? = some (ptE (orb ms p i)) := by
  unfold rgO
  rw [List.getElem?_map, List.getElem?_map, List.getElem?_range h]; rfl
theorem need_ticks_eq {k : Int} (h0 : 0 ≤ k) (h1 : k ≤ 1000000000000000000000000000000) : m_need_ticks [.int k, .int 0, .int 1000000000000000000000000000000] = .ok (.val .none) [] := by
  have a := isint_eq (.int k) 0 1000000000000000000000000000000
  have e : irD 0 1000000000000000000000000000000 (.int k) = true := by
    show (decide (0 ≤ k) && decide (k ≤ 1000000000000000000000000000000)) = true
    rw [decide_eq_true h0, decide_eq_true h1]; rfl
  rw [e] at a
  unfold m_need_ticks b_need_ticks
  simp (disch := first | assumption | omega | decide) only [ev0, ev1, ev2, ev3, ev4, ev5, ev6, dList, dTup, mutS, borS, argsD, nodupB, putM, frzN, safeOp, safeD, safeDs, wipeE, restore, argCells, List.getD_cons_zero, List.getD_cons_succ, List.set_cons_zero, List.set_cons_succ, List.length_cons, List.length_nil, List.cons_append, List.nil_append, List.append_nil, List.replicate_succ, List.replicate_zero, List.not_mem_nil, List.mem_cons, if_true, if_false, ite_true, ite_false, Bool.true_and, Bool.and_true, Bool.not_true, Bool.not_false, Bool.false_eq_true, reduceIte, List.getElem?_cons_zero, List.getElem?_cons_succ, List.all_nil, List.all_cons, List.contains_nil, Option.map_some, Option.map_none, Option.bind_some, and_self, and_true, true_and, or_false, false_or, or_true, true_or, Nat.reduceAdd, Nat.reduceSub, Nat.reduceLT, Nat.reduceLeDiff, Nat.reduceEqDiff, Nat.zero_add, eq_self, true_implies, not_false_eq_true, not_true_eq_false, Nat.lt_irrefl, Nat.succ_ne_zero, Nat.lt_add_one, ne_eq, Int.reduceEq, Int.reduceNe, decide_true, decide_false, Nat.zero_lt_succ, Bool.not_eq_true', decide_not, Nat.add_one_ne_zero, Nat.zero_le, Nat.le_refl, Bool.or_true, Bool.or_false, Bool.true_or, Bool.false_or, Bool.and_false, Bool.false_and, Nat.reduceMul, isiB, String.reduceBEq, Bool.or_self, Bool.and_self, reduceCtorEq, isSS, List.contains_cons, Nat.reduceBEq, ix_ll, eq_ln, ne_ln, List.length_map, List.length_range, Int.reduceToNat, Int.reducePow, Int.reduceMul, Int.reduceAdd, Int.reduceSub, Int.reduceNeg, Int.reduceLE, Int.reduceLT, Int.toNat_natCast, Bool.and_eq_true, Bool.or_eq_true, decide_eq_true_eq, Bool.decide_eq_true, rep_d, List.length_append, List.length_reverse, map_snoc, map_app, Int.sub_zero, List.append_assoc, ite_self, a]
theorem moved_far_eq (hm : InR n ms) (h1 : 1 ≤ n) (h2 : n ≤ 12) {t b k : Int} (hb : 0 < b) (hB : b < 10 ^ 100) {N B : Nat} (C : Crs ms (lw t b) N B) (hN : N < 3000) (k0 : 0 ≤ k) (k1 : k ≤ 1000000000000000000000000000000) :
    m_moved_far [.list (ms.map .int), Pt t b, .int k] = .ok (.val (ptE (orb ms (lw t b) k.toNat))) [] := by
  have tb := hm.tb h1 h2
  have nm := need_moves_eq (.list (ms.map .int))
  rw [if_pos tb] at nm
  have np := need_point_eq t b hb
  have nt := need_ticks_eq k0 k1
  have lo := lowest_pt (t := t) hb (show b < 10 ^ 120 by omega)
  have co := course_eq hm h1 (by omega) (rd_lw hb) (Int.lt_of_le_of_lt (lw_pos hb).2 hB) C hN
  have rl := rgO_len ms (lw t b) N
  have lt := C.lt
  unfold Pt at np ⊢
  by_cases c : k < N
  · have ix := ix_d (ds := (rgO ms (lw t b) N).map ptE) k0 (rgO_at (show k.toNat < N by omega))
    unfold m_moved_far b_moved_far
    simp (disch := first | assumption | omega | decide) only [ev0, ev1, ev2, ev3, ev4, ev5, ev6, dList, dTup, mutS, borS, argsD, nodupB, putM, frzN, safeOp, safeD, safeDs, wipeE, restore, argCells, List.getD_cons_zero, List.getD_cons_succ, List.set_cons_zero, List.set_cons_succ, List.length_cons, List.length_nil, List.cons_append, List.nil_append, List.append_nil, List.replicate_succ, List.replicate_zero, List.not_mem_nil, List.mem_cons, if_true, if_false, ite_true, ite_false, Bool.true_and, Bool.and_true, Bool.not_true, Bool.not_false, Bool.false_eq_true, reduceIte, List.getElem?_cons_zero, List.getElem?_cons_succ, List.all_nil, List.all_cons, List.contains_nil, Option.map_some, Option.map_none, Option.bind_some, and_self, and_true, true_and, or_false, false_or, or_true, true_or, Nat.reduceAdd, Nat.reduceSub, Nat.reduceLT, Nat.reduceLeDiff, Nat.reduceEqDiff, Nat.zero_add, eq_self, true_implies, not_false_eq_true, not_true_eq_false, Nat.lt_irrefl, Nat.succ_ne_zero, Nat.lt_add_one, ne_eq, Int.reduceEq, Int.reduceNe, decide_true, decide_false, Nat.zero_lt_succ, Bool.not_eq_true', decide_not, Nat.add_one_ne_zero, Nat.zero_le, Nat.le_refl, Bool.or_true, Bool.or_false, Bool.true_or, Bool.false_or, Bool.and_false, Bool.false_and, Nat.reduceMul, isiB, String.reduceBEq, Bool.or_self, Bool.and_self, reduceCtorEq, isSS, List.contains_cons, Nat.reduceBEq, ix_ll, eq_ln, ne_ln, List.length_map, List.length_range, Int.reduceToNat, Int.reducePow, Int.reduceMul, Int.reduceAdd, Int.reduceSub, Int.reduceNeg, Int.reduceLE, Int.reduceLT, Int.toNat_natCast, Bool.and_eq_true, Bool.or_eq_true, decide_eq_true_eq, Bool.decide_eq_true, rep_d, List.length_append, List.length_reverse, map_snoc, map_app, Int.sub_zero, List.append_assoc, ite_self, nm, np, nt, lo, co, rl, c, ix]
  · have e := C.at (k := k.toNat) (by omega)
    have hmod := Nat.mod_lt (k.toNat - B) (show 0 < N - B by omega)
    have ex : (B : Int) + (k - B) % ((N : Int) - B) = ((B + (k.toNat - B) % (N - B) : Nat) : Int) := by
      rw [Int.natCast_add, Int.natCast_emod, Int.natCast_sub (by omega), Int.natCast_sub (by omega), Int.toNat_of_nonneg k0]
    have ix := ix_d (ds := (rgO ms (lw t b) N).map ptE) (i := ((B + (k.toNat - B) % (N - B) : Nat) : Int)) (by omega) (rgO_at (show ((B + (k.toNat - B) % (N - B) : Nat) : Int).toNat < N by omega))
    rw [Int.toNat_natCast, ← e] at ix
    unfold m_moved_far b_moved_far
    simp (disch := first | assumption | omega | decide) only [ev0, ev1, ev2, ev3, ev4, ev5, ev6, dList, dTup, mutS, borS, argsD, nodupB, putM, frzN, safeOp, safeD, safeDs, wipeE, restore, argCells, List.getD_cons_zero, List.getD_cons_succ, List.set_cons_zero, List.set_cons_succ, List.length_cons, List.length_nil, List.cons_append, List.nil_append, List.append_nil, List.replicate_succ, List.replicate_zero, List.not_mem_nil, List.mem_cons, if_true, if_false, ite_true, ite_false, Bool.true_and, Bool.and_true, Bool.not_true, Bool.not_false, Bool.false_eq_true, reduceIte, List.getElem?_cons_zero, List.getElem?_cons_succ, List.all_nil, List.all_cons, List.contains_nil, Option.map_some, Option.map_none, Option.bind_some, and_self, and_true, true_and, or_false, false_or, or_true, true_or, Nat.reduceAdd, Nat.reduceSub, Nat.reduceLT, Nat.reduceLeDiff, Nat.reduceEqDiff, Nat.zero_add, eq_self, true_implies, not_false_eq_true, not_true_eq_false, Nat.lt_irrefl, Nat.succ_ne_zero, Nat.lt_add_one, ne_eq, Int.reduceEq, Int.reduceNe, decide_true, decide_false, Nat.zero_lt_succ, Bool.not_eq_true', decide_not, Nat.add_one_ne_zero, Nat.zero_le, Nat.le_refl, Bool.or_true, Bool.or_false, Bool.true_or, Bool.false_or, Bool.and_false, Bool.false_and, Nat.reduceMul, isiB, String.reduceBEq, Bool.or_self, Bool.and_self, reduceCtorEq, isSS, List.contains_cons, Nat.reduceBEq, ix_ll, eq_ln, ne_ln, List.length_map, List.length_range, Int.reduceToNat, Int.reducePow, Int.reduceMul, Int.reduceAdd, Int.reduceSub, Int.reduceNeg, Int.reduceLE, Int.reduceLT, Int.toNat_natCast, Bool.and_eq_true, Bool.or_eq_true, decide_eq_true_eq, Bool.decide_eq_true, rep_d, List.length_append, List.length_reverse, map_snoc, map_app, Int.sub_zero, List.append_assoc, ite_self, nm, np, nt, lo, co, rl, c, ex, ix]
/-- so far the least one -/
structure Lst (ms : List Int) (p : Int × Int) (B i m : Nat) : Prop where
  lt : m ≤ i
  le : ∀ j, j ≤ i → j < i → plt (orb ms p (B + j)) (orb ms p (B + m)) = false
theorem Lst.new {B i m : Nat} (hp : RdP p) (L : Lst ms p B i m) (h : plt (orb ms p (B + i)) (orb ms p (B + m)) = true) : Lst ms p B (i + 1) i := by
  refine ⟨by omega, fun j _ hj => ?_⟩
  by_cases c : j = i
  · subst c; exact plt_irr _
  · have a := L.le j (by omega) (by omega)
    cases hb : plt (orb ms p (B + j)) (orb ms p (B + i)) with
    | false => rfl
    | true =>
      have := plt_trans (red_orb hp _).2 (red_orb hp _).2 (red_orb hp _).2 hb h
      rw [this] at a; cases a
theorem Lst.old {B i m : Nat} (L : Lst ms p B i m) (h : plt (orb ms p (B + i)) (orb ms p (B + m)) = false) : Lst ms p B (i + 1) m := by
  have := L.lt
  refine ⟨by omega, fun j _ hj => ?_⟩
  by_cases c : j = i
  · subst c; exact h
  · exact L.le j (by omega) (by omega)
theorem Lst.end' {N B m : Nat} (C : Crs ms p N B) (L : Lst ms p B (N - B) m) (hm : m < N - B) : IsEnd ms p (N - B) (orb ms p (B + m)) :=
  C.end' hm fun j hj => L.le j (by omega) hj
theorem rgO_drop {N B : Nat} (h : B ≤ N) : (rgO ms p N).drop B = rgO ms (orb ms p B) (N - B) := by
  unfold rgO
  refine List.ext_getElem? fun k => ?_
  rw [List.getElem?_drop, List.getElem?_map, List.getElem?_map]
  by_cases c : k < N - B
  · rw [List.getElem?_range c, List.getElem?_range (by omega)]
    show some (orb ms p (B + k)) = some (orb ms (orb ms p B) k)
    rw [orb_add]
  · rw [List.getElem?_eq_none (by rw [List.length_range]; omega), List.getElem?_eq_none (by rw [List.length_range]; omega)]; rfl
theorem rgO_rot {L m : Nat} (bk : orb ms p L = p) (h : m < L) : (rgO ms p L).drop m ++ (rgO ms p L).take m = rgO ms (orb ms p m) L := by
  refine List.ext_getElem? fun k => ?_
  unfold rgO
  by_cases c : k < L
  · rw [List.getElem?_map, List.getElem?_range c]
    show _ = some (orb ms (orb ms p m) k)
    rw [← orb_add]
    by_cases d : k < L - m
    · rw [List.getElem?_append_left (by rw [List.length_drop, List.length_map, List.length_range]; exact d), List.getElem?_drop, List.getElem?_map, List.getElem?_range (by omega)]; rfl
    · rw [List.getElem?_append_right (by rw [List.length_drop, List.length_map, List.length_range]; omega), List.length_drop, List.length_map, List.length_range, List.getElem?_take_of_lt (by omega), List.getElem?_map, List.getElem?_range (by omega)]
      show some (orb ms p (k - (L - m))) = _
      rw [show m + k = L + (k - (L - m)) by omega, orb_per bk]
  · rw [List.getElem?_eq_none (by rw [List.length_append, List.length_drop, List.length_take, List.length_map, List.length_range]; omega), List.getElem?_eq_none (by rw [List.length_map, List.length_range]; omega)]
theorem orb_bnd (hm : InR n ms) (h1 : 1 ≤ n) (h2 : n ≤ 12) (hp : RdP p) (hb : Bnd p) (i : Nat) : Bnd (orb ms p i) := by
  cases i with
  | zero => exact hb
  | succ i =>
    obtain ⟨a, b, c⟩ := mv_bd hm h1 (red_orb (ms := ms) hp i).2
    have e : mv1 ms (orb ms p i) = orb ms p (i + 1) := rfl
    rw [e] at a b
    have d := Int.le_of_dvd hp.2 (orb_dvd hm h1 hp (i + 1))
    have r := (red_orb (ms := ms) hp (i + 1)).2
    have := Int.mul_le_mul_of_nonneg_right (show (n : Int) - 1 ≤ 11 by omega) (show 0 ≤ (orb ms p (i + 1)).2 by omega)
    have hb2 := hb.2
    exact ⟨by omega, by omega⟩
theorem bnd_big {p : Int × Int} (h : Bnd p) (r : 0 < p.2) : Big p.1 ∧ Big p.2 := by
  obtain ⟨a, b⟩ := h
  exact ⟨big1200 (Nat.lt_trans a (Nat.pow_lt_pow_right (by decide) (by decide))), big1200 (by omega)⟩
theorem en_get {ds : List D} {i : Nat} {d : D} (h : (enumD ds)[i]? = some d) : ∃ x, ds[i]? = some x ∧ d = .tuple [.int (i : Int), x] := by
  unfold enumD at h
  rw [List.getElem?_zipWith] at h
  by_cases c : i < ds.length
  · rw [List.getElem?_range c, List.getElem?_eq_getElem c] at h
    exact ⟨_, List.getElem?_eq_getElem c, (Option.some.inj h).symm⟩
  · rw [List.getElem?_eq_none (l := ds) (by omega)] at h
    cases hr : (List.range ds.length)[i]? with
    | none => rw [hr] at h; cases h
    | some z => rw [hr] at h; cases h
theorem en_len (ds : List D) : (enumD ds).length = ds.length := by
  unfold enumD
  rw [List.length_zipWith, List.length_range, Nat.min_self]
theorem ring_at_end_eq (hm : InR n ms) (h1 : 1 ≤ n) (h2 : n ≤ 12) {t b : Int} (hb : 0 < b) (hB : b < 10 ^ 100) (ht : t.natAbs < 10 ^ 200) {N B : Nat} (C : Crs ms (lw t b) N B) (hN : N < 3000) {L : Nat} (E : IsEnd ms (lw t b) L q) :
    m_ring_at_end [.list (ms.map .int), Pt t b] = .ok (.new (.list ((rgO ms q L).map ptE))) [] := by
  have tb := hm.tb h1 h2
  have nm := need_moves_eq (.list (ms.map .int))
  rw [if_pos tb] at nm
  have np := need_point_eq t b hb
  have lo := lowest_pt (t := t) hb (show b < 10 ^ 120 by omega)
  have hp := rd_lw (t := t) hb
  have hpB := Int.lt_of_le_of_lt (lw_pos (t := t) hb).2 hB
  have hpb : Bnd (lw t b) := ⟨Nat.lt_of_le_of_lt (low_abs hb) ht, hpB⟩
  have co := course_eq hm h1 (by omega) hp hpB C hN
  have rl := rgO_len ms (lw t b) N
  generalize hpe : lw t b = p at *
  have lt := C.lt
  obtain ⟨e', lp, m, c6, c7, c8, rfl, mlt, hL⟩ := loop_inv (g := gTupM [gSlot 6, gTupM [gSlot 7, gSlot 8]]) (s := f_ring_at_end_1)
    (fun i e => ∃ (m : Nat) (c6 c7 c8 : Cell), e = [.v (.list (ms.map .int)), .v (Pt t b), .v (.list ((rgO ms p N).map ptE)), .v (.int (B : Int)), .v (.list ((rgO ms (orb ms p B) (N - B)).map ptE)), .v (.int (m : Int)), c6, c7, c8] ∧ m < N - B ∧ (Lst ms p B i m ∧ isPar c6 = false ∧ isPar c7 = false ∧ isPar c8 = false))
    (enumD ((rgO ms (orb ms p B) (N - B)).map ptE)) 0 [.v (.list (ms.map .int)), .v (Pt t b), .v (.list ((rgO ms p N).map ptE)), .v (.int (B : Int)), .v (.list ((rgO ms (orb ms p B) (N - B)).map ptE)), .v (.int 0), .no, .no, .no] ⟨0, _, _, _, rfl, by omega, ⟨by omega, fun j _ hj => by omega⟩, rfl, rfl, rfl⟩ (fun i d e hd hI => by
      obtain ⟨m, c6, c7, c8, rfl, mlt, hL, k6, k7, k8⟩ := hI
      rw [Nat.zero_add] at *
      obtain ⟨x, hx, rfl⟩ := en_get hd
      have hi : i < N - B := by
        have := (List.getElem?_eq_some_iff.mp hx).1
        rwa [List.length_map, rgO_len] at this
      rw [rgO_at hi] at hx
      have hx := (Option.some.inj hx).symm
      rw [← orb_add] at hx
      subst hx
      have ix := ix_d (ds := (rgO ms (orb ms p B) (N - B)).map ptE) (i := (m : Int)) (by omega) (by rw [Int.toNat_natCast]; exact rgO_at mlt)
      rw [← orb_add] at ix
      obtain ⟨b1, b2⟩ := bnd_big (orb_bnd hm h1 h2 hp hpb (B + i)) (red_orb (ms := ms) hp (B + i)).2
      obtain ⟨b3, b4⟩ := bnd_big (orb_bnd hm h1 h2 hp hpb (B + m)) (red_orb (ms := ms) hp (B + m)).2
      cases hc : plt (orb ms p (B + i)) (orb ms p (B + m)) with
      | true =>
        have n := hL.new hp hc
        have hc := plt_iff.mp hc
        generalize orb ms p (B + i) = u at *
        generalize orb ms p (B + m) = w at *
        exact ⟨_, by simp (disch := first | assumption | omega | decide) only [ev0, ev1, ev2, ev3, ev4, ev5, ev6, dList, dTup, mutS, borS, argsD, nodupB, putM, frzN, safeOp, safeD, safeDs, wipeE, restore, argCells, List.getD_cons_zero, List.getD_cons_succ, List.set_cons_zero, List.set_cons_succ, List.length_cons, List.length_nil, List.cons_append, List.nil_append, List.append_nil, List.replicate_succ, List.replicate_zero, List.not_mem_nil, List.mem_cons, if_true, if_false, ite_true, ite_false, Bool.true_and, Bool.and_true, Bool.not_true, Bool.not_false, Bool.false_eq_true, reduceIte, List.getElem?_cons_zero, List.getElem?_cons_succ, List.all_nil, List.all_cons, List.contains_nil, Option.map_some, Option.map_none, Option.bind_some, and_self, and_true, true_and, or_false, false_or, or_true, true_or, Nat.reduceAdd, Nat.reduceSub, Nat.reduceLT, Nat.reduceLeDiff, Nat.reduceEqDiff, Nat.zero_add, eq_self, true_implies, not_false_eq_true, not_true_eq_false, Nat.lt_irrefl, Nat.succ_ne_zero, Nat.lt_add_one, ne_eq, Int.reduceEq, Int.reduceNe, decide_true, decide_false, Nat.zero_lt_succ, Bool.not_eq_true', decide_not, Nat.add_one_ne_zero, Nat.zero_le, Nat.le_refl, Bool.or_true, Bool.or_false, Bool.true_or, Bool.false_or, Bool.and_false, Bool.false_and, Nat.reduceMul, isiB, String.reduceBEq, Bool.or_self, Bool.and_self, reduceCtorEq, isSS, List.contains_cons, Nat.reduceBEq, ix_ll, eq_ln, ne_ln, List.length_map, List.length_range, Int.reduceToNat, Int.reducePow, Int.reduceMul, Int.reduceAdd, Int.reduceSub, Int.reduceNeg, Int.reduceLE, Int.reduceLT, Int.toNat_natCast, Bool.and_eq_true, Bool.or_eq_true, decide_eq_true_eq, Bool.decide_eq_true, rep_d, List.length_append, List.length_reverse, map_snoc, map_app, Int.sub_zero, List.append_assoc, ite_self, k6, k7, k8] <;> rfl, _, .inl (by
          unfold f_ring_at_end_1
          simp (disch := first | assumption | omega | decide) only [ev0, ev1, ev2, ev3, ev4, ev5, ev6, dList, dTup, mutS, borS, argsD, nodupB, putM, frzN, safeOp, safeD, safeDs, wipeE, restore, argCells, List.getD_cons_zero, List.getD_cons_succ, List.set_cons_zero, List.set_cons_succ, List.length_cons, List.length_nil, List.cons_append, List.nil_append, List.append_nil, List.replicate_succ, List.replicate_zero, List.not_mem_nil, List.mem_cons, if_true, if_false, ite_true, ite_false, Bool.true_and, Bool.and_true, Bool.not_true, Bool.not_false, Bool.false_eq_true, reduceIte, List.getElem?_cons_zero, List.getElem?_cons_succ, List.all_nil, List.all_cons, List.contains_nil, Option.map_some, Option.map_none, Option.bind_some, and_self, and_true, true_and, or_false, false_or, or_true, true_or, Nat.reduceAdd, Nat.reduceSub, Nat.reduceLT, Nat.reduceLeDiff, Nat.reduceEqDiff, Nat.zero_add, eq_self, true_implies, not_false_eq_true, not_true_eq_false, Nat.lt_irrefl, Nat.succ_ne_zero, Nat.lt_add_one, ne_eq, Int.reduceEq, Int.reduceNe, decide_true, decide_false, Nat.zero_lt_succ, Bool.not_eq_true', decide_not, Nat.add_one_ne_zero, Nat.zero_le, Nat.le_refl, Bool.or_true, Bool.or_false, Bool.true_or, Bool.false_or, Bool.and_false, Bool.false_and, Nat.reduceMul, isiB, String.reduceBEq, Bool.or_self, Bool.and_self, reduceCtorEq, isSS, List.contains_cons, Nat.reduceBEq, ix_ll, eq_ln, ne_ln, List.length_map, List.length_range, Int.reduceToNat, Int.reducePow, Int.reduceMul, Int.reduceAdd, Int.reduceSub, Int.reduceNeg, Int.reduceLE, Int.reduceLT, Int.toNat_natCast, Bool.and_eq_true, Bool.or_eq_true, decide_eq_true_eq, Bool.decide_eq_true, rep_d, List.length_append, List.length_reverse, map_snoc, map_app, Int.sub_zero, List.append_assoc, ite_self, ix, hc] <;> rfl), i, _, _, _, rfl, hi, n, rfl, rfl, rfl⟩
      | false =>
        have n := hL.old hc
        have hc : ¬ _ := fun z => by rw [plt_iff.mpr z] at hc; cases hc
        generalize orb ms p (B + i) = u at *
        generalize orb ms p (B + m) = w at *
        exact ⟨_, by simp (disch := first | assumption | omega | decide) only [ev0, ev1, ev2, ev3, ev4, ev5, ev6, dList, dTup, mutS, borS, argsD, nodupB, putM, frzN, safeOp, safeD, safeDs, wipeE, restore, argCells, List.getD_cons_zero, List.getD_cons_succ, List.set_cons_zero, List.set_cons_succ, List.length_cons, List.length_nil, List.cons_append, List.nil_append, List.append_nil, List.replicate_succ, List.replicate_zero, List.not_mem_nil, List.mem_cons, if_true, if_false, ite_true, ite_false, Bool.true_and, Bool.and_true, Bool.not_true, Bool.not_false, Bool.false_eq_true, reduceIte, List.getElem?_cons_zero, List.getElem?_cons_succ, List.all_nil, List.all_cons, List.contains_nil, Option.map_some, Option.map_none, Option.bind_some, and_self, and_true, true_and, or_false, false_or, or_true, true_or, Nat.reduceAdd, Nat.reduceSub, Nat.reduceLT, Nat.reduceLeDiff, Nat.reduceEqDiff, Nat.zero_add, eq_self, true_implies, not_false_eq_true, not_true_eq_false, Nat.lt_irrefl, Nat.succ_ne_zero, Nat.lt_add_one, ne_eq, Int.reduceEq, Int.reduceNe, decide_true, decide_false, Nat.zero_lt_succ, Bool.not_eq_true', decide_not, Nat.add_one_ne_zero, Nat.zero_le, Nat.le_refl, Bool.or_true, Bool.or_false, Bool.true_or, Bool.false_or, Bool.and_false, Bool.false_and, Nat.reduceMul, isiB, String.reduceBEq, Bool.or_self, Bool.and_self, reduceCtorEq, isSS, List.contains_cons, Nat.reduceBEq, ix_ll, eq_ln, ne_ln, List.length_map, List.length_range, Int.reduceToNat, Int.reducePow, Int.reduceMul, Int.reduceAdd, Int.reduceSub, Int.reduceNeg, Int.reduceLE, Int.reduceLT, Int.toNat_natCast, Bool.and_eq_true, Bool.or_eq_true, decide_eq_true_eq, Bool.decide_eq_true, rep_d, List.length_append, List.length_reverse, map_snoc, map_app, Int.sub_zero, List.append_assoc, ite_self, k6, k7, k8] <;> rfl, _, .inl (by
          unfold f_ring_at_end_1
          simp (disch := first | assumption | omega | decide) only [ev0, ev1, ev2, ev3, ev4, ev5, ev6, dList, dTup, mutS, borS, argsD, nodupB, putM, frzN, safeOp, safeD, safeDs, wipeE, restore, argCells, List.getD_cons_zero, List.getD_cons_succ, List.set_cons_zero, List.set_cons_succ, List.length_cons, List.length_nil, List.cons_append, List.nil_append, List.append_nil, List.replicate_succ, List.replicate_zero, List.not_mem_nil, List.mem_cons, if_true, if_false, ite_true, ite_false, Bool.true_and, Bool.and_true, Bool.not_true, Bool.not_false, Bool.false_eq_true, reduceIte, List.getElem?_cons_zero, List.getElem?_cons_succ, List.all_nil, List.all_cons, List.contains_nil, Option.map_some, Option.map_none, Option.bind_some, and_self, and_true, true_and, or_false, false_or, or_true, true_or, Nat.reduceAdd, Nat.reduceSub, Nat.reduceLT, Nat.reduceLeDiff, Nat.reduceEqDiff, Nat.zero_add, eq_self, true_implies, not_false_eq_true, not_true_eq_false, Nat.lt_irrefl, Nat.succ_ne_zero, Nat.lt_add_one, ne_eq, Int.reduceEq, Int.reduceNe, decide_true, decide_false, Nat.zero_lt_succ, Bool.not_eq_true', decide_not, Nat.add_one_ne_zero, Nat.zero_le, Nat.le_refl, Bool.or_true, Bool.or_false, Bool.true_or, Bool.false_or, Bool.and_false, Bool.false_and, Nat.reduceMul, isiB, String.reduceBEq, Bool.or_self, Bool.and_self, reduceCtorEq, isSS, List.contains_cons, Nat.reduceBEq, ix_ll, eq_ln, ne_ln, List.length_map, List.length_range, Int.reduceToNat, Int.reducePow, Int.reduceMul, Int.reduceAdd, Int.reduceSub, Int.reduceNeg, Int.reduceLE, Int.reduceLT, Int.toNat_natCast, Bool.and_eq_true, Bool.or_eq_true, decide_eq_true_eq, Bool.decide_eq_true, rep_d, List.length_append, List.length_reverse, map_snoc, map_app, Int.sub_zero, List.append_assoc, ite_self, ix, hc] <;> rfl), m, _, _, _, rfl, mlt, n, rfl, rfl, rfl⟩)
  rw [Nat.zero_add, en_len, List.length_map, rgO_len] at hL
  obtain ⟨eL, eq⟩ := (hL.1.end' C mlt).uniq hp E
  have bk : orb ms (orb ms p B) (N - B) = orb ms p B := by
    rw [← orb_add, show B + (N - B) = N by omega]; exact C.bk
  have rr : ((rgO ms (orb ms p B) (N - B)).map ptE).drop m ++ ((rgO ms (orb ms p B) (N - B)).map ptE).take m = (rgO ms q L).map ptE := by
    rw [← List.map_drop, ← List.map_take, ← List.map_append, rgO_rot bk mlt, ← orb_add, eq, eL]
  have dr : ((rgO ms p N).map ptE).drop B = (rgO ms (orb ms p B) (N - B)).map ptE := by
    rw [← List.map_drop, rgO_drop (by omega)]
  have rl2 := rgO_len ms (orb ms p B) (N - B)
  have ld : (((rgO ms (orb ms p B) (N - B)).map ptE).drop m).length ≤ 3000 := by rw [List.length_drop, List.length_map, rl2]; omega
  have lt' : (((rgO ms (orb ms p B) (N - B)).map ptE).take m).length ≤ 3000 := by rw [List.length_take, List.length_map, rl2]; omega
  unfold Pt at np lp ⊢
  unfold m_ring_at_end b_ring_at_end
  simp (disch := first | assumption | omega | decide) only [ev0, ev1, ev2, ev3, ev4, ev5, ev6, dList, dTup, mutS, borS, argsD, nodupB, putM, frzN, safeOp, safeD, safeDs, wipeE, restore, argCells, List.getD_cons_zero, List.getD_cons_succ, List.set_cons_zero, List.set_cons_succ, List.length_cons, List.length_nil, List.cons_append, List.nil_append, List.append_nil, List.replicate_succ, List.replicate_zero, List.not_mem_nil, List.mem_cons, if_true, if_false, ite_true, ite_false, Bool.true_and, Bool.and_true, Bool.not_true, Bool.not_false, Bool.false_eq_true, reduceIte, List.getElem?_cons_zero, List.getElem?_cons_succ, List.all_nil, List.all_cons, List.contains_nil, Option.map_some, Option.map_none, Option.bind_some, and_self, and_true, true_and, or_false, false_or, or_true, true_or, Nat.reduceAdd, Nat.reduceSub, Nat.reduceLT, Nat.reduceLeDiff, Nat.reduceEqDiff, Nat.zero_add, eq_self, true_implies, not_false_eq_true, not_true_eq_false, Nat.lt_irrefl, Nat.succ_ne_zero, Nat.lt_add_one, ne_eq, Int.reduceEq, Int.reduceNe, decide_true, decide_false, Nat.zero_lt_succ, Bool.not_eq_true', decide_not, Nat.add_one_ne_zero, Nat.zero_le, Nat.le_refl, Bool.or_true, Bool.or_false, Bool.true_or, Bool.false_or, Bool.and_false, Bool.false_and, Nat.reduceMul, isiB, String.reduceBEq, Bool.or_self, Bool.and_self, reduceCtorEq, isSS, List.contains_cons, Nat.reduceBEq, ix_ll, eq_ln, ne_ln, List.length_map, List.length_range, Int.reduceToNat, Int.reducePow, Int.reduceMul, Int.reduceAdd, Int.reduceSub, Int.reduceNeg, Int.reduceLE, Int.reduceLT, Int.toNat_natCast, Bool.and_eq_true, Bool.or_eq_true, decide_eq_true_eq, Bool.decide_eq_true, rep_d, List.length_append, List.length_reverse, map_snoc, map_app, Int.sub_zero, List.append_assoc, ite_self, nm, np, lo, co, rl, dr, lp, rr, Int.toNat_natCast]
end
end Pg
namespace Pg
open PySem PySem.Spec PyProof.Rows L2 T3
section
variable {n : Nat} {ms : List Int} {p q : Int × Int}
theorem safe_pts9 : ∀ ps : List (Int × Int), safeDs (ps.map ptE) = true
  | [] => rfl
  | p :: ps => by simp [safeDs, safeD, safe_pts9 ps]
theorem pts_plain : ∀ (ps : List (Int × Int)), (∀ p ∈ ps, Bnd p ∧ 0 < p.2) → plainDs (ps.map ptE) = true ∧ wtDs (ps.map ptE) = 3 * ps.length ∧ PyData.depthAll (ps.map ptE) ≤ 1
  | [], _ => ⟨rfl, rfl, by decide⟩
  | p :: ps, h => by
    obtain ⟨a, b, c⟩ := pts_plain ps fun y hy => h y (List.mem_cons_of_mem _ hy)
    obtain ⟨hx, h0⟩ := h p List.mem_cons_self
    have h3 := log_big (i := p.1) (Nat.lt_of_lt_of_le hx.1 (by decide))
    have hx2 := hx.2
    have h4 := log_big (i := p.2) (Nat.lt_of_lt_of_le (show p.2.natAbs < 10 ^ 100 by omega) (by decide))
    refine ⟨?_, ?_, ?_⟩
    · simp [plainDs, plainD, a, h3, h4]
    · simp [wtDs, wtD, b]; omega
    · simp [PyData.depthAll, PyData.depth]; omega
theorem repr_pts {ps : List (Int × Int)} (h : ∀ p ∈ ps, Bnd p ∧ 0 < p.2) (hl : ps.length ≤ 2600) : reprOk (.list (ps.map ptE)) = true := by
  obtain ⟨a, b, c⟩ := pts_plain ps h
  simp [reprOk, plainD, wtD, PyData.depth, a, b]
  omega
theorem moved_pt (hm : InR n ms) (h1 : 1 ≤ n) (h2 : n ≤ 12) {t b : Int} (hb : 0 < b) (hB : b < 10 ^ 120) : m_moved [.list (ms.map .int), .tuple [.int t, .int b]] = .ok (.val (ptE (orb ms (lw t b) 1))) [] := by
  have := moved_eq hm h1 h2 t b hb hB
  rw [strP_lw hb] at this
  exact this
/-- the course of a point, and its ring -/
theorem crs_end (hm : InR n ms) (h1 : 1 ≤ n) (hp : RdP p) {N B : Nat} (C : Crs ms p N B) : ∃ m, m < N - B ∧ Lst ms p B (N - B) m ∧ IsEnd ms p (N - B) (orb ms p (B + m)) := by
  have lt := C.lt
  have : ∀ i, i ≤ N - B → ∃ m, m < N - B ∧ Lst ms p B i m := fun i => by
    induction i with
    | zero => intro _; exact ⟨0, by omega, by omega, fun j _ hj => by omega⟩
    | succ i ih =>
      intro hi
      obtain ⟨m, a, L⟩ := ih (by omega)
      cases hc : plt (orb ms p (B + i)) (orb ms p (B + m)) with
      | true => exact ⟨i, by omega, L.new hp hc⟩
      | false => exact ⟨m, a, L.old hc⟩
  obtain ⟨m, a, L⟩ := this _ (Nat.le_refl _)
  exact ⟨m, a, L, L.end' C a⟩
theorem ring_right_eq (hm : InR n ms) (h1 : 1 ≤ n) (h2 : n ≤ 12) {t b : Int} (hb : 0 < b) (hB : b ≤ 200) (ht : t.natAbs < 10 ^ 200) {N B : Nat} (C : Crs ms (lw t b) N B) (hN : N ≤ 2500) :
    m_l_ring_right [.list (ms.map .int), .tuple [.int t, .int b], .list ((rgO ms (orb ms (lw t b) B) (N - B)).map ptE)] = .ok (.val (.bool true)) [] := by
  have hl := hm.1
  have hp := rd_lw (t := t) hb
  have hpB : (lw t b).2 ≤ 200 := Int.le_trans (lw_pos (t := t) hb).2 hB
  have hpb : Bnd (lw t b) := ⟨Nat.lt_of_le_of_lt (low_abs hb) ht, by omega⟩
  obtain ⟨m, mlt, hL, E⟩ := crs_end hm h1 hp C
  have re := ring_at_end_eq hm h1 h2 hb (by omega) ht C (by omega) E
  have mv := moved_pt hm h1 h2 (t := t) hb (show b < 10 ^ 120 by omega)
  -- the ring of the point one tick on
  have hp1 : RdP (orb ms (lw t b) 1) := red_orb hp 1
  obtain ⟨N1, B1, C1, hN1⟩ := crs_ex hm h1 hp1
  have d1 := Int.le_of_dvd hp.2 (orb_dvd hm h1 hp 1)
  have b1 := orb_bnd hm h1 h2 hp hpb 1
  have E1 := E.step
  have hN1' : N1 < 3000 := by
    have := Int.mul_le_mul (show (n : Int) - 1 ≤ 11 by omega) (show (orb ms (lw t b) 1).2 ≤ 200 by omega) (by have := hp1.2; omega) (by decide)
    omega
  have re1 : m_ring_at_end [.list (ms.map .int), ptE (orb ms (lw t b) 1)] = .ok (.new (.list ((rgO ms (orb ms (lw t b) (B + m)) (N - B)).map ptE))) [] :=
    ring_at_end_eq hm h1 h2 (t := (orb ms (lw t b) 1).1) (b := (orb ms (lw t b) 1).2) (N := N1) (B := B1) hp1.2 b1.2 b1.1 (by rw [hp1.1]; exact C1) hN1' (by rw [hp1.1]; exact E1)
  generalize hpe : lw t b = p at *
  have lt := C.lt
  have bk : orb ms (orb ms p B) (N - B) = orb ms p B := by
    rw [← orb_add, show B + (N - B) = N by omega]; exact C.bk
  have rl2 := rgO_len ms (orb ms p B) (N - B)
  -- the law's own least point
  obtain ⟨e', lp, m', c4, rfl, mlt', hL', k4⟩ := for_ints (g := gSlot 4) (s := f_l_ring_right_1)
    (fun i e => ∃ (m : Nat) (c4 : Cell), e = [.v (.list (ms.map .int)), .v (.tuple [.int t, .int b]), .v (.list ((rgO ms (orb ms p B) (N - B)).map ptE)), .v (.int (m : Int)), c4, .no, .no, .no] ∧ m < N - B ∧ (Lst ms p B i m ∧ NV c4))
    (rgI 0 ((N - B : Nat) : Int)) [.v (.list (ms.map .int)), .v (.tuple [.int t, .int b]), .v (.list ((rgO ms (orb ms p B) (N - B)).map ptE)), .v (.int 0), .no, .no, .no, .no] ⟨0, _, rfl, by omega, ⟨by omega, fun j _ hj => by omega⟩, .inl rfl⟩ (fun i x e hx hI => by
      obtain ⟨m, c4, rfl, mlt, hL, k4⟩ := hI
      obtain ⟨hi, rfl⟩ := rgI_get0 hx
      have hi : i < N - B := by omega
      have ix := ix_d (ds := (rgO ms (orb ms p B) (N - B)).map ptE) (i := (m : Int)) (by omega) (by rw [Int.toNat_natCast]; exact rgO_at mlt)
      have ix2 := ix_d (ds := (rgO ms (orb ms p B) (N - B)).map ptE) (i := (i : Int)) (by omega) (by rw [Int.toNat_natCast]; exact rgO_at hi)
      rw [← orb_add] at ix ix2
      obtain ⟨b1, b2⟩ := bnd_big (orb_bnd hm h1 h2 hp hpb (B + i)) (red_orb (ms := ms) hp (B + i)).2
      obtain ⟨b3, b4⟩ := bnd_big (orb_bnd hm h1 h2 hp hpb (B + m)) (red_orb (ms := ms) hp (B + m)).2
      cases hc : plt (orb ms p (B + i)) (orb ms p (B + m)) with
      | true =>
        have n := hL.new hp hc
        have hc := plt_iff.mp hc
        generalize orb ms p (B + i) = u at *
        generalize orb ms p (B + m) = w at *
        have k4 := k4.par
        exact ⟨_, by simp (disch := first | assumption | omega | decide) only [ev0, ev1, ev2, ev3, ev4, ev5, ev6, dList, dTup, mutS, borS, argsD, nodupB, putM, frzN, safeOp, safeD, safeDs, wipeE, restore, argCells, List.getD_cons_zero, List.getD_cons_succ, List.set_cons_zero, List.set_cons_succ, List.length_cons, List.length_nil, List.cons_append, List.nil_append, List.append_nil, List.replicate_succ, List.replicate_zero, List.not_mem_nil, List.mem_cons, if_true, if_false, ite_true, ite_false, Bool.true_and, Bool.and_true, Bool.not_true, Bool.not_false, Bool.false_eq_true, reduceIte, List.getElem?_cons_zero, List.getElem?_cons_succ, List.all_nil, List.all_cons, List.contains_nil, Option.map_some, Option.map_none, Option.bind_some, and_self, and_true, true_and, or_false, false_or, or_true, true_or, Nat.reduceAdd, Nat.reduceSub, Nat.reduceLT, Nat.reduceLeDiff, Nat.reduceEqDiff, Nat.zero_add, eq_self, true_implies, not_false_eq_true, not_true_eq_false, Nat.lt_irrefl, Nat.succ_ne_zero, Nat.lt_add_one, ne_eq, Int.reduceEq, Int.reduceNe, decide_true, decide_false, Nat.zero_lt_succ, Bool.not_eq_true', decide_not, Nat.add_one_ne_zero, Nat.zero_le, Nat.le_refl, Bool.or_true, Bool.or_false, Bool.true_or, Bool.false_or, Bool.and_false, Bool.false_and, Nat.reduceMul, isiB, String.reduceBEq, Bool.or_self, Bool.and_self, reduceCtorEq, isSS, List.contains_cons, Nat.reduceBEq, ix_ll, eq_ln, ne_ln, List.length_map, List.length_range, Int.reduceToNat, Int.reducePow, Int.reduceMul, Int.reduceAdd, Int.reduceSub, Int.reduceNeg, Int.reduceLE, Int.reduceLT, Int.toNat_natCast, Bool.and_eq_true, Bool.or_eq_true, decide_eq_true_eq, Bool.decide_eq_true, rep_d, List.length_append, List.length_reverse, map_snoc, map_app, Int.sub_zero, List.append_assoc, ite_self, k4] <;> rfl, _, .inl (by
          unfold f_l_ring_right_1
          simp (disch := first | assumption | omega | decide) only [ev0, ev1, ev2, ev3, ev4, ev5, ev6, dList, dTup, mutS, borS, argsD, nodupB, putM, frzN, safeOp, safeD, safeDs, wipeE, restore, argCells, List.getD_cons_zero, List.getD_cons_succ, List.set_cons_zero, List.set_cons_succ, List.length_cons, List.length_nil, List.cons_append, List.nil_append, List.append_nil, List.replicate_succ, List.replicate_zero, List.not_mem_nil, List.mem_cons, if_true, if_false, ite_true, ite_false, Bool.true_and, Bool.and_true, Bool.not_true, Bool.not_false, Bool.false_eq_true, reduceIte, List.getElem?_cons_zero, List.getElem?_cons_succ, List.all_nil, List.all_cons, List.contains_nil, Option.map_some, Option.map_none, Option.bind_some, and_self, and_true, true_and, or_false, false_or, or_true, true_or, Nat.reduceAdd, Nat.reduceSub, Nat.reduceLT, Nat.reduceLeDiff, Nat.reduceEqDiff, Nat.zero_add, eq_self, true_implies, not_false_eq_true, not_true_eq_false, Nat.lt_irrefl, Nat.succ_ne_zero, Nat.lt_add_one, ne_eq, Int.reduceEq, Int.reduceNe, decide_true, decide_false, Nat.zero_lt_succ, Bool.not_eq_true', decide_not, Nat.add_one_ne_zero, Nat.zero_le, Nat.le_refl, Bool.or_true, Bool.or_false, Bool.true_or, Bool.false_or, Bool.and_false, Bool.false_and, Nat.reduceMul, isiB, String.reduceBEq, Bool.or_self, Bool.and_self, reduceCtorEq, isSS, List.contains_cons, Nat.reduceBEq, ix_ll, eq_ln, ne_ln, List.length_map, List.length_range, Int.reduceToNat, Int.reducePow, Int.reduceMul, Int.reduceAdd, Int.reduceSub, Int.reduceNeg, Int.reduceLE, Int.reduceLT, Int.toNat_natCast, Bool.and_eq_true, Bool.or_eq_true, decide_eq_true_eq, Bool.decide_eq_true, rep_d, List.length_append, List.length_reverse, map_snoc, map_app, Int.sub_zero, List.append_assoc, ite_self, ix, ix2, hc] <;> rfl), i, _, rfl, hi, n, .inr ⟨_, rfl⟩⟩
      | false =>
        have n := hL.old hc
        have hc : ¬ _ := fun z => by rw [plt_iff.mpr z] at hc; cases hc
        generalize orb ms p (B + i) = u at *
        generalize orb ms p (B + m) = w at *
        have k4 := k4.par
        exact ⟨_, by simp (disch := first | assumption | omega | decide) only [ev0, ev1, ev2, ev3, ev4, ev5, ev6, dList, dTup, mutS, borS, argsD, nodupB, putM, frzN, safeOp, safeD, safeDs, wipeE, restore, argCells, List.getD_cons_zero, List.getD_cons_succ, List.set_cons_zero, List.set_cons_succ, List.length_cons, List.length_nil, List.cons_append, List.nil_append, List.append_nil, List.replicate_succ, List.replicate_zero, List.not_mem_nil, List.mem_cons, if_true, if_false, ite_true, ite_false, Bool.true_and, Bool.and_true, Bool.not_true, Bool.not_false, Bool.false_eq_true, reduceIte, List.getElem?_cons_zero, List.getElem?_cons_succ, List.all_nil, List.all_cons, List.contains_nil, Option.map_some, Option.map_none, Option.bind_some, and_self, and_true, true_and, or_false, false_or, or_true, true_or, Nat.reduceAdd, Nat.reduceSub, Nat.reduceLT, Nat.reduceLeDiff, Nat.reduceEqDiff, Nat.zero_add, eq_self, true_implies, not_false_eq_true, not_true_eq_false, Nat.lt_irrefl, Nat.succ_ne_zero, Nat.lt_add_one, ne_eq, Int.reduceEq, Int.reduceNe, decide_true, decide_false, Nat.zero_lt_succ, Bool.not_eq_true', decide_not, Nat.add_one_ne_zero, Nat.zero_le, Nat.le_refl, Bool.or_true, Bool.or_false, Bool.true_or, Bool.false_or, Bool.and_false, Bool.false_and, Nat.reduceMul, isiB, String.reduceBEq, Bool.or_self, Bool.and_self, reduceCtorEq, isSS, List.contains_cons, Nat.reduceBEq, ix_ll, eq_ln, ne_ln, List.length_map, List.length_range, Int.reduceToNat, Int.reducePow, Int.reduceMul, Int.reduceAdd, Int.reduceSub, Int.reduceNeg, Int.reduceLE, Int.reduceLT, Int.toNat_natCast, Bool.and_eq_true, Bool.or_eq_true, decide_eq_true_eq, Bool.decide_eq_true, rep_d, List.length_append, List.length_reverse, map_snoc, map_app, Int.sub_zero, List.append_assoc, ite_self, k4] <;> rfl, _, .inl (by
          unfold f_l_ring_right_1
          simp (disch := first | assumption | omega | decide) only [ev0, ev1, ev2, ev3, ev4, ev5, ev6, dList, dTup, mutS, borS, argsD, nodupB, putM, frzN, safeOp, safeD, safeDs, wipeE, restore, argCells, List.getD_cons_zero, List.getD_cons_succ, List.set_cons_zero, List.set_cons_succ, List.length_cons, List.length_nil, List.cons_append, List.nil_append, List.append_nil, List.replicate_succ, List.replicate_zero, List.not_mem_nil, List.mem_cons, if_true, if_false, ite_true, ite_false, Bool.true_and, Bool.and_true, Bool.not_true, Bool.not_false, Bool.false_eq_true, reduceIte, List.getElem?_cons_zero, List.getElem?_cons_succ, List.all_nil, List.all_cons, List.contains_nil, Option.map_some, Option.map_none, Option.bind_some, and_self, and_true, true_and, or_false, false_or, or_true, true_or, Nat.reduceAdd, Nat.reduceSub, Nat.reduceLT, Nat.reduceLeDiff, Nat.reduceEqDiff, Nat.zero_add, eq_self, true_implies, not_false_eq_true, not_true_eq_false, Nat.lt_irrefl, Nat.succ_ne_zero, Nat.lt_add_one, ne_eq, Int.reduceEq, Int.reduceNe, decide_true, decide_false, Nat.zero_lt_succ, Bool.not_eq_true', decide_not, Nat.add_one_ne_zero, Nat.zero_le, Nat.le_refl, Bool.or_true, Bool.or_false, Bool.true_or, Bool.false_or, Bool.and_false, Bool.false_and, Nat.reduceMul, isiB, String.reduceBEq, Bool.or_self, Bool.and_self, reduceCtorEq, isSS, List.contains_cons, Nat.reduceBEq, ix_ll, eq_ln, ne_ln, List.length_map, List.length_range, Int.reduceToNat, Int.reducePow, Int.reduceMul, Int.reduceAdd, Int.reduceSub, Int.reduceNeg, Int.reduceLE, Int.reduceLT, Int.toNat_natCast, Bool.and_eq_true, Bool.or_eq_true, decide_eq_true_eq, Bool.decide_eq_true, rep_d, List.length_append, List.length_reverse, map_snoc, map_app, Int.sub_zero, List.append_assoc, ite_self, ix, ix2, hc] <;> rfl), m, _, rfl, mlt, n, .inr ⟨_, rfl⟩⟩)
  rw [rgI_len, show ((N - B : Nat) - (0 : Int)).toNat = N - B by omega] at hL'
  have eq := ((hL'.end' C mlt').uniq hp E).2
  have rr : ((rgO ms (orb ms p B) (N - B)).map ptE).drop m' ++ ((rgO ms (orb ms p B) (N - B)).map ptE).take m' = (rgO ms (orb ms p (B + m)) (N - B)).map ptE := by
    rw [← List.map_drop, ← List.map_take, ← List.map_append, rgO_rot bk mlt', ← orb_add, eq]
  have bk2 : orb ms (orb ms p (B + m)) (N - B) = orb ms p (B + m) := E.bk
  have ob : ∀ k, RdP (orb ms (orb ms p (B + m)) k) ∧ Bnd (orb ms (orb ms p (B + m)) k) ∧ (orb ms (orb ms p (B + m)) k).2 ≤ 200 := fun k => by
    rw [← orb_add]
    have := Int.le_of_dvd hp.2 (orb_dvd hm h1 hp (B + m + k))
    exact ⟨red_orb hp _, orb_bnd hm h1 h2 hp hpb _, by omega⟩
  have rp : reprOk (.list ((rgO ms (orb ms p (B + m)) (N - B)).map ptE)) = true := repr_pts (fun x hx => by
    obtain ⟨k, _, rfl⟩ := List.mem_map.mp hx
    exact ⟨(ob k).2.1, (ob k).1.2⟩) (by rw [rgO_len]; omega)
  generalize hqe : orb ms p (B + m) = q at *
  have rlq := rgO_len ms q (N - B)
  have np : dNe (.list ((rgO ms q (N - B)).map ptE)) (.list ((rgO ms q (N - B)).map ptE)) = some (.val (.bool false)) := by
    rw [ne_pts, decide_eq_true rfl]; rfl
  have ld : (((rgO ms (orb ms p B) (N - B)).map ptE).drop m').length ≤ 3000 := by rw [List.length_drop, List.length_map, rl2]; omega
  have lt' : (((rgO ms (orb ms p B) (N - B)).map ptE).take m').length ≤ 3000 := by rw [List.length_take, List.length_map, rl2]; omega
  have lc := fun (o : Cell) => lc_flt (gx := gSlot 4) (t := c_l_ring_right_1) (fe := x_l_ring_right_1) (is := [4]) (e := [.v (.list (ms.map .int)), .v (.tuple [.int t, .int b]), .v (.list ((rgO ms (orb ms p B) (N - B)).map ptE)), .v (.int (m' : Int)), .no, o, .own (.list ((rgO ms q (N - B)).map ptE)), .own (.list (ms.map .int))]) (fun _ => false) (fun x => .int x) (rgI 0 ((N - B : Nat) : Int)) (by rw [rgI_len]; omega) (fun x hx => by
    have hx := rgI_mem.mp hx
    obtain ⟨k, rfl⟩ : ∃ k : Nat, x = (k : Int) := ⟨x.toNat, by omega⟩
    have hk : k < N - B := by omega
    have hmm := Nat.mod_lt (k + 1) (show 0 < N - B by omega)
    have ix := ix_d (ds := (rgO ms q (N - B)).map ptE) (i := (k : Int)) (by omega) (by rw [Int.toNat_natCast]; exact rgO_at hk)
    have ix2 := ix_d (ds := (rgO ms q (N - B)).map ptE) (i := (((k + 1) % (N - B) : Nat) : Int)) (by omega) (by rw [Int.toNat_natCast]; exact rgO_at hmm)
    rw [← orb_mod bk2] at ix2
    obtain ⟨r, _, r3⟩ := ob k
    have mv := moved_pt hm h1 h2 (t := (orb ms q k).1) (b := (orb ms q k).2) r.2 (by omega)
    rw [r.1, ← orb_add] at mv
    have em := modN k (N - B)
    generalize orb ms q k = u at *
    generalize orb ms q (k + 1) = w at *
    refine ⟨_, _, by simp (disch := first | assumption | omega | decide) only [ev0, ev1, ev2, ev3, ev4, ev5, ev6, dList, dTup, mutS, borS, argsD, nodupB, putM, frzN, safeOp, safeD, safeDs, wipeE, restore, argCells, List.getD_cons_zero, List.getD_cons_succ, List.set_cons_zero, List.set_cons_succ, List.length_cons, List.length_nil, List.cons_append, List.nil_append, List.append_nil, List.replicate_succ, List.replicate_zero, List.not_mem_nil, List.mem_cons, if_true, if_false, ite_true, ite_false, Bool.true_and, Bool.and_true, Bool.not_true, Bool.not_false, Bool.false_eq_true, reduceIte, List.getElem?_cons_zero, List.getElem?_cons_succ, List.all_nil, List.all_cons, List.contains_nil, Option.map_some, Option.map_none, Option.bind_some, and_self, and_true, true_and, or_false, false_or, or_true, true_or, Nat.reduceAdd, Nat.reduceSub, Nat.reduceLT, Nat.reduceLeDiff, Nat.reduceEqDiff, Nat.zero_add, eq_self, true_implies, not_false_eq_true, not_true_eq_false, Nat.lt_irrefl, Nat.succ_ne_zero, Nat.lt_add_one, ne_eq, Int.reduceEq, Int.reduceNe, decide_true, decide_false, Nat.zero_lt_succ, Bool.not_eq_true', decide_not, Nat.add_one_ne_zero, Nat.zero_le, Nat.le_refl, Bool.or_true, Bool.or_false, Bool.true_or, Bool.false_or, Bool.and_false, Bool.false_and, Nat.reduceMul, isiB, String.reduceBEq, Bool.or_self, Bool.and_self, reduceCtorEq, isSS, List.contains_cons, Nat.reduceBEq, ix_ll, eq_ln, ne_ln, List.length_map, List.length_range, Int.reduceToNat, Int.reducePow, Int.reduceMul, Int.reduceAdd, Int.reduceSub, Int.reduceNeg, Int.reduceLE, Int.reduceLT, Int.toNat_natCast, Bool.and_eq_true, Bool.or_eq_true, decide_eq_true_eq, Bool.decide_eq_true, rep_d, List.length_append, List.length_reverse, map_snoc, map_app, Int.sub_zero, List.append_assoc, ite_self] <;> rfl, by
      unfold c_l_ring_right_1
      simp (disch := first | assumption | omega | decide) only [ev0, ev1, ev2, ev3, ev4, ev5, ev6, dList, dTup, mutS, borS, argsD, nodupB, putM, frzN, safeOp, safeD, safeDs, wipeE, restore, argCells, List.getD_cons_zero, List.getD_cons_succ, List.set_cons_zero, List.set_cons_succ, List.length_cons, List.length_nil, List.cons_append, List.nil_append, List.append_nil, List.replicate_succ, List.replicate_zero, List.not_mem_nil, List.mem_cons, if_true, if_false, ite_true, ite_false, Bool.true_and, Bool.and_true, Bool.not_true, Bool.not_false, Bool.false_eq_true, reduceIte, List.getElem?_cons_zero, List.getElem?_cons_succ, List.all_nil, List.all_cons, List.contains_nil, Option.map_some, Option.map_none, Option.bind_some, and_self, and_true, true_and, or_false, false_or, or_true, true_or, Nat.reduceAdd, Nat.reduceSub, Nat.reduceLT, Nat.reduceLeDiff, Nat.reduceEqDiff, Nat.zero_add, eq_self, true_implies, not_false_eq_true, not_true_eq_false, Nat.lt_irrefl, Nat.succ_ne_zero, Nat.lt_add_one, ne_eq, Int.reduceEq, Int.reduceNe, decide_true, decide_false, Nat.zero_lt_succ, Bool.not_eq_true', decide_not, Nat.add_one_ne_zero, Nat.zero_le, Nat.le_refl, Bool.or_true, Bool.or_false, Bool.true_or, Bool.false_or, Bool.and_false, Bool.false_and, Nat.reduceMul, isiB, String.reduceBEq, Bool.or_self, Bool.and_self, reduceCtorEq, isSS, List.contains_cons, Nat.reduceBEq, ix_ll, eq_ln, ne_ln, List.length_map, List.length_range, Int.reduceToNat, Int.reducePow, Int.reduceMul, Int.reduceAdd, Int.reduceSub, Int.reduceNeg, Int.reduceLE, Int.reduceLT, Int.toNat_natCast, Bool.and_eq_true, Bool.or_eq_true, decide_eq_true_eq, Bool.decide_eq_true, rep_d, List.length_append, List.length_reverse, map_snoc, map_app, Int.sub_zero, List.append_assoc, ite_self, ix, rlq, em, ix2, mv, ne_pp] <;> rfl, fun _ => by simp (disch := first | assumption | omega | decide) only [ev0, ev1, ev2, ev3, ev4, ev5, ev6, dList, dTup, mutS, borS, argsD, nodupB, putM, frzN, safeOp, safeD, safeDs, wipeE, restore, argCells, List.getD_cons_zero, List.getD_cons_succ, List.set_cons_zero, List.set_cons_succ, List.length_cons, List.length_nil, List.cons_append, List.nil_append, List.append_nil, List.replicate_succ, List.replicate_zero, List.not_mem_nil, List.mem_cons, if_true, if_false, ite_true, ite_false, Bool.true_and, Bool.and_true, Bool.not_true, Bool.not_false, Bool.false_eq_true, reduceIte, List.getElem?_cons_zero, List.getElem?_cons_succ, List.all_nil, List.all_cons, List.contains_nil, Option.map_some, Option.map_none, Option.bind_some, and_self, and_true, true_and, or_false, false_or, or_true, true_or, Nat.reduceAdd, Nat.reduceSub, Nat.reduceLT, Nat.reduceLeDiff, Nat.reduceEqDiff, Nat.zero_add, eq_self, true_implies, not_false_eq_true, not_true_eq_false, Nat.lt_irrefl, Nat.succ_ne_zero, Nat.lt_add_one, ne_eq, Int.reduceEq, Int.reduceNe, decide_true, decide_false, Nat.zero_lt_succ, Bool.not_eq_true', decide_not, Nat.add_one_ne_zero, Nat.zero_le, Nat.le_refl, Bool.or_true, Bool.or_false, Bool.true_or, Bool.false_or, Bool.and_false, Bool.false_and, Nat.reduceMul, isiB, String.reduceBEq, Bool.or_self, Bool.and_self, reduceCtorEq, isSS, List.contains_cons, Nat.reduceBEq, ix_ll, eq_ln, ne_ln, List.length_map, List.length_range, Int.reduceToNat, Int.reducePow, Int.reduceMul, Int.reduceAdd, Int.reduceSub, Int.reduceNeg, Int.reduceLE, Int.reduceLT, Int.toNat_natCast, Bool.and_eq_true, Bool.or_eq_true, decide_eq_true_eq, Bool.decide_eq_true, rep_d, List.length_append, List.length_reverse, map_snoc, map_app, Int.sub_zero, List.append_assoc, ite_self, List.take_succ_cons, List.take_zero], fun z => Bool.noConfusion z⟩)
  unfold m_l_ring_right b_l_ring_right
  simp only [flt_none] at lc
  rcases k4 with rfl | ⟨d4, rfl⟩ <;>
  simp (disch := first | assumption | omega | decide) only [ev0, ev1, ev2, ev3, ev4, ev5, ev6, dList, dTup, mutS, borS, argsD, nodupB, putM, frzN, safeOp, safeD, safeDs, wipeE, restore, argCells, List.getD_cons_zero, List.getD_cons_succ, List.set_cons_zero, List.set_cons_succ, List.length_cons, List.length_nil, List.cons_append, List.nil_append, List.append_nil, List.replicate_succ, List.replicate_zero, List.not_mem_nil, List.mem_cons, if_true, if_false, ite_true, ite_false, Bool.true_and, Bool.and_true, Bool.not_true, Bool.not_false, Bool.false_eq_true, reduceIte, List.getElem?_cons_zero, List.getElem?_cons_succ, List.all_nil, List.all_cons, List.contains_nil, Option.map_some, Option.map_none, Option.bind_some, and_self, and_true, true_and, or_false, false_or, or_true, true_or, Nat.reduceAdd, Nat.reduceSub, Nat.reduceLT, Nat.reduceLeDiff, Nat.reduceEqDiff, Nat.zero_add, eq_self, true_implies, not_false_eq_true, not_true_eq_false, Nat.lt_irrefl, Nat.succ_ne_zero, Nat.lt_add_one, ne_eq, Int.reduceEq, Int.reduceNe, decide_true, decide_false, Nat.zero_lt_succ, Bool.not_eq_true', decide_not, Nat.add_one_ne_zero, Nat.zero_le, Nat.le_refl, Bool.or_true, Bool.or_false, Bool.true_or, Bool.false_or, Bool.and_false, Bool.false_and, Nat.reduceMul, isiB, String.reduceBEq, Bool.or_self, Bool.and_self, reduceCtorEq, isSS, List.contains_cons, Nat.reduceBEq, ix_ll, eq_ln, ne_ln, List.length_map, List.length_range, Int.reduceToNat, Int.reducePow, Int.reduceMul, Int.reduceAdd, Int.reduceSub, Int.reduceNeg, Int.reduceLE, Int.reduceLT, Int.toNat_natCast, Bool.and_eq_true, Bool.or_eq_true, decide_eq_true_eq, Bool.decide_eq_true, rep_d, List.length_append, List.length_reverse, map_snoc, map_app, Int.sub_zero, List.append_assoc, ite_self, rl2, lp, Int.toNat_natCast, rr, re, rp, mv, re1, np, rlq, lc, List.map_nil, safe_pts9]
end
end Pg
namespace Pg
open PySem PySem.Spec PyProof.Rows L2 T3
section
variable {n : Nat} {ms : List Int} {p q : Int × Int}
theorem course_right_eq (hm : InR n ms) (h1 : 1 ≤ n) (h2 : n ≤ 12) (t0 : TapS) {t b : Int} (hb : 0 < b) (hB : b ≤ 200) (ht : t.natAbs < 10 ^ 200) : ∃ t1 : TapS,
    m_l_course_right [t0.enc, .list (ms.map .int), .tuple [.int t, .int b]] = .ok (.val (.bool true)) [t1.enc] := by
  have hl := hm.1
  have hp := rd_lw (t := t) hb
  have hpB : (lw t b).2 ≤ 200 := Int.le_trans (lw_pos (t := t) hb).2 hB
  have hpb : Bnd (lw t b) := ⟨Nat.lt_of_le_of_lt (low_abs hb) ht, by omega⟩
  obtain ⟨N, B, C, hN⟩ := crs_ex hm h1 hp
  have hN' : N ≤ 2500 := by
    have := Int.mul_le_mul (show (n : Int) - 1 ≤ 11 by omega) hpB (by have := hp.2; omega) (by decide)
    omega
  have lt := C.lt
  have lo := l_lowest_pt (t := t) hb (show b < 10 ^ 120 by omega)
  have co := l_course_eq hm h1 (by omega) hp (by omega) C (by omega)
  have rr := ring_right_eq hm h1 h2 hb hB ht C hN'
  have rl := rgO_len ms (lw t b) N
  have dr : ((rgO ms (lw t b) N).map ptE).drop B = (rgO ms (orb ms (lw t b) B) (N - B)).map ptE := by
    rw [← List.map_drop, rgO_drop (by omega)]
  obtain ⟨a0, a1⟩ := drR_lt t0 (b := 51) (by decide)
  generalize ht2 : drT t0 51 = t2
  obtain ⟨c0, c1⟩ := drR_lt t2 (b := 10 ^ 30) (by decide)
  have dd1 := draw_eq t0 (b := 51) (by decide) (by decide)
  have dd2 := draw_eq t2 (b := 1000000000000000000000000000000) (by decide) (by decide)
  rw [ht2] at dd1
  have e30 : (10 : Int) ^ 30 = 1000000000000000000000000000000 := by decide
  rw [e30] at c1 c0
  generalize ht3 : drT t2 1000000000000000000000000000000 = t3 at *
  generalize drR t0 51 = r1 at *
  generalize drR t2 1000000000000000000000000000000 = r2 at *
  have loop : (∃ e', fLoop (gSlot 4) f_l_course_right_1 ([0, 1, r1, (N : Int), r2, 1000000000000000000000000000000].map .int) [.par t3.enc, .v (.list (ms.map .int)), .v (.tuple [.int t, .int b]), .v (.int ((N : Int) - B)), .no, .v (.list ((rgO ms (lw t b) N).map ptE)), .v (.int (B : Int)), .no, .no] = .ok .nx e' ∧
      ∃ c4 c7 c8 : Cell, e' = [.par t3.enc, .v (.list (ms.map .int)), .v (.tuple [.int t, .int b]), .v (.int ((N : Int) - B)), c4, .v (.list ((rgO ms (lw t b) N).map ptE)), .v (.int (B : Int)), c7, c8] ∧ isPar c4 = false ∧ isPar c7 = false ∧ isPar c8 = false) :=
    for_ints (fun _ e => ∃ c4 c7 c8 : Cell, e = [.par t3.enc, .v (.list (ms.map .int)), .v (.tuple [.int t, .int b]), .v (.int ((N : Int) - B)), c4, .v (.list ((rgO ms (lw t b) N).map ptE)), .v (.int (B : Int)), c7, c8] ∧ isPar c4 = false ∧ isPar c7 = false ∧ isPar c8 = false) _ _ ⟨_, _, _, rfl, rfl, rfl, rfl⟩ (fun i x e hx hI => by
      obtain ⟨c4, c7, c8, rfl, k4, k7, k8⟩ := hI
      have hx := List.mem_of_getElem? hx
      have hx : 0 ≤ x ∧ x ≤ 1000000000000000000000000000000 := by
        simp only [List.mem_cons, List.not_mem_nil, or_false] at hx
        omega
      have mf := moved_far_eq hm h1 h2 hb (show b < 10 ^ 100 by omega) C (by omega) hx.1 hx.2
      have r := red_orb (ms := ms) hp x.toNat
      have ob := orb_bnd hm h1 h2 hp hpb x.toNat
      have rp := repr_pt (orb ms (lw t b) x.toNat).1 (orb ms (lw t b) x.toNat).2 (Nat.lt_of_lt_of_le ob.1 (Nat.pow_le_pow_right (by decide) (by decide))) (Nat.lt_of_lt_of_le (show (orb ms (lw t b) x.toNat).2.natAbs < 10 ^ 100 by have := ob.2; have := r.2; omega) (Nat.pow_le_pow_right (by decide) (by decide)))
      have rp : reprOk (ptE (orb ms (lw t b) x.toNat)) = true := rp
      unfold Pt at mf
      by_cases c : x < (B : Int)
      · have ix := ix_d (ds := (rgO ms (lw t b) N).map ptE) hx.1 (rgO_at (show x.toNat < N by omega))
        exact ⟨_, by simp (disch := first | assumption | omega | decide) only [ev0, ev1, ev2, ev3, ev4, ev5, ev6, dList, dTup, mutS, borS, argsD, nodupB, putM, frzN, safeOp, safeD, safeDs, wipeE, restore, argCells, List.getD_cons_zero, List.getD_cons_succ, List.set_cons_zero, List.set_cons_succ, List.length_cons, List.length_nil, List.cons_append, List.nil_append, List.append_nil, List.replicate_succ, List.replicate_zero, List.not_mem_nil, List.mem_cons, if_true, if_false, ite_true, ite_false, Bool.true_and, Bool.and_true, Bool.not_true, Bool.not_false, Bool.false_eq_true, reduceIte, List.getElem?_cons_zero, List.getElem?_cons_succ, List.all_nil, List.all_cons, List.contains_nil, Option.map_some, Option.map_none, Option.bind_some, and_self, and_true, true_and, or_false, false_or, or_true, true_or, Nat.reduceAdd, Nat.reduceSub, Nat.reduceLT, Nat.reduceLeDiff, Nat.reduceEqDiff, Nat.zero_add, eq_self, true_implies, not_false_eq_true, not_true_eq_false, Nat.lt_irrefl, Nat.succ_ne_zero, Nat.lt_add_one, ne_eq, Int.reduceEq, Int.reduceNe, decide_true, decide_false, Nat.zero_lt_succ, Bool.not_eq_true', decide_not, Nat.add_one_ne_zero, Nat.zero_le, Nat.le_refl, Bool.or_true, Bool.or_false, Bool.true_or, Bool.false_or, Bool.and_false, Bool.false_and, Nat.reduceMul, isiB, String.reduceBEq, Bool.or_self, Bool.and_self, reduceCtorEq, isSS, List.contains_cons, Nat.reduceBEq, ix_ll, eq_ln, ne_ln, List.length_map, List.length_range, Int.reduceToNat, Int.reducePow, Int.reduceMul, Int.reduceAdd, Int.reduceSub, Int.reduceNeg, Int.reduceLE, Int.reduceLT, Int.toNat_natCast, Bool.and_eq_true, Bool.or_eq_true, decide_eq_true_eq, Bool.decide_eq_true, rep_d, List.length_append, List.length_reverse, map_snoc, map_app, Int.sub_zero, List.append_assoc, ite_self, k4] <;> rfl, _, .inl (by
          unfold f_l_course_right_1
          simp (disch := first | assumption | omega | decide) only [ev0, ev1, ev2, ev3, ev4, ev5, ev6, dList, dTup, mutS, borS, argsD, nodupB, putM, frzN, safeOp, safeD, safeDs, wipeE, restore, argCells, List.getD_cons_zero, List.getD_cons_succ, List.set_cons_zero, List.set_cons_succ, List.length_cons, List.length_nil, List.cons_append, List.nil_append, List.append_nil, List.replicate_succ, List.replicate_zero, List.not_mem_nil, List.mem_cons, if_true, if_false, ite_true, ite_false, Bool.true_and, Bool.and_true, Bool.not_true, Bool.not_false, Bool.false_eq_true, reduceIte, List.getElem?_cons_zero, List.getElem?_cons_succ, List.all_nil, List.all_cons, List.contains_nil, Option.map_some, Option.map_none, Option.bind_some, and_self, and_true, true_and, or_false, false_or, or_true, true_or, Nat.reduceAdd, Nat.reduceSub, Nat.reduceLT, Nat.reduceLeDiff, Nat.reduceEqDiff, Nat.zero_add, eq_self, true_implies, not_false_eq_true, not_true_eq_false, Nat.lt_irrefl, Nat.succ_ne_zero, Nat.lt_add_one, ne_eq, Int.reduceEq, Int.reduceNe, decide_true, decide_false, Nat.zero_lt_succ, Bool.not_eq_true', decide_not, Nat.add_one_ne_zero, Nat.zero_le, Nat.le_refl, Bool.or_true, Bool.or_false, Bool.true_or, Bool.false_or, Bool.and_false, Bool.false_and, Nat.reduceMul, isiB, String.reduceBEq, Bool.or_self, Bool.and_self, reduceCtorEq, isSS, List.contains_cons, Nat.reduceBEq, ix_ll, eq_ln, ne_ln, List.length_map, List.length_range, Int.reduceToNat, Int.reducePow, Int.reduceMul, Int.reduceAdd, Int.reduceSub, Int.reduceNeg, Int.reduceLE, Int.reduceLT, Int.toNat_natCast, Bool.and_eq_true, Bool.or_eq_true, decide_eq_true_eq, Bool.decide_eq_true, rep_d, List.length_append, List.length_reverse, map_snoc, map_app, Int.sub_zero, List.append_assoc, ite_self, c, ix, mf, rp, k7, k8] <;> rfl), _, _, _, rfl, rfl, rfl, rfl⟩
      · have hmod := Nat.mod_lt (x.toNat - B) (show 0 < N - B by omega)
        have e := C.at (k := x.toNat) (by omega)
        have ex : (B : Int) + (x - B) % ((N : Int) - B) = ((B + (x.toNat - B) % (N - B) : Nat) : Int) := by
          rw [Int.natCast_add, Int.natCast_emod, Int.natCast_sub (by omega), Int.natCast_sub (by omega), Int.toNat_of_nonneg hx.1]
        have ix := ix_d (ds := (rgO ms (lw t b) N).map ptE) (i := ((B + (x.toNat - B) % (N - B) : Nat) : Int)) (by omega) (rgO_at (show ((B + (x.toNat - B) % (N - B) : Nat) : Int).toNat < N by omega))
        rw [Int.toNat_natCast, ← e] at ix
        exact ⟨_, by simp (disch := first | assumption | omega | decide) only [ev0, ev1, ev2, ev3, ev4, ev5, ev6, dList, dTup, mutS, borS, argsD, nodupB, putM, frzN, safeOp, safeD, safeDs, wipeE, restore, argCells, List.getD_cons_zero, List.getD_cons_succ, List.set_cons_zero, List.set_cons_succ, List.length_cons, List.length_nil, List.cons_append, List.nil_append, List.append_nil, List.replicate_succ, List.replicate_zero, List.not_mem_nil, List.mem_cons, if_true, if_false, ite_true, ite_false, Bool.true_and, Bool.and_true, Bool.not_true, Bool.not_false, Bool.false_eq_true, reduceIte, List.getElem?_cons_zero, List.getElem?_cons_succ, List.all_nil, List.all_cons, List.contains_nil, Option.map_some, Option.map_none, Option.bind_some, and_self, and_true, true_and, or_false, false_or, or_true, true_or, Nat.reduceAdd, Nat.reduceSub, Nat.reduceLT, Nat.reduceLeDiff, Nat.reduceEqDiff, Nat.zero_add, eq_self, true_implies, not_false_eq_true, not_true_eq_false, Nat.lt_irrefl, Nat.succ_ne_zero, Nat.lt_add_one, ne_eq, Int.reduceEq, Int.reduceNe, decide_true, decide_false, Nat.zero_lt_succ, Bool.not_eq_true', decide_not, Nat.add_one_ne_zero, Nat.zero_le, Nat.le_refl, Bool.or_true, Bool.or_false, Bool.true_or, Bool.false_or, Bool.and_false, Bool.false_and, Nat.reduceMul, isiB, String.reduceBEq, Bool.or_self, Bool.and_self, reduceCtorEq, isSS, List.contains_cons, Nat.reduceBEq, ix_ll, eq_ln, ne_ln, List.length_map, List.length_range, Int.reduceToNat, Int.reducePow, Int.reduceMul, Int.reduceAdd, Int.reduceSub, Int.reduceNeg, Int.reduceLE, Int.reduceLT, Int.toNat_natCast, Bool.and_eq_true, Bool.or_eq_true, decide_eq_true_eq, Bool.decide_eq_true, rep_d, List.length_append, List.length_reverse, map_snoc, map_app, Int.sub_zero, List.append_assoc, ite_self, k4] <;> rfl, _, .inl (by
          unfold f_l_course_right_1
          simp (disch := first | assumption | omega | decide) only [ev0, ev1, ev2, ev3, ev4, ev5, ev6, dList, dTup, mutS, borS, argsD, nodupB, putM, frzN, safeOp, safeD, safeDs, wipeE, restore, argCells, List.getD_cons_zero, List.getD_cons_succ, List.set_cons_zero, List.set_cons_succ, List.length_cons, List.length_nil, List.cons_append, List.nil_append, List.append_nil, List.replicate_succ, List.replicate_zero, List.not_mem_nil, List.mem_cons, if_true, if_false, ite_true, ite_false, Bool.true_and, Bool.and_true, Bool.not_true, Bool.not_false, Bool.false_eq_true, reduceIte, List.getElem?_cons_zero, List.getElem?_cons_succ, List.all_nil, List.all_cons, List.contains_nil, Option.map_some, Option.map_none, Option.bind_some, and_self, and_true, true_and, or_false, false_or, or_true, true_or, Nat.reduceAdd, Nat.reduceSub, Nat.reduceLT, Nat.reduceLeDiff, Nat.reduceEqDiff, Nat.zero_add, eq_self, true_implies, not_false_eq_true, not_true_eq_false, Nat.lt_irrefl, Nat.succ_ne_zero, Nat.lt_add_one, ne_eq, Int.reduceEq, Int.reduceNe, decide_true, decide_false, Nat.zero_lt_succ, Bool.not_eq_true', decide_not, Nat.add_one_ne_zero, Nat.zero_le, Nat.le_refl, Bool.or_true, Bool.or_false, Bool.true_or, Bool.false_or, Bool.and_false, Bool.false_and, Nat.reduceMul, isiB, String.reduceBEq, Bool.or_self, Bool.and_self, reduceCtorEq, isSS, List.contains_cons, Nat.reduceBEq, ix_ll, eq_ln, ne_ln, List.length_map, List.length_range, Int.reduceToNat, Int.reducePow, Int.reduceMul, Int.reduceAdd, Int.reduceSub, Int.reduceNeg, Int.reduceLE, Int.reduceLT, Int.toNat_natCast, Bool.and_eq_true, Bool.or_eq_true, decide_eq_true_eq, Bool.decide_eq_true, rep_d, List.length_append, List.length_reverse, map_snoc, map_app, Int.sub_zero, List.append_assoc, ite_self, c, ex, ix, mf, rp, k7, k8] <;> rfl), _, _, _, rfl, rfl, rfl, rfl⟩)
  obtain ⟨e', lp, c4, c7, c8, rfl, k4, k7, k8⟩ := loop
  simp only [List.map_cons, List.map_nil] at lp
  refine ⟨t3, ?_⟩
  unfold m_l_course_right b_l_course_right
  simp (disch := first | assumption | omega | decide) only [ev0, ev1, ev2, ev3, ev4, ev5, ev6, dList, dTup, mutS, borS, argsD, nodupB, putM, frzN, safeOp, safeD, safeDs, wipeE, restore, argCells, List.getD_cons_zero, List.getD_cons_succ, List.set_cons_zero, List.set_cons_succ, List.length_cons, List.length_nil, List.cons_append, List.nil_append, List.append_nil, List.replicate_succ, List.replicate_zero, List.not_mem_nil, List.mem_cons, if_true, if_false, ite_true, ite_false, Bool.true_and, Bool.and_true, Bool.not_true, Bool.not_false, Bool.false_eq_true, reduceIte, List.getElem?_cons_zero, List.getElem?_cons_succ, List.all_nil, List.all_cons, List.contains_nil, Option.map_some, Option.map_none, Option.bind_some, and_self, and_true, true_and, or_false, false_or, or_true, true_or, Nat.reduceAdd, Nat.reduceSub, Nat.reduceLT, Nat.reduceLeDiff, Nat.reduceEqDiff, Nat.zero_add, eq_self, true_implies, not_false_eq_true, not_true_eq_false, Nat.lt_irrefl, Nat.succ_ne_zero, Nat.lt_add_one, ne_eq, Int.reduceEq, Int.reduceNe, decide_true, decide_false, Nat.zero_lt_succ, Bool.not_eq_true', decide_not, Nat.add_one_ne_zero, Nat.zero_le, Nat.le_refl, Bool.or_true, Bool.or_false, Bool.true_or, Bool.false_or, Bool.and_false, Bool.false_and, Nat.reduceMul, isiB, String.reduceBEq, Bool.or_self, Bool.and_self, reduceCtorEq, isSS, List.contains_cons, Nat.reduceBEq, ix_ll, eq_ln, ne_ln, List.length_map, List.length_range, Int.reduceToNat, Int.reducePow, Int.reduceMul, Int.reduceAdd, Int.reduceSub, Int.reduceNeg, Int.reduceLE, Int.reduceLT, Int.toNat_natCast, Bool.and_eq_true, Bool.or_eq_true, decide_eq_true_eq, Bool.decide_eq_true, rep_d, List.length_append, List.length_reverse, map_snoc, map_app, Int.sub_zero, List.append_assoc, ite_self, tap_safe, lo, co, rl, dd1, dd2, lp, Int.toNat_natCast, dr, rr]
theorem l_point_eq9 (t : TapS) {n : Nat} (h1 : 1 ≤ n) (h2 : n ≤ 12) {most : Int} (hm : 1 ≤ most) (hm2 : most ≤ 200) : ∃ (t' : TapS) (x b : Int), m_l_point_k09 [t.enc, .int n, .int most] = .ok (.val (.tuple [.int x, .int b])) [t'.enc] ∧ 0 < b ∧ b ≤ 200 ∧ x.natAbs < 10 ^ 200 := by
  have d1 := draw_eq t (b := 40) (by decide) (by decide)
  obtain ⟨a0, a1⟩ := drR_lt t (b := 40) (by decide)
  generalize drT t 40 = t1 at *
  generalize drR t 40 = r1 at *
  have d2 := draw_eq t1 (b := most) (by omega) (by omega)
  obtain ⟨b0, b1⟩ := drR_lt t1 (b := most) (by omega)
  generalize drT t1 most = t2 at *
  generalize drR t1 most = r2 at *
  have d3 := draw_eq t2 (b := 4) (by omega) (by omega)
  obtain ⟨c0, c1⟩ := drR_lt t2 (b := 4) (by omega)
  generalize drT t2 4 = t3 at *
  generalize drR t2 4 = r3 at *
  have d4 := draw_eq t3 (b := 8) (by omega) (by omega)
  obtain ⟨e0, e1⟩ := drR_lt t3 (b := 8) (by omega)
  generalize drT t3 8 = t4 at *
  generalize drR t3 8 = r4 at *
  obtain ⟨bt, hbt⟩ : ∃ bt : Int, (if r3 = 0 then 1 else if r3 = 1 then 2 else if r3 = 2 then 1 + r1 else 1 + r2) = bt := ⟨_, rfl⟩
  have hb : 1 ≤ bt ∧ bt ≤ 200 := by
    rw [← hbt]
    split
    · omega
    · split
      · omega
      · split <;> omega
  by_cases c : r4 = 0
  · have d5 := draw_eq t4 (b := 2) (by omega) (by omega)
    obtain ⟨f0, f1⟩ := drR_lt t4 (b := 2) (by omega)
    generalize drT t4 2 = t5 at *
    generalize drR t4 2 = r5 at *
    refine ⟨t5, _, bt, by
      unfold m_l_point_k09 b_l_point_k09
      simp (disch := first | assumption | omega | decide) only [ev0, ev1, ev2, ev3, ev4, ev5, ev6, dList, dTup, mutS, borS, argsD, nodupB, putM, frzN, safeOp, safeD, safeDs, wipeE, restore, argCells, List.getD_cons_zero, List.getD_cons_succ, List.set_cons_zero, List.set_cons_succ, List.length_cons, List.length_nil, List.cons_append, List.nil_append, List.append_nil, List.replicate_succ, List.replicate_zero, List.not_mem_nil, List.mem_cons, if_true, if_false, ite_true, ite_false, Bool.true_and, Bool.and_true, Bool.not_true, Bool.not_false, Bool.false_eq_true, reduceIte, List.getElem?_cons_zero, List.getElem?_cons_succ, List.all_nil, List.all_cons, List.contains_nil, Option.map_some, Option.map_none, Option.bind_some, and_self, and_true, true_and, or_false, false_or, or_true, true_or, Nat.reduceAdd, Nat.reduceSub, Nat.reduceLT, Nat.reduceLeDiff, Nat.reduceEqDiff, Nat.zero_add, eq_self, true_implies, not_false_eq_true, not_true_eq_false, Nat.lt_irrefl, Nat.succ_ne_zero, Nat.lt_add_one, ne_eq, Int.reduceEq, Int.reduceNe, decide_true, decide_false, Nat.zero_lt_succ, Bool.not_eq_true', decide_not, Nat.add_one_ne_zero, Nat.zero_le, Nat.le_refl, Bool.or_true, Bool.or_false, Bool.true_or, Bool.false_or, Bool.and_false, Bool.false_and, Nat.reduceMul, isiB, String.reduceBEq, Bool.or_self, Bool.and_self, reduceCtorEq, isSS, List.contains_cons, Nat.reduceBEq, ix_ll, eq_ln, ne_ln, List.length_map, List.length_range, Int.reduceToNat, Int.reducePow, Int.reduceMul, Int.reduceAdd, Int.reduceSub, Int.reduceNeg, Int.reduceLE, Int.reduceLT, Int.toNat_natCast, Bool.and_eq_true, Bool.or_eq_true, decide_eq_true_eq, Bool.decide_eq_true, rep_d, List.length_append, List.length_reverse, map_snoc, map_app, Int.sub_zero, List.append_assoc, ite_self, tap_safe, d1, d2, d3, d4, d5, ix_4v, hbt, c] <;> rfl, by omega, by omega, ?_⟩
    have : ∀ a b : Int, a.natAbs < 10 ^ 200 → b.natAbs < 10 ^ 200 → (if r5 = 0 then a else b).natAbs < 10 ^ 200 := fun a b ha hb => by split <;> assumption
    exact this _ _ (by decide) (by decide)
  · have nb : 0 ≤ (n : Int) * bt := Int.mul_nonneg (by omega) (by omega)
    have nb2 : (n : Int) * bt ≤ 12 * bt := Int.mul_le_mul_of_nonneg_right (by omega) (by omega)
    have d5 := draw_eq t4 (b := (n : Int) * bt + 2 * bt) (by omega) (by omega)
    obtain ⟨f0, f1⟩ := drR_lt t4 (b := (n : Int) * bt + 2 * bt) (by omega)
    generalize drT t4 ((n : Int) * bt + 2 * bt) = t5 at *
    generalize drR t4 ((n : Int) * bt + 2 * bt) = r5 at *
    refine ⟨t5, r5 - bt, bt, by
      unfold m_l_point_k09 b_l_point_k09
      simp (disch := first | assumption | omega | decide) only [ev0, ev1, ev2, ev3, ev4, ev5, ev6, dList, dTup, mutS, borS, argsD, nodupB, putM, frzN, safeOp, safeD, safeDs, wipeE, restore, argCells, List.getD_cons_zero, List.getD_cons_succ, List.set_cons_zero, List.set_cons_succ, List.length_cons, List.length_nil, List.cons_append, List.nil_append, List.append_nil, List.replicate_succ, List.replicate_zero, List.not_mem_nil, List.mem_cons, if_true, if_false, ite_true, ite_false, Bool.true_and, Bool.and_true, Bool.not_true, Bool.not_false, Bool.false_eq_true, reduceIte, List.getElem?_cons_zero, List.getElem?_cons_succ, List.all_nil, List.all_cons, List.contains_nil, Option.map_some, Option.map_none, Option.bind_some, and_self, and_true, true_and, or_false, false_or, or_true, true_or, Nat.reduceAdd, Nat.reduceSub, Nat.reduceLT, Nat.reduceLeDiff, Nat.reduceEqDiff, Nat.zero_add, eq_self, true_implies, not_false_eq_true, not_true_eq_false, Nat.lt_irrefl, Nat.succ_ne_zero, Nat.lt_add_one, ne_eq, Int.reduceEq, Int.reduceNe, decide_true, decide_false, Nat.zero_lt_succ, Bool.not_eq_true', decide_not, Nat.add_one_ne_zero, Nat.zero_le, Nat.le_refl, Bool.or_true, Bool.or_false, Bool.true_or, Bool.false_or, Bool.and_false, Bool.false_and, Nat.reduceMul, isiB, String.reduceBEq, Bool.or_self, Bool.and_self, reduceCtorEq, isSS, List.contains_cons, Nat.reduceBEq, ix_ll, eq_ln, ne_ln, List.length_map, List.length_range, Int.reduceToNat, Int.reducePow, Int.reduceMul, Int.reduceAdd, Int.reduceSub, Int.reduceNeg, Int.reduceLE, Int.reduceLT, Int.toNat_natCast, Bool.and_eq_true, Bool.or_eq_true, decide_eq_true_eq, Bool.decide_eq_true, rep_d, List.length_append, List.length_reverse, map_snoc, map_app, Int.sub_zero, List.append_assoc, ite_self, tap_safe, d1, d2, d3, d4, d5, ix_4v, hbt, c], by omega, by omega, by omega⟩
theorem steep : InR 12 [0, 11, 0, 11, 0, 11, 0, 11, 0, 11, 0, 11] := ⟨rfl, by decide⟩
theorem right_k09 (t : TapS) {most : Int} (hmo : most = 60 ∨ most = 200) : ∃ t' : TapS, m_l_right_k09 [t.enc, .int most] = .ok (.val (.bool true)) [t'.enc] := by
  have d1 := draw_eq t (b := 12) (by decide) (by decide)
  obtain ⟨a0, a1⟩ := drR_lt t (b := 12) (by decide)
  obtain ⟨n, hn⟩ : ∃ n : Nat, 1 + drR t 12 = n := ⟨(1 + drR t 12).toNat, by omega⟩
  obtain ⟨t1, ms, e1, hm⟩ := table_eq (drT t 12) (n := n) (by omega) (by omega)
  obtain ⟨e', lp, t2, c4, rfl, k4⟩ := for_ints (g := gSlot 4) (s := f_l_right_k09_1)
    (fun _ e => ∃ (t : TapS) (c4 : Cell), e = [.par t.enc, .v (.int most), .v (.int n), .own (.list (ms.map .int)), c4, .no] ∧ isPar c4 = false) (rgI 0 5)
    [.par t1.enc, .v (.int most), .v (.int n), .own (.list (ms.map .int)), .no, .no] ⟨_, _, rfl, rfl⟩ (fun i x e hx hI => by
      obtain ⟨t, c4, rfl, k4⟩ := hI
      obtain ⟨t2, x, b, e2, b0, b1, x1⟩ := l_point_eq9 t (n := n) (by omega) (by omega) (most := most) (by omega) (by omega)
      obtain ⟨t3, e3⟩ := course_right_eq hm (by omega) (by omega) t2 b0 b1 x1
      exact ⟨_, by simp (disch := first | assumption | omega | decide) only [ev0, ev1, ev2, ev3, ev4, ev5, ev6, dList, dTup, mutS, borS, argsD, nodupB, putM, frzN, safeOp, safeD, safeDs, wipeE, restore, argCells, List.getD_cons_zero, List.getD_cons_succ, List.set_cons_zero, List.set_cons_succ, List.length_cons, List.length_nil, List.cons_append, List.nil_append, List.append_nil, List.replicate_succ, List.replicate_zero, List.not_mem_nil, List.mem_cons, if_true, if_false, ite_true, ite_false, Bool.true_and, Bool.and_true, Bool.not_true, Bool.not_false, Bool.false_eq_true, reduceIte, List.getElem?_cons_zero, List.getElem?_cons_succ, List.all_nil, List.all_cons, List.contains_nil, Option.map_some, Option.map_none, Option.bind_some, and_self, and_true, true_and, or_false, false_or, or_true, true_or, Nat.reduceAdd, Nat.reduceSub, Nat.reduceLT, Nat.reduceLeDiff, Nat.reduceEqDiff, Nat.zero_add, eq_self, true_implies, not_false_eq_true, not_true_eq_false, Nat.lt_irrefl, Nat.succ_ne_zero, Nat.lt_add_one, ne_eq, Int.reduceEq, Int.reduceNe, decide_true, decide_false, Nat.zero_lt_succ, Bool.not_eq_true', decide_not, Nat.add_one_ne_zero, Nat.zero_le, Nat.le_refl, Bool.or_true, Bool.or_false, Bool.true_or, Bool.false_or, Bool.and_false, Bool.false_and, Nat.reduceMul, isiB, String.reduceBEq, Bool.or_self, Bool.and_self, reduceCtorEq, isSS, List.contains_cons, Nat.reduceBEq, ix_ll, eq_ln, ne_ln, List.length_map, List.length_range, Int.reduceToNat, Int.reducePow, Int.reduceMul, Int.reduceAdd, Int.reduceSub, Int.reduceNeg, Int.reduceLE, Int.reduceLT, Int.toNat_natCast, Bool.and_eq_true, Bool.or_eq_true, decide_eq_true_eq, Bool.decide_eq_true, rep_d, List.length_append, List.length_reverse, map_snoc, map_app, Int.sub_zero, List.append_assoc, ite_self, k4] <;> rfl, _, .inl (by
        unfold f_l_right_k09_1
        simp (disch := first | assumption | omega | decide) only [ev0, ev1, ev2, ev3, ev4, ev5, ev6, dList, dTup, mutS, borS, argsD, nodupB, putM, frzN, safeOp, safeD, safeDs, wipeE, restore, argCells, List.getD_cons_zero, List.getD_cons_succ, List.set_cons_zero, List.set_cons_succ, List.length_cons, List.length_nil, List.cons_append, List.nil_append, List.append_nil, List.replicate_succ, List.replicate_zero, List.not_mem_nil, List.mem_cons, if_true, if_false, ite_true, ite_false, Bool.true_and, Bool.and_true, Bool.not_true, Bool.not_false, Bool.false_eq_true, reduceIte, List.getElem?_cons_zero, List.getElem?_cons_succ, List.all_nil, List.all_cons, List.contains_nil, Option.map_some, Option.map_none, Option.bind_some, and_self, and_true, true_and, or_false, false_or, or_true, true_or, Nat.reduceAdd, Nat.reduceSub, Nat.reduceLT, Nat.reduceLeDiff, Nat.reduceEqDiff, Nat.zero_add, eq_self, true_implies, not_false_eq_true, not_true_eq_false, Nat.lt_irrefl, Nat.succ_ne_zero, Nat.lt_add_one, ne_eq, Int.reduceEq, Int.reduceNe, decide_true, decide_false, Nat.zero_lt_succ, Bool.not_eq_true', decide_not, Nat.add_one_ne_zero, Nat.zero_le, Nat.le_refl, Bool.or_true, Bool.or_false, Bool.true_or, Bool.false_or, Bool.and_false, Bool.false_and, Nat.reduceMul, isiB, String.reduceBEq, Bool.or_self, Bool.and_self, reduceCtorEq, isSS, List.contains_cons, Nat.reduceBEq, ix_ll, eq_ln, ne_ln, List.length_map, List.length_range, Int.reduceToNat, Int.reducePow, Int.reduceMul, Int.reduceAdd, Int.reduceSub, Int.reduceNeg, Int.reduceLE, Int.reduceLT, Int.toNat_natCast, Bool.and_eq_true, Bool.or_eq_true, decide_eq_true_eq, Bool.decide_eq_true, rep_d, List.length_append, List.length_reverse, map_snoc, map_app, Int.sub_zero, List.append_assoc, ite_self, tap_safe, e2, e3] <;> rfl), _, _, rfl, rfl⟩)
  obtain ⟨s0, s1, s2, hs, h0, h0', hs1, hs2⟩ : ∃ s0 s1 s2 : Int, (if most > 60 then PyData.list [.int 199, .int 197, .int 193] else .list [.int 59, .int 53, .int 47]) = .list [.int s0, .int s1, .int s2] ∧ (1 ≤ s0 ∧ s0 ≤ 200) ∧ True ∧ (1 ≤ s1 ∧ s1 ≤ 200) ∧ (1 ≤ s2 ∧ s2 ≤ 200) := by
    rcases hmo with rfl | rfl
    · exact ⟨59, 53, 47, rfl, by decide, trivial, by decide, by decide⟩
    · exact ⟨199, 197, 193, rfl, by decide, trivial, by decide, by decide⟩
  have d2 := draw_eq t2 (b := 11 * s0) (by omega) (by omega)
  obtain ⟨f0, f1⟩ := drR_lt t2 (b := 11 * s0) (by omega)
  generalize drT t2 (11 * s0) = t3 at *
  generalize drR t2 (11 * s0) = r2 at *
  have d3 := draw_eq t3 (b := 3) (by omega) (by omega)
  obtain ⟨g0, g1⟩ := drR_lt t3 (b := 3) (by omega)
  generalize drT t3 3 = t4 at *
  generalize drR t3 3 = r3 at *
  obtain ⟨bt, hbt⟩ : ∃ bt : Int, (if r3 = 0 then s0 else if r3 = 1 then s1 else s2) = bt := ⟨_, rfl⟩
  have hb : 1 ≤ bt ∧ bt ≤ 200 := by
    rw [← hbt]
    split
    · omega
    · split <;> omega
  obtain ⟨t5, e5⟩ := course_right_eq steep (by decide) (by decide) t4 (t := r2) (b := bt) (by omega) (by omega) (by omega)
  generalize drR t 12 = r0 at *
  generalize drT t 12 = t0 at *
  simp only [List.map_cons, List.map_nil] at e5
  have fl : [[PyData.int 0, .int 11], [PyData.int 0, .int 11], [PyData.int 0, .int 11], [PyData.int 0, .int 11], [PyData.int 0, .int 11], [PyData.int 0, .int 11]].flatten = [.int 0, .int 11, .int 0, .int 11, .int 0, .int 11, .int 0, .int 11, .int 0, .int 11, .int 0, .int 11] := rfl
  refine ⟨t5, ?_⟩
  unfold m_l_right_k09 b_l_right_k09
  rcases hmo with rfl | rfl
  · cases hs
    simp only [Int.reduceMul] at d2
    simp (disch := first | assumption | omega | decide) only [ev0, ev1, ev2, ev3, ev4, ev5, ev6, dList, dTup, mutS, borS, argsD, nodupB, putM, frzN, safeOp, safeD, safeDs, wipeE, restore, argCells, List.getD_cons_zero, List.getD_cons_succ, List.set_cons_zero, List.set_cons_succ, List.length_cons, List.length_nil, List.cons_append, List.nil_append, List.append_nil, List.replicate_succ, List.replicate_zero, List.not_mem_nil, List.mem_cons, if_true, if_false, ite_true, ite_false, Bool.true_and, Bool.and_true, Bool.not_true, Bool.not_false, Bool.false_eq_true, reduceIte, List.getElem?_cons_zero, List.getElem?_cons_succ, List.all_nil, List.all_cons, List.contains_nil, Option.map_some, Option.map_none, Option.bind_some, and_self, and_true, true_and, or_false, false_or, or_true, true_or, Nat.reduceAdd, Nat.reduceSub, Nat.reduceLT, Nat.reduceLeDiff, Nat.reduceEqDiff, Nat.zero_add, eq_self, true_implies, not_false_eq_true, not_true_eq_false, Nat.lt_irrefl, Nat.succ_ne_zero, Nat.lt_add_one, ne_eq, Int.reduceEq, Int.reduceNe, decide_true, decide_false, Nat.zero_lt_succ, Bool.not_eq_true', decide_not, Nat.add_one_ne_zero, Nat.zero_le, Nat.le_refl, Bool.or_true, Bool.or_false, Bool.true_or, Bool.false_or, Bool.and_false, Bool.false_and, Nat.reduceMul, isiB, String.reduceBEq, Bool.or_self, Bool.and_self, reduceCtorEq, isSS, List.contains_cons, Nat.reduceBEq, ix_ll, eq_ln, ne_ln, List.length_map, List.length_range, Int.reduceToNat, Int.reducePow, Int.reduceMul, Int.reduceAdd, Int.reduceSub, Int.reduceNeg, Int.reduceLE, Int.reduceLT, Int.toNat_natCast, Bool.and_eq_true, Bool.or_eq_true, decide_eq_true_eq, Bool.decide_eq_true, rep_d, List.length_append, List.length_reverse, map_snoc, map_app, Int.sub_zero, List.append_assoc, ite_self, tap_safe, d1, hn, e1, lp, d2, d3, hbt, fl, e5]
  · cases hs
    simp only [Int.reduceMul] at d2
    simp (disch := first | assumption | omega | decide) only [ev0, ev1, ev2, ev3, ev4, ev5, ev6, dList, dTup, mutS, borS, argsD, nodupB, putM, frzN, safeOp, safeD, safeDs, wipeE, restore, argCells, List.getD_cons_zero, List.getD_cons_succ, List.set_cons_zero, List.set_cons_succ, List.length_cons, List.length_nil, List.cons_append, List.nil_append, List.append_nil, List.replicate_succ, List.replicate_zero, List.not_mem_nil, List.mem_cons, if_true, if_false, ite_true, ite_false, Bool.true_and, Bool.and_true, Bool.not_true, Bool.not_false, Bool.false_eq_true, reduceIte, List.getElem?_cons_zero, List.getElem?_cons_succ, List.all_nil, List.all_cons, List.contains_nil, Option.map_some, Option.map_none, Option.bind_some, and_self, and_true, true_and, or_false, false_or, or_true, true_or, Nat.reduceAdd, Nat.reduceSub, Nat.reduceLT, Nat.reduceLeDiff, Nat.reduceEqDiff, Nat.zero_add, eq_self, true_implies, not_false_eq_true, not_true_eq_false, Nat.lt_irrefl, Nat.succ_ne_zero, Nat.lt_add_one, ne_eq, Int.reduceEq, Int.reduceNe, decide_true, decide_false, Nat.zero_lt_succ, Bool.not_eq_true', decide_not, Nat.add_one_ne_zero, Nat.zero_le, Nat.le_refl, Bool.or_true, Bool.or_false, Bool.true_or, Bool.false_or, Bool.and_false, Bool.false_and, Nat.reduceMul, isiB, String.reduceBEq, Bool.or_self, Bool.and_self, reduceCtorEq, isSS, List.contains_cons, Nat.reduceBEq, ix_ll, eq_ln, ne_ln, List.length_map, List.length_range, Int.reduceToNat, Int.reducePow, Int.reduceMul, Int.reduceAdd, Int.reduceSub, Int.reduceNeg, Int.reduceLE, Int.reduceLT, Int.toNat_natCast, Bool.and_eq_true, Bool.or_eq_true, decide_eq_true_eq, Bool.decide_eq_true, rep_d, List.length_append, List.length_reverse, map_snoc, map_app, Int.sub_zero, List.append_assoc, ite_self, tap_safe, d1, hn, e1, lp, d2, d3, hbt, fl, e5]
theorem orb_fix (h : mv1 ms p = p) : ∀ k, orb ms p k = p
  | 0 => rfl
  | k + 1 => by
    show mv1 ms (orb ms p k) = p
    rw [orb_fix h k, h]
theorem law_k09 : Says 63 m_law_k09 := by
  intro ns hl
  obtain ⟨cs, h1, h2⟩ := cells_eq ns (by omega) 4 (by decide) (by decide)
  have q := lc_flt (gx := gSlot 3) (t := c_law_k09_1) (fe := x_law_k09_1) (is := [3]) (e := [.v (.list (ns.map .int)), .own (.list (cs.map .int)), .no, .no]) (fun _ => false) (fun x => .int x) (rgI 0 cs.length) (by rw [rgI_len]; omega) (fun x hx => by
    have hx := rgI_mem.mp hx
    obtain ⟨t, e1⟩ := tap_eq (cs.getD x.toNat 0) x hx.1 (by omega)
    obtain ⟨t', e2⟩ := right_k09 t (most := if (if (x == 0) = true then (1 : Int) else 0) = 0 then 60 else 200) (by split <;> simp)
    have b0 : 0 ≤ (if (x == 0) = true then (1 : Int) else 0) ∧ (if (x == 0) = true then (1 : Int) else 0) < 2 := by split <;> decide
    refine ⟨_, _, by simp (disch := first | assumption | omega | decide) only [ev0, ev1, ev2, ev3, ev4, ev5, ev6, dList, dTup, mutS, borS, argsD, nodupB, putM, frzN, safeOp, safeD, safeDs, wipeE, restore, argCells, List.getD_cons_zero, List.getD_cons_succ, List.set_cons_zero, List.set_cons_succ, List.length_cons, List.length_nil, List.cons_append, List.nil_append, List.append_nil, List.replicate_succ, List.replicate_zero, List.not_mem_nil, List.mem_cons, if_true, if_false, ite_true, ite_false, Bool.true_and, Bool.and_true, Bool.not_true, Bool.not_false, Bool.false_eq_true, reduceIte, List.getElem?_cons_zero, List.getElem?_cons_succ, List.all_nil, List.all_cons, List.contains_nil, Option.map_some, Option.map_none, Option.bind_some, and_self, and_true, true_and, or_false, false_or, or_true, true_or, Nat.reduceAdd, Nat.reduceSub, Nat.reduceLT, Nat.reduceLeDiff, Nat.reduceEqDiff, Nat.zero_add, eq_self, true_implies, not_false_eq_true, not_true_eq_false, Nat.lt_irrefl, Nat.succ_ne_zero, Nat.lt_add_one, ne_eq, Int.reduceEq, Int.reduceNe, decide_true, decide_false, Nat.zero_lt_succ, Bool.not_eq_true', decide_not, Nat.add_one_ne_zero, Nat.zero_le, Nat.le_refl, Bool.or_true, Bool.or_false, Bool.true_or, Bool.false_or, Bool.and_false, Bool.false_and, Nat.reduceMul, isiB, String.reduceBEq, Bool.or_self, Bool.and_self, reduceCtorEq, isSS, List.contains_cons, Nat.reduceBEq, ix_ll, eq_ln, ne_ln, List.length_map, List.length_range, Int.reduceToNat, Int.reducePow, Int.reduceMul, Int.reduceAdd, Int.reduceSub, Int.reduceNeg, Int.reduceLE, Int.reduceLT, Int.toNat_natCast, Bool.and_eq_true, Bool.or_eq_true, decide_eq_true_eq, Bool.decide_eq_true, rep_d, List.length_append, List.length_reverse, map_snoc, map_app, Int.sub_zero, List.append_assoc, ite_self] <;> rfl, by
      unfold c_law_k09_1
      simp (disch := first | assumption | omega | decide) only [ev0, ev1, ev2, ev3, ev4, ev5, ev6, dList, dTup, mutS, borS, argsD, nodupB, putM, frzN, safeOp, safeD, safeDs, wipeE, restore, argCells, List.getD_cons_zero, List.getD_cons_succ, List.set_cons_zero, List.set_cons_succ, List.length_cons, List.length_nil, List.cons_append, List.nil_append, List.append_nil, List.replicate_succ, List.replicate_zero, List.not_mem_nil, List.mem_cons, if_true, if_false, ite_true, ite_false, Bool.true_and, Bool.and_true, Bool.not_true, Bool.not_false, Bool.false_eq_true, reduceIte, List.getElem?_cons_zero, List.getElem?_cons_succ, List.all_nil, List.all_cons, List.contains_nil, Option.map_some, Option.map_none, Option.bind_some, and_self, and_true, true_and, or_false, false_or, or_true, true_or, Nat.reduceAdd, Nat.reduceSub, Nat.reduceLT, Nat.reduceLeDiff, Nat.reduceEqDiff, Nat.zero_add, eq_self, true_implies, not_false_eq_true, not_true_eq_false, Nat.lt_irrefl, Nat.succ_ne_zero, Nat.lt_add_one, ne_eq, Int.reduceEq, Int.reduceNe, decide_true, decide_false, Nat.zero_lt_succ, Bool.not_eq_true', decide_not, Nat.add_one_ne_zero, Nat.zero_le, Nat.le_refl, Bool.or_true, Bool.or_false, Bool.true_or, Bool.false_or, Bool.and_false, Bool.false_and, Nat.reduceMul, isiB, String.reduceBEq, Bool.or_self, Bool.and_self, reduceCtorEq, isSS, List.contains_cons, Nat.reduceBEq, ix_ll, eq_ln, ne_ln, List.length_map, List.length_range, Int.reduceToNat, Int.reducePow, Int.reduceMul, Int.reduceAdd, Int.reduceSub, Int.reduceNeg, Int.reduceLE, Int.reduceLT, Int.toNat_natCast, Bool.and_eq_true, Bool.or_eq_true, decide_eq_true_eq, Bool.decide_eq_true, rep_d, List.length_append, List.length_reverse, map_snoc, map_app, Int.sub_zero, List.append_assoc, ite_self, e1, e2, tap_safe, callX, T3.liftM, cutM] <;> rfl, fun _ => by simp (disch := first | assumption | omega | decide) only [ev0, ev1, ev2, ev3, ev4, ev5, ev6, dList, dTup, mutS, borS, argsD, nodupB, putM, frzN, safeOp, safeD, safeDs, wipeE, restore, argCells, List.getD_cons_zero, List.getD_cons_succ, List.set_cons_zero, List.set_cons_succ, List.length_cons, List.length_nil, List.cons_append, List.nil_append, List.append_nil, List.replicate_succ, List.replicate_zero, List.not_mem_nil, List.mem_cons, if_true, if_false, ite_true, ite_false, Bool.true_and, Bool.and_true, Bool.not_true, Bool.not_false, Bool.false_eq_true, reduceIte, List.getElem?_cons_zero, List.getElem?_cons_succ, List.all_nil, List.all_cons, List.contains_nil, Option.map_some, Option.map_none, Option.bind_some, and_self, and_true, true_and, or_false, false_or, or_true, true_or, Nat.reduceAdd, Nat.reduceSub, Nat.reduceLT, Nat.reduceLeDiff, Nat.reduceEqDiff, Nat.zero_add, eq_self, true_implies, not_false_eq_true, not_true_eq_false, Nat.lt_irrefl, Nat.succ_ne_zero, Nat.lt_add_one, ne_eq, Int.reduceEq, Int.reduceNe, decide_true, decide_false, Nat.zero_lt_succ, Bool.not_eq_true', decide_not, Nat.add_one_ne_zero, Nat.zero_le, Nat.le_refl, Bool.or_true, Bool.or_false, Bool.true_or, Bool.false_or, Bool.and_false, Bool.false_and, Nat.reduceMul, isiB, String.reduceBEq, Bool.or_self, Bool.and_self, reduceCtorEq, isSS, List.contains_cons, Nat.reduceBEq, ix_ll, eq_ln, ne_ln, List.length_map, List.length_range, Int.reduceToNat, Int.reducePow, Int.reduceMul, Int.reduceAdd, Int.reduceSub, Int.reduceNeg, Int.reduceLE, Int.reduceLT, Int.toNat_natCast, Bool.and_eq_true, Bool.or_eq_true, decide_eq_true_eq, Bool.decide_eq_true, rep_d, List.length_append, List.length_reverse, map_snoc, map_app, Int.sub_zero, List.append_assoc, ite_self, List.take_succ_cons, List.take_zero], fun z => Bool.noConfusion z⟩)
  rw [flt_none] at q
  have i3 : InR 3 [1, 2, 0] := ⟨rfl, by decide⟩
  obtain ⟨N1, B1, C1, hN1⟩ := crs_ex i3 (by decide) (rd_lw (t := 4) (b := 3) (by decide))
  have m1 := moved_far_eq i3 (by decide) (by decide) (t := 4) (b := 3) (k := 1000000000000000000000000000000) (by decide) (by decide) C1 (by
    rw [show lw 4 3 = (4, 3) by decide +kernel] at hN1; simp only at hN1; omega) (by decide) (by decide)
  rw [show lw 4 3 = (4, 3) by decide +kernel, orb_fix (by decide +kernel)] at m1
  obtain ⟨N2, B2, C2, hN2⟩ := crs_ex i3 (by decide) (rd_lw (t := 2) (b := 4) (by decide))
  have m3 := moved_far_eq i3 (by decide) (by decide) (t := 2) (b := 4) (k := 0) (by decide) (by decide) C2 (by
    rw [show lw 2 4 = (1, 2) by decide +kernel] at hN2; simp only at hN2; omega) (by decide) (by decide)
  rw [show orb [1, 2, 0] (lw 2 4) (0 : Int).toNat = (1, 2) by decide +kernel] at m3
  obtain ⟨N3, B3, C3, hN3⟩ := crs_ex i3 (by decide) (rd_lw (t := 1) (b := 2) (by decide))
  have E : IsEnd [1, 2, 0] (lw 1 2) 3 (0, 1) := by
    have bk : orb [1, 2, 0] (0, 1) 3 = (0, 1) := by decide +kernel
    refine ⟨by decide, ⟨4, by decide +kernel⟩, bk, fun j j1 j2 => ?_, fun j => ?_⟩
    · rcases (show j = 1 ∨ j = 2 by omega) with rfl | rfl <;> decide +kernel
    · rw [orb_mod bk]
      have := Nat.mod_lt j (show 0 < 3 by decide)
      generalize j % 3 = i at *
      rcases (show i = 0 ∨ i = 1 ∨ i = 2 by omega) with rfl | rfl | rfl <;> decide +kernel
  have m2 := ring_at_end_eq i3 (by decide) (by decide) (t := 1) (b := 2) (by decide) (by decide) (by decide) C3 (by
    rw [show lw 1 2 = (1, 2) by decide +kernel] at hN3; simp only at hN3; omega) E
  rw [show rgO [1, 2, 0] (0, 1) 3 = [(0, 1), (1, 1), (2, 1)] by decide +kernel] at m2
  unfold Pt at m1 m2 m3
  simp only [List.map_cons, List.map_nil] at m1 m2 m3
  have eqs := eq_self (d := .list [ptE (4, 3), .list [ptE (0, 1), ptE (1, 1), ptE (2, 1)], ptE (1, 2)]) (by decide +kernel) (by decide +kernel)
  refine ⟨[], ?_⟩
  unfold m_law_k09 b_law_k09
  simp (disch := first | assumption | omega | decide) only [ev0, ev1, ev2, ev3, ev4, ev5, ev6, dList, dTup, mutS, borS, argsD, nodupB, putM, frzN, safeOp, safeD, safeDs, wipeE, restore, argCells, List.getD_cons_zero, List.getD_cons_succ, List.set_cons_zero, List.set_cons_succ, List.length_cons, List.length_nil, List.cons_append, List.nil_append, List.append_nil, List.replicate_succ, List.replicate_zero, List.not_mem_nil, List.mem_cons, if_true, if_false, ite_true, ite_false, Bool.true_and, Bool.and_true, Bool.not_true, Bool.not_false, Bool.false_eq_true, reduceIte, List.getElem?_cons_zero, List.getElem?_cons_succ, List.all_nil, List.all_cons, List.contains_nil, Option.map_some, Option.map_none, Option.bind_some, and_self, and_true, true_and, or_false, false_or, or_true, true_or, Nat.reduceAdd, Nat.reduceSub, Nat.reduceLT, Nat.reduceLeDiff, Nat.reduceEqDiff, Nat.zero_add, eq_self, true_implies, not_false_eq_true, not_true_eq_false, Nat.lt_irrefl, Nat.succ_ne_zero, Nat.lt_add_one, ne_eq, Int.reduceEq, Int.reduceNe, decide_true, decide_false, Nat.zero_lt_succ, Bool.not_eq_true', decide_not, Nat.add_one_ne_zero, Nat.zero_le, Nat.le_refl, Bool.or_true, Bool.or_false, Bool.true_or, Bool.false_or, Bool.and_false, Bool.false_and, Nat.reduceMul, isiB, String.reduceBEq, Bool.or_self, Bool.and_self, reduceCtorEq, isSS, List.contains_cons, Nat.reduceBEq, ix_ll, eq_ln, ne_ln, List.length_map, List.length_range, Int.reduceToNat, Int.reducePow, Int.reduceMul, Int.reduceAdd, Int.reduceSub, Int.reduceNeg, Int.reduceLE, Int.reduceLT, Int.toNat_natCast, Bool.and_eq_true, Bool.or_eq_true, decide_eq_true_eq, Bool.decide_eq_true, rep_d, List.length_append, List.length_reverse, map_snoc, map_app, Int.sub_zero, List.append_assoc, ite_self, h2, q, List.map_nil, m1, m2, m3, eqs]
end
end Pg
theorem G_k09.says : T3.Says 63 Pg.m_law_k09 := Pg.law_k09
open PySem PySem.W PySem.Calls PyProof.Rows in
theorem PySem.Challenge.cw_sureturns_k09_points_moved_far_holds : PySem.Challenge.rw_sureturns_k09_points_moved_far.Holds := by
  w_on; o_law
  refine HandSHeadRun.head_any (r := OpenLaw.row PySem.Challenge.rw_sureturns_k09_points_moved_far) (q := view (OpenLaw.row PySem.Challenge.rw_sureturns_k09_points_moved_far).prog [37]) (H := G_k09.hk) (ob := G_k09.ob) (M := 4000) (loose := G_k09.loose) (d := HandSHeadRun.topDef (OpenLaw.row PySem.Challenge.rw_sureturns_k09_points_moved_far).prog 37) (kwd := []) G_k09.ob_eq
    (by kernel_rfl) (fun s => by kernel_rfl) G_k09.run (by kernel_rfl) (by kernel_rfl) (by kernel_rfl) (by rfl) (by first | assumption | decide +kernel) (by decide +kernel) ⟨rfl, rfl, rfl, rfl, rfl, by decide +kernel⟩ ?hw ?hc
  case hw => w_witness2
  case hc =>
    refine T3.walk_g (l := PySem.Challenge.rw_sureturns_k09_points_moved_far) (n := 63) (k := 9) (x := "_law_script") rfl (by decide) (by kernel_rfl) ⟨rfl, by decide, by decide⟩ ?F
    intro w mg fa h Y G hmg0
    obtain ⟨K, KX, c⟩ := Y
    have hmg : mg ("law" : PySem.Str) = some (.ref fa) := by
      have e : (HandSHeadRun.topDef (OpenLaw.row PySem.Challenge.rw_sureturns_k09_points_moved_far).prog 37).name = ("law" : PySem.Str) := by kernel_rfl
      rw [← e]
      exact hmg0
    obtain ⟨fd, hb, hF⟩ := G_k09.walk G_k09.says (P := (PySem.Challenge.rw_sureturns_k09_points_moved_far).prog) (w := w) KX G hmg c
    exact ⟨K, fd, _, KX, hb, G_k09.says, hF⟩
