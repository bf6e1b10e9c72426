import PyProof.Rows.All
import Wide.All
import OpenK.AllK
import Wide.FinOn
import HandS.ForMost
import HandS.ForExc
import HandS.Wide
import HandS.Defaults
import HandS.Codes
import HandS.ExcIs
import HandS.ExcValue
import HandS.ExcInit
import HandS.Style
import HandS.Deep
import HandS.SortInts
import HandS.TupAny
import HandS.IsInst
import HandS.Conv
import HandS.HeadEnd
import HandS.Head0
import HandS.Head1
import HandS.Head2
import HandS.HeadHook1
import HandS.HeadHook2
import KE.KRevSl
import HandS.SortRule
import HandS.TryOnly
import KE.SortData
import HandS.TupSets
import HandS.Small
import HandS.Strs
import HandS.SetFor
import HandS.WideBits
import KE.DataMinMax
import HandS.Property
import HandS.DictComp
import HandS.ListItems
import OpenK.KOps
import HandS.Text
import HandS.Exc
import HandS.ExcField
import HandS.Star
import HandS.Iter
import PySem.Challenge.RW_sureturns_k06_errors_made
set_option Elab.async false
set_option linter.all false
set_option maxRecDepth 100000
set_option maxHeartbeats 0
set_option autoImplicit false
namespace T3
open PySem PySem.Spec PyProof.Rows L2
abbrev Sl := L2.St
abbrev D := PyData
abbrev Fg := PySem.W.Frag
def kD : Key → D
  | .inl i => .int i
  | .inr x => .str x
/-- the class of the watches -/
structure WC (K : Fg) (C : Addr) : Prop where
  glo : PySem.W.nsIn K mainGlobals "Watch" = some (some (.ref C))
  ins : C8.InsC K C
  noP : NoAttr K C "past"
  kit : ∀ T ∈ (["NoneType", "int", "bool", "str", "list", "tuple", "dict"] : List String), PySem.W.kitOne K (.ref C) (.type T) = some false
/-- the class of the consoles -/
structure CC (K : Fg) (C : Addr) : Prop where
  glo : PySem.W.nsIn K mainGlobals "Console" = some (some (.ref C))
  ins : C8.InsC K C
  noP : NoAttr K C "watch"
  kit : ∀ T ∈ (["NoneType", "int", "bool", "str", "list", "tuple", "dict"] : List String), PySem.W.kitOne K (.ref C) (.type T) = some false
/-- the class of the errors of the name nm -/
structure EC (K : Fg) (nm : Str) (C : Addr) : Prop where
  glo : PySem.W.nsIn K mainGlobals nm = some (some (.ref C))
  exc : ExcC K C
  kit : ∀ T ∈ (["NoneType", "int", "bool", "str", "list", "tuple", "dict"] : List String), PySem.W.kitOne K (.ref C) (.type T) = some false
/-- an error that was made, not raised, of the class of the name nm -/
def erD (nm : Str) : D := .dict [(.none, .str nm)]
/-- .. that keeps a place -/
def erpD (nm : Str) (d : D) : D := .dict [(.none, .tuple [.str nm, d])]
/-- what a place may be -/
def plV : D → Option V
  | .none => some .non
  | .int i => some (.int i)
  | _ => none
/-- a console, by its watch's place -/
def conD (w : Addr) : D := .dict [(.none, .int w)]
/-- a watch, by its past -/
def wD (ds : List D) : D := .dict [(.none, .list ds)]
/-- a watch at a place that is told -/
def wwD (w : Addr) (ds : List D) : D := .dict [(.none, .tuple [.int w, .list ds])]
/-- the mark of a dict whose keys are tuples -/
def mkT : D × D := (.none, .none)
/-- a tuple that is a key -/
def kT (k : List Key) : D := .tuple (k.map kD)
mutual
inductive Rep (K : Fg) (A : Hp) : V → D → Prop
  | non : Rep K A .non .none
  | bl (b : Bool) : Rep K A (.bl b) (.bool b)
  | int (i : Int) : Rep K A (.int i) (.int i)
  | str (x : Str) : Rep K A (.str x) (.str x)
  | lst {a : Addr} {xs : List V} {ds : List D} : SqL K A a xs → Reps K A xs ds → Rep K A (.ref a) (.list ds)
  | tup {a : Addr} {xs : List V} {ds : List D} : A a = some (.tup xs) → Reps K A xs ds → Rep K A (.ref a) (.tuple ds)
  | dic {a : Addr} {kvs : List (Key × V)} {ds : List D} : Rd A a (.dK kvs) → Reps K A (kvs.map (·.2)) ds → Rep K A (.ref a) (.dict ((kvs.map fun p => kD p.1).zip ds))
  | dicT {a : Addr} {kvs : List (List Key × V)} {ds : List D} : A a = some (.dT kvs) → Reps K A (kvs.map (·.2)) ds → Rep K A (.ref a) (.dict (mkT :: (kvs.map fun p => kT p.1).zip ds))
  | wat {a C dx l : Addr} {xs : List V} {ds : List D} : A a = some (.ins C dx [("past", .ref l)]) → WC K C → SqL K A l xs → Reps K A xs ds → Rep K A (.ref a) (wD ds)
  | con {a C dx w : Addr} : A a = some (.ins C dx [("watch", .ref w)]) → CC K C → Rep K A (.ref a) (conD w)
  | watG {a C dx l : Addr} {xs : List V} {ds : List D} : A a = some (.ins C dx [("past", .ref l)]) → WC K C → SqL K A l xs → Reps K A xs ds → Rep K A (.ref a) (wwD a ds)
  | er {a C : Addr} {nm : Str} : A a = some (ExO (.ref C) a) → EC K nm C → Rep K A (.ref a) (erD nm)
  | erp {a C dd : Addr} {nm : Str} {v : V} {d : D} : A a = some (exo a C (some dd)) → A dd = some (exd dd [("place", v)]) → EC K nm C → plV d = some v → Rep K A (.ref a) (erpD nm d)
inductive Reps (K : Fg) (A : Hp) : List V → List D → Prop
  | nil : Reps K A [] []
  | cons {v : V} {vs : List V} {d : D} {ds : List D} : Rep K A v d → Reps K A vs ds → Reps K A (v :: vs) (d :: ds)
end
theorem sameRd {H H' : Hp} {a : Addr} {u : HO} (e : Same H H') (h : Rd H a u) : Rd H' a u := by
  rcases h with h | ⟨o, h⟩
  · exact .inl (e _ _ h)
  · exact .inr ⟨o, e _ _ h⟩
section
variable {K : Fg} {A A' : Hp}
theorem Reps.same (e : Same A A') {vs : List V} {ds : List D} (h : Reps K A vs ds) : Reps K A' vs ds :=
  Reps.rec (motive_1 := fun v d _ => Rep K A' v d) (motive_2 := fun vs ds _ => Reps K A' vs ds)
    .non .bl .int .str (fun s _ ih => .lst (e.seq s) ih) (fun s _ ih => .tup (e _ _ s) ih) (fun s _ ih => .dic (sameRd e s) ih) (fun s _ ih => .dicT (e _ _ s) ih) (fun s c l _ ih => .wat (e _ _ s) c (e.seq l) ih) (fun s c => .con (e _ _ s) c) (fun s c l _ ih => .watG (e _ _ s) c (e.seq l) ih) (fun s c => .er (e _ _ s) c) (fun s t c p => .erp (e _ _ s) (e _ _ t) c p) .nil (fun _ _ i1 i2 => .cons i1 i2) h
theorem Rep.same (e : Same A A') {v : V} {d : D} (h : Rep K A v d) : Rep K A' v d :=
  Rep.rec (motive_1 := fun v d _ => Rep K A' v d) (motive_2 := fun vs ds _ => Reps K A' vs ds)
    .non .bl .int .str (fun s _ ih => .lst (e.seq s) ih) (fun s _ ih => .tup (e _ _ s) ih) (fun s _ ih => .dic (sameRd e s) ih) (fun s _ ih => .dicT (e _ _ s) ih) (fun s c l _ ih => .wat (e _ _ s) c (e.seq l) ih) (fun s c => .con (e _ _ s) c) (fun s c l _ ih => .watG (e _ _ s) c (e.seq l) ih) (fun s c => .er (e _ _ s) c) (fun s t c p => .erp (e _ _ s) (e _ _ t) c p) .nil (fun _ _ i1 i2 => .cons i1 i2) h
theorem Reps.length {vs : List V} {ds : List D} (h : Reps K A vs ds) : vs.length = ds.length := by
  induction ds generalizing vs with
  | nil => cases h; rfl
  | cons d ds ih => cases h with | cons _ h2 => exact congrArg Nat.succ (ih h2)
theorem Reps.get {vs : List V} {ds : List D} {i : Nat} {d : D} (h : Reps K A vs ds) (e : ds[i]? = some d) : ∃ v, vs[i]? = some v ∧ Rep K A v d := by
  induction ds generalizing vs i with
  | nil => simp at e
  | cons d' ds ih =>
    cases h with
    | cons h1 h2 =>
      cases i with
      | zero => simp at e; subst e; exact ⟨_, rfl, h1⟩
      | succ i => obtain ⟨v, a, b⟩ := ih h2 (by simpa using e); exact ⟨v, by simpa using a, b⟩
theorem Reps.append {vs ws : List V} {ds es : List D} (h : Reps K A vs ds) (g : Reps K A ws es) : Reps K A (vs ++ ws) (ds ++ es) := by
  induction ds generalizing vs with
  | nil => cases h; exact g
  | cons d ds ih => cases h with | cons a b => exact .cons a (ih b)
theorem Reps.take {vs : List V} {ds : List D} (h : Reps K A vs ds) (n : Nat) : Reps K A (vs.take n) (ds.take n) := by
  induction ds generalizing vs n with
  | nil => cases h; simp; exact .nil
  | cons d ds ih =>
    cases h with
    | cons a b =>
      cases n with
      | zero => simp; exact .nil
      | succ n => simp only [List.take_succ_cons]; exact .cons a (ih b n)
theorem Reps.drop {vs : List V} {ds : List D} (h : Reps K A vs ds) (n : Nat) : Reps K A (vs.drop n) (ds.drop n) := by
  induction ds generalizing vs n with
  | nil => cases h; simp; exact .nil
  | cons d ds ih =>
    cases h with
    | cons a b =>
      cases n with
      | zero => simp; exact .cons a b
      | succ n => simp only [List.drop_succ_cons]; exact ih b n
theorem Reps.set {vs : List V} {ds : List D} {v : V} {d : D} (h : Reps K A vs ds) (r : Rep K A v d) (n : Nat) : Reps K A (vs.set n v) (ds.set n d) := by
  induction ds generalizing vs n with
  | nil => cases h; simp; exact .nil
  | cons d' ds ih =>
    cases h with
    | cons a b =>
      cases n with
      | zero => simp only [List.set_cons_zero]; exact .cons r b
      | succ n => simp only [List.set_cons_succ]; exact .cons a (ih b n)
theorem Reps.reverse {vs : List V} {ds : List D} (h : Reps K A vs ds) : Reps K A vs.reverse ds.reverse := by
  induction ds generalizing vs with
  | nil => cases h; simp; exact .nil
  | cons d ds ih =>
    cases h with
    | cons a b => simp only [List.reverse_cons]; exact (ih b).append (.cons a .nil)
theorem Reps.eraseIdx {vs : List V} {ds : List D} (h : Reps K A vs ds) (n : Nat) : Reps K A (vs.eraseIdx n) (ds.eraseIdx n) := by
  induction ds generalizing vs n with
  | nil => cases h; simp; exact .nil
  | cons d' ds ih =>
    cases h with
    | cons a b =>
      cases n with
      | zero => simp only [List.eraseIdx_cons_zero]; exact b
      | succ n => simp only [List.eraseIdx_cons_succ]; exact .cons a (ih b n)
theorem Reps.ints (ns : List Int) : Reps K A (ns.map V.int) (ns.map PyData.int) := by
  induction ns with
  | nil => exact .nil
  | cons n ns ih => exact .cons (.int n) ih
theorem Reps.flat_ints {vs : List V} {ns : List Int} (h : Reps K A vs (ns.map PyData.int)) : vs = ns.map V.int := by
  induction ns generalizing vs with
  | nil => cases h; rfl
  | cons n ns ih =>
    cases h with
    | cons a b => cases a; exact congrArg _ (ih b)
end
inductive Cell where
  | no | v (d : D) | own (d : D) | par (d : D) | raw (v : V)
inductive Op where
  | val (d : D) | slot (i : Nat) | new (d : D) | raw (v : V)
abbrev En := List Cell
/-- an error that comes out: its class's name, and its place if it keeps one -/
structure Xn where
  nm : Str
  pl : Option V
instance : Coe Str Xn := ⟨fun n => ⟨n, none⟩⟩
/-- an error of that name flies: of the class at C.1; where it keeps a place, this stands in its own dict at C.2 -/
def XN (mg : Str → Option Value) (n : Xn) (C : Addr × Option Addr) (A : Hp) : Prop := mg n.nm = some (.ref C.1) ∧ match n.pl with
  | none => C.2 = none
  | some v => ∃ d, C.2 = some d ∧ A d = some (.xd [("place", v)])
theorem XN.same {mg : Str → Option Value} {n : Xn} {C : Addr × Option Addr} {A A' : Hp} (h : XN mg n C A) (e : Same A A') : XN mg n C A' := by
  refine ⟨h.1, ?_⟩
  have h2 := h.2
  revert h2
  cases n.pl with
  | none => exact id
  | some v => exact fun ⟨d, a, b⟩ => ⟨d, a, e _ _ b⟩
theorem XN.xd {mg : Str → Option Value} {n : Xn} {C : Addr × Option Addr} {A A' : Hp} (h : XN mg n C A) (e : ∀ b fs, A b = some (.xd fs) → A' b = some (.xd fs)) : XN mg n C A' := by
  refine ⟨h.1, ?_⟩
  have h2 := h.2
  revert h2
  cases n.pl with
  | none => exact id
  | some v => exact fun ⟨d, a, b⟩ => ⟨d, a, e _ _ b⟩
theorem XN.plain {mg : Str → Option Value} {n : Str} {C : Addr × Option Addr} {A : Hp} (h : XN mg n C A) : mg n = some (.ref C.1) ∧ C.2 = none := h
inductive Out (S α : Type) where
  | ok (a : α) (s : S) | exc (n : Xn) (s : S) | bad
@[simp] def Out.bind {S α β : Type} (m : Out S α) (k : α → S → Out S β) : Out S β := match m with
  | .ok a s => k a s
  | .exc n s => .exc n s
  | .bad => .bad
inductive Fl where
  | nx | rt (o : Op) | bk | ct
abbrev Ex := En → Out En Op
abbrev Tx := En → Out En Bool
abbrev Sx := En → Out En Fl
abbrev Ax := En → Out En (List Op)
abbrev Fn := List D → Out (List D) Op
/-- a list (or a dict) that is its slot's alone -/
def Bod (K : Fg) (A H : Hp) (p : Addr) : D → Prop
  | .list ds => ∃ vs, H p = some (.lst vs) ∧ Reps K A vs ds
  | .dict es => (∃ kvs ds, H p = some (.dK kvs) ∧ Reps K A (kvs.map (·.2)) ds ∧ es = (kvs.map fun q => kD q.1).zip ds) ∨ (∃ kvs ds, H p = some (.dT kvs) ∧ Reps K A (kvs.map (·.2)) ds ∧ es = mkT :: (kvs.map fun q => kT q.1).zip ds) ∨
    ∃ C dx l xs ds, H p = some (.ins C dx [("past", .ref l)]) ∧ WC K C ∧ SqL K A l xs ∧ Reps K A xs ds ∧ (es = [(.none, .list ds)] ∨ es = [(.none, .tuple [.int p, .list ds])])
  | _ => False
theorem Bod.mut {K : Fg} {A H : Hp} {p : Addr} {d : D} (h : Bod K A H p d) : ∃ o, H p = some o := by
  cases d <;> first | exact False.elim h | skip
  · obtain ⟨vs, e, _⟩ := h; exact ⟨_, e⟩
  · rcases h with ⟨kvs, ds, e, _⟩ | ⟨kvs, ds, e, _⟩ | ⟨C, dx, l, xs, ds, e, _⟩ <;> exact ⟨_, e⟩
theorem Bod.lstdic {K : Fg} {A H : Hp} {p : Addr} {d : D} (h : Bod K A H p d) {o : HO} (e : H p = some o) : (∃ xs, o = .lst xs) ∨ (∃ kvs, o = .dK kvs) ∨ (∃ kvs, o = .dT kvs) ∨ ∃ C dx fs, o = .ins C dx fs := by
  cases d <;> first | exact False.elim h | skip
  · obtain ⟨vs, e', _⟩ := h; rw [e] at e'; cases e'; exact .inl ⟨_, rfl⟩
  · rcases h with ⟨kvs, ds, e', _⟩ | ⟨kvs, ds, e', _⟩ | ⟨C, dx, l, xs, ds, e', _⟩ <;> rw [e] at e' <;> cases e'
    · exact .inr (.inl ⟨_, rfl⟩)
    · exact .inr (.inr (.inl ⟨_, rfl⟩))
    · exact .inr (.inr (.inr ⟨_, _, _, rfl⟩))
theorem Bod.move {K : Fg} {A A' H H' : Hp} {p : Addr} {d : D} (h : Bod K A H p d) (e : Same A A') (k : H' p = H p) : Bod K A' H' p d := by
  cases d <;> first | exact False.elim h | skip
  · obtain ⟨vs, a, b⟩ := h; exact ⟨vs, k.trans a, b.same e⟩
  · rcases h with ⟨kvs, ds, a, b, c⟩ | ⟨kvs, ds, a, b, c⟩ | ⟨C, dx, l, xs, ds, a, b, c, f, g⟩
    · exact .inl ⟨kvs, ds, k.trans a, b.same e, c⟩
    · exact .inr (.inl ⟨kvs, ds, k.trans a, b.same e, c⟩)
    · exact .inr (.inr ⟨C, dx, l, xs, ds, k.trans a, b, e.seq c, f.same e, g⟩)
/-- frozen where it stands -/
theorem Bod.rep {K : Fg} {A A' H : Hp} {p : Addr} {d : D} (h : Bod K A H p d) (e : Same A A') (k : A' p = H p) : Rep K A' (.ref p) d := by
  cases d <;> first | exact False.elim h | skip
  · obtain ⟨vs, a, b⟩ := h; exact .lst (.inl (.inl (k.trans a))) (b.same e)
  · rcases h with ⟨kvs, ds, a, b, c⟩ | ⟨kvs, ds, a, b, c⟩ | ⟨C, dx, l, xs, ds, a, b, c, f, g⟩
    · subst c; exact .dic (.inl (k.trans a)) (b.same e)
    · subst c; exact .dicT (k.trans a) (b.same e)
    · rcases g with g | g
      · subst g; exact .wat (k.trans a) b (e.seq c) (f.same e)
      · subst g; exact .watG (k.trans a) b (e.seq c) (f.same e)
/-- the mark of a parameter that the caller lends: it stays at its address -/
def mkP (i : Nat) : HO := .tbl #[.int i 0]
theorem mkP_inj {i j : Nat} (h : mkP i = mkP j) : i = j := by
  unfold mkP at h
  injection h with h
  have h2 := congrArg (fun a : Array Value => a.toList) h
  simp at h2
  omega
theorem Bod.notmk {K : Fg} {A H : Hp} {p : Addr} {d : D} (h : Bod K A H p d) {o : HO} (e : H p = some o) : ∀ i, o ≠ mkP i := fun i z => by
  subst z
  rcases h.lstdic e with ⟨_, z⟩ | ⟨_, z⟩ | ⟨_, z⟩ | ⟨_, _, _, z⟩ <;> cases z
def SubF (F H : Hp) : Prop := ∀ b o, F b = some o → H b = some o ∨ ((∃ i, o = mkP i) ∧ ∃ u, H b = some u)
theorem SubF.free {F H : Hp} (s : SubF F H) {b : Addr} (h : H b = none) : F b = none := by
  cases e : F b with
  | none => rfl
  | some o =>
    rcases s b o e with q | ⟨_, u, q⟩
    · rw [h] at q; cases q
    · rw [h] at q; cases q
theorem SubF.there {F H : Hp} (s : SubF F H) {b : Addr} (h : (F b).isSome) : (H b).isSome := by
  obtain ⟨o, ho⟩ := Option.isSome_iff_exists.mp h
  rcases s b o ho with q | ⟨_, u, q⟩
  · rw [q]; rfl
  · rw [q]; rfl
theorem SubF.trans {F H H' : Hp} (s : SubF F H) (e : Same H H') : SubF F H' := fun b o h => by
  rcases s b o h with q | ⟨a, u, q⟩
  · exact .inl (e _ _ q)
  · exact .inr ⟨a, u, e _ _ q⟩
theorem SubF.lst {F H : Hp} (s : SubF F H) {b : Addr} {o : HO} (h : F b = some o) (n : ∀ i, o ≠ mkP i) : H b = some o := by
  rcases s b o h with q | ⟨⟨i, a⟩, _⟩
  · exact q
  · exact absurd a (n i)
structure Low (F F' : Hp) : Prop where
  same : Same F F'
  back : ∀ b i, F' b = some (mkP i) → F b = some (mkP i)
theorem Low.refl (F : Hp) : Low F F := ⟨Same.refl F, fun _ _ h => h⟩
theorem low_upd {F : Hp} {p : Addr} {o : HO} (n : F p = none) (h : ∀ i, o ≠ mkP i) : Low F (upd F p o) := ⟨fun b u e => by rw [upd_ne (ne_of_none e n)]; exact e, fun b i e => by
  by_cases hb : b = p
  · subst hb; rw [upd_same] at e; exact absurd (Option.some.inj e) (h i)
  · rw [upd_ne hb] at e; exact e⟩
theorem lst_mk {xs : List V} : ∀ i, (HO.lst xs) ≠ mkP i := fun i h => nomatch h
def CellOk (K : Fg) (F A H : Hp) (i : Nat) (sv : Option (Option V)) : Cell → Prop
  | .no => True
  | .v d => ∃ v, sv = some (some v) ∧ Rep K A v d
  | .own d => ∃ p, sv = some (some (.ref p)) ∧ A p = none ∧ F p = none ∧ Bod K A H p d
  | .par d => ∃ p, sv = some (some (.ref p)) ∧ A p = none ∧ F p = some (mkP i) ∧ Bod K A H p d
  | .raw v => sv = some (some v)
structure SOk (K : Fg) (F : Hp) (σ : Sl) (env : En) (H A : Hp) : Prop where
  subA : Same A H
  subF : SubF F H
  cell : ∀ i, CellOk K F A H i σ[i]? (env.getD i .no)
  apart : ∀ i j d e p, env.getD i .no = .own d → env.getD j .no = .own e → σ[i]? = some (some (.ref p)) → σ[j]? = some (some (.ref p)) → i = j
  lens : env.length = σ.length
  nomk : ∀ b i, H b ≠ some (mkP i)
def Grow (F A A' : Hp) : Prop := Same A A' ∧ ∀ b, (F b).isSome → A' b = A b
theorem Grow.refl {F A : Hp} : Grow F A A := ⟨Same.refl A, fun _ _ => rfl⟩
theorem Grow.trans {F A B C : Hp} (h : Grow F A B) (g : Grow F B C) : Grow F A C := ⟨h.1.trans g.1, fun b s => (g.2 b s).trans (h.2 b s)⟩
theorem Grow.mono {F F' A B : Hp} (h : Grow F' A B) (e : Low F F') : Grow F A B := ⟨h.1, fun b s => h.2 b (by
  obtain ⟨o, ho⟩ := Option.isSome_iff_exists.mp s
  rw [e.same b o ho]; rfl)⟩
def OpOk (K : Fg) (F A H : Hp) (σ : Sl) (env : En) (v : V) : Op → Prop
  | .val d => Rep K A v d
  | .slot i => σ[i]? = some (some v)
  | .new d => ∃ p, v = .ref p ∧ A p = none ∧ F p = none ∧ Bod K A H p d ∧ ∀ j e, env.getD j .no = .own e → σ[j]? ≠ some (some (.ref p))
  | .raw w => v = w
section
variable {K : Fg} {F A H A' H' : Hp} {σ : Sl} {env : En}
theorem SOk.parA (S : SOk K F σ env H A) {i : Nat} {d : D} (e : env.getD i .no = .par d) : ∃ p, σ[i]? = some (some (.ref p)) ∧ A p = none ∧ F p = some (mkP i) ∧ Bod K A H p d := by
  have h := S.cell i
  rw [e] at h
  exact h
theorem SOk.ownA (S : SOk K F σ env H A) {i : Nat} {d : D} (e : env.getD i .no = .own d) : ∃ p, σ[i]? = some (some (.ref p)) ∧ A p = none ∧ F p = none ∧ Bod K A H p d := by
  have h := S.cell i
  rw [e] at h
  exact h
theorem SOk.weakF {F' : Hp} (S : SOk K F' σ env H A) (e : Low F F') : SOk K F σ env H A where
  subA := S.subA
  subF := fun b o h => S.subF b o (e.same b o h)
  apart := S.apart
  lens := S.lens
  nomk := S.nomk
  cell := fun i => by
    have h := S.cell i
    generalize env.getD i .no = c at h
    cases c with
    | own d => obtain ⟨p, a, b, c, d⟩ := h; exact ⟨p, a, b, e.same.free c, d⟩
    | par d => obtain ⟨p, a, b, c, d⟩ := h; exact ⟨p, a, b, e.back _ _ c, d⟩
    | no => exact h
    | v d => exact h
    | raw v => exact h
/-- nothing but new things -/
structure Ext (A H A' H' : Hp) : Prop where
  hh : Same H H'
  sub : Same A' H'
  aa : Same A A'
  old : ∀ b, (H b).isSome → A' b = A b
  unmk : ∀ b i, H' b = some (mkP i) → H b = some (mkP i)
theorem Ext.refl (h : Same A H) : Ext A H A H := ⟨Same.refl H, h, Same.refl A, fun _ _ => rfl, fun _ _ z => z⟩
theorem Ext.trans {A2 H2 : Hp} (x : Ext A H A' H') (y : Ext A' H' A2 H2) : Ext A H A2 H2 := ⟨x.hh.trans y.hh, y.sub, x.aa.trans y.aa, fun b s => (y.old b (by
  obtain ⟨o, ho⟩ := Option.isSome_iff_exists.mp s
  rw [x.hh b o ho]; rfl)).trans (x.old b s), fun b i z => x.unmk b i (y.unmk b i z)⟩
theorem Ext.grow (x : Ext A H A' H') (e : SubF F H) : Grow F A A' := ⟨x.aa, fun b s => x.old b (e.there s)⟩
theorem SOk.ext (S : SOk K F σ env H A) (x : Ext A H A' H') : SOk K F σ env H' A' where
  subA := x.sub
  subF := S.subF.trans x.hh
  apart := S.apart
  lens := S.lens
  nomk := fun b i z => S.nomk b i (x.unmk b i z)
  cell := fun i => by
    have h := S.cell i
    generalize env.getD i .no = c at h
    cases c with
    | own d =>
      obtain ⟨p, a, b, c, d⟩ := h
      obtain ⟨o, ho⟩ := d.mut
      exact ⟨p, a, (x.old p (by rw [ho]; rfl)).trans b, c, d.move x.aa (by rw [ho]; exact x.hh p o ho)⟩
    | par d =>
      obtain ⟨p, a, b, c, d⟩ := h
      obtain ⟨o, ho⟩ := d.mut
      exact ⟨p, a, (x.old p (by rw [ho]; rfl)).trans b, c, d.move x.aa (by rw [ho]; exact x.hh p o ho)⟩
    | no => exact h
    | v d => obtain ⟨v, a, b⟩ := h; exact ⟨v, a, b.same x.aa⟩
    | raw v => exact h
theorem mk_upd {H : Hp} {p : Addr} {o : HO} (hm : ∀ i, o ≠ mkP i) (b : Addr) (i : Nat) (z : upd H p o b = some (mkP i)) : H b = some (mkP i) := by
  by_cases hb : b = p
  · subst hb; rw [upd_same] at z; exact absurd (Option.some.inj z) (hm i)
  · rw [upd_ne hb] at z; exact z
theorem ext_frozen (h : Same A H) {p : Addr} {o : HO} (n : H p = none) (hm : ∀ i, o ≠ mkP i := by intro i h; cases h) : Ext A H (upd A p o) (upd H p o) where
  hh := fun b u e => by rw [upd_ne (ne_of_none e n)]; exact e
  sub := fun b u e => by
    by_cases hb : b = p
    · subst hb; rw [upd_same] at e ⊢; exact e
    · rw [upd_ne hb] at e ⊢; exact h b u e
  aa := fun b u e => by rw [upd_ne (ne_of_none (h b u e) n)]; exact e
  old := fun b s => by
    obtain ⟨u, hu⟩ := Option.isSome_iff_exists.mp s
    rw [upd_ne (ne_of_none hu n)]
  unmk := mk_upd hm
theorem ext_new (h : Same A H) {p : Addr} {o : HO} (n : H p = none) (hm : ∀ i, o ≠ mkP i := by intro i h; cases h) : Ext A H A (upd H p o) where
  hh := fun b u e => by rw [upd_ne (ne_of_none e n)]; exact e
  sub := fun b u e => by rw [upd_ne (ne_of_none (h b u e) n)]; exact h b u e
  aa := Same.refl A
  old := fun _ _ => rfl
  unmk := mk_upd hm
/-- a result that is a value, or a new list -/
def RV (K : Fg) (H A' H' : Hp) (v : V) : Op → Prop
  | .val d => Rep K A' v d
  | .new d => ∃ p, v = .ref p ∧ H p = none ∧ A' p = none ∧ Bod K A' H' p d
  | .raw w => v = w
  | .slot _ => False
def Fin (K : Fg) (A H : Hp) (r : Op) (Q : V → Hp → Prop) : Prop := ∀ v A' H', Ext A H A' H' → RV K H A' H' v r → Q v H'
theorem RV.op {v : V} {r : Op} (S : SOk K F σ env H A) (x : Ext A H A' H') (h : RV K H A' H' v r) : OpOk K F A' H' σ env v r := by
  cases r with
  | val d => exact h
  | raw w => exact h
  | slot i => exact False.elim h
  | new d =>
    obtain ⟨p, a, b, c, d⟩ := h
    refine ⟨p, a, c, S.subF.free b, d, fun j e hj hs => ?_⟩
    obtain ⟨q, e1, e2, e3, e4⟩ := S.ownA hj
    rw [hs] at e1; cases e1
    obtain ⟨o, ho⟩ := e4.mut
    rw [b] at ho; cases ho
/-- what an operand is worth now -/
def res (o : Op) (env : En) : Option D := match o with
  | .val d => some d
  | .new d => some d
  | .slot i => (match env.getD i .no with | .v d => some d | .own d => some d | .par d => some d | _ => none)
  | .raw _ => none
def View (K : Fg) (A H : Hp) (v : V) (d : D) : Prop := Rep K A v d ∨ ∃ p, v = .ref p ∧ A p = none ∧ Bod K A H p d
theorem OpOk.view {v : V} {o : Op} {d : D} (S : SOk K F σ env H A) (h : OpOk K F A H σ env v o) (e : res o env = some d) : View K A H v d := by
  cases o with
  | val d' => cases e; exact .inl h
  | new d' => cases e; obtain ⟨p, a, b, _, c, _⟩ := h; exact .inr ⟨p, a, b, c⟩
  | raw w => cases e
  | slot i =>
    have hc := S.cell i
    have hv : σ[i]? = some (some v) := h
    simp only [res] at e
    cases hh : env.getD i .no with
    | no => rw [hh] at e; cases e
    | raw w => rw [hh] at e; cases e
    | v d' => rw [hh] at e hc; cases e; obtain ⟨v', a, b⟩ := hc; rw [hv] at a; cases a; exact .inl b
    | own d' => rw [hh] at e hc; cases e; obtain ⟨p, a, b, _, c⟩ := hc; rw [hv] at a; cases a; exact .inr ⟨p, rfl, b, c⟩
    | par d' => rw [hh] at e hc; cases e; obtain ⟨p, a, b, _, c⟩ := hc; rw [hv] at a; cases a; exact .inr ⟨p, rfl, b, c⟩
theorem View.lst {v : V} {ds : List D} (h : View K A H v (.list ds)) (s : Same A H) : ∃ p vs, v = .ref p ∧ SqL K H p vs ∧ Reps K A vs ds := by
  rcases h with h | ⟨p, e, n, vs, a, b⟩
  · cases h with | lst x y => exact ⟨_, _, rfl, s.seq x, y⟩
  · exact ⟨p, vs, e, .inl (.inl a), b⟩
theorem View.tup {v : V} {ds : List D} (h : View K A H v (.tuple ds)) (s : Same A H) : ∃ p vs, v = .ref p ∧ SqT K H p vs ∧ Reps K A vs ds := by
  rcases h with h | ⟨p, e, n, a⟩
  · cases h with | tup x y => exact ⟨_, _, rfl, .inl (.inl (s _ _ x)), y⟩
  · exact False.elim a
theorem View.int {v : V} {i : Int} (h : View K A H v (.int i)) : v = .int i := by
  rcases h with h | ⟨p, e, n, a⟩
  · cases h; rfl
  · exact False.elim a
theorem View.bool {v : V} {i : Bool} (h : View K A H v (.bool i)) : v = .bl i := by
  rcases h with h | ⟨p, e, n, a⟩
  · cases h; rfl
  · exact False.elim a
theorem View.str {v : V} {i : Str} (h : View K A H v (.str i)) : v = .str i := by
  rcases h with h | ⟨p, e, n, a⟩
  · cases h; rfl
  · exact False.elim a
theorem View.none {v : V} (h : View K A H v .none) : v = .non := by
  rcases h with h | ⟨p, e, n, a⟩
  · cases h; rfl
  · exact False.elim a
theorem View.rep {v : V} {d : D} (h : View K A H v d) (s : Same A H) : Rep K H v d := by
  rcases h with h | ⟨p, e, n, a⟩
  · exact h.same s
  · subst e; exact a.rep s rfl
/-- an operand is held while others are reckoned -/
theorem hold {v : V} {o : Op} (S : SOk K F σ env H A) (h : OpOk K F A H σ env v o) :
    ∃ F1, Low F F1 ∧ SOk K F1 σ env H A ∧ (∀ d p, o = .new d → v = .ref p → (F1 p).isSome) ∧ ∀ env' H' A', SOk K F1 σ env' H' A' → Grow F1 A A' → OpOk K F A' H' σ env' v o := by
  cases o with
  | val d => exact ⟨F, Low.refl F, S, fun _ _ e => (nomatch e), fun _ _ _ _ g => h.same g.1⟩
  | raw w => exact ⟨F, Low.refl F, S, fun _ _ e => (nomatch e), fun _ _ _ _ _ => h⟩
  | slot i => exact ⟨F, Low.refl F, S, fun _ _ e => (nomatch e), fun _ _ _ _ _ => h⟩
  | new d =>
    obtain ⟨p, e, a, f, b, n⟩ := h
    obtain ⟨o, ho⟩ := b.mut
    have nm := b.notmk ho
    refine ⟨upd F p o, low_upd f nm, ⟨S.subA, fun b u e => ?_, fun i => ?_, S.apart, S.lens, S.nomk⟩, fun d' q _ e' => ?_, fun env' H' A' S' g => ?_⟩
    · by_cases hb : b = p
      · subst hb; rw [upd_same] at e; cases e; exact .inl ho
      · rw [upd_ne hb] at e; exact S.subF b u e
    · have hc := S.cell i
      have hn := n i
      generalize env.getD i .no = c at hc hn
      cases c with
      | no => exact hc
      | raw w => exact hc
      | v d' => exact hc
      | own d' =>
        obtain ⟨q, a1, a2, a3, a4⟩ := hc
        refine ⟨q, a1, a2, ?_, a4⟩
        have : q ≠ p := fun z => by subst z; exact hn d' rfl a1
        rw [upd_ne this]; exact a3
      | par d' =>
        obtain ⟨q, a1, a2, a3, a4⟩ := hc
        have : q ≠ p := fun z => by subst z; rw [f] at a3; cases a3
        exact ⟨q, a1, a2, by rw [upd_ne this]; exact a3, a4⟩
    · subst e; cases e'; rw [upd_same]; rfl
    · have h1 : A' p = none := (g.2 p (by rw [upd_same]; rfl)).trans a
      have h2 : H' p = some o := S'.subF.lst (by rw [upd_same]) nm
      refine ⟨p, e, h1, f, b.move g.1 (h2.trans ho.symm), fun j d' hj hs => ?_⟩
      obtain ⟨q, b1, b2, b3, b4⟩ := S'.ownA hj
      rw [hs] at b1; cases b1
      rw [upd_same] at b3; cases b3
end
def tJ (K : Fg) (mg : Str → Option Value) (E : Sl → XK) (f : Ex) : TE := fun σ H Q => ∃ env A F, SOk K F σ env H A ∧ match f env with
  | .ok o env' => ∀ v H' A', SOk K F σ env' H' A' → Grow F A A' → OpOk K F A' H' σ env' v o → Q v H'
  | .exc n env' => ∀ C H' A', XN mg n C A' → SOk K F σ env' H' A' → Grow F A A' → E σ (.ref C.1) C.2 H'
  | .bad => False
def tJT (K : Fg) (mg : Str → Option Value) (E : Sl → XK) (f : Tx) : TT := fun σ H Q => ∃ env A F, SOk K F σ env H A ∧ match f env with
  | .ok b env' => ∀ H' A', SOk K F σ env' H' A' → Grow F A A' → Q b H'
  | .exc n env' => ∀ C H' A', XN mg n C A' → SOk K F σ env' H' A' → Grow F A A' → E σ (.ref C.1) C.2 H'
  | .bad => False
/-- several operands; new ones stand apart -/
def OpsOk (K : Fg) (F A H : Hp) (σ : Sl) (env : En) : List Op → List V → Prop
  | [], vs => vs = []
  | o :: os, vs => ∃ v r, vs = v :: r ∧ OpOk K F A H σ env v o ∧ OpsOk K F A H σ env os r ∧ ∀ d, o = .new d → ∀ (j : Nat) e, os[j]? = some (.new e) → r[j]? ≠ some v
def tJA (K : Fg) (mg : Str → Option Value) (E : Sl → XK) (f : Ax) : TA := fun σ H Q => ∃ env A F, SOk K F σ env H A ∧ match f env with
  | .ok os env' => ∀ vs H' A', SOk K F σ env' H' A' → Grow F A A' → OpsOk K F A' H' σ env' os vs → Q vs H'
  | .exc n env' => ∀ C H' A', XN mg n C A' → SOk K F σ env' H' A' → Grow F A A' → E σ (.ref C.1) C.2 H'
  | .bad => False
/-- a statement's ways -/
def LS (K : Fg) (mg : Str → Option Value) (E : Sl → XK) (F A : Hp) (Z : Ends) : Out En Fl → Prop
  | .ok .nx env' => ∀ σ' H' A', SOk K F σ' env' H' A' → Grow F A A' → Z.nx σ' H'
  | .ok .bk env' => ∀ σ' H' A', SOk K F σ' env' H' A' → Grow F A A' → Z.bk σ' H'
  | .ok .ct env' => ∀ σ' H' A', SOk K F σ' env' H' A' → Grow F A A' → Z.ct σ' H'
  | .ok (.rt o) env' => ∀ v σ' H' A', SOk K F σ' env' H' A' → Grow F A A' → OpOk K F A' H' σ' env' v o → Z.rt v H'
  | .exc n env' => ∀ C σ' H' A', XN mg n C A' → SOk K F σ' env' H' A' → Grow F A A' → E σ' (.ref C.1) C.2 H'
  | .bad => False
theorem LS.grow {K : Fg} {mg : Str → Option Value} {E : Sl → XK} {F A A1 : Hp} {Z : Ends} {r : Out En Fl} (h : LS K mg E F A Z r) (g : Grow F A A1) : LS K mg E F A1 Z r := by
  cases r with
  | bad => exact h
  | exc n e => exact fun C σ' H' A' m S' g' => h C σ' H' A' m S' (g.trans g')
  | ok fl e =>
    cases fl with
    | nx => exact fun σ' H' A' S' g' => h σ' H' A' S' (g.trans g')
    | bk => exact fun σ' H' A' S' g' => h σ' H' A' S' (g.trans g')
    | ct => exact fun σ' H' A' S' g' => h σ' H' A' S' (g.trans g')
    | rt o => exact fun v σ' H' A' S' g' => h v σ' H' A' S' (g.trans g')
def tJS (K : Fg) (mg : Str → Option Value) (E : Sl → XK) (f : Sx) : TS := fun Z σ H => ∃ env A F, SOk K F σ env H A ∧ LS K mg E F A Z (f env)
end T3
namespace T3
open PySem PySem.Spec PyProof.Rows L2
theorem impE {X : Cx} {e : Expr} {t t' : TE} (h : PE X e t) (i : ∀ σ H Q, t' σ H Q → t σ H Q) : PE X e t' := ⟨fun p s σ H Q I w => h.run p s σ H Q I (i σ H Q w)⟩
theorem impT {X : Cx} {e : Expr} {t t' : TT} (h : PT X e t) (i : ∀ σ H Q, t' σ H Q → t σ H Q) : PT X e t' := ⟨fun p s σ H Q I w => h.run p s σ H Q I (i σ H Q w)⟩
theorem impW {X : Cx} {e : Expr} {t t' : TT} (h : PW X e t) (i : ∀ σ H Q, t' σ H Q → t σ H Q) : PW X e t' := ⟨fun w p s σ H Q I q => h.run w p s σ H Q I (i σ H Q q)⟩
theorem impA {X : Cx} {es : List Expr} {t t' : TA} (h : PA X es t) (i : ∀ σ H Q, t' σ H Q → t σ H Q) : PA X es t' := ⟨fun o p s σ H Q I w => h.run o p s σ H Q I (i σ H Q w)⟩
theorem impS {X : Cx} {st : Stmt} {t t' : TS} (h : PS X st t) (i : ∀ Z σ H, t' Z σ H → t Z σ H) : PS X st t' := ⟨fun p s σ H Z I w => h.run p s σ H Z I (i Z σ H w)⟩
theorem impB {X : Cx} {st : List Stmt} {t t' : TS} (h : PSs X st t) (i : ∀ Z σ H, t' Z σ H → t Z σ H) : PSs X st t' := ⟨fun p s σ H Z I w => h.run p s σ H Z I (i Z σ H w)⟩
abbrev JP (X : Cx) (E : Sl → XK) (e : Expr) (f : Ex) : Prop := PE X e (tJ X.K X.mg E f)
abbrev JT (X : Cx) (E : Sl → XK) (e : Expr) (f : Tx) : Prop := PT X e (tJT X.K X.mg E f)
abbrev JW (X : Cx) (E : Sl → XK) (e : Expr) (f : Tx) : Prop := PW X e (tJT X.K X.mg E f)
abbrev JA (X : Cx) (E : Sl → XK) (es : List Expr) (f : Ax) : Prop := PA X es (tJA X.K X.mg E f)
abbrev JS (X : Cx) (E : Sl → XK) (st : Stmt) (f : Sx) : Prop := PS X st (tJS X.K X.mg E f)
abbrev JB (X : Cx) (E : Sl → XK) (st : List Stmt) (f : Sx) : Prop := PSs X st (tJS X.K X.mg E f)
def eC (d : D) : Ex := fun env => .ok (.val d) env
def eS (i : Nat) : Ex := fun env => match env.getD i .no with
  | .no => .bad
  | _ => .ok (.slot i) env
section
variable {X : Cx} {E : Sl → XK} {pos : Pos}
theorem tJ_c {K : Fg} {mg : Str → Option Value} {d : D} {v : V} (r : ∀ A, Rep K A v d) {σ H Q} (h : tJ K mg E (eC d) σ H Q) : tC v σ H Q := by
  obtain ⟨env, A, F, S, h⟩ := h
  exact h v H A S Grow.refl (r A)
theorem jp_int {i : Int} {j : Nat} : JP X E (.Constant (.int i) j pos) (eC (.int i)) := impE pe_int fun _ _ _ h => tJ_c (fun _ => .int i) h
theorem jp_bl {b : Bool} {j : Nat} : JP X E (.Constant (.bool b) j pos) (eC (.bool b)) := impE pe_bl fun _ _ _ h => tJ_c (fun _ => .bl b) h
theorem jp_non {j : Nat} : JP X E (.Constant .none j pos) (eC .none) := impE pe_non fun _ _ _ h => tJ_c (fun _ => .non) h
theorem jp_str {x : Str} {j : Nat} : JP X E (.Constant (.str x) j pos) (eC (.str x)) := impE pe_str fun _ _ _ h => tJ_c (fun _ => .str x) h
theorem SOk.has {K : Fg} {F A H : Hp} {σ : Sl} {env : En} (S : SOk K F σ env H A) {i : Nat} (h : env.getD i .no ≠ .no) : ∃ v, σ[i]? = some (some v) := by
  have hc := S.cell i
  generalize env.getD i .no = c at hc h
  cases c with
  | no => exact absurd rfl h
  | v d => obtain ⟨v, e, _⟩ := hc; exact ⟨v, e⟩
  | own d => obtain ⟨p, e, _⟩ := hc; exact ⟨_, e⟩
  | par d => obtain ⟨p, e, _⟩ := hc; exact ⟨_, e⟩
  | raw v => exact ⟨v, hc⟩
theorem tJ_s {K : Fg} {mg : Str → Option Value} {i : Nat} {σ H Q} (h : tJ K mg E (eS i) σ H Q) : tVar i σ H Q := by
  obtain ⟨env, A, F, S, h⟩ := h
  unfold eS at h
  have key : env.getD i .no ≠ .no → (∀ v H' A', SOk K F σ env H' A' → Grow F A A' → OpOk K F A' H' σ env v (.slot i) → Q v H') → ∃ v, σ[i]? = some (some v) ∧ Q v H := fun n k => by
    obtain ⟨v, e⟩ := S.has n
    exact ⟨v, e, k v H A S Grow.refl e⟩
  cases hh : env.getD i .no with
  | no => rw [hh] at h; exact h.elim
  | v d => rw [hh] at h key; exact key (fun z => nomatch z) h
  | own d => rw [hh] at h key; exact key (fun z => nomatch z) h
  | par d => rw [hh] at h key; exact key (fun z => nomatch z) h
  | raw v => rw [hh] at h key; exact key (fun z => nomatch z) h
theorem jp_s (i : Nat) {x : Str} (hN : X.N[i]? = some x := by rfl) (hv : Vis X.env.scope x := by first | exact Or.inl rfl | exact Or.inr (Or.inl rfl) | exact Or.inr (Or.inr rfl))
    (hd : (x == ("__debug__" : Str)) = false := by decide) (hc : (x == ("__classdict__" : Str)) = false := by decide) : JP X E (.Name x pos) (eS i) := impE (pe_var hN hv hd hc) fun _ _ _ h => tJ_s h
end
def fin (r : Option Op) (e : En) : Out En Op := match r with
  | some o => .ok o e
  | none => .bad
def eTwo {α : Type} (fa fb : Ex) (k : D → D → En → Out En α) : En → Out En α := fun env => (fa env).bind fun o1 e1 => (fb e1).bind fun o2 e2 => match res o1 e2 with
  | some d1 => (match res o2 e2 with | some d2 => k d1 d2 e2 | none => .bad)
  | none => .bad
def eOp2 (g : D → D → Option Op) (fa fb : Ex) : Ex := eTwo fa fb fun d1 d2 e => fin (g d1 d2) e
def Impl2 (K : Fg) (r : R2) (g : D → D → Option Op) : Prop := ∀ A H x y d1 d2 o Q, Same A H → View K A H x d1 → View K A H y d2 → g d1 d2 = some o → Fin K A H o Q → r x y H Q
section
variable {K : Fg} {mg : Str → Option Value} {E : Sl → XK} {fa fb fc : Ex} {σ : Sl} {H : Hp}
theorem Fin.of {F A : Hp} {env : En} {o : Op} {Q : V → Hp → Prop} (S : SOk K F σ env H A) (h : ∀ v H' A', SOk K F σ env H' A' → Grow F A A' → OpOk K F A' H' σ env v o → Q v H') : Fin K A H o Q :=
  fun v A' H' x r => h v H' A' (S.ext x) (x.grow S.subF) (RV.op S x r)
/-- the first of two, then the second -/
theorem tJ_two {α : Type} {k : D → D → En → Out En α} {R : V → V → Hp → Prop} {W : Out En α → Hp → Hp → Prop} (h : ∃ env A F, SOk K F σ env H A ∧
      match eTwo fa fb (fun d1 d2 e => .ok (d1, d2) e) env with
      | .ok p env' => ∀ x y H' A', SOk K F σ env' H' A' → Grow F A A' → View K A' H' x p.1 → View K A' H' y p.2 → R x y H'
      | .exc n env' => ∀ C H' A', XN mg n C A' → SOk K F σ env' H' A' → Grow F A A' → E σ (.ref C.1) C.2 H'
      | .bad => False) : tJ K mg E fa σ H fun x H1 => tJ K mg E fb σ H1 fun y H2 => R x y H2 := by
  obtain ⟨env, A, F, S, h⟩ := h
  refine ⟨env, A, F, S, ?_⟩
  unfold eTwo at h
  cases e1 : fa env with
  | bad => rw [e1] at h; exact h
  | exc n env' => rw [e1] at h; exact h
  | ok o1 env1 =>
    rw [e1] at h
    intro x H1 A1 S1 g1 r1
    obtain ⟨F1, sF, S1', _, keep⟩ := hold S1 r1
    refine ⟨env1, A1, F1, S1', ?_⟩
    simp only [Out.bind] at h
    cases e2 : fb env1 with
    | bad => rw [e2] at h; exact h
    | exc n env' =>
      rw [e2] at h
      intro C H' A' hC S' g'
      exact h C H' A' hC (S'.weakF sF) (g1.trans (g'.mono sF))
    | ok o2 env2 =>
      rw [e2] at h
      intro y H2 A2 S2 g2 r2
      have S2' := S2.weakF sF
      have q1 := keep env2 H2 A2 S2 g2
      simp only at h
      cases d1 : res o1 env2 with
      | none => rw [d1] at h; exact h.elim
      | some v1 =>
        rw [d1] at h
        simp only at h
        cases d2 : res o2 env2 with
        | none => rw [d2] at h; exact h.elim
        | some v2 =>
          rw [d2] at h
          exact h x y H2 A2 S2' (g1.trans (g2.mono sF)) (q1.view S2' d1) (r2.view S2 d2)
theorem eTwo_k {α : Type} (k : D → D → En → Out En α) (env : En) : eTwo fa fb k env = (eTwo fa fb (fun d1 d2 e => .ok (d1, d2) e) env).bind fun p e => k p.1 p.2 e := by
  unfold eTwo
  cases fa env with
  | bad => rfl
  | exc n e => rfl
  | ok o1 e1 =>
    simp only [Out.bind]
    cases fb e1 with
    | bad => rfl
    | exc n e => rfl
    | ok o2 e2 =>
      simp only
      cases res o1 e2 with
      | none => rfl
      | some d1 =>
        simp only
        cases res o2 e2 <;> rfl
theorem tJ_op2 {r : R2} {g : D → D → Option Op} (hr : Impl2 K r g) {Q : VK} (h : tJ K mg E (eOp2 g fa fb) σ H Q) : tOp r (tJ K mg E fa) (tJ K mg E fb) σ H Q := by
  obtain ⟨env, A, F, S, h⟩ := h
  refine tJ_two (α := Op) (k := fun d1 d2 e => fin (g d1 d2) e) (W := fun _ _ _ => True) (R := fun x y H2 => r x y H2 Q) ⟨env, A, F, S, ?_⟩
  unfold eOp2 at h
  rw [eTwo_k] at h
  cases e : eTwo fa fb (fun d1 d2 e => Out.ok (d1, d2) e) env with
  | bad => rw [e] at h; exact h
  | exc n e' => rw [e] at h; exact h
  | ok p e' =>
    rw [e] at h
    intro x y H2 A2 S2 g2 v1 v2
    simp only [Out.bind] at h
    cases hg : g p.1 p.2 with
    | none => rw [hg] at h; exact h.elim
    | some o =>
      rw [hg] at h
      exact hr A2 H2 x y p.1 p.2 o Q S2.subA v1 v2 hg (Fin.of S2 fun v H' A' S' g' r' => h v H' A' S' (g2.trans g') r')
end
section
variable {X : Cx} {E : Sl → XK} {pos : Pos} {a b c : Expr} {fa fb fc : Ex}
theorem jp_op {op : Operator} {r : R2} {g : D → D → Option Op} (ho : OpR X (binaryOp op) r) (hr : Impl2 X.K r g) (ha : JP X E a fa) (hb : JP X E b fb) : JP X E (.BinOp a op b pos) (eOp2 g fa fb) :=
  impE (pe_op ho ha hb) fun _ _ _ h => tJ_op2 hr h
theorem jp_cmp {op : CmpOp} {r : R2} {g : D → D → Option Op} (ho : OpR X (compareOp op) r) (hr : Impl2 X.K r g) (hm : behindInMarks op b = false) (ha : JP X E a fa) (hb : JP X E b fb) : JP X E (.Compare a [op] [b] pos) (eOp2 g fa fb) :=
  impE (pe_cmpR ho ha hb hm) fun _ _ _ h => tJ_op2 hr h
theorem jp_sub {r : R2} {g : D → D → Option Op} (hr : IxR X r) (hi : Impl2 X.K r g) (hs : PlainIx b) (ha : JP X E a fa) (hb : JP X E b fb) : JP X E (.Subscript a b pos) (eOp2 g fa fb) :=
  impE (pe_ix hr ha hb hs) fun _ _ _ h => tJ_op2 hi h
end
def tOf (f : Ex) : Tx := fun env => (f env).bind fun o e => match o with
  | .val (.bool b) => .ok b e
  | .slot i => (match e.getD i .no with | .v (.bool b) => .ok b e | _ => .bad)
  | _ => .bad
section
variable {K : Fg} {mg : Str → Option Value} {E : Sl → XK} {f : Ex} {σ : Sl} {H : Hp}
theorem tJT_of {Q : Bool → Hp → Prop} (h : tJT K mg E (tOf f) σ H Q) : tJ K mg E f σ H fun x H' => ∃ k, x = .bl k ∧ Q k H' := by
  obtain ⟨env, A, F, S, h⟩ := h
  refine ⟨env, A, F, S, ?_⟩
  unfold tOf at h
  cases e : f env with
  | bad => rw [e] at h; exact h
  | exc n e' => rw [e] at h; exact h
  | ok o e' =>
    rw [e] at h
    simp only [Out.bind] at h
    intro v H' A' S' g' r'
    cases o with
    | raw w => exact h.elim
    | new d => exact h.elim
    | val d =>
      cases d <;> first | exact h.elim | skip
      cases r' with | bl b => exact ⟨_, rfl, h H' A' S' g'⟩
    | slot i =>
      simp only at h
      cases hh : e'.getD i .no with
      | no => rw [hh] at h; exact h.elim
      | own d => rw [hh] at h; exact h.elim
      | par d => rw [hh] at h; exact h.elim
      | raw d => rw [hh] at h; exact h.elim
      | v d =>
        rw [hh] at h
        cases d <;> first | exact h.elim | skip
        have hc := S'.cell i
        rw [hh] at hc
        obtain ⟨w, e1, e2⟩ := hc
        have r2 : σ[i]? = some (some v) := r'
        rw [e1] at r2; cases r2
        cases e2 with | bl b => exact ⟨_, rfl, h H' A' S' g'⟩
end
def tAndM (a b : Tx) : Tx := fun env => (a env).bind fun c e => if c = true then b e else .ok false e
def tOrM (a b : Tx) : Tx := fun env => (a env).bind fun c e => if c = true then .ok true e else b e
def tNotM (a : Tx) : Tx := fun env => (a env).bind fun c e => .ok (!c) e
def eIf (t : Tx) (a b : Ex) : Ex := fun env => (t env).bind fun c e => if c = true then a e else b e
def eAndM (a : Ex) (b : Ex) : Ex := fun env => (tOf a env).bind fun c e => if c = true then b e else .ok (.val (.bool false)) e
def eOrM (a : Ex) (b : Ex) : Ex := fun env => (tOf a env).bind fun c e => if c = true then .ok (.val (.bool true)) e else b e
def eNotM (a : Ex) : Ex := fun env => (tOf a env).bind fun c e => .ok (.val (.bool (!c))) e
section
variable {K : Fg} {mg : Str → Option Value} {E : Sl → XK} {σ : Sl} {H : Hp} {ta tb : Tx} {fa fb : Ex}
theorem tJT_bind {k : Bool → En → Out En Bool} {Q : Bool → Hp → Prop} {R : Bool → Hp → Prop} (hR : ∀ b env H A F, SOk K F σ env H A → (match k b env with
      | .ok b env' => ∀ H' A', SOk K F σ env' H' A' → Grow F A A' → Q b H'
      | .exc n env' => ∀ C H' A', XN mg n C A' → SOk K F σ env' H' A' → Grow F A A' → E σ (.ref C.1) C.2 H'
      | .bad => False) → R b H) (h : tJT K mg E (fun env => (ta env).bind k) σ H Q) : tJT K mg E ta σ H R := by
  obtain ⟨env, A, F, S, h⟩ := h
  refine ⟨env, A, F, S, ?_⟩
  simp only at h
  cases e : ta env with
  | bad => rw [e] at h; exact h
  | exc n e' => rw [e] at h; exact h
  | ok b e' =>
    rw [e] at h
    intro H' A' S' g'
    refine hR b e' H' A' F S' ?_
    simp only [Out.bind] at h
    cases e2 : k b e' with
    | bad => rw [e2] at h; exact h
    | exc n e3 => rw [e2] at h; exact fun C H2 A2 hC S2 g2 => h C H2 A2 hC S2 (g'.trans g2)
    | ok b2 e3 => rw [e2] at h; exact fun H2 A2 S2 g2 => h H2 A2 S2 (g'.trans g2)
theorem tJT_or {Q} (h : tJT K mg E (tOrM ta tb) σ H Q) : tOr (tJT K mg E ta) (tJT K mg E tb) σ H Q := by
  refine tJT_bind (fun b env H A F S hk => ?_) h
  cases b with
  | true => rw [if_pos rfl] at hk ⊢; exact hk H A S Grow.refl
  | false => rw [if_neg Bool.false_ne_true] at hk ⊢; exact ⟨env, A, F, S, hk⟩
theorem tJT_not {Q} (h : tJT K mg E (tNotM ta) σ H Q) : tNot (tJT K mg E ta) σ H Q :=
  tJT_bind (k := fun c e => .ok (!c) e) (fun b env H A F S hk => hk H A S Grow.refl) h
/-- a test, then an expression -/
theorem tJ_test {k : Bool → Ex} {Q : VK} {R : Bool → Hp → Prop} (hR : ∀ b H, tJ K mg E (k b) σ H Q → R b H) (h : tJ K mg E (fun env => (ta env).bind fun b e => k b e) σ H Q) : tJT K mg E ta σ H R := by
  obtain ⟨env, A, F, S, h⟩ := h
  refine ⟨env, A, F, S, ?_⟩
  simp only at h
  cases e : ta env with
  | bad => rw [e] at h; exact h
  | exc n e' => rw [e] at h; exact h
  | ok b e' =>
    rw [e] at h
    intro H' A' S' g'
    refine hR b H' ⟨e', A', F, S', ?_⟩
    simp only [Out.bind] at h
    cases e2 : k b e' with
    | bad => rw [e2] at h; exact h
    | exc n e3 => rw [e2] at h; exact fun C H2 A2 hC S2 g2 => h C H2 A2 hC S2 (g'.trans g2)
    | ok b2 e3 => rw [e2] at h; exact fun v H2 A2 S2 g2 => h v H2 A2 S2 (g'.trans g2)
theorem tJ_andV {Q} (h : tJ K mg E (eAndM fa fb) σ H Q) : tAndV (tJ K mg E fa) (tJ K mg E fb) σ H Q := by
  refine tJT_of (tJ_test (k := fun b e => if b = true then fb e else .ok (.val (.bool false)) e) (fun b H hk => ?_) h)
  cases b with
  | true => rw [if_pos rfl]; simpa only [if_true] using hk
  | false =>
    rw [if_neg Bool.false_ne_true]
    obtain ⟨env, A, F, S, hk⟩ := hk
    simp only [Bool.false_eq_true, if_false] at hk
    exact hk _ H A S Grow.refl (.bl false)
end
section
variable {X : Cx} {E : Sl → XK} {pos : Pos} {a b c : Expr} {rest : List Expr} {fa fb : Ex} {ta tb : Tx}
theorem jt_val (ha : JP X E a fa) (he : ∀ whole, isTrue a X.env whole = (do let v ← whole; standAt a.pos; holding [v] (truthy v)) := by intro _; rfl) : JT X E a (tOf fa) :=
  impT (pt_val ha he) fun _ _ _ h => tJT_of h
theorem jt_cmp {op : CmpOp} {r : R2} {g : D → D → Option Op} (ho : OpR X (compareOp op) r) (hr : Impl2 X.K r g) (hm : behindInMarks op b = false) (ha : JP X E a fa) (hb : JP X E b fb) : JT X E (.Compare a [op] [b] pos) (tOf (eOp2 g fa fb)) :=
  impT (pt_cmpR ho ha hb hm) fun _ _ _ h => tJ_op2 (r := r) hr (tJT_of h)
theorem jt_w (h : JW X E a ta) : JT X E a ta := h.pt
theorem jw_or1 (h : JT X E a ta) : JW X E (.BoolOp .Or [a] pos) ta := pw_or1 h
theorem jw_or (h : JT X E a ta) (k : JW X E (.BoolOp .Or (b :: rest) pos) tb) : JW X E (.BoolOp .Or (a :: b :: rest) pos) (tOrM ta tb) := impW (pw_or h k) fun _ _ _ q => tJT_or q
theorem jt_not (h : JT X E a ta) : JT X E (.UnaryOp .Not a pos) (tNotM ta) := impT (pt_not h) fun _ _ _ q => tJT_not q
theorem jp_one {op : BoolOp} (h : JP X E a fa) : JP X E (.BoolOp op [a] pos) fa := pe_one h
theorem jp_and (h : JP X E a fa) (k : JP X E (.BoolOp .And (b :: rest) pos) fb) : JP X E (.BoolOp .And (a :: b :: rest) pos) (eAndM fa fb) := impE (pe_and h k) fun _ _ _ q => tJ_andV q
end
end T3
namespace T3
open PySem PySem.Spec PyProof.Rows L2
section
variable {K : Fg} {A H : Hp} {Q : V → Hp → Prop}
theorem Fin.val {d : D} {v : V} (h : Fin K A H (.val d) Q) (s : Same A H) (r : Rep K A v d) : Q v H := h v A H (Ext.refl s) r
theorem Fin.int {i : Int} (h : Fin K A H (.val (.int i)) Q) (s : Same A H) : Q (.int i) H := h.val s (.int i)
theorem Fin.bool {i : Bool} (h : Fin K A H (.val (.bool i)) Q) (s : Same A H) : Q (.bl i) H := h.val s (.bl i)
theorem Fin.str {i : Str} (h : Fin K A H (.val (.str i)) Q) (s : Same A H) : Q (.str i) H := h.val s (.str i)
theorem Fin.non (h : Fin K A H (.val .none) Q) (s : Same A H) : Q .non H := h.val s .non
theorem Fin.list {ds : List D} {vs : List V} (h : Fin K A H (.new (.list ds)) Q) (s : Same A H) (r : Reps K A vs ds) : ∀ p, H p = none → Q (.ref p) (upd H p (.lst vs)) :=
  fun p n => h (.ref p) A _ (ext_new s n) ⟨p, rfl, n, s.free n, vs, upd_same, r⟩
theorem Fin.tuple {ds : List D} {vs : List V} (h : Fin K A H (.val (.tuple ds)) Q) (s : Same A H) (r : Reps K A vs ds) : ∀ p, H p = none → Q (.ref p) (upd H p (.tup vs)) :=
  fun p n => h (.ref p) (upd A p (.tup vs)) _ (ext_frozen s n) (.tup upd_same (r.same (ext_frozen (o := .tup vs) s n).aa))
end
def mulOk (i j : Int) : Bool := decide (i.natAbs < 2 ^ 64) || decide (j.natAbs < 2 ^ 64) || decide (i.natAbs.log2 + j.natAbs.log2 < 1000000)
def divOk (j : Int) : Bool := decide (j ≠ 0) && decide (j.natAbs.log2 < 9000)
def powOk (i n : Int) : Bool := decide (0 ≤ n) && decide ((Builtin.Int.intBits i : Int) * n ≤ 2 ^ 27)
def dAdd : D → D → Option Op
  | .int i, .int j => some (.val (.int (i + j)))
  | .str x, .str y => if x.length + y.length ≤ sizeLine then some (.val (.str (x ++ y))) else none
  | .list xs, .list ys => if xs.length + ys.length ≤ sizeLine then some (.new (.list (xs ++ ys))) else none
  | _, _ => none
def dSub : D → D → Option Op
  | .int i, .int j => some (.val (.int (i - j)))
  | _, _ => none
def dMul : D → D → Option Op
  | .int i, .int j => if mulOk i j then some (.val (.int (i * j))) else none
  | .list xs, .int k => if -(2 ^ 63) ≤ k ∧ k < 2 ^ 63 ∧ xs.length * k.toNat ≤ sizeLine then some (.new (.list (List.replicate k.toNat xs).flatten)) else none
  | _, _ => none
def dDiv : D → D → Option Op
  | .int i, .int j => if divOk j then some (.val (.int (i.fdiv j))) else none
  | _, _ => none
def dMod : D → D → Option Op
  | .int i, .int j => if j ≠ 0 then some (.val (.int (i.fmod j))) else none
  | _, _ => none
def dPow : D → D → Option Op
  | .int i, .int j => if powOk i j then some (.val (.int (i ^ j.toNat))) else none
  | _, _ => none
def rOr (r r' : R2) : R2 := fun x y H Q => r x y H Q ∨ r' x y H Q
theorem op_or {X : Cx} {f : Value → Value → Sem Value} {r r' : R2} (h : OpR X f r) (h' : OpR X f r') : OpR X f (rOr r r') := h.or h'
theorem op_mulA {X : Cx} : OpR X (binaryOp .Mult) (rI (fun i j => mulOk i j = true) fun i j => .int (i * j)) := opI fun i j _ _ _ _ _ hc q => mul_int q (by
  unfold mulOk at hc
  simp only [Bool.or_eq_true, decide_eq_true_eq] at hc
  rcases hc with (h | h) | h
  · exact CMul.ok (.inl ⟨by omega, by omega⟩)
  · exact CMul.ok (.inr ⟨by omega, by omega⟩)
  · exact CMulW.ok h)
theorem op_divA {X : Cx} : OpR X (binaryOp .FloorDiv) (rI (fun _ j => divOk j = true) fun i j => .int (i.fdiv j)) := opI fun i j _ _ _ _ _ hc q => by
  unfold divOk at hc
  simp only [Bool.and_eq_true, decide_eq_true_eq] at hc
  exact floordiv_int hc.1 q (.inl (PyProof.noPylong_of_log2 hc.2))
theorem op_powA {X : Cx} : OpR X (binaryOp .Pow) (rI (fun i j => powOk i j = true) fun i j => .int (i ^ j.toNat)) := opI fun i j _ _ _ _ _ hc q => by
  unfold powOk at hc
  simp only [Bool.and_eq_true, decide_eq_true_eq] at hc
  exact PyProof.Rows.pow_int hc.1 hc.2 q
/-- list + list, tracked or read -/
def rCatR (K : Fg) : R2 := fun x y H Q => ∃ l b xs zs, x = .ref l ∧ y = .ref b ∧ SqL K H l xs ∧ SqL K H b zs ∧ xs.length + zs.length ≤ sizeLine ∧ ∀ p, H p = none → Q (.ref p) (upd H p (.lst (xs ++ zs)))
theorem op_catR {X : Cx} : OpR X (binaryOp .Add) (rCatR X.K) := by
  intro pins s σ H x y v u Q I rx ry h
  obtain ⟨l, b, xs, zs, rfl, rfl, hl, hb, hz, q⟩ := h
  cases rx
  cases ry
  obtain ⟨its, r, ⟨⟨c1, e1, t1, u1⟩, m1, g1, k1, _, d1⟩, _⟩ := I.list hl
  obtain ⟨jts, r2, ⟨⟨c2, e2, t2, u2⟩, m2, g2, k2, _, d2⟩, _⟩ := I.list hb
  dsimp only at k1 d1 k2 d2
  subst k1 d1 k2 d2
  have n1 := r.length
  have n2 := r2.length
  refine PySem.concat_meets ⟨_, g1, rfl⟩ ⟨_, g2, rfl⟩ PySem.noFill_list_add PySem.seq_list_add PySem.F.slot_list_add PySem.F.entry_list_add
    (PySem.F.args_list_add_2 _ _) (PyProof.Rows.list_addW l b _ _ m1 m2 e1 e2 u1 u2 (by simp only [List.size_toArray]; omega)) ⟨g1, g2, ?_⟩
  rw [show its.toArray ++ jts.toArray = (its ++ jts).toArray by simp]
  exact ⟨.ref _, _, I.lnew (t' := s.toks) (r.append r2) (by simp only [List.length_append]; omega), rfl, q _ I.fresh⟩
/-- two lists of other lengths -/
def rLen (K : Fg) (r : Bool) : R2 := fun x y H Q => ∃ l b xs zs, x = .ref l ∧ y = .ref b ∧ SqL K H l xs ∧ SqL K H b zs ∧ xs.length ≠ zs.length ∧ Q (.bl r) H
theorem op_eqLen {X : Cx} (hu : X.A.units + 64 < cLine) : OpR X (compareOp .Eq) (rLen X.K false) := by
  intro pins s σ H x y v u Q I rx ry h
  obtain ⟨l, b, xs, zs, rfl, rfl, hl, hb, hz, q⟩ := h
  cases rx
  cases ry
  obtain ⟨its, r, ⟨o1, m1, g1, k1, _, d1⟩, _⟩ := I.list hl
  obtain ⟨jts, r2, ⟨o2, m2, g2, k2, _, d2⟩, _⟩ := I.list hb
  have n1 := r.length
  have n2 := r2.length
  exact SeqAt.eq_list_lengthsAt ⟨_, g1, k1, m1, d1⟩ ⟨_, g2, k2, m2, d2⟩ (by simp only [List.size_toArray, bne_iff_ne, ne_eq]; omega) (by omega) ⟨.bl _, H, I, rfl, q⟩
theorem op_neLen {X : Cx} (hu : X.A.units + 64 < cLine) : OpR X (compareOp .NotEq) (rLen X.K true) := by
  intro pins s σ H x y v u Q I rx ry h
  obtain ⟨l, b, xs, zs, rfl, rfl, hl, hb, hz, q⟩ := h
  cases rx
  cases ry
  obtain ⟨its, r, ⟨o1, m1, g1, k1, _, d1⟩, _⟩ := I.list hl
  obtain ⟨jts, r2, ⟨o2, m2, g2, k2, _, d2⟩, _⟩ := I.list hb
  have n1 := r.length
  have n2 := r2.length
  exact SeqAt.RcNeAt.lists_lengths ⟨_, g1, k1, m1, d1⟩ ⟨_, g2, k2, m2, d2⟩ (by simp only [List.size_toArray, bne_iff_ne, ne_eq]; omega) (by omega) _ _ _ _ ⟨.bl _, H, I, rfl, q⟩
/-- list * int, tracked or read -/
theorem rmulAny (a : Int) (t : Tok) (l : Addr) (xs : Array Value) (n : Nat) (dd : Option Addr) (sl : Array (Option Value)) :
    PySem.Meets (Builtin.«int.__rmul__» ⟨[.int a t, .ref l], []⟩) (fun _ R s => s.heap.get? l = some ⟨.type "list", dd, .seq xs n, sl⟩ ∧ R (.ok (.ret Value.notImplemented)) s) :=
  .of_wp fun prog w A R s h => by
    obtain ⟨hp, g, d, tk, os⟩ := s
    obtain ⟨e0, h⟩ := h
    wp_walk using AutoSeq1.wpAny_loadPart' e0
    exact ⟨_, rfl, h⟩
theorem mulAny (l : Addr) (xs : Array Value) (n : Nat) (x : Int) (u : Tok) (dd : Option Addr) (sl : Array (Option Value)) (c0 : ¬(!Builtin.List.listFitsIndex x) = true) (c1 : ¬xs.size * x.toNat > (2 ^ 63 - 1) / 8)
    (c2 : ¬Builtin.List.listTooLong (xs.size * x.toNat) = true) :
    PySem.Meets (Builtin.«list.__mul__» ⟨[.ref l, .int x u], []⟩) (fun _ R s => s.heap.get? l = some ⟨.type "list", dd, .seq xs n, sl⟩ ∧
      R (.ok (.ret (Value.ref s.heap.objs.size))) { s with heap := s.heap.push { cls := Value.type "list", data := Data.seq (List.foldl (fun p q => p ++ q) #[] (List.replicate (if xs.isEmpty = true then 0 else x.toNat) xs)) }, toks := s.toks }) :=
  .of_wp fun prog w A R s h => by
    obtain ⟨hp, g, d, tk, os⟩ := s
    obtain ⟨e0, h⟩ := h
    have fits := AutoListH.joined_fits (items := xs) c2
    wp_walk using AutoSeq1.wpAny_loadPart' e0
    refine wpAny_ite_false (decide_eq_false (Nat.not_lt.mpr fits)) ?_
    wp_walk using AutoSeq1.wpAny_loadPart' e0
    exact ⟨_, rfl, h⟩
def rRepR (K : Fg) : R2 := fun x y H Q => ∃ l k xs, x = .ref l ∧ y = .int k ∧ SqL K H l xs ∧ -(2 ^ 63) ≤ k ∧ k < 2 ^ 63 ∧ xs.length * k.toNat ≤ sizeLine ∧ ∀ p, H p = none → Q (.ref p) (upd H p (.lst (List.replicate k.toNat xs).flatten))
theorem op_repR {X : Cx} : OpR X (binaryOp .Mult) (rRepR X.K) := by
  intro pins s σ H x y v u Q I rx ry h
  obtain ⟨l, k, xs, rfl, rfl, hl, k1, k2, hz, q⟩ := h
  cases rx
  obtain ⟨t, rfl⟩ := ry
  obtain ⟨its, r, ⟨⟨c1, e1, t1, u1⟩, m1, g1, kk1, _, d1⟩, _⟩ := I.list hl
  dsimp only at kk1 d1
  subst kk1 d1
  have n1 := r.length
  have w1 : its.toArray.size * k.toNat ≤ sizeLine := by rw [List.size_toArray, ← n1]; exact hz
  have w2 : ¬ its.toArray.size * k.toNat > (2 ^ 63 - 1) / 8 := by
    have : (sizeLine : Nat) ≤ (2 ^ 63 - 1) / 8 := by decide
    omega
  have w3 : ¬ (!Builtin.List.listFitsIndex k) = true := by simp [Builtin.List.listFitsIndex]; omega
  have w4 : ¬ Builtin.List.listTooLong (its.toArray.size * k.toNat) = true := by rw [notLongL w1]; exact Bool.false_ne_true
  have w5 : List.foldl (fun p q => p ++ q) #[] (List.replicate (if its.toArray.isEmpty = true then 0 else k.toNat) its.toArray) = (List.replicate k.toNat its).flatten.toArray := by
    have f0 := fun m : Nat => (foldl_rep its m []).trans (congrArg List.toArray (List.nil_append _))
    cases its with
    | nil => exact (f0 0).trans (by simp)
    | cons a z => rw [if_neg (by simp)]; exact f0 _
  refine PySem.wpAny_binaryOp_repeat_ref (T := "list") (U := "int") (by decide) ⟨_, g1, rfl⟩ (fun s' => typeIs_int s' k t) PySem.noFill_list_mul PySem.F.fills_int_mul PySem.F.slot_int_rmul PySem.repeat_list PySem.F.slot_int_index.lookup
    (call_meets PySem.F.slot_int_rmul (typeIs_int s k t) PySem.F.entry_int_rmul (PySem.F.args_int_rmul_2 _ _) (rmulAny k t l its.toArray m1 e1 u1)
      ⟨g1, rfl, ⟨_, g1, rfl⟩, call_meets PySem.F.slot_list_mul ⟨_, g1, rfl⟩ PySem.F.entry_list_mul (PySem.F.args_list_mul_2 _ _) (mulAny l its.toArray m1 k t e1 u1 w3 w2 w4) ⟨g1, ?_⟩⟩)
  rw [w5]
  exact ⟨.ref _, _, I.lnew (t' := s.toks) (r.rep k.toNat) (by rw [PyProof.Rows.lm_len_rep_flat, Nat.mul_comm]; exact hz), rfl, q _ I.fresh⟩
section
variable {K : Fg}
theorem i_add : Impl2 K (rOr (rI0 fun i j => .int (i + j)) (rOr (fun x y H Q => ∃ i j, x = .str i ∧ y = .str j ∧ i.length + j.length ≤ sizeLine ∧ Q (.str (i ++ j)) H) (rCatR K))) dAdd := by
  intro A H x y d1 d2 o Q s v1 v2 g q
  unfold dAdd at g
  split at g
  · cases g; exact .inl ⟨_, _, v1.int, v2.int, q.int s⟩
  · split at g
    · rename_i hz
      cases g; exact .inr (.inl ⟨_, _, v1.str, v2.str, hz, q.str s⟩)
    · cases g
  · split at g
    · rename_i hz
      cases g
      obtain ⟨p, vs, e1, s1, r1⟩ := v1.lst s
      obtain ⟨p', vs', e2, s2, r2⟩ := v2.lst s
      exact .inr (.inr ⟨p, p', vs, vs', e1, e2, s1, s2, by rw [r1.length, r2.length]; exact hz, q.list s (r1.append r2)⟩)
    · cases g
  · cases g
theorem Reps.rep {A : Hp} {vs : List V} {ds : List D} (h : Reps K A vs ds) (k : Nat) : Reps K A (List.replicate k vs).flatten (List.replicate k ds).flatten := by
  induction k with
  | zero => exact .nil
  | succ k ih => simp only [List.replicate_succ, List.flatten_cons]; exact h.append ih
theorem i_mul : Impl2 K (rOr (rI (fun i j => mulOk i j = true) fun i j => .int (i * j)) (rRepR K)) dMul := by
  intro A H x y d1 d2 o Q s v1 v2 g q
  unfold dMul at g
  split at g
  · split at g
    · rename_i hz
      cases g; exact .inl ⟨_, _, v1.int, v2.int, hz, q.int s⟩
    · cases g
  · split at g
    · rename_i hz
      cases g
      obtain ⟨p, vs, e1, s1, r1⟩ := v1.lst s
      exact .inr ⟨p, _, vs, e1, v2.int, s1, hz.1, hz.2.1, by rw [r1.length]; exact hz.2.2, q.list s (r1.rep _)⟩
    · cases g
  · cases g
theorem i_div : Impl2 K (rI (fun _ j => divOk j = true) fun i j => .int (i.fdiv j)) dDiv := by
  intro A H x y d1 d2 o Q s v1 v2 g q
  unfold dDiv at g
  split at g
  · split at g
    · rename_i hz; cases g; exact ⟨_, _, v1.int, v2.int, hz, q.int s⟩
    · cases g
  · cases g
theorem i_mod : Impl2 K (rI (fun _ j => j ≠ 0) fun i j => .int (i.fmod j)) dMod := by
  intro A H x y d1 d2 o Q s v1 v2 g q
  unfold dMod at g
  split at g
  · split at g
    · rename_i hz; cases g; exact ⟨_, _, v1.int, v2.int, hz, q.int s⟩
    · cases g
  · cases g
theorem i_pow : Impl2 K (rI (fun i j => powOk i j = true) fun i j => .int (i ^ j.toNat)) dPow := by
  intro A H x y d1 d2 o Q s v1 v2 g q
  unfold dPow at g
  split at g
  · split at g
    · rename_i hz; cases g; exact ⟨_, _, v1.int, v2.int, hz, q.int s⟩
    · cases g
  · cases g
end
def dCmp (p : Int → Int → Bool) : D → D → Option Op
  | .int i, .int j => some (.val (.bool (p i j)))
  | _, _ => none
abbrev dLt := dCmp fun i j => decide (i < j)
abbrev dLe := dCmp fun i j => decide (i ≤ j)
abbrev dGt := dCmp fun i j => decide (j < i)
abbrev dGe := dCmp fun i j => decide (j ≤ i)
/-- two texts -/
def isSS : D → D → Bool
  | .str _, .str _ => true
  | _, _ => false
def dLen (r : Bool) : D → D → Option Op
  | .list xs, .list ys => if xs.length ≠ ys.length then some (.val (.bool r)) else none
  | _, _ => none
def dEq (d e : D) : Option Op := if isSS d e || (SeqAt.shaped d && SeqAt.shaped e) then some (.val (.bool (PyData.eqv d e))) else dLen false d e
def dNe (d e : D) : Option Op := if isSS d e || (SeqAt.shaped d && SeqAt.shaped e) then some (.val (.bool (!PyData.eqv d e))) else dLen true d e
def dIs : D → D → Option Op
  | .none, .none => some (.val (.bool true))
  | .bool a, .bool b => some (.val (.bool (decide (a = b))))
  | _, .none => some (.val (.bool false))
  | _, _ => none
def dNin (x : D) : D → Option Op
  | .list ds => if SeqAt.shaped x && SeqAt.shaped (.list ds) then some (.val (.bool (!ds.any fun z => PyData.eqv z x))) else none
  | .str z => (match x with | .str y => some (.val (.bool (!(!(Builtin.Str.occurrences z y 0 z.length 1).isEmpty)))) | _ => none)
  | _ => none
section
variable {K : Fg} {A : Hp}
theorem Rep.dp {v : V} {d : D} (h : Rep K A v d) : d.canLay0 = true → Dp K A v d :=
  Rep.rec (motive_1 := fun v d _ => d.canLay0 = true → Dp K A v d) (motive_2 := fun vs ds _ => PyData.canLayAll0 ds = true → DpAll K A vs ds)
    (fun _ => .non) (fun b _ => .bl b) (fun i _ => .int i) (fun x _ => .str x) (fun s _ ih c => .lst s (ih (by simpa [PyData.canLay0] using c))) (fun s _ ih c => .tup (.inl (.inl s)) (ih (by simpa [PyData.canLay0] using c)))
    (fun _ _ _ c => by simp [PyData.canLay0] at c) (fun _ _ _ c => by simp [PyData.canLay0] at c) (fun _ _ _ _ _ c => by simp [wD, PyData.canLay0] at c) (fun _ _ c => by simp [conD, PyData.canLay0] at c) (fun _ _ _ _ _ c => by simp [wwD, PyData.canLay0] at c) (fun _ _ c => by simp [erD, PyData.canLay0] at c) (fun _ _ _ _ c => by simp [erpD, PyData.canLay0] at c) (fun _ => .nil) (fun _ _ i1 i2 c => by
      simp only [PyData.canLayAll0, Bool.and_eq_true] at c
      exact .cons (i1 c.1) (i2 c.2)) h
theorem View.dp {H : Hp} {v : V} {d : D} (h : View K A H v d) (s : Same A H) (c : SeqAt.shaped d = true) : Dp K H v d := (h.rep s).dp (SeqAt.canLay_of_shaped c)
theorem i_cmp {p : Int → Int → Bool} : Impl2 K (rI0 fun i j => .bl (p i j)) (dCmp p) := by
  intro A H x y d1 d2 o Q s v1 v2 g q
  unfold dCmp at g
  split at g
  · cases g; exact ⟨_, _, v1.int, v2.int, q.bool s⟩
  · cases g
theorem isSS_of {d e : D} (h : isSS d e = true) : ∃ x y, d = .str x ∧ e = .str y := by
  unfold isSS at h
  split at h
  · exact ⟨_, _, rfl, rfl⟩
  · cases h
theorem dec_str {x y : Str} : decide (V.str x = V.str y) = PyData.eqv (.str x) (.str y) := by
  rw [Bool.eq_iff_iff, decide_eq_true_eq]
  simp [PyData.eqv]
theorem i_len {r : Bool} : Impl2 K (rLen K r) (dLen r) := by
  intro A H x y d1 d2 o Q s v1 v2 g q
  unfold dLen at g
  split at g
  · split at g
    · rename_i hn
      cases g
      obtain ⟨p, vs, e1, s1, r1⟩ := v1.lst s
      obtain ⟨p2, vs2, e2, s2, r2⟩ := v2.lst s
      exact ⟨p, p2, vs, vs2, e1, e2, s1, s2, by rw [r1.length, r2.length]; exact hn, q.bool s⟩
    · cases g
  · cases g
theorem i_eq : Impl2 K (rOr (rOr (rEqD K) rEq) (rLen K false)) dEq := by
  intro A H x y d1 d2 o Q s v1 v2 g q
  unfold dEq at g
  split at g
  · rename_i h
    rw [Bool.or_eq_true] at h
    rcases h with h | h
    · obtain ⟨a, b, rfl, rfl⟩ := isSS_of h
      cases g
      refine .inl (.inr ?_)
      rw [v1.str, v2.str]
      exact ⟨rfl, by rw [dec_str]; exact q.bool s⟩
    · rw [Bool.and_eq_true] at h
      cases g; exact .inl (.inl ⟨_, _, v1.dp s h.1, v2.dp s h.2, h.1, h.2, q.bool s⟩)
  · exact .inr (i_len A H x y d1 d2 o Q s v1 v2 g q)
theorem i_ne : Impl2 K (rOr (rOr (rNeD K) rNe) (rLen K true)) dNe := by
  intro A H x y d1 d2 o Q s v1 v2 g q
  unfold dNe at g
  split at g
  · rename_i h
    rw [Bool.or_eq_true] at h
    rcases h with h | h
    · obtain ⟨a, b, rfl, rfl⟩ := isSS_of h
      cases g
      refine .inl (.inr ?_)
      rw [v1.str, v2.str]
      exact ⟨rfl, by rw [dec_str]; exact q.bool s⟩
    · rw [Bool.and_eq_true] at h
      cases g; exact .inl (.inl ⟨_, _, v1.dp s h.1, v2.dp s h.2, h.1, h.2, q.bool s⟩)
  · exact .inr (i_len A H x y d1 d2 o Q s v1 v2 g q)
theorem i_nin : Impl2 K (rOr (rNotInD K) (fun x y H Q => ∃ i j, x = .str i ∧ y = .str j ∧ Q (.bl (!(!(Builtin.Str.occurrences j i 0 j.length 1).isEmpty))) H)) dNin := by
  intro A H x y d1 d2 o Q s v1 v2 g q
  unfold dNin at g
  split at g
  · split at g
    · rename_i h
      rw [Bool.and_eq_true] at h
      cases g; exact .inl ⟨_, _, v1.dp s h.1, v2.dp s h.2, h.1, h.2, q.bool s⟩
    · cases g
  · split at g
    · cases g; exact .inr ⟨_, _, v1.str, v2.str, q.bool s⟩
    · cases g
  · cases g
end
def dIx : D → D → Option Op
  | .list ds, .int i => (atI ds i).map .val
  | .tuple ds, .int i => (atI ds i).map .val
  | .str z, .int i => if z.length ≤ sizeLine then (atI z.cps.toList i).map fun c => .val (.str ⟨#[c]⟩) else none
  | _, _ => none
def cutD {α : Type} (xs : List α) (lo hi : Option Int) : List α := (xs.drop (HT.sIx xs.length 0 lo)).take (HT.sIx xs.length xs.length hi - HT.sIx xs.length 0 lo)
section
variable {K : Fg} {A : Hp}
theorem Reps.atI {vs : List V} {ds : List D} {i : Int} {d : D} (h : Reps K A vs ds) (e : L2.atI ds i = some d) : ∃ v, L2.atI vs i = some v ∧ Rep K A v d := by
  unfold L2.atI at e ⊢
  rw [h.length]
  cases hh : ixN ds.length i with
  | none => rw [hh] at e; cases e
  | some j => rw [hh] at e; exact h.get e
theorem Reps.cut {vs : List V} {ds : List D} (h : Reps K A vs ds) (lo hi : Option Int) : Reps K A (cutV vs lo hi) (cutD ds lo hi) := by
  unfold cutV cutD
  rw [h.length]
  exact (h.drop _).take _
theorem i_ix : Impl2 K (rIx K) dIx := by
  intro A H x y d1 d2 o Q s v1 v2 g q
  unfold dIx at g
  split at g
  · obtain ⟨d, e, rfl⟩ := Option.map_eq_some_iff.mp g
    obtain ⟨p, vs, e1, s1, r1⟩ := v1.lst s
    obtain ⟨v, a, b⟩ := r1.atI e
    exact .inl ⟨p, vs, _, v, e1, v2.int, s1, a, q.val s b⟩
  · obtain ⟨d, e, rfl⟩ := Option.map_eq_some_iff.mp g
    obtain ⟨p, vs, e1, s1, r1⟩ := v1.tup s
    obtain ⟨v, a, b⟩ := r1.atI e
    exact .inr (.inl ⟨p, vs, _, v, e1, v2.int, s1, a, q.val s b⟩)
  · split at g
    · rename_i hz
      obtain ⟨c, e, rfl⟩ := Option.map_eq_some_iff.mp g
      exact .inr (.inr ⟨_, _, c, v1.str, v2.int, hz, e, q.str s⟩)
    · cases g
  · cases g
end
section
variable {X : Cx} {E : Sl → XK} {pos : Pos} {a b : Expr} {fa fb : Ex}
theorem jp_add (ha : JP X E a fa) (hb : JP X E b fb) : JP X E (.BinOp a .Add b pos) (eOp2 dAdd fa fb) := jp_op (op_or op_add (op_or op_add_str op_catR)) i_add ha hb
theorem jp_mul (ha : JP X E a fa) (hb : JP X E b fb) : JP X E (.BinOp a .Mult b pos) (eOp2 dMul fa fb) := jp_op (op_or op_mulA op_repR) i_mul ha hb
theorem jp_div (ha : JP X E a fa) (hb : JP X E b fb) : JP X E (.BinOp a .FloorDiv b pos) (eOp2 dDiv fa fb) := jp_op op_divA i_div ha hb
theorem jp_mod (ha : JP X E a fa) (hb : JP X E b fb) : JP X E (.BinOp a .Mod b pos) (eOp2 dMod fa fb) := jp_op L2.op_modN i_mod ha hb
theorem jp_pow (ha : JP X E a fa) (hb : JP X E b fb) : JP X E (.BinOp a .Pow b pos) (eOp2 dPow fa fb) := jp_op op_powA i_pow ha hb
theorem jp_lt (ha : JP X E a fa) (hb : JP X E b fb) : JP X E (.Compare a [.Lt] [b] pos) (eOp2 dLt fa fb) := jp_cmp L2.op_lt i_cmp (nomark _) ha hb
theorem jt_ge (ha : JP X E a fa) (hb : JP X E b fb) : JT X E (.Compare a [.GtE] [b] pos) (tOf (eOp2 dGe fa fb)) := jt_cmp L2.op_ge i_cmp (nomark _) ha hb
theorem jp_eq (hu : X.A.units + 65 < cLine) (ha : JP X E a fa) (hb : JP X E b fb) : JP X E (.Compare a [.Eq] [b] pos) (eOp2 dEq fa fb) := jp_cmp (op_or (op_or (L2.op_eqD (by omega)) L2.op_eq) (op_eqLen (by omega))) i_eq (nomark _) ha hb
theorem jt_ne (hu : X.A.units + 65 < cLine) (ha : JP X E a fa) (hb : JP X E b fb) : JT X E (.Compare a [.NotEq] [b] pos) (tOf (eOp2 dNe fa fb)) := jt_cmp (op_or (op_or (L2.op_neD (by omega)) L2.op_ne) (op_neLen (by omega))) i_ne (nomark _) ha hb
theorem jp_nin (hu : X.A.units + 65 < cLine) (ha : JP X E a fa) (hb : JP X E b fb) (hm : behindInMarks .NotIn b = false := by rfl) : JP X E (.Compare a [.NotIn] [b] pos) (eOp2 dNin fa fb) := jp_cmp (op_or (L2.op_notInD hu) L2.op_notin_str) i_nin hm ha hb
theorem jp_ix (hs : PlainIx b) (ha : JP X E a fa) (hb : JP X E b fb) : JP X E (.Subscript a b pos) (eOp2 dIx fa fb) := jp_sub ix_seq i_ix hs ha hb
end
end T3
namespace T3
open PySem PySem.Spec PyProof.Rows L2
def eNil : Ax := fun env => .ok [] env
def eCons (f : Ex) (g : Ax) : Ax := fun env => (f env).bind fun o e => (g e).bind fun os e2 => .ok (o :: os) e2
def resAll : List Op → En → Option (List D)
  | [], _ => some []
  | o :: os, e => match res o e with
    | some d => (match resAll os e with | some ds => some (d :: ds) | none => none)
    | none => none
def frz1 : Op → En → Option (D × En)
  | .val d, e => some (d, e)
  | .new d, e => some (d, e)
  | .slot i, e => (match e.getD i .no with
    | .v d => some (d, e)
    | .own d => some (d, e.set i (.v d))
    | _ => none)
  | .raw _, _ => none
def frzAll : List Op → En → Option (List D × En)
  | [], e => some ([], e)
  | o :: os, e => match frz1 o e with
    | some (d, e1) => (match frzAll os e1 with | some (ds, e2) => some (d :: ds, e2) | none => none)
    | none => none
section
variable {K : Fg} {F A H A' H' : Hp} {σ : Sl} {env : En}
theorem OpOk.weakF {F' : Hp} {v : V} {o : Op} (h : OpOk K F' A H σ env v o) (e : Low F F') : OpOk K F A H σ env v o := by
  cases o with
  | new d => obtain ⟨p, a, b, c, d⟩ := h; exact ⟨p, a, b, e.same.free c, d⟩
  | val d => exact h
  | slot i => exact h
  | raw w => exact h
theorem OpsOk.weakF {F' : Hp} {os : List Op} : ∀ {vs : List V}, OpsOk K F' A H σ env os vs → Low F F' → OpsOk K F A H σ env os vs := by
  induction os with
  | nil => exact fun h _ => h
  | cons o os ih =>
    intro vs h e
    obtain ⟨v, r, e1, h1, h2, h3⟩ := h
    exact ⟨v, r, e1, h1.weakF e, ih h2 e, h3⟩
theorem OpsOk.newF {os : List Op} : ∀ {vs : List V} {j : Nat} {d : D} {v : V}, OpsOk K F A H σ env os vs → os[j]? = some (.new d) → vs[j]? = some v → ∃ p, v = .ref p ∧ F p = none := by
  induction os with
  | nil => intro vs j d v _ h; simp at h
  | cons o os ih =>
    intro vs j d v h e1 e2
    obtain ⟨v0, r, rfl, h1, h2, _⟩ := h
    cases j with
    | zero => simp at e1 e2; subst e1 e2; obtain ⟨p, a, _, c, _⟩ := h1; exact ⟨p, a, c⟩
    | succ j => exact ih h2 (by simpa using e1) (by simpa using e2)
theorem OpsOk.views {os : List Op} (S : SOk K F σ env H A) : ∀ {vs : List V} {ds : List D}, OpsOk K F A H σ env os vs → resAll os env = some ds → Paired (View K A H) vs ds := by
  induction os with
  | nil => intro vs ds h e; cases h; cases e; exact .nil
  | cons o os ih =>
    intro vs ds h e
    obtain ⟨v, r, rfl, h1, h2, _⟩ := h
    unfold resAll at e
    cases hd : res o env with
    | none => rw [hd] at e; cases e
    | some d =>
      rw [hd] at e
      simp only at e
      cases hr : resAll os env with
      | none => rw [hr] at e; cases e
      | some ds' => rw [hr] at e; cases e; exact .cons (h1.view S hd) (ih h2 hr)
theorem set_getD (env : En) (i j : Nat) (c : Cell) : (env.set i c).getD j .no = if i = j ∧ i < env.length then c else env.getD j .no := by
  simp only [List.getD_eq_getElem?_getD, List.getElem?_set]
  by_cases h : i = j
  · subst h
    by_cases hl : i < env.length
    · simp [hl]
    · simp [hl]
  · simp [h]
theorem getD_lt {env : En} {i : Nat} (h : env.getD i .no ≠ .no) : i < env.length := by
  apply Classical.byContradiction
  intro n
  rw [List.getD_eq_getElem?_getD, List.getElem?_eq_none (by omega)] at h
  exact h rfl
/-- a slot's own list is frozen -/
theorem SOk.freeze (S : SOk K F σ env H A) {i : Nat} {d : D} (e : env.getD i .no = .own d) : ∃ A' p, σ[i]? = some (some (.ref p)) ∧ SOk K F σ (env.set i (.v d)) H A' ∧ Grow F A A' ∧ Rep K A' (.ref p) d ∧ ∀ b, A' b ≠ A b → b = p := by
  obtain ⟨p, hs, a, f, b⟩ := S.ownA e
  obtain ⟨o, ho⟩ := b.mut
  have aa : Same A (upd A p o) := fun c u q => by rw [upd_ne (ne_of_none q a)]; exact q
  have hr : Rep K (upd A p o) (.ref p) d := b.rep aa (by rw [upd_same, ho])
  have hlen : i < env.length := getD_lt (by rw [e]; exact fun z => nomatch z)
  refine ⟨upd A p o, p, hs, ⟨fun c u q => ?_, S.subF, fun j => ?_, fun j k d1 d2 q h1 h2 h3 h4 => ?_, by rw [List.length_set]; exact S.lens, S.nomk⟩, ⟨aa, fun c s => ?_⟩, hr, fun c n => ?_⟩
  · by_cases hc : c = p
    · subst hc; rw [upd_same] at q; cases q; exact ho
    · rw [upd_ne hc] at q; exact S.subA c u q
  · rw [set_getD]
    by_cases hj : i = j ∧ i < env.length
    · rw [if_pos hj]; obtain ⟨rfl, _⟩ := hj; exact ⟨_, hs, hr⟩
    · rw [if_neg hj]
      have hj' : j ≠ i := fun z => hj ⟨z.symm, hlen⟩
      have hc := S.cell j
      cases hh : env.getD j .no with
      | no => trivial
      | raw w => rw [hh] at hc; exact hc
      | v d' => rw [hh] at hc; obtain ⟨v, x, y⟩ := hc; exact ⟨v, x, y.same aa⟩
      | own d' =>
        rw [hh] at hc; obtain ⟨q, x1, x2, x3, x4⟩ := hc
        have : q ≠ p := fun z => by subst z; exact hj' (S.apart j i d' d q hh e x1 hs)
        exact ⟨q, x1, by rw [upd_ne this]; exact x2, x3, x4.move aa rfl⟩
      | par d' =>
        rw [hh] at hc; obtain ⟨q, x1, x2, x3, x4⟩ := hc
        have : q ≠ p := fun z => by subst z; rw [f] at x3; cases x3
        exact ⟨q, x1, by rw [upd_ne this]; exact x2, x3, x4.move aa rfl⟩
  · rw [set_getD] at h1 h2
    split at h1
    · cases h1
    · split at h2
      · cases h2
      · exact S.apart j k d1 d2 q h1 h2 h3 h4
  · have : c ≠ p := fun z => by subst z; rw [f] at s; cases s
    rw [upd_ne this]
  · apply Classical.byContradiction
    intro z
    exact n (by rw [upd_ne z])
theorem frz1_ok (S : SOk K F σ env H A) {o : Op} {v : V} {d : D} {e' : En} (h : OpOk K F A H σ env v o) (e : frz1 o env = some (d, e')) :
    ∃ A', SOk K F σ e' H A' ∧ Grow F A A' ∧ Rep K A' v d ∧ (∀ b, A' b ≠ A b → v = .ref b ∧ ((∃ d, o = .new d) ∨ ∃ i d, env.getD i .no = .own d ∧ σ[i]? = some (some (.ref b)))) ∧ ∀ j d, e'.getD j .no = .own d → env.getD j .no = .own d := by
  cases o with
  | raw w => cases e
  | val d' => cases e; exact ⟨A, S, Grow.refl, h, fun b n => absurd rfl n, fun _ _ x => x⟩
  | new d' =>
    cases e
    obtain ⟨p, ev, a, f, b, ap⟩ := h
    obtain ⟨o, ho⟩ := b.mut
    have aa : Same A (upd A p o) := fun c u q => by rw [upd_ne (ne_of_none q a)]; exact q
    refine ⟨upd A p o, ⟨fun c u q => ?_, S.subF, fun j => ?_, S.apart, S.lens, S.nomk⟩, ⟨aa, fun c s => ?_⟩, ?_, fun c n => ?_, fun _ _ x => x⟩
    · by_cases hc : c = p
      · subst hc; rw [upd_same] at q; cases q; exact ho
      · rw [upd_ne hc] at q; exact S.subA c u q
    · have hc := S.cell j
      have hap := ap j
      cases hh : env.getD j .no with
      | no => trivial
      | raw w => rw [hh] at hc; exact hc
      | v d' => rw [hh] at hc; obtain ⟨v, x, y⟩ := hc; exact ⟨v, x, y.same aa⟩
      | own d' =>
        rw [hh] at hc; obtain ⟨q, x1, x2, x3, x4⟩ := hc
        have : q ≠ p := fun z => by subst z; exact hap d' hh x1
        exact ⟨q, x1, by rw [upd_ne this]; exact x2, x3, x4.move aa rfl⟩
      | par d' =>
        rw [hh] at hc; obtain ⟨q, x1, x2, x3, x4⟩ := hc
        have : q ≠ p := fun z => by subst z; rw [f] at x3; cases x3
        exact ⟨q, x1, by rw [upd_ne this]; exact x2, x3, x4.move aa rfl⟩
    · have : c ≠ p := fun z => by subst z; rw [f] at s; cases s
      rw [upd_ne this]
    · subst ev; exact b.rep aa (by rw [upd_same, ho])
    · have : c = p := Classical.byContradiction fun z => n (by rw [upd_ne z])
      subst this
      exact ⟨ev, .inl ⟨_, rfl⟩⟩
  | slot i =>
    have hv : σ[i]? = some (some v) := h
    simp only [frz1] at e
    cases hh : env.getD i .no with
    | no => rw [hh] at e; cases e
    | raw w => rw [hh] at e; cases e
    | par w => rw [hh] at e; cases e
    | v d' =>
      rw [hh] at e; cases e
      have hc := S.cell i
      rw [hh] at hc
      obtain ⟨v', x, y⟩ := hc
      rw [hv] at x; cases x
      exact ⟨A, S, Grow.refl, y, fun b n => absurd rfl n, fun _ _ x => x⟩
    | own d' =>
      rw [hh] at e; cases e
      obtain ⟨A', p, x, y, z, r, n⟩ := S.freeze hh
      rw [hv] at x; cases x
      refine ⟨A', y, z, r, fun b nb => ?_, fun j d1 hj => ?_⟩
      · have := n b nb
        subst this
        exact ⟨rfl, .inr ⟨i, _, hh, hv⟩⟩
      · rw [set_getD] at hj
        split at hj
        · cases hj
        · exact hj
/-- the other operands stay -/
theorem OpsOk.move {os : List Op} {e' : En} (aa : Same A A') (own : ∀ j d, e'.getD j .no = .own d → env.getD j .no = .own d) : ∀ {vs : List V}, (∀ (j : Nat) d p, os[j]? = some (.new d) → vs[j]? = some (.ref p) → A' p = A p) → OpsOk K F A H σ env os vs → OpsOk K F A' H σ e' os vs := by
  induction os with
  | nil => exact fun _ h => h
  | cons o os ih =>
    intro vs hn h
    obtain ⟨v, r, rfl, h1, h2, h3⟩ := h
    refine ⟨v, r, rfl, ?_, ih (fun j d p a b => hn (j + 1) d p (by simpa using a) (by simpa using b)) h2, h3⟩
    cases o with
    | val d => exact Rep.same aa h1
    | raw w => exact h1
    | slot i => exact h1
    | new d =>
      obtain ⟨p, a, b, c, d1, e1⟩ := h1
      subst a
      exact ⟨p, rfl, (hn 0 d p rfl rfl).trans b, c, d1.move aa rfl, fun j d2 hj => e1 j d2 (own j d2 hj)⟩
theorem OpsOk.newAt {os : List Op} : ∀ {vs : List V} {j : Nat} {d : D} {v : V}, OpsOk K F A H σ env os vs → os[j]? = some (.new d) → vs[j]? = some v → OpOk K F A H σ env v (.new d) := by
  induction os with
  | nil => intro vs j d v _ h; simp at h
  | cons o os ih =>
    intro vs j d v h e1 e2
    obtain ⟨v0, r, rfl, h1, h2, _⟩ := h
    cases j with
    | zero => simp at e1 e2; subst e1 e2; exact h1
    | succ j => exact ih h2 (by simpa using e1) (by simpa using e2)
theorem frzAll_ok {os : List Op} : ∀ {env : En} {A : Hp} {vs : List V} {ds : List D} {e' : En}, SOk K F σ env H A → OpsOk K F A H σ env os vs → frzAll os env = some (ds, e') → ∃ A', SOk K F σ e' H A' ∧ Grow F A A' ∧ Reps K A' vs ds := by
  induction os with
  | nil => intro env A vs ds e' S h e; cases h; cases e; exact ⟨A, S, Grow.refl, .nil⟩
  | cons o os ih =>
    intro env A vs ds e' S h e
    obtain ⟨v, r, rfl, h1, h2, h3⟩ := h
    unfold frzAll at e
    cases hf : frz1 o env with
    | none => rw [hf] at e; cases e
    | some q =>
      obtain ⟨d, e1⟩ := q
      rw [hf] at e
      simp only at e
      cases hr : frzAll os e1 with
      | none => rw [hr] at e; cases e
      | some q2 =>
        obtain ⟨ds2, e2⟩ := q2
        rw [hr] at e
        cases e
        obtain ⟨A1, S1, g1, r1, n1, o1⟩ := frz1_ok S h1 hf
        have h2' : OpsOk K F A1 H σ e1 os r := h2.move g1.1 o1 fun j d' p a b => Classical.byContradiction fun nb => by
          obtain ⟨ev, hk⟩ := n1 p nb
          rcases hk with ⟨d0, rfl⟩ | ⟨i, d0, hi, hs⟩
          · exact h3 d0 rfl j d' a (by rw [b, ev])
          · obtain ⟨p', x1, x2, x3, x4, x5⟩ := h2.newAt a b
            cases x1
            exact x5 i d0 hi hs
        obtain ⟨A2, S2, g2, r2⟩ := ih S1 h2' hr
        exact ⟨A2, S2, g1.trans g2, .cons (r1.same g2.1) r2⟩
end
section
variable {K : Fg} {mg : Str → Option Value} {E : Sl → XK} {f : Ex} {g : Ax} {σ : Sl} {H : Hp}
theorem tJA_nil {Q} (h : tJA K mg E eNil σ H Q) : tNil σ H Q := by
  obtain ⟨env, A, F, S, h⟩ := h
  exact h [] H A S Grow.refl rfl
theorem tJA_cons {Q} (h : tJA K mg E (eCons f g) σ H Q) : tCons (tJ K mg E f) (tJA K mg E g) σ H Q := by
  obtain ⟨env, A, F, S, h⟩ := h
  refine ⟨env, A, F, S, ?_⟩
  unfold eCons at h
  cases e1 : f env with
  | bad => rw [e1] at h; exact h
  | exc n e' => rw [e1] at h; exact h
  | ok o env1 =>
    rw [e1] at h
    intro x H1 A1 S1 g1 r1
    obtain ⟨F1, sF, S1', isF, keep⟩ := hold S1 r1
    refine ⟨env1, A1, F1, S1', ?_⟩
    simp only [Out.bind] at h
    cases e2 : g env1 with
    | bad => rw [e2] at h; exact h
    | exc n e' => rw [e2] at h; exact fun C H' A' hC S' g' => h C H' A' hC (S'.weakF sF) (g1.trans (g'.mono sF))
    | ok os env2 =>
      rw [e2] at h
      intro xs H2 A2 S2 g2 r2
      have q := keep env2 H2 A2 S2 g2
      refine h (x :: xs) H2 A2 (S2.weakF sF) (g1.trans (g2.mono sF)) ⟨x, xs, rfl, q, r2.weakF sF, fun d hd j e hj hx => ?_⟩
      subst hd
      obtain ⟨p, e1, fp⟩ := r2.newF hj hx
      have := isF d p rfl e1
      rw [fp] at this
      cases this
end
/-- a function of operands' values -/
def eArgs (k : List D → En → Out En Op) (fa : Ax) : Ex := fun env => (fa env).bind fun os e => match resAll os e with
  | some ds => k ds e
  | none => .bad
def eCallB (g : List D → Option Op) (fa : Ax) : Ex := eArgs (fun ds e => fin (g ds) e) fa
def ImplN (K : Fg) (r : List V → Hp → VK → Prop) (g : List D → Option Op) : Prop := ∀ A H vs ds o Q, Same A H → Paired (View K A H) vs ds → g ds = some o → Fin K A H o Q → r vs H Q
def eFrz (k : List D → Option Op) (fa : Ax) : Ex := fun env => (fa env).bind fun os e => match frzAll os e with
  | some (ds, e2) => fin (k ds) e2
  | none => .bad
def dList (ds : List D) : Option Op := if ds.length ≤ sizeLine then some (.new (.list ds)) else none
def dTup (ds : List D) : Option Op := if ds.length ≤ sizeLine then some (.val (.tuple ds)) else none
section
variable {K : Fg} {mg : Str → Option Value} {E : Sl → XK} {fa : Ax} {σ : Sl} {H : Hp}
theorem tJ_args {r : List V → Hp → VK → Prop} {g : List D → Option Op} (hr : ImplN K r g) {Q} (h : tJ K mg E (eCallB g fa) σ H Q) : tJA K mg E fa σ H fun vs H1 => r vs H1 Q := by
  obtain ⟨env, A, F, S, h⟩ := h
  refine ⟨env, A, F, S, ?_⟩
  unfold eCallB eArgs at h
  cases e : fa env with
  | bad => rw [e] at h; exact h
  | exc n e' => rw [e] at h; exact h
  | ok os e' =>
    rw [e] at h
    intro vs H1 A1 S1 g1 r1
    simp only [Out.bind] at h
    cases hd : resAll os e' with
    | none => rw [hd] at h; exact h.elim
    | some ds =>
      rw [hd] at h
      simp only at h
      cases hg : g ds with
      | none => rw [hg] at h; exact h.elim
      | some o =>
        rw [hg] at h
        exact hr A1 H1 vs ds o Q S1.subA (r1.views S1 hd) hg (Fin.of S1 fun v H' A' S' g' r' => h v H' A' S' (g1.trans g') r')
theorem tJ_frz {k : List D → Option Op} {R : List V → Hp → VK → Prop} (hr : ∀ A H vs ds o Q, Same A H → Reps K A vs ds → k ds = some o → Fin K A H o Q → R vs H Q) {Q} (h : tJ K mg E (eFrz k fa) σ H Q) : tJA K mg E fa σ H fun vs H1 => R vs H1 Q := by
  obtain ⟨env, A, F, S, h⟩ := h
  refine ⟨env, A, F, S, ?_⟩
  unfold eFrz at h
  cases e : fa env with
  | bad => rw [e] at h; exact h
  | exc n e' => rw [e] at h; exact h
  | ok os e' =>
    rw [e] at h
    intro vs H1 A1 S1 g1 r1
    simp only [Out.bind] at h
    cases hd : frzAll os e' with
    | none => rw [hd] at h; exact h.elim
    | some q =>
      obtain ⟨ds, e2⟩ := q
      rw [hd] at h
      simp only at h
      cases hg : k ds with
      | none => rw [hg] at h; exact h.elim
      | some o =>
        rw [hg] at h
        obtain ⟨A2, S2, g2, r2⟩ := frzAll_ok S1 r1 hd
        exact hr A2 H1 vs ds o Q S2.subA r2 hg (Fin.of S2 fun v H' A' S' g' r' => h v H' A' S' (g1.trans (g2.trans g')) r')
theorem tJ_list {Q} (h : tJ K mg E (eFrz dList fa) σ H Q) : tLst (tJA K mg E fa) σ H Q :=
  tJ_frz (R := fun vs H1 Q => vs.length ≤ sizeLine ∧ ∀ p, H1 p = none → Q (.ref p) (upd H1 p (.lst vs))) (fun A H vs ds o Q s r k f => by
    unfold dList at k
    split at k
    · cases k; exact ⟨by rw [r.length]; assumption, f.list s r⟩
    · cases k) h
end
section
variable {X : Cx} {E : Sl → XK} {pos p : Pos} {e : Expr} {es : List Expr} {f : Ex} {fa : Ax} {x : Str} {id T : String}
theorem ja_nil : JA X E [] eNil := impA pa_nil fun _ _ _ h => tJA_nil h
theorem ja_cons (h : JP X E e f) (k : JA X E es fa) (hs : starEach (e :: es) X.env = (false, eval e X.env) :: starEach es X.env := by rfl) : JA X E (e :: es) (eCons f fa) := impA (pa_cons h k hs) fun _ _ _ q => tJA_cons q
theorem jp_list (h : JA X E es fa) : JP X E (.List es pos) (eFrz dList fa) := impE (pe_lst h) fun _ _ _ q => tJ_list q
theorem jp_callB {r : List V → Hp → VK → Prop} {g : List D → Option Op} (hc : CallR X (.builtin id) r) (hr : ImplN X.K r g) (hg : Gl X x) (hm : X.mg x = none) (hv : bootBuiltins x = some (.builtin id)) (ha : JA X E (e :: es) fa)
    (hn : x ≠ "__name__" := by decide) (hdb : (x == ("__debug__" : Str)) = false := by decide) (he : starEach (e :: es) X.env = (false, eval e X.env) :: starEach es X.env := by rfl)
    (hpl : (backTo pos (starEach es X.env)).any (·.1) = false := by rfl) : JP X E (.Call (.Name x p) (e :: es) [] pos) (eCallB g fa) :=
  impE (pe_callB hc hg hm hv ha hn hdb he hpl) fun _ _ _ q => tJ_args hr q
theorem jp_callT {r : List V → Hp → VK → Prop} {g : List D → Option Op} (hc : CallR X (.type T) r) (hr : ImplN X.K r g) (hg : Gl X x) (hm : X.mg x = none) (hv : bootBuiltins x = some (.type T)) (ha : JA X E (e :: es) fa)
    (hn : x ≠ "__name__" := by decide) (hdb : (x == ("__debug__" : Str)) = false := by decide) (he : starEach (e :: es) X.env = (false, eval e X.env) :: starEach es X.env := by rfl)
    (hpl : (backTo pos (starEach es X.env)).any (·.1) = false := by rfl) : JP X E (.Call (.Name x p) (e :: es) [] pos) (eCallB g fa) :=
  impE (pe_callTy hc hg hm hv ha hn hdb he hpl) fun _ _ _ q => tJ_args hr q
end
def bAbs : List D → Option Op
  | [.int i] => some (.val (.int (if i < 0 then -i else i)))
  | _ => none
def bMax2 : List D → Option Op
  | [.int i, .int j] => some (.val (.int (if j > i then j else i)))
  | _ => none
def bMin2 : List D → Option Op
  | [.int i, .int j] => some (.val (.int (if j < i then j else i)))
  | _ => none
def bInt : List D → Option Op
  | [.int i] => some (.val (.int i))
  | [.bool k] => some (.val (.int (if k then 1 else 0)))
  | _ => none
def bLen : List D → Option Op
  | [.list ds] => some (.val (.int ds.length))
  | [.tuple ds] => some (.val (.int ds.length))
  | [.str z] => if z.length ≤ sizeLine then some (.val (.int z.length)) else none
  | _ => none
def intsOf : List D → Option (List Int)
  | [] => some []
  | .int i :: ds => (intsOf ds).map (i :: ·)
  | _ => none
def boolsOf : List D → Option (List Bool)
  | [] => some []
  | .bool i :: ds => (boolsOf ds).map (i :: ·)
  | _ => none
def bAll : List D → Option Op
  | [.list ds] => (boolsOf ds).map fun ns => .val (.bool (ns.all id))
  | _ => none
def bList : List D → Option Op
  | [.list ds] => some (.new (.list ds))
  | [.tuple ds] => some (.new (.list ds))
  | _ => none
/-- insertion -/
def insI (n : Int) : List Int → List Int
  | [] => [n]
  | m :: r => if n ≤ m then n :: m :: r else m :: insI n r
def sortI : List Int → List Int
  | [] => []
  | n :: r => insI n (sortI r)
def bSorted : List D → Option Op
  | [.list ds] => (intsOf ds).map fun ns => .new (.list ((sortI ns).map .int))
  | _ => none
section
variable {K : Fg} {A : Hp}
theorem Pv1 {H : Hp} {vs : List V} {d : D} (h : Paired (View K A H) vs [d]) : ∃ v, vs = [v] ∧ View K A H v d := by
  cases h with
  | cons a b => cases b; exact ⟨_, rfl, a⟩
theorem Pv2 {H : Hp} {vs : List V} {d e : D} (h : Paired (View K A H) vs [d, e]) : ∃ v w, vs = [v, w] ∧ View K A H v d ∧ View K A H w e := by
  cases h with
  | cons a b => cases b with | cons c d => cases d; exact ⟨_, _, rfl, a, c⟩
theorem n_abs : ImplN K (fun xs H Q => ∃ i, xs = [.int i] ∧ Q (.int (if i < 0 then -i else i)) H) bAbs := by
  intro A H vs ds o Q s v g q
  unfold bAbs at g
  split at g
  · cases g; obtain ⟨v, rfl, a⟩ := Pv1 v; exact ⟨_, by rw [a.int], q.int s⟩
  · cases g
theorem n_max2 : ImplN K (fun xs H Q => ∃ i j, xs = [.int i, .int j] ∧ Q (.int (if j > i then j else i)) H) bMax2 := by
  intro A H vs ds o Q s v g q
  unfold bMax2 at g
  split at g
  · cases g; obtain ⟨v, w, rfl, a, b⟩ := Pv2 v; exact ⟨_, _, by rw [a.int, b.int], q.int s⟩
  · cases g
theorem n_min2 : ImplN K (fun xs H Q => ∃ i j, xs = [.int i, .int j] ∧ Q (.int (if j < i then j else i)) H) bMin2 := by
  intro A H vs ds o Q s v g q
  unfold bMin2 at g
  split at g
  · cases g; obtain ⟨v, w, rfl, a, b⟩ := Pv2 v; exact ⟨_, _, by rw [a.int, b.int], q.int s⟩
  · cases g
theorem n_int : ImplN K (fun xs H Q => (∃ i, xs = [.int i] ∧ Q (.int i) H) ∨ ∃ k, xs = [.bl k] ∧ Q (.int (if k then 1 else 0)) H) bInt := by
  intro A H vs ds o Q s v g q
  unfold bInt at g
  split at g
  · cases g; obtain ⟨v, rfl, a⟩ := Pv1 v; exact .inl ⟨_, by rw [a.int], q.int s⟩
  · cases g; obtain ⟨v, rfl, a⟩ := Pv1 v; exact .inr ⟨_, by rw [a.bool], q.int s⟩
  · cases g
theorem n_len : ImplN K (fun xs H Q => (∃ p ys, xs = [.ref p] ∧ (SqL K H p ys ∨ SqT K H p ys) ∧ Q (.int ys.length) H) ∨ ∃ z, xs = [.str z] ∧ z.length ≤ sizeLine ∧ Q (.int z.length) H) bLen := by
  intro A H vs ds o Q s v g q
  unfold bLen at g
  split at g
  · cases g; obtain ⟨v, rfl, a⟩ := Pv1 v
    obtain ⟨p, ws, e, s1, r⟩ := a.lst s
    exact .inl ⟨p, ws, by rw [e], .inl s1, by rw [r.length]; exact q.int s⟩
  · cases g; obtain ⟨v, rfl, a⟩ := Pv1 v
    obtain ⟨p, ws, e, s1, r⟩ := a.tup s
    exact .inl ⟨p, ws, by rw [e], .inr s1, by rw [r.length]; exact q.int s⟩
  · split at g
    · rename_i hz
      cases g; obtain ⟨v, rfl, a⟩ := Pv1 v; exact .inr ⟨_, by rw [a.str], hz, q.int s⟩
    · cases g
  · cases g
end
section
variable {X : Cx} {E : Sl → XK} {pos p : Pos} {e e2 : Expr} {es : List Expr} {fa : Ax}
theorem jp_abs (hg : Gl X "abs") (hm : X.mg "abs" = none) (ha : JA X E [e] fa) (he : starEach [e] X.env = (false, eval e X.env) :: starEach [] X.env := by rfl) : JP X E (.Call (.Name "abs" p) [e] [] pos) (eCallB bAbs fa) :=
  jp_callB call_abs n_abs hg hm (by decide +kernel) ha (he := he) (hpl := rfl)
theorem jp_max2 (hc : X.calm = true) (hg : Gl X "max") (hm : X.mg "max" = none) (ha : JA X E [e, e2] fa) (he : starEach [e, e2] X.env = (false, eval e X.env) :: starEach [e2] X.env := by rfl) (hpl : (backTo pos (starEach [e2] X.env)).any (·.1) = false := by rfl) :
    JP X E (.Call (.Name "max" p) [e, e2] [] pos) (eCallB bMax2 fa) := jp_callB (call_max2 hc) n_max2 hg hm (by decide +kernel) ha (he := he) (hpl := hpl)
theorem jp_min2 (hc : X.calm = true) (hg : Gl X "min") (hm : X.mg "min" = none) (ha : JA X E [e, e2] fa) (he : starEach [e, e2] X.env = (false, eval e X.env) :: starEach [e2] X.env := by rfl) (hpl : (backTo pos (starEach [e2] X.env)).any (·.1) = false := by rfl) :
    JP X E (.Call (.Name "min" p) [e, e2] [] pos) (eCallB bMin2 fa) := jp_callB (call_min2 hc) n_min2 hg hm (by decide +kernel) ha (he := he) (hpl := hpl)
theorem jp_int1 (hg : Gl X "int") (hm : X.mg "int" = none) (ha : JA X E [e] fa) (he : starEach [e] X.env = (false, eval e X.env) :: starEach [] X.env := by rfl) : JP X E (.Call (.Name "int" p) [e] [] pos) (eCallB bInt fa) :=
  jp_callT call_int1 n_int hg hm (by decide +kernel) ha (he := he) (hpl := rfl)
theorem jp_len (hg : Gl X "len") (hm : X.mg "len" = none) (ha : JA X E [e] fa) (he : starEach [e] X.env = (false, eval e X.env) :: starEach [] X.env := by rfl) : JP X E (.Call (.Name "len" p) [e] [] pos) (eCallB bLen fa) :=
  jp_callB (call_len_seq.or call_len_str) n_len hg hm (by decide +kernel) ha (he := he) (hpl := rfl)
end
end T3
namespace T3
open PySem PySem.Spec PySem.Calls PyProof.Rows L2
section
open PySem.W
variable {prog : Program} {w : World} {A : Around} {E : Value → Shared → Prop} {s : Shared} {K : Frag} {x D : Addr} {ox : Obj} {od : Option Obj}
/-- an attribute that the class keeps as a data descriptor goes ahead of the object's own dict -/
theorem find_data {C : Addr} {name : Str} {a g : Value} (hc : (clsIn K C).isSome = true) (ha : findIn K (.ref C) name = some (some a)) (hg : specialIn K a "__get__" = some (some g)) (ht : takesIn K a = some true) : findObj K C od name = some (.bind g a) := by
  obtain ⟨cd, hc⟩ := Option.isSome_iff_exists.mp hc
  unfold findObj
  rw [hc, Option.bind_some, ha, Option.bind_some]
  simp [hg, ht]
theorem class_attr (C : ExcC K D) {Q : Option Value → Shared → Prop} (X : K.In s.heap) (I : InstAt s.heap x ox D od) (h : Q (some (.ref D)) { s with toks := s.toks + 1 }) : wpAny (model prog w) A (getAttr? (.ref x) "__class__") Q E s := by
  obtain ⟨cd, hcd, _⟩ := any_some C.hd
  have hf : findObj K D od "__class__" = some (.bind (.builtin "getset_descriptor.__get__") (.builtin "object.__class__")) := find_data (by rw [hcd]; rfl) C.ha C.hn C.ht
  obtain ⟨hp, g, d, t, os⟩ := s
  have L0 := I.type (M := model prog w)
  have L1 := looks_findIn (M := model prog w) X C.hg
  have L2 := looks_findIn (M := model prog w) X C.hk
  have L3 := looks_find (M := model prog w) X I hf
  have sub : Looks (model prog w) hp (isInstance (.ref x) (.type "BaseException")) true := L0.andThen (looks_subIn X C.hs)
  have n1 : (Value.builtin "BaseException.__getattribute__" == Value.builtin "object.__getattribute__") = false := by decide +kernel
  have n2 : (onTheHeap (Value.ref D) && Value.builtin "BaseException.__getattribute__" == Value.builtin "object.__getattribute__") = false := by rw [n1]; rfl
  have n3 : (false && onTheHeap (Value.builtin "BaseException.__getattribute__")) = false := rfl
  unfold getAttr? getAttrBy? getAttrBy
  refine wpAny_bind (wpAny_mkText (wpAny_bind (wpAny_attempt (wpAny_holding (wpAny_bind (L0.at (wpAny_bind (L1.at ?_))))))))
  show wpAny _ _ (if (onTheHeap (Value.ref D) && Value.builtin "BaseException.__getattribute__" == Value.builtin "object.__getattribute__") = true then _ else _) _ _ _
  rw [n2, if_neg Bool.false_ne_true]
  unfold getAttrByItsOwn hookBefore
  refine wpAny_bind ?_
  rw [if_pos (show onTheHeap (Value.ref D) = true from rfl)]
  refine L2.at ?_
  refine wpAny_bind (wpAny_attempt (wpAny_holding ?_))
  unfold callGetattribute
  rw [n3, if_neg Bool.false_ne_true]
  unfold boundAndCalled
  rw [PySem.F.excAttr_ValueError.ga.bind (.ref x)]
  refine wpAny_bind (wpAny_pure ?_)
  show wpAny _ _ (call (.builtin "BaseException.__getattribute__") [.ref x, .str "__class__" t]) _ _ _
  refine wpAny_call (codeAny_call_builtin PySem.F.excAttr_ValueError.ga.plain PySem.F.entry_bexc_ga ?_)
  refine @check_slot (model prog w) _ _ ⟨hp, g, d, t + 1, os⟩ "BaseException.__getattribute__" "BaseException" "__getattribute__" (.ref x) [.str "__class__" t] [] _ (by decide +kernel) (by decide +kernel) sub (PySem.F.args_bexc_ga (.ref x) (.str "__class__" t)) ?_
  unfold Builtin.«object.__getattribute__»
  refine wpAny_bind (wpAny_of_eq (a := ((Value.ref x : Value), [Value.str "__class__" t])) (by first | rfl | (simp only [slotArgs]; rfl)) ?_)
  refine wpAny_bind (wpAny_pure (wpAny_bind (L0.at (wpAny_bind (L3.at ?_)))))
  show wpAny _ _ (holding [Value.builtin "object.__class__"] (call (.builtin "getset_descriptor.__get__") [.builtin "object.__class__", .ref x, .ref D]) >>= ret) _ _ _
  refine wpAny_bind (wpAny_holding (wpAny_call (class_get (s := ⟨hp, g, d, t + 1, os⟩) (ox := ox) (od := od) X I C.hm ?_)))
  refine wpAny_pure ?_
  show wpAny _ _ (handedOut (.ref D)) _ _ _
  rw [handedOut_of (v := .ref D) rfl]
  first
    | exact wpAny_pure (wpAny_pure h)
    | exact wpAny_pure h
    | exact wpAny_pure (wpAny_bind (wpAny_pure (wpAny_pure h)))
theorem kitx_any (C : ExcC K D) : KitX K (.ref x) (.ref D) (fun h => InstAt h x ox D od) where
  ty := fun _ _ _ I => I.type
  it := fun _ _ X _ => by
    obtain ⟨cd, hcd, _⟩ := any_some C.hd
    unfold clsIn at hcd
    split at hcd
    · rename_i c' d' cd' sl' ho
      intro A' Q' E' s' k q
      unfold isType loadHead
      exact wpAny_bind (wpAny_loadPart (k _ _ (X _ _ ho)) (wpAny_pure q))
    · cases hcd
  ne := fun h tp dd its n sl X htp => by
    obtain ⟨cd, hcd, _⟩ := any_some C.hd
    refine Bool.eq_false_iff.mpr fun q => ?_
    have e : D = tp := Value.ref.inj (beq_iff_eq.mp q)
    subst e
    unfold clsIn at hcd
    split at hcd
    · rename_i c' d' cd' sl' ho
      have z := (X _ _ ho).symm.trans htp
      cases z
    · cases hcd
  ca := fun X I k => class_attr C X I k
end
/-- a value's type, errors too -/
inductive TyZ (K : Fg) (H : Hp) : V → Value → Prop where
  | kit {x : V} {t : Value} (h : TyX K H x t) : TyZ K H x t
  | er {a C : Addr} (e : H a = some (ExO (.ref C) a)) (c : ExcC K C) : TyZ K H (.ref a) (.ref C)
  | erp {a C dd : Addr} {fs : List (Str × V)} (e : H a = some (exo a C (some dd))) (e2 : H dd = some (exd dd fs)) (c : ExcC K C) : TyZ K H (.ref a) (.ref C)
theorem kit_ofZ {X : Cx} {pins : List (Addr × Obj)} {σ : L2.St} {H : Hp} {s : Shared} {x : V} {u t : Value} (I : Inv X pins σ H s) (rx : RelV x u) (ty : TyZ X.K H x t) : ∃ P : Heap → Prop, PySem.W.KitX X.K u t P ∧ P s.heap ∧ u ≠ .builtin "__main__.__loader__#opaque" := by
  cases ty with
  | kit h => exact kit_of I rx h
  | @er a C e c =>
    cases (show u = Value.ref a from rx)
    obtain ⟨⟨oe, vs, hg, hz, hd, _⟩, _⟩ := (show ObjOk X.prog X.w H s.heap a (ExO (.ref C) a) from I.hok a _ e)
    refine ⟨_, PySem.W.handS_kitx_exc c.hg c.hk c.hs c.hd c.ha c.hn c.ht c.hm, (?_ : PySem.W.InstAt s.heap a oe C none), fun z => nomatch z⟩
    obtain ⟨oc, od, oda, osl⟩ := oe
    obtain ⟨h1, h2⟩ := hz
    dsimp only at h1 h2 hd
    subst h1 h2 hd
    exact ⟨hg, rfl, rfl, trivial⟩
  | @erp a C dd fs e e2 c =>
    cases (show u = Value.ref a from rx)
    obtain ⟨t1, hg⟩ := exo_at I.hok e
    obtain ⟨mA, hns, _⟩ := exd_at I.hok e2
    obtain ⟨od, hod, _⟩ := lookIn_ns hns
    exact ⟨_, kitx_any c, (⟨hg, rfl, rfl, hod⟩ : PySem.W.InstAt s.heap a _ C (some od)), fun z => nomatch z⟩
def rIsiZ (K : PySem.W.Frag) : List V → Hp → VK → Prop := fun xs H Q => ∃ (x c : V) (t u : Value) (b : Bool), xs = [x, c] ∧ ClsV c u ∧ TyZ K H x t ∧ PySem.W.kitOne K t u = some b ∧ Q (.bl b) H
theorem call_isiZ {X : Cx} : CallR X (.builtin "isinstance") (rIsiZ X.K) := by
  intro pins s σ H xs us Q I r h
  obtain ⟨x, c, t, u, b, rfl, k, ty, e, q⟩ := h
  obtain ⟨u1, u2, rfl, r1, r2⟩ := vals2 r
  have e2 := k.eq r2
  subst e2
  obtain ⟨P, Z, p, hx⟩ := kit_ofZ I r1 ty
  exact PySem.W.kia_one Z I.kIn p e hx fun tk => ⟨.bl b, H, I.tok tk, rfl, q⟩
end T3
namespace T3
open PySem PySem.Spec PyProof.Rows L2
def tyName : D → String
  | .none => "NoneType"
  | .bool _ => "bool"
  | .int _ => "int"
  | .str _ => "str"
  | .list _ => "list"
  | .tuple _ => "tuple"
  | .dict _ => "dict"
/-- a watch's mark -/
def isWL : List (D × D) → Bool
  | (.none, .list _) :: _ => true
  | (.none, .int _) :: _ => true
  | (.none, .tuple _) :: _ => true
  | (.none, .str _) :: _ => true
  | _ => false
def isW : D → Bool
  | .dict es => isWL es
  | _ => false
def isiB (T : String) : D → Bool
  | .none => T == "NoneType"
  | .bool _ => T == "bool" || T == "int"
  | .int _ => T == "int"
  | .str _ => T == "str"
  | .list _ => T == "list"
  | .tuple _ => T == "tuple"
  | .dict es => T == "dict" && !isWL es
/-- the answers that isiB tells are the library's -/
def kitAll (T : String) : Bool := (["NoneType", "int", "bool", "str", "list", "tuple", "dict"] : List String).contains T && [(.none : D), .bool true, .int 0, .str ⟨#[]⟩, .list [], .tuple [], .dict []].all fun d => decide (kitB (tyName d) T = some (isiB T d))
def eOne (k : D → Option Op) (f : Ex) : Ex := fun env => (f env).bind fun o e => match res o e with
  | some d => fin (k d) e
  | none => .bad
def dIsi (T : String) (d : D) : Option Op := some (.val (.bool (isiB T d)))
section
variable {K : Fg} {mg : Str → Option Value} {E : Sl → XK} {f : Ex} {σ : Sl} {H : Hp}
theorem kit_all {T : String} (h : kitAll T = true) {d : D} (w : isW d = false) : kitB (tyName d) T = some (isiB T d) := by
  unfold kitAll at h
  simp only [List.all_cons, List.all_nil, Bool.and_true, Bool.and_eq_true, decide_eq_true_eq] at h
  obtain ⟨_, h1, h2, h3, h4, h5, h6, h7⟩ := h
  cases d
  · exact h1
  · exact h2
  · exact h3
  · exact h4
  · exact h5
  · exact h6
  · rename_i es
    have e : isiB T (.dict es) = (T == "dict") := by
      have w : isWL es = false := w
      show (T == "dict" && !isWL es) = _
      rw [w, Bool.not_false, Bool.and_true]
    rw [e]
    rw [show isiB T (.dict []) = (T == "dict") by show (T == "dict" && !isWL []) = _; rw [show isWL [] = false from rfl, Bool.not_false, Bool.and_true]] at h7
    exact h7
theorem View.ty {A : Hp} {v : V} {d : D} (h : View K A H v d) (s : Same A H) {T : String} (k : kitAll T = true) : ∃ t, TyZ K H v t ∧ PySem.W.kitOne K t (.type T) = some (isiB T d) := by
  have r := h.rep s
  cases r with
  | non => exact ⟨_, .kit <| .base .non, kit_ty (kit_all (d := .none) k rfl)⟩
  | bl b => exact ⟨_, .kit <| .base (.bl b), kit_ty (kit_all (d := .bool b) k rfl)⟩
  | int i => exact ⟨_, .kit <| .base (.int i), kit_ty (kit_all (d := .int i) k rfl)⟩
  | str x => exact ⟨_, .kit <| .base (.str x), kit_ty (kit_all (d := .str x) k rfl)⟩
  | @lst _ _ ds a b =>
    have q : PySem.W.kitOne K (.type "list") (.type T) = some (isiB T (.list ds)) := kit_ty (kit_all (d := .list ds) k rfl)
    rcases a with (a | ⟨o, a⟩) | ⟨o, its, n, a, c, _⟩
    · exact ⟨_, .kit <| .base (.lst a), q⟩
    · exact ⟨_, .kit <| .base (.frz a), q⟩
    · exact ⟨_, .kit (.kList a c), q⟩
  | @tup _ _ ds a b => exact ⟨_, .kit <| .base (.tup a), kit_ty (kit_all (d := .tuple ds) k rfl)⟩
  | @dic _ kvs ds a b =>
    have w : isW (.dict ((kvs.map fun p => kD p.1).zip ds)) = false := by
      cases kvs with
      | nil => rfl
      | cons p kvs =>
        cases ds with
        | nil => rfl
        | cons d ds =>
          obtain ⟨key, v⟩ := p
          cases key <;> rfl
    have q : PySem.W.kitOne K (.type "dict") (.type T) = some (isiB T (.dict ((kvs.map fun p => kD p.1).zip ds))) := kit_ty (kit_all k w)
    rcases a with a | ⟨o, a⟩
    · exact ⟨_, .kit <| .base (.dK a), q⟩
    · exact ⟨_, .kit (.fDict a), q⟩
  | @dicT _ kvs ds a b => exact ⟨_, .kit <| .base (.dT a), kit_ty (kit_all (d := .dict (mkT :: (kvs.map fun p => kT p.1).zip ds)) k rfl)⟩
  | @wat _ _ _ _ _ ds a c l b => exact ⟨_, .kit <| .base (TyOf.ins a c.ins.cl c.ins.ha c.ins.hn c.ins.htk c.ins.hm), (show isiB T (wD ds) = false from by show (T == "dict" && !true) = false; rw [Bool.not_true, Bool.and_false]) ▸ c.kit T (by
      unfold kitAll at k
      rw [Bool.and_eq_true] at k
      exact List.contains_iff_mem.mp k.1)⟩
  | @watG _ _ _ _ _ ds a c l b => exact ⟨_, .kit <| .base (TyOf.ins a c.ins.cl c.ins.ha c.ins.hn c.ins.htk c.ins.hm), (show isiB T (wwD _ ds) = false from by show (T == "dict" && !true) = false; rw [Bool.not_true, Bool.and_false]) ▸ c.kit T (by
      unfold kitAll at k
      rw [Bool.and_eq_true] at k
      exact List.contains_iff_mem.mp k.1)⟩
  | @con _ _ _ w a c => exact ⟨_, .kit <| .base (TyOf.ins a c.ins.cl c.ins.ha c.ins.hn c.ins.htk c.ins.hm), (show isiB T (conD w) = false from by show (T == "dict" && !true) = false; rw [Bool.not_true, Bool.and_false]) ▸ c.kit T (by
      unfold kitAll at k
      rw [Bool.and_eq_true] at k
      exact List.contains_iff_mem.mp k.1)⟩
  | @er a C nm s c => exact ⟨_, .er s c.exc, (show isiB T (erD nm) = false from by show (T == "dict" && !true) = false; rw [Bool.not_true, Bool.and_false]) ▸ c.kit T (by
      unfold kitAll at k
      rw [Bool.and_eq_true] at k
      exact List.contains_iff_mem.mp k.1)⟩
  | @erp a C dd nm v d s t c p => exact ⟨_, .erp s t c.exc, (show isiB T (erpD nm d) = false from by show (T == "dict" && !true) = false; rw [Bool.not_true, Bool.and_false]) ▸ c.kit T (by
      unfold kitAll at k
      rw [Bool.and_eq_true] at k
      exact List.contains_iff_mem.mp k.1)⟩
end
abbrev Ox := En → Out En (Option Int)
def oNone : Ox := fun env => .ok none env
def oSome (f : Ex) : Ox := fun env => (f env).bind fun o e => match res o e with
  | some (.int i) => .ok (some i) e
  | _ => .bad
def tJO (K : Fg) (mg : Str → Option Value) (E : Sl → XK) (f : Ox) : TO := fun σ H Q => ∃ env A F, SOk K F σ env H A ∧ match f env with
  | .ok o env' => ∀ H' A', SOk K F σ env' H' A' → Grow F A A' → Q o H'
  | .exc n env' => ∀ C H' A', XN mg n C A' → SOk K F σ env' H' A' → Grow F A A' → E σ (.ref C.1) C.2 H'
  | .bad => False
def eSlice (f : Ex) (a b : Ox) : Ex := fun env => (f env).bind fun o e => (a e).bind fun l e1 => (b e1).bind fun u e2 => match res o e2 with
  | some (.list ds) => .ok (.new (.list (cutD ds l u))) e2
  | some (.tuple ds) => .ok (.val (.tuple (cutD ds l u))) e2
  | some (.str z) => if z.length ≤ sizeLine then .ok (.val (.str (cutS z l u))) e2 else .bad
  | _ => .bad
def eRev (f : Ex) : Ex := eOne (fun d => match d with | .list ds => some (.new (.list ds.reverse)) | _ => none) f
section
variable {X : Cx} {E : Sl → XK} {pos p2 : Pos} {e : Expr} {lo hi : Option Expr} {f : Ex} {a b : Ox}
abbrev JO (X : Cx) (E : Sl → XK) (e : Option Expr) (f : Ox) : Prop := PO X e (tJO X.K X.mg E f)
theorem impO {e : Option Expr} {t t' : TO} (h : PO X e t) (i : ∀ σ H Q, t' σ H Q → t σ H Q) : PO X e t' := ⟨fun p s σ H Q I w => h.run p s σ H Q I (i σ H Q w)⟩
theorem jo_none : JO X E none oNone := impO po_none fun σ H Q ⟨env, A, F, S, h⟩ => h H A S Grow.refl
theorem jo_some {e : Expr} (h : JP X E e f) : JO X E (some e) (oSome f) := impO (po_some h) fun σ H Q ⟨env, A, F, S, h⟩ => by
  refine ⟨env, A, F, S, ?_⟩
  unfold oSome at h
  cases e : f env with
  | bad => rw [e] at h; exact h
  | exc n e' => rw [e] at h; exact h
  | ok o e' =>
    rw [e] at h
    intro v H1 A1 S1 g1 r1
    simp only [Out.bind] at h
    cases hd : res o e' with
    | none => rw [hd] at h; exact h.elim
    | some d =>
      rw [hd] at h
      cases d <;> first | exact h.elim | skip
      exact ⟨_, (r1.view S1 hd).int, h H1 A1 S1 g1⟩
theorem jp_slice (he : JP X E e f) (ha : JO X E lo a) (hb : JO X E hi b) : JP X E (.Subscript e (.Slice lo hi none p2) pos) (eSlice f a b) :=
  impE (pe_slice (sl_list.or (sl_tupA.or sl_str)) he ha hb) fun σ H Q ⟨env, A, F, S, h⟩ => by
    refine ⟨env, A, F, S, ?_⟩
    unfold eSlice at h
    cases e1 : f env with
    | bad => rw [e1] at h; exact h
    | exc n e' => rw [e1] at h; exact h
    | ok o env1 =>
      rw [e1] at h
      intro x H1 A1 S1 g1 r1
      obtain ⟨F1, sF, S1', _, keep⟩ := hold S1 r1
      refine ⟨env1, A1, F1, S1', ?_⟩
      simp only [Out.bind] at h
      cases e2 : a env1 with
      | bad => rw [e2] at h; exact h
      | exc n e' => rw [e2] at h; exact fun C H' A' hC S' g' => h C H' A' hC (S'.weakF sF) (g1.trans (g'.mono sF))
      | ok l env2 =>
        rw [e2] at h
        intro H2 A2 S2 g2
        refine ⟨env2, A2, F1, S2, ?_⟩
        simp only at h
        cases e3 : b env2 with
        | bad => rw [e3] at h; exact h
        | exc n e' => rw [e3] at h; exact fun C H' A' hC S' g' => h C H' A' hC (S'.weakF sF) (g1.trans ((g2.trans g').mono sF))
        | ok u env3 =>
          rw [e3] at h
          intro H3 A3 S3 g3
          have S3' := S3.weakF sF
          have g0 := g1.trans ((g2.trans g3).mono sF)
          have ok := keep env3 H3 A3 S3 (g2.trans g3)
          simp only at h
          cases hd : res o env3 with
          | none => rw [hd] at h; exact h.elim
          | some d =>
            have w := ok.view S3' hd
            rw [hd] at h
            have s := S3'.subA
            cases d <;> first | exact h.elim | skip
            · simp only at h
              rename_i z
              by_cases hz : z.length ≤ sizeLine
              · rw [if_pos hz] at h
                have q := Fin.of S3' fun v H' A' S' g' r' => h v H' A' S' (g0.trans g') r'
                exact .inr (.inr ⟨_, w.str, hz, q.str s⟩)
              · rw [if_neg hz] at h
                exact h.elim
            · have q := Fin.of S3' fun v H' A' S' g' r' => h v H' A' S' (g0.trans g') r'
              obtain ⟨p, vs, e5, s5, r5⟩ := w.lst s
              exact .inl ⟨p, vs, e5, s5, q.list s (r5.cut l u)⟩
            · rename_i ds
              have q := Fin.of S3' fun v H' A' S' g' r' => h v H' A' S' (g0.trans g') r'
              obtain ⟨p, vs, e5, s5, r5⟩ := w.tup s
              refine .inr (.inl ⟨p, vs, e5, s5, fun hh => ?_, fun hh => q.tuple s (r5.cut l u)⟩)
              have e6 : cutD ds l u = ds := by
                unfold cutD
                rw [← r5.length, hh.1, hh.2, List.drop_zero, Nat.sub_zero, r5.length, List.take_length]
              rw [e6] at q
              subst e5
              exact q.val s (by
                rcases w with w | ⟨_, _, _, w⟩
                · exact w
                · exact w.elim)
end
end T3
namespace T3
open PySem PySem.Spec PyProof.Rows L2
def rangeD (a b : Int) : List D := (List.range (b - a).toNat).map fun (i : Nat) => .int (a + (i : Int))
def rgOk (a b : Int) : Bool := decide (-(2 ^ 62) ≤ a) && decide (a < 2 ^ 62) && decide (-(2 ^ 62) ≤ b) && decide (b < 2 ^ 62) && decide ((b - a).toNat ≤ 2 ^ 24)
def dRg1 : D → Option Op
  | .int n => if rgOk 0 n then some (.new (.list (rangeD 0 n))) else none
  | _ => none
def dRg2 : D → D → Option Op
  | .int a, .int b => if rgOk a b then some (.new (.list (rangeD a b))) else none
  | _, _ => none
end T3
namespace T3
open PySem PySem.Spec PyProof.Rows L2
def put0 (i : Nat) : Op → En → Option En
  | .val d, e => some (e.set i (.v d))
  | .new d, e => some (e.set i (.own d))
  | .raw v, e => some (e.set i (.raw v))
  | .slot j, e => (match e.getD j .no with
    | .v d => some (e.set i (.v d))
    | .own d => if i = j then some e else some ((e.set j (.v d)).set i (.v d))
    | .raw v => some (e.set i (.raw v))
    | _ => none)
def isPar : Cell → Bool
  | .par _ => true
  | _ => false
/-- a lent parameter's name is not stored -/
def put (i : Nat) (o : Op) (e : En) : Option En := if i < e.length ∧ isPar (e.getD i .no) = false then put0 i o e else none
section
variable {K : Fg} {F A H : Hp} {σ : Sl} {env : En}
theorem getσ_set {σ : Sl} {i j : Nat} {v : V} (hi : i < σ.length) : (σ.set i (some v))[j]? = if i = j then some (some v) else σ[j]? := by
  rw [List.getElem?_set]
  by_cases h : i = j
  · subst h; simp [hi]
  · simp [h]
theorem SOk.setV (S : SOk K F σ env H A) {i : Nat} (hi : i < σ.length) {v : V} {d : D} (r : Rep K A v d) : SOk K F (σ.set i (some v)) (env.set i (.v d)) H A where
  subA := S.subA
  subF := S.subF
  lens := by rw [List.length_set, List.length_set]; exact S.lens
  nomk := S.nomk
  cell := fun j => by
    rw [getσ_set hi, set_getD]
    by_cases h : i = j
    · rw [if_pos h, if_pos ⟨h, by rw [S.lens]; exact hi⟩]; exact ⟨v, rfl, r⟩
    · rw [if_neg h, if_neg (fun z => h z.1)]; exact S.cell j
  apart := fun j k d1 d2 p h1 h2 h3 h4 => by
    rw [set_getD] at h1 h2
    rw [getσ_set hi] at h3 h4
    split at h1
    · cases h1
    · rename_i n1
      split at h2
      · cases h2
      · rename_i n2
        have hl : i < env.length := by rw [S.lens]; exact hi
        rw [if_neg (fun z => n1 ⟨z, hl⟩)] at h3
        rw [if_neg (fun z => n2 ⟨z, hl⟩)] at h4
        exact S.apart j k d1 d2 p h1 h2 h3 h4
theorem SOk.setR (S : SOk K F σ env H A) {i : Nat} (hi : i < σ.length) {v : V} : SOk K F (σ.set i (some v)) (env.set i (.raw v)) H A where
  subA := S.subA
  subF := S.subF
  lens := by rw [List.length_set, List.length_set]; exact S.lens
  nomk := S.nomk
  cell := fun j => by
    rw [getσ_set hi, set_getD]
    by_cases h : i = j
    · rw [if_pos h, if_pos ⟨h, by rw [S.lens]; exact hi⟩]; exact rfl
    · rw [if_neg h, if_neg (fun z => h z.1)]; exact S.cell j
  apart := fun j k d1 d2 p h1 h2 h3 h4 => by
    rw [set_getD] at h1 h2
    rw [getσ_set hi] at h3 h4
    split at h1
    · cases h1
    · rename_i n1
      split at h2
      · cases h2
      · rename_i n2
        have hl : i < env.length := by rw [S.lens]; exact hi
        rw [if_neg (fun z => n1 ⟨z, hl⟩)] at h3
        rw [if_neg (fun z => n2 ⟨z, hl⟩)] at h4
        exact S.apart j k d1 d2 p h1 h2 h3 h4
theorem SOk.setN (S : SOk K F σ env H A) {i : Nat} (hi : i < σ.length) {v : V} {d : D} (r : OpOk K F A H σ env v (.new d)) : SOk K F (σ.set i (some v)) (env.set i (.own d)) H A := by
  obtain ⟨p, rfl, a, f, b, n⟩ := r
  have hl : i < env.length := by rw [S.lens]; exact hi
  refine ⟨S.subA, S.subF, fun j => ?_, fun j k d1 d2 q h1 h2 h3 h4 => ?_, by rw [List.length_set, List.length_set]; exact S.lens, S.nomk⟩
  · rw [getσ_set hi, set_getD]
    by_cases h : i = j
    · rw [if_pos h, if_pos ⟨h, hl⟩]; exact ⟨p, rfl, a, f, b⟩
    · rw [if_neg h, if_neg (fun z => h z.1)]; exact S.cell j
  · rw [set_getD] at h1 h2
    rw [getσ_set hi] at h3 h4
    by_cases e1 : i = j
    · by_cases e2 : i = k
      · exact e1.symm.trans e2
      · rw [if_pos e1] at h3
        rw [if_neg e2] at h4
        rw [if_neg (fun z => e2 z.1)] at h2
        cases h3
        exact absurd h4 (n k d2 h2)
    · by_cases e2 : i = k
      · rw [if_neg e1] at h3
        rw [if_pos e2] at h4
        rw [if_neg (fun z => e1 z.1)] at h1
        cases h4
        exact absurd h3 (n j d1 h1)
      · rw [if_neg e1] at h3
        rw [if_neg e2] at h4
        rw [if_neg (fun z => e1 z.1)] at h1
        rw [if_neg (fun z => e2 z.1)] at h2
        exact S.apart j k d1 d2 q h1 h2 h3 h4
theorem set_same {σ : Sl} {i : Nat} {v : V} (h : σ[i]? = some (some v)) : σ.set i (some v) = σ := by
  apply List.ext_getElem?
  intro j
  rw [List.getElem?_set]
  by_cases e : i = j
  · subst e
    have hl : i < σ.length := (List.getElem?_eq_some_iff.mp h).1
    simp [hl]
    exact (List.getElem?_eq_some_iff.mp h).2.symm
  · simp [e]
theorem put_ok (S : SOk K F σ env H A) {i : Nat} {v : V} {o : Op} {e' : En} (r : OpOk K F A H σ env v o) (h : put i o env = some e') : ∃ A', SOk K F (σ.set i (some v)) e' H A' ∧ Grow F A A' := by
  unfold put at h
  by_cases hi1 : i < env.length ∧ isPar (env.getD i .no) = false
  rotate_left
  · rw [if_neg hi1] at h; cases h
  rw [if_pos hi1] at h
  have hi0 := hi1.1
  have hi : i < σ.length := by rw [← S.lens]; exact hi0
  cases o with
  | val d => cases h; exact ⟨A, S.setV hi r, Grow.refl⟩
  | new d => cases h; exact ⟨A, S.setN hi r, Grow.refl⟩
  | raw w => cases h; cases (show v = w from r); exact ⟨A, S.setR hi, Grow.refl⟩
  | slot j =>
    have hv : σ[j]? = some (some v) := r
    simp only [put0] at h
    cases hh : env.getD j .no with
    | no => rw [hh] at h; cases h
    | par d => rw [hh] at h; cases h
    | raw w =>
      rw [hh] at h; cases h
      have hc := S.cell j
      rw [hh] at hc
      have hc' : σ[j]? = some (some w) := hc
      rw [hv] at hc'; cases hc'
      exact ⟨A, S.setR hi, Grow.refl⟩
    | v d =>
      rw [hh] at h; cases h
      have hc := S.cell j
      rw [hh] at hc
      obtain ⟨w, a, b⟩ := hc
      rw [hv] at a; cases a
      exact ⟨A, S.setV hi b, Grow.refl⟩
    | own d =>
      rw [hh] at h
      simp only at h
      split at h
      · rename_i e
        cases h
        subst e
        rw [set_same hv]
        exact ⟨A, S, Grow.refl⟩
      · cases h
        obtain ⟨A', p, x, S', g, r', _⟩ := S.freeze hh
        rw [hv] at x; cases x
        exact ⟨A', S'.setV hi r', g⟩
end
def sNext : Sx := fun env => .ok .nx env
def sSeq (a b : Sx) : Sx := fun env => (a env).bind fun fl e => match fl with
  | .nx => b e
  | fl => .ok fl e
def sSet (i : Nat) (f : Ex) : Sx := fun env => (f env).bind fun o e => match put i o e with
  | some e2 => .ok .nx e2
  | none => .bad
def sDrop (f : Ex) : Sx := fun env => (f env).bind fun _ e => .ok .nx e
def retOp (o : Op) (e : En) : Out En Fl := match o with
  | .slot i => (match e.getD i .no with
    | .own d => .ok (.rt (.new d)) (e.set i .no)
    | .v d => .ok (.rt (.val d)) e
    | .raw v => .ok (.rt (.raw v)) e
    | _ => .bad)
  | o => .ok (.rt o) e
def sRet (f : Ex) : Sx := fun env => (f env).bind retOp
def sIf (t : Tx) (a b : Sx) : Sx := fun env => (t env).bind fun c e => if c = true then a e else b e
section
variable {K : Fg} {mg : Str → Option Value} {E : Sl → XK} {F A H : Hp} {σ : Sl} {env : En} {Z : Ends}
theorem LS.of_ex {f : Ex} {k : Op → En → Out En Fl} {Q : VK} (h : LS K mg E F A Z ((f env).bind k)) (S : SOk K F σ env H A)
    (hk : ∀ o e v H' A', SOk K F σ e H' A' → Grow F A A' → OpOk K F A' H' σ e v o → LS K mg E F A' Z (k o e) → Q v H') : tJ K mg E f σ H Q := by
  refine ⟨env, A, F, S, ?_⟩
  cases e : f env with
  | bad => rw [e] at h; exact h
  | exc n e' => rw [e] at h; exact fun C H' A' m S' g' => h C σ H' A' m S' g'
  | ok o e' => rw [e] at h; exact fun v H' A' S' g' r' => hk o e' v H' A' S' g' r' (LS.grow h g')
theorem LS.of_t {f : Tx} {k : Bool → En → Out En Fl} {Q : Bool → Hp → Prop} (h : LS K mg E F A Z ((f env).bind k)) (S : SOk K F σ env H A)
    (hk : ∀ o e H' A', SOk K F σ e H' A' → Grow F A A' → LS K mg E F A' Z (k o e) → Q o H') : tJT K mg E f σ H Q := by
  refine ⟨env, A, F, S, ?_⟩
  cases e : f env with
  | bad => rw [e] at h; exact h
  | exc n e' => rw [e] at h; exact fun C H' A' m S' g' => h C σ H' A' m S' g'
  | ok o e' => rw [e] at h; exact fun H' A' S' g' => hk o e' H' A' S' g' (LS.grow h g')
theorem LS.seq {a : Out En Fl} {b : Sx} (h : LS K mg E F A Z (a.bind fun fl e => match fl with | .nx => b e | fl => .ok fl e)) : LS K mg E F A { Z with nx := tJS K mg E b Z } a := by
  cases a with
  | bad => exact h
  | exc n e => exact h
  | ok fl e =>
    cases fl with
    | nx => exact fun σ' H' A' S' g' => ⟨e, A', F, S', LS.grow h g'⟩
    | bk => exact h
    | ct => exact h
    | rt o => exact h
end
section
variable {X : Cx} {E : Sl → XK} {pos : Pos} {st : Stmt} {rest : List Stmt} {a b : Sx} {e : Expr} {f : Ex} {t : Tx}
theorem jb_nil : JB X E [] sNext := impB pss_nil fun Z σ H ⟨env, A, F, S, h⟩ => h σ H A S Grow.refl
theorem jb_cons (h : JS X E st a) (k : JB X E rest b) : JB X E (st :: rest) (sSeq a b) := impB (pss_cons h k) fun Z σ H ⟨env, A, F, S, q⟩ => ⟨env, A, F, S, LS.seq q⟩
theorem jb_one (h : JS X E st a) : JB X E [st] a := pss_one h
theorem retOp_ok {K : Fg} {mg : Str → Option Value} {F A H : Hp} {σ : Sl} {env : En} {Z : Ends} {v : V} {o : Op} (S : SOk K F σ env H A) (r : OpOk K F A H σ env v o) (h : LS K mg E F A Z (retOp o env)) : Z.rt v H := by
  cases o with
  | val d => exact h v σ H A S Grow.refl r
  | new d => exact h v σ H A S Grow.refl r
  | raw d => exact h v σ H A S Grow.refl r
  | slot i =>
    have hv : σ[i]? = some (some v) := r
    have hc := S.cell i
    simp only [retOp] at h
    cases hh : env.getD i .no with
    | no => rw [hh] at h; exact h.elim
    | par d => rw [hh] at h; exact h.elim
    | v d => rw [hh] at h hc; obtain ⟨w, x, y⟩ := hc; rw [hv] at x; cases x; exact h v σ H A S Grow.refl y
    | raw w => rw [hh] at h hc; have hc' : σ[i]? = some (some w) := hc; rw [hv] at hc'; cases hc'; exact h v σ H A S Grow.refl rfl
    | own d =>
      rw [hh] at h hc
      obtain ⟨p, x, a1, f1, b1⟩ := hc
      rw [hv] at x; cases x
      refine h (.ref p) σ H A ⟨S.subA, S.subF, fun j => ?_, fun j k d1 d2 q h1 h2 h3 h4 => ?_, by rw [List.length_set]; exact S.lens, S.nomk⟩ Grow.refl ⟨p, rfl, a1, f1, b1, fun j e hj hs => ?_⟩
      · rw [set_getD]
        split
        · trivial
        · exact S.cell j
      · rw [set_getD] at h1 h2
        split at h1
        · cases h1
        · split at h2
          · cases h2
          · exact S.apart j k d1 d2 q h1 h2 h3 h4
      · rw [set_getD] at hj
        split at hj
        · cases hj
        · rename_i n
          exact n ⟨S.apart i j d e p hh hj hv hs, getD_lt (by rw [hh]; exact fun z => nomatch z)⟩
theorem js_ret (h : JP X E e f) : JS X E (.Return (some e) pos) (sRet f) :=
  impS (ps_ret h) fun Z σ H ⟨env, A, F, S, q⟩ => LS.of_ex q S fun o e v H' A' S' g' r' k => retOp_ok S' r' k
theorem js_set {i : Nat} {x : Str} {pos' : Pos} (h : JP X E e f) (hN : X.N.Nodup) (hi : X.N[i]? = some x) (hx : Loc X.env.scope x) (hs : swapsWith e (some (.Name x pos')) pos.line X.env = pure false := by rfl)
    (hf : X.fn x = true ∨ X.env.scope.names.lookup x = some .local := by first | exact .inl rfl | exact .inr rfl | assumption) : JS X E (.Assign [.Name x pos'] e pos) (sSet i f) := by
  refine ⟨fun pins s σ H Z I h' => ?_⟩
  refine (ps_set hN hi hx h hs hf).run pins s σ H Z I ?_
  obtain ⟨env, A, F, S, q⟩ := h'
  refine LS.of_ex q S fun o e v H' A' S' g' r' k => ?_
  cases hp : put i o e with
  | none => rw [hp] at k; exact k.elim
  | some e2 =>
    rw [hp] at k
    obtain ⟨A2, S2, g2⟩ := put_ok S' r' hp
    exact k _ H' A2 S2 g2
theorem js_if {c : Expr} {bs cs : List Stmt} (h : JT X E c t) (ha : JB X E bs a) (hb : JB X E cs b) : JS X E (.If c bs cs pos) (sIf t a b) :=
  impS (ps_if h ha hb) fun Z σ H ⟨env, A, F, S, q⟩ => LS.of_t q S fun c e H' A' S' g' k => by
    cases c with
    | true => rw [if_pos rfl] at k ⊢; exact ⟨e, A', F, S', k⟩
    | false => rw [if_neg Bool.false_ne_true] at k ⊢; exact ⟨e, A', F, S', k⟩
end
def wLoop (t : Tx) (b : Sx) : Nat → Sx
  | 0 => fun _ => .bad
  | n + 1 => fun env => (t env).bind fun c e => if c = true then (b e).bind fun fl e2 => (match fl with
    | .nx => wLoop t b n e2
    | .ct => wLoop t b n e2
    | .bk => .ok .nx e2
    | .rt o => .ok (.rt o) e2) else .ok .nx e
abbrev Gx := D → En → Option En
def gSlot (i : Nat) : Gx := fun d e => if i < e.length ∧ isPar (e.getD i .no) = false then some (e.set i (.v d)) else none
def gAll : List Gx → List D → En → Option En
  | [], [], e => some e
  | g :: gs, d :: ds, e => (match g d e with | some e2 => gAll gs ds e2 | none => none)
  | _, _, _ => none
def gTupM (gs : List Gx) : Gx := fun d e => match d with
  | .tuple ds => gAll gs ds e
  | _ => none
/-- but the slots vs -/
def ButVs (vs : List Nat) (σ σ' : Sl) : Prop := σ'.length = σ.length ∧ ∀ j, j ∉ vs → σ'[j]? = σ[j]?
def tGJ (K : Fg) (vs : List Nat) (g : Gx) : TG := fun v σ H Q => ∃ env A F d, SOk K F σ env H A ∧ Rep K A v d ∧ ∃ e', g d env = some e' ∧ ∀ σ' H' A', ButVs vs σ σ' → SOk K F σ' e' H' A' → Grow F A A' → Q σ' H'
theorem ButVs.refl {vs : List Nat} {σ : Sl} : ButVs vs σ σ := ⟨rfl, fun _ _ => rfl⟩
theorem ButVs.trans {vs : List Nat} {σ σ' σ2 : Sl} (h : ButVs vs σ σ') (k : ButVs vs σ' σ2) : ButVs vs σ σ2 := ⟨k.1.trans h.1, fun j n => (k.2 j n).trans (h.2 j n)⟩
theorem impG {X : Cx} {tg : Expr} {t t' : TG} (h : PG X tg t) (i : ∀ v σ H Q, t' v σ H Q → t v σ H Q) : PG X tg t' := ⟨fun p s σ H v u Q I r w => h.run p s σ H v u Q I r (i v σ H Q w)⟩
abbrev JG (X : Cx) (vs : List Nat) (tg : Expr) (g : Gx) : Prop := PG X tg (tGJ X.K vs g)
section
variable {X : Cx} {vs : List Nat} {pos : Pos}
theorem jg_name {i : Nat} {x : Str} (hN : X.N.Nodup) (hi : X.N[i]? = some x) (hx : Loc X.env.scope x) (hv : i ∈ vs) (hf : X.fn x = true ∨ X.env.scope.names.lookup x = some .local := by first | exact .inl rfl | exact .inr rfl | assumption) : JG X vs (.Name x pos) (gSlot i) :=
  impG (pg_name hN hi hx hf) fun v σ H Q ⟨env, A, F, d, S, r, e', he, h⟩ => by
    unfold gSlot at he
    split at he
    · rename_i hl
      cases he
      have hlen : i < σ.length := by rw [← S.lens]; exact hl.1
      exact h _ H A ⟨List.length_set, fun j n => by rw [getσ_set hlen, if_neg (fun z : i = j => by subst z; exact n hv)]⟩ (S.setV hlen r) Grow.refl
    · cases he
end
abbrev Ix := En → Out En (List D)
def Walks (K : Fg) (J : It) (ds : List D) (A : Hp) : Prop := ∀ (i : Nat) (H A2 : Hp), Same A A2 → Same A2 H → (∀ d, ds[i]? = some d → J.go i H ∧ ∀ x H2, J.yld i H x H2 → ∃ A3, Ext A2 H A3 H2 ∧ Rep K A3 x d) ∧ (ds.length ≤ i → J.stop i H)
def tJI (K : Fg) (mg : Str → Option Value) (E : Sl → XK) (f : Ix) : TI := fun σ H R => ∃ env A F, SOk K F σ env H A ∧ match f env with
  | .ok ds env' => ∀ J H' A', SOk K F σ env' H' A' → Grow F A A' → Walks K J ds A' → R J H'
  | .exc n env' => ∀ C H' A', XN mg n C A' → SOk K F σ env' H' A' → Grow F A A' → E σ (.ref C.1) C.2 H'
  | .bad => False
abbrev JI (X : Cx) (E : Sl → XK) (tg iter : Expr) (f : Ix) : Prop := PI X tg iter (tJI X.K X.mg E f)
theorem impI {X : Cx} {tg it : Expr} {t t' : TI} (h : PI X tg it t) (i : ∀ σ H R, t' σ H R → t σ H R) : PI X tg it t' := ⟨fun p s σ H R I w => h.run p s σ H R I (i σ H R w)⟩
def iLst (f : Ex) : Ix := fun env => (f env).bind fun o e => match frz1 o e with
  | some (.list ds, e2) => .ok ds e2
  | _ => .bad
def iTupM (f : Ex) : Ix := fun env => (f env).bind fun o e => match frz1 o e with
  | some (.tuple ds, e2) => .ok ds e2
  | _ => .bad
def iRg1 (f : Ax) : Ix := fun env => (f env).bind fun os e => match resAll os e with
  | some [.int n] => if -(2 ^ 62) ≤ n ∧ n < 2 ^ 62 then .ok (rangeD 0 n) e else .bad
  | _ => .bad
def iRg2 (f : Ax) : Ix := fun env => (f env).bind fun os e => match resAll os e with
  | some [.int m, .int n] => if (-(2 ^ 62) ≤ m ∧ m < 2 ^ 62) ∧ -(2 ^ 62) ≤ n ∧ n < 2 ^ 62 then .ok (rangeD m n) e else .bad
  | _ => .bad
def enumD (ds : List D) : List D := List.zipWith (fun (i : Nat) d => .tuple [.int (i : Int), d]) (List.range ds.length) ds
def zipD (xs ys : List D) : List D := List.zipWith (fun x y => .tuple [x, y]) xs ys
def iEnumM (f : Ax) : Ix := fun env => (f env).bind fun os e => match frzAll os e with
  | some ([.list ds], e2) => .ok (enumD ds) e2
  | _ => .bad
def iZipM (f : Ax) : Ix := fun env => (f env).bind fun os e => match frzAll os e with
  | some ([.list xs, .list ys], e2) => .ok (zipD xs ys) e2
  | _ => .bad
section
variable {K : Fg} {A : Hp}
theorem walks_range {lo hi : Int} : Walks K (Itr lo (hi - lo).toNat) (rangeD lo hi) A := fun i H A2 h1 h2 => by
  unfold rangeD
  refine ⟨fun d hd => ?_, fun hl => (by simpa using hl : (hi - lo).toNat ≤ i)⟩
  rw [List.getElem?_map] at hd
  obtain ⟨j, hj, rfl⟩ := Option.map_eq_some_iff.mp hd
  obtain ⟨h3, h4⟩ := List.getElem?_eq_some_iff.mp hj
  rw [List.getElem_range] at h4
  subst h4
  refine ⟨(by simpa using h3 : i < (hi - lo).toNat), fun x H2 hy => ?_⟩
  obtain ⟨rfl, rfl⟩ := hy
  exact ⟨A2, Ext.refl h2, .int _⟩
end
section
variable {X : Cx} {E : Sl → XK} {tg e e2 : Expr} {f : Ex} {fa : Ax} {p pos tpos : Pos} {elts : List Expr} {kk : Nat}
theorem tJI_ax {K : Fg} {mg : Str → Option Value} {f : Ax} {k : List Op → En → Out En (List D)} {σ : Sl} {H : Hp} {R : It → Hp → Prop} {Q : List V → Hp → Prop} (h : tJI K mg E (fun env => (f env).bind k) σ H R)
    (hk : ∀ o e v H' A' F, SOk K F σ e H' A' → OpsOk K F A' H' σ e o v → (match k o e with
      | .ok ds env' => ∀ J H2 A2, SOk K F σ env' H2 A2 → Grow F A' A2 → Walks K J ds A2 → R J H2
      | .exc n env' => ∀ C H2 A2, XN mg n C A2 → SOk K F σ env' H2 A2 → Grow F A' A2 → E σ (.ref C.1) C.2 H2
      | .bad => False) → Q v H') : tJA K mg E f σ H Q := by
  obtain ⟨env, A, F, S, h⟩ := h
  refine ⟨env, A, F, S, ?_⟩
  simp only at h
  cases e : f env with
  | bad => rw [e] at h; exact h
  | exc n e' => rw [e] at h; exact h
  | ok o e' =>
    rw [e] at h
    intro v H' A' S' g' r'
    refine hk o e' v H' A' F S' r' ?_
    simp only [Out.bind] at h
    cases e3 : k o e' with
    | bad => rw [e3] at h; exact h
    | exc n e4 => rw [e3] at h; exact fun C H2 A2 m S2 g2 => h C H2 A2 m S2 (g'.trans g2)
    | ok ds e4 => rw [e3] at h; exact fun J H2 A2 S2 g2 => h J H2 A2 S2 (g'.trans g2)
theorem ji_range1 (hg : Gl X "range") (hm : X.mg "range" = none) (ha : JA X E [e] fa) (hs : starEach [e] X.env = [(false, eval e X.env)] := by rfl) : JI X E tg (.Call (.Name "range" p) [e] [] pos) (iRg1 fa) :=
  impI (pi_range1 hg hm ha hs) fun σ H R q => tJI_ax (k := fun os e => match resAll os e with | some [.int n] => if -(2 ^ 62) ≤ n ∧ n < 2 ^ 62 then .ok (rangeD 0 n) e else .bad | _ => .bad) q fun o e v H' A' F S r k => by
    split at k
    · rename_i h1
      split at h1
      · rename_i hr
        split at h1
        · rename_i hb
          cases h1
          have w := r.views S hr
          obtain ⟨x, rfl, wx⟩ := Pv1 w
          refine ⟨_, by rw [wx.int], hb.1, hb.2, ?_⟩
          have := k _ H' A' S Grow.refl (walks_range (lo := 0))
          rw [Int.sub_zero] at this
          exact this
        · cases h1
      · cases h1
    · rename_i h1
      split at h1
      · split at h1 <;> cases h1
      · cases h1
    · exact k.elim
end
def fLoop (g : Gx) (b : Sx) : List D → Sx
  | [] => fun env => .ok .nx env
  | d :: ds => fun env => match g d env with
    | none => .bad
    | some e1 => (b e1).bind fun fl e2 => (match fl with
      | .nx => fLoop g b ds e2
      | .ct => fLoop g b ds e2
      | .bk => .ok .nx e2
      | .rt o => .ok (.rt o) e2)
def sFor (fi : Ix) (g : Gx) (b : Sx) : Sx := fun env => (fi env).bind fun ds e => fLoop g b ds e
theorem js_for {X : Cx} {E : Sl → XK} {pos : Pos} {tg iter : Expr} {body : List Stmt} {vs : List Nat} {fi : Ix} {g : Gx} {b : Sx} (hp : PassesOwn (model X.prog X.w) X.A X.env X.xe) (hc : X.calm = true) (hi : JI X E tg iter fi) (hg : JG X vs tg g) (hb : JB X E body b)
    (hs : ∀ x, foldedSetIterable iter X.env x = pure x := by intro _; rfl) : JS X E (.For tg iter body [] pos) (sFor fi g b) := by
  refine impS (ps_for hp hc hi hg hb hs) fun Z σ H ⟨env, A, F, S, h⟩ => ?_
  refine ⟨env, A, F, S, ?_⟩
  unfold sFor at h
  cases e : fi env with
  | bad => rw [e] at h; exact h
  | exc n e' => rw [e] at h; exact fun C H' A' m S' g' => h C σ H' A' m S' g'
  | ok ds e' =>
    rw [e] at h
    intro J H1 A1 S1 g1 w
    refine ⟨fun i m σ H => ∃ env A, SOk X.K F σ env H A ∧ Same A1 A ∧ m = ds.length - i ∧ i ≤ ds.length ∧ LS X.K X.mg E F A Z (fLoop g b (ds.drop i) env), ⟨_, e', A1, S1, Same.refl A1, rfl, Nat.zero_le _, by simpa using LS.grow h g1⟩, ?_⟩
    rintro i m σ H ⟨env, A, S, sA, rfl, hi, q⟩
    obtain ⟨w1, w2⟩ := w i H A sA S.subA
    by_cases hlt : i < ds.length
    · refine .inr ?_
      obtain ⟨go, yl⟩ := w1 ds[i] (List.getElem?_eq_getElem hlt)
      rw [List.drop_eq_getElem_cons hlt] at q
      refine ⟨go, fun σ' H' => ∃ env A, SOk X.K F σ' env H' A ∧ Same A1 A ∧ LS X.K X.mg E F A Z (fLoop g b (ds.drop (i + 1)) env), fun σ' H' ⟨env, A, a1, a2, a4⟩ => ⟨_, by omega, env, A, a1, a2, rfl, hlt, a4⟩, fun x H2 hy => ?_⟩
      obtain ⟨A3, ex, rx⟩ := yl x H2 hy
      unfold fLoop at q
      cases hg2 : g ds[i] env with
      | none => rw [hg2] at q; exact q.elim
      | some e1 =>
        rw [hg2] at q
        simp only at q
        refine ⟨env, A3, F, ds[i], S.ext ex, rx, e1, hg2, fun σ3 H3 A4 bv S3 g3 => ⟨e1, A4, F, S3, ?_⟩⟩
        have q2 := LS.grow q ((ex.grow S.subF).trans g3)
        have sm : Same A1 A4 := sA.trans (ex.aa.trans g3.1)
        cases he : b e1 with
        | bad => rw [he] at q2; exact q2
        | exc n e2 => rw [he] at q2; exact q2
        | ok fl e2 =>
          rw [he] at q2
          cases fl with
          | nx => exact fun σ' H' A' S' g' => ⟨e2, A', S', sm.trans g'.1, LS.grow q2 g'⟩
          | ct => exact fun σ' H' A' S' g' => ⟨e2, A', S', sm.trans g'.1, LS.grow q2 g'⟩
          | bk => exact q2
          | rt o => exact q2
    · have e0 : i = ds.length := by omega
      subst e0
      rw [List.drop_length] at q
      exact .inl ⟨w2 (Nat.le_refl _), q σ H A S Grow.refl⟩
end T3
namespace T3
open PySem PySem.Spec PyProof.Rows L2
def wipeE (e : En) : List Nat → En
  | [] => e
  | v :: vs => (wipeE e vs).set v .no
def noX {S α : Type} : Out S α → Out S α
  | .exc _ _ => .bad
  | o => o
def restore (e1 e2 : En) : List Nat → Option En
  | [] => some e2
  | v :: vs => match e1.getD v .no with
    | .own _ => none
    | .par _ => none
    | c => (restore e1 e2 vs).map fun e => e.set v c
def lcLoop (g : Gx) (tt : Tx) (fe : Ex) (vs : List Nat) : List D → List D → En → Out En (List D)
  | [], acc, e => .ok acc e
  | d :: ds, acc, e => match g d e with
    | none => .bad
    | some e2 => (noX (tt e2)).bind fun c e3 => if c = true then (noX (fe e3)).bind fun o e4 => (match frz1 o e4 with
      | some (y, e5) => if acc.length < sizeLine then lcLoop g tt fe vs ds (acc ++ [y]) (wipeE e5 vs) else .bad
      | none => .bad) else lcLoop g tt fe vs ds acc (wipeE e3 vs)
def eLc (vs : List Nat) (fi : Ix) (g : Gx) (tt : Tx) (fe : Ex) : Ex := fun env => (fi env).bind fun ds e1 => (lcLoop g tt fe vs ds [] (wipeE e1 vs)).bind fun l e2 => match restore e1 e2 vs with
  | some e3 => .ok (.new (.list l)) e3
  | none => .bad
def tYesM : Tx := fun env => .ok true env
theorem wipe_get {σ : Sl} {j : Nat} : ∀ {vs : List Nat}, (wipe σ vs)[j]? = if j ∈ vs ∧ j < σ.length then some none else σ[j]?
  | [] => by simp [wipe]
  | v :: vs => by
    unfold wipe
    rw [List.getElem?_set, wipe_get, wipe_length]
    by_cases h : v = j
    · subst h
      by_cases hl : v < σ.length
      · simp [hl]
      · simp [hl]
    · have : j ≠ v := fun z => h z.symm
      simp [h, this]
theorem wipe_but {σ σ' : Sl} {vs : List Nat} (b : ButVs vs σ σ') : wipe σ' vs = wipe σ vs := by
  apply List.ext_getElem?
  intro j
  rw [wipe_get, wipe_get, b.1]
  by_cases h : j ∈ vs
  · by_cases hl : j < σ.length
    · simp [h, hl]
    · have h1 : σ.length ≤ j := by omega
      have h2 : σ'.length ≤ j := by rw [b.1]; exact h1
      rw [List.getElem?_eq_none h1, List.getElem?_eq_none h2]
  · rw [b.2 j h]
theorem wipe_wipe {σ : Sl} {vs : List Nat} : wipe (wipe σ vs) vs = wipe σ vs := wipe_but ⟨wipe_length σ vs, fun j h => by rw [wipe_get]; simp [h]⟩
theorem wipeE_len (e : En) : ∀ vs : List Nat, (wipeE e vs).length = e.length
  | [] => rfl
  | v :: vs => by unfold wipeE; rw [List.length_set, wipeE_len e vs]
theorem wipeE_get {e : En} {j : Nat} : ∀ {vs : List Nat}, (wipeE e vs).getD j .no = if j ∈ vs then .no else e.getD j .no
  | [] => by simp [wipeE]
  | v :: vs => by
    unfold wipeE
    rw [set_getD, wipeE_get, wipeE_len]
    by_cases h : v = j
    · subst h
      by_cases hl : v < e.length
      · simp [hl]
      · have h0 : e.getD v .no = .no := by rw [List.getD_eq_getElem?_getD, List.getElem?_eq_none (by omega)]; rfl
        simp [hl]
    · have : j ≠ v := fun z => h z.symm
      simp [h, this]
theorem restore_get {e1 e2 e3 : En} : ∀ {vs : List Nat}, restore e1 e2 vs = some e3 → e3.length = e2.length ∧ (∀ j, j ∉ vs → e3.getD j .no = e2.getD j .no) ∧ ∀ j, j ∈ vs → j < e2.length → e3.getD j .no = e1.getD j .no ∧ ∀ d, e1.getD j .no ≠ .own d ∧ e1.getD j .no ≠ .par d
  | [], h => by cases h; exact ⟨rfl, fun _ _ => rfl, fun j hj => by simp at hj⟩
  | v :: vs, h => by
    unfold restore at h
    have key : ∀ c, (∀ d, c ≠ .own d ∧ c ≠ .par d) → e1.getD v .no = c → (restore e1 e2 vs).map (fun e => e.set v c) = some e3 → e3.length = e2.length ∧ (∀ j, j ∉ v :: vs → e3.getD j .no = e2.getD j .no) ∧ ∀ j, j ∈ v :: vs → j < e2.length → e3.getD j .no = e1.getD j .no ∧ ∀ d, e1.getD j .no ≠ .own d ∧ e1.getD j .no ≠ .par d := by
      intro c hc hv hm
      obtain ⟨e, he, rfl⟩ := Option.map_eq_some_iff.mp hm
      obtain ⟨l, h1, h2⟩ := restore_get he
      refine ⟨by rw [List.length_set, l], fun j hj => ?_, fun j hj hl => ?_⟩
      · simp only [List.mem_cons, not_or] at hj
        rw [set_getD, if_neg (fun z => hj.1 z.1.symm)]
        exact h1 j hj.2
      · rw [set_getD]
        by_cases e0 : v = j
        · subst e0
          rw [if_pos ⟨rfl, by rw [l]; exact hl⟩, hv]
          exact ⟨rfl, hc⟩
        · rw [if_neg (fun z => e0 z.1)]
          rcases List.mem_cons.mp hj with z | z
          · exact absurd z.symm e0
          · exact h2 j z hl
    cases hh : e1.getD v .no with
    | own d => rw [hh] at h; cases h
    | par d => rw [hh] at h; cases h
    | no => rw [hh] at h; exact key _ (fun d => ⟨(fun z => by cases z), (fun z => by cases z)⟩) hh h
    | v d => rw [hh] at h; exact key _ (fun d => ⟨(fun z => by cases z), (fun z => by cases z)⟩) hh h
    | raw d => rw [hh] at h; exact key _ (fun d => ⟨(fun z => by cases z), (fun z => by cases z)⟩) hh h
section
variable {K : Fg} {F A H : Hp} {σ : Sl} {env : En}
theorem SOk.wipe (S : SOk K F σ env H A) (vs : List Nat) : SOk K F (L2.wipe σ vs) (wipeE env vs) H A where
  subA := S.subA
  subF := S.subF
  lens := by rw [wipe_length, wipeE_len]; exact S.lens
  nomk := S.nomk
  cell := fun j => by
    rw [wipeE_get]
    by_cases h : j ∈ vs
    · rw [if_pos h]; trivial
    · rw [if_neg h, wipe_get, if_neg (fun z => h z.1)]; exact S.cell j
  apart := fun j k d1 d2 p h1 h2 h3 h4 => by
    rw [wipeE_get] at h1 h2
    split at h1
    · cases h1
    · rename_i n1
      split at h2
      · cases h2
      · rename_i n2
        rw [wipe_get, if_neg (fun z => n1 z.1)] at h3
        rw [wipe_get, if_neg (fun z => n2 z.1)] at h4
        exact S.apart j k d1 d2 p h1 h2 h3 h4
/-- a new thing that F is to hold -/
theorem SOk.held (S : SOk K F σ env H A) {p : Addr} {xs : List V} (n : H p = none) : SOk K (upd F p (.lst xs)) σ env (upd H p (.lst xs)) A where
  nomk := fun b i z => S.nomk b i (mk_upd lst_mk b i z)
  subA := fun b u e => by rw [upd_ne (ne_of_none (S.subA b u e) n)]; exact S.subA b u e
  subF := fun b u e => by
    by_cases hb : b = p
    · subst hb; rw [upd_same] at e ⊢; exact .inl e
    · rw [upd_ne hb] at e ⊢; exact S.subF b u e
  lens := S.lens
  apart := S.apart
  cell := fun j => by
    have hc := S.cell j
    cases hh : env.getD j .no with
    | no => trivial
    | v d => rw [hh] at hc; exact hc
    | raw d => rw [hh] at hc; exact hc
    | own d =>
      rw [hh] at hc
      obtain ⟨q, a, b, c, e⟩ := hc
      obtain ⟨u, hu⟩ := e.mut
      have hq : q ≠ p := ne_of_none hu n
      exact ⟨q, a, b, by rw [upd_ne hq]; exact c, e.move (Same.refl A) (by rw [upd_ne hq])⟩
    | par d =>
      rw [hh] at hc
      obtain ⟨q, a, b, c, e⟩ := hc
      obtain ⟨u, hu⟩ := e.mut
      have hq : q ≠ p := ne_of_none hu n
      exact ⟨q, a, b, by rw [upd_ne hq]; exact c, e.move (Same.refl A) (by rw [upd_ne hq])⟩
theorem SOk.bump {p : Addr} {xs : List V} (S : SOk K (upd F p (.lst xs)) σ env H A) (hA : A p = none) (ys : List V) : SOk K (upd F p (.lst ys)) σ env (upd H p (.lst ys)) A where
  nomk := fun b i z => S.nomk b i (mk_upd lst_mk b i z)
  subA := fun b u e => by rw [upd_ne (ne_of_none e hA)]; exact S.subA b u e
  subF := fun b u e => by
    by_cases hb : b = p
    · subst hb; rw [upd_same] at e ⊢; exact .inl e
    · rw [upd_ne hb] at e ⊢; exact S.subF b u (by rw [upd_ne hb]; exact e)
  lens := S.lens
  apart := S.apart
  cell := fun j => by
    have hc := S.cell j
    cases hh : env.getD j .no with
    | no => trivial
    | v d => rw [hh] at hc; exact hc
    | raw d => rw [hh] at hc; exact hc
    | own d =>
      rw [hh] at hc
      obtain ⟨q, a, b, c, e⟩ := hc
      have hq : q ≠ p := fun z => by subst z; rw [upd_same] at c; cases c
      exact ⟨q, a, b, by rw [upd_ne hq] at c ⊢; exact c, e.move (Same.refl A) (by rw [upd_ne hq])⟩
    | par d =>
      rw [hh] at hc
      obtain ⟨q, a, b, c, e⟩ := hc
      have hq : q ≠ p := fun z => by subst z; rw [upd_same] at c; cases c
      exact ⟨q, a, b, by rw [upd_ne hq] at c ⊢; exact c, e.move (Same.refl A) (by rw [upd_ne hq])⟩
theorem SOk.lower {p : Addr} {xs : List V} (S : SOk K (upd F p (.lst xs)) σ env H A) (hF : F p = none) : SOk K F σ env H A := S.weakF (low_upd hF lst_mk)
end
section
variable {K : Fg} {mg : Str → Option Value} {E : Sl → XK} {E0 : Sl → XK} {vs : List Nat} {fi : Ix} {g : Gx} {tt : Tx} {fe : Ex} {σ : Sl} {H : Hp}
theorem tJ_lc {Q : VK} (h : tJ K mg E (eLc vs fi g tt fe) σ H Q) : tLc (tJI K mg E fi) (tGJ K vs g) (tJT K mg E0 tt) (tJ K mg E0 fe) vs σ H Q := by
  obtain ⟨env, A, F, S, h⟩ := h
  refine ⟨env, A, F, S, ?_⟩
  unfold eLc at h
  cases e : fi env with
  | bad => rw [e] at h; exact h
  | exc n e' => rw [e] at h; exact h
  | ok ds e1 =>
    rw [e] at h
    intro J H1 A1 S1 g1 w P nP
    have FP : F P = none := S1.subF.free nP
    have AP : A1 P = none := S1.subA.free nP
    have fin : ∀ (l : List D) (e2 : En) (H' A' : Hp) (vsL : List V), lcLoop g tt fe vs ds [] (wipeE e1 vs) = .ok l e2 → SOk K (upd F P (.lst vsL)) (wipe σ vs) e2 H' A' → Grow F A1 A' → Reps K A' vsL l → A' P = none → Q (.ref P) H' := by
      intro l e2 H' A' vsL hl S' g' r' a'
      simp only [Out.bind] at h
      rw [hl] at h
      simp only at h
      cases hr : restore e1 e2 vs with
      | none => rw [hr] at h; exact h.elim
      | some e3 =>
        rw [hr] at h
        obtain ⟨l3, n3, m3⟩ := restore_get hr
        have le2 : e2.length = σ.length := by rw [S'.lens, wipe_length]
        have S3 : SOk K (upd F P (.lst vsL)) σ e3 H' A' := ⟨S'.subA, S'.subF, fun j => ?_, fun j k d1 d2 p h1 h2 h3 h4 => ?_, by rw [l3, le2], S'.nomk⟩
        · have hP : H' P = some (.lst vsL) := S'.subF.lst upd_same lst_mk
          refine h (.ref P) H' A' (S3.lower FP) (g1.trans g') ⟨P, rfl, a', FP, ⟨vsL, hP, r'⟩, fun j d hj hs => ?_⟩
          obtain ⟨q, a, b, c, _⟩ := S3.ownA hj
          rw [hs] at a; cases a
          rw [upd_same] at c; cases c
        · by_cases hj : j ∈ vs
          · by_cases hl : j < e2.length
            · obtain ⟨q1, q2⟩ := m3 j hj hl
              rw [q1]
              have hc := S1.cell j
              cases hh : e1.getD j .no with
              | no => trivial
              | raw v => rw [hh] at hc; exact hc
              | v d => rw [hh] at hc; obtain ⟨v, a, b⟩ := hc; exact ⟨v, a, b.same g'.1⟩
              | own d => exact absurd hh (q2 d).1
              | par d => exact absurd hh (q2 d).2
            · have : e3.getD j .no = .no := by rw [List.getD_eq_getElem?_getD, List.getElem?_eq_none (by rw [l3]; omega)]; rfl
              rw [this]; trivial
          · rw [n3 j hj]
            have hc := S'.cell j
            rw [wipe_get, if_neg (fun z => hj z.1)] at hc
            exact hc
        · have nj : ∀ j d, e3.getD j .no = .own d → j ∉ vs := fun j d hj hm => by
            have hl : j < e2.length := by rw [← l3]; exact getD_lt (by rw [hj]; exact fun z => nomatch z)
            obtain ⟨q1, q2⟩ := m3 j hm hl
            exact (q2 d).1 (q1.symm.trans hj)
          have a1 := nj j d1 h1
          have a2 := nj k d2 h2
          exact S'.apart j k d1 d2 p ((n3 j a1).symm.trans h1) ((n3 k a2).symm.trans h2) (by rw [wipe_get, if_neg (fun z => a1 z.1)]; exact h3) (by rw [wipe_get, if_neg (fun z => a2 z.1)]; exact h4)
    have notbad : ∀ r, lcLoop g tt fe vs ds [] (wipeE e1 vs) = r → (∃ l e2, r = .ok l e2) := by
      intro r hr
      have nx : ∀ (ds acc : List D) (e : En) (n : Xn) (e' : En), lcLoop g tt fe vs ds acc e ≠ .exc n e' := by
        intro ds
        induction ds with
        | nil => intro acc e n e' z; cases z
        | cons d ds ih =>
          intro acc e n e' z
          unfold lcLoop at z
          cases hg : g d e with
          | none => rw [hg] at z; cases z
          | some e2 =>
            rw [hg] at z
            simp only at z
            cases ht : tt e2 with
            | bad => rw [ht] at z; cases z
            | exc a b => rw [ht] at z; cases z
            | ok c e3 =>
              rw [ht] at z
              simp only [noX, Out.bind] at z
              split at z
              · cases hf : fe e3 with
                | bad => rw [hf] at z; cases z
                | exc a b => rw [hf] at z; cases z
                | ok o e4 =>
                  rw [hf] at z
                  simp only [Out.bind] at z
                  split at z
                  · split at z
                    · exact ih _ _ _ _ z
                    · cases z
                  · cases z
              · exact ih _ _ _ _ z
      cases r with
      | ok l e2 => exact ⟨l, e2, rfl⟩
      | bad => simp only [Out.bind] at h; rw [hr] at h; exact h.elim
      | exc n e' => exact absurd hr (nx _ _ _ _ _)
    obtain ⟨l, e2, hl⟩ := notbad _ rfl
    refine ⟨fun i m H => ∃ env A vsL acc, SOk K (upd F P (.lst vsL)) (wipe σ vs) env H A ∧ Grow F A1 A ∧ Reps K A vsL acc ∧ A P = none ∧ m = ds.length - i ∧ i ≤ ds.length ∧ lcLoop g tt fe vs (ds.drop i) acc env = .ok l e2,
      ⟨_, wipeE e1 vs, A1, [], [], (S1.held nP).wipe vs, Grow.refl, .nil, AP, rfl, Nat.zero_le _, by simpa using hl⟩, ?_⟩
    rintro i m H2 ⟨env2, A2, vsL, acc, S2, g2, r2, a2, rfl, hi, q⟩
    obtain ⟨w1, w2⟩ := w i H2 A2 g2.1 S2.subA
    by_cases hlt : i < ds.length
    · refine .inr ?_
      obtain ⟨go, yl⟩ := w1 ds[i] (List.getElem?_eq_getElem hlt)
      rw [List.drop_eq_getElem_cons hlt] at q
      refine ⟨go, fun H' => ∃ env A vsL acc, SOk K (upd F P (.lst vsL)) (wipe σ vs) env H' A ∧ Grow F A1 A ∧ Reps K A vsL acc ∧ A P = none ∧ lcLoop g tt fe vs (ds.drop (i + 1)) acc env = .ok l e2, fun H' ⟨a, b, c, d, q1, q2, q3, q4, q5⟩ => ⟨_, by omega, a, b, c, d, q1, q2, q3, q4, rfl, hlt, q5⟩, fun x H3 hy => ?_⟩
      obtain ⟨A3, ex, rx⟩ := yl x H3 hy
      have a3 : A3 P = none := (ex.old P (by rw [S2.subF.lst upd_same lst_mk]; rfl)).trans a2
      unfold lcLoop at q
      cases hg : g ds[i] env2 with
      | none => rw [hg] at q; cases q
      | some e3 =>
        rw [hg] at q
        simp only at q
        have gF : ∀ {B C : Hp}, Grow (upd F P (.lst vsL)) B C → Grow F B C := fun k => k.mono (low_upd FP lst_mk)
        refine ⟨env2, A3, _, ds[i], S2.ext ex, rx, e3, hg, fun σ3 H4 A4 bv S4 g4 => ⟨(wipe_but bv).trans wipe_wipe, e3, A4, _, S4, ?_⟩⟩
        have a4 : A4 P = none := (g4.2 P (by rw [upd_same]; rfl)).trans a3
        have ws : wipe σ3 vs = wipe σ vs := (wipe_but bv).trans wipe_wipe
        cases ht : tt e3 with
        | bad => rw [ht] at q; cases q
        | exc a b => rw [ht] at q; cases q
        | ok c e4 =>
          rw [ht] at q
          simp only [noX, Out.bind] at q
          intro H5 A5 S5 g5
          have a5 : A5 P = none := (g5.2 P (by rw [upd_same]; rfl)).trans a4
          cases c with
          | false =>
            rw [if_neg Bool.false_ne_true] at q ⊢
            have S6 := S5.wipe vs
            rw [ws] at S6
            exact ⟨_, A5, vsL, acc, S6, g2.trans ((ex.grow (S2.lower FP).subF).trans ((gF g4).trans (gF g5))), r2.same (ex.aa.trans (g4.1.trans g5.1)), a5, q⟩
          | true =>
            rw [if_pos rfl] at q ⊢
            refine ⟨e4, A5, _, S5, ?_⟩
            cases hf : fe e4 with
            | bad => rw [hf] at q; cases q
            | exc a b => rw [hf] at q; cases q
            | ok o e5 =>
              rw [hf] at q
              simp only [Out.bind] at q
              intro v H6 A6 S6 g6 r6
              have a6 : A6 P = none := (g6.2 P (by rw [upd_same]; rfl)).trans a5
              cases hz : frz1 o e5 with
              | none => rw [hz] at q; cases q
              | some y =>
                obtain ⟨y, e6⟩ := y
                rw [hz] at q
                simp only at q
                by_cases hlen : acc.length < sizeLine
                · rw [if_pos hlen] at q
                  obtain ⟨A7, S7, g7, r7, _⟩ := frz1_ok S6 r6 hz
                  have a7 : A7 P = none := (g7.2 P (by rw [upd_same]; rfl)).trans a6
                  refine ⟨vsL, S7.subF.lst upd_same lst_mk, by rw [r2.length]; exact hlen, ?_⟩
                  have S8 := (S7.wipe vs).bump a7 (vsL ++ [v])
                  rw [ws] at S8
                  refine ⟨_, A7, vsL ++ [v], acc ++ [y], S8, g2.trans ((ex.grow (S2.lower FP).subF).trans ((gF g4).trans ((gF g5).trans ((gF g6).trans (gF g7))))), ?_, a7, q⟩
                  exact (r2.same (ex.aa.trans (g4.1.trans (g5.1.trans (g6.1.trans g7.1))))).append (.cons r7 .nil)
                · rw [if_neg hlen] at q; cases q
    · have e0 : i = ds.length := by omega
      subst e0
      rw [List.drop_length] at q
      cases q
      exact .inl ⟨w2 (Nat.le_refl _), fin l _ H2 A2 vsL hl S2 g2 r2 a2⟩
end
section
variable {X : Cx} {E : Sl → XK} {vs : List Nat} {fi : Ix} {g : Gx} {tt : Tx} {fe : Ex} {elt tg iter : Expr} {ifs : List Expr} {scope : Scope} {own : List (Str × Nat)} {pos : Pos}
abbrev EF : Sl → XK := fun _ _ _ _ => False
abbrev JTs (X : Cx) (E : Sl → XK) (ifs : List Expr) (f : Tx) : Prop := PTs X ifs (tJT X.K X.mg E f)
theorem jts_nil : JTs X E [] tYesM := ⟨fun p s σ H Q I ⟨env, A, F, S, h⟩ => pts_nil.run p s σ H Q I (h H A S Grow.refl)⟩
theorem jts_one {c : Expr} (h : JT X E c tt) : JTs X E [c] tt := pts_one h
theorem jp_lc (hc : X.calm = true) (hN : X.N.Nodup) (hi : JI X E tg iter fi) (ok : BlkOk X.N X.env.scope scope own)
    (hg : ∀ (s : Shared) (H : Hp) (C : Addr) (cl : List (Str × Addr)) (fp : List Addr), JG (X.blk s H scope (compEnvC scope cl C X.env) fp) (own.map (·.2)) tg g)
    (ht : ∀ (s : Shared) (H : Hp) (C : Addr) (cl : List (Str × Addr)) (fp : List Addr), JTs (X.blk s H scope (compEnvC scope cl C X.env) fp) EF ifs tt)
    (he : ∀ (s : Shared) (H : Hp) (C : Addr) (cl : List (Str × Addr)) (fp : List Addr), JP (X.blk s H scope (compEnvC scope cl C X.env) fp) EF elt fe)
    (hs : ∀ x, foldedSetIterable iter X.env x = pure x := by intro _; rfl) : JP X E (.ListComp elt [⟨tg, iter, ifs, 0⟩] scope pos) (eLc (own.map (·.2)) fi g tt fe) :=
  impE (pe_lc hc hN hi ok hg ht he hs) fun _ _ _ h => tJ_lc h
end
end T3
namespace T3
open PySem PySem.Spec PyProof.Rows L2
section
variable {K : Fg} {F A H : Hp} {σ : Sl} {env : En}
/-- a slot's own list (or a lent one) -/
def getM : Cell → Option D
  | .own d => some d
  | .par d => some d
  | _ => none
def setM : Cell → D → Cell
  | .par _, d => .par d
  | _, d => .own d
/-- .. is changed -/
theorem SOk.mutA (S : SOk K F σ env H A) {i : Nat} {d : D} (e : getM (env.getD i .no) = some d) : ∃ p, σ[i]? = some (some (.ref p)) ∧ A p = none ∧ Bod K A H p d ∧
    ∀ o' d', Bod K A (upd H p o') p d' → SOk K F σ (env.set i (setM (env.getD i .no) d')) (upd H p o') A := by
  have hl : i < env.length := getD_lt (by intro z; rw [z] at e; cases e)
  have base : ∃ p, σ[i]? = some (some (.ref p)) ∧ A p = none ∧ Bod K A H p d ∧ (F p = none ∨ F p = some (mkP i)) ∧ (∀ d' H', Bod K A H' p d' → CellOk K F A H' i σ[i]? (setM (env.getD i .no) d')) ∧ ∀ j d2 q, j ≠ i → (env.getD j .no = .own d2 ∨ env.getD j .no = .par d2) → σ[j]? = some (some (.ref q)) → q ≠ p := by
    cases hh : env.getD i .no with
    | no => rw [hh] at e; cases e
    | v d => rw [hh] at e; cases e
    | raw d => rw [hh] at e; cases e
    | own d1 =>
      rw [hh] at e; cases e
      obtain ⟨p, hs, hA, hF, b⟩ := S.ownA hh
      refine ⟨p, hs, hA, b, .inl hF, fun d' H' b' => ⟨p, hs, hA, hF, b'⟩, fun j d2 q hj hc hq z => ?_⟩
      subst z
      rcases hc with hc | hc
      · exact hj (S.apart j i d2 d q hc hh hq hs)
      · obtain ⟨r, x1, x2, x3, x4⟩ := S.parA hc
        rw [hq] at x1; cases x1
        rw [hF] at x3; cases x3
    | par d1 =>
      rw [hh] at e; cases e
      obtain ⟨p, hs, hA, hF, b⟩ := S.parA hh
      refine ⟨p, hs, hA, b, .inr hF, fun d' H' b' => ⟨p, hs, hA, hF, b'⟩, fun j d2 q hj hc hq z => ?_⟩
      subst z
      rcases hc with hc | hc
      · obtain ⟨r, x1, x2, x3, x4⟩ := S.ownA hc
        rw [hq] at x1; cases x1
        rw [hF] at x3; cases x3
      · obtain ⟨r, x1, x2, x3, x4⟩ := S.parA hc
        rw [hq] at x1; cases x1
        rw [hF] at x3
        exact hj (mkP_inj (Option.some.inj x3)).symm
  obtain ⟨p, hs, hA, b, hF, hcell, hne⟩ := base
  refine ⟨p, hs, hA, b, fun o' d' b' => ⟨fun c u q => ?_, fun c u q => ?_, fun j => ?_, fun j k d1 d2 q h1 h2 h3 h4 => ?_, by rw [List.length_set]; exact S.lens, fun c i z => S.nomk c i (mk_upd (b'.notmk upd_same) c i z)⟩⟩
  · rw [upd_ne (ne_of_none q hA)]; exact S.subA c u q
  · by_cases hc : c = p
    · subst hc
      rw [upd_same]
      rcases hF with hF | hF
      · rw [hF] at q; cases q
      · rw [hF] at q; cases q; exact .inr ⟨⟨i, rfl⟩, _, rfl⟩
    · rw [upd_ne hc]; exact S.subF c u q
  · rw [set_getD]
    by_cases h : i = j
    · rw [if_pos ⟨h, hl⟩]; subst h; exact hcell d' _ b'
    · rw [if_neg (fun z => h z.1)]
      have hc := S.cell j
      cases hh : env.getD j .no with
      | no => trivial
      | v d => rw [hh] at hc; exact hc
      | raw d => rw [hh] at hc; exact hc
      | own d2 =>
        rw [hh] at hc
        obtain ⟨q, a1, a2, a3, a4⟩ := hc
        exact ⟨q, a1, a2, a3, a4.move (Same.refl A) (by rw [upd_ne (hne j d2 q (fun z => h z.symm) (.inl hh) a1)])⟩
      | par d2 =>
        rw [hh] at hc
        obtain ⟨q, a1, a2, a3, a4⟩ := hc
        exact ⟨q, a1, a2, a3, a4.move (Same.refl A) (by rw [upd_ne (hne j d2 q (fun z => h z.symm) (.inr hh) a1)])⟩
  · have key : ∀ j d, (env.set i (setM (env.getD i .no) d')).getD j .no = .own d → ∃ d0, env.getD j .no = .own d0 := fun j d hj => by
      rw [set_getD] at hj
      split at hj
      · rename_i hh
        obtain ⟨rfl, _⟩ := hh
        cases hz : env.getD i .no with
        | own d0 => exact ⟨d0, rfl⟩
        | par d0 => rw [hz] at hj; cases hj
        | no => rw [hz] at e; cases e
        | v d0 => rw [hz] at e; cases e
        | raw d0 => rw [hz] at e; cases e
      · exact ⟨d, hj⟩
    obtain ⟨e1, q1⟩ := key j d1 h1
    obtain ⟨e2, q2⟩ := key k d2 h2
    exact S.apart j k e1 e2 q q1 q2 h3 h4
end
/-- x.m(..) where slot i holds x's own list -/
def eMeth (i : Nat) (k : D → List D → Option (D × D)) (fa : Ax) : Ex := fun env => match getM (env.getD i .no) with
  | some (.list _) => (fa env).bind fun os e => (match frzAll os e with
    | some (ds, e2) => (match getM (e2.getD i .no) with
      | some d => (match k d ds with
        | some (r, d') => .ok (.val r) (e2.set i (setM (e2.getD i .no) d'))
        | none => .bad)
      | none => .bad)
    | none => .bad)
  | _ => .bad
def kAppend : D → List D → Option (D × D)
  | .list xs, [y] => if xs.length < sizeLine then some (.none, .list (xs ++ [y])) else none
  | _, _ => none
def kPopAt : D → List D → Option (D × D)
  | .list xs, [.int i] => if -(2 ^ 63) ≤ i ∧ i < 2 ^ 63 then (seqIndex? i xs.length).bind fun k => (xs[k]?).map fun y => (y, .list (xs.eraseIdx k)) else none
  | _, _ => none
/-- x.extend(ys), ys new or a slot's own -/
def ownList (o : Op) (e : En) : Option (List D) := match o with
  | .new (.list ys) => some ys
  | .slot j => (match getM (e.getD j .no) with | some (.list ys) => some ys | _ => none)
  | _ => none
def eExtend (i : Nat) (f : Ex) : Ex := fun env => match getM (env.getD i .no) with
  | some (.list _) => (f env).bind fun o e => (match getM (e.getD i .no) with
    | some (.list xs) => (match ownList o e with
      | some ys => if xs.length + ys.length ≤ sizeLine then .ok (.val .none) (e.set i (setM (e.getD i .no) (.list (xs ++ ys)))) else .bad
      | none => .bad)
    | _ => .bad)
  | _ => .bad
/-- a method that reads: the receiver any view -/
def eRead (ok : D → Bool) (g : D → D → Option Op) (fa fb : Ex) : Ex := fun env => (fa env).bind fun o1 e1 => match res o1 e1 with
  | some d0 => if ok d0 = true then (fb e1).bind fun o2 e2 => (match res o1 e2 with
    | some d1 => (match res o2 e2 with | some d2 => fin (g d1 d2) e2 | none => .bad)
    | none => .bad) else .bad
  | none => .bad
theorem tJ_read {K : Fg} {mg : Str → Option Value} {E : Sl → XK} {fa fb : Ex} {ok : D → Bool} {g : D → D → Option Op} {T : String} {r : V → List V → Hp → VK → Prop} {σ : Sl} {H : Hp} (hty : ∀ A H v d, Same A H → View K A H v d → ok d = true → tyV K T v H)
    (hr : Impl2 K (fun x y H Q => r x [y] H Q) g) {Q} (h : tJ K mg E (eRead ok g fa fb) σ H Q) : tBM K T r (tJ K mg E fa) (tCons (tJ K mg E fb) tNil) σ H Q := by
  obtain ⟨env, A, F, S, h⟩ := h
  refine ⟨env, A, F, S, ?_⟩
  unfold eRead at h
  cases e1 : fa env with
  | bad => rw [e1] at h; exact h
  | exc n env' => rw [e1] at h; exact h
  | ok o1 env1 =>
    rw [e1] at h
    intro x H1 A1 S1 g1 r1
    simp only [Out.bind] at h
    cases hd : res o1 env1 with
    | none => rw [hd] at h; exact h.elim
    | some d =>
      rw [hd] at h
      simp only at h
      by_cases hk : ok d = true
      rotate_left
      · rw [if_neg hk] at h; exact h.elim
      rw [if_pos hk] at h
      refine ⟨hty A1 H1 x d S1.subA (r1.view S1 hd) hk, ?_⟩
      obtain ⟨F1, sF, S1', _, keep⟩ := hold S1 r1
      refine ⟨env1, A1, F1, S1', ?_⟩
      cases e2 : fb env1 with
      | bad => rw [e2] at h; exact h
      | exc n env' => rw [e2] at h; exact fun C H' A' hC S' g' => h C H' A' hC (S'.weakF sF) (g1.trans (g'.mono sF))
      | ok o2 env2 =>
        rw [e2] at h
        intro y H2 A2 S2 g2 r2
        have S2' := S2.weakF sF
        have q1 := keep env2 H2 A2 S2 g2
        simp only at h
        cases d1 : res o1 env2 with
        | none => rw [d1] at h; exact h.elim
        | some v1 =>
          rw [d1] at h
          simp only at h
          cases d2 : res o2 env2 with
          | none => rw [d2] at h; exact h.elim
          | some v2 =>
            rw [d2] at h
            simp only at h
            cases hg : g v1 v2 with
            | none => rw [hg] at h; exact h.elim
            | some o =>
              rw [hg] at h
              exact hr A2 H2 x y v1 v2 o Q S2.subA (q1.view S2' d1) (r2.view S2 d2) hg (Fin.of S2' fun v H' A' S' g' r' => h v H' A' S' (g1.trans ((g2.mono sF).trans g')) r')
def sStore (i : Nat) (fe fi : Ex) : Sx := fun env => (fe env).bind fun o e1 => match getM (e1.getD i .no) with
  | some _ => (fi e1).bind fun oi e2 => (match res oi e2 with
    | some (.int k) => (match frz1 o e2 with
      | some (d, e3) => (match getM (e3.getD i .no) with
        | some (.list xs) => (match ixN xs.length k with
          | some j => .ok .nx (e3.set i (setM (e3.getD i .no) (.list (xs.set j d))))
          | none => .bad)
        | _ => .bad)
      | none => .bad)
    | _ => .bad)
  | none => .bad
theorem OpOk.keep {K : Fg} {F A A' H : Hp} {σ : Sl} {env env' : En} {v : V} {o : Op} (h : OpOk K F A H σ env v o) (a : Same A A') (ho : ∀ j d, env'.getD j .no = .own d → env.getD j .no = .own d) (hn : ∀ d p, o = .new d → v = .ref p → A' p = A p) : OpOk K F A' H σ env' v o := by
  cases o with
  | val d => exact Rep.same a h
  | raw w => exact h
  | slot i => exact h
  | new d =>
    obtain ⟨p, e, x1, x2, x3, x4⟩ := h
    exact ⟨p, e, (hn d p rfl e).trans x1, x2, x3.move a rfl, fun j d2 hj => x4 j d2 (ho j d2 hj)⟩
section
variable {X : Cx} {E : Sl → XK} {pos tpos px : Pos} {e ei : Expr} {fe fi : Ex} {x : Str}
theorem js_store (i : Nat) (h : JP X E e fe) (k : JP X E ei fi) (hN : X.N[i]? = some x := by rfl) (hv : Vis X.env.scope x := by first | exact Or.inl rfl | exact Or.inr (Or.inl rfl) | exact Or.inr (Or.inr rfl))
    (hd : (x == ("__debug__" : Str)) = false := by decide) (hcd : (x == ("__classdict__" : Str)) = false := by decide)
    (ha : ∀ v, assign (.Subscript (.Name x px) ei tpos) X.env v = (do
      let ov ← holding [v] (eval (.Name x px) X.env)
      let iv ← holding [v, ov] (eval ei X.env)
      standAt tpos
      holding [v, ov, iv] (setItem ov iv v)
      release [v, ov, iv] []) := by intro _; rfl)
    (hs : swapsWithSole [.Subscript (.Name x px) ei tpos] e pos.line X.env = pure false := by rfl) (hw : swappedStores [.Subscript (.Name x px) ei tpos] e X.env = pure none := by rfl)
    (h1 : (assignEach [.Subscript (.Name x px) ei tpos] X.env).map (·.2) = [assign (.Subscript (.Name x px) ei tpos) X.env] := by rfl) : JS X E (.Assign [.Subscript (.Name x px) ei tpos] e pos) (sStore i fe fi) :=
  impS (ps_asg h (pg_sub (pe_var hN hv hd hcd) k set_list ha) hs hw h1) fun Z σ H ⟨env, A, F, S, q⟩ => LS.of_ex q S fun o e1 v H1 A1 S1 g1 r1 q => by
    cases hh : getM (e1.getD i .no) with
    | none => rw [hh] at q; exact q.elim
    | some d0 =>
      rw [hh] at q
      obtain ⟨p, hs, _⟩ := S1.mutA hh
      refine ⟨.ref p, hs, ?_⟩
      obtain ⟨F1, sF, S1', _, keep⟩ := hold S1 r1
      refine ⟨e1, A1, F1, S1', ?_⟩
      simp only at q
      cases e2h : fi e1 with
      | bad => rw [e2h] at q; exact q.elim
      | exc n e2 => rw [e2h] at q; exact fun C H' A' m S' g' => q C σ H' A' m (S'.weakF sF) (g'.mono sF)
      | ok oi e2 =>
        rw [e2h] at q
        intro y H2 A2 S2 g2 r2
        have S2' := S2.weakF sF
        have q1 := keep e2 H2 A2 S2 g2
        simp only [Out.bind] at q
        cases hr : res oi e2 with
        | none => rw [hr] at q; exact q.elim
        | some dk =>
          rw [hr] at q
          cases dk <;> first | exact q.elim | skip
          rename_i k
          have ey := (r2.view S2 hr).int
          simp only at q
          cases hf : frz1 o e2 with
          | none => rw [hf] at q; exact q.elim
          | some w =>
            obtain ⟨d, e3⟩ := w
            rw [hf] at q
            simp only at q
            obtain ⟨A3, S3, g3, r3, _⟩ := frz1_ok S2' q1 hf
            cases h3 : getM (e3.getD i .no) with
            | none => rw [h3] at q; exact q.elim
            | some d3 =>
              rw [h3] at q
              cases d3 <;> first | exact q.elim | skip
              rename_i xs
              simp only at q
              obtain ⟨p3, hs3, a3, ⟨ws, hw, rw3⟩, mu⟩ := S3.mutA h3
              rw [hs] at hs3; cases hs3
              cases hj : ixN xs.length k with
              | none => rw [hj] at q; exact q.elim
              | some j =>
                rw [hj] at q
                refine ⟨p, ws, k, j, rfl, ey, hw, by rw [rw3.length]; exact hj, ?_⟩
                exact q σ _ A3 (mu _ _ ⟨_, upd_same, rw3.set r3 j⟩) ((g2.mono sF).trans g3)
end
def sAug (i : Nat) (g : Int → Int → Int) (f : Ex) : Sx := fun env => match env.getD i .no with
  | .v (.int a) => (f env).bind fun o e => (match res o e with
    | some (.int b) => if i < e.length then .ok .nx (e.set i (.v (.int (g a b)))) else .bad
    | _ => .bad)
  | _ => .bad
def unslot : Op → En → Option (Op × En)
  | .slot i, e => (match e.getD i .no with
    | .v d => some (.val d, e)
    | .own d => some (.val d, e.set i (.v d))
    | .raw v => some (.raw v, e)
    | _ => none)
  | o, e => some (o, e)
def unslots : List Op → En → Option (List Op × En)
  | [], e => some ([], e)
  | o :: os, e => match unslot o e with
    | some (o1, e1) => (match unslots os e1 with | some (os1, e2) => some (o1 :: os1, e2) | none => none)
    | none => none
def putAll : List Nat → List Op → En → Option En
  | [], [], e => some e
  | i :: is, o :: os, e => (match put i o e with | some e2 => putAll is os e2 | none => none)
  | _, _, _ => none
def sPar (is : List Nat) (fa : Ax) : Sx := fun env => (fa env).bind fun os e => match unslots os e with
  | some (os1, e1) => (match putAll is os1 e1 with | some e2 => .ok .nx e2 | none => .bad)
  | none => .bad
def noSlot : Op → Bool
  | .slot _ => false
  | _ => true
def eChain (g1 g2 : D → D → Option Op) (fa fb fc : Ex) : Ex := fun env => (fa env).bind fun o1 e1 => (fb e1).bind fun o2 e2 => match res o1 e2 with
  | some d1 => (match res o2 e2 with
    | some d2 => (match g1 d1 d2 with
      | some (.val (.bool true)) => (fc e2).bind fun o3 e3 => (match res o2 e3 with
        | some d2' => (match res o3 e3 with | some d3 => fin (g2 d2' d3) e3 | none => .bad)
        | none => .bad)
      | some (.val (.bool false)) => .ok (.val (.bool false)) e2
      | _ => .bad)
    | none => .bad)
  | none => .bad
end T3
namespace T3
open PySem PySem.Spec PyProof.Rows L2
/-- a def's promise, where no text of a value is under way -/
structure FnG (P : Program) (w : World) (K : Fg) (mg : Str → Option Value) (base : Heap) (k : Nat) (f : Addr) (fd : FuncData) (ps : List Str) (sp : Sp) : Prop where
  len : ∀ vs H Q E, sp vs H Q E → vs.length = ps.length
  run : ∀ (A : Around) (outer : List Env) (s : Shared) (H : Hp) (args : Args) (us : List Value) (vs : List V) (Q : VK) (E : XK), Room k A → A.guards = some [] → Env0 P w K mg base A outer s H →
    BindsTo s fd args (ps.zip us) → Vals vs us → sp vs H Q E → codeAny (model P w) A (.call (.ref f) args) (CR (L2.CX P w) outer P w H s Q E) s
theorem FnG.mono {P : Program} {w : World} {K : Fg} {mg : Str → Option Value} {base : Heap} {j k : Nat} {f : Addr} {fd : FuncData} {ps : List Str} {sp : Sp} (F : FnG P w K mg base j f fd ps sp) (h : j ≤ k) : FnG P w K mg base k f fd ps sp :=
  ⟨F.len, fun A o s H a us vs Q E r => F.run A o s H a us vs Q E (r.mono h)⟩
/-- a def by its body -/
theorem fn_g {P : Program} {w : World} {K : Fg} {mg : Str → Option Value} {base : Heap} {k : Nat} {f : Addr} {x qual : Str} {params : Arguments} {body : List Stmt} {scope : Scope} {dvs : List V} {kws : List (Str × V)} {fd : FuncData} {N ps : List Str} {sp : Sp}
    (FD : FunD K x qual params body scope dvs kws f fd) (S : FnScope N ps scope) (len : ∀ vs H Q E, sp vs H Q E → vs.length = ps.length)
    (hb : ∀ (c : Value) (A : Around) (outer : List Env) (s : Shared) (H : Hp) (vs : List V) (Q : VK) (E : XK), Room k (A.deeper (envOfC qual scope s.heap.objs.size f c)) → A.guards = some [] → sp vs H Q E →
      ∃ t, PSs (cxOf (L2.CX P w) P w K mg base N qual scope f c A outer s H E) body t ∧ t { nx := fun _ H' => Q .non H', rt := Q } (start N vs) H) : FnG P w K mg base (k + 1) f fd ps sp := by
  obtain ⟨oc, od, dV, kV, doc, pm, an, c, ct, osl, rfl, lk, hcd, _, _⟩ := FD.ex
  refine ⟨len, fun A outer s H args us vs Q E hr hG e0 hbind r hsp => ?_⟩
  have inK : K.In s.heap := e0.mod.kin.keeps fun b o e => (e0.bs b o e).1
  have nol : s.heap.NoLimit := e0.mod.nolimit.keeps fun b o e => (e0.bs b o e).1
  refine codeAny_call_function hr.depth (inK _ _ lk) rfl S.co S.gen rfl (PySem.W.codeRec_of inK hcd) (hbind _ _ _ _ ?_)
  refine wpAny_newFunctionEnv_cells S.kind (fun y hy => ?_) fun env he s1 st => ?_
  · rcases S.par y.1 (List.of_mem_zip (show (y.1, y.2) ∈ _ from hy)).1 with q | q
    · exact .inl q
    · exact .inr ⟨q, PySem.W.cellsFrom_some _ _ _ (.inl q)⟩
  · subst he
    refine ⟨nol.keeps st.toInCall.keep, codeAny_func ?_⟩
    obtain ⟨t, ht, hq⟩ := hb c A outer s H vs Q E (hr.deeper _) hG hsp
    have J0 := inv_start (CX := L2.CX P w) (E := E) (mg := mg) (base := base) S hr.hd e0 (len _ _ _ _ hsp) r st
    refine wpAny_mono (ht.run [] s1 (start N vs) H _ J0 hq) (fun fl s' hs => ?_) fun _ _ z => z
    cases fl with
    | brk => obtain ⟨_, _, _, z⟩ := hs; exact z.elim
    | cont => obtain ⟨_, _, _, z⟩ := hs; exact z.elim
    | next => obtain ⟨σ', H', J, z⟩ := hs; exact ⟨.non, H', J.os, J.bare, J.base, J.hok, rfl, z⟩
    | ret u => obtain ⟨v, σ', H', J, rv, z⟩ := hs; exact ⟨v, H', J.os, J.bare, J.base, J.hok, rv, z⟩
/-- what a call has left -/
structure After (K : Fg) (A H A' H' : Hp) (vs : List V) (ms : List Nat) (cs : List D) : Prop where
  aa : Same A A'
  sub : Same A' H'
  old : ∀ b, (H b).isSome → A' b = A b
  frame : ∀ b o, H b = some o → (∀ i ∈ ms, vs[i]? ≠ some (.ref b)) → H' b = some o
  there : ∀ b, (H b).isSome → (H' b).isSome
  lens : cs.length = ms.length
  nomk : ∀ b i, H' b ≠ some (mkP i)
  muts : ∀ (k i : Nat) c p, ms[k]? = some i → cs[k]? = some c → vs[i]? = some (.ref p) → Bod K A' H' p c
structure ArgsOk (K : Fg) (A H : Hp) (vs : List V) (ds : List D) (ms : List Nat) : Prop where
  sub : Same A H
  nomk : ∀ b i, H b ≠ some (mkP i)
  len : vs.length = ds.length
  val : ∀ (i : Nat) v d, i ∉ ms → vs[i]? = some v → ds[i]? = some d → Rep K A v d
  lent : ∀ (i : Nat) v d, i ∈ ms → vs[i]? = some v → ds[i]? = some d → ∃ p, v = .ref p ∧ A p = none ∧ Bod K A H p d
  apart : ∀ (i j : Nat) p, i ∈ ms → j ∈ ms → vs[i]? = some (.ref p) → vs[j]? = some (.ref p) → i = j
def spFn (K : Fg) (mg : Str → Option Value) (ms : List Nat) (np : Nat) (f : Fn) : Sp := fun vs H Q E => ∃ ds A, vs.length = np ∧ ArgsOk K A H vs ds ms ∧ match f ds with
  | .ok o cs => ∀ v H' A', After K A H A' H' vs ms cs → RV K H A' H' v o → Q v H'
  | .exc n cs => ∀ C H' A', XN mg n C A' → After K A H A' H' vs ms cs → E (.ref C.1) C.2 H'
  | .bad => False
def argCells (ms : List Nat) : Nat → List D → En
  | _, [] => []
  | i, d :: ds => (if i ∈ ms then .par d else .v d) :: argCells ms (i + 1) ds
def outs : List Nat → En → Option (List D)
  | [], _ => some []
  | m :: ms, e => match e.getD m .no with
    | .par d => (outs ms e).map (d :: ·)
    | _ => none
def runFn (n : Nat) (ms : List Nat) (b : Sx) : Fn := fun ds => match b (argCells ms 0 ds ++ List.replicate (n - ds.length) .no) with
  | .ok (.rt o) e => (match outs ms e with
    | some cs => if noSlot o = true then .ok o cs else .bad
    | none => .bad)
  | .ok .nx e => (match outs ms e with
    | some cs => .ok (.val .none) cs
    | none => .bad)
  | .exc x e => (match outs ms e with
    | some cs => .exc x cs
    | none => .bad)
  | _ => .bad
theorem argCells_get {ms : List Nat} : ∀ {ds : List D} {k i : Nat}, (argCells ms k ds)[i]? = (ds[i]?).map fun d => if k + i ∈ ms then .par d else .v d
  | [], k, i => by simp [argCells]
  | d :: ds, k, 0 => by simp [argCells]
  | d :: ds, k, i + 1 => by
    simp only [argCells, List.getElem?_cons_succ]
    rw [argCells_get, show k + 1 + i = k + (i + 1) by omega]
theorem argCells_len {ms : List Nat} : ∀ {ds : List D} {k : Nat}, (argCells ms k ds).length = ds.length
  | [], _ => rfl
  | d :: ds, k => congrArg Nat.succ argCells_len
theorem outs_get {e : En} : ∀ {ms : List Nat} {cs : List D}, outs ms e = some cs → cs.length = ms.length ∧ ∀ (k i : Nat) c, ms[k]? = some i → cs[k]? = some c → e.getD i .no = .par c
  | [], cs, h => by cases h; exact ⟨rfl, fun k i c h => by simp at h⟩
  | m :: ms, cs, h => by
    unfold outs at h
    split at h
    · rename_i d hd
      obtain ⟨cs', h1, rfl⟩ := Option.map_eq_some_iff.mp h
      obtain ⟨l, g⟩ := outs_get h1
      refine ⟨congrArg Nat.succ l, fun k i c a b => ?_⟩
      cases k with
      | zero => simp at a b; subst a b; exact hd
      | succ k => exact g k i c (by simpa using a) (by simpa using b)
    · cases h
section
variable {P : Program} {w : World} {K : Fg} {mg : Str → Option Value} {base : Heap}
theorem body_fn {N : List Str} {ms : List Nat} {b : Sx} {vs : List V} {H : Hp} {Q : VK} {E : XK} {np : Nat} (hn : np ≤ N.length) (h : spFn K mg ms np (runFn N.length ms b) vs H Q E) :
    tJS K mg (fun _ => E) b { nx := fun _ H' => Q .non H', rt := Q } (start N vs) H := by
  obtain ⟨ds, A, hl, ok, h⟩ := h
  have hds : ds.length = np := by rw [← ok.len, hl]
  let F : Hp := fun a => match H a with
    | none => none
    | some o => if ∃ i, i ∈ ms ∧ vs[i]? = some (.ref a) then some (mkP (Classical.epsilon fun i => i ∈ ms ∧ vs[i]? = some (.ref a))) else some o
  have Fmk : ∀ i p, i ∈ ms → vs[i]? = some (.ref p) → (H p).isSome → F p = some (mkP i) := fun i p hi hv hp => by
    obtain ⟨o, ho⟩ := Option.isSome_iff_exists.mp hp
    show (match H p with | none => none | some o => _) = _
    rw [ho]
    have ex : ∃ i, i ∈ ms ∧ vs[i]? = some (.ref p) := ⟨i, hi, hv⟩
    show (if _ then _ else _) = _
    rw [if_pos ex]
    have := Classical.epsilon_spec ex
    rw [ok.apart _ i p this.1 hi this.2 hv]
  have Fid : ∀ p o, H p = some o → (∀ i ∈ ms, vs[i]? ≠ some (.ref p)) → F p = some o := fun p o ho hn => by
    show (match H p with | none => none | some o => _) = _
    rw [ho]
    show (if _ then _ else _) = _
    rw [if_neg (fun ⟨i, a, b⟩ => hn i a b)]
  have Fnone : ∀ p, H p = none → F p = none := fun p hp => by
    show (match H p with | none => none | some o => _) = _
    rw [hp]
  have Fsome : ∀ p, (H p).isSome → (F p).isSome := fun p hp => by
    obtain ⟨o, ho⟩ := Option.isSome_iff_exists.mp hp
    show (match H p with | none => none | some o => _ : Option HO).isSome = true
    rw [ho]
    show (if _ then _ else _ : Option HO).isSome = true
    split <;> rfl
  have markH : ∀ b i, ¬ H b = some (mkP i) := ok.nomk
  have get0 : ∀ i : Nat, (argCells ms 0 ds ++ List.replicate (N.length - ds.length) Cell.no).getD i .no = (match ds[i]? with
      | some d => if i ∈ ms then Cell.par d else .v d
      | none => .no) := fun i => by
    rw [List.getD_eq_getElem?_getD]
    by_cases hi : i < ds.length
    · rw [List.getElem?_append_left (by rw [argCells_len]; exact hi), argCells_get, List.getElem?_eq_getElem hi, Nat.zero_add]
      rfl
    · rw [List.getElem?_append_right (by rw [argCells_len]; omega), List.getElem?_eq_none (show ds.length ≤ i by omega), List.getElem?_replicate]
      split <;> rfl
  have gets : ∀ i : Nat, (L2.start N vs)[i]? = (match vs[i]? with
      | some (v : V) => some (some v)
      | none => if i < N.length then some none else none) := fun i => by
    unfold L2.start
    by_cases hi : i < vs.length
    · rw [List.getElem?_append_left (by rw [List.length_map]; exact hi), List.getElem?_map, List.getElem?_eq_getElem hi]
      rfl
    · rw [List.getElem?_append_right (by rw [List.length_map]; omega), List.getElem?_eq_none (show vs.length ≤ i by omega), List.getElem?_replicate, List.length_map]
      have e : i - vs.length < N.length - vs.length ↔ i < N.length := by omega
      simp only [e]
  have S0 : SOk K F (L2.start N vs) (argCells ms 0 ds ++ List.replicate (N.length - ds.length) .no) H A := by
    refine ⟨ok.sub, fun b o hb => ?_, fun i => ?_, fun i j d e p h1 h2 => ?_, ?_, ok.nomk⟩
    · cases hh : H b with
      | none => rw [Fnone b hh] at hb; cases hb
      | some u =>
        by_cases ex : ∃ i, i ∈ ms ∧ vs[i]? = some (.ref b)
        · obtain ⟨i, h1, h2⟩ := ex
          rw [Fmk i b h1 h2 (by rw [hh]; rfl)] at hb; cases hb
          exact .inr ⟨⟨i, rfl⟩, u, rfl⟩
        · rw [Fid b u hh (fun i a c => ex ⟨i, a, c⟩)] at hb; cases hb
          exact .inl rfl
    · rw [get0, gets]
      cases hd : ds[i]? with
      | none => trivial
      | some d =>
        have hi : i < vs.length := by rw [ok.len]; exact (List.getElem?_eq_some_iff.mp hd).1
        rw [List.getElem?_eq_getElem hi]
        by_cases hm : i ∈ ms
        · simp only [if_pos hm]
          obtain ⟨p, e, a, bd⟩ := ok.lent i vs[i] d hm (List.getElem?_eq_getElem hi) hd
          obtain ⟨o, ho⟩ := bd.mut
          exact ⟨p, by rw [e], a, Fmk i p hm (by rw [List.getElem?_eq_getElem hi, e]) (by rw [ho]; rfl), bd⟩
        · simp only [if_neg hm]
          exact ⟨vs[i], rfl, ok.val i vs[i] d hm (List.getElem?_eq_getElem hi) hd⟩
    · rw [get0] at h1
      cases hd : ds[i]? with
      | none => rw [hd] at h1; cases h1
      | some d0 =>
        rw [hd] at h1
        simp only at h1
        split at h1 <;> cases h1
    · unfold L2.start
      rw [List.length_append, argCells_len, List.length_replicate, List.length_append, List.length_map, List.length_replicate, ok.len]
  refine ⟨_, A, F, S0, ?_⟩
  have fin : ∀ {σ' : Sl} {e : En} {H' A' : Hp} {cs : List D}, SOk K F σ' e H' A' → Grow F A A' → outs ms e = some cs → After K A H A' H' vs ms cs := by
    intro σ' e H' A' cs S g ho
    obtain ⟨l, go⟩ := outs_get ho
    refine ⟨g.1, S.subA, fun b hb => g.2 b (Fsome b hb), fun b o hb hn => ?_, fun b hb => S.subF.there (Fsome b hb), l, S.nomk, fun k i c p h1 h2 h3 => ?_⟩
    · rcases S.subF b o (Fid b o hb hn) with z | ⟨⟨i, z⟩, _⟩
      · exact z
      · subst z; exact (markH b i hb).elim
    · obtain ⟨q, a1, a2, a3, a4⟩ := S.parA (go k i c h1 h2)
      have hi : i ∈ ms := List.mem_of_getElem? h1
      have iv : i < vs.length := (List.getElem?_eq_some_iff.mp h3).1
      obtain ⟨p', e1, _, e2⟩ := ok.lent i (.ref p) ds[i] hi h3 (List.getElem?_eq_getElem (by rw [← ok.len]; exact iv))
      cases e1
      obtain ⟨u0, hu0⟩ := e2.mut
      have : q = p := by
        cases hq : H q with
        | none => rw [Fnone q hq] at a3; cases a3
        | some u =>
          by_cases ex : ∃ j, j ∈ ms ∧ vs[j]? = some (.ref q)
          · obtain ⟨j, h5, h6⟩ := ex
            rw [Fmk j q h5 h6 (by rw [hq]; rfl)] at a3
            have := mkP_inj (Option.some.inj a3)
            subst this
            rw [h6] at h3; cases h3; rfl
          · rw [Fid q u hq (fun i a c => ex ⟨i, a, c⟩)] at a3
            cases a3
            exact (markH q i hq).elim
      subst this
      exact a4
  unfold runFn at h
  cases hb : b (argCells ms 0 ds ++ List.replicate (N.length - ds.length) .no) with
  | bad => rw [hb] at h; exact h.elim
  | exc n e =>
    rw [hb] at h
    simp only at h
    cases ho : outs ms e with
    | none => rw [ho] at h; exact h.elim
    | some cs => rw [ho] at h; exact fun C σ' H' A' m S g => h C H' A' m (fin S g ho)
  | ok fl e =>
    rw [hb] at h
    cases fl with
    | bk => exact h.elim
    | ct => exact h.elim
    | nx =>
      simp only at h
      cases ho : outs ms e with
      | none => rw [ho] at h; exact h.elim
      | some cs => rw [ho] at h; exact fun σ' H' A' S g => h .non H' A' (fin S g ho) .non
    | rt o =>
      simp only at h
      cases ho : outs ms e with
      | none => rw [ho] at h; exact h.elim
      | some cs =>
        rw [ho] at h
        simp only at h
        by_cases hs : noSlot o = true
        · rw [if_pos hs] at h
          intro v σ' H' A' S g r
          refine h v H' A' (fin S g ho) ?_
          cases o with
          | slot i => cases hs
          | val d => exact r
          | raw d => exact r
          | new d =>
            obtain ⟨p, e1, x1, x2, x3, x4⟩ := r
            refine ⟨p, e1, ?_, x1, x3⟩
            cases hp : H p with
            | none => rfl
            | some u =>
              have := Fsome p (by rw [hp]; rfl)
              rw [x2] at this
              cases this
        · rw [if_neg hs] at h; exact h.elim
/-- a def, by its body's function -/
theorem jfn {k : Nat} {f : Addr} {x qual : Str} {params : Arguments} {body : List Stmt} {scope : Scope} {dvs : List V} {kws : List (Str × V)} {fd : FuncData} {N ps : List Str} {ms : List Nat} {b : Sx}
    (FD : FunD K x qual params body scope dvs kws f fd) (S : FnScope N ps scope) (hn : ps.length ≤ N.length)
    (hb : ∀ (c : Value) (A : Around) (outer : List Env) (s : Shared) (H : Hp) (E : XK), Room k (A.deeper (envOfC qual scope s.heap.objs.size f c)) → A.guards = some [] →
      JB (cxOf (L2.CX P w) P w K mg base N qual scope f c A outer s H E) (fun _ => E) body b) : FnG P w K mg base (k + 1) f fd ps (spFn K mg ms ps.length (runFn N.length ms b)) :=
  fn_g FD S (fun vs H Q E ⟨_, _, h, _⟩ => h) fun c A outer s H vs Q E hr hG h => ⟨_, hb c A outer s H E hr hG, body_fn hn h⟩
end
end T3
namespace T3
open PySem PySem.Spec PyProof.Rows L2
def argsD (ms : List Nat) (e : En) : Nat → List Op → Option (List D)
  | _, [] => some []
  | k, o :: os => match (if k ∈ ms then (match o with | .slot i => getM (e.getD i .no) | _ => none) else res o e) with
    | some d => (argsD ms e (k + 1) os).map (d :: ·)
    | none => none
/-- the slots that are lent, in the order of ms -/
def mutS (os : List Op) : List Nat → Option (List Nat)
  | [] => some []
  | m :: ms => match os[m]? with
    | some (.slot i) => (mutS os ms).map (i :: ·)
    | _ => none
/-- the slots of the other operands -/
def borS (ms : List Nat) : Nat → List Op → List Nat
  | _, [] => []
  | k, o :: os => match o with
    | .slot i => if k ∈ ms then borS ms (k + 1) os else i :: borS ms (k + 1) os
    | _ => borS ms (k + 1) os
def nodupB : List Nat → Bool
  | [] => true
  | i :: is => !(is.contains i) && nodupB is
mutual
def safeD : D → Bool
  | .none => true
  | .bool _ => true
  | .int _ => true
  | .str _ => true
  | .tuple ds => safeDs ds
  | .list _ => false
  | .dict _ => false
def safeDs : List D → Bool
  | [] => true
  | d :: ds => safeD d && safeDs ds
end
def safeC : D → Bool
  | .list ds => safeDs ds
  | _ => false
def safeOp : Op → Bool
  | .val d => safeD d
  | .new d => safeC d
  | _ => false
def putM : List Nat → List D → En → En
  | i :: is, c :: cs, e => putM is cs (e.set i (setM (e.getD i .no) c))
  | _, _, e => e
/-- the other operands are frozen -/
def frzN (ms : List Nat) : Nat → List Op → En → Option En
  | _, [], e => some e
  | k, o :: os, e => if k ∈ ms then frzN ms (k + 1) os e else match frz1 o e with
    | some (_, e1) => frzN ms (k + 1) os e1
    | none => none
def callM (ms : List Nat) (fn : Fn) (dflt : List D) (os : List Op) (e : En) : Out En Op := match mutS os ms with
  | some mu => if nodupB mu && (borS ms 0 os).all (fun i => !(mu.contains i)) then (match argsD ms e 0 os with
    | some ds => (match fn (ds ++ dflt) with
      | .ok o cs => if safeOp o && cs.all safeC then .ok o (putM mu cs e) else (match frzN ms 0 os e with
        | some e1 => .ok o (putM mu cs e1)
        | none => .bad)
      | .exc n cs => if cs.all safeC then .exc n (putM mu cs e) else (match frzN ms 0 os e with
        | some e1 => .exc n (putM mu cs e1)
        | none => .bad)
      | .bad => .bad)
    | none => .bad) else .bad
  | none => .bad
def eCall (ms : List Nat) (fn : Fn) (dflt : List D) (fa : Ax) : Ex := fun env => (fa env).bind fun os e => callM ms fn dflt os e
/-- values that hold no list: they stand in any part that has the tuples -/
theorem Rep.safe {K : Fg} {A A2 : Hp} (ht : ∀ b xs, A b = some (.tup xs) → A2 b = some (.tup xs)) {v : V} {d : D} (h : Rep K A v d) : safeD d = true → Rep K A2 v d :=
  Rep.rec (motive_1 := fun v d _ => safeD d = true → Rep K A2 v d) (motive_2 := fun vs ds _ => safeDs ds = true → Reps K A2 vs ds)
    (fun _ => .non) (fun b _ => .bl b) (fun i _ => .int i) (fun x _ => .str x) (fun _ _ _ c => by simp [safeD] at c)
    (fun {a xs ds} s _ ih c => .tup (ht _ _ s) (ih (by simpa [safeD] using c))) (fun _ _ _ c => by simp [safeD] at c) (fun _ _ _ c => by simp [safeD] at c) (fun _ _ _ _ _ c => by simp [wD, safeD] at c) (fun _ _ c => by simp [conD, safeD] at c) (fun _ _ _ _ _ c => by simp [wwD, safeD] at c) (fun _ _ c => by simp [erD, safeD] at c) (fun _ _ _ _ c => by simp [erpD, safeD] at c) (fun _ => .nil) (fun _ _ i1 i2 c => by
      simp only [safeDs, Bool.and_eq_true] at c
      exact .cons (i1 c.1) (i2 c.2)) h
theorem Reps.safe {K : Fg} {A A2 : Hp} (ht : ∀ b xs, A b = some (.tup xs) → A2 b = some (.tup xs)) {vs : List V} {ds : List D} (h : Reps K A vs ds) (c : safeDs ds = true) : Reps K A2 vs ds := by
  induction ds generalizing vs with
  | nil => cases h; exact .nil
  | cons d ds ih =>
    cases h with
    | cons a b =>
      simp only [safeDs, Bool.and_eq_true] at c
      exact .cons (a.safe ht c.1) (ih b c.2)
theorem mem_of_nodupB : ∀ {l : List Nat}, nodupB l = true → l.Nodup
  | [], _ => .nil
  | i :: is, h => by
    simp only [nodupB, Bool.and_eq_true, Bool.not_eq_true'] at h
    refine List.nodup_cons.mpr ⟨fun hm => ?_, mem_of_nodupB h.2⟩
    have := List.contains_iff_mem.mpr hm
    rw [h.1] at this
    cases this
theorem mutS_get {os : List Op} : ∀ {ms mu : List Nat}, mutS os ms = some mu → mu.length = ms.length ∧ ∀ (k m : Nat), ms[k]? = some m → ∃ i, mu[k]? = some i ∧ os[m]? = some (.slot i)
  | [], mu, h => by cases h; exact ⟨rfl, fun k m z => by simp at z⟩
  | m :: ms, mu, h => by
    unfold mutS at h
    split at h
    · rename_i i hi
      obtain ⟨mu', h1, rfl⟩ := Option.map_eq_some_iff.mp h
      obtain ⟨l, g⟩ := mutS_get h1
      refine ⟨congrArg Nat.succ l, fun k m' z => ?_⟩
      cases k with
      | zero => simp at z; subst z; exact ⟨i, rfl, hi⟩
      | succ k => obtain ⟨j, a, b⟩ := g k m' (by simpa using z); exact ⟨j, by simpa using a, b⟩
    · cases h
theorem borS_mem {ms : List Nat} : ∀ {os : List Op} {k j i : Nat}, os[j]? = some (.slot i) → k + j ∉ ms → i ∈ borS ms k os
  | [], _, _, _, h, _ => by simp at h
  | o :: os, k, 0, i, h, n => by
    simp at h; subst h
    simp only [borS]
    rw [if_neg (by simpa using n)]
    exact List.mem_cons_self
  | o :: os, k, j + 1, i, h, n => by
    have ih := borS_mem (ms := ms) (os := os) (k := k + 1) (j := j) (i := i) (by simpa using h) (by rw [show k + 1 + j = k + (j + 1) by omega]; exact n)
    simp only [borS]
    split
    · split
      · exact ih
      · exact List.mem_cons_of_mem _ ih
    · exact ih
theorem argsD_get {ms : List Nat} {e : En} : ∀ {os : List Op} {k : Nat} {ds : List D}, argsD ms e k os = some ds → ds.length = os.length ∧ ∀ (j : Nat) o, os[j]? = some o → ∃ d, ds[j]? = some d ∧ (if k + j ∈ ms then ∃ i, o = .slot i ∧ getM (e.getD i .no) = some d else res o e = some d)
  | [], k, ds, h => by cases h; exact ⟨rfl, fun j o z => by simp at z⟩
  | o :: os, k, ds, h => by
    unfold argsD at h
    split at h
    · rename_i d hd
      obtain ⟨ds', h1, rfl⟩ := Option.map_eq_some_iff.mp h
      obtain ⟨l, g⟩ := argsD_get h1
      refine ⟨congrArg Nat.succ l, fun j o' z => ?_⟩
      cases j with
      | zero =>
        simp at z; subst z
        refine ⟨d, rfl, ?_⟩
        by_cases hk : k ∈ ms
        · rw [if_pos hk] at hd
          rw [if_pos (by simpa using hk)]
          split at hd
          · exact ⟨_, rfl, hd⟩
          · cases hd
        · rw [if_neg hk] at hd
          rw [if_neg (by simpa using hk)]
          exact hd
      | succ j =>
        obtain ⟨d', a, b⟩ := g j o' (by simpa using z)
        exact ⟨d', by simpa using a, by rw [show k + (j + 1) = k + 1 + j by omega]; exact b⟩
    · cases h
section
variable {K : Fg} {F A H : Hp} {σ : Sl} {env : En}
theorem OpsOk.len {os : List Op} : ∀ {vs : List V}, OpsOk K F A H σ env os vs → vs.length = os.length := by
  induction os with
  | nil => intro vs h; cases h; rfl
  | cons o os ih => intro vs h; obtain ⟨v, r, rfl, _, h2, _⟩ := h; exact congrArg Nat.succ (ih h2)
theorem OpsOk.at {os : List Op} : ∀ {vs : List V} {j : Nat} {o : Op} {v : V}, OpsOk K F A H σ env os vs → os[j]? = some o → vs[j]? = some v → OpOk K F A H σ env v o := by
  induction os with
  | nil => intro vs j o v _ h; simp at h
  | cons o os ih =>
    intro vs j o' v h e1 e2
    obtain ⟨v0, r, rfl, h1, h2, _⟩ := h
    cases j with
    | zero => simp at e1 e2; subst e1 e2; exact h1
    | succ j => exact ih h2 (by simpa using e1) (by simpa using e2)
/-- lent or own: F's word of the address -/
theorem SOk.mutF (S : SOk K F σ env H A) {i : Nat} {d : D} (e : getM (env.getD i .no) = some d) : ∃ p, σ[i]? = some (some (.ref p)) ∧ A p = none ∧ Bod K A H p d ∧ ((F p = none ∧ env.getD i .no = .own d) ∨ (F p = some (mkP i) ∧ env.getD i .no = .par d)) := by
  cases hh : env.getD i .no with
  | no => rw [hh] at e; cases e
  | v d => rw [hh] at e; cases e
  | raw d => rw [hh] at e; cases e
  | own d1 =>
    rw [hh] at e; cases e
    obtain ⟨p, a, b, c, f⟩ := S.ownA hh
    exact ⟨p, a, b, f, .inl ⟨c, rfl⟩⟩
  | par d1 =>
    rw [hh] at e; cases e
    obtain ⟨p, a, b, c, f⟩ := S.parA hh
    exact ⟨p, a, b, f, .inr ⟨c, rfl⟩⟩
theorem SOk.apartM (S : SOk K F σ env H A) {i j : Nat} {d e : D} {p : Addr} (h1 : getM (env.getD i .no) = some d) (h2 : getM (env.getD j .no) = some e) (h3 : σ[i]? = some (some (.ref p))) (h4 : σ[j]? = some (some (.ref p))) : i = j := by
  obtain ⟨q, a1, a2, a3, a4⟩ := S.mutF h1
  obtain ⟨r, b1, b2, b3, b4⟩ := S.mutF h2
  rw [h3] at a1; cases a1
  rw [h4] at b1; cases b1
  rcases a4 with ⟨a4, a5⟩ | ⟨a4, a5⟩
  · rcases b4 with ⟨b4, b5⟩ | ⟨b4, b5⟩
    · exact S.apart i j d e p a5 b5 h3 h4
    · rw [a4] at b4; cases b4
  · rcases b4 with ⟨b4, b5⟩ | ⟨b4, b5⟩
    · rw [a4] at b4; cases b4
    · rw [a4] at b4; exact mkP_inj (Option.some.inj b4)
theorem OpOk.newM (S : SOk K F σ env H A) {v : V} {d e : D} {p : Addr} (r : OpOk K F A H σ env v (.new d)) (hv : v = .ref p) {j : Nat} (h : getM (env.getD j .no) = some e) : σ[j]? ≠ some (some (.ref p)) := fun hs => by
  obtain ⟨q, a1, a2, a3, a4, a5⟩ := r
  rw [hv] at a1; cases a1
  obtain ⟨r, b1, b2, b3, b4⟩ := S.mutF h
  rw [hs] at b1; cases b1
  rcases b4 with ⟨b4, b5⟩ | ⟨b4, b5⟩
  · exact a5 j e b5 hs
  · rw [a3] at b4; cases b4
theorem setM_own {c : Cell} {d d' : D} (h : setM c d = .own d') (g : ∃ e, getM c = some e) : ∃ e, c = .own e := by
  obtain ⟨e, g⟩ := g
  cases c with
  | own x => exact ⟨x, rfl⟩
  | par x => cases h
  | no => cases g
  | v x => cases g
  | raw x => cases g
/-- behind a call the lent lists hold cs -/
theorem settle {H2 A2 : Hp} {mu : List Nat} {cs : List D} (S : SOk K F σ env H A) (nd : mu.Nodup) (hl : cs.length = mu.length) (hm : ∀ i ∈ mu, ∃ d, getM (env.getD i .no) = some d) (aa : Same A A2) (sub : Same A2 H2) (nomk : ∀ b i, H2 b ≠ some (mkP i))
    (an : ∀ j d p, getM (env.getD j .no) = some d → σ[j]? = some (some (.ref p)) → A2 p = none) (there : ∀ b, (H b).isSome → (H2 b).isSome)
    (frame : ∀ b o, H b = some o → (∀ i ∈ mu, σ[i]? ≠ some (some (.ref b))) → H2 b = some o) (bod : ∀ (k i : Nat) c p, mu[k]? = some i → cs[k]? = some c → σ[i]? = some (some (.ref p)) → Bod K A2 H2 p c) : SOk K F σ (putM mu cs env) H2 A2 := by
  have get : ∀ (mu : List Nat) (cs : List D) (e : En), mu.Nodup → cs.length = mu.length → (∀ i ∈ mu, i < e.length) → (putM mu cs e).length = e.length ∧ ∀ j, (j ∉ mu → (putM mu cs e).getD j .no = e.getD j .no) ∧ ∀ (k : Nat), mu[k]? = some j → ∃ c, cs[k]? = some c ∧ (putM mu cs e).getD j .no = setM (e.getD j .no) c := by
    intro mu
    induction mu with
    | nil => intro cs e _ _ _; cases cs <;> exact ⟨rfl, fun j => ⟨fun _ => rfl, fun k h => by simp at h⟩⟩
    | cons i is ih =>
      intro cs e nd hl hlt
      cases cs with
      | nil => cases hl
      | cons c cs =>
        obtain ⟨n1, n2⟩ := List.nodup_cons.mp nd
        have hi := hlt i List.mem_cons_self
        obtain ⟨l, g⟩ := ih cs (e.set i (setM (e.getD i .no) c)) n2 (by simpa using hl) (fun j hj => by rw [List.length_set]; exact hlt j (List.mem_cons_of_mem _ hj))
        refine ⟨by show (putM is cs _).length = _; rw [l, List.length_set], fun j => ⟨fun hj => ?_, fun k hk => ?_⟩⟩
        · simp only [List.mem_cons, not_or] at hj
          show (putM is cs _).getD j .no = _
          rw [(g j).1 hj.2, set_getD, if_neg (fun z => hj.1 z.1.symm)]
        · cases k with
          | zero =>
            simp at hk; subst hk
            refine ⟨c, rfl, ?_⟩
            show (putM is cs _).getD i .no = _
            rw [(g i).1 n1, set_getD, if_pos ⟨rfl, hi⟩]
          | succ k =>
            have hk' : is[k]? = some j := by simpa using hk
            obtain ⟨c', h1, h2⟩ := (g j).2 k hk'
            refine ⟨c', by simpa using h1, ?_⟩
            show (putM is cs _).getD j .no = _
            have hij : i ≠ j := fun z => n1 (z ▸ List.mem_of_getElem? hk')
            rw [h2, set_getD, if_neg (fun z => hij z.1)]
  have hlt : ∀ i ∈ mu, i < env.length := fun i hi => getD_lt (by
    obtain ⟨d, hd⟩ := hm i hi
    intro z
    rw [z] at hd
    cases hd)
  obtain ⟨gl, g⟩ := get mu cs env nd hl hlt
  have keepB : ∀ j d, j ∉ mu → getM (env.getD j .no) = some d → ∀ p, σ[j]? = some (some (.ref p)) → H2 p = H p := fun j d hj hd p hp => by
    obtain ⟨q, a1, a2, a3, a4⟩ := S.mutF hd
    rw [hp] at a1; cases a1
    obtain ⟨o, ho⟩ := a3.mut
    rw [ho]
    refine frame p o ho fun i hi hs => ?_
    obtain ⟨d', hd'⟩ := hm i hi
    exact hj ((S.apartM hd' hd hs hp) ▸ hi)
  refine ⟨sub, fun b o hb => ?_, fun j => ?_, fun i j d e p h1 h2 h3 h4 => ?_, by rw [gl]; exact S.lens, nomk⟩
  · rcases S.subF b o hb with z | ⟨z, u, hu⟩
    · by_cases hx : ∃ i, i ∈ mu ∧ σ[i]? = some (some (.ref b))
      · obtain ⟨i, hi, hs⟩ := hx
        obtain ⟨d, hd⟩ := hm i hi
        obtain ⟨q, a1, a2, a3, a4⟩ := S.mutF hd
        rw [hs] at a1; cases a1
        rcases a4 with ⟨a4, _⟩ | ⟨a4, _⟩
        · rw [hb] at a4; cases a4
        · rw [hb] at a4
          exact .inr ⟨⟨i, Option.some.inj a4⟩, Option.isSome_iff_exists.mp (there b (by rw [z]; rfl))⟩
      · exact .inl (frame b o z fun i hi hs => hx ⟨i, hi, hs⟩)
    · exact .inr ⟨z, Option.isSome_iff_exists.mp (there b (by rw [hu]; rfl))⟩
  · by_cases hj : j ∈ mu
    · obtain ⟨k, hk⟩ := List.getElem?_of_mem hj
      obtain ⟨c, hc, e1⟩ := (g j).2 k hk
      rw [e1]
      obtain ⟨d, hd⟩ := hm j hj
      obtain ⟨p, a1, a2, a3, a4⟩ := S.mutF hd
      have b2 := bod k j c p hk hc a1
      rcases a4 with ⟨a4, a5⟩ | ⟨a4, a5⟩
      · rw [a5]; exact ⟨p, a1, an j d p hd a1, a4, b2⟩
      · rw [a5]; exact ⟨p, a1, an j d p hd a1, a4, b2⟩
    · rw [(g j).1 hj]
      have hc := S.cell j
      cases hh : env.getD j .no with
      | no => trivial
      | v d => rw [hh] at hc; obtain ⟨v, x, y⟩ := hc; exact ⟨v, x, y.same aa⟩
      | raw d => rw [hh] at hc; exact hc
      | own d =>
        rw [hh] at hc
        obtain ⟨p, a1, a2, a3, a4⟩ := hc
        have hd : getM (env.getD j .no) = some d := by rw [hh]; rfl
        exact ⟨p, a1, an j d p hd a1, a3, a4.move aa (keepB j d hj hd p a1)⟩
      | par d =>
        rw [hh] at hc
        obtain ⟨p, a1, a2, a3, a4⟩ := hc
        have hd : getM (env.getD j .no) = some d := by rw [hh]; rfl
        exact ⟨p, a1, an j d p hd a1, a3, a4.move aa (keepB j d hj hd p a1)⟩
  · have key : ∀ j d, (putM mu cs env).getD j .no = .own d → ∃ d0, env.getD j .no = .own d0 := fun j d hj => by
      by_cases hm' : j ∈ mu
      · obtain ⟨k, hk⟩ := List.getElem?_of_mem hm'
        obtain ⟨c, hc, e1⟩ := (g j).2 k hk
        rw [e1] at hj
        exact setM_own hj (hm j hm')
      · rw [(g j).1 hm'] at hj; exact ⟨d, hj⟩
    obtain ⟨e1, q1⟩ := key i d h1
    obtain ⟨e2, q2⟩ := key j e h2
    exact S.apart i j e1 e2 p q1 q2 h3 h4
theorem putM_own {mu : List Nat} : ∀ {cs : List D} {e : En} {j : Nat} {d : D}, (∀ i ∈ mu, ∃ d, getM (e.getD i .no) = some d) → mu.Nodup → (putM mu cs e).getD j .no = .own d → ∃ d0, e.getD j .no = .own d0 := by
  induction mu with
  | nil => intro cs e j d _ _ h; cases cs <;> exact ⟨d, h⟩
  | cons i is ih =>
    intro cs e j d hm nd h
    cases cs with
    | nil => exact ⟨d, h⟩
    | cons c cs =>
      obtain ⟨n1, n2⟩ := List.nodup_cons.mp nd
      have h' : (putM is cs (e.set i (setM (e.getD i .no) c))).getD j .no = .own d := h
      obtain ⟨d0, h0⟩ := ih (fun k hk => by
        have hik : i ≠ k := fun z => n1 (z ▸ hk)
        rw [set_getD, if_neg (fun z => hik z.1)]
        exact hm k (List.mem_cons_of_mem _ hk)) n2 h'
      rw [set_getD] at h0
      split at h0
      · rename_i hh
        obtain ⟨rfl, _⟩ := hh
        exact setM_own h0 (hm i List.mem_cons_self)
      · exact ⟨d0, h0⟩
end
section
variable {K : Fg} {F A H : Hp} {σ : Sl} {env : En}
theorem frz1_res {o o' : Op} {d : D} {e' : En} (h : frz1 o env = some (d, e')) : res o' e' = res o' env := by
  cases o with
  | val x => cases h; rfl
  | new x => cases h; rfl
  | raw x => cases h
  | slot i =>
    simp only [frz1] at h
    cases hh : env.getD i .no with
    | no => rw [hh] at h; cases h
    | raw x => rw [hh] at h; cases h
    | par x => rw [hh] at h; cases h
    | v x => rw [hh] at h; cases h; rfl
    | own x =>
      rw [hh] at h; cases h
      cases o' with
      | val y => rfl
      | new y => rfl
      | raw y => rfl
      | slot j =>
        simp only [res]
        rw [set_getD]
        by_cases hj : i = j
        · subst hj
          rw [if_pos ⟨rfl, getD_lt (by rw [hh]; exact fun z => nomatch z)⟩, hh]
        · rw [if_neg (fun z => hj z.1)]
theorem frz1_get {o : Op} {d : D} {e' : En} (h : frz1 o env = some (d, e')) {i : Nat} (n : o ≠ .slot i) : e'.getD i .no = env.getD i .no := by
  cases o with
  | val x => cases h; rfl
  | new x => cases h; rfl
  | raw x => cases h
  | slot j =>
    have hj : j ≠ i := fun z => n (by rw [z])
    simp only [frz1] at h
    cases hh : env.getD j .no with
    | no => rw [hh] at h; cases h
    | raw x => rw [hh] at h; cases h
    | par x => rw [hh] at h; cases h
    | v x => rw [hh] at h; cases h; rfl
    | own x => rw [hh] at h; cases h; rw [set_getD, if_neg (fun z => hj z.1)]
theorem frz1_d {o : Op} {d : D} {e' : En} (h : frz1 o env = some (d, e')) : res o env = some d := by
  cases o with
  | val x => cases h; rfl
  | new x => cases h; rfl
  | raw x => cases h
  | slot i =>
    simp only [frz1] at h
    simp only [res]
    cases hh : env.getD i .no with
    | no => rw [hh] at h; cases h
    | raw x => rw [hh] at h; cases h
    | par x => rw [hh] at h; cases h
    | v x => rw [hh] at h; cases h; rfl
    | own x => rw [hh] at h; cases h; rfl
theorem frzN_ok {ms : List Nat} {os : List Op} : ∀ {k : Nat} {env : En} {A : Hp} {vs : List V} {env1 : En}, SOk K F σ env H A → OpsOk K F A H σ env os vs → frzN ms k os env = some env1 →
    ∃ A1, SOk K F σ env1 H A1 ∧ Grow F A A1 ∧ (∀ (j : Nat) v o d, k + j ∉ ms → os[j]? = some o → vs[j]? = some v → res o env = some d → Rep K A1 v d) ∧
      (∀ i, (∀ j : Nat, k + j ∉ ms → os[j]? ≠ some (.slot i)) → env1.getD i .no = env.getD i .no) ∧ ∀ j d, env1.getD j .no = .own d → env.getD j .no = .own d := by
  induction os with
  | nil => intro k env A vs env1 S r h; cases h; exact ⟨A, S, Grow.refl, fun j v o d _ z => by simp at z, fun i _ => rfl, fun _ _ z => z⟩
  | cons o os ih =>
    intro k env A vs env1 S r h
    obtain ⟨v, rs, rfl, r1, r2, r3⟩ := r
    unfold frzN at h
    by_cases hk : k ∈ ms
    · rw [if_pos hk] at h
      obtain ⟨A1, S1, g1, a1, b1, c1⟩ := ih S r2 h
      refine ⟨A1, S1, g1, fun j v' o' d hj ho hv hd => ?_, fun i hi => b1 i fun j hj => ?_, c1⟩
      · cases j with
        | zero => exact absurd (by simpa using hk) hj
        | succ j => exact a1 j v' o' d (by rw [show k + 1 + j = k + (j + 1) by omega]; exact hj) (by simpa using ho) (by simpa using hv) hd
      · have := hi (j + 1) (by rw [show k + (j + 1) = k + 1 + j by omega]; exact hj)
        simpa using this
    · rw [if_neg hk] at h
      cases hf : frz1 o env with
      | none => rw [hf] at h; cases h
      | some w =>
        obtain ⟨d0, e1⟩ := w
        rw [hf] at h
        simp only at h
        obtain ⟨A1, S1, g1, q1, n1, o1⟩ := frz1_ok S r1 hf
        have r2' : OpsOk K F A1 H σ e1 os rs := r2.move g1.1 o1 fun j d' p a b => Classical.byContradiction fun nb => by
          obtain ⟨ev, hh⟩ := n1 p nb
          rcases hh with ⟨dd, rfl⟩ | ⟨i, dd, hi, hs⟩
          · exact r3 dd rfl j d' a (by rw [b, ev])
          · obtain ⟨p', x1, x2, x3, x4, x5⟩ := r2.newAt a b
            cases x1
            exact x5 i dd hi hs
        obtain ⟨A2, S2, g2, a2, b2, c2⟩ := ih S1 r2' h
        refine ⟨A2, S2, g1.trans g2, fun j v' o' d hj ho hv hd => ?_, fun i hi => ?_, fun j d hj => o1 j d (c2 j d hj)⟩
        · cases j with
          | zero =>
            simp at ho hv
            subst ho hv
            have := frz1_d hf
            rw [hd] at this; cases this
            exact q1.same g2.1
          | succ j => exact a2 j v' o' d (by rw [show k + 1 + j = k + (j + 1) by omega]; exact hj) (by simpa using ho) (by simpa using hv) (by rw [frz1_res hf]; exact hd)
        · rw [b2 i fun j hj => by
            have := hi (j + 1) (by rw [show k + (j + 1) = k + 1 + j by omega]; exact hj)
            simpa using this]
          exact frz1_get hf fun z => hi 0 (by simpa using hk) (by rw [z]; rfl)
theorem Bod.safe {A' A2 H' : Hp} {p : Addr} {d : D} (ht : ∀ b xs, A' b = some (.tup xs) → A2 b = some (.tup xs)) (h : Bod K A' H' p d) (c : safeC d = true) : Bod K A2 H' p d := by
  cases d <;> first | exact h.elim | skip
  · obtain ⟨vs, a, b⟩ := h; exact ⟨vs, a, b.safe ht c⟩
  · cases c
/-- THE CALL -/
theorem call_ok {mg : Str → Option Value} {E : Sl → XK} {ms : List Nat} {fn : Fn} {dflt : List D} {dvs : List V} {os : List Op} {vs : List V} {np : Nat} {Q : VK} (S : SOk K F σ env H A) (r : OpsOk K F A H σ env os vs) (dd : ∀ A, Reps K A dvs dflt)
    (hnp : vs.length + dvs.length = np) (h : match callM ms fn dflt os env with
      | .ok o env' => ∀ v H' A', SOk K F σ env' H' A' → Grow F A A' → OpOk K F A' H' σ env' v o → Q v H'
      | .exc n env' => ∀ C H' A', XN mg n C A' → SOk K F σ env' H' A' → Grow F A A' → E σ (.ref C.1) C.2 H'
      | .bad => False) : spFn K mg ms np fn (vs ++ dvs) H Q (E σ) := by
  unfold callM at h
  cases hmu : mutS os ms with
  | none => rw [hmu] at h; exact h.elim
  | some mu =>
    rw [hmu] at h
    simp only at h
    by_cases hok : (nodupB mu && (borS ms 0 os).all (fun i => !(mu.contains i))) = true
    rotate_left
    · rw [if_neg hok] at h; exact h.elim
    rw [if_pos hok] at h
    rw [Bool.and_eq_true] at hok
    have nd := mem_of_nodupB hok.1
    have hbor : ∀ i ∈ borS ms 0 os, i ∉ mu := fun i hi hm => by
      have := List.all_eq_true.mp hok.2 i hi
      rw [List.contains_iff_mem.mpr hm] at this
      cases this
    cases hds : argsD ms env 0 os with
    | none => rw [hds] at h; exact h.elim
    | some ds =>
      rw [hds] at h
      simp only at h
      obtain ⟨lmu, gmu⟩ := mutS_get hmu
      obtain ⟨lds, gds⟩ := argsD_get hds
      have lvs := r.len
      -- a lent place
      have lent : ∀ i ∈ ms, ∃ (k j : Nat) (d : D) (p : Addr), ms[k]? = some i ∧ mu[k]? = some j ∧ os[i]? = some (.slot j) ∧ ds[i]? = some d ∧ getM (env.getD j .no) = some d ∧ vs[i]? = some (.ref p) ∧ σ[j]? = some (some (.ref p)) ∧ i < vs.length := by
        intro i hi
        obtain ⟨k, hk⟩ := List.getElem?_of_mem hi
        obtain ⟨j, h1, h2⟩ := gmu k i hk
        obtain ⟨d, h3, h4⟩ := gds i _ h2
        rw [if_pos (by simpa using hi)] at h4
        obtain ⟨j', e1, h5⟩ := h4
        cases e1
        have il : i < vs.length := by rw [lvs]; exact (List.getElem?_eq_some_iff.mp h2).1
        have h6 : σ[j]? = some (some vs[i]) := r.at h2 (List.getElem?_eq_getElem il)
        obtain ⟨p, a1, _⟩ := S.mutF h5
        rw [h6] at a1
        have e2 : vs[i] = .ref p := by simpa using a1
        exact ⟨k, j, d, p, hk, h1, h2, h3, h5, by rw [List.getElem?_eq_getElem il, e2], by rw [h6, e2], il⟩
      have hm : ∀ j ∈ mu, ∃ d, getM (env.getD j .no) = some d := fun j hj => by
        obtain ⟨k, hk⟩ := List.getElem?_of_mem hj
        have hk2 : k < ms.length := by rw [← lmu]; exact (List.getElem?_eq_some_iff.mp hk).1
        obtain ⟨k', j', d, p, h1, h2, h3, h4, h5, _⟩ := lent ms[k] (List.getElem_mem hk2)
        obtain ⟨j2, h6, h7⟩ := gmu k ms[k] (List.getElem?_eq_getElem hk2)
        rw [hk] at h6; cases h6
        rw [h3] at h7; cases h7
        exact ⟨d, h5⟩
      have getl : ∀ (i : Nat) v, i < vs.length → ((vs ++ dvs)[i]? = some v ↔ vs[i]? = some v) := fun i v hi => by rw [List.getElem?_append_left hi]
      have apart : ∀ (i j : Nat) p, i ∈ ms → j ∈ ms → (vs ++ dvs)[i]? = some (.ref p) → (vs ++ dvs)[j]? = some (.ref p) → i = j := by
        intro i j p hi hj h1 h2
        obtain ⟨k1, s1, d1, p1, a1, a2, a3, a4, a5, a6, a7, a8⟩ := lent i hi
        obtain ⟨k2, s2, d2, p2, b1, b2, b3, b4, b5, b6, b7, b8⟩ := lent j hj
        rw [getl i _ a8, a6] at h1; cases h1
        rw [getl j _ b8, b6] at h2; cases h2
        have := S.apartM a5 b5 a7 b7
        subst this
        have : k1 = k2 := by
          obtain ⟨x1, y1⟩ := List.getElem?_eq_some_iff.mp a2
          obtain ⟨x2, y2⟩ := List.getElem?_eq_some_iff.mp b2
          exact (List.getElem_inj nd).mp (y1.trans y2.symm)
        subst this
        rw [a1] at b1; cases b1; rfl
      have defl : ∀ (B : Hp) (i : Nat) v d, ¬ i < vs.length → (vs ++ dvs)[i]? = some v → (ds ++ dflt)[i]? = some d → Rep K B v d := fun B i v d hi h1 h2 => by
        rw [List.getElem?_append_right (by omega)] at h1 h2
        rw [lds, ← lvs] at h2
        obtain ⟨v', e1, e2⟩ := (dd B).get h2
        rw [h1] at e1; cases e1
        exact e2
      have frame' : ∀ b, (∀ i ∈ mu, σ[i]? ≠ some (some (.ref b))) → ∀ i ∈ ms, (vs ++ dvs)[i]? ≠ some (.ref b) := fun b hb i hi hv => by
        obtain ⟨k1, s1, d1, p1, a1, a2, a3, a4, a5, a6, a7, a8⟩ := lent i hi
        rw [getl i _ a8, a6] at hv; cases hv
        exact hb s1 (List.mem_of_getElem? a2) a7
      have muts' : ∀ (k i : Nat) p, mu[k]? = some i → σ[i]? = some (some (.ref p)) → ∃ m, ms[k]? = some m ∧ (vs ++ dvs)[m]? = some (.ref p) := fun k i p h1 h2 => by
        have hk2 : k < ms.length := by rw [← lmu]; exact (List.getElem?_eq_some_iff.mp h1).1
        obtain ⟨k', j', d, p', a1, a2, a3, a4, a5, a6, a7, a8⟩ := lent ms[k] (List.getElem_mem hk2)
        obtain ⟨j2, h6, h7⟩ := gmu k ms[k] (List.getElem?_eq_getElem hk2)
        rw [h1] at h6; cases h6
        rw [a3] at h7; cases h7
        rw [h2] at a7; cases a7
        exact ⟨ms[k], List.getElem?_eq_getElem hk2, (getl _ _ a8).mpr a6⟩
      have len0 : (vs ++ dvs).length = (ds ++ dflt).length := by rw [List.length_append, List.length_append, lds, lvs, (dd A).length]
      -- the part with the other operands' lists
      let PB : Addr → Prop := fun b => ∃ (k : Nat) (o : Op), k ∉ ms ∧ os[k]? = some o ∧ vs[k]? = some (.ref b) ∧ ((∃ d, o = .new d) ∨ ∃ i d, o = .slot i ∧ getM (env.getD i .no) = some d)
      have pbA : ∀ b, PB b → A b = none ∧ (∃ d, Bod K A H b d) ∧ (∀ j ∈ mu, σ[j]? ≠ some (some (.ref b))) := by
        rintro b ⟨k, o, h1, h2, h3, h4⟩
        have ro := r.at h2 h3
        rcases h4 with ⟨d, rfl⟩ | ⟨i, d, rfl, hd⟩
        · refine ⟨?_, ?_, fun j hj => ?_⟩
          · obtain ⟨p, x1, x2, _⟩ := ro; cases x1; exact x2
          · obtain ⟨p, x1, x2, x3, x4, _⟩ := ro; cases x1; exact ⟨d, x4⟩
          · obtain ⟨d', hd'⟩ := hm j hj
            exact ro.newM S rfl hd'
        · have hs : σ[i]? = some (some (.ref b)) := ro
          obtain ⟨p, a1, a2, a3, a4⟩ := S.mutF hd
          rw [hs] at a1; cases a1
          refine ⟨a2, ⟨d, a3⟩, fun j hj hs2 => ?_⟩
          obtain ⟨d', hd'⟩ := hm j hj
          have := S.apartM hd' hd hs2 hs
          subst this
          exact hbor j (borS_mem h2 (by simpa using h1)) hj
      -- what the function gives
      have rest : ∀ (B : Hp), Same A B → Same B H → (∀ (i : Nat) v d, i ∉ ms → vs[i]? = some v → ds[i]? = some d → Rep K B v d) → (∀ i ∈ ms, ∀ p, vs[i]? = some (.ref p) → B p = none) → ArgsOk K B H (vs ++ dvs) (ds ++ dflt) ms := by
        intro B sAB sBH hv hn
        refine ⟨sBH, S.nomk, len0, fun i v d hi h1 h2 => ?_, fun i v d hi h1 h2 => ?_, apart⟩
        · by_cases hl : i < vs.length
          · rw [List.getElem?_append_left hl] at h1
            rw [List.getElem?_append_left (by rw [lds, ← lvs]; exact hl)] at h2
            exact hv i v d hi h1 h2
          · exact defl B i v d hl h1 h2
        · obtain ⟨k1, s1, d1, p1, a1, a2, a3, a4, a5, a6, a7, a8⟩ := lent i hi
          rw [getl i _ a8, a6] at h1; cases h1
          rw [List.getElem?_append_left (by rw [lds, ← lvs]; exact a8), a4] at h2; cases h2
          obtain ⟨q, b1, b2, b3, b4⟩ := S.mutF a5
          rw [a7] at b1; cases b1
          exact ⟨p1, rfl, hn i hi p1 a6, b3.move sAB rfl⟩
      have noPB : ∀ i ∈ ms, ∀ p, vs[i]? = some (.ref p) → ¬ PB p := fun i hi p hp hb => by
        obtain ⟨k1, s1, d1, p1, a1, a2, a3, a4, a5, a6, a7, a8⟩ := lent i hi
        rw [a6] at hp; cases hp
        exact (pbA _ hb).2.2 s1 (List.mem_of_getElem? a2) a7
      have lentA : ∀ i ∈ ms, ∀ p, vs[i]? = some (.ref p) → A p = none := fun i hi p hp => by
        obtain ⟨k1, s1, d1, p1, a1, a2, a3, a4, a5, a6, a7, a8⟩ := lent i hi
        rw [a6] at hp; cases hp
        obtain ⟨q, b1, b2, b3, b4⟩ := S.mutF a5
        rw [a7] at b1; cases b1
        exact b2
      have dec : DecidablePred PB := fun b => Classical.propDecidable _
      let AP : Hp := fun b => if PB b then H b else A b
      have apY : ∀ b, PB b → AP b = H b := fun b hb => if_pos hb
      have apN : ∀ b, ¬ PB b → AP b = A b := fun b hb => if_neg hb
      have sAP : Same A AP := fun b o hb => by
        rw [apN b fun z => by rw [(pbA b z).1] at hb; cases hb]; exact hb
      have sPH : Same AP H := fun b o hb => by
        by_cases hp : PB b
        · rw [apY b hp] at hb; exact hb
        · rw [apN b hp] at hb; exact S.subA b o hb
      have valP : ∀ (i : Nat) v d, i ∉ ms → vs[i]? = some v → ds[i]? = some d → Rep K AP v d := fun i v d hi h1 h2 => by
        have il : i < os.length := by rw [← lvs]; exact (List.getElem?_eq_some_iff.mp h1).1
        have ho := List.getElem?_eq_getElem il
        obtain ⟨d', h3, h4⟩ := gds i _ ho
        rw [h2] at h3; cases h3
        rw [if_neg (by simpa using hi)] at h4
        have ro := r.at ho h1
        generalize hc : os[i] = c at h4 ro ho
        cases c with
        | val d0 => cases h4; exact Rep.same sAP ro
        | raw w => cases h4
        | new d0 =>
          cases h4
          obtain ⟨p, e1, x2, x3, x4, _⟩ := ro
          subst e1
          exact x4.rep sAP (apY p ⟨i, _, hi, ho, h1, .inl ⟨_, rfl⟩⟩)
        | slot j =>
          have hv : σ[j]? = some (some v) := ro
          simp only [res] at h4
          have mutcase : getM (env.getD j .no) = some d → Rep K AP v d := fun hg => by
            obtain ⟨p, a1, a2, a3, a4⟩ := S.mutF hg
            rw [hv] at a1; cases a1
            exact a3.rep sAP (apY p ⟨i, _, hi, ho, h1, .inr ⟨j, d, rfl, hg⟩⟩)
          cases hh : env.getD j .no with
          | no => rw [hh] at h4; cases h4
          | raw w => rw [hh] at h4; cases h4
          | own d0 => rw [hh] at h4 mutcase; cases h4; exact mutcase rfl
          | par d0 => rw [hh] at h4 mutcase; cases h4; exact mutcase rfl
          | v d0 =>
            rw [hh] at h4; cases h4
            have hc2 := S.cell j
            rw [hh] at hc2
            obtain ⟨w, x, y⟩ := hc2
            rw [hv] at x; cases x
            exact y.same sAP
      have argsP : ArgsOk K AP H (vs ++ dvs) (ds ++ dflt) ms := rest AP sAP sPH valP (fun i hi p hp => by rw [apN p (noPB i hi p hp)]; exact lentA i hi p hp)
      -- behind it, nothing that hangs on a lent or held list being kept
      have safeEnd : ∀ H' A' cs, After K AP H A' H' (vs ++ dvs) ms cs → cs.all safeC = true → ∃ A2, SOk K F σ (putM mu cs env) H' A2 ∧ Grow F A A2 ∧ (∀ b fs, A' b = some (.xd fs) → A2 b = some (.xd fs)) ∧ ∀ v o, RV K H A' H' v o → safeOp o = true → OpOk K F A2 H' σ (putM mu cs env) v o := by
        intro H' A' cs af hcs
        let A2 : Hp := fun b => if PB b then none else A' b
        have a2Y : ∀ b, PB b → A2 b = none := fun b hb => if_pos hb
        have a2N : ∀ b, ¬ PB b → A2 b = A' b := fun b hb => if_neg hb
        have pbH : ∀ b, PB b → A' b = H b := fun b hb => by
          obtain ⟨_, ⟨d, bd⟩, _⟩ := pbA b hb
          obtain ⟨o, ho⟩ := bd.mut
          exact (af.old b (by rw [ho]; rfl)).trans (apY b hb)
        have ht : ∀ b xs, A' b = some (.tup xs) → A2 b = some (.tup xs) := fun b xs hr => by
          have n : ¬ PB b := fun hb => by
            obtain ⟨_, ⟨d, bd⟩, _⟩ := pbA b hb
            obtain ⟨o, ho⟩ := bd.mut
            have e1 := pbH b hb
            rw [ho] at e1
            rcases bd.lstdic ho with ⟨_, rfl⟩ | ⟨_, rfl⟩ | ⟨_, rfl⟩ | ⟨_, _, _, rfl⟩ <;> (rw [e1] at hr; cases hr)
          exact (a2N b n).trans hr
        have hx : ∀ b fs, A' b = some (.xd fs) → A2 b = some (.xd fs) := fun b fs hr => by
          have n : ¬ PB b := fun hb => by
            obtain ⟨_, ⟨d, bd⟩, _⟩ := pbA b hb
            obtain ⟨o, ho⟩ := bd.mut
            have e1 := pbH b hb
            rw [ho] at e1
            rcases bd.lstdic ho with ⟨_, rfl⟩ | ⟨_, rfl⟩ | ⟨_, rfl⟩ | ⟨_, _, _, rfl⟩ <;> (rw [e1] at hr; cases hr)
          exact (a2N b n).trans hr
        have aa : Same A A2 := fun b o hb => by
          have n : ¬ PB b := fun z => by rw [(pbA b z).1] at hb; cases hb
          rw [a2N b n]
          exact af.aa b o (sAP b o hb)
        have S2 : SOk K F σ (putM mu cs env) H' A2 := by
          refine settle S nd (by rw [lmu]; exact af.lens) hm aa (fun b o hb => ?_) af.nomk (fun j d p hd hp => ?_) af.there (fun b o hb hn => af.frame b o hb (frame' b hn)) (fun k i c p h1 h2 h3 => ?_)
          · by_cases hp : PB b
            · rw [a2Y b hp] at hb; cases hb
            · rw [a2N b hp] at hb; exact af.sub b o hb
          · by_cases hb : PB p
            · exact a2Y p hb
            · obtain ⟨q, x1, x2, x3, x4⟩ := S.mutF hd
              rw [hp] at x1; cases x1
              obtain ⟨o, ho⟩ := x3.mut
              rw [a2N p hb, af.old p (by rw [ho]; rfl), apN p hb]
              exact x2
          · obtain ⟨m, e1, e2⟩ := muts' k i p h1 h3
            exact (af.muts k m c p e1 h2 e2).safe ht (List.all_eq_true.mp hcs c (List.mem_of_getElem? h2))
        have gr : Grow F A A2 := ⟨aa, fun b hb => by
          have hH := S.subF.there hb
          by_cases hp : PB b
          · rw [a2Y b hp, (pbA b hp).1]
          · rw [a2N b hp, af.old b hH, apN b hp]⟩
        refine ⟨A2, S2, gr, hx, fun v o rv hs => ?_⟩
        cases o with
        | slot i => exact rv.elim
        | raw w => cases hs
        | val d => exact Rep.safe ht rv hs
        | new d =>
          obtain ⟨p, e1, n1, n2, b2⟩ := rv
          have np : ¬ PB p := fun hb => by
            obtain ⟨_, ⟨d, bd⟩, _⟩ := pbA p hb
            obtain ⟨o, ho⟩ := bd.mut
            rw [n1] at ho; cases ho
          refine ⟨p, e1, (a2N p np).trans n2, S.subF.free n1, b2.safe ht hs, fun j d' hj hsj => ?_⟩
          obtain ⟨d0, h0⟩ := putM_own hm nd hj
          obtain ⟨q, x1, x2, x3, x4⟩ := S.ownA h0
          rw [hsj] at x1; cases x1
          obtain ⟨o, ho⟩ := x4.mut
          rw [n1] at ho; cases ho
      cases hf : fn (ds ++ dflt) with
      | bad => rw [hf] at h; exact h.elim
      | exc n cs =>
        rw [hf] at h
        simp only at h
        by_cases hcs : cs.all safeC = true
        rotate_left
        · rw [if_neg hcs] at h
          cases hz : frzN ms 0 os env with
          | none => rw [hz] at h; exact h.elim
          | some e1 =>
            rw [hz] at h
            simp only at h
            obtain ⟨A1, S1, g1, v1, k1, o1⟩ := frzN_ok S r hz
            have keepm : ∀ j ∈ mu, e1.getD j .no = env.getD j .no := fun j hj => k1 j fun i hi hs => hbor j (borS_mem hs hi) hj
            have hm1 : ∀ j ∈ mu, ∃ d, getM (e1.getD j .no) = some d := fun j hj => by rw [keepm j hj]; exact hm j hj
            have valA : ∀ (i : Nat) v d, i ∉ ms → vs[i]? = some v → ds[i]? = some d → Rep K A1 v d := fun i v d hi h1 h2 => by
              have il : i < os.length := by rw [← lvs]; exact (List.getElem?_eq_some_iff.mp h1).1
              have ho := List.getElem?_eq_getElem il
              obtain ⟨d', h3, h4⟩ := gds i _ ho
              rw [h2] at h3; cases h3
              rw [if_neg (by simpa using hi)] at h4
              exact v1 i v _ d (by simpa using hi) ho h1 h4
            have argsA : ArgsOk K A1 H (vs ++ dvs) (ds ++ dflt) ms := rest A1 g1.1 S1.subA valA (fun i hi p hp => by
              obtain ⟨k0, s0, d0, p0, a1, a2, a3, a4, a5, a6, a7, a8⟩ := lent i hi
              rw [a6] at hp; cases hp
              obtain ⟨q, x1, x2, x3, x4⟩ := S1.mutF (by rw [keepm s0 (List.mem_of_getElem? a2)]; exact a5)
              rw [a7] at x1; cases x1
              exact x2)
            refine ⟨ds ++ dflt, A1, by rw [List.length_append]; exact hnp, argsA, ?_⟩
            rw [hf]
            intro C H' A' hC af
            have S2 : SOk K F σ (putM mu cs e1) H' A' := by
              refine settle S1 nd (by rw [lmu]; exact af.lens) hm1 af.aa af.sub af.nomk (fun j d p hd hp => ?_) af.there (fun b o hb hn => af.frame b o hb (frame' b hn)) (fun k i c p h1 h2 h3 => ?_)
              · obtain ⟨q, x1, x2, x3, x4⟩ := S1.mutF hd
                rw [hp] at x1; cases x1
                obtain ⟨o, ho⟩ := x3.mut
                rw [af.old p (by rw [ho]; rfl)]
                exact x2
              · obtain ⟨m, q1, q2⟩ := muts' k i p h1 h3
                exact af.muts k m c p q1 h2 q2
            exact h C H' A' hC S2 (g1.trans ⟨af.aa, fun b hb => af.old b (S1.subF.there hb)⟩)
        rw [if_pos hcs] at h
        refine ⟨ds ++ dflt, AP, by rw [List.length_append]; exact hnp, argsP, ?_⟩
        rw [hf]
        intro C H' A' hC af
        obtain ⟨A2, S2, g2, hx, _⟩ := safeEnd H' A' cs af hcs
        exact h C H' A2 (hC.xd hx) S2 g2
      | ok o cs =>
        rw [hf] at h
        simp only at h
        by_cases hcs : (safeOp o && cs.all safeC) = true
        · rw [if_pos hcs] at h
          rw [Bool.and_eq_true] at hcs
          refine ⟨ds ++ dflt, AP, by rw [List.length_append]; exact hnp, argsP, ?_⟩
          rw [hf]
          intro v H' A' af rv
          obtain ⟨A2, S2, g2, _, k2⟩ := safeEnd H' A' cs af hcs.2
          exact h v H' A2 S2 g2 (k2 v o rv hcs.1)
        · rw [if_neg hcs] at h
          cases hz : frzN ms 0 os env with
          | none => rw [hz] at h; exact h.elim
          | some e1 =>
            rw [hz] at h
            simp only at h
            obtain ⟨A1, S1, g1, v1, k1, o1⟩ := frzN_ok S r hz
            have keepm : ∀ j ∈ mu, e1.getD j .no = env.getD j .no := fun j hj => k1 j fun i hi hs => hbor j (borS_mem hs hi) hj
            have hm1 : ∀ j ∈ mu, ∃ d, getM (e1.getD j .no) = some d := fun j hj => by rw [keepm j hj]; exact hm j hj
            have valA : ∀ (i : Nat) v d, i ∉ ms → vs[i]? = some v → ds[i]? = some d → Rep K A1 v d := fun i v d hi h1 h2 => by
              have il : i < os.length := by rw [← lvs]; exact (List.getElem?_eq_some_iff.mp h1).1
              have ho := List.getElem?_eq_getElem il
              obtain ⟨d', h3, h4⟩ := gds i _ ho
              rw [h2] at h3; cases h3
              rw [if_neg (by simpa using hi)] at h4
              exact v1 i v _ d (by simpa using hi) ho h1 h4
            have argsA : ArgsOk K A1 H (vs ++ dvs) (ds ++ dflt) ms := rest A1 g1.1 S1.subA valA (fun i hi p hp => by
              obtain ⟨k0, s0, d0, p0, a1, a2, a3, a4, a5, a6, a7, a8⟩ := lent i hi
              rw [a6] at hp; cases hp
              obtain ⟨q, x1, x2, x3, x4⟩ := S1.mutF (by rw [keepm s0 (List.mem_of_getElem? a2)]; exact a5)
              rw [a7] at x1; cases x1
              exact x2)
            refine ⟨ds ++ dflt, A1, by rw [List.length_append]; exact hnp, argsA, ?_⟩
            rw [hf]
            intro v H' A' af rv
            have S2 : SOk K F σ (putM mu cs e1) H' A' := by
              refine settle S1 nd (by rw [lmu]; exact af.lens) hm1 af.aa af.sub af.nomk (fun j d p hd hp => ?_) af.there (fun b o hb hn => af.frame b o hb (frame' b hn)) (fun k i c p h1 h2 h3 => ?_)
              · obtain ⟨q, x1, x2, x3, x4⟩ := S1.mutF hd
                rw [hp] at x1; cases x1
                obtain ⟨o, ho⟩ := x3.mut
                rw [af.old p (by rw [ho]; rfl)]
                exact x2
              · obtain ⟨m, q1, q2⟩ := muts' k i p h1 h3
                exact af.muts k m c p q1 h2 q2
            refine h v H' A' S2 (g1.trans ⟨af.aa, fun b hb => af.old b (S1.subF.there hb)⟩) ?_
            cases o with
            | slot i => exact rv.elim
            | raw w => exact rv
            | val d => exact rv
            | new d =>
              obtain ⟨p, q1, n1, n2, b2⟩ := rv
              refine ⟨p, q1, n2, S.subF.free n1, b2, fun j d' hj hsj => ?_⟩
              obtain ⟨d0, h0⟩ := putM_own hm1 nd hj
              obtain ⟨q, x1, x2, x3, x4⟩ := S1.ownA h0
              rw [hsj] at x1; cases x1
              obtain ⟨o, ho⟩ := x4.mut
              rw [n1] at ho; cases ho
end
section
variable {K : Fg} {mg : Str → Option Value} {E : Sl → XK} {fa : Ax} {σ : Sl} {H : Hp} {ms : List Nat} {fn : Fn} {dflt : List D} {dvs : List V} {np : Nat}
theorem tJ_call (dd : ∀ A, Reps K A dvs dflt) {n : Nat} (hn : n + dvs.length = np) (hl : ∀ env os e, fa env = .ok os e → os.length = n) {Q : VK} (h : tJ K mg E (eCall ms fn dflt fa) σ H Q) : tJA K mg E fa σ H fun vs H1 => spFn K mg ms np fn (vs ++ dvs) H1 Q (E σ) := by
  obtain ⟨env, A, F, S, h⟩ := h
  refine ⟨env, A, F, S, ?_⟩
  unfold eCall at h
  cases e : fa env with
  | bad => rw [e] at h; exact h
  | exc n e' => rw [e] at h; exact h
  | ok os e' =>
    rw [e] at h
    intro vs H1 A1 S1 g1 r1
    refine call_ok S1 r1 dd (by rw [r1.len, hl env os e' e]; exact hn) ?_
    simp only [Out.bind] at h
    cases hc : callM ms fn dflt os e' with
    | bad => rw [hc] at h; exact h
    | exc n e2 => rw [hc] at h; exact fun C H' A' m S' g' => h C H' A' m S' (g1.trans g')
    | ok o e2 => rw [hc] at h; exact fun v H' A' S' g' r' => h v H' A' S' (g1.trans g') r'
end
end T3
namespace T3
open PySem PySem.Spec PyProof.Rows L2
/-- what a call asks: the arguments, then the promise with the defaults behind them, exceptions by the slots -/
def tCallD (sp : Sp) (dvs : List V) (E : Sl → XK) (t : TA) : TE := fun σ H Q => t σ H fun vs H1 => sp (vs ++ dvs) H1 Q (E σ)
def ArgLen (n : Nat) (fa : Ax) : Prop := ∀ env os e, fa env = .ok os e → os.length = n
theorem al_nil : ArgLen 0 eNil := fun env os e h => by cases h; rfl
theorem al_cons {n : Nat} {f : Ex} {fa : Ax} (h : ArgLen n fa) : ArgLen (n + 1) (eCons f fa) := fun env os e q => by
  unfold eCons at q
  cases h1 : f env with
  | bad => rw [h1] at q; cases q
  | exc n s => rw [h1] at q; cases q
  | ok o e1 =>
    rw [h1] at q
    simp only [Out.bind] at q
    cases h2 : fa e1 with
    | bad => rw [h2] at q; cases q
    | exc n s => rw [h2] at q; cases q
    | ok os1 e2 =>
      rw [h2] at q
      simp only at q
      cases q
      exact congrArg Nat.succ (h _ _ _ h2)
section
variable {X : Cx} {k : Nat} {f : Addr} {fd : FuncData} {ps : List Str} {sp : Sp} {dvs : List V} {ds : List Value} {E : Sl → XK} {x : Str} {p pos : Pos} {e : Expr} {es : List Expr} {t : TA}
theorem run_fnG {pins : List (Addr × Obj)} {σ : Sl} {H : Hp} {s : Shared} {Q : VK} {us : List Value} {vs : List V} (F : FnG X.prog X.w X.K X.mg X.base k f fd ps sp) (hr : Room k X.A) (hG : X.A.guards = some []) (hb : Binds X.K fd ps ds) (hd : Vals dvs ds)
    (hx : PassesAt (L2.CX X.prog X.w) X σ (E σ)) (I : Inv X pins σ H s) (r : Vals vs us) (h : sp (vs ++ dvs) H Q (E σ)) : wpAny (model X.prog X.w) X.A (call (.ref f) us) (EP X pins σ Q) X.xe s := by
  have r2 : Vals (vs ++ dvs) (us ++ ds) := r.append hd
  have hl : (us ++ ds).length = ps.length := by rw [← r2.length]; exact F.len _ _ _ _ h
  refine wpAny_call (codeAny_mono (F.run X.A X.stack s H ⟨us, []⟩ (us ++ ds) (vs ++ dvs) Q (E σ) hr hG I.env0 (hb s us I.kIn hl) r2 h) fun r s' hq => ?_)
  match r, hq with
  | .error e, hq => exact hx pins H s e s' I hq
  | .ok (.ret u), hq => exact I.after hq
  | .ok .next, hq => exact False.elim hq
  | .ok .brk, hq => exact False.elim hq
  | .ok .cont, hq => exact False.elim hq
theorem pe_callG (F : FnG X.prog X.w X.K X.mg X.base k f fd ps sp) (hr : Room k X.A) (hG : X.A.guards = some []) (hg : Gl X x) (hm : X.mg x = some (.ref f)) (hk : PySem.W.keepIn X.K (.ref f) = true) (hb : Binds X.K fd ps ds) (hd : Vals dvs ds)
    (hx : ∀ σ, PassesAt (L2.CX X.prog X.w) X σ (E σ)) (ha : PA X (e :: es) t) (hdb : (x == ("__debug__" : Str)) = false := by decide)
    (he : starEach (e :: es) X.env = (false, eval e X.env) :: starEach es X.env := by rfl) (hpl : (backTo pos (starEach es X.env)).any (·.1) = false := by rfl) :
    PE X (.Call (.Name x p) (e :: es) [] pos) (tCallD sp dvs E t) := ⟨fun pins s σ H Q I h =>
  wpAny_Call_Name_kw (ld_glob I hg hm (PySem.W.callWith_K (h₀ := X.base) I.ok.mod.kin hk (thn (ha.run pos pins s σ H _ I h) fun us s1 ⟨vs, H1, I1, r, q⟩ => ⟨I1.kIn, run_fnG F hr hG hb hd (hx σ) I1 r q⟩) he hpl) hdb)⟩
theorem jp_call {fa : Ax} {ms : List Nat} {fn : Fn} {dflt : List D} {n np : Nat} (F : FnG X.prog X.w X.K X.mg X.base k f fd ps (spFn X.K X.mg ms np fn)) (hr : Room k X.A) (hG : X.A.guards = some []) (hg : Gl X x) (hm : X.mg x = some (.ref f)) (hk : PySem.W.keepIn X.K (.ref f) = true) (hb : Binds X.K fd ps ds)
    (hd : Vals dvs ds) (dd : ∀ A, Reps X.K A dvs dflt) (hn : n + dvs.length = np) (hl : ArgLen n fa) (hx : ∀ σ, PassesAt (L2.CX X.prog X.w) X σ (E σ)) (ha : JA X E (e :: es) fa) (hdb : (x == ("__debug__" : Str)) = false := by decide)
    (he : starEach (e :: es) X.env = (false, eval e X.env) :: starEach es X.env := by rfl) (hpl : (backTo pos (starEach es X.env)).any (·.1) = false := by rfl) :
    JP X E (.Call (.Name x p) (e :: es) [] pos) (eCall ms fn dflt fa) := impE (pe_callG F hr hG hg hm hk hb hd hx ha hdb he hpl) fun σ H Q h => tJ_call dd hn hl h
def sRaise (n : Str) : Sx := fun env => .exc n env
def TakesE (X : Cx) (E : Sl → XK) : Prop := Takes X (fun cls d σ H => E σ cls d H)
theorem TakesE.at {X : Cx} {E : Sl → XK} (t : TakesE X E) (σ : Sl) : PassesAt (L2.CX X.prog X.w) X σ (E σ) := passAt t σ
theorem takesEF {X : Cx} : TakesE X EF := fun u s' h => takes0 u s' h
end
/-- a law's promise: the script is a list of ints of at most n; True comes back -/
def Says (n : Nat) (fn : Fn) : Prop := ∀ ns : List Int, ns.length ≤ n → ∃ cs, fn [.list (ns.map .int)] = .ok (.val (.bool true)) cs
theorem says_sp {K : Fg} {mg : Str → Option Value} {n : Nat} {fn : Fn} (h : Says n fn) {H : Hp} {a : Addr} {ns : List Int} (hl : ns.length ≤ n) (hO : Only H) (hS : SqL K H a (ns.map V.int)) :
    spFn K mg [] 1 fn [.ref a] H (fun v _ => v = .bl true) fun _ _ _ => False := by
  obtain ⟨cs, hc⟩ := h ns hl
  refine ⟨[.list (ns.map .int)], H, rfl, ⟨Same.refl H, fun b i z => ?_, rfl, fun i v d _ hv hd => ?_, fun i v d hi => absurd hi (by simp), fun i j p hi => absurd hi (by simp)⟩, ?_⟩
  · rcases hO b with h | ⟨o, xs, h⟩ <;> rw [h] at z <;> cases z
  · cases i with
    | zero => cases hv; cases hd; exact .lst hS (Reps.ints ns)
    | succ i => cases hv
  · rw [hc]
    intro v H' A' _ rv
    cases rv
    rfl
theorem law_g {P : Program} {w : World} {K : Fg} {mg mb : Str → Option Value} {k : Nat} {fa a : Addr} {fd : FuncData} {x : Str} {sp : Sp} {s₁ : Shared} {vs : List Value} {ns : List Int}
    (KX : K.In s₁.heap) (hns : s₁.heap.Ns mainGlobals mg) (hb : s₁.heap.Ns builtinsNs mb) (hbb : ∀ x : Str, x ≠ "__name__" → mb x = bootBuiltins x) (hlim : s₁.heap.NoLimit) (hg : s₁.gens = #[])
    (ha : s₁.heap.get? a = some { cls := .type "list", data := .seq vs.toArray }) (hi : IntsAre vs ns) (hl : ns.length ≤ sizeLine) (hr : Room k callerA)
    (F : ∀ base : Heap, K.In base → base.Ns mainGlobals mg → FnG P w K mg base k fa fd [x] sp) (hbind : ∀ (s : Shared) (u : Value), BindsTo s fd ⟨[u], []⟩ [(x, u)])
    (hsp : ∀ H : Hp, Only H → SqL K H a (ns.map V.int) → sp [.ref a] H (fun v _ => v = .bl true) fun _ _ _ => False) :
    codeAny (model P w) callerA (.call (.ref fa) ⟨[.ref a], []⟩) (fun r s' => r = .ok (.ret (.bool true)) ∧ OldK s₁.heap s'.heap ∧ s'.os = s₁.os ∧ AllBare s'.gens) s₁ := by
  -- what is tracked: the script alone, if it is none of the module's own objects
  have core : ∀ H : Hp, Only H → SqL K H a (ns.map V.int) → HOk P w H s₁.heap → (∀ b o, s₁.heap.get? b = some o → H b ≠ none → b = a ∧ K.lookup a = none) →
      codeAny (model P w) callerA (.call (.ref fa) ⟨[.ref a], []⟩) (fun r s' => r = .ok (.ret (.bool true)) ∧ OldK s₁.heap s'.heap ∧ s'.os = s₁.os ∧ AllBare s'.gens) s₁ := by
    intro H hO hS hok hA
    have stays : ∀ b o, s₁.heap.get? b = some o → (∀ xs, b = a → o = { cls := .type "list", data := .seq xs } → K.lookup b = none → False) → (hidT s₁.heap H).get? b = some o := fun b o e n => hidT_get e (by
      cases q : H b with
      | none => rfl
      | some u =>
        obtain ⟨rfl, k⟩ := hA b o e (by rw [q]; exact fun z => nomatch z)
        rw [ha] at e
        exact (n _ rfl (Option.some.inj e).symm k).elim)
    have ns' : ∀ {b : Addr} {m : Str → Option Value}, s₁.heap.Ns b m → (hidT s₁.heap H).Ns b m := fun ⟨o, es, ep, e, d, r⟩ => ⟨o, es, ep, stays _ o e (fun xs _ h _ => by rw [h] at d; cases d), d, r⟩
    have kin : K.In (hidT s₁.heap H) := fun b o e => stays b o (KX b o e) fun _ _ _ k => by rw [e] at k; cases k
    obtain ⟨mc, c1, c2⟩ := hlim
    have mod : Mod K mg (hidT s₁.heap H) := ⟨kin, ns' hns, ⟨mb, ns' hb, hbb⟩, mc, ns' c1, c2⟩
    refine codeAny_mono ((F _ kin (ns' hns)).run callerA [] s₁ H ⟨[.ref a], []⟩ [.ref a] [.ref a] _ _ hr rfl ⟨rfl, mod, fun b o e => of_hidT e, Nat.le_of_eq (hidT_size _ _), trivial, fun b hb => (List.not_mem_nil hb).elim, hok, .of_eq hg⟩ (hbind s₁ (.ref a)) (.cons rfl .nil) (hsp H hO hS)) fun r s' h => ?_
    match r, h with
    | .error e, h =>
      obtain ⟨_, _, _, _, _, _, _, _, _, _, _, _, z⟩ := h
      exact z.elim
    | .ok .next, h => exact False.elim h
    | .ok .brk, h => exact False.elim h
    | .ok .cont, h => exact False.elim h
    | .ok (.ret u), h =>
      obtain ⟨v, H', os, bare, un, hok', r', q⟩ := h
      cases (show v = .bl true from q)
      cases (show u = Value.bool true from r')
      refine ⟨rfl, OldK.of_keep fun b o e => ?_, os, bare⟩
      rcases hO b with z | ⟨ob, xs, z⟩
      · exact un.keep b o e z (by intro q; exact (List.not_mem_nil q).elim) (by simp)
      · have e1 := (hok b _ z).1
        rw [e] at e1; cases e1
        exact (hok' b _ (un.frzs b _ _ z)).1
  have rv := vals_ints hi
  have lv := hi.length
  cases hk : K.lookup a with
  | some o =>
    have e := KX a o hk
    rw [ha] at e; cases e
    exact core (fun _ => none) (fun _ => .inl rfl) (.inr ⟨_, vs.toArray, _, hk, rfl, rfl, rfl, by rw [List.size_toArray, lv]; exact hl, by simpa using rv⟩) (fun b u z => nomatch z) fun b o _ z => absurd rfl z
  | none =>
    have at1 : ∀ {b u}, (if b = a then some (HO.frz { cls := .type "list", data := .seq vs.toArray } (.lst (ns.map V.int))) else none) = some u → b = a ∧ u = HO.frz { cls := .type "list", data := .seq vs.toArray } (.lst (ns.map V.int)) := fun {b u} z => by
      by_cases hb : b = a
      · rw [if_pos hb] at z; exact ⟨hb, (Option.some.inj z).symm⟩
      · rw [if_neg hb] at z; cases z
    refine core (fun b => if b = a then some (.frz { cls := .type "list", data := .seq vs.toArray } (.lst (ns.map V.int))) else none) (fun b => ?_) (.inl (.inr ⟨{ cls := .type "list", data := .seq vs.toArray }, if_pos rfl⟩)) (fun b u z => ?_) fun b o _ z => ?_
    · by_cases hb : b = a
      · exact .inr ⟨_, _, if_pos hb⟩
      · exact .inl (if_neg hb)
    · obtain ⟨rfl, rfl⟩ := at1 z
      exact ⟨ha, by rw [List.length_map]; exact hl, vs, _, rv, ha⟩
    · by_cases hb : b = a
      · exact ⟨hb, hk⟩
      · exact absurd (if_neg hb) z
/-- a law: F gives the written part, the function object, the promise over every base -/
theorem walk_g {l : PySem.W.OpenLaw} {n k : Nat} {q : Program} {loose : List Str} {XP : (Str → Option Value) → Heap → Prop} {YP : World → Heap → Prop} {d : DefRec} {x : Str}
    (hn : l.most = some n) (hn2 : n ≤ sizeLine) (hdf : d.params.defaults = []) (hr : Room k callerA)
    (F : ∀ (w : World) (mg : Str → Option Value) (fa : Addr) (h : Heap), YP w h → h.Ns mainGlobals mg → mg d.name = some (.ref fa) →
      ∃ (K : Fg) (fd : FuncData) (fn : Fn), K.In h ∧ (∀ (s : Shared) (u : Value), BindsTo s fd ⟨[u], []⟩ [(x, u)]) ∧ Says n fn ∧
        ∀ base : Heap, K.In base → base.Ns mainGlobals mg → FnG l.prog w K mg base k fa fd [x] (spFn K mg [] 1 fn)) :
    PySem.W.WalkO q loose XP YP l.row.toRowW d [] (fun f vs => PySem.call f vs) := by
  refine Att.attach_call hn hdf fun w s₀ s₁ mg mb fa o pm cd doc a vs ns G Y ho hd hcd hmg hobj hints hlen hg => ?_
  obtain ⟨K, fd, fn, KX, hb, hS, hF⟩ := F w mg fa _ Y G.T.g hmg
  exact law_g KX G.T.g G.T.b G.T.builtins G.T.nolimit hg hobj hints (Nat.le_trans hlen hn2) hr hF hb fun H hO hq => says_sp hS hlen hO hq
end T3
namespace T3
open PySem PySem.Spec PyProof.Rows L2
mutual
def plainD : D → Bool
  | .none => true
  | .bool _ => true
  | .int i => decide (i.natAbs.log2 < 1920)
  | .str _ => true
  | .list ds => plainDs ds
  | .tuple ds => plainDs ds
  | .dict kvs => kvs.isEmpty
def plainDs : List D → Bool
  | [] => true
  | d :: ds => plainD d && plainDs ds
end
mutual
def wtD : D → Nat
  | .none => 1
  | .bool _ => 1
  | .int i => 1
  | .str x => (reprText x).length
  | .list ds => wtDs ds + 1
  | .tuple ds => wtDs ds + 1
  | .dict kvs => 1
def wtDs : List D → Nat
  | [] => 0
  | d :: ds => wtD d + wtDs ds
end
/-- a text that repr can make -/
def reprOk (d : D) : Bool := plainD d && decide (d.depth ≤ 100) && decide (wtD d ≤ 8000)
theorem join_le (sep : Str) : ∀ (ts : List Str), (Str.join sep ts).length ≤ (ts.map fun t => t.length + sep.length).sum
  | [] => Nat.le_refl 0
  | [x] => by show x.length ≤ _; simp
  | x :: y :: r => by
    show (x ++ sep ++ Str.join sep (y :: r)).length ≤ _
    rw [strLen_append, strLen_append]
    have := join_le sep (y :: r)
    simp only [List.map_cons, List.sum_cons] at this ⊢
    omega
theorem textFrom_le : ∀ (ts : List Str) (n : Nat) (b : Str), (textFrom n b ts).length ≤ b.length + (ts.map fun t => t.length + 2).sum
  | [], n, b => by simp [textFrom]
  | t :: ts, n, b => by
    have h := textFrom_le ts (n + 1) (b ++ (if n > 0 then ", " else "" : String) ++ t)
    show (textFrom (n + 1) (b ++ (if n > 0 then ", " else "" : String) ++ t) ts).length ≤ _
    refine Nat.le_trans h ?_
    simp only [List.map_cons, List.sum_cons]
    rw [strLen_append, strLen_append]
    have e1 : (Str.ofString ", ").length = 2 := by decide
    have e2 : (Str.ofString "").length = 0 := by decide
    split
    · rw [e1]; omega
    · rw [e2]; omega
theorem listText_le (ts : List Str) : (listText ts).length ≤ 2 + (ts.map fun t => t.length + 2).sum := by
  have e : listText ts = textFrom 0 "[" ts ++ "]" := rfl
  rw [e, strLen_append]
  have := textFrom_le ts 0 "["
  have e1 : ("[" : Str).length = 1 := by decide
  have e2 : ("]" : Str).length = 1 := by decide
  omega
theorem tupleText_le (ts : List Str) : (tupleText ts).length ≤ 3 + (ts.map fun t => t.length + 2).sum := by
  unfold tupleText
  have := join_le ", " ts
  have e0 : (", " : Str).length = 2 := by decide
  rw [e0] at this
  have e1 : ("(" : Str).length = 1 := by decide
  have e2 : (")" : Str).length = 1 := by decide
  have e3 : (",)" : Str).length = 2 := by decide
  rw [strLen_append, strLen_append]
  split <;> omega
mutual
theorem shown_le : ∀ d : D, plainD d = true → d.shown.length + 2 ≤ 2000 * wtD d
  | .none, _ => by simp only [PyData.shown]; decide
  | .bool b, _ => by cases b <;> simp only [PyData.shown] <;> decide
  | .int i, h => by
    have h' : i.natAbs.log2 < 1920 := by simpa [plainD] using h
    have := int_text_len_1921 h'
    simp only [PyData.shown, wtD]
    have e : (toString i : Str) = PySem.Str.ofString (toString i) := rfl
    rw [e]; omega
  | .str x, _ => by
    have := StrLaws.reprText_ge2 x
    simp only [PyData.shown, wtD]; omega
  | .list ds, h => by
    have := shownAll_le ds (by simpa [plainD] using h)
    have k := listText_le (PyData.shownAll ds)
    simp only [PyData.shown, wtD]; omega
  | .tuple ds, h => by
    have := shownAll_le ds (by simpa [plainD] using h)
    have k := tupleText_le (PyData.shownAll ds)
    simp only [PyData.shown, wtD]; omega
  | .dict kvs, h => by
    cases kvs with
    | nil => simp only [PyData.shown, PyData.shownKv, wtD]; decide
    | cons _ _ => simp [plainD] at h
theorem shownAll_le : ∀ ds : List D, plainDs ds = true → ((PyData.shownAll ds).map fun t => t.length + 2).sum ≤ 2000 * wtDs ds
  | [], _ => by simp [PyData.shownAll]
  | d :: ds, h => by
    simp only [plainDs, Bool.and_eq_true] at h
    have h1 := shown_le d h.1
    have h2 := shownAll_le ds h.2
    simp only [PyData.shownAll, List.map_cons, List.sum_cons, wtDs]; omega
end
theorem shown_fits {d : D} (h : reprOk d = true) : d.shown.length ≤ sizeLine := by
  simp only [reprOk, Bool.and_eq_true, decide_eq_true_eq] at h
  have := shown_le d h.1.1
  have e : sizeLine = 16777216 := sizeLine_eq
  omega
section
variable {X : Cx} {pins : List (Addr × Obj)} {σ : Sl} {H : Hp} {s : Shared}
theorem reads_cons_bs {h : Heap} {n m : Nat} {b1 b2 : List Addr} (h1 : ReadAtMost h n b1) (h2 : ReadAtMost h m b2) : ReadAtMost h (max n m) (b1 ++ b2) := (h1.mono (Nat.le_max_left _ _)).append (h2.mono (Nat.le_max_right _ _))
theorem rep_repr (I : Inv X pins σ H s) {v : V} {d : D} (r : Rep X.K H v d) : ∀ u, RelV v u → plainD d = true → d.shown.length ≤ sizeLine → ∃ bs as, Reads s.heap u d as ∧ ReadAtMost s.heap d.depth bs ∧ ReprK X.prog X.w bs s.heap d.depth u d.shown :=
  Rep.rec (motive_1 := fun v d _ => ∀ u, RelV v u → plainD d = true → d.shown.length ≤ sizeLine → ∃ bs as, Reads s.heap u d as ∧ ReadAtMost s.heap d.depth bs ∧ ReprK X.prog X.w bs s.heap d.depth u d.shown)
    (motive_2 := fun vs ds _ => ∀ us, Vals vs us → plainDs ds = true → (∀ t ∈ PyData.shownAll ds, t.length ≤ sizeLine) → ∃ bs as, ReadsAll s.heap us ds as ∧ ReadAtMost s.heap (PyData.depthAll ds) bs ∧ ReprAllK X.prog X.w bs s.heap (PyData.depthAll ds) us (PyData.shownAll ds))
    (fun u ru _ _ => by
      cases (show u = .none from ru)
      exact ⟨[], [], .none, (fun _ h => nomatch h), by simp only [PyData.shown]; exact .of_is ReprIs.none _ _ _⟩)
    (fun b u ru _ _ => by
      cases (show u = .bool b from ru)
      exact ⟨[], [], .bool b, (fun _ h => nomatch h), by simp only [PyData.shown]; exact .of_is (ReprIs.bool b) _ _ _⟩)
    (fun i u ru hp _ => by
      obtain ⟨t, rfl⟩ := (show ∃ t, u = .int i t from ru)
      exact ⟨[], [], .int i t, (fun _ h => nomatch h), by simp only [PyData.shown]; exact .of_is (ReprIs.int t (by simpa [plainD] using hp)) _ _ _⟩)
    (fun x u ru _ hz => by
      obtain ⟨t, rfl⟩ := (show ∃ t, u = .str x t from ru)
      exact ⟨[], [], .str x t, (fun _ h => nomatch h), by simp only [PyData.shown]; exact .of_is (ReprIs.str x t (by simpa only [PyData.shown] using hz)) _ _ _⟩)
    (fun {a xs ds} hs _ ih u ru hp hz => by
      cases (show u = .ref a from ru)
      obtain ⟨its, r', ⟨o, n, h1, h2, _, h3⟩, _⟩ := I.list hs
      have hz' : (listText (PyData.shownAll ds)).length ≤ sizeLine := by simpa only [PyData.shown] using hz
      obtain ⟨bs, as, rd, hb, hk⟩ := ih its r' (by simpa [plainD] using hp) (fun t ht => Nat.le_trans (listText_mem_le ht) hz')
      have r : Reads s.heap (.ref a) (.list ds) (a :: as) := .list h1 h2 h3 (by simpa using rd)
      have hna : a ∉ bs := not_mem_of_deeper r (by simp only [PyData.depth]; omega) hb
      refine ⟨a :: bs, _, r, ReadAtMost.cons r (by simp only [PyData.depth]; omega) hb, ?_⟩
      simp only [PyData.depth, PyData.shown]
      cases its with
      | nil =>
        cases rd
        simp only [PyData.shownAll, listText_nil]
        exact ReprK.listEmpty h1 h2 h3
      | cons x l => exact ReprK.list h1 h2 h3 hna (by simpa using hk.length_eq) (fun i y e => hk.item i y (by simpa using e)))
    (fun {a xs ds} hs _ ih u ru hp hz => by
      cases (show u = .ref a from ru)
      obtain ⟨its, r', ⟨o, h1, h2, n, h3⟩, _⟩ := I.tuple (.inl (.inl hs))
      have hz' : (tupleText (PyData.shownAll ds)).length ≤ sizeLine := by simpa only [PyData.shown] using hz
      obtain ⟨bs, as, rd, hb, hk⟩ := ih its r' (by simpa [plainD] using hp) (fun t ht => Nat.le_trans (tupleText_mem_le ht) hz')
      have r : Reads s.heap (.ref a) (.tuple ds) as := .tuple h1 h2 h3 (by simpa using rd)
      have hna : a ∉ bs := not_mem_of_deeper r (by simp only [PyData.depth]; omega) hb
      refine ⟨a :: bs, _, r, ReadAtMost.cons r (by simp only [PyData.depth]; omega) hb, ?_⟩
      simp only [PyData.depth, PyData.shown]
      exact ReprK.tuple h1 h2 h3 hna (by simpa using hk))
    (fun {a kvs ds} hs hrs ih u ru hp hz => by
      cases (show u = .ref a from ru)
      obtain ⟨_, hsys, vs, kv, o, es, ep, h1, h2, h3, _, hpr, _⟩ := dk_rd (P := X.prog) (w := X.w) I.hok hs
      cases kvs with
      | cons kv kvs =>
        cases hrs
        simp [plainD] at hp
      | nil =>
        cases kv
        have he : es.toList = [] := List.length_eq_zero_iff.mp hpr.length
        have e1 : ((([] : List (Key × V)).map fun p => kD p.1).zip ds) = [] := rfl
        have r : Reads s.heap (.ref a) (.dict []) (a :: [] ++ []) := .dict h1 h2.1 h3 (by rw [he]; exact .nil) (by rw [he]; exact .nil)
        have d1 : (PyData.dict []).depth = 1 := rfl
        refine ⟨[a], _, r, ReadAtMost.cons (n := 0) r (Nat.zero_le _) (fun _ h => nomatch h), ?_⟩
        simp only [PyData.shown, PyData.shownKv]
        exact ReprK.dict h1 h2.1 h3 hsys (fun h => nomatch h) (by rw [he]; exact .nil))
    (fun {a kvs ds} hs hrs ih u ru hp hz => by simp [plainD] at hp)
    (fun _ _ _ _ _ u ru hp hz => by simp [wD, plainD] at hp)
    (fun _ _ u ru hp hz => by simp [conD, plainD] at hp)
    (fun _ _ _ _ _ u ru hp hz => by simp [wwD, plainD] at hp)
    (fun _ _ u ru hp hz => by simp [erD, plainD] at hp)
    (fun _ _ _ _ u ru hp hz => by simp [erpD, plainD] at hp)
    (fun us r _ _ => by
      cases r
      exact ⟨[], [], .nil, (fun _ h => nomatch h), by simp only [PyData.shownAll]; exact .nil⟩)
    (fun _ _ i1 i2 us r hp hz => by
      cases r with
      | cons r1 r2 =>
        simp only [plainDs, Bool.and_eq_true] at hp
        obtain ⟨b1, a1, q1, h1, k1⟩ := i1 _ r1 hp.1 (hz _ (by simp only [PyData.shownAll]; exact List.mem_cons_self ..))
        obtain ⟨b2, a2, q2, h2, k2⟩ := i2 _ r2 hp.2 (fun t ht => hz t (by simp only [PyData.shownAll]; exact List.mem_cons_of_mem _ ht))
        refine ⟨b1 ++ b2, _, .cons q1 q2, ?_, ?_⟩
        · simp only [PyData.depthAll]; exact reads_cons_bs h1 h2
        · simp only [PyData.depthAll, PyData.shownAll]
          exact .cons ((k1.more fun b hb => List.mem_append_left _ hb).level_le (Nat.le_max_left _ _)) (k2.more_le (fun b hb => List.mem_append_right _ hb) (Nat.le_max_right _ _))) r
end
section
variable {X : Cx} {E : Sl → XK} {f : Ex} {e : Expr} {es : List Expr} {fa : Ax} {pos p : Pos} {pins : List (Addr × Obj)} {σ : Sl} {H : Hp} {s : Shared}
theorem reps_repr (I : Inv X pins σ H s) : ∀ {vs : List V} {ds : List D}, Reps X.K H vs ds → ∀ us, Vals vs us → plainDs ds = true → (∀ t ∈ PyData.shownAll ds, t.length ≤ sizeLine) →
    ∃ bs as, ReadsAll s.heap us ds as ∧ ReadAtMost s.heap (PyData.depthAll ds) bs ∧ ReprAllK X.prog X.w bs s.heap (PyData.depthAll ds) us (PyData.shownAll ds)
  | _, [], r, us, v, _, _ => by
    cases r; cases v
    exact ⟨[], [], .nil, (fun _ h => nomatch h), by simp only [PyData.shownAll]; exact .nil⟩
  | _, d :: ds, r, us, v, hp, hz => by
    cases r with
    | cons ra rb =>
      cases v with
      | cons r1 r2 =>
        simp only [plainDs, Bool.and_eq_true] at hp
        obtain ⟨b1, a1, q1, h1, k1⟩ := rep_repr I ra _ r1 hp.1 (hz _ (by simp only [PyData.shownAll]; exact List.mem_cons_self ..))
        obtain ⟨b2, a2, q2, h2, k2⟩ := reps_repr I rb _ r2 hp.2 (fun t ht => hz t (by simp only [PyData.shownAll]; exact List.mem_cons_of_mem _ ht))
        refine ⟨b1 ++ b2, _, .cons q1 q2, ?_, ?_⟩
        · simp only [PyData.depthAll]; exact reads_cons_bs h1 h2
        · simp only [PyData.depthAll, PyData.shownAll]
          exact .cons ((k1.more fun b hb => List.mem_append_left _ hb).level_le (Nat.le_max_left _ _)) (k2.more_le (fun b hb => List.mem_append_right _ hb) (Nat.le_max_right _ _))
theorem call_repr_rep {v : V} {d : D} {u : Value} {Q : VK} (hG : X.A.guards = some []) (hu : X.A.units + 160 < cLine) (I : Inv X pins σ H s) (r : Rep X.K H v d) (ru : RelV v u) (hok : reprOk d = true) (q : Q (.str d.shown) H) :
    wpAny (model X.prog X.w) X.A (call (.builtin "repr") [u]) (EP X pins σ Q) X.xe s := by
  have hz := shown_fits hok
  simp only [reprOk, Bool.and_eq_true, decide_eq_true_eq] at hok
  obtain ⟨⟨hp, hdep⟩, _⟩ := hok
  have fin : ∀ (h' : Heap) (u : Tok) (tk : Nat), (∀ b o, s.heap.get? b = some o → h'.get? b = some o) → EP X pins σ Q (.str d.shown u) { s with heap := h', toks := tk } := fun h' u tk hk => ⟨.str d.shown, H, I.kept hk, ⟨u, rfl⟩, q⟩
  have hk0 : ∀ b o, s.heap.get? b = some o → s.heap.get? b = some o := fun _ _ e => e
  have hG1 : X.A.in1.guards = some [] := hG
  cases r with
  | non =>
    cases (show u = .none from ru)
    simp only [PyData.shown] at fin
    exact PySem.P.repr_of_none (fin _ _ _ hk0)
  | bl b =>
    cases (show u = .bool b from ru)
    simp only [PyData.shown] at fin
    exact PySem.P.repr_of_bool (fin _ _ _ hk0)
  | int i =>
    obtain ⟨t, rfl⟩ := (show ∃ t, u = .int i t from ru)
    exact PySem.P.repr_of_int (by simpa [plainD] using hp) (fin _ _ _ hk0)
  | str x =>
    obtain ⟨t, rfl⟩ := (show ∃ t, u = .str x t from ru)
    exact PySem.P.repr_of_str (fin _ _ _ hk0) (by simpa only [PyData.shown] using hz)
  | @lst a xs ds hs hr =>
    cases (show u = .ref a from ru)
    obtain ⟨its, r', ⟨o, n, h1, h2, _, h3⟩, _⟩ := I.list hs
    have hz' : (listText (PyData.shownAll ds)).length ≤ sizeLine := by simpa only [PyData.shown] using hz
    obtain ⟨bs, as, rd, hb, hk⟩ := reps_repr I hr its r' (by simpa [plainD] using hp) (fun t ht => Nat.le_trans (listText_mem_le ht) hz')
    have r : Reads s.heap (.ref a) (.list ds) (a :: as) := .list h1 h2 h3 (by simpa using rd)
    have hna : a ∉ bs := not_mem_of_deeper r (by simp only [PyData.depth]; omega) hb
    simp only [PyData.depth] at hdep
    simp only [PyData.shown] at fin
    refine call_repr_slot (by omega) ⟨o, h1, h2⟩ F.slot_list_repr.toG ?_
    cases its with
    | nil =>
      cases rd
      simp only [PyData.shownAll, listText_nil] at fin
      exact call_list_repr_empty ⟨o, h1, h2⟩ h1 h3 ⟨_, _, rfl, fin _ _ _ hk0⟩
    | cons x l => exact call_list_reprK h1 h2 h3 hna (by simpa using hk.length_eq) (fun i y e => hk.item i y (by simpa using e)) hG1 (fun b _ => Clear.nil b) (by show X.A.units + 1 + _ < cLine; omega) hk0 (fun h' u tk hk' => ⟨_, _, rfl, fin h' u tk hk'⟩) hz'
  | @tup a xs ds hs hr =>
    cases (show u = .ref a from ru)
    obtain ⟨its, r', ⟨o, h1, h2, n, h3⟩, _⟩ := I.tuple (.inl (.inl hs))
    have hz' : (tupleText (PyData.shownAll ds)).length ≤ sizeLine := by simpa only [PyData.shown] using hz
    obtain ⟨bs, as, rd, hb, hk⟩ := reps_repr I hr its r' (by simpa [plainD] using hp) (fun t ht => Nat.le_trans (tupleText_mem_le ht) hz')
    have r : Reads s.heap (.ref a) (.tuple ds) as := .tuple h1 h2 h3 (by simpa using rd)
    have hna : a ∉ bs := not_mem_of_deeper r (by simp only [PyData.depth]; omega) hb
    simp only [PyData.depth] at hdep
    simp only [PyData.shown] at fin
    exact call_repr_slot (by omega) ⟨o, h1, h2⟩ F.slot_tuple_repr (call_tuple_reprK h1 h2 h3 hna (by simpa using hk) hG1 (fun b _ => Clear.nil b) (by show X.A.units + 1 + _ < cLine; omega) hk0 (fun h' u tk hk' => ⟨_, _, rfl, fin h' u tk hk'⟩) hz')
  | @dic a kvs ds hs hr =>
    cases (show u = .ref a from ru)
    obtain ⟨_, hsys, vs, kv, o, es, ep, h1, h2, h3, _, hpr, _⟩ := dk_rd (P := X.prog) (w := X.w) I.hok hs
    cases kvs with
    | cons kv kvs =>
      cases hr
      simp [plainD] at hp
    | nil =>
      cases kv
      have he : es.toList = [] := List.length_eq_zero_iff.mp hpr.length
      have hf : EP X pins σ Q = EP X pins σ Q := rfl
      have fin' : ∀ (h' : Heap) (u : Tok) (tk : Nat), (∀ b o, s.heap.get? b = some o → h'.get? b = some o) → EP X pins σ Q (.str (dictText []) u) { s with heap := h', toks := tk } := fun h' u tk hk => by
        have := fin h' u tk hk
        simpa only [PyData.shown, List.map_nil, List.zip_nil_left, PyData.shownKv] using this
      exact call_repr_slot (by omega) ⟨o, h1, h2.1⟩ F.slot_dict_repr (call_dict_reprK (as := []) (d := 0) h1 h2.1 h3 hsys (fun h => nomatch h) (by rw [he]; exact .nil) hG1 (fun b _ => Clear.nil b) (by show X.A.units + 1 + _ < cLine; omega) hk0 (fun h' u tk hk' => ⟨_, _, rfl, fin' h' u tk hk'⟩) (by decide))
  | @dicT a kvs ds hs hr => simp [plainD] at hp
  | wat _ _ _ _ => simp [wD, plainD] at hp
  | con _ _ => simp [conD, plainD] at hp
  | watG _ _ _ _ => simp [wwD, plainD] at hp
  | er _ _ => simp [erD, plainD] at hp
  | erp _ _ _ _ => simp [erpD, plainD] at hp
def bRepr : List D → Option Op
  | [d] => if reprOk d = true then some (.val (.str d.shown)) else none
  | _ => none
theorem cr_repr (hG : X.A.guards = some []) (hu : X.A.units + 160 < cLine) : CallR X (.builtin "repr") (fun xs H Q => ∃ x d, xs = [x] ∧ Rep X.K H x d ∧ reprOk d = true ∧ Q (.str d.shown) H) := by
  intro pins s σ H xs us Q I r h
  obtain ⟨x, d, rfl, hr, ho, q⟩ := h
  obtain ⟨u, rfl, rx⟩ := vals1 r
  exact call_repr_rep hG hu I hr rx ho q
theorem Pw1 {K : Fg} {A : Hp} {vs : List V} {d : D} (v : Paired (View K A H) vs [d]) : ∃ x, vs = [x] ∧ View K A H x d := by
  cases v with
  | cons a b => cases b; exact ⟨_, rfl, a⟩
theorem n_repr {K : Fg} : ImplN K (fun xs H Q => ∃ x d, xs = [x] ∧ Rep K H x d ∧ reprOk d = true ∧ Q (.str d.shown) H) bRepr := by
  intro A H vs ds o Q s v g q
  unfold bRepr at g
  split at g
  · split at g
    · rename_i d hok
      cases g; obtain ⟨v, rfl, a⟩ := Pw1 v; exact ⟨_, _, rfl, a.rep s, hok, q _ _ _ (Ext.refl s) (.str _)⟩
    · cases g
  · cases g
theorem jp_repr (hG : X.A.guards = some []) (hu : X.A.units + 160 < cLine) (hg : Gl X "repr") (hm : X.mg "repr" = none) (ha : JA X E [e] fa) (he : starEach [e] X.env = (false, eval e X.env) :: starEach [] X.env := by rfl) : JP X E (.Call (.Name "repr" p) [e] [] pos) (eCallB bRepr fa) :=
  jp_callB (cr_repr hG hu) n_repr hg hm (by decide +kernel) ha (he := he) (hpl := rfl)
end
end T3
namespace T3
open PySem PySem.Spec PyProof.Rows L2
def liftM (ms : List Nat) : Nat → List Op → Nat → List Op × En
  | _, [], _ => ([], [])
  | k, .new d :: os, n => if k ∈ ms then ((.slot n :: (liftM ms (k + 1) os (n + 1)).1), .own d :: (liftM ms (k + 1) os (n + 1)).2) else (.new d :: (liftM ms (k + 1) os n).1, (liftM ms (k + 1) os n).2)
  | k, o :: os, n => (o :: (liftM ms (k + 1) os n).1, (liftM ms (k + 1) os n).2)
def cutM (n : Nat) : Out En Op → Out En Op
  | .ok (.slot _) _ => .bad
  | .ok o e => .ok o (e.take n)
  | .exc x e => .exc x (e.take n)
  | .bad => .bad
def callX (ms : List Nat) (fn : Fn) (dflt : List D) (os : List Op) (e : En) : Out En Op := cutM e.length (callM ms fn dflt (liftM ms 0 os e.length).1 (e ++ (liftM ms 0 os e.length).2))
def eCallX (ms : List Nat) (fn : Fn) (dflt : List D) (fa : Ax) : Ex := fun env => (fa env).bind fun os e => callX ms fn dflt os e
section
variable {K : Fg} {F A H : Hp} {σ : Sl} {env : En}
theorem getD_app {env : En} {c : Cell} {j : Nat} : (env ++ [c]).getD j .no = if j = env.length then c else env.getD j .no := by
  rw [List.getD_eq_getElem?_getD, List.getD_eq_getElem?_getD]
  by_cases h : j < env.length
  · rw [List.getElem?_append_left h, if_neg (by omega)]
  · by_cases e : j = env.length
    · rw [if_pos e, e, List.getElem?_append_right (Nat.le_refl _)]; simp
    · rw [if_neg e, List.getElem?_append_right (by omega), List.getElem?_eq_none (by simp; omega), List.getElem?_eq_none (by omega)]
theorem get_app {σ : Sl} {v : Option V} {j : Nat} : (σ ++ [v])[j]? = if j = σ.length then some v else σ[j]? := by
  by_cases h : j < σ.length
  · rw [List.getElem?_append_left h, if_neg (by omega)]
  · by_cases e : j = σ.length
    · rw [if_pos e, e, List.getElem?_append_right (Nat.le_refl _)]; simp
    · rw [if_neg e, List.getElem?_append_right (by omega), List.getElem?_eq_none (by simp; omega), List.getElem?_eq_none (by omega)]
theorem SOk.push (S : SOk K F σ env H A) {v : V} {d : D} (r : OpOk K F A H σ env v (.new d)) : SOk K F (σ ++ [some v]) (env ++ [.own d]) H A := by
  obtain ⟨p, rfl, a, f, b, n⟩ := r
  have hl := S.lens
  refine ⟨S.subA, S.subF, fun i => ?_, fun i j d' e q h1 h2 h3 h4 => ?_, by rw [List.length_append, List.length_append, hl]; rfl, S.nomk⟩
  · rw [getD_app, get_app, hl]
    by_cases hi : i = σ.length
    · rw [if_pos hi, if_pos hi]; exact ⟨p, rfl, a, f, b⟩
    · rw [if_neg hi, if_neg hi]; exact S.cell i
  · rw [getD_app, hl] at h1 h2
    rw [get_app] at h3 h4
    by_cases hi : i = σ.length
    · by_cases hj : j = σ.length
      · rw [hi, hj]
      · rw [if_pos hi] at h3; cases h3
        rw [if_neg hj] at h2 h4
        exact absurd h4 (n j e h2)
    · by_cases hj : j = σ.length
      · rw [if_pos hj] at h4; cases h4
        rw [if_neg hi] at h1 h3
        exact absurd h3 (n i d' h1)
      · rw [if_neg hi] at h1 h3
        rw [if_neg hj] at h2 h4
        exact S.apart i j d' e q h1 h2 h3 h4
theorem OpOk.push (S : SOk K F σ env H A) {v w : V} {o : Op} {d : D} (r : OpOk K F A H σ env v o) (n : ∀ d', o = .new d' → v ≠ w) : OpOk K F A H (σ ++ [some w]) (env ++ [.own d]) v o := by
  have hl := S.lens
  cases o with
  | val d' => exact r
  | raw u => exact r
  | slot i =>
    have h : σ[i]? = some (some v) := r
    show (σ ++ [some w])[i]? = _
    rw [get_app, if_neg (fun z => by rw [z, List.getElem?_eq_none (Nat.le_refl _)] at h; cases h)]
    exact h
  | new d' =>
    obtain ⟨p, rfl, a, f, b, m⟩ := r
    refine ⟨p, rfl, a, f, b, fun j e hj hs => ?_⟩
    rw [getD_app, hl] at hj
    rw [get_app] at hs
    by_cases hi : j = σ.length
    · rw [if_pos hi] at hs
      exact n d' rfl (by simpa using hs.symm)
    · rw [if_neg hi] at hj hs
      exact m j e hj hs
theorem OpsOk.push (S : SOk K F σ env H A) {w : V} {d : D} : ∀ {os : List Op} {vs : List V}, OpsOk K F A H σ env os vs → (∀ (j : Nat) e, os[j]? = some (.new e) → vs[j]? ≠ some w) → OpsOk K F A H (σ ++ [some w]) (env ++ [.own d]) os vs
  | [], vs, r, _ => r
  | o :: os, vs, r, n => by
    obtain ⟨v, rs, rfl, r1, r2, r3⟩ := r
    exact ⟨v, rs, rfl, r1.push S (fun d' e z => n 0 d' (by rw [e]; rfl) (by rw [z]; rfl)), OpsOk.push S r2 (fun j e h => n (j + 1) e (by simpa using h)), r3⟩
theorem liftM_new {ms : List Nat} : ∀ {os : List Op} {k n j : Nat} {e : D}, (liftM ms k os n).1[j]? = some (.new e) → os[j]? = some (.new e)
  | [], k, n, j, e, h => by simp [liftM] at h
  | o :: os, k, n, j, e, h => by
    cases o with
    | new d =>
      unfold liftM at h
      split at h
      · cases j with
        | zero => simp at h
        | succ j => have := liftM_new (os := os) (by simpa using h); simpa using this
      · cases j with
        | zero => simpa using h
        | succ j => have := liftM_new (os := os) (by simpa using h); simpa using this
    | val d =>
      simp only [liftM] at h
      cases j with
      | zero => simpa using h
      | succ j => have := liftM_new (os := os) (by simpa using h); simpa using this
    | raw d =>
      simp only [liftM] at h
      cases j with
      | zero => simpa using h
      | succ j => have := liftM_new (os := os) (by simpa using h); simpa using this
    | slot d =>
      simp only [liftM] at h
      cases j with
      | zero => simpa using h
      | succ j => have := liftM_new (os := os) (by simpa using h); simpa using this
theorem lift_ok {ms : List Nat} : ∀ {os : List Op} {k : Nat} {σ : Sl} {env : En} {vs : List V}, SOk K F σ env H A → OpsOk K F A H σ env os vs →
    ∃ τ : Sl, SOk K F (σ ++ τ) (env ++ (liftM ms k os env.length).2) H A ∧ OpsOk K F A H (σ ++ τ) (env ++ (liftM ms k os env.length).2) (liftM ms k os env.length).1 vs ∧
      (∀ (i : Nat), i < σ.length → (σ ++ τ)[i]? = σ[i]? ∧ (env ++ (liftM ms k os env.length).2).getD i .no = env.getD i .no) ∧
      ∀ v o, OpOk K F A H σ env v o → (∀ d, o = .new d → ∀ (j : Nat) e, os[j]? = some (.new e) → vs[j]? ≠ some v) → OpOk K F A H (σ ++ τ) (env ++ (liftM ms k os env.length).2) v o
  | [], k, σ, env, vs, S, r => by
    refine ⟨[], ?_⟩
    simp only [liftM, List.append_nil]
    exact ⟨S, r, by simp, fun v o h _ => h⟩
  | o :: os, k, σ, env, vs, S, r => by
    obtain ⟨v, rs, rfl, r1, r2, r3⟩ := r
    have plain : (∀ d, o = .new d → k ∉ ms) → (liftM ms k (o :: os) env.length) = (o :: (liftM ms (k + 1) os env.length).1, (liftM ms (k + 1) os env.length).2) := fun h => by
      cases o with
      | new d => exact if_neg (h d rfl)
      | val d => rfl
      | raw d => rfl
      | slot d => rfl
    by_cases hn : ∃ d, o = .new d ∧ k ∈ ms
    · obtain ⟨d, rfl, hk⟩ := hn
      have e1 : liftM ms k (.new d :: os) env.length = (.slot env.length :: (liftM ms (k + 1) os (env.length + 1)).1, .own d :: (liftM ms (k + 1) os (env.length + 1)).2) := by
        show (if k ∈ ms then _ else _) = _
        rw [if_pos hk]
      rw [e1]
      have S1 := S.push r1
      have R1 := OpsOk.push (d := d) S r2 (w := v) (r3 d rfl)
      obtain ⟨τ, S2, R2, g2, k2⟩ := lift_ok (ms := ms) (k := k + 1) S1 R1
      have el : (env ++ [Cell.own d]).length = env.length + 1 := by simp
      have sl : (σ ++ [some v]).length = σ.length + 1 := by simp
      rw [el] at S2 R2 g2 k2
      refine ⟨some v :: τ, ?_⟩
      have e2 : ∀ l : Sl, σ ++ some v :: l = (σ ++ [some v]) ++ l := fun l => by simp
      have e3 : ∀ l : En, env ++ Cell.own d :: l = (env ++ [Cell.own d]) ++ l := fun l => by simp
      simp only
      rw [e2, e3]
      refine ⟨S2, ⟨v, rs, rfl, ?_, R2, fun d' h => nomatch h⟩, fun i hi => ?_, fun u o' h n => ?_⟩
      · show ((σ ++ [some v]) ++ τ)[env.length]? = some (some v)
        rw [(g2 env.length (by rw [sl, S.lens]; omega)).1, get_app, if_pos S.lens]
      · obtain ⟨a, b⟩ := g2 i (by rw [sl]; omega)
        refine ⟨a.trans ?_, b.trans ?_⟩
        · rw [get_app, if_neg (by omega)]
        · rw [getD_app, if_neg (by rw [S.lens]; omega)]
      · refine k2 u o' (h.push S fun d' e z => n d' e 0 d rfl (by rw [z]; rfl)) fun d' e j e' hj => ?_
        have := n d' e (j + 1) e' (by simpa using hj)
        simpa using this
    · have hp := plain fun d h hk => hn ⟨d, h, hk⟩
      rw [hp]
      obtain ⟨τ, S2, R2, g2, k2⟩ := lift_ok (ms := ms) (k := k + 1) S r2
      refine ⟨τ, S2, ⟨v, rs, rfl, k2 v o r1 r3, R2, fun d h j e hj => r3 d h j e (liftM_new hj)⟩, g2, fun u o' h n => k2 u o' h fun d' e j e' hj => ?_⟩
      have := n d' e (j + 1) e' (by simpa using hj)
      simpa using this
theorem SOk.cut {τ : Sl} {env' : En} (S : SOk K F (σ ++ τ) env' H A) : SOk K F σ (env'.take σ.length) H A := by
  have gt : ∀ i, (env'.take σ.length).getD i .no = if i < σ.length then env'.getD i .no else .no := fun i => by
    rw [List.getD_eq_getElem?_getD, List.getD_eq_getElem?_getD, List.getElem?_take]
    split <;> rfl
  have gs : ∀ i, i < σ.length → (σ ++ τ)[i]? = σ[i]? := fun i h => List.getElem?_append_left h
  refine ⟨S.subA, S.subF, fun i => ?_, fun i j d e p h1 h2 h3 h4 => ?_, ?_, S.nomk⟩
  · rw [gt]
    by_cases h : i < σ.length
    · rw [if_pos h, ← gs i h]; exact S.cell i
    · rw [if_neg h]; trivial
  · rw [gt] at h1 h2
    split at h1 <;> first | cases h1; done | skip
    split at h2 <;> first | cases h2; done | skip
    rename_i hi hj
    exact S.apart i j d e p h1 h2 ((gs i hi).trans h3) ((gs j hj).trans h4)
  · have := S.lens
    rw [List.length_append] at this
    rw [List.length_take]; omega
theorem OpOk.cut {τ : Sl} {env' : En} {v : V} {o : Op} (hn : ∀ i, o ≠ .slot i) (r : OpOk K F A H (σ ++ τ) env' v o) : OpOk K F A H σ (env'.take σ.length) v o := by
  cases o with
  | val d => exact r
  | raw d => exact r
  | slot i => exact absurd rfl (hn i)
  | new d =>
    obtain ⟨p, e, a, f, b, n⟩ := r
    refine ⟨p, e, a, f, b, fun j d' hj hs => ?_⟩
    have hl : j < σ.length := (List.getElem?_eq_some_iff.mp hs).1
    rw [List.getD_eq_getElem?_getD, List.getElem?_take, if_pos hl, ← List.getD_eq_getElem?_getD] at hj
    exact n j d' hj ((List.getElem?_append_left hl).trans hs)
theorem callX_ok {mg : Str → Option Value} {E : Sl → XK} {ms : List Nat} {fn : Fn} {dflt : List D} {dvs : List V} {os : List Op} {vs : List V} {np : Nat} {Q : VK} (S : SOk K F σ env H A) (r : OpsOk K F A H σ env os vs) (dd : ∀ A, Reps K A dvs dflt)
    (hnp : vs.length + dvs.length = np) (h : match callX ms fn dflt os env with
      | .ok o env' => ∀ v H' A', SOk K F σ env' H' A' → Grow F A A' → OpOk K F A' H' σ env' v o → Q v H'
      | .exc n env' => ∀ C H' A', XN mg n C A' → SOk K F σ env' H' A' → Grow F A A' → E σ (.ref C.1) C.2 H'
      | .bad => False) : spFn K mg ms np fn (vs ++ dvs) H Q (E σ) := by
  obtain ⟨τ, S1, R1, _, _⟩ := lift_ok (ms := ms) (k := 0) S r
  refine call_ok (E := fun _ => E σ) S1 R1 dd hnp ?_
  unfold callX at h
  generalize callM ms fn dflt (liftM ms 0 os env.length).1 (env ++ (liftM ms 0 os env.length).2) = z at h ⊢
  cases z with
  | bad => exact h
  | exc n e => exact fun C H' A' m S' g => h C H' A' m (by rw [S.lens]; exact S'.cut) g
  | ok o e =>
    cases o with
    | slot i => exact h.elim
    | val d => exact fun v H' A' S' g r' => h v H' A' (by rw [S.lens]; exact S'.cut) g (by rw [S.lens]; exact r'.cut (fun i h => nomatch h))
    | raw d => exact fun v H' A' S' g r' => h v H' A' (by rw [S.lens]; exact S'.cut) g (by rw [S.lens]; exact r'.cut (fun i h => nomatch h))
    | new d => exact fun v H' A' S' g r' => h v H' A' (by rw [S.lens]; exact S'.cut) g (by rw [S.lens]; exact r'.cut (fun i h => nomatch h))
end
section
variable {K : Fg} {mg : Str → Option Value} {E : Sl → XK} {fa : Ax} {σ : Sl} {H : Hp} {ms : List Nat} {fn : Fn} {dflt : List D} {dvs : List V} {np : Nat}
theorem tJ_callX (dd : ∀ A, Reps K A dvs dflt) {n : Nat} (hn : n + dvs.length = np) (hl : ArgLen n fa) {Q : VK} (h : tJ K mg E (eCallX ms fn dflt fa) σ H Q) : tJA K mg E fa σ H fun vs H1 => spFn K mg ms np fn (vs ++ dvs) H1 Q (E σ) := by
  obtain ⟨env, A, F, S, h⟩ := h
  refine ⟨env, A, F, S, ?_⟩
  unfold eCallX at h
  cases e : fa env with
  | bad => rw [e] at h; exact h
  | exc n e' => rw [e] at h; exact h
  | ok os e' =>
    rw [e] at h
    intro vs H1 A1 S1 g1 r1
    refine callX_ok S1 r1 dd (by rw [r1.len, hl env os e' e]; exact hn) ?_
    simp only [Out.bind] at h
    cases hc : callX ms fn dflt os e' with
    | bad => rw [hc] at h; exact h
    | exc n e2 => rw [hc] at h; exact fun C H' A' m S' g' => h C H' A' m S' (g1.trans g')
    | ok o e2 => rw [hc] at h; exact fun v H' A' S' g' r' => h v H' A' S' (g1.trans g') r'
end
section
variable {X : Cx} {k : Nat} {f : Addr} {fd : FuncData} {ps : List Str} {dvs : List V} {ds : List Value} {E : Sl → XK} {x : Str} {p pos : Pos} {e : Expr} {es : List Expr}
theorem jp_callX {fa : Ax} {ms : List Nat} {fn : Fn} {dflt : List D} {n np : Nat} (F : FnG X.prog X.w X.K X.mg X.base k f fd ps (spFn X.K X.mg ms np fn)) (hr : Room k X.A) (hG : X.A.guards = some []) (hg : Gl X x) (hm : X.mg x = some (.ref f)) (hk : PySem.W.keepIn X.K (.ref f) = true) (hb : Binds X.K fd ps ds)
    (hd : Vals dvs ds) (dd : ∀ A, Reps X.K A dvs dflt) (hn : n + dvs.length = np) (hl : ArgLen n fa) (hx : ∀ σ, PassesAt (L2.CX X.prog X.w) X σ (E σ)) (ha : JA X E (e :: es) fa) (hdb : (x == ("__debug__" : Str)) = false := by decide)
    (he : starEach (e :: es) X.env = (false, eval e X.env) :: starEach es X.env := by rfl) (hpl : (backTo pos (starEach es X.env)).any (·.1) = false := by rfl) :
    JP X E (.Call (.Name x p) (e :: es) [] pos) (eCallX ms fn dflt fa) := impE (pe_callG F hr hG hg hm hk hb hd hx ha hdb he hpl) fun σ H Q h => tJ_callX dd hn hl h
end
end T3
namespace T3
open PySem PySem.Spec PyProof.Rows L2
def sDes (g : Gx) (f : Ex) : Sx := fun env => (f env).bind fun o e => match frz1 o e with
  | some (d, e2) => (match g d e2 with
    | some e3 => .ok .nx e3
    | none => .bad)
  | none => .bad
def gIdx (i : Nat) (fi : Ex) : Gx := fun d e => match getM (e.getD i .no) with
  | some _ => (match fi e with
    | .ok oi e2 => (match res oi e2 with
      | some (.int k) => (match getM (e2.getD i .no) with
        | some (.list xs) => (match ixN xs.length k with
          | some j => some (e2.set i (setM (e2.getD i .no) (.list (xs.set j d))))
          | none => none)
        | _ => none)
      | _ => none)
    | _ => none)
  | none => none
def eDict0 : Ex := fun env => .ok (.new (.dict [])) env
section
variable {X : Cx} {E : Sl → XK} {pos p : Pos} {e : Expr} {es : List Expr} {fa : Ax}
def bStr : List D → Option Op
  | [.int i] => if i.natAbs.log2 < 1920 then some (.val (.str (toString i))) else none
  | _ => none
def bTuple : List D → Option Op
  | [.list ds] => some (.val (.tuple ds))
  | [.tuple ds] => some (.val (.tuple ds))
  | _ => none
end
end T3
namespace T3
open PySem PySem.Spec PyProof.Rows L2
def sBreak : Sx := fun env => .ok .bk env
def sCont : Sx := fun env => .ok .ct env
def sRetN : Sx := fun env => .ok (.rt (.val .none)) env
theorem jp_negc {X : Cx} {E : Sl → XK} {i : Int} {k : Nat} {p p2 : Pos} : JP X E (.UnaryOp .USub (.Constant (.int i) k p) p2) (eC (.int (-i))) :=
  impE (pe_un un_neg pe_int) fun σ H Q h => ⟨i, rfl, tJ_c (fun _ => .int (-i)) h⟩
theorem u160 {k : Nat} {A : Around} (r : Room k A) : A.units + 160 < cLine := by have := r.un; omega
theorem u65 {k : Nat} {A : Around} (r : Room k A) : A.units + 65 < cLine := by have := r.un; omega
theorem xVE : ExcBaseFacts "ValueError" "ValueError.__new__" "ValueError.__init__" He.veBase := PySem.F.excBase_ValueError
end T3
namespace T3
open PySem PySem.Spec PyProof.Rows L2
/-- told as a step of its own -/
theorem nr {γ : Sort _} {a b : γ} (h : a = b) : a = b := Eq.trans h (Eq.refl b)
section
variable {α β : Type}
def kCons (g : Ax) : Op → En → Out En (List Op) := fun o e => (g e).bind fun os e2 => .ok (o :: os) e2
def kCons2 (o : Op) : List Op → En → Out En (List Op) := fun os e2 => .ok (o :: os) e2
def kOp (g : D → D → Option Op) (fb : Ex) : Op → En → Out En Op := fun o1 e1 => (fb e1).bind fun o2 e2 => match res o1 e2 with
  | some d1 => (match res o2 e2 with | some d2 => fin (g d1 d2) e2 | none => .bad)
  | none => .bad
def kOp2 (g : D → D → Option Op) (o1 : Op) : Op → En → Out En Op := fun o2 e2 => match res o1 e2 with
  | some d1 => (match res o2 e2 with | some d2 => fin (g d1 d2) e2 | none => .bad)
  | none => .bad
def kArg (g : List D → Option Op) : List Op → En → Out En Op := fun os e => match resAll os e with
  | some ds => fin (g ds) e
  | none => .bad
def kOne (k : D → Option Op) : Op → En → Out En Op := fun o e => match res o e with
  | some d => fin (k d) e
  | none => .bad
def kFrz (k : List D → Option Op) : List Op → En → Out En Op := fun os e => match frzAll os e with
  | some (ds, e2) => fin (k ds) e2
  | none => .bad
def kOf : Op → En → Out En Bool := fun o e => match o with
  | .val (.bool b) => .ok b e
  | .slot i => (match e.getD i .no with | .v (.bool b) => .ok b e | _ => .bad)
  | _ => .bad
def kCond (a b : Tx) : Bool → En → Out En Bool := fun c e => if c = true then a e else b e
def kNot : Bool → En → Out En Bool := fun c e => .ok (!c) e
def kCondE (a b : Ex) : Bool → En → Out En Op := fun c e => if c = true then a e else b e
def kCondS (a b : Sx) : Bool → En → Out En Fl := fun c e => if c = true then a e else b e
def kSeq (b : Sx) : Fl → En → Out En Fl := fun fl e => match fl with
  | .nx => b e
  | fl => .ok fl e
def kSet (i : Nat) : Op → En → Out En Fl := fun o e => match put i o e with
  | some e2 => .ok .nx e2
  | none => .bad
def kDrop : Op → En → Out En Fl := fun _ e => .ok .nx e
def kPar (is : List Nat) : List Op → En → Out En Fl := fun os e => match unslots os e with
  | some (os1, e1) => (match putAll is os1 e1 with | some e2 => .ok .nx e2 | none => .bad)
  | none => .bad
def kDes (g : Gx) : Op → En → Out En Fl := fun o e => match frz1 o e with
  | some (d, e2) => (match g d e2 with
    | some e3 => .ok .nx e3
    | none => .bad)
  | none => .bad
def kStore (i : Nat) (fi : Ex) : Op → En → Out En Fl := fun o e1 => match getM (e1.getD i .no) with
  | some _ => (fi e1).bind fun oi e2 => (match res oi e2 with
    | some (.int k) => (match frz1 o e2 with
      | some (d, e3) => (match getM (e3.getD i .no) with
        | some (.list xs) => (match ixN xs.length k with
          | some j => .ok .nx (e3.set i (setM (e3.getD i .no) (.list (xs.set j d))))
          | none => .bad)
        | _ => .bad)
      | none => .bad)
    | _ => .bad)
  | none => .bad
def kStore2 (i : Nat) (o : Op) : Op → En → Out En Fl := fun oi e2 => match res oi e2 with
    | some (.int k) => (match frz1 o e2 with
      | some (d, e3) => (match getM (e3.getD i .no) with
        | some (.list xs) => (match ixN xs.length k with
          | some j => .ok .nx (e3.set i (setM (e3.getD i .no) (.list (xs.set j d))))
          | none => .bad)
        | _ => .bad)
      | none => .bad)
    | _ => .bad
def kAug (i : Nat) (g : Int → Int → Int) (a : Int) : Op → En → Out En Fl := fun o e => match res o e with
    | some (.int b) => if i < e.length then .ok .nx (e.set i (.v (.int (g a b)))) else .bad
    | _ => .bad
def kMeth (i : Nat) (k : D → List D → Option (D × D)) : List Op → En → Out En Op := fun os e => match frzAll os e with
    | some (ds, e2) => (match getM (e2.getD i .no) with
      | some d => (match k d ds with
        | some (r, d') => .ok (.val r) (e2.set i (setM (e2.getD i .no) d'))
        | none => .bad)
      | none => .bad)
    | none => .bad
def kExt (i : Nat) : Op → En → Out En Op := fun o e => match getM (e.getD i .no) with
    | some (.list xs) => (match ownList o e with
      | some ys => if xs.length + ys.length ≤ sizeLine then .ok (.val .none) (e.set i (setM (e.getD i .no) (.list (xs ++ ys)))) else .bad
      | none => .bad)
    | _ => .bad
def kRead (ok : D → Bool) (g : D → D → Option Op) (fb : Ex) : Op → En → Out En Op := fun o1 e1 => match res o1 e1 with
  | some d0 => if ok d0 = true then (fb e1).bind fun o2 e2 => (match res o1 e2 with
    | some d1 => (match res o2 e2 with | some d2 => fin (g d1 d2) e2 | none => .bad)
    | none => .bad) else .bad
  | none => .bad
def kChain (g1 g2 : D → D → Option Op) (fb fc : Ex) : Op → En → Out En Op := fun o1 e1 => (fb e1).bind fun o2 e2 => match res o1 e2 with
  | some d1 => (match res o2 e2 with
    | some d2 => (match g1 d1 d2 with
      | some (.val (.bool true)) => (fc e2).bind fun o3 e3 => (match res o2 e3 with
        | some d2' => (match res o3 e3 with | some d3 => fin (g2 d2' d3) e3 | none => .bad)
        | none => .bad)
      | some (.val (.bool false)) => .ok (.val (.bool false)) e2
      | _ => .bad)
    | none => .bad)
  | none => .bad
def kChain3 (g2 : D → D → Option Op) (o2 : Op) : Op → En → Out En Op := fun o3 e3 => match res o2 e3 with
        | some d2' => (match res o3 e3 with | some d3 => fin (g2 d2' d3) e3 | none => .bad)
        | none => .bad
def kChain2 (g1 g2 : D → D → Option Op) (fc : Ex) (o1 : Op) : Op → En → Out En Op := fun o2 e2 => match res o1 e2 with
  | some d1 => (match res o2 e2 with
    | some d2 => (match g1 d1 d2 with
      | some (.val (.bool true)) => (fc e2).bind (kChain3 g2 o2)
      | some (.val (.bool false)) => .ok (.val (.bool false)) e2
      | _ => .bad)
    | none => .bad)
  | none => .bad
def kSome : Op → En → Out En (Option Int) := fun o e => match res o e with
  | some (.int i) => .ok (some i) e
  | _ => .bad
def kSlice (a b : Ox) : Op → En → Out En Op := fun o e => (a e).bind fun l e1 => (b e1).bind fun u e2 => match res o e2 with
  | some (.list ds) => .ok (.new (.list (cutD ds l u))) e2
  | some (.tuple ds) => .ok (.val (.tuple (cutD ds l u))) e2
  | some (.str z) => if z.length ≤ sizeLine then .ok (.val (.str (cutS z l u))) e2 else .bad
  | _ => .bad
def kSlice3 (o : Op) (l : Option Int) : Option Int → En → Out En Op := fun u e2 => match res o e2 with
  | some (.list ds) => .ok (.new (.list (cutD ds l u))) e2
  | some (.tuple ds) => .ok (.val (.tuple (cutD ds l u))) e2
  | some (.str z) => if z.length ≤ sizeLine then .ok (.val (.str (cutS z l u))) e2 else .bad
  | _ => .bad
def kSlice2 (b : Ox) (o : Op) : Option Int → En → Out En Op := fun l e1 => (b e1).bind (kSlice3 o l)
def kFor (g : Gx) (b : Sx) : List D → En → Out En Fl := fun ds e => fLoop g b ds e
def kLoop (g : Gx) (b : Sx) (ds : List D) : Fl → En → Out En Fl := fun fl e2 => match fl with
      | .nx => fLoop g b ds e2
      | .ct => fLoop g b ds e2
      | .bk => .ok .nx e2
      | .rt o => .ok (.rt o) e2
def kWh (t : Tx) (b : Sx) (n : Nat) : Bool → En → Out En Fl := fun c e => if c = true then (b e).bind fun fl e2 => (match fl with
    | .nx => wLoop t b n e2
    | .ct => wLoop t b n e2
    | .bk => .ok .nx e2
    | .rt o => .ok (.rt o) e2) else .ok .nx e
def kWh2 (t : Tx) (b : Sx) (n : Nat) : Fl → En → Out En Fl := fun fl e2 => match fl with
    | .nx => wLoop t b n e2
    | .ct => wLoop t b n e2
    | .bk => .ok .nx e2
    | .rt o => .ok (.rt o) e2
def kLc (vs : List Nat) (g : Gx) (tt : Tx) (fe : Ex) : List D → En → Out En Op := fun ds e1 => (lcLoop g tt fe vs ds [] (wipeE e1 vs)).bind fun l e2 => match restore e1 e2 vs with
  | some e3 => .ok (.new (.list l)) e3
  | none => .bad
def kLc2 (vs : List Nat) (e1 : En) : List D → En → Out En Op := fun l e2 => match restore e1 e2 vs with
  | some e3 => .ok (.new (.list l)) e3
  | none => .bad
def kLst : Op → En → Out En (List D) := fun o e => match frz1 o e with
  | some (.list ds, e2) => .ok ds e2
  | _ => .bad
def kTupI : Op → En → Out En (List D) := fun o e => match frz1 o e with
  | some (.tuple ds, e2) => .ok ds e2
  | _ => .bad
def kRg1 : List Op → En → Out En (List D) := fun os e => match resAll os e with
  | some [.int n] => if -(2 ^ 62) ≤ n ∧ n < 2 ^ 62 then .ok (rangeD 0 n) e else .bad
  | _ => .bad
def kCall (ms : List Nat) (fn : Fn) (dflt : List D) : List Op → En → Out En Op := fun os e => callM ms fn dflt os e
def kCallX (ms : List Nat) (fn : Fn) (dflt : List D) : List Op → En → Out En Op := fun os e => callX ms fn dflt os e
theorem bind_ok (a : α) (s : En) (k : α → En → Out En β) : (Out.ok a s : Out En α).bind k = k a s := nr rfl
theorem bind_exc (n : Xn) (s : En) (k : α → En → Out En β) : (Out.exc n s : Out En α).bind k = .exc n s := nr rfl
theorem bind_bad (k : α → En → Out En β) : (Out.bad : Out En α).bind k = .bad := nr rfl
end
section
variable (f fa fb fc fe : Ex) (ga : Ax) (t a b : Tx) (s s' : Sx) (e e1 : En) (o o1 o2 o3 : Op) (os : List Op) (g : D → D → Option Op) (g1 : D → Option Op) (gn : List D → Option Op) (i : Nat) (c : Bool) (is : List Nat) (gx : Gx) (fl : Fl) (ox oy : Ox) (l u : Option Int) (ix : Ix) (ds : List D) (n : Nat) (ms : List Nat) (fn : Fn)
/-- expressions -/
theorem ev_c (d : D) : eC d e = .ok (.val d) e := nr rfl
theorem ev_nil : eNil e = .ok [] e := nr rfl
theorem ev_cons : eCons f ga e = (f e).bind (kCons ga) := nr rfl
theorem kv_cons : kCons ga o e = (ga e).bind (kCons2 o) := nr rfl
theorem kv_cons2 : kCons2 o os e = .ok (o :: os) e := nr rfl
theorem ev_two : eOp2 g fa fb e = (fa e).bind (kOp g fb) := nr rfl
theorem kv_two : kOp g fb o e = (fb e).bind (kOp2 g o) := nr rfl
theorem kv_two2 : kOp2 g o1 o2 e = (match res o1 e with
  | some d1 => (match res o2 e with | some d2 => fin (g d1 d2) e | none => .bad)
  | none => .bad) := nr rfl
theorem ev_one : eOne g1 f e = (f e).bind (kOne g1) := nr rfl
theorem kv_one : kOne g1 o e = (match res o e with
  | some d => fin (g1 d) e
  | none => .bad) := nr rfl
theorem ev_callB : eCallB gn ga e = (ga e).bind (kArg gn) := nr rfl
theorem kv_args : kArg gn os e = (match resAll os e with
  | some ds => fin (gn ds) e
  | none => .bad) := nr rfl
theorem ev_frz : eFrz gn ga e = (ga e).bind (kFrz gn) := nr rfl
theorem kv_frz : kFrz gn os e = (match frzAll os e with
  | some (ds, e2) => fin (gn ds) e2
  | none => .bad) := nr rfl
theorem fin_some : fin (some o) e = .ok o e := nr rfl
theorem ev_if : eIf t fa fb e = (t e).bind (kCondE fa fb) := nr rfl
theorem kv_condE : kCondE fa fb c e = if c = true then fa e else fb e := nr rfl
theorem ev_and : eAndM fa fb e = (tOf fa e).bind (kCondE fb (eC (.bool false))) := nr rfl
theorem ev_or : eOrM fa fb e = (tOf fa e).bind (kCondE (eC (.bool true)) fb) := nr rfl
def kNotE : Bool → En → Out En Op := fun c e => .ok (.val (.bool (!c))) e
theorem ev_not : eNotM fa e = (tOf fa e).bind kNotE := nr rfl
theorem kv_notE : kNotE c e = .ok (.val (.bool (!c))) e := nr rfl
theorem ev_slice : eSlice f ox oy e = (f e).bind (kSlice ox oy) := nr rfl
theorem kv_slice : kSlice ox oy o e = (ox e).bind (kSlice2 oy o) := nr rfl
theorem kv_slice2 : kSlice2 oy o l e = (oy e).bind (kSlice3 o l) := nr rfl
theorem kv_slice3 : kSlice3 o l u e = (match res o e with
  | some (.list ds) => .ok (.new (.list (cutD ds l u))) e
  | some (.tuple ds) => .ok (.val (.tuple (cutD ds l u))) e
  | some (.str z) => if z.length ≤ sizeLine then .ok (.val (.str (cutS z l u))) e else .bad
  | _ => .bad) := nr rfl
theorem ev_none : oNone e = .ok none e := nr rfl
theorem ev_some : oSome f e = (f e).bind kSome := nr rfl
theorem kv_some : kSome o e = (match res o e with
  | some (.int i) => .ok (some i) e
  | _ => .bad) := nr rfl
def dRev : D → Option Op := fun d => match d with | .list ds => some (.new (.list ds.reverse)) | _ => none
theorem dRev_l : dRev (.list ds) = some (.new (.list ds.reverse)) := nr rfl
theorem ev_rev : eRev f e = (f e).bind (kOne dRev) := nr rfl
theorem ev_chain (g2 : D → D → Option Op) : eChain g g2 fa fb fc e = (fa e).bind (kChain g g2 fb fc) := nr rfl
theorem kv_chain (g2 : D → D → Option Op) : kChain g g2 fb fc o e = (fb e).bind (kChain2 g g2 fc o) := nr rfl
theorem kv_chain2 (g2 : D → D → Option Op) : kChain2 g g2 fc o1 o2 e = (match res o1 e with
  | some d1 => (match res o2 e with
    | some d2 => (match g d1 d2 with
      | some (.val (.bool true)) => (fc e).bind (kChain3 g2 o2)
      | some (.val (.bool false)) => .ok (.val (.bool false)) e
      | _ => .bad)
    | none => .bad)
  | none => .bad) := nr rfl
theorem kv_chain3 (g2 : D → D → Option Op) : kChain3 g2 o2 o3 e = (match res o2 e with
        | some d2' => (match res o3 e with | some d3 => fin (g2 d2' d3) e | none => .bad)
        | none => .bad) := nr rfl
theorem ev_read (ok : D → Bool) : eRead ok g fa fb e = (fa e).bind (kRead ok g fb) := nr rfl
theorem kv_read (ok : D → Bool) : kRead ok g fb o1 e1 = (match res o1 e1 with
  | some d0 => if ok d0 = true then (fb e1).bind (kOp2 g o1) else .bad
  | none => .bad) := nr rfl
theorem ev_call : eCall ms fn ds ga e = (ga e).bind (kCall ms fn ds) := nr rfl
theorem ev_callX : eCallX ms fn ds ga e = (ga e).bind (kCallX ms fn ds) := nr rfl
theorem kv_call : kCall ms fn ds os e = callM ms fn ds os e := nr rfl
theorem kv_callX : kCallX ms fn ds os e = callX ms fn ds os e := nr rfl
theorem ev_lc : eLc is ix gx t fe e = (ix e).bind (kLc is gx t fe) := nr rfl
theorem kv_lc : kLc is gx t fe ds e1 = (lcLoop gx t fe is ds [] (wipeE e1 is)).bind (kLc2 is e1) := nr rfl
theorem kv_lc2 (e2 : En) : kLc2 is e1 ds e2 = (match restore e1 e2 is with
  | some e3 => .ok (.new (.list ds)) e3
  | none => .bad) := nr rfl
/-- tests -/
theorem ev_of : tOf f e = (f e).bind kOf := nr rfl
theorem kv_of_b (c : Bool) : kOf (.val (.bool c)) e = .ok c e := nr rfl
theorem kv_of_s : kOf (.slot i) e = (match e.getD i .no with | .v (.bool b) => .ok b e | _ => .bad) := nr rfl
theorem ev_tnot : tNotM t e = (t e).bind kNot := nr rfl
theorem kv_not : kNot c e = .ok (!c) e := nr rfl
def tF : Tx := fun e => .ok false e
def tT : Tx := fun e => .ok true e
theorem ev_tand : tAndM a b e = (a e).bind (kCond b tF) := nr rfl
theorem ev_tor : tOrM a b e = (a e).bind (kCond tT b) := nr rfl
theorem kv_cond : kCond a b c e = if c = true then a e else b e := nr rfl
theorem ev_tF : tF e = .ok false e := nr rfl
theorem ev_tT : tT e = .ok true e := nr rfl
theorem ev_yes : tYesM e = .ok true e := nr rfl
/-- statements -/
theorem ev_seq : sSeq s s' e = (s e).bind (kSeq s') := nr rfl
theorem kv_seq : kSeq s .nx e = s e := nr rfl
theorem kv_seq_rt : kSeq s (.rt o) e = .ok (.rt o) e := nr rfl
theorem kv_seq_bk : kSeq s .bk e = .ok .bk e := nr rfl
theorem kv_seq_ct : kSeq s .ct e = .ok .ct e := nr rfl
theorem ev_sif : sIf t s s' e = (t e).bind (kCondS s s') := nr rfl
theorem kv_condS : kCondS s s' c e = if c = true then s e else s' e := nr rfl
theorem ev_next : sNext e = .ok .nx e := nr rfl
theorem ev_break : sBreak e = .ok .bk e := nr rfl
theorem ev_cont : sCont e = .ok .ct e := nr rfl
theorem ev_retN : sRetN e = .ok (.rt (.val .none)) e := nr rfl
theorem ev_raise (x : Str) : sRaise x e = .exc x e := nr rfl
theorem ev_set : sSet i f e = (f e).bind (kSet i) := nr rfl
theorem kv_set : kSet i o e = (match put i o e with
  | some e2 => .ok .nx e2
  | none => .bad) := nr rfl
theorem ev_drop : sDrop f e = (f e).bind kDrop := nr rfl
theorem kv_drop : kDrop o e = .ok .nx e := nr rfl
theorem ev_ret : sRet f e = (f e).bind retOp := nr rfl
theorem ev_par : sPar is ga e = (ga e).bind (kPar is) := nr rfl
theorem kv_par : kPar is os e = (match unslots os e with
  | some (os1, e1) => (match putAll is os1 e1 with | some e2 => .ok .nx e2 | none => .bad)
  | none => .bad) := nr rfl
theorem ev_des : sDes gx f e = (f e).bind (kDes gx) := nr rfl
theorem kv_des : kDes gx o e = (match frz1 o e with
  | some (d, e2) => (match gx d e2 with
    | some e3 => .ok .nx e3
    | none => .bad)
  | none => .bad) := nr rfl
theorem ev_store : sStore i fa fb e = (fa e).bind (kStore i fb) := nr rfl
theorem kv_store : kStore i fb o e = (match getM (e.getD i .no) with
  | some _ => (fb e).bind (kStore2 i o)
  | none => .bad) := nr rfl
theorem kv_store2 : kStore2 i o o2 e = (match res o2 e with
    | some (.int k) => (match frz1 o e with
      | some (d, e3) => (match getM (e3.getD i .no) with
        | some (.list xs) => (match ixN xs.length k with
          | some j => .ok .nx (e3.set i (setM (e3.getD i .no) (.list (xs.set j d))))
          | none => .bad)
        | _ => .bad)
      | none => .bad)
    | _ => .bad) := nr rfl
theorem ev_aug (h : Int → Int → Int) : sAug i h f e = (match e.getD i .no with
  | .v (.int a) => (f e).bind (kAug i h a)
  | _ => .bad) := nr rfl
theorem kv_aug (h : Int → Int → Int) (a : Int) : kAug i h a o e = (match res o e with
    | some (.int b) => if i < e.length then .ok .nx (e.set i (.v (.int (h a b)))) else .bad
    | _ => .bad) := nr rfl
theorem ev_meth (k : D → List D → Option (D × D)) : eMeth i k ga e = (match getM (e.getD i .no) with
  | some (.list _) => (ga e).bind (kMeth i k)
  | _ => .bad) := nr rfl
theorem kv_meth (k : D → List D → Option (D × D)) : kMeth i k os e = (match frzAll os e with
    | some (ds, e2) => (match getM (e2.getD i .no) with
      | some d => (match k d ds with
        | some (r, d') => .ok (.val r) (e2.set i (setM (e2.getD i .no) d'))
        | none => .bad)
      | none => .bad)
    | none => .bad) := nr rfl
theorem ev_ext : eExtend i f e = (match getM (e.getD i .no) with
  | some (.list _) => (f e).bind (kExt i)
  | _ => .bad) := nr rfl
theorem kv_ext : kExt i o e = (match getM (e.getD i .no) with
    | some (.list xs) => (match ownList o e with
      | some ys => if xs.length + ys.length ≤ sizeLine then .ok (.val .none) (e.set i (setM (e.getD i .no) (.list (xs ++ ys)))) else .bad
      | none => .bad)
    | _ => .bad) := nr rfl
/-- loops -/
theorem ev_for : sFor ix gx s e = (ix e).bind (kFor gx s) := nr rfl
theorem kv_for : kFor gx s ds e = fLoop gx s ds e := nr rfl
theorem loop_nil : fLoop gx s [] e = .ok .nx e := nr rfl
theorem kv_loop_nx : kLoop gx s ds .nx e = fLoop gx s ds e := nr rfl
theorem kv_loop_ct : kLoop gx s ds .ct e = fLoop gx s ds e := nr rfl
theorem kv_loop_bk : kLoop gx s ds .bk e = .ok .nx e := nr rfl
theorem kv_loop_rt : kLoop gx s ds (.rt o) e = .ok (.rt o) e := nr rfl
theorem kv_wh : kWh t s n c e = if c = true then (s e).bind (kWh2 t s n) else .ok .nx e := nr rfl
theorem kv_wh_nx : kWh2 t s n .nx e = wLoop t s n e := nr rfl
theorem kv_wh_ct : kWh2 t s n .ct e = wLoop t s n e := nr rfl
theorem kv_wh_bk : kWh2 t s n .bk e = .ok .nx e := nr rfl
theorem kv_wh_rt : kWh2 t s n (.rt o) e = .ok (.rt o) e := nr rfl
theorem ev_ilst : iLst f e = (f e).bind kLst := nr rfl
theorem kv_lst : kLst o e = (match frz1 o e with
  | some (.list ds, e2) => .ok ds e2
  | _ => .bad) := nr rfl
theorem ev_itup : iTupM f e = (f e).bind kTupI := nr rfl
theorem kv_itup : kTupI o e = (match frz1 o e with
  | some (.tuple ds, e2) => .ok ds e2
  | _ => .bad) := nr rfl
end
section
variable (i j : Int) (xs ys ds : List D) (d e : D) (b c : Bool) (p : Int → Int → Bool) (x y : Str) (en : En) (o : Op) (os : List Op) (n : Nat)
theorem add_i : dAdd (.int i) (.int j) = some (.val (.int (i + j))) := nr rfl
theorem add_l : dAdd (.list xs) (.list ys) = if xs.length + ys.length ≤ sizeLine then some (.new (.list (xs ++ ys))) else none := nr rfl
theorem sub_i : dSub (.int i) (.int j) = some (.val (.int (i - j))) := nr rfl
theorem mul_i : dMul (.int i) (.int j) = if mulOk i j then some (.val (.int (i * j))) else none := nr rfl
theorem div_i : dDiv (.int i) (.int j) = if divOk j then some (.val (.int (i.fdiv j))) else none := nr rfl
theorem mod_i : dMod (.int i) (.int j) = if j ≠ 0 then some (.val (.int (i.fmod j))) else none := nr rfl
theorem pow_i : dPow (.int i) (.int j) = if powOk i j then some (.val (.int (i ^ j.toNat))) else none := nr rfl
theorem cmp_i : dCmp p (.int i) (.int j) = some (.val (.bool (p i j))) := nr rfl
theorem eq_d : dEq d e = if isSS d e || (SeqAt.shaped d && SeqAt.shaped e) then some (.val (.bool (PyData.eqv d e))) else dLen false d e := nr rfl
theorem ne_d : dNe d e = if isSS d e || (SeqAt.shaped d && SeqAt.shaped e) then some (.val (.bool (!PyData.eqv d e))) else dLen true d e := nr rfl
theorem is_nn : dIs .none .none = some (.val (.bool true)) := nr rfl
theorem is_bb : dIs (.bool b) (.bool c) = some (.val (.bool (decide (b = c)))) := nr rfl
theorem is_in : dIs (.int i) .none = some (.val (.bool false)) := nr rfl
theorem is_bn : dIs (.bool b) .none = some (.val (.bool false)) := nr rfl
theorem is_ln : dIs (.list xs) .none = some (.val (.bool false)) := nr rfl
theorem is_tn : dIs (.tuple xs) .none = some (.val (.bool false)) := nr rfl
theorem ix_l : dIx (.list ds) (.int i) = (atI ds i).map .val := nr rfl
theorem ix_t : dIx (.tuple ds) (.int i) = (atI ds i).map .val := nr rfl
theorem isi_d (T : String) : dIsi T d = some (.val (.bool (isiB T d))) := nr rfl
theorem abs_i : bAbs [.int i] = some (.val (.int (if i < 0 then -i else i))) := nr rfl
theorem max_i : bMax2 [.int i, .int j] = some (.val (.int (if j > i then j else i))) := nr rfl
theorem min_i : bMin2 [.int i, .int j] = some (.val (.int (if j < i then j else i))) := nr rfl
theorem int_i : bInt [.int i] = some (.val (.int i)) := nr rfl
theorem int_b : bInt [.bool b] = some (.val (.int (if b then 1 else 0))) := nr rfl
theorem len_l : bLen [.list ds] = some (.val (.int ds.length)) := nr rfl
theorem len_t : bLen [.tuple ds] = some (.val (.int ds.length)) := nr rfl
theorem lst_l : bList [.list ds] = some (.new (.list ds)) := nr rfl
theorem lst_t : bList [.tuple ds] = some (.new (.list ds)) := nr rfl
theorem tup_l : bTuple [.list ds] = some (.val (.tuple ds)) := nr rfl
theorem rep_d : bRepr [d] = if reprOk d = true then some (.val (.str d.shown)) else none := nr rfl
theorem app_l : kAppend (.list xs) [d] = if xs.length < sizeLine then some (.none, .list (xs ++ [d])) else none := nr rfl
theorem rg1_i : dRg1 (.int i) = if rgOk 0 i then some (.new (.list (rangeD 0 i))) else none := nr rfl
theorem rg2_i : dRg2 (.int i) (.int j) = if rgOk i j then some (.new (.list (rangeD i j))) else none := nr rfl
theorem fin_map (a : Option D) : fin (a.map .val) en = (match a with | some d => .ok (.val d) en | none => .bad) := by cases a <;> rfl
/-- what stands where -/
theorem res_v : res (.val d) en = some d := nr rfl
theorem res_n : res (.new d) en = some d := nr rfl
theorem frz_v : frz1 (.val d) en = some (d, en) := nr rfl
theorem frz_n : frz1 (.new d) en = some (d, en) := nr rfl
def resC : Cell → Option D
  | .v d => some d | .own d => some d | .par d => some d | _ => none
theorem res_s : res (.slot n) en = resC (en.getD n .no) := by unfold res resC; exact nr rfl
theorem resC_v : resC (.v d) = some d := nr rfl
theorem resC_o : resC (.own d) = some d := nr rfl
theorem resC_p : resC (.par d) = some d := nr rfl
def frzC (n : Nat) (en : En) : Cell → Option (D × En)
  | .v d => some (d, en) | .own d => some (d, en.set n (.v d)) | _ => none
theorem frz_s : frz1 (.slot n) en = frzC n en (en.getD n .no) := by unfold frz1 frzC; exact nr rfl
theorem frzC_v : frzC n en (.v d) = some (d, en) := nr rfl
theorem frzC_o : frzC n en (.own d) = some (d, en.set n (.v d)) := nr rfl
theorem resAll_nil : resAll [] en = some [] := nr rfl
theorem resAll_cons : resAll (o :: os) en = (match res o en with
    | some d => (match resAll os en with | some ds => some (d :: ds) | none => none)
    | none => none) := nr rfl
theorem frzAll_nil : frzAll [] en = some ([], en) := nr rfl
theorem frzAll_cons : frzAll (o :: os) en = (match frz1 o en with
    | some (d, e1) => (match frzAll os e1 with | some (ds, e2) => some (d :: ds, e2) | none => none)
    | none => none) := nr rfl
def sC (n : Nat) (en : En) : Cell → Out En Op
  | .no => .bad
  | _ => .ok (.slot n) en
theorem ev_s : eS n en = sC n en (en.getD n .no) := by unfold eS sC; exact nr rfl
theorem sC_v : sC n en (.v d) = .ok (.slot n) en := nr rfl
theorem sC_o : sC n en (.own d) = .ok (.slot n) en := nr rfl
theorem sC_p : sC n en (.par d) = .ok (.slot n) en := nr rfl
theorem sC_r (v : V) : sC n en (.raw v) = .ok (.slot n) en := nr rfl
theorem getM_o : getM (.own d) = some d := nr rfl
theorem getM_p : getM (.par d) = some d := nr rfl
theorem setM_o : setM (.own d) e = .own e := nr rfl
theorem setM_p : setM (.par d) e = .par e := nr rfl
theorem ret_v : retOp (.val d) en = .ok (.rt (.val d)) en := nr rfl
theorem ret_n : retOp (.new d) en = .ok (.rt (.new d)) en := nr rfl
def retC (n : Nat) (en : En) : Cell → Out En Fl
  | .own d => .ok (.rt (.new d)) (en.set n .no)
  | .v d => .ok (.rt (.val d)) en
  | .raw v => .ok (.rt (.raw v)) en
  | _ => .bad
theorem ret_s : retOp (.slot n) en = retC n en (en.getD n .no) := by unfold retOp retC; exact nr rfl
theorem retC_o : retC n en (.own d) = .ok (.rt (.new d)) (en.set n .no) := nr rfl
theorem retC_v : retC n en (.v d) = .ok (.rt (.val d)) en := nr rfl
theorem put_v : put n (.val d) en = if n < en.length ∧ isPar (en.getD n .no) = false then some (en.set n (.v d)) else none := nr rfl
theorem put_n : put n (.new d) en = if n < en.length ∧ isPar (en.getD n .no) = false then some (en.set n (.own d)) else none := nr rfl
def putC (n m : Nat) (en : En) : Cell → Option En
  | .v d => some (en.set n (.v d))
  | .own d => if n = m then some en else some ((en.set m (.v d)).set n (.v d))
  | .raw v => some (en.set n (.raw v))
  | _ => none
theorem put_s (m : Nat) : put n (.slot m) en = if n < en.length ∧ isPar (en.getD n .no) = false then putC n m en (en.getD m .no) else none := nr rfl
theorem putC_v (m : Nat) : putC n m en (.v d) = some (en.set n (.v d)) := nr rfl
theorem putC_o (m : Nat) : putC n m en (.own d) = if n = m then some en else some ((en.set m (.v d)).set n (.v d)) := nr rfl
theorem isPar_no : isPar .no = false := nr rfl
theorem isPar_v : isPar (.v d) = false := nr rfl
theorem isPar_o : isPar (.own d) = false := nr rfl
theorem uns_v : unslot (.val d) en = some (.val d, en) := nr rfl
theorem uns_n : unslot (.new d) en = some (.new d, en) := nr rfl
def unsC (n : Nat) (en : En) : Cell → Option (Op × En)
  | .v d => some (.val d, en)
  | .own d => some (.val d, en.set n (.v d))
  | .raw v => some (.raw v, en)
  | _ => none
theorem uns_s : unslot (.slot n) en = unsC n en (en.getD n .no) := by unfold unslot unsC; exact nr rfl
theorem unsC_v : unsC n en (.v d) = some (.val d, en) := nr rfl
theorem unsC_o : unsC n en (.own d) = some (.val d, en.set n (.v d)) := nr rfl
theorem unss_nil : unslots [] en = some ([], en) := nr rfl
theorem unss_cons : unslots (o :: os) en = (match unslot o en with
    | some (o1, e1) => (match unslots os e1 with | some (os1, e2) => some (o1 :: os1, e2) | none => none)
    | none => none) := nr rfl
theorem puts_nil : T3.putAll [] [] en = some en := nr rfl
theorem puts_cons (is : List Nat) : T3.putAll (n :: is) (o :: os) en = (match put n o en with | some e2 => T3.putAll is os e2 | none => none) := nr rfl
theorem g_slot : gSlot n d en = if n < en.length ∧ isPar (en.getD n .no) = false then some (en.set n (.v d)) else none := nr rfl
theorem g_tup (gs : List Gx) : gTupM gs (.tuple ds) en = gAll gs ds en := nr rfl
theorem g_all_nil : gAll [] [] en = some en := nr rfl
theorem g_all_cons (g : Gx) (gs : List Gx) : gAll (g :: gs) (d :: ds) en = (match g d en with | some e2 => gAll gs ds e2 | none => none) := nr rfl
def endR (ms : List Nat) : Out En Fl → Out (List D) Op
  | .ok (.rt o) e => (match outs ms e with
    | some cs => if noSlot o = true then .ok o cs else .bad
    | none => .bad)
  | .ok .nx e => (match outs ms e with
    | some cs => .ok (.val .none) cs
    | none => .bad)
  | .exc x e => (match outs ms e with
    | some cs => .exc x cs
    | none => .bad)
  | _ => .bad
theorem run_eq (ms : List Nat) (bd : Sx) : runFn n ms bd ds = endR ms (bd (argCells ms 0 ds ++ List.replicate (n - ds.length) .no)) := by
  unfold runFn endR; exact nr rfl
theorem endR_rt (ms : List Nat) : endR ms (.ok (.rt o) en) = (match outs ms en with
    | some cs => if noSlot o = true then .ok o cs else .bad
    | none => .bad) := nr rfl
theorem endR_nx (ms : List Nat) : endR ms (.ok .nx en) = (match outs ms en with
    | some cs => .ok (.val .none) cs
    | none => .bad) := nr rfl
theorem endR_exc (ms : List Nat) (q : Xn) : endR ms (.exc q en) = (match outs ms en with
    | some cs => .exc q cs
    | none => .bad) := nr rfl
theorem outs_nil : outs [] en = some [] := nr rfl
def outC (ms : List Nat) (en : En) : Cell → Option (List D)
  | .par d => (outs ms en).map (d :: ·)
  | _ => none
theorem outs_cons (ms : List Nat) : outs (n :: ms) en = outC ms en (en.getD n .no) := by
  show (match en.getD n .no with | .par d => _ | _ => _) = _
  unfold outC
  rfl
theorem outC_p (ms : List Nat) : outC ms en (.par d) = (outs ms en).map (d :: ·) := nr rfl
theorem nos_v : noSlot (.val d) = true := nr rfl
theorem nos_n : noSlot (.new d) = true := nr rfl
/-- a call, where the slots of what is lent are told -/
def kRet (ms : List Nat) (mu : List Nat) (os : List Op) (e : En) : Out (List D) Op → Out En Op
      | .ok o cs => if safeOp o && cs.all safeC then .ok o (putM mu cs e) else (match frzN ms 0 os e with
        | some e1 => .ok o (putM mu cs e1)
        | none => .bad)
      | .exc n cs => if cs.all safeC then .exc n (putM mu cs e) else (match frzN ms 0 os e with
        | some e1 => .exc n (putM mu cs e1)
        | none => .bad)
      | .bad => .bad
theorem call_eq (ms : List Nat) (fn : Fn) : callM ms fn ds os en = (match mutS os ms with
  | some mu => if nodupB mu && (borS ms 0 os).all (fun i => !(mu.contains i)) then (match argsD ms en 0 os with
    | some as => kRet ms mu os en (fn (as ++ ds))
    | none => .bad) else .bad
  | none => .bad) := by
  unfold callM kRet; exact nr rfl
theorem ret_ok (ms mu : List Nat) (cs : List D) : kRet ms mu os en (.ok o cs) = if safeOp o && cs.all safeC then .ok o (putM mu cs en) else (match frzN ms 0 os en with
        | some e1 => .ok o (putM mu cs e1)
        | none => .bad) := nr rfl
theorem ret_exc (ms mu : List Nat) (cs : List D) (q : Xn) : kRet ms mu os en (.exc q cs) = if cs.all safeC then .exc q (putM mu cs en) else (match frzN ms 0 os en with
        | some e1 => .exc q (putM mu cs e1)
        | none => .bad) := nr rfl
end
theorem ev_irg1 (ga : Ax) (e : En) : iRg1 ga e = (ga e).bind kRg1 := nr rfl
/-- within what a range takes -/
def in62 (n : Int) : Bool := decide (-(2 ^ 62) ≤ n) && decide (n < 2 ^ 62)
def in63 (n : Int) : Bool := decide (-(2 ^ 63) ≤ n) && decide (n < 2 ^ 63)
theorem in62_iff (n : Int) : in62 n = true ↔ -(2 ^ 62) ≤ n ∧ n < 2 ^ 62 := by simp [in62]
theorem in63_iff (n : Int) : in63 n = true ↔ -(2 ^ 63) ≤ n ∧ n < 2 ^ 63 := by simp [in63]
def rgC : Option (List D) → En → Out En (List D)
  | some [.int n], e => if in62 n = true then .ok (rangeD 0 n) e else .bad
  | _, _ => .bad
theorem kv_irg1 (os : List Op) (e : En) : kRg1 os e = rgC (resAll os e) e := by
  show (match resAll os e with
    | some [.int n] => if -(2 ^ 62) ≤ n ∧ n < 2 ^ 62 then Out.ok (rangeD 0 n) e else .bad
    | _ => .bad) = _
  split
  · rename_i n h
    rw [h]
    by_cases hn : in62 n = true
    · rw [if_pos ((in62_iff n).mp hn)]; exact (if_pos hn).symm
    · rw [if_neg fun z => hn ((in62_iff n).mpr z)]; exact (if_neg hn).symm
  · rename_i h
    unfold rgC
    split
    · rename_i n h1; exact absurd h1 (h n)
    · rfl
theorem rgC_i (n : Int) (e : En) : rgC (some [.int n]) e = if in62 n = true then .ok (rangeD 0 n) e else .bad := nr rfl
def kRg2 : List Op → En → Out En (List D) := fun os e => match resAll os e with
  | some [.int m, .int n] => if (-(2 ^ 62) ≤ m ∧ m < 2 ^ 62) ∧ -(2 ^ 62) ≤ n ∧ n < 2 ^ 62 then .ok (rangeD m n) e else .bad
  | _ => .bad
theorem ev_irg2 (ga : Ax) (e : En) : iRg2 ga e = (ga e).bind kRg2 := nr rfl
def rgC2 : Option (List D) → En → Out En (List D)
  | some [.int m, .int n], e => if (in62 m && in62 n) = true then .ok (rangeD m n) e else .bad
  | _, _ => .bad
theorem kv_irg2 (os : List Op) (e : En) : kRg2 os e = rgC2 (resAll os e) e := by
  show (match resAll os e with
    | some [.int m, .int n] => if (-(2 ^ 62) ≤ m ∧ m < 2 ^ 62) ∧ -(2 ^ 62) ≤ n ∧ n < 2 ^ 62 then Out.ok (rangeD m n) e else .bad
    | _ => .bad) = _
  split
  · rename_i m n h
    rw [h]
    have key : (in62 m && in62 n) = true ↔ (-(2 ^ 62) ≤ m ∧ m < 2 ^ 62) ∧ -(2 ^ 62) ≤ n ∧ n < 2 ^ 62 := by rw [Bool.and_eq_true, in62_iff, in62_iff]
    by_cases hn : (in62 m && in62 n) = true
    · rw [if_pos (key.mp hn)]; exact (if_pos hn).symm
    · rw [if_neg fun z => hn (key.mpr z)]; exact (if_neg hn).symm
  · rename_i h
    unfold rgC2
    split
    · rename_i m n h1; exact absurd h1 (h m n)
    · rfl
theorem rgC2_i (m n : Int) (e : En) : rgC2 (some [.int m, .int n]) e = if (in62 m && in62 n) = true then .ok (rangeD m n) e else .bad := nr rfl
theorem pop_l (xs : List D) (i : Int) : kPopAt (.list xs) [.int i] = if in63 i = true then (seqIndex? i xs.length).bind fun k => (xs[k]?).map fun y => (y, .list (xs.eraseIdx k)) else none := by
  show (if -(2 ^ 63) ≤ i ∧ i < 2 ^ 63 then _ else _) = _
  by_cases hn : in63 i = true
  · rw [if_pos ((in63_iff i).mp hn), if_pos hn]
  · rw [if_neg fun z => hn ((in63_iff i).mpr z), if_neg hn]
/-- n times -/
def timesOk (n : Nat) (j : Int) : Bool := in63 j && decide (n * j.toNat ≤ sizeLine)
theorem mul_l (xs : List D) (j : Int) : dMul (.list xs) (.int j) = if timesOk xs.length j = true then some (.new (.list (List.replicate j.toNat xs).flatten)) else none := by
  show (if -(2 ^ 63) ≤ j ∧ j < 2 ^ 63 ∧ xs.length * j.toNat ≤ sizeLine then _ else _) = _
  have key : timesOk xs.length j = true ↔ -(2 ^ 63) ≤ j ∧ j < 2 ^ 63 ∧ xs.length * j.toNat ≤ sizeLine := by
    unfold timesOk
    rw [Bool.and_eq_true, in63_iff, decide_eq_true_eq, and_assoc]
  by_cases hn : timesOk xs.length j = true
  · rw [if_pos (key.mp hn), if_pos hn]
  · rw [if_neg fun z => hn (key.mpr z), if_neg hn]
def kEnum : List Op → En → Out En (List D) := fun os e => match frzAll os e with
  | some ([.list ds], e2) => .ok (enumD ds) e2
  | _ => .bad
theorem ev_ienum (ga : Ax) (e : En) : iEnumM ga e = (ga e).bind kEnum := nr rfl
theorem kv_ienum (os : List Op) (e : En) : kEnum os e = (match frzAll os e with
  | some ([.list ds], e2) => .ok (enumD ds) e2
  | _ => .bad) := nr rfl
def kZip : List Op → En → Out En (List D) := fun os e => match frzAll os e with
  | some ([.list xs, .list ys], e2) => .ok (zipD xs ys) e2
  | _ => .bad
theorem ev_izip (ga : Ax) (e : En) : iZipM ga e = (ga e).bind kZip := nr rfl
theorem kv_izip (os : List Op) (e : En) : kZip os e = (match frzAll os e with
  | some ([.list xs, .list ys], e2) => .ok (zipD xs ys) e2
  | _ => .bad) := nr rfl
theorem g_idx (i : Nat) (fi : Ex) (d : D) (e : En) : gIdx i fi d e = (match getM (e.getD i .no) with
  | some _ => (match fi e with
    | .ok oi e2 => (match T3.res oi e2 with
      | some (.int k) => (match getM (e2.getD i .no) with
        | some (.list xs) => (match ixN xs.length k with
          | some j => some (e2.set i (setM (e2.getD i .no) (.list (xs.set j d))))
          | none => none)
        | _ => none)
      | _ => none)
    | _ => none)
  | none => none) := nr rfl
theorem ev_dict0 (e : En) : eDict0 e = .ok (.new (.dict [])) e := nr rfl
theorem own_n (ys : List D) (e : En) : ownList (.new (.list ys)) e = some ys := nr rfl
end T3
namespace T3
open PySem PySem.Spec PyProof.Rows L2
theorem nodup_len : ∀ {n : Nat} {l : List Nat}, l.Nodup → (∀ x ∈ l, x < n) → l.length ≤ n
  | 0, l, _, h => by
    cases l with
    | nil => exact Nat.le_refl 0
    | cons x l => exact absurd (h x List.mem_cons_self) (Nat.not_lt_zero x)
  | n + 1, l, nd, h => by
    by_cases hm : n ∈ l
    · have := nodup_len (n := n) (nd.erase n) (fun x hx => by
        have := (nd.mem_erase_iff).mp hx
        have := h x this.2
        omega)
      rw [List.length_erase_of_mem hm] at this
      omega
    · have := nodup_len (n := n) nd (fun x hx => by
        have := h x hx
        have : x ≠ n := fun z => hm (z ▸ hx)
        omega)
      omega
theorem nodup_all {n : Nat} {l : List Nat} (nd : l.Nodup) (h : ∀ x ∈ l, x < n) (hl : l.length = n) {k : Nat} (hk : k < n) : k ∈ l := by
  refine Classical.byContradiction fun hm => ?_
  have : (k :: l).length ≤ n := nodup_len (List.nodup_cons.mpr ⟨hm, nd⟩) fun x hx => by
    rcases List.mem_cons.mp hx with e | hx
    · omega
    · exact h x hx
  rw [List.length_cons] at this
  omega
theorem eqvAll_ints : ∀ (xs ys : List Int), PyData.eqvAll (xs.map PyData.int) (ys.map PyData.int) = decide (xs = ys)
  | [], [] => by simp [PyData.eqvAll]
  | [], _ :: _ => by simp [PyData.eqvAll]
  | _ :: _, [] => by simp [PyData.eqvAll]
  | x :: xs, y :: ys => by
    simp only [List.map_cons, PyData.eqvAll, eqvAll_ints xs ys, PyData.eqv, List.cons.injEq]
    rw [Bool.eq_iff_iff]
    simp
theorem eqv_ints (xs ys : List Int) : PyData.eqv (.list (xs.map PyData.int)) (.list (ys.map PyData.int)) = decide (xs = ys) := by
  simp only [PyData.eqv, eqvAll_ints]
theorem lay_ints : ∀ xs : List Int, PyData.canLayAll0 (xs.map PyData.int) = true
  | [] => by simp [PyData.canLayAll0]
  | x :: xs => by simp [PyData.canLayAll0, PyData.canLay0, lay_ints xs]
theorem dep_ints : ∀ xs : List Int, PyData.depthAll (xs.map PyData.int) = 0
  | [] => by simp [PyData.depthAll]
  | x :: xs => by simp [PyData.depthAll, PyData.depth, dep_ints xs]
theorem shaped_ints (xs : List Int) : SeqAt.shaped (.list (xs.map PyData.int)) = true := by
  unfold SeqAt.shaped
  simp [PyData.canLay0, PyData.depth, lay_ints, dep_ints]
theorem intsOf_ints : ∀ xs : List Int, intsOf (xs.map PyData.int) = some xs
  | [] => rfl
  | x :: xs => by
    show (intsOf (xs.map PyData.int)).map (x :: ·) = _
    rw [intsOf_ints xs]
    rfl
theorem sorted_ints (xs : List Int) : bSorted [.list (xs.map PyData.int)] = some (.new (.list ((sortI xs).map .int))) := by
  show (intsOf (xs.map PyData.int)).map _ = _
  rw [intsOf_ints]
  rfl
/-- the way of 0 under f -/
def it (f : Nat → Nat) : Nat → Nat
  | 0 => 0
  | k + 1 => f (it f k)
theorem it_add (f : Nat → Nat) (i : Nat) {a b : Nat} (h : it f a = it f b) : it f (a + i) = it f (b + i) := by
  induction i with
  | zero => exact h
  | succ i ih => exact congrArg f ih
theorem it_lt {f : Nat → Nat} {n : Nat} (hn : 0 < n) (hf : ∀ i, i < n → f i < n) : ∀ k, it f k < n
  | 0 => hn
  | k + 1 => hf _ (it_lt hn hf k)
theorem lc_all {gx : Gx} {t : Tx} {fe : Ex} {is : List Nat} {e : En} (P : D → Bool) (F : D → D) : ∀ (ds acc : List D), (∀ d ∈ ds, ∃ e2 e3, gx d e = some e2 ∧ t e2 = .ok (P d) e3 ∧ (P d = false → wipeE e3 is = e) ∧ (P d = true → ∃ o e4 e5, fe e3 = .ok o e4 ∧ frz1 o e4 = some (F d, e5) ∧ wipeE e5 is = e)) →
    acc.length + ds.length ≤ sizeLine → lcLoop gx t fe is ds acc e = .ok (acc ++ (ds.filter P).map F) e
  | [], acc, _, _ => by simp [lcLoop]
  | d :: ds, acc, h, hl => by
    obtain ⟨e2, e3, h1, h2, h3, h4⟩ := h d List.mem_cons_self
    have rest : ∀ acc', acc'.length + ds.length ≤ sizeLine → lcLoop gx t fe is ds acc' e = .ok (acc' ++ (ds.filter P).map F) e := fun acc' => lc_all P F ds acc' fun d' hd => h d' (List.mem_cons_of_mem _ hd)
    rw [List.length_cons] at hl
    unfold lcLoop
    rw [h1]
    simp only [h2, noX, Out.bind]
    cases hp : P d with
    | false =>
      rw [if_neg (by decide), h3 hp, rest acc (by omega), List.filter_cons, hp]
      simp
    | true =>
      obtain ⟨o, e4, e5, h5, h6, h7⟩ := h4 hp
      rw [if_pos rfl, h5]
      simp only [h6]
      rw [if_pos (by omega), h7, rest (acc ++ [F d]) (by rw [List.length_append]; simp; omega), List.filter_cons, hp]
      simp
theorem lc_map {gx : Gx} {fe : Ex} {is : List Nat} {e : En} (F : D → D) (ds : List D) (h : ∀ d ∈ ds, ∃ e2 o e4 e5, gx d e = some e2 ∧ fe e2 = .ok o e4 ∧ frz1 o e4 = some (F d, e5) ∧ wipeE e5 is = e) (hl : ds.length ≤ sizeLine) :
    lcLoop gx tYesM fe is ds [] e = .ok (ds.map F) e := by
  have q := lc_all (gx := gx) (t := tYesM) (fe := fe) (is := is) (e := e) (fun _ => true) F ds [] (fun d hd => by
    obtain ⟨e2, o, e4, e5, a, b, c, g⟩ := h d hd
    exact ⟨e2, e2, a, rfl, (fun z => Bool.noConfusion z), fun _ => ⟨o, e4, e5, b, c, g⟩⟩) (by simpa using hl)
  rw [q, List.nil_append, List.filter_eq_self.mpr fun _ _ => rfl]
/-- a loop without a way out -/
theorem loop_inv {g : Gx} {s : Sx} (I : Nat → En → Prop) : ∀ (ds : List D) (k : Nat) (e : En), I k e → (∀ (i : Nat) d e, ds[i]? = some d → I (k + i) e → ∃ e1, g d e = some e1 ∧ ∃ e2, (s e1 = .ok .nx e2 ∨ s e1 = .ok .ct e2) ∧ I (k + i + 1) e2) →
    ∃ e', fLoop g s ds e = .ok .nx e' ∧ I (k + ds.length) e'
  | [], k, e, h, _ => ⟨e, rfl, h⟩
  | d :: ds, k, e, h, st => by
    obtain ⟨e1, h1, e2, h2, h3⟩ := st 0 d e rfl h
    obtain ⟨e', h4, h5⟩ := loop_inv I ds (k + 1) e2 h3 (fun i d' e0 hi q => by
      have := st (i + 1) d' e0 (by simpa using hi) (by rw [show k + (i + 1) = k + 1 + i by omega]; exact q)
      rw [show k + (i + 1) = k + 1 + i by omega] at this
      exact this)
    refine ⟨e', ?_, by rw [List.length_cons, show k + (ds.length + 1) = k + 1 + ds.length by omega]; exact h5⟩
    unfold fLoop
    rw [h1]
    rcases h2 with h2 | h2 <;> simp only [h2, Out.bind] <;> exact h4
end T3
namespace T3
open PySem PySem.Spec PyProof.Rows L2
theorem sz {n : Nat} (h : n ≤ 16777216) : n ≤ sizeLine := by rw [sizeLine_eq]; exact h
theorem mulOkL {i j : Int} (h : i.natAbs < 2 ^ 64) : mulOk i j = true := by unfold mulOk; rw [decide_eq_true h]; rfl
theorem mulOkR {i j : Int} (h : j.natAbs < 2 ^ 64) : mulOk i j = true := by unfold mulOk; rw [decide_eq_true h]; simp
theorem at0 {α : Type} (x : α) (xs : List α) : atI (x :: xs) 0 = some x := by
  unfold atI ixN
  rw [if_pos (by decide), if_pos (by simp only [List.length_cons]; omega)]
  rfl
theorem at1 {α : Type} (x y : α) (xs : List α) : atI (x :: y :: xs) 1 = some y := by
  unfold atI ixN
  rw [if_pos (by decide), if_pos (by simp only [List.length_cons]; omega)]
  rfl
theorem at2 {α : Type} (x y z : α) (xs : List α) : atI (x :: y :: z :: xs) 2 = some z := by
  unfold atI ixN
  rw [if_pos (by decide), if_pos (by simp only [List.length_cons]; omega)]
  rfl
theorem eqv_nil (ds : List D) : PyData.eqv (.list ds) (.list []) = decide (ds.length = 0) := by
  cases ds with
  | nil => simp [PyData.eqv, PyData.eqvAll]
  | cons x xs => simp [PyData.eqv, PyData.eqvAll]
theorem shaped_nil : SeqAt.shaped (.list []) = true := by decide
theorem szlt {n : Nat} (h : n < 16777216) : n < sizeLine := by rw [sizeLine_eq]; exact h
theorem map_erase {α β : Type} (f : α → β) : ∀ (l : List α) (i : Nat), (l.map f).eraseIdx i = (l.eraseIdx i).map f
  | [], _ => rfl
  | _ :: _, 0 => rfl
  | y :: l, i + 1 => by simp only [List.map_cons, List.eraseIdx_cons_succ, map_erase f l i]
structure Each (n : Nat) (w : Nat → Nat) : Prop where
  lt : ∀ k, k < n → w k < n
  inj : ∀ j k, j < n → k < n → w j = w k → j = k
  on : ∀ m, m < n → ∃ k, k < n ∧ w k = m
theorem safe_ints : ∀ xs : List Int, safeDs (xs.map PyData.int) = true
  | [] => rfl
  | x :: xs => by simp [safeDs, safeD, safe_ints xs]
structure Good (d : D) : Prop where
  p : plainD d = true
  l : d = .dict [] ∨ PyData.canLay0 d = true
  dp : d.depth ≤ 3
  w : wtD d ≤ 50
theorem Good.shaped {ds : List D} (g : Good (.list ds)) : SeqAt.shaped (.list ds) = true := by
  rcases g.l with h | h
  · cases h
  · unfold SeqAt.shaped
    rw [h, decide_eq_true (show (PyData.list ds).depth ≤ 64 by have := g.dp; omega)]
    rfl
theorem plainDs_app : ∀ (xs ys : List D), plainDs (xs ++ ys) = (plainDs xs && plainDs ys)
  | [], ys => by simp [plainDs]
  | x :: xs, ys => by simp [plainDs, plainDs_app xs ys, Bool.and_assoc]
theorem dep_app : ∀ (xs ys : List D), PyData.depthAll (xs ++ ys) = max (PyData.depthAll xs) (PyData.depthAll ys)
  | [], ys => by simp [PyData.depthAll]
  | x :: xs, ys => by simp [PyData.depthAll, dep_app xs ys, Nat.max_assoc]
theorem wt_app : ∀ (xs ys : List D), wtDs (xs ++ ys) = wtDs xs + wtDs ys
  | [], ys => by simp [wtDs]
  | x :: xs, ys => by simp [wtDs, wt_app xs ys, Nat.add_assoc]
theorem cut_to {α : Type} (ds : List α) (k : Nat) : T3.cutD ds none (some (k : Int)) = ds.take k := by
  unfold T3.cutD
  rw [HT.sIx_nat, HT.sIx_none]
  simp [Nat.min_comm]
theorem cut_from {α : Type} (ds : List α) (k : Nat) : T3.cutD ds (some (k : Int)) none = ds.drop k := by
  unfold T3.cutD
  rw [HT.sIx_nat, HT.sIx_none]
  rw [List.take_of_length_le (by rw [List.length_drop]; omega)]
  rcases Nat.le_total k ds.length with h | h
  · rw [Nat.min_eq_left h]
  · rw [Nat.min_eq_right h, List.drop_eq_nil_of_le (Nat.le_refl _), List.drop_eq_nil_of_le h]
theorem repr_bool (b : Bool) : reprOk (.bool b) = true := by cases b <;> decide
theorem eqv_str (x : Str) : PyData.eqv (.str x) (.str x) = true := by simp [PyData.eqv]
end T3
namespace T3
open PySem PySem.Spec PyProof.Rows L2
def menuOp (e : En) : Op → Option Op
  | .val d => some (.val d)
  | .new d => some (.new d)
  | .slot i => (match e.getD i .no with | .v d => some (.val d) | _ => none)
  | .raw _ => none
def eMenu (ga : Ax) (fi : Ex) : Ex := fun env => (ga env).bind fun os e1 => if os.length ≤ sizeLine then (fi e1).bind fun oi e2 => (match res oi e2 with
  | some (.int k) => (match atI os k with
    | some o => fin (menuOp e2 o) e2
    | none => .bad)
  | _ => .bad) else .bad
def kMenu (fi : Ex) : List Op → En → Out En Op := fun os e1 => if os.length ≤ sizeLine then (fi e1).bind fun oi e2 => (match res oi e2 with
  | some (.int k) => (match atI os k with
    | some o => fin (menuOp e2 o) e2
    | none => .bad)
  | _ => .bad) else .bad
def kMenu2 (os : List Op) : Op → En → Out En Op := fun oi e2 => (match res oi e2 with
  | some (.int k) => (match atI os k with
    | some o => fin (menuOp e2 o) e2
    | none => .bad)
  | _ => .bad)
def kMenu3 (os : List Op) (e2 : En) : Option D → Out En Op
  | some (.int k) => (match atI os k with
    | some o => fin (menuOp e2 o) e2
    | none => .bad)
  | _ => .bad
theorem ev_menu (ga : Ax) (fi : Ex) (e : En) : eMenu ga fi e = (ga e).bind (kMenu fi) := Eq.trans rfl (Eq.refl _)
theorem kv_menu (fi : Ex) (os : List Op) (e : En) : kMenu fi os e = if os.length ≤ sizeLine then (fi e).bind (kMenu2 os) else .bad := Eq.trans rfl (Eq.refl _)
theorem kv_menu2 (os : List Op) (oi : Op) (e : En) : kMenu2 os oi e = kMenu3 os e (res oi e) := by unfold kMenu2 kMenu3; exact Eq.trans rfl (Eq.refl _)
theorem menu_2 {a b : Op} {i : Int} {e : En} (h : 0 ≤ i) (g : i < 2) : kMenu3 [a, b] e (some (.int i)) = if i = 0 then fin (menuOp e a) e else fin (menuOp e b) e := by
  have : i = 0 ∨ i = 1 := by omega
  rcases this with rfl | rfl
  · rfl
  · rfl
theorem menu_v (e : En) (d : D) : menuOp e (.val d) = some (.val d) := Eq.trans rfl (Eq.refl _)
theorem menu_n (e : En) (d : D) : menuOp e (.new d) = some (.new d) := Eq.trans rfl (Eq.refl _)
end T3
namespace T3
open PySem PySem.Spec PyProof.Rows L2
theorem szT {n : Nat} (h : n ≤ 16777216) : (n ≤ sizeLine) = True := eq_true (sz h)
theorem szltT {n : Nat} (h : n < 16777216) : (n < sizeLine) = True := eq_true (szlt h)
theorem decT {p : Prop} [Decidable p] (h : p) : decide p = true := decide_eq_true h
theorem decF {p : Prop} [Decidable p] (h : ¬ p) : decide p = false := decide_eq_false h
theorem beqT {a b : Int} (h : a = b) : (a == b) = true := beq_iff_eq.mpr h
theorem beqF {a b : Int} (h : a ≠ b) : (a == b) = false := beq_eq_false_iff_ne.mpr h
section
variable {i j : Int} {xs ys : List Int} {ds es : List D} {n : Nat}
theorem mul_ii1 (h : i.natAbs < 2 ^ 64) : dMul (.int i) (.int j) = some (.val (.int (i * j))) := by rw [mul_i, mulOkL h]; rfl
theorem mul_ii2 (h : j.natAbs < 2 ^ 64) : dMul (.int i) (.int j) = some (.val (.int (i * j))) := by rw [mul_i, mulOkR h]; rfl
theorem log_of {m : Nat} (h : m < 2 ^ 8000) : m.log2 < 8000 := by
  by_cases h0 : m = 0
  · subst h0
    exact Nat.lt_of_le_of_lt (show Nat.log2 0 ≤ 0 by decide) (by omega)
  · exact (Nat.log2_lt h0).mpr h
/-- great numbers, but not too great ones -/
def Big (i : Int) : Prop := i.natAbs < 2 ^ 8000
theorem big_of {k : Nat} (h : i.natAbs < 2 ^ k) (hk : k ≤ 8000) : Big i := Nat.lt_of_lt_of_le h (Nat.pow_le_pow_right (by omega) hk)
theorem mul_ii3 (h : Big i) (g : Big j) : dMul (.int i) (.int j) = some (.val (.int (i * j))) := by
  have h1 := log_of h
  have h2 := log_of g
  have : mulOk i j = true := by
    unfold mulOk
    rw [decide_eq_true (show i.natAbs.log2 + j.natAbs.log2 < 1000000 by omega)]
    simp
  rw [mul_i, this]
  rfl
theorem divOk_big (h : 0 < j) (g : Big j) : divOk j = true := by
  have := log_of g
  unfold divOk
  rw [decide_eq_true (show j ≠ 0 by omega), decide_eq_true (show j.natAbs.log2 < 9000 by omega)]
  rfl
theorem div_ii2 (h : 0 < j) (g : Big j) : dDiv (.int i) (.int j) = some (.val (.int (i / j))) := by
  rw [div_i, divOk_big h g, Int.fdiv_eq_ediv_of_nonneg _ (by omega)]
  rfl
theorem div_ii1 (h : 0 < j) (g : j < 2 ^ 64) : dDiv (.int i) (.int j) = some (.val (.int (i / j))) :=
  div_ii2 h (big_of (k := 64) (by omega) (by omega))
theorem mod_ii (h : 0 < j) : dMod (.int i) (.int j) = some (.val (.int (i % j))) := by
  rw [mod_i, if_pos (by omega), Int.fmod_eq_emod_of_nonneg _ (by omega)]
theorem pow_ii (h : powOk i j = true) : dPow (.int i) (.int j) = some (.val (.int (i ^ j.toNat))) := by
  rw [pow_i, h]
  rfl
theorem in62T (h : -(2 ^ 62) ≤ i) (g : i < 2 ^ 62) : in62 i = true := (in62_iff _).mpr ⟨h, g⟩
theorem in63T (h : -(2 ^ 63) ≤ i) (g : i < 2 ^ 63) : in63 i = true := (in63_iff _).mpr ⟨h, g⟩
theorem rgOkT (h : -(2 ^ 62) ≤ i ∧ i < 2 ^ 62 ∧ -(2 ^ 62) ≤ j ∧ j < 2 ^ 62 ∧ (j - i).toNat ≤ 2 ^ 24) : rgOk i j = true := by
  unfold rgOk
  simp only [Bool.and_eq_true, decide_eq_true_eq]
  omega
theorem timesT (h : -(2 ^ 63) ≤ j) (g : j < 2 ^ 63) (k : n * j.toNat ≤ 16777216) : timesOk n j = true := by
  unfold timesOk
  rw [Bool.and_eq_true, in63_iff, decide_eq_true_eq, sizeLine_eq]
  exact ⟨⟨h, g⟩, k⟩
theorem ixNT (h : 0 ≤ i) (g : i < (n : Int)) : ixN n i = some i.toNat := by
  unfold ixN
  rw [if_pos h, if_pos (by omega)]
theorem ixNL (h : 0 < n) : ixN n (-1) = some (n - 1) := by
  unfold ixN
  rw [if_neg (by omega), if_pos (by omega)]
  exact congrArg _ (by omega)
theorem ix_li (h : 0 ≤ i) (g : i < (xs.length : Int)) : dIx (.list (xs.map .int)) (.int i) = some (.val (.int (xs.getD i.toNat 0))) := by
  rw [ix_l]
  unfold atI
  rw [ixNT (n := (xs.map PyData.int).length) h (by rw [List.length_map]; exact g)]
  show ((xs.map PyData.int)[i.toNat]?).map _ = _
  rw [List.getElem?_map, List.getD_eq_getElem?_getD, List.getElem?_eq_getElem (by omega)]
  rfl
theorem ix_ll (h : 0 < xs.length) : dIx (.list (xs.map .int)) (.int (-1)) = some (.val (.int (xs.getD (xs.length - 1) 0))) := by
  rw [ix_l]
  unfold atI
  rw [ixNL (n := (xs.map PyData.int).length) (by rw [List.length_map]; exact h), List.length_map]
  show ((xs.map PyData.int)[xs.length - 1]?).map _ = _
  rw [List.getElem?_map, List.getD_eq_getElem?_getD, List.getElem?_eq_getElem (by omega)]
  rfl
theorem ix_0 {d : D} : dIx (.list (d :: ds)) (.int 0) = some (.val d) := by rw [ix_l, at0]; rfl
theorem ix_1 {d d1 : D} : dIx (.list (d :: d1 :: ds)) (.int 1) = some (.val d1) := by rw [ix_l, at1]; rfl
theorem ix_2 {d d1 d2 : D} : dIx (.list (d :: d1 :: d2 :: ds)) (.int 2) = some (.val d2) := by rw [ix_l, at2]; rfl
theorem ix_t0 {d : D} : dIx (.tuple (d :: ds)) (.int 0) = some (.val d) := by rw [ix_t, at0]; rfl
theorem ix_t1 {d d1 : D} : dIx (.tuple (d :: d1 :: ds)) (.int 1) = some (.val d1) := by rw [ix_t, at1]; rfl
theorem ix_2i {a b : Int} (h : 0 ≤ i) (g : i < 2) : dIx (.list [.int a, .int b]) (.int i) = some (.val (.int (if i = 0 then a else b))) := by
  have : i = 0 ∨ i = 1 := by omega
  rcases this with rfl | rfl
  · rw [ix_0]; rfl
  · rw [ix_1]; rfl
theorem ix_3i {a b c : Int} (h : 0 ≤ i) (g : i < 3) : dIx (.list [.int a, .int b, .int c]) (.int i) = some (.val (.int (if i = 0 then a else if i = 1 then b else c))) := by
  have : i = 0 ∨ i = 1 ∨ i = 2 := by omega
  rcases this with rfl | rfl | rfl
  · rw [ix_0]; rfl
  · rw [ix_1]; rfl
  · rw [ix_2]; rfl
/-- equality -/
theorem shaped_int : SeqAt.shaped (.int i) = true := by unfold SeqAt.shaped; simp [PyData.canLay0, PyData.depth]
theorem eq_ii : dEq (.int i) (.int j) = some (.val (.bool (i == j))) := by
  rw [eq_d, shaped_int, shaped_int]; simp [PyData.eqv]
theorem ne_ii : dNe (.int i) (.int j) = some (.val (.bool (!(i == j)))) := by
  rw [ne_d, shaped_int, shaped_int]; simp [PyData.eqv]
theorem eq_ll : dEq (.list (xs.map .int)) (.list (ys.map .int)) = some (.val (.bool (decide (xs = ys)))) := by
  rw [eq_d, shaped_ints, shaped_ints, eqv_ints]; simp
theorem ne_ll : dNe (.list (xs.map .int)) (.list (ys.map .int)) = some (.val (.bool (!decide (xs = ys)))) := by
  rw [ne_d, shaped_ints, shaped_ints, eqv_ints]; simp
theorem eq_ln : dEq (.list (xs.map .int)) (.list []) = some (.val (.bool (decide (xs.length = 0)))) := by
  rw [eq_d, shaped_ints, shaped_nil, eqv_nil, List.length_map]; simp
theorem ne_ln : dNe (.list (xs.map .int)) (.list []) = some (.val (.bool (!decide (xs.length = 0)))) := by
  rw [ne_d, shaped_ints, shaped_nil, eqv_nil, List.length_map]; simp
theorem eq_nn : dEq (.list []) (.list []) = some (.val (.bool true)) := by
  rw [eq_d, shaped_nil, eqv_nil]; simp
theorem ne_nn : dNe (.list []) (.list []) = some (.val (.bool false)) := by
  rw [ne_d, shaped_nil, eqv_nil]; simp
theorem eq_same {d : D} (h : SeqAt.shaped d = true) (g : PyData.eqv d d = true) : dEq d d = some (.val (.bool true)) := by
  rw [eq_d, h, g]; simp
theorem shaped_str {z : Str} : isSS (.str z) (.str z) = true := by rfl
theorem eq_zz {z : Str} : dEq (.str z) (.str z) = some (.val (.bool true)) := by
  rw [eq_d, shaped_str, eqv_str]; simp
theorem ne_zz {z : Str} : dNe (.str z) (.str z) = some (.val (.bool false)) := by
  rw [ne_d, shaped_str, eqv_str]; simp
mutual
theorem eqv_refl : ∀ d : D, (∀ es, d ≠ .dict es) → PyData.canLay0 d = true → PyData.eqv d d = true
  | .none, _, _ => by simp [PyData.eqv]
  | .bool _, _, _ => by simp [PyData.eqv]
  | .int _, _, _ => by simp [PyData.eqv]
  | .str _, _, _ => by simp [PyData.eqv]
  | .list ds, _, h => by
    simp only [PyData.canLay0] at h
    simp only [PyData.eqv]
    exact eqv_refls ds h
  | .tuple ds, _, h => by
    simp only [PyData.canLay0] at h
    simp only [PyData.eqv]
    exact eqv_refls ds h
  | .dict es, h, _ => absurd rfl (h es)
theorem eqv_refls : ∀ ds : List D, PyData.canLayAll0 ds = true → PyData.eqvAll ds ds = true
  | [], _ => by simp [PyData.eqvAll]
  | d :: ds, h => by
    simp only [PyData.canLayAll0, Bool.and_eq_true] at h
    simp only [PyData.eqvAll, Bool.and_eq_true]
    refine ⟨eqv_refl d (fun es z => ?_) h.1, eqv_refls ds h.2⟩
    subst z
    simp [PyData.canLay0] at h
end
end
theorem safeC_l {ds : List D} : safeC (.list ds) = safeDs ds := rfl
theorem safeC_d {ds : List (D × D)} : safeC (.dict ds) = false := rfl
theorem flt_none {α : Type} (xs : List α) : xs.filter (fun _ => false) = [] := by simp
section
variable {i j : Int} {xs ys : List Int} {n : Nat} {v : Int}
theorem map_snoc : xs.map PyData.int ++ [PyData.int v] = (xs ++ [v]).map PyData.int := by rw [List.map_append]; rfl
theorem map_app : xs.map PyData.int ++ ys.map PyData.int = (xs ++ ys).map PyData.int := List.map_append.symm
theorem map_tak : (xs.map PyData.int).take n = (xs.take n).map PyData.int := List.map_take.symm
theorem map_drp : (xs.map PyData.int).drop n = (xs.drop n).map PyData.int := List.map_drop.symm
theorem map_rev : (xs.map PyData.int).reverse = xs.reverse.map PyData.int := List.map_reverse.symm
theorem map_st : (xs.map PyData.int).set n (.int v) = (xs.set n v).map PyData.int := List.map_set.symm
theorem map_ers : (xs.map PyData.int).eraseIdx n = (xs.eraseIdx n).map PyData.int := map_erase _ _ _
theorem map_repl : List.replicate n (PyData.int v) = (List.replicate n v).map PyData.int := List.map_replicate.symm
theorem repl_one {α : Type} {x : α} : (List.replicate n [x]).flatten = List.replicate n x := by
  induction n with
  | zero => rfl
  | succ n ih => simp [List.replicate_succ, ih]
def rgI (a b : Int) : List Int := (List.range (b - a).toNat).map fun (k : Nat) => a + (k : Int)
theorem rangeD_rg : rangeD i j = (rgI i j).map PyData.int := by unfold rangeD rgI; rw [List.map_map]; rfl
theorem rgI_len : (rgI i j).length = (j - i).toNat := by simp [rgI]
theorem rgI_mem : v ∈ rgI i j ↔ i ≤ v ∧ v < j := by
  unfold rgI
  rw [List.mem_map]
  constructor
  · rintro ⟨k, hk, rfl⟩
    have := List.mem_range.mp hk
    omega
  · intro h
    exact ⟨(v - i).toNat, List.mem_range.mpr (by omega), by omega⟩
theorem rgI_nat (n : Nat) : rgI 0 n = (List.range n).map fun (k : Nat) => (k : Int) := by
  unfold rgI; simp
theorem pop_li (h : 0 ≤ i) (g : i < (xs.length : Int)) (l : xs.length < 2 ^ 60) : kPopAt (.list (xs.map .int)) [.int i] = some (.int (xs.getD i.toNat 0), .list ((xs.eraseIdx i.toNat).map .int)) := by
  rw [pop_l, (in63_iff i).mpr (by omega), if_pos rfl, List.length_map]
  have : seqIndex? i xs.length = some i.toNat := by
    unfold seqIndex?
    simp only [if_neg (show ¬ i < 0 by omega), decide_eq_true h, decide_eq_true g, Bool.and_self, if_true]
  rw [this]
  show ((xs.map PyData.int)[i.toNat]?).map _ = _
  rw [List.getElem?_map, List.getD_eq_getElem?_getD, List.getElem?_eq_getElem (by omega), map_ers]
  rfl
theorem cut_ti {α : Type} {ds : List α} (h : 0 ≤ i) : cutD ds none (some i) = ds.take i.toNat := by
  have := cut_to ds i.toNat
  rwa [show ((i.toNat : Nat) : Int) = i by omega] at this
theorem cut_fi {α : Type} {ds : List α} (h : 0 ≤ i) : cutD ds (some i) none = ds.drop i.toNat := by
  have := cut_from ds i.toNat
  rwa [show ((i.toNat : Nat) : Int) = i by omega] at this
theorem sorted_li : bSorted [.list (xs.map PyData.int)] = some (.new (.list ((sortI xs).map .int))) := sorted_ints xs
theorem lst_li : bList [.list (xs.map PyData.int)] = some (.new (.list (xs.map .int))) := rfl
end
/-- over ints -/
theorem for_ints {g : Gx} {s : Sx} (I : Nat → En → Prop) (xs : List Int) (e : En) (h : I 0 e)
    (st : ∀ (i : Nat) x e, xs[i]? = some x → I i e → ∃ e1, g (.int x) e = some e1 ∧ ∃ e2, (s e1 = .ok .nx e2 ∨ s e1 = .ok .ct e2) ∧ I (i + 1) e2) :
    ∃ e', fLoop g s (xs.map .int) e = .ok .nx e' ∧ I xs.length e' := by
  obtain ⟨e', a, b⟩ := loop_inv (g := g) (s := s) I (xs.map .int) 0 e h (fun i d e hd hI => by
    rw [List.getElem?_map] at hd
    obtain ⟨x, hx, rfl⟩ := Option.map_eq_some_iff.mp hd
    rw [Nat.zero_add] at hI ⊢
    exact st i x e hx hI)
  rw [List.length_map, Nat.zero_add] at b
  exact ⟨e', a, b⟩
theorem lc_inv {gx : Gx} {t : Tx} {fe : Ex} {is : List Nat} (I : Nat → List D → En → Prop) : ∀ (ds : List D) (k : Nat) (acc : List D) (e : En), I k acc e →
    (∀ (i : Nat) d acc e, ds[i]? = some d → I (k + i) acc e → ∃ e2, gx d e = some e2 ∧
      ((∃ e3, t e2 = .ok false e3 ∧ I (k + i + 1) acc (wipeE e3 is)) ∨
       ∃ e3 o e4 y e5, t e2 = .ok true e3 ∧ fe e3 = .ok o e4 ∧ frz1 o e4 = some (y, e5) ∧ acc.length < sizeLine ∧ I (k + i + 1) (acc ++ [y]) (wipeE e5 is))) →
    ∃ acc' e', lcLoop gx t fe is ds acc e = .ok acc' e' ∧ I (k + ds.length) acc' e'
  | [], k, acc, e, h, _ => ⟨acc, e, rfl, h⟩
  | d :: ds, k, acc, e, h, st => by
    have rest : ∀ acc e, I (k + 1) acc e → ∃ acc' e', lcLoop gx t fe is ds acc e = .ok acc' e' ∧ I (k + 1 + ds.length) acc' e' := fun acc e q =>
      lc_inv I ds (k + 1) acc e q (fun i d' acc e hi q => by
        have := st (i + 1) d' acc e (by simpa using hi) (by rw [show k + (i + 1) = k + 1 + i by omega]; exact q)
        rw [show k + (i + 1) = k + 1 + i by omega] at this
        exact this)
    obtain ⟨e2, h1, h2⟩ := st 0 d acc e rfl h
    rw [List.length_cons, show k + (ds.length + 1) = k + 1 + ds.length by omega]
    unfold lcLoop
    rw [h1]
    rcases h2 with ⟨e3, h2, h3⟩ | ⟨e3, o, e4, y, e5, h2, h3, h4, h5, h6⟩
    · simp only [h2, noX, Out.bind, if_neg (show ¬ (false = true) by decide)]
      exact rest _ _ h3
    · simp only [h2, noX, Out.bind, if_true, h3, h4, if_pos h5]
      exact rest _ _ h6
/-- a comprehension over ints without a test -/
theorem lc_ints {gx : Gx} {fe : Ex} {is : List Nat} (I : Nat → List D → En → Prop) (xs : List Int) (e : En) (h : I 0 [] e) (hl : xs.length ≤ 16777216)
    (st : ∀ (i : Nat) x acc e, xs[i]? = some x → acc.length = i → I i acc e → ∃ e2 o e4 y e5, gx (.int x) e = some e2 ∧ fe e2 = .ok o e4 ∧ frz1 o e4 = some (y, e5) ∧ I (i + 1) (acc ++ [y]) (wipeE e5 is)) :
    ∃ acc e', lcLoop gx tYesM fe is (xs.map .int) [] e = .ok acc e' ∧ acc.length = xs.length ∧ I xs.length acc e' := by
  obtain ⟨acc, e', a, b, c⟩ := lc_inv (gx := gx) (t := tYesM) (fe := fe) (is := is) (fun k acc e => acc.length = k ∧ I k acc e) (xs.map .int) 0 [] e ⟨rfl, h⟩ (fun i d acc e hd hI => by
    rw [List.getElem?_map] at hd
    obtain ⟨x, hx, rfl⟩ := Option.map_eq_some_iff.mp hd
    rw [Nat.zero_add] at hI ⊢
    obtain ⟨e2, o, e4, y, e5, h1, h2, h3, h4⟩ := st i x acc e hx hI.1 hI.2
    have hi := (List.getElem?_eq_some_iff.mp hx).1
    exact ⟨e2, h1, .inr ⟨e2, o, e4, y, e5, rfl, h2, h3, szlt (by have := hI.1; omega), by rw [List.length_append, hI.1]; rfl, h4⟩⟩)
  rw [List.length_map, Nat.zero_add] at b c
  exact ⟨acc, e', a, b, c⟩
/-- a comprehension over ints whose items are told, where the rest stays -/
theorem lc_fn {gx : Gx} {fe : Ex} {is : List Nat} {e : En} (F : Int → D) (xs : List Int) (hl : xs.length ≤ 16777216)
    (st : ∀ x ∈ xs, ∃ e2 o e4 e5, gx (.int x) e = some e2 ∧ fe e2 = .ok o e4 ∧ frz1 o e4 = some (F x, e5) ∧ wipeE e5 is = e) :
    lcLoop gx tYesM fe is (xs.map .int) [] e = .ok (xs.map F) e := by
  have q := lc_map (gx := gx) (fe := fe) (is := is) (e := e) (fun d => match d with | .int x => F x | d => d) (xs.map .int) (fun d hd => by
    obtain ⟨x, hx, rfl⟩ := List.mem_map.mp hd
    exact st x hx) (sz (by rw [List.length_map]; exact hl))
  rw [q, List.map_map]
  rfl
/-- .. with a test -/
theorem lc_flt {gx : Gx} {t : Tx} {fe : Ex} {is : List Nat} {e : En} (P : Int → Bool) (F : Int → D) (xs : List Int) (hl : xs.length ≤ 16777216)
    (st : ∀ x ∈ xs, ∃ e2 e3, gx (.int x) e = some e2 ∧ t e2 = .ok (P x) e3 ∧ (P x = false → wipeE e3 is = e) ∧ (P x = true → ∃ o e4 e5, fe e3 = .ok o e4 ∧ frz1 o e4 = some (F x, e5) ∧ wipeE e5 is = e)) :
    lcLoop gx t fe is (xs.map .int) [] e = .ok ((xs.filter P).map F) e := by
  have q := lc_all (gx := gx) (t := t) (fe := fe) (is := is) (e := e) (fun d => match d with | .int x => P x | _ => false) (fun d => match d with | .int x => F x | d => d) (xs.map .int) [] (fun d hd => by
    obtain ⟨x, hx, rfl⟩ := List.mem_map.mp hd
    exact st x hx) (sz (by rw [List.length_map, List.length_nil]; omega))
  rw [q, List.nil_append, List.filter_map, List.map_map]
  rfl
end T3
namespace T3
open PySem PySem.Spec PyProof.Rows L2
def ev0 := And.intro @ev_c ( And.intro @ev_nil ( And.intro @ev_cons ( And.intro @kv_cons ( And.intro @kv_cons2 ( And.intro @ev_two ( And.intro @kv_two ( And.intro @kv_two2 ( And.intro @ev_one ( And.intro @kv_one ( And.intro @ev_callB ( And.intro @kv_args ( And.intro @ev_frz ( And.intro @kv_frz ( And.intro @fin_some ( And.intro @fin_map ( And.intro @ev_if ( And.intro @kv_condE ( And.intro @ev_and ( And.intro @ev_or ( And.intro @ev_not ( And.intro @kv_notE ( And.intro @ev_slice ( And.intro @kv_slice ( And.intro @kv_slice2 ( And.intro @kv_slice3 ( And.intro @ev_none ( And.intro @ev_some ( And.intro @kv_some ( And.intro @ev_rev ( And.intro @dRev_l ( And.intro @ev_chain ( And.intro @kv_chain ( And.intro @kv_chain2 ( And.intro @kv_chain3 ( And.intro @ev_read ( And.intro @kv_read ( And.intro @ev_call ( And.intro @ev_callX (@kv_call)))))))))))))))))))))))))))))))))))))))
def ev1 := And.intro @kv_callX ( And.intro @ev_lc ( And.intro @kv_lc ( And.intro @kv_lc2 ( And.intro @ev_of ( And.intro @kv_of_b ( And.intro @kv_of_s ( And.intro @ev_tnot ( And.intro @kv_not ( And.intro @ev_tand ( And.intro @ev_tor ( And.intro @kv_cond ( And.intro @ev_tF ( And.intro @ev_tT ( And.intro @ev_yes ( And.intro @ev_seq ( And.intro @kv_seq ( And.intro @kv_seq_rt ( And.intro @kv_seq_bk ( And.intro @kv_seq_ct ( And.intro @ev_sif ( And.intro @kv_condS ( And.intro @ev_next ( And.intro @ev_break ( And.intro @ev_cont ( And.intro @ev_retN ( And.intro @ev_raise ( And.intro @ev_set ( And.intro @kv_set ( And.intro @ev_drop ( And.intro @kv_drop ( And.intro @ev_ret ( And.intro @ev_par ( And.intro @kv_par ( And.intro @ev_des ( And.intro @kv_des ( And.intro @ev_store ( And.intro @kv_store ( And.intro @kv_store2 (@ev_aug)))))))))))))))))))))))))))))))))))))))
def ev2 := And.intro @kv_aug ( And.intro @ev_meth ( And.intro @kv_meth ( And.intro @ev_ext ( And.intro @kv_ext ( And.intro @ev_for ( And.intro @kv_for ( And.intro @loop_nil ( And.intro @kv_loop_nx ( And.intro @kv_loop_ct ( And.intro @kv_loop_bk ( And.intro @kv_loop_rt ( And.intro @kv_wh ( And.intro @kv_wh_nx ( And.intro @kv_wh_ct ( And.intro @kv_wh_bk ( And.intro @kv_wh_rt ( And.intro @ev_ilst ( And.intro @kv_lst ( And.intro @ev_irg1 ( And.intro @kv_irg1 ( And.intro @rgC_i ( And.intro @ev_irg2 ( And.intro @kv_irg2 ( And.intro @rgC2_i ( And.intro @ev_ienum ( And.intro @kv_ienum ( And.intro @ev_izip ( And.intro @kv_izip ( And.intro @ev_itup ( And.intro @kv_itup ( And.intro @bind_ok ( And.intro @bind_exc ( And.intro @bind_bad ( And.intro @add_i ( And.intro @sub_i ( And.intro @cmp_i ( And.intro @is_nn ( And.intro @is_bb (@is_in)))))))))))))))))))))))))))))))))))))))
def ev3 := And.intro @is_bn ( And.intro @is_ln ( And.intro @is_tn ( And.intro @isi_d ( And.intro @abs_i ( And.intro @max_i ( And.intro @min_i ( And.intro @int_i ( And.intro @int_b ( And.intro @len_l ( And.intro @len_t ( And.intro @lst_l ( And.intro @lst_t ( And.intro @tup_l ( And.intro @res_v ( And.intro @res_n ( And.intro @frz_v ( And.intro @frz_n ( And.intro @res_s ( And.intro @resC_v ( And.intro @resC_o ( And.intro @resC_p ( And.intro @frz_s ( And.intro @frzC_v ( And.intro @frzC_o ( And.intro @resAll_nil ( And.intro @resAll_cons ( And.intro @frzAll_nil ( And.intro @frzAll_cons ( And.intro @ev_s ( And.intro @sC_v ( And.intro @sC_o ( And.intro @sC_p ( And.intro @sC_r ( And.intro @getM_o ( And.intro @getM_p ( And.intro @setM_o ( And.intro @setM_p ( And.intro @ret_v (@ret_n)))))))))))))))))))))))))))))))))))))))
def ev4 := And.intro @ret_s ( And.intro @retC_o ( And.intro @retC_v ( And.intro @put_v ( And.intro @put_n ( And.intro @put_s ( And.intro @putC_v ( And.intro @putC_o ( And.intro @isPar_no ( And.intro @isPar_v ( And.intro @isPar_o ( And.intro @uns_v ( And.intro @uns_n ( And.intro @uns_s ( And.intro @unsC_v ( And.intro @unsC_o ( And.intro @unss_nil ( And.intro @unss_cons ( And.intro @puts_nil ( And.intro @puts_cons ( And.intro @g_slot ( And.intro @g_tup ( And.intro @g_all_nil ( And.intro @g_all_cons ( And.intro @g_idx ( And.intro @ev_dict0 ( And.intro @own_n ( And.intro @run_eq ( And.intro @endR_rt ( And.intro @endR_nx ( And.intro @endR_exc ( And.intro @outs_nil ( And.intro @outs_cons ( And.intro @outC_p ( And.intro @nos_v ( And.intro @nos_n ( And.intro @call_eq ( And.intro @ret_ok ( And.intro @ret_exc (@szT)))))))))))))))))))))))))))))))))))))))
def ev5 := And.intro @szltT ( And.intro @decT ( And.intro @decF ( And.intro @beqT ( And.intro @beqF ( And.intro @mul_ii1 ( And.intro @mul_ii2 ( And.intro @mul_ii3 ( And.intro @div_ii1 ( And.intro @div_ii2 ( And.intro @mod_ii ( And.intro @pow_ii ( And.intro @in62T ( And.intro @in63T ( And.intro @rgOkT ( And.intro @timesT ( And.intro @ixNT ( And.intro @ixNL ( And.intro @ix_li ( And.intro @ix_0 ( And.intro @ix_1 ( And.intro @ix_2 ( And.intro @ix_t0 ( And.intro @ix_t1 ( And.intro @ix_2i ( And.intro @ix_3i ( And.intro @eq_ii ( And.intro @ne_ii ( And.intro @eq_ll ( And.intro @ne_ll ( And.intro @eq_nn ( And.intro @ne_nn ( And.intro @eq_zz ( And.intro @ne_zz ( And.intro @rg1_i ( And.intro @rg2_i ( And.intro @app_l ( And.intro @add_l ( And.intro @mul_l (@safe_ints)))))))))))))))))))))))))))))))))))))))
def ev6 := And.intro @repr_bool ( And.intro @rangeD_rg ( And.intro @rgI_len ( And.intro @map_tak ( And.intro @map_drp ( And.intro @map_rev ( And.intro @map_st ( And.intro @map_ers ( And.intro @map_repl ( And.intro @repl_one ( And.intro @ev_menu ( And.intro @kv_menu ( And.intro @kv_menu2 ( And.intro @menu_2 ( And.intro @menu_v ( And.intro @menu_n ( And.intro @safeC_l ( And.intro @safeC_d ( And.intro @pop_li ( And.intro @cut_ti ( And.intro @cut_fi ( And.intro @sorted_li (@lst_li))))))))))))))))))))))
end T3
namespace T3
open PySem PySem.Spec PyProof.Rows L2
end T3
namespace T3
open PySem PySem.Spec PyProof.Rows L2
end T3
namespace T3
open PySem PySem.Spec PyProof.Rows L2
end T3
namespace T3
open PySem PySem.Spec PyProof.Rows L2
open PySem.W (EachIs)
end T3
namespace T3
open PySem PySem.Spec PyProof.Rows L2
end T3
namespace T3
open PySem PySem.Spec PyProof.Rows L2
end T3
namespace T3
open PySem PySem.Spec PyProof.Rows L2
end T3
namespace T3
open PySem PySem.Spec PyProof.Rows L2
end T3
namespace T3
open PySem PySem.Spec PyProof.Rows L2
def inlK (is : List Int) : List Key := is.map Sum.inl
theorem inlK_V (is : List Int) : (inlK is).map kV = is.map V.int := by
  unfold inlK
  rw [List.map_map]; rfl
section
variable {K : Fg} {A : Hp}
theorem noMk {kvs : List (Key × V)} {ds : List D} {es : List (D × D)} (h : mkT :: es = (kvs.map fun q => kD q.1).zip ds) : False := by
  cases kvs with
  | nil => cases h
  | cons q kvs =>
    cases ds with
    | nil => cases h
    | cons d ds =>
      rw [List.map_cons, List.zip_cons_cons] at h
      have e := (List.cons.inj h).1
      have e1 : (PyData.none : D) = kD q.1 := congrArg Prod.fst e
      cases hq : q.1 with
      | inl i => rw [hq] at e1; cases e1
      | inr x => rw [hq] at e1; cases e1
theorem Bod.dT {H : Hp} {p : Addr} {es : List (D × D)} (h : Bod K A H p (.dict (mkT :: es))) : ∃ kvs ds, H p = some (.dT kvs) ∧ Reps K A (kvs.map (·.2)) ds ∧ es = (kvs.map fun q => kT q.1).zip ds := by
  rcases h with ⟨kvs, ds, a, b, c⟩ | ⟨kvs, ds, a, b, c⟩ | ⟨C, dx, l, xs, ds, a, b, c, f, g⟩
  · exact (noMk c).elim
  · exact ⟨kvs, ds, a, b, (List.cons.inj c).2⟩
  · rcases g with g | g <;> cases g
theorem View.dT {H : Hp} {v : V} {es : List (D × D)} (h : View K A H v (.dict (mkT :: es))) (s : Same A H) : ∃ p kvs ds, v = .ref p ∧ H p = some (.dT kvs) ∧ Reps K A (kvs.map (·.2)) ds ∧ es = (kvs.map fun q => kT q.1).zip ds := by
  rcases h with h | ⟨p, e, n, b⟩
  · generalize hd : PyData.dict (mkT :: es) = d at h
    cases h <;> first | cases hd | skip
    · injection hd with hd
      exact (noMk hd).elim
    · rename_i a kvs ds x y
      exact ⟨a, kvs, ds, rfl, s _ _ x, y, rfl⟩
  · obtain ⟨kvs, ds, a, b, c⟩ := b.dT
    exact ⟨p, kvs, ds, e, a, b, c⟩
theorem View.key {H : Hp} {v : V} {is : List Int} (h : View K A H v (.tuple (is.map .int))) (s : Same A H) : ∃ b, v = .ref b ∧ H b = some (.tup ((inlK is).map kV)) := by
  have r := h.rep s
  cases r with
  | tup a b =>
    have := Reps.flat_ints b
    subst this
    rw [inlK_V]
    exact ⟨_, rfl, by first | exact s _ _ a | exact a⟩
end
end T3
namespace T3
open PySem PySem.Spec PyProof.Rows L2
end T3
namespace T3
open PySem PySem.Spec PyProof.Rows L2
open PySem.W (EachIs)
end T3
namespace T3
open PySem PySem.Spec PyProof.Rows L2
def plusF (F G : Hp) : Hp := fun b => match G b with
  | some o => some o
  | none => F b
theorem plus_l {F G : Hp} {b : Addr} {o : HO} (h : G b = some o) : plusF F G b = some o := by unfold plusF; rw [h]
theorem plus_r {F G : Hp} {b : Addr} (h : G b = none) : plusF F G b = F b := by unfold plusF; rw [h]
/-- the items of a tree, each with its row -/
inductive Itms (K : Fg) (G : Hp) : List Addr → List (List D) → Prop
  | nil : Itms K G [] []
  | cons {q : Addr} {vs : List V} {ds : List D} {qs : List Addr} {rows : List (List D)} : G q = some (.lst vs) → (∀ A, Reps K A vs ds) → Itms K G qs rows → Itms K G (q :: qs) (ds :: rows)
theorem Itms.len {K : Fg} {G : Hp} : ∀ {qs : List Addr} {rows : List (List D)}, Itms K G qs rows → qs.length = rows.length
  | _, _, .nil => rfl
  | _, _, .cons _ _ t => congrArg Nat.succ t.len
theorem Itms.cong {K : Fg} {G G' : Hp} : ∀ {qs : List Addr} {rows : List (List D)}, Itms K G qs rows → (∀ q ∈ qs, G' q = G q) → Itms K G' qs rows
  | _, _, .nil, _ => .nil
  | _, _, .cons a b t, h => .cons ((h _ List.mem_cons_self).trans a) b (t.cong fun q hq => h q (List.mem_cons_of_mem _ hq))
structure Tre (K : Fg) (F A G : Hp) (p : Addr) (qs : List Addr) (rows : List (List D)) : Prop where
  top : G p = some (.lst (qs.map V.ref))
  its : Itms K G qs rows
  nd : (p :: qs).Nodup
  dom : ∀ b, b ∉ p :: qs → G b = none
  free : ∀ b ∈ p :: qs, F b = none ∧ A b = none
structure TOk (K : Fg) (F : Hp) (σ : Sl) (e : En) (H A : Hp) (i : Nat) (p : Addr) (G : Hp) (qs : List Addr) (rows : List (List D)) : Prop where
  S : SOk K (plusF F G) σ e H A
  raw : e.getD i .no = .raw (.ref p)
  T : Tre K F A G p qs rows
section
variable {K : Fg} {F A G H A' H' : Hp} {σ σ' : Sl} {e e' : En} {i : Nat} {p : Addr} {qs : List Addr} {rows : List (List D)}
theorem Itms.lst {K : Fg} {G : Hp} : ∀ {qs : List Addr} {rows : List (List D)}, Itms K G qs rows → ∀ q ∈ qs, ∃ vs, G q = some (.lst vs)
  | _, _, .nil, _, h => absurd h (by simp)
  | _, _, .cons a _ t, q, h => by
    rcases List.mem_cons.mp h with rfl | h
    · exact ⟨_, a⟩
    · exact t.lst q h
theorem Tre.isl (T : Tre K F A G p qs rows) {b : Addr} {o : HO} (h : G b = some o) : b ∈ p :: qs ∧ ∃ vs, o = .lst vs := by
  have m : b ∈ p :: qs := Classical.byContradiction fun n => by rw [T.dom b n] at h; cases h
  refine ⟨m, ?_⟩
  rcases List.mem_cons.mp m with rfl | m
  · rw [T.top] at h; cases h; exact ⟨_, rfl⟩
  · obtain ⟨vs, e⟩ := T.its.lst b m
    rw [e] at h; cases h; exact ⟨_, rfl⟩
theorem Tre.low (T : Tre K F A G p qs rows) : Low F (plusF F G) := by
  refine ⟨fun b o h => ?_, fun b j h => ?_⟩
  · cases hg : G b with
    | none => rw [plus_r hg]; exact h
    | some u =>
      have := (T.free b (T.isl hg).1).1
      rw [this] at h; cases h
  · cases hg : G b with
    | none => rw [plus_r hg] at h; exact h
    | some u =>
      obtain ⟨_, vs, rfl⟩ := T.isl hg
      rw [plus_l hg] at h
      exact absurd (Option.some.inj h) (lst_mk j)
theorem Tre.grow (T : Tre K F A G p qs rows) (g : Grow (plusF F G) A A') : Tre K F A' G p qs rows := by
  refine ⟨T.top, T.its, T.nd, T.dom, fun b hb => ⟨(T.free b hb).1, ?_⟩⟩
  have : (plusF F G b).isSome := by
    rcases List.mem_cons.mp hb with rfl | m
    · rw [plus_l T.top]; rfl
    · obtain ⟨vs, e⟩ := T.its.lst b m
      rw [plus_l e]; rfl
  exact (g.2 b this).trans (T.free b hb).2
theorem TOk.slot (t : TOk K F σ e H A i p G qs rows) : σ[i]? = some (some (.ref p)) := by
  have h := t.S.cell i
  rw [t.raw] at h
  exact h
end
inductive TO where
  | nx (e : En) (rows : List (List D)) | rt (o : Op) (e : En) | rtT (e : En) (rows : List (List D)) | nx0 (e : En) | bad
def LST (K : Fg) (F A : Hp) (Z : Ends) (i : Nat) (p : Addr) : TO → Prop
  | .nx e rows => ∀ σ' H' A' G qs, TOk K F σ' e H' A' i p G qs rows → Grow F A A' → Z.nx σ' H'
  | .rt o e => ∀ v σ' H' A', SOk K F σ' e H' A' → Grow F A A' → OpOk K F A' H' σ' e v o → Z.rt v H'
  | .rtT e rows => ∀ σ' H' A' G p' qs, SOk K (plusF F G) σ' e H' A' → Tre K F A' G p' qs rows → Grow F A A' → Z.rt (.ref p') H'
  | .nx0 e => ∀ σ' H' A', SOk K F σ' e H' A' → Grow F A A' → Z.nx σ' H'
  | .bad => False
theorem LST.grow {K : Fg} {F A A1 : Hp} {Z : Ends} {i : Nat} {p : Addr} {r : TO} (h : LST K F A Z i p r) (g : Grow F A A1) : LST K F A1 Z i p r := by
  cases r with
  | nx e rows => exact fun σ' H' A' G qs t g' => h σ' H' A' G qs t (g.trans g')
  | rt o e => exact fun v σ' H' A' S g' r => h v σ' H' A' S (g.trans g') r
  | rtT e rows => exact fun σ' H' A' G p' qs S T g' => h σ' H' A' G p' qs S T (g.trans g')
  | nx0 e => exact fun σ' H' A' S g' => h σ' H' A' S (g.trans g')
  | bad => exact h
end T3
namespace T3
open PySem PySem.Spec PyProof.Rows L2
abbrev Rws := List (List D)
end T3
namespace T3
open PySem PySem.Spec PyProof.Rows L2
end T3
namespace T3
open PySem PySem.Spec PyProof.Rows L2
theorem Itms.at {K : Fg} {G : Hp} : ∀ {qs : List Addr} {rows : Rws} {j : Nat} {q : Addr}, Itms K G qs rows → qs[j]? = some q → ∃ ds vs, rows[j]? = some ds ∧ G q = some (.lst vs) ∧ ∀ A, Reps K A vs ds
  | _, _, _, _, .nil, h => by simp at h
  | _, _, 0, q, .cons a b t, h => by simp at h; subst h; exact ⟨_, _, rfl, a, b⟩
  | _, _, j + 1, q, .cons a b t, h => by
    obtain ⟨ds, vs, x, y, z⟩ := t.at (j := j) (by simpa using h)
    exact ⟨ds, vs, by simpa using x, y, z⟩
theorem Itms.put {K : Fg} {G G' : Hp} : ∀ {qs : List Addr} {rows : Rws} {j : Nat} {q : Addr} {vs : List V} {ds : List D}, Itms K G qs rows → qs.Nodup → qs[j]? = some q → G' q = some (.lst vs) → (∀ A, Reps K A vs ds) → (∀ b ∈ qs, b ≠ q → G' b = G b) → Itms K G' qs (rows.set j ds)
  | _, _, _, _, _, _, .nil, _, h, _, _, _ => by simp at h
  | _, _, 0, q, vs, ds, .cons a b t, nd, h, h1, h2, h3 => by
    simp at h; subst h
    exact .cons h1 h2 (t.cong fun r hr => h3 r (List.mem_cons_of_mem _ hr) fun z => (List.nodup_cons.mp nd).1 (z ▸ hr))
  | q0 :: _, _, j + 1, q, vs, ds, .cons a b t, nd, h, h1, h2, h3 => by
    have hj := (show _ from by simpa using h : _[j]? = some q)
    have ne : q0 ≠ q := fun z => (List.nodup_cons.mp nd).1 (z ▸ List.mem_of_getElem? hj)
    exact .cons ((h3 q0 List.mem_cons_self ne).trans a) b (t.put (List.nodup_cons.mp nd).2 hj h1 h2 fun r hr => h3 r (List.mem_cons_of_mem _ hr))
end T3
namespace T3
open PySem PySem.Spec PyProof.Rows L2
open PySem.W (EachIs)
end T3
namespace T3
open PySem PySem.Spec PyProof.Rows L2
theorem bindsNil {K : Fg} {fd : FuncData} {ps : List Str} (h : ∃ ds : List Value, Vals [] ds ∧ Binds K fd ps ds) : Binds K fd ps [] := by
  obtain ⟨ds, v, b⟩ := h
  cases v
  exact b
end T3
namespace T3
open PySem PySem.Spec PyProof.Rows L2
end T3
namespace T3
open PySem PySem.Spec PyProof.Rows L2
end T3
namespace T3
open PySem PySem.Spec PyProof.Rows L2
end T3
namespace T3
open PySem PySem.Spec PyProof.Rows L2
open PySem.W (EachIs)
end T3
namespace T3
open PySem PySem.Spec PyProof.Rows L2
end T3
namespace T3
open PySem PySem.Spec PyProof.Rows L2
end T3
namespace T3
open PySem PySem.Spec PyProof.Rows L2
/-- lists that stand beside F -/
structure Blk (F A Fs : Hp) : Prop where
  low : Low F Fs
  isl : ∀ b o, Fs b = some o → F b = none → (∀ i, o ≠ mkP i) ∧ A b = none
section
variable {K : Fg} {F A Fs H : Hp} {σ : Sl} {e e' e2 : En}
theorem upd_id {b : Addr} {o : HO} (h : F b = some o) : upd F b o = F := by
  funext a
  by_cases ha : a = b
  · subst ha; rw [upd_same, h]
  · rw [upd_ne ha]
theorem SOk.put {b : Addr} {xs : List V} (S : SOk K Fs σ e H A) (h : Fs b = some (.lst xs)) (hA : A b = none) (ys : List V) : SOk K (upd Fs b (.lst ys)) σ e (upd H b (.lst ys)) A :=
  SOk.bump (xs := xs) (by rw [upd_id h]; exact S) hA ys
theorem Blk.put {b : Addr} {ys : List V} (B : Blk F A Fs) (hf : F b = none) (hA : A b = none) : Blk F A (upd Fs b (.lst ys)) := by
  refine ⟨⟨fun a o h => ?_, fun a j h => ?_⟩, fun a o h hn => ?_⟩
  · rw [upd_ne (ne_of_none h hf)]; exact B.low.same a o h
  · by_cases ha : a = b
    · subst ha; rw [upd_same] at h; exact absurd (Option.some.inj h) (lst_mk j)
    · rw [upd_ne ha] at h; exact B.low.back a j h
  · by_cases ha : a = b
    · subst ha; rw [upd_same] at h; cases h; exact ⟨lst_mk, hA⟩
    · rw [upd_ne ha] at h; exact B.isl a o h hn
end
/-- a tree whose first item, and which itself, may grow -/
def OKt (F Fs : Hp) (p q : Addr) : Prop := p ≠ q ∧ F p = none ∧ F q = none ∧ ∃ us vs, Fs p = some (.lst (.ref q :: us)) ∧ us.length + 1 < sizeLine ∧ Fs q = some (.lst vs) ∧ vs.length < sizeLine
theorem OKt.cong {F Fs Fs' : Hp} {p q : Addr} (h : OKt F Fs p q) (hp : Fs' p = Fs p) (hq : Fs' q = Fs q) : OKt F Fs' p q := by
  obtain ⟨a, b, c, us, vs, d, e, f, g⟩ := h
  exact ⟨a, b, c, us, vs, hp.trans d, e, hq.trans f, g⟩
end T3
namespace T3
open PySem PySem.Spec PyProof.Rows L2
end T3
namespace T3
open PySem PySem.Spec PyProof.Rows L2
end T3
namespace T3
open PySem PySem.Spec PyProof.Rows L2
theorem tup_mk {xs : List V} : ∀ i, (HO.tup xs) ≠ mkP i := fun i h => nomatch h
structure Pap (K : Fg) (F A G : Hp) (p q : Addr) (w : Str) (row : List D) : Prop where
  top : G p = some (.tup [.str w, .ref q])
  its : ∃ vs, G q = some (.lst vs) ∧ ∀ A, Reps K A vs row
  ne : p ≠ q
  dom : ∀ b, b ≠ p → b ≠ q → G b = none
  fp : F p = none ∧ A p = none
  fq : F q = none ∧ A q = none
section
variable {K : Fg} {F A G H A' H' : Hp} {σ : Sl} {e : En} {p q : Addr} {w : Str} {row : List D}
theorem Pap.isl (T : Pap K F A G p q w row) {b : Addr} {o : HO} (h : G b = some o) : (∀ i, o ≠ mkP i) ∧ F b = none ∧ A b = none := by
  by_cases h1 : b = p
  · subst h1
    rw [T.top] at h; cases h
    exact ⟨tup_mk, T.fp⟩
  · by_cases h2 : b = q
    · subst h2
      obtain ⟨vs, x, _⟩ := T.its
      rw [x] at h; cases h
      exact ⟨lst_mk, T.fq⟩
    · rw [T.dom b h1 h2] at h; cases h
theorem Pap.low (T : Pap K F A G p q w row) : Low F (plusF F G) := by
  refine ⟨fun b o h => ?_, fun b j h => ?_⟩
  · cases hg : G b with
    | none => rw [plus_r hg]; exact h
    | some u =>
      have := (T.isl hg).2.1
      rw [this] at h; cases h
  · cases hg : G b with
    | none => rw [plus_r hg] at h; exact h
    | some u =>
      rw [plus_l hg] at h
      exact absurd (Option.some.inj h) ((T.isl hg).1 j)
theorem Pap.grow (T : Pap K F A G p q w row) (g : Grow (plusF F G) A A') : Pap K F A' G p q w row := by
  obtain ⟨vs, x, y⟩ := T.its
  refine ⟨T.top, T.its, T.ne, T.dom, ⟨T.fp.1, ?_⟩, ⟨T.fq.1, ?_⟩⟩
  · exact (g.2 p (by rw [plus_l T.top]; rfl)).trans T.fp.2
  · exact (g.2 q (by rw [plus_l x]; rfl)).trans T.fq.2
end
end T3
namespace T3
open PySem PySem.Spec PyProof.Rows L2
end T3
namespace T3
open PySem PySem.Spec PyProof.Rows L2
end T3
namespace T3
open PySem PySem.Spec PyProof PyProof.Rows L2
end T3
namespace T3
open PySem PySem.Spec PyProof.Rows L2
end T3
namespace T3
open PySem PySem.Spec PyProof.Rows L2
section
variable {K : Fg} {F A H : Hp} {σ : Sl} {env : En}
theorem WC.same {C C' : Addr} (h : WC K C) (h' : WC K C') : C = C' := by
  have e := h.glo.symm.trans h'.glo
  cases e; rfl
end
end T3
namespace T3
open PySem PySem.Spec PyProof.Rows L2
end T3
namespace T3
open PySem PySem.Spec PyProof.Rows L2
abbrev Ips := List (Int × Int)
/-- what stands at a key; a key put in its place, or at the end -/
def lookI (ps : Ips) (k : Int) : Option Int := (ps.find? fun q => decide (q.1 = k)).map (·.2)
def putI (ps : Ips) (k v : Int) : Ips := if (ps.any fun q => decide (q.1 = k)) = true then ps.map (fun q => if q.1 = k then (q.1, v) else q) else ps ++ [(k, v)]
def dcI (ps : Ips) : Ips := ps.foldl (fun acc q => putI acc q.1 q.2) []
def iC : Cell → Option Int
  | .v (.int i) => some i
  | _ => none
end T3
namespace T3
open PySem PySem.Spec PyProof.Rows L2
end T3
namespace T3
open PySem PySem.Spec PyProof.Rows L2
end T3
namespace T3
open PySem PySem.Spec PyProof.Rows L2
/-- a def at an address -/
def fnAt (K : PySem.W.Frag) (a : Addr) : He.FnW := match K.lookup a with
  | some ⟨_, _, .func fd, _⟩ => some (fd.name, fd.qualname, fd.params, fd.body, fd.scope, fd.globals, fd.closure, fd.builtins)
  | _ => none
def okAt (K : PySem.W.Frag) (d : He.DefD) (a : Addr) : Bool := PySem.W.keepIn K (.ref a) && (match K.lookup a with
  | some ⟨_, _, .func fd, _⟩ => PySem.W.codeIn K fd.code d.qual && (He.dflB K fd.defaults (d.dvs K) && He.kwdB K fd.kwdefaults (d.kws K))
  | _ => false)
/-- a property's getter -/
def gAd (K : PySem.W.Frag) (x m : Str) : Addr := match PySem.W.recIn K (He.ma K (He.ga K x) m) "property" with
  | some (.ref g :: _) => g
  | _ => 0
/-- a property: its class, its name, its getter -/
structure PrD where
  cls : Str
  prop : Str
  d : He.DefD
def PrD.ok (K : PySem.W.Frag) (q : PrD) : Bool := okAt K q.d (gAd K q.cls q.prop) && (He.eqO (PySem.W.findIn K (.ref (He.ga K q.cls)) q.prop) (some (some (.ref (He.ma K (He.ga K q.cls) q.prop)))) &&
  (He.eqO (PySem.W.specialIn K (.ref (He.ma K (He.ga K q.cls) q.prop)) "__get__") (some (some (.builtin "property.__get__"))) && (decide (PySem.W.takesIn K (.ref (He.ma K (He.ga K q.cls) q.prop)) = some true) &&
  (match PySem.W.recIn K (He.ma K (He.ga K q.cls) q.prop) "property" with
    | some (.ref _ :: _) => true
    | _ => false))))
/-- what isinstance asks of the class -/
def wcB (K : PySem.W.Frag) : Bool := He.eqO (PySem.W.nsIn K mainGlobals "Watch") (some (some (.ref (He.ga K "Watch")))) && ((He.Fa.cls "Watch").ok K && ((He.Fa.noat "Watch" "past").ok K &&
  (He.eqO (PySem.W.findIn K (.ref (He.ga K "Watch")) "__class__") (some (some (.builtin "object.__class__"))) && (He.eqO (PySem.W.specialIn K (.builtin "object.__class__") "__get__") (some (some (.builtin "getset_descriptor.__get__"))) &&
  (decide (PySem.W.takesIn K (.builtin "object.__class__") = some true) && (decide (PySem.W.mroIn K (He.ga K "Watch") (.type "object") = some true) && (decide (PySem.W.kitOne K (.ref (He.ga K "Watch")) (.ref (He.ga K "Watch")) = some true) &&
  (["NoneType", "int", "bool", "str", "list", "tuple", "dict"] : List String).all fun T => decide (PySem.W.kitOne K (.ref (He.ga K "Watch")) (.type T) = some false))))))))
/-- the class and what it names in n steps -/
def asC (g : Addr → Option Obj) (a : Addr) : Nat → List Addr
  | 0 => [a]
  | n + 1 => He.growD g (asC g a n)
abbrev AlW : Type := He.AlD × (Bool × List He.FnW)
def obsW (fa : List He.Fa) (fn : List He.DefD) (fp : List PrD) (K : PySem.W.Frag) : AlW := (He.obsD fa fn K, (fp.all (fun q => q.ok K) && wcB K, fp.map fun q => fnAt K (gAd K q.cls q.prop)))
def valW (fn : List He.DefD) (fp : List PrD) : AlW := (He.valD fn, (true, fp.map fun q => q.d.val))
def SaysW (fa : List He.Fa) (fn : List He.DefD) (fp : List PrD) (K : PySem.W.Frag) : Prop := obsW fa fn fp K = valW fn fp
end T3
namespace T3
open PySem PySem.Spec PyProof.Rows L2
theorem funAt {K : Fg} {d : He.DefD} {a : Addr} (e : fnAt K a = d.val) (c : okAt K d a = true) : ∃ fd, FunD K d.name d.qual d.params d.body d.scope (d.dvs K) (d.kws K) a fd := by
  unfold okAt at c
  unfold fnAt He.DefD.val at e
  rw [Bool.and_eq_true] at c
  cases lk : K.lookup a with
  | none => rw [lk] at c; exact absurd c.2 Bool.false_ne_true
  | some o =>
    rw [lk] at c e
    obtain ⟨oc, od, dt, osl⟩ := o
    cases dt <;> first | exact absurd c.2 Bool.false_ne_true | skip
    rename_i fd
    simp only [Bool.and_eq_true] at c
    obtain ⟨kp, c1, c2, c3⟩ := c
    cases fd with
    | mk n1 n2 n3 n4 n5 n6 n7 n8 n9 n10 n11 n12 n13 n14 n15 =>
      simp only [Option.some.injEq, Prod.mk.injEq] at e
      obtain ⟨rfl, rfl, rfl, rfl, rfl, rfl, rfl, rfl⟩ := e
      exact ⟨_, ⟨oc, od, n8, n9, n10, n11, n12, n13, n14, osl, rfl, lk, c1, He.dflB_ok c2, He.kwdB_ok c3⟩, kp⟩
theorem PrD.prop_ok {K : Fg} {q : PrD} (h : q.ok K = true) : PropOf K (He.ga K q.cls) q.prop (He.ma K (He.ga K q.cls) q.prop) (gAd K q.cls q.prop) := by
  unfold PrD.ok at h
  simp only [Bool.and_eq_true, decide_eq_true_eq] at h
  obtain ⟨_, h1, h2, h3, h4⟩ := h
  refine ⟨He.eqO_ok h1, He.eqO_ok h2, h3, ?_⟩
  unfold gAd
  split at h4
  · rename_i g r e
    rw [e]
    exact ⟨r, rfl⟩
  · cases h4
section
variable {fa : List He.Fa} {fn : List He.DefD} {fp : List PrD} {K : Fg}
theorem SaysW.d (c : SaysW fa fn fp K) : He.SaysD fa fn K := congrArg (fun z : AlW => z.1) c
theorem SaysW.prop (c : SaysW fa fn fp K) (i : Nat) {q : PrD} (h : fp[i]? = some q := by rfl) : PropOf K (He.ga K q.cls) q.prop (He.ma K (He.ga K q.cls) q.prop) (gAd K q.cls q.prop) ∧ ∃ fd, FunD K q.d.name q.d.qual q.d.params q.d.body q.d.scope (q.d.dvs K) (q.d.kws K) (gAd K q.cls q.prop) fd := by
  have h1 : (fp.all (fun q => q.ok K) && wcB K) = true := congrArg (fun z : AlW => z.2.1) c
  have h2 : fp.map (fun q => fnAt K (gAd K q.cls q.prop)) = fp.map fun q => q.d.val := congrArg (fun z : AlW => z.2.2) c
  rw [Bool.and_eq_true, List.all_eq_true] at h1
  have ok := h1.1 q (List.mem_of_getElem? h)
  have e : (fp.map fun q => fnAt K (gAd K q.cls q.prop))[i]? = (fp.map fun q => q.d.val)[i]? := by rw [h2]
  rw [List.getElem?_map, List.getElem?_map, h] at e
  refine ⟨PrD.prop_ok ok, funAt (Option.some.inj e) ?_⟩
  unfold PrD.ok at ok
  rw [Bool.and_eq_true] at ok
  exact ok.1
end
end T3
namespace T3
open PySem PySem.Spec PyProof.Rows L2
open PySem.W (EachIs)
end T3
namespace T3
open PySem PySem.Spec PyProof.Rows L2
end T3
namespace T3
open PySem PySem.Spec PyProof.Rows L2
def isStr : D → Bool
  | .str _ => true
  | _ => false
def strOf : D → Option Str
  | .str x => some x
  | _ => none
def strsOf : List D → Option (List Str)
  | [] => some []
  | d :: ds => (strOf d).bind fun q => (strsOf ds).map (q :: ·)
theorem strOf_eq {d : D} {q : Str} (h : strOf d = some q) : d = .str q := by
  unfold strOf at h
  split at h
  · cases h; rfl
  · cases h
theorem strsOf_eq : ∀ {ds : List D} {ps : List Str}, strsOf ds = some ps → ds = ps.map .str
  | [], ps, h => by cases h; rfl
  | d :: ds, ps, h => by
    unfold strsOf at h
    obtain ⟨q, h1, h2⟩ := Option.bind_eq_some_iff.mp h
    obtain ⟨r, h3, rfl⟩ := Option.map_eq_some_iff.mp h2
    rw [strOf_eq h1, strsOf_eq h3]; rfl
theorem strsOf_map : ∀ ps : List Str, strsOf (ps.map .str) = some ps
  | [] => rfl
  | q :: ps => by
    show (some q).bind (fun q => (strsOf (ps.map .str)).map (q :: ·)) = _
    rw [strsOf_map ps]; rfl
def dJoinT : D → D → Option Op
  | .str a, .list ds => (strsOf ds).bind fun ys => if (ys.map (·.length)).sum + ys.length * a.length ≤ 16777216 then some (.val (.str (Txt.join a ys))) else none
  | _, _ => none
section
variable {K : Fg} {A H : Hp}
theorem Reps.strs_of : ∀ {vs : List V} (ps : List Str), Reps K A vs (ps.map .str) → vs = ps.map V.str
  | vs, [], h => by cases h; rfl
  | vs, q :: ps, h => by
    cases h with
    | cons a b => cases a; rw [Reps.strs_of ps b]; rfl
theorem ty_str (A H : Hp) (v : V) (d : D) (_ : Same A H) (w : View K A H v d) (k : isStr d = true) : tyV K "str" v H := by
  unfold isStr at k
  split at k
  · rw [w.str]; rfl
  · cases k
theorem i_joinT : Impl2 K (fun x y H Q => (fun x xs H Q => ∃ a p, ∃ ys : List Str, x = .str a ∧ xs = [.ref p] ∧ (SqL K H p (ys.map V.str) ∨ SqT K H p (ys.map V.str)) ∧
    (ys.map (·.length)).sum + ys.length * a.length ≤ 16777216 ∧ Q (.str (Txt.join a ys)) H : V → List V → Hp → VK → Prop) x [y] H Q) dJoinT := by
  intro A H x y d1 d2 o Q s v1 v2 g q
  unfold dJoinT at g
  split at g
  · obtain ⟨ys, e, g⟩ := Option.bind_eq_some_iff.mp g
    split at g
    · rename_i hz
      cases g
      obtain ⟨p, vs, e1, s1, r⟩ := v2.lst s
      subst e1
      rw [strsOf_eq e] at r
      rw [Reps.strs_of ys r] at s1
      exact ⟨_, p, ys, v1.str, rfl, .inl s1, hz, q.str s⟩
    · cases g
  · cases g
end
section
variable {X : Cx} {E : Sl → XK} {pos p apos cpos : Pos} {e o : Expr} {es : List Expr} {f fo : Ex} {fa : Ax} {x : Str}
theorem jp_joinT (ho : JP X E o fo) (ha : JP X E e f) (hbase : attributeBase o "join" X.env (eval o X.env) = eval o X.env := by rfl)
    (hfew : ((backTo cpos (starEach [e] X.env)).all (fun x => !x.1) && (backToKw cpos (keywordEach [] X.env)).all (fun x => x.1.isSome) && decide ([e].length + ([] : List Keyword).length + (if ([] : List Keyword).isEmpty then 0 else 1) < 30)) = true := by rfl)
    (hline : (apos.endLine == cpos.line) = true := by rfl) (hs : starEach [e] X.env = (false, eval e X.env) :: starEach [] X.env := by rfl) (hplain : (backTo cpos (starEach [] X.env)).any (·.1) = false := by rfl) :
    JP X E (.Call (.Attribute o "join" apos) [e] [] cpos) (eRead isStr dJoinT fo f) :=
  impE (pe_bm PySem.F.plainAttrs_str PySem.F.slot_str_join PySem.F.type_str_join mt_join ho (pa_cons ha pa_nil hs) hbase hfew hline hs hplain) fun _ _ _ h => tJ_read (ok := isStr) ty_str i_joinT h
end
theorem join_tt {a : Str} {ys : List Str} (h : (ys.map (·.length)).sum + ys.length * a.length ≤ 16777216) : dJoinT (.str a) (.list (ys.map .str)) = some (.val (.str (Txt.join a ys))) := by
  show (strsOf (ys.map .str)).bind _ = _
  rw [strsOf_map]
  exact if_pos h
end T3
namespace T3
open PySem PySem.Spec PyProof.Rows L2
end T3
namespace T3
open PySem PySem.Spec PyProof.Rows L2
end T3
namespace T3
open PySem PySem.Spec PyProof.Rows L2
end T3
namespace T3
open PySem PySem.Spec PyProof.Rows L2
end T3
namespace T3
open PySem PySem.Spec PyProof.Rows L2
end T3
namespace T3
open PySem PySem.Spec PyProof.Rows L2
end T3
namespace T3
open PySem PySem.Spec PyProof.Rows L2
end T3
namespace T3
open PySem PySem.Spec PyProof.Rows L2
end T3
namespace T3
open PySem PySem.Spec PyProof.Rows L2
section
variable {K : Fg} {F A H : Hp} {σ : Sl} {env : En}
theorem SOk.setNo (S : SOk K F σ env H A) (i : Nat) (x : Option V) : SOk K F (σ.set i x) (env.set i .no) H A := by
  have at_ : ∀ k, k ≠ i → (σ.set i x)[k]? = σ[k]? := fun k n => by rw [List.getElem?_set, if_neg (fun z => n z.symm)]
  refine ⟨S.subA, S.subF, fun k => ?_, fun k l d1 d2 r h1 h2 h3 h4 => ?_, by rw [List.length_set, List.length_set]; exact S.lens, S.nomk⟩
  · rw [set_getD]
    by_cases hk : i = k ∧ i < env.length
    · rw [if_pos hk]; trivial
    · rw [if_neg hk]
      by_cases hki : k = i
      · subst hki
        have : env.getD k .no = .no := by
          rw [List.getD_eq_getElem?_getD, List.getElem?_eq_none (by
            have h : ¬ k < env.length := fun z => hk ⟨rfl, z⟩
            omega)]; rfl
        rw [this]; trivial
      · rw [at_ k hki]; exact S.cell k
  · rw [set_getD] at h1 h2
    split at h1
    · cases h1
    · rename_i c1
      split at h2
      · cases h2
      · rename_i c2
        have k1 : k ≠ i := fun z => by
          subst z
          exact c1 ⟨rfl, getD_lt (by rw [h1]; exact fun z => nomatch z)⟩
        have k2 : l ≠ i := fun z => by
          subst z
          exact c2 ⟨rfl, getD_lt (by rw [h2]; exact fun z => nomatch z)⟩
        rw [at_ k k1] at h3
        rw [at_ l k2] at h4
        exact S.apart k l d1 d2 r h1 h2 h3 h4
theorem SOk.drop (S : SOk K F σ env H A) (i : Nat) : SOk K F σ (env.set i .no) H A := by
  by_cases hi : i < σ.length
  · have h := S.setNo i (σ[i])
    have e : σ.set i σ[i] = σ := List.set_getElem_self hi
    rw [e] at h
    exact h
  · have h := S.setNo i none
    have e : σ.set i none = σ := List.set_eq_of_length_le (by omega)
    rw [e] at h
    exact h
theorem OpOk.drop {v : V} {o : Op} (h : OpOk K F A H σ env v o) (n : noSlot o = true) (i : Nat) : OpOk K F A H σ (env.set i .no) v o := by
  cases o with
  | slot k => cases n
  | val d => exact h
  | raw w => exact h
  | new d =>
    obtain ⟨p, a, b, c, d, e⟩ := h
    refine ⟨p, a, b, c, d, fun k d' hk => e k d' ?_⟩
    rw [set_getD] at hk
    split at hk
    · cases hk
    · exact hk
end
end T3
namespace T3
open PySem PySem.Spec PyProof.Rows L2
/-- isinstance of an error of the class x with some own classes -/
structure XFa where
  x : Str
  ys : List Str
  b : Bool
def XFa.ok (K : PySem.W.Frag) (f : XFa) : Bool := decide (PySem.W.kitAny K (.ref (He.ga K f.x)) (f.ys.map fun y => .ref (He.ga K y)) = some f.b)
def xbB (K : PySem.W.Frag) (f : Str × String × Bool) : Bool := decide (PySem.W.kitOne K (.ref (He.ga K f.1)) (.type f.2.1) = some f.2.2)
def excB (K : PySem.W.Frag) (x : Str) : Bool := He.eqO (PySem.W.findIn K (.ref (He.ga K x)) "__getattribute__") (some (some (.builtin "BaseException.__getattribute__"))) && (He.eqO (PySem.W.findIn K (.ref (He.ga K x)) "__getattr__") (some none) &&
  (decide (PySem.W.subIn K (.ref (He.ga K x)) (.type "BaseException") = some true) && (PySem.W.hasDictIn K (He.ga K x) && (He.eqO (PySem.W.findIn K (.ref (He.ga K x)) "__class__") (some (some (.builtin "object.__class__"))) &&
  (He.eqO (PySem.W.specialIn K (.builtin "object.__class__") "__get__") (some (some (.builtin "getset_descriptor.__get__"))) && (decide (PySem.W.takesIn K (.builtin "object.__class__") = some true) && decide (PySem.W.mroIn K (He.ga K x) (.type "object") = some true)))))))
/-- an own error class over ValueError, by its object -/
def oexB (K : PySem.W.Frag) (C : Addr) : Bool := match K.lookup C with
  | some ⟨.type "type", _, .cls cd, sl⟩ => (match cd.mro, sl.toList with
    | .ref C' :: bm, [_, _, _, _, some (.builtin n), _] => C' == C && n == "ValueError.__new__" && !cd.hasDel && cd.hasDict && PySem.HandSPX.refsVE bm
    | _, _ => false)
  | _ => false
/-- an error class of the name x with an own __init__ that keeps a place; its base TurnError -/
def pxB (K : PySem.W.Frag) (x : Str) : Bool := oexB K (He.ga K x) && (He.eqO (PySem.W.findIn K (.ref (He.ga K x)) "__setattr__") (some (some (.builtin "object.__setattr__"))) && (decide (PySem.W.subIn K (.ref (He.ga K x)) (.type "BaseException") = some true) && (decide (PySem.W.typeIn K (.ref (He.ga K x)) = some (.type "type")) && (PySem.W.keepIn K (.ref (He.ga K x)) &&
  (He.eqO (PySem.W.findIn K (.ref (He.ga K x)) "place") (some none) && (He.eqO (PySem.W.findIn K (.ref (He.ga K x)) "__init__") (some (some (.ref (He.ma K (He.ga K x) "__init__")))) && (decide (PySem.W.typeIn K (.ref (He.ma K (He.ga K x) "__init__")) = some (.type "function")) && (xfB K (He.ga K x) &&
  (He.eqO (PySem.W.specialIn K (.ref (He.ga K "TurnError")) "__getattribute__") (some (some (.builtin "type.__getattribute__"))) && (PySem.W.readsIn K (He.ga K "TurnError") (.type "type") && (match PySem.W.findCls K (.ref (He.ga K "TurnError")) (.type "type") "__init__" with
    | some (.val (.builtin n)) => decide (n = "ValueError.__init__")
    | _ => false)))))))))))
structure XL where
  w : Bool
  xs : List Str
  fx : List XFa
  ft : List (Str × String × Bool)
  ps : List Str
def XL.ok (K : PySem.W.Frag) (l : XL) : Bool := (!l.w || wcB K) && (l.xs.all (excB K) && (l.fx.all (fun f => f.ok K) && (l.ft.all (xbB K) && l.ps.all (pxB K))))
def asX (g : Addr → Option Obj) (n : Nat) (l : XL) : List Addr := (He.asD g n ++ ((if l.w then (("Watch" : Str) :: l.xs ++ l.ps) else l.xs ++ l.ps).flatMap (fun x => asC g (He.ga (He.frG g (He.asD g n)) x) 5) ++ if l.ps.isEmpty then [] else [PySem.cStatics])).eraseDups
def obsX (fa : List He.Fa) (fn : List He.DefD) (fp : List PrD) (l : XL) (K : PySem.W.Frag) : AlW := (He.obsD fa fn K, (fp.all (fun q => q.ok K) && l.ok K, fp.map fun q => fnAt K (gAd K q.cls q.prop)))
def SaysX (fa : List He.Fa) (fn : List He.DefD) (fp : List PrD) (l : XL) (K : PySem.W.Frag) : Prop := obsX fa fn fp l K = valW fn fp
def obsXG (n : Nat) (fa : List He.Fa) (fn : List He.DefD) (fp : List PrD) (l : XL) (g : Addr → Option Obj) : AlW := obsX fa fn fp l (He.frG g (asX g n l))
def hookX (n : Nat) (fa : List He.Fa) (fn : List He.DefD) (fp : List PrD) (l : XL) : PySem.W.Hook where
  α := AlW
  obs := fun s => obsXG n fa fn fp l s.heap.get?
  val := fun _ => valW fn fp
  says := fun _ h => ∃ K : PySem.W.Frag, K.In h ∧ SaysX fa fn fp l K
  of := fun _ _ e => ⟨_, He.frG_in, e⟩
  keeps := fun _ _ _ ⟨K, hK, c⟩ k => ⟨K, PySem.W.Frag.In.keeps hK k, c⟩
theorem obsXG_eq {n : Nat} {fa : List He.Fa} {fn : List He.DefD} {fp : List PrD} {l : XL} {g : Addr → Option Obj} {s : Shared} (h : ∀ a, g a = s.heap.get? a) : obsXG n fa fn fp l g = (hookX n fa fn fp l).obs s := by
  have e : g = s.heap.get? := funext h
  rw [e]
  rfl
end T3
namespace T3
open PySem PySem.Spec PyProof.Rows L2
theorem exc_okX {K : Fg} {x : Str} (h : excB K x = true) : ExcC K (He.ga K x) := by
  unfold excB at h
  simp only [Bool.and_eq_true, decide_eq_true_eq] at h
  obtain ⟨h1, h2, h3, h4, h5, h6, h7, h8⟩ := h
  exact ⟨He.eqO_ok h1, He.eqO_ok h2, h3, h4, He.eqO_ok h5, He.eqO_ok h6, h7, h8⟩
theorem kit1 {K : Fg} {t c : Value} {b : Bool} (h : PySem.W.kitAny K t [c] = some b) : PySem.W.kitOne K t c = some b := by
  unfold PySem.W.kitAny at h
  split at h
  · rename_i e; rw [e]; exact h
  · rename_i e
    rw [e]
    exact h
  · cases h
section
variable {fa : List He.Fa} {fn : List He.DefD} {fp : List PrD} {l : XL} {K : Fg}
theorem SaysX.d (c : SaysX fa fn fp l K) : He.SaysD fa fn K := congrArg (fun z : AlW => z.1) c
theorem SaysX.all (c : SaysX fa fn fp l K) : (fp.all (fun q => q.ok K) && l.ok K) = true := congrArg (fun z : AlW => z.2.1) c
theorem SaysX.exc (c : SaysX fa fn fp l K) (i : Nat) {x : Str} (h : l.xs[i]? = some x := by rfl) : ExcC K (He.ga K x) := by
  have h1 := c.all
  unfold XL.ok at h1
  simp only [Bool.and_eq_true, List.all_eq_true] at h1
  exact exc_okX (h1.2.2.1 x (List.mem_of_getElem? h))
theorem SaysX.kit (c : SaysX fa fn fp l K) (i : Nat) {f : XFa} (h : l.fx[i]? = some f := by rfl) : PySem.W.kitAny K (.ref (He.ga K f.x)) (f.ys.map fun y => .ref (He.ga K y)) = some f.b := by
  have h1 := c.all
  unfold XL.ok at h1
  simp only [Bool.and_eq_true, List.all_eq_true] at h1
  exact of_decide_eq_true (h1.2.2.2.1 f (List.mem_of_getElem? h))
theorem SaysX.blt (c : SaysX fa fn fp l K) (i : Nat) {f : Str × String × Bool} (h : l.ft[i]? = some f := by rfl) : PySem.W.kitOne K (.ref (He.ga K f.1)) (.type f.2.1) = some f.2.2 := by
  have h1 := c.all
  unfold XL.ok at h1
  simp only [Bool.and_eq_true, List.all_eq_true] at h1
  exact of_decide_eq_true (h1.2.2.2.2.1 f (List.mem_of_getElem? h))
theorem SaysX.prop (c : SaysX fa fn fp l K) (i : Nat) {q : PrD} (h : fp[i]? = some q := by rfl) : PropOf K (He.ga K q.cls) q.prop (He.ma K (He.ga K q.cls) q.prop) (gAd K q.cls q.prop) ∧ ∃ fd, FunD K q.d.name q.d.qual q.d.params q.d.body q.d.scope (q.d.dvs K) (q.d.kws K) (gAd K q.cls q.prop) fd := by
  have h1 := c.all
  have h2 : fp.map (fun q => fnAt K (gAd K q.cls q.prop)) = fp.map fun q => q.d.val := congrArg (fun z : AlW => z.2.2) c
  rw [Bool.and_eq_true, List.all_eq_true] at h1
  have ok := h1.1 q (List.mem_of_getElem? h)
  have e : (fp.map fun q => fnAt K (gAd K q.cls q.prop))[i]? = (fp.map fun q => q.d.val)[i]? := by rw [h2]
  rw [List.getElem?_map, List.getElem?_map, h] at e
  refine ⟨PrD.prop_ok ok, funAt (Option.some.inj e) ?_⟩
  unfold PrD.ok at ok
  rw [Bool.and_eq_true] at ok
  exact ok.1
end
end T3
namespace T3
open PySem PySem.Spec PyProof.Rows L2
/-- whether an error of the class n is of one of these classes -/
def isC (n : Str) (ys : List Str) : Bool := ys.any fun y => y == n || y == "TurnError"
end T3
namespace T3
open PySem PySem.Spec PyProof.Rows L2
end T3
namespace T3
open PySem PySem.Spec PyProof.Rows L2
/-- what the written part says of such a class (at C), of its base (at T), of its __init__ (at f) -/
structure PxC (K : Fg) (C T f : Addr) : Prop where
  oex : OexC K C
  hno : PySem.W.findIn K (.ref C) "place" = some none
  iC : PySem.W.findIn K (.ref C) "__init__" = some (some (.ref f))
  tI : PySem.W.typeIn K (.ref f) = some (.type "function")
  xf : XfC K C
  tg : PySem.W.specialIn K (.ref T) "__getattribute__" = some (some (.builtin "type.__getattribute__"))
  tr : PySem.W.readsIn K T (.type "type") = true
  tf : PySem.W.findCls K (.ref T) (.type "type") "__init__" = some (.val (.builtin "ValueError.__init__"))
theorem oexB_ok {K : Fg} {C : Addr} (q : oexB K C = true) : ∃ nm qn N bs bm sn sub ab col dd k0 k1 k2 k3 k5, K.lookup C = some (excClassObj nm qn C N bs bm true sn sub ab col dd k0 k1 k2 k3 k5 "ValueError.__new__") ∧ PySem.HandSPX.refsVE bm = true := by
  unfold oexB at q
  split at q
  · rename_i dd cd sl ho
    split at q
    · rename_i C' bm k0 k1 k2 k3 n k5 hm hs
      simp only [Bool.and_eq_true, beq_iff_eq, Bool.not_eq_true'] at q
      obtain ⟨⟨⟨⟨rfl, rfl⟩, hdel⟩, hdi⟩, ht⟩ := q
      obtain ⟨nm, bs, mro, ns, qn, hd, sn, sub, ab, col, del⟩ := cd
      dsimp only at hm hdel hdi
      subst hm hdel hdi
      have hsl : sl = #[k0, k1, k2, k3, some (.builtin "ValueError.__new__"), k5] := by
        obtain ⟨l⟩ := sl
        simp only at hs
        rw [hs]
      subst hsl
      exact ⟨nm, qn, ns, bs, bm, sn, sub, ab, col, dd, k0, k1, k2, k3, k5, ho, ht⟩
    · cases q
  · cases q
theorem px_ok {K : Fg} {x : Str} (h : pxB K x = true) : PxC K (He.ga K x) (He.ga K "TurnError") (He.ma K (He.ga K x) "__init__") := by
  unfold pxB at h
  simp only [Bool.and_eq_true, decide_eq_true_eq] at h
  obtain ⟨h1, h2, h3, h4, h5, h6, h7, h8, h9, h10, h11, h12⟩ := h
  refine ⟨⟨oexB_ok h1, He.eqO_ok h2, h3, h4, h5⟩, He.eqO_ok h6, He.eqO_ok h7, h8, xfB_ok h9, He.eqO_ok h10, h11, ?_⟩
  split at h12
  · rename_i n e
    rw [e, of_decide_eq_true h12]
  · cases h12
theorem SaysX.px {fa : List He.Fa} {fn : List He.DefD} {fp : List PrD} {l : XL} {K : Fg} (c : SaysX fa fn fp l K) (i : Nat) {x : Str} (h : l.ps[i]? = some x := by rfl) : PxC K (He.ga K x) (He.ga K "TurnError") (He.ma K (He.ga K x) "__init__") := by
  have h1 := c.all
  unfold XL.ok at h1
  simp only [Bool.and_eq_true, List.all_eq_true] at h1
  exact px_ok (h1.2.2.2.2.2 x (List.mem_of_getElem? h))
section
variable {X : Cx} {e : Expr} {es : List Expr} {ta : TA} {x : Str} {T : Addr} {p1 p2 pos : Pos}
/-- T.__init__(self, ..) -/
theorem pe_ceinit {pl : Sem Bool} (hg : Gl X x) (hm : X.mg x = some (.ref T)) (tg : PySem.W.specialIn X.K (.ref T) "__getattribute__" = some (some (.builtin "type.__getattribute__"))) (tr : PySem.W.readsIn X.K T (.type "type") = true)
    (tf : PySem.W.findCls X.K (.ref T) (.type "type") "__init__" = some (.val (.builtin "ValueError.__init__"))) (ha : PA X (e :: es) ta) (hdb : (x == ("__debug__" : Str)) = false := by decide)
    (hc : eval (.Call (.Attribute (.Name x p1) "__init__" p2) (e :: es) [] pos) X.env = (do
      let ov ← eval (.Name x p1) X.env
      standAt p2.atName
      let (f, first) ← holding [ov] (getMethod ov "__init__" pl)
      callWith pos f first (backTo pos (starEach (e :: es) X.env)) (backToKw pos (keywordEach [] X.env))) := by rfl)
    (he : starEach (e :: es) X.env = (false, eval e X.env) :: starEach es X.env := by rfl) (hpl : (backTo pos (starEach es X.env)).any (·.1) = false := by rfl) :
    PE X (.Call (.Attribute (.Name x p1) "__init__" p2) (e :: es) [] pos) (tVeI X.K ta) := by
  refine ⟨fun pins s σ H Q I h => ?_⟩
  refine PySem.W.methodCall_KW (ld_glob I hg hm ?_ hdb) hc
  refine PySem.W.method_cls I.kIn tg (PySem.W.cls_value I.kIn tr tf (by decide +kernel) ?_)
  show wpAny _ _ (callWith pos (Value.builtin "ValueError.__init__") [] (backTo pos (starEach (e :: es) X.env)) []) _ _ _
  refine PyProof.Rows.callWith_method1 (thn (ha.run pos pins _ σ H _ (I.tok _) h) fun us s1 ⟨vs, H1, I1, r1, a, C, ws, ev, hl, T, ea, q⟩ => ?_) he hpl
  subst ev
  cases r1 with
  | @cons _ u0 _ ur ra rw' =>
    obtain rfl : u0 = Value.ref a := ra
    have hlen : ur.length ≤ sizeLine := by
      rw [← Paired.length rw', sizeLine_eq]
      omega
    exact oinit_ok T I1 ea hlen fun s' J => ⟨.non, H1, J, rfl, q⟩
end
def spPI (K : Fg) : Sp := fun vs H Q _ => ∃ (a C : Addr) (v : V), vs = [.ref a, v] ∧ OexC K C ∧ PySem.W.findIn K (.ref C) "place" = some none ∧ H a = some (exo a C none) ∧ ∀ d, H d = none → d ≠ a → Q .non (upd (upd H d (exd d [("place", v)])) a (exo a C (some d)))
section
variable {P : Program} {w : World} {K : Fg} {mg : Str → Option Value} {base : Heap} {x qual z : Str} {params : Arguments} {scope : Scope} {p1 p2 p3 p4 p5 p6 p7 p8 p9 pa pb : Pos} {kc : Nat} {C T f : Addr} {fd : FuncData}
theorem ok_pinit (FD : FunD K "__init__" qual params [.Expr (.Call (.Attribute (.Name x p1) "__init__" p2) [.Name "self" p3, .Constant (.str z) kc p4] [] p5) p6, .Assign [.Attribute (.Name "self" p7) "place" p8] (.Name "place" p9) pa] scope [] [] f fd) (S : FnScope ["self", "place"] ["self", "place"] scope)
    (hgl : ∀ (c : Value) (A : Around) (outer : List Env) (s : Shared) (H : Hp) (E : XK), Gl (cxOf (L2.CX P w) P w K mg base ["self", "place"] qual scope f c A outer s H E) x) (hm : mg x = some (.ref T)) (tg : PySem.W.specialIn K (.ref T) "__getattribute__" = some (some (.builtin "type.__getattribute__"))) (tr : PySem.W.readsIn K T (.type "type") = true)
    (tf : PySem.W.findCls K (.ref T) (.type "type") "__init__" = some (.val (.builtin "ValueError.__init__")))
    (hc : ∀ env : Env, env.scope = scope → ∃ pl : Sem Bool, eval (.Call (.Attribute (.Name x p1) "__init__" p2) [.Name "self" p3, .Constant (.str z) kc p4] [] p5) env = (do
      let ov ← eval (.Name x p1) env
      standAt p2.atName
      let (f, first) ← holding [ov] (getMethod ov "__init__" pl)
      callWith p5 f first (backTo p5 (starEach [.Name "self" p3, .Constant (.str z) kc p4] env)) (backToKw p5 (keywordEach [] env))))
    (hdb : (x == ("__debug__" : Str)) = false := by decide) : FnOk P w K mg base (L2.CX P w) 1 f fd ["self", "place"] (spPI K) :=
  FunD.ok FD S (fun vs H Q E ⟨a, C, v, h, _⟩ => by rw [h]; rfl) fun c A outer s H vs Q E hr h => by
    obtain ⟨a, C, v, rfl, hO, hno, ha, k⟩ := h
    have vS : Vis scope "self" := (S.par "self" (List.Mem.head _)).elim (fun z => .inl z) (fun z => .inr (.inl z))
    have vP : Vis scope "place" := (S.par "place" (List.Mem.tail _ (List.Mem.head _))).elim (fun z => .inl z) (fun z => .inr (.inl z))
    obtain ⟨pl, hc⟩ := hc (cxOf (L2.CX P w) P w K mg base ["self", "place"] qual scope f c A outer s H E).env rfl
    refine ⟨_, pss_cons (ps_expr (pe_ceinit (pl := pl) (hgl c A outer s H E) hm tg tr tf (pa_cons (pe_var (i := 0) rfl vS) (pa_cons pe_str pa_nil rfl) rfl) hdb hc rfl rfl) rfl) (pss_cons (ps_ost (pe_var (i := 0) rfl vS) (pe_var (i := 1) rfl vP) rfl) pss_nil), ?_⟩
    exact ⟨.ref a, rfl, a, C, _, rfl, (by show 1 ≤ 1000; decide), hO, ha, v, rfl, .ref a, rfl, a, C, rfl, hO, hno, .inl ⟨ha, fun dx hd ne => k dx hd ne⟩⟩
end
end T3
namespace T3
open PySem PySem.Spec PyProof.Rows L2
end T3
namespace T3
open PySem PySem.Spec PyProof.Rows L2
end T3
namespace T3
open PySem PySem.Spec PyProof.Rows L2
end T3
namespace T3
open PySem PySem.Spec PySem.Calls PyProof.Rows L2
end T3
namespace T3
open PySem PySem.Spec PyProof.Rows L2
end T3
namespace T3
open PySem PySem.Spec PyProof.Rows L2
end T3
namespace T3
open PySem PySem.Spec PyProof.Rows L2
def eMkE (x : Str) (f : Ex) : Ex := fun env => (f env).bind fun o e => match res o e with
  | some _ => .ok (.val (erD x)) e
  | none => .bad
def erN : D → Option Str
  | .dict [(.none, .str nm)] => some nm
  | .dict [(.none, .tuple [.str nm, _])] => some nm
  | _ => none
/-- isinstance(e, y): e an error of one of these names -/
def kIsK (nms ys : List Str) (o : Op) (e : En) : Out En Op := match (res o e).bind erN with
  | some nm => if nms.contains nm = true then .ok (.val (.bool (isC nm ys))) e else .bad
  | none => .bad
def eIsK (nms ys : List Str) (f : Ex) : Ex := fun env => (f env).bind fun o e => kIsK nms ys o e
section
variable {X : Cx} {E : Sl → XK} {x y : Str} {C CY : Addr} {e : Expr} {f : Ex} {p px p2 pos : Pos}
theorem exo_mk {C a : Addr} : ∀ i, ExO (.ref C) a ≠ mkP i := fun i z => by
  have z' : HO.ext _ = HO.tbl _ := z
  cases z'
theorem jp_mkE {bmB : List Value} {B newId initId : String} (F : ExcBaseFacts B newId initId bmB) (q : PySem.W.excIn X.K C bmB newId = true) (gC : X.mg x = some (.ref C)) (kC : PySem.W.keepIn X.K (.ref C) = true) (hE : EC X.K x C) (hg : Gl X x) (he : JP X E e f)
    (hs : starEach [e] X.env = (false, eval e X.env) :: starEach [] X.env := by rfl) (hdb : (x == ("__debug__" : Str)) = false := by decide) : JP X E (.Call (.Name x p) [e] [] pos) (eMkE x f) :=
  impE (pe_exc1 F q gC kC hg he hs hdb) fun σ H Q h => by
    obtain ⟨env, A, F0, S, h⟩ := h
    refine ⟨env, A, F0, S, ?_⟩
    unfold eMkE at h
    cases e0 : f env with
    | bad => rw [e0] at h; exact h
    | exc n e1 => rw [e0] at h; exact h
    | ok o e1 =>
      rw [e0] at h
      intro v H1 A1 S1 g1 r1 a hn
      simp only [Out.bind] at h
      cases hr : res o e1 with
      | none => rw [hr] at h; exact h.elim
      | some d =>
        rw [hr] at h
        simp only at h
        have x1 : Ext A1 H1 (upd A1 a (ExO (.ref C) a)) (upd H1 a (ExO (.ref C) a)) := ext_frozen S1.subA hn exo_mk
        exact h _ _ _ (S1.ext x1) (g1.trans (x1.grow S1.subF)) (.er upd_same hE)
theorem erN_rep {K : Fg} {A : Hp} {v : V} {d : D} {nm : Str} (h : Rep K A v d) (e : erN d = some nm) : ∃ (a C : Addr), v = .ref a ∧ EC K nm C ∧ TyZ K A (.ref a) (.ref C) := by
  cases h with
  | non => cases e
  | bl b => cases e
  | int i => cases e
  | str x => cases e
  | lst _ _ => cases e
  | tup _ _ => cases e
  | @dic a kvs ds r1 r2 =>
    cases kvs with
    | nil => cases e
    | cons p kvs =>
      cases ds with
      | nil => cases e
      | cons d ds =>
        obtain ⟨k, w⟩ := p
        cases k <;> cases e
  | @dicT a kvs ds r1 r2 => cases e
  | wat _ _ _ _ => cases e
  | con _ _ => cases e
  | watG _ _ _ _ => cases e
  | @er a C n s c => cases e; exact ⟨a, C, rfl, c, .er s c.exc⟩
  | @erp a C dd n w d s t c p => cases e; exact ⟨a, C, rfl, c, .erp s t c.exc⟩
/-- what is known of the classes of these names against the class at CY -/
def IsTab (K : Fg) (nms ys : List Str) (u : Value) : Prop := ∀ nm C, nms.contains nm = true → EC K nm C → PySem.W.kitOne K (.ref C) u = some (isC nm ys)
theorem kIsK_c (nms ys : List Str) (o : Op) (e : En) : kIsK nms ys o e = .bad ∨ ∃ d nm, res o e = some d ∧ erN d = some nm ∧ nms.contains nm = true ∧ kIsK nms ys o e = .ok (.val (.bool (isC nm ys))) e := by
  unfold kIsK
  cases hr : res o e with
  | none => exact .inl rfl
  | some d =>
    cases hn : erN d with
    | none => exact .inl (by simp [hn])
    | some nm =>
      cases hc : nms.contains nm with
      | false => exact .inl (by simp [hn]; exact fun z => absurd (List.contains_iff_mem.mpr z) (by rw [hc]; decide))
      | true => exact .inr ⟨d, nm, rfl, hn, hc, by simp only [Option.bind_some, hn, hc, if_true]⟩
theorem jp_isK {nms ys : List Str} (hT : IsTab X.K nms ys (.ref CY)) (hg : Gl X "isinstance") (hm : X.mg "isinstance" = none) (gy : Gl X y) (my : X.mg y = some (.ref CY)) (he : JP X E e f) (hdy : (y == ("__debug__" : Str)) = false := by decide)
    (hs : starEach [e, .Name y p2] X.env = (false, eval e X.env) :: starEach [.Name y p2] X.env := by rfl) (hpl : (backTo pos (starEach [.Name y p2] X.env)).any (·.1) = false := by rfl) (hs2 : starEach [.Name y p2] X.env = (false, eval (.Name y p2) X.env) :: starEach [] X.env := by rfl) :
    JP X E (.Call (.Name "isinstance" p) [e, .Name y p2] [] pos) (eIsK nms ys f) :=
  impE (pe_callB call_isiZ hg hm (by decide +kernel) (pa_cons he (pa_cons (pe_glob (v := .ref CY) gy my rfl hdy) pa_nil hs2) hs) (he := hs) (hpl := hpl)) fun σ H Q h => by
    obtain ⟨env, A, F0, S, h⟩ := h
    refine ⟨env, A, F0, S, ?_⟩
    unfold eIsK at h
    cases e0 : f env with
    | bad => rw [e0] at h; exact h
    | exc n e1 => rw [e0] at h; exact h
    | ok o e1 =>
      rw [e0] at h
      intro v H1 A1 S1 g1 r1
      simp only [Out.bind] at h
      rcases kIsK_c nms ys o e1 with z | ⟨d, nm, hr, hn, hc, z⟩
      · rw [z] at h; exact h.elim
      · rw [z] at h
        simp only at h
        obtain ⟨a, C, rfl, hE, ty⟩ := erN_rep ((r1.view S1 hr).rep S1.subA) hn
        exact ⟨.ref a, .ref CY, .ref C, .ref CY, isC nm ys, rfl, .own CY, ty, hT nm C hc hE, h _ _ _ S1 g1 (.bl _)⟩
theorem jp_isKB {TT : String} {nms ys : List Str} (hT : IsTab X.K nms ys (.type TT)) (hg : Gl X "isinstance") (hm : X.mg "isinstance" = none) (gy : Gl X y) (my : X.mg y = none) (bT : bootBuiltins y = some (.type TT)) (he : JP X E e f) (hdy : (y == ("__debug__" : Str)) = false := by decide)
    (hs : starEach [e, .Name y p2] X.env = (false, eval e X.env) :: starEach [.Name y p2] X.env := by rfl) (hpl : (backTo pos (starEach [.Name y p2] X.env)).any (·.1) = false := by rfl) (hs2 : starEach [.Name y p2] X.env = (false, eval (.Name y p2) X.env) :: starEach [] X.env := by rfl) (nT : y ≠ "__name__" := by decide) :
    JP X E (.Call (.Name "isinstance" p) [e, .Name y p2] [] pos) (eIsK nms ys f) :=
  impE (pe_callB call_isiZ hg hm (by decide +kernel) (pa_cons he (pa_cons (pe_bltn (v := .ty TT) gy my bT rfl nT hdy) pa_nil hs2) hs) (he := hs) (hpl := hpl)) fun σ H Q h => by
    obtain ⟨env, A, F0, S, h⟩ := h
    refine ⟨env, A, F0, S, ?_⟩
    unfold eIsK at h
    cases e0 : f env with
    | bad => rw [e0] at h; exact h
    | exc n e1 => rw [e0] at h; exact h
    | ok o e1 =>
      rw [e0] at h
      intro v H1 A1 S1 g1 r1
      simp only [Out.bind] at h
      rcases kIsK_c nms ys o e1 with z | ⟨d, nm, hr, hn, hc, z⟩
      · rw [z] at h; exact h.elim
      · rw [z] at h
        simp only at h
        obtain ⟨a, C, rfl, hE, ty⟩ := erN_rep ((r1.view S1 hr).rep S1.subA) hn
        exact ⟨.ref a, .ty TT, .ref C, .type TT, isC nm ys, rfl, .ty TT, ty, hT nm C hc hE, h _ _ _ S1 g1 (.bl _)⟩
/-- the place of an error that was made -/
def plN (p0 : Str) : D → Option D
  | .dict [(.none, .tuple [.str nm, d])] => if nm = p0 then some d else none
  | _ => none
theorem plN_rep {K : Fg} {A : Hp} {v : V} {d d0 : D} {p0 : Str} (h : Rep K A v d) (e : plN p0 d = some d0) : ∃ (a C dd : Addr) (w : V), v = .ref a ∧ EC K p0 C ∧ A a = some (exo a C (some dd)) ∧ A dd = some (exd dd [("place", w)]) ∧ plV d0 = some w := by
  cases h with
  | non => cases e
  | bl b => cases e
  | int i => cases e
  | str x => cases e
  | lst _ _ => cases e
  | tup _ _ => cases e
  | @dic a kvs ds r1 r2 =>
    cases kvs with
    | nil => cases e
    | cons p kvs =>
      cases ds with
      | nil => cases e
      | cons d ds =>
        obtain ⟨k, w⟩ := p
        cases k <;> cases e
  | @dicT a kvs ds r1 r2 => cases e
  | wat _ _ _ _ => cases e
  | con _ _ => cases e
  | watG _ _ _ _ => cases e
  | @er a C n s c => cases e
  | @erp a C dd n w d s t c p =>
    have e : (if n = p0 then some d else none) = some d0 := e
    by_cases hn : n = p0
    · rw [if_pos hn] at e
      cases Option.some.inj e
      subst hn
      exact ⟨a, C, dd, w, rfl, c, s, t, p⟩
    · rw [if_neg hn] at e
      cases e
theorem pe_plK {n : Str} {te : TE} {pos : Pos} (he : PE X e te) (hb : attributeBase e n X.env (eval e X.env) = eval e X.env := by rfl) :
    PE X (.Attribute e n pos) (fun σ H Q => te σ H fun x H1 => ∃ (a C dd : Addr) (v : V), x = .ref a ∧ XfC X.K C ∧ PySem.W.findIn X.K (.ref C) n = some none ∧ H1 a = some (exo a C (some dd)) ∧ H1 dd = some (exd dd [(n, v)]) ∧ Q v H1) := by
  refine ⟨fun pins s σ H Q I h => ?_⟩
  refine attr_of hb (thn (he.run pins s σ H _ I h) fun u s1 hh => ?_)
  obtain ⟨x, H1, I1, rx, a, C, dd, v, ex, T, hno, h1, h2, q⟩ := hh
  subst ex
  obtain rfl : u = Value.ref a := rx
  obtain ⟨t1, hg⟩ := exo_at I1.hok h1
  obtain ⟨mA, hns, hr⟩ := exd_at I1.hok h2
  obtain ⟨od, ho, hl⟩ := lookIn_ns hns
  obtain ⟨u, hu, ru⟩ := RelO.some_of (v := v) (o := mA n) (by
    have := hr n
    rwa [show List.lookup n [(n, v)] = some v by simp [List.lookup]] at this)
  exact HandSPX.exc_get I1.kIn (⟨hg, rfl, rfl, ho⟩ : PySem.W.InstAt s1.heap a _ C (some od)) T.ga T.gg T.exC (PySem.W.findObj_own T.hdC hno rfl (by rw [hl, hu])) (handed_of ru) ⟨v, H1, I1.tok _, ru, q⟩
def kPlK (p0 : Str) (o : Op) (e : En) : Out En Op := match (res o e).bind (plN p0) with
  | some d => .ok (.val d) e
  | none => .bad
def ePlK (p0 : Str) (f : Ex) : Ex := fun env => (f env).bind fun o e => kPlK p0 o e
theorem plV_rep {K : Fg} {A : Hp} {v : V} {d : D} (e : plV d = some v) : Rep K A v d := by
  cases d <;> cases e
  · exact .non
  · exact .int _
theorem jp_plK {p0 : Str} (hT : ∀ C, EC X.K p0 C → XfC X.K C ∧ PySem.W.findIn X.K (.ref C) "place" = some none) (he : JP X E e f) (hb : attributeBase e "place" X.env (eval e X.env) = eval e X.env := by rfl) : JP X E (.Attribute e "place" pos) (ePlK p0 f) :=
  impE (pe_plK he hb) fun σ H Q h => by
    obtain ⟨env, A, F0, S, h⟩ := h
    refine ⟨env, A, F0, S, ?_⟩
    unfold ePlK at h
    cases e0 : f env with
    | bad => rw [e0] at h; exact h
    | exc n e1 => rw [e0] at h; exact h
    | ok o e1 =>
      rw [e0] at h
      intro v H1 A1 S1 g1 r1
      simp only [Out.bind, kPlK] at h
      cases hr : res o e1 with
      | none => rw [hr] at h; exact h.elim
      | some d =>
        rw [hr] at h
        simp only [Option.bind_some] at h
        cases hn : plN p0 d with
        | none => rw [hn] at h; exact h.elim
        | some d0 =>
          rw [hn] at h
          simp only at h
          obtain ⟨a, C, dd, w, rfl, hE, h1, h2, hp⟩ := plN_rep ((r1.view S1 hr).rep S1.subA) hn
          obtain ⟨T, hno⟩ := hT C hE
          exact ⟨a, C, dd, w, rfl, T, hno, h1, h2, h _ _ _ S1 g1 (plV_rep hp)⟩
end
def tMkV (C : Addr) (sp : Sp) (dvs : List V) (ta : TA) : TE := fun σ H Q => ta σ H fun vs H1 => vs.length ≤ 1000 ∧ ∀ a, H1 a = none → sp (.ref a :: (vs ++ dvs)) (upd H1 a (exo a C none)) (fun v H2 => v = .non ∧ Q (.ref a) H2) (fun _ _ _ => False)
theorem pe_oexV {X : Cx} {CX : CXT} {x : Str} {C fI : Addr} {k : Nat} {fd : FuncData} {ps : List Str} {sp : Sp} {ds : List Value} {dvs : List V} {e : Expr} {es : List Expr} {ta : TA} {p pos : Pos} (T : OexC X.K C) (iC : PySem.W.findIn X.K (.ref C) "__init__" = some (some (.ref fI))) (tI : PySem.W.typeIn X.K (.ref fI) = some (.type "function"))
    (F1 : FnOk X.prog X.w X.K X.mg X.base CX k fI fd ps sp) (hr : Room (k + 1) X.A) (hb : Binds X.K fd ps ds) (hd : Vals dvs ds) (hx : Passes CX X (fun _ _ _ => False)) (hg : Gl X x) (hm : X.mg x = some (.ref C)) (ha : PA X (e :: es) ta)
    (hdb : (x == ("__debug__" : Str)) = false := by decide) (he : starEach (e :: es) X.env = (false, eval e X.env) :: starEach es X.env := by rfl) (hpl : (backTo pos (starEach es X.env)).any (·.1) = false := by rfl) :
    PE X (.Call (.Name x p) (e :: es) [] pos) (tMkV C sp dvs ta) := by
  refine ⟨fun pins s σ H Q I h => ?_⟩
  obtain ⟨nm, q, N, bs, bm, sn, sub, ab, col, dd, k0, k1, k2, k3, k5, hC, hbm⟩ := T.cls
  refine wpAny_Call_Name_kw (ld_glob I hg hm ?_ hdb)
  refine PySem.W.callWith_K (h₀ := X.base) I.ok.mod.kin T.kC (thn (ha.run pos pins s σ H _ I h) fun us s1 ⟨vs, H1, I1, r1, hz, q1⟩ => ⟨I1.kIn, ?_⟩) he hpl
  show wpAny _ _ (call (.ref C) us) _ _ _
  obtain ⟨hp, g, dr, tk, os⟩ := s1
  have hsz : hp.objs.size ≤ hp.objs.size + 1 := Nat.le_succ _
  have hn : H1 (hp.objs.size + 1) = none := I1.hok.fresh hsz
  have hq := q1 (hp.objs.size + 1) hn
  have kk : ∀ b o, hp.get? b = some o → ((hp.push (PySem.W.kdv_tup us)).push (PySem.HandSPX.excO C hp.objs.size)).get? b = some o := fun b o e => Heap.get?_push_of_some _ (Heap.get?_push_of_some _ e)
  have hget : ((hp.push (PySem.W.kdv_tup us)).push (PySem.HandSPX.excO C hp.objs.size)).get? (hp.objs.size + 1) = some (PySem.HandSPX.excO C hp.objs.size) := by heap_get
  have I2 : Inv X pins σ (upd H1 (hp.objs.size + 1) (exo (hp.objs.size + 1) C none)) ⟨(hp.push (PySem.W.kdv_tup us)).push (PySem.HandSPX.excO C hp.objs.size), g, dr, tk, os⟩ :=
    I1.laid (t' := tk) (a := hp.objs.size + 1) (o := exo (hp.objs.size + 1) C none) (h' := (hp.push (PySem.W.kdv_tup us)).push (PySem.HandSPX.excO C hp.objs.size)) kk hsz (exo_ok hget)
  have r2 : Vals (V.ref (hp.objs.size + 1) :: (vs ++ dvs)) (Value.ref (hp.objs.size + 1) :: (us ++ ds)) := .cons rfl (r1.append hd)
  have hl : (Value.ref (hp.objs.size + 1) :: us ++ ds).length = ps.length := by
    have e := r2.length
    rw [F1.len _ _ _ _ hq] at e
    exact e.symm
  have hus : us.length ≤ sizeLine := by
    rw [← Paired.length r1, sizeLine_eq]
    omega
  refine wpAny_call (PySem.HandSPX.call_own PySem.F.excBase_ValueError (fun Y => PySem.HandSPX.refsVE_contains Y bm hbm) (I1.kIn _ _ hC) (PySem.W.looks_findIn I1.kIn iC) (fun self => PySem.W.bind_fn I1.kIn self tI) hus
    (codeAny_mono (F1.run _ X.stack _ _ ⟨Value.ref (hp.objs.size + 1) :: us, []⟩ (Value.ref (hp.objs.size + 1) :: (us ++ ds)) _ _ (fun _ _ _ => False) (hr.make C us []) (I2.env0.make C us []) (hb _ (Value.ref (hp.objs.size + 1) :: us) I2.kIn hl) r2 hq) fun r s' hq' => ?_))
  cases r with
  | error er => exact hx pins σ _ _ er s' I2 hq'
  | ok fl =>
    cases fl with
    | ret u =>
      obtain ⟨v, H2, I3, rv, ev, q2⟩ := I2.after hq'
      subst ev
      exact ⟨rv, .ref (hp.objs.size + 1), H2, I3, rfl, q2⟩
    | next => exact False.elim hq'
    | brk => exact False.elim hq'
    | cont => exact False.elim hq'
def kMkP (x : Str) (o : Op) (e : En) : Out En Op := match res o e with
  | some d => (match plV d with
    | some _ => .ok (.val (erpD x d)) e
    | none => .bad)
  | none => .bad
def eMkP (x : Str) (f : Ex) : Ex := fun env => (f env).bind fun o e => kMkP x o e
section
variable {X : Cx} {E : Sl → XK} {x : Str} {C T f0 : Addr} {k : Nat} {fd : FuncData} {e : Expr} {f : Ex} {p pos : Pos}
theorem plV_view {K : Fg} {A H : Hp} {v w : V} {d : D} (h : View K A H v d) (e : plV d = some w) : v = w := by
  cases d <;> first | (cases e; done) | skip
  · cases e; exact h.none
  · cases e; exact h.int
theorem jp_mkP (px : PxC X.K C T f0) (hE : EC X.K x C) (F1 : FnOk X.prog X.w X.K X.mg X.base (L2.CX X.prog X.w) k f0 fd ["self", "place"] (spPI X.K)) (hr : Room (k + 1) X.A) (hb : Binds X.K fd ["self", "place"] []) (hg : Gl X x) (hm : X.mg x = some (.ref C)) (he : JP X E e f)
    (hdb : (x == ("__debug__" : Str)) = false := by decide) (hs : starEach [e] X.env = (false, eval e X.env) :: starEach [] X.env := by rfl) (hpl : (backTo pos (starEach [] X.env)).any (·.1) = false := by rfl) :
    JP X E (.Call (.Name x p) [e] [] pos) (eMkP x f) :=
  impE (pe_oexV (dvs := []) px.oex px.iC px.tI F1 hr hb .nil (passes_call takes0 fun _ _ _ _ h => h.elim) hg hm (pa_cons he pa_nil hs) hdb hs hpl) fun σ H Q ⟨env, A, F, S, h⟩ => by
    refine ⟨env, A, F, S, ?_⟩
    unfold eMkP at h
    cases e0 : f env with
    | bad => rw [e0] at h; exact h
    | exc n e1 => rw [e0] at h; exact h
    | ok o e1 =>
      rw [e0] at h
      intro v H1 A1 S1 g1 r1
      simp only [Out.bind, kMkP] at h
      cases hr1 : res o e1 with
      | none => rw [hr1] at h; exact h.elim
      | some d =>
        rw [hr1] at h
        simp only at h
        cases hv : plV d with
        | none => rw [hv] at h; exact h.elim
        | some v1 =>
          rw [hv] at h
          simp only at h
          have ev := plV_view (r1.view S1 hr1) hv
          subst ev
          refine ⟨by show 1 ≤ 1000; decide, fun a na => ⟨a, C, v, rfl, px.oex, px.hno, upd_same, fun d1 hd nd => ⟨rfl, ?_⟩⟩⟩
          rw [upd_ne nd] at hd
          have x0 : Ext A1 H1 (upd A1 d1 (exd d1 [("place", v)])) (upd H1 d1 (exd d1 [("place", v)])) := ext_frozen S1.subA hd (fun i z => by
            have z' : HO.ext _ = HO.tbl _ := z
            cases z')
          have na2 : upd H1 d1 (exd d1 [("place", v)]) a = none := by rw [upd_ne (Ne.symm nd)]; exact na
          have x1 : Ext (upd A1 d1 (exd d1 [("place", v)])) (upd H1 d1 (exd d1 [("place", v)])) (upd (upd A1 d1 (exd d1 [("place", v)])) a (exo a C (some d1))) (upd (upd H1 d1 (exd d1 [("place", v)])) a (exo a C (some d1))) := ext_frozen x0.sub na2 (fun i z => by
            have z' : HO.ext _ = HO.tbl _ := z
            cases z')
          have eh : upd (upd (upd H1 a (exo a C none)) d1 (exd d1 [("place", v)])) a (exo a C (some d1)) = upd (upd H1 d1 (exd d1 [("place", v)])) a (exo a C (some d1)) := by
            funext b
            by_cases hb : b = a
            · rw [hb, upd_same, upd_same]
            · rw [upd_ne hb, upd_ne hb]
              by_cases hbd : b = d1
              · rw [hbd, upd_same, upd_same]
              · rw [upd_ne hbd, upd_ne hbd, upd_ne hb]
          rw [eh]
          have x2 := x0.trans x1
          exact h _ _ _ (S1.ext x2) (g1.trans (x2.grow S1.subF)) (.erp (dd := d1) upd_same (by rw [upd_ne nd, upd_same]) hE hv)
end
theorem istab_nil {K : Fg} {ys : List Str} {u : Value} : IsTab K [] ys u := fun nm C h _ => by simp at h
theorem istab_cons {K : Fg} {n : Str} {nms ys : List Str} {u : Value} {C0 : Addr} (g : PySem.W.nsIn K mainGlobals n = some (some (.ref C0))) (k : PySem.W.kitOne K (.ref C0) u = some (isC n ys)) (r : IsTab K nms ys u) : IsTab K (n :: nms) ys u := fun nm C h e => by
  by_cases hn : nm = n
  · subst hn
    have q := e.glo
    rw [g] at q
    have := Value.ref.inj (Option.some.inj (Option.some.inj q))
    subst this
    exact k
  · have h2 : nms.contains nm = true := by
      rw [List.contains_cons, Bool.or_eq_true] at h
      rcases h with h | h
      · exact absurd (eq_of_beq h) hn
      · exact h
    exact r nm C h2 e
def kMkE (x : Str) (o : Op) (e : En) : Out En Op := match res o e with
  | some _ => .ok (.val (erD x)) e
  | none => .bad
theorem ev_mkE (x : Str) (f : Ex) (e : En) : eMkE x f e = (f e).bind (kMkE x) := Eq.trans rfl (Eq.refl _)
theorem ev_mkP (x : Str) (f : Ex) (e : En) : eMkP x f e = (f e).bind (kMkP x) := Eq.trans rfl (Eq.refl _)
theorem kv_mkP {x : Str} {o : Op} {e : En} {d : D} {v : V} (h : res o e = some d) (hv : plV d = some v) : kMkP x o e = .ok (.val (erpD x d)) e := by unfold kMkP; rw [h]; simp only [hv]
theorem ev_isK (nms ys : List Str) (f : Ex) (e : En) : eIsK nms ys f e = (f e).bind (kIsK nms ys) := Eq.trans rfl (Eq.refl _)
theorem kv_isK {nms ys : List Str} {o : Op} {e : En} {d : D} {nm : Str} (h : res o e = some d) (hn : erN d = some nm) (hc : nms.contains nm = true) : kIsK nms ys o e = .ok (.val (.bool (isC nm ys))) e := by
  unfold kIsK; rw [h]; simp only [Option.bind_some, hn, hc, if_true]
theorem ev_plK (p0 : Str) (f : Ex) (e : En) : ePlK p0 f e = (f e).bind (kPlK p0) := Eq.trans rfl (Eq.refl _)
theorem kv_plK {p0 : Str} {o : Op} {e : En} {d : D} (h : res o e = some (erpD p0 d)) : kPlK p0 o e = .ok (.val d) e := by
  unfold kPlK; rw [h]
  have : plN p0 (erpD p0 d) = some d := if_pos rfl
  simp only [Option.bind_some, this]
end T3
namespace T3
open PySem PySem.Spec PyProof.Rows L2
theorem kit0 {K : Fg} {t : Value} {cs : List Value} (h : PySem.W.kitAny K t cs = some false) (i : Nat) {c : Value} (hi : cs[i]? = some c := by rfl) : PySem.W.kitOne K t c = some false := by
  induction cs generalizing i with
  | nil => simp at hi
  | cons d ds ih =>
    unfold PySem.W.kitAny at h
    split at h
    · cases h
    · rename_i e
      cases i with
      | zero => simp only [List.getElem?_cons_zero, Option.some.injEq] at hi; rw [← hi]; exact e
      | succ i => exact ih h i (by simpa using hi)
    · cases h
section
variable {fa : List He.Fa} {fn : List He.DefD} {fp : List PrD} {l : XL} {K : Fg}
theorem SaysX.blt7 (c : SaysX fa fn fp l K) (n : Nat) {x : Str} (h : (l.ft.drop n).take 7 = (["NoneType", "int", "bool", "str", "list", "tuple", "dict"] : List String).map fun T => (x, T, false)) :
    ∀ T ∈ (["NoneType", "int", "bool", "str", "list", "tuple", "dict"] : List String), PySem.W.kitOne K (.ref (He.ga K x)) (.type T) = some false := fun T hT => by
  have h1 := c.all
  unfold XL.ok at h1
  simp only [Bool.and_eq_true, List.all_eq_true] at h1
  have m : (x, T, false) ∈ l.ft := List.mem_of_mem_drop (List.mem_of_mem_take (by rw [h]; exact List.mem_map_of_mem hT))
  exact of_decide_eq_true (h1.2.2.2.2.1 (x, T, false) m)
theorem SaysX.kit0 (c : SaysX fa fn fp l K) (i j : Nat) {x y : Str} {ys : List Str} (h : l.fx[i]? = some ⟨x, ys, false⟩ := by rfl) (hj : ys[j]? = some y := by rfl) : PySem.W.kitOne K (.ref (He.ga K x)) (.ref (He.ga K y)) = some false :=
  T3.kit0 (c.kit i h) j (by rw [List.getElem?_map, hj]; rfl)
theorem SaysX.kit1 (c : SaysX fa fn fp l K) (i : Nat) {x y : Str} (h : l.fx[i]? = some ⟨x, [y], true⟩ := by rfl) : PySem.W.kitOne K (.ref (He.ga K x)) (.ref (He.ga K y)) = some true := T3.kit1 (c.kit i h)
theorem SaysX.ec (c : SaysX fa fn fp l K) (i n : Nat) {x : Str} (g : (He.Fa.glo x).ok K = true) (h : l.xs[i]? = some x := by rfl) (h7 : (l.ft.drop n).take 7 = (["NoneType", "int", "bool", "str", "list", "tuple", "dict"] : List String).map fun T => (x, T, false) := by rfl) : EC K x (He.ga K x) :=
  ⟨He.eqO_ok g, c.exc i h, c.blt7 n h7⟩
theorem SaysX.pk (c : SaysX fa fn fp l K) (i : Nat) {x : Str} (g : (He.Fa.glo x).ok K = true) (h : l.ps[i]? = some x := by rfl) : ∀ C, EC K x C → XfC K C ∧ PySem.W.findIn K (.ref C) "place" = some none := fun C e => by
  have q := e.glo
  rw [He.eqO_ok g] at q
  have := Value.ref.inj (Option.some.inj (Option.some.inj q))
  subst this
  exact ⟨(c.px i h).xf, (c.px i h).hno⟩
end
theorem istab_one {K : Fg} {n : Str} {nms ys : List Str} {u : Value} {b : Bool} (g : (He.Fa.glo n).ok K = true) (k : PySem.W.kitOne K (.ref (He.ga K n)) u = some b) (hb : isC n ys = b) (r : IsTab K nms ys u) : IsTab K (n :: nms) ys u :=
  istab_cons (He.eqO_ok g) (k.trans (congrArg some hb.symm)) r
end T3
namespace T3
open PySem PySem.Spec PyProof.Rows L2
end T3
namespace Pg
open PySem PySem.Spec PyProof.Rows L2 T3
/-- is_integer(value, low, high): slots 0 value, 1 low, 2 high -/
def b_is_integer : Sx := sSeq (sIf (tOrM (tNotM (tOf (eOne (dIsi "int") (eS 0)))) (tOf (eOne (dIsi "bool") (eS 0)))) (sRet (eC (.bool false))) (sNext)) (sRet (eAndM (eOrM (eOp2 dIs (eS 1) (eC .none)) (eOp2 dGe (eS 0) (eS 1))) (eOrM (eOp2 dIs (eS 2) (eC .none)) (eOp2 dLe (eS 0) (eS 2)))))
def m_is_integer : Fn := runFn 3 [] b_is_integer
/-- _law_tap(_law_cell, _law_turn_here): slots 0 _law_cell, 1 _law_turn_here, 2 _law_whole -/
def b_l_tap : Sx := sSeq (sSet 2 (eOp2 dAdd (eOp2 dMul (eC (.int 2)) (eCallB bAbs (eCons (eS 0) (eNil)))) (eCallB bInt (eCons (eOp2 dLt (eS 0) (eC (.int 0))) (eNil))))) (sRet (eFrz dList (eCons (eS 2) (eCons (eOp2 dAdd (eOp2 dAdd (eOp2 dMod (eCallB bInt (eCons (eS 2) (eNil))) (eC (.int 4294967291))) (eOp2 dMul (eC (.int 977)) (eS 1))) (eC (.int 1))) (eCons (eOp2 dAdd (eOp2 dAdd (eOp2 dMod (eCallB bInt (eCons (eS 2) (eNil))) (eC (.int 2147483587))) (eOp2 dMul (eC (.int 31)) (eS 1))) (eC (.int 2))) (eNil))))))
def m_l_tap : Fn := runFn 3 [] b_l_tap
/-- _law_draw(_law_tap_here, _law_bound): slots 0 _law_tap_here, 1 _law_bound, 2 _law_found -/
def b_l_draw : Sx := sSeq (sIf (tOf (eOp2 dGe (eOp2 dIx (eS 0) (eC (.int 0))) (eOp2 dPow (eC (.int 10)) (eC (.int 18))))) (sSeq (sSet 2 (eOp2 dMod (eCallB bInt (eCons (eOp2 dIx (eS 0) (eC (.int 0))) (eNil))) (eS 1))) (sSeq (sStore 0 (eOp2 dDiv (eOp2 dIx (eS 0) (eC (.int 0))) (eS 1)) (eC (.int 0))) (sRet (eS 2)))) (sNext)) (sSeq (sStore 0 (eOp2 dMod (eCallB bInt (eCons (eOp2 dAdd (eOp2 dMul (eOp2 dIx (eS 0) (eC (.int 1))) (eC (.int 69069))) (eC (.int 40503))) (eNil))) (eC (.int 4294967291))) (eC (.int 1))) (sSeq (sStore 0 (eOp2 dMod (eCallB bInt (eCons (eOp2 dAdd (eOp2 dMul (eOp2 dIx (eS 0) (eC (.int 2))) (eOp2 dIx (eS 0) (eC (.int 2)))) (eOp2 dIx (eS 0) (eC (.int 1)))) (eNil))) (eC (.int 2147483587))) (eC (.int 2))) (sRet (eOp2 dMod (eCallB bInt (eCons (eOp2 dAdd (eOp2 dDiv (eOp2 dIx (eS 0) (eC (.int 1))) (eC (.int 32))) (eOp2 dDiv (eOp2 dIx (eS 0) (eC (.int 2))) (eC (.int 16)))) (eNil))) (eS 1)))))
def m_l_draw : Fn := runFn 3 [0] b_l_draw
/-- _law_cells(_law_script, _law_many): slots 0 _law_script, 1 _law_many -/
def b_l_cells : Sx := sRet (eSlice (eOp2 dAdd (eS 0) (eFrz dList (eCons (eC (.int 0)) (eNil)))) (oNone) (oSome (eCallB bMax2 (eCons (eC (.int 1)) (eCons (eCallB bMin2 (eCons (eS 1) (eCons (eCallB bLen (eCons (eS 0) (eNil))) (eNil)))) (eNil))))))
def m_l_cells : Fn := runFn 2 [] b_l_cells
/-- _law_is_turn(_law_value): slots 0 _law_value, 1 _law_one, 2 _law_turn_here, 3 _law_here, 4 _law_been -/
def f_l_is_turn_1 : Sx := sIf (tOrM (tNotM (tOf (eOne (dIsi "int") (eS 1)))) (tOrM (tOf (eOne (dIsi "bool") (eS 1))) (tNotM (tOf (eChain dLe dLt (eC (.int 0)) (eS 1) (eCallB bLen (eCons (eS 0) (eNil)))))))) (sRet (eC (.bool false))) (sNext)
def f_l_is_turn_2 : Sx := sSeq (sSet 3 (eOp2 dIx (eS 0) (eS 3))) (sDrop (eMeth 4 kAppend (eCons (eS 3) (eNil))))
def b_l_is_turn : Sx := sSeq (sIf (tOrM (tNotM (tOf (eOne (dIsi "list") (eS 0)))) (tOrM (tOf (eOp2 dEq (eS 0) (eFrz dList (eNil)))) (tOf (eOp2 dGt (eCallB bLen (eCons (eS 0) (eNil))) (eC (.int 12)))))) (sRet (eC (.bool false))) (sNext)) (sSeq (sFor (iLst (eS 0)) (gSlot 1) (f_l_is_turn_1)) (sSeq (sPar [3, 4] (eCons (eC (.int 0)) (eCons (eFrz dList (eNil)) (eNil)))) (sSeq (sFor (iRg1 (eCons (eCallB bLen (eCons (eS 0) (eNil))) (eNil))) (gSlot 2) (f_l_is_turn_2)) (sRet (eOp2 dEq (eCallB bSorted (eCons (eS 4) (eNil))) (eOne dRg1 (eCallB bLen (eCons (eS 0) (eNil)))))))))
def m_l_is_turn : Fn := runFn 5 [] b_l_is_turn
/-- is_turn(value): slots 0 value, 1 here, 2 steps, 3 item -/
def x_is_turn_1 : Ex := eCall [] m_is_integer [] (eCons (eS 3) (eCons (eC (.int 0)) (eCons (eOp2 dSub (eCallB bLen (eCons (eS 0) (eNil))) (eC (.int 1))) (eNil))))
def t_is_turn_1 : Tx := tAndM (tOf (eOp2 dNe (eS 1) (eC (.int 0)))) (tOf (eOp2 dLt (eS 2) (eCallB bLen (eCons (eS 0) (eNil)))))
def w_is_turn_1 : Sx := sPar [1, 2] (eCons (eOp2 dIx (eS 0) (eS 1)) (eCons (eOp2 dAdd (eS 2) (eC (.int 1))) (eNil)))
def b_is_turn : Sx := sSeq (sIf (tOrM (tNotM (tOf (eOne (dIsi "list") (eS 0)))) (tNotM (tOf (eChain dLe dLe (eC (.int 1)) (eCallB bLen (eCons (eS 0) (eNil))) (eC (.int 12)))))) (sRet (eC (.bool false))) (sNext)) (sSeq (sIf (tNotM (tOf (eCallB bAll (eCons (eLc [3] (iLst (eS 0)) (gSlot 3) (tYesM) (x_is_turn_1)) (eNil))))) (sRet (eC (.bool false))) (sNext)) (sSeq (sPar [1, 2] (eCons (eOp2 dIx (eS 0) (eC (.int 0))) (eCons (eC (.int 1)) (eNil)))) (sSeq (wLoop (t_is_turn_1) (w_is_turn_1) 1000) (sRet (eAndM (eOp2 dEq (eS 1) (eC (.int 0))) (eOp2 dEq (eS 2) (eCallB bLen (eCons (eS 0) (eNil)))))))))
def m_is_turn : Fn := runFn 4 [] b_is_turn
/-- _law_mixed(_law_tap_here, _law_count): slots 0 _law_tap_here, 1 _law_count, 2 _law_left, 3 _law_found -/
def t_l_mixed_1 : Tx := tOf (eOp2 dNe (eS 2) (eFrz dList (eNil)))
def w_l_mixed_1 : Sx := sDrop (eMeth 3 kAppend (eCons (eMeth 2 kPopAt (eCons (eCall [0] m_l_draw [] (eCons (eS 0) (eCons (eCallB bLen (eCons (eS 2) (eNil))) (eNil)))) (eNil))) (eNil)))
def b_l_mixed : Sx := sSeq (sPar [2, 3] (eCons (eOne dRg1 (eS 1)) (eCons (eFrz dList (eNil)) (eNil)))) (sSeq (wLoop (t_l_mixed_1) (w_l_mixed_1) 1000) (sRet (eS 3)))
def m_l_mixed : Fn := runFn 4 [0] b_l_mixed
/-- _law_near(_law_tap_here, _law_turn_here): slots 0 _law_tap_here, 1 _law_turn_here, 2 _law_moved_on, 3 _law_found, 4 _law_others, 5 _law_one, 6 _law_at, 7 _law_to, 8 _law_count -/
def f_l_near_1 : Sx := sDrop (eMeth 3 kAppend (eCons (eOp2 dAdd (eOp2 dAdd (eSlice (eS 1) (oNone) (oSome (eS 6))) (eFrz dList (eCons (eS 5) (eNil)))) (eSlice (eS 1) (oSome (eOp2 dAdd (eS 6) (eC (.int 1)))) (oNone))) (eNil)))
def x_l_near_1 : Ex := eIf (tOf (eOp2 dLt (eS 5) (eC (.int 2)))) (eOp2 dEq (eS 5) (eC (.int 1))) (eS 5)
def x_l_near_2 : Ex := eOp2 dMod (eCallB bInt (eCons (eOp2 dAdd (eS 5) (eC (.int 1))) (eNil))) (eS 8)
def x_l_near_3 : Ex := eOp2 dAdd (eS 5) (eC (.int 1))
def b_l_near : Sx := sSeq (sDes (gTupM [gSlot 6, gSlot 7, gSlot 8]) (eFrz dTup (eCons (eCall [0] m_l_draw [] (eCons (eS 0) (eCons (eCallB bLen (eCons (eS 1) (eNil))) (eNil)))) (eCons (eCall [0] m_l_draw [] (eCons (eS 0) (eCons (eCallB bLen (eCons (eS 1) (eNil))) (eNil)))) (eCons (eCallB bLen (eCons (eS 1) (eNil))) (eNil)))))) (sSeq (sSet 2 (eCallB bList (eCons (eS 1) (eNil)))) (sSeq (sDes (gTupM [gIdx 2 (eS 6), gIdx 2 (eS 7)]) (eFrz dTup (eCons (eOp2 dIx (eS 1) (eS 7)) (eCons (eOp2 dIx (eS 1) (eS 6)) (eNil))))) (sSeq (sSet 3 (eFrz dList (eCons (eS 1) (eCons (eS 2) (eCons (eRev (eS 1)) (eCons (eCallB bTuple (eCons (eS 1) (eNil))) (eCons (eSlice (eS 1) (oSome (eC (.int 1))) (oNone)) (eCons (eOp2 dAdd (eS 1) (eFrz dList (eCons (eS 8) (eNil)))) (eCons (eOp2 dAdd (eS 1) (eSlice (eS 1) (oNone) (oSome (eC (.int 1))))) (eCons (eFrz dList (eCons (eS 1) (eNil))) (eCons (eOp2 dMul (eS 1) (eC (.int 2))) (eNil)))))))))))) (sSeq (sSet 4 (eFrz dList (eCons (eCall [0] m_l_draw [] (eCons (eS 0) (eCons (eS 8) (eNil)))) (eCons (eC (.int (-1))) (eCons (eS 8) (eCons (eOp2 dPow (eC (.int 10)) (eC (.int 39))) (eCons (eC (.bool true)) (eCons (eC (.bool false)) (eCons (eC .none) (eCons (eCallB bStr (eCons (eOp2 dIx (eS 1) (eS 6)) (eNil))) (eCons (eFrz dList (eCons (eOp2 dIx (eS 1) (eS 6)) (eNil))) (eCons (eOp2 dEq (eOp2 dIx (eS 1) (eS 6)) (eC (.int 1))) (eNil))))))))))))) (sSeq (sFor (iLst (eS 4)) (gSlot 5) (f_l_near_1)) (sSeq (sDrop (eMeth 3 kAppend (eCons (eLc [5] (iLst (eS 1)) (gSlot 5) (tYesM) (x_l_near_1)) (eNil)))) (sRet (eOp2 dAdd (eS 3) (eFrz dList (eCons (eLc [5] (iLst (eS 1)) (gSlot 5) (tYesM) (x_l_near_3)) (eCons (eOne dRg1 (eS 8)) (eCons (eLc [5] (iRg1 (eCons (eS 8) (eNil))) (gSlot 5) (tYesM) (x_l_near_2)) (eNil)))))))))))))
def m_l_near : Fn := runFn 9 [0] b_l_near
/-- _law_turn(_law_tap_here, _law_count): slots 0 _law_tap_here, 1 _law_count, 2 _law_k, 3 _law_way, 4 _law_found -/
def f_l_turn_1 : Sx := sStore 4 (eOp2 dIx (eS 3) (eOp2 dMod (eCallB bInt (eCons (eOp2 dAdd (eS 2) (eC (.int 1))) (eNil))) (eS 1))) (eOp2 dIx (eS 3) (eS 2))
def b_l_turn : Sx := sSeq (sPar [3, 4] (eCons (eCall [0] m_l_mixed [] (eCons (eS 0) (eCons (eS 1) (eNil)))) (eCons (eOp2 dMul (eFrz dList (eCons (eC (.int 0)) (eNil))) (eS 1)) (eNil)))) (sSeq (sFor (iRg1 (eCons (eS 1) (eNil))) (gSlot 2) (f_l_turn_1)) (sRet (eS 4)))
def m_l_turn : Fn := runFn 5 [0] b_l_turn
/-- _law_right(_law_tap_here): slots 0 _law_tap_here, 1 _law_turn_here, 2 _law_values, 3 _law_before, 4 _law_value -/
def f_l_right_1 : Sx := sIf (tOf (eOp2 dNe (eCallB bRepr (eCons (eCall [] m_is_turn [] (eCons (eS 4) (eNil))) (eNil))) (eCallB bRepr (eCons (eCall [] m_l_is_turn [] (eCons (eS 4) (eNil))) (eNil))))) (sRet (eC (.bool false))) (sNext)
def b_l_right : Sx := sSeq (sSet 1 (eCall [0] m_l_turn [] (eCons (eS 0) (eCons (eOp2 dAdd (eC (.int 1)) (eCall [0] m_l_draw [] (eCons (eS 0) (eCons (eC (.int 12)) (eNil))))) (eNil))))) (sSeq (sSet 2 (eFrz dList (eCons (eC .none) (eCons (eC (.bool true)) (eCons (eC (.int 0)) (eCons (eC (.str "")) (eCons (eC (.str "1 0")) (eCons (eFrz dTup (eNil)) (eCons (eFrz dList (eNil)) (eCons (eDict0) (eCons (eOp2 dAdd (eOp2 dRg2 (eC (.int 1)) (eC (.int 13))) (eFrz dList (eCons (eC (.int 0)) (eNil)))) (eCons (eOp2 dMul (eFrz dList (eCons (eC (.int 0)) (eNil))) (eC (.int 13))) (eCons (eFrz dList (eCons (eC (.bool false)) (eNil))) (eNil)))))))))))))) (sSeq (sSet 2 (eOp2 dAdd (eOp2 dAdd (eS 2) (eCall [0] m_l_near [] (eCons (eS 0) (eCons (eS 1) (eNil))))) (eCall [0] m_l_near [] (eCons (eS 0) (eCons (eCall [0] m_l_turn [] (eCons (eS 0) (eCons (eOp2 dAdd (eC (.int 1)) (eCall [0] m_l_draw [] (eCons (eS 0) (eCons (eC (.int 4)) (eNil))))) (eNil)))) (eNil)))))) (sSeq (sSet 3 (eCallB bRepr (eCons (eS 2) (eNil)))) (sSeq (sFor (iLst (eS 2)) (gSlot 4) (f_l_right_1)) (sRet (eAndM (eOp2 dIs (eCall [] m_is_turn [] (eCons (eS 1) (eNil))) (eC (.bool true))) (eOp2 dEq (eCallB bRepr (eCons (eS 2) (eNil))) (eS 3))))))))
end Pg
namespace Pg
open PySem PySem.Spec PyProof.Rows L2 T3
def nms_k06 : List Str := ["TurnError", "InvalidMoves", "InvalidTurn", "InvalidTurns", "InvalidPlace", "InvalidStretch", "InvalidLoop", "InvalidPoint", "InvalidRing", "InvalidRate", "InvalidMany", "InvalidTicks", "InvalidIndex", "InvalidSight", "InvalidCommand", "NotLoose", "NotForced", "OtherGoal", "NothingToUndo", "InvalidText"]
/-- _law_which(_law_error): slots 0 _law_error, 1 _law_found -/
def b_l_which : Sx := sSeq (sSet 1 (eFrz dList (eCons (eIsK nms_k06 ["InvalidMoves"] (eS 0)) (eCons (eIsK nms_k06 ["InvalidTurn"] (eS 0)) (eCons (eIsK nms_k06 ["InvalidTurns"] (eS 0)) (eNil)))))) (sSeq (sSet 1 (eOp2 dAdd (eS 1) (eFrz dList (eCons (eIsK nms_k06 ["InvalidPlace"] (eS 0)) (eCons (eIsK nms_k06 ["InvalidStretch"] (eS 0)) (eNil)))))) (sSeq (sSet 1 (eOp2 dAdd (eS 1) (eFrz dList (eCons (eIsK nms_k06 ["InvalidLoop"] (eS 0)) (eCons (eIsK nms_k06 ["InvalidPoint"] (eS 0)) (eCons (eIsK nms_k06 ["InvalidRing"] (eS 0)) (eNil))))))) (sSeq (sSet 1 (eOp2 dAdd (eS 1) (eFrz dList (eCons (eIsK nms_k06 ["InvalidRate"] (eS 0)) (eCons (eIsK nms_k06 ["InvalidMany"] (eS 0)) (eCons (eIsK nms_k06 ["InvalidTicks"] (eS 0)) (eNil))))))) (sSeq (sSet 1 (eOp2 dAdd (eS 1) (eFrz dList (eCons (eIsK nms_k06 ["InvalidIndex"] (eS 0)) (eCons (eIsK nms_k06 ["InvalidSight"] (eS 0)) (eNil)))))) (sSeq (sSet 1 (eOp2 dAdd (eS 1) (eFrz dList (eCons (eIsK nms_k06 ["InvalidCommand"] (eS 0)) (eCons (eIsK nms_k06 ["NotLoose"] (eS 0)) (eCons (eIsK nms_k06 ["NotForced"] (eS 0)) (eNil))))))) (sRet (eOp2 dAdd (eS 1) (eFrz dList (eCons (eIsK nms_k06 ["OtherGoal"] (eS 0)) (eCons (eIsK nms_k06 ["NothingToUndo"] (eS 0)) (eCons (eIsK nms_k06 ["InvalidText"] (eS 0)) (eNil))))))))))))
def m_l_which : Fn := runFn 2 [] b_l_which
/-- _law_made(_law_text, _law_field): slots 0 _law_text, 1 _law_field, 2 _law_found -/
def b_l_made : Sx := sSeq (sSet 2 (eFrz dList (eCons (eMkE "InvalidMoves" (eS 0)) (eCons (eMkE "InvalidTurn" (eS 0)) (eCons (eMkE "InvalidTurns" (eS 0)) (eCons (eMkE "InvalidPlace" (eS 0)) (eCons (eMkE "InvalidStretch" (eS 0)) (eNil)))))))) (sSeq (sSet 2 (eOp2 dAdd (eS 2) (eFrz dList (eCons (eMkE "InvalidLoop" (eS 0)) (eCons (eMkE "InvalidPoint" (eS 0)) (eCons (eMkE "InvalidRing" (eS 0)) (eCons (eMkE "InvalidRate" (eS 0)) (eCons (eMkE "InvalidMany" (eS 0)) (eNil))))))))) (sSeq (sSet 2 (eOp2 dAdd (eS 2) (eFrz dList (eCons (eMkE "InvalidTicks" (eS 0)) (eCons (eMkE "InvalidIndex" (eS 0)) (eCons (eMkE "InvalidSight" (eS 0)) (eCons (eMkE "InvalidCommand" (eS 0)) (eCons (eMkE "NotLoose" (eS 0)) (eNil))))))))) (sRet (eOp2 dAdd (eS 2) (eFrz dList (eCons (eMkE "NotForced" (eS 0)) (eCons (eMkE "OtherGoal" (eS 0)) (eCons (eMkE "NothingToUndo" (eS 0)) (eCons (eMkP "InvalidText" (eS 1)) (eNil))))))))))
def m_l_made : Fn := runFn 3 [] b_l_made
/-- _law_right(_law_tap_here): slots 0 _law_tap_here, 1 _law_letters, 2 _law_text, 3 _law_field, 4 _law_errors_here, 5 _law_k, 6 _law_first, 7 _law_error, 8 _law_turn, 9 _law_other -/
def x_l_right_k06_1 : Ex := eOp2 dIx (eS 1) (eCall [0] m_l_draw [] (eCons (eS 0) (eCons (eC (.int 8)) (eNil))))
def x_l_right_k06_2 : Ex := eOp2 dEq (eS 9) (eS 5)
def f_l_right_k06_1 : Sx := sSeq (sSet 7 (eOp2 dIx (eS 4) (eS 5))) (sSeq (sIf (tOrM (tNotM (tOf (eIsK nms_k06 ["TurnError"] (eS 7)))) (tNotM (tOf (eIsK nms_k06 ["TurnError"] (eS 7))))) (sRet (eC (.bool false))) (sNext)) (sIf (tOf (eOp2 dNe (eCall [] m_l_which [] (eCons (eS 7) (eNil))) (eLc [9] (iRg1 (eCons (eC (.int 19)) (eNil))) (gSlot 9) (tYesM) (x_l_right_k06_2)))) (sRet (eC (.bool false))) (sNext)))
def b_l_right_k06 : Sx := sSeq (sSet 1 (eC (.str " abcz0/-"))) (sSeq (sSet 2 (eRead isStr dJoinT (eC (.str "")) (eLc [8] (iRg1 (eCons (eCall [0] m_l_draw [] (eCons (eS 0) (eCons (eC (.int 12)) (eNil)))) (eNil))) (gSlot 8) (tYesM) (x_l_right_k06_1)))) (sSeq (sSet 3 (eOp2 dIx (eFrz dList (eCons (eC (.int 0)) (eCons (eC (.int 12)) (eCons (eCall [0] m_l_draw [] (eCons (eS 0) (eCons (eC (.int 4001)) (eNil)))) (eCons (eC .none) (eNil)))))) (eCall [0] m_l_draw [] (eCons (eS 0) (eCons (eC (.int 4)) (eNil)))))) (sSeq (sSet 4 (eCall [] m_l_made [] (eCons (eS 2) (eCons (eS 3) (eNil))))) (sSeq (sFor (iRg1 (eCons (eCallB bLen (eCons (eS 4) (eNil))) (eNil))) (gSlot 5) (f_l_right_k06_1)) (sSeq (sSet 6 (eMkE "TurnError" (eS 2))) (sSeq (sIf (tOf (eOp2 dNe (eCallB bRepr (eCons (ePlK "InvalidText" (eOp2 dIx (eS 4) (eC (.int (-1))))) (eNil))) (eCallB bRepr (eCons (eS 3) (eNil))))) (sRet (eC (.bool false))) (sNext)) (sRet (eAndM (eIsK nms_k06 ["TurnError"] (eS 6)) (eOp2 dNin (eC (.bool true)) (eCall [] m_l_which [] (eCons (eS 6) (eNil))))))))))))
def m_l_right_k06 : Fn := runFn 10 [0] b_l_right_k06
/-- law(_law_script): slots 0 _law_script, 1 _law_cells_here, 2 _law_k -/
def x_law_k06_1 : Ex := eS 2
def c_law_k06_1 : Tx := tNotM (tOf (eCallX [0] m_l_right_k06 [] (eCons (eCall [] m_l_tap [] (eCons (eOp2 dIx (eS 1) (eS 2)) (eCons (eS 2) (eNil)))) (eNil))))
def b_law_k06 : Sx := sSeq (sSet 1 (eCall [] m_l_cells [] (eCons (eS 0) (eCons (eC (.int 3)) (eNil))))) (sRet (eOp2 dEq (eLc [2] (iRg1 (eCons (eCallB bLen (eCons (eS 1) (eNil))) (eNil))) (gSlot 2) (c_law_k06_1) (x_law_k06_1)) (eFrz dList (eNil))))
def m_law_k06 : Fn := runFn 3 [] b_law_k06
end Pg
namespace Pg
open PySem PySem.Spec PyProof.Rows L2 T3
structure TapS where
  a : Int
  x : Int
  y : Int
  hx : x.natAbs < 2 ^ 63
  hy : y.natAbs < 2 ^ 63
def TapS.enc (t : TapS) : D := .list [.int t.a, .int t.x, .int t.y]
theorem tap_safe (t : TapS) : safeC t.enc = true := rfl
def drX (t : TapS) : Int := (t.x * 69069 + 40503) % 4294967291
def drY (t : TapS) : Int := (t.y * t.y + drX t) % 2147483587
def drR (t : TapS) (b : Int) : Int := if 10 ^ 18 ≤ t.a then t.a % b else (drX t / 32 + drY t / 16) % b
def drT (t : TapS) (b : Int) : TapS := if 10 ^ 18 ≤ t.a then ⟨t.a / b, t.x, t.y, t.hx, t.hy⟩ else
  ⟨t.a, drX t, drY t, by unfold drX; omega, by unfold drY; omega⟩
theorem drR_lt (t : TapS) {b : Int} (h : 0 < b) : 0 ≤ drR t b ∧ drR t b < b := by
  unfold drR
  split
  · exact ⟨Int.emod_nonneg _ (by omega), Int.emod_lt_of_pos _ h⟩
  · exact ⟨Int.emod_nonneg _ (by omega), Int.emod_lt_of_pos _ h⟩
theorem draw_eq (t : TapS) {b : Int} (hb : 0 < b) (hb2 : b < 10 ^ 200) : m_l_draw [t.enc, .int b] = .ok (.val (.int (drR t b))) [(drT t b).enc] := by
  obtain ⟨a, x, y, hx, hy⟩ := t
  have hB : Big b := big_of (k := 700) (by omega) (by omega)
  unfold m_l_draw b_l_draw
  by_cases ha : 10 ^ 18 ≤ a
  · unfold drR drT
    rw [if_pos ha, if_pos ha]
    unfold TapS.enc
    simp (disch := first | assumption | omega | decide) only [ev0, ev1, ev2, ev3, ev4, ev5, ev6, dList, dTup, mutS, borS, argsD, nodupB, putM, frzN, safeOp, safeD, safeDs, wipeE, restore, argCells, List.getD_cons_zero, List.getD_cons_succ, List.set_cons_zero, List.set_cons_succ, List.length_cons, List.length_nil, List.cons_append, List.nil_append, List.append_nil, List.replicate_succ, List.replicate_zero, List.not_mem_nil, List.mem_cons, if_true, if_false, ite_true, ite_false, Bool.true_and, Bool.and_true, Bool.not_true, Bool.not_false, Bool.false_eq_true, reduceIte, List.getElem?_cons_zero, List.getElem?_cons_succ, List.all_nil, List.all_cons, List.contains_nil, Option.map_some, Option.map_none, Option.bind_some, and_self, and_true, true_and, or_false, false_or, or_true, true_or, Nat.reduceAdd, Nat.reduceSub, Nat.reduceLT, Nat.reduceLeDiff, Nat.reduceEqDiff, Nat.zero_add, eq_self, true_implies, not_false_eq_true, not_true_eq_false, Nat.lt_irrefl, Nat.succ_ne_zero, Nat.lt_add_one, ne_eq, Int.reduceEq, Int.reduceNe, decide_true, decide_false, Nat.zero_lt_succ, Bool.not_eq_true', decide_not, Nat.add_one_ne_zero, Nat.zero_le, Nat.le_refl, Bool.or_true, Bool.or_false, Bool.true_or, Bool.false_or, Bool.and_false, Bool.false_and, Nat.reduceMul, isiB, String.reduceBEq, Bool.or_self, Bool.and_self, reduceCtorEq, isSS, List.contains_cons, Nat.reduceBEq, ix_ll, eq_ln, ne_ln, List.length_map, List.length_range, Int.reduceToNat, Int.reducePow, Int.reduceMul, Int.reduceAdd, Int.reduceSub, Int.reduceNeg, Int.reduceLE, Int.reduceLT, Int.toNat_natCast, Bool.and_eq_true, Bool.or_eq_true, decide_eq_true_eq, Bool.decide_eq_true, rep_d, List.length_append, List.length_reverse, map_snoc, map_app, Int.sub_zero, List.append_assoc, ite_self, ha]
  · unfold drR drT
    rw [if_neg ha, if_neg ha]
    unfold TapS.enc drY drX
    simp (disch := first | assumption | omega | decide) only [ev0, ev1, ev2, ev3, ev4, ev5, ev6, dList, dTup, mutS, borS, argsD, nodupB, putM, frzN, safeOp, safeD, safeDs, wipeE, restore, argCells, List.getD_cons_zero, List.getD_cons_succ, List.set_cons_zero, List.set_cons_succ, List.length_cons, List.length_nil, List.cons_append, List.nil_append, List.append_nil, List.replicate_succ, List.replicate_zero, List.not_mem_nil, List.mem_cons, if_true, if_false, ite_true, ite_false, Bool.true_and, Bool.and_true, Bool.not_true, Bool.not_false, Bool.false_eq_true, reduceIte, List.getElem?_cons_zero, List.getElem?_cons_succ, List.all_nil, List.all_cons, List.contains_nil, Option.map_some, Option.map_none, Option.bind_some, and_self, and_true, true_and, or_false, false_or, or_true, true_or, Nat.reduceAdd, Nat.reduceSub, Nat.reduceLT, Nat.reduceLeDiff, Nat.reduceEqDiff, Nat.zero_add, eq_self, true_implies, not_false_eq_true, not_true_eq_false, Nat.lt_irrefl, Nat.succ_ne_zero, Nat.lt_add_one, ne_eq, Int.reduceEq, Int.reduceNe, decide_true, decide_false, Nat.zero_lt_succ, Bool.not_eq_true', decide_not, Nat.add_one_ne_zero, Nat.zero_le, Nat.le_refl, Bool.or_true, Bool.or_false, Bool.true_or, Bool.false_or, Bool.and_false, Bool.false_and, Nat.reduceMul, isiB, String.reduceBEq, Bool.or_self, Bool.and_self, reduceCtorEq, isSS, List.contains_cons, Nat.reduceBEq, ix_ll, eq_ln, ne_ln, List.length_map, List.length_range, Int.reduceToNat, Int.reducePow, Int.reduceMul, Int.reduceAdd, Int.reduceSub, Int.reduceNeg, Int.reduceLE, Int.reduceLT, Int.toNat_natCast, Bool.and_eq_true, Bool.or_eq_true, decide_eq_true_eq, Bool.decide_eq_true, rep_d, List.length_append, List.length_reverse, map_snoc, map_app, Int.sub_zero, List.append_assoc, ite_self, ha]
theorem tap_eq (c t : Int) (h0 : 0 ≤ t) (h1 : t < 1000) : ∃ d : TapS, m_l_tap [.int c, .int t] = .ok (.new d.enc) [] := by
  refine ⟨⟨(2 * if c < 0 then -c else c) + (if decide (c < 0) = true then 1 else 0), ((2 * if c < 0 then -c else c) + (if decide (c < 0) = true then 1 else 0)) % 4294967291 + 977 * t + 1, ((2 * if c < 0 then -c else c) + (if decide (c < 0) = true then 1 else 0)) % 2147483587 + 31 * t + 2, by omega, by omega⟩, ?_⟩
  unfold m_l_tap b_l_tap TapS.enc
  simp (disch := first | assumption | omega | decide) only [ev0, ev1, ev2, ev3, ev4, ev5, ev6, dList, dTup, mutS, borS, argsD, nodupB, putM, frzN, safeOp, safeD, safeDs, wipeE, restore, argCells, List.getD_cons_zero, List.getD_cons_succ, List.set_cons_zero, List.set_cons_succ, List.length_cons, List.length_nil, List.cons_append, List.nil_append, List.append_nil, List.replicate_succ, List.replicate_zero, List.not_mem_nil, List.mem_cons, if_true, if_false, ite_true, ite_false, Bool.true_and, Bool.and_true, Bool.not_true, Bool.not_false, Bool.false_eq_true, reduceIte, List.getElem?_cons_zero, List.getElem?_cons_succ, List.all_nil, List.all_cons, List.contains_nil, Option.map_some, Option.map_none, Option.bind_some, and_self, and_true, true_and, or_false, false_or, or_true, true_or, Nat.reduceAdd, Nat.reduceSub, Nat.reduceLT, Nat.reduceLeDiff, Nat.reduceEqDiff, Nat.zero_add, eq_self, true_implies, not_false_eq_true, not_true_eq_false, Nat.lt_irrefl, Nat.succ_ne_zero, Nat.lt_add_one, ne_eq, Int.reduceEq, Int.reduceNe, decide_true, decide_false, Nat.zero_lt_succ, Bool.not_eq_true', decide_not, Nat.add_one_ne_zero, Nat.zero_le, Nat.le_refl, Bool.or_true, Bool.or_false, Bool.true_or, Bool.false_or, Bool.and_false, Bool.false_and, Nat.reduceMul, isiB, String.reduceBEq, Bool.or_self, Bool.and_self, reduceCtorEq, isSS, List.contains_cons, Nat.reduceBEq, ix_ll, eq_ln, ne_ln, List.length_map, List.length_range, Int.reduceToNat, Int.reducePow, Int.reduceMul, Int.reduceAdd, Int.reduceSub, Int.reduceNeg, Int.reduceLE, Int.reduceLT, Int.toNat_natCast, Bool.and_eq_true, Bool.or_eq_true, decide_eq_true_eq, Bool.decide_eq_true, rep_d, List.length_append, List.length_reverse, map_snoc, map_app, Int.sub_zero, List.append_assoc, ite_self]
  try rfl
theorem cells_eq (ns : List Int) (hl : ns.length ≤ 1000) (m : Int) (h1 : 1 ≤ m) (h2 : m < 100) : ∃ cs : List Int, cs.length ≤ m.toNat ∧ m_l_cells [.list (ns.map .int), .int m] = .ok (.new (.list (cs.map .int))) [] := by
  refine ⟨(ns ++ [0]).take (if (if (ns.length : Int) < m then (ns.length : Int) else m) > 1 then (if (ns.length : Int) < m then (ns.length : Int) else m) else 1).toNat, ?_, ?_⟩
  · rw [List.length_take]
    split <;> split <;> omega
  · have h3 : 0 ≤ (if (if (ns.length : Int) < m then (ns.length : Int) else m) > 1 then (if (ns.length : Int) < m then (ns.length : Int) else m) else 1) := by
      split <;> split <;> omega
    unfold m_l_cells b_l_cells
    simp (disch := first | assumption | omega | decide) only [ev0, ev1, ev2, ev3, ev4, ev5, ev6, dList, dTup, mutS, borS, argsD, nodupB, putM, frzN, safeOp, safeD, safeDs, wipeE, restore, argCells, List.getD_cons_zero, List.getD_cons_succ, List.set_cons_zero, List.set_cons_succ, List.length_cons, List.length_nil, List.cons_append, List.nil_append, List.append_nil, List.replicate_succ, List.replicate_zero, List.not_mem_nil, List.mem_cons, if_true, if_false, ite_true, ite_false, Bool.true_and, Bool.and_true, Bool.not_true, Bool.not_false, Bool.false_eq_true, reduceIte, List.getElem?_cons_zero, List.getElem?_cons_succ, List.all_nil, List.all_cons, List.contains_nil, Option.map_some, Option.map_none, Option.bind_some, and_self, and_true, true_and, or_false, false_or, or_true, true_or, Nat.reduceAdd, Nat.reduceSub, Nat.reduceLT, Nat.reduceLeDiff, Nat.reduceEqDiff, Nat.zero_add, eq_self, true_implies, not_false_eq_true, not_true_eq_false, Nat.lt_irrefl, Nat.succ_ne_zero, Nat.lt_add_one, ne_eq, Int.reduceEq, Int.reduceNe, decide_true, decide_false, Nat.zero_lt_succ, Bool.not_eq_true', decide_not, Nat.add_one_ne_zero, Nat.zero_le, Nat.le_refl, Bool.or_true, Bool.or_false, Bool.true_or, Bool.false_or, Bool.and_false, Bool.false_and, Nat.reduceMul, isiB, String.reduceBEq, Bool.or_self, Bool.and_self, reduceCtorEq, isSS, List.contains_cons, Nat.reduceBEq, ix_ll, eq_ln, ne_ln, List.length_map, List.length_range, Int.reduceToNat, Int.reducePow, Int.reduceMul, Int.reduceAdd, Int.reduceSub, Int.reduceNeg, Int.reduceLE, Int.reduceLT, Int.toNat_natCast, Bool.and_eq_true, Bool.or_eq_true, decide_eq_true_eq, Bool.decide_eq_true, rep_d, List.length_append, List.length_reverse, map_snoc, map_app, Int.sub_zero, List.append_assoc, ite_self]
end Pg
namespace Rg
/-- straight piece by piece between a and b -/
inductive Pw (g : Rat → Rat) : Rat → Rat → Prop
  | aff {a b : Rat} (r h : Rat) : a ≤ b → (∀ x, a ≤ x → x ≤ b → g x = r * x + h) → Pw g a b
  | cat {a m b : Rat} : Pw g a m → Pw g m b → Pw g a b
variable {f g : Rat → Rat} {a b c d : Rat}
theorem Pw.le (P : Pw g a b) : a ≤ b := by
  induction P with
  | aff r h l _ => exact l
  | cat _ _ h1 h2 => grind
theorem Pw.neg (P : Pw g a b) : Pw (fun x => - g x) a b := by
  induction P with
  | aff r h l e => exact .aff (-r) (-h) l fun x h1 h2 => by rw [e x h1 h2]; grind
  | cat _ _ i1 i2 => exact .cat i1 i2
theorem Pw.flip (P : Pw g a b) : Pw (fun x => g (-x)) (-b) (-a) := by
  induction P with
  | aff r h l e => exact .aff (-r) h (by grind) fun x h1 h2 => by rw [e (-x) (by grind) (by grind)]; grind
  | cat _ _ i1 i2 => exact .cat i2 i1
/-- the last point where the value is y, if it is greater behind -/
theorem Pw.last (P : Pw g a b) {y : Rat} : y < g b → (∃ x, a ≤ x ∧ x ≤ b ∧ g x ≤ y) → ∃ x, a ≤ x ∧ x < b ∧ g x = y ∧ ∀ z, x < z → z ≤ b → y < g z := by
  induction P with
  | @aff a b r h l e =>
    rintro hb ⟨x0, h1, h2, h3⟩
    rw [e b l (by grind)] at hb
    rw [e x0 h1 h2] at h3
    have hr : 0 < r := by
      refine Classical.byContradiction fun c => ?_
      have := Rat.mul_le_mul_of_nonneg_left (c := -r) h2 (by grind)
      grind
    have hne : r ≠ 0 := by grind
    have key : ∀ z, r * z + h = r * (z - (y - h) / r) + y := fun z => by grind
    have hx : (y - h) / r < b := by
      refine Classical.byContradiction fun c => ?_
      have := Rat.mul_le_mul_of_nonneg_left (a := b) (b := (y - h) / r) (c := r) (by grind) (by grind)
      have := key b
      grind
    have hx0 : x0 ≤ (y - h) / r := by
      refine Classical.byContradiction fun c => ?_
      have := Rat.mul_lt_mul_of_pos_left (a := (y - h) / r) (b := x0) (c := r) (by grind) hr
      have := key x0
      grind
    refine ⟨(y - h) / r, by grind, hx, ?_, fun z z1 z2 => ?_⟩
    · rw [e _ (by grind) (by grind)]; grind
    · rw [e z (by grind) z2]
      have := Rat.mul_lt_mul_of_pos_left (a := (y - h) / r) (b := z) (c := r) z1 hr
      have := key z
      grind
  | @cat a m b p1 p2 i1 i2 =>
    rintro hb ⟨x0, h1, h2, h3⟩
    have l1 := p1.le
    have l2 := p2.le
    by_cases c : ∃ x, m ≤ x ∧ x ≤ b ∧ g x ≤ y
    · obtain ⟨x, q1, q2, q3, q4⟩ := i2 hb c
      exact ⟨x, by grind, q2, q3, q4⟩
    · have c' : ∀ x, m ≤ x → x ≤ b → y < g x := fun x q1 q2 => by
        refine Classical.byContradiction fun n => c ⟨x, q1, q2, by grind⟩
      have xm : x0 ≤ m := by
        refine Classical.byContradiction fun n => ?_
        have := c' x0 (by grind) h2
        grind
      obtain ⟨x, q1, q2, q3, q4⟩ := i1 (c' m (by grind) l2) ⟨x0, h1, xm, h3⟩
      refine ⟨x, q1, by grind, q3, fun z z1 z2 => ?_⟩
      by_cases zm : z ≤ m
      · exact q4 z z1 zm
      · exact c' z (by grind) z2
/-- the first point where the value is y, if it is less ahead -/
theorem Pw.first (P : Pw g a b) {y : Rat} (ha : g a < y) (hx : ∃ x, a ≤ x ∧ x ≤ b ∧ y ≤ g x) : ∃ x, a < x ∧ x ≤ b ∧ g x = y ∧ ∀ z, a ≤ z → z < x → g z < y := by
  obtain ⟨x0, h1, h2, h3⟩ := hx
  obtain ⟨x, q1, q2, q3, q4⟩ := P.flip.neg.last (y := -y) (by
    show -y < -g (- -a)
    rw [show (- -a : Rat) = a by grind]; grind) ⟨-x0, by grind, by grind, by
    show -g (- -x0) ≤ -y
    rw [show (- -x0 : Rat) = x0 by grind]; grind⟩
  refine ⟨-x, by grind, by grind, by grind, fun z z1 z2 => ?_⟩
  have := q4 (-z) (by grind) (by grind)
  have this : -y < -g (- -z) := this
  rw [show (- -z : Rat) = z by grind] at this
  grind
/-- between what lies below and what lies above there is a zero -/
theorem Pw.zero (P : Pw g a b) (ha : g a ≤ 0) (hb : 0 ≤ g b) : ∃ x, a ≤ x ∧ x ≤ b ∧ g x = 0 := by
  have l := P.le
  by_cases c : g b = 0
  · exact ⟨b, l, by grind, c⟩
  · obtain ⟨x, q1, q2, q3, _⟩ := P.last (y := 0) (by grind) ⟨a, by grind, l, ha⟩
    exact ⟨x, q1, by grind, q3⟩
/-- f k times -/
def itR (f : Rat → Rat) : Nat → Rat → Rat
  | 0, x => x
  | k + 1, x => f (itR f k x)
theorem itR_add (f : Rat → Rat) (x : Rat) (i : Nat) : ∀ k, itR f (i + k) x = itR f k (itR f i x)
  | 0 => rfl
  | k + 1 => congrArg f (itR_add f x i k)
end Rg
namespace Pg
def rs : Nat → (Nat → Rat) → Rat
  | 0, _ => 0
  | n + 1, f => rs n f + f n
theorem rs_ext {n : Nat} {f g : Nat → Rat} (h : ∀ j, j < n → f j = g j) : rs n f = rs n g := by
  induction n with
  | zero => rfl
  | succ n ih => unfold rs; rw [ih fun j hj => h j (by omega), h n (by omega)]
theorem rs_zero {n : Nat} {f : Nat → Rat} (h : ∀ j, j < n → f j = 0) : rs n f = 0 := by
  induction n with
  | zero => rfl
  | succ n ih => unfold rs; rw [ih fun j hj => h j (by omega), h n (by omega)]; grind
theorem rs_lin {n : Nat} (a b : Rat) (f g : Nat → Rat) : rs n (fun j => a * f j + b * g j) = a * rs n f + b * rs n g := by
  induction n with
  | zero => unfold rs; grind
  | succ n ih => unfold rs; rw [ih]; grind
theorem rs_mul {n : Nat} (a : Rat) (f : Nat → Rat) : rs n (fun j => a * f j) = a * rs n f := by
  induction n with
  | zero => unfold rs; grind
  | succ n ih => unfold rs; rw [ih]; grind
theorem rs_one {n i : Nat} {f : Nat → Rat} (hi : i < n) (h : ∀ j, j < n → j ≠ i → f j = 0) : rs n f = f i := by
  induction n with
  | zero => omega
  | succ n ih =>
    unfold rs
    by_cases e : i = n
    · subst e
      rw [rs_zero fun j hj => h j (by omega) (by omega)]; grind
    · rw [ih (by omega) fun j hj => h j (by omega), h n (by omega) (fun z => e z.symm)]; grind
theorem rs_two {n i k : Nat} {f : Nat → Rat} (hi : i < n) (hk : k < n) (ne : i ≠ k) (h : ∀ j, j < n → j ≠ i → j ≠ k → f j = 0) : rs n f = f i + f k := by
  induction n with
  | zero => omega
  | succ n ih =>
    unfold rs
    by_cases e : i = n
    · subst e
      rw [rs_one (i := k) (by omega) fun j hj hn => h j (by omega) (by omega) hn]; grind
    · by_cases e2 : k = n
      · subst e2
        rw [rs_one (i := i) (by omega) fun j hj hn => h j (by omega) hn (by omega)]
      · rw [ih (by omega) (by omega) fun j hj => h j (by omega), h n (by omega) (fun z => e z.symm) (fun z => e2 z.symm)]; grind
def dt (r : List Int) (x : Nat → Rat) : Rat := rs r.length fun j => ((r.getD j 0 : Int) : Rat) * x j
/-- the greatest number that divides all items -/
def gL (xs : List Int) : Nat := xs.foldl (fun d a => Int.gcd d a) 0
theorem gF_dvd : ∀ (xs : List Int) (d : Nat), ((xs.foldl (fun (d : Nat) a => Int.gcd d a) d : Nat) : Int) ∣ (d : Int) ∧ ∀ a ∈ xs, ((xs.foldl (fun (d : Nat) a => Int.gcd d a) d : Nat) : Int) ∣ a
  | [], d => ⟨Int.dvd_refl _, fun a h => nomatch h⟩
  | b :: xs, d => by
    obtain ⟨h1, h2⟩ := gF_dvd xs (Int.gcd d b)
    rw [List.foldl_cons]
    refine ⟨Int.dvd_trans h1 (Int.gcd_dvd_left _ _), fun a ha => ?_⟩
    rcases List.mem_cons.mp ha with rfl | ha
    · exact Int.dvd_trans h1 (Int.gcd_dvd_right _ _)
    · exact h2 a ha
theorem gL_dvd {xs : List Int} {a : Int} (h : a ∈ xs) : (gL xs : Int) ∣ a := (gF_dvd xs 0).2 a h
theorem gF_of : ∀ (xs : List Int) (d : Nat) (e : Int), e ∣ (d : Int) → (∀ a ∈ xs, e ∣ a) → e ∣ ((xs.foldl (fun (d : Nat) a => Int.gcd d a) d : Nat) : Int)
  | [], d, e, h, _ => h
  | b :: xs, d, e, h, k => by
    rw [List.foldl_cons]
    exact gF_of xs _ e (Int.dvd_coe_gcd h (k b List.mem_cons_self)) fun a ha => k a (List.mem_cons_of_mem _ ha)
theorem gL_of {xs : List Int} {e : Int} (h : ∀ a ∈ xs, e ∣ a) : e ∣ (gL xs : Int) := gF_of xs 0 e (Int.dvd_zero _) h
theorem gL_zero {xs : List Int} (h : gL xs = 0) {a : Int} (ha : a ∈ xs) : a = 0 := by
  have := gL_dvd ha
  rw [h] at this
  exact Int.zero_dvd.mp this
/-- a row without what stands in a column of another one -/
def woF (row first : List Int) (c : Nat) : List Int := List.zipWith (fun a b => first.getD c 0 * a - row.getD c 0 * b) row first
def wo (row first : List Int) (c : Nat) : List Int := if row.getD c 0 = 0 then row else if gL (woF row first c) = 0 then woF row first c else (woF row first c).map fun a => a / (gL (woF row first c) : Int)
section
variable {row first : List Int} {c j w : Nat} {x : Nat → Rat}
theorem woF_len (hl : row.length = first.length) : (woF row first c).length = row.length := by
  unfold woF
  rw [List.length_zipWith]; omega
theorem woF_get (hl : row.length = first.length) (hj : j < row.length) : (woF row first c).getD j 0 = first.getD c 0 * row.getD j 0 - row.getD c 0 * first.getD j 0 := by
  unfold woF
  rw [List.getD_eq_getElem?_getD, List.getElem?_zipWith, List.getElem?_eq_getElem hj, List.getElem?_eq_getElem (by omega : j < first.length)]
  simp only [List.getD_eq_getElem?_getD, List.getElem?_eq_getElem hj, List.getElem?_eq_getElem (by omega : j < first.length)]
  rfl
theorem getD_mem {xs : List Int} {i : Nat} (h : i < xs.length) : xs.getD i 0 ∈ xs := by
  rw [List.getD_eq_getElem?_getD, List.getElem?_eq_getElem h]
  exact List.getElem_mem h
theorem map_getD {f : Int → Int} (h0 : f 0 = 0) {xs : List Int} {i : Nat} : (xs.map f).getD i 0 = f (xs.getD i 0) := by
  rw [List.getD_eq_getElem?_getD, List.getD_eq_getElem?_getD, List.getElem?_map]
  cases xs[i]? with
  | none => exact h0.symm
  | some a => rfl
theorem wo_len (hl : row.length = first.length) : (wo row first c).length = row.length := by
  unfold wo
  split
  · rfl
  · split
    · exact woF_len hl
    · rw [List.length_map]; exact woF_len hl
/-- the row times a number is the difference -/
theorem wo_get (hl : row.length = first.length) (hp : first.getD c 0 ≠ 0) : ∃ (d : Int) (u v : Int), d ≠ 0 ∧ u ≠ 0 ∧ ∀ j, j < row.length → d * (wo row first c).getD j 0 = u * row.getD j 0 - v * first.getD j 0 := by
  unfold wo
  split
  · exact ⟨1, 1, 0, by decide, by decide, fun j _ => by omega⟩
  · split
    · exact ⟨1, first.getD c 0, row.getD c 0, by decide, hp, fun j hj => by rw [woF_get hl hj]; omega⟩
    · rename_i h1 h2
      refine ⟨gL (woF row first c), first.getD c 0, row.getD c 0, by omega, hp, fun j hj => ?_⟩
      rw [map_getD (by simp), Int.mul_ediv_cancel' (gL_dvd (getD_mem (by rw [woF_len hl]; exact hj))), woF_get hl hj]
theorem wo_hold (hl : row.length = first.length) (hp : first.getD c 0 ≠ 0) (hf : dt first x = 0) : dt (wo row first c) x = 0 ↔ dt row x = 0 := by
  obtain ⟨d, u, v, d0, u0, h⟩ := wo_get (c := c) hl hp
  have e : (d : Rat) * dt (wo row first c) x = (u : Rat) * dt row x + (-(v : Rat)) * dt first x := by
    unfold dt
    rw [wo_len hl, ← hl, ← rs_lin]
    rw [← rs_mul]
    refine rs_ext fun j hj => ?_
    have hh := h j hj
    have hh2 : ((d * (wo row first c).getD j 0 : Int) : Rat) = ((u * row.getD j 0 - v * first.getD j 0 : Int) : Rat) := by rw [hh]
    rw [Rat.intCast_mul, Rat.intCast_sub, Rat.intCast_mul, Rat.intCast_mul] at hh2
    grind
  rw [hf] at e
  have dz : (d : Rat) ≠ 0 := fun z => d0 (by exact_mod_cast z)
  have uz : (u : Rat) ≠ 0 := fun z => u0 (by exact_mod_cast z)
  constructor
  · intro z
    rw [z] at e
    grind
  · intro z
    rw [z] at e
    grind
theorem wo_col (hl : row.length = first.length) (hc : c < row.length) : (wo row first c).getD c 0 = 0 := by
  unfold wo
  split
  · assumption
  · split
    · rw [woF_get hl hc, Int.mul_comm]; omega
    · rw [map_getD (by simp), woF_get hl hc, Int.mul_comm, Int.sub_self, Int.zero_ediv]
theorem wo_zero (hl : row.length = first.length) (hp : first.getD c 0 ≠ 0) (hj : j < row.length) (h1 : first.getD j 0 = 0) : (wo row first c).getD j 0 = 0 ↔ row.getD j 0 = 0 := by
  obtain ⟨d, u, v, d0, u0, h⟩ := wo_get (c := c) hl hp
  have := h j hj
  rw [h1, Int.mul_zero, Int.sub_zero] at this
  constructor
  · intro z
    rw [z, Int.mul_zero] at this
    exact (Int.mul_eq_zero.mp this.symm).resolve_left u0
  · intro z
    rw [z, Int.mul_zero] at this
    exact (Int.mul_eq_zero.mp this).resolve_left d0
/-- no number but 1 divides all items, or they are all 0 -/
def Nm (r : List Int) : Prop := (∀ a ∈ r, a = 0) ∨ ∀ d : Int, (∀ a ∈ r, d ∣ a) → d.natAbs = 1
theorem wo_nm (h : Nm row) : Nm (wo row first c) := by
  unfold wo
  split
  · exact h
  · split
    · rename_i h2
      exact .inl fun a ha => gL_zero h2 ha
    · rename_i h1 h2
      refine .inr fun d hd => ?_
      have : (gL (woF row first c) : Int) * d ∣ (gL (woF row first c) : Int) := gL_of fun a ha => by
        have h3 := hd _ (List.mem_map.mpr ⟨a, ha, rfl⟩)
        have h4 := gL_dvd ha
        obtain ⟨k, hk⟩ := h3
        refine ⟨k, ?_⟩
        rw [Int.mul_assoc, ← hk, Int.mul_ediv_cancel' h4]
      obtain ⟨k, hk⟩ := this
      have h5 : (gL (woF row first c) : Int) * (d * k) = (gL (woF row first c) : Int) * 1 := by rw [Int.mul_one, ← Int.mul_assoc]; exact hk.symm
      have h6 := Int.eq_of_mul_eq_mul_left (by omega) h5
      have h7 := congrArg Int.natAbs h6
      rw [Int.natAbs_mul] at h7
      exact Nat.eq_one_of_mul_eq_one_right h7
theorem wo_bd {B : Nat} (hl : row.length = first.length) (hr : ∀ a ∈ row, a.natAbs < 2 ^ B) (hf : ∀ a ∈ first, a.natAbs < 2 ^ B) : ∀ a ∈ wo row first c, a.natAbs < 2 ^ (2 * B + 1) := by
  have g1 : ∀ (xs : List Int) (i : Nat), (∀ a ∈ xs, a.natAbs < 2 ^ B) → (xs.getD i 0).natAbs < 2 ^ B := fun xs i h => by
    by_cases hi : i < xs.length
    · exact h _ (getD_mem hi)
    · rw [List.getD_eq_getElem?_getD, List.getElem?_eq_none (by omega)]
      exact Nat.pow_pos (by decide)
  have e : (2 : Nat) ^ (2 * B + 1) = 2 ^ B * 2 ^ B + 2 ^ B * 2 ^ B := by
    rw [Nat.pow_succ, Nat.two_mul, Nat.pow_add]; omega
  have key : ∀ a ∈ woF row first c, a.natAbs < 2 ^ (2 * B + 1) := fun a ha => by
    obtain ⟨i, hi, rfl⟩ := List.mem_iff_getElem.mp ha
    have hi' : i < row.length := by rw [woF_len hl] at hi; exact hi
    have := woF_get (c := c) hl hi'
    rw [List.getD_eq_getElem?_getD, List.getElem?_eq_getElem hi] at this
    rw [Option.getD_some] at this
    rw [this, e]
    have a1 : (first.getD c 0 * row.getD i 0).natAbs < 2 ^ B * 2 ^ B := by
      rw [Int.natAbs_mul]
      exact Nat.mul_lt_mul'' (g1 _ _ hf) (g1 _ _ hr)
    have a2 : (row.getD c 0 * first.getD i 0).natAbs < 2 ^ B * 2 ^ B := by
      rw [Int.natAbs_mul]
      exact Nat.mul_lt_mul'' (g1 _ _ hr) (g1 _ _ hf)
    omega
  have le : (2 : Nat) ^ B ≤ 2 ^ (2 * B + 1) := Nat.pow_le_pow_right (by decide) (by omega)
  unfold wo
  split
  · exact fun a ha => Nat.lt_of_lt_of_le (hr a ha) le
  · split
    · exact key
    · intro a ha
      obtain ⟨b, hb, rfl⟩ := List.mem_map.mp ha
      refine Nat.lt_of_le_of_lt ?_ (key b hb)
      exact Int.natAbs_ediv_le_natAbs _ _
end
def pvI (L : List (List Int)) (c : Nat) : Option Nat := L.findIdx? fun r => decide (r.getD c 0 ≠ 0)
def rdS (L D : List (List Int)) (c : Nat) : List (List Int) × List (List Int) := match pvI L c with
  | none => (L, D)
  | some i => ((L.eraseIdx i).map (fun r => wo r (L.getD i []) c), D.map (fun r => wo r (L.getD i []) c) ++ [L.getD i []])
def rdN (R : List (List Int)) : Nat → List (List Int) × List (List Int)
  | 0 => (R, [])
  | c + 1 => rdS (rdN R c).1 (rdN R c).2 c
/-- bits of items behind so many steps -/
def Bd (b : Nat) : Nat → Nat
  | 0 => b
  | c + 1 => 2 * Bd b c + 1
theorem Bd_mono (b c : Nat) : Bd b c ≤ Bd b (c + 1) := by show Bd b c ≤ 2 * Bd b c + 1; omega
structure GJ (m b : Nat) (R : List (List Int)) (c : Nat) (L D : List (List Int)) : Prop where
  lens : ∀ r, r ∈ L ∨ r ∈ D → r.length = m + 1
  cnt : L.length + D.length = R.length
  eqv : ∀ x, (∀ r ∈ R, dt r x = 0) ↔ ∀ r, r ∈ L ∨ r ∈ D → dt r x = 0
  low : ∀ r ∈ L, ∀ j, j < c → r.getD j 0 = 0
  nm : (∀ r ∈ R, Nm r) → ∀ r, r ∈ L ∨ r ∈ D → Nm r
  bd : ∀ r, r ∈ L ∨ r ∈ D → ∀ a ∈ r, a.natAbs < 2 ^ Bd b c
  less : D.length ≤ c
  full : D.length = c → ∀ i, i < c → (D.getD i []).getD i 0 ≠ 0 ∧ ∀ j, j < c → j ≠ i → (D.getD i []).getD j 0 = 0
  part : D.length < c → ∃ y : Nat → Rat, (∀ r ∈ R, dt r y = 0) ∧ y m = 0 ∧ ∃ j, j < m ∧ y j ≠ 0
section
variable {m b c : Nat} {R L D : List (List Int)}
theorem rowD_mem {i : Nat} (h : i < D.length) : D.getD i [] ∈ D := by
  rw [List.getD_eq_getElem?_getD, List.getElem?_eq_getElem h]
  exact List.getElem_mem h
theorem GJ.step (G : GJ m b R c L D) (hc : c < m) : GJ m b R (c + 1) (rdS L D c).1 (rdS L D c).2 := by
  have bdm := Bd_mono b c
  have ple : (2 : Nat) ^ Bd b c ≤ 2 ^ Bd b (c + 1) := Nat.pow_le_pow_right (by decide) bdm
  unfold rdS
  cases hp : pvI L c with
  | none =>
    have hz : ∀ r ∈ L, r.getD c 0 = 0 := fun r hr => by
      have := List.findIdx?_eq_none_iff.mp hp r hr
      simpa using this
    refine ⟨G.lens, G.cnt, G.eqv, fun r hr j hj => ?_, G.nm, fun r hr a ha => Nat.lt_of_lt_of_le (G.bd r hr a ha) ple, Nat.le_succ_of_le G.less, fun h => ?_, fun h => ?_⟩
    · by_cases e : j = c
      · subst e; exact hz r hr
      · exact G.low r hr j (by omega)
    · have := G.less
      simp only at h
      omega
    · simp only at h
      by_cases e : D.length = c
      · have F := G.full e
        let y : Nat → Rat := fun j => if j < c then -(((D.getD j []).getD c 0 : Int) : Rat) / (((D.getD j []).getD j 0 : Int) : Rat) else if j = c then 1 else 0
        have yc : y c = 1 := by
          show (if c < c then _ else if c = c then (1 : Rat) else 0) = 1
          rw [if_neg (by omega), if_pos rfl]
        have yh : ∀ j, c < j → y j = 0 := fun j hj => by
          show (if j < c then _ else if j = c then (1 : Rat) else 0) = 0
          rw [if_neg (by omega), if_neg (by omega)]
        refine ⟨y, (G.eqv y).mpr fun r hr => ?_, yh m hc, c, hc, by rw [yc]; grind⟩
        rcases hr with hr | hr
        · unfold dt
          refine rs_zero fun j hj => ?_
          by_cases h1 : j < c
          · rw [G.low r hr j h1]; grind
          · by_cases h2 : j = c
            · subst h2; rw [hz r hr]; grind
            · rw [yh j (by omega)]; grind
        · obtain ⟨i, hi, rfl⟩ := List.mem_iff_getElem.mp hr
          have ei : D.getD i [] = D[i] := by rw [List.getD_eq_getElem?_getD, List.getElem?_eq_getElem hi]; rfl
          have hl := G.lens D[i] (.inr hr)
          obtain ⟨f1, f2⟩ := F i (by omega)
          rw [ei] at f1 f2
          unfold dt
          rw [rs_two (i := i) (k := c) (by omega) (by omega) (by omega) fun j hj h1 h2 => ?_]
          · have yi : y i = -((D[i].getD c 0 : Int) : Rat) / ((D[i].getD i 0 : Int) : Rat) := by
              show (if i < c then _ else _) = _
              rw [if_pos (by omega), ei]
            rw [yi, yc]
            have nz : ((D[i].getD i 0 : Int) : Rat) ≠ 0 := fun z => f1 (by exact_mod_cast z)
            grind
          · by_cases h3 : j < c
            · rw [f2 j h3 h1]; grind
            · rw [yh j (by omega)]; grind
      · exact G.part (by have := G.less; omega)
  | some i =>
    obtain ⟨hi, hv, _⟩ := List.findIdx?_eq_some_iff_getElem.mp hp
    have ei : L.getD i [] = L[i] := by rw [List.getD_eq_getElem?_getD, List.getElem?_eq_getElem hi]; rfl
    simp only [ei]
    have hv : L[i].getD c 0 ≠ 0 := by simpa using hv
    have mi : L[i] ∈ L := List.getElem_mem hi
    generalize hf : L[i] = f at *
    have fl := G.lens f (.inl mi)
    have er : ∀ r, r ∈ L.eraseIdx i → r ∈ L := fun r hr => List.mem_of_mem_eraseIdx hr
    have ec : ∀ r, r ∈ L → r = f ∨ r ∈ L.eraseIdx i := fun r hr => by
      obtain ⟨k, hk, rfl⟩ := List.mem_iff_getElem.mp hr
      by_cases e : k = i
      · subst e; exact .inl hf
      · right
        rw [List.mem_eraseIdx_iff_getElem]
        exact ⟨k, hk, e, rfl⟩
    have ll : ∀ r, r ∈ L ∨ r ∈ D → r.length = f.length := fun r hr => by rw [G.lens r hr, fl]
    refine ⟨fun r hr => ?_, ?_, fun x => ?_, fun r hr j hj => ?_, fun hn r hr => ?_, fun r hr => ?_, ?_, fun h => ?_, fun h => ?_⟩
    · rcases hr with hr | hr
      · obtain ⟨q, hq, rfl⟩ := List.mem_map.mp hr
        rw [wo_len (ll q (.inl (er q hq)))]; exact G.lens q (.inl (er q hq))
      · rcases List.mem_append.mp hr with hr | hr
        · obtain ⟨q, hq, rfl⟩ := List.mem_map.mp hr
          rw [wo_len (ll q (.inr hq))]; exact G.lens q (.inr hq)
        · rw [List.mem_singleton] at hr; subst hr; exact fl
    · have := G.cnt
      rw [List.length_map, List.length_append, List.length_map, List.length_singleton, List.length_eraseIdx_of_lt hi]
      omega
    · refine (G.eqv x).trans ⟨fun h r hr => ?_, fun h => ?_⟩
      · have hf0 := h f (.inl mi)
        rcases hr with hr | hr
        · obtain ⟨q, hq, rfl⟩ := List.mem_map.mp hr
          exact (wo_hold (ll q (.inl (er q hq))) hv hf0).mpr (h q (.inl (er q hq)))
        · rcases List.mem_append.mp hr with hr | hr
          · obtain ⟨q, hq, rfl⟩ := List.mem_map.mp hr
            exact (wo_hold (ll q (.inr hq)) hv hf0).mpr (h q (.inr hq))
          · rw [List.mem_singleton] at hr; subst hr; exact hf0
      · have hf0 : dt f x = 0 := h f (.inr (List.mem_append.mpr (.inr (List.mem_singleton.mpr rfl))))
        intro r hr
        rcases hr with hr | hr
        · rcases ec r hr with rfl | hr2
          · exact hf0
          · exact (wo_hold (ll r (.inl hr)) hv hf0).mp (h _ (.inl (List.mem_map.mpr ⟨r, hr2, rfl⟩)))
        · exact (wo_hold (ll r (.inr hr)) hv hf0).mp (h _ (.inr (List.mem_append.mpr (.inl (List.mem_map.mpr ⟨r, hr, rfl⟩)))))
    · obtain ⟨q, hq, rfl⟩ := List.mem_map.mp hr
      have hql := G.lens q (.inl (er q hq))
      by_cases e : j = c
      · subst e; exact wo_col (ll q (.inl (er q hq))) (by omega)
      · exact (wo_zero (ll q (.inl (er q hq))) hv (by omega) (G.low f mi j (by omega))).mpr (G.low q (er q hq) j (by omega))
    · rcases hr with hr | hr
      · obtain ⟨q, hq, rfl⟩ := List.mem_map.mp hr
        exact wo_nm (G.nm hn q (.inl (er q hq)))
      · rcases List.mem_append.mp hr with hr | hr
        · obtain ⟨q, hq, rfl⟩ := List.mem_map.mp hr
          exact wo_nm (G.nm hn q (.inr hq))
        · rw [List.mem_singleton] at hr; subst hr; exact G.nm hn _ (.inl mi)
    · have bf := G.bd f (.inl mi)
      rcases hr with hr | hr
      · obtain ⟨q, hq, rfl⟩ := List.mem_map.mp hr
        exact wo_bd (ll q (.inl (er q hq))) (G.bd q (.inl (er q hq))) bf
      · rcases List.mem_append.mp hr with hr | hr
        · obtain ⟨q, hq, rfl⟩ := List.mem_map.mp hr
          exact wo_bd (ll q (.inr hq)) (G.bd q (.inr hq)) bf
        · rw [List.mem_singleton] at hr; subst hr
          exact fun a ha => Nat.lt_of_lt_of_le (bf a ha) ple
    · have := G.less
      rw [List.length_append, List.length_map, List.length_singleton]; omega
    · rw [List.length_append, List.length_map, List.length_singleton] at h
      have hD : D.length = c := by omega
      have F := G.full hD
      intro k hk
      by_cases e : k < c
      · have hkD : k < D.length := by omega
        have g1 : (D.map (fun r => wo r f c) ++ [f]).getD k [] = wo (D.getD k []) f c := by
          rw [List.getD_eq_getElem?_getD, List.getElem?_append_left (by rw [List.length_map]; exact hkD), List.getElem?_map, List.getD_eq_getElem?_getD, List.getElem?_eq_getElem hkD]
          rfl
        have mk := rowD_mem hkD
        have lk := G.lens _ (.inr mk)
        obtain ⟨f1, f2⟩ := F k e
        rw [g1]
        refine ⟨fun z => f1 ((wo_zero (ll _ (.inr mk)) hv (by omega) (G.low f mi k e)).mp z), fun j hj ne => ?_⟩
        by_cases e2 : j = c
        · subst e2; exact wo_col (ll _ (.inr mk)) (by omega)
        · exact (wo_zero (ll _ (.inr mk)) hv (by omega) (G.low f mi j (by omega))).mpr (f2 j (by omega) ne)
      · have e2 : k = c := by omega
        subst e2
        have g1 : (D.map (fun r => wo r f k) ++ [f]).getD k [] = f := by
          rw [List.getD_eq_getElem?_getD, List.getElem?_append_right (by rw [List.length_map]; omega), List.length_map, hD, Nat.sub_self]
          rfl
        rw [g1]
        exact ⟨hv, fun j hj ne => G.low f mi j (by omega)⟩
    · rw [List.length_append, List.length_map, List.length_singleton] at h
      exact G.part (by omega)
theorem GJ.start (hl : ∀ r ∈ R, r.length = m + 1) (hb : ∀ r ∈ R, ∀ a ∈ r, a.natAbs < 2 ^ b) : GJ m b R 0 R [] :=
  ⟨fun r hr => (hr.elim (hl r) (fun z => nomatch z)), rfl, fun x => ⟨fun h r hr => hr.elim (h r) (fun z => nomatch z), fun h r hr => h r (.inl hr)⟩, fun r _ j hj => absurd hj (Nat.not_lt_zero _),
    fun hn r hr => hr.elim (hn r) (fun z => nomatch z), fun r hr => hr.elim (hb r) (fun z => nomatch z), Nat.le_refl _, fun _ i hi => absurd hi (Nat.not_lt_zero _), fun h => absurd h (Nat.not_lt_zero _)⟩
theorem GJ.all (hl : ∀ r ∈ R, r.length = m + 1) (hb : ∀ r ∈ R, ∀ a ∈ r, a.natAbs < 2 ^ b) : ∀ c, c ≤ m → GJ m b R c (rdN R c).1 (rdN R c).2
  | 0, _ => GJ.start hl hb
  | c + 1, h => (GJ.all hl hb c (by omega)).step (by omega)
def PSl (m : Nat) (R : List (List Int)) : Prop := ∃ x : Nat → Rat, (∀ r ∈ R, dt r x = 0) ∧ x m = -1 ∧ ∀ j, j < m → 0 < x j
theorem GJ.sol (G : GJ m b R m L D) (hR : R.length = m) (e : D.length = m) {x : Nat → Rat} (hx : x m = -1) : (∀ r ∈ R, dt r x = 0) ↔ ∀ j, j < m → (((D.getD j []).getD j 0 : Int) : Rat) * x j = (((D.getD j []).getD m 0 : Int) : Rat) := by
  have hL : L = [] := List.eq_nil_of_length_eq_zero (by have := G.cnt; omega)
  have key : ∀ j, j < m → dt (D.getD j []) x = (((D.getD j []).getD j 0 : Int) : Rat) * x j - (((D.getD j []).getD m 0 : Int) : Rat) := fun j hj => by
    obtain ⟨f1, f2⟩ := G.full e j hj
    have hl := G.lens _ (.inr (rowD_mem (by omega : j < D.length)))
    unfold dt
    rw [rs_two (i := j) (k := m) (by omega) (by omega) (by omega) fun k hk n1 n2 => ?_, hx]
    · grind
    · rw [f2 k (by omega) n1]; grind
  refine (G.eqv x).trans ⟨fun h j hj => ?_, fun h r hr => ?_⟩
  · have := h _ (.inr (rowD_mem (by omega : j < D.length)))
    rw [key j hj] at this
    grind
  · rcases hr with hr | hr
    · rw [hL] at hr; cases hr
    · obtain ⟨i, hi, rfl⟩ := List.mem_iff_getElem.mp hr
      have ei : D.getD i [] = D[i] := by rw [List.getD_eq_getElem?_getD, List.getElem?_eq_getElem hi]; rfl
      rw [← ei, key i (by omega), h i (by omega)]
      grind
/-- all tops and bottoms are of one sign -/
theorem GJ.pos (G : GJ m b R m L D) (hR : R.length = m) (e : D.length = m) : PSl m R ↔ ∀ j, j < m → 0 < (D.getD j []).getD m 0 * (D.getD j []).getD j 0 := by
  have cast : ∀ p q : Int, 0 < p * q ↔ (0 : Rat) < (p : Rat) * (q : Rat) := fun p q => by
    rw [← Rat.intCast_mul]
    exact (Rat.intCast_pos).symm
  constructor
  · rintro ⟨x, h1, h2, h3⟩ j hj
    have := (G.sol hR e h2).mp h1 j hj
    have p := h3 j hj
    obtain ⟨f1, _⟩ := G.full e j hj
    rw [cast, ← this]
    have nz : (((D.getD j []).getD j 0 : Int) : Rat) ≠ 0 := fun z => f1 (by exact_mod_cast z)
    have sq : (0 : Rat) < (((D.getD j []).getD j 0 : Int) : Rat) * (((D.getD j []).getD j 0 : Int) : Rat) := by
      rcases (show (((D.getD j []).getD j 0 : Int) : Rat) < 0 ∨ 0 < (((D.getD j []).getD j 0 : Int) : Rat) by grind) with h | h
      · have := Rat.mul_pos (show (0 : Rat) < -(((D.getD j []).getD j 0 : Int) : Rat) by grind) (show (0 : Rat) < -(((D.getD j []).getD j 0 : Int) : Rat) by grind)
        grind
      · exact Rat.mul_pos h h
    have := Rat.mul_pos sq p
    grind
  · intro h
    refine ⟨fun j => if j < m then (((D.getD j []).getD m 0 : Int) : Rat) / (((D.getD j []).getD j 0 : Int) : Rat) else -1, ?_, if_neg (by omega), fun j hj => ?_⟩
    · refine (G.sol hR e (if_neg (by omega))).mpr fun j hj => ?_
      obtain ⟨f1, _⟩ := G.full e j hj
      have nz : (((D.getD j []).getD j 0 : Int) : Rat) ≠ 0 := fun z => f1 (by exact_mod_cast z)
      simp only [if_pos hj]
      grind
    · simp only [if_pos hj]
      obtain ⟨f1, _⟩ := G.full e j hj
      have nz : (((D.getD j []).getD j 0 : Int) : Rat) ≠ 0 := fun z => f1 (by exact_mod_cast z)
      have hh := (cast _ _).mp (h j hj)
      generalize (((D.getD j []).getD j 0 : Int) : Rat) = q at *
      generalize (((D.getD j []).getD m 0 : Int) : Rat) = p at *
      have e1 : p * q = (p / q) * (q * q) := by grind
      rcases (show q < 0 ∨ 0 < q by grind) with hq | hq
      · refine Classical.byContradiction fun n => ?_
        have n' : p / q ≤ 0 := Rat.not_lt.mp n
        have s : (0 : Rat) ≤ q * q := by
          have := Rat.mul_nonneg (show (0 : Rat) ≤ -q by grind) (show (0 : Rat) ≤ -q by grind)
          grind
        have := Rat.mul_nonneg (show (0 : Rat) ≤ -(p / q) by grind) s
        grind
      · refine Classical.byContradiction fun n => ?_
        have n' : p / q ≤ 0 := Rat.not_lt.mp n
        have s : (0 : Rat) ≤ q * q := Rat.mul_nonneg (by grind) (by grind)
        have := Rat.mul_nonneg (show (0 : Rat) ≤ -(p / q) by grind) s
        grind
end
end Pg
namespace Pg
open PySem PySem.Spec PyProof.Rows L2 T3
end Pg
namespace Pg
open PySem PySem.Spec PyProof.Rows L2 T3
def InR (n : Nat) (ns : List Int) : Prop := ns.length = n ∧ ∀ x ∈ ns, 0 ≤ x ∧ x < (n : Int)
/-- the step of a list of places -/
def stp (ns : List Int) (i : Nat) : Nat := (ns.getD i 0).toNat
theorem getD_of {xs : List Int} {k : Nat} {x : Int} (h : xs[k]? = some x) : xs.getD k 0 = x := by
  rw [List.getD_eq_getElem?_getD, h]; rfl
theorem get_of {xs : List Int} {k : Nat} (h : k < xs.length) : xs[k]? = some (xs.getD k 0) := by
  rw [List.getD_eq_getElem?_getD, List.getElem?_eq_getElem h]; rfl
theorem InR.get {n : Nat} {ns : List Int} (h : InR n ns) {k : Nat} (hk : k < n) : 0 ≤ ns.getD k 0 ∧ ns.getD k 0 < n :=
  h.2 _ (List.mem_of_getElem? (get_of (by rw [h.1]; exact hk)))
theorem InR.perm {n : Nat} {fs : List Int} (p : fs.Perm (rgI 0 n)) : InR n fs :=
  ⟨by rw [p.length_eq, rgI_len]; omega, fun x hx => rgI_mem.mp (p.mem_iff.mp hx)⟩
theorem InR.set {n : Nat} {ns : List Int} (h : InR n ns) (k : Nat) {v : Int} (h0 : 0 ≤ v) (h1 : v < n) : InR n (ns.set k v) :=
  ⟨by rw [List.length_set]; exact h.1, fun x hx => by
    rcases List.mem_or_eq_of_mem_set hx with hx | rfl
    · exact h.2 x hx
    · exact ⟨h0, h1⟩⟩
theorem InR.rg (n : Nat) : InR n (rgI 0 n) := .perm (List.Perm.refl _)
end Pg
namespace Pg
open PySem PySem.Spec PyProof.Rows L2 T3
def lowT (t b : Int) : Int := t / (Int.gcd t b : Int)
def lowB (t b : Int) : Int := b / (Int.gcd t b : Int)
theorem gcd_pos {t b : Int} (h : 0 < b) : 0 < (Int.gcd t b : Int) := by
  have : 0 < Int.gcd t b := Int.gcd_pos_of_ne_zero_right _ (by omega)
  omega
theorem gcd_le {t b : Int} (h : 0 < b) : (Int.gcd t b : Int) ≤ b := Int.le_of_dvd h (Int.gcd_dvd_right ..)
/-- tops and bottoms of where a point is led, not in lowest terms within the places -/
def strN (ms : List Int) (t b : Int) : Int := ms.getD (t / b).toNat 0 * b + (ms.getD (t / b + 1).toNat 0 - ms.getD (t / b).toNat 0) * (t - t / b * b)
def strP (ms : List Int) (t b : Int) : Int × Int := if t ≤ 0 then (ms.getD 0 0, 1) else if ((ms.length : Int) - 1) * b ≤ t then (ms.getD (ms.length - 1) 0, 1) else (lowT (strN ms t b) b, lowB (strN ms t b) b)
end Pg
namespace Pg
open PySem PySem.Spec PyProof.Rows L2 T3
theorem low_one (x : Int) : lowT x 1 = x ∧ lowB x 1 = 1 := by
  unfold lowT lowB
  simp
theorem strN_eq (ms : List Int) (t b : Int) : strN ms t b = ms.getD (t / b).toNat 0 * (b - t % b) + ms.getD (t / b + 1).toNat 0 * (t % b) := by
  unfold strN
  have : t - t / b * b = t % b := by have := Int.mul_ediv_add_emod t b; rw [Int.mul_comm] at this; omega
  rw [this]
  generalize ms.getD (t / b).toNat 0 = x
  generalize ms.getD (t / b + 1).toNat 0 = y
  simp only [Int.mul_sub, Int.sub_mul]
  omega
theorem lowB_in {t b : Int} (hb : 0 < b) : 0 < lowB t b ∧ lowB t b ≤ b := by
  have h1 := gcd_pos (t := t) hb
  have h2 := gcd_le (t := t) hb
  unfold lowB
  refine ⟨Int.ediv_pos_of_pos_of_dvd hb (by omega) (Int.gcd_dvd_right ..), ?_⟩
  exact Int.ediv_le_self _ (by omega)
theorem eq_self {d : D} (h : PyData.canLay0 d = true) (g : d.depth ≤ 64) : dEq d d = some (.val (.bool true)) := by
  refine eq_same ?_ (eqv_refl d (fun es z => ?_) h)
  · unfold SeqAt.shaped
    rw [h, decide_eq_true g]
    rfl
  · subst z; simp [PyData.canLay0] at h
end Pg
namespace Pg
open PySem PySem.Spec PyProof.Rows L2 T3
end Pg
namespace T3
open PySem PySem.Spec PyProof.Rows L2
end T3
namespace Pg
open PySem PySem.Spec PyProof.Rows L2 T3
/-- the first stretch that one covers, and the first one behind -/
def loS (ms : List Int) (k : Int) : Int := if ms.getD (k + 1).toNat 0 < ms.getD k.toNat 0 then ms.getD (k + 1).toNat 0 else ms.getD k.toNat 0
def hiS (ms : List Int) (k : Int) : Int := if ms.getD (k + 1).toNat 0 > ms.getD k.toNat 0 then ms.getD (k + 1).toNat 0 else ms.getD k.toNat 0
def cov (ms : List Int) (k j : Int) : Bool := decide (loS ms k ≤ j) && decide (j < hiS ms k)
section
variable {n : Nat} {ms : List Int}
/-- each one covers the next one -/
def chain (ms : List Int) (xs : List Int) : Bool := (xs.zip (xs.drop 1)).all fun p => cov ms p.1 p.2
/-- a loop as a list of ints -/
structure Loop (ms xs : List Int) : Prop where
  ne : xs ≠ []
  mem : ∀ x ∈ xs, 0 ≤ x ∧ x < (ms.length : Int) - 1
  ch : chain ms xs = true
  cl : cov ms (xs.getD (xs.length - 1) 0) (xs.getD 0 0) = true
theorem chain_iff {xs : List Int} : chain ms xs = true ↔ ∀ k, k + 1 < xs.length → cov ms (xs.getD k 0) (xs.getD (k + 1) 0) = true := by
  unfold chain
  rw [List.all_eq_true]
  constructor
  · intro h k hk
    refine h (xs.getD k 0, xs.getD (k + 1) 0) (List.mem_of_getElem? (i := k) ?_)
    rw [List.getElem?_zip_eq_some]
    refine ⟨get_of (by omega), ?_⟩
    rw [List.getElem?_drop, Nat.add_comm]
    exact get_of hk
  · rintro h ⟨a, b⟩ hp
    obtain ⟨k, hk⟩ := List.getElem?_of_mem hp
    rw [List.getElem?_zip_eq_some, List.getElem?_drop, Nat.add_comm] at hk
    have h1 := (List.getElem?_eq_some_iff.mp hk.2).1
    have := h k h1
    rwa [getD_of hk.1, getD_of hk.2] at this
end
end Pg
namespace T3
open PySem PySem.Spec PyProof.Rows L2
end T3
namespace Pg
open PySem PySem.Spec PyProof.Rows L2 T3
section
variable {n : Nat} {ms : List Int}
/-- each covers just one -/
def stf (ms xs : List Int) : Bool := xs.all fun s => decide (hiS ms s - loS ms s = 1)
/-- how many go down -/
def dn (ms : List Int) (s : Int) : Bool := decide (ms.getD (s + 1).toNat 0 < ms.getD s.toNat 0)
def dnc (ms xs : List Int) : Nat := (xs.filter (dn ms)).length
def sl (ms : List Int) (s : Int) : Int := ms.getD (s + 1).toNat 0 - ms.getD s.toNat 0
def rshS (ms : List Int) (p : Int × Int) (s : Int) : Int × Int := (sl ms s * p.1, sl ms s * (p.2 - s) + ms.getD s.toNat 0)
/-- behind the stretches x has become .1 * x + .2 -/
def rsh (ms xs : List Int) : Int × Int := xs.foldl (rshS ms) (1, 0)
def polP (ms xs : List Int) : Int × Int := if (rsh ms xs).1 = 1 then (2 * xs.getD 0 0 + 1, 2) else if 1 - (rsh ms xs).1 < 0 then (lowT (0 - (rsh ms xs).2) (0 - (1 - (rsh ms xs).1)), lowB (0 - (rsh ms xs).2) (0 - (1 - (rsh ms xs).1))) else (lowT (rsh ms xs).2 (1 - (rsh ms xs).1), lowB (rsh ms xs).2 (1 - (rsh ms xs).1))
end
end Pg
namespace Pg
open PySem PySem.Spec PyProof.Rows L2 T3
def lw (t b : Int) : Int × Int := (lowT t b, lowB t b)
theorem lw_scale {g t b : Int} (hg : 0 < g) : lw (g * t) (g * b) = lw t b := by
  unfold lw lowT lowB
  rw [Int.gcd_mul_left]
  have e : ((g.natAbs * Int.gcd t b : Nat) : Int) = g * (Int.gcd t b : Int) := by
    rw [Int.natCast_mul, show ((g.natAbs : Nat) : Int) = g by omega]
  rw [e, Int.mul_ediv_mul_of_pos _ _ hg, Int.mul_ediv_mul_of_pos _ _ hg]
theorem lw_spec {t b : Int} (hb : 0 < b) : ∃ g : Int, 0 < g ∧ t = g * lowT t b ∧ b = g * lowB t b := by
  refine ⟨(Int.gcd t b : Int), gcd_pos hb, ?_, ?_⟩
  · exact (Int.mul_ediv_cancel' (Int.gcd_dvd_left ..)).symm
  · exact (Int.mul_ediv_cancel' (Int.gcd_dvd_right ..)).symm
theorem lw_idem {t b : Int} (hb : 0 < b) : lw (lw t b).1 (lw t b).2 = lw t b := by
  obtain ⟨g, hg, h1, h2⟩ := lw_spec (t := t) hb
  have := lw_scale (t := lowT t b) (b := lowB t b) hg
  rw [← h1, ← h2] at this
  exact this.symm
theorem lw_cross {t b u c : Int} (hb : 0 < b) (hc : 0 < c) : lw t b = lw u c ↔ t * c = u * b := by
  constructor
  · intro h
    obtain ⟨g, _, h1, h2⟩ := lw_spec (t := t) hb
    obtain ⟨k, _, h3, h4⟩ := lw_spec (t := u) hc
    have e1 : lowT t b = lowT u c := congrArg Prod.fst h
    have e2 : lowB t b = lowB u c := congrArg Prod.snd h
    rw [e1] at h1
    rw [e2] at h2
    generalize lowT u c = T at *
    generalize lowB u c = B at *
    rw [h1, h2, h3, h4]
    ac_rfl
  · intro h
    have a := lw_scale (t := t) (b := b) hc
    have b' := lw_scale (t := u) (b := c) hb
    rw [← a, ← b', Int.mul_comm c t, h, Int.mul_comm u b, Int.mul_comm c b]
theorem lw_one (x : Int) : lw x 1 = (x, 1) := by
  unfold lw; rw [(low_one x).1, (low_one x).2]
theorem lw_int {x b : Int} (hb : 0 < b) : lw (x * b) b = (x, 1) := by
  rw [← lw_one, lw_cross hb (by decide)]; omega
theorem lw_pos {t b : Int} (hb : 0 < b) : 0 < (lw t b).2 ∧ (lw t b).2 ≤ b := lowB_in hb
def aff (ms : List Int) (s t b : Int) : Int := sl ms s * (t - s * b) + ms.getD s.toNat 0 * b
def okS (s t b : Int) : Prop := s * b ≤ t ∧ t ≤ (s + 1) * b
instance (s t b : Int) : Decidable (okS s t b) := by unfold okS; infer_instance
section
variable {n : Nat} {ms : List Int}
theorem strP_on (hm : InR n ms) {s t b : Int} (h0 : 0 ≤ s) (h1 : s < (n : Int) - 1) (hb : 0 < b) (h : okS s t b) : strP ms t b = lw (aff ms s t b) b := by
  have hl := hm.1
  obtain ⟨h3, h4⟩ := h
  rw [Int.add_mul, Int.one_mul] at h4
  have hsb : 0 ≤ s * b := Int.mul_nonneg h0 (by omega)
  have hsn : (s + 1) * b ≤ ((n : Int) - 1) * b := Int.mul_le_mul_of_nonneg_right (by omega) (by omega)
  rw [Int.add_mul, Int.one_mul] at hsn
  have eN : t = s * b + b → aff ms s t b = ms.getD (s + 1).toNat 0 * b := fun e => by
    unfold aff sl
    rw [e, show s * b + b - s * b = b by omega, ← Int.add_mul]
    congr 1; omega
  unfold strP
  rw [hl]
  by_cases c1 : t ≤ 0
  · rw [if_pos c1]
    have ht : t = 0 := by omega
    have hz : s * b = 0 := by omega
    have : s = 0 := by
      rcases Int.mul_eq_zero.mp hz with h | h <;> omega
    subst this ht
    unfold aff
    rw [show (0 : Int) - 0 * b = 0 by simp, Int.mul_zero, Int.zero_add, lw_int hb]
    rfl
  · rw [if_neg c1]
    by_cases c2 : ((n : Int) - 1) * b ≤ t
    · rw [if_pos c2]
      have ht : t = s * b + b := by omega
      have hs : s = (n : Int) - 2 := by
        have : (s + 1) * b = ((n : Int) - 1) * b := by rw [Int.add_mul, Int.one_mul]; omega
        have := Int.eq_of_mul_eq_mul_right (by omega) this
        omega
      rw [eN ht, lw_int hb, hs, show ((n : Int) - 2 + 1).toNat = n - 1 by omega]
    · rw [if_neg c2]
      show lw (strN ms t b) b = _
      congr 1
      rw [strN_eq]
      by_cases c3 : t = s * b + b
      · have u := (Int.ediv_emod_unique (a := t) (b := b) (r := 0) (q := s + 1) hb).mpr ⟨by rw [Int.mul_add, Int.mul_one, Int.mul_comm b s]; omega, by omega, hb⟩
        rw [u.1, u.2, eN c3]
        simp
      · have u := (Int.ediv_emod_unique (a := t) (b := b) (r := t - s * b) (q := s) hb).mpr ⟨by rw [Int.mul_comm b s]; omega, by omega, by omega⟩
        rw [u.1, u.2]
        unfold aff sl
        generalize ms.getD s.toNat 0 = x
        generalize ms.getD (s + 1).toNat 0 = y
        generalize t - s * b = r
        simp only [Int.mul_sub, Int.sub_mul]
        omega
def affL (ms : List Int) (xs : List Int) (t b : Int) : Int := xs.foldl (fun t s => aff ms s t b) t
theorem fold_rsh (t b : Int) : ∀ (xs : List Int) (p : Int × Int), xs.foldl (fun t s => aff ms s t b) (p.1 * t + p.2 * b) = (xs.foldl (rshS ms) p).1 * t + (xs.foldl (rshS ms) p).2 * b
  | [], p => rfl
  | s :: r, p => by
    rw [List.foldl_cons, List.foldl_cons, ← fold_rsh t b r (rshS ms p s)]
    congr 1
    unfold aff rshS
    dsimp only
    generalize sl ms s = q
    generalize ms.getD s.toNat 0 = x
    simp only [Int.mul_sub, Int.mul_add, Int.add_mul, Int.sub_mul, Int.mul_assoc]
    omega
theorem affL_eq (xs : List Int) (t b : Int) : affL ms xs t b = (rsh ms xs).1 * t + (rsh ms xs).2 * b := by
  have := fold_rsh (ms := ms) t b xs (1, 0)
  simp only [Int.one_mul, Int.zero_mul, Int.add_zero] at this
  exact this
theorem fold_comp : ∀ (xs : List Int) (p : Int × Int), xs.foldl (rshS ms) p = ((rsh ms xs).1 * p.1, (rsh ms xs).1 * p.2 + (rsh ms xs).2)
  | [], p => by simp [rsh]
  | s :: r, p => by
    have h1 := fold_comp r (rshS ms p s)
    have h2 := fold_comp r (rshS ms (1, 0) s)
    have h3 : rsh ms (s :: r) = r.foldl (rshS ms) (rshS ms (1, 0) s) := rfl
    rw [List.foldl_cons, h1, h3, h2]
    unfold rshS
    dsimp only
    generalize sl ms s = q
    generalize ms.getD s.toNat 0 = x
    generalize (rsh ms r).1 = R
    generalize (rsh ms r).2 = S
    refine Prod.ext ?_ ?_
    · dsimp only; rw [Int.mul_one, Int.mul_assoc]
    · dsimp only
      simp only [Int.mul_sub, Int.mul_add, Int.add_mul, Int.sub_mul, Int.mul_assoc, Int.mul_zero, Int.zero_sub, Int.mul_neg, Int.mul_one]
      omega
theorem rsh_app (xs ys : List Int) : rsh ms (xs ++ ys) = ((rsh ms ys).1 * (rsh ms xs).1, (rsh ms ys).1 * (rsh ms xs).2 + (rsh ms ys).2) := by
  show (xs ++ ys).foldl (rshS ms) (1, 0) = _
  rw [List.foldl_append]
  exact fold_comp ys (rsh ms xs)
theorem rsh_one (s : Int) : rsh ms [s] = (sl ms s, ms.getD s.toNat 0 - sl ms s * s) := by
  show rshS ms (1, 0) s = _
  unfold rshS
  dsimp only
  rw [Int.mul_one, Int.zero_sub, Int.mul_neg]
  refine Prod.ext rfl ?_
  dsimp only
  omega
theorem cov_iff {s z : Int} : cov ms s z = true ↔ loS ms s ≤ z ∧ z < hiS ms s := by
  unfold cov; rw [Bool.and_eq_true, decide_eq_true_eq, decide_eq_true_eq]
/-- each covers the next one, the last one z -/
def cvs (ms : List Int) : List Int → Int → Prop
  | [], _ => True
  | s :: r, z => cov ms s (r.headD z) = true ∧ cvs ms r z
theorem headD_app {xs ys : List Int} {z : Int} : (xs ++ ys).headD z = xs.headD (ys.headD z) := by cases xs <;> rfl
theorem cvs_app : ∀ {xs ys : List Int} {z : Int}, cvs ms (xs ++ ys) z ↔ cvs ms xs (ys.headD z) ∧ cvs ms ys z
  | [], ys, z => by simp [cvs]
  | s :: r, ys, z => by
    show cov ms s ((r ++ ys).headD z) = true ∧ cvs ms (r ++ ys) z ↔ (cov ms s (r.headD (ys.headD z)) = true ∧ cvs ms r (ys.headD z)) ∧ cvs ms ys z
    rw [headD_app, cvs_app, and_assoc]
theorem chain_cvs : ∀ {xs : List Int} {z : Int}, xs ≠ [] → chain ms xs = true → cov ms (xs.getD (xs.length - 1) 0) z = true → cvs ms xs z
  | [], z, h, _, _ => absurd rfl h
  | [s], z, _, _, h => ⟨h, trivial⟩
  | s :: s2 :: r, z, _, h, k => by
    have h' : cov ms s s2 = true ∧ chain ms (s2 :: r) = true := by
      unfold chain at h ⊢
      simpa using h
    exact ⟨h'.1, chain_cvs (by simp) h'.2 (by simpa using k)⟩
theorem Loop.cvs {xs : List Int} (h : Loop ms xs) : cvs ms xs (xs.headD 0) := by
  refine chain_cvs h.ne h.ch ?_
  have : xs.headD 0 = xs.getD 0 0 := by cases xs <;> rfl
  rw [this]
  exact h.cl
theorem affL_app (xs ys : List Int) (t b : Int) : affL ms (xs ++ ys) t b = affL ms ys (affL ms xs t b) b := by
  unfold affL; rw [List.foldl_append]
end
end Pg
namespace Pg
open PySem PySem.Spec PyProof.Rows L2 T3
section
variable {n : Nat} {ms : List Int}
theorem mul1 {a b : Nat} : a * b = 1 ↔ a = 1 ∧ b = 1 := by
  constructor
  · intro h
    have ha : a ≠ 0 := fun z => by rw [z, Nat.zero_mul] at h; omega
    have hb : b ≠ 0 := fun z => by rw [z, Nat.mul_zero] at h; omega
    have h1 : a * 1 ≤ a * b := Nat.mul_le_mul_left _ (by omega)
    have h2 : 1 * b ≤ a * b := Nat.mul_le_mul_right _ (by omega)
    omega
  · rintro ⟨rfl, rfl⟩; rfl
theorem sl_hl (s : Int) : hiS ms s - loS ms s = (sl ms s).natAbs := by
  unfold hiS loS sl
  split <;> split <;> omega
theorem dn_iff (s : Int) : dn ms s = true ↔ sl ms s < 0 := by
  unfold dn sl; rw [decide_eq_true_eq]; omega
theorem cov_sl {s z : Int} (h : cov ms s z = true) : sl ms s ≠ 0 := by
  have := cov_iff.mp h
  have := sl_hl (ms := ms) s
  omega
/-- sign and size of what a way makes of x -/
theorem rise_facts : ∀ {xs : List Int} {z : Int}, cvs ms xs z → (rsh ms xs).1 ≠ 0 ∧ ((rsh ms xs).1 < 0 ↔ dnc ms xs % 2 = 1) ∧ (stf ms xs = true ↔ (rsh ms xs).1.natAbs = 1)
  | [], z, _ => by
    refine ⟨by show (1 : Int) ≠ 0; decide, ?_, ?_⟩
    · show (1 : Int) < 0 ↔ 0 % 2 = 1
      decide
    · exact ⟨fun _ => rfl, fun _ => rfl⟩
  | s :: r, z, h => by
    obtain ⟨a, b, c⟩ := rise_facts h.2
    have h0 := cov_sl h.1
    have e := rsh_app (ms := ms) [s] r
    rw [show [s] ++ r = s :: r from rfl, rsh_one] at e
    have e1 : (rsh ms (s :: r)).1 = (rsh ms r).1 * sl ms s := by rw [e]
    rw [e1]
    refine ⟨Int.mul_ne_zero a h0, ?_, ?_⟩
    · have hd : dnc ms (s :: r) = (if sl ms s < 0 then 1 else 0) + dnc ms r := by
        unfold dnc
        rw [List.filter_cons]
        by_cases hs : sl ms s < 0
        · rw [if_pos ((dn_iff s).mpr hs), if_pos hs, List.length_cons]; omega
        · rw [if_neg fun z => hs ((dn_iff s).mp z), if_neg hs]; omega
      rw [hd]
      by_cases hs : sl ms s < 0
      · rw [if_pos hs]
        by_cases hr : (rsh ms r).1 < 0
        · have := Int.mul_pos_of_neg_of_neg hr hs
          have := b.mp hr
          constructor <;> intro _ <;> omega
        · have := Int.mul_neg_of_pos_of_neg (show 0 < (rsh ms r).1 by omega) hs
          have : ¬ dnc ms r % 2 = 1 := fun q => hr (b.mpr q)
          constructor <;> intro _ <;> omega
      · rw [if_neg hs]
        by_cases hr : (rsh ms r).1 < 0
        · have := Int.mul_neg_of_neg_of_pos hr (show 0 < sl ms s by omega)
          have := b.mp hr
          constructor <;> intro _ <;> omega
        · have := Int.mul_pos (show 0 < (rsh ms r).1 by omega) (show 0 < sl ms s by omega)
          have : ¬ dnc ms r % 2 = 1 := fun q => hr (b.mpr q)
          constructor <;> intro _ <;> omega
    · have e2 : stf ms (s :: r) = (decide (hiS ms s - loS ms s = 1) && stf ms r) := rfl
      rw [e2, Int.natAbs_mul, Bool.and_eq_true, decide_eq_true_eq, c, sl_hl, mul1]
      constructor
      · rintro ⟨p, q⟩; exact ⟨q, by omega⟩
      · rintro ⟨p, q⟩; exact ⟨by omega, p⟩
/-- round about by k all is the same -/
def Per (xs : List Int) (k : Nat) : Prop := ∀ i, i < xs.length → xs.getD ((i + k) % xs.length) 0 = xs.getD i 0
theorem Per.mod {xs : List Int} {a b : Nat} (ha : Per xs a) (hb : Per xs b) (h : b ≤ a) : Per xs (a - b) := fun i hi => by
  -- xs (i + a - b) = xs (i + a - b + b) = xs (i + a) = xs i
  have h1 := hb ((i + (a - b)) % xs.length) (Nat.mod_lt _ (by omega))
  rw [Nat.mod_add_mod, show i + (a - b) + b = i + a by omega, ha i hi] at h1
  exact h1.symm
theorem Per.modn {xs : List Int} {a b : Nat} (ha : Per xs a) (hb : Per xs b) : Per xs (a % b) := by
  induction a using Nat.strongRecOn with
  | ind a ih =>
    by_cases c : b = 0
    · subst c; rwa [Nat.mod_zero]
    by_cases h : a < b
    · rwa [Nat.mod_eq_of_lt h]
    · rw [Nat.mod_eq_sub_mod (by omega)]
      exact ih (a - b) (by omega) (ha.mod hb (by omega))
theorem Per.all {xs : List Int} : Per xs xs.length := fun i hi => by
  rw [Nat.add_mod_right, Nat.mod_eq_of_lt hi]
/-- the least one -/
theorem Per.least {xs : List Int} {k : Nat} (h : Per xs k) (h1 : 1 ≤ k) : ∃ p, 1 ≤ p ∧ p ≤ k ∧ Per xs p ∧ xs.length % p = 0 := by
  induction k using Nat.strongRecOn with
  | ind k ih =>
    by_cases c : xs.length % k = 0
    · exact ⟨k, h1, Nat.le_refl k, h, c⟩
    · have h2 := Per.all.modn h
      have h3 := Nat.mod_lt xs.length (show k > 0 by omega)
      obtain ⟨p, a, b, d, e⟩ := ih (xs.length % k) h3 h2 (by omega)
      exact ⟨p, a, by omega, d, e⟩
theorem flat_len (ys : List Int) (m : Nat) : (List.replicate m ys).flatten.length = m * ys.length := by
  induction m with
  | zero => simp
  | succ m ih => rw [List.replicate_succ, List.flatten_cons, List.length_append, ih, Nat.add_mul]; omega
end
end Pg
namespace Pg
open PySem PySem.Spec PyProof.Rows L2 T3
end Pg
namespace Pg
open PySem PySem.Spec PyProof.Rows L2 T3
theorem lw_self {t b : Int} (hb : 0 < b) (h : ∀ g : Int, 0 < g → g ∣ t → g ∣ b → g = 1) : lw t b = (t, b) := by
  obtain ⟨g, hg, h1, h2⟩ := lw_spec (t := t) hb
  have : g = 1 := h g hg ⟨_, h1⟩ ⟨_, h2⟩
  subst this
  rw [Int.one_mul] at h1 h2
  exact Prod.ext h1.symm h2.symm
section
variable {n : Nat} {ms : List Int}
theorem Loop.hd {xs : List Int} (h : Loop ms xs) : xs.headD 0 = xs.getD 0 0 := by cases xs <;> rfl
end
end Pg
namespace T3
open PySem PySem.Spec PyProof.Rows L2
end T3
namespace Pg
open PySem PySem.Spec PyProof.Rows L2 T3
section
variable {n : Nat} {ms : List Int}
structure GV (W : Nat) (vs : List D) : Prop where
  len : ∀ d ∈ vs, ∀ ds, d = .list ds → ds.length ≤ 1000
  p : plainDs vs = true
  dp : PyData.depthAll vs ≤ 4
  w : wtDs vs ≤ W
theorem GV.nil : GV 0 [] := ⟨fun _ h => (nomatch h), rfl, by simp [PyData.depthAll], by simp [wtDs]⟩
theorem GV.app {a b : Nat} {xs ys : List D} (h : GV a xs) (g : GV b ys) : GV (a + b) (xs ++ ys) where
  len := fun d hd => by
    rcases List.mem_append.mp hd with hd | hd
    · exact h.len d hd
    · exact g.len d hd
  p := by rw [plainDs_app, h.p, g.p]; rfl
  dp := by rw [dep_app]; have := h.dp; have := g.dp; omega
  w := by rw [wt_app]; have := h.w; have := g.w; omega
theorem GV.cons {a b : Nat} {d : D} {ds : List D} (h : GV a [d]) (g : GV b ds) : GV (a + b) (d :: ds) := h.app g
theorem GV.mono {a b : Nat} {xs : List D} (h : GV a xs) (k : a ≤ b) : GV b xs := ⟨h.len, h.p, h.dp, Nat.le_trans h.w k⟩
theorem cvs_chain : ∀ {xs : List Int} {z : Int}, xs ≠ [] → cvs ms xs z → chain ms xs = true ∧ cov ms (xs.getD (xs.length - 1) 0) z = true
  | [], z, h, _ => absurd rfl h
  | [s], z, _, h => ⟨rfl, h.1⟩
  | s :: s2 :: r, z, _, h => by
    obtain ⟨a, b⟩ := cvs_chain (xs := s2 :: r) (z := z) (by simp) h.2
    refine ⟨?_, by simpa using b⟩
    unfold chain at a ⊢
    have := h.1
    simp at a ⊢
    exact ⟨this, a⟩
theorem Loop.of_cvs {xs : List Int} (h0 : xs ≠ []) (h1 : ∀ x ∈ xs, 0 ≤ x ∧ x < (ms.length : Int) - 1) (h : Pg.cvs ms xs (xs.headD 0)) : Loop ms xs := by
  obtain ⟨a, b⟩ := cvs_chain h0 h
  have : xs.headD 0 = xs.getD 0 0 := by cases xs <;> rfl
  rw [this] at b
  exact ⟨h0, h1, a, b⟩
theorem rep_cvs {xs : List Int} {z : Int} (hz : xs.headD z = z) (h : cvs ms xs z) : ∀ m, cvs ms (List.replicate m xs).flatten z ∧ (List.replicate m xs).flatten.headD z = z
  | 0 => ⟨trivial, rfl⟩
  | m + 1 => by
    obtain ⟨a, b⟩ := rep_cvs hz h m
    rw [List.replicate_succ, List.flatten_cons]
    refine ⟨cvs_app.mpr ⟨by rw [b]; exact h, a⟩, by rw [headD_app, b, hz]⟩
theorem Loop.rep {xs : List Int} (h : Loop ms xs) {m : Nat} (hm : 1 ≤ m) : Loop ms (List.replicate m xs).flatten := by
  have hz : ∀ z, xs.headD z = xs.headD 0 := fun z => by
    cases xs with
    | nil => exact absurd rfl h.ne
    | cons s r => rfl
  obtain ⟨a, b⟩ := rep_cvs (hz _) h.cvs m
  have hne : (List.replicate m xs).flatten ≠ [] := fun e => by
    have := congrArg List.length e
    rw [flat_len] at this
    have hp : 0 < xs.length := List.length_pos_iff.mpr h.ne
    have := Nat.mul_le_mul (show 1 ≤ m from hm) (show 1 ≤ xs.length from hp)
    simp at this
    simp_all
  refine .of_cvs hne (fun x hx => ?_) ?_
  · obtain ⟨l, hl, hx⟩ := List.mem_flatten.mp hx
    rw [(List.mem_replicate.mp hl).2] at hx
    exact h.mem x hx
  · have e : (List.replicate m xs).flatten.headD 0 = xs.headD 0 := by
      obtain ⟨k, rfl⟩ : ∃ k, m = k + 1 := ⟨m - 1, by omega⟩
      rw [List.replicate_succ, List.flatten_cons, headD_app, hz]
    rw [e]
    exact a
end
end Pg
namespace Pg
open PySem PySem.Spec PyProof.Rows L2 T3
def mv1 (ms : List Int) (p : Int × Int) : Int × Int := strP ms p.1 p.2
def orb (ms : List Int) (p : Int × Int) : Nat → Int × Int
  | 0 => p
  | k + 1 => mv1 ms (orb ms p k)
section
variable {n : Nat} {ms : List Int}
theorem orb_add (p : Int × Int) (i : Nat) : ∀ k, orb ms p (i + k) = orb ms (orb ms p i) k
  | 0 => rfl
  | k + 1 => by
    show mv1 ms (orb ms p (i + k)) = mv1 ms (orb ms (orb ms p i) k)
    rw [orb_add p i k]
theorem red_mv1 {p : Int × Int} (hp : 0 < p.2) : lw (mv1 ms p).1 (mv1 ms p).2 = mv1 ms p ∧ 0 < (mv1 ms p).2 := by
  unfold mv1 strP
  split
  · exact ⟨lw_one _, by show (0 : Int) < 1; decide⟩
  · split
    · exact ⟨lw_one _, by show (0 : Int) < 1; decide⟩
    · exact ⟨lw_idem hp, (lw_pos hp).1⟩
theorem red_orb {p : Int × Int} (h : lw p.1 p.2 = p ∧ 0 < p.2) : ∀ i, lw (orb ms p i).1 (orb ms p i).2 = orb ms p i ∧ 0 < (orb ms p i).2
  | 0 => h
  | i + 1 => red_mv1 (red_orb h i).2
/-- what a loose loop's points are -/
structure LR (ms xs : List Int) : Prop where
  red : ∀ i, lw (orb ms (polP ms xs) i).1 (orb ms (polP ms xs) i).2 = orb ms (polP ms xs) i ∧ 0 < (orb ms (polP ms xs) i).2
  back : orb ms (polP ms xs) xs.length = polP ms xs
  np : ∀ i, (orb ms (polP ms xs) i).2 ≠ 1
  inn : ∀ i, i < xs.length → xs.getD i 0 * (orb ms (polP ms xs) i).2 < (orb ms (polP ms xs) i).1 ∧ (orb ms (polP ms xs) i).1 < (xs.getD i 0 + 1) * (orb ms (polP ms xs) i).2
  nd : ∀ i j, i < xs.length → j < xs.length → orb ms (polP ms xs) i = orb ms (polP ms xs) j → i = j
theorem orb_per {p : Int × Int} {L : Nat} (h : orb ms p L = p) (i : Nat) : orb ms p (L + i) = orb ms p i := by
  rw [orb_add, h]
theorem orb_mul {p : Int × Int} {L : Nat} (h : orb ms p L = p) (i : Nat) : ∀ q, orb ms p (L * q + i) = orb ms p i
  | 0 => by rw [Nat.mul_zero, Nat.zero_add]
  | q + 1 => by
    rw [Nat.mul_add, Nat.mul_one, Nat.add_right_comm, Nat.add_comm (L * q + i) L, orb_per h, orb_mul h i q]
theorem orb_mod {p : Int × Int} {L : Nat} (h : orb ms p L = p) (i : Nat) : orb ms p i = orb ms p (i % L) := by
  have := orb_mul h (i % L) (i / L)
  rwa [Nat.div_add_mod] at this
end
end Pg
namespace Pg
open PySem PySem.Spec PyProof.Rows L2 T3
end Pg
namespace Pg
open PySem PySem.Spec PyProof.Rows L2 T3
end Pg
namespace Pg
open PySem PySem.Spec PyProof.Rows L2 T3
end Pg
namespace Pg
open PySem PySem.Spec PyProof.Rows L2 T3
def itA (f : Nat → Nat) : Nat → Nat → Nat
  | 0, a => a
  | k + 1, a => f (itA f k a)
theorem itA_zero (f : Nat → Nat) : ∀ k, itA f k 0 = it f k
  | 0 => rfl
  | k + 1 => congrArg f (itA_zero f k)
theorem itA_add (f : Nat → Nat) (a : Nat) (i : Nat) : ∀ k, itA f (i + k) a = itA f k (itA f i a)
  | 0 => rfl
  | k + 1 => congrArg f (itA_add f a i k)
structure TurnP (n : Nat) (f : Nat → Nat) : Prop where
  pos : 0 < n
  lt : ∀ i, i < n → f i < n
  back : it f n = 0
  first : ∀ j, 1 ≤ j → j < n → it f j ≠ 0
section
variable {n : Nat} {f : Nat → Nat}
theorem TurnP.itlt (T : TurnP n f) (k : Nat) : it f k < n := it_lt T.pos T.lt k
theorem TurnP.per (T : TurnP n f) (k : Nat) : it f (n + k) = it f k := by
  have := it_add f k (a := n) (b := 0) (by rw [T.back]; rfl)
  rwa [Nat.zero_add] at this
theorem TurnP.perm (T : TurnP n f) (k : Nat) : it f k = it f (k % n) := by
  induction k using Nat.strongRecOn with
  | ind k ih =>
    by_cases h : k < n
    · rw [Nat.mod_eq_of_lt h]
    · rw [Nat.mod_eq_sub_mod (by omega), ← ih (k - n) (by have := T.pos; omega), ← T.per (k - n), show n + (k - n) = k by omega]
theorem TurnP.zero (T : TurnP n f) {k : Nat} : it f k = 0 ↔ k % n = 0 := by
  rw [T.perm]
  have := Nat.mod_lt k T.pos
  constructor
  · intro h
    by_cases h0 : k % n = 0
    · exact h0
    · exact absurd h (T.first _ (by omega) this)
  · intro h; rw [h]; rfl
theorem TurnP.inj (T : TurnP n f) {i j : Nat} (hi : i < n) (hj : j < n) (e : it f i = it f j) : i = j := by
  refine Classical.byContradiction fun hne => ?_
  have key : ∀ a b, a < b → b < n → it f a = it f b → False := fun a b hab hb e => by
    have h1 := it_add f (n - b) e
    rw [show b + (n - b) = n by omega, T.back] at h1
    have := T.zero.mp h1
    rw [Nat.mod_eq_of_lt (by omega)] at this
    omega
  rcases Nat.lt_or_gt_of_ne hne with h | h
  · exact key i j h hj e
  · exact key j i h hi e.symm
theorem TurnP.on (T : TurnP n f) {a : Nat} (ha : a < n) : ∃ k, k < n ∧ it f k = a := by
  have nd : ((List.range n).map (it f)).Nodup := by
    rw [List.Nodup, List.pairwise_map]
    refine (List.pairwise_iff_getElem).mpr fun i j hi hj hij e => ?_
    simp only [List.getElem_range] at e
    rw [List.length_range] at hi hj
    have := T.inj hi hj e
    omega
  have := nodup_all nd (fun x hx => by obtain ⟨k, _, rfl⟩ := List.mem_map.mp hx; exact T.itlt k) (by simp) ha
  obtain ⟨k, hk, e⟩ := List.mem_map.mp this
  exact ⟨k, List.mem_range.mp hk, e⟩
theorem it_itA (f : Nat → Nat) (m k : Nat) : itA f k (it f m) = it f (m + k) := by
  rw [← itA_zero, ← itA_zero, itA_add]
/-- from anywhere -/
theorem TurnP.any (T : TurnP n f) {a : Nat} (ha : a < n) {k : Nat} : itA f k a = a ↔ k % n = 0 := by
  obtain ⟨m, hm, rfl⟩ := T.on ha
  rw [it_itA]
  constructor
  · intro e
    have h1 := it_add f (n - m) e
    rw [show m + (n - m) = n by omega, T.back, show m + k + (n - m) = n + k by omega, T.per] at h1
    exact T.zero.mp h1
  · intro h
    rw [T.perm (m + k), Nat.add_mod, h, Nat.add_zero, Nat.mod_mod, ← T.perm]
end
def keeps (ns : List Int) (s : Nat) : Prop := ∀ i, i < ns.length → ns.getD i 0 / (s : Int) = ns.getD (i / s * s) 0 / (s : Int)
instance (ns : List Int) (s : Nat) : Decidable (keeps ns s) := by unfold keeps; infer_instance
section
variable {m s last : Nat} {P I g : Nat → Nat}
def cnt (P : Nat → Nat) (last : Nat) : Nat → Nat
  | 0 => 0
  | k + 1 => cnt P last k + if it P k = last then 1 else 0
end
end Pg
namespace Pg
open PySem PySem.Spec PyProof.Rows L2 T3
section
variable {n : Nat} {ns : List Int}
/-- the sizes of blocks -/
def blk (ns : List Int) : List Int := (rgI 2 ns.length).filter fun s => decide ((ns.length : Int) % s = 0) && decide (keeps ns s.toNat)
end
end Pg
namespace Pg
open PySem PySem.Spec PyProof.Rows L2 T3
theorem dep_ints : ∀ xs : List Int, PyData.depthAll (xs.map PyData.int) = 0
  | [] => by simp [PyData.depthAll]
  | x :: xs => by simp [PyData.depthAll, PyData.depth, dep_ints xs]
end Pg
namespace Pg
open PySem PySem.Spec PyProof.Rows L2 T3
end Pg
namespace Pg
open PySem PySem.Spec PyProof.Rows L2 T3
def GoesBy (n : Nat) (w : Nat → Nat) (ns : List Int) : Prop := ns.length = n ∧ ∀ k, k < n → ns[w k]? = some ((w ((k + 1) % n) : Nat) : Int)
theorem GoesBy.uniq {n : Nat} {w : Nat → Nat} {ns ms : List Int} (E : Each n w) (h : GoesBy n w ns) (k : GoesBy n w ms) : ns = ms := by
  refine List.ext_getElem? fun i => ?_
  by_cases c : i < n
  · obtain ⟨j, hj, rfl⟩ := E.on i c
    rw [h.2 j hj, k.2 j hj]
  · rw [List.getElem?_eq_none (by rw [h.1]; omega), List.getElem?_eq_none (by rw [k.1]; omega)]
theorem GoesBy.stp {n : Nat} {w : Nat → Nat} {ns : List Int} (h : GoesBy n w ns) {k : Nat} (hk : k < n) : stp ns (w k) = w ((k + 1) % n) := by
  unfold Pg.stp
  rw [getD_of (h.2 k hk)]
  omega
/-- a list filled item by item -/
def Fill (n : Nat) (w : Nat → Nat) (k : Nat) (gs : List Int) : Prop := gs.length = n ∧ ∀ j, j < k → j < n → gs[w j]? = some ((w ((j + 1) % n) : Nat) : Int)
theorem Fill.zero (n : Nat) (w : Nat → Nat) : Fill n w 0 (List.replicate n 0) := ⟨by simp, fun j h => by omega⟩
theorem Fill.step {n : Nat} {w : Nat → Nat} {k : Nat} {gs : List Int} (E : Each n w) (hk : k < n) (h : Fill n w k gs) : Fill n w (k + 1) (gs.set (w k) ((w ((k + 1) % n) : Nat) : Int)) := by
  have l1 := E.lt k hk
  refine ⟨by rw [List.length_set]; exact h.1, fun j hj hjn => ?_⟩
  by_cases hji : j = k
  · subst hji
    rw [List.getElem?_set_self (by rw [h.1]; exact l1)]
  · rw [List.getElem?_set_ne (fun z => hji (E.inj k j hk hjn z).symm)]
    exact h.2 j (by omega) hjn
def plt (p q : Int × Int) : Bool := decide (p.1 * q.2 < q.1 * p.2)
theorem plt_iff {p q : Int × Int} : plt p q = true ↔ p.1 * q.2 < q.1 * p.2 := by unfold plt; exact decide_eq_true_iff
def RdP (p : Int × Int) : Prop := lw p.1 p.2 = p ∧ 0 < p.2
theorem plt_trans {p q r : Int × Int} (hp : 0 < p.2) (hq : 0 < q.2) (hr : 0 < r.2) (a : plt p q = true) (b : plt q r = true) : plt p r = true := by
  rw [plt_iff] at *
  have x1 : p.1 * q.2 * r.2 < q.1 * p.2 * r.2 := Int.mul_lt_mul_of_pos_right a hr
  have x2 : q.1 * r.2 * p.2 < r.1 * q.2 * p.2 := Int.mul_lt_mul_of_pos_right b hp
  have e1 : q.1 * p.2 * r.2 = q.1 * r.2 * p.2 := Int.mul_right_comm ..
  have e2 : p.1 * q.2 * r.2 = p.1 * r.2 * q.2 := Int.mul_right_comm ..
  have e3 : r.1 * q.2 * p.2 = r.1 * p.2 * q.2 := Int.mul_right_comm ..
  exact Int.lt_of_mul_lt_mul_right (by omega) (Int.le_of_lt hq)
theorem plt_irr (p : Int × Int) : plt p p = false := by
  unfold plt; exact decide_eq_false (Int.lt_irrefl _)
theorem plt_tot {p q : Int × Int} (hp : RdP p) (hq : RdP q) (ne : p ≠ q) : plt p q = true ∨ plt q p = true := by
  rw [plt_iff, plt_iff]
  rcases Int.lt_trichotomy (p.1 * q.2) (q.1 * p.2) with h | h | h
  · exact .inl h
  · exfalso
    have := (lw_cross hp.2 hq.2).mpr h
    rw [hp.1, hq.1] at this
    exact ne this
  · exact .inr h
/-- how many lie on the left -/
def rk (ps : List (Int × Int)) (p : Int × Int) : Nat := (ps.filter fun q => plt q p).length
structure Rng (n : Nat) (ps : List (Int × Int)) : Prop where
  len : ps.length = n
  red : ∀ p ∈ ps, RdP p
  nd : ps.Nodup
theorem flt_sub {α : Type} [DecidableEq α] {xs : List α} {P Q : α → Bool} (h : ∀ x ∈ xs, P x = true → Q x = true) : (xs.filter P).length ≤ (xs.filter Q).length := by
  induction xs with
  | nil => exact Nat.le_refl _
  | cons x xs ih =>
    have ih := ih fun y hy => h y (List.mem_cons_of_mem _ hy)
    rw [List.filter_cons, List.filter_cons]
    by_cases c : P x = true
    · rw [if_pos c, if_pos (h x List.mem_cons_self c), List.length_cons, List.length_cons]; omega
    · rw [if_neg c]
      split
      · rw [List.length_cons]; omega
      · exact ih
theorem flt_lt {α : Type} [DecidableEq α] {xs : List α} {P Q : α → Bool} (h : ∀ x ∈ xs, P x = true → Q x = true) {y : α} (hy : y ∈ xs) (p : P y = false) (q : Q y = true) : (xs.filter P).length < (xs.filter Q).length := by
  induction xs with
  | nil => cases hy
  | cons x xs ih =>
    have sub := flt_sub (xs := xs) (P := P) (Q := Q) fun z hz => h z (List.mem_cons_of_mem _ hz)
    rw [List.filter_cons, List.filter_cons]
    rcases List.mem_cons.mp hy with rfl | hy
    · rw [if_neg (by rw [p]; decide), if_pos q, List.length_cons]; omega
    · have ih := ih (fun z hz => h z (List.mem_cons_of_mem _ hz)) hy
      by_cases c : P x = true
      · rw [if_pos c, if_pos (h x List.mem_cons_self c), List.length_cons, List.length_cons]; omega
      · rw [if_neg c]
        split
        · rw [List.length_cons]; omega
        · exact ih
section
variable {n : Nat} {ps : List (Int × Int)}
theorem Rng.rk_lt (R : Rng n ps) {p q : Int × Int} (hp : p ∈ ps) (hq : q ∈ ps) (h : plt p q = true) : rk ps p < rk ps q :=
  flt_lt (fun x hx a => plt_trans (R.red x hx).2 (R.red p hp).2 (R.red q hq).2 a h) hp (plt_irr p) h
theorem Rng.rk_in (R : Rng n ps) {p : Int × Int} (hp : p ∈ ps) : rk ps p < n := by
  have := flt_lt (xs := ps) (P := fun q => plt q p) (Q := fun _ => true) (fun _ _ _ => rfl) hp (plt_irr p) rfl
  rw [List.filter_eq_self.mpr fun _ _ => rfl, R.len] at this
  exact this
theorem Rng.at (R : Rng n ps) {i : Nat} (hi : i < n) : ps[i]? = some (ps.getD i (0, 1)) ∧ ps.getD i (0, 1) ∈ ps := by
  have : i < ps.length := by rw [R.len]; exact hi
  have e : ps[i]? = some (ps.getD i (0, 1)) := by
    rw [List.getD_eq_getElem?_getD, List.getElem?_eq_getElem this]; rfl
  exact ⟨e, List.mem_of_getElem? e⟩
def rw' (ps : List (Int × Int)) (i : Nat) : Nat := rk ps (ps.getD i (0, 1))
theorem Rng.each (R : Rng n ps) : Each n (rw' ps) := by
  have inj : ∀ j k, j < n → k < n → rw' ps j = rw' ps k → j = k := fun j k hj hk e => by
    obtain ⟨a1, a2⟩ := R.at hj
    obtain ⟨b1, b2⟩ := R.at hk
    have : ps.getD j (0, 1) = ps.getD k (0, 1) := by
      refine Classical.byContradiction fun c => ?_
      unfold rw' at e
      rcases plt_tot (R.red _ a2) (R.red _ b2) c with h | h
      · have := R.rk_lt a2 b2 h; omega
      · have := R.rk_lt b2 a2 h; omega
    rw [this, ← b1] at a1
    have hjl : j < ps.length := by rw [R.len]; exact hj
    have hkl : k < ps.length := by rw [R.len]; exact hk
    have nd := R.nd
    rw [List.Nodup] at nd
    have np := List.pairwise_iff_getElem.mp nd
    rw [List.getElem?_eq_getElem hjl, List.getElem?_eq_getElem hkl] at a1
    have e2 := Option.some.inj a1
    rcases Nat.lt_trichotomy j k with h | h | h
    · exact absurd e2 (np j k hjl hkl h)
    · exact h
    · exact absurd e2.symm (np k j hkl hjl h)
  have lt : ∀ k, k < n → rw' ps k < n := fun k hk => R.rk_in (R.at hk).2
  refine ⟨lt, inj, fun m hm => ?_⟩
  refine Classical.byContradiction fun c => ?_
  have nd : ((List.range n).map (rw' ps)).Nodup := by
    rw [List.Nodup]
    refine List.pairwise_map.mpr (List.Pairwise.imp_of_mem (fun {a b} ha hb h e => ?_) (List.pairwise_lt_range (n := n)))
    have := inj a b (List.mem_range.mp ha) (List.mem_range.mp hb) e
    omega
  have nd2 : (m :: (List.range n).map (rw' ps)).Nodup := List.nodup_cons.mpr ⟨fun z => by
    obtain ⟨k, hk, e⟩ := List.mem_map.mp z
    exact c ⟨k, List.mem_range.mp hk, e⟩, nd⟩
  have := nd2.length_le_of_subset (l₂ := List.range n) fun x hx => by
    rw [List.mem_range]
    rcases List.mem_cons.mp hx with rfl | hx
    · exact hm
    · obtain ⟨k, hk, rfl⟩ := List.mem_map.mp hx
      exact lt k (List.mem_range.mp hk)
  rw [List.length_cons, List.length_map, List.length_range] at this
  omega
end
end Pg
namespace Pg
open PySem PySem.Spec PyProof.Rows L2 T3
section
variable {n : Nat} {ps : List (Int × Int)}
theorem Rng.perm (R : Rng n ps) {qs : List (Int × Int)} (p : qs.Perm ps) : Rng n qs := ⟨by rw [p.length_eq]; exact R.len, fun x hx => R.red x (p.mem_iff.mp hx), p.nodup_iff.mpr R.nd⟩
end
end Pg
namespace Pg
open PySem PySem.Spec PyProof.Rows L2 T3
theorem itA_succ (f : Nat → Nat) (j c : Nat) : itA f (j + 1) c = itA f j (f c) := by
  have := itA_add f c 1 j
  rw [Nat.add_comm] at this
  exact this
/-- from b the steps that are known lead to k, j of them -/
def Ch (f : Nat → Nat) (k j b : Nat) : Prop := itA f j b = k ∧ ∀ i, i < j → itA f i b < k
def Acyc (f : Nat → Nat) (k : Nat) : Prop := ∀ a, a < k → ∀ j, 1 ≤ j → (∀ i, i < j → itA f i a < k) → itA f j a ≠ a
def Inj (f : Nat → Nat) (k : Nat) : Prop := ∀ a b, a < k → b < k → f a = f b → a = b
section
variable {n k : Nat} {f : Nat → Nat}
theorem Ch.step {j b c : Nat} (h : Ch f k j b) (hc : c < k) (e : f c = b) : Ch f k (j + 1) c := by
  refine ⟨by rw [itA_succ, e]; exact h.1, fun i hi => ?_⟩
  cases i with
  | zero => exact hc
  | succ i => rw [itA_succ, e]; exact h.2 i (by omega)
theorem Ch.ne {j b i i' : Nat} (h : Ch f k j b) (hi : i < i') (hj : i' ≤ j) : itA f i b ≠ itA f i' b := fun e => by
  have h1 := itA_add f b i' (j - i')
  rw [show i' + (j - i') = j by omega, h.1, ← e, ← itA_add] at h1
  have := h.2 (i + (j - i')) (by omega)
  omega
theorem Ch.le {j b : Nat} (h : Ch f k j b) : j ≤ k := by
  have nd : ((List.range j).map fun i => itA f i b).Nodup := by
    rw [List.Nodup, List.pairwise_map]
    refine (List.pairwise_iff_getElem).mpr fun i i' hi hi' hij e => ?_
    simp only [List.getElem_range] at e
    rw [List.length_range] at hi hi'
    exact h.ne hij (by omega) e
  have sub : ((List.range j).map fun i => itA f i b) ⊆ List.range k := fun x hx => by
    obtain ⟨i, hi, rfl⟩ := List.mem_map.mp hx
    exact List.mem_range.mpr (h.2 i (List.mem_range.mp hi))
  have := nd.length_le_of_subset sub
  simpa using this
theorem itA_lt (L : ∀ a, a < n → f a < n) {a : Nat} (ha : a < n) : ∀ i, itA f i a < n
  | 0 => ha
  | i + 1 => L _ (itA_lt L ha i)
theorem TurnP.injF (T : TurnP n f) : Inj f n := fun a b ha hb e => by
  obtain ⟨i, hi, rfl⟩ := T.on ha
  obtain ⟨j, hj, rfl⟩ := T.on hb
  have e' : it f (i + 1) = it f (j + 1) := e
  rw [T.perm (i + 1), T.perm (j + 1)] at e'
  have := T.inj (Nat.mod_lt _ T.pos) (Nat.mod_lt _ T.pos) e'
  have h : i = j := by
    rcases Nat.lt_or_ge (i + 1) n with h1 | h1
    · rcases Nat.lt_or_ge (j + 1) n with h2 | h2
      · rw [Nat.mod_eq_of_lt h1, Nat.mod_eq_of_lt h2] at this; omega
      · have h3 : j + 1 = n := by omega
        rw [Nat.mod_eq_of_lt h1, h3, Nat.mod_self] at this
        omega
    · have h3 : i + 1 = n := by omega
      rcases Nat.lt_or_ge (j + 1) n with h2 | h2
      · rw [h3, Nat.mod_self, Nat.mod_eq_of_lt h2] at this; omega
      · omega
  rw [h]
end
end Pg
namespace Pg
open PySem PySem.Spec PyProof.Rows L2 T3
end Pg
namespace Pg
open PySem PySem.Spec PyProof.Rows L2 T3
/-- a beginning of a turn of n points -/
def Beg (n : Nat) (p : List Int) : Prop := p.length ≤ n ∧ (∀ x ∈ p, 0 ≤ x ∧ x < (n : Int)) ∧ Inj (stp p) p.length ∧ Acyc (stp p) p.length
theorem Beg.at {n : Nat} {p : List Int} (h : Beg n p) {i : Nat} (hi : i < p.length) : p[i]? = some ((stp p i : Nat) : Int) ∧ stp p i < n := by
  have e := get_of hi
  have m := h.2.1 _ (List.mem_of_getElem? e)
  unfold stp
  refine ⟨?_, by omega⟩
  rw [e]
  congr 1
  omega
theorem Beg.mem {n : Nat} {p : List Int} (h : Beg n p) {b : Nat} : ((b : Nat) : Int) ∈ p ↔ ∃ c, c < p.length ∧ stp p c = b := by
  constructor
  · intro m
    obtain ⟨i, hi⟩ := List.mem_iff_getElem?.mp m
    have hl : i < p.length := (List.getElem?_eq_some_iff.mp hi).1
    have := (h.at hl).1
    rw [hi] at this
    exact ⟨i, hl, by have := Option.some.inj this; omega⟩
  · rintro ⟨c, hc, rfl⟩
    exact List.mem_of_getElem? (h.at hc).1
def nxt (n : Nat) (p : List Int) (b : Nat) : List Int := (rgI 0 n).filter fun x => !decide (x ∈ p) && (!decide (x = (b : Int)) || decide ((p.length : Int) = (n : Int) - 1))
theorem Beg.nil {n : Nat} : Beg n [] := ⟨Nat.zero_le _, fun x hx => absurd hx (by simp), fun a b ha => absurd ha (Nat.not_lt_zero _), fun a ha => absurd ha (Nat.not_lt_zero _)⟩
theorem InR.gets {n : Nat} {t : List Int} (hm : InR n t) {i : Nat} (hi : i < n) : t[i]? = some ((stp t i : Nat) : Int) := by
  have hl := hm.1
  have g := hm.get hi
  rw [get_of (by omega)]
  congr 1
  unfold stp
  omega
end Pg
namespace Pg
open PySem PySem.Spec PyProof.Rows L2 T3
def NV (c : Cell) : Prop := c = .no ∨ ∃ d, c = .v d
theorem NV.par {c : Cell} (h : NV c) : isPar c = false := by rcases h with rfl | ⟨d, rfl⟩ <;> rfl
end Pg
namespace Pg
open PySem PySem.Spec PyProof.Rows L2 T3
/-- points that are drawn so far -/
structure PI (k : Nat) (ps : List (Int × Int)) : Prop where
  len : ps.length = k
  red : ∀ p ∈ ps, RdP p
  nd : ps.Nodup
  bd : ∀ p ∈ ps, p.1.natAbs ≤ 10 ^ 41 + k ∧ p.2 < 10 ^ 40
end Pg
namespace Pg
open PySem PySem.Spec PyProof.Rows L2 T3
end Pg
namespace Pg
open PySem PySem.Spec PyProof.Rows L2 T3
def rgL (ms xs : List Int) (k : Nat) : List (Int × Int) := (List.range k).map (orb ms (polP ms xs))
section
variable {n : Nat} {ms : List Int}
theorem rgL_len (xs : List Int) (k : Nat) : (rgL ms xs k).length = k := by simp [rgL]
theorem LR.rng {xs : List Int} (L : LR ms xs) : Rng xs.length (rgL ms xs xs.length) := by
  refine ⟨rgL_len _ _, fun p hp => ?_, ?_⟩
  · obtain ⟨i, _, rfl⟩ := List.mem_map.mp hp
    exact L.red i
  · rw [List.Nodup]
    refine List.pairwise_map.mpr (List.Pairwise.imp_of_mem (fun {a b} ha hb h e => ?_) (List.pairwise_lt_range (n := xs.length)))
    have := L.nd a b (List.mem_range.mp ha) (List.mem_range.mp hb) e
    omega
end
end Pg
namespace Pg
open PySem PySem.Spec PyProof.Rows L2 T3
/-- a path: neighbours cover one another -/
def Pth (n : Nat) (ms : List Int) (xs : List Int) : Prop := xs ≠ [] ∧ (∀ x ∈ xs, 0 ≤ x ∧ x < (n : Int) - 1) ∧ chain ms xs = true
section
variable {n : Nat} {ms : List Int}
theorem Pth.hd {s : Int} {xs : List Int} (h : Pth n ms (s :: xs)) : 0 ≤ s ∧ s < (n : Int) - 1 := h.2.1 s List.mem_cons_self
end
end Pg
namespace Pg
open PySem PySem.Spec PyProof.Rows L2 T3
end Pg
namespace Pg
open PySem PySem.Spec PyProof.Rows L2 T3
end Pg
namespace Pg
open PySem PySem.Spec PyProof.Rows L2 T3
structure Lay (n m : Nat) (ms : List Int) (f : Nat → Nat) (row : List Int) : Prop where
  len : row.length = m
  mem : ∀ x ∈ row, 0 ≤ x ∧ x < (n : Int) - 1
  asc : ∀ a, a + 1 < m → row.getD a 0 ≤ row.getD (a + 1) 0
  cv : ∀ a, a < m → cov ms (row.getD a 0) (row.getD (f a) 0) = true
  eqs : ∀ a, a + 1 < m → row.getD a 0 = row.getD (a + 1) 0 → (f a < f (a + 1) ↔ 0 < sl ms (row.getD a 0))
section
variable {n m : Nat} {ms row : List Int} {f : Nat → Nat}
theorem Lay.le (Y : Lay n m ms f row) {a b : Nat} (h : a ≤ b) (hb : b < m) : row.getD a 0 ≤ row.getD b 0 := by
  obtain ⟨k, rfl⟩ : ∃ k, b = a + k := ⟨b - a, by omega⟩
  clear h
  induction k with
  | zero => exact Int.le_refl _
  | succ k ih => exact Int.le_trans (ih (by omega)) (Y.asc (a + k) hb)
theorem Lay.same (Y : Lay n m ms f row) {a b z : Nat} (h : a ≤ z) (k : z ≤ b) (hb : b < m) (e : row.getD a 0 = row.getD b 0) : row.getD z 0 = row.getD a 0 := by
  have x := Y.le h (by omega)
  have y := Y.le k hb
  omega
/-- within one stretch the turn rises or falls as the stretch does -/
theorem Lay.mono (Y : Lay n m ms f row) (T : TurnP m f) {a : Nat} : ∀ k, 1 ≤ k → a + k < m → row.getD a 0 = row.getD (a + k) 0 → (0 < sl ms (row.getD a 0) → f a < f (a + k)) ∧ (sl ms (row.getD a 0) < 0 → f (a + k) < f a)
  | 0, h, _, _ => absurd h (by omega)
  | k + 1, _, hb, e => by
    have e1 := Y.same (a := a) (b := a + (k + 1)) (z := a + k) (by omega) (by omega) hb e
    have q := Y.eqs (a + k) hb (by rw [e1]; exact e)
    rw [e1] at q
    have ne : f (a + k) ≠ f (a + k + 1) := fun z => by
      have := T.injF (a + k) (a + k + 1) (by omega) hb z
      omega
    by_cases c : k = 0
    · subst c
      rw [Nat.add_zero] at q ne
      exact ⟨fun h => q.mpr h, fun h => by
        have : ¬ f a < f (a + 1) := fun z => by have := q.mp z; omega
        show f (a + 1) < f a
        omega⟩
    · obtain ⟨i1, i2⟩ := Lay.mono Y T k (by omega) (by omega) e1.symm
      exact ⟨fun h => Nat.lt_trans (i1 h) (q.mpr h), fun h => by
        have : ¬ f (a + k) < f (a + k + 1) := fun z => by have := q.mp z; omega
        have := i2 h
        show f (a + k + 1) < f a
        omega⟩
/-- two orders that go together are one -/
theorem each_eq {u v : Nat → Nat} (U : Each m u) (V : Each m v) (h : ∀ i j, i < m → j < m → u i < u j → v i < v j) : ∀ i, i < m → u i = v i := by
  have key : ∀ k i, i < m → u i = k → v i = k := fun k => by
    induction k using Nat.strongRecOn with
    | ind k ih =>
      intro i hi e
      have ge : ¬ v i < k := fun z => by
        obtain ⟨j, hj, e2⟩ := U.on (v i) (V.lt i hi)
        have := ih (v i) z j hj e2
        have := V.inj j i hj hi this
        subst this
        omega
      have le : ¬ k < v i := fun z => by
        obtain ⟨j, hj, e2⟩ := V.on k (by have := V.lt i hi; omega)
        rcases Nat.lt_trichotomy (u j) k with c | c | c
        · have := ih (u j) c j hj rfl
          omega
        · have := U.inj j i hj hi (by omega)
          subst this
          omega
        · have := h i j hi hj (by omega)
          omega
      omega
  exact fun i hi => (key (u i) i hi rfl).symm
end
end Pg
namespace Pg
open PySem PySem.Spec PyProof.Rows L2 T3
/-- a ring of points over one bottom, with the stretches in which they lie -/
structure Run (ms : List Int) (s T : Nat → Int) (b : Int) (m : Nat) : Prop where
  b0 : 0 < b
  inn : ∀ i, s i * b < T i ∧ T i < (s i + 1) * b
  stp : ∀ i, T (i + 1) = aff ms (s i) (T i) b
  per : ∀ i, T (i + m) = T i
  nd : ∀ i j, i < m → j < m → T i = T j → i = j
section
variable {n m : Nat} {ms : List Int} {f : Nat → Nat} {s T : Nat → Int} {b : Int}
theorem Run.mod (R : Run ms s T b m) (i : Nat) : T i = T (i % m) := by
  have : ∀ q, T (i % m + m * q) = T (i % m) := fun q => by
    induction q with
    | zero => rfl
    | succ q ih => rw [Nat.mul_add, Nat.mul_one, ← Nat.add_assoc, R.per, ih]
  have e := this (i / m)
  rwa [Nat.mod_add_div] at e
theorem Run.eq (R : Run ms s T b m) (h0 : 0 < m) {i j : Nat} (e : T i = T j) : i % m = j % m := by
  rw [R.mod i, R.mod j] at e
  exact R.nd _ _ (Nat.mod_lt _ h0) (Nat.mod_lt _ h0) e
theorem Run.flr (R : Run ms s T b m) {i : Nat} {z : Int} (h1 : z * b < T i) (h2 : T i < (z + 1) * b) : s i = z := by
  obtain ⟨a, c⟩ := R.inn i
  have x1 := Int.lt_of_mul_lt_mul_right (Int.lt_trans a h2) (Int.le_of_lt R.b0)
  have x2 := Int.lt_of_mul_lt_mul_right (Int.lt_trans h1 c) (Int.le_of_lt R.b0)
  omega
theorem Run.sper (R : Run ms s T b m) {i j : Nat} (e : T i = T j) : s i = s j := by
  obtain ⟨a, c⟩ := R.inn j
  rw [← e] at a c
  exact R.flr a c
/-- what a stretch does with what lies in it -/
theorem Run.cv (R : Run ms s T b m) (i : Nat) : cov ms (s i) (s (i + 1)) = true := by
  rw [cov_iff]
  obtain ⟨a, c⟩ := R.inn i
  obtain ⟨a', c'⟩ := R.inn (i + 1)
  have hb := R.b0
  rw [R.stp i] at a' c'
  unfold aff at a' c'
  have u0 : 0 < T i - s i * b := by omega
  have u1 : T i - s i * b < b := by rw [Int.add_mul] at c; omega
  generalize T i - s i * b = u at *
  unfold loS hiS
  have e0 : sl ms (s i) = ms.getD (s i + 1).toNat 0 - ms.getD (s i).toNat 0 := rfl
  generalize ms.getD (s i).toNat 0 = x at *
  generalize ms.getD (s i + 1).toNat 0 = y at *
  generalize s (i + 1) = z at *
  have low : ∀ w : Int, w * b < (z + 1) * b → w ≤ z := fun w h => by
    have := Int.lt_of_mul_lt_mul_right h (Int.le_of_lt hb); omega
  have upp : ∀ w : Int, z * b < w * b → z < w := fun w h => Int.lt_of_mul_lt_mul_right h (Int.le_of_lt hb)
  rcases Int.lt_trichotomy (sl ms (s i)) 0 with k | k | k
  · have e1 : sl ms (s i) * b < sl ms (s i) * u := Int.mul_lt_mul_of_neg_left u1 k
    have e2 : sl ms (s i) * u < sl ms (s i) * 0 := Int.mul_lt_mul_of_neg_left u0 k
    rw [Int.mul_zero] at e2
    have ey : y * b = sl ms (s i) * b + x * b := by rw [← Int.add_mul, e0]; congr 1; omega
    have l1 := low y (by omega)
    have l2 := upp x (by omega)
    constructor <;> split <;> omega
  · exfalso
    rw [k, Int.zero_mul, Int.zero_add] at a' c'
    have := low x c'
    have := upp x a'
    omega
  · have e1 : sl ms (s i) * u < sl ms (s i) * b := Int.mul_lt_mul_of_pos_left u1 k
    have e2 : sl ms (s i) * 0 < sl ms (s i) * u := Int.mul_lt_mul_of_pos_left u0 k
    rw [Int.mul_zero] at e2
    have ey : y * b = sl ms (s i) * b + x * b := by rw [← Int.add_mul, e0]; congr 1; omega
    have l1 := low x (by omega)
    have l2 := upp y (by omega)
    constructor <;> split <;> omega
def rwS (s : Nat → Int) (m : Nat) : List Int := (List.range m).map s
theorem rwS_len (s : Nat → Int) (m : Nat) : (rwS s m).length = m := by simp [rwS]
theorem rwS_get (s : Nat → Int) {m i : Nat} (h : i < m) : (rwS s m).getD i 0 = s i := by
  unfold rwS
  rw [List.getD_eq_getElem?_getD, List.getElem?_map, List.getElem?_range h]; rfl
theorem rwS_snoc (s : Nat → Int) (k : Nat) : rwS s (k + 1) = rwS s k ++ [s k] := by
  unfold rwS
  rw [List.range_succ, List.map_append]; rfl
theorem Run.along (R : Run ms s T b m) : ∀ k, affL ms (rwS s k) (T 0) b = T k
  | 0 => rfl
  | k + 1 => by
    rw [rwS_snoc, affL_app, R.along k]
    exact (R.stp k).symm
end
end Pg
namespace Pg
open PySem PySem.Spec PyProof.Rows L2 T3
section
variable {n m : Nat} {ms : List Int} {f : Nat → Nat} {s T : Nat → Int} {b : Int}
theorem Run.shift (R : Run ms s T b m) (k : Nat) : Run ms (fun i => s (k + i)) (fun i => T (k + i)) b m where
  b0 := R.b0
  inn := fun i => R.inn _
  stp := fun i => R.stp _
  per := fun i => by show T (k + (i + m)) = _; rw [← Nat.add_assoc, R.per]
  nd := fun i j hi hj e => by
    have h := R.eq (by omega) e
    have e1 : ((k + i) + (m - k % m)) % m = i := by
      have := Nat.mod_lt k (show m > 0 by omega)
      have q := Nat.mod_add_div k m
      rw [show k + i + (m - k % m) = i + m * (k / m + 1) by rw [Nat.mul_add]; omega, Nat.add_mul_mod_self_left, Nat.mod_eq_of_lt hi]
    have e2 : ((k + j) + (m - k % m)) % m = j := by
      have := Nat.mod_lt k (show m > 0 by omega)
      have q := Nat.mod_add_div k m
      rw [show k + j + (m - k % m) = j + m * (k / m + 1) by rw [Nat.mul_add]; omega, Nat.add_mul_mod_self_left, Nat.mod_eq_of_lt hj]
    rw [← e1, ← e2, Nat.add_mod (k + i), Nat.add_mod (k + j), h]
theorem pow_one_abs {r : Int} {k : Nat} (hk : 0 < k) (h : r ^ k = 1) : r = 1 ∨ r = -1 := by
  have h2 : r.natAbs ^ k = 1 := by rw [← Int.natAbs_pow, h]; rfl
  have : r.natAbs = 1 := by
    rcases Nat.lt_trichotomy r.natAbs 1 with c | c | c
    · have : r.natAbs = 0 := by omega
      rw [this, Nat.zero_pow hk] at h2
      omega
    · exact c
    · have := Nat.one_lt_pow (show k ≠ 0 by omega) c
      omega
  omega
/-- along a repeated loop: half of it turns its stretch about -/
theorem Run.rep (R : Run ms s T b m) {d : Nat} (d1 : 1 ≤ d) (d2 : d < m) (hp : Per (rwS s m) d) : m = 2 * d ∧ (∀ i, s (i + d) = s i) ∧ ∀ i, (sl ms (s i)).natAbs = 1 := by
  have h0 : 0 < m := by omega
  have sm : ∀ i, s i = s (i % m) := fun i => R.sper (R.mod i)
  have sd : ∀ i, s (i + d) = s i := fun i => by
    have q := hp (i % m) (by rw [rwS_len]; exact Nat.mod_lt _ h0)
    rw [rwS_len, rwS_get s (Nat.mod_lt _ h0), rwS_get s (Nat.mod_lt _ h0), Nat.mod_add_mod] at q
    rw [sm (i + d), sm i, q]
  have sdq : ∀ q i, s (d * q + i) = s i := fun q => by
    induction q with
    | zero => intro i; rw [Nat.mul_zero, Nat.zero_add]
    | succ q ih => intro i; rw [Nat.mul_add, Nat.mul_one, show d * q + d + i = d * q + i + d by omega, sd, ih]
  have st : ∀ q, T (d * q + d) = (rsh ms (rwS s d)).1 * T (d * q) + (rsh ms (rwS s d)).2 * b := fun q => by
    have a := (R.shift (d * q)).along d
    have e : rwS (fun i => s (d * q + i)) d = rwS s d := by
      unfold rwS
      exact List.map_congr_left fun i _ => sdq q i
    rw [e, affL_eq] at a
    exact a.symm
  have hd : ∀ q, T (d * (q + 1) + d) - T (d * (q + 1)) = (rsh ms (rwS s d)).1 * (T (d * q + d) - T (d * q)) := fun q => by
    have a := st (q + 1)
    have c := st q
    have e : d * (q + 1) = d * q + d := by rw [Nat.mul_add, Nat.mul_one]
    rw [e] at a ⊢
    rw [a, c]
    simp only [Int.mul_sub, Int.mul_add]
    omega
  have hq : ∀ q, T (d * q + d) - T (d * q) = (rsh ms (rwS s d)).1 ^ q * (T d - T 0) := fun q => by
    induction q with
    | zero => rw [Nat.mul_zero, Nat.zero_add, Int.pow_zero, Int.one_mul]
    | succ q ih => rw [hd, ih, Int.mul_left_comm, Int.pow_succ, Int.mul_assoc]
  have n0 : T d - T 0 ≠ 0 := fun z => by
    have := R.nd d 0 d2 h0 (by omega)
    omega
  have e0 : T (d * m) = T 0 := by rw [R.mod (d * m), Nat.mul_mod_left]
  have e1 : T (d * m + d) = T d := by rw [R.mod (d * m + d), Nat.add_comm, Nat.add_mul_mod_self_right, ← R.mod]
  have rm : (rsh ms (rwS s d)).1 ^ m = 1 := by
    have q := hq m
    rw [e0, e1] at q
    have : (rsh ms (rwS s d)).1 ^ m * (T d - T 0) = 1 * (T d - T 0) := by rw [← q, Int.one_mul]
    exact Int.eq_of_mul_eq_mul_right n0 this
  have ab := pow_one_abs h0 rm
  have neg : (rsh ms (rwS s d)).1 = -1 := by
    refine ab.resolve_left fun z => n0 ?_
    have lin : ∀ q : Nat, T (d * q) = T 0 + q * (T d - T 0) := fun q => by
      induction q with
      | zero => rw [Nat.mul_zero]; show T 0 = T 0 + 0 * _; rw [Int.zero_mul, Int.add_zero]
      | succ q ih =>
        have a := hq q
        rw [z, Int.one_pow, Int.one_mul] at a
        rw [Nat.mul_add, Nat.mul_one, Int.natCast_add, Int.add_mul]
        show _ = T 0 + (_ + 1 * _)
        omega
    have := lin m
    rw [e0] at this
    have h2 : (m : Int) * (T d - T 0) = 0 := by omega
    rcases Int.mul_eq_zero.mp h2 with h | h
    · omega
    · exact h
  have two : m = 2 * d := by
    have a := hq 1
    rw [neg, Nat.mul_one, Int.pow_succ, Int.pow_zero, Int.one_mul, Int.neg_mul, Int.one_mul] at a
    have : T (d + d) = T 0 := by omega
    have q := R.eq h0 this
    rw [Nat.zero_mod] at q
    obtain ⟨c, hc⟩ := Nat.dvd_of_mod_eq_zero q
    have c1 : 1 ≤ c := by
      refine Nat.one_le_iff_ne_zero.mpr fun z => ?_
      subst z
      omega
    have c2 : c < 2 := by
      refine Nat.lt_of_not_le fun z => ?_
      have := Nat.mul_le_mul_left m z
      omega
    have : c = 1 := by omega
    subst this
    omega
  refine ⟨two, sd, fun i => ?_⟩
  have cv : cvs ms (rwS s d) (s d) := by
    refine chain_cvs (fun z => ?_) (chain_iff.mpr fun k hk => ?_) ?_
    · have := rwS_len s d
      rw [z] at this
      have : d = 0 := this.symm
      omega
    · rw [rwS_len] at hk
      rw [rwS_get s (by omega), rwS_get s hk]
      exact R.cv k
    · rw [rwS_len, rwS_get s (by omega)]
      have := R.cv (d - 1)
      rwa [show d - 1 + 1 = d by omega] at this
  have stf1 := (rise_facts cv).2.2.mpr (by rw [neg]; rfl)
  have e := sdq (i / d) (i % d)
  rw [Nat.div_add_mod] at e
  rw [e]
  have mem : s (i % d) ∈ rwS s d := List.mem_map.mpr ⟨i % d, List.mem_range.mpr (Nat.mod_lt _ (by omega)), rfl⟩
  unfold stf at stf1
  have := List.all_eq_true.mp stf1 _ mem
  rw [decide_eq_true_eq] at this
  have := sl_hl (ms := ms) (s (i % d))
  omega
end
end Pg
namespace Pg
open PySem PySem.Spec PyProof.Rows L2 T3
def rgO (ms : List Int) (p : Int × Int) (m : Nat) : List (Int × Int) := (List.range m).map (orb ms p)
/-- a ring of m unlike points -/
structure ORing (ms : List Int) (m : Nat) (p : Int × Int) : Prop where
  red : RdP p
  bk : orb ms p m = p
  nd : ∀ i j, i < m → j < m → orb ms p i = orb ms p j → i = j
section
variable {n m : Nat} {ms gs : List Int} {f : Nat → Nat} {p : Int × Int}
theorem rgO_len (ms : List Int) (p : Int × Int) (m : Nat) : (rgO ms p m).length = m := by simp [rgO]
theorem rgO_get {i : Nat} (h : i < m) : (rgO ms p m).getD i (0, 1) = orb ms p i := by
  unfold rgO
  rw [List.getD_eq_getElem?_getD, List.getElem?_map, List.getElem?_range h]; rfl
theorem ORing.rng (O : ORing ms m p) : Rng m (rgO ms p m) := by
  refine ⟨rgO_len _ _ _, fun q hq => ?_, ?_⟩
  · unfold rgO at hq
    obtain ⟨i, _, rfl⟩ := List.mem_map.mp hq
    exact red_orb O.red i
  · unfold rgO
    rw [List.Nodup]
    refine List.pairwise_map.mpr (List.Pairwise.imp_of_mem (fun {a b} ha hb h e => ?_) (List.pairwise_lt_range (n := m)))
    have := O.nd a b (List.mem_range.mp ha) (List.mem_range.mp hb) e
    omega
theorem ORing.mod (O : ORing ms m p) (i : Nat) : orb ms p i = orb ms p (i % m) := orb_mod O.bk i
/-- points that stand as a turn's numbers do go by it -/
theorem goes_of_ord (O : ORing ms m p) (T : TurnP m (stp gs)) (hg : InR m gs) (ord : ∀ i j, i < m → j < m → it (stp gs) i < it (stp gs) j → plt (orb ms p i) (orb ms p j) = true) : GoesBy m (rw' (rgO ms p m)) gs := by
  have R := O.rng
  have U : Each m (it (stp gs)) := ⟨fun k _ => T.itlt k, fun i j hi hj e => T.inj hi hj e, fun a ha => T.on ha⟩
  have e := each_eq U R.each fun i j hi hj h => by
    refine R.rk_lt (R.at hi).2 (R.at hj).2 ?_
    rw [rgO_get hi, rgO_get hj]
    exact ord i j hi hj h
  refine ⟨hg.1, fun k hk => ?_⟩
  have pos := T.pos
  rw [← e k hk, ← e _ (Nat.mod_lt _ pos), ← T.perm (k + 1), hg.gets (T.itlt k)]
  rfl
end
end Pg
namespace Pg
open PySem PySem.Spec PyProof.Rows L2 T3
section
variable {n m : Nat} {ms gs : List Int}
/-- whether a stretch fits behind a row -/
def fitB (ms gs row : List Int) (s : Int) : Bool :=
  (!(decide (0 < row.length) && decide (row.getD (row.length - 1) 0 = s)) || (decide (gs.getD (row.length - 1) 0 < gs.getD row.length 0) == decide (0 < sl ms s)))
  && (!decide (gs.getD row.length 0 ≤ row.length) || cov ms s ((row ++ [s]).getD (gs.getD row.length 0).toNat 0))
  && (decide (row.length ≤ gs.idxOf (row.length : Int)) || cov ms (row.getD (gs.idxOf (row.length : Int)) 0) s)
theorem TurnP.mem (T : TurnP m (stp gs)) (hg : InR m gs) {a : Nat} (ha : a < m) : (a : Int) ∈ gs := by
  obtain ⟨k, hk, e⟩ := T.on ha
  have pos := T.pos
  have e2 : stp gs (it (stp gs) (k + (m - 1))) = a := by
    show it (stp gs) (k + (m - 1) + 1) = a
    rw [show k + (m - 1) + 1 = m + k by omega, T.per, e]
  have q := hg.gets (T.itlt (k + (m - 1)))
  rw [e2] at q
  exact List.mem_of_getElem? q
end
end Pg
namespace Pg
open PySem PySem.Spec PyProof.Rows L2 T3
section
variable {n m : Nat} {ms gs r : List Int}
/-- the beginning of a lay -/
structure PreL (n : Nat) (ms gs row : List Int) : Prop where
  mem : ∀ x ∈ row, 0 ≤ x ∧ x < (n : Int) - 1
  asc : ∀ a, a + 1 < row.length → row.getD a 0 ≤ row.getD (a + 1) 0
  fit : ∀ a, a < row.length → fitB ms gs (row.take a) (row.getD a 0) = true
theorem PreL.nil : PreL n ms gs [] := ⟨fun _ h => (nomatch h), fun _ h => absurd h (Nat.not_lt_zero _), fun _ h => absurd h (Nat.not_lt_zero _)⟩
end
end Pg
namespace Pg
open PySem PySem.Spec PyProof.Rows L2 T3
section
variable {n m : Nat} {ms gs r : List Int}
def cyc (ms : List Int) (h L : Nat) : List Int := (List.range L).map fun j => ((itA (stp ms) j h : Nat) : Int)
end
end Pg
namespace Pg
open PySem PySem.Spec PyProof.Rows L2 T3
end Pg
namespace Pg
open PySem PySem.Spec PyProof.Rows L2 T3
end Pg
namespace Pg
open PySem PySem.Spec PyProof.Rows L2 T3
end Pg
namespace Pg
open PySem PySem.Spec PyProof.Rows L2 T3
end Pg
namespace Pg
open PySem PySem.Spec PyProof.Rows L2 T3
end Pg
namespace Pg
open PySem PySem.Spec PyProof.Rows L2 T3
end Pg
namespace Pg
open PySem PySem.Spec PyProof.Rows L2 T3
end Pg
namespace Pg
open PySem PySem.Spec PyProof.Rows L2 T3
end Pg
namespace Pg
open PySem PySem.Spec PyProof.Rows L2 T3
end Pg
namespace Pg
open PySem PySem.Spec PyProof.Rows L2 T3
end Pg
namespace Pg
open PySem PySem.Spec PyProof.Rows L2 T3
end Pg
namespace Pg
open PySem PySem.Spec PyProof.Rows L2 T3
end Pg
namespace Pg
open PySem PySem.Spec PyProof.Rows L2 T3
section
variable {L D R : List (List Int)} {c m b B : Nat}
theorem sq62 {A B : Sx} {e e1 : En} (h : A e = .ok .nx e1) : sSeq A B e = B e1 := by
  show (A e).bind _ = _
  rw [h]; rfl
end
end Pg
namespace Rg
open Pg T3
/-- the part from u to v of that from a to b: led from c to d, the last such that begins -/
structure Pul (f : Rat → Rat) (a b c d u v : Rat) : Prop where
  au : a ≤ u
  uv : u < v
  vb : v ≤ b
  fu : f u = c
  fv : f v = d
  inn : ∀ x, u ≤ x → x ≤ v → c ≤ f x ∧ f x ≤ d
  lst : ∀ z, u < z → z ≤ b → c < f z
theorem pul_ex {f : Rat → Rat} (hf : ∀ a b, a ≤ b → Pw f a b) {a b c d : Rat} (hab : a ≤ b) (hcd : c < d) (ha : f a ≤ c) (hb : d ≤ f b) : ∃ p : Rat × Rat, Pul f a b c d p.1 p.2 := by
  obtain ⟨u, q1, q2, q3, q4⟩ := (hf a b hab).last (y := c) (by grind) ⟨a, by grind, hab, ha⟩
  obtain ⟨v, p1, p2, p3, p4⟩ := (hf u b (by grind)).first (y := d) (by grind) ⟨b, by grind, by grind, hb⟩
  refine ⟨(u, v), q1, p1, p2, q3, p3, fun x x1 x2 => ⟨?_, ?_⟩, q4⟩
  · by_cases e : u = x
    · grind
    · have := q4 x (by grind) (by grind)
      grind
  · by_cases e : x = v
    · grind
    · have := p4 x x1 (by grind)
      grind
open Classical in
noncomputable def pull (f : Rat → Rat) (a b c d : Rat) : Rat × Rat := if h : ∃ p : Rat × Rat, Pul f a b c d p.1 p.2 then Classical.choose h else (a, b)
theorem pull_ok {f : Rat → Rat} (hf : ∀ a b, a ≤ b → Pw f a b) {a b c d : Rat} (hab : a ≤ b) (hcd : c < d) (ha : f a ≤ c) (hb : d ≤ f b) : Pul f a b c d (pull f a b c d).1 (pull f a b c d).2 := by
  have h := pul_ex hf hab hcd ha hb
  unfold pull
  rw [dif_pos h]
  exact Classical.choose_spec h
theorem pul_ord {f : Rat → Rat} {a b c d c' d' u v u' v' : Rat} (P : Pul f a b c d u v) (P' : Pul f a b c' d' u' v') (h : d ≤ c') : v ≤ u' := by
  refine Classical.byContradiction fun n => ?_
  have := P'.lst v (by grind) P.vb
  have := P.fv
  grind
/-- points q that go as B, and a loop r of stretches between them that goes as C -/
structure Sys (f : Rat → Rat) (m : Nat) (q : Nat → Rat) (B : Nat → Nat) (c : Nat) (C r : Nat → Nat) : Prop where
  hf : ∀ a b, a ≤ b → Pw f a b
  asc : ∀ a b, a < b → b < m → q a < q b
  fq : ∀ a, a < m → f (q a) = q (B a)
  lt : ∀ a, a < m → B a < m
  rlt : ∀ i, i < c → r i + 1 < m
  cov : ∀ i, i < c → (B (r i) ≤ r (C i) ∧ r (C i) + 1 ≤ B (r i + 1)) ∨ (B (r i + 1) ≤ r (C i) ∧ r (C i) + 1 ≤ B (r i))
  T : TurnP c C
  rle : ∀ a b, a ≤ b → b < c → r a ≤ r b
  mono : ∀ a b, a < b → b < c → r a = r b → (B (r a) < B (r a + 1) → C a < C b) ∧ (B (r a + 1) < B (r a) → C b < C a)
  sep : ∀ a b, a < c → b < c → (∀ j, j ≤ c → r (itA C j a) = r (itA C j b)) → a = b
noncomputable def J (f : Rat → Rat) (q : Nat → Rat) (B C r : Nat → Nat) : Nat → Nat → Rat × Rat
  | 0, i => (q (r i), q (r i + 1))
  | k + 1, i => if B (r i) < B (r i + 1) then pull f (J f q B C r k i).1 (J f q B C r k i).2 (J f q B C r k (C i)).1 (J f q B C r k (C i)).2
    else pull (fun x => -f x) (J f q B C r k i).1 (J f q B C r k i).2 (-(J f q B C r k (C i)).2) (-(J f q B C r k (C i)).1)
section
variable {f : Rat → Rat} {m : Nat} {q : Nat → Rat} {B : Nat → Nat} {c : Nat} {C r : Nat → Nat}
/-- rises -/
abbrev up (B r : Nat → Nat) (i : Nat) : Prop := B (r i) < B (r i + 1)
theorem Sys.qle (S : Sys f m q B c C r) {a b : Nat} (h : a ≤ b) (hb : b < m) : q a ≤ q b := by
  by_cases e : a = b
  · subst e; exact Rat.le_refl
  · have := S.asc a b (by omega) hb
    grind
theorem Sys.dn (S : Sys f m q B c C r) {i : Nat} (hi : i < c) (h : ¬ up B r i) : B (r i + 1) < B (r i) := by
  rcases S.cov i hi with ⟨a, b⟩ | ⟨a, b⟩
  · exact absurd (show B (r i) < B (r i + 1) by omega) h
  · omega
/-- what the level k is -/
def Inv (f : Rat → Rat) (c : Nat) (B C r : Nat → Nat) (j : Nat → Rat × Rat) : Prop := ∀ i, i < c → (j i).1 < (j i).2 ∧
  (up B r i → f (j i).1 ≤ (j (C i)).1 ∧ (j (C i)).2 ≤ f (j i).2) ∧ (¬ up B r i → (j (C i)).2 ≤ f (j i).1 ∧ f (j i).2 ≤ (j (C i)).1)
theorem Sys.inv0 (S : Sys f m q B c C r) : Inv f c B C r (J f q B C r 0) := fun i hi => by
  have h1 := S.rlt i hi
  have hC := S.T.lt i hi
  have h2 := S.rlt _ hC
  refine ⟨S.asc _ _ (by omega) h1, fun h => ?_, fun h => ?_⟩
  · show f (q (r i)) ≤ q (r (C i)) ∧ q (r (C i) + 1) ≤ f (q (r i + 1))
    rw [S.fq _ (by omega), S.fq _ h1]
    rcases S.cov i hi with ⟨a, b⟩ | ⟨a, b⟩
    · exact ⟨S.qle a (by omega), S.qle b (S.lt _ h1)⟩
    · have h : B (r i) < B (r i + 1) := h
      omega
  · show q (r (C i) + 1) ≤ f (q (r i)) ∧ f (q (r i + 1)) ≤ q (r (C i))
    rw [S.fq _ (by omega), S.fq _ h1]
    rcases S.cov i hi with ⟨a, b⟩ | ⟨a, b⟩
    · exact absurd (show B (r i) < B (r i + 1) by omega) h
    · exact ⟨S.qle b (S.lt _ (by omega)), S.qle a (by omega)⟩
/-- from one level to the next one -/
structure Nxt (f : Rat → Rat) (a b u : Rat × Rat) (v : Rat × Rat) (rise : Prop) : Prop where
  up : rise → Pul f a.1 a.2 b.1 b.2 v.1 v.2
  dn : ¬ rise → Pul (fun x => -f x) a.1 a.2 (-b.2) (-b.1) v.1 v.2
theorem Sys.nxt (S : Sys f m q B c C r) {k : Nat} (I : Inv f c B C r (J f q B C r k)) {i : Nat} (hi : i < c) : Nxt f (J f q B C r k i) (J f q B C r k (C i)) (0, 0) (J f q B C r (k + 1) i) (up B r i) := by
  obtain ⟨i1, i2, i3⟩ := I i hi
  obtain ⟨c1, _, _⟩ := I (C i) (S.T.lt i hi)
  constructor
  · intro h
    obtain ⟨a1, a2⟩ := i2 h
    have e : J f q B C r (k + 1) i = pull f (J f q B C r k i).1 (J f q B C r k i).2 (J f q B C r k (C i)).1 (J f q B C r k (C i)).2 := by
      show (if B (r i) < B (r i + 1) then _ else _) = _
      rw [if_pos h]
    rw [e]
    exact pull_ok S.hf (by grind) c1 a1 a2
  · intro h
    obtain ⟨a1, a2⟩ := i3 h
    have e : J f q B C r (k + 1) i = pull (fun x => -f x) (J f q B C r k i).1 (J f q B C r k i).2 (-(J f q B C r k (C i)).2) (-(J f q B C r k (C i)).1) := by
      show (if B (r i) < B (r i + 1) then _ else _) = _
      rw [if_neg h]
    rw [e]
    exact pull_ok (fun a b h => (S.hf a b h).neg) (by grind) (by grind) (by grind) (by grind)
theorem Nxt.nest {a b u v : Rat × Rat} {rise : Prop} (N : Nxt f a b u v rise) : a.1 ≤ v.1 ∧ v.1 < v.2 ∧ v.2 ≤ a.2 := by
  by_cases h : rise
  · exact ⟨(N.up h).au, (N.up h).uv, (N.up h).vb⟩
  · exact ⟨(N.dn h).au, (N.dn h).uv, (N.dn h).vb⟩
theorem Nxt.ends {a b u v : Rat × Rat} {rise : Prop} (N : Nxt f a b u v rise) : (rise → f v.1 = b.1 ∧ f v.2 = b.2) ∧ (¬ rise → f v.1 = b.2 ∧ f v.2 = b.1) := by
  refine ⟨fun h => ⟨(N.up h).fu, (N.up h).fv⟩, fun h => ?_⟩
  have e1 := (N.dn h).fu
  have e2 := (N.dn h).fv
  exact ⟨by grind, by grind⟩
theorem Nxt.inn {a b u v : Rat × Rat} {rise : Prop} (N : Nxt f a b u v rise) {x : Rat} (h1 : v.1 ≤ x) (h2 : x ≤ v.2) : b.1 ≤ f x ∧ f x ≤ b.2 := by
  by_cases h : rise
  · exact (N.up h).inn x h1 h2
  · have := (N.dn h).inn x h1 h2
    grind
theorem Sys.inv (S : Sys f m q B c C r) : ∀ k, Inv f c B C r (J f q B C r k)
  | 0 => S.inv0
  | k + 1 => fun i hi => by
    have I := S.inv k
    have N := S.nxt I hi
    have N2 := S.nxt I (S.T.lt i hi)
    obtain ⟨n1, n2, n3⟩ := N.nest
    obtain ⟨m1, m2, m3⟩ := N2.nest
    refine ⟨n2, fun h => ?_, fun h => ?_⟩
    · obtain ⟨e1, e2⟩ := N.ends.1 h
      grind
    · obtain ⟨e1, e2⟩ := N.ends.2 h
      grind
theorem Sys.nx (S : Sys f m q B c C r) (k : Nat) {i : Nat} (hi : i < c) : Nxt f (J f q B C r k i) (J f q B C r k (C i)) (0, 0) (J f q B C r (k + 1) i) (up B r i) := S.nxt (S.inv k) hi
theorem Sys.nest (S : Sys f m q B c C r) {i : Nat} (hi : i < c) (k : Nat) : ∀ l, (J f q B C r k i).1 ≤ (J f q B C r (k + l) i).1 ∧ (J f q B C r (k + l) i).2 ≤ (J f q B C r k i).2
  | 0 => ⟨Rat.le_refl, Rat.le_refl⟩
  | l + 1 => by
    obtain ⟨a, b⟩ := S.nest hi k l
    obtain ⟨n1, n2, n3⟩ := (S.nx (k + l) hi).nest
    rw [show k + (l + 1) = k + l + 1 by omega]
    grind
theorem Sys.wide (S : Sys f m q B c C r) {i : Nat} (hi : i < c) (k : Nat) : (J f q B C r k i).1 < (J f q B C r k i).2 := (S.inv k i hi).1
/-- equal parts lie in one stretch -/
theorem Sys.same_r (S : Sys f m q B c C r) {a b : Nat} (ha : a < c) (hb : b < c) {k : Nat} (e : J f q B C r k a = J f q B C r k b) : r a = r b := by
  have na := S.nest ha 0 k
  have nb := S.nest hb 0 k
  have w := S.wide ha k
  rw [Nat.zero_add] at na nb
  rw [e] at na w
  have a1 : q (r a) ≤ (J f q B C r k b).1 := na.1
  have a2 : (J f q B C r k b).2 ≤ q (r a + 1) := na.2
  have b1 : q (r b) ≤ (J f q B C r k b).1 := nb.1
  have b2 : (J f q B C r k b).2 ≤ q (r b + 1) := nb.2
  have la := S.rlt a ha
  have lb := S.rlt b hb
  rcases Nat.lt_trichotomy (r a) (r b) with h | h | h
  · have := S.qle (show r a + 1 ≤ r b by omega) (by omega)
    grind
  · exact h
  · have := S.qle (show r b + 1 ≤ r a by omega) (by omega)
    grind
theorem itA_C (C : Nat → Nat) (a : Nat) : ∀ j, itA C (j + 1) a = itA C j (C a)
  | 0 => rfl
  | j + 1 => congrArg C (itA_C C a j)
/-- parts stand in order -/
theorem Sys.ord (S : Sys f m q B c C r) : ∀ (k : Nat) {a b : Nat}, a < b → b < c → J f q B C r k a = J f q B C r k b ∨ (J f q B C r k a).2 ≤ (J f q B C r k b).1
  | 0, a, b, hab, hb => by
    have lb := S.rlt b hb
    have le := S.rle a b (by omega) hb
    by_cases e : r a = r b
    · left
      show (q (r a), q (r a + 1)) = (q (r b), q (r b + 1))
      rw [e]
    · right
      exact S.qle (show r a + 1 ≤ r b by omega) (by omega)
  | k + 1, a, b, hab, hb => by
    have ha : a < c := by omega
    obtain ⟨a1, a2, a3⟩ := (S.nx k ha).nest
    obtain ⟨b1, b2, b3⟩ := (S.nx k hb).nest
    rcases S.ord k hab hb with e | l
    · have er := S.same_r ha hb e
      have A := S.nx k ha
      have Bb := S.nx k hb
      have mo := S.mono a b hab hb er
      by_cases h : up B r a
      · have h' : up B r b := by
          show B (r b) < B (r b + 1)
          rw [← er]; exact h
        have lc := mo.1 h
        have pa := A.up h
        have pb := Bb.up h'
        rw [e] at pa
        rcases S.ord k lc (S.T.lt b hb) with e2 | l2
        · left
          show (if B (r a) < B (r a + 1) then _ else _) = (if B (r b) < B (r b + 1) then _ else _)
          rw [if_pos h, if_pos h', e, e2]
        · right
          exact pul_ord pa pb l2
      · have h' : ¬ up B r b := fun z => h (by
          show B (r a) < B (r a + 1)
          rw [er]; exact z)
        have lc := mo.2 (S.dn ha h)
        have pa := A.dn h
        have pb := Bb.dn h'
        rw [e] at pa
        rcases S.ord k lc (S.T.lt a ha) with e2 | l2
        · left
          show (if B (r a) < B (r a + 1) then _ else _) = (if B (r b) < B (r b + 1) then _ else _)
          rw [if_neg h, if_neg h', e, e2]
        · right
          exact pul_ord pa pb (by grind)
    · right
      grind
end
end Rg
namespace Rg
open Pg T3
section
variable {f : Rat → Rat} {m : Nat} {q : Nat → Rat} {B : Nat → Nat} {c : Nat} {C r : Nat → Nat}
theorem itR_f (f : Rat → Rat) (x : Rat) (k : Nat) : itR f (k + 1) x = itR f k (f x) := by
  have := itR_add f x 1 k
  rw [Nat.add_comm] at this
  exact this
theorem Sys.itlt (S : Sys f m q B c C r) {i : Nat} (hi : i < c) : ∀ j, itA C j i < c
  | 0 => hi
  | j + 1 => S.T.lt _ (S.itlt hi j)
theorem Sys.along (S : Sys f m q B c C r) (K : Nat) : ∀ (j : Nat) {i : Nat}, i < c →
    (∀ x, (J f q B C r (K + j) i).1 ≤ x → x ≤ (J f q B C r (K + j) i).2 → (J f q B C r K (itA C j i)).1 ≤ itR f j x ∧ itR f j x ≤ (J f q B C r K (itA C j i)).2) ∧
    ((itR f j (J f q B C r (K + j) i).1 = (J f q B C r K (itA C j i)).1 ∧ itR f j (J f q B C r (K + j) i).2 = (J f q B C r K (itA C j i)).2) ∨
     (itR f j (J f q B C r (K + j) i).1 = (J f q B C r K (itA C j i)).2 ∧ itR f j (J f q B C r (K + j) i).2 = (J f q B C r K (itA C j i)).1))
  | 0, i, hi => ⟨fun x h1 h2 => ⟨h1, h2⟩, .inl ⟨rfl, rfl⟩⟩
  | j + 1, i, hi => by
    have N := S.nx (K + j) hi
    obtain ⟨a1, a2⟩ := S.along K j (S.T.lt i hi)
    rw [itA_C]
    refine ⟨fun x h1 h2 => ?_, ?_⟩
    · obtain ⟨b1, b2⟩ := N.inn h1 h2
      rw [itR_f]
      exact a1 _ b1 b2
    · rw [itR_f, itR_f]
      show (itR f j (f (J f q B C r (K + j + 1) i).1) = _ ∧ itR f j (f (J f q B C r (K + j + 1) i).2) = _) ∨ (itR f j (f (J f q B C r (K + j + 1) i).1) = _ ∧ itR f j (f (J f q B C r (K + j + 1) i).2) = _)
      by_cases h : up B r i
      · obtain ⟨e1, e2⟩ := N.ends.1 h
        rw [e1, e2]
        exact a2
      · obtain ⟨e1, e2⟩ := N.ends.2 h
        rw [e1, e2]
        rcases a2 with ⟨x, y⟩ | ⟨x, y⟩
        · exact .inr ⟨y, x⟩
        · exact .inl ⟨y, x⟩
end
end Rg
namespace Rg
open Pg T3
def val (p : Int × Int) : Rat := (p.1 : Rat) / (p.2 : Rat)
/-- the straight motion -/
def F (ms : List Int) (x : Rat) : Rat :=
  if x ≤ 0 then (ms.getD 0 0 : Int) else if (((ms.length : Int) - 1 : Int) : Rat) ≤ x then (ms.getD (ms.length - 1) 0 : Int)
  else (sl ms x.floor : Int) * (x - (x.floor : Int)) + (ms.getD x.floor.toNat 0 : Int)
end Rg
namespace Pg
open PySem PySem.Spec PyProof.Rows L2 T3
end Pg
namespace Pg
open PySem PySem.Spec PyProof.Rows L2 T3
end Pg
namespace Pg
open PySem PySem.Spec PyProof.Rows L2 T3
def sm (l : List Int) (f : Int → Int) : Int := (l.map f).sum
abbrev stre (ms : List Int) : List Int := rgI 0 ((ms.length : Int) - 1)
def ob (ms w : List Int) : List Int := (stre ms).map fun i => sm (rgI (loS ms i) (hiS ms i)) fun j => w.getD j.toNat 0
def ind (ms : List Int) (g : Int) : List Int := (stre ms).map fun i => if i = g then 1 else 0
def wk (ms : List Int) (g : Int) : Nat → List Int
  | 0 => ind ms g
  | k + 1 => ob ms (wk ms g k)
end Pg
namespace Pg
open PySem PySem.Spec PyProof.Rows L2 T3
section
variable {n m : Nat} {ms gs xs : List Int} {p : Int × Int}
/-- the motion has a ring with the turn -/
def HasRing (ms : List Int) (m : Nat) (gs : List Int) : Prop := ∃ p, ORing ms m p ∧ GoesBy m (rw' (rgO ms p m)) gs
end
end Pg
namespace Rg
open Pg T3
/-- a ring with a turn, from its least point on -/
structure TR (ms : List Int) (m : Nat) (gs : List Int) (p : Int × Int) : Prop where
  o : ORing ms m p
  ord : ∀ i j, it (stp gs) i < it (stp gs) j → plt (orb ms p i) (orb ms p j) = true
section
variable {n m c : Nat} {ms gs hs row : List Int} {p : Int × Int}
theorem TR.has (R : TR ms m gs p) (T : TurnP m (stp gs)) (hg : InR m gs) : HasRing ms m gs := ⟨p, R.o, goes_of_ord R.o T hg fun i j _ _ h => R.ord i j h⟩
theorem TR.inj (R : TR ms m gs p) (T : TurnP m (stp gs)) {i j : Nat} (e : it (stp gs) i = it (stp gs) j) : orb ms p i = orb ms p j := by
  rw [R.o.mod i, R.o.mod j]
  rw [T.perm i, T.perm j] at e
  rw [T.inj (Nat.mod_lt _ T.pos) (Nat.mod_lt _ T.pos) e]
/-- points of a function's ring with a turn, from the least one on -/
structure GR (g : Rat → Rat) (m : Nat) (gs : List Int) (y : Nat → Rat) : Prop where
  go : ∀ i, y (i + 1) = g (y i)
  per : ∀ i, y (i + m) = y i
  ord : ∀ i j, it (stp gs) i < it (stp gs) j → y i < y j
theorem GR.mod {g : Rat → Rat} {y : Nat → Rat} (R : GR g m gs y) (h0 : 0 < m) (i : Nat) : y i = y (i % m) := by
  have : ∀ t k, y (k + m * t) = y k := fun t k => by
    induction t with
    | zero => rfl
    | succ t ih => rw [Nat.mul_succ, ← Nat.add_assoc, R.per, ih]
  have h := this (i / m) (i % m)
  rwa [Nat.mod_add_div] at h
theorem GR.inj {g : Rat → Rat} {y : Nat → Rat} (R : GR g m gs y) (T : TurnP m (stp gs)) {i j : Nat} (e : it (stp gs) i = it (stp gs) j) : y i = y j := by
  rw [R.mod T.pos i, R.mod T.pos j]
  rw [T.perm i, T.perm j] at e
  rw [T.inj (Nat.mod_lt _ T.pos) (Nat.mod_lt _ T.pos) e]
end
end Rg
namespace Pg
open PySem PySem.Spec PyProof.Rows L2 T3
section
variable {n : Nat} {ms : List Int} {p : Int × Int}
/-- the course: its length, and where it comes back -/
structure Crs (ms : List Int) (p : Int × Int) (N B : Nat) : Prop where
  lt : B < N
  bk : orb ms p N = orb ms p B
  nd : ∀ i j, i < j → j < N → orb ms p i ≠ orb ms p j
theorem Crs.uniq {N B N' B' : Nat} (C : Crs ms p N B) (C' : Crs ms p N' B') : N = N' ∧ B = B' := by
  have hl := C.lt
  have hl' := C'.lt
  have e : N = N' := by
    rcases Nat.lt_trichotomy N N' with c | c | c
    · exact absurd C.bk.symm (C'.nd B N C.lt c)
    · exact c
    · exact absurd C'.bk.symm (C.nd B' N' C'.lt c)
  subst e
  refine ⟨rfl, ?_⟩
  have q := C.bk.symm.trans C'.bk
  rcases Nat.lt_trichotomy B B' with c | c | c
  · exact absurd q (C.nd _ _ c C'.lt)
  · exact c
  · exact absurd q.symm (C.nd _ _ c C.lt)
/-- the ring at the end, from its least point on -/
structure IsEnd (ms : List Int) (p : Int × Int) (L : Nat) (q : Int × Int) : Prop where
  pos : 1 ≤ L
  on : ∃ k, orb ms p k = q
  bk : orb ms q L = q
  fst : ∀ j, 1 ≤ j → j < L → orb ms q j ≠ q
  least : ∀ j, plt (orb ms q j) q = false
theorem IsEnd.uniq {L L' : Nat} {q q' : Int × Int} (hp : RdP p) (E : IsEnd ms p L q) (E' : IsEnd ms p L' q') : L = L' ∧ q = q' := by
  obtain ⟨k, hk⟩ := E.on
  obtain ⟨k', hk'⟩ := E'.on
  have com : orb ms q k' = orb ms q' k := by rw [← hk, ← hk', ← orb_add, ← orb_add, Nat.add_comm]
  have on1 : ∃ j, orb ms q j = q' := by
    have pos := E'.pos
    refine ⟨k' + (L' * k - k), ?_⟩
    have le : k ≤ L' * k := Nat.le_mul_of_pos_left k pos
    rw [orb_add, com, ← orb_add, show k + (L' * k - k) = L' * k + 0 by omega, orb_mul E'.bk]
    rfl
  have on2 : ∃ j, orb ms q' j = q := by
    have pos := E.pos
    refine ⟨k + (L * k' - k'), ?_⟩
    have le : k' ≤ L * k' := Nat.le_mul_of_pos_left k' pos
    rw [orb_add, ← com, ← orb_add, show k' + (L * k' - k') = L * k' + 0 by omega, orb_mul E.bk]
    rfl
  have rq : RdP q := by rw [← hk]; exact red_orb hp k
  have rq' : RdP q' := by rw [← hk']; exact red_orb hp k'
  have eq : q = q' := by
    refine Classical.byContradiction fun c => ?_
    obtain ⟨j, hj⟩ := on1
    obtain ⟨j', hj'⟩ := on2
    have a := E.least j
    have b := E'.least j'
    rw [hj] at a
    rw [hj'] at b
    rcases plt_tot rq rq' c with h | h
    · rw [h] at b; cases b
    · rw [h] at a; cases a
  subst eq
  refine ⟨?_, rfl⟩
  rcases Nat.lt_trichotomy L L' with c | c | c
  · exact absurd E.bk (E'.fst L E.pos c)
  · exact c
  · exact absurd E'.bk (E.fst L' E'.pos c)
/-- one step on the way changes nothing -/
theorem IsEnd.step {L : Nat} {q : Int × Int} (E : IsEnd ms p L q) : IsEnd ms (orb ms p 1) L q := by
  obtain ⟨k, hk⟩ := E.on
  refine ⟨E.pos, ?_, E.bk, E.fst, E.least⟩
  have pos := E.pos
  by_cases c : k = 0
  · refine ⟨L - 1, ?_⟩
    rw [← orb_add, show 1 + (L - 1) = L by omega]
    subst c
    have hk : p = q := hk
    rw [hk]
    exact E.bk
  · refine ⟨k - 1, ?_⟩
    rw [← orb_add, show 1 + (k - 1) = k by omega]
    exact hk
/-- far on the way -/
theorem Crs.at {N B : Nat} (C : Crs ms p N B) {k : Nat} (h : B ≤ k) : orb ms p k = orb ms p (B + (k - B) % (N - B)) := by
  have lt := C.lt
  have bk : orb ms (orb ms p B) (N - B) = orb ms p B := by
    rw [← orb_add, show B + (N - B) = N by omega]; exact C.bk
  have : orb ms p k = orb ms (orb ms p B) (k - B) := by rw [← orb_add, show B + (k - B) = k by omega]
  rw [this, orb_mod bk, ← orb_add]
end
end Pg
namespace Rg
open Pg T3
end Rg
namespace Pg
open PySem PySem.Spec PyProof.Rows L2 T3
theorem PI.rng {n : Nat} {ps : List (Int × Int)} (h : PI n ps) : Rng n ps := ⟨h.len, h.red, h.nd⟩
end Pg
namespace Rg
open Pg T3
end Rg
namespace Rg
open Pg T3
end Rg
namespace Pg
open PySem PySem.Spec PyProof.Rows L2 T3
end Pg
namespace Pg
open PySem PySem.Spec PyProof.Rows L2 T3
section
variable {n : Nat} {ms : List Int} {p q : Int × Int}
/-- so far the least one -/
structure Lst (ms : List Int) (p : Int × Int) (B i m : Nat) : Prop where
  lt : m ≤ i
  le : ∀ j, j ≤ i → j < i → plt (orb ms p (B + j)) (orb ms p (B + m)) = false
theorem Lst.new {B i m : Nat} (hp : RdP p) (L : Lst ms p B i m) (h : plt (orb ms p (B + i)) (orb ms p (B + m)) = true) : Lst ms p B (i + 1) i := by
  refine ⟨by omega, fun j _ hj => ?_⟩
  by_cases c : j = i
  · subst c; exact plt_irr _
  · have a := L.le j (by omega) (by omega)
    cases hb : plt (orb ms p (B + j)) (orb ms p (B + i)) with
    | false => rfl
    | true =>
      have := plt_trans (red_orb hp _).2 (red_orb hp _).2 (red_orb hp _).2 hb h
      rw [this] at a; cases a
theorem Lst.old {B i m : Nat} (L : Lst ms p B i m) (h : plt (orb ms p (B + i)) (orb ms p (B + m)) = false) : Lst ms p B (i + 1) m := by
  have := L.lt
  refine ⟨by omega, fun j _ hj => ?_⟩
  by_cases c : j = i
  · subst c; exact h
  · exact L.le j (by omega) (by omega)
end
end Pg
namespace Pg
open PySem PySem.Spec PyProof.Rows L2 T3
end Pg
namespace Pg
open PySem PySem.Spec PyProof.Rows L2 T3
structure PurS where
  a : Int
  x : Int
  c : Int
  hx : x.natAbs < 10 ^ 60
  hc : 0 ≤ c
def PurS.enc (p : PurS) : D := .list [.int p.a, .int p.x, .int p.c]
end Pg
namespace Pg
open PySem PySem.Spec PyProof.Rows L2 T3
end Pg
namespace Pg
open PySem PySem.Spec PyProof.Rows L2 T3
end Pg
namespace Pg
open PySem PySem.Spec PyProof.Rows L2 T3 Rg
end Pg
namespace Pg
open PySem PySem.Spec PyProof.Rows L2 T3
end Pg
namespace T3
open PySem PySem.Spec PyProof.Rows L2
end T3
namespace Pg
open PySem PySem.Spec PyProof.Rows L2 T3
section
variable {n : Nat} {ms : List Int}
def Red (p : Int × Int) : Prop := lw p.1 p.2 = p ∧ 0 < p.2
theorem Red.ne {p : Int × Int} (h : Red p) (k : p.2 ≠ 1) (m : Int) : p.1 ≠ m * p.2 := fun e => by
  have h1 := h.1
  rw [e, lw_int h.2] at h1
  exact k (congrArg Prod.snd h1).symm
end
end Pg
namespace Pg
open PySem PySem.Spec PyProof.Rows L2 T3
end Pg
namespace Pg
open PySem PySem.Spec PyProof.Rows L2 T3
end Pg
namespace Pg
open PySem PySem.Spec PyProof.Rows L2 T3
end Pg
namespace Pg
open PySem PySem.Spec PyProof.Rows L2 T3
end Pg
namespace Pg
open PySem PySem.Spec PyProof.Rows L2 T3
end Pg
namespace Pg
open PySem PySem.Spec PyProof.Rows L2 T3
end Pg
namespace Pg
open PySem PySem.Spec PyProof.Rows L2 T3 Rg
end Pg
namespace Pg
open PySem PySem.Spec PyProof.Rows L2 T3
end Pg
namespace Pg
open PySem PySem.Spec PyProof.Rows L2 T3 Rg
section
variable {n m c : Nat} {ms a b gs hs : List Int} {p : Int × Int}
theorem i1 : InR 1 [0] := ⟨rfl, by decide⟩
theorem i2 : InR 2 [1, 0] := ⟨rfl, by decide⟩
theorem t2 : TurnP 2 (stp [1, 0]) := ⟨by decide, by decide, by decide, fun j j1 j2 => by
  have : j = 1 := by omega
  subst this
  decide⟩
def q4 : List Int := [2, 3, 1, 0]
end
end Pg
namespace Pg
open PySem PySem.Spec PyProof.Rows L2 T3 Rg
section
variable {n m : Nat} {ms a b P : List Int}
/-- closed places -/
structure Clo (n : Nat) (ms P : List Int) : Prop where
  rg : ∀ y ∈ P, 0 ≤ y ∧ y < n
  asc : P.Pairwise (· < ·)
  cl : ∀ y ∈ P, ms.getD y.toNat 0 ∈ P
theorem Clo.nd (C : Clo n ms P) : P.Nodup := C.asc.imp fun h e => by omega
theorem Clo.le (C : Clo n ms P) : P.length ≤ n := by
  have := C.nd.length_le_of_subset (l₂ := rgI 0 n) fun y hy => rgI_mem.mpr (C.rg y hy)
  rw [rgI_len] at this
  omega
end
end Pg
namespace Rg
open Pg T3
end Rg
namespace Pg
open PySem PySem.Spec PyProof.Rows L2 T3 Rg
end Pg
namespace Pg
open PySem PySem.Spec PyProof.Rows L2 T3
end Pg
namespace Pg
open PySem PySem.Spec PyProof.Rows L2 T3
end Pg
namespace Pg
open PySem PySem.Spec PyProof.Rows L2 T3 Rg
/-- the goal of a place -/
def goI (ds : Ips) (y : Int) : Int := (lookI ds y).getD 0
/-- the places from which sights lead on and on -/
structure Who (ds : Ips) (W : List Int) : Prop where
  asc : W.Pairwise (· < ·)
  sub : ∀ y ∈ W, (lookI ds y).isSome = true ∧ goI ds y ∈ W
  mx : ∀ S : List Int, (∀ y ∈ S, (lookI ds y).isSome = true ∧ goI ds y ∈ S) → ∀ y ∈ S, y ∈ W
theorem look_key {ds : Ips} {y : Int} : (lookI ds y).isSome = true ↔ y ∈ ds.map (·.1) := by
  unfold lookI
  rw [Option.isSome_map, List.find?_isSome, List.mem_map]
  simp only [decide_eq_true_eq]
end Pg
namespace Pg
open PySem PySem.Spec PyProof.Rows L2 T3 Rg
section
variable {ds ps : Ips} {W : List Int} {f : Int → Int} {P : Int → Prop}
theorem look_put (ds : Ips) (k v y : Int) : lookI (putI ds k v) y = if y = k then some v else lookI ds y := by
  have ex : ∀ (l : Ips), l.any (fun q => decide (q.1 = k)) = true ↔ k ∈ l.map (·.1) := fun l => by
    rw [List.any_eq_true, List.mem_map]
    simp only [decide_eq_true_eq]
  unfold putI
  by_cases c : (ds.any fun q => decide (q.1 = k)) = true
  · rw [if_pos c]
    have : ∀ l : Ips, k ∈ l.map (·.1) ∨ y ≠ k → lookI (l.map fun q => if q.1 = k then (q.1, v) else q) y = if y = k then some v else lookI l y := by
      intro l
      induction l with
      | nil =>
        intro h
        rcases h with h | h
        · cases h
        · rw [if_neg h]; rfl
      | cons q l ih =>
        intro h
        unfold lookI at ih ⊢
        rw [List.map_cons, List.find?_cons, List.find?_cons]
        by_cases c1 : q.1 = k
        · rw [if_pos c1]
          by_cases c2 : y = k
          · rw [if_pos c2]
            have : decide ((q.1, v).1 = y) = true := decide_eq_true (by show q.1 = y; omega)
            rw [this]; rfl
          · rw [if_neg c2]
            have e1 : decide ((q.1, v).1 = y) = false := decide_eq_false (by show ¬ q.1 = y; omega)
            have e2 : decide (q.1 = y) = false := decide_eq_false (by omega)
            rw [e1]
            have := ih (.inr c2)
            rw [if_neg c2] at this
            exact this
        · rw [if_neg c1]
          by_cases c3 : q.1 = y
          · rw [decide_eq_true c3, if_neg (by omega)]
          · rw [decide_eq_false c3]
            refine ih ?_
            rcases h with h | h
            · left
              rw [List.map_cons, List.mem_cons] at h
              rcases h with h | h
              · exact absurd h.symm c1
              · exact h
            · exact .inr h
    exact this ds (.inl ((ex ds).mp c))
  · rw [if_neg c]
    have nk : k ∉ ds.map (·.1) := fun z => c ((ex ds).mpr z)
    unfold lookI
    rw [List.find?_append]
    by_cases c2 : y = k
    · rw [if_pos c2]
      have : ds.find? (fun q => decide (q.1 = y)) = none := List.find?_eq_none.mpr fun q hq z => nk (by
        have := of_decide_eq_true z
        rw [← c2, ← this]
        exact List.mem_map.mpr ⟨q, hq, rfl⟩)
      rw [this, Option.none_or, List.find?_cons, decide_eq_true (by exact c2.symm)]; rfl
    · rw [if_neg c2]
      have : List.find? (fun q : Int × Int => decide (q.1 = y)) [(k, v)] = none := by
        rw [List.find?_cons, decide_eq_false (by exact fun z => c2 z.symm)]; rfl
      rw [this, Option.or_none]
theorem put_keys (ds : Ips) (k v : Int) : (putI ds k v).map (·.1) = if k ∈ ds.map (·.1) then ds.map (·.1) else ds.map (·.1) ++ [k] := by
  have ex : ds.any (fun q => decide (q.1 = k)) = true ↔ k ∈ ds.map (·.1) := by
    rw [List.any_eq_true, List.mem_map]
    simp only [decide_eq_true_eq]
  unfold putI
  by_cases c : k ∈ ds.map (·.1)
  · rw [if_pos (ex.mpr c), if_pos c, List.map_map]
    refine List.map_congr_left fun q _ => ?_
    show (if q.1 = k then (q.1, v) else q).1 = q.1
    split <;> rfl
  · rw [if_neg (fun z => c (ex.mp z)), if_neg c, List.map_append]; rfl
/-- a dict that holds f at the places of P -/
structure Kn (f : Int → Int) (P : Int → Prop) (ds : Ips) : Prop where
  nd : (ds.map (·.1)).Nodup
  at_ : ∀ y, P y → lookI ds y = some (f y)
  no : ∀ y, ¬ P y → lookI ds y = none
theorem Kn.nil : Kn f (fun _ => False) [] := ⟨List.nodup_nil, fun _ h => h.elim, fun _ _ => rfl⟩
theorem Kn.put (h : Kn f P ds) (k : Int) : Kn f (fun y => P y ∨ y = k) (putI ds k (f k)) where
  nd := by
    rw [put_keys]
    split
    · exact h.nd
    · rename_i c
      refine List.nodup_append.mpr ⟨h.nd, by simp, fun a ha b hb e => c ?_⟩
      rw [List.mem_singleton] at hb
      rw [← hb, ← e]; exact ha
  at_ := fun y hy => by
    rw [look_put]
    by_cases c : y = k
    · rw [if_pos c, c]
    · rw [if_neg c]; exact h.at_ y (hy.resolve_right c)
  no := fun y hy => by
    rw [look_put, if_neg (fun z => hy (.inr z))]
    exact h.no y fun z => hy (.inl z)
theorem Kn.iff {Q : Int → Prop} (h : Kn f P ds) (e : ∀ y, P y ↔ Q y) : Kn f Q ds := ⟨h.nd, fun y hy => h.at_ y ((e y).mpr hy), fun y hy => h.no y fun z => hy ((e y).mp z)⟩
theorem Kn.dc (h : ∀ q ∈ ps, q.2 = f q.1) : Kn f (fun y => y ∈ ps.map (·.1)) (dcI ps) := by
  have : ∀ (ps acc : Ips) (P : Int → Prop), (∀ q ∈ ps, q.2 = f q.1) → Kn f P acc → Kn f (fun y => P y ∨ y ∈ ps.map (·.1)) (ps.foldl (fun acc q => putI acc q.1 q.2) acc) := by
    intro ps
    induction ps with
    | nil => intro acc P _ k; exact k.iff fun y => by simp
    | cons q ps ih =>
      intro acc P h k
      rw [List.foldl_cons]
      have k1 := k.put q.1
      rw [← h q List.mem_cons_self] at k1
      refine (ih _ _ (fun z hz => h z (List.mem_cons_of_mem _ hz)) k1).iff fun y => ?_
      rw [List.map_cons, List.mem_cons, or_assoc]
  exact (this ps [] _ h Kn.nil).iff fun y => by simp
theorem Kn.isSome (h : Kn f P ds) {y : Int} : (lookI ds y).isSome = true ↔ P y := by
  constructor
  · intro z
    refine Classical.byContradiction fun c => ?_
    rw [h.no y c] at z
    cases z
  · intro z
    rw [h.at_ y z]; rfl
theorem Kn.go (h : Kn f P ds) {y : Int} (hy : P y) : goI ds y = f y := by
  unfold goI
  rw [h.at_ y hy]; rfl
theorem Kn.mem (h : Kn f P ds) : ∀ q ∈ ds, q.2 = f q.1 := fun q hq => by
  have k : q.1 ∈ ds.map (·.1) := List.mem_map.mpr ⟨q, hq, rfl⟩
  have p : P q.1 := h.isSome.mp (look_key.mpr k)
  have e := h.at_ q.1 p
  have key : ∀ l : Ips, (l.map (·.1)).Nodup → q ∈ l → lookI l q.1 = some q.2 := by
    intro l
    induction l with
    | nil => intro _ h; cases h
    | cons z l ih =>
      intro nd hq
      rw [List.map_cons, List.nodup_cons] at nd
      unfold lookI at ih ⊢
      rw [List.find?_cons]
      rcases List.mem_cons.mp hq with rfl | hq
      · rw [decide_eq_true rfl]; rfl
      · have ne : ¬ z.1 = q.1 := fun c => nd.1 (by rw [c]; exact List.mem_map.mpr ⟨q, hq, rfl⟩)
        rw [decide_eq_false ne]
        exact ih nd.2 hq
  rw [key ds h.nd hq] at e
  exact Option.some.inj e
theorem Kn.keys (h : Kn f P ds) {y : Int} : y ∈ ds.map (·.1) ↔ P y := by rw [← look_key]; exact h.isSome
end
end Pg
namespace Pg
open PySem PySem.Spec PyProof.Rows L2 T3 Rg
end Pg
namespace Pg
open PySem PySem.Spec PyProof.Rows L2 T3
end Pg
namespace Pg
open PySem PySem.Spec PyProof.Rows L2 T3
end Pg
namespace Pg
open PySem PySem.Spec PyProof.Rows L2 T3
end Pg
namespace Pg
open PySem PySem.Spec PyProof.Rows L2 T3
/-- the only stretch that one covers -/
def nx1 (ms : List Int) (k : Int) : Option Int := if hiS ms k - loS ms k = 1 then some (loS ms k) else none
structure Wk (ms : List Int) (n : Nat) (b : Int) (w : List Int) : Prop where
  pos : 0 < w.length
  hd : w.getD 0 0 = b
  nx : ∀ k, k + 1 < w.length → nx1 ms (w.getD k 0) = some (w.getD (k + 1) 0)
  rg : ∀ k, k < w.length → 0 ≤ w.getD k 0 ∧ w.getD k 0 < (n : Int) - 1
section
variable {n : Nat} {ms : List Int} {b : Int} {w w' : List Int}
theorem Wk.det (h : Wk ms n b w) (h' : Wk ms n b w') : ∀ k, k < w.length → k < w'.length → w.getD k 0 = w'.getD k 0
  | 0, _, _ => h.hd.trans h'.hd.symm
  | k + 1, a, c => by
    have ih := Wk.det h h' k (by omega) (by omega)
    have e1 := h.nx k a
    have e2 := h'.nx k c
    rw [ih] at e1
    rw [e1] at e2
    exact Option.some.inj e2
def lastD (w : List Int) : Int := w.getD (w.length - 1) 0
theorem Wk.nd (h : Wk ms n b w) (hb : ∀ k, 1 ≤ k → k < w.length → b < w.getD k 0) (ha : nx1 ms (lastD w) = some b) : ∀ i j, i < j → j < w.length → w.getD i 0 ≠ w.getD j 0 := fun i j hij hj e => by
  have sh : ∀ d, j + d < w.length → w.getD (i + d) 0 = w.getD (j + d) 0 := by
    intro d
    induction d with
    | zero => exact fun _ => e
    | succ d ih =>
      intro hd
      have q := ih (by omega)
      have e1 := h.nx (i + d) (by omega)
      have e2 := h.nx (j + d) (by omega)
      rw [q] at e1
      rw [e1] at e2
      exact Option.some.inj e2
  have e1 := sh (w.length - 1 - j) (by omega)
  rw [show j + (w.length - 1 - j) = w.length - 1 by omega] at e1
  have e2 := h.nx (i + (w.length - 1 - j)) (by omega)
  unfold lastD at ha
  rw [e1, ha] at e2
  have e3 := hb (i + (w.length - 1 - j) + 1) (by omega) (by omega)
  have e4 := Option.some.inj e2
  omega
theorem getD_ext (hl : w.length = w'.length) (h : ∀ k, k < w.length → w.getD k 0 = w'.getD k 0) : w = w' := by
  apply List.ext_getElem? 
  intro k
  by_cases hk : k < w.length
  · have := h k hk
    rw [List.getD_eq_getElem?_getD, List.getD_eq_getElem?_getD, List.getElem?_eq_getElem hk, List.getElem?_eq_getElem (by omega)] at this
    rw [List.getElem?_eq_getElem hk, List.getElem?_eq_getElem (by omega)]
    exact congrArg some this
  · rw [List.getElem?_eq_none (by omega), List.getElem?_eq_none (by omega)]
/-- the package's walk ends -/
structure FinP (ms : List Int) (n : Nat) (b : Int) (w : List Int) : Prop where
  wk : Wk ms n b w
  up : ∀ k, 1 ≤ k → k < w.length → b < w.getD k 0
  ln : w.length ≤ n
  st : ∀ t, nx1 ms (lastD w) = some t → b < t → n ≤ w.length
theorem mem_ix {x : Int} (h : x ∈ w) : ∃ k, k < w.length ∧ w.getD k 0 = x := by
  obtain ⟨k, hk⟩ := List.getElem?_of_mem h
  obtain ⟨hl, e⟩ := List.getElem?_eq_some_iff.mp hk
  exact ⟨k, hl, by rw [List.getD_eq_getElem?_getD, hk]; rfl⟩
def rf (ms : List Int) (s r : Int) : Int := if dn ms s = true then 7 - r else r
theorem lw_7 {s r : Int} (h0 : 0 < r) (h1 : r < 7) : lw (s * 7 + r) 7 = (s * 7 + r, 7) := lw_self (by decide) fun g hg h2 h3 => by
  have l7 := Int.le_of_dvd (by decide) h3
  obtain ⟨k, hk⟩ := h2
  obtain ⟨m, hm⟩ := h3
  have : g = 1 ∨ g = 2 ∨ g = 3 ∨ g = 4 ∨ g = 5 ∨ g = 6 ∨ g = 7 := by omega
  rcases this with rfl | rfl | rfl | rfl | rfl | rfl | rfl <;> omega
theorem step7 (hm : InR n ms) {s t r : Int} (h0 : 0 ≤ s) (h1 : s < (n : Int) - 1) (h : nx1 ms s = some t) (r0 : 0 < r) (r1 : r < 7) : mv1 ms (s * 7 + r, 7) = (t * 7 + rf ms s r, 7) ∧ 0 < rf ms s r ∧ rf ms s r < 7 := by
  have e := strP_on hm h0 h1 (t := s * 7 + r) (b := 7) (by decide) ⟨by omega, by omega⟩
  have e2 : mv1 ms (s * 7 + r, 7) = strP ms (s * 7 + r) 7 := rfl
  have key : aff ms s (s * 7 + r) 7 = t * 7 + rf ms s r := by
    unfold aff sl rf dn
    rw [show s * 7 + r - s * 7 = r by omega]
    unfold nx1 at h
    split at h
    · rename_i c
      have := Option.some.inj h
      unfold loS hiS at c
      unfold loS at this
      by_cases d : ms.getD (s + 1).toNat 0 < ms.getD s.toNat 0
      · rw [if_pos d] at c this
        rw [if_neg (by omega)] at c
        rw [if_pos (decide_eq_true d), show ms.getD (s + 1).toNat 0 - ms.getD s.toNat 0 = -1 by omega]
        omega
      · rw [if_neg d] at c this
        have d2 : ms.getD (s + 1).toNat 0 > ms.getD s.toNat 0 := by
          split at c <;> omega
        rw [if_pos d2] at c
        rw [if_neg (by rw [decide_eq_true_eq]; exact d), show ms.getD (s + 1).toNat 0 - ms.getD s.toNat 0 = 1 by omega]
        omega
    · cases h
  have k2 : 0 < rf ms s r ∧ rf ms s r < 7 := by unfold rf; split <;> omega
  refine ⟨?_, k2⟩
  rw [e2, e, key, lw_7 k2.1 k2.2]
theorem walk7 (hm : InR n ms) : ∀ (w : List Int) (z r : Int), (∀ x ∈ w, 0 ≤ x ∧ x < (n : Int) - 1) → (∀ k, k < w.length → nx1 ms (w.getD k 0) = some (if k + 1 < w.length then w.getD (k + 1) 0 else z)) → w ≠ [] → 0 < r → r < 7 →
    orb ms (w.getD 0 0 * 7 + r, 7) w.length = (z * 7 + w.foldl (fun r s => rf ms s r) r, 7) ∧ 0 < w.foldl (fun r s => rf ms s r) r ∧ w.foldl (fun r s => rf ms s r) r < 7
  | [], _, _, _, _, h, _, _ => absurd rfl h
  | [s], z, r, hx, hn, _, r0, r1 => by
    have e := hn 0 (by simp)
    have hs := hx s List.mem_cons_self
    exact step7 hm hs.1 hs.2 (by simpa using e) r0 r1
  | s :: s' :: w, z, r, hx, hn, _, r0, r1 => by
    have e := hn 0 (by simp)
    have hs := hx s List.mem_cons_self
    obtain ⟨a1, a2, a3⟩ := step7 hm hs.1 hs.2 (t := s') (by simpa using e) r0 r1
    have ih := walk7 hm (s' :: w) z (rf ms s r) (fun x hx' => hx x (List.mem_cons_of_mem _ hx')) (fun k hk => by
      have := hn (k + 1) (by simpa using hk)
      simpa using this) (by simp) a2 a3
    refine ⟨?_, ih.2⟩
    have e1 : (s :: s' :: w).length = 1 + (s' :: w).length := by simp; omega
    rw [e1, orb_add]
    have e2 : orb ms ((s :: s' :: w).getD 0 0 * 7 + r, 7) 1 = (s' * 7 + rf ms s r, 7) := a1
    rw [e2]
    exact ih.1
theorem fold_rf : ∀ (w : List Int) (r : Int), w.foldl (fun r s => rf ms s r) r = if dnc ms w % 2 = 0 then r else 7 - r
  | [], r => by simp [dnc]
  | s :: w, r => by
    rw [List.foldl_cons, fold_rf w]
    unfold rf dnc
    by_cases c : dn ms s = true
    · rw [if_pos c, List.filter_cons_of_pos c, List.length_cons]
      by_cases d : (w.filter (dn ms)).length % 2 = 0
      · rw [if_pos d, if_neg (by omega)]
      · rw [if_neg d, if_pos (by omega)]; omega
    · rw [if_neg c, List.filter_cons_of_neg c]
/-- an accepted walk -/
structure Acc (ms : List Int) (n : Nat) (w : List Int) : Prop where
  wk : Wk ms n (w.getD 0 0) w
  bk : nx1 ms (lastD w) = some (w.getD 0 0)
  ln : w.length ≤ n
theorem Acc.mem (h : Acc ms n w) : ∀ x ∈ w, 0 ≤ x ∧ x < (n : Int) - 1 := fun x hx => by
  obtain ⟨k, hk, rfl⟩ := mem_ix hx
  exact h.wk.rg k hk
theorem Acc.all (h : Acc ms n w) : ∀ k, k < w.length → nx1 ms (w.getD k 0) = some (if k + 1 < w.length then w.getD (k + 1) 0 else w.getD 0 0) := fun k hk => by
  by_cases c : k + 1 < w.length
  · rw [if_pos c]; exact h.wk.nx k c
  · rw [if_neg c, show k = w.length - 1 by omega]; exact h.bk
theorem Acc.ne (h : Acc ms n w) : w ≠ [] := fun z => by have := h.wk.pos; rw [z] at this; cases this
theorem Acc.back (hm : InR n ms) (h : Acc ms n w) {r : Int} (r0 : 0 < r) (r1 : r < 7) : orb ms (w.getD 0 0 * 7 + r, 7) (if dnc ms w % 2 = 0 then w.length else 2 * w.length) = (w.getD 0 0 * 7 + r, 7) := by
  obtain ⟨a1, a2, a3⟩ := walk7 hm w _ r h.mem h.all h.ne r0 r1
  rw [fold_rf] at a1 a2 a3
  by_cases c : dnc ms w % 2 = 0
  · rw [if_pos c] at a1 ⊢; exact a1
  · rw [if_neg c] at a1 a2 a3 ⊢
    obtain ⟨b1, _, _⟩ := walk7 hm w _ (7 - r) h.mem h.all h.ne a2 a3
    rw [fold_rf, if_neg c] at b1
    rw [show 2 * w.length = w.length + w.length by omega, orb_add, a1, b1, show 7 - (7 - r) = r by omega]
end
end Pg
namespace Pg
open PySem PySem.Spec PyProof.Rows L2 T3
section
variable {n : Nat} {ms : List Int} {b : Int} {w w' : List Int}
theorem FinP.uniq (h : FinP ms n b w) (g : FinP ms n b w') : w' = w := by
  have det := h.wk.det g.wk
  have p := h.wk.pos
  have p' := g.wk.pos
  have le : w'.length = w.length := by
    rcases Nat.lt_trichotomy w'.length w.length with c | c | c
    · exfalso
      have e1 := h.wk.nx (w'.length - 1) (by omega)
      rw [det _ (by omega) (by omega), show w'.length - 1 + 1 = w'.length by omega] at e1
      have := g.st _ e1 (h.up _ (by omega) c)
      have := h.ln
      omega
    · exact c
    · exfalso
      have e1 := g.wk.nx (w.length - 1) (by omega)
      rw [← det _ (by omega) (by omega), show w.length - 1 + 1 = w.length by omega] at e1
      have := h.st _ e1 (g.up _ (by omega) c)
      have := g.ln
      omega
  exact getD_ext le fun k hk => (det k (by omega) hk).symm
end
end Pg
namespace Pg
open PySem PySem.Spec PyProof.Rows L2 T3
end Pg
namespace Pg
open PySem PySem.Spec PyProof.Rows L2 T3
section
variable {n m : Nat} {ms : List Int}
theorem InR.at (hm : InR n ms) {x : Int} (h0 : 0 ≤ x) (h1 : x < n) : 0 ≤ ms.getD x.toNat 0 ∧ ms.getD x.toNat 0 < n := hm.get (k := x.toNat) (by omega)
end
end Pg
namespace Pg
open PySem PySem.Spec PyProof.Rows L2 T3
end Pg
namespace Pg
open PySem PySem.Spec PyProof.Rows L2 T3
end Pg
namespace Pg
open PySem PySem.Spec PyProof.Rows L2 T3
end Pg
namespace Pg
open PySem PySem.Spec PyProof.Rows L2 T3
section
variable {n m : Nat} {ms : List Int}
structure StW (ms : List Int) (n : Nat) (w : List Int) : Prop where
  fin : FinP ms n (w.getD 0 0) w
  bk : nx1 ms (lastD w) = some (w.getD 0 0)
theorem StW.least {w : List Int} (s : StW ms n w) {x : Int} (hx : x ∈ w) : w.getD 0 0 ≤ x := by
  obtain ⟨k, hk, rfl⟩ := mem_ix hx
  cases k with
  | zero => exact Int.le_refl _
  | succ k => exact Int.le_of_lt (s.fin.up (k + 1) (by omega) hk)
theorem StW.same {w w' : List Int} (s : StW ms n w) (s' : StW ms n w') (h : ∀ x, x ∈ w ↔ x ∈ w') : w = w' := by
  have hp := s.fin.wk.pos
  have hp' := s'.fin.wk.pos
  have m1 : w.getD 0 0 ∈ w := getD_mem hp
  have m2 : w'.getD 0 0 ∈ w' := getD_mem hp'
  have e : w.getD 0 0 = w'.getD 0 0 := by
    have a := s.least ((h _).mpr m2)
    have b := s'.least ((h _).mp m1)
    omega
  have f := s.fin
  rw [e] at f
  exact f.uniq s'.fin |>.symm
end
end Pg
namespace Pg
open PySem PySem.Spec PyProof.Rows L2 T3
end Pg
namespace Pg
open PySem PySem.Spec PyProof.Rows L2 T3
end Pg
namespace Pg
open PySem PySem.Spec PyProof.Rows L2 T3
end Pg
namespace Pg
open PySem PySem.Spec PyProof.Rows L2 T3 Rg
end Pg
namespace Pg
open PySem PySem.Spec PyProof.Rows L2 T3 Rg
end Pg
namespace Pg
open PySem PySem.Spec PyProof.Rows L2 T3 Rg
end Pg
namespace Pg
open PySem PySem.Spec PyProof.Rows L2 T3 Rg
end Pg
namespace Pg
open PySem PySem.Spec PyProof.Rows L2 T3
section
variable {N : Nat} {f : Nat → Nat}
/-- one to one, below N -/
structure Bij (N : Nat) (f : Nat → Nat) : Prop where
  lt : ∀ a, a < N → f a < N
  inj : ∀ a b, a < N → b < N → f a = f b → a = b
def Rch (f : Nat → Nat) (x y : Nat) : Prop := ∃ k, itA f k x = y
theorem Rch.refl (x : Nat) : Rch f x x := ⟨0, rfl⟩
theorem Rch.trans {x y z : Nat} (a : Rch f x y) (b : Rch f y z) : Rch f x z := by
  obtain ⟨i, rfl⟩ := a
  obtain ⟨j, rfl⟩ := b
  exact ⟨i + j, itA_add f x i j⟩
theorem Rch.step {x y : Nat} (a : Rch f (f x) y) : Rch f x y := (show Rch f x (f x) from ⟨1, rfl⟩).trans a
theorem Bij.it (B : Bij N f) {a : Nat} (ha : a < N) (k : Nat) : itA f k a < N := itA_lt B.lt ha k
theorem Bij.itI (B : Bij N f) {a b : Nat} (ha : a < N) (hb : b < N) : ∀ k, itA f k a = itA f k b → a = b
  | 0, e => e
  | k + 1, e => B.itI ha hb k (B.inj _ _ (B.it ha k) (B.it hb k) e)
/-- each point comes back, and not sooner -/
theorem Bij.per (B : Bij N f) {a : Nat} (ha : a < N) : ∃ L, 1 ≤ L ∧ L ≤ N ∧ itA f L a = a ∧ ∀ j, 1 ≤ j → j < L → itA f j a ≠ a := by
  have pig : ∃ i j, i < j ∧ j ≤ N ∧ itA f i a = itA f j a := by
    refine Classical.byContradiction fun c => ?_
    have nd : ((List.range (N + 1)).map fun k => itA f k a).Nodup := by
      rw [List.Nodup]
      refine List.pairwise_map.mpr (List.Pairwise.imp_of_mem (fun {i j} hi hj h e => ?_) (List.pairwise_lt_range (n := N + 1)))
      have := List.mem_range.mp hj
      exact c ⟨i, j, h, by omega, e⟩
    have := nd.length_le_of_subset (l₂ := List.range N) fun x hx => by
      obtain ⟨k, _, rfl⟩ := List.mem_map.mp hx
      exact List.mem_range.mpr (B.it ha k)
    rw [List.length_map, List.length_range, List.length_range] at this
    omega
  obtain ⟨i, j, hij, hj, e⟩ := pig
  have p0 : itA f (j - i) a = a := by
    have : itA f i (itA f (j - i) a) = itA f i a := by rw [← itA_add, show j - i + i = j by omega, e]
    exact B.itI (B.it ha _) ha i this
  have least : ∀ L0, 1 ≤ L0 → L0 ≤ N → itA f L0 a = a → ∃ L, 1 ≤ L ∧ L ≤ N ∧ itA f L a = a ∧ ∀ j, 1 ≤ j → j < L → itA f j a ≠ a := fun L0 => by
    induction L0 using Nat.strongRecOn with
    | ind L0 ih =>
      intro h1 h2 h3
      by_cases c : ∃ j, 1 ≤ j ∧ j < L0 ∧ itA f j a = a
      · obtain ⟨j, a1, a2, a3⟩ := c
        exact ih j a2 a1 (by omega) a3
      · exact ⟨L0, h1, h2, h3, fun j a1 a2 a3 => c ⟨j, a1, a2, a3⟩⟩
  exact least (j - i) (by omega) (by omega) p0
theorem itA_mul {a L : Nat} (h : itA f L a = a) : ∀ q, itA f (L * q) a = a
  | 0 => rfl
  | q + 1 => by rw [Nat.mul_succ, Nat.add_comm, itA_add, h, itA_mul h q]
theorem Bij.symm (B : Bij N f) {x y : Nat} (hx : x < N) (h : Rch f x y) : Rch f y x := by
  obtain ⟨k, rfl⟩ := h
  obtain ⟨L, l1, l2, l3, _⟩ := B.per hx
  refine ⟨L * (k + 1) - k, ?_⟩
  have hk : k ≤ L * (k + 1) := by
    have := Nat.mul_le_mul_right (k + 1) l1
    omega
  rw [← itA_add, show k + (L * (k + 1) - k) = L * (k + 1) by omega]
  exact itA_mul l3 _
end
end Pg
namespace Pg
open PySem PySem.Spec PyProof.Rows L2 T3
section
variable {n m s N : Nat} {ms gs fs : List Int}
/-- the first k blocks -/
structure Spr (m s : Nat) (gs : List Int) (k : Nat) (acc : List Int) : Prop where
  len : acc.length = k * s
  at_ : ∀ x, x < k * s → 0 ≤ acc.getD x 0 ∧ (acc.getD x 0) / (s : Int) = gs.getD (x / s) 0
  nd : acc.Nodup
theorem Spr.next (hg : InR m gs) (hnd : gs.Nodup) (s1 : 1 ≤ s) {k : Nat} (hk : k < m) {acc ps : List Int} (S : Spr m s gs k acc) (hp : ps.Perm (rgI 0 s)) : Spr m s gs (k + 1) (acc ++ ps.map fun j => gs.getD k 0 * s + j) := by
  have hl := hp.length_eq
  rw [rgI_len] at hl
  have gl := hg.1
  have g := hg.get hk
  have inp : ∀ j ∈ ps, 0 ≤ j ∧ j < s := fun j hj => by
    have := rgI_mem.mp (hp.mem_iff.mp hj)
    exact this
  have seg : ∀ y ∈ ps.map (fun j => gs.getD k 0 * s + j), 0 ≤ y ∧ y / (s : Int) = gs.getD k 0 := fun y hy => by
    obtain ⟨j, hj, rfl⟩ := List.mem_map.mp hy
    have h1 := inp j hj
    have h0 : 0 ≤ gs.getD k 0 * (s : Int) := Int.mul_nonneg g.1 (by omega)
    refine ⟨by omega, ?_⟩
    rw [Int.mul_comm, Int.mul_add_ediv_left _ _ (by omega), Int.ediv_eq_zero_of_lt h1.1 h1.2, Int.add_zero]
  refine ⟨by rw [List.length_append, List.length_map, S.len, Nat.succ_mul]; omega, fun x hx => ?_, ?_⟩
  · by_cases c : x < k * s
    · rw [List.getD_eq_getElem?_getD, List.getElem?_append_left (by rw [S.len]; exact c), ← List.getD_eq_getElem?_getD]
      exact S.at_ x c
    · rw [Nat.succ_mul] at hx
      have ex : x / s = k := by
        rw [Nat.div_eq_iff (by omega)]
        omega
      rw [ex]
      have h4 : x - k * s < (ps.map fun j => gs.getD k 0 * s + j).length := by rw [List.length_map]; omega
      rw [List.getD_eq_getElem?_getD, List.getElem?_append_right (by rw [S.len]; omega), S.len, List.getElem?_eq_getElem h4]
      exact seg _ (List.getElem_mem h4)
  · refine List.nodup_append.mpr ⟨S.nd, ?_, fun x hx y hy e => ?_⟩
    · have h8 : (rgI 0 (s : Int)).Nodup := by
        rw [rgI_nat]
        exact List.pairwise_map.mpr ((List.pairwise_lt_range (n := s)).imp fun h e => by omega)
      exact List.pairwise_map.mpr ((hp.nodup_iff.mpr h8).imp fun h e => h (by omega))
    · subst e
      obtain ⟨i, hi, rfl⟩ := List.mem_iff_getElem.mp hx
      have h5 := S.at_ i (by rw [← S.len]; exact hi)
      rw [List.getD_eq_getElem?_getD, List.getElem?_eq_getElem hi] at h5
      have h6 := (seg _ hy).2
      have h7 : gs.getD (i / s) 0 = gs.getD k 0 := h5.2.symm.trans h6
      have lt : i / s < k := by rw [Nat.div_lt_iff_lt_mul (by omega), ← S.len]; exact hi
      rw [List.getD_eq_getElem?_getD, List.getD_eq_getElem?_getD, List.getElem?_eq_getElem (by omega), List.getElem?_eq_getElem (by omega)] at h7
      have := (List.getElem_inj hnd).mp h7
      omega
end
end Pg
namespace Rg
open Pg T3
end Rg
namespace Pg
open PySem PySem.Spec PyProof.Rows L2 T3 Rg
end Pg
namespace Pg
open PySem PySem.Spec PyProof.Rows L2 T3 Rg
end Pg
namespace Pg
open PySem PySem.Spec PyProof.Rows L2 T3
end Pg
namespace Pg
open PySem PySem.Spec PyProof.Rows L2 T3
end Pg
namespace Pg
open PySem PySem.Spec PyProof.Rows L2 T3 Rg
end Pg
namespace Pg
open PySem PySem.Spec PyProof.Rows L2 T3 Rg
end Pg
namespace Pg
open PySem PySem.Spec PyProof.Rows L2 T3 Rg
end Pg
namespace Pg
open PySem PySem.Spec PyProof.Rows L2 T3 Rg
end Pg
namespace Pg
open PySem PySem.Spec PyProof.Rows L2 T3
end Pg
namespace Pg
open PySem PySem.Spec PyProof.Rows L2 T3
end Pg
namespace Pg
open PySem PySem.Spec PyProof.Rows L2 T3
section
variable {n : Nat} {ms r : List Int} {a : Nat}
structure MinR (ms : List Int) (a : Nat) (r : List Int) (m L : Nat) : Prop where
  e : r = cyc ms m L
  l1 : 1 ≤ L
  bk : itA (stp ms) L m = m
  nb : ∀ j, 1 ≤ j → j < L → itA (stp ms) j m ≠ m
  fr : ∃ j, itA (stp ms) j a = m
  lo : ∀ j, m ≤ itA (stp ms) j m
theorem itA_per {m L : Nat} (bk : itA (stp ms) L m = m) (q : Nat) : ∀ j, itA (stp ms) (L * q + j) m = itA (stp ms) j m := fun j => by
  have : ∀ q, itA (stp ms) (L * q) m = m := fun q => by
    induction q with
    | zero => rfl
    | succ q ih => rw [Nat.mul_succ, itA_add, ih, bk]
  rw [itA_add, this]
theorem MinR.uniq {r' : List Int} {m L m' L' : Nat} (h : MinR ms a r m L) (h' : MinR ms a r' m' L') : r = r' := by
  have key : ∀ {r r' : List Int} {m L m' L' : Nat}, MinR ms a r m L → MinR ms a r' m' L' → m ≤ m' := fun {r r' m L m' L'} h h' => by
    obtain ⟨j, hj⟩ := h.fr
    obtain ⟨k, hk⟩ := h'.fr
    have e : itA (stp ms) (j * L' + k - j) m = m' := by
      have p := h'.l1
      have le : j ≤ j * L' := Nat.le_mul_of_pos_right _ p
      rw [← hj, ← itA_add, show j + (j * L' + k - j) = k + L' * j by rw [Nat.mul_comm L' j]; omega, itA_add, hk]
      have := itA_per h'.bk j 0
      rw [Nat.add_zero] at this
      exact this
    rw [← e]
    exact h.lo _
  have em : m = m' := Nat.le_antisymm (key h h') (key h' h)
  subst em
  have el : L = L' := by
    rcases Nat.lt_trichotomy L L' with c | c | c
    · exact absurd h.bk (h'.nb L h.l1 c)
    · exact c
    · exact absurd h'.bk (h.nb L' h'.l1 c)
  subst el
  rw [h.e, h'.e]
end
end Pg
namespace Pg
open PySem PySem.Spec PyProof.Rows L2 T3 Rg
end Pg
namespace Pg
open PySem PySem.Spec PyProof.Rows L2 T3 Rg
end Pg
namespace Pg
open PySem PySem.Spec PyProof.Rows L2 T3 Rg
end Pg
namespace Pg
open PySem PySem.Spec PyProof.Rows L2 T3 Rg
end Pg
namespace Pg
open PySem PySem.Spec PyProof.Rows L2 T3 Rg
end Pg
namespace Pg
open PySem PySem.Spec PyProof.Rows L2 T3
structure WelS where
  a : Int
  x : Int
  c : Int
  hx : x.natAbs < 10 ^ 60
  hc : 0 ≤ c
def WelS.enc (p : WelS) : D := .list [.int p.a, .int p.x, .int p.c]
end Pg
namespace Pg
open PySem PySem.Spec PyProof.Rows L2 T3 Rg
end Pg
namespace Pg
open PySem PySem.Spec PyProof.Rows L2 T3 Rg
/-- the goals of a table -/
def gm (ms : List Int) (y : Int) : Int := ms.getD y.toNat 0
end Pg
namespace Pg
open PySem PySem.Spec PyProof.Rows L2 T3
end Pg
namespace Pg
open PySem PySem.Spec PyProof.Rows L2 T3 Rg
section
variable {rows qs ds ds' : Ips} {W W' D : List Int} {φ : Int → Int}
/-- no place twice -/
abbrev Nk (rows : Ips) : Prop := (rows.map (·.1)).Nodup
theorem look_of {q : Int × Int} : ∀ l : Ips, Nk l → q ∈ l → lookI l q.1 = some q.2 := by
  intro l
  induction l with
  | nil => intro _ h; cases h
  | cons z l ih =>
    intro nd hq
    unfold Nk at nd ih
    rw [List.map_cons, List.nodup_cons] at nd
    unfold lookI at ih ⊢
    rw [List.find?_cons]
    rcases List.mem_cons.mp hq with rfl | hq
    · rw [decide_eq_true rfl]; rfl
    · have ne : ¬ z.1 = q.1 := fun c => nd.1 (by rw [c]; exact List.mem_map.mpr ⟨q, hq, rfl⟩)
      rw [decide_eq_false ne]
      exact ih nd.2 hq
theorem look_mem (nd : Nk rows) {y g : Int} : lookI rows y = some g ↔ (y, g) ∈ rows := by
  constructor
  · intro h
    have k : y ∈ rows.map (·.1) := look_key.mp (by rw [h]; rfl)
    obtain ⟨q, hq, rfl⟩ := List.mem_map.mp k
    have := look_of rows nd hq
    rw [h] at this
    rw [Option.some.inj this]; exact hq
  · intro h
    exact look_of rows nd h
def ledI (φ : Int → Int) (rows : Ips) : Ips := rows.map fun q => (φ q.1, φ q.2)
structure Img (D : List Int) (φ : Int → Int) (rows : Ips) : Prop where
  inj : ∀ x ∈ D, ∀ y ∈ D, φ x = φ y → x = y
  dom : ∀ q ∈ rows, q.1 ∈ D ∧ q.2 ∈ D
  nd : Nk rows
theorem Img.nk (I : Img D φ rows) : Nk (ledI φ rows) := by
  have h := I.nd
  unfold Nk at h ⊢
  unfold ledI
  rw [List.map_map]
  unfold List.Nodup at h ⊢
  rw [List.pairwise_map] at h ⊢
  exact h.imp_of_mem fun {a b} ha hb ne e => ne (I.inj _ (I.dom a ha).1 _ (I.dom b hb).1 e)
theorem Img.keyD (I : Img D φ rows) {x : Int} (h : (lookI rows x).isSome = true) : x ∈ D ∧ goI rows x ∈ D := by
  obtain ⟨g, e⟩ := Option.isSome_iff_exists.mp h
  have m := (look_mem I.nd).mp e
  have := I.dom _ m
  refine ⟨this.1, ?_⟩
  unfold goI
  rw [e]
  exact this.2
theorem Img.look (I : Img D φ rows) {x : Int} (hx : x ∈ D) : lookI (ledI φ rows) (φ x) = (lookI rows x).map φ := by
  cases e : lookI rows x with
  | some g =>
    have m := (look_mem I.nd).mp e
    exact (look_mem I.nk).mpr (List.mem_map.mpr ⟨_, m, rfl⟩)
  | none =>
    cases e2 : lookI (ledI φ rows) (φ x) with
    | none => rfl
    | some g =>
      obtain ⟨q, hq, z⟩ := List.mem_map.mp ((look_mem I.nk).mp e2)
      have e3 := I.inj _ (I.dom q hq).1 _ hx (congrArg Prod.fst z)
      have := look_of rows I.nd hq
      rw [e3, e] at this
      cases this
theorem Img.go (I : Img D φ rows) {x : Int} (h : (lookI rows x).isSome = true) : goI (ledI φ rows) (φ x) = φ (goI rows x) := by
  unfold goI
  rw [I.look (I.keyD h).1]
  obtain ⟨g, e⟩ := Option.isSome_iff_exists.mp h
  rw [e]; rfl
theorem Img.sub (I : Img D φ rows) (w : Who rows W) : ∀ y ∈ W.map φ, (lookI (ledI φ rows) y).isSome = true ∧ goI (ledI φ rows) y ∈ W.map φ := fun y hy => by
  obtain ⟨x, hx, rfl⟩ := List.mem_map.mp hy
  obtain ⟨a, b⟩ := w.sub x hx
  refine ⟨by rw [I.look (I.keyD a).1, Option.isSome_map]; exact a, ?_⟩
  rw [I.go a]
  exact List.mem_map.mpr ⟨_, b, rfl⟩
end
end Pg
namespace Pg
open PySem PySem.Spec PyProof.Rows L2 T3 Rg
end Pg
namespace Pg
open PySem PySem.Spec PyProof.Rows L2 T3 Rg
end Pg
namespace Pg
open PySem PySem.Spec PyProof.Rows L2 T3 Rg
end Pg
namespace T3
open PySem PySem.Spec PyProof.Rows L2
end T3
namespace Pg
open PySem PySem.Spec PyProof.Rows L2 T3
end Pg
namespace Pg
open PySem PySem.Spec PyProof.Rows L2 T3
end Pg
namespace Pg
open PySem PySem.Spec PyProof.Rows L2 T3
end Pg
namespace Pg
open PySem PySem.Spec PyProof.Rows L2 T3 Rg
end Pg
namespace Pg
open PySem PySem.Spec PyProof.Rows L2 T3 Rg
section
variable {n m : Nat} {ms a b : List Int}
def Pln (c : Cell) : Prop := c = .no ∨ ∃ d, c = .v d
theorem Pln.par {c : Cell} (h : Pln c) : isPar c = false := by
  rcases h with rfl | ⟨d, rfl⟩ <;> rfl
end
end Pg
namespace Pg
open PySem PySem.Spec PyProof.Rows L2 T3 Rg
end Pg
namespace Pg
open PySem PySem.Spec PyProof.Rows L2 T3 Rg
end Pg
namespace Pg
open PySem PySem.Spec PyProof.Rows L2 T3 Rg
end Pg
namespace Pg
open PySem PySem.Spec PyProof.Rows L2 T3 Rg
end Pg
namespace Pg
open PySem PySem.Spec PyProof.Rows L2 T3 Rg
section
variable {n : Nat} {ms a L W : List Int} {ps : Ips}
/-- a past of right sights -/
structure Pst (n : Nat) (ms : List Int) (ps : Ips) : Prop where
  go : ∀ q ∈ ps, q.2 = gm ms q.1
  rg : ∀ q ∈ ps, 0 ≤ q.1 ∧ q.1 < n
  le : ps.length ≤ 30
/-- a place that was seen -/
def Sn (ps : Ips) (y : Int) : Prop := y ∈ ps.map (·.1)
theorem Pst.kn (h : Pst n ms ps) : Kn (gm ms) (Sn ps) (dcI ps) := Kn.dc h.go
theorem Pst.nil : Pst n ms [] := ⟨(fun _ h => nomatch h), (fun _ h => nomatch h), Nat.zero_le _⟩
theorem Pst.look (h : Pst n ms ps) (p : Int) : (lookI (dcI ps) p).getD (gm ms p) = gm ms p := by
  by_cases c : Sn ps p
  · rw [h.kn.at_ p c]; rfl
  · rw [h.kn.no p c]; rfl
end
end Pg
namespace Pg
open PySem PySem.Spec PyProof.Rows L2 T3 Rg
end Pg
namespace Pg
open PySem PySem.Spec PyProof.Rows L2 T3 Rg
end Pg
namespace Pg
open PySem PySem.Spec PyProof.Rows L2 T3 Rg
end Pg
namespace Pg
open PySem PySem.Spec PyProof.Rows L2 T3 Rg
end Pg
namespace Pg
open PySem PySem.Spec PyProof.Rows L2 T3 Rg
end Pg
namespace Pg
open PySem PySem.Spec PyProof.Rows L2 T3 Rg
end Pg
namespace Pg
open PySem PySem.Spec PyProof.Rows L2 T3 Rg
end Pg
namespace Pg
open PySem PySem.Spec PyProof.Rows L2 T3 Rg
section
variable {ps qs : Ips} {W : List Int}
structure Good (ps : Ips) : Prop where
  len : ps.length ≤ 7
  fn : ∃ f : Int → Int, ∀ q ∈ ps, q.2 = f q.1
  rg : ∀ q ∈ ps, (0 ≤ q.1 ∧ q.1 < 5) ∧ 0 ≤ q.2 ∧ q.2 ≤ 10 ^ 38
theorem Good.kn (G : Good ps) : ∃ f, Kn f (fun y => y ∈ ps.map (·.1)) (dcI ps) ∧ ∀ q ∈ ps, q.2 = f q.1 := by
  obtain ⟨f, hf⟩ := G.fn
  exact ⟨f, Kn.dc hf, hf⟩
theorem Good.look (G : Good ps) {q : Int × Int} (h : q ∈ ps) : lookI (dcI ps) q.1 = some q.2 := by
  obtain ⟨f, K, hf⟩ := G.kn
  rw [hf q h]
  exact K.at_ _ (List.mem_map.mpr ⟨q, h, rfl⟩)
theorem Good.sub (G : Good ps) {q : Int × Int} (h : q ∈ dcI ps) : q ∈ ps := by
  obtain ⟨f, K, hf⟩ := G.kn
  have h1 := K.mem q h
  have h2 : q.1 ∈ ps.map (·.1) := K.keys.mp (List.mem_map.mpr ⟨q, h, rfl⟩)
  obtain ⟨q', h3, h4⟩ := List.mem_map.mp h2
  have h5 := hf q' h3
  have : q = q' := Prod.ext h4.symm (by rw [h1, h5, h4])
  rw [this]; exact h3
theorem Good.no (G : Good ps) {y : Int} (h : y < 0 ∨ 5 ≤ y) : lookI (dcI ps) y = none := by
  obtain ⟨f, K, hf⟩ := G.kn
  refine K.no _ fun z => ?_
  obtain ⟨q', h3, h4⟩ := List.mem_map.mp z
  have := (G.rg q' h3).1
  omega
end
end Pg
namespace Pg
open PySem PySem.Spec PyProof.Rows L2 T3 Rg
end Pg
namespace Pg
open PySem PySem.Spec PyProof.Rows L2 T3 Rg
section
variable {ps : Ips} {s0 c3 c4 c5 c7 c8 c9 : Cell} {k : Int}
theorem Good.nil : Good [] := ⟨by decide, ⟨fun y => y, fun q h => absurd h (by simp)⟩, fun q h => absurd h (by simp)⟩
end
end Pg
namespace Pg
open PySem PySem.Spec PyProof.Rows L2 T3 Rg
end Pg
namespace Pg
open PySem PySem.Spec PyProof.Rows L2 T3 Rg
end Pg
namespace Pg
open PySem PySem.Spec PyProof.Rows L2 T3
end Pg
namespace Pg
open PySem PySem.Spec PyProof.Rows L2 T3 Rg
open SX (S)
theorem cut_to {l : List Nat} {n : Nat} (h : l.length ≤ 1000000) : cutS (S l) none (some (n : Int)) = S (l.take n) := by
  rw [C8.cutS_slice, SX.slice_to (by omega), Int.toNat_natCast]
theorem cut_from {l : List Nat} {n : Nat} (h : l.length ≤ 1000000) : cutS (S l) (some (n : Int)) none = S (l.drop n) := by
  rw [C8.cutS_slice, SX.slice_from (by omega), Int.toNat_natCast]
end Pg
namespace Pg
open PySem PySem.Spec PyProof.Rows L2 T3 Rg
open SX (S)
open TL (numL)
end Pg
namespace Pg
open PySem PySem.Spec PyProof.Rows L2 T3
end Pg
namespace Pg
open PySem PySem.Spec PyProof.Rows L2 T3 Rg
end Pg
namespace Pg
open PySem PySem.Spec PyProof.Rows L2 T3 Rg
end Pg
namespace Pg
open PySem PySem.Spec PyProof.Rows L2 T3 Rg
open SX (S)
open TL (numL)
end Pg
namespace Pg
open PySem PySem.Spec PyProof.Rows L2 T3 Rg
open SX (S)
open TL (numL)
end Pg
namespace Pg
open PySem PySem.Spec PyProof.Rows L2 T3 Rg
open SX (S)
open TL (numL)
end Pg
namespace Pg
open PySem PySem.Spec PyProof.Rows L2 T3 Rg
open SX (S)
open TL (numL)
end Pg
namespace Pg
open PySem PySem.Spec PyProof.Rows L2 T3 Rg
open SX (S)
open TL (numL)
end Pg
namespace Pg
open PySem PySem.Spec PyProof.Rows L2 T3 Rg
open SX (S)
open TL (numL)
def rp (n c : Nat) : List Nat := List.replicate n c
/-- the texts of the law's last rows -/
def ta : List Nat := rp 40 57
def td : List Nat := ta ++ [47]
def tg : List Nat := rp 39 57
def te : List Nat := td ++ tg
def tf : List Nat := te ++ [56]
def tk : List Nat := rp 40 48
end Pg
namespace Pg
open PySem PySem.Spec PyProof.Rows L2 T3 Rg
open SX (S)
open TL (numL)
def tot (ws : List (List Nat)) : Nat := (ws.map (·.length)).sum + ws.length
theorem tot_cons (w : List Nat) (ws : List (List Nat)) : tot (w :: ws) = w.length + 1 + tot ws := by
  unfold tot
  simp only [List.map_cons, List.sum_cons, List.length_cons]
  omega
theorem join_SS {y : List Nat} (hy : y.length ≤ 1) {ws : List (List Nat)} (h : tot ws ≤ 16000000) : dJoinT (.str (S y)) (.list (ws.map fun w => .str (S w))) = some (.val (.str (S (TL.joinL y ws)))) := by
  have e : (ws.map fun w => PyData.str (S w)) = (ws.map S).map PyData.str := by rw [List.map_map]; rfl
  rw [e, join_tt]
  · rw [SX.join_S]
  · rw [SX.lens, List.length_map, SX.S_len]
    unfold tot at h
    have : ws.length * y.length ≤ ws.length * 1 := Nat.mul_le_mul_left _ hy
    omega
end Pg
namespace Pg
open PySem PySem.Spec PyProof.Rows L2 T3
open SX (S)
theorem kMkE_v (x : Str) (o : Op) (e : En) : kMkE x o e = (match res o e with | some _ => .ok (.val (erD x)) e | none => .bad) := Eq.trans rfl (Eq.refl _)
theorem kMkP_v {x : Str} {o : Op} {e : En} {d : D} {v : V} (hv : plV d = some v) (h : res o e = some d) : kMkP x o e = .ok (.val (erpD x d)) e := kv_mkP h hv
theorem kIsK_v {ys : List Str} {d : D} {nm : Str} {e : En} (hn : erN d = some nm) (hc : nms_k06.contains nm = true) : kIsK nms_k06 ys (.slot 0) (.v d :: e) = .ok (.val (.bool (isC nm ys))) (.v d :: e) := kv_isK (d := d) (by simp (disch := first | assumption | omega | decide) only [ev0, ev1, ev2, ev3, ev4, ev5, ev6, dList, dTup, mutS, borS, argsD, nodupB, putM, frzN, safeOp, safeD, safeDs, wipeE, restore, argCells, List.getD_cons_zero, List.getD_cons_succ, List.set_cons_zero, List.set_cons_succ, List.length_cons, List.length_nil, List.cons_append, List.nil_append, List.append_nil, List.replicate_succ, List.replicate_zero, List.not_mem_nil, List.mem_cons, if_true, if_false, ite_true, ite_false, Bool.true_and, Bool.and_true, Bool.not_true, Bool.not_false, Bool.false_eq_true, reduceIte, List.getElem?_cons_zero, List.getElem?_cons_succ, List.all_nil, List.all_cons, List.contains_nil, Option.map_some, Option.map_none, Option.bind_some, and_self, and_true, true_and, or_false, false_or, or_true, true_or, Nat.reduceAdd, Nat.reduceSub, Nat.reduceLT, Nat.reduceLeDiff, Nat.reduceEqDiff, Nat.zero_add, eq_self, true_implies, not_false_eq_true, not_true_eq_false, Nat.lt_irrefl, Nat.succ_ne_zero, Nat.lt_add_one, ne_eq, Int.reduceEq, Int.reduceNe, decide_true, decide_false, Nat.zero_lt_succ, Bool.not_eq_true', decide_not, Nat.add_one_ne_zero, Nat.zero_le, Nat.le_refl, Bool.or_true, Bool.or_false, Bool.true_or, Bool.false_or, Bool.and_false, Bool.false_and, Nat.reduceMul, isiB, String.reduceBEq, Bool.or_self, Bool.and_self, reduceCtorEq, isSS, List.contains_cons, Nat.reduceBEq, ix_ll, eq_ln, ne_ln, List.length_map, List.length_range, Int.reduceToNat, Int.reducePow, Int.reduceMul, Int.reduceAdd, Int.reduceSub, Int.reduceNeg, Int.reduceLE, Int.reduceLT, Int.toNat_natCast, Bool.and_eq_true, Bool.or_eq_true, decide_eq_true_eq, Bool.decide_eq_true, rep_d, List.length_append, List.length_reverse, map_snoc, map_app, Int.sub_zero, List.append_assoc, ite_self]) hn hc
def er06 (f : D) : List D := [erD "InvalidMoves", erD "InvalidTurn", erD "InvalidTurns", erD "InvalidPlace", erD "InvalidStretch", erD "InvalidLoop", erD "InvalidPoint", erD "InvalidRing", erD "InvalidRate", erD "InvalidMany", erD "InvalidTicks", erD "InvalidIndex", erD "InvalidSight", erD "InvalidCommand", erD "NotLoose", erD "NotForced", erD "OtherGoal", erD "NothingToUndo", erpD "InvalidText" f]
theorem made06 {t : Str} {f : D} {v : V} (h : plV f = some v) : m_l_made [.str t, f] = .ok (.new (.list (er06 f))) [] := by
  have hs : ∀ (e : En) c, kMkP "InvalidText" (.slot 1) (c :: .v f :: e) = .ok (.val (erpD "InvalidText" f)) (c :: .v f :: e) := fun e c => kMkP_v h (by simp (disch := first | assumption | omega | decide) only [ev0, ev1, ev2, ev3, ev4, ev5, ev6, dList, dTup, mutS, borS, argsD, nodupB, putM, frzN, safeOp, safeD, safeDs, wipeE, restore, argCells, List.getD_cons_zero, List.getD_cons_succ, List.set_cons_zero, List.set_cons_succ, List.length_cons, List.length_nil, List.cons_append, List.nil_append, List.append_nil, List.replicate_succ, List.replicate_zero, List.not_mem_nil, List.mem_cons, if_true, if_false, ite_true, ite_false, Bool.true_and, Bool.and_true, Bool.not_true, Bool.not_false, Bool.false_eq_true, reduceIte, List.getElem?_cons_zero, List.getElem?_cons_succ, List.all_nil, List.all_cons, List.contains_nil, Option.map_some, Option.map_none, Option.bind_some, and_self, and_true, true_and, or_false, false_or, or_true, true_or, Nat.reduceAdd, Nat.reduceSub, Nat.reduceLT, Nat.reduceLeDiff, Nat.reduceEqDiff, Nat.zero_add, eq_self, true_implies, not_false_eq_true, not_true_eq_false, Nat.lt_irrefl, Nat.succ_ne_zero, Nat.lt_add_one, ne_eq, Int.reduceEq, Int.reduceNe, decide_true, decide_false, Nat.zero_lt_succ, Bool.not_eq_true', decide_not, Nat.add_one_ne_zero, Nat.zero_le, Nat.le_refl, Bool.or_true, Bool.or_false, Bool.true_or, Bool.false_or, Bool.and_false, Bool.false_and, Nat.reduceMul, isiB, String.reduceBEq, Bool.or_self, Bool.and_self, reduceCtorEq, isSS, List.contains_cons, Nat.reduceBEq, ix_ll, eq_ln, ne_ln, List.length_map, List.length_range, Int.reduceToNat, Int.reducePow, Int.reduceMul, Int.reduceAdd, Int.reduceSub, Int.reduceNeg, Int.reduceLE, Int.reduceLT, Int.toNat_natCast, Bool.and_eq_true, Bool.or_eq_true, decide_eq_true_eq, Bool.decide_eq_true, rep_d, List.length_append, List.length_reverse, map_snoc, map_app, Int.sub_zero, List.append_assoc, ite_self])
  unfold m_l_made b_l_made er06
  simp (disch := first | assumption | omega | decide) only [ev0, ev1, ev2, ev3, ev4, ev5, ev6, dList, dTup, mutS, borS, argsD, nodupB, putM, frzN, safeOp, safeD, safeDs, wipeE, restore, argCells, List.getD_cons_zero, List.getD_cons_succ, List.set_cons_zero, List.set_cons_succ, List.length_cons, List.length_nil, List.cons_append, List.nil_append, List.append_nil, List.replicate_succ, List.replicate_zero, List.not_mem_nil, List.mem_cons, if_true, if_false, ite_true, ite_false, Bool.true_and, Bool.and_true, Bool.not_true, Bool.not_false, Bool.false_eq_true, reduceIte, List.getElem?_cons_zero, List.getElem?_cons_succ, List.all_nil, List.all_cons, List.contains_nil, Option.map_some, Option.map_none, Option.bind_some, and_self, and_true, true_and, or_false, false_or, or_true, true_or, Nat.reduceAdd, Nat.reduceSub, Nat.reduceLT, Nat.reduceLeDiff, Nat.reduceEqDiff, Nat.zero_add, eq_self, true_implies, not_false_eq_true, not_true_eq_false, Nat.lt_irrefl, Nat.succ_ne_zero, Nat.lt_add_one, ne_eq, Int.reduceEq, Int.reduceNe, decide_true, decide_false, Nat.zero_lt_succ, Bool.not_eq_true', decide_not, Nat.add_one_ne_zero, Nat.zero_le, Nat.le_refl, Bool.or_true, Bool.or_false, Bool.true_or, Bool.false_or, Bool.and_false, Bool.false_and, Nat.reduceMul, isiB, String.reduceBEq, Bool.or_self, Bool.and_self, reduceCtorEq, isSS, List.contains_cons, Nat.reduceBEq, ix_ll, eq_ln, ne_ln, List.length_map, List.length_range, Int.reduceToNat, Int.reducePow, Int.reduceMul, Int.reduceAdd, Int.reduceSub, Int.reduceNeg, Int.reduceLE, Int.reduceLT, Int.toNat_natCast, Bool.and_eq_true, Bool.or_eq_true, decide_eq_true_eq, Bool.decide_eq_true, rep_d, List.length_append, List.length_reverse, map_snoc, map_app, Int.sub_zero, List.append_assoc, ite_self, ev_mkE, ev_mkP, kMkE_v, hs]
def wh06 (n : Str) : List D := [.bool (isC n ["InvalidMoves"]), .bool (isC n ["InvalidTurn"]), .bool (isC n ["InvalidTurns"]), .bool (isC n ["InvalidPlace"]), .bool (isC n ["InvalidStretch"]), .bool (isC n ["InvalidLoop"]), .bool (isC n ["InvalidPoint"]), .bool (isC n ["InvalidRing"]), .bool (isC n ["InvalidRate"]), .bool (isC n ["InvalidMany"]), .bool (isC n ["InvalidTicks"]), .bool (isC n ["InvalidIndex"]), .bool (isC n ["InvalidSight"]), .bool (isC n ["InvalidCommand"]), .bool (isC n ["NotLoose"]), .bool (isC n ["NotForced"]), .bool (isC n ["OtherGoal"]), .bool (isC n ["NothingToUndo"]), .bool (isC n ["InvalidText"])]
theorem which06 {d : D} {nm : Str} (hn : erN d = some nm) (hc : nms_k06.contains nm = true) : m_l_which [d] = .ok (.new (.list (wh06 nm))) [] := by
  have hs := fun ys (e : En) => kIsK_v (ys := ys) (e := e) hn hc
  unfold m_l_which b_l_which wh06
  simp (disch := first | assumption | omega | decide) only [ev0, ev1, ev2, ev3, ev4, ev5, ev6, dList, dTup, mutS, borS, argsD, nodupB, putM, frzN, safeOp, safeD, safeDs, wipeE, restore, argCells, List.getD_cons_zero, List.getD_cons_succ, List.set_cons_zero, List.set_cons_succ, List.length_cons, List.length_nil, List.cons_append, List.nil_append, List.append_nil, List.replicate_succ, List.replicate_zero, List.not_mem_nil, List.mem_cons, if_true, if_false, ite_true, ite_false, Bool.true_and, Bool.and_true, Bool.not_true, Bool.not_false, Bool.false_eq_true, reduceIte, List.getElem?_cons_zero, List.getElem?_cons_succ, List.all_nil, List.all_cons, List.contains_nil, Option.map_some, Option.map_none, Option.bind_some, and_self, and_true, true_and, or_false, false_or, or_true, true_or, Nat.reduceAdd, Nat.reduceSub, Nat.reduceLT, Nat.reduceLeDiff, Nat.reduceEqDiff, Nat.zero_add, eq_self, true_implies, not_false_eq_true, not_true_eq_false, Nat.lt_irrefl, Nat.succ_ne_zero, Nat.lt_add_one, ne_eq, Int.reduceEq, Int.reduceNe, decide_true, decide_false, Nat.zero_lt_succ, Bool.not_eq_true', decide_not, Nat.add_one_ne_zero, Nat.zero_le, Nat.le_refl, Bool.or_true, Bool.or_false, Bool.true_or, Bool.false_or, Bool.and_false, Bool.false_and, Nat.reduceMul, isiB, String.reduceBEq, Bool.or_self, Bool.and_self, reduceCtorEq, isSS, List.contains_cons, Nat.reduceBEq, ix_ll, eq_ln, ne_ln, List.length_map, List.length_range, Int.reduceToNat, Int.reducePow, Int.reduceMul, Int.reduceAdd, Int.reduceSub, Int.reduceNeg, Int.reduceLE, Int.reduceLT, Int.toNat_natCast, Bool.and_eq_true, Bool.or_eq_true, decide_eq_true_eq, Bool.decide_eq_true, rep_d, List.length_append, List.length_reverse, map_snoc, map_app, Int.sub_zero, List.append_assoc, ite_self, ev_isK, hs]
end Pg
namespace Pg
open PySem PySem.Spec PyProof.Rows L2 T3
open SX (S)
/-- the names of the classes, in the law's sequence -/
def nm06 : List Str := ["InvalidMoves", "InvalidTurn", "InvalidTurns", "InvalidPlace", "InvalidStretch", "InvalidLoop", "InvalidPoint", "InvalidRing", "InvalidRate", "InvalidMany", "InvalidTicks", "InvalidIndex", "InvalidSight", "InvalidCommand", "NotLoose", "NotForced", "OtherGoal", "NothingToUndo", "InvalidText"]
def opB : Option Op → Option Bool
  | some (.val (.bool b)) => some b
  | _ => none
theorem opB_eq {x : Option Op} {b : Bool} (h : opB x = some b) : x = some (.val (.bool b)) := by
  unfold opB at h
  split at h
  · cases h; rfl
  · cases h
theorem er_nm {f : D} {k : Nat} (hk : k < 19) : ∃ nm d, nm06[k]? = some nm ∧ (er06 f)[k]? = some d ∧ erN d = some nm ∧ nms_k06.contains nm = true ∧ isC nm ["TurnError"] = true := by
  have : k = 0 ∨ k = 1 ∨ k = 2 ∨ k = 3 ∨ k = 4 ∨ k = 5 ∨ k = 6 ∨ k = 7 ∨ k = 8 ∨ k = 9 ∨ k = 10 ∨ k = 11 ∨ k = 12 ∨ k = 13 ∨ k = 14 ∨ k = 15 ∨ k = 16 ∨ k = 17 ∨ k = 18 := by omega
  rcases this with rfl | rfl | rfl | rfl | rfl | rfl | rfl | rfl | rfl | rfl | rfl | rfl | rfl | rfl | rfl | rfl | rfl | rfl | rfl <;> exact ⟨_, _, rfl, rfl, rfl, by decide +kernel, by decide +kernel⟩
def ks06 (k : Int) : List D := (rgI 0 19).map fun o => .bool (decide (o = k))
theorem ne06 {k : Nat} {nm : Str} (h : nm06[k]? = some nm) : dNe (.list (wh06 nm)) (.list (ks06 k)) = some (.val (.bool false)) := by
  have key : (List.range 19).all (fun k => match nm06[k]? with | some nm => opB (dNe (.list (wh06 nm)) (.list (ks06 k))) == some false | none => false) = true := by decide +kernel
  have hk : k < 19 := (List.getElem?_eq_some_iff.mp h).1
  have q := List.all_eq_true.mp key k (List.mem_range.mpr hk)
  rw [h] at q
  exact opB_eq (by simpa using q)
theorem ix06 {r : Int} (h0 : 0 ≤ r) (h1 : r < 8) : ∃ c : Nat, dIx (.str " abcz0/-") (.int r) = some (.val (.str (S [c]))) := by
  have : r = 0 ∨ r = 1 ∨ r = 2 ∨ r = 3 ∨ r = 4 ∨ r = 5 ∨ r = 6 ∨ r = 7 := by omega
  rcases this with rfl | rfl | rfl | rfl | rfl | rfl | rfl | rfl
  · exact ⟨32, rfl⟩
  · exact ⟨97, rfl⟩
  · exact ⟨98, rfl⟩
  · exact ⟨99, rfl⟩
  · exact ⟨122, rfl⟩
  · exact ⟨48, rfl⟩
  · exact ⟨47, rfl⟩
  · exact ⟨45, rfl⟩
theorem text06 {c2 c3 c4 c5 c6 c7 c9 : Cell} (t : TapS) {r : Int} (r0 : 0 ≤ r) (r1 : r < 12) :
    ∃ (t' : TapS) (cs : List Nat), lcLoop (gSlot 8) tYesM x_l_right_k06_1 [8] ((rgI 0 r).map .int) [] [.par t.enc, .v (.str " abcz0/-"), c2, c3, c4, c5, c6, c7, .no, c9] = .ok (cs.map fun c => .str (S [c])) [.par t'.enc, .v (.str " abcz0/-"), c2, c3, c4, c5, c6, c7, .no, c9] ∧ cs.length ≤ 12 := by
  obtain ⟨acc, e', q, ql, t', cs, rfl, rfl, a2⟩ := lc_ints (gx := gSlot 8) (fe := x_l_right_k06_1) (is := [8]) (fun i acc e => ∃ (t' : TapS) (cs : List Nat), acc = cs.map (fun c => .str (S [c])) ∧ e = [.par t'.enc, .v (.str " abcz0/-"), c2, c3, c4, c5, c6, c7, .no, c9] ∧ cs.length = i) (rgI 0 r) [.par t.enc, .v (.str " abcz0/-"), c2, c3, c4, c5, c6, c7, .no, c9] ⟨t, [], rfl, rfl, rfl⟩ (by rw [rgI_len]; omega) (fun i x acc e hx hl hI => by
    obtain ⟨q, cs, rfl, rfl, a1⟩ := hI
    have d := draw_eq q (b := 8) (by decide) (by decide)
    obtain ⟨k0, k1⟩ := drR_lt q (b := 8) (by decide)
    obtain ⟨c, ic⟩ := ix06 k0 k1
    refine ⟨[.par q.enc, .v (.str " abcz0/-"), c2, c3, c4, c5, c6, c7, .v (.int x), c9], .val (.str (S [c])), [.par (drT q 8).enc, .v (.str " abcz0/-"), c2, c3, c4, c5, c6, c7, .v (.int x), c9], .str (S [c]), [.par (drT q 8).enc, .v (.str " abcz0/-"), c2, c3, c4, c5, c6, c7, .v (.int x), c9], by simp (disch := first | assumption | omega | decide) only [ev0, ev1, ev2, ev3, ev4, ev5, ev6, dList, dTup, mutS, borS, argsD, nodupB, putM, frzN, safeOp, safeD, safeDs, wipeE, restore, argCells, List.getD_cons_zero, List.getD_cons_succ, List.set_cons_zero, List.set_cons_succ, List.length_cons, List.length_nil, List.cons_append, List.nil_append, List.append_nil, List.replicate_succ, List.replicate_zero, List.not_mem_nil, List.mem_cons, if_true, if_false, ite_true, ite_false, Bool.true_and, Bool.and_true, Bool.not_true, Bool.not_false, Bool.false_eq_true, reduceIte, List.getElem?_cons_zero, List.getElem?_cons_succ, List.all_nil, List.all_cons, List.contains_nil, Option.map_some, Option.map_none, Option.bind_some, and_self, and_true, true_and, or_false, false_or, or_true, true_or, Nat.reduceAdd, Nat.reduceSub, Nat.reduceLT, Nat.reduceLeDiff, Nat.reduceEqDiff, Nat.zero_add, eq_self, true_implies, not_false_eq_true, not_true_eq_false, Nat.lt_irrefl, Nat.succ_ne_zero, Nat.lt_add_one, ne_eq, Int.reduceEq, Int.reduceNe, decide_true, decide_false, Nat.zero_lt_succ, Bool.not_eq_true', decide_not, Nat.add_one_ne_zero, Nat.zero_le, Nat.le_refl, Bool.or_true, Bool.or_false, Bool.true_or, Bool.false_or, Bool.and_false, Bool.false_and, Nat.reduceMul, isiB, String.reduceBEq, Bool.or_self, Bool.and_self, reduceCtorEq, isSS, List.contains_cons, Nat.reduceBEq, ix_ll, eq_ln, ne_ln, List.length_map, List.length_range, Int.reduceToNat, Int.reducePow, Int.reduceMul, Int.reduceAdd, Int.reduceSub, Int.reduceNeg, Int.reduceLE, Int.reduceLT, Int.toNat_natCast, Bool.and_eq_true, Bool.or_eq_true, decide_eq_true_eq, Bool.decide_eq_true, rep_d, List.length_append, List.length_reverse, map_snoc, map_app, Int.sub_zero, List.append_assoc, ite_self], by
      unfold x_l_right_k06_1
      simp (disch := first | assumption | omega | decide) only [ev0, ev1, ev2, ev3, ev4, ev5, ev6, dList, dTup, mutS, borS, argsD, nodupB, putM, frzN, safeOp, safeD, safeDs, wipeE, restore, argCells, List.getD_cons_zero, List.getD_cons_succ, List.set_cons_zero, List.set_cons_succ, List.length_cons, List.length_nil, List.cons_append, List.nil_append, List.append_nil, List.replicate_succ, List.replicate_zero, List.not_mem_nil, List.mem_cons, if_true, if_false, ite_true, ite_false, Bool.true_and, Bool.and_true, Bool.not_true, Bool.not_false, Bool.false_eq_true, reduceIte, List.getElem?_cons_zero, List.getElem?_cons_succ, List.all_nil, List.all_cons, List.contains_nil, Option.map_some, Option.map_none, Option.bind_some, and_self, and_true, true_and, or_false, false_or, or_true, true_or, Nat.reduceAdd, Nat.reduceSub, Nat.reduceLT, Nat.reduceLeDiff, Nat.reduceEqDiff, Nat.zero_add, eq_self, true_implies, not_false_eq_true, not_true_eq_false, Nat.lt_irrefl, Nat.succ_ne_zero, Nat.lt_add_one, ne_eq, Int.reduceEq, Int.reduceNe, decide_true, decide_false, Nat.zero_lt_succ, Bool.not_eq_true', decide_not, Nat.add_one_ne_zero, Nat.zero_le, Nat.le_refl, Bool.or_true, Bool.or_false, Bool.true_or, Bool.false_or, Bool.and_false, Bool.false_and, Nat.reduceMul, isiB, String.reduceBEq, Bool.or_self, Bool.and_self, reduceCtorEq, isSS, List.contains_cons, Nat.reduceBEq, ix_ll, eq_ln, ne_ln, List.length_map, List.length_range, Int.reduceToNat, Int.reducePow, Int.reduceMul, Int.reduceAdd, Int.reduceSub, Int.reduceNeg, Int.reduceLE, Int.reduceLT, Int.toNat_natCast, Bool.and_eq_true, Bool.or_eq_true, decide_eq_true_eq, Bool.decide_eq_true, rep_d, List.length_append, List.length_reverse, map_snoc, map_app, Int.sub_zero, List.append_assoc, ite_self, d, tap_safe, ic], by simp (disch := first | assumption | omega | decide) only [ev0, ev1, ev2, ev3, ev4, ev5, ev6, dList, dTup, mutS, borS, argsD, nodupB, putM, frzN, safeOp, safeD, safeDs, wipeE, restore, argCells, List.getD_cons_zero, List.getD_cons_succ, List.set_cons_zero, List.set_cons_succ, List.length_cons, List.length_nil, List.cons_append, List.nil_append, List.append_nil, List.replicate_succ, List.replicate_zero, List.not_mem_nil, List.mem_cons, if_true, if_false, ite_true, ite_false, Bool.true_and, Bool.and_true, Bool.not_true, Bool.not_false, Bool.false_eq_true, reduceIte, List.getElem?_cons_zero, List.getElem?_cons_succ, List.all_nil, List.all_cons, List.contains_nil, Option.map_some, Option.map_none, Option.bind_some, and_self, and_true, true_and, or_false, false_or, or_true, true_or, Nat.reduceAdd, Nat.reduceSub, Nat.reduceLT, Nat.reduceLeDiff, Nat.reduceEqDiff, Nat.zero_add, eq_self, true_implies, not_false_eq_true, not_true_eq_false, Nat.lt_irrefl, Nat.succ_ne_zero, Nat.lt_add_one, ne_eq, Int.reduceEq, Int.reduceNe, decide_true, decide_false, Nat.zero_lt_succ, Bool.not_eq_true', decide_not, Nat.add_one_ne_zero, Nat.zero_le, Nat.le_refl, Bool.or_true, Bool.or_false, Bool.true_or, Bool.false_or, Bool.and_false, Bool.false_and, Nat.reduceMul, isiB, String.reduceBEq, Bool.or_self, Bool.and_self, reduceCtorEq, isSS, List.contains_cons, Nat.reduceBEq, ix_ll, eq_ln, ne_ln, List.length_map, List.length_range, Int.reduceToNat, Int.reducePow, Int.reduceMul, Int.reduceAdd, Int.reduceSub, Int.reduceNeg, Int.reduceLE, Int.reduceLT, Int.toNat_natCast, Bool.and_eq_true, Bool.or_eq_true, decide_eq_true_eq, Bool.decide_eq_true, rep_d, List.length_append, List.length_reverse, map_snoc, map_app, Int.sub_zero, List.append_assoc, ite_self], drT q 8, cs ++ [c], by rw [List.map_append]; rfl, by simp (disch := first | assumption | omega | decide) only [ev0, ev1, ev2, ev3, ev4, ev5, ev6, dList, dTup, mutS, borS, argsD, nodupB, putM, frzN, safeOp, safeD, safeDs, wipeE, restore, argCells, List.getD_cons_zero, List.getD_cons_succ, List.set_cons_zero, List.set_cons_succ, List.length_cons, List.length_nil, List.cons_append, List.nil_append, List.append_nil, List.replicate_succ, List.replicate_zero, List.not_mem_nil, List.mem_cons, if_true, if_false, ite_true, ite_false, Bool.true_and, Bool.and_true, Bool.not_true, Bool.not_false, Bool.false_eq_true, reduceIte, List.getElem?_cons_zero, List.getElem?_cons_succ, List.all_nil, List.all_cons, List.contains_nil, Option.map_some, Option.map_none, Option.bind_some, and_self, and_true, true_and, or_false, false_or, or_true, true_or, Nat.reduceAdd, Nat.reduceSub, Nat.reduceLT, Nat.reduceLeDiff, Nat.reduceEqDiff, Nat.zero_add, eq_self, true_implies, not_false_eq_true, not_true_eq_false, Nat.lt_irrefl, Nat.succ_ne_zero, Nat.lt_add_one, ne_eq, Int.reduceEq, Int.reduceNe, decide_true, decide_false, Nat.zero_lt_succ, Bool.not_eq_true', decide_not, Nat.add_one_ne_zero, Nat.zero_le, Nat.le_refl, Bool.or_true, Bool.or_false, Bool.true_or, Bool.false_or, Bool.and_false, Bool.false_and, Nat.reduceMul, isiB, String.reduceBEq, Bool.or_self, Bool.and_self, reduceCtorEq, isSS, List.contains_cons, Nat.reduceBEq, ix_ll, eq_ln, ne_ln, List.length_map, List.length_range, Int.reduceToNat, Int.reducePow, Int.reduceMul, Int.reduceAdd, Int.reduceSub, Int.reduceNeg, Int.reduceLE, Int.reduceLT, Int.toNat_natCast, Bool.and_eq_true, Bool.or_eq_true, decide_eq_true_eq, Bool.decide_eq_true, rep_d, List.length_append, List.length_reverse, map_snoc, map_app, Int.sub_zero, List.append_assoc, ite_self, List.take_succ_cons, List.take_zero], by rw [List.length_append, a1]; rfl⟩)
  rw [rgI_len] at a2
  exact ⟨t', cs, q, by omega⟩
theorem ixg {ds : List D} {d : D} {k : Nat} (h : ds[k]? = some d) : dIx (.list ds) (.int (k : Int)) = some (.val d) := by
  rw [ix_l]
  unfold atI
  rw [ixNT (n := ds.length) (by omega) (by have := (List.getElem?_eq_some_iff.mp h).1; omega)]
  show (ds[(k : Int).toNat]?).map _ = _
  rw [Int.toNat_natCast, h]; rfl
theorem row06 {c0 c1 c2 c3 c4 c6 c7 c8 : Cell} (k : Int) : lcLoop (gSlot 9) tYesM x_l_right_k06_2 [9] ((rgI 0 19).map .int) [] [c0, c1, c2, c3, c4, .v (.int k), c6, c7, c8, .no] = .ok (ks06 k) [c0, c1, c2, c3, c4, .v (.int k), c6, c7, c8, .no] :=
  lc_fn (gx := gSlot 9) (fe := x_l_right_k06_2) (is := [9]) (fun o => .bool (decide (o = k))) (rgI 0 19) (by decide +kernel) (fun x hx => ⟨[c0, c1, c2, c3, c4, .v (.int k), c6, c7, c8, .v (.int x)], .val (.bool (decide (x = k))), [c0, c1, c2, c3, c4, .v (.int k), c6, c7, c8, .v (.int x)], [c0, c1, c2, c3, c4, .v (.int k), c6, c7, c8, .v (.int x)], by simp (disch := first | assumption | omega | decide) only [ev0, ev1, ev2, ev3, ev4, ev5, ev6, dList, dTup, mutS, borS, argsD, nodupB, putM, frzN, safeOp, safeD, safeDs, wipeE, restore, argCells, List.getD_cons_zero, List.getD_cons_succ, List.set_cons_zero, List.set_cons_succ, List.length_cons, List.length_nil, List.cons_append, List.nil_append, List.append_nil, List.replicate_succ, List.replicate_zero, List.not_mem_nil, List.mem_cons, if_true, if_false, ite_true, ite_false, Bool.true_and, Bool.and_true, Bool.not_true, Bool.not_false, Bool.false_eq_true, reduceIte, List.getElem?_cons_zero, List.getElem?_cons_succ, List.all_nil, List.all_cons, List.contains_nil, Option.map_some, Option.map_none, Option.bind_some, and_self, and_true, true_and, or_false, false_or, or_true, true_or, Nat.reduceAdd, Nat.reduceSub, Nat.reduceLT, Nat.reduceLeDiff, Nat.reduceEqDiff, Nat.zero_add, eq_self, true_implies, not_false_eq_true, not_true_eq_false, Nat.lt_irrefl, Nat.succ_ne_zero, Nat.lt_add_one, ne_eq, Int.reduceEq, Int.reduceNe, decide_true, decide_false, Nat.zero_lt_succ, Bool.not_eq_true', decide_not, Nat.add_one_ne_zero, Nat.zero_le, Nat.le_refl, Bool.or_true, Bool.or_false, Bool.true_or, Bool.false_or, Bool.and_false, Bool.false_and, Nat.reduceMul, isiB, String.reduceBEq, Bool.or_self, Bool.and_self, reduceCtorEq, isSS, List.contains_cons, Nat.reduceBEq, ix_ll, eq_ln, ne_ln, List.length_map, List.length_range, Int.reduceToNat, Int.reducePow, Int.reduceMul, Int.reduceAdd, Int.reduceSub, Int.reduceNeg, Int.reduceLE, Int.reduceLT, Int.toNat_natCast, Bool.and_eq_true, Bool.or_eq_true, decide_eq_true_eq, Bool.decide_eq_true, rep_d, List.length_append, List.length_reverse, map_snoc, map_app, Int.sub_zero, List.append_assoc, ite_self], by
    unfold x_l_right_k06_2
    simp (disch := first | assumption | omega | decide) only [ev0, ev1, ev2, ev3, ev4, ev5, ev6, dList, dTup, mutS, borS, argsD, nodupB, putM, frzN, safeOp, safeD, safeDs, wipeE, restore, argCells, List.getD_cons_zero, List.getD_cons_succ, List.set_cons_zero, List.set_cons_succ, List.length_cons, List.length_nil, List.cons_append, List.nil_append, List.append_nil, List.replicate_succ, List.replicate_zero, List.not_mem_nil, List.mem_cons, if_true, if_false, ite_true, ite_false, Bool.true_and, Bool.and_true, Bool.not_true, Bool.not_false, Bool.false_eq_true, reduceIte, List.getElem?_cons_zero, List.getElem?_cons_succ, List.all_nil, List.all_cons, List.contains_nil, Option.map_some, Option.map_none, Option.bind_some, and_self, and_true, true_and, or_false, false_or, or_true, true_or, Nat.reduceAdd, Nat.reduceSub, Nat.reduceLT, Nat.reduceLeDiff, Nat.reduceEqDiff, Nat.zero_add, eq_self, true_implies, not_false_eq_true, not_true_eq_false, Nat.lt_irrefl, Nat.succ_ne_zero, Nat.lt_add_one, ne_eq, Int.reduceEq, Int.reduceNe, decide_true, decide_false, Nat.zero_lt_succ, Bool.not_eq_true', decide_not, Nat.add_one_ne_zero, Nat.zero_le, Nat.le_refl, Bool.or_true, Bool.or_false, Bool.true_or, Bool.false_or, Bool.and_false, Bool.false_and, Nat.reduceMul, isiB, String.reduceBEq, Bool.or_self, Bool.and_self, reduceCtorEq, isSS, List.contains_cons, Nat.reduceBEq, ix_ll, eq_ln, ne_ln, List.length_map, List.length_range, Int.reduceToNat, Int.reducePow, Int.reduceMul, Int.reduceAdd, Int.reduceSub, Int.reduceNeg, Int.reduceLE, Int.reduceLT, Int.toNat_natCast, Bool.and_eq_true, Bool.or_eq_true, decide_eq_true_eq, Bool.decide_eq_true, rep_d, List.length_append, List.length_reverse, map_snoc, map_app, Int.sub_zero, List.append_assoc, ite_self]
    rfl, by simp (disch := first | assumption | omega | decide) only [ev0, ev1, ev2, ev3, ev4, ev5, ev6, dList, dTup, mutS, borS, argsD, nodupB, putM, frzN, safeOp, safeD, safeDs, wipeE, restore, argCells, List.getD_cons_zero, List.getD_cons_succ, List.set_cons_zero, List.set_cons_succ, List.length_cons, List.length_nil, List.cons_append, List.nil_append, List.append_nil, List.replicate_succ, List.replicate_zero, List.not_mem_nil, List.mem_cons, if_true, if_false, ite_true, ite_false, Bool.true_and, Bool.and_true, Bool.not_true, Bool.not_false, Bool.false_eq_true, reduceIte, List.getElem?_cons_zero, List.getElem?_cons_succ, List.all_nil, List.all_cons, List.contains_nil, Option.map_some, Option.map_none, Option.bind_some, and_self, and_true, true_and, or_false, false_or, or_true, true_or, Nat.reduceAdd, Nat.reduceSub, Nat.reduceLT, Nat.reduceLeDiff, Nat.reduceEqDiff, Nat.zero_add, eq_self, true_implies, not_false_eq_true, not_true_eq_false, Nat.lt_irrefl, Nat.succ_ne_zero, Nat.lt_add_one, ne_eq, Int.reduceEq, Int.reduceNe, decide_true, decide_false, Nat.zero_lt_succ, Bool.not_eq_true', decide_not, Nat.add_one_ne_zero, Nat.zero_le, Nat.le_refl, Bool.or_true, Bool.or_false, Bool.true_or, Bool.false_or, Bool.and_false, Bool.false_and, Nat.reduceMul, isiB, String.reduceBEq, Bool.or_self, Bool.and_self, reduceCtorEq, isSS, List.contains_cons, Nat.reduceBEq, ix_ll, eq_ln, ne_ln, List.length_map, List.length_range, Int.reduceToNat, Int.reducePow, Int.reduceMul, Int.reduceAdd, Int.reduceSub, Int.reduceNeg, Int.reduceLE, Int.reduceLT, Int.toNat_natCast, Bool.and_eq_true, Bool.or_eq_true, decide_eq_true_eq, Bool.decide_eq_true, rep_d, List.length_append, List.length_reverse, map_snoc, map_app, Int.sub_zero, List.append_assoc, ite_self], by simp (disch := first | assumption | omega | decide) only [ev0, ev1, ev2, ev3, ev4, ev5, ev6, dList, dTup, mutS, borS, argsD, nodupB, putM, frzN, safeOp, safeD, safeDs, wipeE, restore, argCells, List.getD_cons_zero, List.getD_cons_succ, List.set_cons_zero, List.set_cons_succ, List.length_cons, List.length_nil, List.cons_append, List.nil_append, List.append_nil, List.replicate_succ, List.replicate_zero, List.not_mem_nil, List.mem_cons, if_true, if_false, ite_true, ite_false, Bool.true_and, Bool.and_true, Bool.not_true, Bool.not_false, Bool.false_eq_true, reduceIte, List.getElem?_cons_zero, List.getElem?_cons_succ, List.all_nil, List.all_cons, List.contains_nil, Option.map_some, Option.map_none, Option.bind_some, and_self, and_true, true_and, or_false, false_or, or_true, true_or, Nat.reduceAdd, Nat.reduceSub, Nat.reduceLT, Nat.reduceLeDiff, Nat.reduceEqDiff, Nat.zero_add, eq_self, true_implies, not_false_eq_true, not_true_eq_false, Nat.lt_irrefl, Nat.succ_ne_zero, Nat.lt_add_one, ne_eq, Int.reduceEq, Int.reduceNe, decide_true, decide_false, Nat.zero_lt_succ, Bool.not_eq_true', decide_not, Nat.add_one_ne_zero, Nat.zero_le, Nat.le_refl, Bool.or_true, Bool.or_false, Bool.true_or, Bool.false_or, Bool.and_false, Bool.false_and, Nat.reduceMul, isiB, String.reduceBEq, Bool.or_self, Bool.and_self, reduceCtorEq, isSS, List.contains_cons, Nat.reduceBEq, ix_ll, eq_ln, ne_ln, List.length_map, List.length_range, Int.reduceToNat, Int.reducePow, Int.reduceMul, Int.reduceAdd, Int.reduceSub, Int.reduceNeg, Int.reduceLE, Int.reduceLT, Int.toNat_natCast, Bool.and_eq_true, Bool.or_eq_true, decide_eq_true_eq, Bool.decide_eq_true, rep_d, List.length_append, List.length_reverse, map_snoc, map_app, Int.sub_zero, List.append_assoc, ite_self, List.take_succ_cons, List.take_zero]⟩)
theorem loop06 {c0 c1 c2 c3 c6 c8 : Cell} {f : D} : ∃ c5 c7 : Cell, fLoop (gSlot 5) f_l_right_k06_1 ((rgI 0 19).map .int) [c0, c1, c2, c3, .own (.list (er06 f)), .no, c6, .no, c8, .no] = .ok .nx [c0, c1, c2, c3, .own (.list (er06 f)), c5, c6, c7, c8, .no] := by
  obtain ⟨e', q, c5, c7, _, _, rfl⟩ := for_ints (g := gSlot 5) (s := f_l_right_k06_1) (fun _ e => ∃ c5 c7 : Cell, isPar c5 = false ∧ isPar c7 = false ∧ e = [c0, c1, c2, c3, .own (.list (er06 f)), c5, c6, c7, c8, .no]) (rgI 0 19) [c0, c1, c2, c3, .own (.list (er06 f)), .no, c6, .no, c8, .no] ⟨.no, .no, rfl, rfl, rfl⟩ (fun i x e hx hI => by
    obtain ⟨c5, c7, k5, k7, rfl⟩ := hI
    have hk := rgI_mem.mp (List.mem_of_getElem? hx)
    obtain ⟨k, rfl⟩ : ∃ k : Nat, x = (k : Int) := ⟨x.toNat, by omega⟩
    obtain ⟨nm, d, h1, h2, h3, h4, h5⟩ := er_nm (f := f) (k := k) (by omega)
    have w := which06 h3 h4
    have n := ne06 h1
    have ll : (er06 f).length = 19 := rfl
    have hg : dIx (.list (er06 f)) (.int k) = some (.val d) := ixg h2
    have t1 : ∀ c0 c1 c2 c3 c4 c5 c6 c8 c9 : Cell, kIsK nms_k06 ["TurnError"] (.slot 7) [c0, c1, c2, c3, c4, c5, c6, .v d, c8, c9] = .ok (.val (.bool true)) [c0, c1, c2, c3, c4, c5, c6, .v d, c8, c9] := fun c0 c1 c2 c3 c4 c5 c6 c8 c9 => by
      rw [kv_isK (d := d) (by simp (disch := first | assumption | omega | decide) only [ev0, ev1, ev2, ev3, ev4, ev5, ev6, dList, dTup, mutS, borS, argsD, nodupB, putM, frzN, safeOp, safeD, safeDs, wipeE, restore, argCells, List.getD_cons_zero, List.getD_cons_succ, List.set_cons_zero, List.set_cons_succ, List.length_cons, List.length_nil, List.cons_append, List.nil_append, List.append_nil, List.replicate_succ, List.replicate_zero, List.not_mem_nil, List.mem_cons, if_true, if_false, ite_true, ite_false, Bool.true_and, Bool.and_true, Bool.not_true, Bool.not_false, Bool.false_eq_true, reduceIte, List.getElem?_cons_zero, List.getElem?_cons_succ, List.all_nil, List.all_cons, List.contains_nil, Option.map_some, Option.map_none, Option.bind_some, and_self, and_true, true_and, or_false, false_or, or_true, true_or, Nat.reduceAdd, Nat.reduceSub, Nat.reduceLT, Nat.reduceLeDiff, Nat.reduceEqDiff, Nat.zero_add, eq_self, true_implies, not_false_eq_true, not_true_eq_false, Nat.lt_irrefl, Nat.succ_ne_zero, Nat.lt_add_one, ne_eq, Int.reduceEq, Int.reduceNe, decide_true, decide_false, Nat.zero_lt_succ, Bool.not_eq_true', decide_not, Nat.add_one_ne_zero, Nat.zero_le, Nat.le_refl, Bool.or_true, Bool.or_false, Bool.true_or, Bool.false_or, Bool.and_false, Bool.false_and, Nat.reduceMul, isiB, String.reduceBEq, Bool.or_self, Bool.and_self, reduceCtorEq, isSS, List.contains_cons, Nat.reduceBEq, ix_ll, eq_ln, ne_ln, List.length_map, List.length_range, Int.reduceToNat, Int.reducePow, Int.reduceMul, Int.reduceAdd, Int.reduceSub, Int.reduceNeg, Int.reduceLE, Int.reduceLT, Int.toNat_natCast, Bool.and_eq_true, Bool.or_eq_true, decide_eq_true_eq, Bool.decide_eq_true, rep_d, List.length_append, List.length_reverse, map_snoc, map_app, Int.sub_zero, List.append_assoc, ite_self]) h3 h4, h5]
    refine ⟨[c0, c1, c2, c3, .own (.list (er06 f)), .v (.int k), c6, c7, c8, .no], by simp (disch := first | assumption | omega | decide) only [ev0, ev1, ev2, ev3, ev4, ev5, ev6, dList, dTup, mutS, borS, argsD, nodupB, putM, frzN, safeOp, safeD, safeDs, wipeE, restore, argCells, List.getD_cons_zero, List.getD_cons_succ, List.set_cons_zero, List.set_cons_succ, List.length_cons, List.length_nil, List.cons_append, List.nil_append, List.append_nil, List.replicate_succ, List.replicate_zero, List.not_mem_nil, List.mem_cons, if_true, if_false, ite_true, ite_false, Bool.true_and, Bool.and_true, Bool.not_true, Bool.not_false, Bool.false_eq_true, reduceIte, List.getElem?_cons_zero, List.getElem?_cons_succ, List.all_nil, List.all_cons, List.contains_nil, Option.map_some, Option.map_none, Option.bind_some, and_self, and_true, true_and, or_false, false_or, or_true, true_or, Nat.reduceAdd, Nat.reduceSub, Nat.reduceLT, Nat.reduceLeDiff, Nat.reduceEqDiff, Nat.zero_add, eq_self, true_implies, not_false_eq_true, not_true_eq_false, Nat.lt_irrefl, Nat.succ_ne_zero, Nat.lt_add_one, ne_eq, Int.reduceEq, Int.reduceNe, decide_true, decide_false, Nat.zero_lt_succ, Bool.not_eq_true', decide_not, Nat.add_one_ne_zero, Nat.zero_le, Nat.le_refl, Bool.or_true, Bool.or_false, Bool.true_or, Bool.false_or, Bool.and_false, Bool.false_and, Nat.reduceMul, isiB, String.reduceBEq, Bool.or_self, Bool.and_self, reduceCtorEq, isSS, List.contains_cons, Nat.reduceBEq, ix_ll, eq_ln, ne_ln, List.length_map, List.length_range, Int.reduceToNat, Int.reducePow, Int.reduceMul, Int.reduceAdd, Int.reduceSub, Int.reduceNeg, Int.reduceLE, Int.reduceLT, Int.toNat_natCast, Bool.and_eq_true, Bool.or_eq_true, decide_eq_true_eq, Bool.decide_eq_true, rep_d, List.length_append, List.length_reverse, map_snoc, map_app, Int.sub_zero, List.append_assoc, ite_self, k5], [c0, c1, c2, c3, .own (.list (er06 f)), .v (.int k), c6, .v d, c8, .no], .inl ?_, _, _, rfl, rfl, rfl⟩
    have r := fun c0 c1 c2 c3 c4 c6 c7 c8 => row06 (c0 := c0) (c1 := c1) (c2 := c2) (c3 := c3) (c4 := c4) (c6 := c6) (c7 := c7) (c8 := c8) (k : Int)
    unfold f_l_right_k06_1
    simp (disch := first | assumption | omega | decide) only [ev0, ev1, ev2, ev3, ev4, ev5, ev6, dList, dTup, mutS, borS, argsD, nodupB, putM, frzN, safeOp, safeD, safeDs, wipeE, restore, argCells, List.getD_cons_zero, List.getD_cons_succ, List.set_cons_zero, List.set_cons_succ, List.length_cons, List.length_nil, List.cons_append, List.nil_append, List.append_nil, List.replicate_succ, List.replicate_zero, List.not_mem_nil, List.mem_cons, if_true, if_false, ite_true, ite_false, Bool.true_and, Bool.and_true, Bool.not_true, Bool.not_false, Bool.false_eq_true, reduceIte, List.getElem?_cons_zero, List.getElem?_cons_succ, List.all_nil, List.all_cons, List.contains_nil, Option.map_some, Option.map_none, Option.bind_some, and_self, and_true, true_and, or_false, false_or, or_true, true_or, Nat.reduceAdd, Nat.reduceSub, Nat.reduceLT, Nat.reduceLeDiff, Nat.reduceEqDiff, Nat.zero_add, eq_self, true_implies, not_false_eq_true, not_true_eq_false, Nat.lt_irrefl, Nat.succ_ne_zero, Nat.lt_add_one, ne_eq, Int.reduceEq, Int.reduceNe, decide_true, decide_false, Nat.zero_lt_succ, Bool.not_eq_true', decide_not, Nat.add_one_ne_zero, Nat.zero_le, Nat.le_refl, Bool.or_true, Bool.or_false, Bool.true_or, Bool.false_or, Bool.and_false, Bool.false_and, Nat.reduceMul, isiB, String.reduceBEq, Bool.or_self, Bool.and_self, reduceCtorEq, isSS, List.contains_cons, Nat.reduceBEq, ix_ll, eq_ln, ne_ln, List.length_map, List.length_range, Int.reduceToNat, Int.reducePow, Int.reduceMul, Int.reduceAdd, Int.reduceSub, Int.reduceNeg, Int.reduceLE, Int.reduceLT, Int.toNat_natCast, Bool.and_eq_true, Bool.or_eq_true, decide_eq_true_eq, Bool.decide_eq_true, rep_d, List.length_append, List.length_reverse, map_snoc, map_app, Int.sub_zero, List.append_assoc, ite_self, hg, k7, ev_isK, t1, w, r, n])
  exact ⟨c5, c7, q⟩
/-- the four fields -/
theorem field06 {r f : Int} (h0 : 0 ≤ r) (h1 : r < 4001) (f0 : 0 ≤ f) (f1 : f < 4) : ∃ (d : D) (v : V), dIx (.list [.int 0, .int 12, .int r, .none]) (.int f) = some (.val d) ∧ plV d = some v ∧ reprOk d = true := by
  have l1 : r.natAbs.log2 < 200 := by
    by_cases h : r.natAbs = 0
    · rw [h]; decide
    · exact (Nat.log2_lt h).mpr (Nat.lt_of_lt_of_le (show r.natAbs < 2 ^ 12 by omega) (by decide))
  have : f = 0 ∨ f = 1 ∨ f = 2 ∨ f = 3 := by omega
  rcases this with rfl | rfl | rfl | rfl
  · exact ⟨_, _, rfl, rfl, by decide +kernel⟩
  · exact ⟨_, _, rfl, rfl, by decide +kernel⟩
  · exact ⟨_, _, rfl, rfl, by
      simp [reprOk, plainD, wtD, PyData.depth]
      try omega⟩
  · exact ⟨_, _, rfl, rfl, by decide +kernel⟩
theorem tt06 (cs : List Nat) : tot (cs.map fun c => [c]) = 2 * cs.length := by
  induction cs with
  | nil => rfl
  | cons a r ih => rw [List.map_cons, tot_cons, ih]; simp only [List.length_cons, List.length_nil]; omega
theorem right06 (t : TapS) : ∃ t' : TapS, m_l_right_k06 [t.enc] = .ok (.val (.bool true)) [t'.enc] := by
  have d1 := draw_eq t (b := 12) (by decide) (by decide)
  obtain ⟨a0, a1⟩ := drR_lt t (b := 12) (by decide)
  generalize drR t 12 = r1 at d1 a0 a1
  generalize drT t 12 = t1 at d1
  obtain ⟨t2, cs, q, cl⟩ := text06 (c2 := .no) (c3 := .no) (c4 := .no) (c5 := .no) (c6 := .no) (c7 := .no) (c9 := .no) t1 a0 a1
  have jn := join_SS (y := []) (by decide) (ws := cs.map fun c => [c]) (by rw [tt06]; omega)
  rw [List.map_map] at jn
  have jn : dJoinT (.str "") (.list (cs.map fun c => .str (S [c]))) = some (.val (.str (S (TL.joinL [] (cs.map fun c => [c]))))) := jn
  generalize S (TL.joinL [] (cs.map fun c => [c])) = T at jn
  have d3 := draw_eq t2 (b := 4001) (by decide) (by decide)
  obtain ⟨b0, b1⟩ := drR_lt t2 (b := 4001) (by decide)
  generalize drR t2 4001 = r2 at d3 b0 b1
  generalize drT t2 4001 = t3 at d3
  have d4 := draw_eq t3 (b := 4) (by decide) (by decide)
  obtain ⟨f0, f1⟩ := drR_lt t3 (b := 4) (by decide)
  generalize drR t3 4 = r3 at d4 f0 f1
  generalize drT t3 4 = t4 at d4
  obtain ⟨f, v, ix, pv, rp⟩ := field06 b0 b1 f0 f1
  have md := made06 (t := T) pv
  have ln : (er06 f).length = 19 := rfl
  obtain ⟨c5, c7, lp⟩ := loop06 (c0 := .par t4.enc) (c1 := .v (.str " abcz0/-")) (c2 := .v (.str T)) (c3 := .v f) (c6 := .no) (c8 := .no) (f := f)
  have il : dIx (.list (er06 f)) (.int (-1)) = some (.val (erpD "InvalidText" f)) := rfl
  have w := which06 (d := erD "TurnError") (nm := "TurnError") rfl (by decide +kernel)
  have nin : dNin (.bool true) (.list (wh06 "TurnError")) = some (.val (.bool true)) := opB_eq (by decide +kernel)
  have te : isC "TurnError" ["TurnError"] = true := by decide +kernel
  have pl : ∀ e : En, kPlK "InvalidText" (.val (erpD "InvalidText" f)) e = .ok (.val f) e := fun e => kv_plK rfl
  have ie : ∀ (c0 c1 c2 c3 c4 c5 c7 c8 c9 : Cell), kIsK nms_k06 ["TurnError"] (.slot 6) [c0, c1, c2, c3, c4, c5, .v (erD "TurnError"), c7, c8, c9] = .ok (.val (.bool true)) [c0, c1, c2, c3, c4, c5, .v (erD "TurnError"), c7, c8, c9] := fun c0 c1 c2 c3 c4 c5 c7 c8 c9 => by
    rw [kv_isK (d := erD "TurnError") (nm := "TurnError") (by simp (disch := first | assumption | omega | decide) only [ev0, ev1, ev2, ev3, ev4, ev5, ev6, dList, dTup, mutS, borS, argsD, nodupB, putM, frzN, safeOp, safeD, safeDs, wipeE, restore, argCells, List.getD_cons_zero, List.getD_cons_succ, List.set_cons_zero, List.set_cons_succ, List.length_cons, List.length_nil, List.cons_append, List.nil_append, List.append_nil, List.replicate_succ, List.replicate_zero, List.not_mem_nil, List.mem_cons, if_true, if_false, ite_true, ite_false, Bool.true_and, Bool.and_true, Bool.not_true, Bool.not_false, Bool.false_eq_true, reduceIte, List.getElem?_cons_zero, List.getElem?_cons_succ, List.all_nil, List.all_cons, List.contains_nil, Option.map_some, Option.map_none, Option.bind_some, and_self, and_true, true_and, or_false, false_or, or_true, true_or, Nat.reduceAdd, Nat.reduceSub, Nat.reduceLT, Nat.reduceLeDiff, Nat.reduceEqDiff, Nat.zero_add, eq_self, true_implies, not_false_eq_true, not_true_eq_false, Nat.lt_irrefl, Nat.succ_ne_zero, Nat.lt_add_one, ne_eq, Int.reduceEq, Int.reduceNe, decide_true, decide_false, Nat.zero_lt_succ, Bool.not_eq_true', decide_not, Nat.add_one_ne_zero, Nat.zero_le, Nat.le_refl, Bool.or_true, Bool.or_false, Bool.true_or, Bool.false_or, Bool.and_false, Bool.false_and, Nat.reduceMul, isiB, String.reduceBEq, Bool.or_self, Bool.and_self, reduceCtorEq, isSS, List.contains_cons, Nat.reduceBEq, ix_ll, eq_ln, ne_ln, List.length_map, List.length_range, Int.reduceToNat, Int.reducePow, Int.reduceMul, Int.reduceAdd, Int.reduceSub, Int.reduceNeg, Int.reduceLE, Int.reduceLT, Int.toNat_natCast, Bool.and_eq_true, Bool.or_eq_true, decide_eq_true_eq, Bool.decide_eq_true, rep_d, List.length_append, List.length_reverse, map_snoc, map_app, Int.sub_zero, List.append_assoc, ite_self]) rfl (by decide +kernel), te]
  refine ⟨t4, ?_⟩
  have s0 : sSet 1 (eC (.str " abcz0/-")) [.par t.enc, .no, .no, .no, .no, .no, .no, .no, .no, .no] = .ok .nx [.par t.enc, .v (.str " abcz0/-"), .no, .no, .no, .no, .no, .no, .no, .no] := by simp (disch := first | assumption | omega | decide) only [ev0, ev1, ev2, ev3, ev4, ev5, ev6, dList, dTup, mutS, borS, argsD, nodupB, putM, frzN, safeOp, safeD, safeDs, wipeE, restore, argCells, List.getD_cons_zero, List.getD_cons_succ, List.set_cons_zero, List.set_cons_succ, List.length_cons, List.length_nil, List.cons_append, List.nil_append, List.append_nil, List.replicate_succ, List.replicate_zero, List.not_mem_nil, List.mem_cons, if_true, if_false, ite_true, ite_false, Bool.true_and, Bool.and_true, Bool.not_true, Bool.not_false, Bool.false_eq_true, reduceIte, List.getElem?_cons_zero, List.getElem?_cons_succ, List.all_nil, List.all_cons, List.contains_nil, Option.map_some, Option.map_none, Option.bind_some, and_self, and_true, true_and, or_false, false_or, or_true, true_or, Nat.reduceAdd, Nat.reduceSub, Nat.reduceLT, Nat.reduceLeDiff, Nat.reduceEqDiff, Nat.zero_add, eq_self, true_implies, not_false_eq_true, not_true_eq_false, Nat.lt_irrefl, Nat.succ_ne_zero, Nat.lt_add_one, ne_eq, Int.reduceEq, Int.reduceNe, decide_true, decide_false, Nat.zero_lt_succ, Bool.not_eq_true', decide_not, Nat.add_one_ne_zero, Nat.zero_le, Nat.le_refl, Bool.or_true, Bool.or_false, Bool.true_or, Bool.false_or, Bool.and_false, Bool.false_and, Nat.reduceMul, isiB, String.reduceBEq, Bool.or_self, Bool.and_self, reduceCtorEq, isSS, List.contains_cons, Nat.reduceBEq, ix_ll, eq_ln, ne_ln, List.length_map, List.length_range, Int.reduceToNat, Int.reducePow, Int.reduceMul, Int.reduceAdd, Int.reduceSub, Int.reduceNeg, Int.reduceLE, Int.reduceLT, Int.toNat_natCast, Bool.and_eq_true, Bool.or_eq_true, decide_eq_true_eq, Bool.decide_eq_true, rep_d, List.length_append, List.length_reverse, map_snoc, map_app, Int.sub_zero, List.append_assoc, ite_self]
  have s1 : sSet 2 (eRead isStr dJoinT (eC (.str "")) (eLc [8] (iRg1 (eCons (eCall [0] m_l_draw [] (eCons (eS 0) (eCons (eC (.int 12)) (eNil)))) (eNil))) (gSlot 8) (tYesM) (x_l_right_k06_1))) [.par t.enc, .v (.str " abcz0/-"), .no, .no, .no, .no, .no, .no, .no, .no] = .ok .nx [.par t2.enc, .v (.str " abcz0/-"), .v (.str T), .no, .no, .no, .no, .no, .no, .no] := by
    simp (disch := first | assumption | omega | decide) only [ev0, ev1, ev2, ev3, ev4, ev5, ev6, dList, dTup, mutS, borS, argsD, nodupB, putM, frzN, safeOp, safeD, safeDs, wipeE, restore, argCells, List.getD_cons_zero, List.getD_cons_succ, List.set_cons_zero, List.set_cons_succ, List.length_cons, List.length_nil, List.cons_append, List.nil_append, List.append_nil, List.replicate_succ, List.replicate_zero, List.not_mem_nil, List.mem_cons, if_true, if_false, ite_true, ite_false, Bool.true_and, Bool.and_true, Bool.not_true, Bool.not_false, Bool.false_eq_true, reduceIte, List.getElem?_cons_zero, List.getElem?_cons_succ, List.all_nil, List.all_cons, List.contains_nil, Option.map_some, Option.map_none, Option.bind_some, and_self, and_true, true_and, or_false, false_or, or_true, true_or, Nat.reduceAdd, Nat.reduceSub, Nat.reduceLT, Nat.reduceLeDiff, Nat.reduceEqDiff, Nat.zero_add, eq_self, true_implies, not_false_eq_true, not_true_eq_false, Nat.lt_irrefl, Nat.succ_ne_zero, Nat.lt_add_one, ne_eq, Int.reduceEq, Int.reduceNe, decide_true, decide_false, Nat.zero_lt_succ, Bool.not_eq_true', decide_not, Nat.add_one_ne_zero, Nat.zero_le, Nat.le_refl, Bool.or_true, Bool.or_false, Bool.true_or, Bool.false_or, Bool.and_false, Bool.false_and, Nat.reduceMul, isiB, String.reduceBEq, Bool.or_self, Bool.and_self, reduceCtorEq, isSS, List.contains_cons, Nat.reduceBEq, ix_ll, eq_ln, ne_ln, List.length_map, List.length_range, Int.reduceToNat, Int.reducePow, Int.reduceMul, Int.reduceAdd, Int.reduceSub, Int.reduceNeg, Int.reduceLE, Int.reduceLT, Int.toNat_natCast, Bool.and_eq_true, Bool.or_eq_true, decide_eq_true_eq, Bool.decide_eq_true, rep_d, List.length_append, List.length_reverse, map_snoc, map_app, Int.sub_zero, List.append_assoc, ite_self, d1, tap_safe, q, jn, isStr]
  have s2 : sSet 3 (eOp2 dIx (eFrz dList (eCons (eC (.int 0)) (eCons (eC (.int 12)) (eCons (eCall [0] m_l_draw [] (eCons (eS 0) (eCons (eC (.int 4001)) (eNil)))) (eCons (eC .none) (eNil)))))) (eCall [0] m_l_draw [] (eCons (eS 0) (eCons (eC (.int 4)) (eNil))))) [.par t2.enc, .v (.str " abcz0/-"), .v (.str T), .no, .no, .no, .no, .no, .no, .no] = .ok .nx [.par t4.enc, .v (.str " abcz0/-"), .v (.str T), .v f, .no, .no, .no, .no, .no, .no] := by
    simp (disch := first | assumption | omega | decide) only [ev0, ev1, ev2, ev3, ev4, ev5, ev6, dList, dTup, mutS, borS, argsD, nodupB, putM, frzN, safeOp, safeD, safeDs, wipeE, restore, argCells, List.getD_cons_zero, List.getD_cons_succ, List.set_cons_zero, List.set_cons_succ, List.length_cons, List.length_nil, List.cons_append, List.nil_append, List.append_nil, List.replicate_succ, List.replicate_zero, List.not_mem_nil, List.mem_cons, if_true, if_false, ite_true, ite_false, Bool.true_and, Bool.and_true, Bool.not_true, Bool.not_false, Bool.false_eq_true, reduceIte, List.getElem?_cons_zero, List.getElem?_cons_succ, List.all_nil, List.all_cons, List.contains_nil, Option.map_some, Option.map_none, Option.bind_some, and_self, and_true, true_and, or_false, false_or, or_true, true_or, Nat.reduceAdd, Nat.reduceSub, Nat.reduceLT, Nat.reduceLeDiff, Nat.reduceEqDiff, Nat.zero_add, eq_self, true_implies, not_false_eq_true, not_true_eq_false, Nat.lt_irrefl, Nat.succ_ne_zero, Nat.lt_add_one, ne_eq, Int.reduceEq, Int.reduceNe, decide_true, decide_false, Nat.zero_lt_succ, Bool.not_eq_true', decide_not, Nat.add_one_ne_zero, Nat.zero_le, Nat.le_refl, Bool.or_true, Bool.or_false, Bool.true_or, Bool.false_or, Bool.and_false, Bool.false_and, Nat.reduceMul, isiB, String.reduceBEq, Bool.or_self, Bool.and_self, reduceCtorEq, isSS, List.contains_cons, Nat.reduceBEq, ix_ll, eq_ln, ne_ln, List.length_map, List.length_range, Int.reduceToNat, Int.reducePow, Int.reduceMul, Int.reduceAdd, Int.reduceSub, Int.reduceNeg, Int.reduceLE, Int.reduceLT, Int.toNat_natCast, Bool.and_eq_true, Bool.or_eq_true, decide_eq_true_eq, Bool.decide_eq_true, rep_d, List.length_append, List.length_reverse, map_snoc, map_app, Int.sub_zero, List.append_assoc, ite_self, d3, d4, tap_safe, ix]
  have s3 : sSet 4 (eCall [] m_l_made [] (eCons (eS 2) (eCons (eS 3) (eNil)))) [.par t4.enc, .v (.str " abcz0/-"), .v (.str T), .v f, .no, .no, .no, .no, .no, .no] = .ok .nx [.par t4.enc, .v (.str " abcz0/-"), .v (.str T), .v f, .own (.list (er06 f)), .no, .no, .no, .no, .no] := by
    simp (disch := first | assumption | omega | decide) only [ev0, ev1, ev2, ev3, ev4, ev5, ev6, dList, dTup, mutS, borS, argsD, nodupB, putM, frzN, safeOp, safeD, safeDs, wipeE, restore, argCells, List.getD_cons_zero, List.getD_cons_succ, List.set_cons_zero, List.set_cons_succ, List.length_cons, List.length_nil, List.cons_append, List.nil_append, List.append_nil, List.replicate_succ, List.replicate_zero, List.not_mem_nil, List.mem_cons, if_true, if_false, ite_true, ite_false, Bool.true_and, Bool.and_true, Bool.not_true, Bool.not_false, Bool.false_eq_true, reduceIte, List.getElem?_cons_zero, List.getElem?_cons_succ, List.all_nil, List.all_cons, List.contains_nil, Option.map_some, Option.map_none, Option.bind_some, and_self, and_true, true_and, or_false, false_or, or_true, true_or, Nat.reduceAdd, Nat.reduceSub, Nat.reduceLT, Nat.reduceLeDiff, Nat.reduceEqDiff, Nat.zero_add, eq_self, true_implies, not_false_eq_true, not_true_eq_false, Nat.lt_irrefl, Nat.succ_ne_zero, Nat.lt_add_one, ne_eq, Int.reduceEq, Int.reduceNe, decide_true, decide_false, Nat.zero_lt_succ, Bool.not_eq_true', decide_not, Nat.add_one_ne_zero, Nat.zero_le, Nat.le_refl, Bool.or_true, Bool.or_false, Bool.true_or, Bool.false_or, Bool.and_false, Bool.false_and, Nat.reduceMul, isiB, String.reduceBEq, Bool.or_self, Bool.and_self, reduceCtorEq, isSS, List.contains_cons, Nat.reduceBEq, ix_ll, eq_ln, ne_ln, List.length_map, List.length_range, Int.reduceToNat, Int.reducePow, Int.reduceMul, Int.reduceAdd, Int.reduceSub, Int.reduceNeg, Int.reduceLE, Int.reduceLT, Int.toNat_natCast, Bool.and_eq_true, Bool.or_eq_true, decide_eq_true_eq, Bool.decide_eq_true, rep_d, List.length_append, List.length_reverse, map_snoc, map_app, Int.sub_zero, List.append_assoc, ite_self, md]
  have s4 : sFor (iRg1 (eCons (eCallB bLen (eCons (eS 4) (eNil))) (eNil))) (gSlot 5) (f_l_right_k06_1) [.par t4.enc, .v (.str " abcz0/-"), .v (.str T), .v f, .own (.list (er06 f)), .no, .no, .no, .no, .no] = .ok .nx [.par t4.enc, .v (.str " abcz0/-"), .v (.str T), .v f, .own (.list (er06 f)), c5, .no, c7, .no, .no] := by
    have c19 : ((19 : Nat) : Int) = 19 := rfl
    simp (disch := first | assumption | omega | decide) only [ev0, ev1, ev2, ev3, ev4, ev5, ev6, dList, dTup, mutS, borS, argsD, nodupB, putM, frzN, safeOp, safeD, safeDs, wipeE, restore, argCells, List.getD_cons_zero, List.getD_cons_succ, List.set_cons_zero, List.set_cons_succ, List.length_cons, List.length_nil, List.cons_append, List.nil_append, List.append_nil, List.replicate_succ, List.replicate_zero, List.not_mem_nil, List.mem_cons, if_true, if_false, ite_true, ite_false, Bool.true_and, Bool.and_true, Bool.not_true, Bool.not_false, Bool.false_eq_true, reduceIte, List.getElem?_cons_zero, List.getElem?_cons_succ, List.all_nil, List.all_cons, List.contains_nil, Option.map_some, Option.map_none, Option.bind_some, and_self, and_true, true_and, or_false, false_or, or_true, true_or, Nat.reduceAdd, Nat.reduceSub, Nat.reduceLT, Nat.reduceLeDiff, Nat.reduceEqDiff, Nat.zero_add, eq_self, true_implies, not_false_eq_true, not_true_eq_false, Nat.lt_irrefl, Nat.succ_ne_zero, Nat.lt_add_one, ne_eq, Int.reduceEq, Int.reduceNe, decide_true, decide_false, Nat.zero_lt_succ, Bool.not_eq_true', decide_not, Nat.add_one_ne_zero, Nat.zero_le, Nat.le_refl, Bool.or_true, Bool.or_false, Bool.true_or, Bool.false_or, Bool.and_false, Bool.false_and, Nat.reduceMul, isiB, String.reduceBEq, Bool.or_self, Bool.and_self, reduceCtorEq, isSS, List.contains_cons, Nat.reduceBEq, ix_ll, eq_ln, ne_ln, List.length_map, List.length_range, Int.reduceToNat, Int.reducePow, Int.reduceMul, Int.reduceAdd, Int.reduceSub, Int.reduceNeg, Int.reduceLE, Int.reduceLT, Int.toNat_natCast, Bool.and_eq_true, Bool.or_eq_true, decide_eq_true_eq, Bool.decide_eq_true, rep_d, List.length_append, List.length_reverse, map_snoc, map_app, Int.sub_zero, List.append_assoc, ite_self, ln, c19, lp]
  have s5 : sSet 6 (eMkE "TurnError" (eS 2)) [.par t4.enc, .v (.str " abcz0/-"), .v (.str T), .v f, .own (.list (er06 f)), c5, .no, c7, .no, .no] = .ok .nx [.par t4.enc, .v (.str " abcz0/-"), .v (.str T), .v f, .own (.list (er06 f)), c5, .v (erD "TurnError"), c7, .no, .no] := by
    simp (disch := first | assumption | omega | decide) only [ev0, ev1, ev2, ev3, ev4, ev5, ev6, dList, dTup, mutS, borS, argsD, nodupB, putM, frzN, safeOp, safeD, safeDs, wipeE, restore, argCells, List.getD_cons_zero, List.getD_cons_succ, List.set_cons_zero, List.set_cons_succ, List.length_cons, List.length_nil, List.cons_append, List.nil_append, List.append_nil, List.replicate_succ, List.replicate_zero, List.not_mem_nil, List.mem_cons, if_true, if_false, ite_true, ite_false, Bool.true_and, Bool.and_true, Bool.not_true, Bool.not_false, Bool.false_eq_true, reduceIte, List.getElem?_cons_zero, List.getElem?_cons_succ, List.all_nil, List.all_cons, List.contains_nil, Option.map_some, Option.map_none, Option.bind_some, and_self, and_true, true_and, or_false, false_or, or_true, true_or, Nat.reduceAdd, Nat.reduceSub, Nat.reduceLT, Nat.reduceLeDiff, Nat.reduceEqDiff, Nat.zero_add, eq_self, true_implies, not_false_eq_true, not_true_eq_false, Nat.lt_irrefl, Nat.succ_ne_zero, Nat.lt_add_one, ne_eq, Int.reduceEq, Int.reduceNe, decide_true, decide_false, Nat.zero_lt_succ, Bool.not_eq_true', decide_not, Nat.add_one_ne_zero, Nat.zero_le, Nat.le_refl, Bool.or_true, Bool.or_false, Bool.true_or, Bool.false_or, Bool.and_false, Bool.false_and, Nat.reduceMul, isiB, String.reduceBEq, Bool.or_self, Bool.and_self, reduceCtorEq, isSS, List.contains_cons, Nat.reduceBEq, ix_ll, eq_ln, ne_ln, List.length_map, List.length_range, Int.reduceToNat, Int.reducePow, Int.reduceMul, Int.reduceAdd, Int.reduceSub, Int.reduceNeg, Int.reduceLE, Int.reduceLT, Int.toNat_natCast, Bool.and_eq_true, Bool.or_eq_true, decide_eq_true_eq, Bool.decide_eq_true, rep_d, List.length_append, List.length_reverse, map_snoc, map_app, Int.sub_zero, List.append_assoc, ite_self, ev_mkE, kMkE_v]
  have s6 : sIf (tOf (eOp2 dNe (eCallB bRepr (eCons (ePlK "InvalidText" (eOp2 dIx (eS 4) (eC (.int (-1))))) (eNil))) (eCallB bRepr (eCons (eS 3) (eNil))))) (sRet (eC (.bool false))) (sNext) [.par t4.enc, .v (.str " abcz0/-"), .v (.str T), .v f, .own (.list (er06 f)), c5, .v (erD "TurnError"), c7, .no, .no] = .ok .nx [.par t4.enc, .v (.str " abcz0/-"), .v (.str T), .v f, .own (.list (er06 f)), c5, .v (erD "TurnError"), c7, .no, .no] := by
    simp (disch := first | assumption | omega | decide) only [ev0, ev1, ev2, ev3, ev4, ev5, ev6, dList, dTup, mutS, borS, argsD, nodupB, putM, frzN, safeOp, safeD, safeDs, wipeE, restore, argCells, List.getD_cons_zero, List.getD_cons_succ, List.set_cons_zero, List.set_cons_succ, List.length_cons, List.length_nil, List.cons_append, List.nil_append, List.append_nil, List.replicate_succ, List.replicate_zero, List.not_mem_nil, List.mem_cons, if_true, if_false, ite_true, ite_false, Bool.true_and, Bool.and_true, Bool.not_true, Bool.not_false, Bool.false_eq_true, reduceIte, List.getElem?_cons_zero, List.getElem?_cons_succ, List.all_nil, List.all_cons, List.contains_nil, Option.map_some, Option.map_none, Option.bind_some, and_self, and_true, true_and, or_false, false_or, or_true, true_or, Nat.reduceAdd, Nat.reduceSub, Nat.reduceLT, Nat.reduceLeDiff, Nat.reduceEqDiff, Nat.zero_add, eq_self, true_implies, not_false_eq_true, not_true_eq_false, Nat.lt_irrefl, Nat.succ_ne_zero, Nat.lt_add_one, ne_eq, Int.reduceEq, Int.reduceNe, decide_true, decide_false, Nat.zero_lt_succ, Bool.not_eq_true', decide_not, Nat.add_one_ne_zero, Nat.zero_le, Nat.le_refl, Bool.or_true, Bool.or_false, Bool.true_or, Bool.false_or, Bool.and_false, Bool.false_and, Nat.reduceMul, isiB, String.reduceBEq, Bool.or_self, Bool.and_self, reduceCtorEq, isSS, List.contains_cons, Nat.reduceBEq, ix_ll, eq_ln, ne_ln, List.length_map, List.length_range, Int.reduceToNat, Int.reducePow, Int.reduceMul, Int.reduceAdd, Int.reduceSub, Int.reduceNeg, Int.reduceLE, Int.reduceLT, Int.toNat_natCast, Bool.and_eq_true, Bool.or_eq_true, decide_eq_true_eq, Bool.decide_eq_true, rep_d, List.length_append, List.length_reverse, map_snoc, map_app, Int.sub_zero, List.append_assoc, ite_self, ev_plK, il, pl, rp]
  unfold m_l_right_k06 b_l_right_k06
  simp (disch := first | assumption | omega | decide) only [ev_c, ev_nil, ev_cons, kv_cons, kv_cons2, ev_two, kv_two, kv_two2, ev_one, kv_one, ev_callB, kv_args, ev_frz, kv_frz, fin_some, fin_map, ev_if, kv_condE, ev_and, ev_or, ev_not, kv_notE, ev_slice, kv_slice, kv_slice2, kv_slice3, ev_none, ev_some, kv_some, ev_rev, dRev_l, ev_chain, kv_chain, kv_chain2, kv_chain3, ev_read, kv_read, ev_call, ev_callX, kv_call, kv_callX, ev_lc, kv_lc, kv_lc2, ev_of, kv_of_b, kv_of_s, ev_tnot, kv_not, ev_tand, ev_tor, kv_cond, ev_tF, ev_tT, ev_yes, kv_seq, kv_seq_rt, kv_seq_bk, kv_seq_ct, ev_sif, kv_condS, ev_next, ev_break, ev_cont, ev_retN, ev_raise, ev_set, kv_set, ev_drop, kv_drop, ev_ret, ev_par, kv_par, ev_des, kv_des, ev_store, kv_store, kv_store2, ev_aug, kv_aug, ev_meth, kv_meth, ev_ext, kv_ext, ev_for, kv_for, loop_nil, kv_loop_nx, kv_loop_ct, kv_loop_bk, kv_loop_rt, kv_wh, kv_wh_nx, kv_wh_ct, kv_wh_bk, kv_wh_rt, ev_ilst, kv_lst, ev_irg1, kv_irg1, rgC_i, ev_irg2, kv_irg2, rgC2_i, ev_ienum, kv_ienum, ev_izip, kv_izip, ev_itup, kv_itup, bind_ok, bind_exc, bind_bad, add_i, sub_i, cmp_i, is_nn, is_bb, is_in, is_bn, is_ln, is_tn, isi_d, abs_i, max_i, min_i, int_i, int_b, len_l, len_t, lst_l, lst_t, tup_l, dList, dTup, res_v, res_n, frz_v, frz_n, res_s, resC_v, resC_o, resC_p, frz_s, frzC_v, frzC_o, resAll_nil, resAll_cons, frzAll_nil, frzAll_cons, ev_s, sC_v, sC_o, sC_p, sC_r, getM_o, getM_p, setM_o, setM_p, ret_v, ret_n, ret_s, retC_o, retC_v, put_v, put_n, put_s, putC_v, putC_o, isPar_no, isPar_v, isPar_o, uns_v, uns_n, uns_s, unsC_v, unsC_o, unss_nil, unss_cons, puts_nil, puts_cons, g_slot, g_tup, g_all_nil, g_all_cons, g_idx, ev_dict0, own_n, run_eq, endR_rt, endR_nx, endR_exc, outs_nil, outs_cons, outC_p, nos_v, nos_n, call_eq, ret_ok, ret_exc, mutS, borS, argsD, nodupB, putM, frzN, safeOp, safeD, safeDs, wipeE, restore, argCells, List.getD_cons_zero, List.getD_cons_succ, List.set_cons_zero, List.set_cons_succ, List.length_cons, List.length_nil, List.cons_append, List.nil_append, List.append_nil, List.replicate_succ, List.replicate_zero, List.not_mem_nil, List.mem_cons, if_true, if_false, ite_true, ite_false, Bool.true_and, Bool.and_true, Bool.not_true, Bool.not_false, Bool.false_eq_true, reduceIte, List.getElem?_cons_zero, List.getElem?_cons_succ, List.all_nil, List.all_cons, List.contains_nil, Option.map_some, Option.map_none, Option.bind_some, and_self, and_true, true_and, or_false, false_or, or_true, true_or, Nat.reduceAdd, Nat.reduceSub, Nat.reduceLT, Nat.reduceLeDiff, Nat.reduceEqDiff, Nat.zero_add, eq_self, true_implies, not_false_eq_true, not_true_eq_false, Nat.lt_irrefl, Nat.succ_ne_zero, Nat.lt_add_one, ne_eq, Int.reduceEq, Int.reduceNe, decide_true, decide_false, Nat.zero_lt_succ, Bool.not_eq_true', decide_not, Nat.add_one_ne_zero, Nat.zero_le, Nat.le_refl, Bool.or_true, Bool.or_false, Bool.true_or, Bool.false_or, Bool.and_false, Bool.false_and, Nat.reduceMul, isiB, String.reduceBEq, Bool.or_self, Bool.and_self, reduceCtorEq, isSS, List.contains_cons, Nat.reduceBEq, szT, szltT, decT, decF, beqT, beqF, mul_ii1, mul_ii2, mul_ii3, div_ii1, div_ii2, mod_ii, pow_ii, in62T, in63T, rgOkT, timesT, ixNT, ixNL, ix_li, ix_ll, ix_0, ix_1, ix_2, ix_t0, ix_t1, ix_2i, ix_3i, eq_ii, ne_ii, eq_ll, ne_ll, eq_ln, ne_ln, eq_nn, ne_nn, eq_zz, ne_zz, List.length_map, List.length_range, rg1_i, rg2_i, len_l, app_l, add_l, mul_l, safe_ints, Int.reduceToNat, Int.reducePow, Int.reduceMul, Int.reduceAdd, Int.reduceSub, Int.reduceNeg, Int.reduceLE, Int.reduceLT, Int.toNat_natCast, Bool.and_eq_true, Bool.or_eq_true, decide_eq_true_eq, Bool.decide_eq_true, rep_d, repr_bool, List.length_append, List.length_reverse, rangeD_rg, rgI_len, map_snoc, map_app, map_tak, map_drp, map_rev, map_st, map_ers, map_repl, repl_one, ev_menu, kv_menu, kv_menu2, menu_2, menu_v, menu_n, safeC_l, safeC_d, pop_li, cut_ti, cut_fi, sorted_li, lst_li, Int.sub_zero, List.append_assoc, ite_self]
  rw [sq62 s0, sq62 s1, sq62 s2, sq62 s3, sq62 s4, sq62 s5, sq62 s6]
  simp (disch := first | assumption | omega | decide) only [ev0, ev1, ev2, ev3, ev4, ev5, ev6, dList, dTup, mutS, borS, argsD, nodupB, putM, frzN, safeOp, safeD, safeDs, wipeE, restore, argCells, List.getD_cons_zero, List.getD_cons_succ, List.set_cons_zero, List.set_cons_succ, List.length_cons, List.length_nil, List.cons_append, List.nil_append, List.append_nil, List.replicate_succ, List.replicate_zero, List.not_mem_nil, List.mem_cons, if_true, if_false, ite_true, ite_false, Bool.true_and, Bool.and_true, Bool.not_true, Bool.not_false, Bool.false_eq_true, reduceIte, List.getElem?_cons_zero, List.getElem?_cons_succ, List.all_nil, List.all_cons, List.contains_nil, Option.map_some, Option.map_none, Option.bind_some, and_self, and_true, true_and, or_false, false_or, or_true, true_or, Nat.reduceAdd, Nat.reduceSub, Nat.reduceLT, Nat.reduceLeDiff, Nat.reduceEqDiff, Nat.zero_add, eq_self, true_implies, not_false_eq_true, not_true_eq_false, Nat.lt_irrefl, Nat.succ_ne_zero, Nat.lt_add_one, ne_eq, Int.reduceEq, Int.reduceNe, decide_true, decide_false, Nat.zero_lt_succ, Bool.not_eq_true', decide_not, Nat.add_one_ne_zero, Nat.zero_le, Nat.le_refl, Bool.or_true, Bool.or_false, Bool.true_or, Bool.false_or, Bool.and_false, Bool.false_and, Nat.reduceMul, isiB, String.reduceBEq, Bool.or_self, Bool.and_self, reduceCtorEq, isSS, List.contains_cons, Nat.reduceBEq, ix_ll, eq_ln, ne_ln, List.length_map, List.length_range, Int.reduceToNat, Int.reducePow, Int.reduceMul, Int.reduceAdd, Int.reduceSub, Int.reduceNeg, Int.reduceLE, Int.reduceLT, Int.toNat_natCast, Bool.and_eq_true, Bool.or_eq_true, decide_eq_true_eq, Bool.decide_eq_true, rep_d, List.length_append, List.length_reverse, map_snoc, map_app, Int.sub_zero, List.append_assoc, ite_self, ev_isK, ie, w, nin]
theorem law_k06 : Says 63 m_law_k06 := by
  intro ns hl
  obtain ⟨cs, h1, h2⟩ := cells_eq ns (by omega) 3 (by decide) (by decide)
  have q := lc_flt (gx := gSlot 2) (t := c_law_k06_1) (fe := x_law_k06_1) (is := [2]) (e := [.v (.list (ns.map .int)), .own (.list (cs.map .int)), .no]) (fun _ => false) (fun x => .int x) (rgI 0 cs.length) (by rw [rgI_len]; omega) (fun x hx => by
    have hx := rgI_mem.mp hx
    obtain ⟨t, e1⟩ := tap_eq (cs.getD x.toNat 0) x hx.1 (by omega)
    obtain ⟨t', e2⟩ := right06 t
    refine ⟨_, _, by simp (disch := first | assumption | omega | decide) only [ev0, ev1, ev2, ev3, ev4, ev5, ev6, dList, dTup, mutS, borS, argsD, nodupB, putM, frzN, safeOp, safeD, safeDs, wipeE, restore, argCells, List.getD_cons_zero, List.getD_cons_succ, List.set_cons_zero, List.set_cons_succ, List.length_cons, List.length_nil, List.cons_append, List.nil_append, List.append_nil, List.replicate_succ, List.replicate_zero, List.not_mem_nil, List.mem_cons, if_true, if_false, ite_true, ite_false, Bool.true_and, Bool.and_true, Bool.not_true, Bool.not_false, Bool.false_eq_true, reduceIte, List.getElem?_cons_zero, List.getElem?_cons_succ, List.all_nil, List.all_cons, List.contains_nil, Option.map_some, Option.map_none, Option.bind_some, and_self, and_true, true_and, or_false, false_or, or_true, true_or, Nat.reduceAdd, Nat.reduceSub, Nat.reduceLT, Nat.reduceLeDiff, Nat.reduceEqDiff, Nat.zero_add, eq_self, true_implies, not_false_eq_true, not_true_eq_false, Nat.lt_irrefl, Nat.succ_ne_zero, Nat.lt_add_one, ne_eq, Int.reduceEq, Int.reduceNe, decide_true, decide_false, Nat.zero_lt_succ, Bool.not_eq_true', decide_not, Nat.add_one_ne_zero, Nat.zero_le, Nat.le_refl, Bool.or_true, Bool.or_false, Bool.true_or, Bool.false_or, Bool.and_false, Bool.false_and, Nat.reduceMul, isiB, String.reduceBEq, Bool.or_self, Bool.and_self, reduceCtorEq, isSS, List.contains_cons, Nat.reduceBEq, ix_ll, eq_ln, ne_ln, List.length_map, List.length_range, Int.reduceToNat, Int.reducePow, Int.reduceMul, Int.reduceAdd, Int.reduceSub, Int.reduceNeg, Int.reduceLE, Int.reduceLT, Int.toNat_natCast, Bool.and_eq_true, Bool.or_eq_true, decide_eq_true_eq, Bool.decide_eq_true, rep_d, List.length_append, List.length_reverse, map_snoc, map_app, Int.sub_zero, List.append_assoc, ite_self] <;> rfl, by
      unfold c_law_k06_1
      simp (disch := first | assumption | omega | decide) only [ev0, ev1, ev2, ev3, ev4, ev5, ev6, dList, dTup, mutS, borS, argsD, nodupB, putM, frzN, safeOp, safeD, safeDs, wipeE, restore, argCells, List.getD_cons_zero, List.getD_cons_succ, List.set_cons_zero, List.set_cons_succ, List.length_cons, List.length_nil, List.cons_append, List.nil_append, List.append_nil, List.replicate_succ, List.replicate_zero, List.not_mem_nil, List.mem_cons, if_true, if_false, ite_true, ite_false, Bool.true_and, Bool.and_true, Bool.not_true, Bool.not_false, Bool.false_eq_true, reduceIte, List.getElem?_cons_zero, List.getElem?_cons_succ, List.all_nil, List.all_cons, List.contains_nil, Option.map_some, Option.map_none, Option.bind_some, and_self, and_true, true_and, or_false, false_or, or_true, true_or, Nat.reduceAdd, Nat.reduceSub, Nat.reduceLT, Nat.reduceLeDiff, Nat.reduceEqDiff, Nat.zero_add, eq_self, true_implies, not_false_eq_true, not_true_eq_false, Nat.lt_irrefl, Nat.succ_ne_zero, Nat.lt_add_one, ne_eq, Int.reduceEq, Int.reduceNe, decide_true, decide_false, Nat.zero_lt_succ, Bool.not_eq_true', decide_not, Nat.add_one_ne_zero, Nat.zero_le, Nat.le_refl, Bool.or_true, Bool.or_false, Bool.true_or, Bool.false_or, Bool.and_false, Bool.false_and, Nat.reduceMul, isiB, String.reduceBEq, Bool.or_self, Bool.and_self, reduceCtorEq, isSS, List.contains_cons, Nat.reduceBEq, ix_ll, eq_ln, ne_ln, List.length_map, List.length_range, Int.reduceToNat, Int.reducePow, Int.reduceMul, Int.reduceAdd, Int.reduceSub, Int.reduceNeg, Int.reduceLE, Int.reduceLT, Int.toNat_natCast, Bool.and_eq_true, Bool.or_eq_true, decide_eq_true_eq, Bool.decide_eq_true, rep_d, List.length_append, List.length_reverse, map_snoc, map_app, Int.sub_zero, List.append_assoc, ite_self, e1, e2, tap_safe, callX, T3.liftM, cutM] <;> rfl, fun _ => by simp (disch := first | assumption | omega | decide) only [ev0, ev1, ev2, ev3, ev4, ev5, ev6, dList, dTup, mutS, borS, argsD, nodupB, putM, frzN, safeOp, safeD, safeDs, wipeE, restore, argCells, List.getD_cons_zero, List.getD_cons_succ, List.set_cons_zero, List.set_cons_succ, List.length_cons, List.length_nil, List.cons_append, List.nil_append, List.append_nil, List.replicate_succ, List.replicate_zero, List.not_mem_nil, List.mem_cons, if_true, if_false, ite_true, ite_false, Bool.true_and, Bool.and_true, Bool.not_true, Bool.not_false, Bool.false_eq_true, reduceIte, List.getElem?_cons_zero, List.getElem?_cons_succ, List.all_nil, List.all_cons, List.contains_nil, Option.map_some, Option.map_none, Option.bind_some, and_self, and_true, true_and, or_false, false_or, or_true, true_or, Nat.reduceAdd, Nat.reduceSub, Nat.reduceLT, Nat.reduceLeDiff, Nat.reduceEqDiff, Nat.zero_add, eq_self, true_implies, not_false_eq_true, not_true_eq_false, Nat.lt_irrefl, Nat.succ_ne_zero, Nat.lt_add_one, ne_eq, Int.reduceEq, Int.reduceNe, decide_true, decide_false, Nat.zero_lt_succ, Bool.not_eq_true', decide_not, Nat.add_one_ne_zero, Nat.zero_le, Nat.le_refl, Bool.or_true, Bool.or_false, Bool.true_or, Bool.false_or, Bool.and_false, Bool.false_and, Nat.reduceMul, isiB, String.reduceBEq, Bool.or_self, Bool.and_self, reduceCtorEq, isSS, List.contains_cons, Nat.reduceBEq, ix_ll, eq_ln, ne_ln, List.length_map, List.length_range, Int.reduceToNat, Int.reducePow, Int.reduceMul, Int.reduceAdd, Int.reduceSub, Int.reduceNeg, Int.reduceLE, Int.reduceLT, Int.toNat_natCast, Bool.and_eq_true, Bool.or_eq_true, decide_eq_true_eq, Bool.decide_eq_true, rep_d, List.length_append, List.length_reverse, map_snoc, map_app, Int.sub_zero, List.append_assoc, ite_self, List.take_succ_cons, List.take_zero], fun z => Bool.noConfusion z⟩)
  rw [flt_none] at q
  refine ⟨[], ?_⟩
  unfold m_law_k06 b_law_k06
  simp (disch := first | assumption | omega | decide) only [ev0, ev1, ev2, ev3, ev4, ev5, ev6, dList, dTup, mutS, borS, argsD, nodupB, putM, frzN, safeOp, safeD, safeDs, wipeE, restore, argCells, List.getD_cons_zero, List.getD_cons_succ, List.set_cons_zero, List.set_cons_succ, List.length_cons, List.length_nil, List.cons_append, List.nil_append, List.append_nil, List.replicate_succ, List.replicate_zero, List.not_mem_nil, List.mem_cons, if_true, if_false, ite_true, ite_false, Bool.true_and, Bool.and_true, Bool.not_true, Bool.not_false, Bool.false_eq_true, reduceIte, List.getElem?_cons_zero, List.getElem?_cons_succ, List.all_nil, List.all_cons, List.contains_nil, Option.map_some, Option.map_none, Option.bind_some, and_self, and_true, true_and, or_false, false_or, or_true, true_or, Nat.reduceAdd, Nat.reduceSub, Nat.reduceLT, Nat.reduceLeDiff, Nat.reduceEqDiff, Nat.zero_add, eq_self, true_implies, not_false_eq_true, not_true_eq_false, Nat.lt_irrefl, Nat.succ_ne_zero, Nat.lt_add_one, ne_eq, Int.reduceEq, Int.reduceNe, decide_true, decide_false, Nat.zero_lt_succ, Bool.not_eq_true', decide_not, Nat.add_one_ne_zero, Nat.zero_le, Nat.le_refl, Bool.or_true, Bool.or_false, Bool.true_or, Bool.false_or, Bool.and_false, Bool.false_and, Nat.reduceMul, isiB, String.reduceBEq, Bool.or_self, Bool.and_self, reduceCtorEq, isSS, List.contains_cons, Nat.reduceBEq, ix_ll, eq_ln, ne_ln, List.length_map, List.length_range, Int.reduceToNat, Int.reducePow, Int.reduceMul, Int.reduceAdd, Int.reduceSub, Int.reduceNeg, Int.reduceLE, Int.reduceLT, Int.toNat_natCast, Bool.and_eq_true, Bool.or_eq_true, decide_eq_true_eq, Bool.decide_eq_true, rep_d, List.length_append, List.length_reverse, map_snoc, map_app, Int.sub_zero, List.append_assoc, ite_self, h2, q, List.map_nil]
end Pg
namespace G_k06
open PySem PySem.Spec PyProof.Rows L2 T3 Pg
def top (i : Nat) : Stmt := PySem.Challenge.pw_sureturns_k06_errors_made.main.body.getD i (.Pass ⟨0, 0, 0, 0⟩)
abbrev s_X_init : Stmt := inClass (top 20) 0
abbrev s_l_tap : Stmt := top 22
abbrev s_l_draw : Stmt := top 23
abbrev s_l_cells : Stmt := top 24
abbrev s_l_which : Stmt := top 26
abbrev s_l_made : Stmt := top 25
abbrev s_l_right : Stmt := top 27
abbrev N_l_right : List Str := ["_law_tap_here", "_law_letters", "_law_text", "_law_field", "_law_errors_here", "_law_k", "_law_first", "_law_error", "_law_turn", "_law_other"]
abbrev s_law : Stmt := top 28
abbrev N_law : List Str := ["_law_script", "_law_cells_here", "_law_k"]
structure Txt (K : Fg) (mg : Str → Option Value) where
  a_X_init : Addr
  d_X_init : FuncData
  F_X_init : FunD K "__init__" "InvalidText.__init__" (defArgs s_X_init) (defBody s_X_init) (defScope s_X_init) [] [] a_X_init d_X_init
  
  a_l_tap : Addr
  d_l_tap : FuncData
  F_l_tap : FunD K "_law_tap" "_law_tap" (defArgs s_l_tap) (defBody s_l_tap) (defScope s_l_tap) [] [] a_l_tap d_l_tap
  g_l_tap : mg "_law_tap" = some (.ref a_l_tap)
  a_l_draw : Addr
  d_l_draw : FuncData
  F_l_draw : FunD K "_law_draw" "_law_draw" (defArgs s_l_draw) (defBody s_l_draw) (defScope s_l_draw) [] [] a_l_draw d_l_draw
  g_l_draw : mg "_law_draw" = some (.ref a_l_draw)
  a_l_cells : Addr
  d_l_cells : FuncData
  F_l_cells : FunD K "_law_cells" "_law_cells" (defArgs s_l_cells) (defBody s_l_cells) (defScope s_l_cells) [] [] a_l_cells d_l_cells
  g_l_cells : mg "_law_cells" = some (.ref a_l_cells)
  a_l_which : Addr
  d_l_which : FuncData
  F_l_which : FunD K "_law_which" "_law_which" (defArgs s_l_which) (defBody s_l_which) (defScope s_l_which) [] [] a_l_which d_l_which
  g_l_which : mg "_law_which" = some (.ref a_l_which)
  a_l_made : Addr
  d_l_made : FuncData
  F_l_made : FunD K "_law_made" "_law_made" (defArgs s_l_made) (defBody s_l_made) (defScope s_l_made) [] [] a_l_made d_l_made
  g_l_made : mg "_law_made" = some (.ref a_l_made)
  a_l_right : Addr
  d_l_right : FuncData
  F_l_right : FunD K "_law_right" "_law_right" (defArgs s_l_right) (defBody s_l_right) (defScope s_l_right) [] [] a_l_right d_l_right
  g_l_right : mg "_law_right" = some (.ref a_l_right)
  a_law : Addr
  d_law : FuncData
  F_law : FunD K "law" "law" (defArgs s_law) (defBody s_law) (defScope s_law) [] [] a_law d_law
  g_law : mg "law" = some (.ref a_law)
  b_X_init : ∃ ds : List Value, Vals [] ds ∧ Binds K d_X_init ["self", "place"] ds
  b_l_cells : ∃ ds : List Value, Vals [] ds ∧ Binds K d_l_cells ["_law_script", "_law_many"] ds
  b_l_draw : ∃ ds : List Value, Vals [] ds ∧ Binds K d_l_draw ["_law_tap_here", "_law_bound"] ds
  b_l_made : ∃ ds : List Value, Vals [] ds ∧ Binds K d_l_made ["_law_text", "_law_field"] ds
  b_l_right : ∃ ds : List Value, Vals [] ds ∧ Binds K d_l_right ["_law_tap_here"] ds
  b_l_tap : ∃ ds : List Value, Vals [] ds ∧ Binds K d_l_tap ["_law_cell", "_law_turn"] ds
  b_l_which : ∃ ds : List Value, Vals [] ds ∧ Binds K d_l_which ["_law_error"] ds
  f_ValueError : mg "ValueError" = none
  f_abs : mg "abs" = none
  f_int : mg "int" = none
  f_isinstance : mg "isinstance" = none
  f_len : mg "len" = none
  f_max : mg "max" = none
  f_min : mg "min" = none
  f_range : mg "range" = none
  f_repr : mg "repr" = none
  e_InvalidCommand : Addr
  gx_InvalidCommand : mg "InvalidCommand" = some (.ref e_InvalidCommand)
  x_InvalidCommand : PySem.W.excIn K e_InvalidCommand He.veBase "ValueError.__new__" = true ∧ PySem.W.keepIn K (.ref e_InvalidCommand) = true ∧ PySem.W.subIn K (.ref e_InvalidCommand) (.type "BaseException") = some true ∧ PySem.W.typeIn K (.ref e_InvalidCommand) = some (.type "type")
  e_InvalidIndex : Addr
  gx_InvalidIndex : mg "InvalidIndex" = some (.ref e_InvalidIndex)
  x_InvalidIndex : PySem.W.excIn K e_InvalidIndex He.veBase "ValueError.__new__" = true ∧ PySem.W.keepIn K (.ref e_InvalidIndex) = true ∧ PySem.W.subIn K (.ref e_InvalidIndex) (.type "BaseException") = some true ∧ PySem.W.typeIn K (.ref e_InvalidIndex) = some (.type "type")
  e_InvalidLoop : Addr
  gx_InvalidLoop : mg "InvalidLoop" = some (.ref e_InvalidLoop)
  x_InvalidLoop : PySem.W.excIn K e_InvalidLoop He.veBase "ValueError.__new__" = true ∧ PySem.W.keepIn K (.ref e_InvalidLoop) = true ∧ PySem.W.subIn K (.ref e_InvalidLoop) (.type "BaseException") = some true ∧ PySem.W.typeIn K (.ref e_InvalidLoop) = some (.type "type")
  e_InvalidMany : Addr
  gx_InvalidMany : mg "InvalidMany" = some (.ref e_InvalidMany)
  x_InvalidMany : PySem.W.excIn K e_InvalidMany He.veBase "ValueError.__new__" = true ∧ PySem.W.keepIn K (.ref e_InvalidMany) = true ∧ PySem.W.subIn K (.ref e_InvalidMany) (.type "BaseException") = some true ∧ PySem.W.typeIn K (.ref e_InvalidMany) = some (.type "type")
  e_InvalidMoves : Addr
  gx_InvalidMoves : mg "InvalidMoves" = some (.ref e_InvalidMoves)
  x_InvalidMoves : PySem.W.excIn K e_InvalidMoves He.veBase "ValueError.__new__" = true ∧ PySem.W.keepIn K (.ref e_InvalidMoves) = true ∧ PySem.W.subIn K (.ref e_InvalidMoves) (.type "BaseException") = some true ∧ PySem.W.typeIn K (.ref e_InvalidMoves) = some (.type "type")
  e_InvalidPlace : Addr
  gx_InvalidPlace : mg "InvalidPlace" = some (.ref e_InvalidPlace)
  x_InvalidPlace : PySem.W.excIn K e_InvalidPlace He.veBase "ValueError.__new__" = true ∧ PySem.W.keepIn K (.ref e_InvalidPlace) = true ∧ PySem.W.subIn K (.ref e_InvalidPlace) (.type "BaseException") = some true ∧ PySem.W.typeIn K (.ref e_InvalidPlace) = some (.type "type")
  e_InvalidPoint : Addr
  gx_InvalidPoint : mg "InvalidPoint" = some (.ref e_InvalidPoint)
  x_InvalidPoint : PySem.W.excIn K e_InvalidPoint He.veBase "ValueError.__new__" = true ∧ PySem.W.keepIn K (.ref e_InvalidPoint) = true ∧ PySem.W.subIn K (.ref e_InvalidPoint) (.type "BaseException") = some true ∧ PySem.W.typeIn K (.ref e_InvalidPoint) = some (.type "type")
  e_InvalidRate : Addr
  gx_InvalidRate : mg "InvalidRate" = some (.ref e_InvalidRate)
  x_InvalidRate : PySem.W.excIn K e_InvalidRate He.veBase "ValueError.__new__" = true ∧ PySem.W.keepIn K (.ref e_InvalidRate) = true ∧ PySem.W.subIn K (.ref e_InvalidRate) (.type "BaseException") = some true ∧ PySem.W.typeIn K (.ref e_InvalidRate) = some (.type "type")
  e_InvalidRing : Addr
  gx_InvalidRing : mg "InvalidRing" = some (.ref e_InvalidRing)
  x_InvalidRing : PySem.W.excIn K e_InvalidRing He.veBase "ValueError.__new__" = true ∧ PySem.W.keepIn K (.ref e_InvalidRing) = true ∧ PySem.W.subIn K (.ref e_InvalidRing) (.type "BaseException") = some true ∧ PySem.W.typeIn K (.ref e_InvalidRing) = some (.type "type")
  e_InvalidSight : Addr
  gx_InvalidSight : mg "InvalidSight" = some (.ref e_InvalidSight)
  x_InvalidSight : PySem.W.excIn K e_InvalidSight He.veBase "ValueError.__new__" = true ∧ PySem.W.keepIn K (.ref e_InvalidSight) = true ∧ PySem.W.subIn K (.ref e_InvalidSight) (.type "BaseException") = some true ∧ PySem.W.typeIn K (.ref e_InvalidSight) = some (.type "type")
  e_InvalidStretch : Addr
  gx_InvalidStretch : mg "InvalidStretch" = some (.ref e_InvalidStretch)
  x_InvalidStretch : PySem.W.excIn K e_InvalidStretch He.veBase "ValueError.__new__" = true ∧ PySem.W.keepIn K (.ref e_InvalidStretch) = true ∧ PySem.W.subIn K (.ref e_InvalidStretch) (.type "BaseException") = some true ∧ PySem.W.typeIn K (.ref e_InvalidStretch) = some (.type "type")
  e_InvalidTicks : Addr
  gx_InvalidTicks : mg "InvalidTicks" = some (.ref e_InvalidTicks)
  x_InvalidTicks : PySem.W.excIn K e_InvalidTicks He.veBase "ValueError.__new__" = true ∧ PySem.W.keepIn K (.ref e_InvalidTicks) = true ∧ PySem.W.subIn K (.ref e_InvalidTicks) (.type "BaseException") = some true ∧ PySem.W.typeIn K (.ref e_InvalidTicks) = some (.type "type")
  e_InvalidTurn : Addr
  gx_InvalidTurn : mg "InvalidTurn" = some (.ref e_InvalidTurn)
  x_InvalidTurn : PySem.W.excIn K e_InvalidTurn He.veBase "ValueError.__new__" = true ∧ PySem.W.keepIn K (.ref e_InvalidTurn) = true ∧ PySem.W.subIn K (.ref e_InvalidTurn) (.type "BaseException") = some true ∧ PySem.W.typeIn K (.ref e_InvalidTurn) = some (.type "type")
  e_InvalidTurns : Addr
  gx_InvalidTurns : mg "InvalidTurns" = some (.ref e_InvalidTurns)
  x_InvalidTurns : PySem.W.excIn K e_InvalidTurns He.veBase "ValueError.__new__" = true ∧ PySem.W.keepIn K (.ref e_InvalidTurns) = true ∧ PySem.W.subIn K (.ref e_InvalidTurns) (.type "BaseException") = some true ∧ PySem.W.typeIn K (.ref e_InvalidTurns) = some (.type "type")
  e_NotForced : Addr
  gx_NotForced : mg "NotForced" = some (.ref e_NotForced)
  x_NotForced : PySem.W.excIn K e_NotForced He.veBase "ValueError.__new__" = true ∧ PySem.W.keepIn K (.ref e_NotForced) = true ∧ PySem.W.subIn K (.ref e_NotForced) (.type "BaseException") = some true ∧ PySem.W.typeIn K (.ref e_NotForced) = some (.type "type")
  e_NotLoose : Addr
  gx_NotLoose : mg "NotLoose" = some (.ref e_NotLoose)
  x_NotLoose : PySem.W.excIn K e_NotLoose He.veBase "ValueError.__new__" = true ∧ PySem.W.keepIn K (.ref e_NotLoose) = true ∧ PySem.W.subIn K (.ref e_NotLoose) (.type "BaseException") = some true ∧ PySem.W.typeIn K (.ref e_NotLoose) = some (.type "type")
  e_NothingToUndo : Addr
  gx_NothingToUndo : mg "NothingToUndo" = some (.ref e_NothingToUndo)
  x_NothingToUndo : PySem.W.excIn K e_NothingToUndo He.veBase "ValueError.__new__" = true ∧ PySem.W.keepIn K (.ref e_NothingToUndo) = true ∧ PySem.W.subIn K (.ref e_NothingToUndo) (.type "BaseException") = some true ∧ PySem.W.typeIn K (.ref e_NothingToUndo) = some (.type "type")
  e_OtherGoal : Addr
  gx_OtherGoal : mg "OtherGoal" = some (.ref e_OtherGoal)
  x_OtherGoal : PySem.W.excIn K e_OtherGoal He.veBase "ValueError.__new__" = true ∧ PySem.W.keepIn K (.ref e_OtherGoal) = true ∧ PySem.W.subIn K (.ref e_OtherGoal) (.type "BaseException") = some true ∧ PySem.W.typeIn K (.ref e_OtherGoal) = some (.type "type")
  e_TurnError : Addr
  gx_TurnError : mg "TurnError" = some (.ref e_TurnError)
  x_TurnError : PySem.W.excIn K e_TurnError He.veBase "ValueError.__new__" = true ∧ PySem.W.keepIn K (.ref e_TurnError) = true ∧ PySem.W.subIn K (.ref e_TurnError) (.type "BaseException") = some true ∧ PySem.W.typeIn K (.ref e_TurnError) = some (.type "type")
  e_InvalidText : Addr
  gx_InvalidText : mg "InvalidText" = some (.ref e_InvalidText)
  px_InvalidText : T3.PxC K e_InvalidText e_TurnError a_X_init
  ec_TurnError : T3.EC K "TurnError" e_TurnError
  ec_InvalidMoves : T3.EC K "InvalidMoves" e_InvalidMoves
  ec_InvalidTurn : T3.EC K "InvalidTurn" e_InvalidTurn
  ec_InvalidTurns : T3.EC K "InvalidTurns" e_InvalidTurns
  ec_InvalidPlace : T3.EC K "InvalidPlace" e_InvalidPlace
  ec_InvalidStretch : T3.EC K "InvalidStretch" e_InvalidStretch
  ec_InvalidLoop : T3.EC K "InvalidLoop" e_InvalidLoop
  ec_InvalidPoint : T3.EC K "InvalidPoint" e_InvalidPoint
  ec_InvalidRing : T3.EC K "InvalidRing" e_InvalidRing
  ec_InvalidRate : T3.EC K "InvalidRate" e_InvalidRate
  ec_InvalidMany : T3.EC K "InvalidMany" e_InvalidMany
  ec_InvalidTicks : T3.EC K "InvalidTicks" e_InvalidTicks
  ec_InvalidIndex : T3.EC K "InvalidIndex" e_InvalidIndex
  ec_InvalidSight : T3.EC K "InvalidSight" e_InvalidSight
  ec_InvalidCommand : T3.EC K "InvalidCommand" e_InvalidCommand
  ec_NotLoose : T3.EC K "NotLoose" e_NotLoose
  ec_NotForced : T3.EC K "NotForced" e_NotForced
  ec_OtherGoal : T3.EC K "OtherGoal" e_OtherGoal
  ec_NothingToUndo : T3.EC K "NothingToUndo" e_NothingToUndo
  ec_InvalidText : T3.EC K "InvalidText" e_InvalidText
  it_TurnError : T3.IsTab K nms_k06 ["TurnError"] (.ref e_TurnError)
  it_InvalidMoves : T3.IsTab K nms_k06 ["InvalidMoves"] (.ref e_InvalidMoves)
  it_InvalidTurn : T3.IsTab K nms_k06 ["InvalidTurn"] (.ref e_InvalidTurn)
  it_InvalidTurns : T3.IsTab K nms_k06 ["InvalidTurns"] (.ref e_InvalidTurns)
  it_InvalidPlace : T3.IsTab K nms_k06 ["InvalidPlace"] (.ref e_InvalidPlace)
  it_InvalidStretch : T3.IsTab K nms_k06 ["InvalidStretch"] (.ref e_InvalidStretch)
  it_InvalidLoop : T3.IsTab K nms_k06 ["InvalidLoop"] (.ref e_InvalidLoop)
  it_InvalidPoint : T3.IsTab K nms_k06 ["InvalidPoint"] (.ref e_InvalidPoint)
  it_InvalidRing : T3.IsTab K nms_k06 ["InvalidRing"] (.ref e_InvalidRing)
  it_InvalidRate : T3.IsTab K nms_k06 ["InvalidRate"] (.ref e_InvalidRate)
  it_InvalidMany : T3.IsTab K nms_k06 ["InvalidMany"] (.ref e_InvalidMany)
  it_InvalidTicks : T3.IsTab K nms_k06 ["InvalidTicks"] (.ref e_InvalidTicks)
  it_InvalidIndex : T3.IsTab K nms_k06 ["InvalidIndex"] (.ref e_InvalidIndex)
  it_InvalidSight : T3.IsTab K nms_k06 ["InvalidSight"] (.ref e_InvalidSight)
  it_InvalidCommand : T3.IsTab K nms_k06 ["InvalidCommand"] (.ref e_InvalidCommand)
  it_NotLoose : T3.IsTab K nms_k06 ["NotLoose"] (.ref e_NotLoose)
  it_NotForced : T3.IsTab K nms_k06 ["NotForced"] (.ref e_NotForced)
  it_OtherGoal : T3.IsTab K nms_k06 ["OtherGoal"] (.ref e_OtherGoal)
  it_NothingToUndo : T3.IsTab K nms_k06 ["NothingToUndo"] (.ref e_NothingToUndo)
  it_InvalidText : T3.IsTab K nms_k06 ["InvalidText"] (.ref e_InvalidText)
  itb_ValueError : T3.IsTab K nms_k06 ["TurnError"] (.type "ValueError")
  pk_InvalidText : ∀ C, T3.EC K "InvalidText" C → L2.XfC K C ∧ PySem.W.findIn K (.ref C) "place" = some none
section
variable {P : Program} {w : World} {K : Fg} {mg : Str → Option Value} {base : Heap}
theorem sc_X_init : FnScope ["self", "place"] ["self", "place"] (defScope s_X_init) := ⟨rfl, rfl, rfl, by decide +kernel, rfl, by decide +kernel, by decide +kernel⟩
theorem ok_X_init (T : Txt K mg) : FnOk P w K mg base (L2.CX P w) 1 T.a_X_init T.d_X_init ["self", "place"] (spPI K) := ok_pinit T.F_X_init sc_X_init (fun _ _ _ _ _ _ => rfl) T.gx_TurnError T.px_InvalidText.tg T.px_InvalidText.tr T.px_InvalidText.tf (fun env h => by obtain ⟨_, _, _, _, _, _, _⟩ := env; cases h; exact ⟨_, rfl⟩)
theorem sc_l_tap : FnScope ["_law_cell", "_law_turn", "_law_whole"] ["_law_cell", "_law_turn"] (defScope s_l_tap) := ⟨rfl, rfl, rfl, by decide +kernel, rfl, by decide +kernel, by decide +kernel⟩
theorem ok_l_tap (T : Txt K mg) : FnG P w K mg base 1 T.a_l_tap T.d_l_tap ["_law_cell", "_law_turn"] (spFn K mg [] 2 m_l_tap) :=
  jfn T.F_l_tap sc_l_tap (by decide) fun c A outer s H E hr hG => by
    have hu := T3.u160 hr
    have hu65 := T3.u65 hr
    have tk : TakesE (cxOf (L2.CX P w) P w K mg base ["_law_cell", "_law_turn", "_law_whole"] "_law_tap" (defScope s_l_tap) T.a_l_tap c A outer s H E) (fun _ => E) := takes_of rfl rfl rfl rfl
    exact (jb_cons (js_set (i := 2) (jp_add (jp_mul jp_int (jp_abs rfl T.f_abs (ja_cons (jp_s 0) ja_nil))) (jp_int1 rfl T.f_int (ja_cons (jp_lt (jp_s 0) jp_int) ja_nil))) sc_l_tap.nd rfl (by first | exact Or.inl rfl | exact Or.inr rfl))
    (jb_one (js_ret (jp_list (ja_cons (jp_s 2) (ja_cons (jp_add (jp_add (jp_mod (jp_int1 rfl T.f_int (ja_cons (jp_s 2) ja_nil)) jp_int) (jp_mul jp_int (jp_s 1))) jp_int) (ja_cons (jp_add (jp_add (jp_mod (jp_int1 rfl T.f_int (ja_cons (jp_s 2) ja_nil)) jp_int) (jp_mul jp_int (jp_s 1))) jp_int) ja_nil)))))))
theorem sc_l_draw : FnScope ["_law_tap_here", "_law_bound", "_law_found"] ["_law_tap_here", "_law_bound"] (defScope s_l_draw) := ⟨rfl, rfl, rfl, by decide +kernel, rfl, by decide +kernel, by decide +kernel⟩
theorem ok_l_draw (T : Txt K mg) : FnG P w K mg base 1 T.a_l_draw T.d_l_draw ["_law_tap_here", "_law_bound"] (spFn K mg [0] 2 m_l_draw) :=
  jfn T.F_l_draw sc_l_draw (by decide) fun c A outer s H E hr hG => by
    have hu := T3.u160 hr
    have hu65 := T3.u65 hr
    have tk : TakesE (cxOf (L2.CX P w) P w K mg base ["_law_tap_here", "_law_bound", "_law_found"] "_law_draw" (defScope s_l_draw) T.a_l_draw c A outer s H E) (fun _ => E) := takes_of rfl rfl rfl rfl
    exact (jb_cons (js_if (jt_ge (jp_ix (fun _ _ => rfl) (jp_s 0) jp_int) (jp_pow jp_int jp_int)) (jb_cons (js_set (i := 2) (jp_mod (jp_int1 rfl T.f_int (ja_cons (jp_ix (fun _ _ => rfl) (jp_s 0) jp_int) ja_nil)) (jp_s 1)) sc_l_draw.nd rfl (by first | exact Or.inl rfl | exact Or.inr rfl))
    (jb_cons (js_store 0 (jp_div (jp_ix (fun _ _ => rfl) (jp_s 0) jp_int) (jp_s 1)) jp_int)
    (jb_one (js_ret (jp_s 2))))) jb_nil)
    (jb_cons (js_store 0 (jp_mod (jp_int1 rfl T.f_int (ja_cons (jp_add (jp_mul (jp_ix (fun _ _ => rfl) (jp_s 0) jp_int) jp_int) jp_int) ja_nil)) jp_int) jp_int)
    (jb_cons (js_store 0 (jp_mod (jp_int1 rfl T.f_int (ja_cons (jp_add (jp_mul (jp_ix (fun _ _ => rfl) (jp_s 0) jp_int) (jp_ix (fun _ _ => rfl) (jp_s 0) jp_int)) (jp_ix (fun _ _ => rfl) (jp_s 0) jp_int)) ja_nil)) jp_int) jp_int)
    (jb_one (js_ret (jp_mod (jp_int1 rfl T.f_int (ja_cons (jp_add (jp_div (jp_ix (fun _ _ => rfl) (jp_s 0) jp_int) jp_int) (jp_div (jp_ix (fun _ _ => rfl) (jp_s 0) jp_int) jp_int)) ja_nil)) (jp_s 1)))))))
theorem sc_l_cells : FnScope ["_law_script", "_law_many"] ["_law_script", "_law_many"] (defScope s_l_cells) := ⟨rfl, rfl, rfl, by decide +kernel, rfl, by decide +kernel, by decide +kernel⟩
theorem ok_l_cells (T : Txt K mg) : FnG P w K mg base 1 T.a_l_cells T.d_l_cells ["_law_script", "_law_many"] (spFn K mg [] 2 m_l_cells) :=
  jfn T.F_l_cells sc_l_cells (by decide) fun c A outer s H E hr hG => by
    have hu := T3.u160 hr
    have hu65 := T3.u65 hr
    have tk : TakesE (cxOf (L2.CX P w) P w K mg base ["_law_script", "_law_many"] "_law_cells" (defScope s_l_cells) T.a_l_cells c A outer s H E) (fun _ => E) := takes_of rfl rfl rfl rfl
    exact (jb_one (js_ret (jp_slice (jp_add (jp_s 0) (jp_list (ja_cons jp_int ja_nil))) jo_none (jo_some (jp_max2 rfl rfl T.f_max (ja_cons jp_int (ja_cons (jp_min2 rfl rfl T.f_min (ja_cons (jp_s 1) (ja_cons (jp_len rfl T.f_len (ja_cons (jp_s 0) ja_nil)) ja_nil))) ja_nil)))))))
theorem sc_l_which : FnScope ["_law_error", "_law_found"] ["_law_error"] (defScope s_l_which) := ⟨rfl, rfl, rfl, by decide +kernel, rfl, by decide +kernel, by decide +kernel⟩
theorem ok_l_which (T : Txt K mg) : FnG P w K mg base 1 T.a_l_which T.d_l_which ["_law_error"] (spFn K mg [] 1 m_l_which) :=
  jfn T.F_l_which sc_l_which (by decide) fun c A outer s H E hr hG => by
    have hu := T3.u160 hr
    have hu65 := T3.u65 hr
    have tk : TakesE (cxOf (L2.CX P w) P w K mg base ["_law_error", "_law_found"] "_law_which" (defScope s_l_which) T.a_l_which c A outer s H E) (fun _ => E) := takes_of rfl rfl rfl rfl
    exact (jb_cons (js_set (i := 1) (jp_list (ja_cons (jp_isK T.it_InvalidMoves rfl T.f_isinstance rfl T.gx_InvalidMoves (jp_s 0)) (ja_cons (jp_isK T.it_InvalidTurn rfl T.f_isinstance rfl T.gx_InvalidTurn (jp_s 0)) (ja_cons (jp_isK T.it_InvalidTurns rfl T.f_isinstance rfl T.gx_InvalidTurns (jp_s 0)) ja_nil)))) sc_l_which.nd rfl (by first | exact Or.inl rfl | exact Or.inr rfl))
    (jb_cons (js_set (i := 1) (jp_add (jp_s 1) (jp_list (ja_cons (jp_isK T.it_InvalidPlace rfl T.f_isinstance rfl T.gx_InvalidPlace (jp_s 0)) (ja_cons (jp_isK T.it_InvalidStretch rfl T.f_isinstance rfl T.gx_InvalidStretch (jp_s 0)) ja_nil)))) sc_l_which.nd rfl (by first | exact Or.inl rfl | exact Or.inr rfl))
    (jb_cons (js_set (i := 1) (jp_add (jp_s 1) (jp_list (ja_cons (jp_isK T.it_InvalidLoop rfl T.f_isinstance rfl T.gx_InvalidLoop (jp_s 0)) (ja_cons (jp_isK T.it_InvalidPoint rfl T.f_isinstance rfl T.gx_InvalidPoint (jp_s 0)) (ja_cons (jp_isK T.it_InvalidRing rfl T.f_isinstance rfl T.gx_InvalidRing (jp_s 0)) ja_nil))))) sc_l_which.nd rfl (by first | exact Or.inl rfl | exact Or.inr rfl))
    (jb_cons (js_set (i := 1) (jp_add (jp_s 1) (jp_list (ja_cons (jp_isK T.it_InvalidRate rfl T.f_isinstance rfl T.gx_InvalidRate (jp_s 0)) (ja_cons (jp_isK T.it_InvalidMany rfl T.f_isinstance rfl T.gx_InvalidMany (jp_s 0)) (ja_cons (jp_isK T.it_InvalidTicks rfl T.f_isinstance rfl T.gx_InvalidTicks (jp_s 0)) ja_nil))))) sc_l_which.nd rfl (by first | exact Or.inl rfl | exact Or.inr rfl))
    (jb_cons (js_set (i := 1) (jp_add (jp_s 1) (jp_list (ja_cons (jp_isK T.it_InvalidIndex rfl T.f_isinstance rfl T.gx_InvalidIndex (jp_s 0)) (ja_cons (jp_isK T.it_InvalidSight rfl T.f_isinstance rfl T.gx_InvalidSight (jp_s 0)) ja_nil)))) sc_l_which.nd rfl (by first | exact Or.inl rfl | exact Or.inr rfl))
    (jb_cons (js_set (i := 1) (jp_add (jp_s 1) (jp_list (ja_cons (jp_isK T.it_InvalidCommand rfl T.f_isinstance rfl T.gx_InvalidCommand (jp_s 0)) (ja_cons (jp_isK T.it_NotLoose rfl T.f_isinstance rfl T.gx_NotLoose (jp_s 0)) (ja_cons (jp_isK T.it_NotForced rfl T.f_isinstance rfl T.gx_NotForced (jp_s 0)) ja_nil))))) sc_l_which.nd rfl (by first | exact Or.inl rfl | exact Or.inr rfl))
    (jb_one (js_ret (jp_add (jp_s 1) (jp_list (ja_cons (jp_isK T.it_OtherGoal rfl T.f_isinstance rfl T.gx_OtherGoal (jp_s 0)) (ja_cons (jp_isK T.it_NothingToUndo rfl T.f_isinstance rfl T.gx_NothingToUndo (jp_s 0)) (ja_cons (jp_isK T.it_InvalidText rfl T.f_isinstance rfl T.gx_InvalidText (jp_s 0)) ja_nil)))))))))))))
theorem sc_l_made : FnScope ["_law_text", "_law_field", "_law_found"] ["_law_text", "_law_field"] (defScope s_l_made) := ⟨rfl, rfl, rfl, by decide +kernel, rfl, by decide +kernel, by decide +kernel⟩
theorem ok_l_made (T : Txt K mg) : FnG P w K mg base 3 T.a_l_made T.d_l_made ["_law_text", "_law_field"] (spFn K mg [] 2 m_l_made) :=
  jfn T.F_l_made sc_l_made (by decide) fun c A outer s H E hr hG => by
    have hu := T3.u160 hr
    have hu65 := T3.u65 hr
    have tk : TakesE (cxOf (L2.CX P w) P w K mg base ["_law_text", "_law_field", "_law_found"] "_law_made" (defScope s_l_made) T.a_l_made c A outer s H E) (fun _ => E) := takes_of rfl rfl rfl rfl
    exact (jb_cons (js_set (i := 2) (jp_list (ja_cons (jp_mkE xVE T.x_InvalidMoves.1 T.gx_InvalidMoves T.x_InvalidMoves.2.1 T.ec_InvalidMoves rfl (jp_s 0)) (ja_cons (jp_mkE xVE T.x_InvalidTurn.1 T.gx_InvalidTurn T.x_InvalidTurn.2.1 T.ec_InvalidTurn rfl (jp_s 0)) (ja_cons (jp_mkE xVE T.x_InvalidTurns.1 T.gx_InvalidTurns T.x_InvalidTurns.2.1 T.ec_InvalidTurns rfl (jp_s 0)) (ja_cons (jp_mkE xVE T.x_InvalidPlace.1 T.gx_InvalidPlace T.x_InvalidPlace.2.1 T.ec_InvalidPlace rfl (jp_s 0)) (ja_cons (jp_mkE xVE T.x_InvalidStretch.1 T.gx_InvalidStretch T.x_InvalidStretch.2.1 T.ec_InvalidStretch rfl (jp_s 0)) ja_nil)))))) sc_l_made.nd rfl (by first | exact Or.inl rfl | exact Or.inr rfl))
    (jb_cons (js_set (i := 2) (jp_add (jp_s 2) (jp_list (ja_cons (jp_mkE xVE T.x_InvalidLoop.1 T.gx_InvalidLoop T.x_InvalidLoop.2.1 T.ec_InvalidLoop rfl (jp_s 0)) (ja_cons (jp_mkE xVE T.x_InvalidPoint.1 T.gx_InvalidPoint T.x_InvalidPoint.2.1 T.ec_InvalidPoint rfl (jp_s 0)) (ja_cons (jp_mkE xVE T.x_InvalidRing.1 T.gx_InvalidRing T.x_InvalidRing.2.1 T.ec_InvalidRing rfl (jp_s 0)) (ja_cons (jp_mkE xVE T.x_InvalidRate.1 T.gx_InvalidRate T.x_InvalidRate.2.1 T.ec_InvalidRate rfl (jp_s 0)) (ja_cons (jp_mkE xVE T.x_InvalidMany.1 T.gx_InvalidMany T.x_InvalidMany.2.1 T.ec_InvalidMany rfl (jp_s 0)) ja_nil))))))) sc_l_made.nd rfl (by first | exact Or.inl rfl | exact Or.inr rfl))
    (jb_cons (js_set (i := 2) (jp_add (jp_s 2) (jp_list (ja_cons (jp_mkE xVE T.x_InvalidTicks.1 T.gx_InvalidTicks T.x_InvalidTicks.2.1 T.ec_InvalidTicks rfl (jp_s 0)) (ja_cons (jp_mkE xVE T.x_InvalidIndex.1 T.gx_InvalidIndex T.x_InvalidIndex.2.1 T.ec_InvalidIndex rfl (jp_s 0)) (ja_cons (jp_mkE xVE T.x_InvalidSight.1 T.gx_InvalidSight T.x_InvalidSight.2.1 T.ec_InvalidSight rfl (jp_s 0)) (ja_cons (jp_mkE xVE T.x_InvalidCommand.1 T.gx_InvalidCommand T.x_InvalidCommand.2.1 T.ec_InvalidCommand rfl (jp_s 0)) (ja_cons (jp_mkE xVE T.x_NotLoose.1 T.gx_NotLoose T.x_NotLoose.2.1 T.ec_NotLoose rfl (jp_s 0)) ja_nil))))))) sc_l_made.nd rfl (by first | exact Or.inl rfl | exact Or.inr rfl))
    (jb_one (js_ret (jp_add (jp_s 2) (jp_list (ja_cons (jp_mkE xVE T.x_NotForced.1 T.gx_NotForced T.x_NotForced.2.1 T.ec_NotForced rfl (jp_s 0)) (ja_cons (jp_mkE xVE T.x_OtherGoal.1 T.gx_OtherGoal T.x_OtherGoal.2.1 T.ec_OtherGoal rfl (jp_s 0)) (ja_cons (jp_mkE xVE T.x_NothingToUndo.1 T.gx_NothingToUndo T.x_NothingToUndo.2.1 T.ec_NothingToUndo rfl (jp_s 0)) (ja_cons (jp_mkP T.px_InvalidText T.ec_InvalidText (ok_X_init T) (hr.mono (by decide)) (bindsNil T.b_X_init) rfl T.gx_InvalidText (jp_s 1)) ja_nil)))))))))))
theorem sc_l_right : FnScope ["_law_tap_here", "_law_letters", "_law_text", "_law_field", "_law_errors_here", "_law_k", "_law_first", "_law_error", "_law_turn", "_law_other"] ["_law_tap_here"] (defScope s_l_right) := ⟨rfl, rfl, rfl, by decide +kernel, rfl, by decide +kernel, by decide +kernel⟩
theorem ok_l_right (T : Txt K mg) : FnG P w K mg base 4 T.a_l_right T.d_l_right ["_law_tap_here"] (spFn K mg [0] 1 m_l_right_k06) :=
  jfn T.F_l_right sc_l_right (by decide) fun c A outer s H E hr hG => by
    have hu := T3.u160 hr
    have hu65 := T3.u65 hr
    have tk : TakesE (cxOf (L2.CX P w) P w K mg base ["_law_tap_here", "_law_letters", "_law_text", "_law_field", "_law_errors_here", "_law_k", "_law_first", "_law_error", "_law_turn", "_law_other"] "_law_right" (defScope s_l_right) T.a_l_right c A outer s H E) (fun _ => E) := takes_of rfl rfl rfl rfl
    exact (jb_cons (js_set (i := 1) jp_str sc_l_right.nd rfl (by first | exact Or.inl rfl | exact Or.inr rfl))
    (jb_cons (js_set (i := 2) (jp_joinT jp_str (jp_lc (own := [("_law_turn", 8)]) rfl sc_l_right.nd (ji_range1 rfl T.f_range (ja_cons (jp_call (ms := [0]) (fn := m_l_draw) (dflt := []) ((ok_l_draw T).mono (by decide)) hr hG rfl T.g_l_draw T.F_l_draw.kp T.b_l_draw.choose_spec.2 T.b_l_draw.choose_spec.1 (fun _ => .nil) rfl (al_cons (al_cons al_nil)) (TakesE.at tk) (ja_cons (jp_s 0) (ja_cons jp_int ja_nil))) ja_nil)) (blkOk_by (N := N_l_right) (sc := defScope s_l_right) (by decide +kernel)) (fun _ _ _ _ _ => (jg_name sc_l_right.nd rfl (by first | exact Or.inl rfl | exact Or.inr rfl) (by decide))) (fun _ _ _ _ _ => jts_nil) (fun _ _ _ _ _ => (jp_ix (fun _ _ => rfl) (jp_s 1) (jp_call (ms := [0]) (fn := m_l_draw) (dflt := []) ((ok_l_draw T).mono (by decide)) hr hG rfl T.g_l_draw T.F_l_draw.kp T.b_l_draw.choose_spec.2 T.b_l_draw.choose_spec.1 (fun _ => .nil) rfl (al_cons (al_cons al_nil)) (TakesE.at takesEF) (ja_cons (jp_s 0) (ja_cons jp_int ja_nil))))))) sc_l_right.nd rfl (by first | exact Or.inl rfl | exact Or.inr rfl))
    (jb_cons (js_set (i := 3) (jp_ix (fun _ _ => rfl) (jp_list (ja_cons jp_int (ja_cons jp_int (ja_cons (jp_call (ms := [0]) (fn := m_l_draw) (dflt := []) ((ok_l_draw T).mono (by decide)) hr hG rfl T.g_l_draw T.F_l_draw.kp T.b_l_draw.choose_spec.2 T.b_l_draw.choose_spec.1 (fun _ => .nil) rfl (al_cons (al_cons al_nil)) (TakesE.at tk) (ja_cons (jp_s 0) (ja_cons jp_int ja_nil))) (ja_cons jp_non ja_nil))))) (jp_call (ms := [0]) (fn := m_l_draw) (dflt := []) ((ok_l_draw T).mono (by decide)) hr hG rfl T.g_l_draw T.F_l_draw.kp T.b_l_draw.choose_spec.2 T.b_l_draw.choose_spec.1 (fun _ => .nil) rfl (al_cons (al_cons al_nil)) (TakesE.at tk) (ja_cons (jp_s 0) (ja_cons jp_int ja_nil)))) sc_l_right.nd rfl (by first | exact Or.inl rfl | exact Or.inr rfl))
    (jb_cons (js_set (i := 4) (jp_call (ms := []) (fn := m_l_made) (dflt := []) ((ok_l_made T).mono (by decide)) hr hG rfl T.g_l_made T.F_l_made.kp T.b_l_made.choose_spec.2 T.b_l_made.choose_spec.1 (fun _ => .nil) rfl (al_cons (al_cons al_nil)) (TakesE.at tk) (ja_cons (jp_s 2) (ja_cons (jp_s 3) ja_nil))) sc_l_right.nd rfl (by first | exact Or.inl rfl | exact Or.inr rfl))
    (jb_cons (js_for (vs := [5]) (passes_of rfl) rfl (ji_range1 rfl T.f_range (ja_cons (jp_len rfl T.f_len (ja_cons (jp_s 4) ja_nil)) ja_nil)) (jg_name sc_l_right.nd rfl (by first | exact Or.inl rfl | exact Or.inr rfl) (by decide)) (jb_cons (js_set (i := 7) (jp_ix (fun _ _ => rfl) (jp_s 4) (jp_s 5)) sc_l_right.nd rfl (by first | exact Or.inl rfl | exact Or.inr rfl))
    (jb_cons (js_if (jt_w (jw_or (jt_not (jt_val (jp_isK T.it_TurnError rfl T.f_isinstance rfl T.gx_TurnError (jp_s 7)))) (jw_or1 (jt_not (jt_val (jp_isKB T.itb_ValueError rfl T.f_isinstance rfl T.f_ValueError (by decide +kernel) (jp_s 7))))))) (jb_one (js_ret jp_bl)) jb_nil)
    (jb_one (js_if (jt_ne hu65 (jp_call (ms := []) (fn := m_l_which) (dflt := []) ((ok_l_which T).mono (by decide)) hr hG rfl T.g_l_which T.F_l_which.kp T.b_l_which.choose_spec.2 T.b_l_which.choose_spec.1 (fun _ => .nil) rfl (al_cons al_nil) (TakesE.at tk) (ja_cons (jp_s 7) ja_nil)) (jp_lc (own := [("_law_other", 9)]) rfl sc_l_right.nd (ji_range1 rfl T.f_range (ja_cons jp_int ja_nil)) (blkOk_by (N := N_l_right) (sc := defScope s_l_right) (by decide +kernel)) (fun _ _ _ _ _ => (jg_name sc_l_right.nd rfl (by first | exact Or.inl rfl | exact Or.inr rfl) (by decide))) (fun _ _ _ _ _ => jts_nil) (fun _ _ _ _ _ => (jp_eq hu65 (jp_s 9) (jp_s 5))))) (jb_one (js_ret jp_bl)) jb_nil)))))
    (jb_cons (js_set (i := 6) (jp_mkE xVE T.x_TurnError.1 T.gx_TurnError T.x_TurnError.2.1 T.ec_TurnError rfl (jp_s 2)) sc_l_right.nd rfl (by first | exact Or.inl rfl | exact Or.inr rfl))
    (jb_cons (js_if (jt_ne hu65 (jp_repr hG hu rfl T.f_repr (ja_cons (jp_plK T.pk_InvalidText (jp_ix (fun _ _ => rfl) (jp_s 4) jp_negc)) ja_nil)) (jp_repr hG hu rfl T.f_repr (ja_cons (jp_s 3) ja_nil))) (jb_one (js_ret jp_bl)) jb_nil)
    (jb_one (js_ret (jp_and (jp_isKB T.itb_ValueError rfl T.f_isinstance rfl T.f_ValueError (by decide +kernel) (jp_s 6)) (jp_one (jp_nin hu65 jp_bl (jp_call (ms := []) (fn := m_l_which) (dflt := []) ((ok_l_which T).mono (by decide)) hr hG rfl T.g_l_which T.F_l_which.kp T.b_l_which.choose_spec.2 T.b_l_which.choose_spec.1 (fun _ => .nil) rfl (al_cons al_nil) (TakesE.at tk) (ja_cons (jp_s 6) ja_nil))))))))))))))
theorem sc_law : FnScope ["_law_script", "_law_cells_here", "_law_k"] ["_law_script"] (defScope s_law) := ⟨rfl, rfl, rfl, by decide +kernel, rfl, by decide +kernel, by decide +kernel⟩
theorem ok_law (T : Txt K mg) : FnG P w K mg base 5 T.a_law T.d_law ["_law_script"] (spFn K mg [] 1 m_law_k06) :=
  jfn T.F_law sc_law (by decide) fun c A outer s H E hr hG => by
    have hu := T3.u160 hr
    have hu65 := T3.u65 hr
    have tk : TakesE (cxOf (L2.CX P w) P w K mg base ["_law_script", "_law_cells_here", "_law_k"] "law" (defScope s_law) T.a_law c A outer s H E) (fun _ => E) := takes_of rfl rfl rfl rfl
    exact (jb_cons (js_set (i := 1) (jp_call (ms := []) (fn := m_l_cells) (dflt := []) ((ok_l_cells T).mono (by decide)) hr hG rfl T.g_l_cells T.F_l_cells.kp T.b_l_cells.choose_spec.2 T.b_l_cells.choose_spec.1 (fun _ => .nil) rfl (al_cons (al_cons al_nil)) (TakesE.at tk) (ja_cons (jp_s 0) (ja_cons jp_int ja_nil))) sc_law.nd rfl (by first | exact Or.inl rfl | exact Or.inr rfl))
    (jb_one (js_ret (jp_eq hu65 (jp_lc (own := [("_law_k", 2)]) rfl sc_law.nd (ji_range1 rfl T.f_range (ja_cons (jp_len rfl T.f_len (ja_cons (jp_s 1) ja_nil)) ja_nil)) (blkOk_by (N := N_law) (sc := defScope s_law) (by decide +kernel)) (fun _ _ _ _ _ => (jg_name sc_law.nd rfl (by first | exact Or.inl rfl | exact Or.inr rfl) (by decide))) (fun _ _ _ _ _ => (jts_one (jt_not (jt_val (jp_callX (ms := [0]) (fn := m_l_right_k06) (dflt := []) ((ok_l_right T).mono (by decide)) hr hG rfl T.g_l_right T.F_l_right.kp T.b_l_right.choose_spec.2 T.b_l_right.choose_spec.1 (fun _ => .nil) rfl (al_cons al_nil) (TakesE.at takesEF) (ja_cons (jp_call (ms := []) (fn := m_l_tap) (dflt := []) ((ok_l_tap T).mono (by decide)) hr hG rfl T.g_l_tap T.F_l_tap.kp T.b_l_tap.choose_spec.2 T.b_l_tap.choose_spec.1 (fun _ => .nil) rfl (al_cons (al_cons al_nil)) (TakesE.at takesEF) (ja_cons (jp_ix (fun _ _ => rfl) (jp_s 1) (jp_s 2)) (ja_cons (jp_s 2) ja_nil))) ja_nil)))))) (fun _ _ _ _ _ => (jp_s 2))) (jp_list ja_nil)))))
end
def dd_X_init : He.DefD := ⟨("InvalidText", some "__init__"), "__init__", "InvalidText.__init__", defArgs s_X_init, defBody s_X_init, defScope s_X_init, [], []⟩
def dd_l_tap : He.DefD := ⟨("_law_tap", none), "_law_tap", "_law_tap", defArgs s_l_tap, defBody s_l_tap, defScope s_l_tap, [], []⟩
def dd_l_draw : He.DefD := ⟨("_law_draw", none), "_law_draw", "_law_draw", defArgs s_l_draw, defBody s_l_draw, defScope s_l_draw, [], []⟩
def dd_l_cells : He.DefD := ⟨("_law_cells", none), "_law_cells", "_law_cells", defArgs s_l_cells, defBody s_l_cells, defScope s_l_cells, [], []⟩
def dd_l_which : He.DefD := ⟨("_law_which", none), "_law_which", "_law_which", defArgs s_l_which, defBody s_l_which, defScope s_l_which, [], []⟩
def dd_l_made : He.DefD := ⟨("_law_made", none), "_law_made", "_law_made", defArgs s_l_made, defBody s_l_made, defScope s_l_made, [], []⟩
def dd_l_right : He.DefD := ⟨("_law_right", none), "_law_right", "_law_right", defArgs s_l_right, defBody s_l_right, defScope s_l_right, [], []⟩
def dd_law : He.DefD := ⟨("law", none), "law", "law", defArgs s_law, defBody s_law, defScope s_law, [], []⟩
def fn : List He.DefD := [dd_X_init, dd_l_tap, dd_l_draw, dd_l_cells, dd_l_which, dd_l_made, dd_l_right, dd_law]
def fp : List T3.PrD := []
def lx : XL := ⟨false, ["TurnError", "InvalidMoves", "InvalidTurn", "InvalidTurns", "InvalidPlace", "InvalidStretch", "InvalidLoop", "InvalidPoint", "InvalidRing", "InvalidRate", "InvalidMany", "InvalidTicks", "InvalidIndex", "InvalidSight", "InvalidCommand", "NotLoose", "NotForced", "OtherGoal", "NothingToUndo", "InvalidText"], [⟨"TurnError", ["InvalidMoves", "InvalidTurn", "InvalidTurns", "InvalidPlace", "InvalidStretch", "InvalidLoop", "InvalidPoint", "InvalidRing", "InvalidRate", "InvalidMany", "InvalidTicks", "InvalidIndex", "InvalidSight", "InvalidCommand", "NotLoose", "NotForced", "OtherGoal", "NothingToUndo", "InvalidText"], false⟩, ⟨"TurnError", ["TurnError"], true⟩, ⟨"InvalidMoves", ["InvalidTurn", "InvalidTurns", "InvalidPlace", "InvalidStretch", "InvalidLoop", "InvalidPoint", "InvalidRing", "InvalidRate", "InvalidMany", "InvalidTicks", "InvalidIndex", "InvalidSight", "InvalidCommand", "NotLoose", "NotForced", "OtherGoal", "NothingToUndo", "InvalidText"], false⟩, ⟨"InvalidMoves", ["TurnError"], true⟩, ⟨"InvalidMoves", ["InvalidMoves"], true⟩, ⟨"InvalidTurn", ["InvalidMoves", "InvalidTurns", "InvalidPlace", "InvalidStretch", "InvalidLoop", "InvalidPoint", "InvalidRing", "InvalidRate", "InvalidMany", "InvalidTicks", "InvalidIndex", "InvalidSight", "InvalidCommand", "NotLoose", "NotForced", "OtherGoal", "NothingToUndo", "InvalidText"], false⟩, ⟨"InvalidTurn", ["TurnError"], true⟩, ⟨"InvalidTurn", ["InvalidTurn"], true⟩, ⟨"InvalidTurns", ["InvalidMoves", "InvalidTurn", "InvalidPlace", "InvalidStretch", "InvalidLoop", "InvalidPoint", "InvalidRing", "InvalidRate", "InvalidMany", "InvalidTicks", "InvalidIndex", "InvalidSight", "InvalidCommand", "NotLoose", "NotForced", "OtherGoal", "NothingToUndo", "InvalidText"], false⟩, ⟨"InvalidTurns", ["TurnError"], true⟩, ⟨"InvalidTurns", ["InvalidTurns"], true⟩, ⟨"InvalidPlace", ["InvalidMoves", "InvalidTurn", "InvalidTurns", "InvalidStretch", "InvalidLoop", "InvalidPoint", "InvalidRing", "InvalidRate", "InvalidMany", "InvalidTicks", "InvalidIndex", "InvalidSight", "InvalidCommand", "NotLoose", "NotForced", "OtherGoal", "NothingToUndo", "InvalidText"], false⟩, ⟨"InvalidPlace", ["TurnError"], true⟩, ⟨"InvalidPlace", ["InvalidPlace"], true⟩, ⟨"InvalidStretch", ["InvalidMoves", "InvalidTurn", "InvalidTurns", "InvalidPlace", "InvalidLoop", "InvalidPoint", "InvalidRing", "InvalidRate", "InvalidMany", "InvalidTicks", "InvalidIndex", "InvalidSight", "InvalidCommand", "NotLoose", "NotForced", "OtherGoal", "NothingToUndo", "InvalidText"], false⟩, ⟨"InvalidStretch", ["TurnError"], true⟩, ⟨"InvalidStretch", ["InvalidStretch"], true⟩, ⟨"InvalidLoop", ["InvalidMoves", "InvalidTurn", "InvalidTurns", "InvalidPlace", "InvalidStretch", "InvalidPoint", "InvalidRing", "InvalidRate", "InvalidMany", "InvalidTicks", "InvalidIndex", "InvalidSight", "InvalidCommand", "NotLoose", "NotForced", "OtherGoal", "NothingToUndo", "InvalidText"], false⟩, ⟨"InvalidLoop", ["TurnError"], true⟩, ⟨"InvalidLoop", ["InvalidLoop"], true⟩, ⟨"InvalidPoint", ["InvalidMoves", "InvalidTurn", "InvalidTurns", "InvalidPlace", "InvalidStretch", "InvalidLoop", "InvalidRing", "InvalidRate", "InvalidMany", "InvalidTicks", "InvalidIndex", "InvalidSight", "InvalidCommand", "NotLoose", "NotForced", "OtherGoal", "NothingToUndo", "InvalidText"], false⟩, ⟨"InvalidPoint", ["TurnError"], true⟩, ⟨"InvalidPoint", ["InvalidPoint"], true⟩, ⟨"InvalidRing", ["InvalidMoves", "InvalidTurn", "InvalidTurns", "InvalidPlace", "InvalidStretch", "InvalidLoop", "InvalidPoint", "InvalidRate", "InvalidMany", "InvalidTicks", "InvalidIndex", "InvalidSight", "InvalidCommand", "NotLoose", "NotForced", "OtherGoal", "NothingToUndo", "InvalidText"], false⟩, ⟨"InvalidRing", ["TurnError"], true⟩, ⟨"InvalidRing", ["InvalidRing"], true⟩, ⟨"InvalidRate", ["InvalidMoves", "InvalidTurn", "InvalidTurns", "InvalidPlace", "InvalidStretch", "InvalidLoop", "InvalidPoint", "InvalidRing", "InvalidMany", "InvalidTicks", "InvalidIndex", "InvalidSight", "InvalidCommand", "NotLoose", "NotForced", "OtherGoal", "NothingToUndo", "InvalidText"], false⟩, ⟨"InvalidRate", ["TurnError"], true⟩, ⟨"InvalidRate", ["InvalidRate"], true⟩, ⟨"InvalidMany", ["InvalidMoves", "InvalidTurn", "InvalidTurns", "InvalidPlace", "InvalidStretch", "InvalidLoop", "InvalidPoint", "InvalidRing", "InvalidRate", "InvalidTicks", "InvalidIndex", "InvalidSight", "InvalidCommand", "NotLoose", "NotForced", "OtherGoal", "NothingToUndo", "InvalidText"], false⟩, ⟨"InvalidMany", ["TurnError"], true⟩, ⟨"InvalidMany", ["InvalidMany"], true⟩, ⟨"InvalidTicks", ["InvalidMoves", "InvalidTurn", "InvalidTurns", "InvalidPlace", "InvalidStretch", "InvalidLoop", "InvalidPoint", "InvalidRing", "InvalidRate", "InvalidMany", "InvalidIndex", "InvalidSight", "InvalidCommand", "NotLoose", "NotForced", "OtherGoal", "NothingToUndo", "InvalidText"], false⟩, ⟨"InvalidTicks", ["TurnError"], true⟩, ⟨"InvalidTicks", ["InvalidTicks"], true⟩, ⟨"InvalidIndex", ["InvalidMoves", "InvalidTurn", "InvalidTurns", "InvalidPlace", "InvalidStretch", "InvalidLoop", "InvalidPoint", "InvalidRing", "InvalidRate", "InvalidMany", "InvalidTicks", "InvalidSight", "InvalidCommand", "NotLoose", "NotForced", "OtherGoal", "NothingToUndo", "InvalidText"], false⟩, ⟨"InvalidIndex", ["TurnError"], true⟩, ⟨"InvalidIndex", ["InvalidIndex"], true⟩, ⟨"InvalidSight", ["InvalidMoves", "InvalidTurn", "InvalidTurns", "InvalidPlace", "InvalidStretch", "InvalidLoop", "InvalidPoint", "InvalidRing", "InvalidRate", "InvalidMany", "InvalidTicks", "InvalidIndex", "InvalidCommand", "NotLoose", "NotForced", "OtherGoal", "NothingToUndo", "InvalidText"], false⟩, ⟨"InvalidSight", ["TurnError"], true⟩, ⟨"InvalidSight", ["InvalidSight"], true⟩, ⟨"InvalidCommand", ["InvalidMoves", "InvalidTurn", "InvalidTurns", "InvalidPlace", "InvalidStretch", "InvalidLoop", "InvalidPoint", "InvalidRing", "InvalidRate", "InvalidMany", "InvalidTicks", "InvalidIndex", "InvalidSight", "NotLoose", "NotForced", "OtherGoal", "NothingToUndo", "InvalidText"], false⟩, ⟨"InvalidCommand", ["TurnError"], true⟩, ⟨"InvalidCommand", ["InvalidCommand"], true⟩, ⟨"NotLoose", ["InvalidMoves", "InvalidTurn", "InvalidTurns", "InvalidPlace", "InvalidStretch", "InvalidLoop", "InvalidPoint", "InvalidRing", "InvalidRate", "InvalidMany", "InvalidTicks", "InvalidIndex", "InvalidSight", "InvalidCommand", "NotForced", "OtherGoal", "NothingToUndo", "InvalidText"], false⟩, ⟨"NotLoose", ["TurnError"], true⟩, ⟨"NotLoose", ["NotLoose"], true⟩, ⟨"NotForced", ["InvalidMoves", "InvalidTurn", "InvalidTurns", "InvalidPlace", "InvalidStretch", "InvalidLoop", "InvalidPoint", "InvalidRing", "InvalidRate", "InvalidMany", "InvalidTicks", "InvalidIndex", "InvalidSight", "InvalidCommand", "NotLoose", "OtherGoal", "NothingToUndo", "InvalidText"], false⟩, ⟨"NotForced", ["TurnError"], true⟩, ⟨"NotForced", ["NotForced"], true⟩, ⟨"OtherGoal", ["InvalidMoves", "InvalidTurn", "InvalidTurns", "InvalidPlace", "InvalidStretch", "InvalidLoop", "InvalidPoint", "InvalidRing", "InvalidRate", "InvalidMany", "InvalidTicks", "InvalidIndex", "InvalidSight", "InvalidCommand", "NotLoose", "NotForced", "NothingToUndo", "InvalidText"], false⟩, ⟨"OtherGoal", ["TurnError"], true⟩, ⟨"OtherGoal", ["OtherGoal"], true⟩, ⟨"NothingToUndo", ["InvalidMoves", "InvalidTurn", "InvalidTurns", "InvalidPlace", "InvalidStretch", "InvalidLoop", "InvalidPoint", "InvalidRing", "InvalidRate", "InvalidMany", "InvalidTicks", "InvalidIndex", "InvalidSight", "InvalidCommand", "NotLoose", "NotForced", "OtherGoal", "InvalidText"], false⟩, ⟨"NothingToUndo", ["TurnError"], true⟩, ⟨"NothingToUndo", ["NothingToUndo"], true⟩, ⟨"InvalidText", ["InvalidMoves", "InvalidTurn", "InvalidTurns", "InvalidPlace", "InvalidStretch", "InvalidLoop", "InvalidPoint", "InvalidRing", "InvalidRate", "InvalidMany", "InvalidTicks", "InvalidIndex", "InvalidSight", "InvalidCommand", "NotLoose", "NotForced", "OtherGoal", "NothingToUndo"], false⟩, ⟨"InvalidText", ["TurnError"], true⟩, ⟨"InvalidText", ["InvalidText"], true⟩], ([("TurnError", "NoneType", false), ("TurnError", "int", false), ("TurnError", "bool", false), ("TurnError", "str", false), ("TurnError", "list", false), ("TurnError", "tuple", false), ("TurnError", "dict", false), ("TurnError", "ValueError", true), ("InvalidMoves", "NoneType", false), ("InvalidMoves", "int", false), ("InvalidMoves", "bool", false), ("InvalidMoves", "str", false)] : List (Str × String × Bool)) ++ ([("InvalidMoves", "list", false), ("InvalidMoves", "tuple", false), ("InvalidMoves", "dict", false), ("InvalidMoves", "ValueError", true), ("InvalidTurn", "NoneType", false), ("InvalidTurn", "int", false), ("InvalidTurn", "bool", false), ("InvalidTurn", "str", false), ("InvalidTurn", "list", false), ("InvalidTurn", "tuple", false), ("InvalidTurn", "dict", false), ("InvalidTurn", "ValueError", true)] : List (Str × String × Bool)) ++ ([("InvalidTurns", "NoneType", false), ("InvalidTurns", "int", false), ("InvalidTurns", "bool", false), ("InvalidTurns", "str", false), ("InvalidTurns", "list", false), ("InvalidTurns", "tuple", false), ("InvalidTurns", "dict", false), ("InvalidTurns", "ValueError", true), ("InvalidPlace", "NoneType", false), ("InvalidPlace", "int", false), ("InvalidPlace", "bool", false), ("InvalidPlace", "str", false)] : List (Str × String × Bool)) ++ ([("InvalidPlace", "list", false), ("InvalidPlace", "tuple", false), ("InvalidPlace", "dict", false), ("InvalidPlace", "ValueError", true), ("InvalidStretch", "NoneType", false), ("InvalidStretch", "int", false), ("InvalidStretch", "bool", false), ("InvalidStretch", "str", false), ("InvalidStretch", "list", false), ("InvalidStretch", "tuple", false), ("InvalidStretch", "dict", false), ("InvalidStretch", "ValueError", true)] : List (Str × String × Bool)) ++ ([("InvalidLoop", "NoneType", false), ("InvalidLoop", "int", false), ("InvalidLoop", "bool", false), ("InvalidLoop", "str", false), ("InvalidLoop", "list", false), ("InvalidLoop", "tuple", false), ("InvalidLoop", "dict", false), ("InvalidLoop", "ValueError", true), ("InvalidPoint", "NoneType", false), ("InvalidPoint", "int", false), ("InvalidPoint", "bool", false), ("InvalidPoint", "str", false)] : List (Str × String × Bool)) ++ ([("InvalidPoint", "list", false), ("InvalidPoint", "tuple", false), ("InvalidPoint", "dict", false), ("InvalidPoint", "ValueError", true), ("InvalidRing", "NoneType", false), ("InvalidRing", "int", false), ("InvalidRing", "bool", false), ("InvalidRing", "str", false), ("InvalidRing", "list", false), ("InvalidRing", "tuple", false), ("InvalidRing", "dict", false), ("InvalidRing", "ValueError", true)] : List (Str × String × Bool)) ++ ([("InvalidRate", "NoneType", false), ("InvalidRate", "int", false), ("InvalidRate", "bool", false), ("InvalidRate", "str", false), ("InvalidRate", "list", false), ("InvalidRate", "tuple", false), ("InvalidRate", "dict", false), ("InvalidRate", "ValueError", true), ("InvalidMany", "NoneType", false), ("InvalidMany", "int", false), ("InvalidMany", "bool", false), ("InvalidMany", "str", false)] : List (Str × String × Bool)) ++ ([("InvalidMany", "list", false), ("InvalidMany", "tuple", false), ("InvalidMany", "dict", false), ("InvalidMany", "ValueError", true), ("InvalidTicks", "NoneType", false), ("InvalidTicks", "int", false), ("InvalidTicks", "bool", false), ("InvalidTicks", "str", false), ("InvalidTicks", "list", false), ("InvalidTicks", "tuple", false), ("InvalidTicks", "dict", false), ("InvalidTicks", "ValueError", true)] : List (Str × String × Bool)) ++ ([("InvalidIndex", "NoneType", false), ("InvalidIndex", "int", false), ("InvalidIndex", "bool", false), ("InvalidIndex", "str", false), ("InvalidIndex", "list", false), ("InvalidIndex", "tuple", false), ("InvalidIndex", "dict", false), ("InvalidIndex", "ValueError", true), ("InvalidSight", "NoneType", false), ("InvalidSight", "int", false), ("InvalidSight", "bool", false), ("InvalidSight", "str", false)] : List (Str × String × Bool)) ++ ([("InvalidSight", "list", false), ("InvalidSight", "tuple", false), ("InvalidSight", "dict", false), ("InvalidSight", "ValueError", true), ("InvalidCommand", "NoneType", false), ("InvalidCommand", "int", false), ("InvalidCommand", "bool", false), ("InvalidCommand", "str", false), ("InvalidCommand", "list", false), ("InvalidCommand", "tuple", false), ("InvalidCommand", "dict", false), ("InvalidCommand", "ValueError", true)] : List (Str × String × Bool)) ++ ([("NotLoose", "NoneType", false), ("NotLoose", "int", false), ("NotLoose", "bool", false), ("NotLoose", "str", false), ("NotLoose", "list", false), ("NotLoose", "tuple", false), ("NotLoose", "dict", false), ("NotLoose", "ValueError", true), ("NotForced", "NoneType", false), ("NotForced", "int", false), ("NotForced", "bool", false), ("NotForced", "str", false)] : List (Str × String × Bool)) ++ ([("NotForced", "list", false), ("NotForced", "tuple", false), ("NotForced", "dict", false), ("NotForced", "ValueError", true), ("OtherGoal", "NoneType", false), ("OtherGoal", "int", false), ("OtherGoal", "bool", false), ("OtherGoal", "str", false), ("OtherGoal", "list", false), ("OtherGoal", "tuple", false), ("OtherGoal", "dict", false), ("OtherGoal", "ValueError", true)] : List (Str × String × Bool)) ++ ([("NothingToUndo", "NoneType", false), ("NothingToUndo", "int", false), ("NothingToUndo", "bool", false), ("NothingToUndo", "str", false), ("NothingToUndo", "list", false), ("NothingToUndo", "tuple", false), ("NothingToUndo", "dict", false), ("NothingToUndo", "ValueError", true), ("InvalidText", "NoneType", false), ("InvalidText", "int", false), ("InvalidText", "bool", false), ("InvalidText", "str", false)] : List (Str × String × Bool)) ++ ([("InvalidText", "list", false), ("InvalidText", "tuple", false), ("InvalidText", "dict", false), ("InvalidText", "ValueError", true)] : List (Str × String × Bool)), ["InvalidText"]⟩
def fa : List He.Fa := ([.glo "_law_tap", .glo "_law_draw", .glo "_law_cells", .glo "_law_which", .glo "_law_made", .glo "_law_right", .glo "law", .free "ValueError", .free "abs", .free "int", .free "isinstance", .free "len", .free "max", .free "min", .free "range", .free "repr", .glo "InvalidCommand", .exc "InvalidCommand", .glo "InvalidIndex", .exc "InvalidIndex", .glo "InvalidLoop", .exc "InvalidLoop", .glo "InvalidMany", .exc "InvalidMany", .glo "InvalidMoves", .exc "InvalidMoves", .glo "InvalidPlace", .exc "InvalidPlace", .glo "InvalidPoint", .exc "InvalidPoint"] : List He.Fa) ++ ([.glo "InvalidRate", .exc "InvalidRate", .glo "InvalidRing", .exc "InvalidRing", .glo "InvalidSight", .exc "InvalidSight", .glo "InvalidStretch", .exc "InvalidStretch", .glo "InvalidTicks", .exc "InvalidTicks", .glo "InvalidTurn", .exc "InvalidTurn", .glo "InvalidTurns", .exc "InvalidTurns", .glo "NotForced", .exc "NotForced", .glo "NotLoose", .exc "NotLoose", .glo "NothingToUndo", .exc "NothingToUndo", .glo "OtherGoal", .exc "OtherGoal", .glo "TurnError", .exc "TurnError", .glo "InvalidText"] : List He.Fa)
theorem txt {K : Fg} {h : Heap} {mg : Str → Option Value} (X : K.In h) (G : h.Ns mainGlobals mg) (c : SaysX fa fn fp lx K) : Nonempty (Txt K mg) := by
  obtain ⟨d0, F0⟩ := c.d.def_ 0 (d := dd_X_init) rfl
  obtain ⟨d1, F1⟩ := c.d.def_ 1 (d := dd_l_tap) rfl
  obtain ⟨d2, F2⟩ := c.d.def_ 2 (d := dd_l_draw) rfl
  obtain ⟨d3, F3⟩ := c.d.def_ 3 (d := dd_l_cells) rfl
  obtain ⟨d4, F4⟩ := c.d.def_ 4 (d := dd_l_which) rfl
  obtain ⟨d5, F5⟩ := c.d.def_ 5 (d := dd_l_made) rfl
  obtain ⟨d6, F6⟩ := c.d.def_ 6 (d := dd_l_right) rfl
  obtain ⟨d7, F7⟩ := c.d.def_ 7 (d := dd_law) rfl
  exact ⟨{
    a_X_init := _, d_X_init := d0, F_X_init := F0,
    a_l_tap := _, d_l_tap := d1, F_l_tap := F1, g_l_tap := He.glo_ok X G (c.d.fact 0 (f := .glo "_law_tap") rfl),
    a_l_draw := _, d_l_draw := d2, F_l_draw := F2, g_l_draw := He.glo_ok X G (c.d.fact 1 (f := .glo "_law_draw") rfl),
    a_l_cells := _, d_l_cells := d3, F_l_cells := F3, g_l_cells := He.glo_ok X G (c.d.fact 2 (f := .glo "_law_cells") rfl),
    a_l_which := _, d_l_which := d4, F_l_which := F4, g_l_which := He.glo_ok X G (c.d.fact 3 (f := .glo "_law_which") rfl),
    a_l_made := _, d_l_made := d5, F_l_made := F5, g_l_made := He.glo_ok X G (c.d.fact 4 (f := .glo "_law_made") rfl),
    a_l_right := _, d_l_right := d6, F_l_right := F6, g_l_right := He.glo_ok X G (c.d.fact 5 (f := .glo "_law_right") rfl),
    a_law := _, d_law := d7, F_law := F7, g_law := He.glo_ok X G (c.d.fact 6 (f := .glo "law") rfl),
    b_X_init := ⟨[], .nil, F0.bindsN fun _ _ _ _ _ _ us hl => match us, hl with | [_, _], _ => rfl⟩,
    b_l_cells := ⟨[], .nil, F3.bindsN fun _ _ _ _ _ _ us hl => match us, hl with | [_, _], _ => rfl⟩,
    b_l_draw := ⟨[], .nil, F2.bindsN fun _ _ _ _ _ _ us hl => match us, hl with | [_, _], _ => rfl⟩,
    b_l_made := ⟨[], .nil, F5.bindsN fun _ _ _ _ _ _ us hl => match us, hl with | [_, _], _ => rfl⟩,
    b_l_right := ⟨[], .nil, F6.bindsN fun _ _ _ _ _ _ us hl => match us, hl with | [_], _ => rfl⟩,
    b_l_tap := ⟨[], .nil, F1.bindsN fun _ _ _ _ _ _ us hl => match us, hl with | [_, _], _ => rfl⟩,
    b_l_which := ⟨[], .nil, F4.bindsN fun _ _ _ _ _ _ us hl => match us, hl with | [_], _ => rfl⟩,
    f_ValueError := He.free_ok X G (c.d.fact 7 (f := .free "ValueError") rfl),
    f_abs := He.free_ok X G (c.d.fact 8 (f := .free "abs") rfl),
    f_int := He.free_ok X G (c.d.fact 9 (f := .free "int") rfl),
    f_isinstance := He.free_ok X G (c.d.fact 10 (f := .free "isinstance") rfl),
    f_len := He.free_ok X G (c.d.fact 11 (f := .free "len") rfl),
    f_max := He.free_ok X G (c.d.fact 12 (f := .free "max") rfl),
    f_min := He.free_ok X G (c.d.fact 13 (f := .free "min") rfl),
    f_range := He.free_ok X G (c.d.fact 14 (f := .free "range") rfl),
    f_repr := He.free_ok X G (c.d.fact 15 (f := .free "repr") rfl),
    e_InvalidCommand := _, gx_InvalidCommand := He.glo_ok X G (c.d.fact 16 (f := .glo "InvalidCommand") rfl), x_InvalidCommand := He.exc_ok (c.d.fact 17 (f := .exc "InvalidCommand") rfl),
    e_InvalidIndex := _, gx_InvalidIndex := He.glo_ok X G (c.d.fact 18 (f := .glo "InvalidIndex") rfl), x_InvalidIndex := He.exc_ok (c.d.fact 19 (f := .exc "InvalidIndex") rfl),
    e_InvalidLoop := _, gx_InvalidLoop := He.glo_ok X G (c.d.fact 20 (f := .glo "InvalidLoop") rfl), x_InvalidLoop := He.exc_ok (c.d.fact 21 (f := .exc "InvalidLoop") rfl),
    e_InvalidMany := _, gx_InvalidMany := He.glo_ok X G (c.d.fact 22 (f := .glo "InvalidMany") rfl), x_InvalidMany := He.exc_ok (c.d.fact 23 (f := .exc "InvalidMany") rfl),
    e_InvalidMoves := _, gx_InvalidMoves := He.glo_ok X G (c.d.fact 24 (f := .glo "InvalidMoves") rfl), x_InvalidMoves := He.exc_ok (c.d.fact 25 (f := .exc "InvalidMoves") rfl),
    e_InvalidPlace := _, gx_InvalidPlace := He.glo_ok X G (c.d.fact 26 (f := .glo "InvalidPlace") rfl), x_InvalidPlace := He.exc_ok (c.d.fact 27 (f := .exc "InvalidPlace") rfl),
    e_InvalidPoint := _, gx_InvalidPoint := He.glo_ok X G (c.d.fact 28 (f := .glo "InvalidPoint") rfl), x_InvalidPoint := He.exc_ok (c.d.fact 29 (f := .exc "InvalidPoint") rfl),
    e_InvalidRate := _, gx_InvalidRate := He.glo_ok X G (c.d.fact 30 (f := .glo "InvalidRate") rfl), x_InvalidRate := He.exc_ok (c.d.fact 31 (f := .exc "InvalidRate") rfl),
    e_InvalidRing := _, gx_InvalidRing := He.glo_ok X G (c.d.fact 32 (f := .glo "InvalidRing") rfl), x_InvalidRing := He.exc_ok (c.d.fact 33 (f := .exc "InvalidRing") rfl),
    e_InvalidSight := _, gx_InvalidSight := He.glo_ok X G (c.d.fact 34 (f := .glo "InvalidSight") rfl), x_InvalidSight := He.exc_ok (c.d.fact 35 (f := .exc "InvalidSight") rfl),
    e_InvalidStretch := _, gx_InvalidStretch := He.glo_ok X G (c.d.fact 36 (f := .glo "InvalidStretch") rfl), x_InvalidStretch := He.exc_ok (c.d.fact 37 (f := .exc "InvalidStretch") rfl),
    e_InvalidTicks := _, gx_InvalidTicks := He.glo_ok X G (c.d.fact 38 (f := .glo "InvalidTicks") rfl), x_InvalidTicks := He.exc_ok (c.d.fact 39 (f := .exc "InvalidTicks") rfl),
    e_InvalidTurn := _, gx_InvalidTurn := He.glo_ok X G (c.d.fact 40 (f := .glo "InvalidTurn") rfl), x_InvalidTurn := He.exc_ok (c.d.fact 41 (f := .exc "InvalidTurn") rfl),
    e_InvalidTurns := _, gx_InvalidTurns := He.glo_ok X G (c.d.fact 42 (f := .glo "InvalidTurns") rfl), x_InvalidTurns := He.exc_ok (c.d.fact 43 (f := .exc "InvalidTurns") rfl),
    e_NotForced := _, gx_NotForced := He.glo_ok X G (c.d.fact 44 (f := .glo "NotForced") rfl), x_NotForced := He.exc_ok (c.d.fact 45 (f := .exc "NotForced") rfl),
    e_NotLoose := _, gx_NotLoose := He.glo_ok X G (c.d.fact 46 (f := .glo "NotLoose") rfl), x_NotLoose := He.exc_ok (c.d.fact 47 (f := .exc "NotLoose") rfl),
    e_NothingToUndo := _, gx_NothingToUndo := He.glo_ok X G (c.d.fact 48 (f := .glo "NothingToUndo") rfl), x_NothingToUndo := He.exc_ok (c.d.fact 49 (f := .exc "NothingToUndo") rfl),
    e_OtherGoal := _, gx_OtherGoal := He.glo_ok X G (c.d.fact 50 (f := .glo "OtherGoal") rfl), x_OtherGoal := He.exc_ok (c.d.fact 51 (f := .exc "OtherGoal") rfl),
    e_TurnError := _, gx_TurnError := He.glo_ok X G (c.d.fact 52 (f := .glo "TurnError") rfl), x_TurnError := He.exc_ok (c.d.fact 53 (f := .exc "TurnError") rfl),
    e_InvalidText := _, gx_InvalidText := He.glo_ok X G (c.d.fact 54 (f := .glo "InvalidText") rfl),
    px_InvalidText := c.px 0 (x := "InvalidText") rfl,
    ec_TurnError := c.ec 0 0 (x := "TurnError") (c.d.fact 52 (f := .glo "TurnError") rfl),
    ec_InvalidMoves := c.ec 1 8 (x := "InvalidMoves") (c.d.fact 24 (f := .glo "InvalidMoves") rfl),
    ec_InvalidTurn := c.ec 2 16 (x := "InvalidTurn") (c.d.fact 40 (f := .glo "InvalidTurn") rfl),
    ec_InvalidTurns := c.ec 3 24 (x := "InvalidTurns") (c.d.fact 42 (f := .glo "InvalidTurns") rfl),
    ec_InvalidPlace := c.ec 4 32 (x := "InvalidPlace") (c.d.fact 26 (f := .glo "InvalidPlace") rfl),
    ec_InvalidStretch := c.ec 5 40 (x := "InvalidStretch") (c.d.fact 36 (f := .glo "InvalidStretch") rfl),
    ec_InvalidLoop := c.ec 6 48 (x := "InvalidLoop") (c.d.fact 20 (f := .glo "InvalidLoop") rfl),
    ec_InvalidPoint := c.ec 7 56 (x := "InvalidPoint") (c.d.fact 28 (f := .glo "InvalidPoint") rfl),
    ec_InvalidRing := c.ec 8 64 (x := "InvalidRing") (c.d.fact 32 (f := .glo "InvalidRing") rfl),
    ec_InvalidRate := c.ec 9 72 (x := "InvalidRate") (c.d.fact 30 (f := .glo "InvalidRate") rfl),
    ec_InvalidMany := c.ec 10 80 (x := "InvalidMany") (c.d.fact 22 (f := .glo "InvalidMany") rfl),
    ec_InvalidTicks := c.ec 11 88 (x := "InvalidTicks") (c.d.fact 38 (f := .glo "InvalidTicks") rfl),
    ec_InvalidIndex := c.ec 12 96 (x := "InvalidIndex") (c.d.fact 18 (f := .glo "InvalidIndex") rfl),
    ec_InvalidSight := c.ec 13 104 (x := "InvalidSight") (c.d.fact 34 (f := .glo "InvalidSight") rfl),
    ec_InvalidCommand := c.ec 14 112 (x := "InvalidCommand") (c.d.fact 16 (f := .glo "InvalidCommand") rfl),
    ec_NotLoose := c.ec 15 120 (x := "NotLoose") (c.d.fact 46 (f := .glo "NotLoose") rfl),
    ec_NotForced := c.ec 16 128 (x := "NotForced") (c.d.fact 44 (f := .glo "NotForced") rfl),
    ec_OtherGoal := c.ec 17 136 (x := "OtherGoal") (c.d.fact 50 (f := .glo "OtherGoal") rfl),
    ec_NothingToUndo := c.ec 18 144 (x := "NothingToUndo") (c.d.fact 48 (f := .glo "NothingToUndo") rfl),
    ec_InvalidText := c.ec 19 152 (x := "InvalidText") (c.d.fact 54 (f := .glo "InvalidText") rfl),
    it_TurnError := (istab_one (c.d.fact 52 (f := .glo "TurnError") rfl) (c.kit1 1 (x := "TurnError") (y := "TurnError")) (by decide +kernel)
      (istab_one (c.d.fact 24 (f := .glo "InvalidMoves") rfl) (c.kit1 3 (x := "InvalidMoves") (y := "TurnError")) (by decide +kernel)
      (istab_one (c.d.fact 40 (f := .glo "InvalidTurn") rfl) (c.kit1 6 (x := "InvalidTurn") (y := "TurnError")) (by decide +kernel)
      (istab_one (c.d.fact 42 (f := .glo "InvalidTurns") rfl) (c.kit1 9 (x := "InvalidTurns") (y := "TurnError")) (by decide +kernel)
      (istab_one (c.d.fact 26 (f := .glo "InvalidPlace") rfl) (c.kit1 12 (x := "InvalidPlace") (y := "TurnError")) (by decide +kernel)
      (istab_one (c.d.fact 36 (f := .glo "InvalidStretch") rfl) (c.kit1 15 (x := "InvalidStretch") (y := "TurnError")) (by decide +kernel)
      (istab_one (c.d.fact 20 (f := .glo "InvalidLoop") rfl) (c.kit1 18 (x := "InvalidLoop") (y := "TurnError")) (by decide +kernel)
      (istab_one (c.d.fact 28 (f := .glo "InvalidPoint") rfl) (c.kit1 21 (x := "InvalidPoint") (y := "TurnError")) (by decide +kernel)
      (istab_one (c.d.fact 32 (f := .glo "InvalidRing") rfl) (c.kit1 24 (x := "InvalidRing") (y := "TurnError")) (by decide +kernel)
      (istab_one (c.d.fact 30 (f := .glo "InvalidRate") rfl) (c.kit1 27 (x := "InvalidRate") (y := "TurnError")) (by decide +kernel)
      (istab_one (c.d.fact 22 (f := .glo "InvalidMany") rfl) (c.kit1 30 (x := "InvalidMany") (y := "TurnError")) (by decide +kernel)
      (istab_one (c.d.fact 38 (f := .glo "InvalidTicks") rfl) (c.kit1 33 (x := "InvalidTicks") (y := "TurnError")) (by decide +kernel)
      (istab_one (c.d.fact 18 (f := .glo "InvalidIndex") rfl) (c.kit1 36 (x := "InvalidIndex") (y := "TurnError")) (by decide +kernel)
      (istab_one (c.d.fact 34 (f := .glo "InvalidSight") rfl) (c.kit1 39 (x := "InvalidSight") (y := "TurnError")) (by decide +kernel)
      (istab_one (c.d.fact 16 (f := .glo "InvalidCommand") rfl) (c.kit1 42 (x := "InvalidCommand") (y := "TurnError")) (by decide +kernel)
      (istab_one (c.d.fact 46 (f := .glo "NotLoose") rfl) (c.kit1 45 (x := "NotLoose") (y := "TurnError")) (by decide +kernel)
      (istab_one (c.d.fact 44 (f := .glo "NotForced") rfl) (c.kit1 48 (x := "NotForced") (y := "TurnError")) (by decide +kernel)
      (istab_one (c.d.fact 50 (f := .glo "OtherGoal") rfl) (c.kit1 51 (x := "OtherGoal") (y := "TurnError")) (by decide +kernel)
      (istab_one (c.d.fact 48 (f := .glo "NothingToUndo") rfl) (c.kit1 54 (x := "NothingToUndo") (y := "TurnError")) (by decide +kernel)
      (istab_one (c.d.fact 54 (f := .glo "InvalidText") rfl) (c.kit1 57 (x := "InvalidText") (y := "TurnError")) (by decide +kernel)
      istab_nil)))))))))))))))))))),
    it_InvalidMoves := (istab_one (c.d.fact 52 (f := .glo "TurnError") rfl) (c.kit0 0 0 (x := "TurnError") (y := "InvalidMoves")) (by decide +kernel)
      (istab_one (c.d.fact 24 (f := .glo "InvalidMoves") rfl) (c.kit1 4 (x := "InvalidMoves") (y := "InvalidMoves")) (by decide +kernel)
      (istab_one (c.d.fact 40 (f := .glo "InvalidTurn") rfl) (c.kit0 5 0 (x := "InvalidTurn") (y := "InvalidMoves")) (by decide +kernel)
      (istab_one (c.d.fact 42 (f := .glo "InvalidTurns") rfl) (c.kit0 8 0 (x := "InvalidTurns") (y := "InvalidMoves")) (by decide +kernel)
      (istab_one (c.d.fact 26 (f := .glo "InvalidPlace") rfl) (c.kit0 11 0 (x := "InvalidPlace") (y := "InvalidMoves")) (by decide +kernel)
      (istab_one (c.d.fact 36 (f := .glo "InvalidStretch") rfl) (c.kit0 14 0 (x := "InvalidStretch") (y := "InvalidMoves")) (by decide +kernel)
      (istab_one (c.d.fact 20 (f := .glo "InvalidLoop") rfl) (c.kit0 17 0 (x := "InvalidLoop") (y := "InvalidMoves")) (by decide +kernel)
      (istab_one (c.d.fact 28 (f := .glo "InvalidPoint") rfl) (c.kit0 20 0 (x := "InvalidPoint") (y := "InvalidMoves")) (by decide +kernel)
      (istab_one (c.d.fact 32 (f := .glo "InvalidRing") rfl) (c.kit0 23 0 (x := "InvalidRing") (y := "InvalidMoves")) (by decide +kernel)
      (istab_one (c.d.fact 30 (f := .glo "InvalidRate") rfl) (c.kit0 26 0 (x := "InvalidRate") (y := "InvalidMoves")) (by decide +kernel)
      (istab_one (c.d.fact 22 (f := .glo "InvalidMany") rfl) (c.kit0 29 0 (x := "InvalidMany") (y := "InvalidMoves")) (by decide +kernel)
      (istab_one (c.d.fact 38 (f := .glo "InvalidTicks") rfl) (c.kit0 32 0 (x := "InvalidTicks") (y := "InvalidMoves")) (by decide +kernel)
      (istab_one (c.d.fact 18 (f := .glo "InvalidIndex") rfl) (c.kit0 35 0 (x := "InvalidIndex") (y := "InvalidMoves")) (by decide +kernel)
      (istab_one (c.d.fact 34 (f := .glo "InvalidSight") rfl) (c.kit0 38 0 (x := "InvalidSight") (y := "InvalidMoves")) (by decide +kernel)
      (istab_one (c.d.fact 16 (f := .glo "InvalidCommand") rfl) (c.kit0 41 0 (x := "InvalidCommand") (y := "InvalidMoves")) (by decide +kernel)
      (istab_one (c.d.fact 46 (f := .glo "NotLoose") rfl) (c.kit0 44 0 (x := "NotLoose") (y := "InvalidMoves")) (by decide +kernel)
      (istab_one (c.d.fact 44 (f := .glo "NotForced") rfl) (c.kit0 47 0 (x := "NotForced") (y := "InvalidMoves")) (by decide +kernel)
      (istab_one (c.d.fact 50 (f := .glo "OtherGoal") rfl) (c.kit0 50 0 (x := "OtherGoal") (y := "InvalidMoves")) (by decide +kernel)
      (istab_one (c.d.fact 48 (f := .glo "NothingToUndo") rfl) (c.kit0 53 0 (x := "NothingToUndo") (y := "InvalidMoves")) (by decide +kernel)
      (istab_one (c.d.fact 54 (f := .glo "InvalidText") rfl) (c.kit0 56 0 (x := "InvalidText") (y := "InvalidMoves")) (by decide +kernel)
      istab_nil)))))))))))))))))))),
    it_InvalidTurn := (istab_one (c.d.fact 52 (f := .glo "TurnError") rfl) (c.kit0 0 1 (x := "TurnError") (y := "InvalidTurn")) (by decide +kernel)
      (istab_one (c.d.fact 24 (f := .glo "InvalidMoves") rfl) (c.kit0 2 0 (x := "InvalidMoves") (y := "InvalidTurn")) (by decide +kernel)
      (istab_one (c.d.fact 40 (f := .glo "InvalidTurn") rfl) (c.kit1 7 (x := "InvalidTurn") (y := "InvalidTurn")) (by decide +kernel)
      (istab_one (c.d.fact 42 (f := .glo "InvalidTurns") rfl) (c.kit0 8 1 (x := "InvalidTurns") (y := "InvalidTurn")) (by decide +kernel)
      (istab_one (c.d.fact 26 (f := .glo "InvalidPlace") rfl) (c.kit0 11 1 (x := "InvalidPlace") (y := "InvalidTurn")) (by decide +kernel)
      (istab_one (c.d.fact 36 (f := .glo "InvalidStretch") rfl) (c.kit0 14 1 (x := "InvalidStretch") (y := "InvalidTurn")) (by decide +kernel)
      (istab_one (c.d.fact 20 (f := .glo "InvalidLoop") rfl) (c.kit0 17 1 (x := "InvalidLoop") (y := "InvalidTurn")) (by decide +kernel)
      (istab_one (c.d.fact 28 (f := .glo "InvalidPoint") rfl) (c.kit0 20 1 (x := "InvalidPoint") (y := "InvalidTurn")) (by decide +kernel)
      (istab_one (c.d.fact 32 (f := .glo "InvalidRing") rfl) (c.kit0 23 1 (x := "InvalidRing") (y := "InvalidTurn")) (by decide +kernel)
      (istab_one (c.d.fact 30 (f := .glo "InvalidRate") rfl) (c.kit0 26 1 (x := "InvalidRate") (y := "InvalidTurn")) (by decide +kernel)
      (istab_one (c.d.fact 22 (f := .glo "InvalidMany") rfl) (c.kit0 29 1 (x := "InvalidMany") (y := "InvalidTurn")) (by decide +kernel)
      (istab_one (c.d.fact 38 (f := .glo "InvalidTicks") rfl) (c.kit0 32 1 (x := "InvalidTicks") (y := "InvalidTurn")) (by decide +kernel)
      (istab_one (c.d.fact 18 (f := .glo "InvalidIndex") rfl) (c.kit0 35 1 (x := "InvalidIndex") (y := "InvalidTurn")) (by decide +kernel)
      (istab_one (c.d.fact 34 (f := .glo "InvalidSight") rfl) (c.kit0 38 1 (x := "InvalidSight") (y := "InvalidTurn")) (by decide +kernel)
      (istab_one (c.d.fact 16 (f := .glo "InvalidCommand") rfl) (c.kit0 41 1 (x := "InvalidCommand") (y := "InvalidTurn")) (by decide +kernel)
      (istab_one (c.d.fact 46 (f := .glo "NotLoose") rfl) (c.kit0 44 1 (x := "NotLoose") (y := "InvalidTurn")) (by decide +kernel)
      (istab_one (c.d.fact 44 (f := .glo "NotForced") rfl) (c.kit0 47 1 (x := "NotForced") (y := "InvalidTurn")) (by decide +kernel)
      (istab_one (c.d.fact 50 (f := .glo "OtherGoal") rfl) (c.kit0 50 1 (x := "OtherGoal") (y := "InvalidTurn")) (by decide +kernel)
      (istab_one (c.d.fact 48 (f := .glo "NothingToUndo") rfl) (c.kit0 53 1 (x := "NothingToUndo") (y := "InvalidTurn")) (by decide +kernel)
      (istab_one (c.d.fact 54 (f := .glo "InvalidText") rfl) (c.kit0 56 1 (x := "InvalidText") (y := "InvalidTurn")) (by decide +kernel)
      istab_nil)))))))))))))))))))),
    it_InvalidTurns := (istab_one (c.d.fact 52 (f := .glo "TurnError") rfl) (c.kit0 0 2 (x := "TurnError") (y := "InvalidTurns")) (by decide +kernel)
      (istab_one (c.d.fact 24 (f := .glo "InvalidMoves") rfl) (c.kit0 2 1 (x := "InvalidMoves") (y := "InvalidTurns")) (by decide +kernel)
      (istab_one (c.d.fact 40 (f := .glo "InvalidTurn") rfl) (c.kit0 5 1 (x := "InvalidTurn") (y := "InvalidTurns")) (by decide +kernel)
      (istab_one (c.d.fact 42 (f := .glo "InvalidTurns") rfl) (c.kit1 10 (x := "InvalidTurns") (y := "InvalidTurns")) (by decide +kernel)
      (istab_one (c.d.fact 26 (f := .glo "InvalidPlace") rfl) (c.kit0 11 2 (x := "InvalidPlace") (y := "InvalidTurns")) (by decide +kernel)
      (istab_one (c.d.fact 36 (f := .glo "InvalidStretch") rfl) (c.kit0 14 2 (x := "InvalidStretch") (y := "InvalidTurns")) (by decide +kernel)
      (istab_one (c.d.fact 20 (f := .glo "InvalidLoop") rfl) (c.kit0 17 2 (x := "InvalidLoop") (y := "InvalidTurns")) (by decide +kernel)
      (istab_one (c.d.fact 28 (f := .glo "InvalidPoint") rfl) (c.kit0 20 2 (x := "InvalidPoint") (y := "InvalidTurns")) (by decide +kernel)
      (istab_one (c.d.fact 32 (f := .glo "InvalidRing") rfl) (c.kit0 23 2 (x := "InvalidRing") (y := "InvalidTurns")) (by decide +kernel)
      (istab_one (c.d.fact 30 (f := .glo "InvalidRate") rfl) (c.kit0 26 2 (x := "InvalidRate") (y := "InvalidTurns")) (by decide +kernel)
      (istab_one (c.d.fact 22 (f := .glo "InvalidMany") rfl) (c.kit0 29 2 (x := "InvalidMany") (y := "InvalidTurns")) (by decide +kernel)
      (istab_one (c.d.fact 38 (f := .glo "InvalidTicks") rfl) (c.kit0 32 2 (x := "InvalidTicks") (y := "InvalidTurns")) (by decide +kernel)
      (istab_one (c.d.fact 18 (f := .glo "InvalidIndex") rfl) (c.kit0 35 2 (x := "InvalidIndex") (y := "InvalidTurns")) (by decide +kernel)
      (istab_one (c.d.fact 34 (f := .glo "InvalidSight") rfl) (c.kit0 38 2 (x := "InvalidSight") (y := "InvalidTurns")) (by decide +kernel)
      (istab_one (c.d.fact 16 (f := .glo "InvalidCommand") rfl) (c.kit0 41 2 (x := "InvalidCommand") (y := "InvalidTurns")) (by decide +kernel)
      (istab_one (c.d.fact 46 (f := .glo "NotLoose") rfl) (c.kit0 44 2 (x := "NotLoose") (y := "InvalidTurns")) (by decide +kernel)
      (istab_one (c.d.fact 44 (f := .glo "NotForced") rfl) (c.kit0 47 2 (x := "NotForced") (y := "InvalidTurns")) (by decide +kernel)
      (istab_one (c.d.fact 50 (f := .glo "OtherGoal") rfl) (c.kit0 50 2 (x := "OtherGoal") (y := "InvalidTurns")) (by decide +kernel)
      (istab_one (c.d.fact 48 (f := .glo "NothingToUndo") rfl) (c.kit0 53 2 (x := "NothingToUndo") (y := "InvalidTurns")) (by decide +kernel)
      (istab_one (c.d.fact 54 (f := .glo "InvalidText") rfl) (c.kit0 56 2 (x := "InvalidText") (y := "InvalidTurns")) (by decide +kernel)
      istab_nil)))))))))))))))))))),
    it_InvalidPlace := (istab_one (c.d.fact 52 (f := .glo "TurnError") rfl) (c.kit0 0 3 (x := "TurnError") (y := "InvalidPlace")) (by decide +kernel)
      (istab_one (c.d.fact 24 (f := .glo "InvalidMoves") rfl) (c.kit0 2 2 (x := "InvalidMoves") (y := "InvalidPlace")) (by decide +kernel)
      (istab_one (c.d.fact 40 (f := .glo "InvalidTurn") rfl) (c.kit0 5 2 (x := "InvalidTurn") (y := "InvalidPlace")) (by decide +kernel)
      (istab_one (c.d.fact 42 (f := .glo "InvalidTurns") rfl) (c.kit0 8 2 (x := "InvalidTurns") (y := "InvalidPlace")) (by decide +kernel)
      (istab_one (c.d.fact 26 (f := .glo "InvalidPlace") rfl) (c.kit1 13 (x := "InvalidPlace") (y := "InvalidPlace")) (by decide +kernel)
      (istab_one (c.d.fact 36 (f := .glo "InvalidStretch") rfl) (c.kit0 14 3 (x := "InvalidStretch") (y := "InvalidPlace")) (by decide +kernel)
      (istab_one (c.d.fact 20 (f := .glo "InvalidLoop") rfl) (c.kit0 17 3 (x := "InvalidLoop") (y := "InvalidPlace")) (by decide +kernel)
      (istab_one (c.d.fact 28 (f := .glo "InvalidPoint") rfl) (c.kit0 20 3 (x := "InvalidPoint") (y := "InvalidPlace")) (by decide +kernel)
      (istab_one (c.d.fact 32 (f := .glo "InvalidRing") rfl) (c.kit0 23 3 (x := "InvalidRing") (y := "InvalidPlace")) (by decide +kernel)
      (istab_one (c.d.fact 30 (f := .glo "InvalidRate") rfl) (c.kit0 26 3 (x := "InvalidRate") (y := "InvalidPlace")) (by decide +kernel)
      (istab_one (c.d.fact 22 (f := .glo "InvalidMany") rfl) (c.kit0 29 3 (x := "InvalidMany") (y := "InvalidPlace")) (by decide +kernel)
      (istab_one (c.d.fact 38 (f := .glo "InvalidTicks") rfl) (c.kit0 32 3 (x := "InvalidTicks") (y := "InvalidPlace")) (by decide +kernel)
      (istab_one (c.d.fact 18 (f := .glo "InvalidIndex") rfl) (c.kit0 35 3 (x := "InvalidIndex") (y := "InvalidPlace")) (by decide +kernel)
      (istab_one (c.d.fact 34 (f := .glo "InvalidSight") rfl) (c.kit0 38 3 (x := "InvalidSight") (y := "InvalidPlace")) (by decide +kernel)
      (istab_one (c.d.fact 16 (f := .glo "InvalidCommand") rfl) (c.kit0 41 3 (x := "InvalidCommand") (y := "InvalidPlace")) (by decide +kernel)
      (istab_one (c.d.fact 46 (f := .glo "NotLoose") rfl) (c.kit0 44 3 (x := "NotLoose") (y := "InvalidPlace")) (by decide +kernel)
      (istab_one (c.d.fact 44 (f := .glo "NotForced") rfl) (c.kit0 47 3 (x := "NotForced") (y := "InvalidPlace")) (by decide +kernel)
      (istab_one (c.d.fact 50 (f := .glo "OtherGoal") rfl) (c.kit0 50 3 (x := "OtherGoal") (y := "InvalidPlace")) (by decide +kernel)
      (istab_one (c.d.fact 48 (f := .glo "NothingToUndo") rfl) (c.kit0 53 3 (x := "NothingToUndo") (y := "InvalidPlace")) (by decide +kernel)
      (istab_one (c.d.fact 54 (f := .glo "InvalidText") rfl) (c.kit0 56 3 (x := "InvalidText") (y := "InvalidPlace")) (by decide +kernel)
      istab_nil)))))))))))))))))))),
    it_InvalidStretch := (istab_one (c.d.fact 52 (f := .glo "TurnError") rfl) (c.kit0 0 4 (x := "TurnError") (y := "InvalidStretch")) (by decide +kernel)
      (istab_one (c.d.fact 24 (f := .glo "InvalidMoves") rfl) (c.kit0 2 3 (x := "InvalidMoves") (y := "InvalidStretch")) (by decide +kernel)
      (istab_one (c.d.fact 40 (f := .glo "InvalidTurn") rfl) (c.kit0 5 3 (x := "InvalidTurn") (y := "InvalidStretch")) (by decide +kernel)
      (istab_one (c.d.fact 42 (f := .glo "InvalidTurns") rfl) (c.kit0 8 3 (x := "InvalidTurns") (y := "InvalidStretch")) (by decide +kernel)
      (istab_one (c.d.fact 26 (f := .glo "InvalidPlace") rfl) (c.kit0 11 3 (x := "InvalidPlace") (y := "InvalidStretch")) (by decide +kernel)
      (istab_one (c.d.fact 36 (f := .glo "InvalidStretch") rfl) (c.kit1 16 (x := "InvalidStretch") (y := "InvalidStretch")) (by decide +kernel)
      (istab_one (c.d.fact 20 (f := .glo "InvalidLoop") rfl) (c.kit0 17 4 (x := "InvalidLoop") (y := "InvalidStretch")) (by decide +kernel)
      (istab_one (c.d.fact 28 (f := .glo "InvalidPoint") rfl) (c.kit0 20 4 (x := "InvalidPoint") (y := "InvalidStretch")) (by decide +kernel)
      (istab_one (c.d.fact 32 (f := .glo "InvalidRing") rfl) (c.kit0 23 4 (x := "InvalidRing") (y := "InvalidStretch")) (by decide +kernel)
      (istab_one (c.d.fact 30 (f := .glo "InvalidRate") rfl) (c.kit0 26 4 (x := "InvalidRate") (y := "InvalidStretch")) (by decide +kernel)
      (istab_one (c.d.fact 22 (f := .glo "InvalidMany") rfl) (c.kit0 29 4 (x := "InvalidMany") (y := "InvalidStretch")) (by decide +kernel)
      (istab_one (c.d.fact 38 (f := .glo "InvalidTicks") rfl) (c.kit0 32 4 (x := "InvalidTicks") (y := "InvalidStretch")) (by decide +kernel)
      (istab_one (c.d.fact 18 (f := .glo "InvalidIndex") rfl) (c.kit0 35 4 (x := "InvalidIndex") (y := "InvalidStretch")) (by decide +kernel)
      (istab_one (c.d.fact 34 (f := .glo "InvalidSight") rfl) (c.kit0 38 4 (x := "InvalidSight") (y := "InvalidStretch")) (by decide +kernel)
      (istab_one (c.d.fact 16 (f := .glo "InvalidCommand") rfl) (c.kit0 41 4 (x := "InvalidCommand") (y := "InvalidStretch")) (by decide +kernel)
      (istab_one (c.d.fact 46 (f := .glo "NotLoose") rfl) (c.kit0 44 4 (x := "NotLoose") (y := "InvalidStretch")) (by decide +kernel)
      (istab_one (c.d.fact 44 (f := .glo "NotForced") rfl) (c.kit0 47 4 (x := "NotForced") (y := "InvalidStretch")) (by decide +kernel)
      (istab_one (c.d.fact 50 (f := .glo "OtherGoal") rfl) (c.kit0 50 4 (x := "OtherGoal") (y := "InvalidStretch")) (by decide +kernel)
      (istab_one (c.d.fact 48 (f := .glo "NothingToUndo") rfl) (c.kit0 53 4 (x := "NothingToUndo") (y := "InvalidStretch")) (by decide +kernel)
      (istab_one (c.d.fact 54 (f := .glo "InvalidText") rfl) (c.kit0 56 4 (x := "InvalidText") (y := "InvalidStretch")) (by decide +kernel)
      istab_nil)))))))))))))))))))),
    it_InvalidLoop := (istab_one (c.d.fact 52 (f := .glo "TurnError") rfl) (c.kit0 0 5 (x := "TurnError") (y := "InvalidLoop")) (by decide +kernel)
      (istab_one (c.d.fact 24 (f := .glo "InvalidMoves") rfl) (c.kit0 2 4 (x := "InvalidMoves") (y := "InvalidLoop")) (by decide +kernel)
      (istab_one (c.d.fact 40 (f := .glo "InvalidTurn") rfl) (c.kit0 5 4 (x := "InvalidTurn") (y := "InvalidLoop")) (by decide +kernel)
      (istab_one (c.d.fact 42 (f := .glo "InvalidTurns") rfl) (c.kit0 8 4 (x := "InvalidTurns") (y := "InvalidLoop")) (by decide +kernel)
      (istab_one (c.d.fact 26 (f := .glo "InvalidPlace") rfl) (c.kit0 11 4 (x := "InvalidPlace") (y := "InvalidLoop")) (by decide +kernel)
      (istab_one (c.d.fact 36 (f := .glo "InvalidStretch") rfl) (c.kit0 14 4 (x := "InvalidStretch") (y := "InvalidLoop")) (by decide +kernel)
      (istab_one (c.d.fact 20 (f := .glo "InvalidLoop") rfl) (c.kit1 19 (x := "InvalidLoop") (y := "InvalidLoop")) (by decide +kernel)
      (istab_one (c.d.fact 28 (f := .glo "InvalidPoint") rfl) (c.kit0 20 5 (x := "InvalidPoint") (y := "InvalidLoop")) (by decide +kernel)
      (istab_one (c.d.fact 32 (f := .glo "InvalidRing") rfl) (c.kit0 23 5 (x := "InvalidRing") (y := "InvalidLoop")) (by decide +kernel)
      (istab_one (c.d.fact 30 (f := .glo "InvalidRate") rfl) (c.kit0 26 5 (x := "InvalidRate") (y := "InvalidLoop")) (by decide +kernel)
      (istab_one (c.d.fact 22 (f := .glo "InvalidMany") rfl) (c.kit0 29 5 (x := "InvalidMany") (y := "InvalidLoop")) (by decide +kernel)
      (istab_one (c.d.fact 38 (f := .glo "InvalidTicks") rfl) (c.kit0 32 5 (x := "InvalidTicks") (y := "InvalidLoop")) (by decide +kernel)
      (istab_one (c.d.fact 18 (f := .glo "InvalidIndex") rfl) (c.kit0 35 5 (x := "InvalidIndex") (y := "InvalidLoop")) (by decide +kernel)
      (istab_one (c.d.fact 34 (f := .glo "InvalidSight") rfl) (c.kit0 38 5 (x := "InvalidSight") (y := "InvalidLoop")) (by decide +kernel)
      (istab_one (c.d.fact 16 (f := .glo "InvalidCommand") rfl) (c.kit0 41 5 (x := "InvalidCommand") (y := "InvalidLoop")) (by decide +kernel)
      (istab_one (c.d.fact 46 (f := .glo "NotLoose") rfl) (c.kit0 44 5 (x := "NotLoose") (y := "InvalidLoop")) (by decide +kernel)
      (istab_one (c.d.fact 44 (f := .glo "NotForced") rfl) (c.kit0 47 5 (x := "NotForced") (y := "InvalidLoop")) (by decide +kernel)
      (istab_one (c.d.fact 50 (f := .glo "OtherGoal") rfl) (c.kit0 50 5 (x := "OtherGoal") (y := "InvalidLoop")) (by decide +kernel)
      (istab_one (c.d.fact 48 (f := .glo "NothingToUndo") rfl) (c.kit0 53 5 (x := "NothingToUndo") (y := "InvalidLoop")) (by decide +kernel)
      (istab_one (c.d.fact 54 (f := .glo "InvalidText") rfl) (c.kit0 56 5 (x := "InvalidText") (y := "InvalidLoop")) (by decide +kernel)
      istab_nil)))))))))))))))))))),
    it_InvalidPoint := (istab_one (c.d.fact 52 (f := .glo "TurnError") rfl) (c.kit0 0 6 (x := "TurnError") (y := "InvalidPoint")) (by decide +kernel)
      (istab_one (c.d.fact 24 (f := .glo "InvalidMoves") rfl) (c.kit0 2 5 (x := "InvalidMoves") (y := "InvalidPoint")) (by decide +kernel)
      (istab_one (c.d.fact 40 (f := .glo "InvalidTurn") rfl) (c.kit0 5 5 (x := "InvalidTurn") (y := "InvalidPoint")) (by decide +kernel)
      (istab_one (c.d.fact 42 (f := .glo "InvalidTurns") rfl) (c.kit0 8 5 (x := "InvalidTurns") (y := "InvalidPoint")) (by decide +kernel)
      (istab_one (c.d.fact 26 (f := .glo "InvalidPlace") rfl) (c.kit0 11 5 (x := "InvalidPlace") (y := "InvalidPoint")) (by decide +kernel)
      (istab_one (c.d.fact 36 (f := .glo "InvalidStretch") rfl) (c.kit0 14 5 (x := "InvalidStretch") (y := "InvalidPoint")) (by decide +kernel)
      (istab_one (c.d.fact 20 (f := .glo "InvalidLoop") rfl) (c.kit0 17 5 (x := "InvalidLoop") (y := "InvalidPoint")) (by decide +kernel)
      (istab_one (c.d.fact 28 (f := .glo "InvalidPoint") rfl) (c.kit1 22 (x := "InvalidPoint") (y := "InvalidPoint")) (by decide +kernel)
      (istab_one (c.d.fact 32 (f := .glo "InvalidRing") rfl) (c.kit0 23 6 (x := "InvalidRing") (y := "InvalidPoint")) (by decide +kernel)
      (istab_one (c.d.fact 30 (f := .glo "InvalidRate") rfl) (c.kit0 26 6 (x := "InvalidRate") (y := "InvalidPoint")) (by decide +kernel)
      (istab_one (c.d.fact 22 (f := .glo "InvalidMany") rfl) (c.kit0 29 6 (x := "InvalidMany") (y := "InvalidPoint")) (by decide +kernel)
      (istab_one (c.d.fact 38 (f := .glo "InvalidTicks") rfl) (c.kit0 32 6 (x := "InvalidTicks") (y := "InvalidPoint")) (by decide +kernel)
      (istab_one (c.d.fact 18 (f := .glo "InvalidIndex") rfl) (c.kit0 35 6 (x := "InvalidIndex") (y := "InvalidPoint")) (by decide +kernel)
      (istab_one (c.d.fact 34 (f := .glo "InvalidSight") rfl) (c.kit0 38 6 (x := "InvalidSight") (y := "InvalidPoint")) (by decide +kernel)
      (istab_one (c.d.fact 16 (f := .glo "InvalidCommand") rfl) (c.kit0 41 6 (x := "InvalidCommand") (y := "InvalidPoint")) (by decide +kernel)
      (istab_one (c.d.fact 46 (f := .glo "NotLoose") rfl) (c.kit0 44 6 (x := "NotLoose") (y := "InvalidPoint")) (by decide +kernel)
      (istab_one (c.d.fact 44 (f := .glo "NotForced") rfl) (c.kit0 47 6 (x := "NotForced") (y := "InvalidPoint")) (by decide +kernel)
      (istab_one (c.d.fact 50 (f := .glo "OtherGoal") rfl) (c.kit0 50 6 (x := "OtherGoal") (y := "InvalidPoint")) (by decide +kernel)
      (istab_one (c.d.fact 48 (f := .glo "NothingToUndo") rfl) (c.kit0 53 6 (x := "NothingToUndo") (y := "InvalidPoint")) (by decide +kernel)
      (istab_one (c.d.fact 54 (f := .glo "InvalidText") rfl) (c.kit0 56 6 (x := "InvalidText") (y := "InvalidPoint")) (by decide +kernel)
      istab_nil)))))))))))))))))))),
    it_InvalidRing := (istab_one (c.d.fact 52 (f := .glo "TurnError") rfl) (c.kit0 0 7 (x := "TurnError") (y := "InvalidRing")) (by decide +kernel)
      (istab_one (c.d.fact 24 (f := .glo "InvalidMoves") rfl) (c.kit0 2 6 (x := "InvalidMoves") (y := "InvalidRing")) (by decide +kernel)
      (istab_one (c.d.fact 40 (f := .glo "InvalidTurn") rfl) (c.kit0 5 6 (x := "InvalidTurn") (y := "InvalidRing")) (by decide +kernel)
      (istab_one (c.d.fact 42 (f := .glo "InvalidTurns") rfl) (c.kit0 8 6 (x := "InvalidTurns") (y := "InvalidRing")) (by decide +kernel)
      (istab_one (c.d.fact 26 (f := .glo "InvalidPlace") rfl) (c.kit0 11 6 (x := "InvalidPlace") (y := "InvalidRing")) (by decide +kernel)
      (istab_one (c.d.fact 36 (f := .glo "InvalidStretch") rfl) (c.kit0 14 6 (x := "InvalidStretch") (y := "InvalidRing")) (by decide +kernel)
      (istab_one (c.d.fact 20 (f := .glo "InvalidLoop") rfl) (c.kit0 17 6 (x := "InvalidLoop") (y := "InvalidRing")) (by decide +kernel)
      (istab_one (c.d.fact 28 (f := .glo "InvalidPoint") rfl) (c.kit0 20 6 (x := "InvalidPoint") (y := "InvalidRing")) (by decide +kernel)
      (istab_one (c.d.fact 32 (f := .glo "InvalidRing") rfl) (c.kit1 25 (x := "InvalidRing") (y := "InvalidRing")) (by decide +kernel)
      (istab_one (c.d.fact 30 (f := .glo "InvalidRate") rfl) (c.kit0 26 7 (x := "InvalidRate") (y := "InvalidRing")) (by decide +kernel)
      (istab_one (c.d.fact 22 (f := .glo "InvalidMany") rfl) (c.kit0 29 7 (x := "InvalidMany") (y := "InvalidRing")) (by decide +kernel)
      (istab_one (c.d.fact 38 (f := .glo "InvalidTicks") rfl) (c.kit0 32 7 (x := "InvalidTicks") (y := "InvalidRing")) (by decide +kernel)
      (istab_one (c.d.fact 18 (f := .glo "InvalidIndex") rfl) (c.kit0 35 7 (x := "InvalidIndex") (y := "InvalidRing")) (by decide +kernel)
      (istab_one (c.d.fact 34 (f := .glo "InvalidSight") rfl) (c.kit0 38 7 (x := "InvalidSight") (y := "InvalidRing")) (by decide +kernel)
      (istab_one (c.d.fact 16 (f := .glo "InvalidCommand") rfl) (c.kit0 41 7 (x := "InvalidCommand") (y := "InvalidRing")) (by decide +kernel)
      (istab_one (c.d.fact 46 (f := .glo "NotLoose") rfl) (c.kit0 44 7 (x := "NotLoose") (y := "InvalidRing")) (by decide +kernel)
      (istab_one (c.d.fact 44 (f := .glo "NotForced") rfl) (c.kit0 47 7 (x := "NotForced") (y := "InvalidRing")) (by decide +kernel)
      (istab_one (c.d.fact 50 (f := .glo "OtherGoal") rfl) (c.kit0 50 7 (x := "OtherGoal") (y := "InvalidRing")) (by decide +kernel)
      (istab_one (c.d.fact 48 (f := .glo "NothingToUndo") rfl) (c.kit0 53 7 (x := "NothingToUndo") (y := "InvalidRing")) (by decide +kernel)
      (istab_one (c.d.fact 54 (f := .glo "InvalidText") rfl) (c.kit0 56 7 (x := "InvalidText") (y := "InvalidRing")) (by decide +kernel)
      istab_nil)))))))))))))))))))),
    it_InvalidRate := (istab_one (c.d.fact 52 (f := .glo "TurnError") rfl) (c.kit0 0 8 (x := "TurnError") (y := "InvalidRate")) (by decide +kernel)
      (istab_one (c.d.fact 24 (f := .glo "InvalidMoves") rfl) (c.kit0 2 7 (x := "InvalidMoves") (y := "InvalidRate")) (by decide +kernel)
      (istab_one (c.d.fact 40 (f := .glo "InvalidTurn") rfl) (c.kit0 5 7 (x := "InvalidTurn") (y := "InvalidRate")) (by decide +kernel)
      (istab_one (c.d.fact 42 (f := .glo "InvalidTurns") rfl) (c.kit0 8 7 (x := "InvalidTurns") (y := "InvalidRate")) (by decide +kernel)
      (istab_one (c.d.fact 26 (f := .glo "InvalidPlace") rfl) (c.kit0 11 7 (x := "InvalidPlace") (y := "InvalidRate")) (by decide +kernel)
      (istab_one (c.d.fact 36 (f := .glo "InvalidStretch") rfl) (c.kit0 14 7 (x := "InvalidStretch") (y := "InvalidRate")) (by decide +kernel)
      (istab_one (c.d.fact 20 (f := .glo "InvalidLoop") rfl) (c.kit0 17 7 (x := "InvalidLoop") (y := "InvalidRate")) (by decide +kernel)
      (istab_one (c.d.fact 28 (f := .glo "InvalidPoint") rfl) (c.kit0 20 7 (x := "InvalidPoint") (y := "InvalidRate")) (by decide +kernel)
      (istab_one (c.d.fact 32 (f := .glo "InvalidRing") rfl) (c.kit0 23 7 (x := "InvalidRing") (y := "InvalidRate")) (by decide +kernel)
      (istab_one (c.d.fact 30 (f := .glo "InvalidRate") rfl) (c.kit1 28 (x := "InvalidRate") (y := "InvalidRate")) (by decide +kernel)
      (istab_one (c.d.fact 22 (f := .glo "InvalidMany") rfl) (c.kit0 29 8 (x := "InvalidMany") (y := "InvalidRate")) (by decide +kernel)
      (istab_one (c.d.fact 38 (f := .glo "InvalidTicks") rfl) (c.kit0 32 8 (x := "InvalidTicks") (y := "InvalidRate")) (by decide +kernel)
      (istab_one (c.d.fact 18 (f := .glo "InvalidIndex") rfl) (c.kit0 35 8 (x := "InvalidIndex") (y := "InvalidRate")) (by decide +kernel)
      (istab_one (c.d.fact 34 (f := .glo "InvalidSight") rfl) (c.kit0 38 8 (x := "InvalidSight") (y := "InvalidRate")) (by decide +kernel)
      (istab_one (c.d.fact 16 (f := .glo "InvalidCommand") rfl) (c.kit0 41 8 (x := "InvalidCommand") (y := "InvalidRate")) (by decide +kernel)
      (istab_one (c.d.fact 46 (f := .glo "NotLoose") rfl) (c.kit0 44 8 (x := "NotLoose") (y := "InvalidRate")) (by decide +kernel)
      (istab_one (c.d.fact 44 (f := .glo "NotForced") rfl) (c.kit0 47 8 (x := "NotForced") (y := "InvalidRate")) (by decide +kernel)
      (istab_one (c.d.fact 50 (f := .glo "OtherGoal") rfl) (c.kit0 50 8 (x := "OtherGoal") (y := "InvalidRate")) (by decide +kernel)
      (istab_one (c.d.fact 48 (f := .glo "NothingToUndo") rfl) (c.kit0 53 8 (x := "NothingToUndo") (y := "InvalidRate")) (by decide +kernel)
      (istab_one (c.d.fact 54 (f := .glo "InvalidText") rfl) (c.kit0 56 8 (x := "InvalidText") (y := "InvalidRate")) (by decide +kernel)
      istab_nil)))))))))))))))))))),
    it_InvalidMany := (istab_one (c.d.fact 52 (f := .glo "TurnError") rfl) (c.kit0 0 9 (x := "TurnError") (y := "InvalidMany")) (by decide +kernel)
      (istab_one (c.d.fact 24 (f := .glo "InvalidMoves") rfl) (c.kit0 2 8 (x := "InvalidMoves") (y := "InvalidMany")) (by decide +kernel)
      (istab_one (c.d.fact 40 (f := .glo "InvalidTurn") rfl) (c.kit0 5 8 (x := "InvalidTurn") (y := "InvalidMany")) (by decide +kernel)
      (istab_one (c.d.fact 42 (f := .glo "InvalidTurns") rfl) (c.kit0 8 8 (x := "InvalidTurns") (y := "InvalidMany")) (by decide +kernel)
      (istab_one (c.d.fact 26 (f := .glo "InvalidPlace") rfl) (c.kit0 11 8 (x := "InvalidPlace") (y := "InvalidMany")) (by decide +kernel)
      (istab_one (c.d.fact 36 (f := .glo "InvalidStretch") rfl) (c.kit0 14 8 (x := "InvalidStretch") (y := "InvalidMany")) (by decide +kernel)
      (istab_one (c.d.fact 20 (f := .glo "InvalidLoop") rfl) (c.kit0 17 8 (x := "InvalidLoop") (y := "InvalidMany")) (by decide +kernel)
      (istab_one (c.d.fact 28 (f := .glo "InvalidPoint") rfl) (c.kit0 20 8 (x := "InvalidPoint") (y := "InvalidMany")) (by decide +kernel)
      (istab_one (c.d.fact 32 (f := .glo "InvalidRing") rfl) (c.kit0 23 8 (x := "InvalidRing") (y := "InvalidMany")) (by decide +kernel)
      (istab_one (c.d.fact 30 (f := .glo "InvalidRate") rfl) (c.kit0 26 8 (x := "InvalidRate") (y := "InvalidMany")) (by decide +kernel)
      (istab_one (c.d.fact 22 (f := .glo "InvalidMany") rfl) (c.kit1 31 (x := "InvalidMany") (y := "InvalidMany")) (by decide +kernel)
      (istab_one (c.d.fact 38 (f := .glo "InvalidTicks") rfl) (c.kit0 32 9 (x := "InvalidTicks") (y := "InvalidMany")) (by decide +kernel)
      (istab_one (c.d.fact 18 (f := .glo "InvalidIndex") rfl) (c.kit0 35 9 (x := "InvalidIndex") (y := "InvalidMany")) (by decide +kernel)
      (istab_one (c.d.fact 34 (f := .glo "InvalidSight") rfl) (c.kit0 38 9 (x := "InvalidSight") (y := "InvalidMany")) (by decide +kernel)
      (istab_one (c.d.fact 16 (f := .glo "InvalidCommand") rfl) (c.kit0 41 9 (x := "InvalidCommand") (y := "InvalidMany")) (by decide +kernel)
      (istab_one (c.d.fact 46 (f := .glo "NotLoose") rfl) (c.kit0 44 9 (x := "NotLoose") (y := "InvalidMany")) (by decide +kernel)
      (istab_one (c.d.fact 44 (f := .glo "NotForced") rfl) (c.kit0 47 9 (x := "NotForced") (y := "InvalidMany")) (by decide +kernel)
      (istab_one (c.d.fact 50 (f := .glo "OtherGoal") rfl) (c.kit0 50 9 (x := "OtherGoal") (y := "InvalidMany")) (by decide +kernel)
      (istab_one (c.d.fact 48 (f := .glo "NothingToUndo") rfl) (c.kit0 53 9 (x := "NothingToUndo") (y := "InvalidMany")) (by decide +kernel)
      (istab_one (c.d.fact 54 (f := .glo "InvalidText") rfl) (c.kit0 56 9 (x := "InvalidText") (y := "InvalidMany")) (by decide +kernel)
      istab_nil)))))))))))))))))))),
    it_InvalidTicks := (istab_one (c.d.fact 52 (f := .glo "TurnError") rfl) (c.kit0 0 10 (x := "TurnError") (y := "InvalidTicks")) (by decide +kernel)
      (istab_one (c.d.fact 24 (f := .glo "InvalidMoves") rfl) (c.kit0 2 9 (x := "InvalidMoves") (y := "InvalidTicks")) (by decide +kernel)
      (istab_one (c.d.fact 40 (f := .glo "InvalidTurn") rfl) (c.kit0 5 9 (x := "InvalidTurn") (y := "InvalidTicks")) (by decide +kernel)
      (istab_one (c.d.fact 42 (f := .glo "InvalidTurns") rfl) (c.kit0 8 9 (x := "InvalidTurns") (y := "InvalidTicks")) (by decide +kernel)
      (istab_one (c.d.fact 26 (f := .glo "InvalidPlace") rfl) (c.kit0 11 9 (x := "InvalidPlace") (y := "InvalidTicks")) (by decide +kernel)
      (istab_one (c.d.fact 36 (f := .glo "InvalidStretch") rfl) (c.kit0 14 9 (x := "InvalidStretch") (y := "InvalidTicks")) (by decide +kernel)
      (istab_one (c.d.fact 20 (f := .glo "InvalidLoop") rfl) (c.kit0 17 9 (x := "InvalidLoop") (y := "InvalidTicks")) (by decide +kernel)
      (istab_one (c.d.fact 28 (f := .glo "InvalidPoint") rfl) (c.kit0 20 9 (x := "InvalidPoint") (y := "InvalidTicks")) (by decide +kernel)
      (istab_one (c.d.fact 32 (f := .glo "InvalidRing") rfl) (c.kit0 23 9 (x := "InvalidRing") (y := "InvalidTicks")) (by decide +kernel)
      (istab_one (c.d.fact 30 (f := .glo "InvalidRate") rfl) (c.kit0 26 9 (x := "InvalidRate") (y := "InvalidTicks")) (by decide +kernel)
      (istab_one (c.d.fact 22 (f := .glo "InvalidMany") rfl) (c.kit0 29 9 (x := "InvalidMany") (y := "InvalidTicks")) (by decide +kernel)
      (istab_one (c.d.fact 38 (f := .glo "InvalidTicks") rfl) (c.kit1 34 (x := "InvalidTicks") (y := "InvalidTicks")) (by decide +kernel)
      (istab_one (c.d.fact 18 (f := .glo "InvalidIndex") rfl) (c.kit0 35 10 (x := "InvalidIndex") (y := "InvalidTicks")) (by decide +kernel)
      (istab_one (c.d.fact 34 (f := .glo "InvalidSight") rfl) (c.kit0 38 10 (x := "InvalidSight") (y := "InvalidTicks")) (by decide +kernel)
      (istab_one (c.d.fact 16 (f := .glo "InvalidCommand") rfl) (c.kit0 41 10 (x := "InvalidCommand") (y := "InvalidTicks")) (by decide +kernel)
      (istab_one (c.d.fact 46 (f := .glo "NotLoose") rfl) (c.kit0 44 10 (x := "NotLoose") (y := "InvalidTicks")) (by decide +kernel)
      (istab_one (c.d.fact 44 (f := .glo "NotForced") rfl) (c.kit0 47 10 (x := "NotForced") (y := "InvalidTicks")) (by decide +kernel)
      (istab_one (c.d.fact 50 (f := .glo "OtherGoal") rfl) (c.kit0 50 10 (x := "OtherGoal") (y := "InvalidTicks")) (by decide +kernel)
      (istab_one (c.d.fact 48 (f := .glo "NothingToUndo") rfl) (c.kit0 53 10 (x := "NothingToUndo") (y := "InvalidTicks")) (by decide +kernel)
      (istab_one (c.d.fact 54 (f := .glo "InvalidText") rfl) (c.kit0 56 10 (x := "InvalidText") (y := "InvalidTicks")) (by decide +kernel)
      istab_nil)))))))))))))))))))),
    it_InvalidIndex := (istab_one (c.d.fact 52 (f := .glo "TurnError") rfl) (c.kit0 0 11 (x := "TurnError") (y := "InvalidIndex")) (by decide +kernel)
      (istab_one (c.d.fact 24 (f := .glo "InvalidMoves") rfl) (c.kit0 2 10 (x := "InvalidMoves") (y := "InvalidIndex")) (by decide +kernel)
      (istab_one (c.d.fact 40 (f := .glo "InvalidTurn") rfl) (c.kit0 5 10 (x := "InvalidTurn") (y := "InvalidIndex")) (by decide +kernel)
      (istab_one (c.d.fact 42 (f := .glo "InvalidTurns") rfl) (c.kit0 8 10 (x := "InvalidTurns") (y := "InvalidIndex")) (by decide +kernel)
      (istab_one (c.d.fact 26 (f := .glo "InvalidPlace") rfl) (c.kit0 11 10 (x := "InvalidPlace") (y := "InvalidIndex")) (by decide +kernel)
      (istab_one (c.d.fact 36 (f := .glo "InvalidStretch") rfl) (c.kit0 14 10 (x := "InvalidStretch") (y := "InvalidIndex")) (by decide +kernel)
      (istab_one (c.d.fact 20 (f := .glo "InvalidLoop") rfl) (c.kit0 17 10 (x := "InvalidLoop") (y := "InvalidIndex")) (by decide +kernel)
      (istab_one (c.d.fact 28 (f := .glo "InvalidPoint") rfl) (c.kit0 20 10 (x := "InvalidPoint") (y := "InvalidIndex")) (by decide +kernel)
      (istab_one (c.d.fact 32 (f := .glo "InvalidRing") rfl) (c.kit0 23 10 (x := "InvalidRing") (y := "InvalidIndex")) (by decide +kernel)
      (istab_one (c.d.fact 30 (f := .glo "InvalidRate") rfl) (c.kit0 26 10 (x := "InvalidRate") (y := "InvalidIndex")) (by decide +kernel)
      (istab_one (c.d.fact 22 (f := .glo "InvalidMany") rfl) (c.kit0 29 10 (x := "InvalidMany") (y := "InvalidIndex")) (by decide +kernel)
      (istab_one (c.d.fact 38 (f := .glo "InvalidTicks") rfl) (c.kit0 32 10 (x := "InvalidTicks") (y := "InvalidIndex")) (by decide +kernel)
      (istab_one (c.d.fact 18 (f := .glo "InvalidIndex") rfl) (c.kit1 37 (x := "InvalidIndex") (y := "InvalidIndex")) (by decide +kernel)
      (istab_one (c.d.fact 34 (f := .glo "InvalidSight") rfl) (c.kit0 38 11 (x := "InvalidSight") (y := "InvalidIndex")) (by decide +kernel)
      (istab_one (c.d.fact 16 (f := .glo "InvalidCommand") rfl) (c.kit0 41 11 (x := "InvalidCommand") (y := "InvalidIndex")) (by decide +kernel)
      (istab_one (c.d.fact 46 (f := .glo "NotLoose") rfl) (c.kit0 44 11 (x := "NotLoose") (y := "InvalidIndex")) (by decide +kernel)
      (istab_one (c.d.fact 44 (f := .glo "NotForced") rfl) (c.kit0 47 11 (x := "NotForced") (y := "InvalidIndex")) (by decide +kernel)
      (istab_one (c.d.fact 50 (f := .glo "OtherGoal") rfl) (c.kit0 50 11 (x := "OtherGoal") (y := "InvalidIndex")) (by decide +kernel)
      (istab_one (c.d.fact 48 (f := .glo "NothingToUndo") rfl) (c.kit0 53 11 (x := "NothingToUndo") (y := "InvalidIndex")) (by decide +kernel)
      (istab_one (c.d.fact 54 (f := .glo "InvalidText") rfl) (c.kit0 56 11 (x := "InvalidText") (y := "InvalidIndex")) (by decide +kernel)
      istab_nil)))))))))))))))))))),
    it_InvalidSight := (istab_one (c.d.fact 52 (f := .glo "TurnError") rfl) (c.kit0 0 12 (x := "TurnError") (y := "InvalidSight")) (by decide +kernel)
      (istab_one (c.d.fact 24 (f := .glo "InvalidMoves") rfl) (c.kit0 2 11 (x := "InvalidMoves") (y := "InvalidSight")) (by decide +kernel)
      (istab_one (c.d.fact 40 (f := .glo "InvalidTurn") rfl) (c.kit0 5 11 (x := "InvalidTurn") (y := "InvalidSight")) (by decide +kernel)
      (istab_one (c.d.fact 42 (f := .glo "InvalidTurns") rfl) (c.kit0 8 11 (x := "InvalidTurns") (y := "InvalidSight")) (by decide +kernel)
      (istab_one (c.d.fact 26 (f := .glo "InvalidPlace") rfl) (c.kit0 11 11 (x := "InvalidPlace") (y := "InvalidSight")) (by decide +kernel)
      (istab_one (c.d.fact 36 (f := .glo "InvalidStretch") rfl) (c.kit0 14 11 (x := "InvalidStretch") (y := "InvalidSight")) (by decide +kernel)
      (istab_one (c.d.fact 20 (f := .glo "InvalidLoop") rfl) (c.kit0 17 11 (x := "InvalidLoop") (y := "InvalidSight")) (by decide +kernel)
      (istab_one (c.d.fact 28 (f := .glo "InvalidPoint") rfl) (c.kit0 20 11 (x := "InvalidPoint") (y := "InvalidSight")) (by decide +kernel)
      (istab_one (c.d.fact 32 (f := .glo "InvalidRing") rfl) (c.kit0 23 11 (x := "InvalidRing") (y := "InvalidSight")) (by decide +kernel)
      (istab_one (c.d.fact 30 (f := .glo "InvalidRate") rfl) (c.kit0 26 11 (x := "InvalidRate") (y := "InvalidSight")) (by decide +kernel)
      (istab_one (c.d.fact 22 (f := .glo "InvalidMany") rfl) (c.kit0 29 11 (x := "InvalidMany") (y := "InvalidSight")) (by decide +kernel)
      (istab_one (c.d.fact 38 (f := .glo "InvalidTicks") rfl) (c.kit0 32 11 (x := "InvalidTicks") (y := "InvalidSight")) (by decide +kernel)
      (istab_one (c.d.fact 18 (f := .glo "InvalidIndex") rfl) (c.kit0 35 11 (x := "InvalidIndex") (y := "InvalidSight")) (by decide +kernel)
      (istab_one (c.d.fact 34 (f := .glo "InvalidSight") rfl) (c.kit1 40 (x := "InvalidSight") (y := "InvalidSight")) (by decide +kernel)
      (istab_one (c.d.fact 16 (f := .glo "InvalidCommand") rfl) (c.kit0 41 12 (x := "InvalidCommand") (y := "InvalidSight")) (by decide +kernel)
      (istab_one (c.d.fact 46 (f := .glo "NotLoose") rfl) (c.kit0 44 12 (x := "NotLoose") (y := "InvalidSight")) (by decide +kernel)
      (istab_one (c.d.fact 44 (f := .glo "NotForced") rfl) (c.kit0 47 12 (x := "NotForced") (y := "InvalidSight")) (by decide +kernel)
      (istab_one (c.d.fact 50 (f := .glo "OtherGoal") rfl) (c.kit0 50 12 (x := "OtherGoal") (y := "InvalidSight")) (by decide +kernel)
      (istab_one (c.d.fact 48 (f := .glo "NothingToUndo") rfl) (c.kit0 53 12 (x := "NothingToUndo") (y := "InvalidSight")) (by decide +kernel)
      (istab_one (c.d.fact 54 (f := .glo "InvalidText") rfl) (c.kit0 56 12 (x := "InvalidText") (y := "InvalidSight")) (by decide +kernel)
      istab_nil)))))))))))))))))))),
    it_InvalidCommand := (istab_one (c.d.fact 52 (f := .glo "TurnError") rfl) (c.kit0 0 13 (x := "TurnError") (y := "InvalidCommand")) (by decide +kernel)
      (istab_one (c.d.fact 24 (f := .glo "InvalidMoves") rfl) (c.kit0 2 12 (x := "InvalidMoves") (y := "InvalidCommand")) (by decide +kernel)
      (istab_one (c.d.fact 40 (f := .glo "InvalidTurn") rfl) (c.kit0 5 12 (x := "InvalidTurn") (y := "InvalidCommand")) (by decide +kernel)
      (istab_one (c.d.fact 42 (f := .glo "InvalidTurns") rfl) (c.kit0 8 12 (x := "InvalidTurns") (y := "InvalidCommand")) (by decide +kernel)
      (istab_one (c.d.fact 26 (f := .glo "InvalidPlace") rfl) (c.kit0 11 12 (x := "InvalidPlace") (y := "InvalidCommand")) (by decide +kernel)
      (istab_one (c.d.fact 36 (f := .glo "InvalidStretch") rfl) (c.kit0 14 12 (x := "InvalidStretch") (y := "InvalidCommand")) (by decide +kernel)
      (istab_one (c.d.fact 20 (f := .glo "InvalidLoop") rfl) (c.kit0 17 12 (x := "InvalidLoop") (y := "InvalidCommand")) (by decide +kernel)
      (istab_one (c.d.fact 28 (f := .glo "InvalidPoint") rfl) (c.kit0 20 12 (x := "InvalidPoint") (y := "InvalidCommand")) (by decide +kernel)
      (istab_one (c.d.fact 32 (f := .glo "InvalidRing") rfl) (c.kit0 23 12 (x := "InvalidRing") (y := "InvalidCommand")) (by decide +kernel)
      (istab_one (c.d.fact 30 (f := .glo "InvalidRate") rfl) (c.kit0 26 12 (x := "InvalidRate") (y := "InvalidCommand")) (by decide +kernel)
      (istab_one (c.d.fact 22 (f := .glo "InvalidMany") rfl) (c.kit0 29 12 (x := "InvalidMany") (y := "InvalidCommand")) (by decide +kernel)
      (istab_one (c.d.fact 38 (f := .glo "InvalidTicks") rfl) (c.kit0 32 12 (x := "InvalidTicks") (y := "InvalidCommand")) (by decide +kernel)
      (istab_one (c.d.fact 18 (f := .glo "InvalidIndex") rfl) (c.kit0 35 12 (x := "InvalidIndex") (y := "InvalidCommand")) (by decide +kernel)
      (istab_one (c.d.fact 34 (f := .glo "InvalidSight") rfl) (c.kit0 38 12 (x := "InvalidSight") (y := "InvalidCommand")) (by decide +kernel)
      (istab_one (c.d.fact 16 (f := .glo "InvalidCommand") rfl) (c.kit1 43 (x := "InvalidCommand") (y := "InvalidCommand")) (by decide +kernel)
      (istab_one (c.d.fact 46 (f := .glo "NotLoose") rfl) (c.kit0 44 13 (x := "NotLoose") (y := "InvalidCommand")) (by decide +kernel)
      (istab_one (c.d.fact 44 (f := .glo "NotForced") rfl) (c.kit0 47 13 (x := "NotForced") (y := "InvalidCommand")) (by decide +kernel)
      (istab_one (c.d.fact 50 (f := .glo "OtherGoal") rfl) (c.kit0 50 13 (x := "OtherGoal") (y := "InvalidCommand")) (by decide +kernel)
      (istab_one (c.d.fact 48 (f := .glo "NothingToUndo") rfl) (c.kit0 53 13 (x := "NothingToUndo") (y := "InvalidCommand")) (by decide +kernel)
      (istab_one (c.d.fact 54 (f := .glo "InvalidText") rfl) (c.kit0 56 13 (x := "InvalidText") (y := "InvalidCommand")) (by decide +kernel)
      istab_nil)))))))))))))))))))),
    it_NotLoose := (istab_one (c.d.fact 52 (f := .glo "TurnError") rfl) (c.kit0 0 14 (x := "TurnError") (y := "NotLoose")) (by decide +kernel)
      (istab_one (c.d.fact 24 (f := .glo "InvalidMoves") rfl) (c.kit0 2 13 (x := "InvalidMoves") (y := "NotLoose")) (by decide +kernel)
      (istab_one (c.d.fact 40 (f := .glo "InvalidTurn") rfl) (c.kit0 5 13 (x := "InvalidTurn") (y := "NotLoose")) (by decide +kernel)
      (istab_one (c.d.fact 42 (f := .glo "InvalidTurns") rfl) (c.kit0 8 13 (x := "InvalidTurns") (y := "NotLoose")) (by decide +kernel)
      (istab_one (c.d.fact 26 (f := .glo "InvalidPlace") rfl) (c.kit0 11 13 (x := "InvalidPlace") (y := "NotLoose")) (by decide +kernel)
      (istab_one (c.d.fact 36 (f := .glo "InvalidStretch") rfl) (c.kit0 14 13 (x := "InvalidStretch") (y := "NotLoose")) (by decide +kernel)
      (istab_one (c.d.fact 20 (f := .glo "InvalidLoop") rfl) (c.kit0 17 13 (x := "InvalidLoop") (y := "NotLoose")) (by decide +kernel)
      (istab_one (c.d.fact 28 (f := .glo "InvalidPoint") rfl) (c.kit0 20 13 (x := "InvalidPoint") (y := "NotLoose")) (by decide +kernel)
      (istab_one (c.d.fact 32 (f := .glo "InvalidRing") rfl) (c.kit0 23 13 (x := "InvalidRing") (y := "NotLoose")) (by decide +kernel)
      (istab_one (c.d.fact 30 (f := .glo "InvalidRate") rfl) (c.kit0 26 13 (x := "InvalidRate") (y := "NotLoose")) (by decide +kernel)
      (istab_one (c.d.fact 22 (f := .glo "InvalidMany") rfl) (c.kit0 29 13 (x := "InvalidMany") (y := "NotLoose")) (by decide +kernel)
      (istab_one (c.d.fact 38 (f := .glo "InvalidTicks") rfl) (c.kit0 32 13 (x := "InvalidTicks") (y := "NotLoose")) (by decide +kernel)
      (istab_one (c.d.fact 18 (f := .glo "InvalidIndex") rfl) (c.kit0 35 13 (x := "InvalidIndex") (y := "NotLoose")) (by decide +kernel)
      (istab_one (c.d.fact 34 (f := .glo "InvalidSight") rfl) (c.kit0 38 13 (x := "InvalidSight") (y := "NotLoose")) (by decide +kernel)
      (istab_one (c.d.fact 16 (f := .glo "InvalidCommand") rfl) (c.kit0 41 13 (x := "InvalidCommand") (y := "NotLoose")) (by decide +kernel)
      (istab_one (c.d.fact 46 (f := .glo "NotLoose") rfl) (c.kit1 46 (x := "NotLoose") (y := "NotLoose")) (by decide +kernel)
      (istab_one (c.d.fact 44 (f := .glo "NotForced") rfl) (c.kit0 47 14 (x := "NotForced") (y := "NotLoose")) (by decide +kernel)
      (istab_one (c.d.fact 50 (f := .glo "OtherGoal") rfl) (c.kit0 50 14 (x := "OtherGoal") (y := "NotLoose")) (by decide +kernel)
      (istab_one (c.d.fact 48 (f := .glo "NothingToUndo") rfl) (c.kit0 53 14 (x := "NothingToUndo") (y := "NotLoose")) (by decide +kernel)
      (istab_one (c.d.fact 54 (f := .glo "InvalidText") rfl) (c.kit0 56 14 (x := "InvalidText") (y := "NotLoose")) (by decide +kernel)
      istab_nil)))))))))))))))))))),
    it_NotForced := (istab_one (c.d.fact 52 (f := .glo "TurnError") rfl) (c.kit0 0 15 (x := "TurnError") (y := "NotForced")) (by decide +kernel)
      (istab_one (c.d.fact 24 (f := .glo "InvalidMoves") rfl) (c.kit0 2 14 (x := "InvalidMoves") (y := "NotForced")) (by decide +kernel)
      (istab_one (c.d.fact 40 (f := .glo "InvalidTurn") rfl) (c.kit0 5 14 (x := "InvalidTurn") (y := "NotForced")) (by decide +kernel)
      (istab_one (c.d.fact 42 (f := .glo "InvalidTurns") rfl) (c.kit0 8 14 (x := "InvalidTurns") (y := "NotForced")) (by decide +kernel)
      (istab_one (c.d.fact 26 (f := .glo "InvalidPlace") rfl) (c.kit0 11 14 (x := "InvalidPlace") (y := "NotForced")) (by decide +kernel)
      (istab_one (c.d.fact 36 (f := .glo "InvalidStretch") rfl) (c.kit0 14 14 (x := "InvalidStretch") (y := "NotForced")) (by decide +kernel)
      (istab_one (c.d.fact 20 (f := .glo "InvalidLoop") rfl) (c.kit0 17 14 (x := "InvalidLoop") (y := "NotForced")) (by decide +kernel)
      (istab_one (c.d.fact 28 (f := .glo "InvalidPoint") rfl) (c.kit0 20 14 (x := "InvalidPoint") (y := "NotForced")) (by decide +kernel)
      (istab_one (c.d.fact 32 (f := .glo "InvalidRing") rfl) (c.kit0 23 14 (x := "InvalidRing") (y := "NotForced")) (by decide +kernel)
      (istab_one (c.d.fact 30 (f := .glo "InvalidRate") rfl) (c.kit0 26 14 (x := "InvalidRate") (y := "NotForced")) (by decide +kernel)
      (istab_one (c.d.fact 22 (f := .glo "InvalidMany") rfl) (c.kit0 29 14 (x := "InvalidMany") (y := "NotForced")) (by decide +kernel)
      (istab_one (c.d.fact 38 (f := .glo "InvalidTicks") rfl) (c.kit0 32 14 (x := "InvalidTicks") (y := "NotForced")) (by decide +kernel)
      (istab_one (c.d.fact 18 (f := .glo "InvalidIndex") rfl) (c.kit0 35 14 (x := "InvalidIndex") (y := "NotForced")) (by decide +kernel)
      (istab_one (c.d.fact 34 (f := .glo "InvalidSight") rfl) (c.kit0 38 14 (x := "InvalidSight") (y := "NotForced")) (by decide +kernel)
      (istab_one (c.d.fact 16 (f := .glo "InvalidCommand") rfl) (c.kit0 41 14 (x := "InvalidCommand") (y := "NotForced")) (by decide +kernel)
      (istab_one (c.d.fact 46 (f := .glo "NotLoose") rfl) (c.kit0 44 14 (x := "NotLoose") (y := "NotForced")) (by decide +kernel)
      (istab_one (c.d.fact 44 (f := .glo "NotForced") rfl) (c.kit1 49 (x := "NotForced") (y := "NotForced")) (by decide +kernel)
      (istab_one (c.d.fact 50 (f := .glo "OtherGoal") rfl) (c.kit0 50 15 (x := "OtherGoal") (y := "NotForced")) (by decide +kernel)
      (istab_one (c.d.fact 48 (f := .glo "NothingToUndo") rfl) (c.kit0 53 15 (x := "NothingToUndo") (y := "NotForced")) (by decide +kernel)
      (istab_one (c.d.fact 54 (f := .glo "InvalidText") rfl) (c.kit0 56 15 (x := "InvalidText") (y := "NotForced")) (by decide +kernel)
      istab_nil)))))))))))))))))))),
    it_OtherGoal := (istab_one (c.d.fact 52 (f := .glo "TurnError") rfl) (c.kit0 0 16 (x := "TurnError") (y := "OtherGoal")) (by decide +kernel)
      (istab_one (c.d.fact 24 (f := .glo "InvalidMoves") rfl) (c.kit0 2 15 (x := "InvalidMoves") (y := "OtherGoal")) (by decide +kernel)
      (istab_one (c.d.fact 40 (f := .glo "InvalidTurn") rfl) (c.kit0 5 15 (x := "InvalidTurn") (y := "OtherGoal")) (by decide +kernel)
      (istab_one (c.d.fact 42 (f := .glo "InvalidTurns") rfl) (c.kit0 8 15 (x := "InvalidTurns") (y := "OtherGoal")) (by decide +kernel)
      (istab_one (c.d.fact 26 (f := .glo "InvalidPlace") rfl) (c.kit0 11 15 (x := "InvalidPlace") (y := "OtherGoal")) (by decide +kernel)
      (istab_one (c.d.fact 36 (f := .glo "InvalidStretch") rfl) (c.kit0 14 15 (x := "InvalidStretch") (y := "OtherGoal")) (by decide +kernel)
      (istab_one (c.d.fact 20 (f := .glo "InvalidLoop") rfl) (c.kit0 17 15 (x := "InvalidLoop") (y := "OtherGoal")) (by decide +kernel)
      (istab_one (c.d.fact 28 (f := .glo "InvalidPoint") rfl) (c.kit0 20 15 (x := "InvalidPoint") (y := "OtherGoal")) (by decide +kernel)
      (istab_one (c.d.fact 32 (f := .glo "InvalidRing") rfl) (c.kit0 23 15 (x := "InvalidRing") (y := "OtherGoal")) (by decide +kernel)
      (istab_one (c.d.fact 30 (f := .glo "InvalidRate") rfl) (c.kit0 26 15 (x := "InvalidRate") (y := "OtherGoal")) (by decide +kernel)
      (istab_one (c.d.fact 22 (f := .glo "InvalidMany") rfl) (c.kit0 29 15 (x := "InvalidMany") (y := "OtherGoal")) (by decide +kernel)
      (istab_one (c.d.fact 38 (f := .glo "InvalidTicks") rfl) (c.kit0 32 15 (x := "InvalidTicks") (y := "OtherGoal")) (by decide +kernel)
      (istab_one (c.d.fact 18 (f := .glo "InvalidIndex") rfl) (c.kit0 35 15 (x := "InvalidIndex") (y := "OtherGoal")) (by decide +kernel)
      (istab_one (c.d.fact 34 (f := .glo "InvalidSight") rfl) (c.kit0 38 15 (x := "InvalidSight") (y := "OtherGoal")) (by decide +kernel)
      (istab_one (c.d.fact 16 (f := .glo "InvalidCommand") rfl) (c.kit0 41 15 (x := "InvalidCommand") (y := "OtherGoal")) (by decide +kernel)
      (istab_one (c.d.fact 46 (f := .glo "NotLoose") rfl) (c.kit0 44 15 (x := "NotLoose") (y := "OtherGoal")) (by decide +kernel)
      (istab_one (c.d.fact 44 (f := .glo "NotForced") rfl) (c.kit0 47 15 (x := "NotForced") (y := "OtherGoal")) (by decide +kernel)
      (istab_one (c.d.fact 50 (f := .glo "OtherGoal") rfl) (c.kit1 52 (x := "OtherGoal") (y := "OtherGoal")) (by decide +kernel)
      (istab_one (c.d.fact 48 (f := .glo "NothingToUndo") rfl) (c.kit0 53 16 (x := "NothingToUndo") (y := "OtherGoal")) (by decide +kernel)
      (istab_one (c.d.fact 54 (f := .glo "InvalidText") rfl) (c.kit0 56 16 (x := "InvalidText") (y := "OtherGoal")) (by decide +kernel)
      istab_nil)))))))))))))))))))),
    it_NothingToUndo := (istab_one (c.d.fact 52 (f := .glo "TurnError") rfl) (c.kit0 0 17 (x := "TurnError") (y := "NothingToUndo")) (by decide +kernel)
      (istab_one (c.d.fact 24 (f := .glo "InvalidMoves") rfl) (c.kit0 2 16 (x := "InvalidMoves") (y := "NothingToUndo")) (by decide +kernel)
      (istab_one (c.d.fact 40 (f := .glo "InvalidTurn") rfl) (c.kit0 5 16 (x := "InvalidTurn") (y := "NothingToUndo")) (by decide +kernel)
      (istab_one (c.d.fact 42 (f := .glo "InvalidTurns") rfl) (c.kit0 8 16 (x := "InvalidTurns") (y := "NothingToUndo")) (by decide +kernel)
      (istab_one (c.d.fact 26 (f := .glo "InvalidPlace") rfl) (c.kit0 11 16 (x := "InvalidPlace") (y := "NothingToUndo")) (by decide +kernel)
      (istab_one (c.d.fact 36 (f := .glo "InvalidStretch") rfl) (c.kit0 14 16 (x := "InvalidStretch") (y := "NothingToUndo")) (by decide +kernel)
      (istab_one (c.d.fact 20 (f := .glo "InvalidLoop") rfl) (c.kit0 17 16 (x := "InvalidLoop") (y := "NothingToUndo")) (by decide +kernel)
      (istab_one (c.d.fact 28 (f := .glo "InvalidPoint") rfl) (c.kit0 20 16 (x := "InvalidPoint") (y := "NothingToUndo")) (by decide +kernel)
      (istab_one (c.d.fact 32 (f := .glo "InvalidRing") rfl) (c.kit0 23 16 (x := "InvalidRing") (y := "NothingToUndo")) (by decide +kernel)
      (istab_one (c.d.fact 30 (f := .glo "InvalidRate") rfl) (c.kit0 26 16 (x := "InvalidRate") (y := "NothingToUndo")) (by decide +kernel)
      (istab_one (c.d.fact 22 (f := .glo "InvalidMany") rfl) (c.kit0 29 16 (x := "InvalidMany") (y := "NothingToUndo")) (by decide +kernel)
      (istab_one (c.d.fact 38 (f := .glo "InvalidTicks") rfl) (c.kit0 32 16 (x := "InvalidTicks") (y := "NothingToUndo")) (by decide +kernel)
      (istab_one (c.d.fact 18 (f := .glo "InvalidIndex") rfl) (c.kit0 35 16 (x := "InvalidIndex") (y := "NothingToUndo")) (by decide +kernel)
      (istab_one (c.d.fact 34 (f := .glo "InvalidSight") rfl) (c.kit0 38 16 (x := "InvalidSight") (y := "NothingToUndo")) (by decide +kernel)
      (istab_one (c.d.fact 16 (f := .glo "InvalidCommand") rfl) (c.kit0 41 16 (x := "InvalidCommand") (y := "NothingToUndo")) (by decide +kernel)
      (istab_one (c.d.fact 46 (f := .glo "NotLoose") rfl) (c.kit0 44 16 (x := "NotLoose") (y := "NothingToUndo")) (by decide +kernel)
      (istab_one (c.d.fact 44 (f := .glo "NotForced") rfl) (c.kit0 47 16 (x := "NotForced") (y := "NothingToUndo")) (by decide +kernel)
      (istab_one (c.d.fact 50 (f := .glo "OtherGoal") rfl) (c.kit0 50 16 (x := "OtherGoal") (y := "NothingToUndo")) (by decide +kernel)
      (istab_one (c.d.fact 48 (f := .glo "NothingToUndo") rfl) (c.kit1 55 (x := "NothingToUndo") (y := "NothingToUndo")) (by decide +kernel)
      (istab_one (c.d.fact 54 (f := .glo "InvalidText") rfl) (c.kit0 56 17 (x := "InvalidText") (y := "NothingToUndo")) (by decide +kernel)
      istab_nil)))))))))))))))))))),
    it_InvalidText := (istab_one (c.d.fact 52 (f := .glo "TurnError") rfl) (c.kit0 0 18 (x := "TurnError") (y := "InvalidText")) (by decide +kernel)
      (istab_one (c.d.fact 24 (f := .glo "InvalidMoves") rfl) (c.kit0 2 17 (x := "InvalidMoves") (y := "InvalidText")) (by decide +kernel)
      (istab_one (c.d.fact 40 (f := .glo "InvalidTurn") rfl) (c.kit0 5 17 (x := "InvalidTurn") (y := "InvalidText")) (by decide +kernel)
      (istab_one (c.d.fact 42 (f := .glo "InvalidTurns") rfl) (c.kit0 8 17 (x := "InvalidTurns") (y := "InvalidText")) (by decide +kernel)
      (istab_one (c.d.fact 26 (f := .glo "InvalidPlace") rfl) (c.kit0 11 17 (x := "InvalidPlace") (y := "InvalidText")) (by decide +kernel)
      (istab_one (c.d.fact 36 (f := .glo "InvalidStretch") rfl) (c.kit0 14 17 (x := "InvalidStretch") (y := "InvalidText")) (by decide +kernel)
      (istab_one (c.d.fact 20 (f := .glo "InvalidLoop") rfl) (c.kit0 17 17 (x := "InvalidLoop") (y := "InvalidText")) (by decide +kernel)
      (istab_one (c.d.fact 28 (f := .glo "InvalidPoint") rfl) (c.kit0 20 17 (x := "InvalidPoint") (y := "InvalidText")) (by decide +kernel)
      (istab_one (c.d.fact 32 (f := .glo "InvalidRing") rfl) (c.kit0 23 17 (x := "InvalidRing") (y := "InvalidText")) (by decide +kernel)
      (istab_one (c.d.fact 30 (f := .glo "InvalidRate") rfl) (c.kit0 26 17 (x := "InvalidRate") (y := "InvalidText")) (by decide +kernel)
      (istab_one (c.d.fact 22 (f := .glo "InvalidMany") rfl) (c.kit0 29 17 (x := "InvalidMany") (y := "InvalidText")) (by decide +kernel)
      (istab_one (c.d.fact 38 (f := .glo "InvalidTicks") rfl) (c.kit0 32 17 (x := "InvalidTicks") (y := "InvalidText")) (by decide +kernel)
      (istab_one (c.d.fact 18 (f := .glo "InvalidIndex") rfl) (c.kit0 35 17 (x := "InvalidIndex") (y := "InvalidText")) (by decide +kernel)
      (istab_one (c.d.fact 34 (f := .glo "InvalidSight") rfl) (c.kit0 38 17 (x := "InvalidSight") (y := "InvalidText")) (by decide +kernel)
      (istab_one (c.d.fact 16 (f := .glo "InvalidCommand") rfl) (c.kit0 41 17 (x := "InvalidCommand") (y := "InvalidText")) (by decide +kernel)
      (istab_one (c.d.fact 46 (f := .glo "NotLoose") rfl) (c.kit0 44 17 (x := "NotLoose") (y := "InvalidText")) (by decide +kernel)
      (istab_one (c.d.fact 44 (f := .glo "NotForced") rfl) (c.kit0 47 17 (x := "NotForced") (y := "InvalidText")) (by decide +kernel)
      (istab_one (c.d.fact 50 (f := .glo "OtherGoal") rfl) (c.kit0 50 17 (x := "OtherGoal") (y := "InvalidText")) (by decide +kernel)
      (istab_one (c.d.fact 48 (f := .glo "NothingToUndo") rfl) (c.kit0 53 17 (x := "NothingToUndo") (y := "InvalidText")) (by decide +kernel)
      (istab_one (c.d.fact 54 (f := .glo "InvalidText") rfl) (c.kit1 58 (x := "InvalidText") (y := "InvalidText")) (by decide +kernel)
      istab_nil)))))))))))))))))))),
    itb_ValueError := (istab_one (c.d.fact 52 (f := .glo "TurnError") rfl) (c.blt 7 (f := ("TurnError", "ValueError", true)) rfl) (by decide +kernel)
      (istab_one (c.d.fact 24 (f := .glo "InvalidMoves") rfl) (c.blt 15 (f := ("InvalidMoves", "ValueError", true)) rfl) (by decide +kernel)
      (istab_one (c.d.fact 40 (f := .glo "InvalidTurn") rfl) (c.blt 23 (f := ("InvalidTurn", "ValueError", true)) rfl) (by decide +kernel)
      (istab_one (c.d.fact 42 (f := .glo "InvalidTurns") rfl) (c.blt 31 (f := ("InvalidTurns", "ValueError", true)) rfl) (by decide +kernel)
      (istab_one (c.d.fact 26 (f := .glo "InvalidPlace") rfl) (c.blt 39 (f := ("InvalidPlace", "ValueError", true)) rfl) (by decide +kernel)
      (istab_one (c.d.fact 36 (f := .glo "InvalidStretch") rfl) (c.blt 47 (f := ("InvalidStretch", "ValueError", true)) rfl) (by decide +kernel)
      (istab_one (c.d.fact 20 (f := .glo "InvalidLoop") rfl) (c.blt 55 (f := ("InvalidLoop", "ValueError", true)) rfl) (by decide +kernel)
      (istab_one (c.d.fact 28 (f := .glo "InvalidPoint") rfl) (c.blt 63 (f := ("InvalidPoint", "ValueError", true)) rfl) (by decide +kernel)
      (istab_one (c.d.fact 32 (f := .glo "InvalidRing") rfl) (c.blt 71 (f := ("InvalidRing", "ValueError", true)) rfl) (by decide +kernel)
      (istab_one (c.d.fact 30 (f := .glo "InvalidRate") rfl) (c.blt 79 (f := ("InvalidRate", "ValueError", true)) rfl) (by decide +kernel)
      (istab_one (c.d.fact 22 (f := .glo "InvalidMany") rfl) (c.blt 87 (f := ("InvalidMany", "ValueError", true)) rfl) (by decide +kernel)
      (istab_one (c.d.fact 38 (f := .glo "InvalidTicks") rfl) (c.blt 95 (f := ("InvalidTicks", "ValueError", true)) rfl) (by decide +kernel)
      (istab_one (c.d.fact 18 (f := .glo "InvalidIndex") rfl) (c.blt 103 (f := ("InvalidIndex", "ValueError", true)) rfl) (by decide +kernel)
      (istab_one (c.d.fact 34 (f := .glo "InvalidSight") rfl) (c.blt 111 (f := ("InvalidSight", "ValueError", true)) rfl) (by decide +kernel)
      (istab_one (c.d.fact 16 (f := .glo "InvalidCommand") rfl) (c.blt 119 (f := ("InvalidCommand", "ValueError", true)) rfl) (by decide +kernel)
      (istab_one (c.d.fact 46 (f := .glo "NotLoose") rfl) (c.blt 127 (f := ("NotLoose", "ValueError", true)) rfl) (by decide +kernel)
      (istab_one (c.d.fact 44 (f := .glo "NotForced") rfl) (c.blt 135 (f := ("NotForced", "ValueError", true)) rfl) (by decide +kernel)
      (istab_one (c.d.fact 50 (f := .glo "OtherGoal") rfl) (c.blt 143 (f := ("OtherGoal", "ValueError", true)) rfl) (by decide +kernel)
      (istab_one (c.d.fact 48 (f := .glo "NothingToUndo") rfl) (c.blt 151 (f := ("NothingToUndo", "ValueError", true)) rfl) (by decide +kernel)
      (istab_one (c.d.fact 54 (f := .glo "InvalidText") rfl) (c.blt 159 (f := ("InvalidText", "ValueError", true)) rfl) (by decide +kernel)
      istab_nil)))))))))))))))))))),
    pk_InvalidText := c.pk 0 (x := "InvalidText") (c.d.fact 54 (f := .glo "InvalidText") rfl),
  }⟩
abbrev R : PySem.W.OpenRow := PySem.W.OpenLaw.row PySem.Challenge.rw_sureturns_k06_errors_made
def loose : List Str := (["InvalidCommand", "InvalidIndex", "InvalidLoop", "InvalidMany", "InvalidMoves", "InvalidPlace", "InvalidPoint", "InvalidRate", "InvalidRing", "InvalidSight", "InvalidStretch", "InvalidText", "InvalidTicks", "InvalidTurn", "InvalidTurns", "NotForced", "NotLoose", "NothingToUndo", "OtherGoal", "TurnError", "_law_tap", "_law_draw", "_law_cells", "_law_made", "_law_which", "_law_right"] : List Str)
abbrev hk : PySem.W.Hook := T3.hookX 6 fa fn fp lx
def ob (s : PySem.W.SharedT) : T3.AlW := T3.obsXG 6 fa fn fp lx (HandSHeadRun.getT s)
theorem ob_eq (s : PySem.W.SharedT) : ob s = hk.obs s.abs := T3.obsXG_eq (HandSHeadRun.getT_eq s)
theorem run (w : World) : HandSHeadRun.RunEq R (PySem.W.view R.prog [28]) hk ob 9000 loose w := by
  intro os
  kernel_rfl
theorem walk (H : Says 63 m_law_k06) {P : Program} {w : World} {K : Fg} {h : Heap} {mg : Str → Option Value} {f : Addr} (X : K.In h) (G : h.Ns mainGlobals mg) (hfa : mg ("law" : Str) = some (.ref f)) (c : SaysX fa fn fp lx K) :
    ∃ (fd : FuncData), (∀ (s : Shared) (v : Value), BindsTo s fd ⟨[v], []⟩ [("_law_script", v)]) ∧ ∀ base : Heap, K.In base → base.Ns mainGlobals mg → FnG P w K mg base 5 f fd ["_law_script"] (spFn K mg [] 1 m_law_k06) := by
  obtain ⟨T⟩ := txt X G c
  have e := hfa.symm.trans T.g_law
  cases e
  have b := FunD.bindsA (ps := ["_law_script"]) T.F_law fun _ _ _ _ _ _ us hl => match us, hl with | [_], _ => rfl
  exact ⟨T.d_law, fun s v => b s [v] rfl, fun base _ _ => ok_law T⟩
end G_k06
theorem G_k06.says : T3.Says 63 Pg.m_law_k06 := Pg.law_k06
open PySem PySem.W PySem.Calls PyProof.Rows in
theorem PySem.Challenge.cw_sureturns_k06_errors_made_holds : PySem.Challenge.rw_sureturns_k06_errors_made.Holds := by
  w_on; o_law
  refine HandSHeadRun.head_any (r := OpenLaw.row PySem.Challenge.rw_sureturns_k06_errors_made) (q := view (OpenLaw.row PySem.Challenge.rw_sureturns_k06_errors_made).prog [28]) (H := G_k06.hk) (ob := G_k06.ob) (M := 9000) (loose := G_k06.loose) (d := HandSHeadRun.topDef (OpenLaw.row PySem.Challenge.rw_sureturns_k06_errors_made).prog 28) (kwd := []) G_k06.ob_eq
    (by kernel_rfl) (fun s => by kernel_rfl) G_k06.run (by kernel_rfl) (by kernel_rfl) (by kernel_rfl) (by rfl) (by first | assumption | decide +kernel) (by decide +kernel) ⟨rfl, rfl, rfl, rfl, rfl, by decide +kernel⟩ ?hw ?hc
  case hw => w_witness2
  case hc =>
    refine T3.walk_g (l := PySem.Challenge.rw_sureturns_k06_errors_made) (n := 63) (k := 5) (x := "_law_script") rfl (by decide) (by kernel_rfl) ⟨rfl, by decide, by decide⟩ ?F
    intro w mg fa h Y G hmg0
    obtain ⟨K, KX, c⟩ := Y
    have hmg : mg ("law" : PySem.Str) = some (.ref fa) := by
      have e : (HandSHeadRun.topDef (OpenLaw.row PySem.Challenge.rw_sureturns_k06_errors_made).prog 28).name = ("law" : PySem.Str) := by kernel_rfl
      rw [← e]
      exact hmg0
    obtain ⟨fd, hb, hF⟩ := G_k06.walk G_k06.says (P := (PySem.Challenge.rw_sureturns_k06_errors_made).prog) (w := w) KX G hmg c
    exact ⟨K, fd, _, KX, hb, G_k06.says, hF⟩
