import PyProof.Rows.All
import Wide.All
import OpenK.AllK
import Wide.FinOn
import HandS.ForMost
import HandS.ForExc
import HandS.Walk
import HandS.Zip
import HandS.Conv
import HandS.IsInst
import HandS.SortInts
import HandS.Deep
import HandS.TupAny
import HandS.TupMul
import HandS.Flow
import HandS.HeadHook4
import HandS.Lambda
import HandS.Strs
import KE.KSortedM
import KE.GoesNew
import KE.GoesMore
import KE.GoesEnum
import HandS.ExcIs
import HandS.Style
import HandS.Text
import HandS.HeadWalk
import PySem.Challenge.RW_swapsagree_k01_whole_cycle_sets
import HandS.Head2
set_option Elab.async false
set_option linter.all false
set_option maxRecDepth 100000
set_option maxHeartbeats 2000000
/-! SWBase: data trees over the heap, owned lists, mirrored expressions and statements. -/
namespace SW
open PySem PySem.Spec PyProof.Rows L2
abbrev D := PyData
/-- a slot's abstract state: unknown, data that stands for good, a list of one's own (io: the caller's), a raw value -/
inductive SV where
  | un
  | pl (d : D)
  | own (io : Bool) (ds : List D)
  | raw (v : V)
abbrev En := List SV
structure Ex where
  cls : Str
  fs : List (Str × D) := []
inductive R (α : Type) where
  | ok (a : α) (ρ : En)
  | err (x : Ex) (ρ : En)
  | bad
abbrev AM (α : Type) := En → R α
def R.bind {α β : Type} (r : R α) (f : α → En → R β) : R β := match r with
  | .ok a ρ => f a ρ
  | .err x ρ => .err x ρ
  | .bad => .bad
@[simp] theorem R.bind_ok {α β : Type} {a : α} {ρ : En} {f : α → En → R β} : (R.ok a ρ).bind f = f a ρ := rfl
@[simp] theorem R.bind_err {α β : Type} {x : Ex} {ρ : En} {f : α → En → R β} : (R.err x ρ).bind f = .err x ρ := rfl
@[simp] theorem R.bind_bad {α β : Type} {f : α → En → R β} : (R.bad : R α).bind f = .bad := rfl

/-! ### data in a heap -/
mutual
theorem dp_mono {K : PySem.W.Frag} {H H' : Hp} (e : Same H H') : ∀ (d : PyData) (v : V), Dp K H v d → Dp K H' v d
  | .none, _, h => by cases h; exact .non
  | .bool b, _, h => by cases h; exact .bl b
  | .int i, _, h => by cases h; exact .int i
  | .str x, _, h => by cases h; exact .str x
  | .list ds, _, h => by
    cases h with
    | lst hs ha =>
      refine .lst ?_ (dpAll_mono e ds _ ha)
      rcases hs with (h | ⟨o, h⟩) | h
      · exact .inl (.inl (e _ _ h))
      · exact .inl (.inr ⟨o, e _ _ h⟩)
      · exact .inr h
  | .tuple ds, _, h => by
    cases h with
    | tup hs ha =>
      refine .tup ?_ (dpAll_mono e ds _ ha)
      rcases hs with (h | ⟨o, h⟩) | h
      · exact .inl (.inl (e _ _ h))
      · exact .inl (.inr ⟨o, e _ _ h⟩)
      · exact .inr h
  | .dict _, _, h => by cases h
theorem dpAll_mono {K : PySem.W.Frag} {H H' : Hp} (e : Same H H') : ∀ (ds : List PyData) (vs : List V), DpAll K H vs ds → DpAll K H' vs ds
  | [], _, h => by cases h; exact .nil
  | d :: ds, _, h => by
    cases h with
    | cons h1 h2 => exact .cons (dp_mono e d _ h1) (dpAll_mono e ds _ h2)
end
end SW
namespace L2
open PySem PySem.Spec PyProof.Rows
section
variable {K : PySem.W.Frag} {H : Hp}
theorem DpAll.len : ∀ {vs : List V} {ds : List PyData}, DpAll K H vs ds → vs.length = ds.length
  | _, _, .nil => rfl
  | _, _, .cons _ t => congrArg (· + 1) (DpAll.len t)
theorem DpAll.app : ∀ {vs us : List V} {ds es : List PyData}, DpAll K H vs ds → DpAll K H us es → DpAll K H (vs ++ us) (ds ++ es)
  | _, _, _, _, .nil, h => h
  | _, _, _, _, .cons a t, h => .cons a (DpAll.app t h)
theorem DpAll.get : ∀ {vs : List V} {ds : List PyData} {i : Nat} {d : PyData}, DpAll K H vs ds → ds[i]? = some d → ∃ v, vs[i]? = some v ∧ Dp K H v d
  | _, _, _, _, .nil, e => by simp at e
  | _, _, 0, _, .cons a _, e => by simp at e; subst e; exact ⟨_, rfl, a⟩
  | _, _, i + 1, _, .cons _ t, e => by
    obtain ⟨v, h1, h2⟩ := DpAll.get (i := i) t (by simpa using e)
    exact ⟨v, by simpa using h1, h2⟩
theorem DpAll.take : ∀ {vs : List V} {ds : List PyData} (n : Nat), DpAll K H vs ds → DpAll K H (vs.take n) (ds.take n)
  | _, _, 0, _ => .nil
  | _, _, _ + 1, .nil => .nil
  | _, _, n + 1, .cons a t => .cons a (DpAll.take n t)
theorem DpAll.drop : ∀ {vs : List V} {ds : List PyData} (n : Nat), DpAll K H vs ds → DpAll K H (vs.drop n) (ds.drop n)
  | _, _, 0, h => h
  | _, _, _ + 1, .nil => .nil
  | _, _, n + 1, .cons _ t => DpAll.drop n t
theorem DpAll.set {v : V} {d : PyData} (r : Dp K H v d) : ∀ {vs : List V} {ds : List PyData} (i : Nat), DpAll K H vs ds → DpAll K H (vs.set i v) (ds.set i d)
  | _, _, _, .nil => .nil
  | _, _, 0, .cons _ t => .cons r t
  | _, _, i + 1, .cons a t => .cons a (DpAll.set r i t)
theorem DpAll.rep {vs : List V} {ds : List PyData} (h : DpAll K H vs ds) : ∀ k : Nat, DpAll K H (List.replicate k vs).flatten (List.replicate k ds).flatten
  | 0 => .nil
  | k + 1 => by
    rw [List.replicate_succ, List.replicate_succ, List.flatten_cons, List.flatten_cons]
    exact h.app (DpAll.rep h k)
theorem DpAll.ints : ∀ {vs : List V} {ns : List Int}, DpAll K H vs (ns.map PyData.int) → vs = ns.map V.int
  | _, [], h => by cases h; rfl
  | _, n :: r, h => by
    cases h with
    | cons a t =>
      cases a
      rw [DpAll.ints t]
      rfl
theorem DpAll.of_ints : ∀ ns : List Int, DpAll K H (ns.map V.int) (ns.map PyData.int)
  | [] => .nil
  | n :: r => .cons (.int n) (DpAll.of_ints r)
theorem DpAll.bls : ∀ {vs : List V} {bs : List Bool}, DpAll K H vs (bs.map PyData.bool) → vs = bs.map V.bl
  | _, [], h => by cases h; rfl
  | _, n :: r, h => by
    cases h with
    | cons a t =>
      cases a
      rw [DpAll.bls t]
      rfl
theorem DpAll.nil_iff {vs : List V} {ds : List PyData} (h : DpAll K H vs ds) : vs = [] ↔ ds = [] := by
  cases h with
  | nil => simp
  | cons a t => simp
end
end L2
namespace SW
open PySem PySem.Spec PyProof.Rows L2
section
variable {K : PySem.W.Frag} {H : Hp}
/-- what an operand is: data that stands for good, or a list that is borrowed -/
def DpB (K : PySem.W.Frag) (G H : Hp) (v : V) (d : D) : Prop := Dp K G v d ∨ ∃ a vs ds, v = .ref a ∧ d = .list ds ∧ H a = some (.lst vs) ∧ DpAll K G vs ds
theorem DpB.list {G : Hp} {v : V} {ds : List D} (s : Same G H) (h : DpB K G H v (.list ds)) : ∃ a vs, v = .ref a ∧ SqL K H a vs ∧ DpAll K G vs ds := by
  rcases h with h | ⟨a, vs, ds', rfl, e, h, q⟩
  · cases h with
    | lst hs ha => exact ⟨_, _, rfl, s.seq hs, ha⟩
  · cases e
    exact ⟨a, vs, rfl, .inl (.inl h), q⟩
theorem _root_.L2.Same.seqT {H' : Hp} {a : Addr} {xs : List V} (e : Same H H') (h : SqT K H a xs) : SqT K H' a xs := by
  rcases h with (h | ⟨o, h⟩) | h
  · exact .inl (.inl (e _ _ h))
  · exact .inl (.inr ⟨o, e _ _ h⟩)
  · exact .inr h
theorem DpB.tup {G : Hp} {v : V} {ds : List D} (s : Same G H) (h : DpB K G H v (.tuple ds)) : ∃ a vs, v = .ref a ∧ SqT K H a vs ∧ DpAll K G vs ds := by
  rcases h with h | ⟨a, vs, ds', rfl, e, h, q⟩
  · cases h with
    | tup hs ha => exact ⟨_, _, rfl, Same.seqT s hs, ha⟩
  · cases e
theorem DpB.deep {G : Hp} {v : V} {d : D} (s : Same G H) (h : DpB K G H v d) : Dp K H v d := by
  rcases h with h | ⟨a, vs, ds, rfl, rfl, h, q⟩
  · exact dp_mono s _ _ h
  · exact .lst (.inl (.inl h)) (dpAll_mono s _ _ q)
theorem DpB.int {G : Hp} {v : V} {i : Int} (h : DpB K G H v (.int i)) : v = .int i := by
  rcases h with h | ⟨a, vs, ds, _, e, _⟩
  · cases h; rfl
  · cases e
theorem DpB.bool {G : Hp} {v : V} {i : Bool} (h : DpB K G H v (.bool i)) : v = .bl i := by
  rcases h with h | ⟨a, vs, ds, _, e, _⟩
  · cases h; rfl
  · cases e
theorem DpB.str {G : Hp} {v : V} {i : Str} (h : DpB K G H v (.str i)) : v = .str i := by
  rcases h with h | ⟨a, vs, ds, _, e, _⟩
  · cases h; rfl
  · cases e
theorem DpB.none {G : Hp} {v : V} (h : DpB K G H v .none) : v = .non := by
  rcases h with h | ⟨a, vs, ds, _, e, _⟩
  · cases h; rfl
  · cases e
inductive DpBs (K : PySem.W.Frag) (G H : Hp) : List V → List D → Prop
  | nil : DpBs K G H [] []
  | cons {v : V} {d : D} {vs : List V} {ds : List D} : DpB K G H v d → DpBs K G H vs ds → DpBs K G H (v :: vs) (d :: ds)
end

/-! ### the tables of code objects (LamX): which, by a class -/
class Tab where
  T : List (Addr × Str)
def notTbl (o : HO) : Prop := ∀ ps, o ≠ .tbl ps
/-- what may stand for good: no table, and a tuple only with its object in sight, which has no dict -/
def goodO : HO → Prop
  | .tbl _ => False
  | .tup _ => False
  | .frz ob (.tup _) => ob.dict = none
  | _ => True
theorem goodO.nt {o : HO} (h : goodO o) : notTbl o := fun ps e => by subst e; exact h
structure TabOk [Tab] (H : Hp) : Prop where
  ok : LamX.Tabs Tab.T H
theorem nt_lst {xs : List V} : notTbl (.lst xs) := fun _ z => nomatch z
theorem TabOk.upd [Tab] {H : Hp} {p : Addr} {o : HO} (t : TabOk H) (h : H p = none) (no : notTbl o) : TabOk (upd H p o) :=
  ⟨t.ok.ext fun b x e => by
    rw [upd_ne (ne_of_none e h)]
    exact e⟩
theorem TabOk.lst [Tab] {H : Hp} {p : Addr} {xs ys : List V} (t : TabOk H) (h : H p = some (.lst xs)) : TabOk (L2.upd H p (.lst ys)) := by
  refine ⟨fun q hq => ?_⟩
  obtain ⟨ps, h1, h2, h3⟩ := t.ok q hq
  refine ⟨ps, by rw [upd_ne fun z => by rw [z, h] at h1; cases h1]; exact h1, h2, fun pos cv hc => ?_⟩
  obtain ⟨c, e1, e2⟩ := h3 pos cv hc
  refine ⟨c, e1, ?_⟩
  rw [upd_ne fun z => by rw [z, h] at e2; unfold LamX.CodeO at e2; cases e2]
  exact e2
variable [Tab]
/-! ### the state -/
def Owned (ρ : En) (σ : L2.St) (a : Addr) : Prop := ∃ (i : Nat) (io : Bool) (ds : List D), ρ[i]? = some (.own io ds) ∧ σ[i]? = some (some (.ref a))
structure ER (K : PySem.W.Frag) (ρ : En) (σ : L2.St) (H G : Hp) : Prop where
  len : ρ.length = σ.length
  sub : Same G H
  pl : ∀ (i : Nat) d, ρ[i]? = some (.pl d) → ∃ v, σ[i]? = some (some v) ∧ Dp K G v d
  own : ∀ (i : Nat) io ds, ρ[i]? = some (.own io ds) → ∃ a vs, σ[i]? = some (some (.ref a)) ∧ G a = none ∧ H a = some (.lst vs) ∧ DpAll K G vs ds
  inj : ∀ (i j : Nat) io ds io' ds' a, ρ[i]? = some (.own io ds) → ρ[j]? = some (.own io' ds') → σ[i]? = some (some (.ref a)) → σ[j]? = some (some (.ref a)) → i = j
  raw : ∀ (i : Nat) v, ρ[i]? = some (.raw v) → σ[i]? = some (some v)
  tabs : TabOk H
  ng : ∀ b o, G b = some o → goodO o
structure Step (ρ : En) (σ : L2.St) (H G : Hp) (ρ' : En) (σ' : L2.St) (H' G' : Hp) : Prop where
  sg : Same G G'
  keep : ∀ b o, H b = some o → notTbl o → ¬ Owned ρ σ b → H' b = some o ∧ G' b = G b
  there : ∀ b, H' b = none → H b = none
  osub : ∀ b, Owned ρ' σ' b → Owned ρ σ b ∨ H b = none
  io : ∀ (i : Nat) ds', ρ'[i]? = some (.own true ds') → ∃ ds, ρ[i]? = some (.own true ds) ∧ σ'[i]? = σ[i]?
  ln : ρ'.length = ρ.length
theorem Step.refl {ρ : En} {σ : L2.St} {H G : Hp} : Step ρ σ H G ρ σ H G := ⟨Same.refl _, fun _ _ h _ _ => ⟨h, rfl⟩, fun _ h => h, fun _ h => .inl h, fun _ ds h => ⟨ds, h, rfl⟩, rfl⟩
theorem Step.trans {ρ ρ1 ρ2 : En} {σ σ1 σ2 : L2.St} {H G H1 G1 H2 G2 : Hp} (a : Step ρ σ H G ρ1 σ1 H1 G1) (b : Step ρ1 σ1 H1 G1 ρ2 σ2 H2 G2) : Step ρ σ H G ρ2 σ2 H2 G2 where
  sg := a.sg.trans b.sg
  keep := fun c o h nt n => by
    obtain ⟨h1, g1⟩ := a.keep c o h nt n
    have n1 : ¬ Owned ρ1 σ1 c := fun z => by
      rcases a.osub c z with z | z
      · exact n z
      · rw [h] at z; cases z
    obtain ⟨h2, g2⟩ := b.keep c o h1 nt n1
    exact ⟨h2, g2.trans g1⟩
  there := fun c h => a.there c (b.there c h)
  osub := fun c z => by
    rcases b.osub c z with z | z
    · exact a.osub c z
    · exact .inr (a.there c z)
  io := fun i ds' h => by
    obtain ⟨ds1, h1, e1⟩ := b.io i ds' h
    obtain ⟨ds, h2, e2⟩ := a.io i ds1 h1
    exact ⟨ds, h2, e1.trans e2⟩
  ln := b.ln.trans a.ln
theorem ng_upd {G : Hp} {p : Addr} {o : HO} (h : ∀ b o, G b = some o → goodO o) (no : goodO o) : ∀ b u, upd G p o b = some u → goodO u := fun b u e => by
  by_cases hb : b = p
  · rw [hb, upd_same] at e
    rw [← Option.some.inj e]
    exact no
  · rw [upd_ne hb] at e
    exact h b u e
/-- the object at p is new and stands for good -/
theorem same_new {H : Hp} {p : Addr} {o : HO} (h : H p = none) : Same H (upd H p o) := fun b x e => by
  rw [upd_ne (ne_of_none e h)]
  exact e
theorem sub_none {G H : Hp} {p : Addr} (s : Same G H) (h : H p = none) : G p = none := by
  cases e : G p with
  | none => rfl
  | some o => rw [s p o e] at h; cases h
section
variable {K : PySem.W.Frag} {ρ : En} {σ : L2.St} {H G : Hp} {p : Addr} {o : HO}
theorem ER.owned (er : ER K ρ σ H G) {a : Addr} (h : Owned ρ σ a) : (∃ vs, H a = some (.lst vs)) ∧ G a = none := by
  obtain ⟨i, io, ds, h1, h2⟩ := h
  obtain ⟨a', vs, h3, h4, h5, _⟩ := er.own i io ds h1
  rw [h2] at h3
  cases h3
  exact ⟨⟨vs, h5⟩, h4⟩
theorem ER.new (er : ER K ρ σ H G) (h : H p = none) (nt : goodO o := by exact trivial) : ER K ρ σ (upd H p o) (upd G p o) := by
  have gp := sub_none er.sub h
  refine ⟨er.len, fun b x e => ?_, fun i d e => ?_, fun i io ds e => ?_, er.inj, er.raw, er.tabs.upd h nt.nt, ng_upd er.ng nt⟩
  · by_cases hb : b = p
    · subst hb; rw [upd_same] at e ⊢; exact e
    · rw [upd_ne hb] at e ⊢; exact er.sub _ _ e
  · obtain ⟨v, h1, h2⟩ := er.pl i d e
    exact ⟨v, h1, dp_mono (same_new gp) _ _ h2⟩
  · obtain ⟨a, vs, h1, h2, h3, h4⟩ := er.own i io ds e
    have ne : a ≠ p := ne_of_none h3 h
    exact ⟨a, vs, h1, by rw [upd_ne ne]; exact h2, by rw [upd_ne ne]; exact h3, dpAll_mono (same_new gp) _ _ h4⟩
theorem ER.stepNew (er : ER K ρ σ H G) (h : H p = none) : Step ρ σ H G ρ σ (upd H p o) (upd G p o) := by
  refine ⟨same_new (sub_none er.sub h), fun b x e _ _ => ?_, fun b e => ?_, fun b z => .inl z, fun i ds e => ⟨ds, e, rfl⟩, rfl⟩
  · rw [upd_ne (ne_of_none e h), upd_ne (ne_of_none e h)]
    exact ⟨e, rfl⟩
  · by_cases hb : b = p
    · rw [hb]; exact h
    · rw [upd_ne hb] at e; exact e
/-- .. new, but nobody's yet -/
theorem ER.lay (er : ER K ρ σ H G) (h : H p = none) (nt : notTbl o := by exact fun _ z => nomatch z) : ER K ρ σ (upd H p o) G := by
  refine ⟨er.len, er.sub.trans (same_new h), er.pl, fun i io ds e => ?_, er.inj, er.raw, er.tabs.upd h nt, er.ng⟩
  obtain ⟨a, vs, h1, h2, h3, h4⟩ := er.own i io ds e
  exact ⟨a, vs, h1, h2, by rw [upd_ne (ne_of_none h3 h)]; exact h3, h4⟩
theorem ER.stepLay (er : ER K ρ σ H G) (h : H p = none) : Step ρ σ H G ρ σ (upd H p o) G := by
  refine ⟨Same.refl _, fun b x e _ _ => ?_, fun b e => ?_, fun b z => .inl z, fun i ds e => ⟨ds, e, rfl⟩, rfl⟩
  · rw [upd_ne (ne_of_none e h)]
    exact ⟨e, rfl⟩
  · by_cases hb : b = p
    · rw [hb]; exact h
    · rw [upd_ne hb] at e; exact e
end

/-! ### what is raised -/
structure ExR (K : PySem.W.Frag) (x : Ex) (c : Value) (dx : Option Addr) (H : Hp) : Prop where
  cls : c = .ref (He.ga K x.cls)
  none : x.fs = [] → dx = none
  some : x.fs ≠ [] → ∃ a fv, dx = some a ∧ H a = some (.xd fv) ∧ fv.map (·.1) = x.fs.map (·.1) ∧ DpAll K H (fv.map (·.2)) (x.fs.map (·.2))

/-! ### readings -/
def Out {α : Type} (K : PySem.W.Frag) (E : WX) (r : R α) (ρ : En) (σ : L2.St) (H G : Hp) (Z : α → En → Hp → Hp → Prop) : Prop := match r with
  | .ok a ρ' => ∀ H' G', ER K ρ' σ H' G' → Step ρ σ H G ρ' σ H' G' → Z a ρ' H' G'
  | .err x ρ' => ∀ c dx H' G', ER K ρ' σ H' G' → Step ρ σ H G ρ' σ H' G' → ExR K x c dx H' → E c dx σ H'
  | .bad => False
theorem Out.shift {α : Type} {K : PySem.W.Frag} {E : WX} {r : R α} {ρ ρ1 : En} {σ : L2.St} {H G H1 G1 : Hp} {Z : α → En → Hp → Hp → Prop} (h : Out K E r ρ σ H G Z) (s : Step ρ σ H G ρ1 σ H1 G1) : Out K E r ρ1 σ H1 G1 Z := by
  cases r with
  | ok a ρ' => exact fun H' G' e t => h H' G' e (s.trans t)
  | err x ρ' => exact fun c dx H' G' e t => h c dx H' G' e (s.trans t)
  | bad => exact h
theorem Out.imp {α : Type} {K : PySem.W.Frag} {E : WX} {r : R α} {ρ : En} {σ : L2.St} {H G : Hp} {Z Z' : α → En → Hp → Hp → Prop} (h : Out K E r ρ σ H G Z) (f : ∀ a ρ' H' G', ER K ρ' σ H' G' → Step ρ σ H G ρ' σ H' G' → Z a ρ' H' G' → Z' a ρ' H' G') : Out K E r ρ σ H G Z' := by
  cases r with
  | ok a ρ' => exact fun H' G' e t => f _ _ _ _ e t (h H' G' e t)
  | err x ρ' => exact h
  | bad => exact h
/-- the first part, then the rest -/
theorem Out.split {α β : Type} {K : PySem.W.Frag} {E : WX} {r : R α} {f : α → En → R β} {ρ : En} {σ : L2.St} {H G : Hp} {Z : β → En → Hp → Hp → Prop} (h : Out K E (r.bind f) ρ σ H G Z) :
    Out K E r ρ σ H G (fun a ρ1 H1 G1 => Out K E (f a ρ1) ρ1 σ H1 G1 Z) := by
  cases r with
  | ok a ρ1 => exact fun H1 G1 e t => Out.shift h t
  | err x ρ1 => exact h
  | bad => exact h
abbrev AE := AM D
def ZE (K : PySem.W.Frag) (Q : VK) : D → En → Hp → Hp → Prop := fun d _ H' G' => ∀ v, Dp K G' v d → Q v H'
def tX (K : PySem.W.Frag) (E : WX) (f : AE) : TE := fun σ H Q => ∃ ρ G, ER K ρ σ H G ∧ Out K E (f ρ) ρ σ H G (ZE K Q)
/-- an expression whose value is a list just made, nobody's yet -/
def ZF (K : PySem.W.Frag) (σ : L2.St) (H0 : Hp) (Q : VK) : List D → En → Hp → Hp → Prop := fun ds ρ' H' G' => ∀ a vs, H0 a = none → G' a = none → H' a = some (.lst vs) → ¬ Owned ρ' σ a → DpAll K G' vs ds → Q (.ref a) H'
def tF (K : PySem.W.Frag) (E : WX) (f : AM (List D)) : TE := fun σ H Q => ∃ ρ G, ER K ρ σ H G ∧ Out K E (f ρ) ρ σ H G (ZF K σ H Q)
def tXT (K : PySem.W.Frag) (E : WX) (f : AM Bool) : TT := fun σ H Q => ∃ ρ G, ER K ρ σ H G ∧ Out K E (f ρ) ρ σ H G (fun b _ H' _ => Q b H')
theorem _root_.L2.PE.imp {X : Cx} {e : Expr} {t t' : TE} (h : PE X e t) (i : ∀ σ H Q, t' σ H Q → t σ H Q) : PE X e t' := ⟨fun pins s σ H Q I hw => h.run pins s σ H Q I (i σ H Q hw)⟩
theorem _root_.L2.PT.imp {X : Cx} {e : Expr} {t t' : TT} (h : PT X e t) (i : ∀ σ H Q, t' σ H Q → t σ H Q) : PT X e t' := ⟨fun pins s σ H Q I hw => h.run pins s σ H Q I (i σ H Q hw)⟩
theorem _root_.L2.PS.imp {X : Cx} {e : Stmt} {t t' : TS} (h : PS X e t) (i : ∀ D σ H, t' D σ H → t D σ H) : PS X e t' := ⟨fun pins s σ H D I hw => h.run pins s σ H D I (i D σ H hw)⟩
theorem _root_.L2.PSs.imp {X : Cx} {e : List Stmt} {t t' : TS} (h : PSs X e t) (i : ∀ D σ H, t' D σ H → t D σ H) : PSs X e t' := ⟨fun pins s σ H D I hw => h.run pins s σ H D I (i D σ H hw)⟩
theorem _root_.L2.PA.imp {X : Cx} {e : List Expr} {t t' : TA} (h : PA X e t) (i : ∀ σ H Q, t' σ H Q → t σ H Q) : PA X e t' := ⟨fun pos pins s σ H Q I hw => h.run pos pins s σ H Q I (i σ H Q hw)⟩
abbrev EV (X : Cx) (E : WX) (e : Expr) (f : AE) : Prop := PE X e (tX X.K E f)
abbrev EF (X : Cx) (E : WX) (e : Expr) (f : AM (List D)) : Prop := PE X e (tF X.K E f)
abbrev ET (X : Cx) (E : WX) (e : Expr) (f : AM Bool) : Prop := PT X e (tXT X.K E f)

/-! ### freezing an owned list, names, constants -/
def getSlot (ρ : En) (i : Nat) : SV := match ρ[i]? with
  | some v => v
  | none => .un
def setSlot (ρ : En) (i : Nat) (v : SV) : En := ρ.set i v
theorem getSlot_pl {ρ : En} {i : Nat} {d : D} (h : getSlot ρ i = .pl d) : ρ[i]? = some (.pl d) := by
  unfold getSlot at h
  split at h
  · rename_i v e; rw [e, h]
  · cases h
theorem getSlot_own {ρ : En} {i : Nat} {io : Bool} {ds : List D} (h : getSlot ρ i = .own io ds) : ρ[i]? = some (.own io ds) := by
  unfold getSlot at h
  split at h
  · rename_i v e; rw [e, h]
  · cases h
theorem getSlot_raw {ρ : En} {i : Nat} {v : V} (h : getSlot ρ i = .raw v) : ρ[i]? = some (.raw v) := by
  unfold getSlot at h
  split at h
  · rename_i v e; rw [e, h]
  · cases h
theorem set_get {ρ : En} {i j : Nat} {v w : SV} (h : (ρ.set i v)[j]? = some w) : (j = i ∧ w = v ∧ i < ρ.length) ∨ (j ≠ i ∧ ρ[j]? = some w) := by
  by_cases e : j = i
  · subst e
    by_cases hl : j < ρ.length
    · rw [List.getElem?_set_self hl] at h
      exact .inl ⟨rfl, (Option.some.inj h).symm, hl⟩
    · rw [List.getElem?_eq_none (by simpa using hl)] at h
      cases h
  · rw [List.getElem?_set_ne (Ne.symm e)] at h
    exact .inr ⟨e, h⟩
section
variable {K : PySem.W.Frag} {ρ : En} {σ : L2.St} {H G : Hp}
/-- an owned list stands for good from now on -/
theorem ER.freeze (er : ER K ρ σ H G) {i : Nat} {io : Bool} {ds : List D} (h : ρ[i]? = some (.own io ds)) :
    ∃ (a : Addr) (G' : Hp), σ[i]? = some (some (.ref a)) ∧ ER K (ρ.set i (.pl (.list ds))) σ H G' ∧ Step ρ σ H G (ρ.set i (.pl (.list ds))) σ H G' ∧ Dp K G' (.ref a) (.list ds) := by
  obtain ⟨a, vs, h1, h2, h3, h4⟩ := er.own i io ds h
  have sg : Same G (upd G a (.lst vs)) := same_new h2
  have dp : Dp K (upd G a (.lst vs)) (.ref a) (.list ds) := .lst (.inl (.inl upd_same)) (dpAll_mono sg _ _ h4)
  refine ⟨a, upd G a (.lst vs), h1, ⟨by simpa using er.len, fun b x e => ?_, fun j d e => ?_, fun j jo es e => ?_, fun j k jo es ko fs b e1 e2 q1 q2 => ?_, fun j v e => ?_, er.tabs, ng_upd er.ng trivial⟩, ⟨sg, fun b o e _ n => ⟨e, ?_⟩, fun _ e => e, fun b z => .inl ?_, fun j es e => ?_, by simp⟩, dp⟩
  · by_cases hb : b = a
    · subst hb; rw [upd_same] at e; cases e; exact h3
    · rw [upd_ne hb] at e; exact er.sub _ _ e
  · rcases set_get e with ⟨rfl, e, _⟩ | ⟨_, e⟩
    · cases e; exact ⟨_, h1, dp⟩
    · obtain ⟨v, q1, q2⟩ := er.pl j d e
      exact ⟨v, q1, dp_mono sg _ _ q2⟩
  · rcases set_get e with ⟨rfl, e, _⟩ | ⟨hj, e⟩
    · cases e
    · obtain ⟨b, ws, q1, q2, q3, q4⟩ := er.own j jo es e
      have ne : b ≠ a := fun z => hj (er.inj _ _ _ _ _ _ b e h q1 (by rw [z]; exact h1))
      exact ⟨b, ws, q1, by rw [upd_ne ne]; exact q2, q3, dpAll_mono sg _ _ q4⟩
  · rcases set_get e1 with ⟨rfl, e1, _⟩ | ⟨_, e1⟩
    · cases e1
    · rcases set_get e2 with ⟨rfl, e2, _⟩ | ⟨_, e2⟩
      · cases e2
      · exact er.inj _ _ _ _ _ _ b e1 e2 q1 q2
  · rcases set_get e with ⟨rfl, e, _⟩ | ⟨_, e⟩
    · cases e
    · exact er.raw j v e
  · refine upd_ne fun z => n ?_
    rw [z]
    exact ⟨i, io, ds, h, h1⟩
  · obtain ⟨j, jo, es, e, q⟩ := z
    rcases set_get e with ⟨rfl, e, _⟩ | ⟨_, e⟩
    · cases e
    · exact ⟨j, jo, es, e, q⟩
  · rcases set_get e with ⟨rfl, e, _⟩ | ⟨_, e⟩
    · cases e
    · exact ⟨es, e, rfl⟩
end
/-- a name read for its value: a list of one's own is given away -/
def eV (i : Nat) : AE := fun ρ => match getSlot ρ i with
  | .pl d => .ok d ρ
  | .own _ ds => .ok (.list ds) (setSlot ρ i (.pl (.list ds)))
  | _ => .bad
def eC (d : D) : AE := fun ρ => .ok d ρ
section
variable {X : Cx} {E : WX} {pos : Pos}
theorem v_name {i : Nat} {x : Str} (hN : X.N[i]? = some x) (hv : Vis X.env.scope x) (hd : (x == ("__debug__" : Str)) = false := by decide) (hcd : (x == ("__classdict__" : Str)) = false := by decide) : EV X E (.Name x pos) (eV i) := by
  refine PE.imp (pe_var hN hv hd hcd) fun σ H Q ⟨ρ, G, er, h⟩ => ?_
  unfold eV at h
  split at h
  · rename_i d e
    obtain ⟨v, h1, h2⟩ := er.pl i d (getSlot_pl e)
    exact ⟨v, h1, h H G er .refl v h2⟩
  · rename_i io ds e
    obtain ⟨a, G', h1, er', st, dp⟩ := er.freeze (getSlot_own e)
    exact ⟨_, h1, h H G' er' st _ dp⟩
  · exact h.elim
theorem v_int {i : Int} {j} : EV X E (.Constant (.int i) j pos) (eC (.int i)) := PE.imp pe_int fun σ H Q ⟨ρ, G, er, h⟩ => h H G er .refl _ (.int i)
theorem v_bl {b : Bool} {j} : EV X E (.Constant (.bool b) j pos) (eC (.bool b)) := PE.imp pe_bl fun σ H Q ⟨ρ, G, er, h⟩ => h H G er .refl _ (.bl b)
theorem v_non {j} : EV X E (.Constant .none j pos) (eC .none) := PE.imp pe_non fun σ H Q ⟨ρ, G, er, h⟩ => h H G er .refl _ .non
theorem v_str {x : Str} {j} : EV X E (.Constant (.str x) j pos) (eC (.str x)) := PE.imp pe_str fun σ H Q ⟨ρ, G, er, h⟩ => h H G er .refl _ (.str x)
/-- a module's number or text -/
theorem v_gint {x : Str} {i : Int} (hg : Gl X x) (hm : ∃ t, X.mg x = some (.int i t)) (hd : (x == ("__debug__" : Str)) = false := by decide) : EV X E (.Name x pos) (eC (.int i)) := by
  obtain ⟨t, hm⟩ := hm
  exact PE.imp (pe_glob (v := .int i) hg hm ⟨t, rfl⟩ hd) fun σ H Q ⟨ρ, G, er, h⟩ => h H G er .refl _ (.int i)
theorem v_gstr {x : Str} {i : Str} (hg : Gl X x) (hm : ∃ t, X.mg x = some (.str i t)) (hd : (x == ("__debug__" : Str)) = false := by decide) : EV X E (.Name x pos) (eC (.str i)) := by
  obtain ⟨t, hm⟩ := hm
  exact PE.imp (pe_glob (v := .str i) hg hm ⟨t, rfl⟩ hd) fun σ H Q ⟨ρ, G, er, h⟩ => h H G er .refl _ (.str i)
end
end SW
set_option Elab.async false
set_option linter.all false
set_option maxRecDepth 100000
set_option maxHeartbeats 2000000
/-! SWTup: tuples made, with their objects in sight (no dict on them). -/
namespace L2
open PySem PySem.Spec PyProof.Rows
section
variable {X : Cx} {es : List Expr} {t : TA} {pos : Pos} {pins : List (Addr × Obj)} {σ : St} {H : Hp} {s : Shared}
/-- a tuple just made -/
def NewT (ys : List V) (H : Hp) (Q : VK) : Prop := ∀ p ob, ob.dict = none → H p = none → Q (.ref p) (upd H p (.frz ob (.tup ys)))
theorem newT_push {ys : List V} {its : List Value} {Q : VK} (I : Inv X pins σ H s) (r : Vals ys its) (hz : ys.length ≤ sizeLine) (q : NewT ys H Q) :
    EP X pins σ Q (.ref s.heap.objs.size) { s with heap := s.heap.push { cls := .type "tuple", data := .seq its.toArray } } := by
  have g : (s.heap.push { cls := .type "tuple", data := .seq its.toArray }).get? s.heap.objs.size = some { cls := .type "tuple", data := .seq its.toArray } := Heap.get?_push_size _ rfl
  exact ⟨.ref s.heap.objs.size, _, I.laid (t' := s.toks) (o := .frz { cls := .type "tuple", data := .seq its.toArray } (.tup ys)) (fun b ob q => Heap.get?_push_of_some _ q) (Nat.le_refl _) ⟨g, hz, its, r, ⟨_, g, rfl, _, rfl⟩⟩, rfl, q _ _ rfl (I.hok.fresh (Nat.le_refl _))⟩
def tTupF (t : TA) : TE := fun σ H Q => t σ H fun xs H1 => xs.length ≤ sizeLine ∧ NewT xs H1 Q
theorem pe_tupF {x1} (h : PA X es t) : PE X (.Tuple es x1 pos) (tTupF t) := by
  refine ⟨fun pins s σ H Q I hq => ?_⟩
  refine wpAny_Tuple_spliced (thn (h.run pos pins s σ H _ I hq) fun us s1 ⟨xs, H1, I1, r, z, q⟩ => ⟨by rw [← r.length]; exact z, ?_⟩)
  exact newT_push I1 r z q
variable {e : Expr} {te : St → Hp → (Int → Int → Hp → Prop) → Prop}
def tTupRgF (te : St → Hp → (Int → Int → Hp → Prop) → Prop) : TE := fun σ H Q => te σ H fun a b H1 => RgOk a b ∧ NewT (rgV a b) H1 Q
theorem pe_tupRgF {p pos : Pos} (hc : X.calm = true) (hg : Gl X "tuple") (hm : X.mg "tuple" = none) (he : PRg X e te) (na : starEach [e] X.env = (false, eval e X.env) :: starEach [] X.env := by rfl) : PE X (.Call (.Name "tuple" p) [e] [] pos) (tTupRgF te) := by
  refine ⟨fun pins s σ H Q I h => ?_⟩
  refine Call_ (ld_blt I hg hm boot_tuple (PyProof.Rows.callWith_type1 (args_cons (thn (he pins s σ H _ I h) fun x s1 ⟨r, a, b, t, u, v, H1, ex, hr, I1, ok, q⟩ => args_nil ?_) na) na))
  subst ex
  obtain ⟨b1, b2, b3, b4, b5⟩ := ok
  refine call_tuple_range (n := (b - a).toNat) (I1.ok.hd hc) hr (small_one b1 b2 b3 b4) (rangeSize_nat a b) b5 fun h' tk acc hk hi => ?_
  have I2 : Inv X pins σ H1 { s1 with heap := h', toks := tk } := I1.kept hk
  have w := newT_push (its := acc.toList) I2 (vals_rg hi) (by rw [rgV_length, sizeLine_eq]; omega) q
  rw [Array.toArray_toList] at w
  exact w
def rCatF (K : PySem.W.Frag) : R2 := fun x y H Q => ∃ a b xs ys, x = .ref a ∧ y = .ref b ∧ SqT K H a xs ∧ SqT K H b ys ∧ xs.length + ys.length ≤ sizeLine ∧
  (xs = [] → Q (.ref b) H) ∧ (xs ≠ [] → ys = [] → Q (.ref a) H) ∧ (xs ≠ [] → ys ≠ [] → NewT (xs ++ ys) H Q)
theorem op_catF : OpR X (binaryOp .Add) (rCatF X.K) := by
  intro pins s σ H x y v u Q I rx ry h
  obtain ⟨a, b, xs, ys, rfl, rfl, ha, hb, hz, q0, q1, q2⟩ := h
  by_cases hx : xs = []
  · exact op_catA pins s σ H _ _ v u Q I rx ry ⟨a, b, xs, ys, rfl, rfl, ha, hb, hz, q0, q1, fun z => (z hx).elim⟩
  · cases rx
    cases ry
    obtain ⟨its, r1, p1, _⟩ := I.tuple ha
    obtain ⟨its2, r2, p2, _⟩ := I.tuple hb
    refine HT.cat_tup p1 p2 (fun z => hx (r1.nil_iff.mp z)) (fun z => ⟨.ref a, H, I, rfl, q1 hx (r2.nil_iff.mp z)⟩) (fun z => ?_) (by rw [← r1.length, ← r2.length]; exact hz)
    exact newT_push I (r1.append r2) (by rw [List.length_append]; exact hz) (q2 hx fun w => z (r2.nil_iff.mpr w))
def rSlF (K : PySem.W.Frag) : V → Option Int → Option Int → Hp → VK → Prop := fun x lo hi H Q => ∃ a xs, x = .ref a ∧ SqT K H a xs ∧
  (HT.sIx xs.length 0 lo = 0 ∧ HT.sIx xs.length xs.length hi = xs.length → Q (.ref a) H) ∧ (¬ (HT.sIx xs.length 0 lo = 0 ∧ HT.sIx xs.length xs.length hi = xs.length) → NewT (cutV xs lo hi) H Q)
theorem sl_tupF : SlR X (rSlF X.K) := by
  intro pins s σ H x v vl vu lo hi sl Q I rx hs pl pu h
  obtain ⟨a, xs, rfl, hx, q1, q2⟩ := h
  by_cases hw : HT.sIx xs.length 0 lo = 0 ∧ HT.sIx xs.length xs.length hi = xs.length
  · exact sl_tupA pins s σ H _ v vl vu lo hi sl Q I rx hs pl pu ⟨a, xs, rfl, hx, q1, fun z => (z hw).elim⟩
  · cases rx
    obtain ⟨its, r, ht, hz⟩ := I.tuple hx
    have hlen : its.toArray.size = xs.length := by rw [List.size_toArray]; exact r.length.symm
    refine ⟨"tuple", _, PyProof.Rows.slot_tuple_getitem.lookup, ht.typeIs, ?_⟩
    refine HT.getItem_tuple_cut ht hs pl pu (by rw [hlen]; exact hw) ?_ (by rw [hlen]; exact hz)
    rw [hlen]
    exact newT_push I ((r.drop (HT.sIx xs.length 0 lo)).take (HT.sIx xs.length xs.length hi - HT.sIx xs.length 0 lo)) (Nat.le_trans (cutV_length xs lo hi) hz) (q2 hw)
theorem call_tupleF : CallR X (.type "tuple") (fun xs H Q => ∃ p ys, xs = [.ref p] ∧ ((SqL X.K H p ys ∧ NewT ys H Q) ∨ (SqT X.K H p ys ∧ Q (.ref p) H))) := by
  intro pins s σ H xs us Q I r h
  obtain ⟨p, ys, rfl, h⟩ := h
  obtain ⟨u, rfl, rx⟩ := vals1 r
  cases rx
  rcases h with ⟨hq, q⟩ | ⟨hq, q⟩
  · obtain ⟨its, r', pl, hz⟩ := I.list hq
    have hlen := r'.length
    refine call_tuple_list pl.isList (fun h' kp => ?_) (by simp only [List.size_toArray] <;> omega)
    have I1 : Inv X pins σ H { s with heap := h' } := I.kept (t' := s.toks) kp
    exact newT_push I1 r' hz q
  · obtain ⟨its, r', pl, hz⟩ := I.tuple hq
    exact call_tuple_same pl ⟨.ref p, H, I, rfl, q⟩
def rRepF (K : PySem.W.Frag) : R2 := fun x y H Q => ∃ l k xs, x = .ref l ∧ y = .int k ∧ SqT K H l xs ∧ xs ≠ [] ∧ 2 ≤ k ∧ k ≤ 1000 ∧ xs.length ≤ 1000 ∧ NewT (List.replicate k.toNat xs).flatten H Q
theorem op_repF : OpR X (binaryOp .Mult) (rRepF X.K) := by
  intro pins s σ H x y v u Q I rx ry h
  obtain ⟨l, k, xs, rfl, rfl, hT, hne, h1, h2, hz, q⟩ := h
  cases rx
  obtain ⟨t, rfl⟩ := ry
  obtain ⟨its, r, ⟨⟨cls, dd, data, sl⟩, ho, hc, n, hd⟩, hs⟩ := I.tuple hT
  simp only at hc hd
  subst hc hd
  have hle : its.length = xs.length := r.length.symm
  have hn : its ≠ [] := fun e => hne (by
    rw [e] at hle
    exact List.eq_nil_of_length_eq_zero hle.symm)
  have hi : its.toArray.isEmpty = false := by
    cases its with
    | nil => exact absurd rfl hn
    | cons a b => rfl
  have hsz0 : its.toArray.size = xs.length := by rw [List.size_toArray, hle]
  have hm : ((its.toArray.size : Nat) : Int) * k ≤ 1000000 := by
    rw [hsz0]
    have a1 : ((xs.length : Nat) : Int) * k ≤ 1000 * k := Int.mul_le_mul_of_nonneg_right (by omega) (by omega)
    omega
  have flen : (List.replicate k.toNat its).flatten.length ≤ sizeLine := by
    rw [PyProof.Rows.lm_len_rep_flat, hle, sizeLine_eq]
    have a1 : k.toNat * xs.length ≤ 1000 * 1000 := Nat.mul_le_mul (by omega) hz
    omega
  have c0 : (decide (k < -(2 ^ 63)) || decide (k ≥ 2 ^ 63)) = false := by
    rw [decide_eq_false (by omega), decide_eq_false (by omega)] <;> rfl
  have c1 : (its.toArray.isEmpty || k == 1) = false := by
    rw [hi, Bool.false_or]
    exact beq_eq_false_iff_ne.mpr (by omega)
  have c2 : (decide (k ≤ 0) || its.toArray.isEmpty) = false := by
    rw [hi, Bool.or_false]
    exact decide_eq_false (by omega)
  have c4 : Builtin.Tuple.tupleTooMany (((its.toArray.size : Nat) : Int) * k) = false := by
    unfold Builtin.Tuple.tupleTooMany
    rw [sizeLine_eq]
    exact decide_eq_false (by omega)
  refine wpAny_binaryOp_repeat_ref (T := "tuple") (U := "int") (by decide) ⟨_, ho, rfl⟩ (fun s' => typeIs_int s' k t) noFill_tuple_mul F.fills_int_mul F.slot_int_rmul repeat_tuple F.slot_int_index.lookup
    (call_meets F.slot_int_rmul (typeIs_int s k t) F.entry_int_rmul (F.args_int_rmul_2 _ _) (int_rmul_tuple k t l its.toArray n dd sl)
      ⟨ho, rfl, ⟨_, ho, rfl⟩, call_meets F.slot_tuple_mul ⟨_, ho, rfl⟩ F.entry_tuple_mul (F.args_tuple_mul_2 _ _) (tuple_mulW l its.toArray n dd sl k t c0 c1 c2 (by omega) c4 (by rw [size_rep, List.size_toArray]; exact flen)) ⟨ho, ?_⟩⟩)
  rw [size_rep]
  exact newT_push I (r.rep k.toNat) (by rw [PyProof.Rows.lm_len_rep_flat, sizeLine_eq]; have a1 : k.toNat * xs.length ≤ 1000 * 1000 := Nat.mul_le_mul (by omega) hz; omega) q
/-! ### a method of a tuple whose object has no dict -/
def tyT (K : PySem.W.Frag) (x : V) (H : Hp) : Prop := ∃ p ob, x = .ref p ∧ ob.dict = none ∧ ((∃ xs, H p = some (.frz ob (.tup xs))) ∨ (K.lookup p = some ob ∧ ob.cls = .type "tuple"))
theorem tyT_is {v : Value} {x : V} (I : Inv X pins σ H s) (r : RelV x v) (ty : tyT X.K x H) : s.TypeIs v "tuple" ∧ ∀ a, v = .ref a → ∃ ob, s.heap.get? a = some ob ∧ ob.dict = none := by
  obtain ⟨p, ob, rfl, hd, h⟩ := ty
  cases r
  rcases h with ⟨xs, h⟩ | ⟨h, hc⟩
  · obtain ⟨e, _, its, _, o, e2, c, _⟩ := I.hok p _ h
    exact ⟨⟨o, e2, c⟩, fun a ea => by cases ea; exact ⟨ob, e, hd⟩⟩
  · exact ⟨⟨ob, I.kIn p ob h, hc⟩, fun a ea => by cases ea; exact ⟨ob, I.kIn _ ob h, hd⟩⟩
/-- the type of x for its methods: as HandS tells it, or a tuple -/
def tyV2 (K : PySem.W.Frag) (T : String) (x : V) (H : Hp) : Prop := tyV K T x H ∨ (T = "tuple" ∧ tyT K x H)
theorem tyV2_is {v : Value} {x : V} {T : String} (I : Inv X pins σ H s) (r : RelV x v) (ty : tyV2 X.K T x H) : s.TypeIs v T ∧ ∀ a, v = .ref a → ∃ ob, s.heap.get? a = some ob ∧ ob.dict = none := by
  rcases ty with h | ⟨rfl, h⟩
  · exact tyV_is I r h
  · exact tyT_is I r h
def tBM2 (K : PySem.W.Frag) (T : String) (r : V → List V → Hp → VK → Prop) (to : TE) (t : TA) : TE := fun σ H Q => to σ H fun x H1 => tyV2 K T x H1 ∧ t σ H1 fun xs H2 => r x xs H2 Q
variable {o : Expr} {to : TE} {name : Str} {apos cpos : Pos} {T id : String} {r : V → List V → Hp → VK → Prop}
theorem pe_bm2 (pa : PlainAttrs T) (slot : Slot T name id) (hty : typeOf (.builtin id) = pure (.type "method_descriptor")) (hm : MtR X id r) (ho : PE X o to) (ha : PA X (e :: es) t)
    (hbase : attributeBase o name X.env (eval o X.env) = eval o X.env := by rfl)
    (hfew : ((backTo cpos (starEach (e :: es) X.env)).all (fun x => !x.1) && (backToKw cpos (keywordEach [] X.env)).all (fun x => x.1.isSome)
      && decide ((e :: es).length + ([] : List Keyword).length + (if ([] : List Keyword).isEmpty then 0 else 1) < 30)) = true := by rfl)
    (hline : (apos.endLine == cpos.line) = true := by rfl) (hs : starEach (e :: es) X.env = (false, eval e X.env) :: starEach es X.env := by rfl) (hplain : (backTo cpos (starEach es X.env)).any (·.1) = false := by rfl) :
    PE X (.Call (.Attribute o name apos) (e :: es) [] cpos) (tBM2 X.K T r to t) := by
  refine ⟨fun pins s σ H Q I h => ?_⟩
  refine wpAny_Call_method_late hbase hfew hline rfl (thn (ho.run pins s σ H _ I h) fun v s1 ⟨x, H1, I1, r1, ty, q1⟩ => ?_)
  obtain ⟨h1, h2⟩ := tyV2_is I1 r1 ty
  refine ⟨T, id, pa, slot, hty, h1, h2, ?_⟩
  have hA := ha.run cpos pins s1 σ H1 _ I1 q1
  rw [hs] at hA ⊢
  refine Calls.callWith_builtin (by show (false || (backTo cpos (starEach es X.env)).any (·.1)) = false; rw [hplain] <;> rfl) (Calls.evalArgs_plain ?_)
  exact thn hA fun us s2 ⟨vs, H2, I2, r2, q2⟩ => hm pins s2 σ H2 x vs v us Q I2 r1 r2 q2
end
end L2
set_option Elab.async false
set_option linter.all false
set_option maxRecDepth 100000
set_option maxHeartbeats 2000000
/-! SWExpr: operands, operations by values, calls of built-ins, control. -/
namespace SW
open PySem PySem.Spec PyProof.Rows L2
variable [Tab]
/-- an operand: an expression, or a list of one's own that is borrowed (its slot) -/
inductive Opd where
  | ex (f : AE)
  | br (i : Nat)
inductive OV where
  | val (d : D)
  | slot (i : Nat)
def Opd.ev : Opd → AM OV
  | .ex f => fun ρ => (f ρ).bind fun d ρ' => .ok (.val d) ρ'
  | .br i => fun ρ => match getSlot ρ i with
    | .pl _ => .ok (.slot i) ρ
    | .own _ _ => .ok (.slot i) ρ
    | _ => .bad
def OV.get (ρ : En) : OV → Option D
  | .val d => some d
  | .slot i => match getSlot ρ i with
    | .pl d => some d
    | .own _ ds => some (.list ds)
    | _ => none
def getAll (ρ : En) : List OV → Option (List D)
  | [] => some []
  | v :: vs => match v.get ρ with
    | some d => (match getAll ρ vs with
      | some ds => some (d :: ds)
      | none => none)
    | none => none
def evs : List Opd → AM (List OV)
  | [] => fun ρ => .ok [] ρ
  | o :: os => fun ρ => (o.ev ρ).bind fun v ρ1 => (evs os ρ1).bind fun vs ρ2 => .ok (v :: vs) ρ2
def tO (K : PySem.W.Frag) (E : WX) : Opd → TE
  | .ex f => tX K E f
  | .br i => tVar i
abbrev EO (X : Cx) (E : WX) (e : Expr) (o : Opd) : Prop := PE X e (tO X.K E o)
def ORel (K : PySem.W.Frag) (σ : L2.St) (G : Hp) (v : V) : OV → Prop
  | .val d => Dp K G v d
  | .slot i => σ[i]? = some (some v)
inductive ORels (K : PySem.W.Frag) (σ : L2.St) (G : Hp) : List V → List OV → Prop
  | nil : ORels K σ G [] []
  | cons {v : V} {o : OV} {vs : List V} {os : List OV} : ORel K σ G v o → ORels K σ G vs os → ORels K σ G (v :: vs) (o :: os)
theorem ORel.mono {K : PySem.W.Frag} {σ : L2.St} {G G' : Hp} (s : Same G G') {v : V} {o : OV} (h : ORel K σ G v o) : ORel K σ G' v o := by
  cases o with
  | val d => exact dp_mono s _ _ h
  | slot i => exact h
theorem ORels.mono {K : PySem.W.Frag} {σ : L2.St} {G G' : Hp} (s : Same G G') : ∀ {vs : List V} {os : List OV}, ORels K σ G vs os → ORels K σ G' vs os
  | _, _, .nil => .nil
  | _, _, .cons a t => .cons (a.mono s) (ORels.mono s t)
theorem ORel.get {K : PySem.W.Frag} {ρ : En} {σ : L2.St} {H G : Hp} (er : ER K ρ σ H G) {v : V} {o : OV} {d : D} (h : ORel K σ G v o) (e : o.get ρ = some d) : DpB K G H v d := by
  cases o with
  | val d' => cases e; exact .inl h
  | slot i =>
    have h : σ[i]? = some (some v) := h
    unfold OV.get at e
    dsimp only at e
    split at e
    · rename_i d' q
      cases e
      obtain ⟨u, h1, h2⟩ := er.pl i d (getSlot_pl q)
      rw [h] at h1
      cases h1
      exact .inl h2
    · rename_i io ds q
      cases e
      obtain ⟨a, vs, h1, h2, h3, h4⟩ := er.own i io ds (getSlot_own q)
      rw [h] at h1
      cases h1
      exact .inr ⟨a, vs, ds, rfl, rfl, h3, h4⟩
    · cases e
theorem ORels.get {K : PySem.W.Frag} {ρ : En} {σ : L2.St} {H G : Hp} (er : ER K ρ σ H G) : ∀ {vs : List V} {os : List OV} {ds : List D}, ORels K σ G vs os → getAll ρ os = some ds → DpBs K G H vs ds
  | _, _, _, .nil, e => by cases e; exact .nil
  | _, _, _, .cons (o := o) (os := os) a t, e => by
    unfold getAll at e
    cases q : o.get ρ with
    | none => rw [q] at e; cases e
    | some d =>
      rw [q] at e
      dsimp only at e
      cases q2 : getAll ρ os with
      | none => rw [q2] at e; cases e
      | some ds' =>
        rw [q2] at e
        cases e
        exact .cons (a.get er q) (ORels.get er t q2)
section
variable {K : PySem.W.Frag} {E : WX} {ρ : En} {σ : L2.St} {H G : Hp}
/-- one operand, then the rest -/
theorem opd_step {β : Type} {o : Opd} {k : OV → En → R β} {Z : β → En → Hp → Hp → Prop} {Q : VK} (er : ER K ρ σ H G) (h : Out K E ((o.ev ρ).bind k) ρ σ H G Z)
    (q : ∀ v ov ρ1 H1 G1, ER K ρ1 σ H1 G1 → Step ρ σ H G ρ1 σ H1 G1 → ORel K σ G1 v ov → Out K E (k ov ρ1) ρ1 σ H1 G1 Z → Q v H1) : tO K E o σ H Q := by
  cases o with
  | ex f =>
    refine ⟨ρ, G, er, ?_⟩
    have h1 : Out K E ((f ρ).bind fun d ρ' => k (.val d) ρ') ρ σ H G Z := by
      have e : ((Opd.ex f).ev ρ).bind k = (f ρ).bind fun d ρ' => k (.val d) ρ' := by
        show ((f ρ).bind _).bind k = _
        cases f ρ <;> rfl
      rw [← e]; exact h
    exact (Out.split h1).imp fun d ρ1 H1 G1 e1 s1 z v dp => q v (.val d) ρ1 H1 G1 e1 s1 dp z
  | br i =>
    unfold Opd.ev at h
    dsimp only at h
    cases e : getSlot ρ i with
    | pl d =>
      rw [e] at h
      obtain ⟨v, h1, _⟩ := er.pl i d (getSlot_pl e)
      exact ⟨v, h1, q v (.slot i) ρ H G er .refl h1 h⟩
    | own io ds =>
      rw [e] at h
      obtain ⟨a, vs, h1, _⟩ := er.own i io ds (getSlot_own e)
      exact ⟨_, h1, q _ (.slot i) ρ H G er .refl h1 h⟩
    | un => rw [e] at h; exact h.elim
    | raw v => rw [e] at h; exact h.elim
end
/-! ### what an operation leaves -/
inductive Grow (G H : Hp) : Hp → Hp → Prop
  | refl : Grow G H G H
  | new {G1 H1 : Hp} (p : Addr) (o : HO) : Grow G H G1 H1 → H1 p = none → (nt : goodO o := by exact trivial) → Grow G H (upd G1 p o) (upd H1 p o)
  | lay {G1 H1 : Hp} (p : Addr) (o : HO) : Grow G H G1 H1 → H1 p = none → (nt : notTbl o := by exact fun _ z => nomatch z) → Grow G H G1 (upd H1 p o)
theorem ER.grow {K : PySem.W.Frag} {ρ : En} {σ : L2.St} {H G H' G' : Hp} (er : ER K ρ σ H G) (g : Grow G H G' H') : ER K ρ σ H' G' ∧ Step ρ σ H G ρ σ H' G' := by
  induction g with
  | refl => exact ⟨er, .refl⟩
  | new p o g h nt ih => exact ⟨ih.1.new h nt, ih.2.trans (ih.1.stepNew h)⟩
  | lay p o g h nt ih => exact ⟨ih.1.lay h nt, ih.2.trans (ih.1.stepLay h)⟩
/-- an operation by values -/
def OpS (K : PySem.W.Frag) (r : List V → Hp → VK → Prop) (F : List D → Option D) : Prop :=
  ∀ vs ds d G H Q, Same G H → DpBs K G H vs ds → F ds = some d → (∀ v H' G', Grow G H G' H' → Dp K G' v d → Q v H') → r vs H Q
def r2 (r : R2) : List V → Hp → VK → Prop := fun vs H Q => ∃ x y, vs = [x, y] ∧ r x y H Q
/-- all operands, then the operation -/
def aOps (F : List D → Option D) (os : List Opd) : AE := fun ρ => (evs os ρ).bind fun vs ρ' => match getAll ρ' vs with
  | some ds => (match F ds with
    | some d => .ok d ρ'
    | none => .bad)
  | none => .bad
section
variable {K : PySem.W.Frag} {E : WX} {ρ : En} {σ : L2.St} {H G : Hp} {F : List D → Option D} {r : List V → Hp → VK → Prop}
theorem ops_end (hs : OpS K r F) {vs : List V} {ovs : List OV} {Q : VK} (er : ER K ρ σ H G) (rel : ORels K σ G vs ovs)
    (h : Out K E (match getAll ρ ovs with | some ds => (match F ds with | some d => R.ok d ρ | none => .bad) | none => .bad) ρ σ H G (ZE K Q)) : r vs H Q := by
  cases e : getAll ρ ovs with
  | none => rw [e] at h; exact h.elim
  | some ds =>
    rw [e] at h
    dsimp only at h
    cases e2 : F ds with
    | none => rw [e2] at h; exact h.elim
    | some d =>
      rw [e2] at h
      refine hs vs ds d G H Q er.sub (rel.get er e) e2 fun v H' G' g dp => ?_
      obtain ⟨er', st⟩ := er.grow g
      exact h H' G' er' st v dp
def tOs (K : PySem.W.Frag) (E : WX) : List Opd → TA
  | [] => tNil
  | o :: os => tCons (tO K E o) (tOs K E os)
abbrev EOs (X : Cx) (E : WX) (es : List Expr) (os : List Opd) : Prop := PA X es (tOs X.K E os)
theorem evs_step {β : Type} {k : List OV → En → R β} {Z : β → En → Hp → Hp → Prop} : ∀ {os : List Opd} {ρ : En} {H G : Hp} {Q : List V → Hp → Prop} (er : ER K ρ σ H G) (h : Out K E ((evs os ρ).bind k) ρ σ H G Z)
    (q : ∀ vs ovs ρ1 H1 G1, ER K ρ1 σ H1 G1 → Step ρ σ H G ρ1 σ H1 G1 → ORels K σ G1 vs ovs → Out K E (k ovs ρ1) ρ1 σ H1 G1 Z → Q vs H1), tOs K E os σ H Q
  | [], ρ, H, G, Q, er, h, q => q [] [] ρ H G er .refl .nil h
  | o :: os, ρ, H, G, Q, er, h, q => by
    have e : (evs (o :: os) ρ).bind k = (o.ev ρ).bind fun v ρ1 => (evs os ρ1).bind fun vs ρ2 => k (v :: vs) ρ2 := by
      show ((o.ev ρ).bind _).bind k = _
      cases o.ev ρ with
      | ok v ρ1 => show ((evs os ρ1).bind _).bind k = (evs os ρ1).bind _; cases evs os ρ1 <;> rfl
      | err x ρ1 => rfl
      | bad => rfl
    rw [e] at h
    refine opd_step er h fun v ov ρ1 H1 G1 er1 s1 rel h1 => ?_
    exact evs_step (k := fun vs ρ2 => k (ov :: vs) ρ2) er1 h1 fun vs ovs ρ2 H2 G2 er2 s2 rels h2 => q (v :: vs) (ov :: ovs) ρ2 H2 G2 er2 (s1.trans s2) (.cons (rel.mono s2.sg) rels) h2
end
section
variable {X : Cx} {E : WX} {pos : Pos} {a b : Expr} {o1 o2 : Opd} {F : List D → Option D}
theorem v_ex {f : AE} (h : EV X E a f) : EO X E a (.ex f) := h
theorem v_br {i : Nat} {x : Str} (hN : X.N[i]? = some x) (hv : Vis X.env.scope x) (hd : (x == ("__debug__" : Str)) = false := by decide) (hcd : (x == ("__classdict__" : Str)) = false := by decide) : EO X E (.Name x pos) (.br i) := pe_var hN hv hd hcd
theorem vs_nil : EOs X E [] [] := pa_nil
theorem vs_cons {e : Expr} {es : List Expr} {o : Opd} {os : List Opd} (ha : EO X E e o) (hr : EOs X E es os) (hs : starEach (e :: es) X.env = (false, eval e X.env) :: starEach es X.env := by rfl) : EOs X E (e :: es) (o :: os) := pa_cons ha hr hs
theorem two_end {r : R2} (hs : OpS X.K (r2 r) F) {ρ : En} {σ : L2.St} {H G : Hp} {Q : VK} (er : ER X.K ρ σ H G) (h : Out X.K E (aOps F [o1, o2] ρ) ρ σ H G (ZE X.K Q)) : tOp r (tO X.K E o1) (tO X.K E o2) σ H Q := by
  have h2 : tOs X.K E [o1, o2] σ H (fun vs H' => r2 r vs H' Q) := evs_step er h fun vs ovs ρ1 H1 G1 er1 s1 rel h1 => ops_end hs er1 rel h1
  have h3 : tO X.K E o1 σ H fun x H1 => tO X.K E o2 σ H1 fun y H2 => r2 r [x, y] H2 Q := h2
  have conv : ∀ (o : Opd) (σ : L2.St) (H : Hp) (Q Q' : VK), (∀ v H', Q v H' → Q' v H') → tO X.K E o σ H Q → tO X.K E o σ H Q' := fun o σ H Q Q' i h => by
    cases o with
    | ex f =>
      obtain ⟨ρ, G, er, h⟩ := h
      exact ⟨ρ, G, er, h.imp fun d ρ' H' G' _ _ z v dp => i _ _ (z v dp)⟩
    | br i' =>
      obtain ⟨v, e, h⟩ := h
      exact ⟨v, e, i _ _ h⟩
  refine conv _ _ _ _ _ (fun x H1 h4 => conv _ _ _ _ _ (fun y H2 h5 => ?_) h4) h3
  obtain ⟨x', y', e, q⟩ := h5
  cases e
  exact q
theorem v_bin {op : Operator} {r : R2} (ho : OpR X (binaryOp op) r) (hs : OpS X.K (r2 r) F) (h1 : EO X E a o1) (h2 : EO X E b o2) : EV X E (.BinOp a op b pos) (aOps F [o1, o2]) :=
  PE.imp (pe_op ho h1 h2) fun σ H Q ⟨ρ, G, er, h⟩ => two_end hs er h
theorem v_cmp {op : CmpOp} {r : R2} (ho : OpR X (compareOp op) r) (hs : OpS X.K (r2 r) F) (h1 : EO X E a o1) (h2 : EO X E b o2) (hm : behindInMarks op b = false) : EV X E (.Compare a [op] [b] pos) (aOps F [o1, o2]) :=
  PE.imp (pe_cmpR ho h1 h2 hm) fun σ H Q ⟨ρ, G, er, h⟩ => two_end hs er h
theorem v_ix {r : R2} (hr : IxR X r) (hs : OpS X.K (r2 r) F) (h1 : EO X E a o1) (h2 : EO X E b o2) (hp : PlainIx b) : EV X E (.Subscript a b pos) (aOps F [o1, o2]) :=
  PE.imp (pe_ix hr h1 h2 hp) fun σ H Q ⟨ρ, G, er, h⟩ => two_end hs er h
theorem v_un {op : UnaryOp} {r : V → Hp → VK → Prop} (ho : UnR X (unaryOp op) r) (hs : OpS X.K (fun vs H Q => ∃ x, vs = [x] ∧ r x H Q) F) (h1 : EO X E a o1) : EV X E (.UnaryOp op a pos) (aOps F [o1]) :=
  PE.imp (pe_un ho h1) fun σ H Q ⟨ρ, G, er, h⟩ => by
    have h2 : tOs X.K E [o1] σ H (fun vs H' => ∃ x, vs = [x] ∧ r x H' Q) := evs_step er h fun vs ovs ρ1 H1 G1 er1 s1 rel h1 => ops_end hs er1 rel h1
    have h3 : tO X.K E o1 σ H fun x H1 => ∃ x', [x] = [x'] ∧ r x' H1 Q := h2
    cases o1 with
    | ex f =>
      obtain ⟨ρ, G, er, h⟩ := h3
      exact ⟨ρ, G, er, h.imp fun d ρ' H' G' _ _ z v dp => by
        obtain ⟨x', e, q⟩ := z v dp
        cases e
        exact q⟩
    | br i' =>
      obtain ⟨v, e, x', e', q⟩ := h3
      cases e'
      exact ⟨v, e, q⟩
theorem v_callB {x : Str} {p : Pos} {id : String} {e : Expr} {es : List Expr} {os : List Opd} {r : List V → Hp → VK → Prop} (hc : CallR X (.builtin id) r) (hs : OpS X.K r F) (hg : Gl X x) (hm : X.mg x = none) (hv : bootBuiltins x = some (.builtin id)) (ha : EOs X E (e :: es) os)
    (hn : x ≠ "__name__" := by decide) (hdb : (x == ("__debug__" : Str)) = false := by decide) (he : starEach (e :: es) X.env = (false, eval e X.env) :: starEach es X.env := by rfl) (hpl : (backTo pos (starEach es X.env)).any (·.1) = false := by rfl) :
    EV X E (.Call (.Name x p) (e :: es) [] pos) (aOps F os) :=
  PE.imp (pe_callB hc hg hm hv ha hn hdb he hpl) fun σ H Q ⟨ρ, G, er, h⟩ => evs_step er h fun vs ovs ρ1 H1 G1 er1 s1 rel h1 => ops_end hs er1 rel h1
theorem v_callT {x : Str} {p : Pos} {T : String} {e : Expr} {es : List Expr} {os : List Opd} {r : List V → Hp → VK → Prop} (hc : CallR X (.type T) r) (hs : OpS X.K r F) (hg : Gl X x) (hm : X.mg x = none) (hv : bootBuiltins x = some (.type T)) (ha : EOs X E (e :: es) os)
    (hn : x ≠ "__name__" := by decide) (hdb : (x == ("__debug__" : Str)) = false := by decide) (he : starEach (e :: es) X.env = (false, eval e X.env) :: starEach es X.env := by rfl) (hpl : (backTo pos (starEach es X.env)).any (·.1) = false := by rfl) :
    EV X E (.Call (.Name x p) (e :: es) [] pos) (aOps F os) :=
  PE.imp (pe_callTy hc hg hm hv ha hn hdb he hpl) fun σ H Q ⟨ρ, G, er, h⟩ => evs_step er h fun vs ovs ρ1 H1 G1 er1 s1 rel h1 => ops_end hs er1 rel h1
/-- x is None -/
def isNone : D → Bool
  | .none => true
  | _ => false
def F_isN : List D → Option D
  | [d] => some (.bool (isNone d))
  | _ => none
def F_notN : List D → Option D
  | [d] => some (.bool (!isNone d))
  | _ => none
theorem dpb_none {K : PySem.W.Frag} {G H : Hp} {v : V} {d : D} (h : DpB K G H v d) : decide (v = .non) = isNone d := by
  rcases h with h | ⟨a, vs, ds, rfl, rfl, _, _⟩
  · cases h <;> rfl
  · rfl
theorem v_isN {p : Pos} {j : Nat} (h1 : EO X E a o1) : EV X E (.Compare a [.Is] [.Constant .none j p] pos) (aOps F_isN [o1]) :=
  PE.imp (pe_cmp (pc_isN h1)) fun σ H Q ⟨ρ, G, er, h⟩ => by
    have h3 : tO X.K E o1 σ H fun x H1 => Q (.bl (decide (x = .non))) H1 := opd_step (k := fun v ρ1 => match getAll ρ1 [v] with | some ds => (match F_isN ds with | some d => R.ok d ρ1 | none => .bad) | none => .bad) (Z := ZE X.K Q) er (by
      have e : aOps F_isN [o1] ρ = (o1.ev ρ).bind (fun v ρ1 => match getAll ρ1 [v] with | some ds => (match F_isN ds with | some d => R.ok d ρ1 | none => .bad) | none => .bad) := by
        unfold aOps evs
        cases o1.ev ρ <;> rfl
      rw [← e]; exact h) fun v ov ρ1 H1 G1 er1 s1 rel h1 => by
        cases e : ov.get ρ1 with
        | none => unfold getAll at h1; rw [e] at h1; exact h1.elim
        | some d =>
          unfold getAll at h1
          rw [e] at h1
          have h2 := h1 H1 G1 er1 .refl (.bl _) (.bl _)
          rw [dpb_none (rel.get er1 e)]
          exact h2
    exact h3
theorem v_notN {p : Pos} {j : Nat} (h1 : EO X E a o1) : EV X E (.Compare a [.IsNot] [.Constant .none j p] pos) (aOps F_notN [o1]) :=
  PE.imp (pe_cmp (pc_notN h1)) fun σ H Q ⟨ρ, G, er, h⟩ => by
    have h3 : tO X.K E o1 σ H fun x H1 => Q (.bl (!decide (x = .non))) H1 := opd_step (k := fun v ρ1 => match getAll ρ1 [v] with | some ds => (match F_notN ds with | some d => R.ok d ρ1 | none => .bad) | none => .bad) (Z := ZE X.K Q) er (by
      have e : aOps F_notN [o1] ρ = (o1.ev ρ).bind (fun v ρ1 => match getAll ρ1 [v] with | some ds => (match F_notN ds with | some d => R.ok d ρ1 | none => .bad) | none => .bad) := by
        unfold aOps evs
        cases o1.ev ρ <;> rfl
      rw [← e]; exact h) fun v ov ρ1 H1 G1 er1 s1 rel h1 => by
        cases e : ov.get ρ1 with
        | none => unfold getAll at h1; rw [e] at h1; exact h1.elim
        | some d =>
          unfold getAll at h1
          rw [e] at h1
          have h2 := h1 H1 G1 er1 .refl (.bl _) (.bl _)
          rw [dpb_none (rel.get er1 e)]
          exact h2
    exact h3
end

/-! ### control -/
def asB (d : D) (ρ : En) : R Bool := match d with
  | .bool b => .ok b ρ
  | _ => .bad
/-- an expression as a test: a bool -/
def aT (f : AE) : AM Bool := fun ρ => (f ρ).bind asB
def aAnd (f g : AE) : AE := fun ρ => (f ρ).bind fun d ρ1 => match d with
  | .bool true => g ρ1
  | .bool false => .ok (.bool false) ρ1
  | _ => .bad
def aOr (f g : AE) : AE := fun ρ => (f ρ).bind fun d ρ1 => match d with
  | .bool true => .ok (.bool true) ρ1
  | .bool false => g ρ1
  | _ => .bad
def aNot (f : AE) : AE := fun ρ => (f ρ).bind fun d ρ1 => match d with
  | .bool b => .ok (.bool (!b)) ρ1
  | _ => .bad
def tAndA (f g : AM Bool) : AM Bool := fun ρ => (f ρ).bind fun b ρ1 => match b with
  | true => g ρ1
  | false => .ok false ρ1
def tOrA (f g : AM Bool) : AM Bool := fun ρ => (f ρ).bind fun b ρ1 => match b with
  | true => .ok true ρ1
  | false => g ρ1
def tNotA (f : AM Bool) : AM Bool := fun ρ => (f ρ).bind fun b ρ1 => .ok (!b) ρ1
def aIf (c : AM Bool) (f g : AE) : AE := fun ρ => (c ρ).bind fun b ρ1 => match b with
  | true => f ρ1
  | false => g ρ1
section
variable {X : Cx} {E : WX} {pos : Pos} {a b c : Expr} {f g : AE} {rest : List Expr}
theorem tx_of {K : PySem.W.Frag} {ρ : En} {σ : L2.St} {H G : Hp} {β : Type} {f : AE} {k : D → En → R β} {Z : β → En → Hp → Hp → Prop} {Q : VK} (er : ER K ρ σ H G) (h : Out K E ((f ρ).bind k) ρ σ H G Z)
    (q : ∀ v d ρ1 H1 G1, ER K ρ1 σ H1 G1 → Step ρ σ H G ρ1 σ H1 G1 → Dp K G1 v d → Out K E (k d ρ1) ρ1 σ H1 G1 Z → Q v H1) : tX K E f σ H Q :=
  ⟨ρ, G, er, (Out.split h).imp fun d ρ1 H1 G1 e1 s1 z v dp => q v d ρ1 H1 G1 e1 s1 dp z⟩
theorem txt_of {K : PySem.W.Frag} {ρ : En} {σ : L2.St} {H G : Hp} {β : Type} {f : AM Bool} {k : Bool → En → R β} {Z : β → En → Hp → Hp → Prop} {Q : Bool → Hp → Prop} (er : ER K ρ σ H G) (h : Out K E ((f ρ).bind k) ρ σ H G Z)
    (q : ∀ d ρ1 H1 G1, ER K ρ1 σ H1 G1 → Step ρ σ H G ρ1 σ H1 G1 → Out K E (k d ρ1) ρ1 σ H1 G1 Z → Q d H1) : tXT K E f σ H Q :=
  ⟨ρ, G, er, (Out.split h).imp fun d ρ1 H1 G1 e1 s1 z => q d ρ1 H1 G1 e1 s1 z⟩
theorem out_tx {K : PySem.W.Frag} {ρ : En} {σ : L2.St} {H G : Hp} {f : AE} {Q : VK} (er : ER K ρ σ H G) (h : Out K E (f ρ) ρ σ H G (ZE K Q)) : tX K E f σ H Q := ⟨ρ, G, er, h⟩
theorem v_and (h1 : EV X E a f) (h2 : EV X E (.BoolOp .And (b :: rest) pos) g) : EV X E (.BoolOp .And (a :: b :: rest) pos) (aAnd f g) :=
  PE.imp (pe_and h1 h2) fun σ H Q ⟨ρ, G, er, h⟩ => tx_of er h fun v d ρ1 H1 G1 er1 s1 dp z => by
    cases d with
    | bool b' =>
      cases dp
      refine ⟨b', rfl, ?_⟩
      cases b' with
      | true => exact out_tx er1 z
      | false => exact z H1 G1 er1 .refl _ (.bl false)
    | _ => exact z.elim
theorem v_or (h1 : EV X E a f) (h2 : EV X E (.BoolOp .Or (b :: rest) pos) g) : EV X E (.BoolOp .Or (a :: b :: rest) pos) (aOr f g) :=
  PE.imp (pe_or h1 h2) fun σ H Q ⟨ρ, G, er, h⟩ => tx_of er h fun v d ρ1 H1 G1 er1 s1 dp z => by
    cases d with
    | bool b' =>
      cases dp
      refine ⟨b', rfl, ?_⟩
      cases b' with
      | true => exact z H1 G1 er1 .refl _ (.bl true)
      | false => exact out_tx er1 z
    | _ => exact z.elim
theorem v_one {op : BoolOp} (h1 : EV X E a f) : EV X E (.BoolOp op [a] pos) f := pe_one h1
theorem v_not (h1 : EV X E a f) : EV X E (.UnaryOp .Not a pos) (aNot f) :=
  PE.imp (pe_not h1) fun σ H Q ⟨ρ, G, er, h⟩ => tx_of er h fun v d ρ1 H1 G1 er1 s1 dp z => by
    cases d with
    | bool b' => cases dp; exact ⟨b', rfl, z H1 G1 er1 .refl _ (.bl _)⟩
    | _ => exact z.elim
theorem v_if {t : AM Bool} (hc : ET X E c t) (h1 : EV X E a f) (h2 : EV X E b g) : EV X E (.IfExp c a b pos) (aIf t f g) :=
  PE.imp (pe_ifExp hc h1 h2) fun σ H Q ⟨ρ, G, er, h⟩ => txt_of er h fun d ρ1 H1 G1 er1 s1 z => by
    cases d with
    | true => exact out_tx er1 z
    | false => exact out_tx er1 z
/-- tests -/
theorem t_val (h1 : EV X E a f) (he : ∀ whole, isTrue a X.env whole = (do let v ← whole; standAt a.pos; holding [v] (truthy v)) := by intro _; rfl) : ET X E a (aT f) :=
  PT.imp (pt_val h1 he) fun σ H Q ⟨ρ, G, er, h⟩ => tx_of er h fun v d ρ1 H1 G1 er1 s1 dp z => by
    cases d with
    | bool b' => cases dp; exact ⟨b', rfl, z H1 G1 er1 .refl⟩
    | _ => exact z.elim
theorem t_cmp {o1 o2 : Opd} {F : List D → Option D} {op : CmpOp} {r : R2} (ho : OpR X (compareOp op) r) (hs : OpS X.K (r2 r) F) (h1 : EO X E a o1) (h2 : EO X E b o2) (hm : behindInMarks op b = false) : ET X E (.Compare a [op] [b] pos) (aT (aOps F [o1, o2])) :=
  PT.imp (pt_cmpR ho h1 h2 hm) fun σ H Q ⟨ρ, G, er, h⟩ => two_end (Q := fun x H' => ∃ k, x = .bl k ∧ Q k H') hs er ((Out.split h).imp fun d ρ1 H1 G1 er1 s1 z v dp => by
    cases d with
    | bool b' => cases dp; exact ⟨b', rfl, z H1 G1 er1 .refl⟩
    | _ => exact z.elim)
theorem tis_core {o1 : Opd} {F : List D → Option D} {g : V → Bool} (hg : ∀ {K : PySem.W.Frag} {G H : Hp} {v : V} {d : D}, DpB K G H v d → F [d] = some (.bool (g v))) {Q : Bool → Hp → Prop} {ρ : En} {σ : L2.St} {H G : Hp} (er : ER X.K ρ σ H G)
    (h : Out X.K E (aT (aOps F [o1]) ρ) ρ σ H G (fun b _ H' _ => Q b H')) : tO X.K E o1 σ H fun x H1 => ∃ k, V.bl (g x) = .bl k ∧ Q k H1 := by
  refine opd_step (k := fun v ρ1 => (match getAll ρ1 [v] with | some ds => (match F ds with | some d => R.ok d ρ1 | none => .bad) | none => .bad).bind asB) (Z := fun b _ H' _ => Q b H') er ?_ fun v ov ρ1 H1 G1 er1 s1 rel h1 => ?_
  · have e : aT (aOps F [o1]) ρ = (o1.ev ρ).bind (fun v ρ1 => (match getAll ρ1 [v] with | some ds => (match F ds with | some d => R.ok d ρ1 | none => .bad) | none => .bad).bind asB) := by
      unfold aT aOps evs
      cases o1.ev ρ <;> rfl
    rw [← e]; exact h
  · cases e : ov.get ρ1 with
    | none => unfold getAll at h1; rw [e] at h1; exact h1.elim
    | some d =>
      unfold getAll at h1
      rw [e] at h1
      dsimp only [getAll] at h1
      rw [hg (rel.get er1 e)] at h1
      exact ⟨_, rfl, h1 H1 G1 er1 .refl⟩
theorem t_isN {o1 : Opd} {p : Pos} {j : Nat} (h1 : EO X E a o1) : ET X E (.Compare a [.Is] [.Constant .none j p] pos) (aT (aOps F_isN [o1])) :=
  PT.imp (pt_cmp (pc_isN h1)) fun σ H Q ⟨ρ, G, er, h⟩ => tis_core (g := fun v => decide (v = .non)) (fun hb => by rw [dpb_none hb]; rfl) er h
theorem t_notN {o1 : Opd} {p : Pos} {j : Nat} (h1 : EO X E a o1) : ET X E (.Compare a [.IsNot] [.Constant .none j p] pos) (aT (aOps F_notN [o1])) :=
  PT.imp (pt_cmp (pc_notN h1)) fun σ H Q ⟨ρ, G, er, h⟩ => tis_core (g := fun v => !decide (v = .non)) (fun hb => by rw [dpb_none hb]; rfl) er h
structure EW (X : Cx) (E : WX) (e : Expr) (f : AM Bool) : Prop where
  run : PW X e (tXT X.K E f)
theorem EW.t {f : AM Bool} (h : EW X E a f) : ET X E a f := PW.pt h.run
theorem PW_imp {X : Cx} {e : Expr} {t t' : TT} (h : PW X e t) (i : ∀ σ H Q, t' σ H Q → t σ H Q) : PW X e t' := ⟨fun wh pins s σ H Q I hw => h.run wh pins s σ H Q I (i σ H Q hw)⟩
theorem w_and1 {f : AM Bool} (h : ET X E a f) : EW X E (.BoolOp .And [a] pos) f := ⟨pw_and1 h⟩
theorem w_or1 {f : AM Bool} (h : ET X E a f) : EW X E (.BoolOp .Or [a] pos) f := ⟨pw_or1 h⟩
theorem out_txt {K : PySem.W.Frag} {ρ : En} {σ : L2.St} {H G : Hp} {f : AM Bool} {Q : Bool → Hp → Prop} (er : ER K ρ σ H G) (h : Out K E (f ρ) ρ σ H G (fun b _ H' _ => Q b H')) : tXT K E f σ H Q := ⟨ρ, G, er, h⟩
theorem w_and {f g : AM Bool} (h1 : ET X E a f) (h2 : EW X E (.BoolOp .And (b :: rest) pos) g) : EW X E (.BoolOp .And (a :: b :: rest) pos) (tAndA f g) :=
  ⟨PW_imp (pw_and h1 h2.run) fun σ H Q ⟨ρ, G, er, h⟩ => txt_of er h fun d ρ1 H1 G1 er1 s1 z => by
    cases d with
    | true => exact out_txt er1 z
    | false => exact z H1 G1 er1 .refl⟩
theorem w_or {f g : AM Bool} (h1 : ET X E a f) (h2 : EW X E (.BoolOp .Or (b :: rest) pos) g) : EW X E (.BoolOp .Or (a :: b :: rest) pos) (tOrA f g) :=
  ⟨PW_imp (pw_or h1 h2.run) fun σ H Q ⟨ρ, G, er, h⟩ => txt_of er h fun d ρ1 H1 G1 er1 s1 z => by
    cases d with
    | true => exact z H1 G1 er1 .refl
    | false => exact out_txt er1 z⟩
theorem t_not {f : AM Bool} (h1 : ET X E a f) : ET X E (.UnaryOp .Not a pos) (tNotA f) :=
  PT.imp (pt_not h1) fun σ H Q ⟨ρ, G, er, h⟩ => txt_of er h fun d ρ1 H1 G1 er1 s1 z => z H1 G1 er1 .refl
/-- a < b < c -/
def aChain (F F' : List D → Option D) (o1 o2 o3 : Opd) : AE := fun ρ => (evs [o1, o2] ρ).bind fun vs ρ1 => match getAll ρ1 vs with
  | some ds => (match F ds with
    | some (.bool true) => (match vs with
      | [_, v] => (o3.ev ρ1).bind fun w ρ2 => (match getAll ρ2 [v, w] with
        | some es => (match F' es with
          | some d => .ok d ρ2
          | none => .bad)
        | none => .bad)
      | _ => .bad)
    | some (.bool false) => .ok (.bool false) ρ1
    | _ => .bad)
  | none => .bad
theorem v_chain {o1 o2 o3 : Opd} {F F' : List D → Option D} {op op' : CmpOp} {r r' : R2} (ho : OpR X (compareOp op) r) (ho' : OpR X (compareOp op') r') (hs : OpS X.K (r2 r) F) (hs' : OpS X.K (r2 r') F')
    (h1 : EO X E a o1) (h2 : EO X E b o2) (h3 : EO X E c o3) (hm : lastMarks [op, op'] [b, c] = false := by with_unfolding_all rfl) : EV X E (.Compare a [op, op'] [b, c] pos) (aChain F F' o1 o2 o3) := by
  refine PE.imp (pe_chain ho ho' h1 h2 h3 hm) fun σ H Q ⟨ρ, G, er, h⟩ => ?_
  have conv : ∀ (o : Opd) (σ : L2.St) (H : Hp) (Q Q' : VK), (∀ v H', Q v H' → Q' v H') → tO X.K E o σ H Q → tO X.K E o σ H Q' := fun o σ H Q Q' i h => by
    cases o with
    | ex f =>
      obtain ⟨ρ, G, er, h⟩ := h
      exact ⟨ρ, G, er, h.imp fun d ρ' H' G' _ _ z v dp => i _ _ (z v dp)⟩
    | br i' =>
      obtain ⟨v, e, h⟩ := h
      exact ⟨v, e, i _ _ h⟩
  have key : tOs X.K E [o1, o2] σ H (fun vs H2 => ∀ x y, vs = [x, y] → r x y H2 fun z H3 => ∃ k, z = .bl k ∧ (if k = true then tO X.K E o3 σ H3 fun w' H4 => r' y w' H4 Q else Q (.bl false) H3)) := by
    refine evs_step er h fun vs ovs ρ1 H1 G1 er1 s1 rel h1 x y exy => ?_
    subst exy
    cases e : getAll ρ1 ovs with
    | none => rw [e] at h1; exact h1.elim
    | some ds =>
      rw [e] at h1
      dsimp only at h1
      cases e2 : F ds with
      | none => rw [e2] at h1; exact h1.elim
      | some d =>
        rw [e2] at h1
        have hr := hs [x, y] ds d G1 H1 (fun z H3 => ∃ k, z = .bl k ∧ (if k = true then tO X.K E o3 σ H3 fun w' H4 => r' y w' H4 Q else Q (.bl false) H3)) er1.sub (rel.get er1 e) e2 fun v H' G' g dp => by
          obtain ⟨er', st⟩ := er1.grow g
          cases d with
          | bool k =>
            cases dp
            refine ⟨k, rfl, ?_⟩
            cases k with
            | false => exact h1 H' G' er' st _ (.bl false)
            | true =>
              rw [if_pos rfl]
              cases rel with
              | cons ra rt =>
                cases rt with
                | cons rb rt2 =>
                  cases rt2 with
                  | nil =>
                    refine opd_step er' (Out.shift h1 st) fun w ow ρ2 H2 G2 er2 s2 relw h2 => ?_
                    cases e3 : getAll ρ2 [_, ow] with
                    | none => rw [e3] at h2; exact h2.elim
                    | some es =>
                      rw [e3] at h2
                      dsimp only at h2
                      cases e4 : F' es with
                      | none => rw [e4] at h2; exact h2.elim
                      | some d2 =>
                        rw [e4] at h2
                        obtain ⟨y', w'', ee, q⟩ := hs' [y, w] es d2 G2 H2 Q er2.sub (ORels.get er2 (.cons ((rb.mono st.sg).mono s2.sg) (.cons relw .nil)) e3) e4 fun v H' G' g dp => by
                          obtain ⟨er3, st3⟩ := er2.grow g
                          exact h2 H' G' er3 st3 v dp
                        cases ee
                        exact q
          | _ => exact h1.elim
        obtain ⟨x', y', ee, q⟩ := hr
        cases ee
        exact q
  have h4 : tO X.K E o1 σ H fun x H1 => tO X.K E o2 σ H1 fun y H2 => ∀ x' y', [x, y] = [x', y'] → r x' y' H2 fun z H3 => ∃ k, z = .bl k ∧ (if k = true then tO X.K E o3 σ H3 fun w' H4 => r' y' w' H4 Q else Q (.bl false) H3) := key
  exact conv _ _ _ _ _ (fun x H1 h5 => conv _ _ _ _ _ (fun y H2 h6 => h6 x y rfl) h5) h4
end
end SW
set_option Elab.async false
set_option linter.all false
set_option maxRecDepth 100000
set_option maxHeartbeats 2000000
/-! SWOps: the operations by values. -/
namespace SW
open PySem PySem.Spec PyProof.Rows L2
variable [Tab]
section
variable {X : Cx} {K : PySem.W.Frag}
theorem OpS.or {r r' : List V → Hp → VK → Prop} {F F' G : List D → Option D} (h : OpS K r F) (h' : OpS K r' F') (g : ∀ ds d, G ds = some d → F ds = some d ∨ F' ds = some d) : OpS K (fun vs H Q => r vs H Q ∨ r' vs H Q) G :=
  fun vs ds d G H Q s b e q => by
    rcases g ds d e with e | e
    · exact .inl (h vs ds d G H Q s b e q)
    · exact .inr (h' vs ds d G H Q s b e q)
theorem OpS.or2 {r r' : R2} {F F' G : List D → Option D} (h : OpS K (r2 r) F) (h' : OpS K (r2 r') F') (g : ∀ ds d, G ds = some d → F ds = some d ∨ F' ds = some d) : OpS K (r2 fun x y H Q => r x y H Q ∨ r' x y H Q) G :=
  fun vs ds d G H Q s b e q => by
    rcases g ds d e with e | e
    · obtain ⟨x, y, e1, q⟩ := h vs ds d G H Q s b e q
      exact ⟨x, y, e1, .inl q⟩
    · obtain ⟨x, y, e1, q⟩ := h' vs ds d G H Q s b e q
      exact ⟨x, y, e1, .inr q⟩
theorem dpbs2 {G H : Hp} {vs : List V} {a b : D} (h : DpBs K G H vs [a, b]) : ∃ x y, vs = [x, y] ∧ DpB K G H x a ∧ DpB K G H y b := by
  cases h with
  | cons h1 t =>
    cases t with
    | cons h2 t2 =>
      cases t2
      exact ⟨_, _, rfl, h1, h2⟩
theorem dpbs1 {G H : Hp} {vs : List V} {a : D} (h : DpBs K G H vs [a]) : ∃ x, vs = [x] ∧ DpB K G H x a := by
  cases h with
  | cons h1 t => cases t; exact ⟨_, rfl, h1⟩
/-! ### ints -/
def fII (C : Int → Int → Bool) (g : Int → Int → D) : List D → Option D
  | [.int i, .int j] => if C i j = true then some (g i j) else none
  | _ => none
theorem fII_ok {C : Int → Int → Bool} {g : Int → Int → D} {ds : List D} {d : D} (h : fII C g ds = some d) : ∃ i j, ds = [.int i, .int j] ∧ C i j = true ∧ d = g i j := by
  unfold fII at h
  split at h
  · rename_i i j
    split at h
    · rename_i hc
      cases h
      exact ⟨i, j, rfl, hc, rfl⟩
    · cases h
  · cases h
theorem ops_II {C : Int → Int → Prop} {Cb : Int → Int → Bool} {g : Int → Int → V} {gd : Int → Int → D} (hc : ∀ i j, Cb i j = true → C i j) (hg : ∀ i j (G : Hp), Dp K G (g i j) (gd i j)) : OpS K (r2 (rI C g)) (fII Cb gd) := fun vs ds d G H Q s b e q => by
  obtain ⟨i, j, rfl, h1, rfl⟩ := fII_ok e
  obtain ⟨x, y, rfl, bx, byy⟩ := dpbs2 b
  exact ⟨_, _, rfl, i, j, bx.int, byy.int, hc i j h1, q _ H G .refl (hg i j G)⟩
theorem ops_II0 {g : Int → Int → V} {gd : Int → Int → D} (hg : ∀ i j (G : Hp), Dp K G (g i j) (gd i j)) : OpS K (r2 (rI0 g)) (fII (fun _ _ => true) gd) := fun vs ds d G H Q s b e q => by
  obtain ⟨i, j, rfl, h1, rfl⟩ := fII_ok e
  obtain ⟨x, y, rfl, bx, byy⟩ := dpbs2 b
  exact ⟨_, _, rfl, i, j, bx.int, byy.int, q _ H G .refl (hg i j G)⟩
def F_sub : List D → Option D := fII (fun _ _ => true) fun i j => .int (i - j)
theorem s_sub : OpS K (r2 (rI0 fun i j => .int (i - j))) F_sub := ops_II0 fun i j G => .int _
def big64 (i : Int) : Bool := decide (-18446744073709551616 < i) && decide (i < 18446744073709551616)
theorem big64_ok {i : Int} (h : big64 i = true) : -(2 ^ 64) < i ∧ i < 2 ^ 64 := by
  unfold big64 at h
  simp only [Bool.and_eq_true, decide_eq_true_eq] at h
  exact ⟨by omega, by omega⟩
def F_fdiv : List D → Option D := fII (fun _ j => decide (0 < j) && decide (j < 1073741824)) fun i j => .int (i / j)
theorem s_fdiv : OpS K (r2 (rI CDiv fun i j => .int (i / j))) F_fdiv := ops_II (fun i j h => by
  show 0 < j ∧ j < 1073741824
  simpa using h) fun i j G => .int _
def F_mod : List D → Option D := fII (fun _ j => decide (0 < j)) fun i j => .int (i % j)
theorem s_mod : OpS K (r2 (rI (fun _ j => 0 < j) fun i j => .int (i % j))) F_mod := ops_II (fun i j h => by simpa using h) fun i j G => .int _
def F_pow : List D → Option D := fII (fun i j => decide (0 ≤ j) && (decide (j ≤ 1000000) && decide (i.natAbs < 18446744073709551616))) fun i j => .int (i ^ j.toNat)
theorem s_pow : OpS K (r2 (rI CPow fun i j => .int (i ^ j.toNat))) F_pow := ops_II (fun i j h => by
  simp only [Bool.and_eq_true, decide_eq_true_eq] at h
  exact ⟨h.1, h.2.1, by omega⟩) fun i j G => .int _
def F_neg : List D → Option D
  | [.int i] => some (.int (-i))
  | _ => none
theorem s_neg : OpS K (fun vs H Q => ∃ x, vs = [x] ∧ rU (fun i => .int (-i)) x H Q) F_neg := fun vs ds d G H Q s b e q => by
  unfold F_neg at e
  split at e
  · rename_i i
    cases e
    obtain ⟨x, rfl, bx⟩ := dpbs1 b
    exact ⟨_, rfl, i, bx.int, q _ H G .refl (.int _)⟩
  · cases e
/-! ### + -/
def F_addI : List D → Option D := fII (fun _ _ => true) fun i j => .int (i + j)
def F_addS : List D → Option D
  | [.str a, .str b] => if a.length + b.length ≤ sizeLine then some (.str (a ++ b)) else none
  | _ => none
def F_addL : List D → Option D
  | [.list a, .list b] => if a.length + b.length ≤ sizeLine then some (.list (a ++ b)) else none
  | _ => none
def F_addT : List D → Option D
  | [.tuple a, .tuple b] => if a.length + b.length ≤ sizeLine then some (.tuple (a ++ b)) else none
  | _ => none
def F_add : List D → Option D
  | [.int i, .int j] => some (.int (i + j))
  | [.str a, .str b] => if a.length + b.length ≤ sizeLine then some (.str (a ++ b)) else none
  | [.list a, .list b] => if a.length + b.length ≤ sizeLine then some (.list (a ++ b)) else none
  | [.tuple a, .tuple b] => if a.length + b.length ≤ sizeLine then some (.tuple (a ++ b)) else none
  | _ => none
def rCatL (K : PySem.W.Frag) : R2 := fun x y H Q => ∃ l b xs zs, x = .ref l ∧ y = .ref b ∧ SqL K H l xs ∧ SqL K H b zs ∧ xs.length + zs.length ≤ sizeLine ∧ ∀ p, H p = none → Q (.ref p) (upd H p (.lst (xs ++ zs)))
theorem op_catL : OpR X (binaryOp .Add) (rCatL X.K) := by
  intro pins s σ H x y v u Q I rx ry h
  obtain ⟨l, b, xs, zs, rfl, rfl, hH, hB, hz, q⟩ := h
  cases rx
  cases ry
  obtain ⟨its, r, ⟨⟨cls, dd, data, sl⟩, n, e, hc, hdn, hd⟩, z⟩ := I.list hH
  obtain ⟨its2, r2, ⟨⟨cls2, dd2, data2, sl2⟩, n2, e2, hc2, hdn2, hd2⟩, z2⟩ := I.list hB
  simp only at hc hd hc2 hd2
  subst hc hd hc2 hd2
  have l1 := r.length
  have l2 := r2.length
  refine concat_meets ⟨_, e, rfl⟩ ⟨_, e2, rfl⟩ noFill_list_add seq_list_add PySem.F.slot_list_add PySem.F.entry_list_add (PySem.F.args_list_add_2 _ _) (list_addW l b its.toArray its2.toArray n n2 dd dd2 sl sl2 (by rw [List.size_toArray, List.size_toArray]; omega)) ⟨e, e2, ?_⟩
  have ea : its.toArray ++ its2.toArray = (its ++ its2).toArray := by simp
  rw [ea]
  exact ⟨.ref _, _, I.lnew (t' := s.toks) (r.append r2) (by rw [List.length_append]; omega), rfl, q _ I.fresh⟩
theorem s_addI : OpS K (r2 (rI0 fun i j => .int (i + j))) F_addI := ops_II0 fun i j G => .int _
theorem s_addS : OpS K (r2 fun x y H Q => ∃ i j, x = .str i ∧ y = .str j ∧ i.length + j.length ≤ sizeLine ∧ Q (.str (i ++ j)) H) F_addS := fun vs ds d G H Q s b e q => by
  unfold F_addS at e
  split at e
  · rename_i i j
    split at e
    · rename_i hz
      cases e
      obtain ⟨x, y, rfl, bx, byy⟩ := dpbs2 b
      exact ⟨_, _, rfl, i, j, bx.str, byy.str, hz, q _ H G .refl (.str _)⟩
    · cases e
  · cases e
theorem s_addL : OpS K (r2 (rCatL K)) F_addL := fun vs ds d G H Q s b e q => by
  unfold F_addL at e
  split at e
  · rename_i i j
    split at e
    · rename_i hz
      cases e
      obtain ⟨x, y, rfl, bx, byy⟩ := dpbs2 b
      obtain ⟨a1, v1, rfl, h1, d1⟩ := bx.list s
      obtain ⟨a2, v2, rfl, h2, d2⟩ := byy.list s
      refine ⟨_, _, rfl, a1, a2, v1, v2, rfl, rfl, h1, h2, by rw [d1.len, d2.len]; exact hz, fun p hp => ?_⟩
      exact q _ _ _ (.new p _ .refl hp) (.lst (.inl (.inl upd_same)) (dpAll_mono (same_new (sub_none s hp)) _ _ (d1.app d2)))
    · cases e
  · cases e
theorem s_addT : OpS K (r2 (rCatF K)) F_addT := fun vs ds d G H Q s b e q => by
  unfold F_addT at e
  split at e
  · rename_i i j
    split at e
    · rename_i hz
      cases e
      obtain ⟨x, y, rfl, bx, byy⟩ := dpbs2 b
      have t1 := bx.tup s
      have t2 := byy.tup s
      have dx : Dp K G x (.tuple i) := by
        rcases bx with h | ⟨_, _, _, _, e, _⟩
        · exact h
        · cases e
      have dy : Dp K G y (.tuple j) := by
        rcases byy with h | ⟨_, _, _, _, e, _⟩
        · exact h
        · cases e
      obtain ⟨a1, v1, rfl, h1, d1⟩ := t1
      obtain ⟨a2, v2, rfl, h2, d2⟩ := t2
      refine ⟨_, _, rfl, a1, a2, v1, v2, rfl, rfl, h1, h2, by rw [d1.len, d2.len]; exact hz, fun e0 => ?_, fun e0 e1 => ?_, fun e0 e1 p ob hd hp => ?_⟩
      · have : i = [] := d1.nil_iff.mp e0
        subst this
        exact q _ H G .refl dy
      · have : j = [] := d2.nil_iff.mp e1
        subst this
        refine q _ H G .refl ?_
        rw [List.append_nil]
        exact dx
      · exact q _ _ _ (.new p _ .refl hp hd) (.tup (.inl (.inr ⟨_, upd_same⟩)) (dpAll_mono (same_new (sub_none s hp)) _ _ (d1.app d2)))
    · cases e
  · cases e
def rAddA (K : PySem.W.Frag) : R2 := fun x y H Q => (rI0 (fun i j => .int (i + j)) x y H Q ∨ (∃ i j, x = .str i ∧ y = .str j ∧ i.length + j.length ≤ sizeLine ∧ Q (.str (i ++ j)) H)) ∨ (rCatL K x y H Q ∨ rCatF K x y H Q)
theorem op_addA : OpR X (binaryOp .Add) (rAddA X.K) := (op_add.or op_add_str).or (op_catL.or op_catF)
theorem s_add : OpS K (r2 (rAddA K)) F_add := OpS.or2 (F := fun ds => (F_addI ds).orElse fun _ => F_addS ds) (F' := fun ds => (F_addL ds).orElse fun _ => F_addT ds)
  (OpS.or2 s_addI s_addS fun ds d e => by
    cases h : F_addI ds with
    | none => rw [h] at e; exact .inr e
    | some d' => rw [h] at e; exact .inl e)
  (OpS.or2 s_addL s_addT fun ds d e => by
    cases h : F_addL ds with
    | none => rw [h] at e; exact .inr e
    | some d' => rw [h] at e; exact .inl e)
  fun ds d e => by
    unfold F_add at e
    split at e
    · exact .inl e
    · exact .inl e
    · exact .inr (by unfold F_addL F_addT; dsimp only; rw [e]; rfl)
    · exact .inr e
    · cases e
/-! ### * -/
def F_mulI : List D → Option D := fII (fun i j => big64 i || big64 j) fun i j => .int (i * j)
theorem s_mulI : OpS K (r2 (rI CMul fun i j => .int (i * j))) F_mulI := ops_II (fun i j h => by
  rcases (Bool.or_eq_true _ _).mp h with h | h
  · exact .inl (big64_ok h)
  · exact .inr (big64_ok h)) fun i j G => .int _
def F_mulT : List D → Option D
  | [.tuple a, .int k] => if decide (2 ≤ k) && (decide (k ≤ 1000) && (decide (a.length ≤ 1000) && !a.isEmpty)) then some (.tuple (List.replicate k.toNat a).flatten) else none
  | _ => none
theorem s_mulT : OpS K (r2 (rRepF K)) F_mulT := fun vs ds d G H Q s b e q => by
  unfold F_mulT at e
  split at e
  · rename_i a k
    split at e
    · rename_i hz
      cases e
      simp only [Bool.and_eq_true, decide_eq_true_eq, Bool.not_eq_true', List.isEmpty_eq_false_iff] at hz
      obtain ⟨x, y, rfl, bx, byy⟩ := dpbs2 b
      obtain ⟨a1, v1, rfl, h1, d1⟩ := bx.tup s
      refine ⟨_, _, rfl, a1, k, v1, rfl, byy.int, h1, fun z => hz.2.2.2 (d1.nil_iff.mp z), hz.1, hz.2.1, by rw [d1.len]; exact hz.2.2.1, fun p ob hd hp => ?_⟩
      exact q _ _ _ (.new p _ .refl hp hd) (.tup (.inl (.inr ⟨_, upd_same⟩)) (dpAll_mono (same_new (sub_none s hp)) _ _ (d1.rep k.toNat)))
    · cases e
  · cases e
def F_mul : List D → Option D
  | [.int i, .int j] => if (big64 i || big64 j) = true then some (.int (i * j)) else none
  | [.tuple a, .int k] => if decide (2 ≤ k) && (decide (k ≤ 1000) && (decide (a.length ≤ 1000) && !a.isEmpty)) then some (.tuple (List.replicate k.toNat a).flatten) else none
  | _ => none
def rMulA (K : PySem.W.Frag) : R2 := fun x y H Q => rI CMul (fun i j => .int (i * j)) x y H Q ∨ rRepF K x y H Q
theorem op_mulA : OpR X (binaryOp .Mult) (rMulA X.K) := op_mul.or op_repF
theorem s_mul : OpS K (r2 (rMulA K)) F_mul := OpS.or2 s_mulI s_mulT fun ds d e => by
  unfold F_mul at e
  split at e
  · exact .inl e
  · exact .inr e
  · cases e
/-! ### comparisons -/
def strLt (a b : Str) : Bool := decide (a.cps.toList < b.cps.toList)
def intsOf : List D → Option (List Int)
  | [] => some []
  | .int i :: r => (match intsOf r with
    | some l => some (i :: l)
    | none => none)
  | _ => none
theorem intsOf_ok : ∀ {ds : List D} {ns : List Int}, intsOf ds = some ns → ds = ns.map PyData.int
  | [], ns, h => by cases h; rfl
  | d :: r, ns, h => by
    unfold intsOf at h
    split at h
    · rename_i e; cases e
    · rename_i i r' e
      cases e
      cases q : intsOf r with
      | none => rw [q] at h; cases h
      | some l =>
        rw [q] at h
        cases h
        rw [intsOf_ok q]
        rfl
    · cases h
theorem intsOf_map (ns : List Int) : intsOf (ns.map PyData.int) = some ns := by
  induction ns with
  | nil => rfl
  | cons n r ih => show (match intsOf (r.map PyData.int) with | some l => some (n :: l) | none => none) = _; rw [ih]
def fSS (g : Str → Str → D) : List D → Option D
  | [.str i, .str j] => some (g i j)
  | _ => none
theorem s_SS {g : Str → Str → V} {gd : Str → Str → D} (hg : ∀ i j (G : Hp), Dp K G (g i j) (gd i j)) : OpS K (r2 fun x y H Q => ∃ i j, x = .str i ∧ y = .str j ∧ Q (g i j) H) (fSS gd) := fun vs ds d G H Q s b e q => by
  unfold fSS at e
  split at e
  · rename_i i j
    cases e
    obtain ⟨x, y, rfl, bx, byy⟩ := dpbs2 b
    exact ⟨_, _, rfl, i, j, bx.str, byy.str, q _ H G .refl (hg i j G)⟩
  · cases e
def fTT (g : List Int → List Int → Bool) : List D → Option D
  | [.tuple a, .tuple b] => (match intsOf a, intsOf b with
    | some ns, some ms => some (.bool (g ns ms))
    | _, _ => none)
  | _ => none
theorem s_ltT : OpS K (r2 (rLtT K)) (fTT HT.lexLt) := fun vs ds d G H Q s b e q => by
  unfold fTT at e
  split at e
  · rename_i a c
    cases e1 : intsOf a with
    | none => rw [e1] at e; cases e
    | some ns =>
      cases e2 : intsOf c with
      | none => rw [e1, e2] at e; cases e
      | some ms =>
        rw [e1, e2] at e
        cases e
        obtain ⟨x, y, rfl, bx, byy⟩ := dpbs2 b
        obtain ⟨a1, v1, rfl, h1, d1⟩ := bx.tup s
        obtain ⟨a2, v2, rfl, h2, d2⟩ := byy.tup s
        rw [intsOf_ok e1] at d1
        rw [intsOf_ok e2] at d2
        rw [d1.ints] at h1
        rw [d2.ints] at h2
        exact ⟨_, _, rfl, a1, a2, ns, ms, rfl, rfl, h1, h2, q _ H G .refl (.bl _)⟩
  · cases e
def F_lt : List D → Option D
  | [.int i, .int j] => some (.bool (decide (i < j)))
  | [.str i, .str j] => some (.bool (decide (i.cps.toList < j.cps.toList)))
  | [.tuple a, .tuple b] => (match intsOf a, intsOf b with
    | some ns, some ms => some (.bool (HT.lexLt ns ms))
    | _, _ => none)
  | _ => none
def rLtA (K : PySem.W.Frag) : R2 := fun x y H Q => (rI0 (fun i j => .bl (decide (i < j))) x y H Q ∨ (∃ i j, x = .str i ∧ y = .str j ∧ Q (.bl (decide (i.cps.toList < j.cps.toList))) H)) ∨ rLtT K x y H Q
theorem op_ltA {k : Nat} (hr : Room k X.A) : OpR X (compareOp .Lt) (rLtA X.K) := (op_lt.or op_lt_str).or (op_ltT hr.units0)
theorem s_lt : OpS K (r2 (rLtA K)) F_lt := OpS.or2 (F := fun ds => match ds with | [.tuple _, .tuple _] => none | _ => F_lt ds) (OpS.or2 (ops_II0 (gd := fun i j => .bool (decide (i < j))) fun i j G => .bl _) (s_SS (gd := fun i j => .bool (decide (i.cps.toList < j.cps.toList))) fun i j G => .bl _) fun ds d e => by
    split at e
    · cases e
    · unfold F_lt at e
      split at e
      · exact .inl e
      · exact .inr e
      · rename_i h; exact (h _ _ rfl).elim
      · cases e) s_ltT fun ds d e => by
    split
    · exact .inr e
    · exact .inl e
def F_le : List D → Option D
  | [.int i, .int j] => some (.bool (decide (i ≤ j)))
  | [.str i, .str j] => some (.bool (!decide (j.cps.toList < i.cps.toList)))
  | _ => none
def rLeA : R2 := fun x y H Q => rI0 (fun i j => .bl (decide (i ≤ j))) x y H Q ∨ ∃ i j, x = .str i ∧ y = .str j ∧ Q (.bl (!decide (j.cps.toList < i.cps.toList))) H
theorem op_leA : OpR X (compareOp .LtE) rLeA := op_le.or op_le_str
theorem s_le : OpS K (r2 rLeA) F_le := OpS.or2 (ops_II0 (gd := fun i j => .bool (decide (i ≤ j))) fun i j G => .bl _) (s_SS (gd := fun i j => .bool (!decide (j.cps.toList < i.cps.toList))) fun i j G => .bl _) fun ds d e => by
  unfold F_le at e
  split at e
  · exact .inl e
  · exact .inr e
  · cases e
def F_gt : List D → Option D
  | [.int i, .int j] => some (.bool (decide (j < i)))
  | [.str i, .str j] => some (.bool (decide (j.cps.toList < i.cps.toList)))
  | _ => none
def rGtA : R2 := fun x y H Q => rI0 (fun i j => .bl (decide (j < i))) x y H Q ∨ ∃ i j, x = .str i ∧ y = .str j ∧ Q (.bl (decide (j.cps.toList < i.cps.toList))) H
theorem op_gtA : OpR X (compareOp .Gt) rGtA := op_gt.or op_gt_str
theorem s_gt : OpS K (r2 rGtA) F_gt := OpS.or2 (ops_II0 (gd := fun i j => .bool (decide (j < i))) fun i j G => .bl _) (s_SS (gd := fun i j => .bool (decide (j.cps.toList < i.cps.toList))) fun i j G => .bl _) fun ds d e => by
  unfold F_gt at e
  split at e
  · exact .inl e
  · exact .inr e
  · cases e
def F_ge : List D → Option D
  | [.int i, .int j] => some (.bool (decide (j ≤ i)))
  | [.str i, .str j] => some (.bool (!decide (i.cps.toList < j.cps.toList)))
  | _ => none
def rGeA : R2 := fun x y H Q => rI0 (fun i j => .bl (decide (j ≤ i))) x y H Q ∨ ∃ i j, x = .str i ∧ y = .str j ∧ Q (.bl (!decide (i.cps.toList < j.cps.toList))) H
theorem op_geA : OpR X (compareOp .GtE) rGeA := op_ge.or op_ge_str
theorem s_ge : OpS K (r2 rGeA) F_ge := OpS.or2 (ops_II0 (gd := fun i j => .bool (decide (j ≤ i))) fun i j G => .bl _) (s_SS (gd := fun i j => .bool (!decide (i.cps.toList < j.cps.toList))) fun i j G => .bl _) fun ds d e => by
  unfold F_ge at e
  split at e
  · exact .inl e
  · exact .inr e
  · cases e
def F_eq : List D → Option D
  | [a, b] => if (SeqAt.shaped a && SeqAt.shaped b) = true then some (.bool (PyData.eqv a b)) else none
  | _ => none
theorem s_eq : OpS K (r2 (rEqD K)) F_eq := fun vs ds d G H Q s b e q => by
  unfold F_eq at e
  split at e
  · rename_i i j
    split at e
    · rename_i hz
      cases e
      obtain ⟨h1, h2⟩ := Bool.and_eq_true_iff.mp hz
      obtain ⟨x, y, rfl, bx, byy⟩ := dpbs2 b
      exact ⟨_, _, rfl, i, j, bx.deep s, byy.deep s, h1, h2, q _ H G .refl (.bl _)⟩
    · cases e
  · cases e
def F_ne : List D → Option D
  | [a, b] => if (SeqAt.shaped a && SeqAt.shaped b) = true then some (.bool (!PyData.eqv a b)) else none
  | _ => none
theorem s_ne : OpS K (r2 (rNeD K)) F_ne := fun vs ds d G H Q s b e q => by
  unfold F_ne at e
  split at e
  · rename_i i j
    split at e
    · rename_i hz
      cases e
      obtain ⟨h1, h2⟩ := Bool.and_eq_true_iff.mp hz
      obtain ⟨x, y, rfl, bx, byy⟩ := dpbs2 b
      exact ⟨_, _, rfl, i, j, bx.deep s, byy.deep s, h1, h2, q _ H G .refl (.bl _)⟩
    · cases e
  · cases e
/-! ### items -/
def F_ix : List D → Option D
  | [.list xs, .int i] => atI xs i
  | [.tuple xs, .int i] => atI xs i
  | [.str z, .int i] => if z.length ≤ sizeLine then (match atI z.cps.toList i with
    | some c => some (.str ⟨#[c]⟩)
    | none => none) else none
  | _ => none
theorem atI_dp {G : Hp} {vs : List V} {ds : List D} {i : Int} {d : D} (h : DpAll K G vs ds) (e : atI ds i = some d) : ∃ v, atI vs i = some v ∧ Dp K G v d := by
  unfold atI at e ⊢
  rw [h.len]
  cases q : ixN ds.length i with
  | none => rw [q] at e; cases e
  | some j =>
    rw [q] at e
    exact h.get e
theorem s_ix : OpS K (r2 (rIx K)) F_ix := fun vs ds d G H Q s b e q => by
  unfold F_ix at e
  split at e
  · rename_i xs i
    obtain ⟨x, y, rfl, bx, byy⟩ := dpbs2 b
    obtain ⟨a1, v1, rfl, h1, d1⟩ := bx.list s
    obtain ⟨v, e1, dv⟩ := atI_dp d1 e
    exact ⟨_, _, rfl, .inl ⟨a1, v1, i, v, rfl, byy.int, h1, e1, q _ H G .refl dv⟩⟩
  · rename_i xs i
    obtain ⟨x, y, rfl, bx, byy⟩ := dpbs2 b
    obtain ⟨a1, v1, rfl, h1, d1⟩ := bx.tup s
    obtain ⟨v, e1, dv⟩ := atI_dp d1 e
    exact ⟨_, _, rfl, .inr (.inl ⟨a1, v1, i, v, rfl, byy.int, h1, e1, q _ H G .refl dv⟩)⟩
  · rename_i z i
    split at e
    · rename_i hz
      split at e
      · rename_i c ec
        cases e
        obtain ⟨x, y, rfl, bx, byy⟩ := dpbs2 b
        exact ⟨_, _, rfl, .inr (.inr ⟨z, i, c, bx.str, byy.int, hz, ec, q _ H G .refl (.str _)⟩)⟩
      · cases e
    · cases e
  · cases e
/-! ### built-ins -/
def F_len : List D → Option D
  | [.list xs] => some (.int xs.length)
  | [.tuple xs] => some (.int xs.length)
  | [.str z] => if z.length ≤ sizeLine then some (.int z.length) else none
  | _ => none
def rLenA (K : PySem.W.Frag) : List V → Hp → VK → Prop := fun xs H Q => (∃ p ys, xs = [.ref p] ∧ (SqL K H p ys ∨ SqT K H p ys) ∧ Q (.int ys.length) H) ∨ ∃ z, xs = [.str z] ∧ z.length ≤ sizeLine ∧ Q (.int z.length) H
theorem cl_len : CallR X (.builtin "len") (rLenA X.K) := call_len_seq.or call_len_str
theorem s_len : OpS K (rLenA K) F_len := fun vs ds d G H Q s b e q => by
  unfold F_len at e
  split at e
  · cases e
    obtain ⟨x, rfl, bx⟩ := dpbs1 b
    obtain ⟨a1, v1, rfl, h1, d1⟩ := bx.list s
    rw [← d1.len] at q
    exact .inl ⟨a1, v1, rfl, .inl h1, q _ H G .refl (.int _)⟩
  · cases e
    obtain ⟨x, rfl, bx⟩ := dpbs1 b
    obtain ⟨a1, v1, rfl, h1, d1⟩ := bx.tup s
    rw [← d1.len] at q
    exact .inl ⟨a1, v1, rfl, .inr h1, q _ H G .refl (.int _)⟩
  · rename_i z
    split at e
    · rename_i hz
      cases e
      obtain ⟨x, rfl, bx⟩ := dpbs1 b
      exact .inr ⟨z, by rw [bx.str], hz, q _ H G .refl (.int _)⟩
    · cases e
  · cases e
def F_abs : List D → Option D
  | [.int i] => some (.int (if i < 0 then -i else i))
  | _ => none
theorem s_abs : OpS K (fun xs H Q => ∃ i, xs = [.int i] ∧ Q (.int (if i < 0 then -i else i)) H) F_abs := fun vs ds d G H Q s b e q => by
  unfold F_abs at e
  split at e
  · cases e
    obtain ⟨x, rfl, bx⟩ := dpbs1 b
    exact ⟨_, by rw [bx.int], q _ H G .refl (.int _)⟩
  · cases e
def F_int : List D → Option D
  | [.int i] => some (.int i)
  | [.bool k] => some (.int (if k then 1 else 0))
  | _ => none
theorem s_int : OpS K (fun xs H Q => (∃ i, xs = [.int i] ∧ Q (.int i) H) ∨ ∃ k, xs = [.bl k] ∧ Q (.int (if k then 1 else 0)) H) F_int := fun vs ds d G H Q s b e q => by
  unfold F_int at e
  split at e
  · cases e
    obtain ⟨x, rfl, bx⟩ := dpbs1 b
    exact .inl ⟨_, by rw [bx.int], q _ H G .refl (.int _)⟩
  · cases e
    obtain ⟨x, rfl, bx⟩ := dpbs1 b
    exact .inr ⟨_, by rw [bx.bool], q _ H G .refl (.int _)⟩
  · cases e
def F_list : List D → Option D
  | [.list xs] => some (.list xs)
  | [.tuple xs] => some (.list xs)
  | _ => none
theorem s_list : OpS K (fun xs H Q => ∃ p ys, xs = [.ref p] ∧ (SqL K H p ys ∨ SqT K H p ys) ∧ ∀ l, H l = none → Q (.ref l) (upd H l (.lst ys))) F_list := fun vs ds d G H Q s b e q => by
  unfold F_list at e
  split at e
  · cases e
    obtain ⟨x, rfl, bx⟩ := dpbs1 b
    obtain ⟨a1, v1, rfl, h1, d1⟩ := bx.list s
    exact ⟨a1, v1, rfl, .inl h1, fun p hp => q _ _ _ (.new p _ .refl hp) (.lst (.inl (.inl upd_same)) (dpAll_mono (same_new (sub_none s hp)) _ _ d1))⟩
  · cases e
    obtain ⟨x, rfl, bx⟩ := dpbs1 b
    obtain ⟨a1, v1, rfl, h1, d1⟩ := bx.tup s
    exact ⟨a1, v1, rfl, .inr h1, fun p hp => q _ _ _ (.new p _ .refl hp) (.lst (.inl (.inl upd_same)) (dpAll_mono (same_new (sub_none s hp)) _ _ d1))⟩
  · cases e
def F_tuple : List D → Option D
  | [.list xs] => some (.tuple xs)
  | [.tuple xs] => some (.tuple xs)
  | _ => none
theorem s_tuple : OpS K (fun xs H Q => ∃ p ys, xs = [.ref p] ∧ ((SqL K H p ys ∧ NewT ys H Q) ∨ (SqT K H p ys ∧ Q (.ref p) H))) F_tuple := fun vs ds d G H Q s b e q => by
  unfold F_tuple at e
  split at e
  · cases e
    obtain ⟨x, rfl, bx⟩ := dpbs1 b
    obtain ⟨a1, v1, rfl, h1, d1⟩ := bx.list s
    exact ⟨a1, v1, rfl, .inl ⟨h1, fun p ob hd hp => q _ _ _ (.new p _ .refl hp hd) (.tup (.inl (.inr ⟨_, upd_same⟩)) (dpAll_mono (same_new (sub_none s hp)) _ _ d1))⟩⟩
  · cases e
    obtain ⟨x, rfl, bx⟩ := dpbs1 b
    have bx2 := bx
    obtain ⟨a1, v1, rfl, h1, d1⟩ := bx.tup s
    refine ⟨a1, v1, rfl, .inr ⟨h1, q _ H G .refl ?_⟩⟩
    rcases bx2 with h | ⟨_, _, _, _, e, _⟩
    · exact h
    · cases e
  · cases e
def boolsOf : List D → Option (List Bool)
  | [] => some []
  | .bool i :: r => (match boolsOf r with
    | some l => some (i :: l)
    | none => none)
  | _ => none
theorem boolsOf_ok : ∀ {ds : List D} {ns : List Bool}, boolsOf ds = some ns → ds = ns.map PyData.bool
  | [], ns, h => by cases h; rfl
  | d :: r, ns, h => by
    unfold boolsOf at h
    split at h
    · rename_i e; cases e
    · rename_i i r' e
      cases e
      cases q : boolsOf r with
      | none => rw [q] at h; cases h
      | some l =>
        rw [q] at h
        cases h
        rw [boolsOf_ok q]
        rfl
    · cases h
theorem boolsOf_map (ns : List Bool) : boolsOf (ns.map PyData.bool) = some ns := by
  induction ns with
  | nil => rfl
  | cons n r ih => show (match boolsOf (r.map PyData.bool) with | some l => some (n :: l) | none => none) = _; rw [ih]
def F_all : List D → Option D
  | [.list xs] => (match boolsOf xs with
    | some bs => some (.bool (bs.all id))
    | none => none)
  | _ => none
theorem s_all : OpS K (rAll K) F_all := fun vs ds d G H Q s b e q => by
  unfold F_all at e
  split at e
  · split at e
    · rename_i bs eb
      cases e
      obtain ⟨x, rfl, bx⟩ := dpbs1 b
      obtain ⟨a1, v1, rfl, h1, d1⟩ := bx.list s
      rw [boolsOf_ok eb] at d1
      rw [d1.bls] at h1
      exact ⟨a1, bs, rfl, h1, q _ H G .refl (.bl _)⟩
    · cases e
  · cases e
def F_any : List D → Option D
  | [.list xs] => (match boolsOf xs with
    | some bs => some (.bool (bs.any id))
    | none => none)
  | _ => none
theorem s_any : OpS K (rAny K) F_any := fun vs ds d G H Q s b e q => by
  unfold F_any at e
  split at e
  · split at e
    · rename_i bs eb
      cases e
      obtain ⟨x, rfl, bx⟩ := dpbs1 b
      obtain ⟨a1, v1, rfl, h1, d1⟩ := bx.list s
      rw [boolsOf_ok eb] at d1
      rw [d1.bls] at h1
      exact ⟨a1, bs, rfl, h1, q _ H G .refl (.bl _)⟩
    · cases e
  · cases e
def F_sum : List D → Option D
  | [.list xs] => (match intsOf xs with
    | some ns => some (.int ns.sum)
    | none => none)
  | _ => none
theorem s_sum : OpS K (rSum K) F_sum := fun vs ds d G H Q s b e q => by
  unfold F_sum at e
  split at e
  · split at e
    · rename_i bs eb
      cases e
      obtain ⟨x, rfl, bx⟩ := dpbs1 b
      obtain ⟨a1, v1, rfl, h1, d1⟩ := bx.list s
      rw [intsOf_ok eb] at d1
      rw [d1.ints] at h1
      exact ⟨a1, bs, rfl, h1, q _ H G .refl (.int _)⟩
    · cases e
  · cases e
end
end SW
set_option Elab.async false
set_option linter.all false
set_option maxRecDepth 100000
set_option maxHeartbeats 2000000
/-! SWMore: displays, slices, isinstance, range as a value, methods, in, sorted. -/
namespace SW
open PySem PySem.Spec PyProof.Rows L2
variable [Tab]
/-! ### displays -/
def evsD : List AE → AM (List D)
  | [] => fun ρ => .ok [] ρ
  | f :: fs => fun ρ => (f ρ).bind fun d ρ1 => (evsD fs ρ1).bind fun ds ρ2 => .ok (d :: ds) ρ2
def tDs (K : PySem.W.Frag) (E : WX) : List AE → TA
  | [] => tNil
  | f :: fs => tCons (tX K E f) (tDs K E fs)
abbrev EDs (X : Cx) (E : WX) (es : List Expr) (fs : List AE) : Prop := PA X es (tDs X.K E fs)
theorem evsD_step {K : PySem.W.Frag} {E : WX} {σ : L2.St} {β : Type} {k : List D → En → R β} {Z : β → En → Hp → Hp → Prop} : ∀ {fs : List AE} {ρ : En} {H G : Hp} {Q : List V → Hp → Prop} (er : ER K ρ σ H G) (h : Out K E ((evsD fs ρ).bind k) ρ σ H G Z)
    (q : ∀ vs ds ρ1 H1 G1, ER K ρ1 σ H1 G1 → Step ρ σ H G ρ1 σ H1 G1 → DpAll K G1 vs ds → Out K E (k ds ρ1) ρ1 σ H1 G1 Z → Q vs H1), tDs K E fs σ H Q
  | [], ρ, H, G, Q, er, h, q => q [] [] ρ H G er .refl .nil h
  | f :: fs, ρ, H, G, Q, er, h, q => by
    have e : (evsD (f :: fs) ρ).bind k = (f ρ).bind fun d ρ1 => (evsD fs ρ1).bind fun ds ρ2 => k (d :: ds) ρ2 := by
      show ((f ρ).bind _).bind k = _
      cases f ρ with
      | ok v ρ1 => show ((evsD fs ρ1).bind _).bind k = (evsD fs ρ1).bind _; cases evsD fs ρ1 <;> rfl
      | err x ρ1 => rfl
      | bad => rfl
    rw [e] at h
    refine tx_of er h fun v d ρ1 H1 G1 er1 s1 dp h1 => ?_
    exact evsD_step (k := fun ds ρ2 => k (d :: ds) ρ2) er1 h1 fun vs ds ρ2 H2 G2 er2 s2 dps h2 => q (v :: vs) (d :: ds) ρ2 H2 G2 er2 (s1.trans s2) (.cons (dp_mono s2.sg _ _ dp) dps) h2
def aTup (fs : List AE) : AE := fun ρ => (evsD fs ρ).bind fun ds ρ1 => if ds.length ≤ sizeLine then .ok (.tuple ds) ρ1 else .bad
/-- a list just made -/
def fLst (fs : List AE) : AM (List D) := fun ρ => (evsD fs ρ).bind fun ds ρ1 => if ds.length ≤ sizeLine then .ok ds ρ1 else .bad
/-- a list just made that stands for good -/
def aFr (f : AM (List D)) : AE := fun ρ => (f ρ).bind fun ds ρ1 => .ok (.list ds) ρ1
section
variable {X : Cx} {E : WX} {pos : Pos} {a b e : Expr} {es : List Expr} {fs : List AE} {f g : AE} {o o1 o2 : Opd}
theorem d_nil : EDs X E [] [] := pa_nil
theorem d_cons (ha : EV X E e f) (hr : EDs X E es fs) (hs : starEach (e :: es) X.env = (false, eval e X.env) :: starEach es X.env := by rfl) : EDs X E (e :: es) (f :: fs) := pa_cons ha hr hs
theorem v_tup {k : Nat} (h : EDs X E es fs) : EV X E (.Tuple es k pos) (aTup fs) :=
  PE.imp (pe_tupF h) fun σ H Q ⟨ρ, G, er, h⟩ => evsD_step er h fun vs ds ρ1 H1 G1 er1 s1 dps h1 => by
    split at h1
    · rename_i hz
      refine ⟨by rw [dps.len]; exact hz, fun p ob hd hp => ?_⟩
      exact h1 _ _ (er1.new (o := .frz ob (.tup _)) hp hd) (er1.stepNew hp) _ (.tup (.inl (.inr ⟨_, upd_same⟩)) (dpAll_mono (same_new (sub_none er1.sub hp)) _ _ dps))
    · exact h1.elim
theorem not_owned_new {K : PySem.W.Frag} {ρ : En} {σ : L2.St} {H G : Hp} {p : Addr} (er : ER K ρ σ H G) (hp : H p = none) : ¬ Owned ρ σ p := fun z => by
  obtain ⟨⟨vs, e⟩, _⟩ := er.owned z
  rw [hp] at e
  cases e
theorem f_lst (h : EDs X E es fs) : EF X E (.List es pos) (fLst fs) :=
  PE.imp (pe_lst h) fun σ H Q ⟨ρ, G, er, h⟩ => evsD_step er h fun vs ds ρ1 H1 G1 er1 s1 dps h1 => by
    split at h1
    · rename_i hz
      refine ⟨by rw [dps.len]; exact hz, fun p hp => ?_⟩
      exact h1 _ _ (er1.lay hp) (er1.stepLay hp) p vs (s1.there p hp) (sub_none er1.sub hp) upd_same (not_owned_new er1 hp) dps
    · exact h1.elim
/-- what was just made stands for good -/
theorem ER.settle {K : PySem.W.Frag} {ρ : En} {σ : L2.St} {H G : Hp} {a : Addr} {vs : List V} (er : ER K ρ σ H G) (hG : G a = none) (hH : H a = some (.lst vs)) (no : ¬ Owned ρ σ a) :
    ER K ρ σ H (upd G a (.lst vs)) := by
  refine ⟨er.len, fun b x e => ?_, fun i d e => ?_, fun i io ds e => ?_, er.inj, er.raw, er.tabs, ng_upd er.ng trivial⟩
  · by_cases hb : b = a
    · subst hb; rw [upd_same] at e; cases e; exact hH
    · rw [upd_ne hb] at e; exact er.sub _ _ e
  · obtain ⟨v, h1, h2⟩ := er.pl i d e
    exact ⟨v, h1, dp_mono (same_new hG) _ _ h2⟩
  · obtain ⟨b, ws, h1, h2, h3, h4⟩ := er.own i io ds e
    have ne : b ≠ a := fun z => no (by rw [← z]; exact ⟨i, io, ds, e, h1⟩)
    exact ⟨b, ws, h1, by rw [upd_ne ne]; exact h2, h3, dpAll_mono (same_new hG) _ _ h4⟩
theorem Step.settle {ρ ρ1 : En} {σ σ1 : L2.St} {H G H1 G1 : Hp} {a : Addr} {vs : List V} (s1 : Step ρ σ H G ρ1 σ1 H1 G1) (n0 : H a = none) (n1 : G1 a = none) : Step ρ σ H G ρ1 σ1 H1 (upd G1 a (.lst vs)) :=
  ⟨s1.sg.trans (same_new n1), fun b o hb nt hn => by
    obtain ⟨h1, h2⟩ := s1.keep b o hb nt hn
    refine ⟨h1, ?_⟩
    rw [upd_ne (ne_of_none hb n0)]
    exact h2, s1.there, s1.osub, s1.io, s1.ln⟩
theorem v_fr {fl : AM (List D)} (h : EF X E e fl) : EV X E e (aFr fl) :=
  PE.imp h fun σ H Q ⟨ρ, G, er, h⟩ => ⟨ρ, G, er, by
    unfold aFr at h
    cases q : fl ρ with
    | ok ds ρ1 =>
      rw [q] at h
      intro H1 G1 er1 s1 a vs n0 n1 e1 no dps
      exact h H1 _ (er1.settle n1 e1 no) (s1.settle n0 n1) _ (.lst (.inl (.inl upd_same)) (dpAll_mono (same_new n1) _ _ dps))
    | err x ρ1 => rw [q] at h; exact h
    | bad => rw [q] at h; exact h⟩
/-! ### list * int, a list just made -/
def fRep (fl : AM (List D)) (o : Opd) : AM (List D) := fun ρ => (fl ρ).bind fun ds ρ1 => (o.ev ρ1).bind fun ov ρ2 => match ov.get ρ2 with
  | some (.int k) => if decide (-9223372036854775808 ≤ k) && (decide (k < 9223372036854775808) && decide (ds.length * k.toNat ≤ sizeLine)) then .ok (List.replicate k.toNat ds).flatten ρ2 else .bad
  | _ => .bad
theorem f_rep {fl : AM (List D)} (h1 : EF X E a fl) (h2 : EO X E b o) : EF X E (.BinOp a .Mult b pos) (fRep fl o) :=
  PE.imp (pe_op op_rep h1 h2) fun σ H Q ⟨ρ, G, er, h⟩ => ⟨ρ, G, er, by
    unfold fRep at h
    cases q : fl ρ with
    | err x ρ1 => rw [q] at h; exact h
    | bad => rw [q] at h; exact h
    | ok ds ρ1 =>
      rw [q] at h
      intro H1 G1 er1 s1 l vs n0 n1 e1 no dps
      have h3 := Out.shift (show Out X.K E ((o.ev ρ1).bind _) ρ σ H G _ from h) s1
      refine opd_step er1 h3 fun v ov ρ2 H2 G2 er2 s2 rel h4 => ?_
      cases e : ov.get ρ2 with
      | none => rw [e] at h4; exact h4.elim
      | some d =>
        rw [e] at h4
        cases d with
        | int k =>
          dsimp only at h4
          split at h4
          · rename_i hz
            simp only [Bool.and_eq_true, decide_eq_true_eq] at hz
            have bk := (rel.get er2 e).int
            subst bk
            obtain ⟨e2, g2⟩ := s2.keep l _ e1 nt_lst no
            refine ⟨l, k, vs, rfl, rfl, e2, by omega, by omega, by rw [dps.len]; exact hz.2.2, fun p hp => ?_⟩
            exact h4 _ _ (er2.lay hp) (er2.stepLay hp) p _ (s1.there p (s2.there p hp)) (sub_none er2.sub hp) upd_same (not_owned_new er2 hp) ((dpAll_mono s2.sg _ _ dps).rep k.toNat)
          · exact h4.elim
        | _ => exact h4.elim⟩
/-! ### list + list as a list just made -/
def fOps (F : List D → Option D) (os : List Opd) : AM (List D) := fun ρ => (evs os ρ).bind fun vs ρ' => match getAll ρ' vs with
  | some ds => (match F ds with
    | some (.list xs) => .ok xs ρ'
    | _ => .bad)
  | none => .bad
/-- an operation whose answer is a list just made -/
def OpF (K : PySem.W.Frag) (r : List V → Hp → VK → Prop) (F : List D → Option D) : Prop :=
  ∀ vs ds xs G H Q, Same G H → DpBs K G H vs ds → F ds = some (.list xs) → (∀ p us, H p = none → DpAll K G us xs → Q (.ref p) (upd H p (.lst us))) → r vs H Q
theorem fops_end {K : PySem.W.Frag} {ρ ρ0 : En} {σ : L2.St} {H G H0 G0 : Hp} {F : List D → Option D} {r : List V → Hp → VK → Prop} (hs : OpF K r F) {vs : List V} {ovs : List OV} {Q : VK} (er : ER K ρ σ H G) (st : Step ρ0 σ H0 G0 ρ σ H G) (rel : ORels K σ G vs ovs)
    (h : Out K E (match getAll ρ ovs with | some ds => (match F ds with | some (.list xs) => R.ok xs ρ | _ => .bad) | none => .bad) ρ σ H G (ZF K σ H0 Q)) : r vs H Q := by
  cases e : getAll ρ ovs with
  | none => rw [e] at h; exact h.elim
  | some ds =>
    rw [e] at h
    dsimp only at h
    split at h
    · rename_i xs e2
      refine hs vs ds xs G H Q er.sub (rel.get er e) e2 fun p us hp dps => ?_
      exact h _ _ (er.lay hp) (er.stepLay hp) p us (st.there p hp) (sub_none er.sub hp) upd_same (not_owned_new er hp) dps
    · exact h.elim
theorem f_two {r : R2} {F : List D → Option D} {op : Operator} (ho : OpR X (binaryOp op) r) (hs : OpF X.K (r2 r) F) (h1 : EO X E a o1) (h2 : EO X E b o2) : EF X E (.BinOp a op b pos) (fOps F [o1, o2]) :=
  PE.imp (pe_op ho h1 h2) fun σ H Q ⟨ρ, G, er, h⟩ => by
    have h2 : tOs X.K E [o1, o2] σ H (fun vs H' => r2 r vs H' Q) := evs_step er h fun vs ovs ρ1 H1 G1 er1 s1 rel h1 => fops_end hs er1 s1 rel h1
    have h3 : tO X.K E o1 σ H fun x H1 => tO X.K E o2 σ H1 fun y H2 => r2 r [x, y] H2 Q := h2
    have conv : ∀ (o : Opd) (σ : L2.St) (H : Hp) (Q Q' : VK), (∀ v H', Q v H' → Q' v H') → tO X.K E o σ H Q → tO X.K E o σ H Q' := fun o σ H Q Q' i h => by
      cases o with
      | ex f =>
        obtain ⟨ρ, G, er, h⟩ := h
        exact ⟨ρ, G, er, h.imp fun d ρ' H' G' _ _ z v dp => i _ _ (z v dp)⟩
      | br i' =>
        obtain ⟨v, e, h⟩ := h
        exact ⟨v, e, i _ _ h⟩
    refine conv _ _ _ _ _ (fun x H1 h4 => conv _ _ _ _ _ (fun y H2 h5 => ?_) h4) h3
    obtain ⟨x', y', e, q⟩ := h5
    cases e
    exact q
theorem g_addL : OpF X.K (r2 (rCatL X.K)) F_addL := fun vs ds xs G H Q s b e q => by
  unfold F_addL at e
  split at e
  · rename_i i j
    split at e
    · rename_i hz
      cases e
      obtain ⟨x, y, rfl, bx, byy⟩ := dpbs2 b
      obtain ⟨a1, v1, rfl, h1, d1⟩ := bx.list s
      obtain ⟨a2, v2, rfl, h2, d2⟩ := byy.list s
      exact ⟨_, _, rfl, a1, a2, v1, v2, rfl, rfl, h1, h2, by rw [d1.len, d2.len]; exact hz, fun p hp => q p _ hp (d1.app d2)⟩
    · cases e
  · cases e
theorem f_callT {x : Str} {p : Pos} {T : String} {e : Expr} {es : List Expr} {os : List Opd} {F : List D → Option D} {r : List V → Hp → VK → Prop} (hc : CallR X (.type T) r) (hs : OpF X.K r F) (hg : Gl X x) (hm : X.mg x = none) (hv : bootBuiltins x = some (.type T)) (ha : EOs X E (e :: es) os)
    (hn : x ≠ "__name__" := by decide) (hdb : (x == ("__debug__" : Str)) = false := by decide) (he : starEach (e :: es) X.env = (false, eval e X.env) :: starEach es X.env := by rfl) (hpl : (backTo pos (starEach es X.env)).any (·.1) = false := by rfl) :
    EF X E (.Call (.Name x p) (e :: es) [] pos) (fOps F os) :=
  PE.imp (pe_callTy hc hg hm hv ha hn hdb he hpl) fun σ H Q ⟨ρ, G, er, h⟩ => evs_step er h fun vs ovs ρ1 H1 G1 er1 s1 rel h1 => fops_end hs er1 s1 rel h1
theorem f_callB {x : Str} {p : Pos} {id : String} {e : Expr} {es : List Expr} {os : List Opd} {F : List D → Option D} {r : List V → Hp → VK → Prop} (hc : CallR X (.builtin id) r) (hs : OpF X.K r F) (hg : Gl X x) (hm : X.mg x = none) (hv : bootBuiltins x = some (.builtin id)) (ha : EOs X E (e :: es) os)
    (hn : x ≠ "__name__" := by decide) (hdb : (x == ("__debug__" : Str)) = false := by decide) (he : starEach (e :: es) X.env = (false, eval e X.env) :: starEach es X.env := by rfl) (hpl : (backTo pos (starEach es X.env)).any (·.1) = false := by rfl) :
    EF X E (.Call (.Name x p) (e :: es) [] pos) (fOps F os) :=
  PE.imp (pe_callB hc hg hm hv ha hn hdb he hpl) fun σ H Q ⟨ρ, G, er, h⟩ => evs_step er h fun vs ovs ρ1 H1 G1 er1 s1 rel h1 => fops_end hs er1 s1 rel h1
theorem g_list : OpF X.K (fun xs H Q => ∃ p ys, xs = [.ref p] ∧ (SqL X.K H p ys ∨ SqT X.K H p ys) ∧ ∀ l, H l = none → Q (.ref l) (upd H l (.lst ys))) F_list := fun vs ds xs G H Q s b e q => by
  unfold F_list at e
  split at e
  · cases e
    obtain ⟨x, rfl, bx⟩ := dpbs1 b
    obtain ⟨a1, v1, rfl, h1, d1⟩ := bx.list s
    exact ⟨a1, v1, rfl, .inl h1, fun p hp => q p _ hp d1⟩
  · cases e
    obtain ⟨x, rfl, bx⟩ := dpbs1 b
    obtain ⟨a1, v1, rfl, h1, d1⟩ := bx.tup s
    exact ⟨a1, v1, rfl, .inr h1, fun p hp => q p _ hp d1⟩
  · cases e
/-! ### range -/
def rgD (a b : Int) : List D := (List.range (b - a).toNat).map fun i => .int (a + (i : Nat))
theorem rgD_dp {K : PySem.W.Frag} {G : Hp} (a b : Int) : DpAll K G (rgV a b) (rgD a b) := by
  have e1 : rgV a b = ((List.range (b - a).toNat).map fun i => a + ((i : Nat) : Int)).map V.int := by unfold rgV; rw [List.map_map]; rfl
  have e2 : rgD a b = ((List.range (b - a).toNat).map fun i => a + ((i : Nat) : Int)).map PyData.int := by unfold rgD; rw [List.map_map]; rfl
  rw [e1, e2]
  exact DpAll.of_ints _
def rgOk (a b : Int) : Bool := decide (-4611686018427387904 ≤ a) && (decide (a < 4611686018427387904) && (decide (-4611686018427387904 ≤ b) && (decide (b < 4611686018427387904) && decide ((b - a).toNat ≤ 16777216))))
theorem rgOk_ok {a b : Int} (h : rgOk a b = true) : RgOk a b := by
  unfold rgOk at h
  simp only [Bool.and_eq_true, decide_eq_true_eq] at h
  exact ⟨by omega, by omega, by omega, by omega, by omega⟩
/-- the bounds of a range -/
def aRg1 (f : AE) : AM (Int × Int) := fun ρ => (f ρ).bind fun d ρ1 => match d with
  | .int n => .ok (0, n) ρ1
  | _ => .bad
def aRg2 (f g : AE) : AM (Int × Int) := fun ρ => (f ρ).bind fun d ρ1 => match d with
  | .int i => (g ρ1).bind fun d ρ2 => (match d with
    | .int j => .ok (i, j) ρ2
    | _ => .bad)
  | _ => .bad
def tRgA (K : PySem.W.Frag) (E : WX) (f : AM (Int × Int)) : L2.St → Hp → (Int → Int → Hp → Prop) → Prop := fun σ H Q => ∃ ρ G, ER K ρ σ H G ∧ Out K E (f ρ) ρ σ H G fun p _ H' _ => Q p.1 p.2 H'
abbrev ERg (X : Cx) (E : WX) (e : Expr) (f : AM (Int × Int)) : Prop := PRg X e (tRgA X.K E f)
theorem PRg_imp {t t' : L2.St → Hp → (Int → Int → Hp → Prop) → Prop} (h : PRg X e t) (i : ∀ σ H Q, t' σ H Q → t σ H Q) : PRg X e t' := fun pins s σ H Q I hw => h pins s σ H Q I (i σ H Q hw)
theorem rg_1 {p : Pos} (hg : Gl X "range") (hm : X.mg "range" = none) (ha : EV X E a f) (na : starEach [a] X.env = (false, eval a X.env) :: starEach [] X.env := by rfl) : ERg X E (.Call (.Name "range" p) [a] [] pos) (aRg1 f) :=
  PRg_imp (prg_1 hg hm ha na) fun σ H Q ⟨ρ, G, er, h⟩ => tx_of er h fun v d ρ1 H1 G1 er1 s1 dp z => by
    cases d with
    | int n => cases dp; exact ⟨n, rfl, z H1 G1 er1 .refl⟩
    | _ => exact z.elim
theorem rg_2 {p : Pos} (hg : Gl X "range") (hm : X.mg "range" = none) (ha : EV X E a f) (hb : EV X E b g) (na : starEach [a, b] X.env = (false, eval a X.env) :: starEach [b] X.env := by rfl)
    (nb : starEach [b] X.env = (false, eval b X.env) :: starEach [] X.env := by rfl) (hp : (backTo pos (starEach [b] X.env)).any (·.1) = false := by rfl) : ERg X E (.Call (.Name "range" p) [a, b] [] pos) (aRg2 f g) :=
  PRg_imp (prg_2 hg hm ha hb na nb hp) fun σ H Q ⟨ρ, G, er, h⟩ => tx_of er h fun v d ρ1 H1 G1 er1 s1 dp z => by
    cases d with
    | int i =>
      cases dp
      refine tx_of er1 z fun w d2 ρ2 H2 G2 er2 s2 dp2 z2 => ?_
      cases d2 with
      | int j => cases dp2; exact ⟨i, j, rfl, rfl, z2 H2 G2 er2 .refl⟩
      | _ => exact z2.elim
    | _ => exact z.elim
def fRg (f : AM (Int × Int)) : AM (List D) := fun ρ => (f ρ).bind fun p ρ1 => if rgOk p.1 p.2 = true then .ok (rgD p.1 p.2) ρ1 else .bad
def aTupRg (f : AM (Int × Int)) : AE := fun ρ => (f ρ).bind fun p ρ1 => if rgOk p.1 p.2 = true then .ok (.tuple (rgD p.1 p.2)) ρ1 else .bad
theorem f_listRg {p : Pos} {r : AM (Int × Int)} (hc : X.calm = true) (hg : Gl X "list") (hm : X.mg "list" = none) (he : ERg X E e r) (na : starEach [e] X.env = (false, eval e X.env) :: starEach [] X.env := by rfl) : EF X E (.Call (.Name "list" p) [e] [] pos) (fRg r) :=
  PE.imp (pe_listRg hc hg hm he na) fun σ H Q ⟨ρ, G, er, h⟩ => ⟨ρ, G, er, (by
    unfold fRg at h
    cases q : r ρ with
    | err x ρ1 => rw [q] at h; exact h
    | bad => rw [q] at h; exact h
    | ok bd ρ1 =>
      rw [q] at h
      intro H1 G1 er1 s1
      have h2 : Out X.K E (if rgOk bd.1 bd.2 = true then R.ok (rgD bd.1 bd.2) ρ1 else .bad) ρ σ H G (ZF X.K σ H Q) := h
      split at h2
      · rename_i hz
        refine ⟨rgOk_ok hz, fun p hp => ?_⟩
        exact (Out.shift h2 s1) _ _ (er1.lay hp) (er1.stepLay hp) p _ (s1.there p hp) (sub_none er1.sub hp) upd_same (not_owned_new er1 hp) (rgD_dp _ _)
      · exact h2.elim)⟩
theorem v_tupRg {p : Pos} {r : AM (Int × Int)} (hc : X.calm = true) (hg : Gl X "tuple") (hm : X.mg "tuple" = none) (he : ERg X E e r) (na : starEach [e] X.env = (false, eval e X.env) :: starEach [] X.env := by rfl) : EV X E (.Call (.Name "tuple" p) [e] [] pos) (aTupRg r) :=
  PE.imp (pe_tupRgF hc hg hm he na) fun σ H Q ⟨ρ, G, er, h⟩ => ⟨ρ, G, er, (Out.split h).imp fun bd ρ1 H1 G1 er1 s1 h2 => by
    split at h2
    · rename_i hz
      refine ⟨rgOk_ok hz, fun p ob hd hp => ?_⟩
      exact h2 _ _ (er1.new (o := .frz ob (.tup _)) hp hd) (er1.stepNew hp) _ (.tup (.inl (.inr ⟨_, upd_same⟩)) (dpAll_mono (same_new (sub_none er1.sub hp)) _ _ (rgD_dp _ _)))
    · exact h2.elim⟩
/-! ### isinstance of a built-in class -/
inductive Ty where
  | int | bool | str | tuple | list
def Ty.nm : Ty → String
  | .int => "int"
  | .bool => "bool"
  | .str => "str"
  | .tuple => "tuple"
  | .list => "list"
def isTy : Ty → D → Bool
  | .int, .int _ => true
  | .int, .bool _ => true
  | .bool, .bool _ => true
  | .str, .str _ => true
  | .tuple, .tuple _ => true
  | .list, .list _ => true
  | _, _ => false
def F_isi (t : Ty) : List D → Option D
  | [.dict _] => none
  | [d] => some (.bool (isTy t d))
  | _ => none
def tyName : D → String
  | .none => "NoneType"
  | .bool _ => "bool"
  | .int _ => "int"
  | .str _ => "str"
  | .list _ => "list"
  | .tuple _ => "tuple"
  | .dict _ => "dict"
theorem tyx_of {K : PySem.W.Frag} {G H : Hp} {v : V} {d : D} (s : Same G H) (h : DpB K G H v d) : TyX K H v (.type (tyName d)) := by
  have h := h.deep s
  cases h with
  | non => exact .base .non
  | bl b => exact .base (.bl b)
  | int i => exact .base (.int i)
  | str x => exact .base (.str x)
  | lst hs ha =>
    rcases hs with (e | ⟨o, e⟩) | ⟨o, its, n, k, c, _⟩
    · exact .base (.lst e)
    · exact .base (.frz e)
    · exact .kList k c
  | tup hs ha =>
    rcases hs with (e | ⟨o, e⟩) | ⟨o, its, n, k, c, _⟩
    · exact .base (.tup e)
    · exact .fTuple e
    · exact .kTuple k c
theorem kit_tbl {K : PySem.W.Frag} (t : Ty) (d : D) (hd : ∀ kvs, d ≠ .dict kvs) : PySem.W.kitOne K (.type (tyName d)) (.type t.nm) = some (isTy t d) := by
  cases d with
  | dict kvs => exact (hd kvs rfl).elim
  | none => cases t <;> (refine kit_ty ?_; dsimp only [tyName, Ty.nm, isTy]; decide +kernel)
  | bool b => cases t <;> (refine kit_ty ?_; dsimp only [tyName, Ty.nm, isTy]; decide +kernel)
  | int b => cases t <;> (refine kit_ty ?_; dsimp only [tyName, Ty.nm, isTy]; decide +kernel)
  | str b => cases t <;> (refine kit_ty ?_; dsimp only [tyName, Ty.nm, isTy]; decide +kernel)
  | list b => cases t <;> (refine kit_ty ?_; dsimp only [tyName, Ty.nm, isTy]; decide +kernel)
  | tuple b => cases t <;> (refine kit_ty ?_; dsimp only [tyName, Ty.nm, isTy]; decide +kernel)
theorem s_isi {K : PySem.W.Frag} (t : Ty) : OpS K (fun vs H Q => ∃ x, vs = [x] ∧ rIsi K [x, .ty t.nm] H Q) (F_isi t) := fun vs ds d G H Q s b e q => by
  unfold F_isi at e
  split at e
  · cases e
  · rename_i d' hd
    cases e
    obtain ⟨x, rfl, bx⟩ := dpbs1 b
    exact ⟨x, rfl, x, _, _, _, _, rfl, .ty _, tyx_of s bx, kit_tbl t d' (fun kvs z => hd kvs (by rw [z])), q _ H G .refl (.bl _)⟩
  · cases e
theorem v_isi {t : Ty} {T : Str} {p p2 : Pos} (hg : Gl X "isinstance") (hm : X.mg "isinstance" = none) (hgT : Gl X T) (hmT : X.mg T = none) (hvT : bootBuiltins T = some (.type t.nm)) (h1 : EO X E a o)
    (hn : T ≠ "__name__" := by decide) (hdb : (T == ("__debug__" : Str)) = false := by decide)
    (he : starEach [a, .Name T p2] X.env = (false, eval a X.env) :: starEach [.Name T p2] X.env := by rfl) (hpl : (backTo pos (starEach [Expr.Name T p2] X.env)).any (·.1) = false := by rfl) :
    EV X E (.Call (.Name "isinstance" p) [a, .Name T p2] [] pos) (aOps (F_isi t) [o]) :=
  PE.imp (pe_callB call_isi hg hm (by decide +kernel) (pa_cons h1 (pa_cons (pe_bltn (v := .ty t.nm) hgT hmT hvT rfl hn hdb) pa_nil) he) (by decide) (by decide) he hpl) fun σ H Q ⟨ρ, G, er, h⟩ => by
    have h2 : tOs X.K E [o] σ H (fun vs H' => ∃ x, vs = [x] ∧ rIsi X.K [x, .ty t.nm] H' Q) := evs_step er h fun vs ovs ρ1 H1 G1 er1 s1 rel h1 => ops_end (s_isi t) er1 rel h1
    have h3 : tO X.K E o σ H fun x H1 => ∃ x', [x] = [x'] ∧ rIsi X.K [x', .ty t.nm] H1 Q := h2
    cases o with
    | ex f =>
      obtain ⟨ρ, G, er, h⟩ := h3
      exact ⟨ρ, G, er, h.imp fun d ρ' H' G' _ _ z v dp => by
        obtain ⟨x', e, q⟩ := z v dp
        cases e
        exact q⟩
    | br i' =>
      obtain ⟨v, e, x', e', q⟩ := h3
      cases e'
      exact ⟨v, e, q⟩
/-! ### slices -/
def F_sl (d : D) (lo hi : Option Int) : Option D := match d with
  | .list xs => some (.list ((xs.drop (HT.sIx xs.length 0 lo)).take (HT.sIx xs.length xs.length hi - HT.sIx xs.length 0 lo)))
  | .tuple xs => some (.tuple ((xs.drop (HT.sIx xs.length 0 lo)).take (HT.sIx xs.length xs.length hi - HT.sIx xs.length 0 lo)))
  | .str z => if z.length ≤ sizeLine then some (.str (cutS z lo hi)) else none
  | _ => none
def aPart : Option AE → AM (Option Int)
  | none => fun ρ => .ok none ρ
  | some f => fun ρ => (f ρ).bind fun d ρ1 => match d with
    | .int i => .ok (some i) ρ1
    | _ => .bad
def aSl (o : Opd) (lo hi : Option AE) : AE := fun ρ => (o.ev ρ).bind fun ov ρ1 => (aPart lo ρ1).bind fun l ρ2 => (aPart hi ρ2).bind fun h ρ3 => match ov.get ρ3 with
  | some d => (match F_sl d l h with
    | some r => .ok r ρ3
    | none => .bad)
  | none => .bad
def tPa (K : PySem.W.Frag) (E : WX) : Option AE → TO
  | none => tNoPart
  | some f => tPart (tX K E f)
abbrev EP' (X : Cx) (E : WX) (e : Option Expr) (f : Option AE) : Prop := PO X e (tPa X.K E f)
theorem p_none : EP' X E none none := po_none
theorem p_some (h : EV X E e f) : EP' X E (some e) (some f) := po_some h
theorem part_step {K : PySem.W.Frag} {ρ : En} {σ : L2.St} {H G : Hp} {β : Type} {f : Option AE} {k : Option Int → En → R β} {Z : β → En → Hp → Hp → Prop} {Q : Option Int → Hp → Prop} (er : ER K ρ σ H G) (h : Out K E ((aPart f ρ).bind k) ρ σ H G Z)
    (q : ∀ i ρ1 H1 G1, ER K ρ1 σ H1 G1 → Step ρ σ H G ρ1 σ H1 G1 → Out K E (k i ρ1) ρ1 σ H1 G1 Z → Q i H1) : tPa K E f σ H Q := by
  cases f with
  | none => exact q none ρ H G er .refl h
  | some f =>
    have e : (aPart (some f) ρ).bind k = (f ρ).bind fun d ρ1 => (match d with | .int i => R.ok (some i) ρ1 | _ => .bad).bind k := by
      show ((f ρ).bind _).bind k = (f ρ).bind _
      cases f ρ with
      | ok d ρ1 => rfl
      | err x ρ1 => rfl
      | bad => rfl
    rw [e] at h
    refine tx_of er h fun v d ρ1 H1 G1 er1 s1 dp z => ?_
    cases d with
    | int i => cases dp; exact ⟨i, rfl, q (some i) ρ1 H1 G1 er1 s1 z⟩
    | _ => exact z.elim
def rSlAll (K : PySem.W.Frag) : V → Option Int → Option Int → Hp → VK → Prop := fun x lo hi H Q => rSlL K x lo hi H Q ∨ (rSlF K x lo hi H Q ∨ rSlS x lo hi H Q)
theorem sl_all : SlR X (rSlAll X.K) := sl_list.or (sl_tupF.or sl_str)
theorem v_sl {lo hi : Option Expr} {fl fh : Option AE} {p2 : Pos} (h1 : EO X E a o) (h2 : EP' X E lo fl) (h3 : EP' X E hi fh) : EV X E (.Subscript a (.Slice lo hi none p2) pos) (aSl o fl fh) :=
  PE.imp (pe_slice sl_all h1 h2 h3) fun σ H Q ⟨ρ, G, er, h⟩ => opd_step er h fun v ov ρ1 H1 G1 er1 s1 rel z1 => part_step er1 z1 fun l ρ2 H2 G2 er2 s2 z2 => part_step er2 z2 fun u ρ3 H3 G3 er3 s3 z3 => by
    cases e : ov.get ρ3 with
    | none => rw [e] at z3; exact z3.elim
    | some d =>
      rw [e] at z3
      have bx := ((rel.mono s2.sg).mono s3.sg).get er3 e
      cases d with
      | list xs =>
        obtain ⟨a1, v1, rfl, h1, d1⟩ := bx.list er3.sub
        refine .inl ⟨a1, v1, rfl, h1, fun p hp => ?_⟩
        refine z3 _ _ (er3.new hp) (er3.stepNew hp) _ (.lst (.inl (.inl upd_same)) (dpAll_mono (same_new (sub_none er3.sub hp)) _ _ ?_))
        unfold cutV
        rw [d1.len]
        exact (d1.drop _).take _
      | tuple xs =>
        have bx2 := bx
        obtain ⟨a1, v1, rfl, h1, d1⟩ := bx.tup er3.sub
        refine .inr (.inl ⟨a1, v1, rfl, h1, fun w => ?_, fun _ p ob hd hp => ?_⟩)
        · refine z3 H3 G3 er3 .refl _ ?_
          rw [d1.len] at w
          rw [w.1, w.2, List.drop_zero, Nat.sub_zero, List.take_length]
          rcases bx2 with h | ⟨_, _, _, _, e, _⟩
          · exact h
          · cases e
        · refine z3 _ _ (er3.new (o := .frz ob (.tup _)) hp hd) (er3.stepNew hp) _ (.tup (.inl (.inr ⟨_, upd_same⟩)) (dpAll_mono (same_new (sub_none er3.sub hp)) _ _ ?_))
          unfold cutV
          rw [d1.len]
          exact (d1.drop _).take _
      | str z =>
        unfold F_sl at z3
        dsimp only at z3
        split at z3
        · rename_i r er'
          split at er'
          · rename_i hz
            cases er'
            exact .inr (.inr ⟨z, bx.str, hz, z3 H3 G3 er3 .refl _ (.str _)⟩)
          · cases er'
        · exact z3.elim
      | _ => exact z3.elim
end
end SW
set_option Elab.async false
set_option linter.all false
set_option maxRecDepth 100000
set_option maxHeartbeats 2000000
/-! SWIter: what a loop or a comprehension walks. -/
namespace SW
open PySem PySem.Spec PyProof.Rows L2
variable [Tab]
def YD (b : Bool) (K : PySem.W.Frag) (G : Hp) (od : Option D) (H : Hp) (x : V) (H' : Hp) : Prop := ∃ d, od = some d ∧ ((H' = H ∧ Dp K G x d) ∨ b = true ∧ ∃ T xs ds, x = .ref T ∧ H T = none ∧ H' = upd H T (.tup xs) ∧ d = .tuple ds ∧ DpAll K G xs ds)
/-- b: the items may be new pairs, which only a tuple of names may take apart -/
structure WalkD (b : Bool) (K : PySem.W.Frag) (G : Hp) (J : It) (items : List D) : Prop where
  goes : ∀ i Hc, i < items.length → Same G Hc → J.go i Hc
  stops : ∀ Hc, Same G Hc → J.stop items.length Hc
  yields : ∀ i Hc x H', i < items.length → Same G Hc → J.yld i Hc x H' → YD b K G items[i]? Hc x H'
def tI (b : Bool) (K : PySem.W.Frag) (E : WX) (it : AM (List D)) : TI := fun σ H R => ∃ ρ G, ER K ρ σ H G ∧ Out K E (it ρ) ρ σ H G fun items _ H' G' => ∀ J, WalkD b K G' J items → R J H'
abbrev EI (b : Bool) (X : Cx) (E : WX) (tg iter : Expr) (it : AM (List D)) : Prop := PI X tg iter (tI b X.K E it)
theorem PI_imp {X : Cx} {tg iter : Expr} {t t' : TI} (h : PI X tg iter t) (i : ∀ σ H R, t' σ H R → t σ H R) : PI X tg iter t' := ⟨fun pins s σ H R I hw => h.run pins s σ H R I (i σ H R hw)⟩
theorem PI_or {X : Cx} {tg iter : Expr} {t t' : TI} (h : PI X tg iter t) (h' : PI X tg iter t') : PI X tg iter (fun σ H R => t σ H R ∨ t' σ H R) := ⟨fun pins s σ H R I hw => hw.elim (h.run pins s σ H R I) (h'.run pins s σ H R I)⟩
section
variable {K : PySem.W.Frag} {G : Hp} {bb : Bool}
theorem walkD_list {a : Addr} {vs : List V} {ds : List D} (h : SqL K G a vs) (dp : DpAll K G vs ds) : WalkD bb K G (Itl K a) ds where
  goes := fun i Hc hi s => by
    have w := (walk_list (K := K) (a := a) (xs := vs)).goes i Hc (by rw [dp.len]; exact hi) (s.seq h)
    exact w
  stops := fun Hc s => ⟨vs, s.seq h, Nat.le_of_eq dp.len⟩
  yields := fun i Hc x H' hi s y => by
    obtain ⟨e1, e2⟩ := y
    have e3 := e2 vs (s.seq h)
    obtain ⟨v, e4, e5⟩ := dp.get (List.getElem?_eq_getElem hi)
    rw [e3] at e4
    cases e4
    exact ⟨_, List.getElem?_eq_getElem hi, .inl ⟨e1, e5⟩⟩
theorem walkD_tup {a : Addr} {vs : List V} {ds : List D} (h : SqT K G a vs) (dp : DpAll K G vs ds) : WalkD bb K G (Itt K a) ds where
  goes := fun i Hc hi s => by
    have w := (walk_tup (K := K) (a := a) (xs := vs)).goes i Hc (by rw [dp.len]; exact hi) (Same.seqT s h)
    exact w
  stops := fun Hc s => ⟨vs, Same.seqT s h, Nat.le_of_eq dp.len⟩
  yields := fun i Hc x H' hi s y => by
    obtain ⟨e1, e2⟩ := y
    have e3 := e2 vs (Same.seqT s h)
    obtain ⟨v, e4, e5⟩ := dp.get (List.getElem?_eq_getElem hi)
    rw [e3] at e4
    cases e4
    exact ⟨_, List.getElem?_eq_getElem hi, .inl ⟨e1, e5⟩⟩
def signs (z : Str) : List D := z.cps.toList.map fun c => .str ⟨#[c]⟩
theorem walkD_str {z : Str} : WalkD bb K G (Its z) (signs z) where
  goes := fun i Hc hi s => by
    have e : (signs z).length = z.cps.size := by unfold signs; rw [List.length_map, Array.length_toList]
    rw [e] at hi
    exact hi
  stops := fun Hc s => by
    have e : (signs z).length = z.cps.size := by unfold signs; rw [List.length_map, Array.length_toList]
    show z.cps.size ≤ (signs z).length
    rw [e]
    exact Nat.le_refl _
  yields := fun i Hc x H' hi s y => by
    obtain ⟨e1, c, e2, e3⟩ := y
    refine ⟨.str ⟨#[c]⟩, ?_, .inl ⟨e1, by rw [e3]; exact .str _⟩⟩
    unfold signs
    rw [List.getElem?_map, Array.getElem?_toList, e2]
    rfl
theorem walkD_range {lo : Int} {n : Nat} : WalkD bb K G (Itr lo n) ((List.range n).map fun i => .int (lo + (i : Nat))) where
  goes := fun i Hc hi s => by rw [List.length_map, List.length_range] at hi; exact hi
  stops := fun Hc s => by
    show n ≤ _
    rw [List.length_map, List.length_range]
    exact Nat.le_refl _
  yields := fun i Hc x H' hi s y => by
    obtain ⟨e1, e2⟩ := y
    rw [List.length_map, List.length_range] at hi
    refine ⟨.int (lo + (i : Nat)), ?_, .inl ⟨e1, by rw [e2]; exact .int _⟩⟩
    rw [List.getElem?_map, List.getElem?_range hi]
    rfl
/-- what enumerate gives -/
def enumD (ds : List D) : List D := (List.range ds.length).map fun i => .tuple [.int (i : Nat), ds.getD i .none]
theorem enumD_at {ds : List D} {i : Nat} (hi : i < ds.length) : (enumD ds)[i]? = some (.tuple [.int (i : Nat), ds[i]]) := by
  unfold enumD
  rw [List.getElem?_map, List.getElem?_range hi]
  simp [hi]
theorem enumD_len (ds : List D) : (enumD ds).length = ds.length := by unfold enumD; rw [List.length_map, List.length_range]
theorem walkD_enum {a : Addr} {vs : List V} {ds : List D} (h : SqL K G a vs) (dp : DpAll K G vs ds) : WalkD true K G (Ite K a) (enumD ds) where
  goes := fun i Hc hi s => by
    rw [enumD_len] at hi
    exact ⟨vs, vs[i]'(by rw [dp.len]; exact hi), s.seq h, List.getElem?_eq_getElem _⟩
  stops := fun Hc s => ⟨vs, s.seq h, by rw [enumD_len, dp.len]; exact Nat.le_refl _⟩
  yields := fun i Hc x H' hi s y => by
    rw [enumD_len] at hi
    obtain ⟨T, u, e1, e2, e3, e4⟩ := y
    have e5 := e4 vs (s.seq h)
    obtain ⟨v, e6, e7⟩ := dp.get (List.getElem?_eq_getElem hi)
    rw [e5] at e6
    cases e6
    exact ⟨_, enumD_at hi, .inr ⟨rfl, T, _, _, e1, e2, e3, rfl, .cons (.int _) (.cons e7 .nil)⟩⟩
def ItEn (K : PySem.W.Frag) (a : Addr) : It :=
  ⟨fun i H => ∃ (xs : List V) (x : V), SqT K H a xs ∧ xs[i]? = some x, fun i H v H' => ∃ T x, v = .ref T ∧ H T = none ∧ H' = upd H T (.tup [.int (i : Nat), x]) ∧ ∀ xs, SqT K H a xs → xs[i]? = some x, fun i H => ∃ xs : List V, SqT K H a xs ∧ xs.length = i⟩
theorem walkD_enumT {a : Addr} {vs : List V} {ds : List D} (h : SqT K G a vs) (dp : DpAll K G vs ds) : WalkD true K G (ItEn K a) (enumD ds) where
  goes := fun i Hc hi s => by
    rw [enumD_len] at hi
    exact ⟨vs, vs[i]'(by rw [dp.len]; exact hi), Same.seqT s h, List.getElem?_eq_getElem _⟩
  stops := fun Hc s => ⟨vs, Same.seqT s h, by rw [enumD_len, dp.len]⟩
  yields := fun i Hc x H' hi s y => by
    rw [enumD_len] at hi
    obtain ⟨T, u, e1, e2, e3, e4⟩ := y
    have e5 := e4 vs (Same.seqT s h)
    obtain ⟨v, e6, e7⟩ := dp.get (List.getElem?_eq_getElem hi)
    rw [e5] at e6
    cases e6
    exact ⟨_, enumD_at hi, .inr ⟨rfl, T, _, _, e1, e2, e3, rfl, .cons (.int _) (.cons e7 .nil)⟩⟩
theorem turn_enumT {P : Program} {w : World} {K : PySem.W.Frag} {elts : List Expr} {kk : Nat} {tpos : Pos} (a e it : Addr) :
    Turn P w K (.Tuple elts kk tpos) (ItEn K a) [e, it] e (fun i h => (∃ old, IsEnum h e it ((i : Nat) : Int) old) ∧ h.IsTupleIter it a i ∧ e ≠ it) where
  mem := by simp
  obj := fun i h st b hb => by
    obtain ⟨⟨old, he⟩, ⟨o, ho, hc, hd⟩, _⟩ := st
    have e' : b = e ∨ b = it := by simpa using hb
    rcases e' with z | z
    · rw [z]; exact ⟨_, he, fun v q => nomatch q⟩
    · rw [z]; exact ⟨o, ho, fun v q => by rw [hd] at q; cases q⟩
  keep := fun i h h' st k => let ⟨⟨old, he⟩, hi, hne⟩ := st; ⟨⟨old, k e (by simp) _ he⟩, hi.at fun o q => k it (by simp) o q, hne⟩
  item := by
    intro X hP hw hK hc i pins s σ H E I hf st hg
    subst hP hw hK
    obtain ⟨⟨old, he⟩, hit, hne⟩ := st
    obtain ⟨xs, x, hq, hx⟩ := hg
    obtain ⟨its, rv, p, hz⟩ := I.tuple hq
    obtain ⟨u, hu, ru⟩ := rv.get hx
    have hel : e < s.heap.objs.size := Heap.lt_size he
    have hil : it < s.heap.objs.size := by obtain ⟨_, q, _⟩ := hit; exact Heap.lt_size q
    have hal : a < s.heap.objs.size := by obtain ⟨_, q, _⟩ := id p; exact Heap.lt_size q
    have hni : a ≠ it := fun z => by
      obtain ⟨o1, q1, c1, _⟩ := id p
      obtain ⟨o2, q2, c2, _⟩ := hit
      rw [z, q2] at q1
      cases q1
      rw [c1] at c2
      injection c2 with c3
      exact absurd c3 (by decide)
    have hne2 : e ≠ a := fun z => by
      obtain ⟨o1, q1, c1, _⟩ := id p
      have he' : s.heap.get? e = some _ := he
      rw [← z, he'] at q1
      cases q1
      injection c1 with c3
      exact absurd c3 (by decide)
    have hd : X.A.in1.handled = none := by
      show X.A.handled = none
      exact I.ok.hd hc
    have W := GoesN.enumFrom (elts := elts) (x1 := kk) (pos := tpos) 0 (Draws.tuple (prog := X.prog) (w := X.w) hd it a hni its.toArray) e hne (by simp; exact ⟨hne, hne2⟩) (by simp)
    have hst : (∃ old, IsEnum s.heap e it (0 + ((i : Nat) : Int)) old) ∧ (s.heap.IsTupleIter it a i ∧ s.heap.IsTuple a its.toArray) := ⟨⟨old, by rw [Int.zero_add]; exact he⟩, hit, p⟩
    have hlt : i < its.toArray.size := by
      have h3 := (List.getElem?_eq_some_iff.mp hu).1
      simpa using h3
    refine wpAny_mono (W.goes i s (fun v s2 => ∃ x' H', L2.Inv X pins σ H' s2 ∧ RelV x' v ∧ (ItEn X.K a).yld i H x' H' ∧ ((∃ old, IsEnum s2.heap e it (((i + 1 : Nat) : Nat) : Int) old) ∧ s2.heap.IsTupleIter it a (i + 1) ∧ e ≠ it) ∧ ∀ b ∈ [e, it], H' b = none) E hlt hst fun v h' tk hY st' hk htk => ?_) (fun r s1 h1 => ?_) fun _ _ z => z
    · obtain ⟨T, t, x2, rfl, hn, hx2, hT⟩ := hY
      obtain ⟨⟨old', he'⟩, hit', _⟩ := st'
      have eu : x2 = u := by
        rw [show its.toArray[i]? = its[i]? by simp] at hx2
        rw [hu] at hx2
        exact (Option.some.inj hx2).symm
      subst eu
      have new : ObjOk X.prog X.w (upd H T (.tup [.int (i : Nat), x])) h' T (.tup [.int (i : Nat), x]) := by
        refine ⟨by show 2 ≤ sizeLine; decide, [.int (0 + (i : Int)) t, x2], .cons ⟨t, by rw [Int.zero_add]⟩ (.cons ru .nil), ?_⟩
        exact hT
      have I1 : L2.Inv X pins σ (upd H T (.tup [.int (i : Nat), x])) { s with heap := h', toks := tk } :=
        I.turnedNew (ch := [e, it]) (fun b ob hb q => hk b ob hb q) hf hn new
      refine ⟨.ref T, _, I1, rfl, ⟨T, x, rfl, I.hok.fresh hn, rfl, fun ys hy => by rw [I.tuple_inj hy hq]; exact hx⟩, ⟨⟨old', ?_⟩, hit', hne⟩, fun b hb => ?_⟩
      · rw [Int.zero_add] at he'
        exact he'
      · have hb' : b < s.heap.objs.size := by
          have e' : b = e ∨ b = it := by simpa using hb
          rcases e' with z | z
          · rw [z]; exact hel
          · rw [z]; exact hil
        rw [upd_ne (Nat.ne_of_lt (Nat.lt_of_lt_of_le hb' hn))]
        exact (hf b hb).1
    · obtain ⟨v, rfl, h2⟩ := h1
      exact ⟨v, rfl, h2⟩
  done := by
    intro X hP hw hK hc i pins s σ H E I hf st hg
    subst hP hw hK
    obtain ⟨⟨old, he⟩, hit, hne⟩ := st
    obtain ⟨xs, hq, hx⟩ := hg
    obtain ⟨its, rv, p, hz⟩ := I.tuple hq
    have hni : a ≠ it := fun z => by
      obtain ⟨o1, q1, c1, _⟩ := id p
      obtain ⟨o2, q2, c2, _⟩ := hit
      rw [z, q2] at q1
      cases q1
      rw [c1] at c2
      injection c2 with c3
      exact absurd c3 (by decide)
    have hne2 : e ≠ a := fun z => by
      obtain ⟨o1, q1, c1, _⟩ := id p
      have he' : s.heap.get? e = some _ := he
      rw [← z, he'] at q1
      cases q1
      injection c1 with c3
      exact absurd c3 (by decide)
    have hd : X.A.in1.handled = none := by
      show X.A.handled = none
      exact I.ok.hd hc
    have W := GoesN.enumFrom (elts := elts) (x1 := kk) (pos := tpos) 0 (Draws.tuple (prog := X.prog) (w := X.w) hd it a hni its.toArray) e hne (by simp; exact ⟨hne, hne2⟩) (by simp)
    have en : i = its.toArray.size := by
      rw [List.size_toArray, ← rv.length]
      exact hx.symm
    subst en
    refine wpAny_mono (W.stops s (fun s1 => L2.Inv X pins σ H s1) E ⟨⟨old, by rw [Int.zero_add]; exact he⟩, hit, p⟩ fun h' tk hk htk => ?_) (fun r s1 h1 => h1) fun _ _ z => z
    exact I.turnedL (ch := [e, it]) (fun b o hb q => hk b o hb q) hf
  self := fun A i s Q E st h => wpAny_pyIter_enum st.1.choose_spec h
end
set_option maxHeartbeats 4000000 in
theorem meets_enum1 {v : Value} {o : Obj} {Hs : Heap → Prop} (B : Begins v o Hs) :
    Meets (Builtin.«enumerate.__new__» ⟨[.type "enumerate", v], []⟩) (fun _ R s => Hs s.heap ∧
      R (.ok (.ret (.ref (s.heap.push o).objs.size))) { s with heap := (s.heap.push o).push { cls := .type "enumerate", data := .fields #[.none, .bool false, .ref s.heap.objs.size, rawInt 0, .none, .none] } }) :=
  .of_wp fun prog w A R s h => by
    obtain ⟨hp, g, d, tk, os⟩ := s
    obtain ⟨h1, h⟩ := h
    have hsub := sub_enumerate
    have q1 : ∀ {A' : Around} {E : Value → Shared → Prop} {Q : Value → Shared → Prop}, Q (.ref hp.objs.size) ⟨hp.push o, g, d, tk, os⟩ → wpAny (model prog w) A' (pyIter v) Q E ⟨hp, g, d, tk, os⟩ :=
      fun q => B.iter prog w _ _ ⟨hp, g, d, tk, os⟩ _ h1 q
    wp_walk using q1
    refine wpAny_stack_any fun st => wpAny_pure ?_
    split
    · rename_i c _ _ _ _ _
      cases (c == Value.type "enumerate")
      · wp_walk using q1
        exact ⟨_, rfl, h⟩
      · wp_walk using q1
        exact ⟨_, rfl, h⟩
    · wp_walk using q1
      exact ⟨_, rfl, h⟩
theorem enum1_begins {prog : Program} {w : World} {A : Around} {E : Value → Shared → Prop} {s : Shared} {v : Value} {o : Obj} {Hs : Heap → Prop} {Q : Value → Shared → Prop} (B : Begins v o Hs) (h1 : Hs s.heap)
    (h : ∀ h', IsEnum h' (s.heap.objs.size + 1) s.heap.objs.size 0 .none → h'.get? s.heap.objs.size = some o → h'.objs.size = s.heap.objs.size + 2 →
      (∀ b o, s.heap.get? b = some o → h'.get? b = some o) → Q (.ref (s.heap.objs.size + 1)) { s with heap := h' }) :
    wpAny (model prog w) A (call (.type "enumerate") [v]) Q E s := by
  refine callType_new F.called_enumerate (by decide) (F.typeCall_enumerate_1 _) (F.newCall_enumerate_1 _) (fun obj => F.args_object_init_2 obj _) F.entry_enumerate_new (meets_enum1 B) ⟨h1, ?_⟩
  have hz : (s.heap.push o).objs.size = s.heap.objs.size + 1 := Heap.size_push ..
  show _ ∧ _
  rw [hz]
  have he : IsEnum ((s.heap.push o).push { cls := .type "enumerate", data := .fields #[.none, .bool false, .ref s.heap.objs.size, rawInt 0, .none, .none] }) (s.heap.objs.size + 1) s.heap.objs.size 0 .none := by
    have := Heap.get?_push_size (s.heap.push o) (o := { cls := .type "enumerate", data := .fields #[.none, .bool false, .ref s.heap.objs.size, rawInt 0, .none, .none] }) rfl
    rw [hz] at this
    exact this
  exact ⟨⟨_, he, rfl⟩, h _ he (Heap.get?_push_of_some _ (Heap.get?_push_size _ B.free)) (by rw [Heap.size_push, hz]) fun b o x => Heap.get?_push_of_some _ (Heap.get?_push_of_some _ x)⟩
section
variable {X : Cx} {E : WX} {tg e a b : Expr} {f g : AE} {pos p : Pos} {bb : Bool}
/-- a list, a tuple, a text: its items -/
def itemsOf : D → Option (List D)
  | .list ds => some ds
  | .tuple ds => some ds
  | .str z => some (signs z)
  | _ => none
def iSeq (f : AE) : AM (List D) := fun ρ => (f ρ).bind fun d ρ1 => match itemsOf d with
  | some ds => .ok ds ρ1
  | none => .bad
theorem i_seq (h : EV X E e f) : EI bb X E tg e (iSeq f) :=
  PI_imp (PI_or (PI_or (pi_list h) (pi_tup h)) (pi_str h)) fun σ H RR ⟨ρ, G, er, h⟩ => by
    unfold iSeq at h
    cases q : f ρ with
    | err x ρ1 =>
      refine .inl (.inl ⟨ρ, G, er, ?_⟩)
      rw [q] at h ⊢
      exact h
    | bad => rw [q] at h; exact h.elim
    | ok d ρ1 =>
      rw [q] at h
      cases d with
      | list ds =>
        refine .inl (.inl ⟨ρ, G, er, ?_⟩)
        rw [q]
        intro H1 G1 er1 s1 v dp
        cases dp with
        | lst hs ha => exact ⟨_, rfl, ⟨_, er1.sub.seq hs⟩, h H1 G1 er1 s1 _ (walkD_list hs ha)⟩
      | tuple ds =>
        refine .inl (.inr ⟨ρ, G, er, ?_⟩)
        rw [q]
        intro H1 G1 er1 s1 v dp
        cases dp with
        | tup hs ha => exact ⟨_, rfl, ⟨_, Same.seqT er1.sub hs⟩, h H1 G1 er1 s1 _ (walkD_tup hs ha)⟩
      | str z =>
        refine .inr ⟨ρ, G, er, ?_⟩
        rw [q]
        intro H1 G1 er1 s1 v dp
        cases dp
        exact ⟨z, rfl, h H1 G1 er1 s1 _ walkD_str⟩
      | _ => exact h.elim
def rgs (a b : Int) : List D := (List.range (b - a).toNat).map fun i => .int (a + (i : Nat))
def rgIn (a b : Int) : Bool := decide (-4611686018427387904 ≤ a) && (decide (a < 4611686018427387904) && (decide (-4611686018427387904 ≤ b) && decide (b < 4611686018427387904)))
def iRg (r : AM (Int × Int)) : AM (List D) := fun ρ => (r ρ).bind fun p ρ1 => if rgIn p.1 p.2 = true then .ok (rgs p.1 p.2) ρ1 else .bad
theorem i_rg1 (hg : Gl X "range") (hm : X.mg "range" = none) (ha : EV X E a f) (hs : starEach [a] X.env = [(false, eval a X.env)] := by rfl) : EI bb X E tg (.Call (.Name "range" p) [a] [] pos) (iRg (aRg1 f)) :=
  PI_imp (pi_range1 hg hm (pa_cons ha pa_nil hs) hs) fun σ H RR ⟨ρ, G, er, h⟩ => by
    refine tx_of (k := fun d ρ1 => (match d with | .int n => R.ok ((0 : Int), n) ρ1 | _ => .bad).bind fun p ρ1 => if rgIn p.1 p.2 = true then .ok (rgs p.1 p.2) ρ1 else .bad) er (Z := fun items _ H' G' => ∀ J, WalkD bb X.K G' J items → RR J H') ?_ fun v d ρ1 H1 G1 er1 s1 dp z => ?_
    · have e : iRg (aRg1 f) ρ = (f ρ).bind fun d ρ1 => (match d with | .int n => R.ok ((0 : Int), n) ρ1 | _ => .bad).bind fun p ρ1 => if rgIn p.1 p.2 = true then .ok (rgs p.1 p.2) ρ1 else .bad := by
        show ((f ρ).bind _).bind _ = _
        cases f ρ <;> rfl
      rw [← e]
      exact h
    · cases d with
      | int n =>
        cases dp
        have z2 : Out X.K E (if rgIn 0 n = true then R.ok (rgs 0 n) ρ1 else .bad) ρ1 σ H1 G1 _ := z
        split at z2
        · rename_i hz
          unfold rgIn at hz
          simp only [Bool.and_eq_true, decide_eq_true_eq] at hz
          have w := z2 H1 G1 er1 .refl (Itr 0 n.toNat)
          have e2 : rgs 0 n = (List.range n.toNat).map fun i => PyData.int (0 + ((i : Nat) : Int)) := by unfold rgs; rw [Int.sub_zero]
          rw [e2] at w
          exact ⟨n, rfl, by omega, by omega, w walkD_range⟩
        · exact z2.elim
      | _ => exact z.elim
theorem i_rg2 (hg : Gl X "range") (hm : X.mg "range" = none) (ha : EV X E a f) (hb : EV X E b g) (hs : starEach [a, b] X.env = [(false, eval a X.env), (false, eval b X.env)] := by rfl) (hs2 : starEach [b] X.env = [(false, eval b X.env)] := by rfl) : EI bb X E tg (.Call (.Name "range" p) [a, b] [] pos) (iRg (aRg2 f g)) :=
  PI_imp (pi_range2 hg hm (pa_cons ha (pa_cons hb pa_nil hs2) (by rw [hs, hs2])) hs hs2) fun σ H RR ⟨ρ, G, er, h⟩ => by
    refine tx_of (k := fun d ρ1 => (match d with | .int i => (g ρ1).bind fun d ρ2 => (match d with | .int j => R.ok (i, j) ρ2 | _ => .bad) | _ => .bad).bind fun p ρ1 => if rgIn p.1 p.2 = true then .ok (rgs p.1 p.2) ρ1 else .bad) er (Z := fun items _ H' G' => ∀ J, WalkD bb X.K G' J items → RR J H') ?_ fun v d ρ1 H1 G1 er1 s1 dp z => ?_
    · have e : iRg (aRg2 f g) ρ = (f ρ).bind fun d ρ1 => (match d with | .int i => (g ρ1).bind fun d ρ2 => (match d with | .int j => R.ok (i, j) ρ2 | _ => .bad) | _ => .bad).bind fun p ρ1 => if rgIn p.1 p.2 = true then .ok (rgs p.1 p.2) ρ1 else .bad := by
        show ((f ρ).bind _).bind _ = _
        cases f ρ <;> rfl
      rw [← e]
      exact h
    · cases d with
      | int i =>
        cases dp
        refine tx_of (k := fun d ρ2 => (match d with | .int j => R.ok (i, j) ρ2 | _ => .bad).bind fun p ρ1 => if rgIn p.1 p.2 = true then .ok (rgs p.1 p.2) ρ1 else .bad) er1 (Z := fun items _ H' G' => ∀ J, WalkD bb X.K G' J items → RR J H') ?_ fun v2 d2 ρ2 H2 G2 er2 s2 dp2 z2 => ?_
        · have e : ((g ρ1).bind fun d ρ2 => (match d with | .int j => R.ok (i, j) ρ2 | _ => .bad)).bind (fun (p : Int × Int) ρ1 => if rgIn p.1 p.2 = true then R.ok (rgs p.1 p.2) ρ1 else .bad) = (g ρ1).bind fun d ρ2 => (match d with | .int j => R.ok (i, j) ρ2 | _ => .bad).bind fun p ρ1 => if rgIn p.1 p.2 = true then .ok (rgs p.1 p.2) ρ1 else .bad := by
            cases g ρ1 <;> rfl
          rw [← e]
          exact z
        · cases d2 with
          | int j =>
            cases dp2
            have z3 : Out X.K E (if rgIn i j = true then R.ok (rgs i j) ρ2 else .bad) ρ2 σ H2 G2 _ := z2
            split at z3
            · rename_i hz
              unfold rgIn at hz
              simp only [Bool.and_eq_true, decide_eq_true_eq] at hz
              exact ⟨i, j, rfl, ⟨by omega, by omega, by omega, by omega⟩, z3 H2 G2 er2 .refl _ walkD_range⟩
            · exact z3.elim
          | _ => exact z2.elim
      | _ => exact z.elim
/-- enumerate of a list or a tuple -/
def iEnumA (f : AE) : AM (List D) := fun ρ => (f ρ).bind fun d ρ1 => match d with
  | .list ds => .ok (enumD ds) ρ1
  | .tuple ds => .ok (enumD ds) ρ1
  | _ => .bad
def iEnT (K : PySem.W.Frag) (ta : TA) : TI := fun σ H R => ta σ H fun vs H1 => ∃ a xs, vs = [.ref a] ∧ SqT K H1 a xs ∧ R (ItEn K a) H1
theorem pi_enumT {ta : TA} {tpos : Pos} {elts : List Expr} {kk : Nat} (hg : Gl X "enumerate") (hm : X.mg "enumerate" = none) (ha : PA X [e] ta) (hs : starEach [e] X.env = [(false, eval e X.env)] := by rfl) :
    PI X (.Tuple elts kk tpos) (.Call (.Name "enumerate" p) [e] [] pos) (iEnT X.K ta) := by
  refine ⟨fun pins s σ H R I h => ?_⟩
  refine Call_ (ld_blt I hg hm boot_enumerate (PyProof.Rows.callWith_type1 (thn (ha.run pos pins s σ H _ I h) fun us s1 ⟨vs, H1, I1, r1, q1⟩ => ?_) hs rfl))
  obtain ⟨a, xs, ex, hq, q⟩ := q1
  subst ex
  cases r1 with
  | cons r rr =>
    cases rr
    cases r
    obtain ⟨its, rv, p', hz⟩ := I1.tuple hq
    refine enum1_begins (begins_tuple a its.toArray) p' fun h' he hit hsz hk => wpAny_pyIter_enum he ?_
    have I2 : L2.Inv X pins σ H1 { s1 with heap := h' } := I1.kept (t' := s1.toks) hk
    refine ⟨s1.heap.objs.size + 1, [s1.heap.objs.size + 1, s1.heap.objs.size], _, _, H1, rfl, I2, turn_enumT a (s1.heap.objs.size + 1) s1.heap.objs.size, ⟨⟨.none, he⟩, ⟨_, hit, rfl, rfl⟩, Nat.succ_ne_self _⟩, fun b hb => ?_, q⟩
    have e' : b = s1.heap.objs.size + 1 ∨ b = s1.heap.objs.size := by simpa using hb
    have hle : s1.heap.objs.size ≤ b := by
      rcases e' with z | z
      · rw [z]; exact Nat.le_add_right _ _
      · rw [z]; exact Nat.le_refl _
    exact I1.fpOk hle (I1.hok.fresh hle)
theorem i_enum {tpos : Pos} {elts : List Expr} {kk : Nat} (hg : Gl X "enumerate") (hm : X.mg "enumerate" = none) (ha : EV X E e f) (hs : starEach [e] X.env = [(false, eval e X.env)] := by rfl) :
    EI true X E (.Tuple elts kk tpos) (.Call (.Name "enumerate" p) [e] [] pos) (iEnumA f) :=
  PI_imp (PI_or (pi_enum hg hm (pa_cons ha pa_nil hs) hs) (pi_enumT hg hm (pa_cons ha pa_nil hs) hs)) fun σ H RR ⟨ρ, G, er, h⟩ => by
    unfold iEnumA at h
    cases q : f ρ with
    | err x ρ1 =>
      refine .inl ⟨ρ, G, er, ?_⟩
      rw [q] at h ⊢
      exact h
    | bad => rw [q] at h; exact h.elim
    | ok d ρ1 =>
      rw [q] at h
      cases d with
      | list ds =>
        refine .inl ⟨ρ, G, er, ?_⟩
        rw [q]
        intro H1 G1 er1 s1 v dp
        cases dp with
        | lst hs ha => exact ⟨_, _, rfl, er1.sub.seq hs, h H1 G1 er1 s1 _ (walkD_enum hs ha)⟩
      | tuple ds =>
        refine .inr ⟨ρ, G, er, ?_⟩
        rw [q]
        intro H1 G1 er1 s1 v dp
        cases dp with
        | tup hs ha => exact ⟨_, _, rfl, Same.seqT er1.sub hs, h H1 G1 er1 s1 _ (walkD_enumT hs ha)⟩
      | _ => exact h.elim
/-- zip of two lists or two tuples -/
def zipD (ds es : List D) : List D := (ds.zip es).map fun p => .tuple [p.1, p.2]
theorem zipD_len (ds es : List D) : (zipD ds es).length = min ds.length es.length := by unfold zipD; rw [List.length_map, List.length_zip]
theorem zipD_at {ds es : List D} {i : Nat} (h1 : i < ds.length) (h2 : i < es.length) : (zipD ds es)[i]? = some (.tuple [ds[i], es[i]]) := by
  have h3 : i < (ds.zip es).length := by rw [List.length_zip]; omega
  unfold zipD
  rw [List.getElem?_map, List.getElem?_eq_getElem h3, List.getElem_zip]
  rfl
theorem walkD_zip {K : PySem.W.Frag} {G : Hp} {a b : Addr} {vs us : List V} {ds es : List D} (h : SqL K G a vs) (dp : DpAll K G vs ds) (h' : SqL K G b us) (dp' : DpAll K G us es) : WalkD true K G (Itz K a b) (zipD ds es) where
  goes := fun i Hc hi s => by
    rw [zipD_len] at hi
    exact ⟨vs, us, vs[i]'(by rw [dp.len]; omega), us[i]'(by rw [dp'.len]; omega), s.seq h, s.seq h', List.getElem?_eq_getElem _, List.getElem?_eq_getElem _⟩
  stops := fun Hc s => ⟨vs, us, s.seq h, s.seq h', by rw [zipD_len, dp.len, dp'.len]; omega⟩
  yields := fun i Hc x H' hi s y => by
    rw [zipD_len] at hi
    obtain ⟨T, u1, u2, e1, e2, e3, e4, e5⟩ := y
    have e6 := e4 vs (s.seq h)
    have e7 := e5 us (s.seq h')
    obtain ⟨v, e8, e9⟩ := dp.get (List.getElem?_eq_getElem (show i < ds.length by omega))
    obtain ⟨v', e8', e9'⟩ := dp'.get (List.getElem?_eq_getElem (show i < es.length by omega))
    rw [e6] at e8
    cases e8
    rw [e7] at e8'
    cases e8'
    exact ⟨_, zipD_at (by omega) (by omega), .inr ⟨rfl, T, _, _, e1, e2, e3, rfl, .cons e9 (.cons e9' .nil)⟩⟩
theorem walkD_zipT {K : PySem.W.Frag} {G : Hp} {a b : Addr} {vs us : List V} {ds es : List D} (h : SqT K G a vs) (dp : DpAll K G vs ds) (h' : SqT K G b us) (dp' : DpAll K G us es) : WalkD true K G (RZ.ItzT K a b) (zipD ds es) where
  goes := fun i Hc hi s => by
    rw [zipD_len] at hi
    exact ⟨vs, us, vs[i]'(by rw [dp.len]; omega), us[i]'(by rw [dp'.len]; omega), Same.seqT s h, Same.seqT s h', List.getElem?_eq_getElem _, List.getElem?_eq_getElem _⟩
  stops := fun Hc s => ⟨vs, us, Same.seqT s h, Same.seqT s h', by rw [zipD_len, dp.len, dp'.len]; omega⟩
  yields := fun i Hc x H' hi s y => by
    rw [zipD_len] at hi
    obtain ⟨T, u1, u2, e1, e2, e3, e4, e5⟩ := y
    have e6 := e4 vs (Same.seqT s h)
    have e7 := e5 us (Same.seqT s h')
    obtain ⟨v, e8, e9⟩ := dp.get (List.getElem?_eq_getElem (show i < ds.length by omega))
    obtain ⟨v', e8', e9'⟩ := dp'.get (List.getElem?_eq_getElem (show i < es.length by omega))
    rw [e6] at e8
    cases e8
    rw [e7] at e8'
    cases e8'
    exact ⟨_, zipD_at (by omega) (by omega), .inr ⟨rfl, T, _, _, e1, e2, e3, rfl, .cons e9 (.cons e9' .nil)⟩⟩
def iZipS (fs : List AE) : AM (List D) := fun ρ => (evsD fs ρ).bind fun ds ρ1 => match ds with
  | [.list a, .list b] => .ok (zipD a b) ρ1
  | [.tuple a, .tuple b] => .ok (zipD a b) ρ1
  | _ => .bad
theorem i_zip {tpos : Pos} {elts : List Expr} {kk : Nat} {fs : List AE} (hg : Gl X "zip") (hm : X.mg "zip" = none) (ha : EDs X E [a, b] fs)
    (hs : starEach [a, b] X.env = (false, eval a X.env) :: starEach [b] X.env := by rfl) (hpl : (backTo pos (starEach [b] X.env)).any (·.1) = false := by rfl) :
    EI true X E (.Tuple elts kk tpos) (.Call (.Name "zip" p) [a, b] [] pos) (iZipS fs) :=
  PI_imp (RZ.pi_zipA hg hm ha hs hpl) fun σ H RR ⟨ρ, G, er, h⟩ => evsD_step er h fun vs ds ρ1 H1 G1 er1 s1 dps z => by
    split at z
    · rename_i x y
      cases dps with
      | cons d1 t =>
        cases t with
        | cons d2 t2 =>
          cases t2
          cases d1 with
          | lst hs1 ha1 =>
            cases d2 with
            | lst hs2 ha2 => exact ⟨_, _, _, _, rfl, .inl ⟨er1.sub.seq hs1, er1.sub.seq hs2, z H1 G1 er1 .refl _ (walkD_zip hs1 ha1 hs2 ha2)⟩⟩
    · rename_i x y
      cases dps with
      | cons d1 t =>
        cases t with
        | cons d2 t2 =>
          cases t2
          cases d1 with
          | tup hs1 ha1 =>
            cases d2 with
            | tup hs2 ha2 => exact ⟨_, _, _, _, rfl, .inr ⟨Same.seqT er1.sub hs1, Same.seqT er1.sub hs2, z H1 G1 er1 .refl _ (walkD_zipT hs1 ha1 hs2 ha2)⟩⟩
    · exact z.elim
end
end SW
set_option Elab.async false
set_option linter.all false
set_option maxRecDepth 100000
set_option maxHeartbeats 2000000
/-! SWStm: targets, comprehensions, statements. -/
namespace SW
open PySem PySem.Spec PyProof.Rows L2
variable [Tab]
/-! ### targets -/
abbrev AG := D → En → R Unit
/-- but at ws the slots are as they were -/
def But (ws : List Nat) (σ σ' : L2.St) : Prop := σ'.length = σ.length ∧ ∀ i, i ∉ ws → σ'[i]? = σ[i]?
def OutG (K : PySem.W.Frag) (ws : List Nat) (r : R Unit) (ρ : En) (σ : L2.St) (H G : Hp) (Q : L2.St → Hp → Prop) : Prop := match r with
  | .ok _ ρ' => ∀ σ' H' G', ER K ρ' σ' H' G' → Step ρ σ H G ρ' σ' H' G' → But ws σ σ' → Q σ' H'
  | _ => False
/-- data, or (b) a new pair of data -/
def DpI (b : Bool) (K : PySem.W.Frag) (G H : Hp) (v : V) (d : D) : Prop := Dp K G v d ∨ b = true ∧ ∃ T xs ds, v = .ref T ∧ d = .tuple ds ∧ H T = some (.tup xs) ∧ DpAll K G xs ds
def tG (b : Bool) (K : PySem.W.Frag) (ws : List Nat) (g : AG) : TG := fun v σ H Q => ∃ ρ G d, ER K ρ σ H G ∧ DpI b K G H v d ∧ OutG K ws (g d ρ) ρ σ H G Q
abbrev EG (b : Bool) (X : Cx) (tg : Expr) (g : AG) (ws : List Nat) : Prop := PG X tg (tG b X.K ws g)
theorem But.refl {ws : List Nat} {σ : L2.St} : But ws σ σ := ⟨rfl, fun _ _ => rfl⟩
theorem But.trans {ws us : List Nat} {σ σ1 σ2 : L2.St} (a : But ws σ σ1) (b : But us σ1 σ2) : But (ws ++ us) σ σ2 :=
  ⟨b.1.trans a.1, fun i h => (b.2 i fun z => h (List.mem_append_right _ z)).trans (a.2 i fun z => h (List.mem_append_left _ z))⟩
theorem But.set {σ : L2.St} {i : Nat} {v : Option V} : But [i] σ (σ.set i v) := ⟨List.length_set, fun j h => List.getElem?_set_ne (fun e => h (by simp [e]))⟩
def isIo : SV → Bool
  | .own true _ => true
  | _ => false
def gNm (i : Nat) : AG := fun d ρ => if isIo (getSlot ρ i) = true then .bad else .ok () (setSlot ρ i (.pl d))
theorem not_io {ρ : En} {i : Nat} (h : ¬ isIo (getSlot ρ i) = true) {ds : List D} (e : ρ[i]? = some (.own true ds)) : False := by
  apply h
  unfold getSlot
  rw [e]
  rfl
theorem ER.put {K : PySem.W.Frag} {ρ : En} {σ : L2.St} {H G : Hp} (er : ER K ρ σ H G) {i : Nat} {v : V} {d : D} (h : ¬ isIo (getSlot ρ i) = true) (dp : Dp K G v d) :
    ER K (ρ.set i (.pl d)) (σ.set i (some v)) H G ∧ Step ρ σ H G (ρ.set i (.pl d)) (σ.set i (some v)) H G := by
  have other : ∀ {j : Nat} {w : SV}, (ρ.set i (.pl d))[j]? = some w → (∀ e, w ≠ .pl e) → j ≠ i ∧ ρ[j]? = some w ∧ (σ.set i (some v))[j]? = σ[j]? := fun {j w} e hw => by
    rcases set_get e with ⟨rfl, e, _⟩ | ⟨hj, e⟩
    · exact (hw _ e).elim
    · exact ⟨hj, e, List.getElem?_set_ne (Ne.symm hj)⟩
  refine ⟨⟨by simpa using er.len, er.sub, fun j e he => ?_, fun j io ds he => ?_, fun j k io ds io' ds' a h1 h2 h3 h4 => ?_, fun j w he => ?_, er.tabs, er.ng⟩, ⟨Same.refl _, fun b o hb _ _ => ⟨hb, rfl⟩, fun _ h => h, fun b hb => .inl ?_, fun j ds he => ?_, by simp⟩⟩
  · rcases set_get he with ⟨rfl, e1, hl⟩ | ⟨hj, e1⟩
    · cases e1
      exact ⟨v, List.getElem?_set_self (by rw [← er.len]; exact hl), dp⟩
    · obtain ⟨u, q1, q2⟩ := er.pl j e e1
      exact ⟨u, by rw [List.getElem?_set_ne (Ne.symm hj)]; exact q1, q2⟩
  · obtain ⟨hj, e1, e2⟩ := other he (fun _ z => nomatch z)
    obtain ⟨a, vs, q1, q2⟩ := er.own j io ds e1
    exact ⟨a, vs, by rw [e2]; exact q1, q2⟩
  · obtain ⟨_, e1, e2⟩ := other h1 (fun _ z => nomatch z)
    obtain ⟨_, e3, e4⟩ := other h2 (fun _ z => nomatch z)
    rw [e2] at h3
    rw [e4] at h4
    exact er.inj j k io ds io' ds' a e1 e3 h3 h4
  · obtain ⟨_, e1, e2⟩ := other he (fun _ z => nomatch z)
    rw [e2]
    exact er.raw j w e1
  · obtain ⟨j, io, ds, h1, h2⟩ := hb
    obtain ⟨_, e1, e2⟩ := other h1 (fun _ z => nomatch z)
    rw [e2] at h2
    exact ⟨j, io, ds, e1, h2⟩
  · obtain ⟨_, e1, e2⟩ := other he (fun _ z => nomatch z)
    exact ⟨ds, e1, e2⟩
section
variable {X : Cx} {pos : Pos}
theorem g_nm {i : Nat} {x : Str} (hN : X.N.Nodup) (hi : X.N[i]? = some x) (hx : Loc X.env.scope x) (hf : X.fn x = true ∨ X.env.scope.names.lookup x = some .local := by first | exact .inl rfl | exact .inr rfl | assumption) : EG false X (.Name x pos) (gNm i) [i] :=
  ⟨fun pins s σ H v u Q I r h => (pg_name (pos := pos) hN hi hx hf).run pins s σ H v u Q I r (by
    obtain ⟨ρ, G, d, er, dp, h⟩ := h
    have dp := dp.resolve_right fun z => nomatch z.1
    unfold gNm at h
    split at h
    · exact h.elim
    · rename_i hn
      obtain ⟨e1, s1⟩ := er.put hn dp
      exact h _ _ _ e1 s1 .set)⟩
def gsRun : List AG → List D → En → R Unit
  | [], [], ρ => .ok () ρ
  | g :: gs, d :: ds, ρ => (g d ρ).bind fun _ ρ1 => gsRun gs ds ρ1
  | _, _, _ => .bad
def tGs (K : PySem.W.Frag) (ws : List Nat) (gs : List AG) : TGs := fun vs σ H Q => ∃ ρ G ds, ER K ρ σ H G ∧ DpAll K G vs ds ∧ OutG K ws (gsRun gs ds ρ) ρ σ H G Q
abbrev EGs (X : Cx) (ts : List Expr) (gs : List AG) (ws : List Nat) : Prop := PGs X ts (tGs X.K ws gs)
theorem gs_nil : EGs X [] [] [] := ⟨fun pins s σ H vs us Q I r h => pgs_nil.run pins s σ H vs us Q I r (by
  obtain ⟨ρ, G, ds, er, dp, h⟩ := h
  cases dp with
  | nil => exact ⟨rfl, h σ H G er .refl .refl⟩
  | cons _ _ => exact h.elim)⟩
theorem gs_cons {e : Expr} {es : List Expr} {g : AG} {gs : List AG} {ws wz : List Nat} (h1 : EG false X e g ws) (h2 : EGs X es gs wz) (hs : (assignEach (e :: es) X.env).map (·.2) = assign e X.env :: (assignEach es X.env).map (·.2) := by rfl) : EGs X (e :: es) (g :: gs) (ws ++ wz) :=
  ⟨fun pins s σ H vs us Q I r h => (pgs_cons h1 h2 hs).run pins s σ H vs us Q I r (by
    obtain ⟨ρ, G, ds, er, dp, h⟩ := h
    cases dp with
    | nil => exact h.elim
    | cons d1 dt =>
      rename_i v vr d dr
      refine ⟨v, vr, rfl, ρ, G, d, er, .inl d1, ?_⟩
      have h' : OutG X.K (ws ++ wz) ((g d ρ).bind fun _ ρ1 => gsRun gs dr ρ1) ρ σ H G Q := h
      cases q : g d ρ with
      | err x ρ1 => rw [q] at h'; exact h'.elim
      | bad => rw [q] at h'; exact h'.elim
      | ok u ρ1 =>
        rw [q] at h'
        intro σ1 H1 G1 er1 s1 b1
        refine ⟨ρ1, G1, dr, er1, dpAll_mono s1.sg _ _ dt, ?_⟩
        have h3 : OutG X.K (ws ++ wz) (gsRun gs dr ρ1) ρ σ H G Q := h'
        cases q2 : gsRun gs dr ρ1 with
        | err x ρ1 => rw [q2] at h3; exact h3.elim
        | bad => rw [q2] at h3; exact h3.elim
        | ok u2 ρ2 =>
          rw [q2] at h3
          exact fun σ2 H2 G2 er2 s2 b2 => h3 σ2 H2 G2 er2 (s1.trans s2) (b1.trans b2))⟩
def gTupA (gs : List AG) : AG := fun d ρ => match d with
  | .tuple ds => gsRun gs ds ρ
  | _ => .bad
theorem gsRun_len : ∀ {gs : List AG} {ds : List D} {ρ ρ' : En} {u : Unit}, gsRun gs ds ρ = .ok u ρ' → ds.length = gs.length
  | [], [], _, _, _, _ => rfl
  | g :: gs, d :: ds, ρ, ρ', u, h => by
    have h' : (g d ρ).bind (fun _ ρ1 => gsRun gs ds ρ1) = .ok u ρ' := h
    cases q : g d ρ with
    | ok a ρ1 => rw [q] at h'; exact congrArg (· + 1) (gsRun_len h')
    | err x ρ1 => rw [q] at h'; cases h'
    | bad => rw [q] at h'; cases h'
  | [], _ :: _, _, _, _, h => by cases h
  | _ :: _, [], _, _, _, h => by cases h
theorem g_tup {bb : Bool} {es : List Expr} {k : Nat} {gs : List AG} {ws : List Nat} (hc : X.calm = true) (h : EGs X es gs ws) (hn : (assignEach es X.env).length = gs.length := by rfl) (hst : (assignEach es X.env).findIdx? (·.1) = none := by rfl) : EG bb X (.Tuple es k pos) (gTupA gs) ws :=
  ⟨fun pins s σ H v u Q I r hw => (pg_tup (k := k) (pos := pos) (n := gs.length) hc h hn hst).run pins s σ H v u Q I r (by
    obtain ⟨ρ, G, d, er, dp, h⟩ := hw
    cases d with
    | tuple ds =>
      have h' : OutG X.K ws (gsRun gs ds ρ) ρ σ H G Q := h
      obtain ⟨a, xs, rfl, hs, ha⟩ : ∃ a xs, v = .ref a ∧ SqT X.K H a xs ∧ DpAll X.K G xs ds := by
        rcases dp with dp | ⟨_, T, xs, ds', rfl, e, hT, ha⟩
        · cases dp with
          | tup hs ha => exact ⟨_, _, rfl, Same.seqT er.sub hs, ha⟩
        · cases e
          exact ⟨T, xs, rfl, .inl (.inl hT), ha⟩
      refine ⟨_, _, rfl, hs, ?_, ρ, G, ds, er, ha, h'⟩
      rw [ha.len]
      cases q : gsRun gs ds ρ with
      | ok a ρ1 => exact gsRun_len q
      | err x ρ1 => rw [q] at h'; exact h'.elim
      | bad => rw [q] at h'; exact h'.elim
    | _ => exact h.elim)⟩
end
/-! ### a list of one's own is changed -/
theorem ER.ownSet {K : PySem.W.Frag} {ρ : En} {σ : L2.St} {H G : Hp} (er : ER K ρ σ H G) {i : Nat} {io : Bool} {ds ds' : List D} {a : Addr} {us : List V} (h : ρ[i]? = some (.own io ds)) (ha : σ[i]? = some (some (.ref a))) (dp : DpAll K G us ds') :
    ER K (ρ.set i (.own io ds')) σ (upd H a (.lst us)) G ∧ Step ρ σ H G (ρ.set i (.own io ds')) σ (upd H a (.lst us)) G := by
  obtain ⟨a', vs, h1, h2, h3, h4⟩ := er.own i io ds h
  rw [ha] at h1
  cases h1
  refine ⟨⟨by simpa using er.len, fun b x e => ?_, fun j d e => ?_, fun j jo es e => ?_, fun j k jo es ko fs b e1 e2 q1 q2 => ?_, fun j v e => ?_, er.tabs.lst h3, er.ng⟩, ⟨Same.refl _, fun b o e _ n => ⟨?_, rfl⟩, fun b e => ?_, fun b z => .inl ?_, fun j es e => ?_, by simp⟩⟩
  · rw [upd_ne fun z => by rw [z, h2] at e; cases e]
    exact er.sub _ _ e
  · rcases set_get e with ⟨rfl, e, _⟩ | ⟨_, e⟩
    · cases e
    · exact er.pl j d e
  · rcases set_get e with ⟨rfl, e, _⟩ | ⟨hj, e⟩
    · cases e
      exact ⟨a, us, ha, h2, upd_same, dp⟩
    · obtain ⟨b, ws, q1, q2, q3, q4⟩ := er.own j jo es e
      have ne : b ≠ a := fun z => hj (er.inj _ _ _ _ _ _ b e h q1 (by rw [z]; exact ha))
      exact ⟨b, ws, q1, q2, by rw [upd_ne ne]; exact q3, q4⟩
  · have back : ∀ {j : Nat} {jo : Bool} {es : List D}, (ρ.set i (.own io ds'))[j]? = some (.own jo es) → ∃ jo' es', ρ[j]? = some (.own jo' es') := fun {j jo es} e => by
      rcases set_get e with ⟨rfl, _, _⟩ | ⟨_, e⟩
      · exact ⟨_, _, h⟩
      · exact ⟨_, _, e⟩
    obtain ⟨_, _, f1⟩ := back e1
    obtain ⟨_, _, f2⟩ := back e2
    exact er.inj _ _ _ _ _ _ b f1 f2 q1 q2
  · rcases set_get e with ⟨rfl, e, _⟩ | ⟨_, e⟩
    · cases e
    · exact er.raw j v e
  · rw [upd_ne fun z => n (by rw [z]; exact ⟨i, io, ds, h, ha⟩)]
    exact e
  · by_cases hb : b = a
    · rw [hb, upd_same] at e; cases e
    · rw [upd_ne hb] at e; exact e
  · obtain ⟨j, jo, es, e, q⟩ := z
    rcases set_get e with ⟨rfl, e, _⟩ | ⟨_, e⟩
    · exact ⟨j, io, ds, h, q⟩
    · exact ⟨j, jo, es, e, q⟩
  · rcases set_get e with ⟨rfl, e, _⟩ | ⟨_, e⟩
    · cases e
      exact ⟨ds, h, rfl⟩
    · exact ⟨es, e, rfl⟩
def setAt : D → SV → D → Option SV
  | .int n, .own io ds, d => (match ixN ds.length n with
    | some j => some (.own io (ds.set j d))
    | none => none)
  | _, _, _ => none
theorem setAt_ok {k : D} {sv : SV} {d : D} {r : SV} (h : setAt k sv d = some r) : ∃ n io ds j, k = .int n ∧ sv = .own io ds ∧ ixN ds.length n = some j ∧ r = .own io (ds.set j d) := by
  cases k with
  | int n =>
    cases sv with
    | own io ds =>
      have h' : (match ixN ds.length n with
        | some j => some (SV.own io (ds.set j d))
        | none => none) = some r := h
      split at h'
      · rename_i j e
        cases h'
        exact ⟨n, io, ds, j, rfl, rfl, e, rfl⟩
      · cases h'
    | _ => cases h
  | _ => cases h
def isOwn : SV → Bool
  | .own _ _ => true
  | _ => false
theorem isOwn_at {ρ : En} {i : Nat} (h : isOwn (getSlot ρ i) = true) : ∃ io ds, ρ[i]? = some (.own io ds) := by
  cases e : getSlot ρ i with
  | own io ds => exact ⟨io, ds, getSlot_own e⟩
  | _ => rw [e] at h; cases h
def gIx (i : Nat) (fi : AE) : AG := fun d ρ => if isOwn (getSlot ρ i) = true then (match fi ρ with
  | .ok k ρ1 => (match setAt k (getSlot ρ1 i) d with
    | some r => .ok () (setSlot ρ1 i r)
    | none => .bad)
  | _ => .bad) else .bad
theorem g_ix {X : Cx} {pos p : Pos} {i : Nat} {x : Str} {e : Expr} {fi : AE} (hN : X.N[i]? = some x) (hv : Vis X.env.scope x) (he : EV X (fun _ _ _ _ => False) e fi)
    (ha : ∀ v, assign (.Subscript (.Name x p) e pos) X.env v = (do
      let ov ← holding [v] (eval (.Name x p) X.env)
      let iv ← holding [v, ov] (eval e X.env)
      standAt pos
      holding [v, ov, iv] (setItem ov iv v)
      release [v, ov, iv] []) := by intro _; rfl) (hd : (x == ("__debug__" : Str)) = false := by decide) (hcd : (x == ("__classdict__" : Str)) = false := by decide) : EG false X (.Subscript (.Name x p) e pos) (gIx i fi) [] :=
  ⟨fun pins s σ H v u Q I r h => (pg_sub (pe_var hN hv hd hcd) he set_list ha).run pins s σ H v u Q I r (by
    obtain ⟨ρ, G, d, er, dp, h⟩ := h
    have dp := dp.resolve_right fun z => nomatch z.1
    unfold gIx at h
    split at h
    · rename_i ho
      obtain ⟨io0, ds0, eo0⟩ := isOwn_at ho
      obtain ⟨a0, vs0, ea0, _⟩ := er.own i io0 ds0 eo0
      refine ⟨_, ea0, ρ, G, er, ?_⟩
      cases q : fi ρ with
      | err x ρ1 => rw [q] at h; exact h.elim
      | bad => rw [q] at h; exact h.elim
      | ok k ρ1 =>
        rw [q] at h
        have h0 : OutG X.K [] (match setAt k (getSlot ρ1 i) d with
          | some r => R.ok () (setSlot ρ1 i r)
          | none => .bad) ρ σ H G Q := h
        intro H1 G1 er1 s1 iv dpi
        split at h0
        · rename_i r er'
          obtain ⟨n, io, ds, j, rfl, eo, ej, rfl⟩ := setAt_ok er'
          have eo := getSlot_own eo
          cases dpi
          obtain ⟨a, vs, h1, h2, h3, h4⟩ := er1.own i io ds eo
          rw [ea0] at h1
          cases h1
          refine ⟨a0, vs, n, j, rfl, rfl, h3, by rw [h4.len]; exact ej, ?_⟩
          obtain ⟨er2, s2⟩ := er1.ownSet (ds' := ds.set j d) (us := vs.set j v) eo ea0 (h4.set (dp_mono s1.sg _ _ dp) j)
          exact h0 σ _ _ er2 (s1.trans s2) .refl
        · exact h0.elim
    · exact h.elim)⟩
/-! ### comprehensions -/
def wipeE (ρ : En) : List Nat → En
  | [] => ρ
  | v :: vs => (wipeE ρ vs).set v .un
def backE (ρ ρ' : En) : List Nat → En
  | [] => ρ'
  | v :: vs => (backE ρ ρ' vs).set v (getSlot ρ v)
theorem wipeE_length (ρ : En) : ∀ vs : List Nat, (wipeE ρ vs).length = ρ.length
  | [] => rfl
  | v :: vs => by
    show ((wipeE ρ vs).set v .un).length = _
    rw [List.length_set, wipeE_length ρ vs]
theorem backE_length (ρ ρ' : En) : ∀ vs : List Nat, (backE ρ ρ' vs).length = ρ'.length
  | [] => rfl
  | v :: vs => by
    show ((backE ρ ρ' vs).set v _).length = _
    rw [List.length_set, backE_length ρ ρ' vs]
theorem wipeE_at {ρ : En} {i : Nat} {w : SV} : ∀ {vs : List Nat}, (wipeE ρ vs)[i]? = some w → w ≠ .un → i ∉ vs ∧ ρ[i]? = some w
  | [], h, _ => ⟨by simp, h⟩
  | v :: vs, h, hw => by
    rcases set_get (ρ := wipeE ρ vs) h with ⟨_, e, _⟩ | ⟨hj, e⟩
    · exact (hw e).elim
    · obtain ⟨h1, h2⟩ := wipeE_at e hw
      exact ⟨by simp; exact ⟨hj, h1⟩, h2⟩
theorem backE_at {ρ ρ' : En} (hl : ρ.length = ρ'.length) {i : Nat} {w : SV} : ∀ {vs : List Nat}, (backE ρ ρ' vs)[i]? = some w → (i ∈ vs ∧ ρ[i]? = some w) ∨ (i ∉ vs ∧ ρ'[i]? = some w)
  | [], h => .inr ⟨by simp, h⟩
  | v :: vs, h => by
    rcases set_get (ρ := backE ρ ρ' vs) h with ⟨e0, e, hlt⟩ | ⟨hj, e⟩
    · refine .inl ⟨by simp [e0], ?_⟩
      rw [backE_length, ← hl] at hlt
      rw [e, e0]
      unfold getSlot
      rw [List.getElem?_eq_getElem hlt]
    · rcases backE_at hl e with ⟨h1, h2⟩ | ⟨h1, h2⟩
      · exact .inl ⟨List.mem_cons_of_mem _ h1, h2⟩
      · exact .inr ⟨by simp; exact ⟨hj, h1⟩, h2⟩
theorem wipe_at {σ : L2.St} {i : Nat} : ∀ {vs : List Nat}, i ∉ vs → (wipe σ vs)[i]? = σ[i]?
  | [], _ => rfl
  | v :: vs, h => by
    have h1 : i ≠ v := fun z => h (by simp [z])
    have h2 : i ∉ vs := fun z => h (List.mem_cons_of_mem _ z)
    show ((wipe σ vs).set v none)[i]? = _
    rw [List.getElem?_set_ne (Ne.symm h1)]
    exact wipe_at h2
section
variable {K : PySem.W.Frag} {ρ : En} {σ : L2.St} {H G : Hp} {vs : List Nat}
theorem Owned.unwipe {b : Addr} (h : Owned (wipeE ρ vs) (wipe σ vs) b) : ∃ i io ds, i ∉ vs ∧ ρ[i]? = some (.own io ds) ∧ σ[i]? = some (some (.ref b)) := by
  obtain ⟨i, io, ds, h1, h2⟩ := h
  obtain ⟨h3, h4⟩ := wipeE_at h1 (fun z => nomatch z)
  rw [wipe_at h3] at h2
  exact ⟨i, io, ds, h3, h4, h2⟩
theorem ER.wipe (er : ER K ρ σ H G) : ER K (wipeE ρ vs) (wipe σ vs) H G := by
  refine ⟨by rw [wipeE_length, wipe_length]; exact er.len, er.sub, fun i d h => ?_, fun i io ds h => ?_, fun i j io ds io' ds' a h1 h2 h3 h4 => ?_, fun i v h => ?_, er.tabs, er.ng⟩
  · obtain ⟨h3, h4⟩ := wipeE_at h (fun z => nomatch z)
    rw [wipe_at h3]
    exact er.pl i d h4
  · obtain ⟨h3, h4⟩ := wipeE_at h (fun z => nomatch z)
    rw [wipe_at h3]
    exact er.own i io ds h4
  · obtain ⟨n1, e1⟩ := wipeE_at h1 (fun z => nomatch z)
    obtain ⟨n2, e2⟩ := wipeE_at h2 (fun z => nomatch z)
    rw [wipe_at n1] at h3
    rw [wipe_at n2] at h4
    exact er.inj i j io ds io' ds' a e1 e2 h3 h4
  · obtain ⟨h3, h4⟩ := wipeE_at h (fun z => nomatch z)
    rw [wipe_at h3]
    exact er.raw i v h4
/-- behind a turn of a comprehension: its own names are as they were -/
theorem ER.unwipe (er : ER K ρ σ H G) {ρ' : En} {σ' : L2.St} {H' G' : Hp} (er' : ER K ρ' σ' H' G') (st : Step (wipeE ρ vs) (L2.wipe σ vs) H G ρ' σ' H' G') (hs : L2.wipe σ' vs = L2.wipe σ vs) :
    ER K (backE ρ ρ' vs) σ H' G' ∧ Step ρ σ H G (backE ρ ρ' vs) σ H' G' := by
  have hl : ρ.length = ρ'.length := by
    have e1 := congrArg List.length hs
    rw [wipe_length, wipe_length] at e1
    rw [er.len, er'.len, e1]
  have same : ∀ {i : Nat}, i ∉ vs → σ'[i]? = σ[i]? := fun {i} h => by
    rw [← wipe_at h, hs, wipe_at h]
  have stay : ∀ {i : Nat} {io : Bool} {ds : List D} {a : Addr}, i ∈ vs → ρ[i]? = some (.own io ds) → σ[i]? = some (some (.ref a)) → ¬ Owned (wipeE ρ vs) (L2.wipe σ vs) a := fun {i io ds a} hi h1 h2 z => by
    obtain ⟨j, jo, es, h3, h4, h5⟩ := z.unwipe
    exact h3 (by rw [← er.inj i j io ds jo es a h1 h4 h2 h5]; exact hi)
  refine ⟨⟨by rw [backE_length]; rw [← hl]; exact er.len, er'.sub, fun i d h => ?_, fun i io ds h => ?_, fun i j io ds io' ds' a h1 h2 h3 h4 => ?_, fun i v h => ?_, er'.tabs, er'.ng⟩, ⟨st.sg, fun b o hb nt hn => ?_, st.there, fun b hb => ?_, fun i ds' h => ?_, by rw [backE_length]; exact hl.symm⟩⟩
  · rcases backE_at hl h with ⟨h1, h2⟩ | ⟨h1, h2⟩
    · obtain ⟨v, q1, q2⟩ := er.pl i d h2
      exact ⟨v, q1, dp_mono st.sg _ _ q2⟩
    · obtain ⟨v, q1, q2⟩ := er'.pl i d h2
      exact ⟨v, by rw [← same h1]; exact q1, q2⟩
  · rcases backE_at hl h with ⟨h1, h2⟩ | ⟨h1, h2⟩
    · obtain ⟨a, us, q1, q2, q3, q4⟩ := er.own i io ds h2
      obtain ⟨k1, k2⟩ := st.keep a _ q3 nt_lst (stay h1 h2 q1)
      exact ⟨a, us, q1, by rw [k2]; exact q2, k1, dpAll_mono st.sg _ _ q4⟩
    · obtain ⟨a, us, q1, q2⟩ := er'.own i io ds h2
      exact ⟨a, us, by rw [← same h1]; exact q1, q2⟩
  · rcases backE_at hl h1 with ⟨m1, e1⟩ | ⟨m1, e1⟩
    · rcases backE_at hl h2 with ⟨m2, e2⟩ | ⟨m2, e2⟩
      · exact er.inj i j io ds io' ds' a e1 e2 h3 h4
      · exfalso
        rcases st.osub a ⟨j, io', ds', e2, by rw [same m2]; exact h4⟩ with z | z
        · exact stay m1 e1 h3 z
        · obtain ⟨a', us, q1, _, q3, _⟩ := er.own i io ds e1
          rw [h3] at q1
          cases q1
          rw [z] at q3
          cases q3
    · rcases backE_at hl h2 with ⟨m2, e2⟩ | ⟨m2, e2⟩
      · exfalso
        rcases st.osub a ⟨i, io, ds, e1, by rw [same m1]; exact h3⟩ with z | z
        · exact stay m2 e2 h4 z
        · obtain ⟨a', us, q1, _, q3, _⟩ := er.own j io' ds' e2
          rw [h4] at q1
          cases q1
          rw [z] at q3
          cases q3
      · exact er'.inj i j io ds io' ds' a e1 e2 (by rw [same m1]; exact h3) (by rw [same m2]; exact h4)
  · rcases backE_at hl h with ⟨h1, h2⟩ | ⟨h1, h2⟩
    · exact er.raw i v h2
    · rw [← same h1]
      exact er'.raw i v h2
  · refine st.keep b o hb nt fun z => hn ?_
    obtain ⟨j, jo, es, h3, h4, h5⟩ := z.unwipe
    exact ⟨j, jo, es, h4, h5⟩
  · obtain ⟨i, io, ds, h, h2⟩ := hb
    rcases backE_at hl h with ⟨h1, h3⟩ | ⟨h1, h3⟩
    · exact .inl ⟨i, io, ds, h3, h2⟩
    · rcases st.osub b ⟨i, io, ds, h3, by rw [same h1]; exact h2⟩ with z | z
      · obtain ⟨j, jo, es, h4, h5, h6⟩ := z.unwipe
        exact .inl ⟨j, jo, es, h5, h6⟩
      · exact .inr z
  · rcases backE_at hl h with ⟨h1, h3⟩ | ⟨h1, h3⟩
    · exact ⟨ds', h3, rfl⟩
    · obtain ⟨ds, h4, _⟩ := st.io i ds' h3
      obtain ⟨_, h5⟩ := wipeE_at h4 (fun z => nomatch z)
      exact ⟨ds, h5, rfl⟩
end
end SW
set_option Elab.async false
set_option linter.all false
set_option maxRecDepth 100000
set_option maxHeartbeats 2000000
/-! SWComp: list comprehensions. -/
namespace SW
open PySem PySem.Spec PyProof.Rows L2
variable [Tab]
def compLoop (vs : List Nat) (g : AG) (tt : AM Bool) (te : AE) : List D → List D → En → R (List D)
  | [], acc, ρ => .ok acc ρ
  | d :: ds, acc, ρ => match g d (wipeE ρ vs) with
    | .ok _ ρ1 => (match tt ρ1 with
      | .ok true ρ2 => (match te ρ2 with
        | .ok e ρ3 => if acc.length < sizeLine then compLoop vs g tt te ds (acc ++ [e]) (backE ρ ρ3 vs) else .bad
        | _ => .bad)
      | .ok false ρ2 => compLoop vs g tt te ds acc (backE ρ ρ2 vs)
      | _ => .bad)
    | _ => .bad
/-- [te for g in it if tt]: a list just made -/
def fComp (vs : List Nat) (it : AM (List D)) (g : AG) (tt : AM Bool) (te : AE) : AM (List D) := fun ρ => (it ρ).bind fun items ρ1 => compLoop vs g tt te items [] ρ1
def noE : WX := fun _ _ _ _ => False
def tYes : AM Bool := fun ρ => .ok true ρ
abbrev ETs (X : Cx) (E : WX) (es : List Expr) (f : AM Bool) : Prop := PTs X es (tXT X.K E f)
theorem PTs_imp {X : Cx} {es : List Expr} {t t' : TT} (h : PTs X es t) (i : ∀ σ H Q, t' σ H Q → t σ H Q) : PTs X es t' := ⟨fun pins s σ H Q I hw => h.run pins s σ H Q I (i σ H Q hw)⟩
theorem ts_nil {X : Cx} {E : WX} : ETs X E [] tYes := PTs_imp pts_nil fun σ H Q ⟨ρ, G, er, h⟩ => h H G er .refl
theorem ts_one {X : Cx} {E : WX} {e : Expr} {f : AM Bool} (h : ET X E e f) : ETs X E [e] f := pts_one h
theorem wipe_but {σ σ2 : L2.St} {vs ws : List Nat} (h : But ws (wipe σ vs) σ2) (hw : ∀ i ∈ ws, i ∈ vs) : wipe σ2 vs = wipe σ vs := by
  have hl : σ2.length = σ.length := by rw [h.1, wipe_length]
  refine List.ext_getElem? fun i => ?_
  by_cases hi : i ∈ vs
  · have aux : ∀ (τ : L2.St) (vs : List Nat), i ∈ vs → (wipe τ vs)[i]? = if i < τ.length then some none else none := by
      intro τ vs
      induction vs with
      | nil => intro h; cases h
      | cons v vs ih =>
        intro hm
        show ((wipe τ vs).set v none)[i]? = _
        by_cases e : i = v
        · subst e
          by_cases hlt : i < τ.length
          · rw [if_pos hlt, List.getElem?_set_self (by rw [wipe_length]; exact hlt)]
          · rw [if_neg hlt, List.getElem?_eq_none (by rw [List.length_set, wipe_length]; omega)]
        · rw [List.getElem?_set_ne (Ne.symm e)]
          exact ih ((List.mem_cons.mp hm).resolve_left e)
    rw [aux σ2 vs hi, aux σ vs hi, hl]
  · rw [wipe_at hi, h.2 i fun z => hi (hw i z)]
section
variable {X : Cx} {pos : Pos}
theorem comp_read {bb : Bool} {K : PySem.W.Frag} {vs ws : List Nat} {it : AM (List D)} {g : AG} {tt : AM Bool} {te : AE} {E : WX} (hw : ∀ i ∈ ws, i ∈ vs) {σ : L2.St} {H : Hp} {Q : VK} (h : tF K E (fComp vs it g tt te) σ H Q) :
    tLc (tI bb K E it) (tG bb K ws g) (tXT K noE tt) (tX K noE te) vs σ H Q := by
  obtain ⟨ρ, G, er, h⟩ := h
  refine ⟨ρ, G, er, ?_⟩
  unfold fComp at h
  cases q : it ρ with
  | err x ρ1 => rw [q] at h; exact h
  | bad => rw [q] at h; exact h
  | ok items ρ1 =>
    rw [q] at h
    have h0 : Out K E (compLoop vs g tt te items [] ρ1) ρ σ H G (ZF K σ H Q) := h
    intro H1 G1 er1 s1 J wk Da nD
    have nG : G1 Da = none := sub_none er1.sub nD
    have nH : H Da = none := s1.there Da nD
    have no : ¬ Owned ρ1 σ Da := not_owned_new er1 nD
    -- the invariant
    refine ⟨fun i m Hc => i ≤ items.length ∧ m = items.length - i ∧ ∃ acc ρc Gc us, ER K ρc σ Hc Gc ∧ Step ρ σ H G ρc σ Hc Gc ∧ Same G1 Gc ∧ Hc Da = some (.lst us) ∧ Gc Da = none ∧ ¬ Owned ρc σ Da ∧ DpAll K Gc us acc ∧
      Out K E (compLoop vs g tt te (items.drop i) acc ρc) ρ σ H G (ZF K σ H Q), ⟨items.length, Nat.zero_le _, rfl, [], ρ1, G1, [], er1.lay nD, s1.trans (er1.stepLay nD), Same.refl _, upd_same, nG, no, .nil, h0⟩, ?_⟩
    rintro i m Hc ⟨hi, rfl, acc, ρc, Gc, us, erc, sc, sg, eD, gD, oD, dps, hc⟩
    by_cases hlt : i < items.length
    · refine .inr ⟨wk.goes i Hc hlt (sg.trans erc.sub), fun H' => ∃ m', m' < items.length - i ∧ (i + 1 ≤ items.length ∧ m' = items.length - (i + 1) ∧ ∃ acc ρc Gc us, ER K ρc σ H' Gc ∧ Step ρ σ H G ρc σ H' Gc ∧ Same G1 Gc ∧ H' Da = some (.lst us) ∧ Gc Da = none ∧ ¬ Owned ρc σ Da ∧ DpAll K Gc us acc ∧
        Out K E (compLoop vs g tt te (items.drop (i + 1)) acc ρc) ρ σ H G (ZF K σ H Q)), fun H' z => z, fun x H' hy => ?_⟩
      have yd := wk.yields i Hc x H' hlt (sg.trans erc.sub) hy
      obtain ⟨d, ed, hcase⟩ := yd
      have edrop : items.drop i = d :: items.drop (i + 1) := by
        rw [List.drop_eq_getElem_cons hlt]
        rw [List.getElem?_eq_getElem hlt] at ed
        rw [Option.some.inj ed]
      rw [edrop] at hc
      -- the heap with the item
      obtain ⟨Gx, erx, sx, dpx, eDx, gDx⟩ : ∃ Gx, ER K ρc σ H' Gx ∧ Step ρc σ Hc Gc ρc σ H' Gx ∧ DpI bb K Gx H' x d ∧ H' Da = some (.lst us) ∧ Gx Da = none := by
        rcases hcase with ⟨rfl, dp⟩ | ⟨eb, T, xs, ds, rfl, nT, rfl, rfl, dp⟩
        · exact ⟨Gc, erc, .refl, .inl (dp_mono sg _ _ dp), eD, gD⟩
        · have ne : Da ≠ T := ne_of_none eD nT
          exact ⟨Gc, erc.lay nT, erc.stepLay nT, .inr ⟨eb, T, xs, ds, rfl, rfl, upd_same, dpAll_mono sg _ _ dp⟩, by rw [upd_ne ne]; exact eD, gD⟩
      have sgx : Same G1 Gx := sg.trans sx.sg
      have dpsx := dpAll_mono sx.sg _ _ dps
      have hc2 : Out K E (match g d (wipeE ρc vs) with
        | .ok _ ρ1 => (match tt ρ1 with
          | .ok true ρ2 => (match te ρ2 with
            | .ok e ρ3 => if acc.length < sizeLine then compLoop vs g tt te (items.drop (i + 1)) (acc ++ [e]) (backE ρc ρ3 vs) else .bad
            | _ => .bad)
          | .ok false ρ2 => compLoop vs g tt te (items.drop (i + 1)) acc (backE ρc ρ2 vs)
          | _ => .bad)
        | _ => .bad) ρ σ H G (ZF K σ H Q) := hc
      refine ⟨wipeE ρc vs, Gx, d, erx.wipe, dpx, ?_⟩
      cases q1 : g d (wipeE ρc vs) with
      | err x ρ1 => rw [q1] at hc2; exact hc2.elim
      | bad => rw [q1] at hc2; exact hc2.elim
      | ok u ρa =>
        rw [q1] at hc2
        intro σa Ha Ga era sa ba
        have wa : wipe σa vs = wipe σ vs := wipe_but ba hw
        have nox : ¬ Owned (wipeE ρc vs) (wipe σ vs) Da := fun z => by
          obtain ⟨j, jo, es, _, h2, h3⟩ := z.unwipe
          exact oD ⟨j, jo, es, h2, h3⟩
        obtain ⟨eDa, gDa⟩ := sa.keep Da _ eDx nt_lst nox
        refine ⟨wa, ρa, Ga, era, ?_⟩
        dsimp only at hc2
        cases q2 : tt ρa with
        | err x ρ1 => rw [q2] at hc2; exact hc2.elim
        | bad => rw [q2] at hc2; exact hc2.elim
        | ok b ρb =>
          rw [q2] at hc2
          intro Hb Gb erb sb
          have sab := sa.trans sb
          obtain ⟨eDb, gDb⟩ := sab.keep Da _ eDx nt_lst nox
          cases b with
          | false =>
            show ite _ _ _
            rw [if_neg Bool.false_ne_true]
            obtain ⟨erf, sf⟩ := erx.unwipe erb sab wa
            refine ⟨items.length - (i + 1), by omega, hlt, rfl, acc, _, Gb, us, erf, (sc.trans sx).trans sf, sgx.trans sf.sg, eDb, by rw [gDb]; exact gDx, fun z => ?_, dpAll_mono sf.sg _ _ dpsx, hc2⟩
            rcases sf.osub Da z with z | z
            · exact oD z
            · rw [eDx] at z; cases z
          | true =>
            show ite _ _ _
            rw [if_pos rfl]
            refine ⟨ρb, Gb, erb, ?_⟩
            dsimp only at hc2
            cases q3 : te ρb with
            | err x ρ1 => rw [q3] at hc2; exact hc2.elim
            | bad => rw [q3] at hc2; exact hc2.elim
            | ok e ρe =>
              rw [q3] at hc2
              intro He Ge ere se v dpv
              have sae := sab.trans se
              obtain ⟨eDe, gDe⟩ := sae.keep Da _ eDx nt_lst nox
              have hc3 : Out K E (if acc.length < sizeLine then compLoop vs g tt te (items.drop (i + 1)) (acc ++ [e]) (backE ρc ρe vs) else .bad) ρ σ H G (ZF K σ H Q) := hc2
              split at hc3
              · rename_i hz
                obtain ⟨erf, sf⟩ := erx.unwipe ere sae wa
                have gDe' : Ge Da = none := by rw [gDe]; exact gDx
                have noF : ¬ Owned (backE ρc ρe vs) σ Da := fun z => by
                  rcases sf.osub Da z with z | z
                  · exact oD z
                  · rw [eDx] at z; cases z
                have dpf := dpAll_mono sf.sg _ _ dpsx
                have stx := (sc.trans sx).trans sf
                refine ⟨us, eDe, by rw [dps.len]; exact hz, items.length - (i + 1), by omega, hlt, rfl, acc ++ [e], _, Ge, us ++ [v], ⟨erf.len, fun b o hb => ?_, erf.pl, fun j jo es hj => ?_, erf.inj, erf.raw, erf.tabs.lst eDe, erf.ng⟩, ⟨stx.sg, fun b o hb nt hn => ?_, fun b hb => ?_, stx.osub, stx.io, stx.ln⟩, sgx.trans sf.sg, upd_same, gDe', noF, dpf.app (.cons dpv .nil), hc3⟩
                · rw [upd_ne fun z => by rw [z, gDe'] at hb; cases hb]
                  exact erf.sub _ _ hb
                · obtain ⟨a, ws', k1, k2, k3, k4⟩ := erf.own j jo es hj
                  have ne : a ≠ Da := fun z => noF (by rw [← z]; exact ⟨j, jo, es, hj, k1⟩)
                  exact ⟨a, ws', k1, k2, by rw [upd_ne ne]; exact k3, k4⟩
                · rw [upd_ne (ne_of_none hb nH)]
                  exact stx.keep b o hb nt hn
                · by_cases e : b = Da
                  · rw [e]; exact nH
                  · rw [upd_ne e] at hb; exact stx.there b hb
              · exact hc3.elim
    · have en : i = items.length := by omega
      subst en
      refine .inl ⟨wk.stops Hc (sg.trans erc.sub), ?_⟩
      rw [List.drop_length] at hc
      have hc1 : Out K E (R.ok acc ρc) ρ σ H G (ZF K σ H Q) := hc
      exact hc1 Hc Gc erc sc Da us nH gD eD oD dps
theorem f_comp {bb : Bool} {elt tg iter : Expr} {ifs : List Expr} {scope : Scope} {own : List (Str × Nat)} {ws : List Nat} {it : AM (List D)} {g : AG} {tt : AM Bool} {te : AE} {E : WX} (hc : X.calm = true) (hN : X.N.Nodup) (hi : EI bb X E tg iter it) (ok : BlkOk X.N X.env.scope scope own)
    (hg : ∀ (s : Shared) (H : Hp) (C : Addr) (cl : List (Str × Addr)) (fp : List Addr), EG bb (X.blk s H scope (compEnvC scope cl C X.env) fp) tg g ws) (ht : ∀ (s : Shared) (H : Hp) (C : Addr) (cl : List (Str × Addr)) (fp : List Addr), ETs (X.blk s H scope (compEnvC scope cl C X.env) fp) noE ifs tt)
    (he : ∀ (s : Shared) (H : Hp) (C : Addr) (cl : List (Str × Addr)) (fp : List Addr), EV (X.blk s H scope (compEnvC scope cl C X.env) fp) noE elt te) (hw : ∀ i ∈ ws, i ∈ own.map (·.2) := by decide) (hs : ∀ x, foldedSetIterable iter X.env x = pure x := by intro _; rfl) :
    EF X E (.ListComp elt [⟨tg, iter, ifs, 0⟩] scope pos) (fComp (own.map (·.2)) it g tt te) :=
  PE.imp (pe_lc hc hN hi ok hg ht he hs) fun σ H Q h => comp_read hw h
end
end SW
set_option Elab.async false
set_option linter.all false
set_option maxRecDepth 100000
set_option maxHeartbeats 2000000
/-! SWFlow: statements, blocks, loops, defs and their calls. -/
namespace SW
open PySem PySem.Spec PyProof.Rows L2
variable [Tab]
inductive Fl where
  | nx | bk | ct
  | rt (d : D)
  | rf (ds : List D)
abbrev AS := En → R Fl
def EndF (K : PySem.W.Frag) (Dn : Ends) (H0 : Hp) (fl : Fl) (ρ' : En) (σ' : L2.St) (H' G' : Hp) : Prop := match fl with
  | .nx => Dn.nx σ' H'
  | .bk => Dn.bk σ' H'
  | .ct => Dn.ct σ' H'
  | .rt d => ∀ v, Dp K G' v d → Dn.rt v H'
  | .rf ds => ∀ a vs, H0 a = none → G' a = none → H' a = some (.lst vs) → ¬ Owned ρ' σ' a → DpAll K G' vs ds → Dn.rt (.ref a) H'
def OutS (K : PySem.W.Frag) (E : WX) (r : R Fl) (ρ : En) (σ : L2.St) (H G : Hp) (Dn : Ends) : Prop := match r with
  | .ok fl ρ' => ∀ σ' H' G', ER K ρ' σ' H' G' → Step ρ σ H G ρ' σ' H' G' → EndF K Dn H fl ρ' σ' H' G'
  | .err x ρ' => ∀ c dx σ' H' G', ER K ρ' σ' H' G' → Step ρ σ H G ρ' σ' H' G' → ExR K x c dx H' → E c dx σ' H'
  | .bad => False
theorem OutS.shift {K : PySem.W.Frag} {E : WX} {r : R Fl} {ρ ρ1 : En} {σ σ1 : L2.St} {H G H1 G1 : Hp} {Dn : Ends} (h : OutS K E r ρ σ H G Dn) (s : Step ρ σ H G ρ1 σ1 H1 G1) : OutS K E r ρ1 σ1 H1 G1 Dn := by
  cases r with
  | ok fl ρ' =>
    intro σ' H' G' e t
    have z := h σ' H' G' e (s.trans t)
    cases fl with
    | rf ds => exact fun a vs n0 => z a vs (s.there a n0)
    | nx => exact z
    | bk => exact z
    | ct => exact z
    | rt d => exact z
  | err x ρ' => exact fun c dx σ' H' G' e t => h c dx σ' H' G' e (s.trans t)
  | bad => exact h
def tS (K : PySem.W.Frag) (E : WX) (f : AS) : TS := fun Dn σ H => ∃ ρ G, ER K ρ σ H G ∧ OutS K E (f ρ) ρ σ H G Dn
abbrev SS (X : Cx) (E : WX) (st : Stmt) (f : AS) : Prop := PS X st (tS X.K E f)
abbrev SSs (X : Cx) (E : WX) (st : List Stmt) (f : AS) : Prop := PSs X st (tS X.K E f)
/-- an expression first -/
theorem out_outS {α : Type} {K : PySem.W.Frag} {E : WX} {r : R α} {f : α → En → R Fl} {ρ : En} {σ : L2.St} {H G : Hp} {Dn : Ends} (h : OutS K E (r.bind f) ρ σ H G Dn) :
    Out K E r ρ σ H G (fun a ρ1 H1 G1 => OutS K E (f a ρ1) ρ1 σ H1 G1 Dn) := by
  cases r with
  | ok a ρ1 => exact fun H1 G1 e t => OutS.shift h t
  | err x ρ1 => exact fun c dx H1 G1 e t => h c dx σ H1 G1 e t
  | bad => exact h
/-- .. without a shift: for what is new since the start -/
theorem out_outS0 {α : Type} {K : PySem.W.Frag} {E : WX} {r : R α} {f : α → En → R Fl} {ρ : En} {σ : L2.St} {H G : Hp} {Dn : Ends} (h : OutS K E (r.bind f) ρ σ H G Dn) :
    Out K E r ρ σ H G (fun a ρ1 H1 G1 => ER K ρ1 σ H1 G1 ∧ Step ρ σ H G ρ1 σ H1 G1 ∧ OutS K E (f a ρ1) ρ σ H G Dn) := by
  cases r with
  | ok a ρ1 => exact fun H1 G1 e t => ⟨e, t, h⟩
  | err x ρ1 => exact fun c dx H1 G1 e t => h c dx σ H1 G1 e t
  | bad => exact h
def sNx : AS := fun ρ => .ok .nx ρ
def sSeq (f g : AS) : AS := fun ρ => match f ρ with
  | .ok .nx ρ1 => g ρ1
  | r => r
def sIf (c : AM Bool) (f g : AS) : AS := fun ρ => (c ρ).bind fun b ρ1 => match b with
  | true => f ρ1
  | false => g ρ1
def sRet (f : AE) : AS := fun ρ => (f ρ).bind fun d ρ1 => .ok (.rt d) ρ1
def sRetF (f : AM (List D)) : AS := fun ρ => (f ρ).bind fun ds ρ1 => .ok (.rf ds) ρ1
def sRetN : AS := fun ρ => .ok (.rt .none) ρ
def sDrop (f : AE) : AS := fun ρ => (f ρ).bind fun _ ρ1 => .ok .nx ρ1
def sAsg (f : AE) (g : AG) : AS := fun ρ => (f ρ).bind fun d ρ1 => (g d ρ1).bind fun _ ρ2 => .ok .nx ρ2
/-- a name gets a list of one's own -/
def sOwn (i : Nat) (f : AM (List D)) : AS := fun ρ => (f ρ).bind fun ds ρ1 => if isIo (getSlot ρ1 i) = true then .bad else .ok .nx (setSlot ρ1 i (.own false ds))
section
variable {bb : Bool} {X : Cx} {E : WX} {pos : Pos} {st : Stmt} {rest : List Stmt} {f g : AS} {e : Expr}
theorem b_nil : SSs X E [] sNx := PSs.imp pss_nil fun Dn σ H ⟨ρ, G, er, h⟩ => h σ H G er .refl
theorem b_cons (h1 : SS X E st f) (h2 : SSs X E rest g) : SSs X E (st :: rest) (sSeq f g) :=
  PSs.imp (pss_cons h1 h2) fun Dn σ H ⟨ρ, G, er, h⟩ => ⟨ρ, G, er, by
    unfold sSeq at h
    cases q : f ρ with
    | err x ρ1 => rw [q] at h; exact h
    | bad => rw [q] at h; exact h
    | ok fl ρ1 =>
      rw [q] at h
      cases fl with
      | nx => exact fun σ1 H1 G1 er1 s1 => ⟨ρ1, G1, er1, OutS.shift h s1⟩
      | bk => exact h
      | ct => exact h
      | rt d => exact h
      | rf d => exact h⟩
theorem b_one (h1 : SS X E st f) : SSs X E [st] f := pss_one h1
theorem s_pass : SS X E (.Pass pos) sNx := PS.imp ps_pass fun Dn σ H ⟨ρ, G, er, h⟩ => h σ H G er .refl
theorem s_break : SS X E (.Break pos) (fun ρ => .ok .bk ρ) := PS.imp ps_break fun Dn σ H ⟨ρ, G, er, h⟩ => h σ H G er .refl
theorem s_cont : SS X E (.Continue pos) (fun ρ => .ok .ct ρ) := PS.imp ps_continue fun Dn σ H ⟨ρ, G, er, h⟩ => h σ H G er .refl
theorem s_if {c : Expr} {a b : List Stmt} {t : AM Bool} (hc : ET X E c t) (ha : SSs X E a f) (hb : SSs X E b g) : SS X E (.If c a b pos) (sIf t f g) :=
  PS.imp (ps_if hc ha hb) fun Dn σ H ⟨ρ, G, er, h⟩ => ⟨ρ, G, er, (out_outS h).imp fun b ρ1 H1 G1 er1 s1 z => by
    cases b with
    | true => exact ⟨ρ1, G1, er1, z⟩
    | false => exact ⟨ρ1, G1, er1, z⟩⟩
theorem s_ret {f : AE} (h : EV X E e f) : SS X E (.Return (some e) pos) (sRet f) :=
  PS.imp (ps_ret h) fun Dn σ H ⟨ρ, G, er, h⟩ => ⟨ρ, G, er, (out_outS h).imp fun d ρ1 H1 G1 er1 s1 z v dp => z σ H1 G1 er1 .refl v dp⟩
theorem s_retN : SS X E (.Return none pos) sRetN := PS.imp ps_retN fun Dn σ H ⟨ρ, G, er, h⟩ => h σ H G er .refl _ .non
theorem s_retF {f : AM (List D)} (h : EF X E e f) : SS X E (.Return (some e) pos) (sRetF f) :=
  PS.imp (ps_ret h) fun Dn σ H ⟨ρ, G, er, h⟩ => ⟨ρ, G, er, (out_outS0 h).imp fun ds ρ1 H1 G1 er1 s1 z a vs n0 n1 e1 no dps => z.2.2 σ H1 G1 er1 s1 a vs n0 n1 e1 no dps⟩
theorem s_drop {f : AE} (h : EV X E e f) (hs : swapsWith e none pos.line X.env = pure false := by rfl) : SS X E (.Expr e pos) (sDrop f) :=
  PS.imp (ps_expr h hs) fun Dn σ H ⟨ρ, G, er, h⟩ => ⟨ρ, G, er, (out_outS h).imp fun d ρ1 H1 G1 er1 s1 z v dp => z σ H1 G1 er1 .refl⟩
theorem outG_of {K : PySem.W.Frag} {ws : List Nat} {r : R Unit} {k : Unit → En → R Fl} {ρ : En} {σ : L2.St} {H G : Hp} {Dn : Ends} (h : OutS K E (r.bind k) ρ σ H G Dn) (nox : ∀ x ρ', r ≠ .err x ρ') (hk : ∀ u ρ', k u ρ' = .ok .nx ρ') : OutG K ws r ρ σ H G Dn.nx := by
  cases r with
  | ok u ρ1 =>
    have h' : OutS K E (k u ρ1) ρ σ H G Dn := h
    rw [hk] at h'
    exact fun σ1 H1 G1 er1 s1 _ => h' σ1 H1 G1 er1 s1
  | err x ρ1 => exact (nox x ρ1 rfl).elim
  | bad => exact h
/-- targets raise nothing -/
def NoErr (g : AG) : Prop := ∀ d ρ x ρ', g d ρ ≠ .err x ρ'
theorem s_asg {tg : Expr} {f : AE} {g : AG} {ws : List Nat} (he : EV X E e f) (hg : EG false X tg g ws) (ng : NoErr g) (hs : swapsWithSole [tg] e pos.line X.env = pure false := by rfl) (hw : swappedStores [tg] e X.env = pure none := by rfl)
    (h1 : (assignEach [tg] X.env).map (·.2) = [assign tg X.env] := by rfl) : SS X E (.Assign [tg] e pos) (sAsg f g) :=
  PS.imp (ps_asg he hg hs hw h1) fun Dn σ H ⟨ρ, G, er, h⟩ => ⟨ρ, G, er, (out_outS h).imp fun d ρ1 H1 G1 er1 s1 z v dp => ⟨ρ1, G1, d, er1, .inl dp, outG_of z (fun x ρ' => ng d ρ1 x ρ') fun _ _ => rfl⟩⟩
theorem ne_nm {i : Nat} : NoErr (gNm i) := fun d ρ x ρ' h => by
  unfold gNm at h
  split at h <;> cases h
theorem s_set {i : Nat} {x : Str} {f : AE} {pos' : Pos} (hN : X.N.Nodup) (hi : X.N[i]? = some x) (hx : Loc X.env.scope x) (he : EV X E e f) (hs : swapsWith e (some (.Name x pos')) pos.line X.env = pure false := by rfl) (hf : X.fn x = true ∨ X.env.scope.names.lookup x = some .local := by first | exact .inl rfl | exact .inr rfl | assumption) :
    SS X E (.Assign [.Name x pos'] e pos) (sAsg f (gNm i)) :=
  PS.imp (ps_set hN hi hx he hs hf) fun Dn σ H ⟨ρ, G, er, h⟩ => ⟨ρ, G, er, (out_outS h).imp fun d ρ1 H1 G1 er1 s1 z v dp => by
    have z2 := outG_of (ws := [i]) z (fun x ρ' => ne_nm d ρ1 x ρ') fun _ _ => rfl
    unfold gNm at z2
    split at z2
    · exact z2.elim
    · rename_i hn
      obtain ⟨e1, t1⟩ := er1.put hn dp
      exact z2 _ _ _ e1 t1 .set⟩
/-- a new list to a name -/
theorem ER.putOwn {K : PySem.W.Frag} {ρ : En} {σ : L2.St} {H G : Hp} (er : ER K ρ σ H G) {i : Nat} {a : Addr} {vs : List V} {ds : List D} (h : ¬ isIo (getSlot ρ i) = true) (n1 : G a = none) (e1 : H a = some (.lst vs)) (no : ¬ Owned ρ σ a) (dps : DpAll K G vs ds) :
    ER K (ρ.set i (.own false ds)) (σ.set i (some (.ref a))) H G := by
  have other : ∀ {j : Nat} {w : SV}, j ≠ i → (ρ.set i (.own false ds))[j]? = some w → ρ[j]? = some w ∧ (σ.set i (some (V.ref a)))[j]? = σ[j]? := fun {j w} hj e => by
    rcases set_get e with ⟨z, _, _⟩ | ⟨_, e⟩
    · exact (hj z).elim
    · exact ⟨e, List.getElem?_set_ne (Ne.symm hj)⟩
  refine ⟨by simpa using er.len, er.sub, fun j d he => ?_, fun j io es he => ?_, fun j k io es io' es' b h1 h2 h3 h4 => ?_, fun j w he => ?_, er.tabs, er.ng⟩
  · by_cases hj : j = i
    · subst hj
      rcases set_get he with ⟨_, z, _⟩ | ⟨z, _⟩
      · cases z
      · exact (z rfl).elim
    · obtain ⟨q1, q2⟩ := other hj he
      rw [q2]
      exact er.pl j d q1
  · by_cases hj : j = i
    · subst hj
      rcases set_get he with ⟨_, z, hl⟩ | ⟨z, _⟩
      · cases z
        exact ⟨a, vs, List.getElem?_set_self (by rw [← er.len]; exact hl), n1, e1, dps⟩
      · exact (z rfl).elim
    · obtain ⟨q1, q2⟩ := other hj he
      rw [q2]
      exact er.own j io es q1
  · by_cases hj : j = i
    · by_cases hk : k = i
      · rw [hj, hk]
      · exfalso
        subst hj
        obtain ⟨q1, q2⟩ := other hk h2
        rcases set_get h1 with ⟨_, z, hl⟩ | ⟨z, _⟩
        · rw [List.getElem?_set_self (by rw [← er.len]; exact hl)] at h3
          cases h3
          rw [q2] at h4
          exact no ⟨k, io', es', q1, h4⟩
        · exact z rfl
    · by_cases hk : k = i
      · exfalso
        subst hk
        obtain ⟨q1, q2⟩ := other hj h1
        rcases set_get h2 with ⟨_, z, hl⟩ | ⟨z, _⟩
        · rw [List.getElem?_set_self (by rw [← er.len]; exact hl)] at h4
          cases h4
          rw [q2] at h3
          exact no ⟨j, io, es, q1, h3⟩
        · exact z rfl
      · obtain ⟨q1, q2⟩ := other hj h1
        obtain ⟨q3, q4⟩ := other hk h2
        rw [q2] at h3
        rw [q4] at h4
        exact er.inj j k io es io' es' b q1 q3 h3 h4
  · by_cases hj : j = i
    · subst hj
      rcases set_get he with ⟨_, z, _⟩ | ⟨z, _⟩
      · cases z
      · exact (z rfl).elim
    · obtain ⟨q1, q2⟩ := other hj he
      rw [q2]
      exact er.raw j w q1
theorem Step.putOwn {ρ ρ1 : En} {σ σ1 : L2.St} {H G H1 G1 : Hp} (s : Step ρ σ H G ρ1 σ1 H1 G1) {i : Nat} {a : Addr} {ds : List D} (hl : ρ1.length = σ1.length) (h : ¬ isIo (getSlot ρ1 i) = true) (n0 : H a = none) : Step ρ σ H G (ρ1.set i (.own false ds)) (σ1.set i (some (.ref a))) H1 G1 := by
  refine ⟨s.sg, s.keep, s.there, fun b hb => ?_, fun j es he => ?_, by rw [List.length_set]; exact s.ln⟩
  · obtain ⟨j, io, es, h1, h2⟩ := hb
    rcases set_get h1 with ⟨rfl, z, hlt⟩ | ⟨hj, q1⟩
    · rw [List.getElem?_set_self (by rw [← hl]; exact hlt)] at h2
      cases h2
      exact .inr n0
    · rw [List.getElem?_set_ne (Ne.symm hj)] at h2
      exact s.osub b ⟨j, io, es, q1, h2⟩
  · rcases set_get he with ⟨rfl, z, _⟩ | ⟨hj, q1⟩
    · cases z
    · rw [List.getElem?_set_ne (Ne.symm hj)]
      exact s.io j es q1
theorem s_own {i : Nat} {x : Str} {f : AM (List D)} {pos' : Pos} (hN : X.N.Nodup) (hi : X.N[i]? = some x) (hx : Loc X.env.scope x) (he : EF X E e f) (hs : swapsWith e (some (.Name x pos')) pos.line X.env = pure false := by rfl) (hf : X.fn x = true ∨ X.env.scope.names.lookup x = some .local := by first | exact .inl rfl | exact .inr rfl | assumption) :
    SS X E (.Assign [.Name x pos'] e pos) (sOwn i f) :=
  PS.imp (ps_set hN hi hx he hs hf) fun Dn σ H ⟨ρ, G, er, h⟩ => ⟨ρ, G, er, (out_outS0 h).imp fun ds ρ1 H1 G1 er1 s1 z a vs n0 n1 e1 no dps => by
    obtain ⟨_, _, z⟩ := z
    split at z
    · exact z.elim
    · rename_i hn
      exact z _ _ _ (er1.putOwn hn n1 e1 no dps) (s1.putOwn er1.len hn n0)⟩
/-- name = [..] on one line (a comprehension), the name a local -/
theorem s_setLc {i : Nat} {y : Str} {py : Pos} {elt tg iter : Expr} {ifs : List Expr} {scope : Scope} {own : List (Str × Nat)} {spos : Pos} {ws : List Nat} {it : AM (List D)} {g : AG} {tt : AM Bool} {te : AE} (hc : X.calm = true) (hN : X.N.Nodup) (hy : X.N[i]? = some y) (hyl : X.env.scope.names.lookup y = some .local)
    (hsw : swapsWith (.ListComp elt [⟨tg, iter, ifs, 0⟩] scope pos) (some (.Name y py)) spos.line X.env = pure true) (hi : EI bb X E tg iter it) (ok : BlkOk X.N X.env.scope scope own)
    (hg : ∀ (s : Shared) (H : Hp) (C : Addr) (cl : List (Str × Addr)) (fp : List Addr), EG bb (X.blk s H scope (compEnvC scope cl C X.env) fp) tg g ws) (ht : ∀ (s : Shared) (H : Hp) (C : Addr) (cl : List (Str × Addr)) (fp : List Addr), ETs (X.blk s H scope (compEnvC scope cl C X.env) fp) noE ifs tt)
    (he : ∀ (s : Shared) (H : Hp) (C : Addr) (cl : List (Str × Addr)) (fp : List Addr), EV (X.blk s H scope (compEnvC scope cl C X.env) fp) noE elt te) (hw : ∀ i ∈ ws, i ∈ own.map (·.2) := by decide) (hs : ∀ x, foldedSetIterable iter X.env x = pure x := by intro _; rfl) :
    SS X E (.Assign [.Name y py] (.ListComp elt [⟨tg, iter, ifs, 0⟩] scope pos) spos) (sAsg (aFr (fComp (own.map (·.2)) it g tt te)) (gNm i)) :=
  PS.imp (ps_setLc hc hN hy hyl hsw hi ok hg ht he hs) fun Dn σ H ⟨ρ, G, er, h⟩ => by
    refine comp_read (E := E) (ws := ws) (it := it) (g := g) (tt := tt) (te := te) hw ⟨ρ, G, er, ?_⟩
    unfold sAsg aFr at h
    cases q : fComp (own.map (·.2)) it g tt te ρ with
    | err x ρ1 => rw [q] at h; exact fun c dx H1 G1 e t => h c dx σ H1 G1 e t
    | bad => rw [q] at h; exact h
    | ok ds ρ1 =>
      rw [q] at h
      intro H1 G1 er1 s1 a vs n0 n1 e1 no dps
      have er2 := er1.settle n1 e1 no
      have s2 := s1.settle n0 n1 (vs := vs)
      have z2 := outG_of (ws := [i]) (show OutS X.K E ((gNm i (.list ds) ρ1).bind _) ρ σ H G Dn from h) (fun x ρ' => ne_nm _ ρ1 x ρ') fun _ _ => rfl
      unfold gNm at z2
      split at z2
      · exact z2.elim
      · rename_i hn
        obtain ⟨e3, t3⟩ := er2.put hn (.lst (.inl (.inl upd_same)) (dpAll_mono (same_new n1) _ _ dps))
        exact z2 _ _ _ e3 (s2.trans t3) .set
theorem s_ownLc {i : Nat} {y : Str} {py : Pos} {elt tg iter : Expr} {ifs : List Expr} {scope : Scope} {own : List (Str × Nat)} {spos : Pos} {ws : List Nat} {it : AM (List D)} {g : AG} {tt : AM Bool} {te : AE} (hc : X.calm = true) (hN : X.N.Nodup) (hy : X.N[i]? = some y) (hyl : X.env.scope.names.lookup y = some .local)
    (hsw : swapsWith (.ListComp elt [⟨tg, iter, ifs, 0⟩] scope pos) (some (.Name y py)) spos.line X.env = pure true) (hi : EI bb X E tg iter it) (ok : BlkOk X.N X.env.scope scope own)
    (hg : ∀ (s : Shared) (H : Hp) (C : Addr) (cl : List (Str × Addr)) (fp : List Addr), EG bb (X.blk s H scope (compEnvC scope cl C X.env) fp) tg g ws) (ht : ∀ (s : Shared) (H : Hp) (C : Addr) (cl : List (Str × Addr)) (fp : List Addr), ETs (X.blk s H scope (compEnvC scope cl C X.env) fp) noE ifs tt)
    (he : ∀ (s : Shared) (H : Hp) (C : Addr) (cl : List (Str × Addr)) (fp : List Addr), EV (X.blk s H scope (compEnvC scope cl C X.env) fp) noE elt te) (hw : ∀ i ∈ ws, i ∈ own.map (·.2) := by decide) (hs : ∀ x, foldedSetIterable iter X.env x = pure x := by intro _; rfl) :
    SS X E (.Assign [.Name y py] (.ListComp elt [⟨tg, iter, ifs, 0⟩] scope pos) spos) (sOwn i (fComp (own.map (·.2)) it g tt te)) :=
  PS.imp (ps_setLc hc hN hy hyl hsw hi ok hg ht he hs) fun Dn σ H ⟨ρ, G, er, h⟩ => by
    refine comp_read (E := E) (ws := ws) (it := it) (g := g) (tt := tt) (te := te) hw ⟨ρ, G, er, ?_⟩
    unfold sOwn at h
    cases q : fComp (own.map (·.2)) it g tt te ρ with
    | err x ρ1 => rw [q] at h; exact fun c dx H1 G1 e t => h c dx σ H1 G1 e t
    | bad => rw [q] at h; exact h
    | ok ds ρ1 =>
      rw [q] at h
      intro H1 G1 er1 s1 a vs n0 n1 e1 no dps
      have h2 : OutS X.K E (if isIo (getSlot ρ1 i) = true then .bad else .ok .nx (setSlot ρ1 i (.own false ds))) ρ σ H G Dn := h
      split at h2
      · exact h2.elim
      · rename_i hn
        exact h2 _ _ _ (er1.putOwn hn n1 e1 no dps) (s1.putOwn er1.len hn n0)
/-! ### for -/
def loopF (g : AG) (body : AS) : List D → AS
  | [] => fun ρ => .ok .nx ρ
  | d :: ds => fun ρ => match g d ρ with
    | .ok _ ρ1 => (match body ρ1 with
      | .ok .nx ρ2 => loopF g body ds ρ2
      | .ok .ct ρ2 => loopF g body ds ρ2
      | .ok .bk ρ2 => .ok .nx ρ2
      | r => r)
    | _ => .bad
def sFor (it : AM (List D)) (g : AG) (body : AS) : AS := fun ρ => (it ρ).bind fun ds ρ1 => loopF g body ds ρ1
theorem s_for {tg iter : Expr} {body : List Stmt} {it : AM (List D)} {g : AG} {ws : List Nat} (hp : PassesOwn (model X.prog X.w) X.A X.env X.xe) (hc : X.calm = true) (hi : EI bb X E tg iter it) (hg : EG bb X tg g ws) (hb : SSs X E body f)
    (hs : ∀ x, foldedSetIterable iter X.env x = pure x := by intro _; rfl) : SS X E (.For tg iter body [] pos) (sFor it g f) :=
  PS.imp (ps_for hp hc hi hg hb hs) fun Dn σ H ⟨ρ, G, er, h⟩ => ⟨ρ, G, er, (out_outS h).imp fun items ρ1 H1 G1 er1 s1 z J wk => by
    refine ⟨fun i m σc Hc => i ≤ items.length ∧ m = items.length - i ∧ ∃ ρc Gc, ER X.K ρc σc Hc Gc ∧ Same G1 Gc ∧ OutS X.K E (loopF g f (items.drop i) ρc) ρc σc Hc Gc Dn, ⟨items.length, Nat.zero_le _, rfl, ρ1, G1, er1, Same.refl _, z⟩, ?_⟩
    rintro i m σc Hc ⟨hi, rfl, ρc, Gc, erc, sg, hcn⟩
    by_cases hlt : i < items.length
    · refine .inr ⟨wk.goes i Hc hlt (sg.trans erc.sub), fun σ' H' => ∃ m', m' < items.length - i ∧ (i + 1 ≤ items.length ∧ m' = items.length - (i + 1) ∧ ∃ ρc Gc, ER X.K ρc σ' H' Gc ∧ Same G1 Gc ∧ OutS X.K E (loopF g f (items.drop (i + 1)) ρc) ρc σ' H' Gc Dn), fun σ' H' z => z, fun x H' hy => ?_⟩
      have yd := wk.yields i Hc x H' hlt (sg.trans erc.sub) hy
      obtain ⟨d, ed, hcase⟩ := yd
      have edrop : items.drop i = d :: items.drop (i + 1) := by
        rw [List.drop_eq_getElem_cons hlt]
        rw [List.getElem?_eq_getElem hlt] at ed
        rw [Option.some.inj ed]
      rw [edrop] at hcn
      obtain ⟨Gx, erx, sx, dpx⟩ : ∃ Gx, ER X.K ρc σc H' Gx ∧ Step ρc σc Hc Gc ρc σc H' Gx ∧ DpI bb X.K Gx H' x d := by
        rcases hcase with ⟨rfl, dp⟩ | ⟨eb, T, xs, ds, rfl, nT, rfl, rfl, dp⟩
        · exact ⟨Gc, erc, .refl, .inl (dp_mono sg _ _ dp)⟩
        · exact ⟨Gc, erc.lay nT, erc.stepLay nT, .inr ⟨eb, T, xs, ds, rfl, rfl, upd_same, dpAll_mono sg _ _ dp⟩⟩
      have h2 := OutS.shift hcn sx
      have h3 : OutS X.K E (match g d ρc with
        | .ok _ ρ1 => (match f ρ1 with
          | .ok .nx ρ2 => loopF g f (items.drop (i + 1)) ρ2
          | .ok .ct ρ2 => loopF g f (items.drop (i + 1)) ρ2
          | .ok .bk ρ2 => .ok .nx ρ2
          | r => r)
        | _ => .bad) ρc σc H' Gx Dn := h2
      refine ⟨ρc, Gx, d, erx, dpx, ?_⟩
      cases q1 : g d ρc with
      | err x ρ1 => rw [q1] at h3; exact h3.elim
      | bad => rw [q1] at h3; exact h3.elim
      | ok u ρa =>
        rw [q1] at h3
        intro σa Ha Ga era sa _
        have h4 := OutS.shift h3 sa
        dsimp only at h4
        have sga : Same G1 Ga := (sg.trans sx.sg).trans sa.sg
        refine ⟨ρa, Ga, era, ?_⟩
        cases q2 : f ρa with
        | err x ρ1 => rw [q2] at h4; exact h4
        | bad => rw [q2] at h4; exact h4
        | ok fl ρb =>
          rw [q2] at h4
          cases fl with
          | nx => exact fun σb Hb Gb erb sb => ⟨items.length - (i + 1), by omega, hlt, rfl, ρb, Gb, erb, sga.trans sb.sg, OutS.shift h4 sb⟩
          | ct => exact fun σb Hb Gb erb sb => ⟨items.length - (i + 1), by omega, hlt, rfl, ρb, Gb, erb, sga.trans sb.sg, OutS.shift h4 sb⟩
          | bk => exact h4
          | rt d => exact h4
          | rf ds => exact h4
    · have en : i = items.length := by omega
      subst en
      rw [List.drop_length] at hcn
      exact .inl ⟨wk.stops Hc (sg.trans erc.sub), hcn σc Hc Gc erc .refl⟩⟩
end
end SW
set_option Elab.async false
set_option linter.all false
set_option maxRecDepth 100000
set_option maxHeartbeats 2000000
/-! SWDef: defs, their promises and their calls. -/
namespace SW
open PySem PySem.Spec PyProof.Rows L2
variable [Tab]
/-- a def: what its body leaves, from its arguments; n: the number of its names -/
abbrev MF := List SV → R Fl
/-- what a call leaves of the callee's names: the lists that were lent -/
def nmS : SV → SV
  | .own true ds => .own true ds
  | _ => .un
def nmE (k : Nat) (ρ : En) : En := (ρ.take k).map nmS
def nmR (k : Nat) (r : R Fl) : R Fl := match r with
  | .ok fl ρ => .ok fl (nmE k ρ)
  | .err x ρ => .err x (nmE k ρ)
  | .bad => .bad
def mkF (n : Nat) (body : AS) : MF := fun svs => nmR svs.length (body (svs ++ List.replicate (n - svs.length) .un))
/-- the arguments: expressions, or lists of one's own that are lent -/
def backSV (io : Bool) : SV → SV
  | .own true ds => .own io ds
  | _ => .un
def setBack (ρ : En) : List OV → List SV → En
  | .slot j :: os, f :: fs => (match getSlot ρ j with
    | .own io _ => (setBack ρ os fs).set j (backSV io f)
    | _ => setBack ρ os fs)
  | .val _ :: os, _ :: fs => setBack ρ os fs
  | _, _ => ρ
def argSV (ρ : En) : OV → SV
  | .val d => .pl d
  | .slot i => match getSlot ρ i with
    | .own _ ds => .own true ds
    | .pl d => .pl d
    | _ => .un
def isUn : SV → Bool
  | .un => true
  | _ => false
/-- the lent slots, each once -/
def lent (ρ : En) : List OV → List Nat
  | [] => []
  | .slot i :: r => if isOwn (getSlot ρ i) = true then i :: lent ρ r else lent ρ r
  | _ :: r => lent ρ r
def nodupB : List Nat → Bool
  | [] => true
  | i :: r => !r.contains i && nodupB r
/-- f(args) -/
def callM (m : MF) (ovs : List OV) (ρ : En) : R (Fl × En) := 
  let svs := ovs.map (argSV ρ)
  if (svs.any isUn || !nodupB (lent ρ ovs)) = true then .bad else match m svs with
    | .ok fl ρ' => .ok (fl, ρ') (setBack ρ ovs ρ')
    | .err x ρ' => .err x (setBack ρ ovs ρ')
    | .bad => .bad
def aCall (m : MF) (os : List Opd) : AE := fun ρ => (evs os ρ).bind fun ovs ρ1 => (callM m ovs ρ1).bind fun p ρ2 => match p.1 with
  | .rt d => .ok d ρ2
  | .nx => .ok .none ρ2
  | _ => .bad
def fCall (m : MF) (os : List Opd) : AM (List D) := fun ρ => (evs os ρ).bind fun ovs ρ1 => (callM m ovs ρ1).bind fun p ρ2 => match p.1 with
  | .rf ds => .ok ds ρ2
  | _ => .bad
/-- an outcome of which only the lent lists are told -/
def OutN (k : Nat) (K : PySem.W.Frag) (E : WX) (r : R Fl) (ρ : En) (σ : L2.St) (H G : Hp) (Dn : Ends) : Prop := match r with
  | .ok fl ρn => ∀ ρ' σ' H' G', nmE k ρ' = ρn → ER K ρ' σ' H' G' → Step ρ σ H G ρ' σ' H' G' → EndF K Dn H fl ρ' σ' H' G'
  | .err x ρn => ∀ ρ' c dx σ' H' G', nmE k ρ' = ρn → ER K ρ' σ' H' G' → Step ρ σ H G ρ' σ' H' G' → ExR K x c dx H' → E c dx σ' H'
  | .bad => False
theorem OutN.outS {k : Nat} {K : PySem.W.Frag} {E : WX} {r : R Fl} {ρ : En} {σ : L2.St} {H G : Hp} {Dn : Ends} (h : OutN k K E (nmR k r) ρ σ H G Dn) : OutS K E r ρ σ H G Dn := by
  cases r with
  | ok fl ρ' => exact fun σ' H' G' er st => h ρ' σ' H' G' rfl er st
  | err x ρ' => exact fun c dx σ' H' G' er st ex => h ρ' c dx σ' H' G' rfl er st ex
  | bad => exact h
/-- the promise of a def with n names and k parameters -/
def spF (K : PySem.W.Frag) (N : List Str) (k : Nat) (m : MF) : Sp := fun vs H Q E => vs.length = k ∧ ∃ svs G, ER K (svs ++ List.replicate (N.length - svs.length) .un) (L2.start N vs) H G ∧ svs.length = k ∧
  OutN k K (fun c d _ H' => E c d H') (m svs) (svs ++ List.replicate (N.length - svs.length) .un) (L2.start N vs) H G { nx := fun _ H' => Q .non H', rt := Q }
section
variable {P : Program} {w : World} {K : PySem.W.Frag} {mg : Str → Option Value} {base : Heap}
/-- a def by its body -/
theorem fn_ok {x qual : Str} {st : Stmt} {f : Addr} {fd : FuncData} {N ps : List Str} {k : Nat} {body : AS} (F : L2.Fun K x qual st f fd) (S : FnScope N ps (defScope st))
    (hb : ∀ (cdv : Value) (A : Around) (outer : List Env) (s : Shared) (H : Hp) (E : XK), Room k (A.deeper (envOfC qual (defScope st) s.heap.objs.size f cdv)) →
      Takes (cxOf (L2.CX P w) P w K mg base N qual (defScope st) f cdv A outer s H E) (fun c d _ H' => E c d H') →
      SSs (cxOf (L2.CX P w) P w K mg base N qual (defScope st) f cdv A outer s H E) (fun c d _ H' => E c d H') (defBody st) body) :
    FnOk P w K mg base (L2.CX P w) (k + 1) f fd ps (spF K N ps.length (mkF N.length body)) := by
  refine F.okX S (fun vs H Q E h => h.1) fun cdv A outer s H vs Q E hr hsp => ?_
  obtain ⟨hl, svs, G, er, hk, ho⟩ := hsp
  refine ⟨_, hb cdv A outer s H E hr (takes_of rfl rfl rfl rfl), ?_⟩
  unfold mkF at ho
  rw [hk] at ho
  exact ⟨_, G, er, by rw [hk]; exact OutN.outS ho⟩
end
theorem start_get {N : List Str} {vs : List V} {i : Nat} (h : i < vs.length) : (L2.start N vs)[i]? = some (some vs[i]) := by
  unfold L2.start
  rw [List.getElem?_append_left (by simpa using h), List.getElem?_map, List.getElem?_eq_getElem h]
  rfl
section
variable {K : PySem.W.Frag} {ρ : En} {σ : L2.St} {H G : Hp}
theorem ORels.len : ∀ {vs : List V} {os : List OV}, ORels K σ G vs os → vs.length = os.length
  | _, _, .nil => rfl
  | _, _, .cons _ t => congrArg (· + 1) (ORels.len t)
theorem ORels.at : ∀ {vs : List V} {os : List OV} {i : Nat} {o : OV}, ORels K σ G vs os → os[i]? = some o → ∃ v, vs[i]? = some v ∧ ORel K σ G v o
  | _, _, _, _, .nil, e => by simp at e
  | _, _, 0, _, .cons a _, e => by simp at e; subst e; exact ⟨_, rfl, a⟩
  | _, _, i + 1, _, .cons _ t, e => by
    obtain ⟨v, h1, h2⟩ := ORels.at (i := i) t (by simpa using e)
    exact ⟨v, by simpa using h1, h2⟩
theorem lent_mem {j i : Nat} : ∀ {os : List OV}, os[i]? = some (.slot j) → isOwn (getSlot ρ j) = true → j ∈ lent ρ os
  | [], e, _ => by simp at e
  | o :: os, e, h => by
    cases i with
    | zero =>
      have e1 : o = .slot j := by simpa using e
      subst e1
      unfold lent
      rw [if_pos h]
      exact List.mem_cons_self
    | succ i =>
      have e1 : os[i]? = some (.slot j) := by simpa using e
      have ih := lent_mem e1 h
      cases o with
      | val d => exact ih
      | slot i' =>
        unfold lent
        split
        · exact List.mem_cons_of_mem _ ih
        · exact ih
theorem lent_inj {j : Nat} : ∀ {os : List OV} {i i' : Nat}, nodupB (lent ρ os) = true → os[i]? = some (.slot j) → os[i']? = some (.slot j) → isOwn (getSlot ρ j) = true → i = i'
  | [], _, _, _, e, _, _ => by simp at e
  | o :: os, i, i', hn, e, e', h => by
    have htail : nodupB (lent ρ os) = true := by
      cases o with
      | val d => exact hn
      | slot q =>
        unfold lent at hn
        split at hn
        · unfold nodupB at hn
          exact (Bool.and_eq_true_iff.mp hn).2
        · exact hn
    have hhead : o = .slot j → j ∉ lent ρ os := fun e0 hm => by
      subst e0
      unfold lent at hn
      rw [if_pos h] at hn
      unfold nodupB at hn
      have h1 := (Bool.and_eq_true_iff.mp hn).1
      simp at h1
      exact h1 hm
    cases i with
    | zero =>
      cases i' with
      | zero => rfl
      | succ i' =>
        exfalso
        exact hhead (by simpa using e) (lent_mem (by simpa using e' : os[i']? = some (.slot j)) h)
    | succ i =>
      cases i' with
      | zero =>
        exfalso
        exact hhead (by simpa using e') (lent_mem (by simpa using e : os[i]? = some (.slot j)) h)
      | succ i' => exact congrArg (· + 1) (lent_inj htail (by simpa using e) (by simpa using e') h)
/-- the callee's names at its entry -/
theorem ER.enter (er : ER K ρ σ H G) {vs : List V} {ovs : List OV} (rel : ORels K σ G vs ovs) (hu : (ovs.map (argSV ρ)).any isUn = false) (hn : nodupB (lent ρ ovs) = true) {N : List Str} (hN : vs.length ≤ N.length) :
    ER K (ovs.map (argSV ρ) ++ List.replicate (N.length - (ovs.map (argSV ρ)).length) .un) (L2.start N vs) H G := by
  have hl := rel.len
  have hat : ∀ {i : Nat} {w : SV}, (ovs.map (argSV ρ) ++ List.replicate (N.length - (ovs.map (argSV ρ)).length) SV.un)[i]? = some w → w ≠ .un → ∃ o v, ovs[i]? = some o ∧ argSV ρ o = w ∧ (L2.start N vs)[i]? = some (some v) ∧ ORel K σ G v o := fun {i w} e hw => by
    by_cases hi : i < (ovs.map (argSV ρ)).length
    · rw [List.getElem?_append_left hi] at e
      rw [List.length_map] at hi
      rw [List.getElem?_map, List.getElem?_eq_getElem hi] at e
      obtain ⟨v, h1, h2⟩ := rel.at (List.getElem?_eq_getElem hi)
      have hv : i < vs.length := by rw [hl]; exact hi
      rw [List.getElem?_eq_getElem hv] at h1
      cases h1
      exact ⟨ovs[i], vs[i], List.getElem?_eq_getElem hi, Option.some.inj e, start_get hv, h2⟩
    · rw [List.getElem?_append_right (by omega)] at e
      obtain ⟨h1, h2⟩ := List.getElem?_eq_some_iff.mp e
      rw [List.getElem_replicate] at h2
      exact (hw h2.symm).elim
  have oin : ∀ {o : OV} {io : Bool} {ds : List D}, argSV ρ o = .own io ds → ∃ j io0, o = .slot j ∧ ρ[j]? = some (.own io0 ds) ∧ io = true := fun {o io ds} e => by
    cases o with
    | val d => cases e
    | slot j =>
      unfold argSV at e
      dsimp only at e
      cases q : getSlot ρ j with
      | own io0 ds0 => rw [q] at e; cases e; exact ⟨j, io0, rfl, getSlot_own q, rfl⟩
      | pl d => rw [q] at e; cases e
      | un => rw [q] at e; cases e
      | raw v => rw [q] at e; cases e
  refine ⟨?_, er.sub, fun i d h => ?_, fun i io ds h => ?_, fun i j io ds io' ds' a h1 h2 h3 h4 => ?_, fun i v h => ?_, er.tabs, er.ng⟩
  · unfold L2.start
    rw [List.length_append, List.length_append, List.length_replicate, List.length_replicate, List.length_map, List.length_map, hl]
  · obtain ⟨o, v, h1, h2, h3, h4⟩ := hat h (fun z => nomatch z)
    refine ⟨v, h3, ?_⟩
    cases o with
    | val d' => cases h2; exact h4
    | slot j =>
      have h4 : σ[j]? = some (some v) := h4
      unfold argSV at h2
      dsimp only at h2
      cases q : getSlot ρ j with
      | own io0 ds0 => rw [q] at h2; cases h2
      | pl d' =>
        rw [q] at h2
        cases h2
        obtain ⟨u, q1, q2⟩ := er.pl j d (getSlot_pl q)
        rw [h4] at q1
        cases q1
        exact q2
      | un => rw [q] at h2; cases h2
      | raw v => rw [q] at h2; cases h2
  · obtain ⟨o, v, h1, h2, h3, h4⟩ := hat h (fun z => nomatch z)
    obtain ⟨j, io0, rfl, q, _⟩ := oin h2
    have h4 : σ[j]? = some (some v) := h4
    obtain ⟨a, us, k1, k2⟩ := er.own j io0 ds q
    rw [h4] at k1
    cases k1
    exact ⟨a, us, h3, k2⟩
  · obtain ⟨o, v, k1, k2, k3, k4⟩ := hat h1 (fun z => nomatch z)
    obtain ⟨o', v', m1, m2, m3, m4⟩ := hat h2 (fun z => nomatch z)
    obtain ⟨p, io0, rfl, q, _⟩ := oin k2
    obtain ⟨p', io0', rfl, q', _⟩ := oin m2
    have k4 : σ[p]? = some (some v) := k4
    have m4 : σ[p']? = some (some v') := m4
    rw [k3] at h3
    cases h3
    rw [m3] at h4
    cases h4
    have ep := er.inj p p' io0 ds io0' ds' a q q' k4 m4
    subst ep
    refine lent_inj hn k1 m1 ?_
    unfold getSlot
    rw [q]
    rfl
  · obtain ⟨o, u, h1, h2, h3, h4⟩ := hat h (fun z => nomatch z)
    exfalso
    cases o with
    | val d' => cases h2
    | slot j =>
      unfold argSV at h2
      dsimp only at h2
      cases q : getSlot ρ j with
      | own io0 ds0 => rw [q] at h2; cases h2
      | pl d' => rw [q] at h2; cases h2
      | un => rw [q] at h2; cases h2
      | raw v => rw [q] at h2; cases h2
theorem setBack_length : ∀ (os : List OV) (fs : List SV), (setBack ρ os fs).length = ρ.length
  | [], _ => by unfold setBack; rfl
  | .slot j :: os, [] => rfl
  | .val d :: os, [] => rfl
  | .val d :: os, f :: fs => setBack_length os fs
  | .slot j :: os, f :: fs => by
    unfold setBack
    split
    · rw [List.length_set]; exact setBack_length os fs
    · exact setBack_length os fs
theorem setBack_at {j : Nat} {w : SV} : ∀ {os : List OV} {fs : List SV}, os.length ≤ fs.length → (setBack ρ os fs)[j]? = some w →
    (ρ[j]? = some w ∧ ∀ i : Nat, os[i]? = some (.slot j) → isOwn (getSlot ρ j) = false) ∨ ∃ (i : Nat) (io : Bool) (ds : List D) (f : SV), os[i]? = some (.slot j) ∧ ρ[j]? = some (.own io ds) ∧ fs[i]? = some f ∧ w = backSV io f
  | [], fs, _, h => .inl ⟨by unfold setBack at h; exact h, fun i e => by simp at e⟩
  | o :: os, [], hl, h => by simp at hl
  | .val d :: os, f :: fs, hl, h => by
    rcases setBack_at (os := os) (fs := fs) (by simpa using hl) h with ⟨h1, h2⟩ | ⟨i, io, ds, f', h1, h2⟩
    · refine .inl ⟨h1, fun i e => ?_⟩
      cases i with
      | zero => simp at e
      | succ i => exact h2 i (by simpa using e)
    · exact .inr ⟨i + 1, io, ds, f', by simpa using h1, by simpa using h2⟩
  | .slot k :: os, f :: fs, hl, h => by
    unfold setBack at h
    split at h
    · rename_i io ds q
      rcases set_get (ρ := setBack ρ os fs) h with ⟨rfl, e, _⟩ | ⟨hj, e⟩
      · exact .inr ⟨0, io, ds, f, rfl, getSlot_own q, rfl, e⟩
      · rcases setBack_at (os := os) (fs := fs) (by simpa using hl) e with ⟨h1, h2⟩ | ⟨i, io, ds, f', h1, h2⟩
        · refine .inl ⟨h1, fun i e => ?_⟩
          cases i with
          | zero =>
            have e2 : k = j := by simpa using e
            exact (hj e2.symm).elim
          | succ i => exact h2 i (by simpa using e)
        · exact .inr ⟨i + 1, io, ds, f', by simpa using h1, by simpa using h2⟩
    · rename_i hno
      rcases setBack_at (os := os) (fs := fs) (by simpa using hl) h with ⟨h1, h2⟩ | ⟨i, io, ds, f', h1, h2⟩
      · refine .inl ⟨h1, fun i e => ?_⟩
        cases i with
        | zero =>
          have e2 : k = j := by simpa using e
          subst e2
          cases q : getSlot ρ k with
          | own io ds => exact (hno io ds q).elim
          | _ => rfl
        | succ i => exact h2 i (by simpa using e)
      · exact .inr ⟨i + 1, io, ds, f', by simpa using h1, by simpa using h2⟩
/-- behind a call -/
theorem ER.leave (er : ER K ρ σ H G) {vs : List V} {ovs : List OV} (rel : ORels K σ G vs ovs) (hu : (ovs.map (argSV ρ)).any isUn = false) (hn : nodupB (lent ρ ovs) = true) {N : List Str} (hN : vs.length ≤ N.length)
    {ρ' : En} {σ' : L2.St} {H' G' : Hp} (er' : ER K ρ' σ' H' G') (hlen : ovs.length ≤ ρ'.length) (st : Step (ovs.map (argSV ρ) ++ List.replicate (N.length - (ovs.map (argSV ρ)).length) .un) (L2.start N vs) H G ρ' σ' H' G') :
    ER K (setBack ρ ovs ρ') σ H' G' ∧ Step ρ σ H G (setBack ρ ovs ρ') σ H' G' := by
  have hl := rel.len
  -- the callee's lists are lent ones
  have ownIn : ∀ {b : Addr}, Owned (ovs.map (argSV ρ) ++ List.replicate (N.length - (ovs.map (argSV ρ)).length) .un) (L2.start N vs) b → ∃ (i j : Nat) (io : Bool) (ds : List D), ovs[i]? = some (.slot j) ∧ ρ[j]? = some (.own io ds) ∧ σ[j]? = some (some (.ref b)) ∧ (L2.start N vs)[i]? = some (some (V.ref b)) := fun {b} z => by
    obtain ⟨i, io, ds, e, h2⟩ := z
    by_cases hi : i < (ovs.map (argSV ρ)).length
    · rw [List.getElem?_append_left hi] at e
      rw [List.length_map] at hi
      rw [List.getElem?_map, List.getElem?_eq_getElem hi] at e
      obtain ⟨v, h3, h4⟩ := rel.at (List.getElem?_eq_getElem hi)
      have hv : i < vs.length := by rw [hl]; exact hi
      rw [List.getElem?_eq_getElem hv] at h3
      have h5 := start_get (N := N) hv
      rw [h2] at h5
      have e0 : argSV ρ ovs[i] = .own io ds := Option.some.inj e
      cases ho : ovs[i] with
      | val d => rw [ho] at e0; cases e0
      | slot j =>
        rw [ho] at e0 h4
        have h4 : σ[j]? = some (some v) := h4
        unfold argSV at e0
        dsimp only at e0
        cases q : getSlot ρ j with
        | own io0 ds0 =>
          have ev : V.ref b = v := by
            have := h5.trans (congrArg some h3)
            cases this
            rfl
          subst ev
          exact ⟨i, j, io0, ds0, by rw [List.getElem?_eq_getElem hi, ho], getSlot_own q, h4, h2⟩
        | pl d => rw [q] at e0; cases e0
        | un => rw [q] at e0; cases e0
        | raw v => rw [q] at e0; cases e0
    · rw [List.getElem?_append_right (by omega)] at e
      obtain ⟨h1, h3⟩ := List.getElem?_eq_some_iff.mp e
      rw [List.getElem_replicate] at h3
      cases h3
  have ownSub : ∀ {b : Addr}, Owned (ovs.map (argSV ρ) ++ List.replicate (N.length - (ovs.map (argSV ρ)).length) .un) (L2.start N vs) b → Owned ρ σ b := fun {b} z => by
    obtain ⟨i, j, io, ds, _, h2, h3, _⟩ := ownIn z
    exact ⟨j, io, ds, h2, h3⟩
  -- a lent slot's list behind the call
  have lentOwn : ∀ {i j : Nat} {io io' : Bool} {ds ds' : List D} {f : SV}, ovs[i]? = some (.slot j) → ρ[j]? = some (.own io ds) → ρ'[i]? = some f → SV.own io' ds' = backSV io f → io' = io ∧ f = .own true ds' ∧ ∃ a, σ[j]? = some (some (.ref a)) ∧ σ'[i]? = some (some (.ref a)) := fun {i j io io' ds ds' f} h1 h2 h3 h4 => by
    cases f with
    | own b es =>
      cases b with
      | true =>
        cases h4
        obtain ⟨es', h5, h6⟩ := st.io i ds' h3
        obtain ⟨a, us, k1, _⟩ := er.own j io ds h2
        obtain ⟨v, m1, m2⟩ := rel.at h1
        have m2 : σ[j]? = some (some v) := m2
        rw [k1] at m2
        cases m2
        have hv : i < vs.length := (List.getElem?_eq_some_iff.mp m1).1
        have h7 := start_get (N := N) hv
        rw [List.getElem?_eq_getElem hv] at m1
        rw [Option.some.inj m1] at h7
        exact ⟨rfl, rfl, a, k1, by rw [h6, h7]⟩
      | false => cases h4
    | un => cases h4
    | pl d => cases h4
    | raw v => cases h4
  have free : ∀ {j : Nat} {io : Bool} {ds : List D} {a : Addr}, ρ[j]? = some (.own io ds) → (∀ i : Nat, ovs[i]? = some (.slot j) → isOwn (getSlot ρ j) = false) → σ[j]? = some (some (.ref a)) → ¬ Owned (ovs.map (argSV ρ) ++ List.replicate (N.length - (ovs.map (argSV ρ)).length) .un) (L2.start N vs) a := fun {j io ds a} h1 h2 h3 z => by
    obtain ⟨i, k, io', ds', k1, k2, k3, _⟩ := ownIn z
    have e := er.inj j k io ds io' ds' a h1 k2 h3 k3
    subst e
    have := h2 i k1
    unfold getSlot at this
    rw [h1] at this
    cases this
  refine ⟨⟨by rw [setBack_length]; exact er.len, er'.sub, fun j d h => ?_, fun j io ds h => ?_, fun j k io ds io' ds' a h1 h2 h3 h4 => ?_, fun j v h => ?_, er'.tabs, er'.ng⟩, ⟨st.sg, fun b o hb nt nb => st.keep b o hb nt fun z => nb (ownSub z), st.there, fun b hb => ?_, fun j ds' h => ?_, setBack_length _ _⟩⟩
  · rcases setBack_at hlen h with ⟨h1, _⟩ | ⟨i, io, ds, f, h1, h2, h3, h4⟩
    · obtain ⟨v, q1, q2⟩ := er.pl j d h1
      exact ⟨v, q1, dp_mono st.sg _ _ q2⟩
    · exfalso
      cases f with
      | own b es => cases b <;> cases h4
      | _ => cases h4
  · rcases setBack_at hlen h with ⟨h1, h2⟩ | ⟨i, io0, ds0, f, h1, h2, h3, h4⟩
    · obtain ⟨a, us, q1, q2, q3, q4⟩ := er.own j io ds h1
      obtain ⟨k1, k2⟩ := st.keep a _ q3 nt_lst (free h1 h2 q1)
      exact ⟨a, us, q1, by rw [k2]; exact q2, k1, dpAll_mono st.sg _ _ q4⟩
    · obtain ⟨rfl, rfl, a, k1, k2⟩ := lentOwn h1 h2 h3 h4
      obtain ⟨a', us, q1, q2⟩ := er'.own i true ds h3
      rw [k2] at q1
      cases q1
      exact ⟨a, us, k1, q2⟩
  · have own0 : ∀ {j : Nat} {io : Bool} {ds : List D}, (setBack ρ ovs ρ')[j]? = some (.own io ds) → ∃ io' ds', ρ[j]? = some (.own io' ds') := fun {j io ds} h => by
      rcases setBack_at hlen h with ⟨h1, _⟩ | ⟨i, io0, ds0, f, _, h2, _⟩
      · exact ⟨_, _, h1⟩
      · exact ⟨_, _, h2⟩
    obtain ⟨_, _, q1⟩ := own0 h1
    obtain ⟨_, _, q2⟩ := own0 h2
    exact er.inj j k _ _ _ _ a q1 q2 h3 h4
  · rcases setBack_at hlen h with ⟨h1, _⟩ | ⟨i, io0, ds0, f, _, _, _, h4⟩
    · exact er.raw j v h1
    · exfalso
      cases f with
      | own b es => cases b <;> cases h4
      | _ => cases h4
  · obtain ⟨j, io, ds, h, h2⟩ := hb
    rcases setBack_at hlen h with ⟨h1, _⟩ | ⟨i, io0, ds0, f, _, h3, _⟩
    · exact .inl ⟨j, io, ds, h1, h2⟩
    · exact .inl ⟨j, io0, ds0, h3, h2⟩
  · rcases setBack_at hlen h with ⟨h1, _⟩ | ⟨i, io0, ds0, f, h1, h2, h3, h4⟩
    · exact ⟨ds', h1, rfl⟩
    · obtain ⟨e, _, _⟩ := lentOwn h1 h2 h3 h4
      subst e
      exact ⟨ds0, h2, rfl⟩
end
theorem setBack_nm {ρ : En} : ∀ {os : List OV} {ρ' : En} {k : Nat}, os.length ≤ k → os.length ≤ ρ'.length → setBack ρ os (nmE k ρ') = setBack ρ os ρ'
  | [], _, _, _, _ => by unfold setBack; rfl
  | o :: os, [], k, _, h => by simp at h
  | o :: os, f :: fs, 0, h, _ => by simp at h
  | o :: os, f :: fs, k + 1, h1, h2 => by
    have ih := setBack_nm (ρ := ρ) (os := os) (ρ' := fs) (k := k) (by simpa using h1) (by simpa using h2)
    have e : nmE (k + 1) (f :: fs) = nmS f :: nmE k fs := rfl
    rw [e]
    have eb : ∀ io, backSV io (nmS f) = backSV io f := fun io => by
      cases f with
      | own b ds => cases b <;> rfl
      | _ => rfl
    cases o with
    | val d => unfold setBack; exact ih
    | slot j =>
      unfold setBack
      split
      · rw [ih, eb]
      · exact ih
theorem setBack_owned {ρ ρ' : En} {σ : L2.St} {ovs : List OV} {b : Addr} (hl : ovs.length ≤ ρ'.length) (h : Owned (setBack ρ ovs ρ') σ b) : Owned ρ σ b := by
  obtain ⟨j, io, ds, h, h2⟩ := h
  rcases setBack_at hl h with ⟨h1, _⟩ | ⟨i, io0, ds0, f, _, h3, _⟩
  · exact ⟨j, io, ds, h1, h2⟩
  · exact ⟨j, io0, ds0, h3, h2⟩
/-! ### the call -/
section
variable {X : Cx} {E : WX} {pos p : Pos} {x : Str} {e : Expr} {es : List Expr} {os : List Opd} {f : Addr} {fd : FuncData} {ps : List Str} {k kk : Nat} {m : MF} {N : List Str}
/-- what a call gives its caller -/
theorem call_read {ρ : En} {σ : L2.St} {H G : Hp} {ovs : List OV} {vs : List V} {β : Type} {kf : (Fl × En) → En → R β} {Z : β → En → Hp → Hp → Prop} {Q : VK} (er : ER X.K ρ σ H G) (rel : ORels X.K σ G vs ovs) (hk : ovs.length = kk) (hN : kk ≤ N.length)
    (h : Out X.K E ((callM m ovs ρ).bind kf) ρ σ H G Z)
    (hb : ∀ ρ' ρ2, kf (.bk, ρ') ρ2 = .bad ∧ kf (.ct, ρ') ρ2 = .bad) (qr : ∀ fl ρ' ρ2 v H' G', (match fl with | .rt d => Dp X.K G' v d | .nx => v = .non | .rf ds => ∃ a us, v = .ref a ∧ H a = none ∧ G' a = none ∧ H' a = some (.lst us) ∧ ¬ Owned ρ2 σ a ∧ DpAll X.K G' us ds | _ => False) → ER X.K ρ2 σ H' G' → Step ρ σ H G ρ2 σ H' G' → Out X.K E (kf (fl, ρ') ρ2) ρ σ H G Z → Q v H') :
    spF X.K N kk m vs H Q (WE E σ) := by
  have hl := rel.len
  have hvl : vs.length = kk := hl.trans hk
  unfold callM at h
  dsimp only at h
  by_cases hc : ((ovs.map (argSV ρ)).any isUn || !nodupB (lent ρ ovs)) = true
  · rw [if_pos hc] at h
    exact h.elim
  · rw [if_neg hc] at h
    have hc2 : (ovs.map (argSV ρ)).any isUn = false ∧ nodupB (lent ρ ovs) = true := by
      cases h1 : (ovs.map (argSV ρ)).any isUn <;> cases h2 : nodupB (lent ρ ovs) <;> simp [h1, h2] at hc ⊢
    have ere := er.enter rel hc2.1 hc2.2 (N := N) (by rw [hvl]; exact hN)
    refine ⟨hvl, ovs.map (argSV ρ), G, ere, by rw [List.length_map]; exact hk, ?_⟩
    have hlen : ∀ {ρ' : En} {σ' : L2.St} {H' G' : Hp}, Step (ovs.map (argSV ρ) ++ List.replicate (N.length - (ovs.map (argSV ρ)).length) .un) (L2.start N vs) H G ρ' σ' H' G' → ovs.length ≤ ρ'.length := fun st => by
      rw [st.ln, List.length_append, List.length_map]
      exact Nat.le_add_right _ _
    have hvN : vs.length ≤ N.length := by rw [hvl]; exact hN
    cases q : m (ovs.map (argSV ρ)) with
    | bad => rw [q] at h; exact h.elim
    | err x' ρn =>
      rw [q] at h
      intro ρ' c dx σ' H' G' en er' st ex
      obtain ⟨e2, s2⟩ := er.leave rel hc2.1 hc2.2 hvN er' (hlen st) st
      rw [← setBack_nm (k := kk) (by rw [hk]; exact Nat.le_refl _) (hlen st), en] at e2 s2
      exact h c dx H' G' e2 s2 ex
    | ok fl ρn =>
      rw [q] at h
      intro ρ' σ' H' G' en er' st
      obtain ⟨e2, s2⟩ := er.leave rel hc2.1 hc2.2 hvN er' (hlen st) st
      have eb := setBack_nm (ρ := ρ) (os := ovs) (ρ' := ρ') (k := kk) (by rw [hk]; exact Nat.le_refl _) (hlen st)
      rw [en] at eb
      rw [← eb] at e2 s2
      cases fl with
      | nx => exact qr .nx ρn (setBack ρ ovs ρn) .non H' G' rfl e2 s2 h
      | rt d => exact fun v dp => qr (.rt d) ρn (setBack ρ ovs ρn) v H' G' dp e2 s2 h
      | rf ds =>
        intro a us n0 n1 e1 no dps
        refine qr (.rf ds) ρn (setBack ρ ovs ρn) (.ref a) H' G' ⟨a, us, rfl, n0, n1, e1, fun z => ?_, dps⟩ e2 s2 h
        rw [eb] at z
        obtain ⟨⟨_, e3⟩, _⟩ := er.owned (setBack_owned (hlen st) z)
        rw [n0] at e3
        cases e3
      | bk =>
        have h2 : Out X.K E (kf (.bk, ρn) (setBack ρ ovs ρn)) ρ σ H G Z := h
        rw [(hb _ _).1] at h2
        exact h2
      | ct =>
        have h2 : Out X.K E (kf (.ct, ρn) (setBack ρ ovs ρn)) ρ σ H G Z := h
        rw [(hb _ _).2] at h2
        exact h2
theorem evs_len : ∀ {os : List Opd} {ρ ρ1 : En} {ovs : List OV}, evs os ρ = .ok ovs ρ1 → ovs.length = os.length
  | [], _, _, _, h => by cases h; rfl
  | o :: os, ρ, ρ1, ovs, h => by
    have h' : (o.ev ρ).bind (fun v ρ1 => (evs os ρ1).bind fun vs ρ2 => R.ok (v :: vs) ρ2) = .ok ovs ρ1 := h
    cases q : o.ev ρ with
    | err x ρ2 => rw [q] at h'; cases h'
    | bad => rw [q] at h'; cases h'
    | ok v ρ2 =>
      rw [q] at h'
      have h2 : (evs os ρ2).bind (fun vs ρ3 => R.ok (v :: vs) ρ3) = .ok ovs ρ1 := h'
      cases q2 : evs os ρ2 with
      | err x ρ2 => rw [q2] at h2; cases h2
      | bad => rw [q2] at h2; cases h2
      | ok vs ρ3 =>
        rw [q2] at h2
        cases h2
        exact congrArg (· + 1) (evs_len q2)
theorem v_call (F : FnOk X.prog X.w X.K X.mg X.base (L2.CX X.prog X.w) k f fd ps (spF X.K N kk m)) (tk : Takes X E) (hr : Room k X.A) (hg : Gl X x) (hm : X.mg x = some (.ref f)) (hkp : PySem.W.keepIn X.K (.ref f) = true) (hb : Binds X.K fd ps []) (ha : EOs X E (e :: es) os) (hk : os.length = kk := by rfl) (hN : kk ≤ N.length := by decide)
    (hdb : (x == ("__debug__" : Str)) = false := by decide) (hs : starEach (e :: es) X.env = (false, eval e X.env) :: starEach es X.env := by rfl) (hpl : (backTo pos (starEach es X.env)).any (·.1) = false := by rfl) : EV X E (.Call (.Name x p) (e :: es) [] pos) (aCall m os) :=
  PE.imp (pe_callS F hr hg hm hkp hb (fun σ => passAt tk σ) ha hdb hs hpl) fun σ H Q ⟨ρ, G, er, h⟩ => by
    unfold aCall at h
    have hlen : ∀ ovs ρ1, evs os ρ = .ok ovs ρ1 → ovs.length = kk := fun ovs ρ1 e => (evs_len e).trans hk
    cases q : evs os ρ with
    | bad => rw [q] at h; exact h.elim
    | err x ρ1 =>
      refine evs_step (k := fun _ _ => R.bad) (Z := fun (_ : Unit) _ _ _ => False) er ?_ fun vs ovs ρ1 H1 G1 er1 s1 rel z => z.elim
      rw [q] at h ⊢
      exact h
    | ok ovs0 ρ0 =>
      have hl0 := hlen ovs0 ρ0 q
      refine evs_step (k := fun ovs ρ1 => if ovs.length = kk then (callM m ovs ρ1).bind fun p ρ2 => match p.1 with
        | .rt d => R.ok d ρ2
        | .nx => .ok .none ρ2
        | _ => .bad else .bad) (Z := ZE X.K Q) er ?_ fun vs ovs ρ1 H1 G1 er1 s1 rel z => ?_
      · rw [q] at h ⊢
        show Out X.K E (if ovs0.length = kk then _ else _) _ _ _ _ _
        rw [if_pos hl0]
        exact h
      · split at z
        · rename_i hl
          refine call_read er1 rel hl hN z (fun ρ' ρ2 => ⟨rfl, rfl⟩) fun fl ρ' ρ2 v H' G' hv e2 s2 h2 => ?_
          cases fl with
          | rt d => exact h2 H' G' e2 s2 v hv
          | nx => exact h2 H' G' e2 s2 v (by cases hv; exact .non)
          | rf ds => exact h2.elim
          | bk => exact hv.elim
          | ct => exact hv.elim
        · exact z.elim
theorem f_call (F : FnOk X.prog X.w X.K X.mg X.base (L2.CX X.prog X.w) k f fd ps (spF X.K N kk m)) (tk : Takes X E) (hr : Room k X.A) (hg : Gl X x) (hm : X.mg x = some (.ref f)) (hkp : PySem.W.keepIn X.K (.ref f) = true) (hb : Binds X.K fd ps []) (ha : EOs X E (e :: es) os) (hk : os.length = kk := by rfl) (hN : kk ≤ N.length := by decide)
    (hdb : (x == ("__debug__" : Str)) = false := by decide) (hs : starEach (e :: es) X.env = (false, eval e X.env) :: starEach es X.env := by rfl) (hpl : (backTo pos (starEach es X.env)).any (·.1) = false := by rfl) : EF X E (.Call (.Name x p) (e :: es) [] pos) (fCall m os) :=
  PE.imp (pe_callS F hr hg hm hkp hb (fun σ => passAt tk σ) ha hdb hs hpl) fun σ H Q ⟨ρ, G, er, h⟩ => by
    unfold fCall at h
    have hlen : ∀ ovs ρ1, evs os ρ = .ok ovs ρ1 → ovs.length = kk := fun ovs ρ1 e => (evs_len e).trans hk
    cases q : evs os ρ with
    | bad => rw [q] at h; exact h.elim
    | err x ρ1 =>
      refine evs_step (k := fun _ _ => R.bad) (Z := fun (_ : Unit) _ _ _ => False) er ?_ fun vs ovs ρ1 H1 G1 er1 s1 rel z => z.elim
      rw [q] at h ⊢
      exact h
    | ok ovs0 ρ0 =>
      have hl0 := hlen ovs0 ρ0 q
      refine evs_step (k := fun ovs ρ1 => if ovs.length = kk then (callM m ovs ρ1).bind fun p ρ2 => match p.1 with
        | .rf ds => R.ok ds ρ2
        | _ => .bad else .bad) (Z := ZF X.K σ H Q) er ?_ fun vs ovs ρ1 H1 G1 er1 s1 rel z => ?_
      · rw [q] at h ⊢
        show Out X.K E (if ovs0.length = kk then _ else _) _ _ _ _ _
        rw [if_pos hl0]
        exact h
      · split at z
        · rename_i hl
          refine call_read er1 rel hl hN z (fun ρ' ρ2 => ⟨rfl, rfl⟩) fun fl ρ' ρ2 v H' G' hv e2 s2 h2 => ?_
          cases fl with
          | rf ds =>
            obtain ⟨a, us, rfl, n0, n1, e1, no, dps⟩ := hv
            exact h2 H' G' e2 s2 a us (s1.there a n0) n1 e1 no dps
          | rt d => exact h2.elim
          | nx => exact h2.elim
          | bk => exact hv.elim
          | ct => exact hv.elim
        · exact z.elim
end
end SW
set_option Elab.async false
set_option linter.all false
set_option maxRecDepth 100000
set_option maxHeartbeats 2000000
/-! SWExc: raise; a lambda handed to a def that tells what it raises. -/
namespace SW
open PySem PySem.Spec PyProof.Rows L2
variable [Tab]
def sRaise (x : Str) : AS := fun ρ => .err ⟨x, []⟩ ρ
theorem s_raise {X : Cx} {E : WX} {e : Expr} {pos : Pos} {x : Str} (hc : X.calm = true) (tk : Takes X E) (he : PMk X e (fun _ H Q => Q (.ref (He.ga X.K x)) none H)) : SS X E (.Raise (some e) none pos) (sRaise x) :=
  PS.imp (ps_raise hc tk he) fun Dn σ H ⟨ρ, G, er, h⟩ => h _ _ σ H G er .refl ⟨rfl, fun _ => rfl, fun z => (z rfl).elim⟩
/-! ### a lambda is made (LamX.lam_make2, and what else stays) -/
section
variable {X : Cx} {pins : List (Addr × Obj)} {σ : L2.St} {H : Hp} {s : Shared}
theorem lam_make3 {c P : Addr} {params : Arguments} {body : Expr} {scope : Scope} {pos : Pos} {E : Value → Shared → Prop} {Q : Value → Shared → Prop} (I : L2.Inv X pins σ H s) (TB : LamX.TabB X.base X.mg c P) (hcode : X.env.code = .ref c)
    (hm : (P, X.env.qual ++ "<lambda>") ∈ Tab.T) (hu : ∀ p ∈ Tab.T, p.1 = P → p.2 = X.env.qual ++ "<lambda>") (hT : TabOk H) (hdef : defaultsOf params X.env = ([], [])) (hfree : ∀ y ∈ scope.names, y.2 = .free → ∃ c, X.env.cells.lookup y.1 = some c)
    (h : ∀ (f c' : Addr) (pm ctv : Value) (H1 : Hp) (s' : Shared), L2.Inv X pins σ H1 s' → LamX.ExtN H H1 → (∀ b, H1 b = none → H b = none) → TabOk H1 →
      s'.heap.get? f = some (PySem.W.kla_obj "<lambda>" (X.env.qual ++ "<lambda>") params body scope (cloFrom X.env.cells scope.names []) pm c' ctv) → H1 f = none → f ∉ frs X.stack → H1 c' = some (LamX.CodeO c' (X.env.qual ++ "<lambda>")) → Q (.ref f) s') :
    wpAny (model X.prog X.w) X.A (eval (.Lambda params body scope pos) X.env) Q E s := by
  obtain ⟨ps, hP, ht, ha⟩ := hT.ok _ hm
  refine PySem.W.kla_eval hdef ?_
  have bP := TB.bm.keeps I.bk
  have hP' : s.heap.get? P = some { cls := .none, data := .fields ps } := I.hok P _ hP
  have nofr : ∀ f, s.heap.objs.size ≤ f → f ∉ frs X.stack := fun f hf z => by
    rcases List.mem_cons.mp (I.stkSub _ z) with e | e
    · have h1 := I.lt
      rw [← e] at h1
      exact Nat.lt_irrefl _ (Nat.lt_of_lt_of_le h1 hf)
    · exact I.nofs hf e
  cases hc : codeAmong pos ps.toList with
  | none =>
    refine PySem.W.kla_makeFunction (mg := X.mg) (c := c) (P := P) (ps := ps) (closure_ok hfree) I.ok.glob (I.mod.glob.keeps I.bk) hcode (TB.code.keeps I.bk) hP' ht hc TB.gP bP fun c' ctv h' tk hx hge hlt hrec htb => ?_
    obtain ⟨c2, oc, vs, t, e2, hoc, hd, hv⟩ := hrec
    cases e2
    have hsz := Nat.le_trans hge (Nat.le_of_lt hlt)
    have nC : H c' = none := I.hok.fresh hge
    have I1 := LamX.inv_table (t' := tk) (more := #[rawInt pos.line, rawInt pos.col, .ref c']) (h' := h'.push (PySem.W.kla_obj "<lambda>" (X.env.qual ++ "<lambda>") params body scope (cloFrom X.env.cells scope.names []) ((X.mg "__name__").getD .none) c' ctv)) I hP
      (fun b o hb e => Heap.get?_push_of_some _ (hx b o hb e)) (Heap.get?_push_of_some _ htb) hge ⟨oc, vs, t, Heap.get?_push_of_some _ hoc, hd, hv⟩
    have hE : LamX.ExtN H (upd (upd H P (.tbl (ps ++ #[rawInt pos.line, rawInt pos.col, .ref c']))) c' (LamX.CodeO c' (X.env.qual ++ "<lambda>"))) := fun b o e n => by
      rw [upd_ne (ne_of_none e nC), upd_ne (fun z => n ps (Option.some.inj (e.symm.trans (by rw [z]; exact hP))))]
      exact e
    have eL : (ps ++ #[rawInt pos.line, rawInt pos.col, .ref c']).toList = ps.toList ++ [rawInt pos.line, rawInt pos.col, .ref c'] := by simp
    have th : ∀ b, (upd (upd H P (.tbl (ps ++ #[rawInt pos.line, rawInt pos.col, .ref c']))) c' (LamX.CodeO c' (X.env.qual ++ "<lambda>"))) b = none → H b = none := fun b e => by
      by_cases h1 : b = c'
      · rw [h1, upd_same] at e; cases e
      · rw [upd_ne h1] at e
        by_cases h2 : b = P
        · rw [h2, upd_same] at e; cases e
        · rw [upd_ne h2] at e; exact e
    refine h h'.objs.size c' ((X.mg "__name__").getD .none) ctv _ _ I1 hE th ⟨fun p hp => ?_⟩ (Heap.get?_push_size _ rfl) ?_ (nofr _ hsz) upd_same
    · by_cases hb : p.1 = P
      · rw [hu p hp hb, hb]
        refine ⟨_, by rw [upd_ne (ne_of_none hP nC), upd_same], by rw [eL]; exact PySem.TriplesOk_snoc _ _ _ _ ht, fun p' cv hcv => ?_⟩
        rw [eL] at hcv
        rcases LamX.among_app _ ht hcv with z | z
        · obtain ⟨c0, e1, e2⟩ := ha p' cv z
          exact ⟨c0, e1, hE _ _ e2 LamX.codeO_ne⟩
        · exact ⟨c', z, upd_same⟩
      · obtain ⟨ps', a1, a2, a3⟩ := hT.ok p hp
        refine ⟨ps', by rw [upd_ne (ne_of_none a1 nC), upd_ne hb]; exact a1, a2, fun p' cv hcv => ?_⟩
        obtain ⟨c0, e1, e2⟩ := a3 p' cv hcv
        exact ⟨c0, e1, hE _ _ e2 LamX.codeO_ne⟩
    · have n1 : h'.objs.size ≠ c' := Nat.ne_of_gt hlt
      have n2 : h'.objs.size ≠ P := Nat.ne_of_gt (Nat.lt_of_lt_of_le (Heap.lt_size hP') hsz)
      rw [upd_ne n1, upd_ne n2]
      exact I.hok.fresh hsz
  | some cv =>
    obtain ⟨c', e, hco⟩ := ha pos cv hc
    subst e
    refine PySem.W.kla_makeFunctionHit (mg := X.mg) (c := c) (P := P) (ps := ps) (closure_ok hfree) I.ok.glob (I.mod.glob.keeps I.bk) hcode (TB.code.keeps I.bk) hP' ht hc bP fun ctv h' tk hx hsz => ?_
    have I1 : L2.Inv X pins σ H { s with heap := h'.push (PySem.W.kla_obj "<lambda>" (X.env.qual ++ "<lambda>") params body scope (cloFrom X.env.cells scope.names []) ((X.mg "__name__").getD .none) c' ctv), toks := tk } := I.kept fun b o e => Heap.get?_push_of_some _ (hx b o e)
    exact h h'.objs.size c' ((X.mg "__name__").getD .none) ctv H _ I1 (LamX.ExtN.refl H) (fun _ e => e) hT (Heap.get?_push_size _ rfl) (I.hok.fresh hsz) (nofr _ hsz) hco
end
/-! ### the def that tells what a call raises -/
/-- what it makes of the call's reading: sn where it runs through, F of what is raised -/
def TTold (K : PySem.W.Frag) (F : Ex → Option Str) (sn : Str) : (XK → Hp → VK → Prop) → Hp → VK → Prop := fun tl H Q =>
  tl (fun cls dx H' => ∃ x s, ExR K x cls dx H' ∧ F x = some s ∧ Q (.str s) H') H (fun _ H' => Q (.str sn) H')
def aTold (F : Ex → Option Str) (sn : Str) (f : AE) : AE := fun ρ => match f ρ with
  | .ok _ ρ' => .ok (.str sn) ρ'
  | .err x ρ' => (match F x with
    | some s => .ok (.str s) ρ'
    | none => .bad)
  | .bad => .bad
section
variable {X : Cx} {E : WX}
theorem er_ext {K : PySem.W.Frag} {ρ : En} {σ : L2.St} {H G H1 : Hp} (er : ER K ρ σ H G) (e : LamX.ExtN H H1) (th : ∀ b, H1 b = none → H b = none) (t : TabOk H1) : ER K ρ σ H1 G ∧ Step ρ σ H G ρ σ H1 G := by
  refine ⟨⟨er.len, fun b o g => e b o (er.sub b o g) (er.ng b o g).nt, er.pl, fun i io ds h => ?_, er.inj, er.raw, t, er.ng⟩, ⟨Same.refl _, fun b o hb nt _ => ⟨e b o hb nt, rfl⟩, th, fun b z => .inl z, fun i ds h => ⟨ds, h, rfl⟩, rfl⟩⟩
  obtain ⟨a, vs, h1, h2, h3, h4⟩ := er.own i io ds h
  exact ⟨a, vs, h1, h2, e a _ h3 (fun _ z => nomatch z), h4⟩
/-- x(), in the def that got the lambda -/
def GivesT (X : Cx) (Ng : List Str) (x : Str) (sg : Scope) (g : Addr) (cdg : Value) (bg : List Stmt) (a : Str) (q : Str) (F : Ex → Option Str) (sn : Str) : Prop := LamX.GivesTo X Ng x sg g cdg bg a q (TTold X.K F sn)
/-- x(lambda: body) -/
theorem v_told {x a : Str} {g c P : Addr} {k : Nat} {pg : Arguments} {bg : List Stmt} {sg : Scope} {dV kV doc pm cdv ct oc : Value} {an od : Option Addr} {osl : Array (Option Value)} {Ng : List Str} {F : Ex → Option Str} {sn : Str}
    {params : Arguments} {body : Expr} {scope : Scope} {f : AE} {p lpos pos : Pos} (hg : Gl X x) (hm : X.mg x = some (.ref g)) (hk : PySem.W.keepIn X.K (.ref g) = true)
    (lk : X.K.lookup g = some ⟨oc, od, .func (PySem.W.fnOf x x pg bg sg dV kV doc pm an cdv ct), osl⟩) (hcg : PySem.W.codeIn X.K cdv x = true) (hb : L2.Binds X.K (PySem.W.fnOf x x pg bg sg dV kV doc pm an cdv ct) [a] []) (Sg : FnScope Ng [a] sg) (hNg : Ng[0]? = some a) (hva : Vis sg a)
    (hG : GivesT X Ng x sg g cdv bg a (X.env.qual ++ "<lambda>") F sn)
    (TB : LamX.TabB X.base X.mg c P) (hcode : X.env.code = .ref c) (hmT : (P, X.env.qual ++ "<lambda>") ∈ Tab.T) (hu : ∀ p ∈ Tab.T, p.1 = P → p.2 = X.env.qual ++ "<lambda>") (hr : Room (k + 2) X.A) (L : LamX.LamS X.env.scope scope) (hdef : defaultsOf params X.env = ([], []))
    (hbind : ∀ (q : Str) (cl : List (Str × Addr)) (pm cv ctv : Value), bindArgs (PySem.W.kla_fn "<lambda>" q params body scope cl pm cv ctv) ⟨[], []⟩ = pure [])
    (hbody : ∀ (A : Around) (outer : List Env) (s : Shared) (H : Hp) (E : XK) (f' c' : Addr), Room k (A.deeper (LamX.lamEnv X scope s.heap.objs.size f' c')) → Takes (LamX.lamCx X A outer s H E scope f' c') (fun c d _ H' => E c d H') → EV (LamX.lamCx X A outer s H E scope f' c') (fun c d _ H' => E c d H') body f)
    (hdb : (x == ("__debug__" : Str)) = false := by decide) (hd : (a == ("__debug__" : Str)) = false := by decide) (hcd : (a == ("__classdict__" : Str)) = false := by decide) :
    EV X E (.Call (.Name x p) [.Lambda params body scope lpos] [] pos) (aTold F sn f) := by
  refine ⟨fun pins s σ H Q I h => ?_⟩
  obtain ⟨ρ, G, er, h⟩ := h
  refine wpAny_Call_Name_kw (ld_glob I hg hm ?_ hdb)
  refine PySem.W.callWith_K (h₀ := X.base) I.ok.mod.kin hk ?_ (by rfl) (by rfl)
  show wpAny _ _ (spliced ((false, eval (.Lambda params body scope lpos) X.env) :: backTo pos (starEach [] X.env))) _ _ s
  refine Calls.spliced_cons (lam_make3 I TB hcode hmT hu er.tabs hdef (L.has I.ok) fun f1 c' pm' ctv H1 s' I1 eN th T1 hf hfn hfr hco => ?_)
  refine Calls.spliced_nil ⟨I1.kIn, ?_⟩
  obtain ⟨er1, st1⟩ := er_ext er eN th T1
  have h1 := Out.shift h st1
  have tt : TTold X.K F sn (fun E' H' Q' => tX X.K (fun c d _ H' => E' c d H') f σ H' Q') H1 Q := by
    refine ⟨ρ, G, er1, ?_⟩
    unfold aTold at h1
    cases q : f ρ with
    | ok d ρ' =>
      rw [q] at h1
      exact fun H2 G2 er2 s2 v dp => h1 H2 G2 er2 s2 _ (.str _)
    | err x ρ' =>
      rw [q] at h1
      dsimp only at h1
      cases q2 : F x with
      | none => rw [q2] at h1; exact h1.elim
      | some w' =>
        rw [q2] at h1
        exact fun cc dx H2 G2 er2 s2 ex => ⟨x, w', ex, q2, h1 H2 G2 er2 s2 _ (.str _)⟩
    | bad => rw [q] at h1; exact h1.elim
  have rc : codeAny (model X.prog X.w) X.A (.call (.ref g) ⟨[.ref f1], []⟩) (CR C8.CX0 X.stack X.prog X.w H1 s' Q C8.E0) s' := by
    refine LamX.run_ofS (N := Ng) (ps := [a]) (us := [.ref f1]) (vs := [.ref f1]) lk hcg Sg hr I1.env0 (hb s' [.ref f1] I1.kIn rfl) (.cons rfl .nil) rfl fun hr' => ?_
    obtain ⟨t', ht', hq'⟩ := hG f1 c' s' H1 Q (fun E' H' Q' => tX X.K (fun c d _ H' => E' c d H') f σ H' Q') (fun W pn xe E' p1 p2 tk hW => LamX.pe_act (i := 0) I1 L hf hfn hfr (hbind _ _ _ _ _) tk hW hr' (fun A outer s H hr2 => hbody A outer s H E' f1 c' hr2 (takes_of rfl rfl rfl rfl)) hNg hva hd hcd) hco tt
    exact ⟨t', ht'.nox, hq'⟩
  refine wpAny_call (codeAny_mono rc fun r s2 hq => ?_)
  cases r with
  | error e => exact (show False from hq).elim
  | ok fl =>
    cases fl with
    | ret u => exact I1.after hq
    | next => exact False.elim hq
    | brk => exact False.elim hq
    | cont => exact False.elim hq
end
end SW
set_option Elab.async false
set_option linter.all false
set_option maxRecDepth 100000
set_option maxHeartbeats 2000000
/-! SWTold: defs that tell what a call raises. -/
namespace SW
open PySem PySem.Spec PyProof.Rows L2
variable [Tab]
section
variable {X : Cx} {x a en eS eT q w1 w2 sn : Str} {sg : Scope} {g CS CT : Addr} {cdg : Value} {F : Ex → Option Str}
/-- try: a() / except eS as en: return w1 if isinstance(en, eT) else w2 / return sn -/
theorem gives_if {j1 j2 j3 : Nat} {p1 p2 p3 p4 p5 p6 p7 p8 p9 p10 p11 p12 p13 p14 p15 p16 : Pos} (hgS : sg.names.lookup eS = some .globalImplicit) (hmS : X.mg eS = some (.ref CS)) (hgT : sg.names.lookup eT = some .globalImplicit) (hmT : X.mg eT = some (.ref CT))
    (hgI : sg.names.lookup ("isinstance" : Str) = some .globalImplicit) (hmI : X.mg "isinstance" = none) (hen : sg.names.lookup en = some .local) (hnd : [a, en].Nodup)
    (hF : ∀ x s, F x = some s → x.fs = [] ∧ PySem.W.exmOne X.K (.ref (He.ga X.K x.cls)) (.ref CS) = some true ∧ ExcC X.K (He.ga X.K x.cls) ∧ ∃ c, PySem.W.kitOne X.K (.ref (He.ga X.K x.cls)) (.ref CT) = some c ∧ s = if c = true then w1 else w2)
    (dS : (eS == ("__debug__" : Str)) = false := by decide) (dT : (eT == ("__debug__" : Str)) = false := by decide) (dE : (en == ("__debug__" : Str)) = false := by decide) (dC : (en == ("__classdict__" : Str)) = false := by decide) :
    GivesT X [a, en] x sg g cdg [.Try [.Expr (.Call (.Name a p1) [] [] p2) p3] [.ExceptHandler (some (.Name eS p4)) (some en) [.Return (some (.IfExp (.Call (.Name "isinstance" p5) [.Name en p6, .Name eT p7] [] p8) (.Constant (.str w1) j1 p9) (.Constant (.str w2) j2 p10) p11)) p12] p13] [] [] p14,
      .Return (some (.Constant (.str sn) j3 p15)) p16] a q F sn := by
  intro f c' s H Q tl act hc h
  have hgl : ∀ {y : Str}, sg.names.lookup y = some .globalImplicit → Gl (cxOf C8.CX0 X.prog X.w X.K X.mg X.base [a, en] x sg g cdg X.A X.stack s H C8.E0).nox y := fun z => z
  let ts : Addr → Value → Option Addr → TS := fun ad cls d => fun Dn σ H => ∃ D c, cls = .ref D ∧ d = none ∧ ExcC X.K D ∧ PySem.W.kitOne X.K (.ref D) (.ref CT) = some c ∧ (∃ σ0, σ = List.set σ0 1 (some (V.ref ad))) ∧ Dn.rt (.str (if c = true then w1 else w2)) H
  refine ⟨_, pss_cons (ps_try_as (X := (cxOf C8.CX0 X.prog X.w X.K X.mg X.base [a, en] x sg g cdg X.A X.stack s H C8.E0).nox) (c := .ref CS) (i := 1) (ts := ts)
      (tb := fun W D σ H => ∃ Ech : XK, (∀ cls d σ' H', Ech cls d H' → W cls d σ' H') ∧ σ[0]? = some (some (.ref f)) ∧ H c' = some (LamX.CodeO c' q) ∧ tl Ech H (fun _ H' => D.nx σ H'))
      rfl rfl hnd rfl hen ⟨hgl hgS, dS, .inl hmS⟩ LamX.takes0 (fun W pn xe tk _ => ?_) (fun ad oe cls d pn hz hf => ?_)) (pss_one (ps_ret pe_str)), ?_⟩
  · refine ⟨fun pins s' σ H' D I h' => ?_⟩
    obtain ⟨Ech, hW, h1, h2, h3⟩ := h'
    have hp := act W pn xe Ech p1 p2 tk hW
    have hq := pss_one (ps_expr (pos := p3) hp)
    exact hq.run pins s' σ H' D I ⟨h1, h2, h3⟩
  · refine ⟨fun pins s' σ H' D I h' => ?_⟩
    obtain ⟨De, c, rfl, rfl, xc, kc, ⟨σ0, rfl⟩, hr⟩ := h'
    have hl : (List.set σ0 1 (some (V.ref ad))).length = 2 := I.len
    rw [List.length_set] at hl
    have hs : (List.set σ0 1 (some (V.ref ad)))[1]? = some (some (V.ref ad)) := List.getElem?_set_self (by omega)
    refine (pss_one (ps_ret (pos := p12) (pe_ifExp (pt_val (pe_callB (call_isE (X := (cxOf C8.CX0 X.prog X.w X.K X.mg X.base [a, en] x sg g cdg X.A X.stack s H C8.E0).nox) (a := ad) (oe := oe) (pn := pn) xc hz hf) (hgl hgI) hmI (by decide +kernel) (pa_cons (pe_var (i := 1) rfl (.inl hen) dE dC) (pa_cons (pe_glob (v := .ref CT) (hgl hgT) hmT rfl dT) pa_nil)))) pe_str pe_str))).run pins s' _ H' D I ?_
    refine ⟨_, hs, .ref CT, .ref CT, c, rfl, fun u r => r, kc, c, rfl, ?_⟩
    cases c with
    | true => exact hr
    | false => exact hr
  · refine ⟨fun cls dx H' => ∃ x s, ExR X.K x cls dx H' ∧ F x = some s ∧ Q (.str s) H', fun cls d σ' H' ⟨x1, s1, ex, e1, e2⟩ => ?_, rfl, hc, h⟩
    obtain ⟨f1, f2, f3, c, f4, f5⟩ := hF x1 s1 e1
    refine ⟨true, by rw [ex.cls]; exact f2, fun _ ad _ => ?_, fun z => nomatch z⟩
    refine ⟨_, c, ex.cls, ex.none f1, f3, f4, ?_, ?_⟩
    · exact ⟨σ', rfl⟩
    · rw [← f5]
      exact e2
end
end SW
set_option Elab.async false
set_option linter.all false
set_option maxRecDepth 100000
set_option maxHeartbeats 2000000
/-! SWSort: sorted of ints, index, in. -/
namespace SrtO
open PySem PyProof.Rows Srt
section
variable {prog : Program} {w : World} {A : Around} {E : Value → Shared → Prop} {s : Shared}
theorem sw_collect_tup {l : Addr} {vs : List Value} {Q : List Value → Shared → Prop} (hl : IsTup s.heap l vs.toArray)
    (h : Q vs { s with heap := (s.heap.push (seqObj "list" #[] 0)).update s.heap.objs.size (Obj.mapSeq (· ++ vs.toArray)) }) (hsz : vs.length ≤ sizeLine) :
    wpAny (model prog w) A (collect (.ref l)) Q E s := by
  obtain ⟨o, ho, hc, n, hd⟩ := id hl
  unfold collect
  refine wpAny_bind (wpAny_runValue (codeAny_builtin entry_proto_collect' ?_))
  show wpAny _ _ (do again (.builtin "list.__iadd__" ⟨[← newList [], .ref l], []⟩)) _ _ s
  refine wpAny_bind (wpAny_newList (wpAny_pure ⟨Code.quiet_builtin _ (by decide +kernel), codeAny_builtin entry_list_iadd' ?_⟩))
  show wpAny _ _ (Builtin.List.listExtendWith (.ref s.heap.objs.size) (.ref l) (.ref s.heap.objs.size)) _ _ { s with heap := s.heap.push (seqObj "list" #[] 0) }
  unfold Builtin.List.listExtendWith
  have ho' : (s.heap.push (seqObj "list" #[] 0)).get? l = some o := Heap.get?_push_of_some _ ho
  refine wpAny_bind (wpAny_typeOf (T := "tuple") ⟨o, ho', hc⟩ ?_)
  have ht : (Value.type "tuple" == Value.type "tuple") = true := by rfl
  rw [if_pos (by rw [ht]; simp)]
  refine wpAny_bind (listItems_at ho' hd ?_)
  refine wpAny_bind (listItems_at (xs := #[]) (n := 0) (Heap.get?_push_size _ rfl) rfl ?_)
  rw [if_neg (by simp)]
  refine wpAny_bind (listUpdate_at (xs := #[]) (n := 0) (Heap.get?_push_size _ rfl) rfl ?_ (Nat.zero_le _) (by show (#[] ++ vs.toArray).size ≤ sizeLine + 1; simp only [Array.size_append, List.size_toArray, List.length_nil]; omega))
  refine wpAny_pure ?_
  show wpAny (model prog w) A (do
      let o ← load s.heap.objs.size
      match o.data with
      | .seq xs _ => pure xs.toList
      | _ => unsupported "internal:collect") Q E { s with heap := (s.heap.push (seqObj "list" #[] 0)).update s.heap.objs.size (Obj.mapSeq (· ++ vs.toArray)) }
  refine wpAny_bind (wpAny_load (get?_update_seq (Heap.get?_push_size _ rfl) _) ?_)
  show wpAny _ _ (pure ((#[] : Array Value) ++ vs.toArray).toList) Q E _
  rw [show ((#[] : Array Value) ++ vs.toArray).toList = vs by simp]
  exact wpAny_pure h
theorem sw_sorted_tup {l : Addr} {vs : List Value} {ltv : Value → Value → Bool} {Q : Value → Shared → Prop} (O : Swo ltv) (hl : IsTup s.heap l vs.toArray) (hz : vs.length ≤ sizeLine)
    (hS : 2 ≤ vs.length → ∀ (h₁ : Heap) (a : Addr), h₁.get? a = some (seqObj "list" vs.toArray 0) → (∀ b o, s.heap.get? b = some o → b ≠ a ∧ h₁.get? b = some o) → SortableO prog w A.in1.in1 { s with heap := h₁ } a vs ltv)
    (h : ∀ out : List Value, Srtd ltv out → Stb ltv out vs → Q (.ref (s.heap.objs.size + 1)) { s with heap := sortedAll s.heap vs out.toArray }) :
    wpAny (model prog w) A (call (.builtin "sorted") [.ref l]) Q E s := by
  refine Calls.call_function_entry kind_sorted plain_sorted entry_sorted (args_sorted1 _) ?_
  unfold Builtin.«sorted»
  refine wpAny_bind (m := checkCount "sorted" 1 1 _) (wpAny_pure ?_)
  refine wpAny_bind (sw_collect_tup hl ?_ hz)
  refine wpAny_bind (wpAny_newList ?_ hz)
  have hsz : ((s.heap.push (seqObj "list" #[] 0)).update s.heap.objs.size (Obj.mapSeq (· ++ vs.toArray))).objs.size = s.heap.objs.size + 1 := by
    rw [Heap.size_update, size_push']
  have hoL : (((s.heap.push (seqObj "list" #[] 0)).update s.heap.objs.size (Obj.mapSeq (· ++ vs.toArray))).push (seqObj "list" vs.toArray 0)).get? (s.heap.objs.size + 1) = some (seqObj "list" vs.toArray 0) := by
    rw [← hsz]; exact Heap.get?_push_size _ rfl
  have keep : ∀ b o, s.heap.get? b = some o → b ≠ s.heap.objs.size + 1 ∧ (((s.heap.push (seqObj "list" #[] 0)).update s.heap.objs.size (Obj.mapSeq (· ++ vs.toArray))).push (seqObj "list" vs.toArray 0)).get? b = some o := fun b o q => by
    have hlt : b < s.heap.objs.size := Heap.lt_size q
    refine ⟨Nat.ne_of_lt (Nat.lt_succ_of_lt hlt), Heap.get?_push_of_some _ ?_⟩
    rw [Heap.get?_update_ne _ _ _ _ (Nat.ne_of_lt hlt)]
    exact Heap.get?_push_of_some _ q
  show wpAny _ _ _ _ _ { s with heap := ((s.heap.push (seqObj "list" #[] 0)).update s.heap.objs.size (Obj.mapSeq (· ++ vs.toArray))).push (seqObj "list" vs.toArray 0) }
  rw [hsz]
  refine wpAny_bind (wpAny_holding (wpAny_call_entry slot_list_sort ⟨_, hoL, rfl⟩ entry_list_sort (list_sort_ord O hoL hz (fun h2 => hS h2 _ _ hoL keep) fun out hs hb => ⟨_, rfl, ?_⟩) (args_list_sort _)))
  exact wpAny_pure ⟨_, rfl, h out hs hb⟩
end
end SrtO
namespace SW
open PySem PySem.Spec PyProof.Rows L2
def rSortedT (K : PySem.W.Frag) : List V → Hp → VK → Prop := fun vs H Q => ∃ (a : Addr) (ns : List Int), vs = [V.ref a] ∧ SqT K H a (ns.map V.int) ∧
  ∀ (ns' : List Int) (p : Addr), ns'.Perm ns → ns'.Pairwise (· ≤ ·) → H p = none → Q (.ref p) (upd H p (.lst (ns'.map V.int)))
theorem cr_sortedT {X : Cx} : CallR X (.builtin "sorted") (rSortedT X.K) := by
  intro pins s σ H vs us Q I r h
  obtain ⟨a, ns, rfl, hs, q⟩ := h
  obtain ⟨its, rv, hl, hz⟩ := I.tuple hs
  rw [Vals.ref1 r]
  have hi := rv.ints
  refine SrtO.sw_sorted_tup SrtO.swo_int hl (by rw [← rv.length]; exact hz) (fun h2 h₁ a' _ _ => SrtO.ints_sortable hi h2) fun out h1 h2 => ?_
  obtain ⟨k1, k2, k3⟩ := SrtO.ints_out hi h1 h2
  obtain ⟨ep, he'⟩ := PyProof.Rows.sortedAll_at s.heap its out.toArray
  have hlen : ((out.map SrtO.iv).map V.int).length ≤ sizeLine := by
    rw [List.length_map, k2.length_eq]
    rw [List.length_map] at hz
    exact hz
  exact ⟨.ref _, upd H (s.heap.objs.size + 1) (.lst ((out.map SrtO.iv).map V.int)), I.laid (t' := s.toks) (fun _ _ => PyProof.Rows.sortedAll_old) (Nat.le_succ _) ⟨hlen, out, ep, vals_of_ints k1, he'⟩, rfl, q _ _ k2 k3 (I.hok.fresh (Nat.le_succ _))⟩
/-- insertion -/
def insI (x : Int) : List Int → List Int
  | [] => [x]
  | y :: r => if x ≤ y then x :: y :: r else y :: insI x r
def isort : List Int → List Int
  | [] => []
  | x :: r => insI x (isort r)
theorem insI_perm (x : Int) : ∀ l : List Int, (insI x l).Perm (x :: l)
  | [] => .refl _
  | y :: r => by
    unfold insI
    split
    · exact .refl _
    · exact ((insI_perm x r).cons y).trans (.swap x y r)
theorem isort_perm : ∀ l : List Int, (isort l).Perm l
  | [] => .refl _
  | x :: r => (insI_perm x (isort r)).trans ((isort_perm r).cons x)
theorem insI_sorted (x : Int) : ∀ l : List Int, l.Pairwise (· ≤ ·) → (insI x l).Pairwise (· ≤ ·)
  | [], _ => by unfold insI; exact List.pairwise_singleton _ _
  | y :: r, h => by
    obtain ⟨h1, h2⟩ := List.pairwise_cons.mp h
    unfold insI
    split
    · rename_i hxy
      refine List.pairwise_cons.mpr ⟨fun z hz => ?_, h⟩
      rcases List.mem_cons.mp hz with rfl | hz
      · exact hxy
      · exact Int.le_trans hxy (h1 z hz)
    · rename_i hxy
      refine List.pairwise_cons.mpr ⟨fun z hz => ?_, insI_sorted x r h2⟩
      rcases List.mem_cons.mp ((insI_perm x r).mem_iff.mp hz) with rfl | hz
      · omega
      · exact h1 z hz
theorem isort_sorted : ∀ l : List Int, (isort l).Pairwise (· ≤ ·)
  | [] => .nil
  | x :: r => insI_sorted x _ (isort_sorted r)
theorem isort_eq {l m : List Int} (hp : m.Perm l) (hs : m.Pairwise (· ≤ ·)) : m = isort l := PySem.W.ksm_same (hp.trans (isort_perm l).symm) hs (isort_sorted l)
variable [Tab]
def F_sorted : List D → Option D
  | [.list xs] => (match intsOf xs with
    | some ns => some (.list ((isort ns).map .int))
    | none => none)
  | [.tuple xs] => (match intsOf xs with
    | some ns => some (.list ((isort ns).map .int))
    | none => none)
  | _ => none
def rSortedA (K : PySem.W.Frag) : List V → Hp → VK → Prop := fun vs H Q => rSortedI K vs H Q ∨ rSortedT K vs H Q
theorem cl_sorted {X : Cx} : CallR X (.builtin "sorted") (rSortedA X.K) := cr_sortedI.or cr_sortedT
theorem s_sorted {K : PySem.W.Frag} : OpS K (rSortedA K) F_sorted := fun vs ds d G H Q s b e q => by
  unfold F_sorted at e
  split at e
  · split at e
    · rename_i ns eb
      cases e
      obtain ⟨x, rfl, bx⟩ := dpbs1 b
      obtain ⟨a1, v1, rfl, h1, d1⟩ := bx.list s
      rw [intsOf_ok eb] at d1
      rw [d1.ints] at h1
      refine .inl ⟨a1, ns, rfl, h1, fun ns' p hp hs hn => ?_⟩
      rw [isort_eq hp hs]
      exact q _ _ _ (.new p _ .refl hn) (.lst (.inl (.inl upd_same)) (DpAll.of_ints _))
    · cases e
  · split at e
    · rename_i ns eb
      cases e
      obtain ⟨x, rfl, bx⟩ := dpbs1 b
      obtain ⟨a1, v1, rfl, h1, d1⟩ := bx.tup s
      rw [intsOf_ok eb] at d1
      rw [d1.ints] at h1
      refine .inr ⟨a1, ns, rfl, h1, fun ns' p hp hs hn => ?_⟩
      rw [isort_eq hp hs]
      exact q _ _ _ (.new p _ .refl hn) (.lst (.inl (.inl upd_same)) (DpAll.of_ints _))
    · cases e
  · cases e
/-! ### index -/
def findD (d : D) : List D → Nat → Option Nat
  | [], _ => none
  | z :: r, i => if PyData.eqv z d = true then some i else findD d r (i + 1)
theorem findD_ok {d : D} : ∀ {ds : List D} {i j : Nat}, findD d ds i = some j → ∃ k z, j = i + k ∧ ds[k]? = some z ∧ PyData.eqv z d = true ∧ ∀ (m : Nat) (z' : D), m < k → ds[m]? = some z' → PyData.eqv z' d = false
  | [], _, _, h => by cases h
  | z :: r, i, j, h => by
    unfold findD at h
    split at h
    · rename_i hz
      cases h
      exact ⟨0, z, rfl, rfl, hz, fun m z' hm _ => by omega⟩
    · rename_i hz
      obtain ⟨k, z1, e1, e2, e3, e4⟩ := findD_ok h
      refine ⟨k + 1, z1, by omega, by simpa using e2, e3, fun m z' hm hz' => ?_⟩
      cases m with
      | zero =>
        have : z = z' := by simpa using hz'
        rw [← this]
        cases q : PyData.eqv z d with
        | false => rfl
        | true => exact (hz q).elim
      | succ m => exact e4 m z' (by omega) (by simpa using hz')
def F_index : List D → Option D
  | [.list ds, d] => if (SeqAt.shaped (.list ds) && SeqAt.shaped d) = true then (match findD d ds 0 with
    | some j => some (.int (j : Nat))
    | none => none) else none
  | [.tuple ds, d] => if (SeqAt.shaped (.tuple ds) && SeqAt.shaped d) = true then (match findD d ds 0 with
    | some j => some (.int (j : Nat))
    | none => none) else none
  | _ => none
def rIndexT (K : PySem.W.Frag) : V → List V → Hp → VK → Prop := fun x xs H Q => ∃ (a : Addr) (y : V) (d : PyData) (ds : List PyData) (j : Nat) (z : PyData), x = V.ref a ∧ xs = [y] ∧ Dp K H (V.ref a) (.tuple ds) ∧ Dp K H y d ∧
  SeqAt.shaped (.tuple ds) = true ∧ SeqAt.shaped d = true ∧ ds[j]? = some z ∧ PyData.eqv z d = true ∧ (∀ (m : Nat) (z' : PyData), m < j → ds[m]? = some z' → PyData.eqv z' d = false) ∧ Q (.int (j : Nat)) H
theorem shaped_tl {ds : List D} (h : SeqAt.shaped (.tuple ds) = true) : SeqAt.shaped (.list ds) = true := h
theorem mt_indexT {X : Cx} (hu : X.A.units + 65 < cLine) : MtR X "tuple.index" (rIndexT X.K) := by
  intro pins s σ H x xs v us Q I rx rxs h
  obtain ⟨a, y, d, ds, j, z, rfl, rfl, hl, hy, sl, sd, hz, hzj, hno, q⟩ := h
  cases rx
  cases rxs with
  | cons ry rt =>
    rename_i uy ut
    cases rt
    obtain ⟨bs, r1⟩ := Dp.reads I d y uy hy ry
    have hxs : PyData.canLayAll0 ds = true := SeqAt.canLay_of_shaped (shaped_tl sl)
    have hroom : X.A.units + 1 + min (PyData.depthAll ds) d.depth < cLine := room_in_shaped sd hu
    cases hl with
    | tup hs ha =>
      obtain ⟨its, rv, ⟨⟨cls, dd, data, sls⟩, ho, hc, n, hdt⟩, hlen⟩ := I.tuple hs
      simp only at hc hdt
      subst hc hdt
      obtain ⟨as, h4⟩ := Dp.readsAll I ds _ its ha rv
      have hn : its.length = ds.length := SeqAt.ReadsAll.length ds its as h4
      have hmap : its.map (SeqAt.readOf s.heap) = ds := SeqAt.readsAll_map ds its as hxs h4
      obtain ⟨hjd, _⟩ := List.getElem?_eq_some_iff.mp hz
      have hjl : j < its.length := by omega
      have hj : j < its.toArray.size := by simpa using hjl
      have at_ : ∀ (m : Nat) (hm : m < its.toArray.size) (z' : PyData), ds[m]? = some z' → SeqAt.readOf s.heap its.toArray[m] = z' := by
        intro m hm z' hz'
        have hml : m < its.length := by simpa using hm
        rw [← hmap, List.getElem?_map, List.getElem?_eq_getElem hml] at hz'
        have e1 : SeqAt.readOf s.heap its[m] = z' := Option.some.inj (show some (SeqAt.readOf s.heap its[m]) = some z' from hz')
        simpa using e1
      refine call_meets PySem.F.slot_tuple_index ⟨_, ho, rfl⟩ PySem.F.entry_tuple_index (PySem.F.args_tuple_index_2 _ _)
        (TI.tuple_indexAt a its.toArray n dd sls uy (fun u => PyData.eqv (SeqAt.readOf s.heap u) d) j hj ?_ ?_) ⟨ho, SeqAt.items_eqAt (vs := its.toArray) (show ReadsAll s.heap its.toArray.toList ds as from h4) r1 hxs (SeqAt.canLay_of_shaped sd) hroom, ?_⟩
      · show PyData.eqv (SeqAt.readOf s.heap its.toArray[j]) d = true
        rw [at_ j hj z hz]
        exact hzj
      · intro m hm hmj
        have hmd : m < ds.length := by omega
        have hz' : ds[m]? = some ds[m] := List.getElem?_eq_getElem hmd
        show PyData.eqv (SeqAt.readOf s.heap its.toArray[m]) d = false
        rw [at_ m hm _ hz']
        exact hno m _ hmj hz'
      · exact ⟨.int (j : Nat), H, I.tok _, ⟨_, rfl⟩, q⟩
/-- o.m(e): a method of one kind of thing -/
def hasTy : Ty → D → Bool
  | .list, .list _ => true
  | .tuple, .tuple _ => true
  | .str, .str _ => true
  | _, _ => false
def aMeth (ty : Ty) (F : List D → Option D) (o : Opd) (os : List Opd) : AE := fun ρ => (o.ev ρ).bind fun ov ρ1 => match ov.get ρ1 with
  | some d => if hasTy ty d = true then (evs os ρ1).bind fun vs ρ2 => (match getAll ρ2 (ov :: vs) with
    | some ds => (match F ds with
      | some d => .ok d ρ2
      | none => .bad)
    | none => .bad) else .bad
  | none => .bad
end SW
set_option Elab.async false
set_option linter.all false
set_option maxRecDepth 100000
set_option maxHeartbeats 2000000
/-! SWMeth: methods, in, pairs of names. -/
namespace SW
open PySem PySem.Spec PyProof.Rows L2
variable [Tab]
/-- the row's own tuples have no dict -/
def KTup (K : PySem.W.Frag) : Prop := ∀ a o, K.lookup a = some o → o.cls = .type "tuple" → o.dict = none
theorem tyV_of {K : PySem.W.Frag} {G H : Hp} {v : V} {d : D} {ty : Ty} (kt : KTup K) (ng : ∀ b o, G b = some o → goodO o) (s : Same G H) (h : DpB K G H v d) (ht : hasTy ty d = true) : tyV2 K ty.nm v H := by
  cases ty with
  | list =>
    cases d with
    | list ds =>
      obtain ⟨a, vs, rfl, h1, _⟩ := h.list s
      exact .inl (.inl ⟨rfl, _, h1⟩)
    | _ => cases ht
  | tuple =>
    cases d with
    | tuple ds =>
      rcases h with h | ⟨_, _, _, _, e, _⟩
      · cases h with
        | tup hs ha =>
          rcases hs with (h | ⟨ob, h⟩) | ⟨ob, its, n, k, c, _⟩
          · exact (ng _ _ h).elim
          · exact .inr ⟨rfl, _, ob, rfl, ng _ _ h, .inl ⟨_, s _ _ h⟩⟩
          · exact .inr ⟨rfl, _, ob, rfl, kt _ _ k c, .inr ⟨k, c⟩⟩
      · cases e
    | _ => cases ht
  | str =>
    cases d with
    | str z =>
      rw [h.str]
      exact .inl rfl
    | _ => cases ht
  | _ => cases d <;> cases ht
section
variable {X : Cx} {E : WX} {o e : Expr} {es : List Expr} {oo : Opd} {os : List Opd} {name : Str} {apos cpos : Pos} {id : String} {r : V → List V → Hp → VK → Prop} {F : List D → Option D} {ty : Ty}
theorem v_meth (kt : KTup X.K) (pa : PlainAttrs ty.nm) (slot : Slot ty.nm name id) (hty : typeOf (.builtin id) = pure (.type "method_descriptor")) (hm : MtR X id r) (hs : OpS X.K (fun vs H Q => ∃ x xs, vs = x :: xs ∧ r x xs H Q) F) (ho : EO X E o oo) (ha : EOs X E (e :: es) os)
    (hbase : attributeBase o name X.env (eval o X.env) = eval o X.env := by rfl)
    (hfew : ((backTo cpos (starEach (e :: es) X.env)).all (fun x => !x.1) && (backToKw cpos (keywordEach [] X.env)).all (fun x => x.1.isSome)
      && decide ((e :: es).length + ([] : List Keyword).length + (if ([] : List Keyword).isEmpty then 0 else 1) < 30)) = true := by rfl)
    (hline : (apos.endLine == cpos.line) = true := by rfl) (hs1 : starEach (e :: es) X.env = (false, eval e X.env) :: starEach es X.env := by rfl) (hplain : (backTo cpos (starEach es X.env)).any (·.1) = false := by rfl) :
    EV X E (.Call (.Attribute o name apos) (e :: es) [] cpos) (aMeth ty F oo os) :=
  PE.imp (pe_bm2 pa slot hty hm ho ha hbase hfew hline hs1 hplain) fun σ H Q ⟨ρ, G, er, h⟩ => opd_step er h fun v ov ρ1 H1 G1 er1 s1 rel h1 => by
    cases q : ov.get ρ1 with
    | none => rw [q] at h1; exact h1.elim
    | some d =>
      rw [q] at h1
      dsimp only at h1
      split at h1
      · rename_i ht
        refine ⟨tyV_of kt er1.ng er1.sub (rel.get er1 q) ht, evs_step er1 h1 fun vs ovs ρ2 H2 G2 er2 s2 rels h2 => ?_⟩
        obtain ⟨x, xs, e1, e2⟩ := ops_end hs er2 (vs := v :: vs) (ovs := ov :: ovs) (.cons (rel.mono s2.sg) rels) h2
        cases e1
        exact e2
      · exact h1.elim
end
/-! ### index -/
def F_idxT : List D → Option D
  | [.tuple xs, d] => F_index [.tuple xs, d]
  | _ => none
def F_idxL : List D → Option D
  | [.list xs, d] => F_index [.list xs, d]
  | _ => none
theorem s_indexT {K : PySem.W.Frag} : OpS K (fun vs H Q => ∃ x xs, vs = x :: xs ∧ rIndexT K x xs H Q) F_idxT := fun vs ds d G H Q s b e q => by
  unfold F_idxT at e
  split at e
  · rename_i xs y
    unfold F_index at e
    dsimp only at e
    split at e
    · rename_i hz
      obtain ⟨h1, h2⟩ := Bool.and_eq_true_iff.mp hz
      split at e
      · rename_i j hj
        cases e
        obtain ⟨v, u, rfl, bx, byy⟩ := dpbs2 b
        obtain ⟨k, z, e1, e2, e3, e4⟩ := findD_ok hj
        have : j = k := by omega
        subst this
        obtain ⟨a, us, rfl, _⟩ := bx.tup s
        exact ⟨_, _, rfl, a, u, y, xs, j, z, rfl, rfl, bx.deep s, byy.deep s, h1, h2, e2, e3, e4, q _ H G .refl (.int _)⟩
      · cases e
    · cases e
  · cases e
theorem s_indexL {K : PySem.W.Frag} : OpS K (fun vs H Q => ∃ x xs, vs = x :: xs ∧ rIndexD K x xs H Q) F_idxL := fun vs ds d G H Q s b e q => by
  unfold F_idxL at e
  split at e
  · rename_i xs y
    unfold F_index at e
    dsimp only at e
    split at e
    · rename_i hz
      obtain ⟨h1, h2⟩ := Bool.and_eq_true_iff.mp hz
      split at e
      · rename_i j hj
        cases e
        obtain ⟨v, u, rfl, bx, byy⟩ := dpbs2 b
        obtain ⟨k, z, e1, e2, e3, e4⟩ := findD_ok hj
        have : j = k := by omega
        subst this
        obtain ⟨a, us, rfl, _⟩ := bx.list s
        exact ⟨_, _, rfl, a, u, y, xs, j, z, rfl, rfl, bx.deep s, byy.deep s, h1, h2, e2, e3, e4, q _ H G .refl (.int _)⟩
      · cases e
    · cases e
  · cases e
section
variable {X : Cx} {E : WX} {o e : Expr} {oo o1 : Opd} {apos cpos : Pos} {k : Nat}
theorem v_indexT (kt : KTup X.K) (hr : Room k X.A) (ho : EO X E o oo) (ha : EO X E e o1)
    (hbase : attributeBase o "index" X.env (eval o X.env) = eval o X.env := by rfl)
    (hfew : ((backTo cpos (starEach [e] X.env)).all (fun x => !x.1) && (backToKw cpos (keywordEach [] X.env)).all (fun x => x.1.isSome)
      && decide ([e].length + ([] : List Keyword).length + (if ([] : List Keyword).isEmpty then 0 else 1) < 30)) = true := by rfl)
    (hline : (apos.endLine == cpos.line) = true := by rfl) (hs1 : starEach [e] X.env = (false, eval e X.env) :: starEach [] X.env := by rfl) (hplain : (backTo cpos (starEach [] X.env)).any (·.1) = false := by rfl) :
    EV X E (.Call (.Attribute o "index" apos) [e] [] cpos) (aMeth .tuple F_idxT oo [o1]) :=
  v_meth kt PySem.F.plainAttrs_tuple PySem.F.slot_tuple_index rfl (mt_indexT (by have := hr.un; omega)) s_indexT ho (vs_cons ha vs_nil hs1) hbase hfew hline hs1 hplain
theorem v_indexL (kt : KTup X.K) (hr : Room k X.A) (ho : EO X E o oo) (ha : EO X E e o1)
    (hbase : attributeBase o "index" X.env (eval o X.env) = eval o X.env := by rfl)
    (hfew : ((backTo cpos (starEach [e] X.env)).all (fun x => !x.1) && (backToKw cpos (keywordEach [] X.env)).all (fun x => x.1.isSome)
      && decide ([e].length + ([] : List Keyword).length + (if ([] : List Keyword).isEmpty then 0 else 1) < 30)) = true := by rfl)
    (hline : (apos.endLine == cpos.line) = true := by rfl) (hs1 : starEach [e] X.env = (false, eval e X.env) :: starEach [] X.env := by rfl) (hplain : (backTo cpos (starEach [] X.env)).any (·.1) = false := by rfl) :
    EV X E (.Call (.Attribute o "index" apos) [e] [] cpos) (aMeth .list F_idxL oo [o1]) :=
  v_meth kt PySem.F.plainAttrs_list PySem.F.slot_list_index rfl (mt_indexD (by have := hr.un; omega)) s_indexL ho (vs_cons ha vs_nil hs1) hbase hfew hline hs1 hplain
end
/-! ### in -/
def flatD : D → Bool
  | .none => true
  | .bool _ => true
  | .int _ => true
  | .str _ => true
  | _ => false
def inD (d : D) (ds : List D) : Bool := ds.any fun z => PyData.eqv z d
theorem flat_dp {K : PySem.W.Frag} {H : Hp} {v : V} {d : D} (h : Dp K H v d) (f : flatD d = true) : flatV v = true := by
  cases h with
  | lst _ _ => cases f
  | tup _ _ => cases f
  | _ => rfl
theorem eqv_dp {K : PySem.W.Frag} {H : Hp} {v u : V} {d e : D} (h : Dp K H v d) (h2 : Dp K H u e) (f : flatD d = true) (f2 : flatD e = true) : eqV v u = PyData.eqv d e := by
  cases h with
  | lst _ _ => cases f
  | tup _ _ => cases f
  | non => cases h2 <;> first | (simp [eqV, PyData.eqv]; done) | cases f2
  | bl a => cases h2 <;> first | (simp [eqV, PyData.eqv]; done) | cases f2
  | int a => cases h2 <;> first | (simp [eqV, PyData.eqv]; done) | cases f2
  | str a => cases h2 <;> first | (simp [eqV, PyData.eqv]; done) | cases f2
theorem inV_dp {K : PySem.W.Frag} {H : Hp} {v : V} {d : D} (h : Dp K H v d) (f : flatD d = true) : ∀ {vs : List V} {ds : List D}, DpAll K H vs ds → ds.all flatD = true → vs.all flatV = true ∧ inV v vs = inD d ds
  | _, _, .nil, _ => ⟨rfl, rfl⟩
  | _, _, .cons a t, fs => by
    rw [List.all_cons, Bool.and_eq_true] at fs
    obtain ⟨h1, h2⟩ := inV_dp h f t fs.2
    refine ⟨by rw [List.all_cons, flat_dp a fs.1, h1]; rfl, ?_⟩
    unfold inV inD at h2 ⊢
    rw [List.any_cons, List.any_cons, h2, eqv_dp a h fs.1 f]
def F_in : List D → Option D
  | [d, .list ds] => if (SeqAt.shaped d && SeqAt.shaped (.list ds)) = true then some (.bool (inD d ds)) else none
  | [d, .tuple ds] => if (flatD d && ds.all flatD) = true then some (.bool (inD d ds)) else none
  | [.str c, .str z] => if c.cps.size = 1 then some (.bool (decide (c.cps.getD 0 0 ∈ z.cps.toList))) else none
  | _ => none
def F_notIn (ds : List D) : Option D := match F_in ds with
  | some (.bool b) => some (.bool (!b))
  | _ => none
def rInS : R2 := fun x y H Q => ∃ (c : Nat) (z : Str), x = .str ⟨#[c]⟩ ∧ y = .str z ∧ Q (.bl (decide (c ∈ z.cps.toList))) H
def rNotInS : R2 := fun x y H Q => ∃ (c : Nat) (z : Str), x = .str ⟨#[c]⟩ ∧ y = .str z ∧ Q (.bl (!decide (c ∈ z.cps.toList))) H
def rInA (K : PySem.W.Frag) : R2 := fun x y H Q => (rInD K x y H Q ∨ rIn K false x y H Q) ∨ rInS x y H Q
def rNotInA (K : PySem.W.Frag) : R2 := fun x y H Q => (rNotInD K x y H Q ∨ rIn K true x y H Q) ∨ rNotInS x y H Q
theorem op_inA {X : Cx} {k : Nat} (hr : Room k X.A) : OpR X (compareOp .In) (rInA X.K) := ((op_inD (by have := hr.un; omega)).or op_in_seq).or op_in_sign
theorem op_notInA {X : Cx} {k : Nat} (hr : Room k X.A) : OpR X (compareOp .NotIn) (rNotInA X.K) := ((op_notInD (by have := hr.un; omega)).or op_notIn_seq).or op_notIn_sign
theorem str_one {c : Str} (h : c.cps.size = 1) : c = ⟨#[c.cps.getD 0 0]⟩ := by
  obtain ⟨a⟩ := c
  obtain ⟨l⟩ := a
  match l, h with
  | [x], _ => rfl
theorem in_cases {K : PySem.W.Frag} {vs : List V} {ds : List D} {d : D} {G H : Hp} (s : Same G H) (b : DpBs K G H vs ds) (e : F_in ds = some d) : ∃ x y k, vs = [x, y] ∧ d = .bool k ∧
    ∀ (Q : VK), ((Q (.bl k) H → rInA K x y H Q) ∧ (Q (.bl (!k)) H → rNotInA K x y H Q)) := by
  unfold F_in at e
  split at e
  · rename_i i j
    split at e
    · rename_i hz
      cases e
      obtain ⟨h1, h2⟩ := Bool.and_eq_true_iff.mp hz
      obtain ⟨x, y, rfl, bx, byy⟩ := dpbs2 b
      exact ⟨x, y, _, rfl, rfl, fun Q => ⟨fun q => .inl (.inl ⟨i, j, bx.deep s, byy.deep s, h1, h2, q⟩), fun q => .inl (.inl ⟨i, j, bx.deep s, byy.deep s, h1, h2, q⟩)⟩⟩
    · cases e
  · rename_i i j
    split at e
    · rename_i hz
      cases e
      obtain ⟨h1, h2⟩ := Bool.and_eq_true_iff.mp hz
      obtain ⟨x, y, rfl, bx, byy⟩ := dpbs2 b
      obtain ⟨a1, v1, rfl, k1, d1⟩ := byy.tup s
      have dx := bx.deep s
      obtain ⟨m1, m2⟩ := inV_dp dx h1 (dpAll_mono s _ _ d1) h2
      refine ⟨x, _, _, rfl, rfl, fun Q => ⟨fun q => .inl (.inr ⟨a1, v1, rfl, .inr k1, flat_dp dx h1, m1, ?_⟩), fun q => .inl (.inr ⟨a1, v1, rfl, .inr k1, flat_dp dx h1, m1, ?_⟩)⟩⟩
      · show Q (.bl (inV x v1)) H
        rw [m2]; exact q
      · show Q (.bl (!inV x v1)) H
        rw [m2]; exact q
    · cases e
  · rename_i c z
    split at e
    · rename_i hz
      cases e
      obtain ⟨x, y, rfl, bx, byy⟩ := dpbs2 b
      refine ⟨x, y, _, rfl, rfl, fun Q => ⟨fun q => .inr ⟨_, z, ?_, byy.str, q⟩, fun q => .inr ⟨_, z, ?_, byy.str, q⟩⟩⟩
      · rw [bx.str]; exact congrArg _ (str_one hz)
      · rw [bx.str]; exact congrArg _ (str_one hz)
    · cases e
  · cases e
theorem s_in {K : PySem.W.Frag} : OpS K (r2 (rInA K)) F_in := fun vs ds d G H Q s b e q => by
  obtain ⟨x, y, k, rfl, rfl, h⟩ := in_cases s b e
  exact ⟨x, y, rfl, (h Q).1 (q _ H G .refl (.bl _))⟩
theorem s_notIn {K : PySem.W.Frag} : OpS K (r2 (rNotInA K)) F_notIn := fun vs ds d G H Q s b e q => by
  unfold F_notIn at e
  split at e
  · rename_i k0 e0
    cases e
    obtain ⟨x, y, k, rfl, ek, h⟩ := in_cases s b e0
    cases ek
    exact ⟨x, y, rfl, (h Q).2 (q _ H G .refl (.bl _))⟩
  · cases e
/-! ### a, b = x, y -/
def putAll : List Nat → List D → AS
  | [], [] => fun ρ => .ok .nx ρ
  | i :: is, d :: ds => fun ρ => if isIo (getSlot ρ i) = true then .bad else putAll is ds (setSlot ρ i (.pl d))
  | _, _ => fun _ => .bad
def setVs : List Nat → List V → L2.St → L2.St
  | i :: is, v :: vs, σ => setVs is vs (σ.set i (some v))
  | _, _, σ => σ
def sPar (is : List Nat) (fs : List AE) : AS := fun ρ => (evsD fs ρ).bind fun ds ρ1 => putAll is ds ρ1
theorem put_read {K : PySem.W.Frag} {E : WX} {H G : Hp} {Dn : Ends} : ∀ {is : List Nat} {vs : List V} {ds : List D} {ρ : En} {σ : L2.St}, ER K ρ σ H G → DpAll K G vs ds → OutS K E (putAll is ds ρ) ρ σ H G Dn → vs.length = is.length ∧ Dn.nx (setVs is vs σ) H
  | [], _, _, ρ, σ, er, .nil, h => ⟨rfl, h σ H G er .refl⟩
  | [], _, _, ρ, σ, er, .cons _ _, h => h.elim
  | i :: is, _, _, ρ, σ, er, .nil, h => h.elim
  | i :: is, _, _, ρ, σ, er, .cons (v := v) (d := d) (vs := vs) (ds := ds) a t, h => by
    have h' : OutS K E (if isIo (getSlot ρ i) = true then .bad else putAll is ds (setSlot ρ i (.pl d))) ρ σ H G Dn := h
    split at h'
    · exact h'.elim
    · rename_i hn
      obtain ⟨e1, s1⟩ := er.put hn a
      obtain ⟨k1, k2⟩ := put_read e1 t (OutS.shift h' s1)
      exact ⟨congrArg (· + 1) k1, k2⟩
section
variable {X : Cx} {E : WX} {pos : Pos}
theorem par_read {K : PySem.W.Frag} {is : List Nat} {fs : List AE} {ρ : En} {σ : L2.St} {H G : Hp} {Dn : Ends} {Q : List V → Hp → Prop} (er : ER K ρ σ H G) (h : OutS K E (sPar is fs ρ) ρ σ H G Dn)
    (q : ∀ vs H1, vs.length = is.length → Dn.nx (setVs is vs σ) H1 → Q vs H1) : tDs K E fs σ H Q := by
  have e : (evsD fs ρ).bind (fun ds ρ1 => R.ok ds ρ1) = evsD fs ρ := by cases evsD fs ρ <;> rfl
  have h2 := out_outS h
  rw [← e] at h2
  exact evsD_step er h2 fun vs ds ρ1 H1 G1 er1 s1 dps z => by
    obtain ⟨k1, k2⟩ := put_read er1 dps (z H1 G1 er1 .refl)
    exact q vs H1 k1 k2
theorem s_par {i j : Nat} {x y : Str} {a b : Expr} {fs : List AE} {px py pt : Pos} {kt k2 pt2} (hc : X.calm = true) (hN : X.N.Nodup) (hi : X.N[i]? = some x) (hj : X.N[j]? = some y)
    (hx : X.env.scope.names.lookup x = some .local) (hy : X.env.scope.names.lookup y = some .local) (ha : EDs X E [a, b] fs)
    (hij : i ≠ j := by decide) (hw : swappedStores [.Tuple [.Name x px, .Name y py] kt pt] (.Tuple [a, b] k2 pt2) X.env = pure (some [x, y]) := by rfl)
    (hs : swapsWithSole [.Tuple [.Name x px, .Name y py] kt pt] (.Tuple [a, b] k2 pt2) pos.line X.env = pure false := by rfl) :
    SS X E (.Assign [.Tuple [.Name x px, .Name y py] kt pt] (.Tuple [a, b] k2 pt2) pos) (sPar [i, j] fs) :=
  PS.imp (ps_par hc hN hi hj hij hx hy ha hw hs) fun Dn σ H ⟨ρ, G, er, h⟩ => par_read er h fun vs H1 k1 k2 => match vs, k1, k2 with | [v, w], _, k2 => ⟨v, w, rfl, k2⟩
theorem s_par3 {i j l : Nat} {x y z : Str} {a b c : Expr} {fs : List AE} {px py pz pt : Pos} {kt k2 pt2} (hc : X.calm = true) (hN : X.N.Nodup) (hi : X.N[i]? = some x) (hj : X.N[j]? = some y) (hl : X.N[l]? = some z)
    (hx : X.env.scope.names.lookup x = some .local) (hy : X.env.scope.names.lookup y = some .local) (hz : X.env.scope.names.lookup z = some .local) (ha : EDs X E [a, b, c] fs)
    (hij : i ≠ j := by decide) (hil : i ≠ l := by decide) (hjl : j ≠ l := by decide) (hw : swappedStores [.Tuple [.Name x px, .Name y py, .Name z pz] kt pt] (.Tuple [a, b, c] k2 pt2) X.env = pure (some [x, y, z]) := by rfl)
    (hs : swapsWithSole [.Tuple [.Name x px, .Name y py, .Name z pz] kt pt] (.Tuple [a, b, c] k2 pt2) pos.line X.env = pure false := by rfl) :
    SS X E (.Assign [.Tuple [.Name x px, .Name y py, .Name z pz] kt pt] (.Tuple [a, b, c] k2 pt2) pos) (sPar [i, j, l] fs) :=
  PS.imp (ps_par3 hc hN hi hj hl hij hil hjl hx hy hz ha hw hs) fun Dn σ H ⟨ρ, G, er, h⟩ => par_read er h fun vs H1 k1 k2 => match vs, k1, k2 with | [v, w, u], _, k2 => ⟨v, w, u, rfl, k2⟩
end
end SW
set_option Elab.async false
set_option linter.all false
set_option maxRecDepth 100000
set_option maxHeartbeats 2000000
/-! SWHead: the head's facts, defs by the head, calls of them. -/
namespace SW
open PySem PySem.Spec PyProof.Rows L2
variable [Tab]
/-! ### facts of the row by a Bool -/
def kTupB (K : PySem.W.Frag) : Bool := K.all fun q => !decide (q.2.cls = .type "tuple") || q.2.dict.isNone
theorem kTup_ok {K : PySem.W.Frag} (h : kTupB K = true) : KTup K := fun a o e c => by
  have h2 := List.all_eq_true.mp h _ (He.lookup_mem e)
  rcases (Bool.or_eq_true _ _).mp h2 with h3 | h3
  · rw [decide_eq_true c] at h3
    cases h3
  · exact Option.isNone_iff_eq_none.mp h3
def eqVV (a b : Option (Option Value)) : Bool := decide (a = b)
def excCB (K : PySem.W.Frag) (D : Addr) : Bool :=
  eqVV (PySem.W.findIn K (.ref D) "__getattribute__") (some (some (.builtin "BaseException.__getattribute__"))) && (eqVV (PySem.W.findIn K (.ref D) "__getattr__") (some none) && (decide (PySem.W.subIn K (.ref D) (.type "BaseException") = some true) &&
  (PySem.W.hasDictIn K D && (eqVV (PySem.W.findIn K (.ref D) "__class__") (some (some (.builtin "object.__class__"))) && (eqVV (PySem.W.specialIn K (.builtin "object.__class__") "__get__") (some (some (.builtin "getset_descriptor.__get__"))) &&
  (decide (PySem.W.takesIn K (.builtin "object.__class__") = some true) && decide (PySem.W.mroIn K D (.type "object") = some true)))))))
theorem excC_ok {K : PySem.W.Frag} {D : Addr} (h : excCB K D = true) : ExcC K D := by
  unfold excCB eqVV at h
  simp only [Bool.and_eq_true, decide_eq_true_eq] at h
  obtain ⟨h1, h2, h3, h4, h5, h6, h7, h8⟩ := h
  exact ⟨h1, h2, h3, h4, h5, h6, h7, h8⟩
/-- what a class's name is told as: the told classes are all under S, and w1 those under T -/
def tellB (K : PySem.W.Frag) (S T w1 w2 : Str) (tbl : List (Str × Str)) : Bool := tbl.all fun p => decide (PySem.W.exmOne K (.ref (He.ga K p.1)) (.ref (He.ga K S)) = some true) && (excCB K (He.ga K p.1) &&
  (decide (PySem.W.kitOne K (.ref (He.ga K p.1)) (.ref (He.ga K T)) = some (decide (p.2 = w1))) && (decide (p.2 = w1) || decide (p.2 = w2))))
def tellF (tbl : List (Str × Str)) : Ex → Option Str := fun x => if x.fs.isEmpty then tbl.lookup x.cls else none
theorem lookupS_mem {x s : Str} : ∀ {l : List (Str × Str)}, l.lookup x = some s → (x, s) ∈ l
  | [], h => by cases h
  | (b, u) :: r, h => by
    have h2 : (match x == b with | true => some u | false => r.lookup x) = some s := h
    cases q : (x == b) with
    | true =>
      rw [q] at h2
      have e : u = s := Option.some.inj h2
      rw [beq_iff_eq.mp q, e]
      exact List.mem_cons_self
    | false =>
      rw [q] at h2
      exact List.mem_cons_of_mem _ (lookupS_mem h2)
theorem tell_ok {K : PySem.W.Frag} {S T w1 w2 : Str} {tbl : List (Str × Str)} (h : tellB K S T w1 w2 tbl = true) (x : Ex) (s : Str) (e : tellF tbl x = some s) :
    x.fs = [] ∧ PySem.W.exmOne K (.ref (He.ga K x.cls)) (.ref (He.ga K S)) = some true ∧ ExcC K (He.ga K x.cls) ∧ ∃ c, PySem.W.kitOne K (.ref (He.ga K x.cls)) (.ref (He.ga K T)) = some c ∧ s = if c = true then w1 else w2 := by
  unfold tellF at e
  split at e
  · rename_i hz
    have h2 := List.all_eq_true.mp h _ (lookupS_mem e)
    simp only [Bool.and_eq_true, decide_eq_true_eq, Bool.or_eq_true] at h2
    obtain ⟨h3, h4, h5, h6⟩ := h2
    refine ⟨List.isEmpty_iff.mp hz, h3, excC_ok h4, _, h5, ?_⟩
    by_cases q : s = w1
    · rw [decide_eq_true q, if_pos rfl]; exact q
    · rw [decide_eq_false q, if_neg Bool.false_ne_true]; exact h6.resolve_left q
  · cases e
structure Fx (K : PySem.W.Frag) (mg : Str → Option Value) (fn : List He.DefD) (fa : List He.Fa) (ex : PySem.W.Frag → Bool) : Prop where
  df : ∀ (i : Nat) d, fn[i]? = some d → ∃ fd, FunD K d.name d.qual d.params d.body d.scope (d.dvs K) (d.kws K) (He.fAd K d.at_) fd
  ok : ∀ (i : Nat) f, fa[i]? = some f → f.ok K = true
  gl : ∀ x, (He.Fa.glo x).ok K = true → mg x = some (.ref (He.ga K x))
  fr : ∀ x, (He.Fa.free x).ok K = true → mg x = none
  it : ∀ x n, (He.Fa.int x n).ok K = true → ∃ t, mg x = some (.int n t)
  st : ∀ x n, (He.Fa.str x n).ok K = true → ∃ t, mg x = some (.str n t)
  kt : KTup K
  more : ex K = true
section
variable {K : PySem.W.Frag} {mg : Str → Option Value} {fn : List He.DefD} {fa : List He.Fa} {ex : PySem.W.Frag → Bool}
theorem Fx.g (c : Fx K mg fn fa ex) {x : Str} (i : Nat) (h : fa[i]? = some (.glo x) := by rfl) : mg x = some (.ref (He.ga K x)) := c.gl x (c.ok i _ h)
theorem Fx.f (c : Fx K mg fn fa ex) {x : Str} (i : Nat) (h : fa[i]? = some (.free x) := by rfl) : mg x = none := c.fr x (c.ok i _ h)
theorem Fx.i (c : Fx K mg fn fa ex) {x : Str} {n : Int} (i : Nat) (h : fa[i]? = some (.int x n) := by rfl) : ∃ t, mg x = some (.int n t) := c.it x n (c.ok i _ h)
theorem Fx.s (c : Fx K mg fn fa ex) {x : Str} {n : Str} (i : Nat) (h : fa[i]? = some (.str x n) := by rfl) : ∃ t, mg x = some (.str n t) := c.st x n (c.ok i _ h)
end
section
variable {P : Program} {w : World} {K : PySem.W.Frag} {mg : Str → Option Value} {base : Heap} {fn : List He.DefD} {fa : List He.Fa} {ex : PySem.W.Frag → Bool}
theorem fnD_ok {x qual : Str} {params : Arguments} {bd : List Stmt} {scope : Scope} {dvs : List V} {kws : List (Str × V)} {f : Addr} {fd : FuncData} {N ps : List Str} {k : Nat} {body : AS} (F : FunD K x qual params bd scope dvs kws f fd) (S : FnScope N ps scope)
    (hb : ∀ (cdv : Value) (A : Around) (outer : List Env) (s : Shared) (H : Hp) (E : XK), Room k (A.deeper (envOfC qual scope s.heap.objs.size f cdv)) →
      Takes (cxOf (L2.CX P w) P w K mg base N qual scope f cdv A outer s H E) (fun c d _ H' => E c d H') →
      SSs (cxOf (L2.CX P w) P w K mg base N qual scope f cdv A outer s H E) (fun c d _ H' => E c d H') bd body) :
    FnOk P w K mg base (L2.CX P w) (k + 1) f fd ps (spF K N ps.length (mkF N.length body)) := by
  refine F.ok S (fun vs H Q E h => h.1) fun cdv A outer s H vs Q E hr hsp => ?_
  obtain ⟨hl, svs, G, er, hk, ho⟩ := hsp
  unfold mkF at ho
  rw [hk] at ho
  exact ⟨_, hb cdv A outer s H E hr (takes_of rfl rfl rfl rfl), _, G, er, by rw [hk]; exact OutN.outS ho⟩
/-- a def of the row, ready to be called -/
def OkD (P : Program) (w : World) (K : PySem.W.Frag) (mg : Str → Option Value) (base : Heap) (x : Str) (k : Nat) (ps N : List Str) (m : MF) : Prop :=
  ∃ f fd, mg x = some (.ref f) ∧ PySem.W.keepIn K (.ref f) = true ∧ Binds K fd ps [] ∧ FnOk P w K mg base (L2.CX P w) k f fd ps (spF K N ps.length m) ∧ ∃ oc od osl, K.lookup f = some ⟨oc, od, .func fd, osl⟩
theorem okD_of (c : Fx K mg fn fa ex) {x : Str} {params : Arguments} {bd : List Stmt} {scope : Scope} {N ps : List Str} {k : Nat} {body : AS} (i j : Nat) (hi : fn[i]? = some ⟨(x, none), x, x, params, bd, scope, [], []⟩) (hj : fa[j]? = some (.glo x)) (S : FnScope N ps scope)
    (hbd : ∀ (kV doc pm : Value) (an : Option Addr) (cdv ct : Value) (us : List Value), us.length = ps.length → bindArgs (PySem.W.fnOf x x params bd scope .none kV doc pm an cdv ct) ⟨us, []⟩ = pure (ps.zip us))
    (hb : ∀ (f : Addr) (cdv : Value) (A : Around) (outer : List Env) (s : Shared) (H : Hp) (E : XK), Room k (A.deeper (envOfC x scope s.heap.objs.size f cdv)) →
      Takes (cxOf (L2.CX P w) P w K mg base N x scope f cdv A outer s H E) (fun c d _ H' => E c d H') →
      SSs (cxOf (L2.CX P w) P w K mg base N x scope f cdv A outer s H E) (fun c d _ H' => E c d H') bd body) : OkD P w K mg base x (k + 1) ps N (mkF N.length body) := by
  obtain ⟨fd, F⟩ := c.df i _ hi
  have hl : ∃ oc od osl, K.lookup (He.fAd K (x, none)) = some ⟨oc, od, .func fd, osl⟩ := by
    obtain ⟨oc, od, dV, kV, doc, pm, an, cdv, ct, osl, _, lk, _⟩ := F.ex
    exact ⟨oc, od, osl, lk⟩
  refine ⟨_, fd, c.gl x (c.ok j _ hj), F.kp, FunD.bindsN F hbd, fnD_ok F S fun cdv A outer s H E => hb _ cdv A outer s H E, hl⟩
/-- .. whose code object is asked for -/
theorem okD_ofL (c : Fx K mg fn fa ex) {x : Str} {params : Arguments} {bd : List Stmt} {scope : Scope} {N ps : List Str} {k : Nat} {body : AS} (i j : Nat) (hi : fn[i]? = some ⟨(x, none), x, x, params, bd, scope, [], []⟩) (hj : fa[j]? = some (.glo x)) (S : FnScope N ps scope)
    (hbd : ∀ (kV doc pm : Value) (an : Option Addr) (cdv ct : Value) (us : List Value), us.length = ps.length → bindArgs (PySem.W.fnOf x x params bd scope .none kV doc pm an cdv ct) ⟨us, []⟩ = pure (ps.zip us))
    (hb : ∀ (f : Addr) (cdv : Value) (A : Around) (outer : List Env) (s : Shared) (H : Hp) (E : XK), cdv = .ref (He.codeOf K (x, none)) → Room k (A.deeper (envOfC x scope s.heap.objs.size f cdv)) →
      Takes (cxOf (L2.CX P w) P w K mg base N x scope f cdv A outer s H E) (fun c d _ H' => E c d H') →
      SSs (cxOf (L2.CX P w) P w K mg base N x scope f cdv A outer s H E) (fun c d _ H' => E c d H') bd body) : OkD P w K mg base x (k + 1) ps N (mkF N.length body) := by
  obtain ⟨fd, F⟩ := c.df i _ hi
  have hl : ∃ oc od osl, K.lookup (He.fAd K (x, none)) = some ⟨oc, od, .func fd, osl⟩ := by
    obtain ⟨oc, od, dV, kV, doc, pm, an, cdv, ct, osl, _, lk, _⟩ := F.ex
    exact ⟨oc, od, osl, lk⟩
  refine ⟨_, fd, c.gl x (c.ok j _ hj), F.kp, FunD.bindsN F hbd, ?_, hl⟩
  obtain ⟨oc, od, dV, kV, doc, pm, an, cdv, ct, osl, rfl, lk, hcd, _, _⟩ := F.ex
  obtain ⟨c0, rfl⟩ := He.codeIn_ref hcd
  have ec : He.codeOf K (x, none) = c0 := He.codeOf_eq lk rfl
  refine fn_of lk hcd S (fun vs H Q E h => h.1) fun A outer s H vs Q E hr hsp => ?_
  obtain ⟨hl, svs, G, er, hk, ho⟩ := hsp
  unfold mkF at ho
  rw [hk] at ho
  exact ⟨_, hb _ _ A outer s H E (by rw [ec]) hr (takes_of rfl rfl rfl rfl), _, G, er, by rw [hk]; exact OutN.outS ho⟩
/-- a def that calls itself -/
theorem okD_rec (c : Fx K mg fn fa ex) {x : Str} {params : Arguments} {bd : List Stmt} {scope : Scope} {N ps : List Str} {k : Nat} {body : MF → AS} (i j : Nat) (hi : fn[i]? = some ⟨(x, none), x, x, params, bd, scope, [], []⟩) (hj : fa[j]? = some (.glo x)) (S : FnScope N ps scope)
    (hbd : ∀ (kV doc pm : Value) (an : Option Addr) (cdv ct : Value) (us : List Value), us.length = ps.length → bindArgs (PySem.W.fnOf x x params bd scope .none kV doc pm an cdv ct) ⟨us, []⟩ = pure (ps.zip us))
    (mf : Nat → MF) (h0 : mf 0 = fun _ => .bad) (hS : ∀ n, mf (n + 1) = mkF N.length (body (mf n)))
    (hb : ∀ (n : Nat) (hm : OkD P w K mg base x (k + n) ps N (mf n)) (f : Addr) (cdv : Value) (A : Around) (outer : List Env) (s : Shared) (H : Hp) (E : XK), Room (k + n) (A.deeper (envOfC x scope s.heap.objs.size f cdv)) →
      Takes (cxOf (L2.CX P w) P w K mg base N x scope f cdv A outer s H E) (fun c d _ H' => E c d H') →
      SSs (cxOf (L2.CX P w) P w K mg base N x scope f cdv A outer s H E) (fun c d _ H' => E c d H') bd (body (mf n))) (hk : 1 ≤ k) : ∀ n, OkD P w K mg base x (k + n) ps N (mf n)
  | 0 => by
    obtain ⟨fd, F⟩ := c.df i _ hi
    obtain ⟨k', rfl⟩ : ∃ k', k = k' + 1 := ⟨k - 1, by omega⟩
    have hl : ∃ oc od osl, K.lookup (He.fAd K (x, none)) = some ⟨oc, od, .func fd, osl⟩ := by
      obtain ⟨oc, od, dV, kV, doc, pm, an, cdv, ct, osl, _, lk, _⟩ := F.ex
      exact ⟨oc, od, osl, lk⟩
    refine ⟨_, fd, c.gl x (c.ok j _ hj), F.kp, FunD.bindsN F hbd, ?_, hl⟩
    refine F.ok S (fun vs H Q E h => h.1) fun cdv A outer s H vs Q E hr hsp => ?_
    obtain ⟨hl, svs, G, er, hk, ho⟩ := hsp
    rw [h0] at ho
    exact ho.elim
  | n + 1 => by
    have ih := okD_rec c i j hi hj S hbd mf h0 hS hb hk n
    have h := okD_of (k := k + n) c i j hi hj S hbd (hb n ih)
    rw [← hS] at h
    exact h
end
section
variable {X : Cx} {E : WX} {pos p : Pos} {x : Str} {e : Expr} {es : List Expr} {os : List Opd} {ps : List Str} {k k' : Nat} {m : MF} {N : List Str}
theorem v_callD (h : OkD X.prog X.w X.K X.mg X.base x k ps N m) (tk : Takes X E) (hr : Room k' X.A) (hg : Gl X x) (ha : EOs X E (e :: es) os) (hkk : k ≤ k' := by decide) (hk : os.length = ps.length := by rfl) (hN : ps.length ≤ N.length := by decide)
    (hdb : (x == ("__debug__" : Str)) = false := by decide) (hs : starEach (e :: es) X.env = (false, eval e X.env) :: starEach es X.env := by rfl) (hpl : (backTo pos (starEach es X.env)).any (·.1) = false := by rfl) : EV X E (.Call (.Name x p) (e :: es) [] pos) (aCall m os) := by
  obtain ⟨f, fd, hm, hkp, hb, F, _⟩ := h
  exact v_call F tk (hr.mono hkk) hg hm hkp hb ha hk hN hdb hs hpl
theorem f_callD (h : OkD X.prog X.w X.K X.mg X.base x k ps N m) (tk : Takes X E) (hr : Room k' X.A) (hg : Gl X x) (ha : EOs X E (e :: es) os) (hkk : k ≤ k' := by decide) (hk : os.length = ps.length := by rfl) (hN : ps.length ≤ N.length := by decide)
    (hdb : (x == ("__debug__" : Str)) = false := by decide) (hs : starEach (e :: es) X.env = (false, eval e X.env) :: starEach es X.env := by rfl) (hpl : (backTo pos (starEach es X.env)).any (·.1) = false := by rfl) : EF X E (.Call (.Name x p) (e :: es) [] pos) (fCall m os) := by
  obtain ⟨f, fd, hm, hkp, hb, F, _⟩ := h
  exact f_call F tk (hr.mono hkk) hg hm hkp hb ha hk hN hdb hs hpl
/-- x(lambda: body), x a def that tells what it raises -/
theorem v_toldX {fn : List He.DefD} {fa : List He.Fa} {ex : PySem.W.Frag → Bool} (c : Fx X.K X.mg fn fa ex) {a : Str} {cc P : Addr} {k : Nat} {pg : Arguments} {bg : List Stmt} {sg : Scope} {Ng : List Str} {F : Ex → Option Str} {sn : Str}
    {params : Arguments} {body : Expr} {scope : Scope} {f : AE} {lpos : Pos} (i j : Nat) (hi : fn[i]? = some ⟨(x, none), x, x, pg, bg, sg, [], []⟩) (hj : fa[j]? = some (.glo x)) (hg : Gl X x) (Sg : FnScope Ng [a] sg) (hNg : Ng[0]? = some a) (hva : Vis sg a)
    (hbd : ∀ (kV doc pm : Value) (an : Option Addr) (cdv ct : Value) (us : List Value), us.length = [a].length → bindArgs (PySem.W.fnOf x x pg bg sg .none kV doc pm an cdv ct) ⟨us, []⟩ = pure ([a].zip us))
    (hG : ∀ g cdg, GivesT X Ng x sg g cdg bg a (X.env.qual ++ "<lambda>") F sn)
    (TB : LamX.TabB X.base X.mg cc P) (hcode : X.env.code = .ref cc) (hmT : (P, X.env.qual ++ "<lambda>") ∈ Tab.T) (hu : ∀ p ∈ Tab.T, p.1 = P → p.2 = X.env.qual ++ "<lambda>") (hr : Room (k + 2) X.A) (L : LamX.LamS X.env.scope scope)
    (hbody : ∀ (A : Around) (outer : List Env) (s : Shared) (H : Hp) (E : XK) (f' c' : Addr), Room k (A.deeper (LamX.lamEnv X scope s.heap.objs.size f' c')) → Takes (LamX.lamCx X A outer s H E scope f' c') (fun c d _ H' => E c d H') → EV (LamX.lamCx X A outer s H E scope f' c') (fun c d _ H' => E c d H') body f)
    (hdef : defaultsOf params X.env = ([], []) := by rfl) (hbind : ∀ (q : Str) (cl : List (Str × Addr)) (pm cv ctv : Value), bindArgs (PySem.W.kla_fn "<lambda>" q params body scope cl pm cv ctv) ⟨[], []⟩ = pure [] := by intros; rfl)
    (hdb : (x == ("__debug__" : Str)) = false := by decide) (hd : (a == ("__debug__" : Str)) = false := by decide) (hcd : (a == ("__classdict__" : Str)) = false := by decide) :
    EV X E (.Call (.Name x p) [.Lambda params body scope lpos] [] pos) (aTold F sn f) := by
  obtain ⟨fd, FD⟩ := c.df i _ hi
  have hb := FunD.bindsN FD hbd
  have kp := FD.kp
  obtain ⟨oc, od, dV, kV, doc, pm, an, cdv, ct, osl, rfl, lk, hcd', _, _⟩ := FD.ex
  exact v_told hg (c.gl x (c.ok j _ hj)) kp lk hcd' hb Sg hNg hva (hG _ _) TB hcode hmT hu hr L hdef hbind hbody hdb hd hcd
/-- raise X('..') -/
theorem s_raiseX {fn : List He.DefD} {fa : List He.Fa} {ex : PySem.W.Frag → Bool} (c : Fx X.K X.mg fn fa ex) {m : Str} {j : Nat} {p2 pos2 : Pos} (i ig : Nat) (hi : fa[i]? = some (.exc x)) (hig : fa[ig]? = some (.glo x)) (hc : X.calm = true) (tk : Takes X E) (hg : Gl X x) (hdb : (x == ("__debug__" : Str)) = false := by decide) :
    SS X E (.Raise (some (.Call (.Name x p) [.Constant (.str m) j p2] [] pos)) none pos2) (sRaise x) := by
  obtain ⟨h1, h2, h3, h4⟩ := He.exc_ok (c.ok i _ hi)
  exact s_raise hc tk (pmk_own PySem.F.excBase_ValueError h1 (c.g ig hig) h2 (raises_own h3 h4) hg hdb)
end
end SW
set_option Elab.async false
set_option linter.all false
set_option maxRecDepth 100000
set_option maxHeartbeats 2000000
/-! SWUse: the rules in short. -/
namespace SW
open PySem PySem.Spec PyProof.Rows L2
variable [Tab]
section
variable {X : Cx} {E : WX} {pos p p2 : Pos} {e a b : Expr} {es : List Expr} {os : List Opd} {o1 o2 : Opd} {f g : AE} {k : Nat}
theorem vn (i : Nat) {x : Str} (hN : X.N[i]? = some x := by rfl) (hv : Vis X.env.scope x := by first | exact .inl rfl | exact .inr (.inl rfl) | exact .inr (.inr rfl)) (hd : (x == ("__debug__" : Str)) = false := by decide) (hcd : (x == ("__classdict__" : Str)) = false := by decide) : EO X E (.Name x pos) (.br i) := v_br hN hv hd hcd
theorem vv (i : Nat) {x : Str} (hN : X.N[i]? = some x := by rfl) (hv : Vis X.env.scope x := by first | exact .inl rfl | exact .inr (.inl rfl) | exact .inr (.inr rfl)) (hd : (x == ("__debug__" : Str)) = false := by decide) (hcd : (x == ("__classdict__" : Str)) = false := by decide) : EV X E (.Name x pos) (eV i) := v_name hN hv hd hcd
theorem gi {x : Str} {i : Int} (hm : ∃ t, X.mg x = some (.int i t)) (hg : Gl X x := by rfl) (hd : (x == ("__debug__" : Str)) = false := by decide) : EV X E (.Name x pos) (eC (.int i)) := v_gint hg hm hd
theorem gs {x : Str} {i : Str} (hm : ∃ t, X.mg x = some (.str i t)) (hg : Gl X x := by rfl) (hd : (x == ("__debug__" : Str)) = false := by decide) : EV X E (.Name x pos) (eC (.str i)) := v_gstr hg hm hd
theorem u_add (h1 : EO X E a o1) (h2 : EO X E b o2) : EV X E (.BinOp a .Add b pos) (aOps F_add [o1, o2]) := v_bin op_addA s_add h1 h2
theorem u_sub (h1 : EO X E a o1) (h2 : EO X E b o2) : EV X E (.BinOp a .Sub b pos) (aOps F_sub [o1, o2]) := v_bin op_sub s_sub h1 h2
theorem u_mul (h1 : EO X E a o1) (h2 : EO X E b o2) : EV X E (.BinOp a .Mult b pos) (aOps F_mul [o1, o2]) := v_bin op_mulA s_mul h1 h2
theorem u_fdiv (h1 : EO X E a o1) (h2 : EO X E b o2) : EV X E (.BinOp a .FloorDiv b pos) (aOps F_fdiv [o1, o2]) := v_bin op_fdiv s_fdiv h1 h2
theorem u_mod (h1 : EO X E a o1) (h2 : EO X E b o2) : EV X E (.BinOp a .Mod b pos) (aOps F_mod [o1, o2]) := v_bin op_mod s_mod h1 h2
theorem u_pow (h1 : EO X E a o1) (h2 : EO X E b o2) : EV X E (.BinOp a .Pow b pos) (aOps F_pow [o1, o2]) := v_bin op_pow s_pow h1 h2
theorem u_neg (h1 : EO X E a o1) : EV X E (.UnaryOp .USub a pos) (aOps F_neg [o1]) := v_un un_neg s_neg h1
theorem u_lt (hr : Room k X.A) (h1 : EO X E a o1) (h2 : EO X E b o2) : EV X E (.Compare a [.Lt] [b] pos) (aOps F_lt [o1, o2]) := v_cmp (op_ltA hr) s_lt h1 h2 (nomark _)
theorem u_le (hr : Room k X.A) (h1 : EO X E a o1) (h2 : EO X E b o2) : EV X E (.Compare a [.LtE] [b] pos) (aOps F_le [o1, o2]) := v_cmp op_leA s_le h1 h2 (nomark _)
theorem u_gt (hr : Room k X.A) (h1 : EO X E a o1) (h2 : EO X E b o2) : EV X E (.Compare a [.Gt] [b] pos) (aOps F_gt [o1, o2]) := v_cmp op_gtA s_gt h1 h2 (nomark _)
theorem u_ge (hr : Room k X.A) (h1 : EO X E a o1) (h2 : EO X E b o2) : EV X E (.Compare a [.GtE] [b] pos) (aOps F_ge [o1, o2]) := v_cmp op_geA s_ge h1 h2 (nomark _)
theorem u_eq (hr : Room k X.A) (h1 : EO X E a o1) (h2 : EO X E b o2) : EV X E (.Compare a [.Eq] [b] pos) (aOps F_eq [o1, o2]) := v_cmp (op_eqD hr.units) s_eq h1 h2 (nomark _)
theorem u_ne (hr : Room k X.A) (h1 : EO X E a o1) (h2 : EO X E b o2) : EV X E (.Compare a [.NotEq] [b] pos) (aOps F_ne [o1, o2]) := v_cmp (op_neD hr.units) s_ne h1 h2 (nomark _)
theorem u_in (hr : Room k X.A) (h1 : EO X E a o1) (h2 : EO X E b o2) (hm : behindInMarks .In b = false := by rfl) : EV X E (.Compare a [.In] [b] pos) (aOps F_in [o1, o2]) := v_cmp (op_inA hr) s_in h1 h2 hm
theorem u_notIn (hr : Room k X.A) (h1 : EO X E a o1) (h2 : EO X E b o2) (hm : behindInMarks .NotIn b = false := by rfl) : EV X E (.Compare a [.NotIn] [b] pos) (aOps F_notIn [o1, o2]) := v_cmp (op_notInA hr) s_notIn h1 h2 hm
theorem ut_lt (hr : Room k X.A) (h1 : EO X E a o1) (h2 : EO X E b o2) : ET X E (.Compare a [.Lt] [b] pos) (aT (aOps F_lt [o1, o2])) := t_cmp (op_ltA hr) s_lt h1 h2 (nomark _)
theorem ut_le (hr : Room k X.A) (h1 : EO X E a o1) (h2 : EO X E b o2) : ET X E (.Compare a [.LtE] [b] pos) (aT (aOps F_le [o1, o2])) := t_cmp op_leA s_le h1 h2 (nomark _)
theorem ut_gt (hr : Room k X.A) (h1 : EO X E a o1) (h2 : EO X E b o2) : ET X E (.Compare a [.Gt] [b] pos) (aT (aOps F_gt [o1, o2])) := t_cmp op_gtA s_gt h1 h2 (nomark _)
theorem ut_ge (hr : Room k X.A) (h1 : EO X E a o1) (h2 : EO X E b o2) : ET X E (.Compare a [.GtE] [b] pos) (aT (aOps F_ge [o1, o2])) := t_cmp op_geA s_ge h1 h2 (nomark _)
theorem ut_eq (hr : Room k X.A) (h1 : EO X E a o1) (h2 : EO X E b o2) : ET X E (.Compare a [.Eq] [b] pos) (aT (aOps F_eq [o1, o2])) := t_cmp (op_eqD hr.units) s_eq h1 h2 (nomark _)
theorem ut_ne (hr : Room k X.A) (h1 : EO X E a o1) (h2 : EO X E b o2) : ET X E (.Compare a [.NotEq] [b] pos) (aT (aOps F_ne [o1, o2])) := t_cmp (op_neD hr.units) s_ne h1 h2 (nomark _)
theorem ut_in (hr : Room k X.A) (h1 : EO X E a o1) (h2 : EO X E b o2) (hm : behindInMarks .In b = false := by rfl) : ET X E (.Compare a [.In] [b] pos) (aT (aOps F_in [o1, o2])) := t_cmp (op_inA hr) s_in h1 h2 hm
theorem ut_notIn (hr : Room k X.A) (h1 : EO X E a o1) (h2 : EO X E b o2) (hm : behindInMarks .NotIn b = false := by rfl) : ET X E (.Compare a [.NotIn] [b] pos) (aT (aOps F_notIn [o1, o2])) := t_cmp (op_notInA hr) s_notIn h1 h2 hm
theorem u_ix (h1 : EO X E a o1) (h2 : EO X E b o2) (hp : PlainIx b := by intro _ _; rfl) : EV X E (.Subscript a b pos) (aOps F_ix [o1, o2]) := v_ix ix_seq s_ix h1 h2 hp
theorem u_len (hm : X.mg "len" = none) (ha : EOs X E (e :: es) os) (hg : Gl X "len" := by rfl) (he : starEach (e :: es) X.env = (false, eval e X.env) :: starEach es X.env := by rfl) (hpl : (backTo pos (starEach es X.env)).any (·.1) = false := by rfl) : EV X E (.Call (.Name "len" p) (e :: es) [] pos) (aOps F_len os) :=
  v_callB cl_len s_len hg hm boot_len ha (by decide) (by decide) he hpl
theorem u_abs (hm : X.mg "abs" = none) (ha : EOs X E (e :: es) os) (hg : Gl X "abs" := by rfl) (he : starEach (e :: es) X.env = (false, eval e X.env) :: starEach es X.env := by rfl) (hpl : (backTo pos (starEach es X.env)).any (·.1) = false := by rfl) : EV X E (.Call (.Name "abs" p) (e :: es) [] pos) (aOps F_abs os) :=
  v_callB call_abs s_abs hg hm boot_abs ha (by decide) (by decide) he hpl
theorem u_sum (hc : X.calm = true) (hm : X.mg "sum" = none) (ha : EOs X E (e :: es) os) (hg : Gl X "sum" := by rfl) (he : starEach (e :: es) X.env = (false, eval e X.env) :: starEach es X.env := by rfl) (hpl : (backTo pos (starEach es X.env)).any (·.1) = false := by rfl) : EV X E (.Call (.Name "sum" p) (e :: es) [] pos) (aOps F_sum os) :=
  v_callB (cr_sum hc) s_sum hg hm boot_sum ha (by decide) (by decide) he hpl
theorem u_all (hc : X.calm = true) (hm : X.mg "all" = none) (ha : EOs X E (e :: es) os) (hg : Gl X "all" := by rfl) (he : starEach (e :: es) X.env = (false, eval e X.env) :: starEach es X.env := by rfl) (hpl : (backTo pos (starEach es X.env)).any (·.1) = false := by rfl) : EV X E (.Call (.Name "all" p) (e :: es) [] pos) (aOps F_all os) :=
  v_callB (cr_all hc) s_all hg hm boot_all ha (by decide) (by decide) he hpl
theorem u_any (hc : X.calm = true) (hm : X.mg "any" = none) (ha : EOs X E (e :: es) os) (hg : Gl X "any" := by rfl) (he : starEach (e :: es) X.env = (false, eval e X.env) :: starEach es X.env := by rfl) (hpl : (backTo pos (starEach es X.env)).any (·.1) = false := by rfl) : EV X E (.Call (.Name "any" p) (e :: es) [] pos) (aOps F_any os) :=
  v_callB (cr_any hc) s_any hg hm boot_any ha (by decide) (by decide) he hpl
theorem u_sorted (hm : X.mg "sorted" = none) (ha : EOs X E (e :: es) os) (hg : Gl X "sorted" := by rfl) (he : starEach (e :: es) X.env = (false, eval e X.env) :: starEach es X.env := by rfl) (hpl : (backTo pos (starEach es X.env)).any (·.1) = false := by rfl) : EV X E (.Call (.Name "sorted" p) (e :: es) [] pos) (aOps F_sorted os) :=
  v_callB cl_sorted s_sorted hg hm boot_sorted ha (by decide) (by decide) he hpl
theorem u_int (hm : X.mg "int" = none) (ha : EOs X E (e :: es) os) (hg : Gl X "int" := by rfl) (he : starEach (e :: es) X.env = (false, eval e X.env) :: starEach es X.env := by rfl) (hpl : (backTo pos (starEach es X.env)).any (·.1) = false := by rfl) : EV X E (.Call (.Name "int" p) (e :: es) [] pos) (aOps F_int os) :=
  v_callT call_int1 s_int hg hm boot_int ha (by decide) (by decide) he hpl
theorem u_list (hm : X.mg "list" = none) (ha : EOs X E (e :: es) os) (hg : Gl X "list" := by rfl) (he : starEach (e :: es) X.env = (false, eval e X.env) :: starEach es X.env := by rfl) (hpl : (backTo pos (starEach es X.env)).any (·.1) = false := by rfl) : EV X E (.Call (.Name "list" p) (e :: es) [] pos) (aOps F_list os) :=
  v_callT call_list_of s_list hg hm boot_list ha (by decide) (by decide) he hpl
theorem uf_list (hm : X.mg "list" = none) (ha : EOs X E (e :: es) os) (hg : Gl X "list" := by rfl) (he : starEach (e :: es) X.env = (false, eval e X.env) :: starEach es X.env := by rfl) (hpl : (backTo pos (starEach es X.env)).any (·.1) = false := by rfl) : EF X E (.Call (.Name "list" p) (e :: es) [] pos) (fOps F_list os) :=
  f_callT call_list_of g_list hg hm boot_list ha (by decide) (by decide) he hpl
theorem uf_add (h1 : EO X E a o1) (h2 : EO X E b o2) : EF X E (.BinOp a .Add b pos) (fOps F_addL [o1, o2]) := f_two op_catL g_addL h1 h2
theorem u_tuple (hm : X.mg "tuple" = none) (ha : EOs X E (e :: es) os) (hg : Gl X "tuple" := by rfl) (he : starEach (e :: es) X.env = (false, eval e X.env) :: starEach es X.env := by rfl) (hpl : (backTo pos (starEach es X.env)).any (·.1) = false := by rfl) : EV X E (.Call (.Name "tuple" p) (e :: es) [] pos) (aOps F_tuple os) :=
  v_callT call_tupleF s_tuple hg hm boot_tuple ha (by decide) (by decide) he hpl
theorem u_isi (t : Ty) {T : Str} (hm : X.mg "isinstance" = none) (hmT : X.mg T = none) (h1 : EO X E a o1) (hg : Gl X "isinstance" := by rfl) (hgT : Gl X T := by rfl) (hvT : bootBuiltins T = some (.type t.nm) := by decide +kernel)
    (hn : T ≠ "__name__" := by decide) (hdb : (T == ("__debug__" : Str)) = false := by decide)
    (he : starEach [a, .Name T p2] X.env = (false, eval a X.env) :: starEach [.Name T p2] X.env := by rfl) (hpl : (backTo pos (starEach [Expr.Name T p2] X.env)).any (·.1) = false := by rfl) :
    EV X E (.Call (.Name "isinstance" p) [a, .Name T p2] [] pos) (aOps (F_isi t) [o1]) := v_isi hg hm hgT hmT hvT h1 hn hdb he hpl
/-- two readings of one expression: the second where the first has none -/
def aOr2 (f g : AE) : AE := fun ρ => match f ρ with
  | .bad => g ρ
  | r => r
theorem v_either (h1 : EV X E e f) (h2 : EV X E e g) : EV X E e (aOr2 f g) :=
  ⟨fun pins s σ H Q I ⟨ρ, G, er, h⟩ => by
    unfold aOr2 at h
    cases q : f ρ with
    | ok d ρ1 => rw [q] at h; exact h1.run pins s σ H Q I ⟨ρ, G, er, by rw [q]; exact h⟩
    | err x ρ1 => rw [q] at h; exact h1.run pins s σ H Q I ⟨ρ, G, er, by rw [q]; exact h⟩
    | bad => rw [q] at h; exact h2.run pins s σ H Q I ⟨ρ, G, er, h⟩⟩
theorem u_index (kt : KTup X.K) (hr : Room k X.A) {apos cpos : Pos} (ho : EO X E a o1) (ha : EO X E e o2)
    (hbase : attributeBase a "index" X.env (eval a X.env) = eval a X.env := by rfl)
    (hfew : ((backTo cpos (starEach [e] X.env)).all (fun x => !x.1) && (backToKw cpos (keywordEach [] X.env)).all (fun x => x.1.isSome)
      && decide ([e].length + ([] : List Keyword).length + (if ([] : List Keyword).isEmpty then 0 else 1) < 30)) = true := by rfl)
    (hline : (apos.endLine == cpos.line) = true := by rfl) (hs1 : starEach [e] X.env = (false, eval e X.env) :: starEach [] X.env := by rfl) (hplain : (backTo cpos (starEach [] X.env)).any (·.1) = false := by rfl) :
    EV X E (.Call (.Attribute a "index" apos) [e] [] cpos) (aOr2 (aMeth .tuple F_idxT o1 [o2]) (aMeth .list F_idxL o1 [o2])) :=
  v_either (v_indexT kt hr ho ha hbase hfew hline hs1 hplain) (v_indexL kt hr ho ha hbase hfew hline hs1 hplain)
theorem ug (i : Nat) {x : Str} (hN : X.N.Nodup) (hi : X.N[i]? = some x := by rfl) (hx : Loc X.env.scope x := by first | exact .inl rfl | exact .inr rfl) (hf : X.fn x = true ∨ X.env.scope.names.lookup x = some .local := by first | exact .inr rfl | exact .inl rfl) : EG false X (.Name x pos) (gNm i) [i] := g_nm hN hi hx hf
theorem us_set (i : Nat) {x : Str} {pos' : Pos} (hN : X.N.Nodup) (he : EV X E e f) (hi : X.N[i]? = some x := by rfl) (hx : Loc X.env.scope x := by first | exact .inl rfl | exact .inr rfl) (hs : swapsWith e (some (.Name x pos')) pos.line X.env = pure false := by rfl) (hf : X.fn x = true ∨ X.env.scope.names.lookup x = some .local := by first | exact .inr rfl | exact .inl rfl) :
    SS X E (.Assign [.Name x pos'] e pos) (sAsg f (gNm i)) := s_set hN hi hx he hs hf
theorem us_own (i : Nat) {x : Str} {pos' : Pos} {fl : AM (List D)} (hN : X.N.Nodup) (he : EF X E e fl) (hi : X.N[i]? = some x := by rfl) (hx : Loc X.env.scope x := by first | exact .inl rfl | exact .inr rfl) (hs : swapsWith e (some (.Name x pos')) pos.line X.env = pure false := by rfl) (hf : X.fn x = true ∨ X.env.scope.names.lookup x = some .local := by first | exact .inr rfl | exact .inl rfl) :
    SS X E (.Assign [.Name x pos'] e pos) (sOwn i fl) := s_own hN hi hx he hs hf
theorem ne_ix {i : Nat} {fi : AE} : NoErr (gIx i fi) := fun d ρ x ρ' e => by
  unfold gIx at e
  split at e
  · split at e
    · split at e <;> cases e
    · cases e
  · cases e
theorem ne_run : ∀ {gs : List AG}, (∀ g ∈ gs, NoErr g) → ∀ (ds : List D) ρ x ρ', gsRun gs ds ρ ≠ .err x ρ'
  | [], _, [], _, _, _, h => by cases h
  | [], _, _ :: _, _, _, _, h => by cases h
  | _ :: _, _, [], _, _, _, h => by cases h
  | g :: gs, hg, d :: ds, ρ, x, ρ', h => by
    have h' : (g d ρ).bind (fun _ ρ1 => gsRun gs ds ρ1) = .err x ρ' := h
    cases q : g d ρ with
    | ok a ρ1 => rw [q] at h'; exact ne_run (fun g hg' => hg g (List.mem_cons_of_mem _ hg')) ds ρ1 x ρ' h'
    | err x2 ρ1 => exact hg g List.mem_cons_self d ρ x2 ρ1 q
    | bad => rw [q] at h'; cases h'
theorem ne_nil : ∀ g ∈ ([] : List AG), NoErr g := fun _ h => nomatch h
theorem ne_cons {g : AG} {gs : List AG} (h : NoErr g) (hs : ∀ g ∈ gs, NoErr g) : ∀ g' ∈ g :: gs, NoErr g' := fun g' hm => by
  rcases List.mem_cons.mp hm with rfl | hm
  · exact h
  · exact hs g' hm
theorem ne_tup {gs : List AG} (h : ∀ g ∈ gs, NoErr g) : NoErr (gTupA gs) := fun d ρ x ρ' e => by
  unfold gTupA at e
  split at e
  · exact ne_run h _ ρ x ρ' e
  · cases e
/-! ### f() -/
theorem pe_callS0 {f : Addr} {fd : FuncData} {ps : List Str} {sp : Sp} {EK : L2.St → XK} {x : Str} {CX : CXT} (F : FnOk X.prog X.w X.K X.mg X.base CX k f fd ps sp) (hr : Room k X.A) (hg : Gl X x) (hm : X.mg x = some (.ref f)) (hk : PySem.W.keepIn X.K (.ref f) = true) (hb : Binds X.K fd ps []) (hx : ∀ σ, PassesAt CX X σ (EK σ))
    (hdb : (x == ("__debug__" : Str)) = false := by decide) : PE X (.Call (.Name x p) [] [] pos) (tCallS sp EK tNil) := by
  refine ⟨fun pins s σ H Q I h => ?_⟩
  refine wpAny_Call_Name_kw (ld_glob I hg hm ?_ hdb)
  exact PySem.W.callWith_K0 I.kIn hk (run_fnS (us := []) F hr hb (hx σ) I .nil h)
theorem v_callD0 {x : Str} {k k' : Nat} {N : List Str} {m : MF} (h : OkD X.prog X.w X.K X.mg X.base x k [] N m) (tk : Takes X E) (hr : Room k' X.A) (hg : Gl X x) (hkk : k ≤ k' := by decide) (hdb : (x == ("__debug__" : Str)) = false := by decide) : EV X E (.Call (.Name x p) [] [] pos) (aCall m []) := by
  obtain ⟨f, fd, hm, hkp, hb, F, _⟩ := h
  refine PE.imp (pe_callS0 F (hr.mono hkk) hg hm hkp hb (fun σ => passAt tk σ) hdb) fun σ H Q ⟨ρ, G, er, h⟩ => ?_
  have h2 : Out X.K E ((callM m [] ρ).bind fun p ρ2 => match p.1 with
        | .rt d => R.ok d ρ2
        | .nx => .ok .none ρ2
        | _ => .bad) ρ σ H G (ZE X.K Q) := h
  refine call_read (kk := 0) (N := N) er .nil rfl (Nat.zero_le _) h2 (fun ρ' ρ2 => ⟨rfl, rfl⟩) fun fl ρ' ρ2 v H' G' hv e2 s2 h3 => ?_
  cases fl with
  | rt d => exact h3 H' G' e2 s2 v hv
  | nx => exact h3 H' G' e2 s2 v (by cases hv; exact .non)
  | rf ds => exact h3.elim
  | bk => exact hv.elim
  | ct => exact hv.elim
end
end SW
set_option Elab.async false
set_option linter.all false
set_option maxRecDepth 100000
set_option maxHeartbeats 2000000
/-! SWEnd: a law by its def's mirror. -/
namespace SW
open PySem PySem.Spec PyProof.Rows L2
/-- the tables of a row's defs with lambdas -/
def tabT (K : PySem.W.Frag) (tf : List (Str × Option Str)) : List (Addr × Str) := tf.map fun p => ((He.cT K p).2, p.1 ++ ".<locals>.<lambda>")
theorem fx_of [Tab] {K : PySem.W.Frag} {w : World} {h : Heap} {mg : Str → Option Value} {fn : List He.DefD} {fa : List He.Fa} {tf : List (Str × Option Str)} {ex : PySem.W.Frag → Bool} (X : K.In h) (G : h.Ns mainGlobals mg) (c : He.SaysX fa fn [] tf ex w h K) (hk : ∀ K, ex K = true → kTupB K = true) : Fx K mg fn fa ex where
  df := fun i d e => c.t.d.def_ i e
  ok := fun i f e => c.t.d.fact i e
  gl := fun x e => He.glo_ok X G e
  fr := fun x e => He.free_ok X G e
  it := fun x n e => He.int_ok X G e
  st := fun x n e => He.str_ok X G e
  kt := kTup_ok (hk K c.more)
  more := c.more
theorem nodup_map_inj {α β : Type} {f : α → β} : ∀ {l : List α}, (l.map f).Nodup → ∀ {a b : α}, a ∈ l → b ∈ l → f a = f b → a = b
  | [], _, _, _, h, _, _ => nomatch h
  | x :: l, nd, a, b, ha, hb, e => by
    rw [List.map_cons, List.nodup_cons] at nd
    rcases List.mem_cons.mp ha with ha1 | ha1
    · rcases List.mem_cons.mp hb with hb1 | hb1
      · rw [ha1, hb1]
      · exact (nd.1 (by rw [← ha1, e]; exact List.mem_map.mpr ⟨b, hb1, rfl⟩)).elim
    · rcases List.mem_cons.mp hb with hb1 | hb1
      · exact (nd.1 (by rw [← hb1, ← e]; exact List.mem_map.mpr ⟨a, ha1, rfl⟩)).elim
      · exact nodup_map_inj nd.2 ha1 hb1 e
theorem er_start [Tab] {K : PySem.W.Frag} {H : Hp} {a : Addr} {ns : List Int} {N : List Str} (hN : 1 ≤ N.length) (hS : SqL K H a (ns.map V.int)) (hT : ∀ p ∈ Tab.T, H p.1 = some (.tbl #[])) :
    ∃ G, ER K ([SV.pl (.list (ns.map .int))] ++ List.replicate (N.length - 1) .un) (L2.start N [.ref a]) H G := by
  have hat : ∀ {i : Nat} {w : SV}, ([SV.pl (.list (ns.map PyData.int))] ++ List.replicate (N.length - 1) SV.un)[i]? = some w → w ≠ .un → i = 0 ∧ w = .pl (.list (ns.map .int)) := fun {i w} e hw => by
    cases i with
    | zero => exact ⟨rfl, by simpa using e.symm⟩
    | succ i =>
      have e2 : (List.replicate (N.length - 1) SV.un)[i]? = some w := by simpa using e
      obtain ⟨h1, h2⟩ := List.getElem?_eq_some_iff.mp e2
      rw [List.getElem_replicate] at h2
      exact (hw h2.symm).elim
  have hg : ∃ G : Hp, Same G H ∧ SqL K G a (ns.map V.int) ∧ ∀ b o, G b = some o → goodO o := by
    rcases hS with (h | ⟨o, h⟩) | h
    · refine ⟨fun b => if b = a then some (.lst (ns.map V.int)) else none, fun b x e => ?_, .inl (.inl (by show ite _ _ _ = _; rw [if_pos rfl])), fun b x e => ?_⟩
      · dsimp only at e
        split at e
        · rename_i hb; rw [hb, h]; exact e
        · cases e
      · dsimp only at e
        split at e
        · cases e; trivial
        · cases e
    · refine ⟨fun b => if b = a then some (.frz o (.lst (ns.map V.int))) else none, fun b x e => ?_, .inl (.inr ⟨o, by show ite _ _ _ = _; rw [if_pos rfl]⟩), fun b x e => ?_⟩
      · dsimp only at e
        split at e
        · rename_i hb; rw [hb, h]; exact e
        · cases e
      · dsimp only at e
        split at e
        · cases e; trivial
        · cases e
    · exact ⟨fun _ => none, (fun b x e => nomatch (show (none : Option HO) = some x from e)), .inr h, fun b x e => nomatch (show (none : Option HO) = some x from e)⟩
  obtain ⟨G, s, sq, ng⟩ := hg
  refine ⟨G, ?_, s, fun i d e => ?_, fun i io ds e => ?_, fun i j io ds io' ds' b h1 h2 h3 h4 => ?_, fun i v e => ?_, ⟨fun p hp => ⟨#[], hT p hp, trivial, fun pos cv e => nomatch (show (none : Option Value) = some cv from e)⟩⟩, ng⟩
  · unfold L2.start
    simp
  · obtain ⟨rfl, e2⟩ := hat e (fun z => nomatch z)
    cases e2
    exact ⟨_, start_get (vs := [V.ref a]) (i := 0) (by simp), .lst sq (DpAll.of_ints ns)⟩
  · exact nomatch (hat e (fun z => nomatch z)).2
  · exact nomatch (hat h1 (fun z => nomatch z)).2
  · exact nomatch (hat e (fun z => nomatch z)).2
theorem hCX {P : Program} {w : World} (H : Hp) (s : Shared) (e : Value) (s' : Shared) : L2.CX P w [] H s (fun _ _ _ => False) e s' → False := fun ⟨_, _, _, _, _, _, _, _, _, _, _, _, z⟩ => z
/-- the promise of the law's def, where the mirror tells True -/
theorem sp_true [Tab] {K : PySem.W.Frag} {H : Hp} {a : Addr} {ns : List Int} {N : List Str} {m : MF} (hN : 1 ≤ N.length) (hS : SqL K H a (ns.map V.int)) (hT : ∀ p ∈ Tab.T, H p.1 = some (.tbl #[]))
    (hm : ∃ ρ', m [SV.pl (.list (ns.map .int))] = .ok (.rt (.bool true)) ρ') : spF K N 1 m [.ref a] H (fun v _ => v = .bl true) fun _ _ _ => False := by
  obtain ⟨G, er⟩ := er_start hN hS hT
  obtain ⟨ρ', e⟩ := hm
  refine ⟨rfl, [SV.pl (.list (ns.map .int))], G, er, rfl, ?_⟩
  rw [e]
  exact fun ρ' σ' H' G' _ _ _ v dp => by cases dp; rfl
theorem law_at {l : PySem.W.OpenLaw} {w : World} {K : PySem.W.Frag} {mg : Str → Option Value} {fa' : Addr} {h : Heap} {fn : List He.DefD} {fa : List He.Fa} {tf : List (Str × Option Str)} {ex : PySem.W.Frag → Bool} {k n : Nat} {x : Str} {N : List Str} {m : MF}
    (X : K.In h) (G : h.Ns mainGlobals mg) (c : He.SaysX fa fn [] tf ex w h K) (hk : ∀ K, ex K = true → kTupB K = true) (hnd : ∀ K, ex K = true → (tf.map fun p => (He.cT K p).2).Nodup) (hfa : mg "law" = some (.ref fa')) {params : Arguments} {bd : List Stmt} {scope : Scope} (i j : Nat) (hj : fa[j]? = some (.glo "law")) (hi : fn[i]? = some ⟨("law", none), "law", "law", params, bd, scope, [], []⟩)
    (hbd : ∀ (kV doc pm : Value) (an : Option Addr) (cdv ct : Value) (us : List Value), us.length = [x].length → bindArgs (PySem.W.fnOf "law" "law" params bd scope .none kV doc pm an cdv ct) ⟨us, []⟩ = pure ([x].zip us)) (hN : 1 ≤ N.length)
    (ok : ∀ [Tab] (base : Heap), Fx K mg fn fa ex → (∀ p ∈ tf, LamX.TabB base mg (He.cT K p).1 (He.cT K p).2 ∧ ((He.cT K p).2, p.1 ++ ".<locals>.<lambda>") ∈ Tab.T ∧ ∀ z ∈ Tab.T, z.1 = (He.cT K p).2 → z.2 = p.1 ++ ".<locals>.<lambda>") → OkD l.prog w K mg base "law" k [x] N m)
    (hm : ∀ ns : List Int, ns.length ≤ n → (∀ z ∈ ns, Builtin.Int.intBits z ≤ 1048576) → ∃ ρ', m [SV.pl (.list (ns.map .int))] = .ok (.rt (.bool true)) ρ') : LamX.LawAtS l w K (L2.CX l.prog w) k n x mg fa' h := by
  letI : Tab := ⟨tabT K tf⟩
  have fx := fx_of X G c hk
  obtain ⟨fd, F⟩ := c.t.d.def_ i hi
  have hlk : ∃ oc od osl, K.lookup (He.fAd K ("law", none)) = some ⟨oc, od, .func fd, osl⟩ := by
    obtain ⟨oc, od, dV, kV, doc, pm, an, cdv, ct, osl, _, lk, _⟩ := F.ex
    exact ⟨oc, od, osl, lk⟩
  have memT : ∀ q ∈ Tab.T, ∃ p ∈ tf, q = ((He.cT K p).2, p.1 ++ ".<locals>.<lambda>") := fun q hq => by
    obtain ⟨p, hp, e⟩ := List.mem_map.mp (show q ∈ tabT K tf from hq)
    exact ⟨p, hp, e.symm⟩
  refine ⟨fd, tf.map (He.cT K), spF K N 1 m, fun p hp => ?_, fun p hp => ?_, fun p hp => ?_, fun s v => FunD.bindsA (ps := [x]) F hbd s [v] rfl, fun H a ns hl hb hT hS => ?_, fun base hB hM hTB => ?_⟩
  · obtain ⟨q, hq, e⟩ := List.mem_map.mp hp
    rw [← e]; exact c.empty q hq
  · obtain ⟨q, hq, e⟩ := List.mem_map.mp hp
    rw [← e]; exact c.out q hq
  · obtain ⟨q, hq, e⟩ := List.mem_map.mp hp
    rw [← e]; exact PySem.W.codeHd_of_K X (c.hd q hq)
  · refine sp_true hN hS (fun q hq => ?_) (hm ns hl hb)
    obtain ⟨p, hp, e⟩ := memT q hq
    rw [e]
    exact hT _ (List.mem_map.mpr ⟨p, hp, rfl⟩)
  · obtain ⟨f, fd', h1, h2, h3, h4, oc, od, osl, h5⟩ := ok base fx fun p hp => ⟨hTB _ (List.mem_map.mpr ⟨p, hp, rfl⟩), List.mem_map.mpr ⟨p, hp, rfl⟩, fun z hz ez => by
      obtain ⟨p', hp', e⟩ := memT z hz
      subst e
      have nd := hnd K c.more
      have : p' = p := nodup_map_inj nd hp' hp ez
      rw [this]⟩
    have ef : f = fa' := by
      have := h1.symm.trans hfa
      cases this
      rfl
    subst ef
    have eg : f = He.fAd K ("law", none) := by
      have := h1.symm.trans (fx.g j hj)
      cases this
      rfl
    obtain ⟨oc1, od1, osl1, h6⟩ := hlk
    rw [← eg, h5] at h6
    cases h6
    exact h4
end SW
set_option Elab.async false
set_option linter.all false
set_option maxRecDepth 100000
set_option maxHeartbeats 2000000
/-! SWLaw: plain lemmas on mirrors. -/
namespace SW
open PySem L2
theorem gs_0 (s : SV) (ρ : En) : getSlot (s :: ρ) 0 = s := rfl
theorem gs_s (s : SV) (ρ : En) (i : Nat) : getSlot (s :: ρ) (i + 1) = getSlot ρ i := rfl
theorem ss_0 (s t : SV) (ρ : En) : setSlot (s :: ρ) 0 t = t :: ρ := rfl
theorem ss_s (s t : SV) (ρ : En) (i : Nat) : setSlot (s :: ρ) (i + 1) t = s :: setSlot ρ i t := rfl
inductive All2 (P : D → D → Prop) : List D → List D → Prop
  | nil : All2 P [] []
  | cons {a b : D} {as bs : List D} : P a b → All2 P as bs → All2 P (a :: as) (b :: bs)
theorem All2.len {P : D → D → Prop} : ∀ {as bs : List D}, All2 P as bs → bs.length = as.length
  | _, _, .nil => rfl
  | _, _, .cons _ t => congrArg (· + 1) t.len
theorem All2.mem {P : D → D → Prop} : ∀ {as bs : List D} {b : D}, All2 P as bs → b ∈ bs → ∃ a ∈ as, P a b
  | _, _, _, .nil, h => nomatch h
  | _, _, _, .cons p t, h => by
    rcases List.mem_cons.mp h with e | h
    · exact ⟨_, List.mem_cons_self, by rw [e]; exact p⟩
    · obtain ⟨a, h1, h2⟩ := t.mem h
      exact ⟨a, List.mem_cons_of_mem _ h1, h2⟩
/-! ### comprehensions -/
/-- each item on its own, the names as they were -/
theorem comp_pure {vs : List Nat} {g : AG} {te : AE} (F : D → D) {ρ : En} : ∀ (items acc : List D), (∀ d ∈ items, ∃ ρ1 ρ3, g d (wipeE ρ vs) = .ok () ρ1 ∧ te ρ1 = .ok (F d) ρ3 ∧ backE ρ ρ3 vs = ρ) → acc.length + items.length ≤ sizeLine →
    compLoop vs g tYes te items acc ρ = .ok (acc ++ items.map F) ρ
  | [], acc, _, _ => by
    unfold compLoop
    simp
  | d :: ds, acc, h, hl => by
    obtain ⟨ρ1, ρ3, e1, e2, e3⟩ := h d List.mem_cons_self
    rw [List.length_cons] at hl
    have ih := comp_pure (vs := vs) (g := g) (te := te) F (ρ := ρ) ds (acc ++ [F d]) (fun d' hd => h d' (List.mem_cons_of_mem _ hd)) (by rw [List.length_append]; simp; omega)
    unfold compLoop
    rw [e1]
    show (match te ρ1 with | .ok e ρ3 => if acc.length < sizeLine then compLoop vs g tYes te ds (acc ++ [e]) (backE ρ ρ3 vs) else .bad | _ => .bad) = _
    rw [e2]
    show (if acc.length < sizeLine then compLoop vs g tYes te ds (acc ++ [F d]) (backE ρ ρ3 vs) else .bad) = _
    rw [if_pos (by omega), e3, ih]
    simp
theorem fComp_pure {vs : List Nat} {g : AG} {te : AE} {it : AM (List D)} {ρ ρ0 : En} {items : List D} (F : D → D) (hit : it ρ0 = .ok items ρ) (h : ∀ d ∈ items, ∃ ρ1 ρ3, g d (wipeE ρ vs) = .ok () ρ1 ∧ te ρ1 = .ok (F d) ρ3 ∧ backE ρ ρ3 vs = ρ) (hl : items.length ≤ sizeLine) :
    fComp vs it g tYes te ρ0 = .ok (items.map F) ρ := by
  unfold fComp
  rw [hit]
  show compLoop vs g tYes te items [] ρ = _
  rw [comp_pure F items [] h (by simpa using hl)]
  rfl
/-- with a test -/
theorem comp_filt {vs : List Nat} {g : AG} {tt : AM Bool} {te : AE} (p : D → Bool) (F : D → D) {ρ : En} : ∀ (items acc : List D), (∀ d ∈ items, ∃ ρ1 ρ2, g d (wipeE ρ vs) = .ok () ρ1 ∧ tt ρ1 = .ok (p d) ρ2 ∧ (p d = false → backE ρ ρ2 vs = ρ) ∧ (p d = true → ∃ ρ3, te ρ2 = .ok (F d) ρ3 ∧ backE ρ ρ3 vs = ρ)) → acc.length + items.length ≤ sizeLine →
    compLoop vs g tt te items acc ρ = .ok (acc ++ (items.filter p).map F) ρ
  | [], acc, _, _ => by
    unfold compLoop
    simp
  | d :: ds, acc, h, hl => by
    obtain ⟨ρ1, ρ2, e1, e2, e3, e4⟩ := h d List.mem_cons_self
    rw [List.length_cons] at hl
    unfold compLoop
    rw [e1]
    show (match tt ρ1 with
      | .ok true ρ2 => (match te ρ2 with
        | .ok e ρ3 => if acc.length < sizeLine then compLoop vs g tt te ds (acc ++ [e]) (backE ρ ρ3 vs) else .bad
        | _ => .bad)
      | .ok false ρ2 => compLoop vs g tt te ds acc (backE ρ ρ2 vs)
      | _ => .bad) = _
    rw [e2]
    cases q : p d with
    | false =>
      show compLoop vs g tt te ds acc (backE ρ ρ2 vs) = _
      rw [e3 q, comp_filt p F ds acc (fun d' hd => h d' (List.mem_cons_of_mem _ hd)) (by omega), List.filter_cons, q]
      rfl
    | true =>
      obtain ⟨ρ3, e5, e6⟩ := e4 q
      show (match te ρ2 with | .ok e ρ3 => if acc.length < sizeLine then compLoop vs g tt te ds (acc ++ [e]) (backE ρ ρ3 vs) else .bad | _ => .bad) = _
      rw [e5]
      show (if acc.length < sizeLine then compLoop vs g tt te ds (acc ++ [F d]) (backE ρ ρ3 vs) else .bad) = _
      rw [if_pos (by omega), e6, comp_filt p F ds (acc ++ [F d]) (fun d' hd => h d' (List.mem_cons_of_mem _ hd)) (by rw [List.length_append]; simp; omega), List.filter_cons, q]
      simp
theorem fComp_filt {vs : List Nat} {g : AG} {tt : AM Bool} {te : AE} {it : AM (List D)} {ρ ρ0 : En} {items : List D} (p : D → Bool) (F : D → D) (hit : it ρ0 = .ok items ρ) (h : ∀ d ∈ items, ∃ ρ1 ρ2, g d (wipeE ρ vs) = .ok () ρ1 ∧ tt ρ1 = .ok (p d) ρ2 ∧ (p d = false → backE ρ ρ2 vs = ρ) ∧ (p d = true → ∃ ρ3, te ρ2 = .ok (F d) ρ3 ∧ backE ρ ρ3 vs = ρ)) (hl : items.length ≤ sizeLine) :
    fComp vs it g tt te ρ0 = .ok ((items.filter p).map F) ρ := by
  unfold fComp
  rw [hit]
  show compLoop vs g tt te items [] ρ = _
  rw [comp_filt p F items [] h (by simpa using hl)]
  rfl
/-- with a state that runs through: I holds of the names, P of what is told -/
theorem comp_st {vs : List Nat} {g : AG} {te : AE} (I : En → Prop) (P : D → D → Prop) : ∀ (items acc : List D) (ρ : En), I ρ → (∀ d ∈ items, ∀ ρ, I ρ → ∃ ρ1 e ρ3, g d (wipeE ρ vs) = .ok () ρ1 ∧ te ρ1 = .ok e ρ3 ∧ P d e ∧ I (backE ρ ρ3 vs)) → acc.length + items.length ≤ sizeLine →
    ∃ es ρ', compLoop vs g tYes te items acc ρ = .ok (acc ++ es) ρ' ∧ I ρ' ∧ All2 P items es
  | [], acc, ρ, hI, _, _ => by
    refine ⟨[], ρ, ?_, hI, .nil⟩
    unfold compLoop
    simp
  | d :: ds, acc, ρ, hI, h, hl => by
    obtain ⟨ρ1, e, ρ3, e1, e2, e3, e4⟩ := h d List.mem_cons_self ρ hI
    rw [List.length_cons] at hl
    obtain ⟨es, ρ', k1, k2, k3⟩ := comp_st (vs := vs) (g := g) (te := te) I P ds (acc ++ [e]) (backE ρ ρ3 vs) e4 (fun d' hd => h d' (List.mem_cons_of_mem _ hd)) (by rw [List.length_append]; simp; omega)
    refine ⟨e :: es, ρ', ?_, k2, .cons e3 k3⟩
    unfold compLoop
    rw [e1]
    show (match te ρ1 with | .ok e ρ3 => if acc.length < sizeLine then compLoop vs g tYes te ds (acc ++ [e]) (backE ρ ρ3 vs) else .bad | _ => .bad) = _
    rw [e2]
    show (if acc.length < sizeLine then compLoop vs g tYes te ds (acc ++ [e]) (backE ρ ρ3 vs) else .bad) = _
    rw [if_pos (by omega), k1]
    simp
theorem fComp_st {vs : List Nat} {g : AG} {te : AE} {it : AM (List D)} {ρ ρ0 : En} {items : List D} (I : En → Prop) (P : D → D → Prop) (hit : it ρ0 = .ok items ρ) (hI : I ρ) (h : ∀ d ∈ items, ∀ ρ, I ρ → ∃ ρ1 e ρ3, g d (wipeE ρ vs) = .ok () ρ1 ∧ te ρ1 = .ok e ρ3 ∧ P d e ∧ I (backE ρ ρ3 vs)) (hl : items.length ≤ sizeLine) :
    ∃ es ρ', fComp vs it g tYes te ρ0 = .ok es ρ' ∧ I ρ' ∧ All2 P items es := by
  obtain ⟨es, ρ', k1, k2, k3⟩ := comp_st (vs := vs) (g := g) (te := te) I P items [] ρ hI h (by simpa using hl)
  refine ⟨es, ρ', ?_, k2, k3⟩
  unfold fComp
  rw [hit]
  exact k1
/-! ### loops -/
theorem loop_inv {g : AG} {body : AS} (I : Nat → En → Prop) : ∀ (items : List D) (n : Nat) (ρ : En), I n ρ → (∀ (i : Nat) d ρ, items[i]? = some d → I (n + i) ρ → ∃ ρ1 ρ2, g d ρ = .ok () ρ1 ∧ body ρ1 = .ok .nx ρ2 ∧ I (n + i + 1) ρ2) →
    ∃ ρ', loopF g body items ρ = .ok .nx ρ' ∧ I (n + items.length) ρ'
  | [], n, ρ, h, _ => ⟨ρ, rfl, h⟩
  | d :: ds, n, ρ, h, st => by
    obtain ⟨ρ1, ρ2, e1, e2, e3⟩ := st 0 d ρ rfl h
    obtain ⟨ρ', k1, k2⟩ := loop_inv I ds (n + 1) ρ2 e3 fun i d' ρ' hd hi => by
      have e : n + 1 + i = n + (i + 1) := by omega
      rw [e] at hi ⊢
      exact st (i + 1) d' ρ' (by simpa using hd) hi
    refine ⟨ρ', ?_, by rw [List.length_cons, show n + (ds.length + 1) = n + 1 + ds.length by omega]; exact k2⟩
    unfold loopF
    rw [e1]
    show (match body ρ1 with
      | .ok .nx ρ2 => loopF g body ds ρ2
      | .ok .ct ρ2 => loopF g body ds ρ2
      | .ok .bk ρ2 => .ok .nx ρ2
      | r => r) = _
    rw [e2]
    exact k1
theorem for_inv {it : AM (List D)} {g : AG} {body : AS} {ρ0 ρ : En} {items : List D} (I : Nat → En → Prop) (hit : it ρ0 = .ok items ρ) (h : I 0 ρ) (st : ∀ (i : Nat) d ρ, items[i]? = some d → I i ρ → ∃ ρ1 ρ2, g d ρ = .ok () ρ1 ∧ body ρ1 = .ok .nx ρ2 ∧ I (i + 1) ρ2) :
    ∃ ρ', sFor it g body ρ0 = .ok .nx ρ' ∧ I items.length ρ' := by
  obtain ⟨ρ', k1, k2⟩ := loop_inv I items 0 ρ h fun i d ρ hd hi => by
    rw [Nat.zero_add] at hi ⊢
    exact st i d ρ hd hi
  refine ⟨ρ', ?_, by rw [Nat.zero_add] at k2; exact k2⟩
  unfold sFor
  rw [hit]
  exact k1
/-! ### operations on numbers -/
theorem f_sub (i j : Int) : F_sub [.int i, .int j] = some (.int (i - j)) := rfl
theorem f_addI (i j : Int) : F_add [.int i, .int j] = some (.int (i + j)) := rfl
theorem f_mod {i j : Int} (h : 0 < j) : F_mod [.int i, .int j] = some (.int (i % j)) := by
  show (if decide (0 < j) = true then some (PyData.int (i % j)) else none) = _
  rw [decide_eq_true h, if_pos rfl]
theorem f_fdiv {i j : Int} (h : 0 < j) (h2 : j < 1073741824) : F_fdiv [.int i, .int j] = some (.int (i / j)) := by
  show (if (decide (0 < j) && decide (j < 1073741824)) = true then some (PyData.int (i / j)) else none) = _
  rw [decide_eq_true h, decide_eq_true h2]
  rfl
theorem f_mulI {i j : Int} (h : (big64 i || big64 j) = true) : F_mul [.int i, .int j] = some (.int (i * j)) := by
  show (if (big64 i || big64 j) = true then some (PyData.int (i * j)) else none) = _
  rw [if_pos h]
theorem f_ixT {xs : List D} {i : Int} {d : D} (h0 : 0 ≤ i) (h : xs[i.toNat]? = some d) : F_ix [.tuple xs, .int i] = some d := by
  obtain ⟨hl, _⟩ := List.getElem?_eq_some_iff.mp h
  show (ixN xs.length i).bind (fun j => xs[j]?) = some d
  unfold ixN
  rw [if_pos h0, if_pos (by omega)]
  exact h
theorem f_ixL {xs : List D} {i : Int} {d : D} (h0 : 0 ≤ i) (h : xs[i.toNat]? = some d) : F_ix [.list xs, .int i] = some d := by
  obtain ⟨hl, _⟩ := List.getElem?_eq_some_iff.mp h
  show (ixN xs.length i).bind (fun j => xs[j]?) = some d
  unfold ixN
  rw [if_pos h0, if_pos (by omega)]
  exact h
/-! ### ints in lists -/
def iL (t : List Int) : List D := t.map .int
theorem iL_len (t : List Int) : (iL t).length = t.length := List.length_map ..
theorem iL_at {t : List Int} {i : Nat} {v : Int} (h : t[i]? = some v) : (iL t)[i]? = some (.int v) := by
  unfold iL
  rw [List.getElem?_map, h]
  rfl
theorem iL_app (t u : List Int) : iL t ++ iL u = iL (t ++ u) := by unfold iL; rw [List.map_append]
theorem iL_one (v : Int) : [PyData.int v] = iL [v] := rfl
theorem iL_mem {t : List Int} {d : D} (h : d ∈ iL t) : ∃ v ∈ t, d = .int v := by
  obtain ⟨v, h1, h2⟩ := List.mem_map.mp h
  exact ⟨v, h1, h2.symm⟩
/-- 0 .. n - 1 -/
def upto (n : Nat) : List Int := (List.range n).map fun i => ((i : Nat) : Int)
theorem upto_len (n : Nat) : (upto n).length = n := by simp [upto]
theorem upto_at {n i : Nat} (h : i < n) : (upto n)[i]? = some (i : Int) := by simp [upto, h]
theorem mem_upto {n : Nat} {v : Int} : v ∈ upto n ↔ 0 ≤ v ∧ v < n := by
  unfold upto
  constructor
  · intro h
    obtain ⟨i, hi, e⟩ := List.mem_map.mp h
    have := List.mem_range.mp hi
    omega
  · intro h
    exact List.mem_map.mpr ⟨v.toNat, List.mem_range.mpr (by omega), by omega⟩
theorem upto_nodup (n : Nat) : (upto n).Nodup := by
  unfold upto
  rw [List.nodup_iff_pairwise_ne]
  refine List.pairwise_map.mpr (List.Pairwise.imp ?_ List.pairwise_lt_range)
  intro a b h e
  omega
theorem upto_sorted (n : Nat) : (upto n).Pairwise (· ≤ ·) := by
  unfold upto
  refine List.pairwise_map.mpr (List.Pairwise.imp ?_ List.pairwise_lt_range)
  intro a b h
  omega
theorem rgD_upto (n : Nat) : rgD 0 (n : Int) = iL (upto n) := by
  unfold rgD iL upto
  rw [List.map_map, Int.sub_zero]
  have e : ((n : Nat) : Int).toNat = n := by omega
  rw [e]
  refine List.map_congr_left fun i _ => ?_
  simp
theorem rgs_upto (n : Nat) : rgs 0 (n : Int) = iL (upto n) := rgD_upto n
theorem intsOf_ints (t : List Int) : intsOf (iL t) = some t := by
  induction t with
  | nil => rfl
  | cons x r ih =>
    show (match intsOf (iL r) with | some l => some (x :: l) | none => none) = _
    rw [ih]
theorem boolsOf_bools (t : List D) (f : D → Bool) : boolsOf (t.map fun d => .bool (f d)) = some (t.map f) := by
  induction t with
  | nil => rfl
  | cons x r ih =>
    show (match boolsOf (r.map fun d => .bool (f d)) with | some l => some (f x :: l) | none => none) = _
    rw [ih]
    rfl
/-! ### == of iL -/
theorem eqvAll_ints : ∀ (a b : List Int), PyData.eqvAll (iL a) (iL b) = decide (a = b)
  | [], [] => by simp [iL, PyData.eqvAll]
  | [], _ :: _ => by simp [iL, PyData.eqvAll]
  | _ :: _, [] => by simp [iL, PyData.eqvAll]
  | x :: a, y :: b => by
    have ih := eqvAll_ints a b
    simp only [iL, List.map_cons, PyData.eqvAll, PyData.eqv] at ih ⊢
    rw [ih]
    by_cases h : x = y
    · subst h; simp
    · simp [h]
theorem eqv_ints (a b : List Int) : PyData.eqv (.list (iL a)) (.list (iL b)) = decide (a = b) := by
  rw [← eqvAll_ints]
  simp only [PyData.eqv]
theorem lay_ints : ∀ a : List Int, PyData.canLayAll0 (iL a) = true
  | [] => by simp [iL, PyData.canLayAll0]
  | x :: a => by
    have ih := lay_ints a
    simp only [iL, List.map_cons, PyData.canLayAll0, PyData.canLay0] at ih ⊢
    rw [ih]; rfl
theorem depth_ints : ∀ a : List Int, PyData.depthAll (iL a) ≤ 1
  | [] => by simp [iL, PyData.depthAll]
  | x :: a => by
    have ih := depth_ints a
    simp only [iL, List.map_cons, PyData.depthAll, PyData.depth] at ih ⊢
    omega
theorem shaped_ints (a : List Int) : SeqAt.shaped (.list (iL a)) = true := by
  show ((PyData.list (iL a)).canLay0 && decide ((PyData.list (iL a)).depth ≤ 64)) = true
  have h := depth_ints a
  rw [Bool.and_eq_true]
  refine ⟨by simp only [PyData.canLay0]; exact lay_ints a, decide_eq_true ?_⟩
  simp only [PyData.depth]
  omega
theorem eq_ints (a b : List Int) : F_eq [.list (iL a), .list (iL b)] = some (.bool (decide (a = b))) := by
  show (if (SeqAt.shaped (.list (iL a)) && SeqAt.shaped (.list (iL b))) = true then some (PyData.bool (PyData.eqv (.list (iL a)) (.list (iL b)))) else none) = _
  rw [shaped_ints, shaped_ints, eqv_ints]
  rfl
/-! ### slices of lists -/
theorem f_slL_to {xs : List D} {i : Int} (h0 : 0 ≤ i) (h : i ≤ xs.length) : F_sl (.list xs) none (some i) = some (.list (xs.take i.toNat)) := by
  show some (PyData.list ((xs.drop (HT.sIx xs.length 0 none)).take (HT.sIx xs.length xs.length (some i) - HT.sIx xs.length 0 none))) = _
  have e : HT.sIx xs.length xs.length (some i) = i.toNat := by unfold HT.sIx; dsimp only; rw [if_neg (by omega)]; omega
  rw [e, HT.sIx_none]
  simp
theorem f_slL_from {xs : List D} {i : Int} (h0 : 0 ≤ i) : F_sl (.list xs) (some i) none = some (.list (xs.drop i.toNat)) := by
  show some (PyData.list ((xs.drop (HT.sIx xs.length 0 (some i))).take (HT.sIx xs.length xs.length none - HT.sIx xs.length 0 (some i)))) = _
  have e : HT.sIx xs.length 0 (some i) = min i.toNat xs.length := by unfold HT.sIx; dsimp only; rw [if_neg (by omega)]
  rw [e, HT.sIx_none]
  by_cases h : i.toNat ≤ xs.length
  · rw [Nat.min_eq_left h, List.take_of_length_le (by rw [List.length_drop]; omega)]
  · rw [Nat.min_eq_right (by omega), List.drop_of_length_le (Nat.le_refl _), List.drop_of_length_le (by omega)]
    simp
theorem f_slT_to {xs : List D} {i : Int} (h0 : 0 ≤ i) (h : i ≤ xs.length) : F_sl (.tuple xs) none (some i) = some (.tuple (xs.take i.toNat)) := by
  show some (PyData.tuple ((xs.drop (HT.sIx xs.length 0 none)).take (HT.sIx xs.length xs.length (some i) - HT.sIx xs.length 0 none))) = _
  have e : HT.sIx xs.length xs.length (some i) = i.toNat := by unfold HT.sIx; dsimp only; rw [if_neg (by omega)]; omega
  rw [e, HT.sIx_none]
  simp
theorem f_slT_from {xs : List D} {i : Int} (h0 : 0 ≤ i) : F_sl (.tuple xs) (some i) none = some (.tuple (xs.drop i.toNat)) := by
  show some (PyData.tuple ((xs.drop (HT.sIx xs.length 0 (some i))).take (HT.sIx xs.length xs.length none - HT.sIx xs.length 0 (some i)))) = _
  have e : HT.sIx xs.length 0 (some i) = min i.toNat xs.length := by unfold HT.sIx; dsimp only; rw [if_neg (by omega)]
  rw [e, HT.sIx_none]
  by_cases h : i.toNat ≤ xs.length
  · rw [Nat.min_eq_left h, List.take_of_length_le (by rw [List.length_drop]; omega)]
  · rw [Nat.min_eq_right (by omega), List.drop_of_length_le (Nat.le_refl _), List.drop_of_length_le (by omega)]
    simp
/-- t[:-1] -/
theorem f_slT_init {xs : List D} : F_sl (.tuple xs) none (some (-1)) = some (.tuple (xs.take (xs.length - 1))) := by
  show some (PyData.tuple ((xs.drop (HT.sIx xs.length 0 none)).take (HT.sIx xs.length xs.length (some (-1)) - HT.sIx xs.length 0 none))) = _
  have e : HT.sIx xs.length xs.length (some (-1)) = xs.length - 1 := by unfold HT.sIx; dsimp only; rw [if_pos (by omega)]; omega
  rw [e, HT.sIx_none]
  simp
theorem f_addL {a b : List D} (h : a.length + b.length ≤ sizeLine) : F_add [.list a, .list b] = some (.list (a ++ b)) := by
  show (if a.length + b.length ≤ sizeLine then some (PyData.list (a ++ b)) else none) = _
  rw [if_pos h]
theorem f_addT {a b : List D} (h : a.length + b.length ≤ sizeLine) : F_add [.tuple a, .tuple b] = some (.tuple (a ++ b)) := by
  show (if a.length + b.length ≤ sizeLine then some (PyData.tuple (a ++ b)) else none) = _
  rw [if_pos h]
/-! ### a turn's arithmetic -/
/-- one behind other -/
def beh (one other : List Int) : List Int := other.map fun i => one.getD i.toNat 0
theorem beh_len (one other : List Int) : (beh one other).length = other.length := List.length_map ..
theorem getD_at {t : List Int} {i : Nat} (h : i < t.length) : t[i]? = some (t.getD i 0) := by
  rw [List.getD_eq_getElem?_getD, List.getElem?_eq_getElem h]
  rfl
abbrev Tn (n : Nat) (t : List Int) : Prop := t.Perm (upto n)
theorem Tn.len {n : Nat} {t : List Int} (h : Tn n t) : t.length = n := by rw [h.length_eq, upto_len]
theorem Tn.nodup {n : Nat} {t : List Int} (h : Tn n t) : t.Nodup := h.symm.nodup (upto_nodup n)
theorem Tn.mem {n : Nat} {t : List Int} (h : Tn n t) {v : Int} : v ∈ t ↔ 0 ≤ v ∧ v < n := h.mem_iff.trans mem_upto
theorem Tn.at {n : Nat} {t : List Int} (h : Tn n t) {i : Nat} (hi : i < n) : 0 ≤ t.getD i 0 ∧ t.getD i 0 < n := by
  have e := getD_at (t := t) (i := i) (by rw [h.len]; exact hi)
  exact h.mem.mp (List.mem_of_getElem? e)
theorem Tn.inj {n : Nat} {t : List Int} (h : Tn n t) {i j : Nat} (hi : i < n) (hj : j < n) (e : t.getD i 0 = t.getD j 0) : i = j := by
  have e1 := getD_at (t := t) (i := i) (by rw [h.len]; exact hi)
  have e2 := getD_at (t := t) (i := j) (by rw [h.len]; exact hj)
  rw [e] at e1
  exact (List.getElem?_inj (by rw [h.len]; exact hi) h.nodup).mp (e1.trans e2.symm)
theorem Tn.surj {n : Nat} {t : List Int} (h : Tn n t) {v : Nat} (hv : v < n) : ∃ i, i < n ∧ t.getD i 0 = (v : Int) := by
  obtain ⟨i, hi, e⟩ := List.mem_iff_getElem.mp (h.mem.mpr ⟨by omega, by omega⟩ : ((v : Nat) : Int) ∈ t)
  refine ⟨i, by rw [h.len] at hi; exact hi, ?_⟩
  rw [List.getD_eq_getElem?_getD, List.getElem?_eq_getElem hi, e]
  rfl
/-- a list of the right length whose items are told apart and in reach -/
theorem tn_of {n : Nat} {t : List Int} (hl : t.length = n) (hr : ∀ i, i < n → 0 ≤ t.getD i 0 ∧ t.getD i 0 < n) (hs : ∀ v, v < n → ∃ i, i < n ∧ t.getD i 0 = (v : Int)) (hi : ∀ i j, i < n → j < n → t.getD i 0 = t.getD j 0 → i = j) : Tn n t := by
  have nd : t.Nodup := by
    rw [List.nodup_iff_pairwise_ne]
    refine List.pairwise_iff_getElem.mpr fun i j h1 h2 hij e => ?_
    have := hi i j (by omega) (by omega) (by
      rw [List.getD_eq_getElem?_getD, List.getD_eq_getElem?_getD, List.getElem?_eq_getElem h1, List.getElem?_eq_getElem h2, e])
    omega
  refine (List.perm_ext_iff_of_nodup nd (upto_nodup n)).mpr fun a => ?_
  rw [mem_upto]
  constructor
  · intro ha
    obtain ⟨i, h1, e⟩ := List.mem_iff_getElem.mp ha
    have := hr i (by omega)
    rw [List.getD_eq_getElem?_getD, List.getElem?_eq_getElem h1, e] at this
    exact this
  · intro ha
    obtain ⟨i, h1, e⟩ := hs a.toNat (by omega)
    have e2 := getD_at (t := t) (i := i) (by omega)
    rw [e, show ((a.toNat : Nat) : Int) = a by omega] at e2
    exact List.mem_of_getElem? e2
theorem beh_at {one other : List Int} {i : Nat} (h : i < other.length) : (beh one other).getD i 0 = one.getD (other.getD i 0).toNat 0 := by
  unfold beh
  rw [List.getD_eq_getElem?_getD, List.getElem?_map, getD_at h]
  rfl
theorem list_ext_getD {a b : List Int} (hl : a.length = b.length) (h : ∀ i, i < a.length → a.getD i 0 = b.getD i 0) : a = b := by
  refine List.ext_getElem? fun i => ?_
  by_cases hi : i < a.length
  · rw [getD_at hi, getD_at (by omega), h i hi]
  · rw [List.getElem?_eq_none (by omega), List.getElem?_eq_none (by omega)]
theorem Tn.beh {n : Nat} {one other : List Int} (h1 : Tn n one) (h2 : Tn n other) : Tn n (beh one other) := by
  have l2 := h2.len
  refine tn_of (by rw [beh_len, l2]) (fun i hi => ?_) (fun v hv => ?_) (fun i j hi hj e => ?_)
  · rw [beh_at (by omega)]
    have := h2.at hi
    exact h1.at (by omega)
  · obtain ⟨i, hi, e⟩ := h1.surj hv
    obtain ⟨j, hj, e2⟩ := h2.surj hi
    refine ⟨j, hj, ?_⟩
    rw [beh_at (by omega), e2, Int.toNat_natCast, e]
  · rw [beh_at (by omega), beh_at (by omega)] at e
    have a1 := h2.at hi
    have a2 := h2.at hj
    have := h1.inj (by omega) (by omega) e
    exact h2.inj hi hj (by omega)
theorem beh_assoc {n : Nat} {a b c : List Int} (hb : Tn n b) (hc : Tn n c) : beh (beh a b) c = beh a (beh b c) := by
  have l1 := hb.len
  have l2 := hc.len
  refine list_ext_getD (by rw [beh_len, beh_len, beh_len]) fun i hi => ?_
  rw [beh_len] at hi
  have := hc.at (i := i) (by omega)
  rw [beh_at hi, beh_at (by omega), beh_at (by rw [beh_len]; exact hi), beh_at hi]
/-- f undoes t -/
structure Back (t f : List Int) : Prop where
  len : f.length = t.length
  at_ : ∀ j, j < t.length → f.getD (t.getD j 0).toNat 0 = (j : Int)
theorem upto_getD {n i : Nat} (h : i < n) : (upto n).getD i 0 = (i : Int) := by
  rw [List.getD_eq_getElem?_getD, upto_at h]
  rfl
theorem Back.tn {n : Nat} {t f : List Int} (h : Tn n t) (b : Back t f) : Tn n f := by
  have l1 := h.len
  refine tn_of (by rw [b.len, l1]) (fun i hi => ?_) (fun v hv => ?_) (fun i j hi hj e => ?_)
  · obtain ⟨j, hj, e⟩ := h.surj hi
    have := b.at_ j (by omega)
    rw [e, Int.toNat_natCast] at this
    omega
  · have a1 := h.at hv
    exact ⟨_, by omega, b.at_ v (by omega)⟩
  · obtain ⟨i', hi', e1⟩ := h.surj hi
    obtain ⟨j', hj', e2⟩ := h.surj hj
    have k1 := b.at_ i' (by omega)
    have k2 := b.at_ j' (by omega)
    rw [e1, Int.toNat_natCast] at k1
    rw [e2, Int.toNat_natCast] at k2
    have : i' = j' := by omega
    subst this
    omega
theorem Back.left {n : Nat} {t f : List Int} (h : Tn n t) (b : Back t f) : beh f t = upto n := by
  have l1 := h.len
  refine list_ext_getD (by rw [beh_len, l1, upto_len]) fun i hi => ?_
  rw [beh_len] at hi
  rw [beh_at hi, b.at_ i hi, upto_getD (by omega)]
theorem Back.right {n : Nat} {t f : List Int} (h : Tn n t) (b : Back t f) : beh t f = upto n := by
  have l1 := h.len
  refine list_ext_getD (by rw [beh_len, b.len, l1, upto_len]) fun i hi => ?_
  rw [beh_len, b.len] at hi
  obtain ⟨j, hj, e⟩ := h.surj (v := i) (by omega)
  have := b.at_ j (by omega)
  rw [e, Int.toNat_natCast] at this
  rw [beh_at (by rw [b.len]; exact hi), this, Int.toNat_natCast, e, upto_getD (by omega)]
theorem Back.back {n : Nat} {t f g : List Int} (h : Tn n t) (b : Back t f) (c : Back f g) : g = t := by
  have l1 := h.len
  have l2 := b.len
  have l3 := c.len
  refine list_ext_getD (by omega) fun i hi => ?_
  have k := b.at_ i (by omega)
  have a1 := h.at (i := i) (by omega)
  have k2 := c.at_ (t.getD i 0).toNat (by omega)
  rw [k, Int.toNat_natCast] at k2
  omega
/-- the first place of v -/
theorem findD_at : ∀ {t : List Int} {j k : Nat} {v : Int}, t.Nodup → t[j]? = some v → findD (.int v) (iL t) k = some (k + j)
  | [], _, _, _, _, h => by simp at h
  | x :: t, 0, k, v, nd, h => by
    have e : x = v := by simpa using h
    subst e
    show (if PyData.eqv (.int x) (.int x) = true then some k else findD (.int x) (iL t) (k + 1)) = _
    rw [if_pos (by simp [PyData.eqv])]
    rfl
  | x :: t, j + 1, k, v, nd, h => by
    rw [List.nodup_cons] at nd
    have h2 : t[j]? = some v := by simpa using h
    have ne : x ≠ v := fun z => nd.1 (by rw [z]; exact List.mem_of_getElem? h2)
    show (if PyData.eqv (.int x) (.int v) = true then some k else findD (.int v) (iL t) (k + 1)) = _
    rw [if_neg (by simp [PyData.eqv, ne]), findD_at nd.2 h2]
    congr 1
    omega
theorem enum_len (ds : List D) : (enumD ds).length = ds.length := @enumD_len ⟨[]⟩ ds
theorem enum_at {t : List Int} {i : Nat} {d : D} (h : (enumD (iL t))[i]? = some d) : i < t.length ∧ ∃ v, v = t.getD i 0 ∧ d = .tuple [.int (i : Nat), .int v] := by
  have hl : i < (enumD (iL t)).length := (List.getElem?_eq_some_iff.mp h).1
  rw [enum_len, iL_len] at hl
  refine ⟨hl, _, rfl, ?_⟩
  rw [@enumD_at ⟨[]⟩ _ _ (by rw [iL_len]; exact hl)] at h
  cases h
  have := iL_at (getD_at hl)
  rw [List.getElem?_eq_getElem (by rw [iL_len]; exact hl)] at this
  rw [Option.some.inj this]
theorem set_iL (f : List Int) (k : Nat) (v : Int) : (iL f).set k (.int v) = iL (f.set k v) := by
  unfold iL
  rw [List.map_set]
theorem rep_iL (n : Nat) (v : Int) : List.replicate n (PyData.int v) = iL (List.replicate n v) := by
  unfold iL
  rw [List.map_replicate]
theorem le_sz {n : Nat} (h : n ≤ 16777216) : n ≤ sizeLine := by rw [sizeLine_eq]; exact h
/-- a block, statement by statement -/
theorem seq_nx {f g : AS} {ρ ρ1 : En} {r : R Fl} (h : f ρ = .ok .nx ρ1) (h2 : g ρ1 = r) : sSeq f g ρ = r := by
  unfold sSeq
  rw [h]
  exact h2
theorem seq_rt {f g : AS} {ρ ρ1 : En} {d : D} (h : f ρ = .ok (.rt d) ρ1) : sSeq f g ρ = .ok (.rt d) ρ1 := by
  unfold sSeq
  rw [h]
theorem seq_rf {f g : AS} {ρ ρ1 : En} {d : List D} (h : f ρ = .ok (.rf d) ρ1) : sSeq f g ρ = .ok (.rf d) ρ1 := by
  unfold sSeq
  rw [h]
theorem mk_ok {n : Nat} {body : AS} {svs : List SV} {ρ0 ρ' ρn : En} {fl : Fl} (h0 : svs ++ List.replicate (n - svs.length) .un = ρ0) (h : body ρ0 = .ok fl ρ') (hn : nmE svs.length ρ' = ρn) : mkF n body svs = .ok fl ρn := by
  unfold mkF
  rw [h0, h, ← hn]
  rfl
theorem mk_err {n : Nat} {body : AS} {svs : List SV} {ρ0 ρ' ρn : En} {x : Ex} (h0 : svs ++ List.replicate (n - svs.length) .un = ρ0) (h : body ρ0 = .err x ρ') (hn : nmE svs.length ρ' = ρn) : mkF n body svs = .err x ρn := by
  unfold mkF
  rw [h0, h, ← hn]
  rfl
theorem call_v {m : MF} {os : List Opd} {ρ ρ1 ρn ρ2 : En} {ovs : List OV} {svs : List SV} {d : D} (h1 : evs os ρ = .ok ovs ρ1) (h2 : ovs.map (argSV ρ1) = svs) (h4 : m svs = .ok (.rt d) ρn) (h3 : (svs.any isUn || !nodupB (lent ρ1 ovs)) = false) (h5 : setBack ρ1 ovs ρn = ρ2) : aCall m os ρ = .ok d ρ2 := by
  unfold aCall
  rw [h1]
  show (callM m ovs ρ1).bind _ = _
  unfold callM
  dsimp only
  rw [h2, h3, if_neg Bool.false_ne_true, h4, ← h5]
  rfl
theorem call_n {m : MF} {os : List Opd} {ρ ρ1 ρn ρ2 : En} {ovs : List OV} {svs : List SV} (h1 : evs os ρ = .ok ovs ρ1) (h2 : ovs.map (argSV ρ1) = svs) (h4 : m svs = .ok .nx ρn) (h3 : (svs.any isUn || !nodupB (lent ρ1 ovs)) = false) (h5 : setBack ρ1 ovs ρn = ρ2) : aCall m os ρ = .ok .none ρ2 := by
  unfold aCall
  rw [h1]
  show (callM m ovs ρ1).bind _ = _
  unfold callM
  dsimp only
  rw [h2, h3, if_neg Bool.false_ne_true, h4, ← h5]
  rfl
theorem call_f {m : MF} {os : List Opd} {ρ ρ1 ρn ρ2 : En} {ovs : List OV} {svs : List SV} {ds : List D} (h1 : evs os ρ = .ok ovs ρ1) (h2 : ovs.map (argSV ρ1) = svs) (h4 : m svs = .ok (.rf ds) ρn) (h3 : (svs.any isUn || !nodupB (lent ρ1 ovs)) = false) (h5 : setBack ρ1 ovs ρn = ρ2) : fCall m os ρ = .ok ds ρ2 := by
  unfold fCall
  rw [h1]
  show (callM m ovs ρ1).bind _ = _
  unfold callM
  dsimp only
  rw [h2, h3, if_neg Bool.false_ne_true, h4, ← h5]
  rfl
theorem drop_ok {f : AE} {ρ ρ1 : En} {d : D} (h : f ρ = .ok d ρ1) : sDrop f ρ = .ok .nx ρ1 := by
  unfold sDrop
  rw [h]
  rfl
theorem own_ok {f : AM (List D)} {i : Nat} {ρ ρ1 ρ2 : En} {ds : List D} (h : f ρ = .ok ds ρ1) (hi : isIo (getSlot ρ1 i) = false) (h2 : setSlot ρ1 i (.own false ds) = ρ2) : sOwn i f ρ = .ok .nx ρ2 := by
  unfold sOwn
  rw [h]
  show (if isIo (getSlot ρ1 i) = true then (R.bad : R Fl) else R.ok .nx (setSlot ρ1 i (.own false ds))) = _
  rw [hi, if_neg Bool.false_ne_true, h2]
theorem set_ok {f : AE} {i : Nat} {ρ ρ1 ρ2 : En} {d : D} (h : f ρ = .ok d ρ1) (hi : isIo (getSlot ρ1 i) = false) (h2 : setSlot ρ1 i (.pl d) = ρ2) : sAsg f (gNm i) ρ = .ok .nx ρ2 := by
  unfold sAsg gNm
  rw [h]
  show (if isIo (getSlot ρ1 i) = true then (R.bad : R Unit) else R.ok () (setSlot ρ1 i (.pl d))).bind _ = _
  rw [hi, h2]
  rfl
theorem ops1 {F : List D → Option D} {o1 : Opd} {ρ ρ1 : En} {v1 : OV} {d1 d : D} (h1 : o1.ev ρ = .ok v1 ρ1) (g1 : v1.get ρ1 = some d1) (hf : F [d1] = some d) : aOps F [o1] ρ = .ok d ρ1 := by
  unfold aOps evs
  rw [h1]
  show (match getAll ρ1 [v1] with | some ds => (match F ds with | some d => R.ok d ρ1 | none => .bad) | none => .bad) = _
  unfold getAll
  rw [g1]
  show (match F [d1] with | some d => R.ok d ρ1 | none => .bad) = _
  rw [hf]
theorem ops2 {F : List D → Option D} {o1 o2 : Opd} {ρ ρ1 ρ2 : En} {v1 v2 : OV} {d1 d2 d : D} (h1 : o1.ev ρ = .ok v1 ρ1) (h2 : o2.ev ρ1 = .ok v2 ρ2) (g1 : v1.get ρ2 = some d1) (g2 : v2.get ρ2 = some d2) (hf : F [d1, d2] = some d) : aOps F [o1, o2] ρ = .ok d ρ2 := by
  have e : evs [o1, o2] ρ = .ok [v1, v2] ρ2 := by
    show (o1.ev ρ).bind _ = _
    rw [h1]
    show ((o2.ev ρ1).bind _).bind _ = _
    rw [h2]
    rfl
  unfold aOps
  rw [e]
  show (match getAll ρ2 [v1, v2] with | some ds => (match F ds with | some d => R.ok d ρ2 | none => .bad) | none => .bad) = _
  have e2 : getAll ρ2 [v1, v2] = some [d1, d2] := by
    unfold getAll
    rw [g1]
    show (match getAll ρ2 [v2] with | some ds => some (d1 :: ds) | none => none) = _
    unfold getAll
    rw [g2]
    rfl
  rw [e2]
  show (match F [d1, d2] with | some d => R.ok d ρ2 | none => .bad) = _
  rw [hf]
theorem ex_ok {f : AE} {ρ ρ1 : En} {d : D} (h : f ρ = .ok d ρ1) : (Opd.ex f).ev ρ = .ok (.val d) ρ1 := by
  unfold Opd.ev
  dsimp only
  rw [h]
  rfl
theorem fr_ok {f : AM (List D)} {ρ ρ1 : En} {ds : List D} (h : f ρ = .ok ds ρ1) : aFr f ρ = .ok (.list ds) ρ1 := by
  unfold aFr
  rw [h]
  rfl
theorem aT_ok {f : AE} {ρ ρ1 : En} {b : Bool} (h : f ρ = .ok (.bool b) ρ1) : aT f ρ = .ok b ρ1 := by
  unfold aT
  rw [h]
  rfl
theorem not_ok {f : AM Bool} {ρ ρ1 : En} {b : Bool} (h : f ρ = .ok b ρ1) : tNotA f ρ = .ok (!b) ρ1 := by
  unfold tNotA
  rw [h]
  rfl
theorem retf_ok {f : AM (List D)} {ρ ρ1 : En} {ds : List D} (h : f ρ = .ok ds ρ1) : sRetF f ρ = .ok (.rf ds) ρ1 := by
  unfold sRetF
  rw [h]
  rfl
theorem asg_ok {f : AE} {i : Nat} {ρ ρ1 : En} {d : D} (h : f ρ = .ok d ρ1) (hi : isIo (getSlot ρ1 i) = false) : sAsg f (gNm i) ρ = .ok .nx (setSlot ρ1 i (.pl d)) := by
  unfold sAsg gNm
  rw [h]
  show (if isIo (getSlot ρ1 i) = true then (R.bad : R Unit) else R.ok () (setSlot ρ1 i (.pl d))).bind _ = _
  rw [hi]
  rfl
theorem ret_ok {f : AE} {ρ ρ1 : En} {d : D} (h : f ρ = .ok d ρ1) : sRet f ρ = .ok (.rt d) ρ1 := by
  unfold sRet
  rw [h]
  rfl
theorem if_t {c : AM Bool} {f g : AS} {ρ ρ1 : En} (h : c ρ = .ok true ρ1) : sIf c f g ρ = f ρ1 := by
  unfold sIf
  rw [h]
  rfl
theorem if_f {c : AM Bool} {f g : AS} {ρ ρ1 : En} (h : c ρ = .ok false ρ1) : sIf c f g ρ = g ρ1 := by
  unfold sIf
  rw [h]
  rfl
theorem lst_ok {fs : List AE} {ρ ρ1 : En} {ds : List D} (h : evsD fs ρ = .ok ds ρ1) (hz : ds.length ≤ 16777216) : fLst fs ρ = .ok ds ρ1 := by
  unfold fLst
  rw [h]
  show (if ds.length ≤ sizeLine then R.ok ds ρ1 else .bad) = _
  rw [if_pos (le_sz hz)]
theorem atup_ok {fs : List AE} {ρ ρ1 : En} {ds : List D} (h : evsD fs ρ = .ok ds ρ1) (hz : ds.length ≤ 16777216) : aTup fs ρ = .ok (.tuple ds) ρ1 := by
  unfold aTup
  rw [h]
  show (if ds.length ≤ sizeLine then R.ok (PyData.tuple ds) ρ1 else .bad) = _
  rw [if_pos (le_sz hz)]
theorem ds_nil {ρ : En} : evsD [] ρ = .ok [] ρ := rfl
theorem ds_cons {f : AE} {fs : List AE} {ρ ρ1 ρ2 : En} {d : D} {ds : List D} (h : f ρ = .ok d ρ1) (hs : evsD fs ρ1 = .ok ds ρ2) : evsD (f :: fs) ρ = .ok (d :: ds) ρ2 := by
  show (f ρ).bind _ = _
  rw [h]
  show (evsD fs ρ1).bind _ = _
  rw [hs]
  rfl
theorem os_nil {ρ : En} : evs [] ρ = .ok [] ρ := rfl
theorem os_cons {o : Opd} {os : List Opd} {ρ ρ1 ρ2 : En} {v : OV} {vs : List OV} (h : o.ev ρ = .ok v ρ1) (hs : evs os ρ1 = .ok vs ρ2) : evs (o :: os) ρ = .ok (v :: vs) ρ2 := by
  show (o.ev ρ).bind _ = _
  rw [h]
  show (evs os ρ1).bind _ = _
  rw [hs]
  rfl
theorem aif_t {c : AM Bool} {f g : AE} {ρ ρ1 : En} {r : R D} (h : c ρ = .ok true ρ1) (h2 : f ρ1 = r) : aIf c f g ρ = r := by
  unfold aIf
  rw [h]
  exact h2
theorem aif_f {c : AM Bool} {f g : AE} {ρ ρ1 : En} {r : R D} (h : c ρ = .ok false ρ1) (h2 : g ρ1 = r) : aIf c f g ρ = r := by
  unfold aIf
  rw [h]
  exact h2
theorem ift {c : AM Bool} {f g : AS} {ρ ρ1 : En} {r : R Fl} (h : c ρ = .ok true ρ1) (h2 : f ρ1 = r) : sIf c f g ρ = r := by
  rw [if_t h]
  exact h2
theorem iff' {c : AM Bool} {f g : AS} {ρ ρ1 : En} {r : R Fl} (h : c ρ = .ok false ρ1) (h2 : g ρ1 = r) : sIf c f g ρ = r := by
  rw [if_f h]
  exact h2
theorem put_ix {f fi : AE} {i : Nat} {ρ ρ1 ρ2 ρ3 : En} {d k : D} {r : SV} (h : f ρ = .ok d ρ1) (hw : isOwn (getSlot ρ1 i) = true) (hi : fi ρ1 = .ok k ρ2) (hs : setAt k (getSlot ρ2 i) d = some r) (h3 : setSlot ρ2 i r = ρ3) : sAsg f (gIx i fi) ρ = .ok .nx ρ3 := by
  unfold sAsg
  rw [h]
  show (gIx i fi d ρ1).bind _ = _
  unfold gIx
  rw [if_pos hw, hi]
  show (match setAt k (getSlot ρ2 i) d with | some r => R.ok () (setSlot ρ2 i r) | none => (R.bad : R Unit)).bind _ = _
  rw [hs, ← h3]
  rfl
theorem or_t {f g : AM Bool} {ρ ρ1 : En} (h : f ρ = .ok true ρ1) : tOrA f g ρ = .ok true ρ1 := by
  unfold tOrA
  rw [h]
  rfl
theorem or_f {f g : AM Bool} {ρ ρ1 : En} {r : R Bool} (h : f ρ = .ok false ρ1) (h2 : g ρ1 = r) : tOrA f g ρ = r := by
  unfold tOrA
  rw [h]
  exact h2
theorem and_f {f g : AM Bool} {ρ ρ1 : En} (h : f ρ = .ok false ρ1) : tAndA f g ρ = .ok false ρ1 := by
  unfold tAndA
  rw [h]
  rfl
theorem and_t {f g : AM Bool} {ρ ρ1 : En} {r : R Bool} (h : f ρ = .ok true ρ1) (h2 : g ρ1 = r) : tAndA f g ρ = r := by
  unfold tAndA
  rw [h]
  exact h2
theorem sl_ok {o : Opd} {lo hi : Option AE} {ρ ρ1 ρ2 ρ3 : En} {v : OV} {d r : D} {l h : Option Int} (h1 : o.ev ρ = .ok v ρ1) (h2 : aPart lo ρ1 = .ok l ρ2) (h3 : aPart hi ρ2 = .ok h ρ3) (g : v.get ρ3 = some d) (hf : F_sl d l h = some r) : aSl o lo hi ρ = .ok r ρ3 := by
  unfold aSl
  rw [h1]
  show (aPart lo ρ1).bind _ = _
  rw [h2]
  show (aPart hi ρ2).bind _ = _
  rw [h3]
  show (match v.get ρ3 with | some d => (match F_sl d l h with | some r => R.ok r ρ3 | none => .bad) | none => .bad) = _
  rw [g]
  show (match F_sl d l h with | some r => R.ok r ρ3 | none => .bad) = _
  rw [hf]
theorem pt_some {f : AE} {ρ ρ1 : En} {i : Int} (h : f ρ = .ok (.int i) ρ1) : aPart (some f) ρ = .ok (some i) ρ1 := by
  show (f ρ).bind _ = _
  rw [h]
  rfl
theorem pt_none {ρ : En} : aPart none ρ = .ok none ρ := rfl
theorem par_ok {is : List Nat} {fs : List AE} {ρ ρ1 : En} {ds : List D} {r : R Fl} (h : evsD fs ρ = .ok ds ρ1) (h2 : putAll is ds ρ1 = r) : sPar is fs ρ = r := by
  unfold sPar
  rw [h]
  exact h2
theorem frg_ok {f : AM (Int × Int)} {ρ ρ1 : En} {a b : Int} (h : f ρ = .ok (a, b) ρ1) (hr : rgOk a b = true) : fRg f ρ = .ok (rgD a b) ρ1 := by
  unfold fRg
  rw [h]
  show (if rgOk a b = true then R.ok (rgD a b) ρ1 else .bad) = _
  rw [if_pos hr]
theorem irg_ok {f : AM (Int × Int)} {ρ ρ1 : En} {a b : Int} (h : f ρ = .ok (a, b) ρ1) (hr : rgIn a b = true) : iRg f ρ = .ok (rgs a b) ρ1 := by
  unfold iRg
  rw [h]
  show (if rgIn a b = true then R.ok (rgs a b) ρ1 else .bad) = _
  rw [if_pos hr]
theorem tuprg_ok {f : AM (Int × Int)} {ρ ρ1 : En} {a b : Int} (h : f ρ = .ok (a, b) ρ1) (hr : rgOk a b = true) : aTupRg f ρ = .ok (.tuple (rgD a b)) ρ1 := by
  unfold aTupRg
  rw [h]
  show (if rgOk a b = true then R.ok (PyData.tuple (rgD a b)) ρ1 else .bad) = _
  rw [if_pos hr]
theorem rg1_ok {f : AE} {ρ ρ1 : En} {n : Int} (h : f ρ = .ok (.int n) ρ1) : aRg1 f ρ = .ok (0, n) ρ1 := by
  unfold aRg1
  rw [h]
  rfl
theorem rgOk_n {n : Nat} (h : n ≤ 16777216) : rgOk 0 (n : Int) = true := by unfold rgOk; simp; omega
theorem rgIn_n {n : Nat} (h : n ≤ 16777216) : rgIn 0 (n : Int) = true := by unfold rgIn; simp; omega
theorem upto_item {n i : Nat} {d : D} (h : (iL (upto n))[i]? = some d) : i < n ∧ d = .int (i : Nat) := by
  have hl := (List.getElem?_eq_some_iff.mp h).1
  rw [iL_len, upto_len] at hl
  rw [iL_at (upto_at hl)] at h
  cases h
  exact ⟨hl, rfl⟩
theorem iL_take (t : List Int) (n : Nat) : (iL t).take n = iL (t.take n) := by unfold iL; rw [List.map_take]
theorem iL_drop (t : List Int) (n : Nat) : (iL t).drop n = iL (t.drop n) := by unfold iL; rw [List.map_drop]
/-- a call that is lent nothing -/
theorem call_p {m : MF} {os : List Opd} {ρ ρ1 ρn : En} {ovs : List OV} {svs : List SV} {d : D} (h1 : evs os ρ = .ok ovs ρ1) (h2 : ovs.map (argSV ρ1) = svs) (h4 : m svs = .ok (.rt d) ρn) (h3 : (svs.any isUn || !nodupB (lent ρ1 ovs)) = false) (h5 : setBack ρ1 ovs ρn = ρ1) : aCall m os ρ = .ok d ρ1 := call_v h1 h2 h4 h3 h5
theorem call_pn {m : MF} {os : List Opd} {ρ ρ1 ρn : En} {ovs : List OV} {svs : List SV} (h1 : evs os ρ = .ok ovs ρ1) (h2 : ovs.map (argSV ρ1) = svs) (h4 : m svs = .ok .nx ρn) (h3 : (svs.any isUn || !nodupB (lent ρ1 ovs)) = false) (h5 : setBack ρ1 ovs ρn = ρ1) : aCall m os ρ = .ok .none ρ1 := call_n h1 h2 h4 h3 h5
/-- a call that is lent the list of slot 0 -/
theorem call_c {m : MF} {os : List Opd} {io : Bool} {c c' : List D} {ρ ρn : En} {ovs : List OV} {svs : List SV} {d : D} (h1 : evs os (.own io c :: ρ) = .ok ovs (.own io c :: ρ)) (h2 : ovs.map (argSV (.own io c :: ρ)) = svs) (h4 : m svs = .ok (.rt d) (.own true c' :: ρn)) (h3 : (svs.any isUn || !nodupB (lent (.own io c :: ρ) ovs)) = false) (h5 : setBack (.own io c :: ρ) ovs (.own true c' :: ρn) = .own io c' :: ρ) : aCall m os (.own io c :: ρ) = .ok d (.own io c' :: ρ) := call_v h1 h2 h4 h3 h5
/-- .. of slot 1 -/
theorem call_c1 {m : MF} {os : List Opd} {io : Bool} {s : SV} {c c' : List D} {ρ ρn : En} {ovs : List OV} {svs : List SV} {d : D} (h1 : evs os (s :: .own io c :: ρ) = .ok ovs (s :: .own io c :: ρ)) (h2 : ovs.map (argSV (s :: .own io c :: ρ)) = svs) (h4 : m svs = .ok (.rt d) (.own true c' :: ρn)) (h3 : (svs.any isUn || !nodupB (lent (s :: .own io c :: ρ) ovs)) = false) (h5 : setBack (s :: .own io c :: ρ) ovs (.own true c' :: ρn) = s :: .own io c' :: ρ) : aCall m os (s :: .own io c :: ρ) = .ok d (s :: .own io c' :: ρ) := call_v h1 h2 h4 h3 h5
/-! ### a loop that may return -/
theorem loop_find {g : AG} {body : AS} (I J : En → Prop) (W : D → Prop) (p : D → Bool) : ∀ (items : List D) (ρ : En), I ρ → (∀ d ∈ items, ∀ ρ, I ρ → ∃ ρ1, g d ρ = .ok () ρ1 ∧ (p d = true → ∃ w ρ2, body ρ1 = .ok (.rt w) ρ2 ∧ W w ∧ J ρ2) ∧ (p d = false → ∃ ρ2, body ρ1 = .ok .nx ρ2 ∧ I ρ2)) →
    (items.any p = true → ∃ w ρ', loopF g body items ρ = .ok (.rt w) ρ' ∧ W w ∧ J ρ') ∧ (items.any p = false → ∃ ρ', loopF g body items ρ = .ok .nx ρ' ∧ I ρ')
  | [], ρ, hI, _ => ⟨fun h => (nomatch h), fun _ => ⟨ρ, rfl, hI⟩⟩
  | d :: ds, ρ, hI, st => by
    obtain ⟨ρ1, e1, h1, h2⟩ := st d List.mem_cons_self ρ hI
    have un : loopF g body (d :: ds) ρ = (match body ρ1 with
      | .ok .nx ρ2 => loopF g body ds ρ2
      | .ok .ct ρ2 => loopF g body ds ρ2
      | .ok .bk ρ2 => .ok .nx ρ2
      | r => r) := by
      show (match g d ρ with
        | .ok _ ρ1 => (match body ρ1 with
          | .ok .nx ρ2 => loopF g body ds ρ2
          | .ok .ct ρ2 => loopF g body ds ρ2
          | .ok .bk ρ2 => .ok .nx ρ2
          | r => r)
        | _ => .bad) = _
      rw [e1]
    cases q : p d with
    | true =>
      obtain ⟨w, ρ2, e2, hw, hj⟩ := h1 q
      refine ⟨fun _ => ⟨w, ρ2, ?_, hw, hj⟩, fun h => ?_⟩
      · rw [un, e2]
      · rw [List.any_cons, q] at h
        cases h
    | false =>
      obtain ⟨ρ2, e2, hi⟩ := h2 q
      obtain ⟨k1, k2⟩ := loop_find I J W p ds ρ2 hi fun d' hd => st d' (List.mem_cons_of_mem _ hd)
      rw [List.any_cons, q, Bool.false_or]
      rw [un, e2]
      exact ⟨k1, k2⟩
theorem for_find {it : AM (List D)} {g : AG} {body : AS} {ρ0 ρ : En} {items : List D} (I J : En → Prop) (W : D → Prop) (p : D → Bool) (hit : it ρ0 = .ok items ρ) (hI : I ρ) (st : ∀ d ∈ items, ∀ ρ, I ρ → ∃ ρ1, g d ρ = .ok () ρ1 ∧ (p d = true → ∃ w ρ2, body ρ1 = .ok (.rt w) ρ2 ∧ W w ∧ J ρ2) ∧ (p d = false → ∃ ρ2, body ρ1 = .ok .nx ρ2 ∧ I ρ2)) :
    (items.any p = true → ∃ w ρ', sFor it g body ρ0 = .ok (.rt w) ρ' ∧ W w ∧ J ρ') ∧ (items.any p = false → ∃ ρ', sFor it g body ρ0 = .ok .nx ρ' ∧ I ρ') := by
  have e : sFor it g body ρ0 = loopF g body items ρ := by
    unfold sFor
    rw [hit]
    rfl
  rw [e]
  exact loop_find I J W p items ρ hI st
/-! ### rows of numbers -/
abbrev T (t : List Int) : D := .tuple (iL t)
def rL (R : List (List Int)) : List D := R.map T
abbrev Mx (R : List (List Int)) : D := .tuple (rL R)
theorem rL_len (R : List (List Int)) : (rL R).length = R.length := List.length_map ..
theorem rL_at {R : List (List Int)} {i : Nat} {t : List Int} (h : R[i]? = some t) : (rL R)[i]? = some (T t) := by
  unfold rL
  rw [List.getElem?_map, h]
  rfl
theorem rL_mem {R : List (List Int)} {d : D} (h : d ∈ rL R) : ∃ t ∈ R, d = T t := by
  obtain ⟨v, h1, h2⟩ := List.mem_map.mp h
  exact ⟨v, h1, h2.symm⟩
theorem rL_app (t u : List (List Int)) : rL t ++ rL u = rL (t ++ u) := by unfold rL; rw [List.map_append]
theorem rL_take (t : List (List Int)) (n : Nat) : (rL t).take n = rL (t.take n) := by unfold rL; rw [List.map_take]
theorem rL_drop (t : List (List Int)) (n : Nat) : (rL t).drop n = rL (t.drop n) := by unfold rL; rw [List.map_drop]
/-- the item of a row of rows -/
def at2 (R : List (List Int)) (i j : Nat) : Int := (R.getD i []).getD j 0
theorem getD_row {R : List (List Int)} {i : Nat} (h : i < R.length) : R[i]? = some (R.getD i []) := by
  rw [List.getD_eq_getElem?_getD, List.getElem?_eq_getElem h]
  rfl
theorem f_ixR {R : List (List Int)} {i : Nat} (h : i < R.length) : F_ix [Mx R, .int (i : Nat)] = some (T (R.getD i [])) := f_ixT (Int.natCast_nonneg _) (by rw [Int.toNat_natCast]; exact rL_at (getD_row h))
theorem f_ixi {t : List Int} {i : Nat} (h : i < t.length) : F_ix [T t, .int (i : Nat)] = some (.int (t.getD i 0)) := f_ixT (Int.natCast_nonneg _) (by rw [Int.toNat_natCast]; exact iL_at (getD_at h))
/-- n rows, each a turn of n things -/
structure Sq (n : Nat) (R : List (List Int)) : Prop where
  len : R.length = n
  tn : ∀ i, i < n → Tn n (R.getD i [])
/-- .. a cycle set -/
def Cyc (n : Nat) (R : List (List Int)) : Prop := ∀ x y z, x < n → y < n → z < n → at2 R (at2 R x y).toNat (at2 R x z).toNat = at2 R (at2 R y x).toNat (at2 R y z).toNat
end SW
set_option Elab.async false
set_option linter.all false
set_option maxRecDepth 100000
set_option maxHeartbeats 2000000
/-! SWLaw2: plain lemmas that name no mirror. -/
namespace SW
open PySem L2
def isWhole (d : D) (lo hi : Int) : Bool := match d with
  | .int i => decide (lo ≤ i) && decide (i ≤ hi)
  | _ => false
def noDict : D → Bool
  | .dict _ => false
  | _ => true
def isTup (d : D) (lo hi : Int) : Bool := match d with
  | .tuple xs => decide (lo ≤ (xs.length : Int)) && decide ((xs.length : Int) ≤ hi)
  | _ => false
theorem all_ints (t : List Int) (f : D → Bool) : F_all [.list ((iL t).map fun d => .bool (f d))] = some (.bool (t.all fun i => f (.int i))) := by
  show (match boolsOf ((iL t).map fun d => .bool (f d)) with | some bs => some (PyData.bool (bs.all id)) | none => none) = _
  rw [boolsOf_bools]
  simp [iL, List.all_map, Function.comp_def]
def CupS (s : SV) : Prop := ∃ a b : Int, s = .own true [.int a, .int b] ∧ 0 ≤ a ∧ 0 ≤ b
theorem turn_step {n : Nat} {f l : List Int} (hp : (f ++ l).Perm (upto n)) {r : Nat} (hr : r < l.length) : ((f ++ [l.getD r 0]) ++ (l.take r ++ l.drop (r + 1))).Perm (upto n) := by
  refine List.Perm.trans ?_ hp
  rw [List.append_assoc]
  refine List.Perm.append_left f ?_
  have e : l = l.take r ++ (l.getD r 0 :: l.drop (r + 1)) := by
    have h1 := List.take_append_drop r l
    have h2 : l.drop r = l[r] :: l.drop (r + 1) := List.drop_eq_getElem_cons hr
    have h3 : l.getD r 0 = l[r] := by rw [List.getD_eq_getElem?_getD, List.getElem?_eq_getElem hr]; rfl
    rw [h3, ← h2]
    exact h1.symm
  conv => rhs; rw [e]
  show (l.getD r 0 :: (l.take r ++ l.drop (r + 1))).Perm _
  exact List.perm_middle.symm
theorem eq_int (i j : Int) : F_eq [.int i, .int j] = some (.bool (decide (i = j))) := by
  have h : (SeqAt.shaped (.int i) && SeqAt.shaped (.int j)) = true := by simp [SeqAt.shaped, PyData.canLay0, PyData.depth]
  show (if (SeqAt.shaped (.int i) && SeqAt.shaped (.int j)) = true then some (PyData.bool (PyData.eqv (.int i) (.int j))) else none) = _
  rw [if_pos h]
  simp only [PyData.eqv]
  by_cases e : i = j
  · subst e; simp
  · simp [e]
theorem ne_int (i j : Int) : F_ne [.int i, .int j] = some (.bool (!decide (i = j))) := by
  have h : (SeqAt.shaped (.int i) && SeqAt.shaped (.int j)) = true := by simp [SeqAt.shaped, PyData.canLay0, PyData.depth]
  show (if (SeqAt.shaped (.int i) && SeqAt.shaped (.int j)) = true then some (PyData.bool (!PyData.eqv (.int i) (.int j))) else none) = _
  rw [if_pos h]
  simp only [PyData.eqv]
  by_cases e : i = j
  · subst e; simp
  · simp [e]
def atom : D → Bool
  | .none => true
  | .bool _ => true
  | .int _ => true
  | .str s => PyData.strOk s
  | _ => false
theorem eq_atom {d : D} (h : atom d = true) : F_eq [d, d] = some (.bool true) := by
  have h2 : (SeqAt.shaped d && SeqAt.shaped d) = true ∧ PyData.eqv d d = true := by
    cases d with
    | str s =>
      have h' : PyData.strOk s = true := h
      exact ⟨by simp [SeqAt.shaped, PyData.canLay0, PyData.depth, h'], by simp only [PyData.eqv]; simp⟩
    | _ => first | (simp [SeqAt.shaped, PyData.canLay0, PyData.depth, PyData.eqv]; done) | cases h
  show (if (SeqAt.shaped d && SeqAt.shaped d) = true then some (PyData.bool (PyData.eqv d d)) else none) = _
  rw [if_pos h2.1, h2.2]
theorem eq_nil : F_eq [.list [], .list []] = some (.bool true) := by
  have := eq_ints [] []
  simpa [iL] using this
def sortN : D → Int
  | .none => 0
  | .bool _ => 1
  | .int _ => 2
  | .str _ => 3
  | .tuple _ => 4
  | .list _ => 5
  | .dict _ => 6
/-- a thing that _law_like looks through: n, how deep it may be -/
def likeN : Nat → D → Bool
  | _, .none => true
  | _, .bool _ => true
  | _, .int _ => true
  | _, .str s => PyData.strOk s
  | n + 1, .tuple xs => decide (xs.length ≤ 16777216) && xs.all (likeN n)
  | n + 1, .list xs => decide (xs.length ≤ 16777216) && xs.all (likeN n)
  | _, _ => false
theorem likeN_noDict {n : Nat} {d : D} (h : likeN n d = true) : noDict d = true := by
  cases d with
  | dict _ => cases n <;> cases h
  | _ => rfl
theorem in45 (i : Int) : F_in [.int i, .tuple [.int 4, .int 5]] = some (.bool (decide (4 = i) || decide (5 = i))) := by
  show (if (flatD (.int i) && [PyData.int 4, PyData.int 5].all flatD) = true then some (PyData.bool (inD (.int i) [PyData.int 4, PyData.int 5])) else none) = _
  rw [if_pos (by rfl)]
  have e : inD (.int i) [PyData.int 4, PyData.int 5] = (decide (4 = i) || decide (5 = i)) := by
    unfold inD
    simp only [List.any_cons, List.any_nil, PyData.eqv, Bool.or_false]
    congr 1 <;> (by_cases h : (4 : Int) = i <;> by_cases h' : (5 : Int) = i <;> simp [h, h'])
  rw [e]
theorem aand_t {f g : AE} {ρ ρ1 : En} {r : R D} (h : f ρ = .ok (.bool true) ρ1) (h2 : g ρ1 = r) : aAnd f g ρ = r := by
  unfold aAnd
  rw [h]
  exact h2
theorem zip_at {xs ys : List D} {d : D} (h : d ∈ zipD xs ys) : ∃ x ∈ xs, ∃ y ∈ ys, d = .tuple [x, y] := by
  unfold zipD at h
  obtain ⟨p, hp, e⟩ := List.mem_map.mp h
  have := List.of_mem_zip hp
  exact ⟨p.1, this.1, p.2, this.2, e.symm⟩
theorem zip_self {xs : List D} {d : D} (h : d ∈ zipD xs xs) : ∃ x ∈ xs, d = .tuple [x, x] := by
  unfold zipD at h
  obtain ⟨p, hp, e⟩ := List.mem_map.mp h
  have : p.1 = p.2 ∧ p.1 ∈ xs := by
    clear e h d
    induction xs with
    | nil => cases hp
    | cons a r ih =>
      rw [List.zip_cons_cons] at hp
      rcases List.mem_cons.mp hp with e | hp
      · rw [e]; exact ⟨rfl, List.mem_cons_self⟩
      · exact ⟨(ih hp).1, List.mem_cons_of_mem _ (ih hp).2⟩
  refine ⟨p.1, this.2, ?_⟩
  rw [← e, ← this.1]
theorem zip_len (xs : List D) : (zipD xs xs).length = xs.length := by
  unfold zipD
  simp
theorem likeN_iL (n : Nat) (t : List Int) : (iL t).all (likeN n) = true := by
  rw [List.all_eq_true]
  intro d hd
  obtain ⟨v, _, rfl⟩ := iL_mem hd
  cases n <;> rfl
theorem likeN_T {n : Nat} {t : List Int} (h : t.length ≤ 16777216) : likeN (n + 1) (T t) = true := by
  show (decide ((iL t).length ≤ 16777216) && (iL t).all (likeN n)) = true
  rw [likeN_iL, iL_len, decide_eq_true h]
  rfl
theorem asg_g {f : AE} {g : AG} {ρ ρ1 ρ2 : En} {d : D} (h : f ρ = .ok d ρ1) (hg : g d ρ1 = .ok () ρ2) : sAsg f g ρ = .ok .nx ρ2 := by
  unfold sAsg
  rw [h]
  show (g d ρ1).bind _ = _
  rw [hg]
  rfl
theorem frep_ok {fl : AM (List D)} {o : Opd} {ρ ρ1 ρ2 : En} {ds : List D} {v : OV} {k : Int} (h : fl ρ = .ok ds ρ1) (h2 : o.ev ρ1 = .ok v ρ2) (g : v.get ρ2 = some (.int k)) (h0 : 0 ≤ k) (hk : k < 9223372036854775808) (hz : ds.length * k.toNat ≤ 16777216) : fRep fl o ρ = .ok (List.replicate k.toNat ds).flatten ρ2 := by
  unfold fRep
  rw [h]
  show (o.ev ρ1).bind _ = _
  rw [h2]
  show (match v.get ρ2 with
  | some (.int k) => if decide (-9223372036854775808 ≤ k) && (decide (k < 9223372036854775808) && decide (ds.length * k.toNat ≤ sizeLine)) then R.ok (List.replicate k.toNat ds).flatten ρ2 else .bad
  | _ => .bad) = _
  rw [g]
  show (if (decide (-9223372036854775808 ≤ k) && (decide (k < 9223372036854775808) && decide (ds.length * k.toNat ≤ sizeLine))) = true then R.ok (List.replicate k.toNat ds).flatten ρ2 else .bad) = _
  rw [decide_eq_true (by omega : -9223372036854775808 ≤ k), decide_eq_true hk, decide_eq_true (le_sz hz)]
  rfl
theorem likeN_list {n : Nat} {xs : List D} (hl : xs.length ≤ 16777216) (h : ∀ x ∈ xs, likeN n x = true) : likeN (n + 1) (.list xs) = true := by
  show (decide (xs.length ≤ 16777216) && xs.all (likeN n)) = true
  rw [decide_eq_true hl, List.all_eq_true.mpr h]
  rfl
theorem likeN_tuple {n : Nat} {xs : List D} (hl : xs.length ≤ 16777216) (h : ∀ x ∈ xs, likeN n x = true) : likeN (n + 1) (.tuple xs) = true := by
  show (decide (xs.length ≤ 16777216) && xs.all (likeN n)) = true
  rw [decide_eq_true hl, List.all_eq_true.mpr h]
  rfl
theorem all_nil {p : D → Prop} : ∀ x ∈ ([] : List D), p x := fun _ h => nomatch h
theorem all_cons {p : D → Prop} {a : D} {as : List D} (h : p a) (hs : ∀ x ∈ as, p x) : ∀ x ∈ a :: as, p x := fun x hx => by
  rcases List.mem_cons.mp hx with e | hx
  · rw [e]; exact h
  · exact hs x hx
theorem shaped_T (t : List Int) : SeqAt.shaped (T t) = true := by
  show ((PyData.tuple (iL t)).canLay0 && decide ((PyData.tuple (iL t)).depth ≤ 64)) = true
  have h := depth_ints t
  rw [Bool.and_eq_true]
  refine ⟨by simp only [PyData.canLay0]; exact lay_ints t, decide_eq_true ?_⟩
  simp only [PyData.depth]
  omega
theorem shaped_int (v : Int) : SeqAt.shaped (.int v) = true := by simp [SeqAt.shaped, PyData.canLay0, PyData.depth]
theorem idx_ok {t : List Int} {j : Nat} {v : Int} (nd : t.Nodup) (h : t[j]? = some v) : F_idxT [T t, .int v] = some (.int (j : Nat)) := by
  show F_index [T t, .int v] = _
  show (if (SeqAt.shaped (T t) && SeqAt.shaped (.int v)) = true then (match findD (.int v) (iL t) 0 with | some j => some (PyData.int (j : Nat)) | none => none) else none) = _
  rw [shaped_T, shaped_int, findD_at nd h, Nat.zero_add]
  rfl
theorem meth_ok {ty : Ty} {F : List D → Option D} {o : Opd} {os : List Opd} {ρ ρ1 ρ2 : En} {ov : OV} {vs : List OV} {d r : D} {ds : List D} (h : o.ev ρ = .ok ov ρ1) (g : ov.get ρ1 = some d) (ht : hasTy ty d = true) (h2 : evs os ρ1 = .ok vs ρ2) (g2 : getAll ρ2 (ov :: vs) = some ds) (hf : F ds = some r) : aMeth ty F o os ρ = .ok r ρ2 := by
  unfold aMeth
  rw [h]
  show (match ov.get ρ1 with
  | some d => if hasTy ty d = true then (evs os ρ1).bind fun vs ρ2 => (match getAll ρ2 (ov :: vs) with
    | some ds => (match F ds with
      | some d => R.ok d ρ2
      | none => .bad)
    | none => .bad) else .bad
  | none => .bad) = _
  rw [g]
  show (if hasTy ty d = true then (evs os ρ1).bind fun vs ρ2 => (match getAll ρ2 (ov :: vs) with
    | some ds => (match F ds with
      | some d => R.ok d ρ2
      | none => .bad)
    | none => .bad) else .bad) = _
  rw [if_pos ht, h2]
  show (match getAll ρ2 (ov :: vs) with
    | some ds => (match F ds with
      | some d => R.ok d ρ2
      | none => .bad)
    | none => .bad) = _
  rw [g2]
  show (match F ds with | some d => R.ok d ρ2 | none => .bad) = _
  rw [hf]
theorem or2_l {f g : AE} {ρ ρ1 : En} {d : D} (h : f ρ = .ok d ρ1) : aOr2 f g ρ = .ok d ρ1 := by
  unfold aOr2
  rw [h]
/-- one place of a turn changed -/
theorem bent_iff {n : Nat} {t : List Int} (ht : Tn n t) {i : Nat} (hi : i < n) (v : Int) : (isort (t.take i ++ [v] ++ t.drop (i + 1)) = upto (t.take i ++ [v] ++ t.drop (i + 1)).length) ↔ v = t.getD i 0 := by
  have l := ht.len
  have e0 : t.take i ++ [v] ++ t.drop (i + 1) = t.set i v := by
    rw [List.set_eq_take_append_cons_drop, if_pos (by omega), List.append_assoc]
    rfl
  rw [e0, List.length_set, l]
  constructor
  · intro h
    have hp : Tn n (t.set i v) := by
      unfold Tn
      rw [← h]
      exact (isort_perm _).symm
    obtain ⟨a1, a2⟩ := ht.at hi
    obtain ⟨j, hj, e⟩ := hp.surj (v := (t.getD i 0).toNat) (by omega)
    by_cases hij : i = j
    · subst hij
      rw [List.getD_eq_getElem?_getD, List.getElem?_set_self (by omega)] at e
      have : v = ((t.getD i 0).toNat : Nat) := e
      omega
    · rw [List.getD_eq_getElem?_getD, List.getElem?_set_ne hij, ← List.getD_eq_getElem?_getD] at e
      exact (hij (ht.inj hi hj (by omega))).elim
  · intro h
    have : t.set i v = t := by
      rw [h, List.getD_eq_getElem?_getD, List.getElem?_eq_getElem (by omega)]
      exact List.set_getElem_self (by omega)
    rw [this]
    exact (isort_eq ht.symm (upto_sorted n)).symm
theorem aand_f {f g : AE} {ρ ρ1 : En} (h : f ρ = .ok (.bool false) ρ1) : aAnd f g ρ = .ok (.bool false) ρ1 := by
  unfold aAnd
  rw [h]
  rfl
theorem all_bools (xs : List D) (f : D → Bool) : F_all [.list (xs.map fun d => .bool (f d))] = some (.bool (xs.all f)) := by
  show (match boolsOf (xs.map fun d => .bool (f d)) with | some bs => some (PyData.bool (bs.all id)) | none => none) = _
  rw [boolsOf_bools]
  simp [List.all_map, Function.comp_def]
def items : D → List D
  | .tuple xs => xs
  | _ => []
theorem isTup_tuple {d : D} {lo hi : Int} (h : isTup d lo hi = true) : ∃ xs, d = .tuple xs ∧ lo ≤ xs.length ∧ (xs.length : Int) ≤ hi := by
  cases d with
  | tuple xs =>
    have h' : (decide (lo ≤ (xs.length : Int)) && decide ((xs.length : Int) ≤ hi)) = true := h
    simp only [Bool.and_eq_true, decide_eq_true_eq] at h'
    exact ⟨xs, rfl, h'⟩
  | _ => cases h
/-! ### likeness, the def's own mirror put in -/
def isTrueM (r : R Fl) : Bool := match r with
  | .ok (.rt (.bool true)) _ => true
  | _ => false
def endM (r : R Fl) : En := match r with
  | .ok _ ρ => ρ
  | _ => []
theorem run_true {r : R Fl} {ρ : En} (h1 : isTrueM r = true) (h2 : endM r = ρ) : r = .ok (.rt (.bool true)) ρ := by
  unfold isTrueM at h1
  split at h1
  · exact congrArg (R.ok (Fl.rt (.bool true))) h2
  · cases h1
end SW
set_option Elab.async false
set_option linter.all false
set_option maxRecDepth 100000
set_option maxHeartbeats 4000000
namespace SW
open PySem PySem.Spec PyProof.Rows L2
def top (i : Nat) : Stmt := PySem.Challenge.pw_swapsagree_k01_whole_cycle_sets.main.body.getD i (.Pass ⟨0, 0, 0, 0⟩)
abbrev st_is_whole : Stmt := top 4
abbrev st_is_tuple_of : Stmt := top 5
abbrev st_is_turn : Stmt := top 9
abbrev st_back_of : Stmt := top 10
abbrev st_are_turn_rows : Stmt := top 12
abbrev st_first_unlike : Stmt := top 13
abbrev st_is_cycle_set : Stmt := top 14
abbrev st_need_cycle_set : Stmt := top 15
abbrev st_swap_pair : Stmt := top 16
abbrev st_swaps_of : Stmt := top 17
abbrev st__law_cup : Stmt := top 19
abbrev st__law_roll : Stmt := top 20
abbrev st__law_some : Stmt := top 21
abbrev st__law_sort : Stmt := top 22
abbrev st__law_like : Stmt := top 23
abbrev st__law_error : Stmt := top 24
abbrev st__law_turn : Stmt := top 25
abbrev st__law_stock : Stmt := top 26
abbrev st__law_beside : Stmt := top 27
abbrev st__law_renamed : Stmt := top 28
abbrev st__law_rows : Stmt := top 29
abbrev st__law_agree : Stmt := top 30
abbrev st__law_pair : Stmt := top 31
abbrev st__law_thrice : Stmt := top 32
abbrev st__law_sets_right : Stmt := top 33
abbrev st__law_limits_right : Stmt := top 34
abbrev st_law : Stmt := top 35
abbrev dd_is_whole : He.DefD := ⟨("is_whole", none), "is_whole", "is_whole", defArgs st_is_whole, defBody st_is_whole, defScope st_is_whole, [], []⟩
abbrev dd_is_tuple_of : He.DefD := ⟨("is_tuple_of", none), "is_tuple_of", "is_tuple_of", defArgs st_is_tuple_of, defBody st_is_tuple_of, defScope st_is_tuple_of, [], []⟩
abbrev dd_is_turn : He.DefD := ⟨("is_turn", none), "is_turn", "is_turn", defArgs st_is_turn, defBody st_is_turn, defScope st_is_turn, [], []⟩
abbrev dd_back_of : He.DefD := ⟨("back_of", none), "back_of", "back_of", defArgs st_back_of, defBody st_back_of, defScope st_back_of, [], []⟩
abbrev dd_are_turn_rows : He.DefD := ⟨("are_turn_rows", none), "are_turn_rows", "are_turn_rows", defArgs st_are_turn_rows, defBody st_are_turn_rows, defScope st_are_turn_rows, [], []⟩
abbrev dd_first_unlike : He.DefD := ⟨("first_unlike", none), "first_unlike", "first_unlike", defArgs st_first_unlike, defBody st_first_unlike, defScope st_first_unlike, [], []⟩
abbrev dd_is_cycle_set : He.DefD := ⟨("is_cycle_set", none), "is_cycle_set", "is_cycle_set", defArgs st_is_cycle_set, defBody st_is_cycle_set, defScope st_is_cycle_set, [], []⟩
abbrev dd_need_cycle_set : He.DefD := ⟨("need_cycle_set", none), "need_cycle_set", "need_cycle_set", defArgs st_need_cycle_set, defBody st_need_cycle_set, defScope st_need_cycle_set, [], []⟩
abbrev dd_swap_pair : He.DefD := ⟨("swap_pair", none), "swap_pair", "swap_pair", defArgs st_swap_pair, defBody st_swap_pair, defScope st_swap_pair, [], []⟩
abbrev dd_swaps_of : He.DefD := ⟨("swaps_of", none), "swaps_of", "swaps_of", defArgs st_swaps_of, defBody st_swaps_of, defScope st_swaps_of, [], []⟩
abbrev dd__law_cup : He.DefD := ⟨("_law_cup", none), "_law_cup", "_law_cup", defArgs st__law_cup, defBody st__law_cup, defScope st__law_cup, [], []⟩
abbrev dd__law_roll : He.DefD := ⟨("_law_roll", none), "_law_roll", "_law_roll", defArgs st__law_roll, defBody st__law_roll, defScope st__law_roll, [], []⟩
abbrev dd__law_some : He.DefD := ⟨("_law_some", none), "_law_some", "_law_some", defArgs st__law_some, defBody st__law_some, defScope st__law_some, [], []⟩
abbrev dd__law_sort : He.DefD := ⟨("_law_sort", none), "_law_sort", "_law_sort", defArgs st__law_sort, defBody st__law_sort, defScope st__law_sort, [], []⟩
abbrev dd__law_like : He.DefD := ⟨("_law_like", none), "_law_like", "_law_like", defArgs st__law_like, defBody st__law_like, defScope st__law_like, [], []⟩
abbrev dd__law_error : He.DefD := ⟨("_law_error", none), "_law_error", "_law_error", defArgs st__law_error, defBody st__law_error, defScope st__law_error, [], []⟩
abbrev dd__law_turn : He.DefD := ⟨("_law_turn", none), "_law_turn", "_law_turn", defArgs st__law_turn, defBody st__law_turn, defScope st__law_turn, [], []⟩
abbrev dd__law_stock : He.DefD := ⟨("_law_stock", none), "_law_stock", "_law_stock", defArgs st__law_stock, defBody st__law_stock, defScope st__law_stock, [], []⟩
abbrev dd__law_beside : He.DefD := ⟨("_law_beside", none), "_law_beside", "_law_beside", defArgs st__law_beside, defBody st__law_beside, defScope st__law_beside, [], []⟩
abbrev dd__law_renamed : He.DefD := ⟨("_law_renamed", none), "_law_renamed", "_law_renamed", defArgs st__law_renamed, defBody st__law_renamed, defScope st__law_renamed, [], []⟩
abbrev dd__law_rows : He.DefD := ⟨("_law_rows", none), "_law_rows", "_law_rows", defArgs st__law_rows, defBody st__law_rows, defScope st__law_rows, [], []⟩
abbrev dd__law_agree : He.DefD := ⟨("_law_agree", none), "_law_agree", "_law_agree", defArgs st__law_agree, defBody st__law_agree, defScope st__law_agree, [], []⟩
abbrev dd__law_pair : He.DefD := ⟨("_law_pair", none), "_law_pair", "_law_pair", defArgs st__law_pair, defBody st__law_pair, defScope st__law_pair, [], []⟩
abbrev dd__law_thrice : He.DefD := ⟨("_law_thrice", none), "_law_thrice", "_law_thrice", defArgs st__law_thrice, defBody st__law_thrice, defScope st__law_thrice, [], []⟩
abbrev dd__law_sets_right : He.DefD := ⟨("_law_sets_right", none), "_law_sets_right", "_law_sets_right", defArgs st__law_sets_right, defBody st__law_sets_right, defScope st__law_sets_right, [], []⟩
abbrev dd__law_limits_right : He.DefD := ⟨("_law_limits_right", none), "_law_limits_right", "_law_limits_right", defArgs st__law_limits_right, defBody st__law_limits_right, defScope st__law_limits_right, [], []⟩
abbrev dd_law : He.DefD := ⟨("law", none), "law", "law", defArgs st_law, defBody st_law, defScope st_law, [], []⟩
def fn : List He.DefD := [dd_is_whole, dd_is_tuple_of, dd_is_turn, dd_back_of, dd_are_turn_rows, dd_first_unlike, dd_is_cycle_set, dd_need_cycle_set, dd_swap_pair, dd_swaps_of, dd__law_cup, dd__law_roll, dd__law_some, dd__law_sort, dd__law_like, dd__law_error, dd__law_turn, dd__law_stock, dd__law_beside, dd__law_renamed, dd__law_rows, dd__law_agree, dd__law_pair, dd__law_thrice, dd__law_sets_right, dd__law_limits_right, dd_law]
def fa_0 : List He.Fa := [.glo "is_whole", .glo "is_tuple_of", .glo "is_turn", .glo "back_of", .glo "are_turn_rows", .glo "first_unlike", .glo "is_cycle_set", .glo "need_cycle_set", .glo "swap_pair", .glo "swaps_of", .glo "_law_cup", .glo "_law_roll", .glo "_law_some", .glo "_law_sort", .glo "_law_like", .glo "_law_error", .glo "_law_turn", .glo "_law_stock", .glo "_law_beside", .glo "_law_renamed", .glo "_law_rows", .glo "_law_agree", .glo "_law_pair", .glo "_law_thrice", .glo "_law_sets_right", .glo "_law_limits_right", .glo "law", .glo "SwapError", .glo "InvalidCycle", .exc "SwapError"]
def fa_1 : List He.Fa := [.exc "InvalidCycle", .int "LETTERS" 16, .int "THINGS" 60, .free "ValueError", .free "abs", .free "all", .free "bool", .free "enumerate", .free "int", .free "isinstance", .free "len", .free "list", .free "range", .free "sorted", .free "str", .free "tuple", .free "zip"]
def fa : List He.Fa := fa_0 ++ fa_1
def loose : List Str := ["is_whole", "is_tuple_of", "is_turn", "back_of", "are_turn_rows", "first_unlike", "is_cycle_set", "need_cycle_set", "swap_pair", "swaps_of", "_law_cup", "_law_roll", "_law_some", "_law_sort", "_law_like", "_law_error", "_law_turn", "_law_stock", "_law_beside", "_law_renamed", "_law_rows", "_law_agree", "_law_pair", "_law_thrice", "_law_sets_right", "_law_limits_right", "SwapError", "InvalidCycle", "LETTERS", "THINGS"]
def tf : List (Str × Option Str) := [("_law_limits_right", none)]
def tbl__law_error : List (Str × Str) := [("SwapError", "other"), ("InvalidCycle", "cycle")]
def F__law_error : Ex → Option Str := tellF tbl__law_error
def w__law_error : Str := "none"
def exB (K : PySem.W.Frag) : Bool := kTupB K && (decide ((tf.map fun p => (He.cT K p).2).Nodup) && (tellB K "SwapError" "InvalidCycle" "cycle" "other" tbl__law_error))
end SW
set_option Elab.async false
set_option linter.all false
set_option maxRecDepth 100000
set_option maxHeartbeats 4000000
namespace SW
open PySem PySem.Spec PyProof.Rows L2
def N__law_cup : List Str := ["script", "cell"]
def b__law_cup : AS :=
  (sSeq (sAsg (aOps F_abs [(.ex (aOps F_ix [(.ex (aOps F_add [(.ex (aFr (fOps F_list [(.br 0)]))), (.ex (aFr (fLst [(eC (.int 0))])))])), (.ex (eC (.int 0)))]))]) (gNm 1))
    (sSeq (sRetF (fLst [(aIf (aT (aOps F_ge [(.br 1), (.ex (aOps F_pow [(.ex (eC (.int 10))), (.ex (eC (.int 18)))]))])) (aOps F_fdiv [(.br 1), (.ex (eC (.int 311)))]) (eC (.int 0))), (aOps F_mod [(.ex (aOps F_int [(.ex (aOps F_add [(.ex (aOps F_mul [(.br 1), (.ex (eC (.int 1091)))])), (.ex (eC (.int 94033)))]))])), (.ex (eC (.int 1048576)))])]))
    sNx))
def m__law_cup : MF := mkF 2 b__law_cup
def N_is_tuple_of : List Str := ["value", "low", "high"]
def b_is_tuple_of : AS :=
  (sSeq (sRet (aAnd (aOps (F_isi .tuple) [(.br 0)]) (aChain F_le F_le (.br 1) (.ex (aOps F_len [(.br 0)])) (.br 2))))
    sNx)
def m_is_tuple_of : MF := mkF 3 b_is_tuple_of
def N_is_whole : List Str := ["value", "low", "high"]
def b_is_whole : AS :=
  (sSeq (sRet (aAnd (aOps (F_isi .int) [(.br 0)]) (aAnd (aNot (aOps (F_isi .bool) [(.br 0)])) (aChain F_le F_le (.br 1) (.br 0) (.br 2)))))
    sNx)
def m_is_whole : MF := mkF 3 b_is_whole
def N_is_turn : List Str := ["value", "own"]
def b_is_turn : AS :=
  (sSeq (sIf (tOrA (tNotA (aT (aCall m_is_tuple_of [(.br 0), (.ex (eC (.int 1))), (.ex (eC (.int 60)))]))) (tNotA (aT (aOps F_all [(.ex (aFr (fComp [1] (iSeq (eV 0)) (gNm 1) tYes (aCall m_is_whole [(.br 1), (.ex (eC (.int 0))), (.ex (aOps F_sub [(.ex (aOps F_len [(.br 0)])), (.ex (eC (.int 1)))]))]))))])))) (sSeq (sRet (eC (.bool false)))
    sNx) sNx)
    (sSeq (sRet (aOps F_eq [(.ex (aOps F_sorted [(.br 0)])), (.ex (aFr (fRg (aRg1 (aOps F_len [(.br 0)])))))]))
    sNx))
def m_is_turn : MF := mkF 2 b_is_turn
def N_are_turn_rows : List Str := ["value", "row"]
def b_are_turn_rows : AS :=
  (sSeq (sIf (tNotA (aT (aCall m_is_tuple_of [(.br 0), (.ex (eC (.int 1))), (.ex (eC (.int 16)))]))) (sSeq (sRet (eC (.bool false)))
    sNx) sNx)
    (sSeq (sRet (aOps F_all [(.ex (aFr (fComp [1] (iSeq (eV 0)) (gNm 1) tYes (aAnd (aCall m_is_turn [(.br 1)]) (aOps F_eq [(.ex (aOps F_len [(.br 1)])), (.ex (aOps F_len [(.br 0)]))])))))]))
    sNx))
def m_are_turn_rows : MF := mkF 2 b_are_turn_rows
def N_first_unlike : List Str := ["rows", "letters", "one", "other", "first", "second", "last"]
def b_first_unlike : AS :=
  (sSeq (sAsg (aFr (fRg (aRg1 (aOps F_len [(.br 0)])))) (gNm 1))
    (sSeq (sFor (iSeq (eV 1)) (gNm 2) (sSeq (sFor (iSeq (eV 1)) (gNm 3) (sSeq (sPar [4, 5] [(aOps F_ix [(.br 0), (.ex (aOps F_ix [(.ex (aOps F_ix [(.br 0), (.br 2)])), (.br 3)]))]), (aOps F_ix [(.br 0), (.ex (aOps F_ix [(.ex (aOps F_ix [(.br 0), (.br 3)])), (.br 2)]))])])
    (sSeq (sFor (iSeq (eV 1)) (gNm 6) (sSeq (sIf (aT (aOps F_ne [(.ex (aOps F_ix [(.br 4), (.ex (aOps F_ix [(.ex (aOps F_ix [(.br 0), (.br 2)])), (.br 6)]))])), (.ex (aOps F_ix [(.br 5), (.ex (aOps F_ix [(.ex (aOps F_ix [(.br 0), (.br 3)])), (.br 6)]))]))])) (sSeq (sRet (aTup [(eV 2), (eV 3), (eV 6)]))
    sNx) sNx)
    sNx))
    sNx)))
    sNx))
    (sSeq (sRet (eC .none))
    sNx)))
def m_first_unlike : MF := mkF 7 b_first_unlike
def N_is_cycle_set : List Str := ["value"]
def b_is_cycle_set : AS :=
  (sSeq (sRet (aAnd (aCall m_are_turn_rows [(.br 0)]) (aOps F_isN [(.ex (aCall m_first_unlike [(.br 0)]))])))
    sNx)
def m_is_cycle_set : MF := mkF 1 b_is_cycle_set
def N_need_cycle_set : List Str := ["value"]
def b_need_cycle_set : AS :=
  (sSeq (sIf (tNotA (aT (aCall m_is_cycle_set [(.br 0)]))) (sSeq (sRaise "InvalidCycle")
    sNx) sNx)
    sNx)
def m_need_cycle_set : MF := mkF 1 b_need_cycle_set
def N_back_of : List Str := ["turn", "found", "at", "own"]
def b_back_of : AS :=
  (sSeq (sOwn 1 (fRep (fLst [(eC (.int 0))]) (.ex (aOps F_len [(.br 0)]))))
    (sSeq (sFor (iEnumA (eV 0)) (gTupA [(gNm 2), (gNm 3)]) (sSeq (sAsg (eV 2) (gIx 1 (eV 3)))
    sNx))
    (sSeq (sRet (aOps F_tuple [(.br 1)]))
    sNx)))
def m_back_of : MF := mkF 4 b_back_of
def N_swap_pair : List Str := ["rows", "one", "other", "first"]
def b_swap_pair : AS :=
  (sSeq (sAsg (aOps F_ix [(.ex (aCall m_back_of [(.ex (aOps F_ix [(.br 0), (.br 1)]))])), (.br 2)]) (gNm 3))
    (sSeq (sRet (aTup [(eV 3), (aOps F_ix [(.ex (aOps F_ix [(.br 0), (.br 3)])), (.br 1)])]))
    sNx))
def m_swap_pair : MF := mkF 4 b_swap_pair
def N_swaps_of : List Str := ["rows", "letters", "one", "other"]
def b_swaps_of : AS :=
  (sSeq (sDrop (aCall m_need_cycle_set [(.br 0)]))
    (sSeq (sAsg (aFr (fRg (aRg1 (aOps F_len [(.br 0)])))) (gNm 1))
    (sSeq (sRet (aOps F_tuple [(.ex (aFr (fComp [2] (iSeq (eV 1)) (gNm 2) tYes (aOps F_tuple [(.ex (aFr (fComp [3] (iSeq (eV 1)) (gNm 3) tYes (aCall m_swap_pair [(.br 0), (.br 2), (.br 3)]))))]))))]))
    sNx)))
def m_swaps_of : MF := mkF 4 b_swaps_of
def N__law_roll : List Str := ["cup", "many", "found"]
def b__law_roll : AS :=
  (sSeq (sIf (aT (aOps F_gt [(.ex (aOps F_ix [(.br 0), (.ex (eC (.int 0)))])), (.ex (eC (.int 0)))])) (sSeq (sAsg (aOps F_mod [(.ex (aOps F_int [(.ex (aOps F_ix [(.br 0), (.ex (eC (.int 0)))]))])), (.br 1)]) (gNm 2))
    (sSeq (sAsg (aOps F_fdiv [(.ex (aOps F_ix [(.br 0), (.ex (eC (.int 0)))])), (.br 1)]) (gIx 0 (eC (.int 0))))
    (sSeq (sRet (eV 2))
    sNx))) sNx)
    (sSeq (sAsg (aOps F_mod [(.ex (aOps F_int [(.ex (aOps F_add [(.ex (aOps F_mul [(.ex (aOps F_ix [(.br 0), (.ex (eC (.int 1)))])), (.ex (eC (.int 21269)))])), (.ex (eC (.int 45433)))]))])), (.ex (eC (.int 1048576)))]) (gIx 0 (eC (.int 1))))
    (sSeq (sRet (aOps F_mod [(.ex (aOps F_int [(.ex (aOps F_fdiv [(.ex (aOps F_ix [(.br 0), (.ex (eC (.int 1)))])), (.ex (eC (.int 137)))]))])), (.br 1)]))
    sNx)))
def m__law_roll : MF := mkF 3 b__law_roll
def N__law_sort : List Str := ["value"]
def b__law_sort : AS :=
  (sSeq (sIf (tOrA (aT (aOps F_isN [(.br 0)])) (aT (aOps (F_isi .bool) [(.br 0)]))) (sSeq (sRet (aIf (aT (aOps F_isN [(.br 0)])) (eC (.int 0)) (eC (.int 1))))
    sNx) sNx)
    (sSeq (sIf (tOrA (aT (aOps (F_isi .int) [(.br 0)])) (aT (aOps (F_isi .str) [(.br 0)]))) (sSeq (sRet (aIf (aT (aOps (F_isi .int) [(.br 0)])) (eC (.int 2)) (eC (.int 3))))
    sNx) sNx)
    (sSeq (sRet (aIf (aT (aOps (F_isi .tuple) [(.br 0)])) (eC (.int 4)) (aIf (aT (aOps (F_isi .list) [(.br 0)])) (eC (.int 5)) (eC (.int 6)))))
    sNx)))
def m__law_sort : MF := mkF 1 b__law_sort
def N__law_like : List Str := ["one", "other", "sort", "first", "second"]
def b__law_like (mr : MF) : AS :=
  (sSeq (sAsg (aCall m__law_sort [(.br 1)]) (gNm 2))
    (sSeq (sIf (tOrA (aT (aOps F_ne [(.ex (aCall m__law_sort [(.br 0)])), (.br 2)])) (aT (aOps F_eq [(.br 2), (.ex (eC (.int 6)))]))) (sSeq (sRet (eC (.bool false)))
    sNx) sNx)
    (sSeq (sIf (aT (aOps F_in [(.br 2), (.ex (aTup [(eC (.int 4)), (eC (.int 5))]))])) (sSeq (sRet (aAnd (aOps F_eq [(.ex (aOps F_len [(.br 0)])), (.ex (aOps F_len [(.br 1)]))]) (aOps F_eq [(.ex (aFr (fComp [3, 4] (iZipS [(eV 0), (eV 1)]) (gTupA [(gNm 3), (gNm 4)]) (tNotA (aT (aCall mr [(.br 3), (.br 4)]))) (eC (.int 1))))), (.ex (aFr (fLst [])))])))
    sNx) sNx)
    (sSeq (sRet (aOps F_eq [(.br 0), (.br 1)]))
    sNx))))
def mm__law_like : Nat → MF
  | 0 => fun _ => .bad
  | n + 1 => mkF 5 (b__law_like (mm__law_like n))
def m__law_like : MF := mm__law_like 12
def N__law_some : List Str := ["cup", "things"]
def b__law_some : AS :=
  (sSeq (sRet (aOps F_ix [(.br 1), (.ex (aCall m__law_roll [(.br 0), (.ex (aOps F_len [(.br 1)]))]))]))
    sNx)
def m__law_some : MF := mkF 2 b__law_some
def N__law_turn : List Str := ["cup", "many", "left", "found", "step", "at"]
def b__law_turn : AS :=
  (sSeq (sPar [2, 3] [(aFr (fRg (aRg1 (eV 1)))), (aFr (fLst []))])
    (sSeq (sFor (iRg (aRg1 (eV 1))) (gNm 4) (sSeq (sAsg (aCall m__law_roll [(.br 0), (.ex (aOps F_len [(.br 2)]))]) (gNm 5))
    (sSeq (sAsg (aOps F_add [(.br 3), (.ex (aFr (fLst [(aOps F_ix [(.br 2), (.br 5)])])))]) (gNm 3))
    (sSeq (sAsg (aOps F_add [(.ex (aSl (.br 2) none (some (eV 5)))), (.ex (aSl (.br 2) (some (aOps F_add [(.br 5), (.ex (eC (.int 1)))])) none))]) (gNm 2))
    sNx))))
    (sSeq (sRet (aOps F_tuple [(.br 3)]))
    sNx)))
def m__law_turn : MF := mkF 6 b__law_turn
def N__law_stock : List Str := ["few"]
def b__law_stock : AS :=
  (sSeq (sAsg (aFr (fLst [(aTup [(aTup [(eC (.int 0))])]), (aTup [(aTup [(eC (.int 0)), (eC (.int 1))]), (aTup [(eC (.int 0)), (eC (.int 1))])]), (aTup [(aTup [(eC (.int 1)), (eC (.int 0))]), (aTup [(eC (.int 1)), (eC (.int 0))])]), (aTup [(aTup [(eC (.int 0)), (eC (.int 1)), (eC (.int 2))]), (aTup [(eC (.int 0)), (eC (.int 1)), (eC (.int 2))]), (aTup [(eC (.int 1)), (eC (.int 0)), (eC (.int 2))])]), (aTup [(aTup [(eC (.int 1)), (eC (.int 2)), (eC (.int 0))]), (aTup [(eC (.int 1)), (eC (.int 2)), (eC (.int 0))]), (aTup [(eC (.int 1)), (eC (.int 2)), (eC (.int 0))])])])) (gNm 0))
    (sSeq (sRet (aOps F_add [(.br 0), (.ex (aFr (fLst [(aTup [(aTup [(eC (.int 1)), (eC (.int 0)), (eC (.int 2))]), (aTup [(eC (.int 1)), (eC (.int 0)), (eC (.int 2))]), (aTup [(eC (.int 0)), (eC (.int 1)), (eC (.int 2))])]), (aTup [(aTup [(eC (.int 0)), (eC (.int 1)), (eC (.int 3)), (eC (.int 2))]), (aTup [(eC (.int 3)), (eC (.int 2)), (eC (.int 0)), (eC (.int 1))]), (aTup [(eC (.int 2)), (eC (.int 3)), (eC (.int 1)), (eC (.int 0))]), (aTup [(eC (.int 1)), (eC (.int 0)), (eC (.int 2)), (eC (.int 3))])])])))]))
    sNx))
def m__law_stock : MF := mkF 1 b__law_stock
def N__law_beside : List Str := ["one", "other", "first", "second", "rows", "row", "own"]
def b__law_beside : AS :=
  (sSeq (sAsg (aTup [(aOps F_len [(.br 0)]), (aOps F_len [(.br 1)])]) (gTupA [(gNm 2), (gNm 3)]))
    (sSeq (sAsg (aFr (fComp [5] (iSeq (eV 0)) (gNm 5) tYes (aOps F_add [(.br 5), (.ex (aTupRg (aRg2 (eV 2) (aOps F_add [(.br 2), (.br 3)]))))]))) (gNm 4))
    (sSeq (sRet (aOps F_tuple [(.ex (aOps F_add [(.br 4), (.ex (aFr (fComp [5] (iSeq (eV 1)) (gNm 5) tYes (aOps F_add [(.ex (aTupRg (aRg1 (eV 2)))), (.ex (aOps F_tuple [(.ex (aFr (fComp [6] (iSeq (eV 5)) (gNm 6) tYes (aOps F_add [(.br 2), (.br 6)]))))]))]))))]))]))
    sNx)))
def m__law_beside : MF := mkF 7 b__law_beside
def N__law_renamed : List Str := ["rows", "turn", "many", "one", "other"]
def b__law_renamed : AS :=
  (sSeq (sAsg (aOps F_len [(.br 0)]) (gNm 2))
    (sSeq (sRet (aOps F_tuple [(.ex (aFr (fComp [3] (iRg (aRg1 (eV 2))) (gNm 3) tYes (aOps F_tuple [(.ex (aFr (fComp [4] (iRg (aRg1 (eV 2))) (gNm 4) tYes (aOps F_ix [(.br 1), (.ex (aOps F_ix [(.ex (aOps F_ix [(.br 0), (.ex (aOr2 (aMeth .tuple F_idxT (.br 1) [(.br 3)]) (aMeth .list F_idxL (.br 1) [(.br 3)])))])), (.ex (aOr2 (aMeth .tuple F_idxT (.br 1) [(.br 4)]) (aMeth .list F_idxL (.br 1) [(.br 4)])))]))]))))]))))]))
    sNx))
def m__law_renamed : MF := mkF 5 b__law_renamed
def N__law_rows : List Str := ["cup", "one", "other", "rows"]
def b__law_rows : AS :=
  (sSeq (sPar [1, 2] [(aCall m__law_some [(.br 0), (.ex (aCall m__law_stock []))]), (aCall m__law_some [(.br 0), (.ex (aCall m__law_stock []))])])
    (sSeq (sAsg (aIf (aT (aOps F_gt [(.ex (aCall m__law_roll [(.br 0), (.ex (eC (.int 3)))])), (.ex (eC (.int 0)))])) (aCall m__law_beside [(.br 1), (.br 2)]) (eV 1)) (gNm 3))
    (sSeq (sRet (aCall m__law_renamed [(.br 3), (.ex (aCall m__law_turn [(.br 0), (.ex (aOps F_len [(.br 3)]))]))]))
    sNx)))
def m__law_rows : MF := mkF 4 b__law_rows
def N__law_agree : List Str := ["rows", "many", "one", "other", "first", "second", "last"]
def b__law_agree : AS :=
  (sSeq (sAsg (aOps F_len [(.br 0)]) (gNm 1))
    (sSeq (sFor (iRg (aRg1 (eV 1))) (gNm 2) (sSeq (sFor (iRg (aRg1 (eV 1))) (gNm 3) (sSeq (sPar [4, 5] [(aOps F_ix [(.ex (aOps F_ix [(.br 0), (.br 2)])), (.br 3)]), (aOps F_ix [(.ex (aOps F_ix [(.br 0), (.br 3)])), (.br 2)])])
    (sSeq (sFor (iRg (aRg1 (eV 1))) (gNm 6) (sSeq (sIf (aT (aOps F_ne [(.ex (aOps F_ix [(.ex (aOps F_ix [(.br 0), (.br 4)])), (.ex (aOps F_ix [(.ex (aOps F_ix [(.br 0), (.br 2)])), (.br 6)]))])), (.ex (aOps F_ix [(.ex (aOps F_ix [(.br 0), (.br 5)])), (.ex (aOps F_ix [(.ex (aOps F_ix [(.br 0), (.br 3)])), (.br 6)]))]))])) (sSeq (sRet (eC (.bool false)))
    sNx) sNx)
    sNx))
    sNx)))
    sNx))
    (sSeq (sRet (eC (.bool true)))
    sNx)))
def m__law_agree : MF := mkF 7 b__law_agree
def N__law_pair : List Str := ["rows", "one", "other", "first"]
def b__law_pair : AS :=
  (sSeq (sFor (iRg (aRg1 (aOps F_len [(.br 0)]))) (gNm 3) (sSeq (sIf (aT (aOps F_eq [(.ex (aOps F_ix [(.ex (aOps F_ix [(.br 0), (.br 1)])), (.br 3)])), (.br 2)])) (sSeq (sRet (aTup [(eV 3), (aOps F_ix [(.ex (aOps F_ix [(.br 0), (.br 3)])), (.br 1)])]))
    sNx) sNx)
    sNx))
    (sSeq (sRet (aTup [(aOps F_neg [(.ex (eC (.int 1)))]), (aOps F_neg [(.ex (eC (.int 1)))])]))
    sNx))
def m__law_pair : MF := mkF 4 b__law_pair
def N__law_thrice : List Str := ["table", "many", "one", "other", "last", "a", "b", "c", "d", "e", "f", "g"]
def b__law_thrice : AS :=
  (sSeq (sFor (iRg (aRg1 (eV 1))) (gNm 2) (sSeq (sFor (iRg (aRg1 (eV 1))) (gNm 3) (sSeq (sFor (iRg (aRg1 (eV 1))) (gNm 4) (sSeq (sAsg (aOps F_ix [(.ex (aOps F_ix [(.br 0), (.br 2)])), (.br 3)]) (gTupA [(gNm 5), (gNm 6)]))
    (sSeq (sAsg (aOps F_ix [(.ex (aOps F_ix [(.br 0), (.br 6)])), (.br 4)]) (gTupA [(gNm 7), (gNm 8)]))
    (sSeq (sAsg (aOps F_ix [(.ex (aOps F_ix [(.br 0), (.br 5)])), (.br 7)]) (gTupA [(gNm 5), (gNm 7)]))
    (sSeq (sAsg (aOps F_ix [(.ex (aOps F_ix [(.br 0), (.br 3)])), (.br 4)]) (gTupA [(gNm 9), (gNm 10)]))
    (sSeq (sAsg (aOps F_ix [(.ex (aOps F_ix [(.br 0), (.br 2)])), (.br 9)]) (gTupA [(gNm 11), (gNm 9)]))
    (sSeq (sAsg (aOps F_ix [(.ex (aOps F_ix [(.br 0), (.br 9)])), (.br 10)]) (gTupA [(gNm 9), (gNm 10)]))
    (sSeq (sIf (aT (aOps F_ne [(.ex (aTup [(eV 5), (eV 7), (eV 8)])), (.ex (aTup [(eV 11), (eV 9), (eV 10)]))])) (sSeq (sRet (eC (.bool false)))
    sNx) sNx)
    sNx))))))))
    sNx))
    sNx))
    (sSeq (sRet (eC (.bool true)))
    sNx))
def m__law_thrice : MF := mkF 12 b__law_thrice
def N__law_sets_right : List Str := ["cup", "rows", "many", "table", "due", "one", "twice", "row", "other", "items", "bent", "wrong", "first", "second"]
def b__law_sets_right : AS :=
  (sSeq (sAsg (aCall m__law_rows [(.br 0)]) (gNm 1))
    (sSeq (sAsg (aOps F_len [(.br 1)]) (gNm 2))
    (sSeq (sAsg (aCall m_swaps_of [(.br 1)]) (gNm 3))
    (sSeq (sAsg (aOps F_tuple [(.ex (aFr (fComp [5] (iRg (aRg1 (eV 2))) (gNm 5) tYes (aOps F_tuple [(.ex (aFr (fComp [8] (iRg (aRg1 (eV 2))) (gNm 8) tYes (aCall m__law_pair [(.br 1), (.br 5), (.br 8)]))))]))))]) (gNm 4))
    (sSeq (sIf (tNotA (aT (aCall m__law_like [(.ex (aFr (fLst [(aCall m_is_cycle_set [(.br 1)]), (eV 3)]))), (.ex (aFr (fLst [(eC (.bool true)), (eV 4)])))]))) (sSeq (sRet (eC (.bool false)))
    sNx) sNx)
    (sSeq (sFor (iRg (aRg1 (eV 2))) (gNm 5) (sSeq (sAsg (aFr (fComp [12, 13] (iSeq (aOps F_ix [(.br 3), (.br 5)])) (gTupA [(gNm 12), (gNm 13)]) tYes (aOps F_ix [(.ex (aOps F_ix [(.br 3), (.br 12)])), (.br 13)]))) (gNm 6))
    (sSeq (sIf (aT (aOps F_ne [(.br 6), (.ex (aFr (fComp [8] (iRg (aRg1 (eV 2))) (gNm 8) tYes (aTup [(eV 5), (eV 8)]))))])) (sSeq (sRet (eC (.bool false)))
    sNx) sNx)
    sNx)))
    (sSeq (sIf (tNotA (aT (aCall m__law_thrice [(.br 3), (.br 2)]))) (sSeq (sRet (eC (.bool false)))
    sNx) sNx)
    (sSeq (sAsg (aTup [(aCall m__law_roll [(.br 0), (.br 2)]), (aCall m__law_roll [(.br 0), (.br 2)]), (aCall m__law_roll [(.br 0), (.br 2)])]) (gTupA [(gNm 7), (gNm 5), (gNm 8)]))
    (sSeq (sOwn 9 (fOps F_list [(.ex (aOps F_ix [(.br 1), (.br 7)]))]))
    (sSeq (sAsg (aTup [(aOps F_ix [(.br 9), (.br 8)]), (aOps F_ix [(.br 9), (.br 5)])]) (gTupA [(gIx 9 (eV 5)), (gIx 9 (eV 8))]))
    (sSeq (sAsg (aOps F_add [(.ex (aOps F_add [(.ex (aSl (.br 1) none (some (eV 7)))), (.ex (aTup [(aOps F_tuple [(.br 9)])]))])), (.ex (aSl (.br 1) (some (aOps F_add [(.br 7), (.ex (eC (.int 1)))])) none))]) (gNm 10))
    (sSeq (sIf (tNotA (aT (aCall m__law_like [(.ex (aCall m_is_cycle_set [(.br 10)])), (.ex (aCall m__law_agree [(.br 10)]))]))) (sSeq (sRet (eC (.bool false)))
    sNx) sNx)
    (sSeq (sAsg (aOps F_add [(.ex (aOps F_add [(.ex (aSl (.br 1) none (some (eV 7)))), (.ex (aTup [(aOps F_add [(.ex (aOps F_add [(.ex (aSl (.ex (aOps F_ix [(.br 1), (.br 7)])) none (some (eV 5)))), (.ex (aTup [(aOps F_ix [(.ex (aOps F_ix [(.br 1), (.br 7)])), (.br 8)])]))])), (.ex (aSl (.ex (aOps F_ix [(.br 1), (.br 7)])) (some (aOps F_add [(.br 5), (.ex (eC (.int 1)))])) none))])]))])), (.ex (aSl (.br 1) (some (aOps F_add [(.br 7), (.ex (eC (.int 1)))])) none))]) (gNm 11))
    (sSeq (sRet (aCall m__law_like [(.ex (aCall m_is_cycle_set [(.br 11)])), (.ex (aOps F_eq [(.br 5), (.br 8)]))]))
    sNx))))))))))))))
def m__law_sets_right : MF := mkF 14 b__law_sets_right
def N__law_limits_right : List Str := ["cup", "f", "s", "told", "due", "odds", "goods", "odd"]
def b__law_limits_right : AS :=
  (sSeq (sAsg (aTup [(aTup [(aTup [(eC (.int 1)), (eC (.int 0))]), (aTup [(eC (.int 1)), (eC (.int 0))])]), (aTup [(aTup [(eC (.int 0)), (eC (.int 1)), (eC (.int 2))]), (aTup [(eC (.int 0)), (eC (.int 1)), (eC (.int 2))]), (aTup [(eC (.int 1)), (eC (.int 0)), (eC (.int 2))])])]) (gTupA [(gNm 1), (gNm 2)]))
    (sSeq (sAsg (aFr (fLst [(aCall m_swaps_of [(.br 1)]), (aOps F_ix [(.ex (aCall m_swaps_of [(.br 2)])), (.ex (eC (.int 2)))]), (aOps F_ix [(.ex (aCall m_swaps_of [(.br 2)])), (.ex (eC (.int 0)))]), (aCall m_swaps_of [(.ex (aTup [(aTup [(eC (.int 0))])]))]), (aOps F_ix [(.ex (aCall m_swaps_of [(.ex (aOps F_mul [(.ex (aTup [(aTup [(eC (.int 1)), (eC (.int 2)), (eC (.int 0))])])), (.ex (eC (.int 3)))]))])), (.ex (eC (.int 0)))])])) (gNm 3))
    (sSeq (sAsg (aFr (fLst [(aTup [(aTup [(aTup [(eC (.int 1)), (eC (.int 1))]), (aTup [(eC (.int 0)), (eC (.int 1))])]), (aTup [(aTup [(eC (.int 1)), (eC (.int 0))]), (aTup [(eC (.int 0)), (eC (.int 0))])])]), (aTup [(aTup [(eC (.int 1)), (eC (.int 2))]), (aTup [(eC (.int 0)), (eC (.int 2))]), (aTup [(eC (.int 2)), (eC (.int 2))])]), (aTup [(aTup [(eC (.int 0)), (eC (.int 0))]), (aTup [(eC (.int 1)), (eC (.int 0))]), (aTup [(eC (.int 2)), (eC (.int 1))])]), (aTup [(aTup [(aTup [(eC (.int 0)), (eC (.int 0))])])]), (aTup [(aTup [(eC (.int 2)), (eC (.int 1))]), (aTup [(eC (.int 0)), (eC (.int 1))]), (aTup [(eC (.int 1)), (eC (.int 1))])])])) (gNm 4))
    (sSeq (sIf (tNotA (aT (aCall m__law_like [(.br 3), (.br 4)]))) (sSeq (sRet (eC (.bool false)))
    sNx) sNx)
    (sSeq (sAsg (aFr (fLst [(aTup [(aTup [(eC (.int 0)), (eC (.int 2)), (eC (.int 1))]), (aTup [(eC (.int 1)), (eC (.int 0)), (eC (.int 2))]), (aTup [(eC (.int 0)), (eC (.int 1)), (eC (.int 2))])]), (aTup [(aTup [(eC (.int 0)), (eC (.int 1))]), (aTup [(eC (.int 1)), (eC (.int 0))])]), (aTup [(aTup [(eC (.int 1)), (eC (.int 0))]), (aTup [(eC (.int 0)), (eC (.int 1))])]), (aTup [(aTup [(eC (.int 0)), (eC (.int 1)), (eC (.int 2))]), (aTup [(eC (.int 1)), (eC (.int 0)), (eC (.int 2))]), (aTup [(eC (.int 0)), (eC (.int 1)), (eC (.int 2))])]), (aTup []), (aTup [(aTup [(eC (.int 0)), (eC (.int 1))])])])) (gNm 5))
    (sSeq (sAsg (aOps F_add [(.br 5), (.ex (aFr (fLst [(aTup [(aTup [(eC (.int 0)), (eC (.int 1))]), (aTup [(eC (.int 0))])]), (aTup [(aTup [(eC (.int 0)), (eC (.int 1))]), (aTup [(eC (.int 0)), (eC (.int 1))]), (aTup [(eC (.int 0)), (eC (.int 1))])]), (aFr (fLst [(aTup [(eC (.int 0))])])), (aTup [(aFr (fLst [(eC (.int 0))]))]), (aTup [(aTup [(eC (.bool false))])]), (eC .none), (eC (.int 0)), (eC (.str "01")), (aTup [(aTup [(eC (.int 1))])]), (aTup [(aTup [(eC (.int 0)), (eC (.int 0))]), (aTup [(eC (.int 0)), (eC (.int 0))])])])))]) (gNm 5))
    (sSeq (sAsg (aOps F_add [(.br 5), (.ex (aFr (fLst [(aOps F_mul [(.ex (aTup [(aTupRg (aRg1 (eC (.int 17))))])), (.ex (eC (.int 17)))])])))]) (gNm 5))
    (sSeq (sAsg (aFr (fLst [(aTup [(aTup [(eC (.int 0))])]), (eV 1), (eV 2), (aTup [(aTup [(eC (.int 0)), (eC (.int 1))]), (aTup [(eC (.int 0)), (eC (.int 1))])]), (aOps F_mul [(.ex (aTup [(aTupRg (aRg1 (eC (.int 16))))])), (.ex (eC (.int 16)))]), (aOps F_mul [(.ex (aTup [(aTup [(eC (.int 1)), (eC (.int 2)), (eC (.int 0))])])), (.ex (eC (.int 3)))]), (aTup [(aTup [(eC (.int 1)), (eC (.int 0)), (eC (.int 2))]), (aTup [(eC (.int 1)), (eC (.int 0)), (eC (.int 2))]), (aTup [(eC (.int 0)), (eC (.int 1)), (eC (.int 2))])])])) (gNm 6))
    (sSeq (sIf (tNotA (aT (aCall m__law_like [(.ex (aFr (fComp [7] (iSeq (aOps F_add [(.br 5), (.br 6)])) (gNm 7) tYes (aCall m_is_cycle_set [(.br 7)])))), (.ex (aOps F_add [(.ex (aFr (fRep (fLst [(eC (.bool false))]) (.ex (eC (.int 17)))))), (.ex (aFr (fRep (fLst [(eC (.bool true))]) (.ex (eC (.int 7))))))]))]))) (sSeq (sRet (eC (.bool false)))
    sNx) sNx)
    (sSeq (sRet (aOps F_eq [(.ex (aFr (fComp [7] (iSeq (eV 5)) (gNm 7) tYes (aTold F__law_error w__law_error (aCall m_swaps_of [(.br 7)]))))), (.ex (aFr (fRep (fLst [(eC (.str "cycle"))]) (.ex (eC (.int 17))))))]))
    sNx))))))))))
def m__law_limits_right : MF := mkF 8 b__law_limits_right
def N_law : List Str := ["script", "cup", "turn"]
def b_law : AS :=
  (sSeq (sOwn 1 (fCall m__law_cup [(.br 0)]))
    (sSeq (sIf (tNotA (aT (aCall m__law_limits_right [(.br 1)]))) (sSeq (sRet (eC (.bool false)))
    sNx) sNx)
    (sSeq (sFor (iRg (aRg1 (eC (.int 5)))) (gNm 2) (sSeq (sIf (tNotA (aT (aCall m__law_sets_right [(.br 1)]))) (sSeq (sRet (eC (.bool false)))
    sNx) sNx)
    sNx))
    (sSeq (sRet (eC (.bool true)))
    sNx))))
def m_law : MF := mkF 3 b_law
end SW
set_option Elab.async false
set_option linter.all false
set_option maxRecDepth 100000
set_option maxHeartbeats 4000000
namespace SW
open PySem PySem.Spec PyProof.Rows L2
section
variable [Tab] {P : Program} {w : World} {K : PySem.W.Frag} {mg : Str → Option Value} {base : Heap}
def TbOk (K : PySem.W.Frag) (base : Heap) (mg : Str → Option Value) [Tab] : Prop := (∀ p ∈ tf, LamX.TabB base mg (He.cT K p).1 (He.cT K p).2 ∧ ((He.cT K p).2, p.1 ++ ".<locals>.<lambda>") ∈ Tab.T ∧ ∀ z ∈ Tab.T, z.1 = (He.cT K p).2 → z.2 = p.1 ++ ".<locals>.<lambda>")
theorem sc__law_error : FnScope ["call", "e"] ["call"] (defScope st__law_error) := ⟨rfl, rfl, rfl, by decide +kernel, rfl, by decide +kernel, by decide +kernel⟩
theorem tb__law_error {mgx : Str → Option Value} (c : Fx K mgx fn fa exB) : tellB K "SwapError" "InvalidCycle" "cycle" "other" tbl__law_error = true := by
  have h := c.more
  unfold exB at h
  simp only [Bool.and_eq_true] at h
  exact h.2.2
theorem toldX__law_error {X : Cx} {E : WX} {x : Str} (c : Fx X.K X.mg fn fa exB) (ct : TbOk X.K X.base X.mg) {k : Nat} {params : Arguments} {body : Expr} {scope : Scope} {f : AE} {lpos p pos : Pos}
    (hq : X.env.qual ++ "<lambda>" = x ++ ".<locals>.<lambda>") (hcode : (x, none) ∈ tf ∧ X.env.code = .ref (He.codeOf X.K (x, none))) (hr : Room (k + 2) X.A) (L : LamX.LamS X.env.scope scope)
    (hbody : ∀ (A : Around) (outer : List Env) (s : Shared) (H : Hp) (E : XK) (f' c' : Addr), Room k (A.deeper (LamX.lamEnv X scope s.heap.objs.size f' c')) → Takes (LamX.lamCx X A outer s H E scope f' c') (fun c d _ H' => E c d H') → EV (LamX.lamCx X A outer s H E scope f' c') (fun c d _ H' => E c d H') body f)
    (hg : Gl X "_law_error" := by rfl) (hdef : defaultsOf params X.env = ([], []) := by rfl) (hbind : ∀ (q : Str) (cl : List (Str × Addr)) (pm cv ctv : Value), bindArgs (PySem.W.kla_fn "<lambda>" q params body scope cl pm cv ctv) ⟨[], []⟩ = pure [] := by intros; rfl) :
    EV X E (.Call (.Name "_law_error" p) [.Lambda params body scope lpos] [] pos) (aTold F__law_error w__law_error f) :=
  v_toldX c (a := "call") (Ng := ["call", "e"]) 15 15 rfl rfl hg sc__law_error rfl (by first | exact .inl rfl | exact .inr (.inl rfl)) (fun _ _ _ _ _ _ us hl => match us, hl with | [_], _ => rfl)
    (fun g cdg => gives_if (eS := "SwapError") (eT := "InvalidCycle") (en := "e") (w1 := "cycle") (w2 := "other") (sn := "none") rfl (c.g 27) rfl (c.g 28) rfl (c.f 39) rfl (by decide +kernel) (tell_ok (tb__law_error c)))
    (ct _ hcode.1).1 hcode.2 (by rw [hq]; exact (ct _ hcode.1).2.1) (by rw [hq]; exact (ct _ hcode.1).2.2) hr L hbody hdef hbind
theorem sc__law_cup : FnScope N__law_cup ["script"] (defScope st__law_cup) := ⟨rfl, rfl, rfl, by decide +kernel, rfl, by decide +kernel, by decide +kernel⟩
theorem ok__law_cup (c : Fx K mg fn fa exB) : OkD P w K mg base "_law_cup" 1 ["script"] N__law_cup m__law_cup :=
  okD_of (body := b__law_cup) (k := 0) c 10 10 rfl rfl sc__law_cup (fun _ _ _ _ _ _ us hl => match us, hl with | [_], _ => rfl) (fun f cdv A outer s H E hr tk => by
    have S := sc__law_cup
    exact (b_cons (us_set 1 S.nd (u_abs (c.f 34) (vs_cons (v_ex (u_ix (v_ex (u_add (v_ex (v_fr (uf_list (c.f 41) (vs_cons (vn 0) vs_nil)))) (v_ex (v_fr (f_lst (d_cons v_int d_nil)))))) (v_ex v_int))) vs_nil)))
    (b_cons (s_retF (f_lst (d_cons (v_if (ut_ge hr (vn 1) (v_ex (u_pow (v_ex v_int) (v_ex v_int)))) (u_fdiv (vn 1) (v_ex v_int)) v_int) (d_cons (u_mod (v_ex (u_int (c.f 38) (vs_cons (v_ex (u_add (v_ex (u_mul (vn 1) (v_ex v_int))) (v_ex v_int))) vs_nil))) (v_ex v_int)) d_nil))))
    b_nil)))
theorem sc_is_tuple_of : FnScope N_is_tuple_of ["value", "low", "high"] (defScope st_is_tuple_of) := ⟨rfl, rfl, rfl, by decide +kernel, rfl, by decide +kernel, by decide +kernel⟩
theorem ok_is_tuple_of (c : Fx K mg fn fa exB) : OkD P w K mg base "is_tuple_of" 1 ["value", "low", "high"] N_is_tuple_of m_is_tuple_of :=
  okD_of (body := b_is_tuple_of) (k := 0) c 1 1 rfl rfl sc_is_tuple_of (fun _ _ _ _ _ _ us hl => match us, hl with | [_, _, _], _ => rfl) (fun f cdv A outer s H E hr tk => by
    have S := sc_is_tuple_of
    exact (b_cons (s_ret (v_and (u_isi .tuple (c.f 39) (c.f 45) (vn 0)) (v_one (v_chain op_leA op_leA s_le s_le (vn 1) (v_ex (u_len (c.f 40) (vs_cons (vn 0) vs_nil))) (vn 2)))))
    b_nil))
theorem sc_is_whole : FnScope N_is_whole ["value", "low", "high"] (defScope st_is_whole) := ⟨rfl, rfl, rfl, by decide +kernel, rfl, by decide +kernel, by decide +kernel⟩
theorem ok_is_whole (c : Fx K mg fn fa exB) : OkD P w K mg base "is_whole" 1 ["value", "low", "high"] N_is_whole m_is_whole :=
  okD_of (body := b_is_whole) (k := 0) c 0 0 rfl rfl sc_is_whole (fun _ _ _ _ _ _ us hl => match us, hl with | [_, _, _], _ => rfl) (fun f cdv A outer s H E hr tk => by
    have S := sc_is_whole
    exact (b_cons (s_ret (v_and (u_isi .int (c.f 39) (c.f 38) (vn 0)) (v_and (v_not (u_isi .bool (c.f 39) (c.f 36) (vn 0))) (v_one (v_chain op_leA op_leA s_le s_le (vn 1) (vn 0) (vn 2))))))
    b_nil))
theorem sc_is_turn : FnScope N_is_turn ["value"] (defScope st_is_turn) := ⟨rfl, rfl, rfl, by decide +kernel, rfl, by decide +kernel, by decide +kernel⟩
theorem ok_is_turn (c : Fx K mg fn fa exB) (ok_is_tuple_of : OkD P w K mg base "is_tuple_of" 1 ["value", "low", "high"] N_is_tuple_of m_is_tuple_of) (ok_is_whole : OkD P w K mg base "is_whole" 1 ["value", "low", "high"] N_is_whole m_is_whole) : OkD P w K mg base "is_turn" 2 ["value"] N_is_turn m_is_turn :=
  okD_of (body := b_is_turn) (k := 1) c 2 2 rfl rfl sc_is_turn (fun _ _ _ _ _ _ us hl => match us, hl with | [_], _ => rfl) (fun f cdv A outer s H E hr tk => by
    have S := sc_is_turn
    exact (b_cons (s_if (EW.t (w_or (t_not (t_val (v_callD ok_is_tuple_of tk hr rfl (vs_cons (vn 0) (vs_cons (v_ex v_int) (vs_cons (v_ex (gi (c.i 32))) vs_nil)))))) (w_or1 (t_not (t_val (u_all rfl (c.f 35) (vs_cons (v_ex (v_fr (f_comp (own := [("own", 1)]) (ws := [1]) rfl S.nd (i_seq (bb := false) (vv 0)) (blkOk_by (N := N_is_turn) (sc := defScope st_is_turn) (by decide +kernel)) (fun _ _ _ _ _ => (ug 1 S.nd)) (fun _ _ _ _ _ => ts_nil) (fun _ _ _ _ _ => (v_callD ok_is_whole LamX.takes0 hr rfl (vs_cons (vn 1) (vs_cons (v_ex v_int) (vs_cons (v_ex (u_sub (v_ex (u_len (c.f 40) (vs_cons (vn 0) vs_nil))) (v_ex v_int))) vs_nil)))))))) vs_nil))))))) (b_cons (s_ret v_bl)
    b_nil) b_nil)
    (b_cons (s_ret (u_eq hr (v_ex (u_sorted (c.f 43) (vs_cons (vn 0) vs_nil))) (v_ex (v_fr (f_listRg rfl rfl (c.f 41) (rg_1 rfl (c.f 42) (u_len (c.f 40) (vs_cons (vn 0) vs_nil))))))))
    b_nil)))
theorem sc_are_turn_rows : FnScope N_are_turn_rows ["value"] (defScope st_are_turn_rows) := ⟨rfl, rfl, rfl, by decide +kernel, rfl, by decide +kernel, by decide +kernel⟩
theorem ok_are_turn_rows (c : Fx K mg fn fa exB) (ok_is_tuple_of : OkD P w K mg base "is_tuple_of" 1 ["value", "low", "high"] N_is_tuple_of m_is_tuple_of) (ok_is_turn : OkD P w K mg base "is_turn" 2 ["value"] N_is_turn m_is_turn) : OkD P w K mg base "are_turn_rows" 3 ["value"] N_are_turn_rows m_are_turn_rows :=
  okD_of (body := b_are_turn_rows) (k := 2) c 4 4 rfl rfl sc_are_turn_rows (fun _ _ _ _ _ _ us hl => match us, hl with | [_], _ => rfl) (fun f cdv A outer s H E hr tk => by
    have S := sc_are_turn_rows
    exact (b_cons (s_if (t_not (t_val (v_callD ok_is_tuple_of tk hr rfl (vs_cons (vn 0) (vs_cons (v_ex v_int) (vs_cons (v_ex (gi (c.i 31))) vs_nil)))))) (b_cons (s_ret v_bl)
    b_nil) b_nil)
    (b_cons (s_ret (u_all rfl (c.f 35) (vs_cons (v_ex (v_fr (f_comp (own := [("row", 1)]) (ws := [1]) rfl S.nd (i_seq (bb := false) (vv 0)) (blkOk_by (N := N_are_turn_rows) (sc := defScope st_are_turn_rows) (by decide +kernel)) (fun _ _ _ _ _ => (ug 1 S.nd)) (fun _ _ _ _ _ => ts_nil) (fun _ _ _ _ _ => (v_and (v_callD ok_is_turn LamX.takes0 hr rfl (vs_cons (vn 1) vs_nil)) (v_one (u_eq hr (v_ex (u_len (c.f 40) (vs_cons (vn 1) vs_nil))) (v_ex (u_len (c.f 40) (vs_cons (vn 0) vs_nil)))))))))) vs_nil)))
    b_nil)))
theorem sc_first_unlike : FnScope N_first_unlike ["rows"] (defScope st_first_unlike) := ⟨rfl, rfl, rfl, by decide +kernel, rfl, by decide +kernel, by decide +kernel⟩
theorem ok_first_unlike (c : Fx K mg fn fa exB) : OkD P w K mg base "first_unlike" 1 ["rows"] N_first_unlike m_first_unlike :=
  okD_of (body := b_first_unlike) (k := 0) c 5 5 rfl rfl sc_first_unlike (fun _ _ _ _ _ _ us hl => match us, hl with | [_], _ => rfl) (fun f cdv A outer s H E hr tk => by
    have S := sc_first_unlike
    exact (b_cons (us_set 1 S.nd (v_fr (f_listRg rfl rfl (c.f 41) (rg_1 rfl (c.f 42) (u_len (c.f 40) (vs_cons (vn 0) vs_nil))))))
    (b_cons (s_for (passes_of rfl) rfl (i_seq (bb := false) (vv 1)) (ug 2 S.nd) (b_cons (s_for (passes_of rfl) rfl (i_seq (bb := false) (vv 1)) (ug 3 S.nd) (b_cons (s_par (i := 4) (j := 5) rfl S.nd rfl rfl rfl rfl (d_cons (u_ix (vn 0) (v_ex (u_ix (v_ex (u_ix (vn 0) (vn 2))) (vn 3)))) (d_cons (u_ix (vn 0) (v_ex (u_ix (v_ex (u_ix (vn 0) (vn 3))) (vn 2)))) d_nil)))
    (b_cons (s_for (passes_of rfl) rfl (i_seq (bb := false) (vv 1)) (ug 6 S.nd) (b_cons (s_if (ut_ne hr (v_ex (u_ix (vn 4) (v_ex (u_ix (v_ex (u_ix (vn 0) (vn 2))) (vn 6))))) (v_ex (u_ix (vn 5) (v_ex (u_ix (v_ex (u_ix (vn 0) (vn 3))) (vn 6)))))) (b_cons (s_ret (v_tup (d_cons (vv 2) (d_cons (vv 3) (d_cons (vv 6) d_nil)))))
    b_nil) b_nil)
    b_nil))
    b_nil)))
    b_nil))
    (b_cons (s_ret v_non)
    b_nil))))
theorem sc_is_cycle_set : FnScope N_is_cycle_set ["value"] (defScope st_is_cycle_set) := ⟨rfl, rfl, rfl, by decide +kernel, rfl, by decide +kernel, by decide +kernel⟩
theorem ok_is_cycle_set (c : Fx K mg fn fa exB) (ok_are_turn_rows : OkD P w K mg base "are_turn_rows" 3 ["value"] N_are_turn_rows m_are_turn_rows) (ok_first_unlike : OkD P w K mg base "first_unlike" 1 ["rows"] N_first_unlike m_first_unlike) : OkD P w K mg base "is_cycle_set" 4 ["value"] N_is_cycle_set m_is_cycle_set :=
  okD_of (body := b_is_cycle_set) (k := 3) c 6 6 rfl rfl sc_is_cycle_set (fun _ _ _ _ _ _ us hl => match us, hl with | [_], _ => rfl) (fun f cdv A outer s H E hr tk => by
    have S := sc_is_cycle_set
    exact (b_cons (s_ret (v_and (v_callD ok_are_turn_rows tk hr rfl (vs_cons (vn 0) vs_nil)) (v_one (v_isN (v_ex (v_callD ok_first_unlike tk hr rfl (vs_cons (vn 0) vs_nil)))))))
    b_nil))
theorem sc_need_cycle_set : FnScope N_need_cycle_set ["value"] (defScope st_need_cycle_set) := ⟨rfl, rfl, rfl, by decide +kernel, rfl, by decide +kernel, by decide +kernel⟩
theorem ok_need_cycle_set (c : Fx K mg fn fa exB) (ok_is_cycle_set : OkD P w K mg base "is_cycle_set" 4 ["value"] N_is_cycle_set m_is_cycle_set) : OkD P w K mg base "need_cycle_set" 5 ["value"] N_need_cycle_set m_need_cycle_set :=
  okD_of (body := b_need_cycle_set) (k := 4) c 7 7 rfl rfl sc_need_cycle_set (fun _ _ _ _ _ _ us hl => match us, hl with | [_], _ => rfl) (fun f cdv A outer s H E hr tk => by
    have S := sc_need_cycle_set
    exact (b_cons (s_if (t_not (t_val (v_callD ok_is_cycle_set tk hr rfl (vs_cons (vn 0) vs_nil)))) (b_cons (s_raiseX c 30 28 rfl rfl rfl tk rfl)
    b_nil) b_nil)
    b_nil))
theorem sc_back_of : FnScope N_back_of ["turn"] (defScope st_back_of) := ⟨rfl, rfl, rfl, by decide +kernel, rfl, by decide +kernel, by decide +kernel⟩
theorem ok_back_of (c : Fx K mg fn fa exB) : OkD P w K mg base "back_of" 1 ["turn"] N_back_of m_back_of :=
  okD_of (body := b_back_of) (k := 0) c 3 3 rfl rfl sc_back_of (fun _ _ _ _ _ _ us hl => match us, hl with | [_], _ => rfl) (fun f cdv A outer s H E hr tk => by
    have S := sc_back_of
    exact (b_cons (us_own 1 S.nd (f_rep (f_lst (d_cons v_int d_nil)) (v_ex (u_len (c.f 40) (vs_cons (vn 0) vs_nil)))))
    (b_cons (s_for (passes_of rfl) rfl (i_enum rfl (c.f 37) (vv 0)) (g_tup rfl (gs_cons (ug 2 S.nd) (gs_cons (ug 3 S.nd) gs_nil))) (b_cons (s_asg (vv 2) (g_ix (i := 1) rfl (by first | exact .inl rfl | exact .inr (.inl rfl)) (vv 3)) ne_ix)
    b_nil))
    (b_cons (s_ret (u_tuple (c.f 45) (vs_cons (vn 1) vs_nil)))
    b_nil))))
theorem sc_swap_pair : FnScope N_swap_pair ["rows", "one", "other"] (defScope st_swap_pair) := ⟨rfl, rfl, rfl, by decide +kernel, rfl, by decide +kernel, by decide +kernel⟩
theorem ok_swap_pair (c : Fx K mg fn fa exB) (ok_back_of : OkD P w K mg base "back_of" 1 ["turn"] N_back_of m_back_of) : OkD P w K mg base "swap_pair" 2 ["rows", "one", "other"] N_swap_pair m_swap_pair :=
  okD_of (body := b_swap_pair) (k := 1) c 8 8 rfl rfl sc_swap_pair (fun _ _ _ _ _ _ us hl => match us, hl with | [_, _, _], _ => rfl) (fun f cdv A outer s H E hr tk => by
    have S := sc_swap_pair
    exact (b_cons (us_set 3 S.nd (u_ix (v_ex (v_callD ok_back_of tk hr rfl (vs_cons (v_ex (u_ix (vn 0) (vn 1))) vs_nil))) (vn 2)))
    (b_cons (s_ret (v_tup (d_cons (vv 3) (d_cons (u_ix (v_ex (u_ix (vn 0) (vn 3))) (vn 1)) d_nil))))
    b_nil)))
theorem sc_swaps_of : FnScope N_swaps_of ["rows"] (defScope st_swaps_of) := ⟨rfl, rfl, rfl, by decide +kernel, rfl, by decide +kernel, by decide +kernel⟩
theorem ok_swaps_of (c : Fx K mg fn fa exB) (ok_need_cycle_set : OkD P w K mg base "need_cycle_set" 5 ["value"] N_need_cycle_set m_need_cycle_set) (ok_swap_pair : OkD P w K mg base "swap_pair" 2 ["rows", "one", "other"] N_swap_pair m_swap_pair) : OkD P w K mg base "swaps_of" 6 ["rows"] N_swaps_of m_swaps_of :=
  okD_of (body := b_swaps_of) (k := 5) c 9 9 rfl rfl sc_swaps_of (fun _ _ _ _ _ _ us hl => match us, hl with | [_], _ => rfl) (fun f cdv A outer s H E hr tk => by
    have S := sc_swaps_of
    exact (b_cons (s_drop (v_callD ok_need_cycle_set tk hr rfl (vs_cons (vn 0) vs_nil)))
    (b_cons (us_set 1 S.nd (v_fr (f_listRg rfl rfl (c.f 41) (rg_1 rfl (c.f 42) (u_len (c.f 40) (vs_cons (vn 0) vs_nil))))))
    (b_cons (s_ret (u_tuple (c.f 45) (vs_cons (v_ex (v_fr (f_comp (own := [("one", 2)]) (ws := [2]) rfl S.nd (i_seq (bb := false) (vv 1)) (blkOk_by (N := N_swaps_of) (sc := defScope st_swaps_of) (by decide +kernel)) (fun _ _ _ _ _ => (ug 2 S.nd)) (fun _ _ _ _ _ => ts_nil) (fun _ _ _ _ _ => (u_tuple (c.f 45) (vs_cons (v_ex (v_fr (f_comp (own := [("other", 3)]) (ws := [3]) rfl S.nd (i_seq (bb := false) (vv 1)) (blkOk_by (by kernel_rfl)) (fun _ _ _ _ _ => (ug 3 S.nd)) (fun _ _ _ _ _ => ts_nil) (fun _ _ _ _ _ => (v_callD ok_swap_pair LamX.takes0 hr rfl (vs_cons (vn 0) (vs_cons (vn 2) (vs_cons (vn 3) vs_nil)))))))) vs_nil)))))) vs_nil)))
    b_nil))))
theorem sc__law_roll : FnScope N__law_roll ["cup", "many"] (defScope st__law_roll) := ⟨rfl, rfl, rfl, by decide +kernel, rfl, by decide +kernel, by decide +kernel⟩
theorem ok__law_roll (c : Fx K mg fn fa exB) : OkD P w K mg base "_law_roll" 1 ["cup", "many"] N__law_roll m__law_roll :=
  okD_of (body := b__law_roll) (k := 0) c 11 11 rfl rfl sc__law_roll (fun _ _ _ _ _ _ us hl => match us, hl with | [_, _], _ => rfl) (fun f cdv A outer s H E hr tk => by
    have S := sc__law_roll
    exact (b_cons (s_if (ut_gt hr (v_ex (u_ix (vn 0) (v_ex v_int))) (v_ex v_int)) (b_cons (us_set 2 S.nd (u_mod (v_ex (u_int (c.f 38) (vs_cons (v_ex (u_ix (vn 0) (v_ex v_int))) vs_nil))) (vn 1)))
    (b_cons (s_asg (u_fdiv (v_ex (u_ix (vn 0) (v_ex v_int))) (vn 1)) (g_ix (i := 0) rfl (by first | exact .inl rfl | exact .inr (.inl rfl)) v_int) ne_ix)
    (b_cons (s_ret (vv 2))
    b_nil))) b_nil)
    (b_cons (s_asg (u_mod (v_ex (u_int (c.f 38) (vs_cons (v_ex (u_add (v_ex (u_mul (v_ex (u_ix (vn 0) (v_ex v_int))) (v_ex v_int))) (v_ex v_int))) vs_nil))) (v_ex v_int)) (g_ix (i := 0) rfl (by first | exact .inl rfl | exact .inr (.inl rfl)) v_int) ne_ix)
    (b_cons (s_ret (u_mod (v_ex (u_int (c.f 38) (vs_cons (v_ex (u_fdiv (v_ex (u_ix (vn 0) (v_ex v_int))) (v_ex v_int))) vs_nil))) (vn 1)))
    b_nil))))
theorem sc__law_sort : FnScope N__law_sort ["value"] (defScope st__law_sort) := ⟨rfl, rfl, rfl, by decide +kernel, rfl, by decide +kernel, by decide +kernel⟩
theorem ok__law_sort (c : Fx K mg fn fa exB) : OkD P w K mg base "_law_sort" 1 ["value"] N__law_sort m__law_sort :=
  okD_of (body := b__law_sort) (k := 0) c 13 13 rfl rfl sc__law_sort (fun _ _ _ _ _ _ us hl => match us, hl with | [_], _ => rfl) (fun f cdv A outer s H E hr tk => by
    have S := sc__law_sort
    exact (b_cons (s_if (EW.t (w_or (t_isN (vn 0)) (w_or1 (t_val (u_isi .bool (c.f 39) (c.f 36) (vn 0)))))) (b_cons (s_ret (v_if (t_isN (vn 0)) v_int v_int))
    b_nil) b_nil)
    (b_cons (s_if (EW.t (w_or (t_val (u_isi .int (c.f 39) (c.f 38) (vn 0))) (w_or1 (t_val (u_isi .str (c.f 39) (c.f 44) (vn 0)))))) (b_cons (s_ret (v_if (t_val (u_isi .int (c.f 39) (c.f 38) (vn 0))) v_int v_int))
    b_nil) b_nil)
    (b_cons (s_ret (v_if (t_val (u_isi .tuple (c.f 39) (c.f 45) (vn 0))) v_int (v_if (t_val (u_isi .list (c.f 39) (c.f 41) (vn 0))) v_int v_int)))
    b_nil))))
theorem sc__law_like : FnScope N__law_like ["one", "other"] (defScope st__law_like) := ⟨rfl, rfl, rfl, by decide +kernel, rfl, by decide +kernel, by decide +kernel⟩
theorem rk__law_like (c : Fx K mg fn fa exB) (ok__law_sort : OkD P w K mg base "_law_sort" 1 ["value"] N__law_sort m__law_sort) : ∀ n, OkD P w K mg base "_law_like" (2 + n) ["one", "other"] N__law_like (mm__law_like n) :=
  okD_rec (body := b__law_like) c 14 14 rfl rfl sc__law_like (fun _ _ _ _ _ _ us hl => match us, hl with | [_, _], _ => rfl) mm__law_like rfl (fun _ => rfl)
    (fun n hm f cdv A outer s H E hr tk => by
      have S := sc__law_like
      exact (b_cons (us_set 2 S.nd (v_callD ok__law_sort tk hr rfl (vs_cons (vn 1) vs_nil) (by omega)))
    (b_cons (s_if (EW.t (w_or (ut_ne hr (v_ex (v_callD ok__law_sort tk hr rfl (vs_cons (vn 0) vs_nil) (by omega))) (vn 2)) (w_or1 (ut_eq hr (vn 2) (v_ex v_int))))) (b_cons (s_ret v_bl)
    b_nil) b_nil)
    (b_cons (s_if (ut_in hr (vn 2) (v_ex (v_tup (d_cons v_int (d_cons v_int d_nil))))) (b_cons (s_ret (v_and (u_eq hr (v_ex (u_len (c.f 40) (vs_cons (vn 0) vs_nil))) (v_ex (u_len (c.f 40) (vs_cons (vn 1) vs_nil)))) (v_one (u_eq hr (v_ex (v_fr (f_comp (own := [("first", 3), ("second", 4)]) (ws := [3, 4]) rfl S.nd (i_zip rfl (c.f 46) (d_cons (vv 0) (d_cons (vv 1) d_nil))) (blkOk_by (N := N__law_like) (sc := defScope st__law_like) (by decide +kernel)) (fun _ _ _ _ _ => (g_tup rfl (gs_cons (ug 3 S.nd) (gs_cons (ug 4 S.nd) gs_nil)))) (fun _ _ _ _ _ => ts_one (t_not (t_val (v_callD hm LamX.takes0 hr rfl (vs_cons (vn 3) (vs_cons (vn 4) vs_nil)) (Nat.le_refl _))))) (fun _ _ _ _ _ => v_int)))) (v_ex (v_fr (f_lst d_nil)))))))
    b_nil) b_nil)
    (b_cons (s_ret (u_eq hr (vn 0) (vn 1)))
    b_nil))))) (by decide)
theorem ok__law_like (c : Fx K mg fn fa exB) (ok__law_sort : OkD P w K mg base "_law_sort" 1 ["value"] N__law_sort m__law_sort) : OkD P w K mg base "_law_like" 14 ["one", "other"] N__law_like m__law_like := rk__law_like c ok__law_sort 12
theorem sc__law_some : FnScope N__law_some ["cup", "things"] (defScope st__law_some) := ⟨rfl, rfl, rfl, by decide +kernel, rfl, by decide +kernel, by decide +kernel⟩
theorem ok__law_some (c : Fx K mg fn fa exB) (ok__law_roll : OkD P w K mg base "_law_roll" 1 ["cup", "many"] N__law_roll m__law_roll) : OkD P w K mg base "_law_some" 2 ["cup", "things"] N__law_some m__law_some :=
  okD_of (body := b__law_some) (k := 1) c 12 12 rfl rfl sc__law_some (fun _ _ _ _ _ _ us hl => match us, hl with | [_, _], _ => rfl) (fun f cdv A outer s H E hr tk => by
    have S := sc__law_some
    exact (b_cons (s_ret (u_ix (vn 1) (v_ex (v_callD ok__law_roll tk hr rfl (vs_cons (vn 0) (vs_cons (v_ex (u_len (c.f 40) (vs_cons (vn 1) vs_nil))) vs_nil))))))
    b_nil))
theorem sc__law_turn : FnScope N__law_turn ["cup", "many"] (defScope st__law_turn) := ⟨rfl, rfl, rfl, by decide +kernel, rfl, by decide +kernel, by decide +kernel⟩
theorem ok__law_turn (c : Fx K mg fn fa exB) (ok__law_roll : OkD P w K mg base "_law_roll" 1 ["cup", "many"] N__law_roll m__law_roll) : OkD P w K mg base "_law_turn" 2 ["cup", "many"] N__law_turn m__law_turn :=
  okD_of (body := b__law_turn) (k := 1) c 16 16 rfl rfl sc__law_turn (fun _ _ _ _ _ _ us hl => match us, hl with | [_, _], _ => rfl) (fun f cdv A outer s H E hr tk => by
    have S := sc__law_turn
    exact (b_cons (s_par (i := 2) (j := 3) rfl S.nd rfl rfl rfl rfl (d_cons (v_fr (f_listRg rfl rfl (c.f 41) (rg_1 rfl (c.f 42) (vv 1)))) (d_cons (v_fr (f_lst d_nil)) d_nil)))
    (b_cons (s_for (passes_of rfl) rfl (i_rg1 (bb := false) rfl (c.f 42) (vv 1)) (ug 4 S.nd) (b_cons (us_set 5 S.nd (v_callD ok__law_roll tk hr rfl (vs_cons (vn 0) (vs_cons (v_ex (u_len (c.f 40) (vs_cons (vn 2) vs_nil))) vs_nil))))
    (b_cons (us_set 3 S.nd (u_add (vn 3) (v_ex (v_fr (f_lst (d_cons (u_ix (vn 2) (vn 5)) d_nil))))))
    (b_cons (us_set 2 S.nd (u_add (v_ex (v_sl (vn 2) p_none (p_some (vv 5)))) (v_ex (v_sl (vn 2) (p_some (u_add (vn 5) (v_ex v_int))) p_none))))
    b_nil))))
    (b_cons (s_ret (u_tuple (c.f 45) (vs_cons (vn 3) vs_nil)))
    b_nil))))
theorem sc__law_stock : FnScope N__law_stock [] (defScope st__law_stock) := ⟨rfl, rfl, rfl, by decide +kernel, rfl, by decide +kernel, by decide +kernel⟩
theorem ok__law_stock (c : Fx K mg fn fa exB) : OkD P w K mg base "_law_stock" 1 [] N__law_stock m__law_stock :=
  okD_of (body := b__law_stock) (k := 0) c 17 17 rfl rfl sc__law_stock (fun _ _ _ _ _ _ us hl => match us, hl with | [], _ => rfl) (fun f cdv A outer s H E hr tk => by
    have S := sc__law_stock
    exact (b_cons (us_set 0 S.nd (v_fr (f_lst (d_cons (v_tup (d_cons (v_tup (d_cons v_int d_nil)) d_nil)) (d_cons (v_tup (d_cons (v_tup (d_cons v_int (d_cons v_int d_nil))) (d_cons (v_tup (d_cons v_int (d_cons v_int d_nil))) d_nil))) (d_cons (v_tup (d_cons (v_tup (d_cons v_int (d_cons v_int d_nil))) (d_cons (v_tup (d_cons v_int (d_cons v_int d_nil))) d_nil))) (d_cons (v_tup (d_cons (v_tup (d_cons v_int (d_cons v_int (d_cons v_int d_nil)))) (d_cons (v_tup (d_cons v_int (d_cons v_int (d_cons v_int d_nil)))) (d_cons (v_tup (d_cons v_int (d_cons v_int (d_cons v_int d_nil)))) d_nil)))) (d_cons (v_tup (d_cons (v_tup (d_cons v_int (d_cons v_int (d_cons v_int d_nil)))) (d_cons (v_tup (d_cons v_int (d_cons v_int (d_cons v_int d_nil)))) (d_cons (v_tup (d_cons v_int (d_cons v_int (d_cons v_int d_nil)))) d_nil)))) d_nil))))))))
    (b_cons (s_ret (u_add (vn 0) (v_ex (v_fr (f_lst (d_cons (v_tup (d_cons (v_tup (d_cons v_int (d_cons v_int (d_cons v_int d_nil)))) (d_cons (v_tup (d_cons v_int (d_cons v_int (d_cons v_int d_nil)))) (d_cons (v_tup (d_cons v_int (d_cons v_int (d_cons v_int d_nil)))) d_nil)))) (d_cons (v_tup (d_cons (v_tup (d_cons v_int (d_cons v_int (d_cons v_int (d_cons v_int d_nil))))) (d_cons (v_tup (d_cons v_int (d_cons v_int (d_cons v_int (d_cons v_int d_nil))))) (d_cons (v_tup (d_cons v_int (d_cons v_int (d_cons v_int (d_cons v_int d_nil))))) (d_cons (v_tup (d_cons v_int (d_cons v_int (d_cons v_int (d_cons v_int d_nil))))) d_nil))))) d_nil)))))))
    b_nil)))
theorem sc__law_beside : FnScope N__law_beside ["one", "other"] (defScope st__law_beside) := ⟨rfl, rfl, rfl, by decide +kernel, rfl, by decide +kernel, by decide +kernel⟩
theorem ok__law_beside (c : Fx K mg fn fa exB) : OkD P w K mg base "_law_beside" 1 ["one", "other"] N__law_beside m__law_beside :=
  okD_of (body := b__law_beside) (k := 0) c 18 18 rfl rfl sc__law_beside (fun _ _ _ _ _ _ us hl => match us, hl with | [_, _], _ => rfl) (fun f cdv A outer s H E hr tk => by
    have S := sc__law_beside
    exact (b_cons (s_asg (v_tup (d_cons (u_len (c.f 40) (vs_cons (vn 0) vs_nil)) (d_cons (u_len (c.f 40) (vs_cons (vn 1) vs_nil)) d_nil))) (g_tup rfl (gs_cons (ug 2 S.nd) (gs_cons (ug 3 S.nd) gs_nil))) (ne_tup (ne_cons ne_nm (ne_cons ne_nm ne_nil))))
    (b_cons (s_setLc (i := 4) (own := [("row", 5)]) (ws := [5]) rfl S.nd rfl rfl rfl (i_seq (bb := false) (vv 0)) (blkOk_by (N := N__law_beside) (sc := defScope st__law_beside) (by decide +kernel)) (fun _ _ _ _ _ => (ug 5 S.nd)) (fun _ _ _ _ _ => ts_nil) (fun _ _ _ _ _ => (u_add (vn 5) (v_ex (v_tupRg rfl rfl (c.f 45) (rg_2 rfl (c.f 42) (vv 2) (u_add (vn 2) (vn 3))))))))
    (b_cons (s_ret (u_tuple (c.f 45) (vs_cons (v_ex (u_add (vn 4) (v_ex (v_fr (f_comp (own := [("row", 5)]) (ws := [5]) rfl S.nd (i_seq (bb := false) (vv 1)) (blkOk_by (N := N__law_beside) (sc := defScope st__law_beside) (by decide +kernel)) (fun _ _ _ _ _ => (ug 5 S.nd)) (fun _ _ _ _ _ => ts_nil) (fun _ _ _ _ _ => (u_add (v_ex (v_tupRg rfl rfl (c.f 45) (rg_1 rfl (c.f 42) (vv 2)))) (v_ex (u_tuple (c.f 45) (vs_cons (v_ex (v_fr (f_comp (own := [("own", 6)]) (ws := [6]) rfl S.nd (i_seq (bb := false) (vv 5)) (blkOk_by (by kernel_rfl)) (fun _ _ _ _ _ => (ug 6 S.nd)) (fun _ _ _ _ _ => ts_nil) (fun _ _ _ _ _ => (u_add (vn 2) (vn 6)))))) vs_nil)))))))))) vs_nil)))
    b_nil))))
theorem sc__law_renamed : FnScope N__law_renamed ["rows", "turn"] (defScope st__law_renamed) := ⟨rfl, rfl, rfl, by decide +kernel, rfl, by decide +kernel, by decide +kernel⟩
theorem ok__law_renamed (c : Fx K mg fn fa exB) : OkD P w K mg base "_law_renamed" 1 ["rows", "turn"] N__law_renamed m__law_renamed :=
  okD_of (body := b__law_renamed) (k := 0) c 19 19 rfl rfl sc__law_renamed (fun _ _ _ _ _ _ us hl => match us, hl with | [_, _], _ => rfl) (fun f cdv A outer s H E hr tk => by
    have S := sc__law_renamed
    exact (b_cons (us_set 2 S.nd (u_len (c.f 40) (vs_cons (vn 0) vs_nil)))
    (b_cons (s_ret (u_tuple (c.f 45) (vs_cons (v_ex (v_fr (f_comp (own := [("one", 3)]) (ws := [3]) rfl S.nd (i_rg1 (bb := false) rfl (c.f 42) (vv 2)) (blkOk_by (N := N__law_renamed) (sc := defScope st__law_renamed) (by decide +kernel)) (fun _ _ _ _ _ => (ug 3 S.nd)) (fun _ _ _ _ _ => ts_nil) (fun _ _ _ _ _ => (u_tuple (c.f 45) (vs_cons (v_ex (v_fr (f_comp (own := [("other", 4)]) (ws := [4]) rfl S.nd (i_rg1 (bb := false) rfl (c.f 42) (vv 2)) (blkOk_by (by kernel_rfl)) (fun _ _ _ _ _ => (ug 4 S.nd)) (fun _ _ _ _ _ => ts_nil) (fun _ _ _ _ _ => (u_ix (vn 1) (v_ex (u_ix (v_ex (u_ix (vn 0) (v_ex (u_index c.kt hr (vn 1) (vn 3))))) (v_ex (u_index c.kt hr (vn 1) (vn 4)))))))))) vs_nil)))))) vs_nil)))
    b_nil)))
theorem sc__law_rows : FnScope N__law_rows ["cup"] (defScope st__law_rows) := ⟨rfl, rfl, rfl, by decide +kernel, rfl, by decide +kernel, by decide +kernel⟩
theorem ok__law_rows (c : Fx K mg fn fa exB) (ok__law_roll : OkD P w K mg base "_law_roll" 1 ["cup", "many"] N__law_roll m__law_roll) (ok__law_some : OkD P w K mg base "_law_some" 2 ["cup", "things"] N__law_some m__law_some) (ok__law_turn : OkD P w K mg base "_law_turn" 2 ["cup", "many"] N__law_turn m__law_turn) (ok__law_stock : OkD P w K mg base "_law_stock" 1 [] N__law_stock m__law_stock) (ok__law_beside : OkD P w K mg base "_law_beside" 1 ["one", "other"] N__law_beside m__law_beside) (ok__law_renamed : OkD P w K mg base "_law_renamed" 1 ["rows", "turn"] N__law_renamed m__law_renamed) : OkD P w K mg base "_law_rows" 3 ["cup"] N__law_rows m__law_rows :=
  okD_of (body := b__law_rows) (k := 2) c 20 20 rfl rfl sc__law_rows (fun _ _ _ _ _ _ us hl => match us, hl with | [_], _ => rfl) (fun f cdv A outer s H E hr tk => by
    have S := sc__law_rows
    exact (b_cons (s_par (i := 1) (j := 2) rfl S.nd rfl rfl rfl rfl (d_cons (v_callD ok__law_some tk hr rfl (vs_cons (vn 0) (vs_cons (v_ex (v_callD0 ok__law_stock tk hr rfl)) vs_nil))) (d_cons (v_callD ok__law_some tk hr rfl (vs_cons (vn 0) (vs_cons (v_ex (v_callD0 ok__law_stock tk hr rfl)) vs_nil))) d_nil)))
    (b_cons (us_set 3 S.nd (v_if (ut_gt hr (v_ex (v_callD ok__law_roll tk hr rfl (vs_cons (vn 0) (vs_cons (v_ex v_int) vs_nil)))) (v_ex v_int)) (v_callD ok__law_beside tk hr rfl (vs_cons (vn 1) (vs_cons (vn 2) vs_nil))) (vv 1)))
    (b_cons (s_ret (v_callD ok__law_renamed tk hr rfl (vs_cons (vn 3) (vs_cons (v_ex (v_callD ok__law_turn tk hr rfl (vs_cons (vn 0) (vs_cons (v_ex (u_len (c.f 40) (vs_cons (vn 3) vs_nil))) vs_nil)))) vs_nil))))
    b_nil))))
theorem sc__law_agree : FnScope N__law_agree ["rows"] (defScope st__law_agree) := ⟨rfl, rfl, rfl, by decide +kernel, rfl, by decide +kernel, by decide +kernel⟩
theorem ok__law_agree (c : Fx K mg fn fa exB) : OkD P w K mg base "_law_agree" 1 ["rows"] N__law_agree m__law_agree :=
  okD_of (body := b__law_agree) (k := 0) c 21 21 rfl rfl sc__law_agree (fun _ _ _ _ _ _ us hl => match us, hl with | [_], _ => rfl) (fun f cdv A outer s H E hr tk => by
    have S := sc__law_agree
    exact (b_cons (us_set 1 S.nd (u_len (c.f 40) (vs_cons (vn 0) vs_nil)))
    (b_cons (s_for (passes_of rfl) rfl (i_rg1 (bb := false) rfl (c.f 42) (vv 1)) (ug 2 S.nd) (b_cons (s_for (passes_of rfl) rfl (i_rg1 (bb := false) rfl (c.f 42) (vv 1)) (ug 3 S.nd) (b_cons (s_par (i := 4) (j := 5) rfl S.nd rfl rfl rfl rfl (d_cons (u_ix (v_ex (u_ix (vn 0) (vn 2))) (vn 3)) (d_cons (u_ix (v_ex (u_ix (vn 0) (vn 3))) (vn 2)) d_nil)))
    (b_cons (s_for (passes_of rfl) rfl (i_rg1 (bb := false) rfl (c.f 42) (vv 1)) (ug 6 S.nd) (b_cons (s_if (ut_ne hr (v_ex (u_ix (v_ex (u_ix (vn 0) (vn 4))) (v_ex (u_ix (v_ex (u_ix (vn 0) (vn 2))) (vn 6))))) (v_ex (u_ix (v_ex (u_ix (vn 0) (vn 5))) (v_ex (u_ix (v_ex (u_ix (vn 0) (vn 3))) (vn 6)))))) (b_cons (s_ret v_bl)
    b_nil) b_nil)
    b_nil))
    b_nil)))
    b_nil))
    (b_cons (s_ret v_bl)
    b_nil))))
theorem sc__law_pair : FnScope N__law_pair ["rows", "one", "other"] (defScope st__law_pair) := ⟨rfl, rfl, rfl, by decide +kernel, rfl, by decide +kernel, by decide +kernel⟩
theorem ok__law_pair (c : Fx K mg fn fa exB) : OkD P w K mg base "_law_pair" 1 ["rows", "one", "other"] N__law_pair m__law_pair :=
  okD_of (body := b__law_pair) (k := 0) c 22 22 rfl rfl sc__law_pair (fun _ _ _ _ _ _ us hl => match us, hl with | [_, _, _], _ => rfl) (fun f cdv A outer s H E hr tk => by
    have S := sc__law_pair
    exact (b_cons (s_for (passes_of rfl) rfl (i_rg1 (bb := false) rfl (c.f 42) (u_len (c.f 40) (vs_cons (vn 0) vs_nil))) (ug 3 S.nd) (b_cons (s_if (ut_eq hr (v_ex (u_ix (v_ex (u_ix (vn 0) (vn 1))) (vn 3))) (vn 2)) (b_cons (s_ret (v_tup (d_cons (vv 3) (d_cons (u_ix (v_ex (u_ix (vn 0) (vn 3))) (vn 1)) d_nil))))
    b_nil) b_nil)
    b_nil))
    (b_cons (s_ret (v_tup (d_cons (u_neg (v_ex v_int)) (d_cons (u_neg (v_ex v_int)) d_nil))))
    b_nil)))
theorem sc__law_thrice : FnScope N__law_thrice ["table", "many"] (defScope st__law_thrice) := ⟨rfl, rfl, rfl, by decide +kernel, rfl, by decide +kernel, by decide +kernel⟩
theorem ok__law_thrice (c : Fx K mg fn fa exB) : OkD P w K mg base "_law_thrice" 1 ["table", "many"] N__law_thrice m__law_thrice :=
  okD_of (body := b__law_thrice) (k := 0) c 23 23 rfl rfl sc__law_thrice (fun _ _ _ _ _ _ us hl => match us, hl with | [_, _], _ => rfl) (fun f cdv A outer s H E hr tk => by
    have S := sc__law_thrice
    exact (b_cons (s_for (passes_of rfl) rfl (i_rg1 (bb := false) rfl (c.f 42) (vv 1)) (ug 2 S.nd) (b_cons (s_for (passes_of rfl) rfl (i_rg1 (bb := false) rfl (c.f 42) (vv 1)) (ug 3 S.nd) (b_cons (s_for (passes_of rfl) rfl (i_rg1 (bb := false) rfl (c.f 42) (vv 1)) (ug 4 S.nd) (b_cons (s_asg (u_ix (v_ex (u_ix (vn 0) (vn 2))) (vn 3)) (g_tup rfl (gs_cons (ug 5 S.nd) (gs_cons (ug 6 S.nd) gs_nil))) (ne_tup (ne_cons ne_nm (ne_cons ne_nm ne_nil))))
    (b_cons (s_asg (u_ix (v_ex (u_ix (vn 0) (vn 6))) (vn 4)) (g_tup rfl (gs_cons (ug 7 S.nd) (gs_cons (ug 8 S.nd) gs_nil))) (ne_tup (ne_cons ne_nm (ne_cons ne_nm ne_nil))))
    (b_cons (s_asg (u_ix (v_ex (u_ix (vn 0) (vn 5))) (vn 7)) (g_tup rfl (gs_cons (ug 5 S.nd) (gs_cons (ug 7 S.nd) gs_nil))) (ne_tup (ne_cons ne_nm (ne_cons ne_nm ne_nil))))
    (b_cons (s_asg (u_ix (v_ex (u_ix (vn 0) (vn 3))) (vn 4)) (g_tup rfl (gs_cons (ug 9 S.nd) (gs_cons (ug 10 S.nd) gs_nil))) (ne_tup (ne_cons ne_nm (ne_cons ne_nm ne_nil))))
    (b_cons (s_asg (u_ix (v_ex (u_ix (vn 0) (vn 2))) (vn 9)) (g_tup rfl (gs_cons (ug 11 S.nd) (gs_cons (ug 9 S.nd) gs_nil))) (ne_tup (ne_cons ne_nm (ne_cons ne_nm ne_nil))))
    (b_cons (s_asg (u_ix (v_ex (u_ix (vn 0) (vn 9))) (vn 10)) (g_tup rfl (gs_cons (ug 9 S.nd) (gs_cons (ug 10 S.nd) gs_nil))) (ne_tup (ne_cons ne_nm (ne_cons ne_nm ne_nil))))
    (b_cons (s_if (ut_ne hr (v_ex (v_tup (d_cons (vv 5) (d_cons (vv 7) (d_cons (vv 8) d_nil))))) (v_ex (v_tup (d_cons (vv 11) (d_cons (vv 9) (d_cons (vv 10) d_nil)))))) (b_cons (s_ret v_bl)
    b_nil) b_nil)
    b_nil))))))))
    b_nil))
    b_nil))
    (b_cons (s_ret v_bl)
    b_nil)))
theorem sc__law_sets_right : FnScope N__law_sets_right ["cup"] (defScope st__law_sets_right) := ⟨rfl, rfl, rfl, by decide +kernel, rfl, by decide +kernel, by decide +kernel⟩
theorem ok__law_sets_right (c : Fx K mg fn fa exB) (ok_is_cycle_set : OkD P w K mg base "is_cycle_set" 4 ["value"] N_is_cycle_set m_is_cycle_set) (ok_swaps_of : OkD P w K mg base "swaps_of" 6 ["rows"] N_swaps_of m_swaps_of) (ok__law_roll : OkD P w K mg base "_law_roll" 1 ["cup", "many"] N__law_roll m__law_roll) (ok__law_like : OkD P w K mg base "_law_like" 14 ["one", "other"] N__law_like m__law_like) (ok__law_rows : OkD P w K mg base "_law_rows" 3 ["cup"] N__law_rows m__law_rows) (ok__law_agree : OkD P w K mg base "_law_agree" 1 ["rows"] N__law_agree m__law_agree) (ok__law_pair : OkD P w K mg base "_law_pair" 1 ["rows", "one", "other"] N__law_pair m__law_pair) (ok__law_thrice : OkD P w K mg base "_law_thrice" 1 ["table", "many"] N__law_thrice m__law_thrice) : OkD P w K mg base "_law_sets_right" 15 ["cup"] N__law_sets_right m__law_sets_right :=
  okD_of (body := b__law_sets_right) (k := 14) c 24 24 rfl rfl sc__law_sets_right (fun _ _ _ _ _ _ us hl => match us, hl with | [_], _ => rfl) (fun f cdv A outer s H E hr tk => by
    have S := sc__law_sets_right
    exact (b_cons (us_set 1 S.nd (v_callD ok__law_rows tk hr rfl (vs_cons (vn 0) vs_nil)))
    (b_cons (us_set 2 S.nd (u_len (c.f 40) (vs_cons (vn 1) vs_nil)))
    (b_cons (us_set 3 S.nd (v_callD ok_swaps_of tk hr rfl (vs_cons (vn 1) vs_nil)))
    (b_cons (us_set 4 S.nd (u_tuple (c.f 45) (vs_cons (v_ex (v_fr (f_comp (own := [("one", 5)]) (ws := [5]) rfl S.nd (i_rg1 (bb := false) rfl (c.f 42) (vv 2)) (blkOk_by (N := N__law_sets_right) (sc := defScope st__law_sets_right) (by decide +kernel)) (fun _ _ _ _ _ => (ug 5 S.nd)) (fun _ _ _ _ _ => ts_nil) (fun _ _ _ _ _ => (u_tuple (c.f 45) (vs_cons (v_ex (v_fr (f_comp (own := [("other", 8)]) (ws := [8]) rfl S.nd (i_rg1 (bb := false) rfl (c.f 42) (vv 2)) (blkOk_by (by kernel_rfl)) (fun _ _ _ _ _ => (ug 8 S.nd)) (fun _ _ _ _ _ => ts_nil) (fun _ _ _ _ _ => (v_callD ok__law_pair LamX.takes0 hr rfl (vs_cons (vn 1) (vs_cons (vn 5) (vs_cons (vn 8) vs_nil)))))))) vs_nil)))))) vs_nil)))
    (b_cons (s_if (t_not (t_val (v_callD ok__law_like tk hr rfl (vs_cons (v_ex (v_fr (f_lst (d_cons (v_callD ok_is_cycle_set tk hr rfl (vs_cons (vn 1) vs_nil)) (d_cons (vv 3) d_nil))))) (vs_cons (v_ex (v_fr (f_lst (d_cons v_bl (d_cons (vv 4) d_nil))))) vs_nil))))) (b_cons (s_ret v_bl)
    b_nil) b_nil)
    (b_cons (s_for (passes_of rfl) rfl (i_rg1 (bb := false) rfl (c.f 42) (vv 2)) (ug 5 S.nd) (b_cons (s_setLc (i := 6) (own := [("first", 12), ("second", 13)]) (ws := [12, 13]) rfl S.nd rfl rfl rfl (i_seq (bb := false) (u_ix (vn 3) (vn 5))) (blkOk_by (N := N__law_sets_right) (sc := defScope st__law_sets_right) (by decide +kernel)) (fun _ _ _ _ _ => (g_tup rfl (gs_cons (ug 12 S.nd) (gs_cons (ug 13 S.nd) gs_nil)))) (fun _ _ _ _ _ => ts_nil) (fun _ _ _ _ _ => (u_ix (v_ex (u_ix (vn 3) (vn 12))) (vn 13))))
    (b_cons (s_if (ut_ne hr (vn 6) (v_ex (v_fr (f_comp (own := [("other", 8)]) (ws := [8]) rfl S.nd (i_rg1 (bb := false) rfl (c.f 42) (vv 2)) (blkOk_by (N := N__law_sets_right) (sc := defScope st__law_sets_right) (by decide +kernel)) (fun _ _ _ _ _ => (ug 8 S.nd)) (fun _ _ _ _ _ => ts_nil) (fun _ _ _ _ _ => (v_tup (d_cons (vv 5) (d_cons (vv 8) d_nil)))))))) (b_cons (s_ret v_bl)
    b_nil) b_nil)
    b_nil)))
    (b_cons (s_if (t_not (t_val (v_callD ok__law_thrice tk hr rfl (vs_cons (vn 3) (vs_cons (vn 2) vs_nil))))) (b_cons (s_ret v_bl)
    b_nil) b_nil)
    (b_cons (s_asg (v_tup (d_cons (v_callD ok__law_roll tk hr rfl (vs_cons (vn 0) (vs_cons (vn 2) vs_nil))) (d_cons (v_callD ok__law_roll tk hr rfl (vs_cons (vn 0) (vs_cons (vn 2) vs_nil))) (d_cons (v_callD ok__law_roll tk hr rfl (vs_cons (vn 0) (vs_cons (vn 2) vs_nil))) d_nil)))) (g_tup rfl (gs_cons (ug 7 S.nd) (gs_cons (ug 5 S.nd) (gs_cons (ug 8 S.nd) gs_nil)))) (ne_tup (ne_cons ne_nm (ne_cons ne_nm (ne_cons ne_nm ne_nil)))))
    (b_cons (us_own 9 S.nd (uf_list (c.f 41) (vs_cons (v_ex (u_ix (vn 1) (vn 7))) vs_nil)))
    (b_cons (s_asg (v_tup (d_cons (u_ix (vn 9) (vn 8)) (d_cons (u_ix (vn 9) (vn 5)) d_nil))) (g_tup rfl (gs_cons (g_ix (i := 9) rfl (by first | exact .inl rfl | exact .inr (.inl rfl)) (vv 5)) (gs_cons (g_ix (i := 9) rfl (by first | exact .inl rfl | exact .inr (.inl rfl)) (vv 8)) gs_nil))) (ne_tup (ne_cons ne_ix (ne_cons ne_ix ne_nil))))
    (b_cons (us_set 10 S.nd (u_add (v_ex (u_add (v_ex (v_sl (vn 1) p_none (p_some (vv 7)))) (v_ex (v_tup (d_cons (u_tuple (c.f 45) (vs_cons (vn 9) vs_nil)) d_nil))))) (v_ex (v_sl (vn 1) (p_some (u_add (vn 7) (v_ex v_int))) p_none))))
    (b_cons (s_if (t_not (t_val (v_callD ok__law_like tk hr rfl (vs_cons (v_ex (v_callD ok_is_cycle_set tk hr rfl (vs_cons (vn 10) vs_nil))) (vs_cons (v_ex (v_callD ok__law_agree tk hr rfl (vs_cons (vn 10) vs_nil))) vs_nil))))) (b_cons (s_ret v_bl)
    b_nil) b_nil)
    (b_cons (us_set 11 S.nd (u_add (v_ex (u_add (v_ex (v_sl (vn 1) p_none (p_some (vv 7)))) (v_ex (v_tup (d_cons (u_add (v_ex (u_add (v_ex (v_sl (v_ex (u_ix (vn 1) (vn 7))) p_none (p_some (vv 5)))) (v_ex (v_tup (d_cons (u_ix (v_ex (u_ix (vn 1) (vn 7))) (vn 8)) d_nil))))) (v_ex (v_sl (v_ex (u_ix (vn 1) (vn 7))) (p_some (u_add (vn 5) (v_ex v_int))) p_none))) d_nil))))) (v_ex (v_sl (vn 1) (p_some (u_add (vn 7) (v_ex v_int))) p_none))))
    (b_cons (s_ret (v_callD ok__law_like tk hr rfl (vs_cons (v_ex (v_callD ok_is_cycle_set tk hr rfl (vs_cons (vn 11) vs_nil))) (vs_cons (v_ex (u_eq hr (vn 5) (vn 8))) vs_nil))))
    b_nil)))))))))))))))
theorem sc__law_limits_right : FnScope N__law_limits_right ["cup"] (defScope st__law_limits_right) := ⟨rfl, rfl, rfl, by decide +kernel, rfl, by decide +kernel, by decide +kernel⟩
theorem ok__law_limits_right (c : Fx K mg fn fa exB) (ct : TbOk K base mg) (ok_is_cycle_set : OkD P w K mg base "is_cycle_set" 4 ["value"] N_is_cycle_set m_is_cycle_set) (ok_swaps_of : OkD P w K mg base "swaps_of" 6 ["rows"] N_swaps_of m_swaps_of) (ok__law_like : OkD P w K mg base "_law_like" 14 ["one", "other"] N__law_like m__law_like) : OkD P w K mg base "_law_limits_right" 15 ["cup"] N__law_limits_right m__law_limits_right :=
  okD_ofL (body := b__law_limits_right) (k := 14) c 25 25 rfl rfl sc__law_limits_right (fun _ _ _ _ _ _ us hl => match us, hl with | [_], _ => rfl) (fun f cdv A outer s H E hcd hr tk => by
    have S := sc__law_limits_right
    have hcd := And.intro (show (("_law_limits_right", none) : Str × Option Str) ∈ tf by decide +kernel) hcd
    exact (b_cons (s_asg (v_tup (d_cons (v_tup (d_cons (v_tup (d_cons v_int (d_cons v_int d_nil))) (d_cons (v_tup (d_cons v_int (d_cons v_int d_nil))) d_nil))) (d_cons (v_tup (d_cons (v_tup (d_cons v_int (d_cons v_int (d_cons v_int d_nil)))) (d_cons (v_tup (d_cons v_int (d_cons v_int (d_cons v_int d_nil)))) (d_cons (v_tup (d_cons v_int (d_cons v_int (d_cons v_int d_nil)))) d_nil)))) d_nil))) (g_tup rfl (gs_cons (ug 1 S.nd) (gs_cons (ug 2 S.nd) gs_nil))) (ne_tup (ne_cons ne_nm (ne_cons ne_nm ne_nil))))
    (b_cons (us_set 3 S.nd (v_fr (f_lst (d_cons (v_callD ok_swaps_of tk hr rfl (vs_cons (vn 1) vs_nil)) (d_cons (u_ix (v_ex (v_callD ok_swaps_of tk hr rfl (vs_cons (vn 2) vs_nil))) (v_ex v_int)) (d_cons (u_ix (v_ex (v_callD ok_swaps_of tk hr rfl (vs_cons (vn 2) vs_nil))) (v_ex v_int)) (d_cons (v_callD ok_swaps_of tk hr rfl (vs_cons (v_ex (v_tup (d_cons (v_tup (d_cons v_int d_nil)) d_nil))) vs_nil)) (d_cons (u_ix (v_ex (v_callD ok_swaps_of tk hr rfl (vs_cons (v_ex (u_mul (v_ex (v_tup (d_cons (v_tup (d_cons v_int (d_cons v_int (d_cons v_int d_nil)))) d_nil))) (v_ex v_int))) vs_nil))) (v_ex v_int)) d_nil))))))))
    (b_cons (us_set 4 S.nd (v_fr (f_lst (d_cons (v_tup (d_cons (v_tup (d_cons (v_tup (d_cons v_int (d_cons v_int d_nil))) (d_cons (v_tup (d_cons v_int (d_cons v_int d_nil))) d_nil))) (d_cons (v_tup (d_cons (v_tup (d_cons v_int (d_cons v_int d_nil))) (d_cons (v_tup (d_cons v_int (d_cons v_int d_nil))) d_nil))) d_nil))) (d_cons (v_tup (d_cons (v_tup (d_cons v_int (d_cons v_int d_nil))) (d_cons (v_tup (d_cons v_int (d_cons v_int d_nil))) (d_cons (v_tup (d_cons v_int (d_cons v_int d_nil))) d_nil)))) (d_cons (v_tup (d_cons (v_tup (d_cons v_int (d_cons v_int d_nil))) (d_cons (v_tup (d_cons v_int (d_cons v_int d_nil))) (d_cons (v_tup (d_cons v_int (d_cons v_int d_nil))) d_nil)))) (d_cons (v_tup (d_cons (v_tup (d_cons (v_tup (d_cons v_int (d_cons v_int d_nil))) d_nil)) d_nil)) (d_cons (v_tup (d_cons (v_tup (d_cons v_int (d_cons v_int d_nil))) (d_cons (v_tup (d_cons v_int (d_cons v_int d_nil))) (d_cons (v_tup (d_cons v_int (d_cons v_int d_nil))) d_nil)))) d_nil))))))))
    (b_cons (s_if (t_not (t_val (v_callD ok__law_like tk hr rfl (vs_cons (vn 3) (vs_cons (vn 4) vs_nil))))) (b_cons (s_ret v_bl)
    b_nil) b_nil)
    (b_cons (us_set 5 S.nd (v_fr (f_lst (d_cons (v_tup (d_cons (v_tup (d_cons v_int (d_cons v_int (d_cons v_int d_nil)))) (d_cons (v_tup (d_cons v_int (d_cons v_int (d_cons v_int d_nil)))) (d_cons (v_tup (d_cons v_int (d_cons v_int (d_cons v_int d_nil)))) d_nil)))) (d_cons (v_tup (d_cons (v_tup (d_cons v_int (d_cons v_int d_nil))) (d_cons (v_tup (d_cons v_int (d_cons v_int d_nil))) d_nil))) (d_cons (v_tup (d_cons (v_tup (d_cons v_int (d_cons v_int d_nil))) (d_cons (v_tup (d_cons v_int (d_cons v_int d_nil))) d_nil))) (d_cons (v_tup (d_cons (v_tup (d_cons v_int (d_cons v_int (d_cons v_int d_nil)))) (d_cons (v_tup (d_cons v_int (d_cons v_int (d_cons v_int d_nil)))) (d_cons (v_tup (d_cons v_int (d_cons v_int (d_cons v_int d_nil)))) d_nil)))) (d_cons (v_tup d_nil) (d_cons (v_tup (d_cons (v_tup (d_cons v_int (d_cons v_int d_nil))) d_nil)) d_nil)))))))))
    (b_cons (us_set 5 S.nd (u_add (vn 5) (v_ex (v_fr (f_lst (d_cons (v_tup (d_cons (v_tup (d_cons v_int (d_cons v_int d_nil))) (d_cons (v_tup (d_cons v_int d_nil)) d_nil))) (d_cons (v_tup (d_cons (v_tup (d_cons v_int (d_cons v_int d_nil))) (d_cons (v_tup (d_cons v_int (d_cons v_int d_nil))) (d_cons (v_tup (d_cons v_int (d_cons v_int d_nil))) d_nil)))) (d_cons (v_fr (f_lst (d_cons (v_tup (d_cons v_int d_nil)) d_nil))) (d_cons (v_tup (d_cons (v_fr (f_lst (d_cons v_int d_nil))) d_nil)) (d_cons (v_tup (d_cons (v_tup (d_cons v_bl d_nil)) d_nil)) (d_cons v_non (d_cons v_int (d_cons v_str (d_cons (v_tup (d_cons (v_tup (d_cons v_int d_nil)) d_nil)) (d_cons (v_tup (d_cons (v_tup (d_cons v_int (d_cons v_int d_nil))) (d_cons (v_tup (d_cons v_int (d_cons v_int d_nil))) d_nil))) d_nil)))))))))))))))
    (b_cons (us_set 5 S.nd (u_add (vn 5) (v_ex (v_fr (f_lst (d_cons (u_mul (v_ex (v_tup (d_cons (v_tupRg rfl rfl (c.f 45) (rg_1 rfl (c.f 42) v_int)) d_nil))) (v_ex v_int)) d_nil))))))
    (b_cons (us_set 6 S.nd (v_fr (f_lst (d_cons (v_tup (d_cons (v_tup (d_cons v_int d_nil)) d_nil)) (d_cons (vv 1) (d_cons (vv 2) (d_cons (v_tup (d_cons (v_tup (d_cons v_int (d_cons v_int d_nil))) (d_cons (v_tup (d_cons v_int (d_cons v_int d_nil))) d_nil))) (d_cons (u_mul (v_ex (v_tup (d_cons (v_tupRg rfl rfl (c.f 45) (rg_1 rfl (c.f 42) v_int)) d_nil))) (v_ex v_int)) (d_cons (u_mul (v_ex (v_tup (d_cons (v_tup (d_cons v_int (d_cons v_int (d_cons v_int d_nil)))) d_nil))) (v_ex v_int)) (d_cons (v_tup (d_cons (v_tup (d_cons v_int (d_cons v_int (d_cons v_int d_nil)))) (d_cons (v_tup (d_cons v_int (d_cons v_int (d_cons v_int d_nil)))) (d_cons (v_tup (d_cons v_int (d_cons v_int (d_cons v_int d_nil)))) d_nil)))) d_nil))))))))))
    (b_cons (s_if (t_not (t_val (v_callD ok__law_like tk hr rfl (vs_cons (v_ex (v_fr (f_comp (own := [("odd", 7)]) (ws := [7]) rfl S.nd (i_seq (bb := false) (u_add (vn 5) (vn 6))) (blkOk_by (N := N__law_limits_right) (sc := defScope st__law_limits_right) (by decide +kernel)) (fun _ _ _ _ _ => (ug 7 S.nd)) (fun _ _ _ _ _ => ts_nil) (fun _ _ _ _ _ => (v_callD ok_is_cycle_set LamX.takes0 hr rfl (vs_cons (vn 7) vs_nil)))))) (vs_cons (v_ex (u_add (v_ex (v_fr (f_rep (f_lst (d_cons v_bl d_nil)) (v_ex v_int)))) (v_ex (v_fr (f_rep (f_lst (d_cons v_bl d_nil)) (v_ex v_int)))))) vs_nil))))) (b_cons (s_ret v_bl)
    b_nil) b_nil)
    (b_cons (s_ret (u_eq hr (v_ex (v_fr (f_comp (own := [("odd", 7)]) (ws := [7]) rfl S.nd (i_seq (bb := false) (vv 5)) (blkOk_by (N := N__law_limits_right) (sc := defScope st__law_limits_right) (by decide +kernel)) (fun _ _ _ _ _ => (ug 7 S.nd)) (fun _ _ _ _ _ => ts_nil) (fun _ _ _ _ _ => (toldX__law_error c ct (by rfl) hcd hr (LamX.lamS_by (by kernel_rfl)) (fun A outer s H E f' c' hr tk => (v_callD ok_swaps_of tk hr rfl (vs_cons (vn 7) vs_nil)))))))) (v_ex (v_fr (f_rep (f_lst (d_cons v_str d_nil)) (v_ex v_int))))))
    b_nil)))))))))))
theorem sc_law : FnScope N_law ["script"] (defScope st_law) := ⟨rfl, rfl, rfl, by decide +kernel, rfl, by decide +kernel, by decide +kernel⟩
theorem ok_law (c : Fx K mg fn fa exB) (ok__law_cup : OkD P w K mg base "_law_cup" 1 ["script"] N__law_cup m__law_cup) (ok__law_sets_right : OkD P w K mg base "_law_sets_right" 15 ["cup"] N__law_sets_right m__law_sets_right) (ok__law_limits_right : OkD P w K mg base "_law_limits_right" 15 ["cup"] N__law_limits_right m__law_limits_right) : OkD P w K mg base "law" 16 ["script"] N_law m_law :=
  okD_of (body := b_law) (k := 15) c 26 26 rfl rfl sc_law (fun _ _ _ _ _ _ us hl => match us, hl with | [_], _ => rfl) (fun f cdv A outer s H E hr tk => by
    have S := sc_law
    exact (b_cons (us_own 1 S.nd (f_callD ok__law_cup tk hr rfl (vs_cons (vn 0) vs_nil)))
    (b_cons (s_if (t_not (t_val (v_callD ok__law_limits_right tk hr rfl (vs_cons (vn 1) vs_nil)))) (b_cons (s_ret v_bl)
    b_nil) b_nil)
    (b_cons (s_for (passes_of rfl) rfl (i_rg1 (bb := false) rfl (c.f 42) v_int) (ug 2 S.nd) (b_cons (s_if (t_not (t_val (v_callD ok__law_sets_right tk hr rfl (vs_cons (vn 1) vs_nil)))) (b_cons (s_ret v_bl)
    b_nil) b_nil)
    b_nil))
    (b_cons (s_ret v_bl)
    b_nil)))))
theorem ok_all (c : Fx K mg fn fa exB) (ct : TbOk K base mg) : OkD P w K mg base "law" 16 ["script"] N_law m_law := by
  have h__law_cup := ok__law_cup (P := P) (w := w) (base := base) c 
  have h_is_tuple_of := ok_is_tuple_of (P := P) (w := w) (base := base) c 
  have h_is_whole := ok_is_whole (P := P) (w := w) (base := base) c 
  have h_is_turn := ok_is_turn (P := P) (w := w) (base := base) c h_is_tuple_of h_is_whole
  have h_are_turn_rows := ok_are_turn_rows (P := P) (w := w) (base := base) c h_is_tuple_of h_is_turn
  have h_first_unlike := ok_first_unlike (P := P) (w := w) (base := base) c 
  have h_is_cycle_set := ok_is_cycle_set (P := P) (w := w) (base := base) c h_are_turn_rows h_first_unlike
  have h_need_cycle_set := ok_need_cycle_set (P := P) (w := w) (base := base) c h_is_cycle_set
  have h_back_of := ok_back_of (P := P) (w := w) (base := base) c 
  have h_swap_pair := ok_swap_pair (P := P) (w := w) (base := base) c h_back_of
  have h_swaps_of := ok_swaps_of (P := P) (w := w) (base := base) c h_need_cycle_set h_swap_pair
  have h__law_roll := ok__law_roll (P := P) (w := w) (base := base) c 
  have h__law_sort := ok__law_sort (P := P) (w := w) (base := base) c 
  have h__law_like := ok__law_like (P := P) (w := w) (base := base) c h__law_sort
  have h__law_some := ok__law_some (P := P) (w := w) (base := base) c h__law_roll
  have h__law_turn := ok__law_turn (P := P) (w := w) (base := base) c h__law_roll
  have h__law_stock := ok__law_stock (P := P) (w := w) (base := base) c 
  have h__law_beside := ok__law_beside (P := P) (w := w) (base := base) c 
  have h__law_renamed := ok__law_renamed (P := P) (w := w) (base := base) c 
  have h__law_rows := ok__law_rows (P := P) (w := w) (base := base) c h__law_roll h__law_some h__law_turn h__law_stock h__law_beside h__law_renamed
  have h__law_agree := ok__law_agree (P := P) (w := w) (base := base) c 
  have h__law_pair := ok__law_pair (P := P) (w := w) (base := base) c 
  have h__law_thrice := ok__law_thrice (P := P) (w := w) (base := base) c 
  have h__law_sets_right := ok__law_sets_right (P := P) (w := w) (base := base) c h_is_cycle_set h_swaps_of h__law_roll h__law_like h__law_rows h__law_agree h__law_pair h__law_thrice
  have h__law_limits_right := ok__law_limits_right (P := P) (w := w) (base := base) c ct h_is_cycle_set h_swaps_of h__law_like
  have h_law := ok_law (P := P) (w := w) (base := base) c h__law_cup h__law_sets_right h__law_limits_right
  exact h_law
end
end SW
set_option Elab.async false
set_option linter.all false
set_option maxRecDepth 100000
set_option maxHeartbeats 0
namespace SW
open PySem PySem.Spec PyProof.Rows L2
abbrev RR : PySem.W.OpenRow := PySem.W.OpenLaw.row PySem.Challenge.rw_swapsagree_k01_whole_cycle_sets
abbrev hk : PySem.W.Hook := He.hookX 4 fa fn [] tf exB
def ob (s : PySem.W.SharedT) : He.AlX := He.obsX 4 fa fn [] tf exB (HandSHeadRun.getT s)
theorem ob_eq (s : PySem.W.SharedT) : ob s = hk.obs s.abs := He.obsX_eq (HandSHeadRun.getT_eq s)
theorem run (w : World) : HandSHeadRun.RunEq RR (PySem.W.view RR.prog [35]) hk ob 20000 loose w := by
  intro os
  kernel_rfl
theorem exB1 (K : PySem.W.Frag) (h : exB K = true) : kTupB K = true := (Bool.and_eq_true_iff.mp h).1
theorem exB2 (K : PySem.W.Frag) (h : exB K = true) : (tf.map fun p => (He.cT K p).2).Nodup := of_decide_eq_true (Bool.and_eq_true_iff.mp (Bool.and_eq_true_iff.mp h).2).1
end SW
set_option Elab.async false
set_option linter.all false
set_option maxRecDepth 100000
set_option maxHeartbeats 2000000
namespace SW
open PySem L2
theorem whole_ok (d : D) (lo hi : Int) (h : noDict d = true) : m_is_whole [.pl d, .pl (.int lo), .pl (.int hi)] = .ok (.rt (.bool (isWhole d lo hi))) [.un, .un, .un] := by
  cases d with
  | dict _ => cases h
  | int i =>
    by_cases h1 : lo ≤ i
    · by_cases h2 : i ≤ hi <;> simp [m_is_whole, b_is_whole, isWhole, iL_len, mkF, sSeq, sIf, sNx, sRet, sRetF, sRetN, sDrop, sAsg, sOwn, sPar, putAll, aT, aOps, fOps, evs, evsD, Opd.ev, OV.get, getAll, gs_0, gs_s, ss_0, ss_s, eC, eV, aTup, fLst, aFr, fRep, aIf, aAnd, aOr, aNot, tAndA, tOrA, tNotA, aChain, asB, R.bind_ok, R.bind_err, R.bind_bad, nmR, nmE, nmS, gNm, gIx, gTupA, gsRun, isIo, isOwn, setAt, aCall, fCall, callM, argSV, isUn, lent, nodupB, setBack, backSV, fII, atI, ixN, isTy, isNone, big64, wipeE, backE, tYes, iSeq, iRg, aRg1, aRg2, fRg, aTupRg, itemsOf, iEnumA, iZipS, aPart, aSl, aMeth, aOr2, hasTy, sRaise, aTold, F_add, f_sub, F_mul, f_fdiv, f_mod, F_neg, F_lt, F_le, F_gt, F_ge, F_ix, F_len, F_int, F_abs, F_list, F_tuple, F_isi, F_isN, F_notN, F_addL, F_sl, h1, h2]
    · simp [m_is_whole, b_is_whole, isWhole, iL_len, mkF, sSeq, sIf, sNx, sRet, sRetF, sRetN, sDrop, sAsg, sOwn, sPar, putAll, aT, aOps, fOps, evs, evsD, Opd.ev, OV.get, getAll, gs_0, gs_s, ss_0, ss_s, eC, eV, aTup, fLst, aFr, fRep, aIf, aAnd, aOr, aNot, tAndA, tOrA, tNotA, aChain, asB, R.bind_ok, R.bind_err, R.bind_bad, nmR, nmE, nmS, gNm, gIx, gTupA, gsRun, isIo, isOwn, setAt, aCall, fCall, callM, argSV, isUn, lent, nodupB, setBack, backSV, fII, atI, ixN, isTy, isNone, big64, wipeE, backE, tYes, iSeq, iRg, aRg1, aRg2, fRg, aTupRg, itemsOf, iEnumA, iZipS, aPart, aSl, aMeth, aOr2, hasTy, sRaise, aTold, F_add, f_sub, F_mul, f_fdiv, f_mod, F_neg, F_lt, F_le, F_gt, F_ge, F_ix, F_len, F_int, F_abs, F_list, F_tuple, F_isi, F_isN, F_notN, F_addL, F_sl, h1]
  | _ => simp [m_is_whole, b_is_whole, isWhole, iL_len, mkF, sSeq, sIf, sNx, sRet, sRetF, sRetN, sDrop, sAsg, sOwn, sPar, putAll, aT, aOps, fOps, evs, evsD, Opd.ev, OV.get, getAll, gs_0, gs_s, ss_0, ss_s, eC, eV, aTup, fLst, aFr, fRep, aIf, aAnd, aOr, aNot, tAndA, tOrA, tNotA, aChain, asB, R.bind_ok, R.bind_err, R.bind_bad, nmR, nmE, nmS, gNm, gIx, gTupA, gsRun, isIo, isOwn, setAt, aCall, fCall, callM, argSV, isUn, lent, nodupB, setBack, backSV, fII, atI, ixN, isTy, isNone, big64, wipeE, backE, tYes, iSeq, iRg, aRg1, aRg2, fRg, aTupRg, itemsOf, iEnumA, iZipS, aPart, aSl, aMeth, aOr2, hasTy, sRaise, aTold, F_add, f_sub, F_mul, f_fdiv, f_mod, F_neg, F_lt, F_le, F_gt, F_ge, F_ix, F_len, F_int, F_abs, F_list, F_tuple, F_isi, F_isN, F_notN, F_addL, F_sl]
theorem tup_ok (d : D) (lo hi : Int) (h : noDict d = true) : m_is_tuple_of [.pl d, .pl (.int lo), .pl (.int hi)] = .ok (.rt (.bool (isTup d lo hi))) [.un, .un, .un] := by
  cases d with
  | dict _ => cases h
  | tuple xs =>
    by_cases h1 : lo ≤ (xs.length : Int)
    · by_cases h2 : (xs.length : Int) ≤ hi <;> simp [m_is_tuple_of, b_is_tuple_of, isTup, iL_len, mkF, sSeq, sIf, sNx, sRet, sRetF, sRetN, sDrop, sAsg, sOwn, sPar, putAll, aT, aOps, fOps, evs, evsD, Opd.ev, OV.get, getAll, gs_0, gs_s, ss_0, ss_s, eC, eV, aTup, fLst, aFr, fRep, aIf, aAnd, aOr, aNot, tAndA, tOrA, tNotA, aChain, asB, R.bind_ok, R.bind_err, R.bind_bad, nmR, nmE, nmS, gNm, gIx, gTupA, gsRun, isIo, isOwn, setAt, aCall, fCall, callM, argSV, isUn, lent, nodupB, setBack, backSV, fII, atI, ixN, isTy, isNone, big64, wipeE, backE, tYes, iSeq, iRg, aRg1, aRg2, fRg, aTupRg, itemsOf, iEnumA, iZipS, aPart, aSl, aMeth, aOr2, hasTy, sRaise, aTold, F_add, f_sub, F_mul, f_fdiv, f_mod, F_neg, F_lt, F_le, F_gt, F_ge, F_ix, F_len, F_int, F_abs, F_list, F_tuple, F_isi, F_isN, F_notN, F_addL, F_sl, h1, h2]
    · simp [m_is_tuple_of, b_is_tuple_of, isTup, iL_len, mkF, sSeq, sIf, sNx, sRet, sRetF, sRetN, sDrop, sAsg, sOwn, sPar, putAll, aT, aOps, fOps, evs, evsD, Opd.ev, OV.get, getAll, gs_0, gs_s, ss_0, ss_s, eC, eV, aTup, fLst, aFr, fRep, aIf, aAnd, aOr, aNot, tAndA, tOrA, tNotA, aChain, asB, R.bind_ok, R.bind_err, R.bind_bad, nmR, nmE, nmS, gNm, gIx, gTupA, gsRun, isIo, isOwn, setAt, aCall, fCall, callM, argSV, isUn, lent, nodupB, setBack, backSV, fII, atI, ixN, isTy, isNone, big64, wipeE, backE, tYes, iSeq, iRg, aRg1, aRg2, fRg, aTupRg, itemsOf, iEnumA, iZipS, aPart, aSl, aMeth, aOr2, hasTy, sRaise, aTold, F_add, f_sub, F_mul, f_fdiv, f_mod, F_neg, F_lt, F_le, F_gt, F_ge, F_ix, F_len, F_int, F_abs, F_list, F_tuple, F_isi, F_isN, F_notN, F_addL, F_sl, h1]
  | _ => simp [m_is_tuple_of, b_is_tuple_of, isTup, iL_len, mkF, sSeq, sIf, sNx, sRet, sRetF, sRetN, sDrop, sAsg, sOwn, sPar, putAll, aT, aOps, fOps, evs, evsD, Opd.ev, OV.get, getAll, gs_0, gs_s, ss_0, ss_s, eC, eV, aTup, fLst, aFr, fRep, aIf, aAnd, aOr, aNot, tAndA, tOrA, tNotA, aChain, asB, R.bind_ok, R.bind_err, R.bind_bad, nmR, nmE, nmS, gNm, gIx, gTupA, gsRun, isIo, isOwn, setAt, aCall, fCall, callM, argSV, isUn, lent, nodupB, setBack, backSV, fII, atI, ixN, isTy, isNone, big64, wipeE, backE, tYes, iSeq, iRg, aRg1, aRg2, fRg, aTupRg, itemsOf, iEnumA, iZipS, aPart, aSl, aMeth, aOr2, hasTy, sRaise, aTold, F_add, f_sub, F_mul, f_fdiv, f_mod, F_neg, F_lt, F_le, F_gt, F_ge, F_ix, F_len, F_int, F_abs, F_list, F_tuple, F_isi, F_isN, F_notN, F_addL, F_sl]
theorem isTurn_comp (t : List Int) (hl : t.length ≤ 60) : fComp [1] (iSeq (eV 0)) (gNm 1) tYes (aCall m_is_whole [(.br 1), (.ex (eC (.int 0))), (.ex (aOps F_sub [(.ex (aOps F_len [(.br 0)])), (.ex (eC (.int 1)))]))]) [.pl (T t), .un] =
    .ok ((iL t).map fun d => .bool (isWhole d 0 (t.length - 1))) [.pl (T t), .un] := by
  refine fComp_pure (fun d => .bool (isWhole d 0 (t.length - 1))) (by simp [iL_len, mkF, sSeq, sIf, sNx, sRet, sRetF, sRetN, sDrop, sAsg, sOwn, sPar, putAll, aT, aOps, fOps, evs, evsD, Opd.ev, OV.get, getAll, gs_0, gs_s, ss_0, ss_s, eC, eV, aTup, fLst, aFr, fRep, aIf, aAnd, aOr, aNot, tAndA, tOrA, tNotA, aChain, asB, R.bind_ok, R.bind_err, R.bind_bad, nmR, nmE, nmS, gNm, gIx, gTupA, gsRun, isIo, isOwn, setAt, aCall, fCall, callM, argSV, isUn, lent, nodupB, setBack, backSV, fII, atI, ixN, isTy, isNone, big64, wipeE, backE, tYes, iSeq, iRg, aRg1, aRg2, fRg, aTupRg, itemsOf, iEnumA, iZipS, aPart, aSl, aMeth, aOr2, hasTy, sRaise, aTold, F_add, f_sub, F_mul, f_fdiv, f_mod, F_neg, F_lt, F_le, F_gt, F_ge, F_ix, F_len, F_int, F_abs, F_list, F_tuple, F_isi, F_isN, F_notN, F_addL, F_sl]) (fun d hd => ?_) (by rw [iL_len, sizeLine_eq]; omega)
  obtain ⟨i, _, rfl⟩ := iL_mem hd
  have e := whole_ok (.int i) 0 (t.length - 1) rfl
  exact ⟨[.pl (T t), .pl (.int i)], [.pl (T t), .pl (.int i)], by simp [iL_len, mkF, sSeq, sIf, sNx, sRet, sRetF, sRetN, sDrop, sAsg, sOwn, sPar, putAll, aT, aOps, fOps, evs, evsD, Opd.ev, OV.get, getAll, gs_0, gs_s, ss_0, ss_s, eC, eV, aTup, fLst, aFr, fRep, aIf, aAnd, aOr, aNot, tAndA, tOrA, tNotA, aChain, asB, R.bind_ok, R.bind_err, R.bind_bad, nmR, nmE, nmS, gNm, gIx, gTupA, gsRun, isIo, isOwn, setAt, aCall, fCall, callM, argSV, isUn, lent, nodupB, setBack, backSV, fII, atI, ixN, isTy, isNone, big64, wipeE, backE, tYes, iSeq, iRg, aRg1, aRg2, fRg, aTupRg, itemsOf, iEnumA, iZipS, aPart, aSl, aMeth, aOr2, hasTy, sRaise, aTold, F_add, f_sub, F_mul, f_fdiv, f_mod, F_neg, F_lt, F_le, F_gt, F_ge, F_ix, F_len, F_int, F_abs, F_list, F_tuple, F_isi, F_isN, F_notN, F_addL, F_sl], by simp [iL_len, mkF, sSeq, sIf, sNx, sRet, sRetF, sRetN, sDrop, sAsg, sOwn, sPar, putAll, aT, aOps, fOps, evs, evsD, Opd.ev, OV.get, getAll, gs_0, gs_s, ss_0, ss_s, eC, eV, aTup, fLst, aFr, fRep, aIf, aAnd, aOr, aNot, tAndA, tOrA, tNotA, aChain, asB, R.bind_ok, R.bind_err, R.bind_bad, nmR, nmE, nmS, gNm, gIx, gTupA, gsRun, isIo, isOwn, setAt, aCall, fCall, callM, argSV, isUn, lent, nodupB, setBack, backSV, fII, atI, ixN, isTy, isNone, big64, wipeE, backE, tYes, iSeq, iRg, aRg1, aRg2, fRg, aTupRg, itemsOf, iEnumA, iZipS, aPart, aSl, aMeth, aOr2, hasTy, sRaise, aTold, F_add, f_sub, F_mul, f_fdiv, f_mod, F_neg, F_lt, F_le, F_gt, F_ge, F_ix, F_len, F_int, F_abs, F_list, F_tuple, F_isi, F_isN, F_notN, F_addL, F_sl, e], by simp [iL_len, mkF, sSeq, sIf, sNx, sRet, sRetF, sRetN, sDrop, sAsg, sOwn, sPar, putAll, aT, aOps, fOps, evs, evsD, Opd.ev, OV.get, getAll, gs_0, gs_s, ss_0, ss_s, eC, eV, aTup, fLst, aFr, fRep, aIf, aAnd, aOr, aNot, tAndA, tOrA, tNotA, aChain, asB, R.bind_ok, R.bind_err, R.bind_bad, nmR, nmE, nmS, gNm, gIx, gTupA, gsRun, isIo, isOwn, setAt, aCall, fCall, callM, argSV, isUn, lent, nodupB, setBack, backSV, fII, atI, ixN, isTy, isNone, big64, wipeE, backE, tYes, iSeq, iRg, aRg1, aRg2, fRg, aTupRg, itemsOf, iEnumA, iZipS, aPart, aSl, aMeth, aOr2, hasTy, sRaise, aTold, F_add, f_sub, F_mul, f_fdiv, f_mod, F_neg, F_lt, F_le, F_gt, F_ge, F_ix, F_len, F_int, F_abs, F_list, F_tuple, F_isi, F_isN, F_notN, F_addL, F_sl]⟩
theorem turn_ok (t : List Int) (h1 : 1 ≤ t.length) (hl : t.length ≤ 60) : m_is_turn [.pl (T t)] = .ok (.rt (.bool (decide (isort t = upto t.length)))) [.un] := by
  have e1 := tup_ok (T t) 1 60 rfl
  have e2 := isTurn_comp t hl
  have e3 : isTup (T t) 1 60 = true := by simp [isTup, iL_len]; omega
  rw [e3] at e1
  have e4 := all_ints t (fun d => isWhole d 0 (t.length - 1))
  have e5 : F_sorted [T t] = some (.list (iL (isort t))) := by
    show (match intsOf (iL t) with | some ns => some (PyData.list ((isort ns).map .int)) | none => none) = _
    rw [intsOf_ints]; rfl
  have e6 := eq_ints (isort t) (upto t.length)
  have e7 : rgOk 0 (t.length : Int) = true := by unfold rgOk; simp; omega
  have e8 := rgD_upto t.length
  cases q : t.all fun i => isWhole (.int i) 0 (t.length - 1) with
  | false =>
    rw [q] at e4
    have : isort t ≠ upto t.length := fun z => by
      have : (t.all fun i => isWhole (.int i) 0 (t.length - 1)) = true := by
        rw [List.all_eq_true]
        intro i hi
        have : i ∈ upto t.length := by rw [← z]; exact (isort_perm t).mem_iff.mpr hi
        have := mem_upto.mp this
        simp [isWhole]
        omega
      rw [q] at this
      cases this
    simp -implicitDefEqProofs [m_is_turn, b_is_turn, iL_len, mkF, sSeq, sIf, sNx, sRet, sRetF, sRetN, sDrop, sAsg, sOwn, sPar, putAll, aT, aOps, fOps, evs, evsD, Opd.ev, OV.get, getAll, gs_0, gs_s, ss_0, ss_s, eC, eV, aTup, fLst, aFr, fRep, aIf, aAnd, aOr, aNot, tAndA, tOrA, tNotA, aChain, asB, R.bind_ok, R.bind_err, R.bind_bad, nmR, nmE, nmS, gNm, gIx, gTupA, gsRun, isIo, isOwn, setAt, aCall, fCall, callM, argSV, isUn, lent, nodupB, setBack, backSV, fII, atI, ixN, isTy, isNone, big64, wipeE, backE, tYes, iSeq, iRg, aRg1, aRg2, fRg, aTupRg, itemsOf, iEnumA, iZipS, aPart, aSl, aMeth, aOr2, hasTy, sRaise, aTold, F_add, f_sub, F_mul, f_fdiv, f_mod, F_neg, F_lt, F_le, F_gt, F_ge, F_ix, F_len, F_int, F_abs, F_list, F_tuple, F_isi, F_isN, F_notN, F_addL, F_sl, ↓e1, ↓e2, e4, this]
  | true =>
    rw [q] at e4
    simp -implicitDefEqProofs [m_is_turn, b_is_turn, iL_len, mkF, sSeq, sIf, sNx, sRet, sRetF, sRetN, sDrop, sAsg, sOwn, sPar, putAll, aT, aOps, fOps, evs, evsD, Opd.ev, OV.get, getAll, gs_0, gs_s, ss_0, ss_s, eC, eV, aTup, fLst, aFr, fRep, aIf, aAnd, aOr, aNot, tAndA, tOrA, tNotA, aChain, asB, R.bind_ok, R.bind_err, R.bind_bad, nmR, nmE, nmS, gNm, gIx, gTupA, gsRun, isIo, isOwn, setAt, aCall, fCall, callM, argSV, isUn, lent, nodupB, setBack, backSV, fII, atI, ixN, isTy, isNone, big64, wipeE, backE, tYes, iSeq, iRg, aRg1, aRg2, fRg, aTupRg, itemsOf, iEnumA, iZipS, aPart, aSl, aMeth, aOr2, hasTy, sRaise, aTold, F_add, f_sub, F_mul, f_fdiv, f_mod, F_neg, F_lt, F_le, F_gt, F_ge, F_ix, F_len, F_int, F_abs, F_list, F_tuple, F_isi, F_isN, F_notN, F_addL, F_sl, ↓e1, ↓e2, e4, e5, e6, e7, e8]
theorem turn_yes {n : Nat} {t : List Int} (h1 : 1 ≤ n) (hl : n ≤ 60) (ht : Tn n t) : m_is_turn [.pl (T t)] = .ok (.rt (.bool true)) [.un] := by
  have l := ht.len
  rw [turn_ok t (by omega) (by omega)]
  have e : isort t = upto t.length := by rw [l]; exact (isort_eq ht.symm (upto_sorted n)).symm
  rw [decide_eq_true e]
theorem back_ok {n : Nat} {t : List Int} (h0 : 1 ≤ n) (hl : n ≤ 60) (ht : Tn n t) : ∃ f, m_back_of [.pl (T t)] = .ok (.rt (T f)) [.un] ∧ Back t f := by
  have l := ht.len
  have e1 : sOwn 1 (fRep (fLst [(eC (.int 0))]) (.ex (aOps F_len [(.br 0)]))) [.pl (T t), .un, .un, .un] = .ok .nx [.pl (T t), .own false (iL (List.replicate n 0)), .un, .un] := by
    have hz : (decide (-9223372036854775808 ≤ (n : Int)) && (decide ((n : Int) < 9223372036854775808) && decide (1 * ((n : Int)).toNat ≤ sizeLine))) = true := by
      rw [sizeLine_eq]; simp; omega
    have hz1 : 1 ≤ sizeLine := by rw [sizeLine_eq]; omega
    have hz2 : (0 : Nat) + 1 ≤ sizeLine := hz1
    simp -implicitDefEqProofs [iL_len, mkF, sSeq, sIf, sNx, sRet, sRetF, sRetN, sDrop, sAsg, sOwn, sPar, putAll, aT, aOps, fOps, evs, evsD, Opd.ev, OV.get, getAll, gs_0, gs_s, ss_0, ss_s, eC, eV, aTup, fLst, aFr, fRep, aIf, aAnd, aOr, aNot, tAndA, tOrA, tNotA, aChain, asB, R.bind_ok, R.bind_err, R.bind_bad, nmR, nmE, nmS, gNm, gIx, gTupA, gsRun, isIo, isOwn, setAt, aCall, fCall, callM, argSV, isUn, lent, nodupB, setBack, backSV, fII, atI, ixN, isTy, isNone, big64, wipeE, backE, tYes, iSeq, iRg, aRg1, aRg2, fRg, aTupRg, itemsOf, iEnumA, iZipS, aPart, aSl, aMeth, aOr2, hasTy, sRaise, aTold, F_add, f_sub, F_mul, f_fdiv, f_mod, F_neg, F_lt, F_le, F_gt, F_ge, F_ix, F_len, F_int, F_abs, F_list, F_tuple, F_isi, F_isN, F_notN, F_addL, F_sl, l, hz1]
    rw [if_pos (by rw [sizeLine_eq]; omega)]
    simp -implicitDefEqProofs [iL_len, mkF, sSeq, sIf, sNx, sRet, sRetF, sRetN, sDrop, sAsg, sOwn, sPar, putAll, aT, aOps, fOps, evs, evsD, Opd.ev, OV.get, getAll, gs_0, gs_s, ss_0, ss_s, eC, eV, aTup, fLst, aFr, fRep, aIf, aAnd, aOr, aNot, tAndA, tOrA, tNotA, aChain, asB, R.bind_ok, R.bind_err, R.bind_bad, nmR, nmE, nmS, gNm, gIx, gTupA, gsRun, isIo, isOwn, setAt, aCall, fCall, callM, argSV, isUn, lent, nodupB, setBack, backSV, fII, atI, ixN, isTy, isNone, big64, wipeE, backE, tYes, iSeq, iRg, aRg1, aRg2, fRg, aTupRg, itemsOf, iEnumA, iZipS, aPart, aSl, aMeth, aOr2, hasTy, sRaise, aTold, F_add, f_sub, F_mul, f_fdiv, f_mod, F_neg, F_lt, F_le, F_gt, F_ge, F_ix, F_len, F_int, F_abs, F_list, F_tuple, F_isi, F_isN, F_notN, F_addL, F_sl, rep_iL]
  obtain ⟨ρ', e2, f, x, y, rfl, hx, hy, hf, hb⟩ := for_inv (it := iEnumA (eV 0)) (g := gTupA [(gNm 2), (gNm 3)]) (body := sSeq (sAsg (eV 2) (gIx 1 (eV 3))) sNx) (ρ0 := [.pl (T t), .own false (iL (List.replicate n 0)), .un, .un]) (ρ := [.pl (T t), .own false (iL (List.replicate n 0)), .un, .un]) (items := enumD (iL t))
    (fun i ρ => ∃ (f : List Int) (x y : SV), ρ = [.pl (T t), .own false (iL f), x, y] ∧ isIo x = false ∧ isIo y = false ∧ f.length = n ∧ ∀ j, j < i → f.getD (t.getD j 0).toNat 0 = (j : Int))
    (by simp -implicitDefEqProofs [iL_len, mkF, sSeq, sIf, sNx, sRet, sRetF, sRetN, sDrop, sAsg, sOwn, sPar, putAll, aT, aOps, fOps, evs, evsD, Opd.ev, OV.get, getAll, gs_0, gs_s, ss_0, ss_s, eC, eV, aTup, fLst, aFr, fRep, aIf, aAnd, aOr, aNot, tAndA, tOrA, tNotA, aChain, asB, R.bind_ok, R.bind_err, R.bind_bad, nmR, nmE, nmS, gNm, gIx, gTupA, gsRun, isIo, isOwn, setAt, aCall, fCall, callM, argSV, isUn, lent, nodupB, setBack, backSV, fII, atI, ixN, isTy, isNone, big64, wipeE, backE, tYes, iSeq, iRg, aRg1, aRg2, fRg, aTupRg, itemsOf, iEnumA, iZipS, aPart, aSl, aMeth, aOr2, hasTy, sRaise, aTold, F_add, f_sub, F_mul, f_fdiv, f_mod, F_neg, F_lt, F_le, F_gt, F_ge, F_ix, F_len, F_int, F_abs, F_list, F_tuple, F_isi, F_isN, F_notN, F_addL, F_sl]) ⟨_, _, _, rfl, rfl, rfl, by simp, fun j hj => absurd hj (Nat.not_lt_zero _)⟩ fun i d ρ hd hI => by
      obtain ⟨f, x, y, rfl, hx, hy, hf, hb⟩ := hI
      obtain ⟨hi, v, ev, rfl⟩ := enum_at hd
      have a := ht.at (i := i) (by omega)
      rw [← ev] at a
      have hix : ixN (iL f).length v = some v.toNat := by
        rw [iL_len]
        unfold ixN
        rw [if_pos a.1, if_pos (by omega)]
      refine ⟨[.pl (T t), .own false (iL f), .pl (.int i), .pl (.int v)], [.pl (T t), .own false (iL (f.set v.toNat i)), .pl (.int i), .pl (.int v)], by simp -implicitDefEqProofs [gTupA, gsRun, gNm, gs_0, gs_s, ss_0, ss_s, hx, hy, R.bind_ok], ?_, _, _, _, rfl, rfl, rfl, by rw [List.length_set]; exact hf, fun j hj => ?_⟩
      · have hs : setAt (.int v) (.own false (iL f)) (.int i) = some (.own false (iL (f.set v.toNat i))) := by
          show (match ixN (iL f).length v with | some j => some (SV.own false ((iL f).set j (.int i))) | none => none) = _
          rw [hix, ← set_iL]
        simp -implicitDefEqProofs [sSeq, sNx, sAsg, eV, gIx, gs_0, gs_s, ss_0, ss_s, isOwn, hs, R.bind_ok]
      · have b := ht.at (i := j) (by omega)
        by_cases e : j = i
        · subst e
          rw [← ev, List.getD_eq_getElem?_getD, List.getElem?_set_self (by omega)]
          rfl
        · have ne : v.toNat ≠ (t.getD j 0).toNat := fun z => e (ht.inj (by omega) (by omega) (by omega))
          rw [List.getD_eq_getElem?_getD, List.getElem?_set_ne ne, ← List.getD_eq_getElem?_getD]
          exact hb j (by omega)
  refine ⟨f, ?_, ⟨by omega, fun j hj => hb j (by rw [enum_len, iL_len]; exact hj)⟩⟩
  have e3 : aOps F_tuple [(.br 1)] [.pl (T t), .own false (iL f), x, y] = .ok (T f) [.pl (T t), .own false (iL f), x, y] := by simp -implicitDefEqProofs [iL_len, mkF, sSeq, sIf, sNx, sRet, sRetF, sRetN, sDrop, sAsg, sOwn, sPar, putAll, aT, aOps, fOps, evs, evsD, Opd.ev, OV.get, getAll, gs_0, gs_s, ss_0, ss_s, eC, eV, aTup, fLst, aFr, fRep, aIf, aAnd, aOr, aNot, tAndA, tOrA, tNotA, aChain, asB, R.bind_ok, R.bind_err, R.bind_bad, nmR, nmE, nmS, gNm, gIx, gTupA, gsRun, isIo, isOwn, setAt, aCall, fCall, callM, argSV, isUn, lent, nodupB, setBack, backSV, fII, atI, ixN, isTy, isNone, big64, wipeE, backE, tYes, iSeq, iRg, aRg1, aRg2, fRg, aTupRg, itemsOf, iEnumA, iZipS, aPart, aSl, aMeth, aOr2, hasTy, sRaise, aTold, F_add, f_sub, F_mul, f_fdiv, f_mod, F_neg, F_lt, F_le, F_gt, F_ge, F_ix, F_len, F_int, F_abs, F_list, F_tuple, F_isi, F_isN, F_notN, F_addL, F_sl]
  exact mk_ok rfl (seq_nx e1 (seq_nx e2 (seq_rt (ret_ok e3)))) rfl
theorem cup_ok (ns : List Int) (h : ns.length ≤ 63) : ∃ a b : Int, m__law_cup [.pl (.list (iL ns))] = .ok (.rf [.int a, .int b]) [.un] ∧ 0 ≤ a ∧ 0 ≤ b := by
  have hz : (iL ns).length + 1 ≤ sizeLine := le_sz (by rw [iL_len]; omega)
  obtain ⟨v, hv⟩ : ∃ v, F_ix [.list (iL ns ++ [.int 0]), .int 0] = some (.int v) := by
    cases ns with
    | nil => exact ⟨0, rfl⟩
    | cons x r => exact ⟨x, f_ixL (Int.le_refl _) rfl⟩
  have hp : F_pow [.int 10, .int 18] = some (.int 1000000000000000000) := by rfl
  have ha := f_addL (a := iL ns) (b := [.int 0]) hz
  obtain ⟨c, hc, hc0⟩ : ∃ c : Int, F_abs [.int v] = some (.int c) ∧ 0 ≤ c := ⟨_, rfl, by split <;> omega⟩
  have hmul : F_mul [.int c, .int 1091] = some (.int (c * 1091)) := f_mulI (by
    have : big64 1091 = true := by rfl
    rw [this, Bool.or_true])
  have s1 : aOps F_abs [(.ex (aOps F_ix [(.ex (aOps F_add [(.ex (aFr (fOps F_list [(.br 0)]))), (.ex (aFr (fLst [(eC (.int 0))])))])), (.ex (eC (.int 0)))]))] [.pl (.list (iL ns)), .un] = .ok (.int c) [.pl (.list (iL ns)), .un] :=
    ops1 (ex_ok (ops2 (ex_ok (ops2 (ex_ok (fr_ok (ds := iL ns) rfl)) (ex_ok (fr_ok (lst_ok (ds := [.int 0]) rfl (by decide)))) rfl rfl ha)) (ex_ok rfl) rfl rfl hv)) rfl hc
  have s3 : aOps F_mod [(.ex (aOps F_int [(.ex (aOps F_add [(.ex (aOps F_mul [(.br 1), (.ex (eC (.int 1091)))])), (.ex (eC (.int 94033)))]))])), (.ex (eC (.int 1048576)))] [.pl (.list (iL ns)), .pl (.int c)] = .ok (.int ((c * 1091 + 94033) % 1048576)) [.pl (.list (iL ns)), .pl (.int c)] :=
    ops2 (ex_ok (ops1 (ex_ok (ops2 (ex_ok (ops2 rfl (ex_ok rfl) rfl rfl hmul)) (ex_ok rfl) rfl rfl (f_addI _ _))) rfl rfl)) (ex_ok rfl) rfl rfl (f_mod (by decide))
  obtain ⟨a, ha0, s2⟩ : ∃ a : Int, 0 ≤ a ∧ aIf (aT (aOps F_ge [(.br 1), (.ex (aOps F_pow [(.ex (eC (.int 10))), (.ex (eC (.int 18)))]))])) (aOps F_fdiv [(.br 1), (.ex (eC (.int 311)))]) (eC (.int 0)) [.pl (.list (iL ns)), .pl (.int c)] = .ok (.int a) [.pl (.list (iL ns)), .pl (.int c)] := by
    have t : aOps F_ge [(.br 1), (.ex (aOps F_pow [(.ex (eC (.int 10))), (.ex (eC (.int 18)))]))] [.pl (.list (iL ns)), .pl (.int c)] = .ok (.bool (decide (1000000000000000000 ≤ c))) [.pl (.list (iL ns)), .pl (.int c)] := ops2 rfl (ex_ok (ops2 (ex_ok rfl) (ex_ok rfl) rfl rfl hp)) rfl rfl rfl
    cases q : decide (1000000000000000000 ≤ c) with
    | true =>
      rw [q] at t
      exact ⟨c / 311, Int.ediv_nonneg hc0 (by decide), aif_t (aT_ok t) (ops2 rfl (ex_ok rfl) rfl rfl (f_fdiv (by decide) (by decide)))⟩
    | false =>
      rw [q] at t
      exact ⟨0, Int.le_refl _, aif_f (aT_ok t) rfl⟩
  exact ⟨a, (c * 1091 + 94033) % 1048576, mk_ok (body := b__law_cup) rfl (seq_nx (set_ok s1 rfl rfl) (seq_rf (retf_ok (lst_ok (ds_cons s2 (ds_cons s3 ds_nil)) (Nat.le_add_left _ _))))) rfl, ha0, Int.emod_nonneg _ (by decide)⟩
theorem roll_ok (a b n : Int) (ha : 0 ≤ a) (hb : 0 ≤ b) (hn : 0 < n) (hn2 : n < 1073741824) : ∃ r a' b', m__law_roll [.own true [.int a, .int b], .pl (.int n)] = .ok (.rt (.int r)) [.own true [.int a', .int b'], .un] ∧ 0 ≤ r ∧ r < n ∧ 0 ≤ a' ∧ 0 ≤ b' := by
  by_cases h : 0 < a
  · refine ⟨a % n, a / n, b, ?_, Int.emod_nonneg _ (by omega), Int.emod_lt_of_pos _ hn, Int.ediv_nonneg ha (by omega), hb⟩
    have t : aT (aOps F_gt [(.ex (aOps F_ix [(.br 0), (.ex (eC (.int 0)))])), (.ex (eC (.int 0)))]) [.own true [.int a, .int b], .pl (.int n), .un] = .ok true [.own true [.int a, .int b], .pl (.int n), .un] := aT_ok (by
      rw [← decide_eq_true h]
      exact ops2 (ex_ok (ops2 rfl (ex_ok rfl) rfl rfl rfl)) (ex_ok rfl) rfl rfl rfl)
    exact mk_ok (body := b__law_roll) rfl (seq_rt (ift t (seq_nx (set_ok (ops2 (ex_ok (ops1 (ex_ok (ops2 rfl (ex_ok rfl) rfl rfl rfl)) rfl rfl)) rfl rfl rfl (f_mod hn)) rfl rfl)
      (seq_nx (put_ix (ops2 (ex_ok (ops2 rfl (ex_ok rfl) rfl rfl rfl)) rfl rfl rfl (f_fdiv hn hn2)) rfl rfl rfl rfl) (seq_rt (ret_ok rfl)))))) rfl
  · have t : aT (aOps F_gt [(.ex (aOps F_ix [(.br 0), (.ex (eC (.int 0)))])), (.ex (eC (.int 0)))]) [.own true [.int a, .int b], .pl (.int n), .un] = .ok false [.own true [.int a, .int b], .pl (.int n), .un] := aT_ok (by
      rw [← decide_eq_false h]
      exact ops2 (ex_ok (ops2 rfl (ex_ok rfl) rfl rfl rfl)) (ex_ok rfl) rfl rfl rfl)
    have hmul : F_mul [.int b, .int 21269] = some (.int (b * 21269)) := f_mulI (by
      have : big64 21269 = true := by rfl
      rw [this, Bool.or_true])
    refine ⟨((b * 21269 + 45433) % 1048576) / 137 % n, a, (b * 21269 + 45433) % 1048576, ?_, Int.emod_nonneg _ (by omega), Int.emod_lt_of_pos _ hn, ha, Int.emod_nonneg _ (by decide)⟩
    exact mk_ok (body := b__law_roll) rfl (seq_nx (iff' t rfl) (seq_nx (put_ix (ops2 (ex_ok (ops1 (ex_ok (ops2 (ex_ok (ops2 (ex_ok (ops2 rfl (ex_ok rfl) rfl rfl rfl)) (ex_ok rfl) rfl rfl hmul)) (ex_ok rfl) rfl rfl (f_addI _ _))) rfl rfl)) (ex_ok rfl) rfl rfl (f_mod (by decide))) rfl rfl rfl rfl)
      (seq_rt (ret_ok (ops2 (ex_ok (ops1 (ex_ok (ops2 (ex_ok (ops2 rfl (ex_ok rfl) rfl rfl rfl)) (ex_ok rfl) rfl rfl (f_fdiv (by decide) (by decide)))) rfl rfl)) rfl rfl rfl (f_mod hn)))))) rfl
theorem roll_nat {s : SV} (hs : CupS s) {n : Nat} (hn : 0 < n) (hn2 : n ≤ 1000) : ∃ r : Nat, ∃ s', m__law_roll [s, .pl (.int n)] = .ok (.rt (.int (r : Nat))) [s', .un] ∧ r < n ∧ CupS s' := by
  obtain ⟨a, b, rfl, ha, hb⟩ := hs
  obtain ⟨r, a', b', e, h1, h2, h3, h4⟩ := roll_ok a b n ha hb (by omega) (by omega)
  exact ⟨r.toNat, _, by rw [show ((r.toNat : Nat) : Int) = r by omega]; exact e, by omega, a', b', rfl, h3, h4⟩
/-- a slot that holds a cup of the def that was called -/
theorem cup_facts {s s' : SV} (h : CupS s) (h' : CupS s') (ρ : En) : isIo s = true ∧ isOwn s = true ∧ isUn (argSV (s :: ρ) (.slot 0)) = false ∧ argSV (s :: ρ) (.slot 0) = s ∧ backSV true s' = s' := by
  obtain ⟨a, b, rfl, _⟩ := h
  obtain ⟨a', b', rfl, _⟩ := h'
  exact ⟨rfl, rfl, rfl, rfl, rfl⟩
theorem lturn_ok {s : SV} (hs : CupS s) {n : Nat} (hn : n ≤ 60) : ∃ t s', m__law_turn [s, .pl (.int n)] = .ok (.rt (T t)) [s', .un] ∧ Tn n t ∧ CupS s' := by
  obtain ⟨a0, b0, rfl, ha0, hb0⟩ := hs
  have s1 : sPar [2, 3] [(aFr (fRg (aRg1 (eV 1)))), (aFr (fLst []))] [.own true [.int a0, .int b0], .pl (.int n), .un, .un, .un, .un] = .ok .nx [.own true [.int a0, .int b0], .pl (.int n), .pl (.list (iL (upto n))), .pl (.list (iL [])), .un, .un] := by
    rw [← rgD_upto]
    exact par_ok (ds_cons (fr_ok (frg_ok (rg1_ok rfl) (rgOk_n (by omega)))) (ds_cons (fr_ok (lst_ok ds_nil (Nat.zero_le _))) ds_nil)) rfl
  obtain ⟨ρ', s2, a, b, l, f, x, y, rfl, ha, hb, hx, hy, hl, hp⟩ := for_inv (it := iRg (aRg1 (eV 1))) (g := gNm 4) (body := (sSeq (sAsg (aCall m__law_roll [(.br 0), (.ex (aOps F_len [(.br 2)]))]) (gNm 5))
      (sSeq (sAsg (aOps F_add [(.br 3), (.ex (aFr (fLst [(aOps F_ix [(.br 2), (.br 5)])])))]) (gNm 3))
      (sSeq (sAsg (aOps F_add [(.ex (aSl (.br 2) none (some (eV 5)))), (.ex (aSl (.br 2) (some (aOps F_add [(.br 5), (.ex (eC (.int 1)))])) none))]) (gNm 2))
      sNx)))) (ρ0 := [.own true [.int a0, .int b0], .pl (.int n), .pl (.list (iL (upto n))), .pl (.list (iL [])), .un, .un]) (ρ := [.own true [.int a0, .int b0], .pl (.int n), .pl (.list (iL (upto n))), .pl (.list (iL [])), .un, .un]) (items := iL (upto n))
    (fun i ρ => ∃ (a b : Int) (l f : List Int) (x y : SV), ρ = [.own true [.int a, .int b], .pl (.int n), .pl (.list (iL l)), .pl (.list (iL f)), x, y] ∧ 0 ≤ a ∧ 0 ≤ b ∧ isIo x = false ∧ isIo y = false ∧ l.length + i = n ∧ (f ++ l).Perm (upto n))
    (by rw [← rgs_upto]; exact irg_ok (rg1_ok rfl) (rgIn_n (by omega))) ⟨_, _, _, _, _, _, rfl, ha0, hb0, rfl, rfl, (by rw [upto_len]; rfl), List.Perm.refl _⟩ fun i d ρ hd hI => by
      obtain ⟨a, b, l, f, x, y, rfl, ha, hb, hx, hy, hl, hp⟩ := hI
      obtain ⟨hi, rfl⟩ := upto_item hd
      obtain ⟨r, s', er, hr, a', b', rfl, ha', hb'⟩ := roll_nat ⟨a, b, rfl, ha, hb⟩ (n := l.length) (by omega) (by omega)
      have hfl := hp.length_eq
      rw [List.length_append, upto_len] at hfl
      have ix : F_ix [.list (iL l), .int (r : Nat)] = some (.int (l.getD r 0)) := f_ixL (Int.natCast_nonneg _) (by rw [Int.toNat_natCast]; exact iL_at (getD_at hr))
      have ad : F_add [.list (iL f), .list [.int (l.getD r 0)]] = some (.list (iL (f ++ [l.getD r 0]))) := by
        rw [f_addL (le_sz (by rw [iL_len]; show f.length + 1 ≤ _; omega)), iL_one, iL_app]
      have sl1 : F_sl (.list (iL l)) none (some (r : Nat)) = some (.list (iL (l.take r))) := by
        rw [f_slL_to (Int.natCast_nonneg _) (by rw [iL_len]; omega), Int.toNat_natCast]
        unfold iL
        rw [List.map_take]
      have sl2 : F_sl (.list (iL l)) (some ((r : Nat) + 1)) none = some (.list (iL (l.drop (r + 1)))) := by
        rw [f_slL_from (by omega), show ((r : Nat) + 1 : Int).toNat = r + 1 by omega]
        unfold iL
        rw [List.map_drop]
      have ad2 : F_add [.list (iL (l.take r)), .list (iL (l.drop (r + 1)))] = some (.list (iL (l.take r ++ l.drop (r + 1)))) := by
        rw [f_addL (le_sz (by rw [iL_len, iL_len, List.length_take, List.length_drop]; omega)), iL_app]
      have ln : F_len [.list (iL l)] = some (.int (l.length : Nat)) := by
        show some (PyData.int ((iL l).length : Nat)) = _
        rw [iL_len]
      refine ⟨[.own true [.int a, .int b], .pl (.int n), .pl (.list (iL l)), .pl (.list (iL f)), .pl (.int i), y], [.own true [.int a', .int b'], .pl (.int n), .pl (.list (iL (l.take r ++ l.drop (r + 1)))), .pl (.list (iL (f ++ [l.getD r 0]))), .pl (.int i), .pl (.int r)], ?_, ?_, _, _, _, _, _, _, rfl, ha', hb', rfl, rfl, ?_, turn_step hp hr⟩
      · unfold gNm
        rw [gs_s, gs_s, gs_s, gs_s, gs_0, hx]
        rfl
      · exact seq_nx (set_ok (call_v (os_cons rfl (os_cons (ex_ok (ops1 rfl rfl ln)) os_nil)) rfl er rfl rfl) hy rfl)
          (seq_nx (set_ok (ops2 rfl (ex_ok (fr_ok (lst_ok (ds_cons (ops2 rfl rfl rfl rfl ix) ds_nil) (by show 1 ≤ _; decide)))) rfl rfl ad) rfl rfl)
          (seq_nx (set_ok (ops2 (ex_ok (sl_ok rfl pt_none (pt_some rfl) rfl sl1)) (ex_ok (sl_ok rfl (pt_some (ops2 rfl (ex_ok rfl) rfl rfl (f_addI _ _))) pt_none rfl sl2)) rfl rfl ad2) rfl rfl) rfl))
      · rw [List.length_append, List.length_take, List.length_drop]
        omega
  rw [iL_len, upto_len] at hl
  have l0 : l = [] := List.eq_nil_of_length_eq_zero (by omega)
  subst l0
  rw [List.append_nil] at hp
  exact ⟨f, _, mk_ok (body := b__law_turn) rfl (seq_nx s1 (seq_nx s2 (seq_rt (ret_ok (ops1 rfl rfl rfl))))) rfl, hp, a, b, rfl, ha, hb⟩
theorem sort_ok (d : D) (h : noDict d = true) : m__law_sort [.pl d] = .ok (.rt (.int (sortN d))) [.un] := by
  cases d with
  | dict _ => cases h
  | _ => rfl
theorem like_head {mr : MF} {d : D} (h : noDict d = true) : sSeq (sAsg (aCall m__law_sort [(.br 1)]) (gNm 2)) sNx [.pl d, .pl d, .un, .un, .un] = .ok .nx [.pl d, .pl d, .pl (.int (sortN d)), .un, .un] :=
  seq_nx (set_ok (call_v rfl rfl (sort_ok d h) rfl rfl) rfl rfl) rfl
theorem like_seq {mr : MF} {d : D} {xs : List D} (hd : d = .tuple xs ∨ d = .list xs) (hl : xs.length ≤ 16777216) (ih : ∀ x ∈ xs, mr [.pl x, .pl x] = .ok (.rt (.bool true)) [.un, .un]) :
    mkF 5 (b__law_like mr) [.pl d, .pl d] = .ok (.rt (.bool true)) [.un, .un] := by
  have hn : noDict d = true := by rcases hd with rfl | rfl <;> rfl
  have hs : sortN d = 4 ∨ sortN d = 5 := by
    rcases hd with rfl | rfl
    · exact .inl rfl
    · exact .inr rfl
  have ln : F_len [d] = some (.int (xs.length : Nat)) := by rcases hd with rfl | rfl <;> rfl
  have e1 := sort_ok d hn
  have hne : F_ne [.int (sortN d), .int (sortN d)] = some (.bool false) := by rw [ne_int]; simp
  have h6 : F_eq [.int (sortN d), .int 6] = some (.bool false) := by
    rw [eq_int]
    rcases hs with h | h <;> rw [h] <;> rfl
  have hin : F_in [.int (sortN d), .tuple [.int 4, .int 5]] = some (.bool true) := by
    rw [in45]
    rcases hs with h | h <;> rw [h] <;> rfl
  have hlen : F_eq [.int (xs.length : Nat), .int (xs.length : Nat)] = some (.bool true) := by rw [eq_int]; simp
  have hz : iZipS [(eV 0), (eV 1)] [.pl d, .pl d, .pl (.int (sortN d)), .un, .un] = .ok (zipD xs xs) [.pl d, .pl d, .pl (.int (sortN d)), .un, .un] := by rcases hd with rfl | rfl <;> rfl
  have hc := fComp_filt (vs := [3, 4]) (g := gTupA [(gNm 3), (gNm 4)]) (tt := tNotA (aT (aCall mr [(.br 3), (.br 4)]))) (te := eC (.int 1)) (fun _ => false) (fun _ => .int 1) hz (fun z hzm => by
    obtain ⟨x, hx, rfl⟩ := zip_self hzm
    exact ⟨[.pl d, .pl d, .pl (.int (sortN d)), .pl x, .pl x], [.pl d, .pl d, .pl (.int (sortN d)), .pl x, .pl x], rfl, not_ok (b := true) (aT_ok (call_v rfl rfl (ih x hx) rfl rfl)), fun _ => rfl, fun z => nomatch z⟩) (le_sz (by rw [zip_len]; exact hl))
  have hc2 : fComp [3, 4] (iZipS [(eV 0), (eV 1)]) (gTupA [(gNm 3), (gNm 4)]) (tNotA (aT (aCall mr [(.br 3), (.br 4)]))) (eC (.int 1)) [.pl d, .pl d, .pl (.int (sortN d)), .un, .un] = .ok [] [.pl d, .pl d, .pl (.int (sortN d)), .un, .un] := by
    rw [hc]
    simp
  exact mk_ok rfl (seq_nx (set_ok (call_v rfl rfl e1 rfl rfl) rfl rfl) (seq_nx (iff' (or_f (aT_ok (ops2 (ex_ok (call_v rfl rfl e1 rfl rfl)) rfl rfl rfl hne)) (aT_ok (ops2 rfl (ex_ok rfl) rfl rfl h6))) rfl)
    (seq_rt (ift (aT_ok (ops2 rfl (ex_ok (atup_ok (ds_cons rfl (ds_cons rfl ds_nil)) (by show 2 ≤ _; decide))) rfl rfl hin))
      (seq_rt (ret_ok (aand_t (ops2 (ex_ok (ops1 rfl rfl ln)) (ex_ok (ops1 rfl rfl ln)) rfl rfl hlen) (ops2 (ex_ok (fr_ok hc2)) (ex_ok (fr_ok (lst_ok ds_nil (Nat.zero_le _)))) rfl rfl eq_nil)))))))) rfl
theorem like_atom {mr : MF} {d : D} (ha : atom d = true) : mkF 5 (b__law_like mr) [.pl d, .pl d] = .ok (.rt (.bool true)) [.un, .un] := by
  have hn : noDict d = true := by cases d <;> first | rfl | cases ha
  have hs : sortN d < 4 ∧ 0 ≤ sortN d := by cases d <;> first | (simp [sortN]; done) | cases ha
  have e1 := sort_ok d hn
  have hne : F_ne [.int (sortN d), .int (sortN d)] = some (.bool false) := by rw [ne_int]; simp
  have h6 : F_eq [.int (sortN d), .int 6] = some (.bool false) := by
    rw [eq_int, decide_eq_false (by omega)]
  have hin : F_in [.int (sortN d), .tuple [.int 4, .int 5]] = some (.bool false) := by
    rw [in45, decide_eq_false (by omega), decide_eq_false (by omega)]
    rfl
  exact mk_ok rfl (seq_nx (set_ok (call_v rfl rfl e1 rfl rfl) rfl rfl) (seq_nx (iff' (or_f (aT_ok (ops2 (ex_ok (call_v rfl rfl e1 rfl rfl)) rfl rfl rfl hne)) (aT_ok (ops2 rfl (ex_ok rfl) rfl rfl h6))) rfl)
    (seq_nx (iff' (aT_ok (ops2 rfl (ex_ok (atup_ok (ds_cons rfl (ds_cons rfl ds_nil)) (by show 2 ≤ _; decide))) rfl rfl hin)) rfl)
      (seq_rt (ret_ok (ops2 rfl rfl rfl rfl (eq_atom ha))))))) rfl
theorem like_n : ∀ (n : Nat) (d : D), likeN n d = true → mm__law_like (n + 1) [.pl d, .pl d] = .ok (.rt (.bool true)) [.un, .un]
  | n, .none, _ => like_atom rfl
  | n, .bool _, _ => like_atom rfl
  | n, .int _, _ => like_atom rfl
  | n, .str s, h => like_atom (by
    have : likeN n (.str s) = PyData.strOk s := by cases n <;> rfl
    rw [this] at h
    exact h)
  | 0, .tuple _, h => by cases h
  | 0, .list _, h => by cases h
  | n, .dict _, h => by cases n <;> cases h
  | n + 1, .tuple xs, h => by
    have h' : (decide (xs.length ≤ 16777216) && xs.all (likeN n)) = true := h
    simp only [Bool.and_eq_true, decide_eq_true_eq, List.all_eq_true] at h'
    exact like_seq (mr := mm__law_like (n + 1)) (.inl rfl) h'.1 fun x hx => like_n n x (h'.2 x hx)
  | n + 1, .list xs, h => by
    have h' : (decide (xs.length ≤ 16777216) && xs.all (likeN n)) = true := h
    simp only [Bool.and_eq_true, decide_eq_true_eq, List.all_eq_true] at h'
    exact like_seq (mr := mm__law_like (n + 1)) (.inr rfl) h'.1 fun x hx => like_n n x (h'.2 x hx)
theorem like_ok {d : D} (h : likeN 11 d = true) : m__law_like [.pl d, .pl d] = .ok (.rt (.bool true)) [.un, .un] := like_n 11 d h
theorem like_not {o : List Opd} {ρ : En} {b : Bool} (h : aCall m__law_like o ρ = .ok (.bool true) ρ) {f : AS} : sIf (tNotA (aT (aCall m__law_like o))) f sNx ρ = .ok .nx ρ := iff' (not_ok (b := true) (aT_ok h)) rfl
theorem some_ok {s : SV} (hs : CupS s) {xs : List D} (h0 : 0 < xs.length) (hl : xs.length ≤ 1000) : ∃ d s', m__law_some [s, .pl (.list xs)] = .ok (.rt d) [s', .un] ∧ CupS s' ∧ d ∈ xs := by
  obtain ⟨a0, b0, rfl, ha0, hb0⟩ := hs
  obtain ⟨r, s1, e1, hr, a1, b1, rfl, ha1, hb1⟩ := roll_nat ⟨a0, b0, rfl, ha0, hb0⟩ (n := xs.length) h0 hl
  have ix : F_ix [.list xs, .int (r : Nat)] = some xs[r] := f_ixL (Int.natCast_nonneg _) (by rw [Int.toNat_natCast]; exact List.getElem?_eq_getElem hr)
  exact ⟨xs[r], .own true [.int a1, .int b1], mk_ok (body := b__law_some) (ρ' := [.own true [.int a1, .int b1], .pl (.list xs)]) rfl (seq_rt (ret_ok (ops2 rfl (ex_ok (call_c (os_cons rfl (os_cons (ex_ok (ops1 rfl rfl rfl)) os_nil)) rfl e1 rfl rfl)) rfl rfl ix))) rfl, ⟨a1, b1, rfl, ha1, hb1⟩, List.getElem_mem hr⟩
end SW
set_option Elab.async false
set_option linter.all false
set_option maxRecDepth 100000
set_option maxHeartbeats 2000000
namespace SW
open PySem L2
/-! ### data told apart, as far as n deep -/
def beqN : Nat → D → D → Bool
  | _, .none, .none => true
  | _, .bool a, .bool b => a == b
  | _, .int a, .int b => a == b
  | n + 1, .tuple xs, .tuple ys => decide (xs.length = ys.length) && (xs.zip ys).all fun p => beqN n p.1 p.2
  | n + 1, .list xs, .list ys => decide (xs.length = ys.length) && (xs.zip ys).all fun p => beqN n p.1 p.2
  | _, _, _ => false
theorem zip_eq {p : D → D → Bool} (hp : ∀ a b, p a b = true → a = b) : ∀ {xs ys : List D}, xs.length = ys.length → ((xs.zip ys).all fun q => p q.1 q.2) = true → xs = ys
  | [], [], _, _ => rfl
  | [], _ :: _, h, _ => by simp at h
  | _ :: _, [], h, _ => by simp at h
  | x :: xs, y :: ys, h, h2 => by
    rw [List.zip_cons_cons, List.all_cons, Bool.and_eq_true] at h2
    have e : x = y := hp x y h2.1
    rw [e, zip_eq hp (by simpa using h) h2.2]
theorem beqN_eq : ∀ (n : Nat) (a b : D), beqN n a b = true → a = b
  | 0, a, b, h => by
    cases a <;> cases b <;> first | rfl | (have h' := eq_of_beq h; rw [h']) | cases h
  | n + 1, a, b, h => by
    cases a with
    | tuple xs =>
      cases b with
      | tuple ys =>
        have h' : (decide (xs.length = ys.length) && (xs.zip ys).all fun p => beqN n p.1 p.2) = true := h
        rw [Bool.and_eq_true, decide_eq_true_eq] at h'
        rw [zip_eq (fun a b => beqN_eq n a b) h'.1 h'.2]
      | _ => cases h
    | list xs =>
      cases b with
      | list ys =>
        have h' : (decide (xs.length = ys.length) && (xs.zip ys).all fun p => beqN n p.1 p.2) = true := h
        rw [Bool.and_eq_true, decide_eq_true_eq] at h'
        rw [zip_eq (fun a b => beqN_eq n a b) h'.1 h'.2]
      | _ => cases h
    | _ => cases b <;> first | rfl | (have h' := eq_of_beq h; rw [h']) | cases h
/-- the mirror gives that datum, nothing is lent -/
def givesB (k : Nat) (r : R Fl) (d : D) : Bool := match r with
  | .ok (.rt e) ρ => beqN 6 e d && decide (ρ.length = k) && ρ.all isUn
  | _ => false
theorem all_un : ∀ {ρ : En}, ρ.all isUn = true → ρ = List.replicate ρ.length .un
  | [], _ => rfl
  | s :: ρ, h => by
    rw [List.all_cons, Bool.and_eq_true] at h
    cases s with
    | un => rw [List.length_cons, List.replicate_succ, ← all_un h.2]
    | _ => cases h.1
theorem gives_ok {k : Nat} {r : R Fl} {d : D} (h : givesB k r d = true) : r = .ok (.rt d) (List.replicate k .un) := by
  unfold givesB at h
  split at h
  · rename_i e ρ
    simp only [Bool.and_eq_true, decide_eq_true_eq] at h
    rw [beqN_eq _ _ _ h.1.1, all_un h.2, h.1.2]
  · cases h
/-! ### the stock -/
def stock : List (List (List Int)) := [[[0]], [[0, 1], [0, 1]], [[1, 0], [1, 0]], [[0, 1, 2], [0, 1, 2], [1, 0, 2]], [[1, 2, 0], [1, 2, 0], [1, 2, 0]], [[1, 0, 2], [1, 0, 2], [0, 1, 2]], [[0, 1, 3, 2], [3, 2, 0, 1], [2, 3, 1, 0], [1, 0, 2, 3]]]
theorem stock_run : givesB 0 (m__law_stock []) (.list (stock.map Mx)) = true := by kernel_rfl
theorem stock_ok : m__law_stock [] = .ok (.rt (.list (stock.map Mx))) [] := gives_ok stock_run
def bes (a b : List (List Int)) : List (List Int) := a.map (fun r => r ++ (upto b.length).map (· + (a.length : Int))) ++ b.map fun r => upto a.length ++ r.map (· + (a.length : Int))
/-- n rows, each a turn, that agree -/
def goodB (M : List (List Int)) : Bool := decide (1 ≤ M.length) && (decide (M.length ≤ 8) && (M.all (fun r => isort r == upto M.length) && (List.range M.length).all fun x => (List.range M.length).all fun y => (List.range M.length).all fun z =>
  at2 M (at2 M x y).toNat (at2 M x z).toNat == at2 M (at2 M y x).toNat (at2 M y z).toNat))
theorem good_ok {M : List (List Int)} (h : goodB M = true) : 1 ≤ M.length ∧ M.length ≤ 8 ∧ Sq M.length M ∧ Cyc M.length M := by
  unfold goodB at h
  simp only [Bool.and_eq_true, decide_eq_true_eq, List.all_eq_true, List.mem_range, beq_iff_eq] at h
  obtain ⟨h1, h2, h3, h4⟩ := h
  refine ⟨h1, h2, ⟨rfl, fun i hi => ?_⟩, fun x y z hx hy hz => h4 x hx y hy z hz⟩
  have hm : M.getD i [] ∈ M := List.mem_of_getElem? (getD_row hi)
  have e := h3 _ hm
  unfold Tn
  rw [← e]
  exact (isort_perm _).symm
theorem base_run : (stock.all fun a => goodB a && stock.all fun b => goodB (bes a b) && givesB 2 (m__law_beside [.pl (Mx a), .pl (Mx b)]) (Mx (bes a b))) = true := by kernel_rfl
theorem base_ok {a b : List (List Int)} (ha : a ∈ stock) (hb : b ∈ stock) : goodB a = true ∧ goodB (bes a b) = true ∧ m__law_beside [.pl (Mx a), .pl (Mx b)] = .ok (.rt (Mx (bes a b))) [.un, .un] := by
  have h := List.all_eq_true.mp base_run a ha
  rw [Bool.and_eq_true] at h
  have h2 := List.all_eq_true.mp h.2 b hb
  rw [Bool.and_eq_true] at h2
  exact ⟨h.1, h2.1, gives_ok h2.2⟩
end SW
set_option Elab.async false
set_option linter.all false
set_option maxRecDepth 100000
set_option maxHeartbeats 2000000
namespace SW
open PySem L2
/-! ### rows renamed by a turn t that f undoes -/
def ren (M : List (List Int)) (t f : List Int) : List (List Int) := (List.range M.length).map fun i => (List.range M.length).map fun j => t.getD (at2 M (f.getD i 0).toNat (f.getD j 0).toNat).toNat 0
theorem Tn.nat {n : Nat} {t : List Int} (h : Tn n t) {i : Nat} (hi : i < n) : ∃ k : Nat, t.getD i 0 = (k : Int) ∧ k < n := by
  have := h.at hi
  exact ⟨(t.getD i 0).toNat, by omega, by omega⟩
theorem Sq.nat {n : Nat} {M : List (List Int)} (h : Sq n M) {i j : Nat} (hi : i < n) (hj : j < n) : ∃ k : Nat, at2 M i j = (k : Int) ∧ k < n := (h.tn i hi).nat hj
theorem idx_back {n : Nat} {t f : List Int} (ht : Tn n t) (hf : Back t f) {v : Nat} (hv : v < n) : F_idxT [T t, .int (v : Nat)] = some (.int (f.getD v 0)) := by
  obtain ⟨j, hj, e⟩ := ht.surj hv
  have l := ht.len
  have fv := hf.at_ j (by omega)
  rw [e, Int.toNat_natCast] at fv
  rw [fv]
  exact idx_ok ht.nodup (by rw [← e]; exact getD_at (by omega))
theorem f_tuple (xs : List D) : F_tuple [.list xs] = some (.tuple xs) := rfl
theorem map_upto {n : Nat} (g : Nat → D) : ((iL (upto n)).map fun d => match d with | .int v => g v.toNat | d => d) = (List.range n).map g := by
  unfold iL upto
  rw [List.map_map, List.map_map]
  refine List.map_congr_left fun i _ => ?_
  simp
theorem renamed_ok {n : Nat} {M : List (List Int)} {t f : List Int} (hn : n ≤ 60) (hM : Sq n M) (ht : Tn n t) (hf : Back t f) : m__law_renamed [.pl (Mx M), .pl (T t)] = .ok (.rt (Mx (ren M t f))) [.un, .un] := by
  have lM := hM.len
  have tf := hf.tn ht
  have lt := ht.len
  have inner : ∀ i, i < n → fComp [4] (iRg (aRg1 (eV 2))) (gNm 4) tYes (aOps F_ix [(.br 1), (.ex (aOps F_ix [(.ex (aOps F_ix [(.br 0), (.ex (aOr2 (aMeth .tuple F_idxT (.br 1) [(.br 3)]) (aMeth .list F_idxL (.br 1) [(.br 3)])))])), (.ex (aOr2 (aMeth .tuple F_idxT (.br 1) [(.br 4)]) (aMeth .list F_idxL (.br 1) [(.br 4)])))]))]) [.pl (Mx M), .pl (T t), .pl (.int n), .pl (.int (i : Nat)), .un] =
      .ok ((List.range n).map fun j => .int (t.getD (at2 M (f.getD i 0).toNat (f.getD j 0).toNat).toNat 0)) [.pl (Mx M), .pl (T t), .pl (.int n), .pl (.int (i : Nat)), .un] := fun i hi => by
    rw [← map_upto fun j => .int (t.getD (at2 M (f.getD i 0).toNat (f.getD j 0).toNat).toNat 0)]
    refine fComp_pure (items := iL (upto n)) (fun d => match d with | .int v => .int (t.getD (at2 M (f.getD i 0).toNat (f.getD v.toNat 0).toNat).toNat 0) | d => d) (by rw [← rgs_upto]; exact irg_ok (rg1_ok rfl) (rgIn_n (by omega))) (fun d hd => ?_) (le_sz (by rw [iL_len, upto_len]; omega))
    obtain ⟨v, hv, rfl⟩ := iL_mem hd
    have hv := mem_upto.mp hv
    obtain ⟨j, rfl⟩ : ∃ j : Nat, v = (j : Int) := ⟨v.toNat, by omega⟩
    have hj : j < n := by omega
    obtain ⟨fi, ei, hfi⟩ := tf.nat hi
    obtain ⟨fj, ej, hfj⟩ := tf.nat hj
    obtain ⟨k, ek, hk⟩ := hM.nat hfi hfj
    have x1 := idx_back ht hf hi
    have x2 := idx_back ht hf hj
    rw [ei] at x1
    rw [ej] at x2
    have r1 := f_ixR (R := M) (i := fi) (by omega)
    have r2 := f_ixi (t := M.getD fi []) (i := fj) (by rw [(hM.tn fi hfi).len]; exact hfj)
    have r2' : F_ix [T (M.getD fi []), .int (fj : Nat)] = some (.int (k : Nat)) := by rw [r2]; exact congrArg (fun z => some (PyData.int z)) ek
    have r3 := f_ixi (t := t) (i := k) (by omega)
    refine ⟨[.pl (Mx M), .pl (T t), .pl (.int n), .pl (.int (i : Nat)), .pl (.int (j : Nat))], [.pl (Mx M), .pl (T t), .pl (.int n), .pl (.int (i : Nat)), .pl (.int (j : Nat))], rfl, ?_, rfl⟩
    show _ = R.ok (PyData.int (t.getD (at2 M (f.getD i 0).toNat (f.getD ((j : Int)).toNat 0).toNat).toNat 0)) _
    rw [Int.toNat_natCast, ei, ej, Int.toNat_natCast, Int.toNat_natCast, ek, Int.toNat_natCast]
    exact ops2 rfl (ex_ok (ops2 (ex_ok (ops2 rfl (ex_ok (or2_l (meth_ok rfl rfl rfl rfl rfl x1))) rfl rfl r1)) (ex_ok (or2_l (meth_ok rfl rfl rfl rfl rfl x2))) rfl rfl r2')) rfl rfl r3
  have outer := fComp_pure (vs := [3]) (g := gNm 3) (te := aOps F_tuple [(.ex (aFr (fComp [4] (iRg (aRg1 (eV 2))) (gNm 4) tYes (aOps F_ix [(.br 1), (.ex (aOps F_ix [(.ex (aOps F_ix [(.br 0), (.ex (aOr2 (aMeth .tuple F_idxT (.br 1) [(.br 3)]) (aMeth .list F_idxL (.br 1) [(.br 3)])))])), (.ex (aOr2 (aMeth .tuple F_idxT (.br 1) [(.br 4)]) (aMeth .list F_idxL (.br 1) [(.br 4)])))]))]))))]) (it := iRg (aRg1 (eV 2))) (ρ0 := [.pl (Mx M), .pl (T t), .pl (.int n), .un, .un]) (ρ := [.pl (Mx M), .pl (T t), .pl (.int n), .un, .un]) (items := iL (upto n)) (fun d => match d with | .int v => .tuple ((List.range n).map fun j => .int (t.getD (at2 M (f.getD v.toNat 0).toNat (f.getD j 0).toNat).toNat 0)) | d => d)
    (by rw [← rgs_upto]; exact irg_ok (rg1_ok rfl) (rgIn_n (by omega))) (fun d hd => by
      obtain ⟨v, hv, rfl⟩ := iL_mem hd
      have hv := mem_upto.mp hv
      obtain ⟨i, rfl⟩ : ∃ i : Nat, v = (i : Int) := ⟨v.toNat, by omega⟩
      exact ⟨[.pl (Mx M), .pl (T t), .pl (.int n), .pl (.int (i : Nat)), .un], [.pl (Mx M), .pl (T t), .pl (.int n), .pl (.int (i : Nat)), .un], rfl, ops1 (ex_ok (fr_ok (inner i (by omega)))) rfl (f_tuple _), rfl⟩) (le_sz (by rw [iL_len, upto_len]; omega))
  rw [map_upto fun i => .tuple ((List.range n).map fun j => .int (t.getD (at2 M (f.getD i 0).toNat (f.getD j 0).toNat).toNat 0))] at outer
  have e : ((List.range n).map fun i => PyData.tuple ((List.range n).map fun j => .int (t.getD (at2 M (f.getD i 0).toNat (f.getD j 0).toNat).toNat 0))) = rL (ren M t f) := by
    unfold rL ren
    rw [lM, List.map_map]
    refine List.map_congr_left fun i _ => ?_
    show _ = PyData.tuple (iL _)
    unfold iL
    rw [List.map_map]
    rfl
  rw [e] at outer
  have ln : F_len [Mx M] = some (.int (n : Nat)) := by
    show some (PyData.int ((rL M).length : Nat)) = _
    rw [rL_len, lM]
  exact mk_ok (body := b__law_renamed) rfl (seq_nx (ρ1 := [.pl (Mx M), .pl (T t), .pl (.int n), .un, .un]) (set_ok (ops1 rfl rfl ln) rfl rfl) (seq_rt (ret_ok (ops1 (ex_ok (fr_ok outer)) rfl (f_tuple _))))) rfl
theorem ren_at {n : Nat} {M : List (List Int)} {t f : List Int} (hM : Sq n M) {i j : Nat} (hi : i < n) (hj : j < n) : at2 (ren M t f) i j = t.getD (at2 M (f.getD i 0).toNat (f.getD j 0).toNat).toNat 0 := by
  have hrow : (ren M t f).getD i [] = (List.range n).map fun j => t.getD (at2 M (f.getD i 0).toNat (f.getD j 0).toNat).toNat 0 := by
    unfold ren
    rw [hM.len, List.getD_eq_getElem?_getD, List.getElem?_map, List.getElem?_range hi]
    rfl
  show ((ren M t f).getD i []).getD j 0 = _
  rw [hrow, List.getD_eq_getElem?_getD, List.getElem?_map, List.getElem?_range hj]
  rfl
theorem ren_sq {n : Nat} {M : List (List Int)} {t f : List Int} (hM : Sq n M) (ht : Tn n t) (hf : Back t f) : Sq n (ren M t f) := by
  have tf := hf.tn ht
  refine ⟨by unfold ren; rw [List.length_map, List.length_range, hM.len], fun i hi => ?_⟩
  obtain ⟨fi, ei, hfi⟩ := tf.nat hi
  have hrow : (ren M t f).getD i [] = beh t (beh (M.getD fi []) f) := by
    unfold ren beh
    rw [hM.len, List.getD_eq_getElem?_getD, List.getElem?_map, List.getElem?_range hi]
    show (List.range n).map _ = _
    rw [List.map_map]
    refine List.ext_getElem? fun j => ?_
    by_cases hj : j < n
    · rw [List.getElem?_map, List.getElem?_range hj, List.getElem?_map, getD_at (t := f) (i := j) (by rw [tf.len]; exact hj)]
      show some _ = some _
      rw [ei, Int.toNat_natCast]
      rfl
    · rw [List.getElem?_eq_none (by simp; omega), List.getElem?_eq_none (by simp [tf.len]; omega)]
  rw [hrow]
  exact ht.beh ((hM.tn fi hfi).beh tf)
theorem ren_cyc {n : Nat} {M : List (List Int)} {t f : List Int} (hM : Sq n M) (hc : Cyc n M) (ht : Tn n t) (hf : Back t f) : Cyc n (ren M t f) := by
  have tf := hf.tn ht
  have lt := ht.len
  intro x y z hx hy hz
  obtain ⟨a, ea, ha⟩ := tf.nat hx
  obtain ⟨b, eb, hb⟩ := tf.nat hy
  obtain ⟨c, ec, hc'⟩ := tf.nat hz
  -- the item of two names
  have key : ∀ {u v p q : Nat}, u < n → v < n → f.getD u 0 = (p : Int) → f.getD v 0 = (q : Int) → p < n → q < n → ∃ w k : Nat, at2 (ren M t f) u v = (w : Int) ∧ w < n ∧ at2 M p q = (k : Int) ∧ k < n ∧ f.getD w 0 = (k : Int) := fun {u v p q} hu hv ep eq hp hq => by
    obtain ⟨k, ek, hk⟩ := hM.nat hp hq
    obtain ⟨w, ew, hw⟩ := ht.nat hk
    refine ⟨w, k, ?_, hw, ek, hk, ?_⟩
    · rw [ren_at hM hu hv, ep, eq, Int.toNat_natCast, Int.toNat_natCast, ek, Int.toNat_natCast, ew]
    · have := hf.at_ k (by omega)
      rw [ew, Int.toNat_natCast] at this
      exact this
  obtain ⟨w1, k1, e1, h1, m1, l1, g1⟩ := key hx hy ea eb ha hb
  obtain ⟨w2, k2, e2, h2, m2, l2, g2⟩ := key hx hz ea ec ha hc'
  obtain ⟨w3, k3, e3, h3, m3, l3, g3⟩ := key hy hx eb ea hb ha
  obtain ⟨w4, k4, e4, h4, m4, l4, g4⟩ := key hy hz eb ec hb hc'
  rw [e1, e2, e3, e4, Int.toNat_natCast, Int.toNat_natCast, Int.toNat_natCast, Int.toNat_natCast, ren_at hM h1 h2, ren_at hM h3 h4, g1, g2, g3, g4]
  have := hc a b c ha hb hc'
  rw [m1, m2, m3, m4, Int.toNat_natCast, Int.toNat_natCast, Int.toNat_natCast, Int.toNat_natCast] at this
  rw [Int.toNat_natCast, Int.toNat_natCast, Int.toNat_natCast, Int.toNat_natCast, this]
end SW
set_option Elab.async false
set_option linter.all false
set_option maxRecDepth 100000
set_option maxHeartbeats 2000000
namespace SW
open PySem L2
theorem gnm_ok {i : Nat} {d : D} {ρ ρ' : En} (h : isIo (getSlot ρ i) = false) (h2 : setSlot ρ i (.pl d) = ρ') : gNm i d ρ = .ok () ρ' := by
  unfold gNm
  rw [h, ← h2]
  rfl
theorem any_upto {n : Nat} (p : Nat → Bool) : ((iL (upto n)).any fun d => match d with | .int v => p v.toNat | _ => false) = (List.range n).any p := by
  unfold iL upto
  rw [List.map_map, List.any_map]
  congr 1
theorem all_upto {n : Nat} (p : Nat → Bool) : ((List.range n).any p) = false ↔ ∀ i, i < n → p i = false := by
  rw [List.any_eq_false]
  constructor
  · intro h i hi
    cases q : p i with
    | false => rfl
    | true => exact (h i (List.mem_range.mpr hi) q).elim
  · intro h i hi q
    rw [h i (List.mem_range.mp hi)] at q
    cases q
/-- the check of one triple fails -/
def unl3 (R : List (List Int)) (x y z : Nat) : Bool := !decide (at2 R (at2 R x y).toNat (at2 R x z).toNat = at2 R (at2 R y x).toNat (at2 R y z).toNat)
def unl2 (R : List (List Int)) (n x y : Nat) : Bool := (List.range n).any fun z => unl3 R x y z
def unl1 (R : List (List Int)) (n x : Nat) : Bool := (List.range n).any fun y => unl2 R n x y
def unl (R : List (List Int)) (n : Nat) : Bool := (List.range n).any fun x => unl1 R n x
theorem unl_cyc {R : List (List Int)} {n : Nat} : unl R n = false ↔ Cyc n R := by
  unfold unl unl1 unl2 unl3 Cyc
  rw [all_upto]
  constructor
  · intro h x y z hx hy hz
    have h1 := (all_upto _).mp (h x hx) y hy
    have h2 := (all_upto _).mp h1 z hz
    simpa using h2
  · intro h x hx
    refine (all_upto _).mpr fun y hy => (all_upto _).mpr fun z hz => ?_
    simp [h x y z hx hy hz]
/-- the inmost walk of first_unlike and of _law_agree: the rows and numbers stand at o1 .. -/
theorem first_unlike_ok {n : Nat} {R : List (List Int)} (hn : n ≤ 60) (hR : Sq n R) : ∃ w, m_first_unlike [.pl (Mx R)] = .ok (.rt w) [.un] ∧ isNone w = !unl R n := by
  have lR := hR.len
  have ln : F_len [Mx R] = some (.int (n : Nat)) := by
    show some (PyData.int ((rL R).length : Nat)) = _
    rw [rL_len, lR]
  have it1 : ∀ a b c d e, iSeq (eV 1) [.pl (Mx R), .pl (.list (iL (upto n))), a, b, c, d, e] = .ok (iL (upto n)) [.pl (Mx R), .pl (.list (iL (upto n))), a, b, c, d, e] := fun _ _ _ _ _ => rfl
  have ix2 : ∀ {i j : Nat}, i < n → j < n → F_ix [T (R.getD i []), .int (j : Nat)] = some (.int (at2 R i j)) := fun {i j} hi hj => f_ixi (by rw [(hR.tn i hi).len]; exact hj)
  -- the last walk
  have w3 : ∀ {x y p q : Nat} (hx : x < n) (hy : y < n) (ep : at2 R x y = (p : Int)) (eq : at2 R y x = (q : Int)) (hp : p < n) (hq : q < n) (e : SV), isIo e = false →
      (unl2 R n x y = true → ∃ w ρ', sFor (iSeq (eV 1)) (gNm 6) (sSeq (sIf (aT (aOps F_ne [(.ex (aOps F_ix [(.br 4), (.ex (aOps F_ix [(.ex (aOps F_ix [(.br 0), (.br 2)])), (.br 6)]))])), (.ex (aOps F_ix [(.br 5), (.ex (aOps F_ix [(.ex (aOps F_ix [(.br 0), (.br 3)])), (.br 6)]))]))])) (sSeq (sRet (aTup [(eV 2), (eV 3), (eV 6)])) sNx) sNx) sNx) [.pl (Mx R), .pl (.list (iL (upto n))), .pl (.int (x : Nat)), .pl (.int (y : Nat)), .pl (T (R.getD p [])), .pl (T (R.getD q [])), e] = .ok (.rt w) ρ' ∧ isNone w = false ∧ ∃ a b c d e, ρ' = [.pl (Mx R), .pl (.list (iL (upto n))), a, b, c, d, e]) ∧
      (unl2 R n x y = false → ∃ ρ', sFor (iSeq (eV 1)) (gNm 6) (sSeq (sIf (aT (aOps F_ne [(.ex (aOps F_ix [(.br 4), (.ex (aOps F_ix [(.ex (aOps F_ix [(.br 0), (.br 2)])), (.br 6)]))])), (.ex (aOps F_ix [(.br 5), (.ex (aOps F_ix [(.ex (aOps F_ix [(.br 0), (.br 3)])), (.br 6)]))]))])) (sSeq (sRet (aTup [(eV 2), (eV 3), (eV 6)])) sNx) sNx) sNx) [.pl (Mx R), .pl (.list (iL (upto n))), .pl (.int (x : Nat)), .pl (.int (y : Nat)), .pl (T (R.getD p [])), .pl (T (R.getD q [])), e] = .ok .nx ρ' ∧ ∃ e, isIo e = false ∧ ρ' = [.pl (Mx R), .pl (.list (iL (upto n))), .pl (.int (x : Nat)), .pl (.int (y : Nat)), .pl (T (R.getD p [])), .pl (T (R.getD q [])), e]) := fun {x y p q} hx hy ep eq hp hq e he => by
    have h := for_find (it := iSeq (eV 1)) (g := gNm 6) (body := sSeq (sIf (aT (aOps F_ne [(.ex (aOps F_ix [(.br 4), (.ex (aOps F_ix [(.ex (aOps F_ix [(.br 0), (.br 2)])), (.br 6)]))])), (.ex (aOps F_ix [(.br 5), (.ex (aOps F_ix [(.ex (aOps F_ix [(.br 0), (.br 3)])), (.br 6)]))]))])) (sSeq (sRet (aTup [(eV 2), (eV 3), (eV 6)])) sNx) sNx) sNx)
      (ρ0 := [.pl (Mx R), .pl (.list (iL (upto n))), .pl (.int (x : Nat)), .pl (.int (y : Nat)), .pl (T (R.getD p [])), .pl (T (R.getD q [])), e]) (ρ := [.pl (Mx R), .pl (.list (iL (upto n))), .pl (.int (x : Nat)), .pl (.int (y : Nat)), .pl (T (R.getD p [])), .pl (T (R.getD q [])), e]) (items := iL (upto n))
      (fun ρ => ∃ e, isIo e = false ∧ ρ = [.pl (Mx R), .pl (.list (iL (upto n))), .pl (.int (x : Nat)), .pl (.int (y : Nat)), .pl (T (R.getD p [])), .pl (T (R.getD q [])), e]) (fun ρ' => ∃ a b c d e, ρ' = [.pl (Mx R), .pl (.list (iL (upto n))), a, b, c, d, e]) (fun w => isNone w = false)
      (fun d => match d with | .int v => unl3 R x y v.toNat | _ => false) (it1 _ _ _ _ _) ⟨e, he, rfl⟩ (fun d hd ρ hI => by
        obtain ⟨e, he, rfl⟩ := hI
        obtain ⟨v, hv, rfl⟩ := iL_mem hd
        have hv := mem_upto.mp hv
        obtain ⟨z, rfl⟩ : ∃ z : Nat, v = (z : Int) := ⟨v.toNat, by omega⟩
        have hz : z < n := by omega
        obtain ⟨k1, ek1, hk1⟩ := hR.nat hx hz
        obtain ⟨k2, ek2, hk2⟩ := hR.nat hy hz
        have a1 := ix2 hx hz
        have a2 := ix2 hy hz
        rw [ek1] at a1
        rw [ek2] at a2
        have hne : F_ne [.int (at2 R p k1), .int (at2 R q k2)] = some (.bool (unl3 R x y z)) := by
          rw [ne_int]
          unfold unl3
          rw [ep, eq, ek1, ek2, Int.toNat_natCast, Int.toNat_natCast, Int.toNat_natCast, Int.toNat_natCast]
        have test : aT (aOps F_ne [(.ex (aOps F_ix [(.br 4), (.ex (aOps F_ix [(.ex (aOps F_ix [(.br 0), (.br 2)])), (.br 6)]))])), (.ex (aOps F_ix [(.br 5), (.ex (aOps F_ix [(.ex (aOps F_ix [(.br 0), (.br 3)])), (.br 6)]))]))]) [.pl (Mx R), .pl (.list (iL (upto n))), .pl (.int (x : Nat)), .pl (.int (y : Nat)), .pl (T (R.getD p [])), .pl (T (R.getD q [])), .pl (.int (z : Nat))] = .ok (unl3 R x y z) [.pl (Mx R), .pl (.list (iL (upto n))), .pl (.int (x : Nat)), .pl (.int (y : Nat)), .pl (T (R.getD p [])), .pl (T (R.getD q [])), .pl (.int (z : Nat))] :=
          aT_ok (ops2 (ex_ok (ops2 rfl (ex_ok (ops2 (ex_ok (ops2 rfl rfl rfl rfl (f_ixR (by omega)))) rfl rfl rfl a1)) rfl rfl (ix2 hp hk1))) (ex_ok (ops2 rfl (ex_ok (ops2 (ex_ok (ops2 rfl rfl rfl rfl (f_ixR (by omega)))) rfl rfl rfl a2)) rfl rfl (ix2 hq hk2))) rfl rfl hne)
        refine ⟨[.pl (Mx R), .pl (.list (iL (upto n))), .pl (.int (x : Nat)), .pl (.int (y : Nat)), .pl (T (R.getD p [])), .pl (T (R.getD q [])), .pl (.int (z : Nat))], gnm_ok he rfl, fun hp => ?_, fun hp => ?_⟩
        · have hp' : unl3 R x y z = true := by rw [← Int.toNat_natCast z]; exact hp
          rw [hp'] at test
          exact ⟨_, _, seq_rt (ift test (seq_rt (ret_ok (atup_ok (ds_cons rfl (ds_cons rfl (ds_cons rfl ds_nil))) (by show 3 ≤ _; decide))))), rfl, _, _, _, _, _, rfl⟩
        · have hp' : unl3 R x y z = false := by rw [← Int.toNat_natCast z]; exact hp
          rw [hp'] at test
          exact ⟨_, seq_nx (iff' test rfl) rfl, _, rfl, rfl⟩)
    rw [any_upto fun z => unl3 R x y z] at h
    exact h
  have w2 : ∀ {x : Nat} (hx : x < n) (b c d e : SV), isIo b = false → isIo c = false → isIo d = false → isIo e = false →
      (unl1 R n x = true → ∃ w ρ', sFor (iSeq (eV 1)) (gNm 3) (sSeq (sPar [4, 5] [(aOps F_ix [(.br 0), (.ex (aOps F_ix [(.ex (aOps F_ix [(.br 0), (.br 2)])), (.br 3)]))]), (aOps F_ix [(.br 0), (.ex (aOps F_ix [(.ex (aOps F_ix [(.br 0), (.br 3)])), (.br 2)]))])]) (sSeq (sFor (iSeq (eV 1)) (gNm 6) (sSeq (sIf (aT (aOps F_ne [(.ex (aOps F_ix [(.br 4), (.ex (aOps F_ix [(.ex (aOps F_ix [(.br 0), (.br 2)])), (.br 6)]))])), (.ex (aOps F_ix [(.br 5), (.ex (aOps F_ix [(.ex (aOps F_ix [(.br 0), (.br 3)])), (.br 6)]))]))])) (sSeq (sRet (aTup [(eV 2), (eV 3), (eV 6)])) sNx) sNx) sNx)) sNx)) [.pl (Mx R), .pl (.list (iL (upto n))), .pl (.int (x : Nat)), b, c, d, e] = .ok (.rt w) ρ' ∧ isNone w = false ∧ ∃ a b c d e, ρ' = [.pl (Mx R), .pl (.list (iL (upto n))), a, b, c, d, e]) ∧
      (unl1 R n x = false → ∃ ρ', sFor (iSeq (eV 1)) (gNm 3) (sSeq (sPar [4, 5] [(aOps F_ix [(.br 0), (.ex (aOps F_ix [(.ex (aOps F_ix [(.br 0), (.br 2)])), (.br 3)]))]), (aOps F_ix [(.br 0), (.ex (aOps F_ix [(.ex (aOps F_ix [(.br 0), (.br 3)])), (.br 2)]))])]) (sSeq (sFor (iSeq (eV 1)) (gNm 6) (sSeq (sIf (aT (aOps F_ne [(.ex (aOps F_ix [(.br 4), (.ex (aOps F_ix [(.ex (aOps F_ix [(.br 0), (.br 2)])), (.br 6)]))])), (.ex (aOps F_ix [(.br 5), (.ex (aOps F_ix [(.ex (aOps F_ix [(.br 0), (.br 3)])), (.br 6)]))]))])) (sSeq (sRet (aTup [(eV 2), (eV 3), (eV 6)])) sNx) sNx) sNx)) sNx)) [.pl (Mx R), .pl (.list (iL (upto n))), .pl (.int (x : Nat)), b, c, d, e] = .ok .nx ρ' ∧ ∃ b c d e, (isIo b = false ∧ isIo c = false ∧ isIo d = false ∧ isIo e = false) ∧ ρ' = [.pl (Mx R), .pl (.list (iL (upto n))), .pl (.int (x : Nat)), b, c, d, e]) := fun {x} hx b c d e hb hc hd he => by
    have h := for_find (it := iSeq (eV 1)) (g := gNm 3) (body := (sSeq (sPar [4, 5] [(aOps F_ix [(.br 0), (.ex (aOps F_ix [(.ex (aOps F_ix [(.br 0), (.br 2)])), (.br 3)]))]), (aOps F_ix [(.br 0), (.ex (aOps F_ix [(.ex (aOps F_ix [(.br 0), (.br 3)])), (.br 2)]))])]) (sSeq (sFor (iSeq (eV 1)) (gNm 6) (sSeq (sIf (aT (aOps F_ne [(.ex (aOps F_ix [(.br 4), (.ex (aOps F_ix [(.ex (aOps F_ix [(.br 0), (.br 2)])), (.br 6)]))])), (.ex (aOps F_ix [(.br 5), (.ex (aOps F_ix [(.ex (aOps F_ix [(.br 0), (.br 3)])), (.br 6)]))]))])) (sSeq (sRet (aTup [(eV 2), (eV 3), (eV 6)])) sNx) sNx) sNx)) sNx))) (ρ0 := [.pl (Mx R), .pl (.list (iL (upto n))), .pl (.int (x : Nat)), b, c, d, e]) (ρ := [.pl (Mx R), .pl (.list (iL (upto n))), .pl (.int (x : Nat)), b, c, d, e]) (items := iL (upto n))
      (fun ρ => ∃ b c d e, (isIo b = false ∧ isIo c = false ∧ isIo d = false ∧ isIo e = false) ∧ ρ = [.pl (Mx R), .pl (.list (iL (upto n))), .pl (.int (x : Nat)), b, c, d, e]) (fun ρ' => ∃ a b c d e, ρ' = [.pl (Mx R), .pl (.list (iL (upto n))), a, b, c, d, e]) (fun w => isNone w = false)
      (fun d => match d with | .int v => unl2 R n x v.toNat | _ => false) (it1 _ _ _ _ _) ⟨b, c, d, e, ⟨hb, hc, hd, he⟩, rfl⟩ (fun d hd ρ hI => by
        obtain ⟨b, c, d', e, ⟨hb, hc, hd', he⟩, rfl⟩ := hI
        obtain ⟨v, hv, rfl⟩ := iL_mem hd
        have hv := mem_upto.mp hv
        obtain ⟨y, rfl⟩ : ∃ y : Nat, v = (y : Int) := ⟨v.toNat, by omega⟩
        have hy : y < n := by omega
        obtain ⟨p, ep, hp⟩ := hR.nat hx hy
        obtain ⟨q, eq, hq⟩ := hR.nat hy hx
        have a1 := ix2 hx hy
        have a2 := ix2 hy hx
        rw [ep] at a1
        rw [eq] at a2
        have par : sPar [4, 5] [(aOps F_ix [(.br 0), (.ex (aOps F_ix [(.ex (aOps F_ix [(.br 0), (.br 2)])), (.br 3)]))]), (aOps F_ix [(.br 0), (.ex (aOps F_ix [(.ex (aOps F_ix [(.br 0), (.br 3)])), (.br 2)]))])] [.pl (Mx R), .pl (.list (iL (upto n))), .pl (.int (x : Nat)), .pl (.int (y : Nat)), c, d', e] = .ok .nx [.pl (Mx R), .pl (.list (iL (upto n))), .pl (.int (x : Nat)), .pl (.int (y : Nat)), .pl (T (R.getD p [])), .pl (T (R.getD q [])), e] := by
          refine par_ok (ds_cons (ops2 rfl (ex_ok (ops2 (ex_ok (ops2 rfl rfl rfl rfl (f_ixR (by omega)))) rfl rfl rfl a1)) rfl rfl (f_ixR (by omega))) (ds_cons (ops2 rfl (ex_ok (ops2 (ex_ok (ops2 rfl rfl rfl rfl (f_ixR (by omega)))) rfl rfl rfl a2)) rfl rfl (f_ixR (by omega))) ds_nil)) ?_
          show (if isIo c = true then SW.R.bad else (if isIo d' = true then SW.R.bad else SW.R.ok Fl.nx [.pl (Mx R), .pl (.list (iL (upto n))), .pl (.int (x : Nat)), .pl (.int (y : Nat)), .pl (T (R.getD p [])), .pl (T (R.getD q [])), e])) = _
          rw [hc, hd']
          rfl
        obtain ⟨k1, k2⟩ := w3 hx hy ep eq hp hq e he
        refine ⟨[.pl (Mx R), .pl (.list (iL (upto n))), .pl (.int (x : Nat)), .pl (.int (y : Nat)), c, d', e], gnm_ok hb rfl, fun hp => ?_, fun hp => ?_⟩
        · have hp' : unl2 R n x y = true := by rw [← Int.toNat_natCast y]; exact hp
          obtain ⟨w, ρ', e1, e2, e3⟩ := k1 hp'
          exact ⟨w, ρ', seq_nx par (seq_rt e1), e2, e3⟩
        · have hp' : unl2 R n x y = false := by rw [← Int.toNat_natCast y]; exact hp
          obtain ⟨ρ', e1, e2, he2, rfl⟩ := k2 hp'
          exact ⟨_, seq_nx par (seq_nx e1 rfl), _, _, _, _, ⟨rfl, rfl, rfl, he2⟩, rfl⟩)
    rw [any_upto fun y => unl2 R n x y] at h
    exact h
  have w1 := for_find (it := iSeq (eV 1)) (g := gNm 2) (body := (sSeq (sFor (iSeq (eV 1)) (gNm 3) (sSeq (sPar [4, 5] [(aOps F_ix [(.br 0), (.ex (aOps F_ix [(.ex (aOps F_ix [(.br 0), (.br 2)])), (.br 3)]))]), (aOps F_ix [(.br 0), (.ex (aOps F_ix [(.ex (aOps F_ix [(.br 0), (.br 3)])), (.br 2)]))])]) (sSeq (sFor (iSeq (eV 1)) (gNm 6) (sSeq (sIf (aT (aOps F_ne [(.ex (aOps F_ix [(.br 4), (.ex (aOps F_ix [(.ex (aOps F_ix [(.br 0), (.br 2)])), (.br 6)]))])), (.ex (aOps F_ix [(.br 5), (.ex (aOps F_ix [(.ex (aOps F_ix [(.br 0), (.br 3)])), (.br 6)]))]))])) (sSeq (sRet (aTup [(eV 2), (eV 3), (eV 6)])) sNx) sNx) sNx)) sNx))) sNx)) (ρ0 := [.pl (Mx R), .pl (.list (iL (upto n))), .un, .un, .un, .un, .un]) (ρ := [.pl (Mx R), .pl (.list (iL (upto n))), .un, .un, .un, .un, .un]) (items := iL (upto n))
      (fun ρ => ∃ a b c d e, (isIo a = false ∧ isIo b = false ∧ isIo c = false ∧ isIo d = false ∧ isIo e = false) ∧ ρ = [.pl (Mx R), .pl (.list (iL (upto n))), a, b, c, d, e]) (fun ρ' => ∃ a b c d e, ρ' = [.pl (Mx R), .pl (.list (iL (upto n))), a, b, c, d, e]) (fun w => isNone w = false)
      (fun d => match d with | .int v => unl1 R n v.toNat | _ => false) (it1 _ _ _ _ _) ⟨.un, .un, .un, .un, .un, ⟨rfl, rfl, rfl, rfl, rfl⟩, rfl⟩ (fun d hd ρ hI => by
        obtain ⟨a, b, c, d', e, ⟨ha, hb, hc, hd', he⟩, rfl⟩ := hI
        obtain ⟨v, hv, rfl⟩ := iL_mem hd
        have hv := mem_upto.mp hv
        obtain ⟨x, rfl⟩ : ∃ x : Nat, v = (x : Int) := ⟨v.toNat, by omega⟩
        have hx : x < n := by omega
        obtain ⟨k1, k2⟩ := w2 hx b c d' e hb hc hd' he
        refine ⟨[.pl (Mx R), .pl (.list (iL (upto n))), .pl (.int (x : Nat)), b, c, d', e], gnm_ok ha rfl, fun hp => ?_, fun hp => ?_⟩
        · have hp' : unl1 R n x = true := by rw [← Int.toNat_natCast x]; exact hp
          obtain ⟨w, ρ', e1, e2, e3⟩ := k1 hp'
          exact ⟨w, ρ', seq_rt e1, e2, e3⟩
        · have hp' : unl1 R n x = false := by rw [← Int.toNat_natCast x]; exact hp
          obtain ⟨ρ', e1, b2, c2, d2, e2, ⟨g1, g2, g3, g4⟩, rfl⟩ := k2 hp'
          exact ⟨_, seq_nx e1 rfl, _, _, _, _, _, ⟨rfl, g1, g2, g3, g4⟩, rfl⟩)
  rw [any_upto fun x => unl1 R n x] at w1
  have l0 : sAsg (aFr (fRg (aRg1 (aOps F_len [(.br 0)])))) (gNm 1) [.pl (Mx R), .un, .un, .un, .un, .un, .un] = .ok .nx [.pl (Mx R), .pl (.list (iL (upto n))), .un, .un, .un, .un, .un] := by
    rw [← rgD_upto]
    exact set_ok (fr_ok (frg_ok (rg1_ok (ops1 rfl rfl ln)) (rgOk_n (by omega)))) rfl rfl
  cases q : unl R n with
  | true =>
    obtain ⟨w, ρ', e1, e2, a, b, c, d, e, rfl⟩ := w1.1 q
    exact ⟨w, mk_ok (body := b_first_unlike) rfl (seq_nx l0 (seq_rt e1)) rfl, e2⟩
  | false =>
    obtain ⟨ρ', e1, a, b, c, d, e, _, rfl⟩ := w1.2 q
    exact ⟨.none, mk_ok (body := b_first_unlike) rfl (seq_nx l0 (seq_nx e1 (seq_rt (ret_ok rfl)))) rfl, rfl⟩
end SW
set_option Elab.async false
set_option linter.all false
set_option maxRecDepth 100000
set_option maxHeartbeats 2000000
namespace SW
open PySem L2
def turnD : D → Bool
  | .tuple xs => (match intsOf xs with
    | some r => decide (isort r = upto r.length)
    | none => false)
  | _ => false
theorem turnD_T (r : List Int) : turnD (T r) = decide (isort r = upto r.length) := by
  show (match intsOf (iL r) with | some r => decide (isort r = upto r.length) | none => false) = _
  rw [intsOf_ints]
theorem rows_ok {n : Nat} {R : List (List Int)} (h1 : 1 ≤ n) (hn : n ≤ 16) (hl : R.length = n) (hr : ∀ r ∈ R, r.length = n) : m_are_turn_rows [.pl (Mx R)] = .ok (.rt (.bool (R.all fun r => decide (isort r = upto r.length)))) [.un] := by
  have e1 := tup_ok (Mx R) 1 16 rfl
  have e3 : isTup (Mx R) 1 16 = true := by
    show (decide (1 ≤ ((rL R).length : Int)) && decide (((rL R).length : Int) ≤ 16)) = true
    rw [rL_len, hl]
    simp
    omega
  rw [e3] at e1
  have ln : F_len [Mx R] = some (.int (n : Nat)) := by
    show some (PyData.int ((rL R).length : Nat)) = _
    rw [rL_len, hl]
  have hc := fComp_pure (vs := [1]) (g := gNm 1) (te := aAnd (aCall m_is_turn [(.br 1)]) (aOps F_eq [(.ex (aOps F_len [(.br 1)])), (.ex (aOps F_len [(.br 0)]))])) (it := iSeq (eV 0)) (ρ0 := [.pl (Mx R), .un]) (ρ := [.pl (Mx R), .un]) (items := rL R) (fun d => .bool (turnD d)) rfl (fun d hd => by
    obtain ⟨r, hr', rfl⟩ := rL_mem hd
    have lr := hr r hr'
    have t := turn_ok r (by omega) (by omega)
    have l2 : F_len [T r] = some (.int (n : Nat)) := by
      show some (PyData.int ((iL r).length : Nat)) = _
      rw [iL_len, lr]
    have le : F_eq [.int (n : Nat), .int (n : Nat)] = some (.bool true) := by rw [eq_int]; simp
    refine ⟨[.pl (Mx R), .pl (T r)], [.pl (Mx R), .pl (T r)], rfl, ?_, rfl⟩
    show _ = SW.R.ok (PyData.bool (turnD (T r))) _
    rw [turnD_T]
    cases q : decide (isort r = upto r.length) with
    | true =>
      rw [q] at t
      exact aand_t (call_p rfl rfl t rfl rfl) (ops2 (ex_ok (ops1 rfl rfl l2)) (ex_ok (ops1 rfl rfl ln)) rfl rfl le)
    | false =>
      rw [q] at t
      exact aand_f (call_p rfl rfl t rfl rfl)) (le_sz (by rw [rL_len]; omega))
  have ha := all_bools (rL R) turnD
  have e4 : (rL R).all turnD = R.all fun r => decide (isort r = upto r.length) := by
    unfold rL
    rw [List.all_map]
    congr 1
    funext r
    exact turnD_T r
  rw [e4] at ha
  exact mk_ok (body := b_are_turn_rows) rfl (seq_nx (iff' (not_ok (b := true) (aT_ok (call_p (os_cons rfl (os_cons (ex_ok rfl) (os_cons (ex_ok rfl) os_nil))) rfl e1 rfl rfl))) rfl) (seq_rt (ret_ok (ops1 (ex_ok (fr_ok hc)) rfl ha)))) rfl
theorem Sq.rows {n : Nat} {R : List (List Int)} (h : Sq n R) : ∀ r ∈ R, Tn n r := fun r hr => by
  obtain ⟨i, hi, e⟩ := List.mem_iff_getElem.mp hr
  have := h.tn i (by rw [← h.len]; exact hi)
  rw [List.getD_eq_getElem?_getD, List.getElem?_eq_getElem hi, e] at this
  exact this
theorem cyc_ok {n : Nat} {R : List (List Int)} (h1 : 1 ≤ n) (hn : n ≤ 16) (hR : Sq n R) : m_is_cycle_set [.pl (Mx R)] = .ok (.rt (.bool (!unl R n))) [.un] := by
  have e1 := rows_ok h1 hn hR.len fun r hr => (hR.rows r hr).len
  have e2 : (R.all fun r => decide (isort r = upto r.length)) = true := by
    rw [List.all_eq_true]
    intro r hr
    have t := hR.rows r hr
    rw [decide_eq_true_eq, t.len]
    exact (isort_eq t.symm (upto_sorted n)).symm
  rw [e2] at e1
  obtain ⟨w, e3, e4⟩ := first_unlike_ok (by omega) hR
  have e5 : F_isN [w] = some (.bool (!unl R n)) := by
    rw [← e4]
    rfl
  exact mk_ok (body := b_is_cycle_set) rfl (seq_rt (ret_ok (aand_t (call_p rfl rfl e1 rfl rfl) (ops1 (ex_ok (call_p rfl rfl e3 rfl rfl)) rfl e5)))) rfl
/-- a row is no turn -/
theorem cyc_no {n : Nat} {R : List (List Int)} (h1 : 1 ≤ n) (hn : n ≤ 16) (hl : R.length = n) (hr : ∀ r ∈ R, r.length = n) {r : List Int} (hm : r ∈ R) (hx : isort r ≠ upto r.length) : m_is_cycle_set [.pl (Mx R)] = .ok (.rt (.bool false)) [.un] := by
  have e1 := rows_ok h1 hn hl hr
  have e2 : (R.all fun r => decide (isort r = upto r.length)) = false := by
    rw [List.all_eq_false]
    exact ⟨r, hm, by rw [decide_eq_false hx]; exact Bool.false_ne_true⟩
  rw [e2] at e1
  exact mk_ok (body := b_is_cycle_set) rfl (seq_rt (ret_ok (aand_f (call_p rfl rfl e1 rfl rfl)))) rfl
theorem needc_ok {n : Nat} {R : List (List Int)} (h1 : 1 ≤ n) (hn : n ≤ 16) (hR : Sq n R) (hc : Cyc n R) : m_need_cycle_set [.pl (Mx R)] = .ok .nx [.un] := by
  have e := cyc_ok h1 hn hR
  rw [unl_cyc.mpr hc] at e
  exact mk_ok (body := b_need_cycle_set) rfl (seq_nx (iff' (not_ok (b := true) (aT_ok (call_p rfl rfl e rfl rfl))) rfl) rfl) rfl
end SW
set_option Elab.async false
set_option linter.all false
set_option maxRecDepth 100000
set_option maxHeartbeats 2000000
namespace SW
open PySem L2
def liftP (p : Nat → Bool) : D → Bool
  | .int v => p v.toNat
  | _ => false
theorem any_lift {n : Nat} (p : Nat → Bool) : (iL (upto n)).any (liftP p) = (List.range n).any p := by
  unfold iL upto
  rw [List.map_map, List.any_map]
  congr 1
/-- where y stands in row x -/
def inv (R : List (List Int)) (x y : Nat) : Nat := (R.getD x []).findIdx fun v => v == (y : Int)
theorem inv_ok {n : Nat} {R : List (List Int)} (hR : Sq n R) {x y : Nat} (hx : x < n) (hy : y < n) : inv R x y < n ∧ at2 R x (inv R x y) = (y : Int) := by
  have t := hR.tn x hx
  have hm : ∃ v ∈ R.getD x [], (v == (y : Int)) = true := ⟨(y : Int), t.mem.mpr ⟨by omega, by omega⟩, by simp⟩
  have hl : (R.getD x []).findIdx (fun v => v == (y : Int)) < (R.getD x []).length := List.findIdx_lt_length_of_exists hm
  have hg := List.findIdx_getElem (w := hl)
  refine ⟨by rw [t.len] at hl; exact hl, ?_⟩
  unfold at2 inv
  rw [List.getD_eq_getElem?_getD, List.getElem?_eq_getElem hl]
  exact eq_of_beq hg
theorem inv_uniq {n : Nat} {R : List (List Int)} (hR : Sq n R) {x y f : Nat} (hx : x < n) (hy : y < n) (hf : f < n) (e : at2 R x f = (y : Int)) : f = inv R x y := by
  obtain ⟨h1, h2⟩ := inv_ok hR hx hy
  exact (hR.tn x hx).inj hf h1 (e.trans h2.symm)
def sp (R : List (List Int)) (x y : Nat) : D := .tuple [.int (inv R x y : Nat), .int (at2 R (inv R x y) x)]
def tabD (R : List (List Int)) (n : Nat) : D := .tuple ((List.range n).map fun x => .tuple ((List.range n).map fun y => sp R x y))
theorem pair_ok {n : Nat} {R : List (List Int)} (h1 : 1 ≤ n) (hn : n ≤ 16) (hR : Sq n R) {x y : Nat} (hx : x < n) (hy : y < n) : m_swap_pair [.pl (Mx R), .pl (.int (x : Nat)), .pl (.int (y : Nat))] = .ok (.rt (sp R x y)) [.un, .un, .un] := by
  have l := hR.len
  have t := hR.tn x hx
  obtain ⟨i1, i2⟩ := inv_ok hR hx hy
  obtain ⟨f, ef, hf⟩ := back_ok h1 (by omega) t
  have fy := hf.at_ (inv R x y) (by rw [t.len]; exact i1)
  rw [show (R.getD x []).getD (inv R x y) 0 = (y : Int) from i2, Int.toNat_natCast] at fy
  have lf : f.length = n := by rw [hf.len, t.len]
  have a1 := f_ixi (t := f) (i := y) (by omega)
  rw [fy] at a1
  have a2 := f_ixi (t := R.getD (inv R x y) []) (i := x) (by rw [(hR.tn _ i1).len]; exact hx)
  exact mk_ok (body := b_swap_pair) rfl (seq_nx (ρ1 := [.pl (Mx R), .pl (.int (x : Nat)), .pl (.int (y : Nat)), .pl (.int (inv R x y : Nat))]) (set_ok (ops2 (ex_ok (call_p (os_cons (ex_ok (ops2 rfl rfl rfl rfl (f_ixR (by omega)))) os_nil) rfl ef rfl rfl)) rfl rfl rfl a1) rfl rfl)
    (seq_rt (ret_ok (atup_ok (ds_cons rfl (ds_cons (ops2 (ex_ok (ops2 rfl rfl rfl rfl (f_ixR (by omega)))) rfl rfl rfl a2) ds_nil)) (by show 2 ≤ _; decide))))) rfl
theorem lpair_ok {n : Nat} {R : List (List Int)} (hn : n ≤ 16) (hR : Sq n R) {x y : Nat} (hx : x < n) (hy : y < n) : m__law_pair [.pl (Mx R), .pl (.int (x : Nat)), .pl (.int (y : Nat))] = .ok (.rt (sp R x y)) [.un, .un, .un] := by
  have l := hR.len
  obtain ⟨i1, i2⟩ := inv_ok hR hx hy
  have ln : F_len [Mx R] = some (.int (n : Nat)) := by
    show some (PyData.int ((rL R).length : Nat)) = _
    rw [rL_len, l]
  have h := for_find (it := iRg (aRg1 (aOps F_len [(.br 0)]))) (g := gNm 3) (body := (sSeq (sIf (aT (aOps F_eq [(.ex (aOps F_ix [(.ex (aOps F_ix [(.br 0), (.br 1)])), (.br 3)])), (.br 2)])) (sSeq (sRet (aTup [(eV 3), (aOps F_ix [(.ex (aOps F_ix [(.br 0), (.br 3)])), (.br 1)])])) sNx) sNx) sNx))
    (ρ0 := [.pl (Mx R), .pl (.int (x : Nat)), .pl (.int (y : Nat)), .un]) (ρ := [.pl (Mx R), .pl (.int (x : Nat)), .pl (.int (y : Nat)), .un]) (items := iL (upto n))
    (fun ρ => ∃ a, isIo a = false ∧ ρ = [.pl (Mx R), .pl (.int (x : Nat)), .pl (.int (y : Nat)), a]) (fun ρ => ∃ a, ρ = [.pl (Mx R), .pl (.int (x : Nat)), .pl (.int (y : Nat)), a]) (fun w => w = sp R x y)
    (liftP fun z => decide (at2 R x z = (y : Int))) (by rw [← rgs_upto]; exact irg_ok (rg1_ok (ops1 rfl rfl ln)) (rgIn_n (by omega))) ⟨.un, rfl, rfl⟩ (fun d hd ρ hI => by
      obtain ⟨a, ha, rfl⟩ := hI
      obtain ⟨v, hv, rfl⟩ := iL_mem hd
      have hv := mem_upto.mp hv
      obtain ⟨z, rfl⟩ : ∃ z : Nat, v = (z : Int) := ⟨v.toNat, by omega⟩
      have hz : z < n := by omega
      have a1 := f_ixi (t := R.getD x []) (i := z) (by rw [(hR.tn x hx).len]; exact hz)
      have test : aT (aOps F_eq [(.ex (aOps F_ix [(.ex (aOps F_ix [(.br 0), (.br 1)])), (.br 3)])), (.br 2)]) [.pl (Mx R), .pl (.int (x : Nat)), .pl (.int (y : Nat)), .pl (.int (z : Nat))] = .ok (decide (at2 R x z = (y : Int))) [.pl (Mx R), .pl (.int (x : Nat)), .pl (.int (y : Nat)), .pl (.int (z : Nat))] :=
        aT_ok (ops2 (ex_ok (ops2 (ex_ok (ops2 rfl rfl rfl rfl (f_ixR (by omega)))) rfl rfl rfl a1)) rfl rfl rfl (eq_int _ _))
      refine ⟨[.pl (Mx R), .pl (.int (x : Nat)), .pl (.int (y : Nat)), .pl (.int (z : Nat))], gnm_ok ha rfl, fun hp => ?_, fun hp => ?_⟩
      · have hp' : decide (at2 R x z = (y : Int)) = true := by rw [← Int.toNat_natCast z]; exact hp
        rw [hp'] at test
        have ez := inv_uniq hR hx hy hz (of_decide_eq_true hp')
        have a2 := f_ixi (t := R.getD z []) (i := x) (by rw [(hR.tn z hz).len]; exact hx)
        refine ⟨_, _, seq_rt (ift test (seq_rt (ret_ok (atup_ok (ds_cons rfl (ds_cons (ops2 (ex_ok (ops2 rfl rfl rfl rfl (f_ixR (by omega)))) rfl rfl rfl a2) ds_nil)) (by show 2 ≤ _; decide))))), ?_, _, rfl⟩
        unfold sp
        rw [← ez]
        rfl
      · have hp' : decide (at2 R x z = (y : Int)) = false := by rw [← Int.toNat_natCast z]; exact hp
        rw [hp'] at test
        exact ⟨_, seq_nx (iff' test rfl) rfl, _, rfl, rfl⟩)
  rw [any_lift fun z => decide (at2 R x z = (y : Int))] at h
  have ha : ((List.range n).any fun z => decide (at2 R x z = (y : Int))) = true := List.any_eq_true.mpr ⟨inv R x y, List.mem_range.mpr i1, decide_eq_true i2⟩
  obtain ⟨w, ρ', e1, rfl, a, rfl⟩ := h.1 ha
  exact mk_ok (body := b__law_pair) rfl (seq_rt e1) rfl
end SW
set_option Elab.async false
set_option linter.all false
set_option maxRecDepth 100000
set_option maxHeartbeats 2000000
namespace SW
open PySem L2
def liftD (g : Nat → D) : D → D
  | .int v => g v.toNat
  | d => d
theorem map_lift {n : Nat} (g : Nat → D) : (iL (upto n)).map (liftD g) = (List.range n).map g := by
  unfold iL upto
  rw [List.map_map, List.map_map]
  refine List.map_congr_left fun i _ => ?_
  show g (((i : Nat) : Int)).toNat = _
  rw [Int.toNat_natCast]
/-- [te for i in 0 .. n - 1] -/
theorem comp_upto {n : Nat} {v : Nat} {te : AE} {it : AM (List D)} {ρ0 ρ : En} (g : Nat → D) (hn : n ≤ 1000) (hit : it ρ0 = .ok (iL (upto n)) ρ) (hv : ∀ d, gNm v d (wipeE ρ [v]) = .ok () (ρ.set v (.pl d))) (hb : ∀ d, backE ρ (ρ.set v (.pl d)) [v] = ρ) (h : ∀ i, i < n → te (ρ.set v (.pl (.int (i : Nat)))) = .ok (g i) (ρ.set v (.pl (.int (i : Nat))))) :
    fComp [v] it (gNm v) tYes te ρ0 = .ok ((List.range n).map g) ρ := by
  rw [← map_lift g]
  refine fComp_pure (liftD g) hit (fun d hd => ?_) (le_sz (by rw [iL_len, upto_len]; omega))
  obtain ⟨w, hw, rfl⟩ := iL_mem hd
  have hw := mem_upto.mp hw
  obtain ⟨i, rfl⟩ : ∃ i : Nat, w = (i : Int) := ⟨w.toNat, by omega⟩
  refine ⟨_, _, hv _, ?_, hb (.int (i : Nat))⟩
  show _ = SW.R.ok (g ((i : Int)).toNat) _
  rw [Int.toNat_natCast]
  exact h i (by omega)
theorem swaps_ok {n : Nat} {R : List (List Int)} (h1 : 1 ≤ n) (hn : n ≤ 16) (hR : Sq n R) (hc : Cyc n R) : m_swaps_of [.pl (Mx R)] = .ok (.rt (tabD R n)) [.un] := by
  have e1 := needc_ok h1 hn hR hc
  have ln : F_len [Mx R] = some (.int (n : Nat)) := by
    show some (PyData.int ((rL R).length : Nat)) = _
    rw [rL_len, hR.len]
  have l0 : sAsg (aFr (fRg (aRg1 (aOps F_len [(.br 0)])))) (gNm 1) [.pl (Mx R), .un, .un, .un] = .ok .nx [.pl (Mx R), .pl (.list (iL (upto n))), .un, .un] := by
    rw [← rgD_upto]
    exact set_ok (fr_ok (frg_ok (rg1_ok (ops1 rfl rfl ln)) (rgOk_n (by omega)))) rfl rfl
  have inner : ∀ x, x < n → fComp [3] (iSeq (eV 1)) (gNm 3) tYes (aCall m_swap_pair [(.br 0), (.br 2), (.br 3)]) [.pl (Mx R), .pl (.list (iL (upto n))), .pl (.int (x : Nat)), .un] = .ok ((List.range n).map fun y => sp R x y) [.pl (Mx R), .pl (.list (iL (upto n))), .pl (.int (x : Nat)), .un] := fun x hx =>
    comp_upto (fun y => sp R x y) (by omega) rfl (fun _ => rfl) (fun _ => rfl) fun y hy => call_p (ρ1 := [.pl (Mx R), .pl (.list (iL (upto n))), .pl (.int (x : Nat)), .pl (.int (y : Nat))]) rfl rfl (pair_ok h1 hn hR hx hy) rfl rfl
  have outer : fComp [2] (iSeq (eV 1)) (gNm 2) tYes (aOps F_tuple [(.ex (aFr (fComp [3] (iSeq (eV 1)) (gNm 3) tYes (aCall m_swap_pair [(.br 0), (.br 2), (.br 3)]))))]) [.pl (Mx R), .pl (.list (iL (upto n))), .un, .un] = .ok ((List.range n).map fun x => .tuple ((List.range n).map fun y => sp R x y)) [.pl (Mx R), .pl (.list (iL (upto n))), .un, .un] :=
    comp_upto (fun x => .tuple ((List.range n).map fun y => sp R x y)) (by omega) rfl (fun _ => rfl) (fun _ => rfl) fun x hx => ops1 (ex_ok (fr_ok (inner x hx))) rfl (f_tuple _)
  exact mk_ok (body := b_swaps_of) rfl (seq_nx (drop_ok (call_pn rfl rfl e1 rfl rfl)) (seq_nx l0 (seq_rt (ret_ok (ops1 (ex_ok (fr_ok outer)) rfl (f_tuple _)))))) rfl
end SW
set_option Elab.async false
set_option linter.all false
set_option maxRecDepth 100000
set_option maxHeartbeats 2000000
namespace SW
open PySem L2
theorem agree_ok {n : Nat} {R : List (List Int)} (hn : n ≤ 60) (hR : Sq n R) : m__law_agree [.pl (Mx R)] = .ok (.rt (.bool (!unl R n))) [.un] := by
  have lR := hR.len
  have ln : F_len [Mx R] = some (.int (n : Nat)) := by
    show some (PyData.int ((rL R).length : Nat)) = _
    rw [rL_len, lR]
  have it1 : ∀ a b c d e, iRg (aRg1 (eV 1)) [.pl (Mx R), .pl (.int (n : Nat)), a, b, c, d, e] = .ok (iL (upto n)) [.pl (Mx R), .pl (.int (n : Nat)), a, b, c, d, e] := fun _ _ _ _ _ => by rw [← rgs_upto]; exact irg_ok (rg1_ok rfl) (rgIn_n (by omega))
  have ix2 : ∀ {i j : Nat}, i < n → j < n → F_ix [T (R.getD i []), .int (j : Nat)] = some (.int (at2 R i j)) := fun {i j} hi hj => f_ixi (by rw [(hR.tn i hi).len]; exact hj)
  -- the last walk
  have w3 : ∀ {x y p q : Nat} (hx : x < n) (hy : y < n) (ep : at2 R x y = (p : Int)) (eq : at2 R y x = (q : Int)) (hp : p < n) (hq : q < n) (e : SV), isIo e = false →
      (unl2 R n x y = true → ∃ w ρ', sFor (iRg (aRg1 (eV 1))) (gNm 6) (sSeq (sIf (aT (aOps F_ne [(.ex (aOps F_ix [(.ex (aOps F_ix [(.br 0), (.br 4)])), (.ex (aOps F_ix [(.ex (aOps F_ix [(.br 0), (.br 2)])), (.br 6)]))])), (.ex (aOps F_ix [(.ex (aOps F_ix [(.br 0), (.br 5)])), (.ex (aOps F_ix [(.ex (aOps F_ix [(.br 0), (.br 3)])), (.br 6)]))]))])) (sSeq (sRet (eC (.bool false))) sNx) sNx) sNx) [.pl (Mx R), .pl (.int (n : Nat)), .pl (.int (x : Nat)), .pl (.int (y : Nat)), .pl (.int (p : Nat)), .pl (.int (q : Nat)), e] = .ok (.rt w) ρ' ∧ w = .bool false ∧ ∃ a b c d e, ρ' = [.pl (Mx R), .pl (.int (n : Nat)), a, b, c, d, e]) ∧
      (unl2 R n x y = false → ∃ ρ', sFor (iRg (aRg1 (eV 1))) (gNm 6) (sSeq (sIf (aT (aOps F_ne [(.ex (aOps F_ix [(.ex (aOps F_ix [(.br 0), (.br 4)])), (.ex (aOps F_ix [(.ex (aOps F_ix [(.br 0), (.br 2)])), (.br 6)]))])), (.ex (aOps F_ix [(.ex (aOps F_ix [(.br 0), (.br 5)])), (.ex (aOps F_ix [(.ex (aOps F_ix [(.br 0), (.br 3)])), (.br 6)]))]))])) (sSeq (sRet (eC (.bool false))) sNx) sNx) sNx) [.pl (Mx R), .pl (.int (n : Nat)), .pl (.int (x : Nat)), .pl (.int (y : Nat)), .pl (.int (p : Nat)), .pl (.int (q : Nat)), e] = .ok .nx ρ' ∧ ∃ e, isIo e = false ∧ ρ' = [.pl (Mx R), .pl (.int (n : Nat)), .pl (.int (x : Nat)), .pl (.int (y : Nat)), .pl (.int (p : Nat)), .pl (.int (q : Nat)), e]) := fun {x y p q} hx hy ep eq hp hq e he => by
    have h := for_find (it := iRg (aRg1 (eV 1))) (g := gNm 6) (body := sSeq (sIf (aT (aOps F_ne [(.ex (aOps F_ix [(.ex (aOps F_ix [(.br 0), (.br 4)])), (.ex (aOps F_ix [(.ex (aOps F_ix [(.br 0), (.br 2)])), (.br 6)]))])), (.ex (aOps F_ix [(.ex (aOps F_ix [(.br 0), (.br 5)])), (.ex (aOps F_ix [(.ex (aOps F_ix [(.br 0), (.br 3)])), (.br 6)]))]))])) (sSeq (sRet (eC (.bool false))) sNx) sNx) sNx)
      (ρ0 := [.pl (Mx R), .pl (.int (n : Nat)), .pl (.int (x : Nat)), .pl (.int (y : Nat)), .pl (.int (p : Nat)), .pl (.int (q : Nat)), e]) (ρ := [.pl (Mx R), .pl (.int (n : Nat)), .pl (.int (x : Nat)), .pl (.int (y : Nat)), .pl (.int (p : Nat)), .pl (.int (q : Nat)), e]) (items := iL (upto n))
      (fun ρ => ∃ e, isIo e = false ∧ ρ = [.pl (Mx R), .pl (.int (n : Nat)), .pl (.int (x : Nat)), .pl (.int (y : Nat)), .pl (.int (p : Nat)), .pl (.int (q : Nat)), e]) (fun ρ' => ∃ a b c d e, ρ' = [.pl (Mx R), .pl (.int (n : Nat)), a, b, c, d, e]) (fun w => w = .bool false)
      (liftP fun z => unl3 R x y z) (by rw [← rgs_upto]; exact irg_ok (rg1_ok rfl) (rgIn_n (by omega))) ⟨e, he, rfl⟩ (fun d hd ρ hI => by
        obtain ⟨e, he, rfl⟩ := hI
        obtain ⟨v, hv, rfl⟩ := iL_mem hd
        have hv := mem_upto.mp hv
        obtain ⟨z, rfl⟩ : ∃ z : Nat, v = (z : Int) := ⟨v.toNat, by omega⟩
        have hz : z < n := by omega
        obtain ⟨k1, ek1, hk1⟩ := hR.nat hx hz
        obtain ⟨k2, ek2, hk2⟩ := hR.nat hy hz
        have a1 := ix2 hx hz
        have a2 := ix2 hy hz
        rw [ek1] at a1
        rw [ek2] at a2
        have hne : F_ne [.int (at2 R p k1), .int (at2 R q k2)] = some (.bool (unl3 R x y z)) := by
          rw [ne_int]
          unfold unl3
          rw [ep, eq, ek1, ek2, Int.toNat_natCast, Int.toNat_natCast, Int.toNat_natCast, Int.toNat_natCast]
        have test : aT (aOps F_ne [(.ex (aOps F_ix [(.ex (aOps F_ix [(.br 0), (.br 4)])), (.ex (aOps F_ix [(.ex (aOps F_ix [(.br 0), (.br 2)])), (.br 6)]))])), (.ex (aOps F_ix [(.ex (aOps F_ix [(.br 0), (.br 5)])), (.ex (aOps F_ix [(.ex (aOps F_ix [(.br 0), (.br 3)])), (.br 6)]))]))]) [.pl (Mx R), .pl (.int (n : Nat)), .pl (.int (x : Nat)), .pl (.int (y : Nat)), .pl (.int (p : Nat)), .pl (.int (q : Nat)), .pl (.int (z : Nat))] = .ok (unl3 R x y z) [.pl (Mx R), .pl (.int (n : Nat)), .pl (.int (x : Nat)), .pl (.int (y : Nat)), .pl (.int (p : Nat)), .pl (.int (q : Nat)), .pl (.int (z : Nat))] :=
          aT_ok (ops2 (ex_ok (ops2 (ex_ok (ops2 rfl rfl rfl rfl (f_ixR (by omega)))) (ex_ok (ops2 (ex_ok (ops2 rfl rfl rfl rfl (f_ixR (by omega)))) rfl rfl rfl a1)) rfl rfl (ix2 hp hk1))) (ex_ok (ops2 (ex_ok (ops2 rfl rfl rfl rfl (f_ixR (by omega)))) (ex_ok (ops2 (ex_ok (ops2 rfl rfl rfl rfl (f_ixR (by omega)))) rfl rfl rfl a2)) rfl rfl (ix2 hq hk2))) rfl rfl hne)
        refine ⟨[.pl (Mx R), .pl (.int (n : Nat)), .pl (.int (x : Nat)), .pl (.int (y : Nat)), .pl (.int (p : Nat)), .pl (.int (q : Nat)), .pl (.int (z : Nat))], gnm_ok he rfl, fun hp => ?_, fun hp => ?_⟩
        · have hp' : unl3 R x y z = true := by rw [← Int.toNat_natCast z]; exact hp
          rw [hp'] at test
          exact ⟨_, _, seq_rt (ift test (seq_rt (ret_ok rfl))), rfl, _, _, _, _, _, rfl⟩
        · have hp' : unl3 R x y z = false := by rw [← Int.toNat_natCast z]; exact hp
          rw [hp'] at test
          exact ⟨_, seq_nx (iff' test rfl) rfl, _, rfl, rfl⟩)
    rw [any_lift fun z => unl3 R x y z] at h
    exact h
  have w2 : ∀ {x : Nat} (hx : x < n) (b c d e : SV), isIo b = false → isIo c = false → isIo d = false → isIo e = false →
      (unl1 R n x = true → ∃ w ρ', sFor (iRg (aRg1 (eV 1))) (gNm 3) (sSeq (sPar [4, 5] [(aOps F_ix [(.ex (aOps F_ix [(.br 0), (.br 2)])), (.br 3)]), (aOps F_ix [(.ex (aOps F_ix [(.br 0), (.br 3)])), (.br 2)])]) (sSeq (sFor (iRg (aRg1 (eV 1))) (gNm 6) (sSeq (sIf (aT (aOps F_ne [(.ex (aOps F_ix [(.ex (aOps F_ix [(.br 0), (.br 4)])), (.ex (aOps F_ix [(.ex (aOps F_ix [(.br 0), (.br 2)])), (.br 6)]))])), (.ex (aOps F_ix [(.ex (aOps F_ix [(.br 0), (.br 5)])), (.ex (aOps F_ix [(.ex (aOps F_ix [(.br 0), (.br 3)])), (.br 6)]))]))])) (sSeq (sRet (eC (.bool false))) sNx) sNx) sNx)) sNx)) [.pl (Mx R), .pl (.int (n : Nat)), .pl (.int (x : Nat)), b, c, d, e] = .ok (.rt w) ρ' ∧ w = .bool false ∧ ∃ a b c d e, ρ' = [.pl (Mx R), .pl (.int (n : Nat)), a, b, c, d, e]) ∧
      (unl1 R n x = false → ∃ ρ', sFor (iRg (aRg1 (eV 1))) (gNm 3) (sSeq (sPar [4, 5] [(aOps F_ix [(.ex (aOps F_ix [(.br 0), (.br 2)])), (.br 3)]), (aOps F_ix [(.ex (aOps F_ix [(.br 0), (.br 3)])), (.br 2)])]) (sSeq (sFor (iRg (aRg1 (eV 1))) (gNm 6) (sSeq (sIf (aT (aOps F_ne [(.ex (aOps F_ix [(.ex (aOps F_ix [(.br 0), (.br 4)])), (.ex (aOps F_ix [(.ex (aOps F_ix [(.br 0), (.br 2)])), (.br 6)]))])), (.ex (aOps F_ix [(.ex (aOps F_ix [(.br 0), (.br 5)])), (.ex (aOps F_ix [(.ex (aOps F_ix [(.br 0), (.br 3)])), (.br 6)]))]))])) (sSeq (sRet (eC (.bool false))) sNx) sNx) sNx)) sNx)) [.pl (Mx R), .pl (.int (n : Nat)), .pl (.int (x : Nat)), b, c, d, e] = .ok .nx ρ' ∧ ∃ b c d e, (isIo b = false ∧ isIo c = false ∧ isIo d = false ∧ isIo e = false) ∧ ρ' = [.pl (Mx R), .pl (.int (n : Nat)), .pl (.int (x : Nat)), b, c, d, e]) := fun {x} hx b c d e hb hc hd he => by
    have h := for_find (it := iRg (aRg1 (eV 1))) (g := gNm 3) (body := (sSeq (sPar [4, 5] [(aOps F_ix [(.ex (aOps F_ix [(.br 0), (.br 2)])), (.br 3)]), (aOps F_ix [(.ex (aOps F_ix [(.br 0), (.br 3)])), (.br 2)])]) (sSeq (sFor (iRg (aRg1 (eV 1))) (gNm 6) (sSeq (sIf (aT (aOps F_ne [(.ex (aOps F_ix [(.ex (aOps F_ix [(.br 0), (.br 4)])), (.ex (aOps F_ix [(.ex (aOps F_ix [(.br 0), (.br 2)])), (.br 6)]))])), (.ex (aOps F_ix [(.ex (aOps F_ix [(.br 0), (.br 5)])), (.ex (aOps F_ix [(.ex (aOps F_ix [(.br 0), (.br 3)])), (.br 6)]))]))])) (sSeq (sRet (eC (.bool false))) sNx) sNx) sNx)) sNx))) (ρ0 := [.pl (Mx R), .pl (.int (n : Nat)), .pl (.int (x : Nat)), b, c, d, e]) (ρ := [.pl (Mx R), .pl (.int (n : Nat)), .pl (.int (x : Nat)), b, c, d, e]) (items := iL (upto n))
      (fun ρ => ∃ b c d e, (isIo b = false ∧ isIo c = false ∧ isIo d = false ∧ isIo e = false) ∧ ρ = [.pl (Mx R), .pl (.int (n : Nat)), .pl (.int (x : Nat)), b, c, d, e]) (fun ρ' => ∃ a b c d e, ρ' = [.pl (Mx R), .pl (.int (n : Nat)), a, b, c, d, e]) (fun w => w = .bool false)
      (liftP fun z => unl2 R n x z) (by rw [← rgs_upto]; exact irg_ok (rg1_ok rfl) (rgIn_n (by omega))) ⟨b, c, d, e, ⟨hb, hc, hd, he⟩, rfl⟩ (fun d hd ρ hI => by
        obtain ⟨b, c, d', e, ⟨hb, hc, hd', he⟩, rfl⟩ := hI
        obtain ⟨v, hv, rfl⟩ := iL_mem hd
        have hv := mem_upto.mp hv
        obtain ⟨y, rfl⟩ : ∃ y : Nat, v = (y : Int) := ⟨v.toNat, by omega⟩
        have hy : y < n := by omega
        obtain ⟨p, ep, hp⟩ := hR.nat hx hy
        obtain ⟨q, eq, hq⟩ := hR.nat hy hx
        have a1 := ix2 hx hy
        have a2 := ix2 hy hx
        rw [ep] at a1
        rw [eq] at a2
        have par : sPar [4, 5] [(aOps F_ix [(.ex (aOps F_ix [(.br 0), (.br 2)])), (.br 3)]), (aOps F_ix [(.ex (aOps F_ix [(.br 0), (.br 3)])), (.br 2)])] [.pl (Mx R), .pl (.int (n : Nat)), .pl (.int (x : Nat)), .pl (.int (y : Nat)), c, d', e] = .ok .nx [.pl (Mx R), .pl (.int (n : Nat)), .pl (.int (x : Nat)), .pl (.int (y : Nat)), .pl (.int (p : Nat)), .pl (.int (q : Nat)), e] := by
          refine par_ok (ds_cons (ops2 (ex_ok (ops2 rfl rfl rfl rfl (f_ixR (by omega)))) rfl rfl rfl a1) (ds_cons (ops2 (ex_ok (ops2 rfl rfl rfl rfl (f_ixR (by omega)))) rfl rfl rfl a2) ds_nil)) ?_
          show (if isIo c = true then SW.R.bad else (if isIo d' = true then SW.R.bad else SW.R.ok Fl.nx [.pl (Mx R), .pl (.int (n : Nat)), .pl (.int (x : Nat)), .pl (.int (y : Nat)), .pl (.int (p : Nat)), .pl (.int (q : Nat)), e])) = _
          rw [hc, hd']
          rfl
        obtain ⟨k1, k2⟩ := w3 hx hy ep eq hp hq e he
        refine ⟨[.pl (Mx R), .pl (.int (n : Nat)), .pl (.int (x : Nat)), .pl (.int (y : Nat)), c, d', e], gnm_ok hb rfl, fun hp => ?_, fun hp => ?_⟩
        · have hp' : unl2 R n x y = true := by rw [← Int.toNat_natCast y]; exact hp
          obtain ⟨w, ρ', e1, e2, e3⟩ := k1 hp'
          exact ⟨w, ρ', seq_nx par (seq_rt e1), e2, e3⟩
        · have hp' : unl2 R n x y = false := by rw [← Int.toNat_natCast y]; exact hp
          obtain ⟨ρ', e1, e2, he2, rfl⟩ := k2 hp'
          exact ⟨_, seq_nx par (seq_nx e1 rfl), _, _, _, _, ⟨rfl, rfl, rfl, he2⟩, rfl⟩)
    rw [any_lift fun y => unl2 R n x y] at h
    exact h
  have w1 := for_find (it := iRg (aRg1 (eV 1))) (g := gNm 2) (body := (sSeq (sFor (iRg (aRg1 (eV 1))) (gNm 3) (sSeq (sPar [4, 5] [(aOps F_ix [(.ex (aOps F_ix [(.br 0), (.br 2)])), (.br 3)]), (aOps F_ix [(.ex (aOps F_ix [(.br 0), (.br 3)])), (.br 2)])]) (sSeq (sFor (iRg (aRg1 (eV 1))) (gNm 6) (sSeq (sIf (aT (aOps F_ne [(.ex (aOps F_ix [(.ex (aOps F_ix [(.br 0), (.br 4)])), (.ex (aOps F_ix [(.ex (aOps F_ix [(.br 0), (.br 2)])), (.br 6)]))])), (.ex (aOps F_ix [(.ex (aOps F_ix [(.br 0), (.br 5)])), (.ex (aOps F_ix [(.ex (aOps F_ix [(.br 0), (.br 3)])), (.br 6)]))]))])) (sSeq (sRet (eC (.bool false))) sNx) sNx) sNx)) sNx))) sNx)) (ρ0 := [.pl (Mx R), .pl (.int (n : Nat)), .un, .un, .un, .un, .un]) (ρ := [.pl (Mx R), .pl (.int (n : Nat)), .un, .un, .un, .un, .un]) (items := iL (upto n))
      (fun ρ => ∃ a b c d e, (isIo a = false ∧ isIo b = false ∧ isIo c = false ∧ isIo d = false ∧ isIo e = false) ∧ ρ = [.pl (Mx R), .pl (.int (n : Nat)), a, b, c, d, e]) (fun ρ' => ∃ a b c d e, ρ' = [.pl (Mx R), .pl (.int (n : Nat)), a, b, c, d, e]) (fun w => w = .bool false)
      (liftP fun z => unl1 R n z) (by rw [← rgs_upto]; exact irg_ok (rg1_ok rfl) (rgIn_n (by omega))) ⟨.un, .un, .un, .un, .un, ⟨rfl, rfl, rfl, rfl, rfl⟩, rfl⟩ (fun d hd ρ hI => by
        obtain ⟨a, b, c, d', e, ⟨ha, hb, hc, hd', he⟩, rfl⟩ := hI
        obtain ⟨v, hv, rfl⟩ := iL_mem hd
        have hv := mem_upto.mp hv
        obtain ⟨x, rfl⟩ : ∃ x : Nat, v = (x : Int) := ⟨v.toNat, by omega⟩
        have hx : x < n := by omega
        obtain ⟨k1, k2⟩ := w2 hx b c d' e hb hc hd' he
        refine ⟨[.pl (Mx R), .pl (.int (n : Nat)), .pl (.int (x : Nat)), b, c, d', e], gnm_ok ha rfl, fun hp => ?_, fun hp => ?_⟩
        · have hp' : unl1 R n x = true := by rw [← Int.toNat_natCast x]; exact hp
          obtain ⟨w, ρ', e1, e2, e3⟩ := k1 hp'
          exact ⟨w, ρ', seq_rt e1, e2, e3⟩
        · have hp' : unl1 R n x = false := by rw [← Int.toNat_natCast x]; exact hp
          obtain ⟨ρ', e1, b2, c2, d2, e2, ⟨g1, g2, g3, g4⟩, rfl⟩ := k2 hp'
          exact ⟨_, seq_nx e1 rfl, _, _, _, _, _, ⟨rfl, g1, g2, g3, g4⟩, rfl⟩)
  rw [any_lift fun x => unl1 R n x] at w1
  have l0 : sAsg (aOps F_len [(.br 0)]) (gNm 1) [.pl (Mx R), .un, .un, .un, .un, .un, .un] = .ok .nx [.pl (Mx R), .pl (.int (n : Nat)), .un, .un, .un, .un, .un] := set_ok (ops1 rfl rfl ln) rfl rfl
  cases q : unl R n with
  | true =>
    obtain ⟨w, ρ', e1, e2, a, b, c, d, e, rfl⟩ := w1.1 q
    subst e2
    exact mk_ok (body := b__law_agree) rfl (seq_nx l0 (seq_rt e1)) rfl
  | false =>
    obtain ⟨ρ', e1, a, b, c, d, e, _, rfl⟩ := w1.2 q
    exact mk_ok (body := b__law_agree) rfl (seq_nx l0 (seq_nx e1 (seq_rt (ret_ok rfl)))) rfl
end SW
set_option Elab.async false
set_option linter.all false
set_option maxRecDepth 100000
set_option maxHeartbeats 2000000
namespace SW
open PySem L2
theorem lrows_ok {s : SV} (hs : CupS s) : ∃ R n s', m__law_rows [s] = .ok (.rt (Mx R)) [s'] ∧ CupS s' ∧ 1 ≤ n ∧ n ≤ 8 ∧ Sq n R ∧ Cyc n R := by
  obtain ⟨a0, b0, rfl, ha0, hb0⟩ := hs
  obtain ⟨d1, c1, e1, ⟨a1, b1, rfl, ha1, hb1⟩, m1⟩ := some_ok ⟨a0, b0, rfl, ha0, hb0⟩ (xs := stock.map Mx) (by show 0 < 7; decide) (by show 7 ≤ 1000; decide)
  obtain ⟨d2, c2, e2, ⟨a2, b2, rfl, ha2, hb2⟩, m2⟩ := some_ok ⟨a1, b1, rfl, ha1, hb1⟩ (xs := stock.map Mx) (by show 0 < 7; decide) (by show 7 ≤ 1000; decide)
  obtain ⟨A, hA, rfl⟩ := List.mem_map.mp m1
  obtain ⟨C, hC, rfl⟩ := List.mem_map.mp m2
  obtain ⟨g1, g2, eb⟩ := base_ok hA hC
  obtain ⟨r, c3, e3, hr, a3, b3, rfl, ha3, hb3⟩ := roll_nat ⟨a2, b2, rfl, ha2, hb2⟩ (n := 3) (by decide) (by decide)
  rw [show ((3 : Nat) : Int) = 3 from rfl] at e3
  have s1 : sPar [1, 2] [(aCall m__law_some [(.br 0), (.ex (aCall m__law_stock []))]), (aCall m__law_some [(.br 0), (.ex (aCall m__law_stock []))])] [.own true [.int a0, .int b0], .un, .un, .un] = .ok .nx [.own true [.int a2, .int b2], .pl (Mx A), .pl (Mx C), .un] :=
    par_ok (ds_cons (call_c (os_cons rfl (os_cons (ex_ok (call_p os_nil rfl stock_ok rfl rfl)) os_nil)) rfl e1 rfl rfl) (ds_cons (call_c (os_cons rfl (os_cons (ex_ok (call_p os_nil rfl stock_ok rfl rfl)) os_nil)) rfl e2 rfl rfl) ds_nil)) rfl
  have tst : aOps F_gt [(.ex (aCall m__law_roll [(.br 0), (.ex (eC (.int 3)))])), (.ex (eC (.int 0)))] [.own true [.int a2, .int b2], .pl (Mx A), .pl (Mx C), .un] = .ok (.bool (decide (0 < (r : Int)))) [.own true [.int a3, .int b3], .pl (Mx A), .pl (Mx C), .un] :=
    ops2 (ex_ok (call_c rfl rfl e3 rfl rfl)) (ex_ok rfl) rfl rfl rfl
  obtain ⟨B, gB, s2⟩ : ∃ B, goodB B = true ∧ sAsg (aIf (aT (aOps F_gt [(.ex (aCall m__law_roll [(.br 0), (.ex (eC (.int 3)))])), (.ex (eC (.int 0)))])) (aCall m__law_beside [(.br 1), (.br 2)]) (eV 1)) (gNm 3) [.own true [.int a2, .int b2], .pl (Mx A), .pl (Mx C), .un] = .ok .nx [.own true [.int a3, .int b3], .pl (Mx A), .pl (Mx C), .pl (Mx B)] := by
    cases q : decide (0 < (r : Int)) with
    | true =>
      rw [q] at tst
      exact ⟨_, g2, set_ok (ρ1 := [.own true [.int a3, .int b3], .pl (Mx A), .pl (Mx C), .un]) (aif_t (aT_ok tst) (call_p rfl rfl eb rfl rfl)) rfl rfl⟩
    | false =>
      rw [q] at tst
      exact ⟨_, g1, set_ok (ρ1 := [.own true [.int a3, .int b3], .pl (Mx A), .pl (Mx C), .un]) (aif_f (aT_ok tst) rfl) rfl rfl⟩
  obtain ⟨n1, n2, hB, hc⟩ := good_ok gB
  obtain ⟨t, c4, e4, ht, a4, b4, rfl, ha4, hb4⟩ := lturn_ok ⟨a3, b3, rfl, ha3, hb3⟩ (n := B.length) (by omega)
  obtain ⟨f, _, hf⟩ := back_ok n1 (by omega) ht
  have er := renamed_ok (by omega) hB ht hf
  have ln : F_len [Mx B] = some (.int (B.length : Nat)) := by
    show some (PyData.int ((rL B).length : Nat)) = _
    rw [rL_len]
  exact ⟨ren B t f, B.length, _, mk_ok (body := b__law_rows) rfl (seq_nx s1 (seq_nx s2 (seq_rt (ret_ok (call_p (ρ1 := [.own true [.int a4, .int b4], .pl (Mx A), .pl (Mx C), .pl (Mx B)]) (os_cons rfl (os_cons (ex_ok (call_c (os_cons rfl (os_cons (ex_ok (ops1 rfl rfl ln)) os_nil)) rfl e4 rfl rfl)) os_nil)) rfl er rfl rfl))))) rfl, ⟨a4, b4, rfl, ha4, hb4⟩, n1, n2, ren_sq hB ht hf, ren_cyc hB hc ht hf⟩
end SW
set_option Elab.async false
set_option linter.all false
set_option maxRecDepth 100000
set_option maxHeartbeats 2000000
namespace SW
open PySem L2
/-- x . y as a number -/
def dt (R : List (List Int)) (x y : Nat) : Nat := (at2 R x y).toNat
theorem dt_eq {n : Nat} {R : List (List Int)} (hR : Sq n R) {x y : Nat} (hx : x < n) (hy : y < n) : at2 R x y = (dt R x y : Nat) ∧ dt R x y < n := by
  obtain ⟨k, e, hk⟩ := hR.nat hx hy
  unfold dt
  rw [e, Int.toNat_natCast]
  exact ⟨rfl, hk⟩
theorem inv_dt {n : Nat} {R : List (List Int)} (hR : Sq n R) {x y : Nat} (hx : x < n) (hy : y < n) : inv R x (dt R x y) = y :=
  (inv_uniq hR hx (dt_eq hR hx hy).2 hy (dt_eq hR hx hy).1).symm
theorem dt_inv {n : Nat} {R : List (List Int)} (hR : Sq n R) {x y : Nat} (hx : x < n) (hy : y < n) : dt R x (inv R x y) = y := by
  unfold dt
  rw [(inv_ok hR hx hy).2, Int.toNat_natCast]
theorem cyc_dt {n : Nat} {R : List (List Int)} (hR : Sq n R) (hc : Cyc n R) {x y z : Nat} (hx : x < n) (hy : y < n) (hz : z < n) : dt R (dt R x y) (dt R x z) = dt R (dt R y x) (dt R y z) := by
  have h := hc x y z hx hy hz
  unfold dt
  rw [h]
/-- the swap: what x and y become -/
def sw1 (R : List (List Int)) (x y : Nat) : Nat := inv R x y
def sw2 (R : List (List Int)) (x y : Nat) : Nat := dt R (inv R x y) x
theorem sp_eq {n : Nat} {R : List (List Int)} (hR : Sq n R) {x y : Nat} (hx : x < n) (hy : y < n) : sp R x y = .tuple [.int (sw1 R x y : Nat), .int (sw2 R x y : Nat)] ∧ sw1 R x y < n ∧ sw2 R x y < n := by
  obtain ⟨i1, _⟩ := inv_ok hR hx hy
  obtain ⟨j1, j2⟩ := dt_eq hR i1 hx
  refine ⟨?_, i1, j2⟩
  unfold sp sw1 sw2
  rw [j1]
theorem r_dt {n : Nat} {R : List (List Int)} (hR : Sq n R) {x y : Nat} (hx : x < n) (hy : y < n) : sw1 R x (dt R x y) = y ∧ sw2 R x (dt R x y) = dt R y x := by
  unfold sw1 sw2
  rw [inv_dt hR hx hy]
  exact ⟨rfl, rfl⟩
/-- twice is nothing -/
theorem r_twice {n : Nat} {R : List (List Int)} (hR : Sq n R) {x y : Nat} (hx : x < n) (hy : y < n) : sw1 R (sw1 R x y) (sw2 R x y) = x ∧ sw2 R (sw1 R x y) (sw2 R x y) = y := by
  obtain ⟨i1, _⟩ := inv_ok hR hx hy
  have e := dt_inv hR hx hy
  obtain ⟨k1, k2⟩ := r_dt hR i1 hx
  unfold sw2 sw1 at *
  exact ⟨k1, by rw [k2, e]⟩
/-- the three swaps, either way -/
theorem r_braid {n : Nat} {R : List (List Int)} (hR : Sq n R) (hc : Cyc n R) {x y z : Nat} (hx : x < n) (hy : y < n) (hz : z < n) :
    sw1 R (sw1 R x y) (sw1 R (sw2 R x y) z) = sw1 R x (sw1 R y z) ∧ sw2 R (sw1 R x y) (sw1 R (sw2 R x y) z) = sw1 R (sw2 R x (sw1 R y z)) (sw2 R y z) ∧ sw2 R (sw2 R x y) z = sw2 R (sw2 R x (sw1 R y z)) (sw2 R y z) := by
  obtain ⟨Y, hY, rfl⟩ : ∃ Y, Y < n ∧ dt R x Y = y := ⟨_, (inv_ok hR hx hy).1, dt_inv hR hx hy⟩
  obtain ⟨V, hV, rfl⟩ : ∃ V, V < n ∧ dt R (dt R x Y) V = z := ⟨_, (inv_ok hR hy hz).1, dt_inv hR hy hz⟩
  obtain ⟨Z, hZ, rfl⟩ : ∃ Z, Z < n ∧ dt R x Z = V := ⟨_, (inv_ok hR hx hV).1, dt_inv hR hx hV⟩
  have yx := (dt_eq hR hY hx).2
  have yz := (dt_eq hR hY hZ).2
  have zx := (dt_eq hR hZ hx).2
  have zy := (dt_eq hR hZ hY).2
  have xz := (dt_eq hR hx hZ).2
  have c1 := cyc_dt hR hc hx hY hZ
  have c2 := cyc_dt hR hc hY hZ hx
  have c3 := cyc_dt hR hc hx hZ hY
  obtain ⟨a1, a2⟩ := r_dt hR hx hY
  obtain ⟨b1, b2⟩ := r_dt hR yx yz
  obtain ⟨d1, d2⟩ := r_dt hR hY hZ
  obtain ⟨e1, e2⟩ := r_dt hR hy xz
  obtain ⟨f1, f2⟩ := r_dt hR hx hZ
  obtain ⟨g1, g2⟩ := r_dt hR zx zy
  rw [a1, a2, e1, e2, f1, f2, c3, g1, g2, c1, b1, b2, d1, d2, c2]
  exact ⟨rfl, rfl, rfl⟩
end SW
set_option Elab.async false
set_option linter.all false
set_option maxRecDepth 100000
set_option maxHeartbeats 2000000
namespace SW
open PySem L2
theorem tab_ix {n : Nat} {R : List (List Int)} {x : Nat} (hx : x < n) : F_ix [tabD R n, .int (x : Nat)] = some (.tuple ((List.range n).map fun y => sp R x y)) := f_ixT (Int.natCast_nonneg _) (by rw [Int.toNat_natCast, List.getElem?_map, List.getElem?_range hx]; rfl)
theorem tab_ix2 {n : Nat} {R : List (List Int)} (hR : Sq n R) {x y : Nat} (hx : x < n) (hy : y < n) : F_ix [.tuple ((List.range n).map fun y => sp R x y), .int (y : Nat)] = some (.tuple [.int (sw1 R x y : Nat), .int (sw2 R x y : Nat)]) := by
  rw [← (sp_eq hR hx hy).1]
  exact f_ixT (Int.natCast_nonneg _) (by rw [Int.toNat_natCast, List.getElem?_map, List.getElem?_range hy]; rfl)
theorem gtup2 {i j : Nat} {d1 d2 : D} {ρ ρ' : En} (h1 : isIo (getSlot ρ i) = false) (h2 : isIo (getSlot (setSlot ρ i (.pl d1)) j) = false) (h3 : setSlot (setSlot ρ i (.pl d1)) j (.pl d2) = ρ') : gTupA [gNm i, gNm j] (.tuple [d1, d2]) ρ = .ok () ρ' := by
  show (gNm i d1 ρ).bind _ = _
  rw [gnm_ok h1 rfl]
  show (gNm j d2 (setSlot ρ i (.pl d1))).bind _ = _
  rw [gnm_ok h2 h3]
  rfl
theorem ne_same {a b c : Int} : F_ne [.tuple [.int a, .int b, .int c], .tuple [.int a, .int b, .int c]] = some (.bool false) := by
  have h := shaped_T [a, b, c]
  have h2 : PyData.eqv (T [a, b, c]) (T [a, b, c]) = true := by
    have := eqvAll_ints [a, b, c] [a, b, c]
    simp only [PyData.eqv]
    rw [this]
    simp
  show (if (SeqAt.shaped (T [a, b, c]) && SeqAt.shaped (T [a, b, c])) = true then some (PyData.bool (!PyData.eqv (T [a, b, c]) (T [a, b, c]))) else none) = _
  rw [h, h2]
  rfl
theorem thrice_body {n : Nat} {R : List (List Int)} (hR : Sq n R) (hc : Cyc n R) {x y z : Nat} (hx : x < n) (hy : y < n) (hz : z < n) {a b c d e f g : SV} (h : (isIo a = false ∧ isIo b = false ∧ isIo c = false ∧ isIo d = false ∧ isIo e = false ∧ isIo f = false ∧ isIo g = false)) : ∃ a1 b1 c1 d1 e1 f1 g1, (isIo a1 = false ∧ isIo b1 = false ∧ isIo c1 = false ∧ isIo d1 = false ∧ isIo e1 = false ∧ isIo f1 = false ∧ isIo g1 = false) ∧ (sSeq (sAsg (aOps F_ix [(.ex (aOps F_ix [(.br 0), (.br 2)])), (.br 3)]) (gTupA [(gNm 5), (gNm 6)])) (sSeq (sAsg (aOps F_ix [(.ex (aOps F_ix [(.br 0), (.br 6)])), (.br 4)]) (gTupA [(gNm 7), (gNm 8)])) (sSeq (sAsg (aOps F_ix [(.ex (aOps F_ix [(.br 0), (.br 5)])), (.br 7)]) (gTupA [(gNm 5), (gNm 7)])) (sSeq (sAsg (aOps F_ix [(.ex (aOps F_ix [(.br 0), (.br 3)])), (.br 4)]) (gTupA [(gNm 9), (gNm 10)])) (sSeq (sAsg (aOps F_ix [(.ex (aOps F_ix [(.br 0), (.br 2)])), (.br 9)]) (gTupA [(gNm 11), (gNm 9)])) (sSeq (sAsg (aOps F_ix [(.ex (aOps F_ix [(.br 0), (.br 9)])), (.br 10)]) (gTupA [(gNm 9), (gNm 10)])) (sSeq (sIf (aT (aOps F_ne [(.ex (aTup [(eV 5), (eV 7), (eV 8)])), (.ex (aTup [(eV 11), (eV 9), (eV 10)]))])) (sSeq (sRet (eC (.bool false))) sNx) sNx) sNx))))))) [.pl (tabD R n), .pl (.int (n : Nat)), .pl (.int (x : Nat)), .pl (.int (y : Nat)), .pl (.int (z : Nat)), a, b, c, d, e, f, g] = .ok .nx [.pl (tabD R n), .pl (.int (n : Nat)), .pl (.int (x : Nat)), .pl (.int (y : Nat)), .pl (.int (z : Nat)), a1, b1, c1, d1, e1, f1, g1] := by
  obtain ⟨ha, hb, hc1, hd, he, hf, hg⟩ := h
  obtain ⟨_, p1, q1⟩ := sp_eq hR (show x < n by assumption) (show y < n by assumption)
  have t1 := tab_ix2 hR (show x < n by assumption) (show y < n by assumption)
  have u1 := tab_ix (n := n) (R := R) (show x < n by assumption)
  obtain ⟨_, p2, q2⟩ := sp_eq hR (show (sw2 R x y) < n by assumption) (show z < n by assumption)
  have t2 := tab_ix2 hR (show (sw2 R x y) < n by assumption) (show z < n by assumption)
  have u2 := tab_ix (n := n) (R := R) (show (sw2 R x y) < n by assumption)
  obtain ⟨_, p3, q3⟩ := sp_eq hR (show (sw1 R x y) < n by assumption) (show (sw1 R (sw2 R x y) z) < n by assumption)
  have t3 := tab_ix2 hR (show (sw1 R x y) < n by assumption) (show (sw1 R (sw2 R x y) z) < n by assumption)
  have u3 := tab_ix (n := n) (R := R) (show (sw1 R x y) < n by assumption)
  obtain ⟨_, p4, q4⟩ := sp_eq hR (show y < n by assumption) (show z < n by assumption)
  have t4 := tab_ix2 hR (show y < n by assumption) (show z < n by assumption)
  have u4 := tab_ix (n := n) (R := R) (show y < n by assumption)
  obtain ⟨_, p5, q5⟩ := sp_eq hR (show x < n by assumption) (show (sw1 R y z) < n by assumption)
  have t5 := tab_ix2 hR (show x < n by assumption) (show (sw1 R y z) < n by assumption)
  have u5 := tab_ix (n := n) (R := R) (show x < n by assumption)
  obtain ⟨_, p6, q6⟩ := sp_eq hR (show (sw2 R x (sw1 R y z)) < n by assumption) (show (sw2 R y z) < n by assumption)
  have t6 := tab_ix2 hR (show (sw2 R x (sw1 R y z)) < n by assumption) (show (sw2 R y z) < n by assumption)
  have u6 := tab_ix (n := n) (R := R) (show (sw2 R x (sw1 R y z)) < n by assumption)
  obtain ⟨m1, m2, m3⟩ := r_braid hR hc hx hy hz
  have ne : F_ne [.tuple [.int ((sw1 R (sw1 R x y) (sw1 R (sw2 R x y) z)) : Nat), .int ((sw2 R (sw1 R x y) (sw1 R (sw2 R x y) z)) : Nat), .int ((sw2 R (sw2 R x y) z) : Nat)], .tuple [.int ((sw1 R x (sw1 R y z)) : Nat), .int ((sw1 R (sw2 R x (sw1 R y z)) (sw2 R y z)) : Nat), .int ((sw2 R (sw2 R x (sw1 R y z)) (sw2 R y z)) : Nat)]] = some (.bool false) := by
    rw [m1, m2, m3]
    exact ne_same
  refine ⟨.pl (.int ((sw1 R (sw1 R x y) (sw1 R (sw2 R x y) z)) : Nat)), .pl (.int ((sw2 R x y) : Nat)), .pl (.int ((sw2 R (sw1 R x y) (sw1 R (sw2 R x y) z)) : Nat)), .pl (.int ((sw2 R (sw2 R x y) z) : Nat)), .pl (.int ((sw1 R (sw2 R x (sw1 R y z)) (sw2 R y z)) : Nat)), .pl (.int ((sw2 R (sw2 R x (sw1 R y z)) (sw2 R y z)) : Nat)), .pl (.int ((sw1 R x (sw1 R y z)) : Nat)), ⟨rfl, rfl, rfl, rfl, rfl, rfl, rfl⟩, ?_⟩
  refine seq_nx (ρ1 := [.pl (tabD R n), .pl (.int (n : Nat)), .pl (.int (x : Nat)), .pl (.int (y : Nat)), .pl (.int (z : Nat)), .pl (.int ((sw1 R x y) : Nat)), .pl (.int ((sw2 R x y) : Nat)), c, d, e, f, g]) (asg_g (ops2 (ex_ok (ops2 rfl rfl rfl rfl u1)) rfl rfl rfl t1) (gtup2 ha hb rfl)) ?_
  refine seq_nx (ρ1 := [.pl (tabD R n), .pl (.int (n : Nat)), .pl (.int (x : Nat)), .pl (.int (y : Nat)), .pl (.int (z : Nat)), .pl (.int ((sw1 R x y) : Nat)), .pl (.int ((sw2 R x y) : Nat)), .pl (.int ((sw1 R (sw2 R x y) z) : Nat)), .pl (.int ((sw2 R (sw2 R x y) z) : Nat)), e, f, g]) (asg_g (ops2 (ex_ok (ops2 rfl rfl rfl rfl u2)) rfl rfl rfl t2) (gtup2 hc1 hd rfl)) ?_
  refine seq_nx (ρ1 := [.pl (tabD R n), .pl (.int (n : Nat)), .pl (.int (x : Nat)), .pl (.int (y : Nat)), .pl (.int (z : Nat)), .pl (.int ((sw1 R (sw1 R x y) (sw1 R (sw2 R x y) z)) : Nat)), .pl (.int ((sw2 R x y) : Nat)), .pl (.int ((sw2 R (sw1 R x y) (sw1 R (sw2 R x y) z)) : Nat)), .pl (.int ((sw2 R (sw2 R x y) z) : Nat)), e, f, g]) (asg_g (ops2 (ex_ok (ops2 rfl rfl rfl rfl u3)) rfl rfl rfl t3) (gtup2 rfl rfl rfl)) ?_
  refine seq_nx (ρ1 := [.pl (tabD R n), .pl (.int (n : Nat)), .pl (.int (x : Nat)), .pl (.int (y : Nat)), .pl (.int (z : Nat)), .pl (.int ((sw1 R (sw1 R x y) (sw1 R (sw2 R x y) z)) : Nat)), .pl (.int ((sw2 R x y) : Nat)), .pl (.int ((sw2 R (sw1 R x y) (sw1 R (sw2 R x y) z)) : Nat)), .pl (.int ((sw2 R (sw2 R x y) z) : Nat)), .pl (.int ((sw1 R y z) : Nat)), .pl (.int ((sw2 R y z) : Nat)), g]) (asg_g (ops2 (ex_ok (ops2 rfl rfl rfl rfl u4)) rfl rfl rfl t4) (gtup2 he hf rfl)) ?_
  refine seq_nx (ρ1 := [.pl (tabD R n), .pl (.int (n : Nat)), .pl (.int (x : Nat)), .pl (.int (y : Nat)), .pl (.int (z : Nat)), .pl (.int ((sw1 R (sw1 R x y) (sw1 R (sw2 R x y) z)) : Nat)), .pl (.int ((sw2 R x y) : Nat)), .pl (.int ((sw2 R (sw1 R x y) (sw1 R (sw2 R x y) z)) : Nat)), .pl (.int ((sw2 R (sw2 R x y) z) : Nat)), .pl (.int ((sw2 R x (sw1 R y z)) : Nat)), .pl (.int ((sw2 R y z) : Nat)), .pl (.int ((sw1 R x (sw1 R y z)) : Nat))]) (asg_g (ops2 (ex_ok (ops2 rfl rfl rfl rfl u5)) rfl rfl rfl t5) (gtup2 hg rfl rfl)) ?_
  refine seq_nx (ρ1 := [.pl (tabD R n), .pl (.int (n : Nat)), .pl (.int (x : Nat)), .pl (.int (y : Nat)), .pl (.int (z : Nat)), .pl (.int ((sw1 R (sw1 R x y) (sw1 R (sw2 R x y) z)) : Nat)), .pl (.int ((sw2 R x y) : Nat)), .pl (.int ((sw2 R (sw1 R x y) (sw1 R (sw2 R x y) z)) : Nat)), .pl (.int ((sw2 R (sw2 R x y) z) : Nat)), .pl (.int ((sw1 R (sw2 R x (sw1 R y z)) (sw2 R y z)) : Nat)), .pl (.int ((sw2 R (sw2 R x (sw1 R y z)) (sw2 R y z)) : Nat)), .pl (.int ((sw1 R x (sw1 R y z)) : Nat))]) (asg_g (ops2 (ex_ok (ops2 rfl rfl rfl rfl u6)) rfl rfl rfl t6) (gtup2 rfl rfl rfl)) ?_
  exact seq_nx (iff' (aT_ok (ops2 (ex_ok (atup_ok (ds_cons rfl (ds_cons rfl (ds_cons rfl ds_nil))) (by show 3 ≤ _; decide))) (ex_ok (atup_ok (ds_cons rfl (ds_cons rfl (ds_cons rfl ds_nil))) (by show 3 ≤ _; decide))) rfl rfl ne)) rfl) rfl
theorem thrice_ok {n : Nat} {R : List (List Int)} (hn : n ≤ 60) (hR : Sq n R) (hc : Cyc n R) : m__law_thrice [.pl (tabD R n), .pl (.int (n : Nat))] = .ok (.rt (.bool true)) [.un, .un] := by
  have it : ∀ (o t l a b c d e f g : SV), iRg (aRg1 (eV 1)) [.pl (tabD R n), .pl (.int (n : Nat)), o, t, l, a, b, c, d, e, f, g] = .ok (iL (upto n)) [.pl (tabD R n), .pl (.int (n : Nat)), o, t, l, a, b, c, d, e, f, g] := fun _ _ _ _ _ _ _ _ _ _ => by
    rw [← rgs_upto]; exact irg_ok (rg1_ok rfl) (rgIn_n (by omega))
  have w3 : ∀ {x : Nat} (hx : x < n) {y : Nat} (hy : y < n) (l a b c d e f g : SV), (isIo l = false ∧ isIo a = false ∧ isIo b = false ∧ isIo c = false ∧ isIo d = false ∧ isIo e = false ∧ isIo f = false ∧ isIo g = false) → ∃ l1 a1 b1 c1 d1 e1 f1 g1, (isIo l1 = false ∧ isIo a1 = false ∧ isIo b1 = false ∧ isIo c1 = false ∧ isIo d1 = false ∧ isIo e1 = false ∧ isIo f1 = false ∧ isIo g1 = false) ∧ sFor (iRg (aRg1 (eV 1))) (gNm 4) (sSeq (sAsg (aOps F_ix [(.ex (aOps F_ix [(.br 0), (.br 2)])), (.br 3)]) (gTupA [(gNm 5), (gNm 6)])) (sSeq (sAsg (aOps F_ix [(.ex (aOps F_ix [(.br 0), (.br 6)])), (.br 4)]) (gTupA [(gNm 7), (gNm 8)])) (sSeq (sAsg (aOps F_ix [(.ex (aOps F_ix [(.br 0), (.br 5)])), (.br 7)]) (gTupA [(gNm 5), (gNm 7)])) (sSeq (sAsg (aOps F_ix [(.ex (aOps F_ix [(.br 0), (.br 3)])), (.br 4)]) (gTupA [(gNm 9), (gNm 10)])) (sSeq (sAsg (aOps F_ix [(.ex (aOps F_ix [(.br 0), (.br 2)])), (.br 9)]) (gTupA [(gNm 11), (gNm 9)])) (sSeq (sAsg (aOps F_ix [(.ex (aOps F_ix [(.br 0), (.br 9)])), (.br 10)]) (gTupA [(gNm 9), (gNm 10)])) (sSeq (sIf (aT (aOps F_ne [(.ex (aTup [(eV 5), (eV 7), (eV 8)])), (.ex (aTup [(eV 11), (eV 9), (eV 10)]))])) (sSeq (sRet (eC (.bool false))) sNx) sNx) sNx))))))) [.pl (tabD R n), .pl (.int (n : Nat)), .pl (.int (x : Nat)), .pl (.int (y : Nat)), l, a, b, c, d, e, f, g] = .ok .nx [.pl (tabD R n), .pl (.int (n : Nat)), .pl (.int (x : Nat)), .pl (.int (y : Nat)), l1, a1, b1, c1, d1, e1, f1, g1] := fun {x} hx {y} hy l a b c d e f g h => by
    obtain ⟨ρ', k1, l1, a1, b1, c1, d1, e1, f1, g1, k2, rfl⟩ := for_inv (it := iRg (aRg1 (eV 1))) (g := gNm 4) (body := (sSeq (sAsg (aOps F_ix [(.ex (aOps F_ix [(.br 0), (.br 2)])), (.br 3)]) (gTupA [(gNm 5), (gNm 6)])) (sSeq (sAsg (aOps F_ix [(.ex (aOps F_ix [(.br 0), (.br 6)])), (.br 4)]) (gTupA [(gNm 7), (gNm 8)])) (sSeq (sAsg (aOps F_ix [(.ex (aOps F_ix [(.br 0), (.br 5)])), (.br 7)]) (gTupA [(gNm 5), (gNm 7)])) (sSeq (sAsg (aOps F_ix [(.ex (aOps F_ix [(.br 0), (.br 3)])), (.br 4)]) (gTupA [(gNm 9), (gNm 10)])) (sSeq (sAsg (aOps F_ix [(.ex (aOps F_ix [(.br 0), (.br 2)])), (.br 9)]) (gTupA [(gNm 11), (gNm 9)])) (sSeq (sAsg (aOps F_ix [(.ex (aOps F_ix [(.br 0), (.br 9)])), (.br 10)]) (gTupA [(gNm 9), (gNm 10)])) (sSeq (sIf (aT (aOps F_ne [(.ex (aTup [(eV 5), (eV 7), (eV 8)])), (.ex (aTup [(eV 11), (eV 9), (eV 10)]))])) (sSeq (sRet (eC (.bool false))) sNx) sNx) sNx)))))))) (ρ0 := [.pl (tabD R n), .pl (.int (n : Nat)), .pl (.int (x : Nat)), .pl (.int (y : Nat)), l, a, b, c, d, e, f, g]) (ρ := [.pl (tabD R n), .pl (.int (n : Nat)), .pl (.int (x : Nat)), .pl (.int (y : Nat)), l, a, b, c, d, e, f, g]) (items := iL (upto n)) (fun _ ρ => ∃ l1 a1 b1 c1 d1 e1 f1 g1, (isIo l1 = false ∧ isIo a1 = false ∧ isIo b1 = false ∧ isIo c1 = false ∧ isIo d1 = false ∧ isIo e1 = false ∧ isIo f1 = false ∧ isIo g1 = false) ∧ ρ = [.pl (tabD R n), .pl (.int (n : Nat)), .pl (.int (x : Nat)), .pl (.int (y : Nat)), l1, a1, b1, c1, d1, e1, f1, g1]) (it _ _ _ _ _ _ _ _ _ _) ⟨l, a, b, c, d, e, f, g, h, rfl⟩ fun i d ρ hd hI => by
      obtain ⟨l, a, b, c, d, e, f, g, h', rfl⟩ := hI
      obtain ⟨hi, rfl⟩ := upto_item hd
      obtain ⟨a2, b2, c2, d2, e2, f2, g2, h2, e⟩ := thrice_body hR hc hx hy (z := i) hi h'.2
      exact ⟨_, _, gnm_ok h'.1 rfl, e, _, _, _, _, _, _, _, _, ⟨rfl, h2⟩, rfl⟩
    exact ⟨l1, a1, b1, c1, d1, e1, f1, g1, k2, k1⟩
  have w2 : ∀ {x : Nat} (hx : x < n) (t l a b c d e f g : SV), (isIo t = false ∧ isIo l = false ∧ isIo a = false ∧ isIo b = false ∧ isIo c = false ∧ isIo d = false ∧ isIo e = false ∧ isIo f = false ∧ isIo g = false) → ∃ t1 l1 a1 b1 c1 d1 e1 f1 g1, (isIo t1 = false ∧ isIo l1 = false ∧ isIo a1 = false ∧ isIo b1 = false ∧ isIo c1 = false ∧ isIo d1 = false ∧ isIo e1 = false ∧ isIo f1 = false ∧ isIo g1 = false) ∧ sFor (iRg (aRg1 (eV 1))) (gNm 3) (sSeq (sFor (iRg (aRg1 (eV 1))) (gNm 4) (sSeq (sAsg (aOps F_ix [(.ex (aOps F_ix [(.br 0), (.br 2)])), (.br 3)]) (gTupA [(gNm 5), (gNm 6)])) (sSeq (sAsg (aOps F_ix [(.ex (aOps F_ix [(.br 0), (.br 6)])), (.br 4)]) (gTupA [(gNm 7), (gNm 8)])) (sSeq (sAsg (aOps F_ix [(.ex (aOps F_ix [(.br 0), (.br 5)])), (.br 7)]) (gTupA [(gNm 5), (gNm 7)])) (sSeq (sAsg (aOps F_ix [(.ex (aOps F_ix [(.br 0), (.br 3)])), (.br 4)]) (gTupA [(gNm 9), (gNm 10)])) (sSeq (sAsg (aOps F_ix [(.ex (aOps F_ix [(.br 0), (.br 2)])), (.br 9)]) (gTupA [(gNm 11), (gNm 9)])) (sSeq (sAsg (aOps F_ix [(.ex (aOps F_ix [(.br 0), (.br 9)])), (.br 10)]) (gTupA [(gNm 9), (gNm 10)])) (sSeq (sIf (aT (aOps F_ne [(.ex (aTup [(eV 5), (eV 7), (eV 8)])), (.ex (aTup [(eV 11), (eV 9), (eV 10)]))])) (sSeq (sRet (eC (.bool false))) sNx) sNx) sNx)))))))) sNx) [.pl (tabD R n), .pl (.int (n : Nat)), .pl (.int (x : Nat)), t, l, a, b, c, d, e, f, g] = .ok .nx [.pl (tabD R n), .pl (.int (n : Nat)), .pl (.int (x : Nat)), t1, l1, a1, b1, c1, d1, e1, f1, g1] := fun {x} hx t l a b c d e f g h => by
    obtain ⟨ρ', k1, t1, l1, a1, b1, c1, d1, e1, f1, g1, k2, rfl⟩ := for_inv (it := iRg (aRg1 (eV 1))) (g := gNm 3) (body := (sSeq (sFor (iRg (aRg1 (eV 1))) (gNm 4) (sSeq (sAsg (aOps F_ix [(.ex (aOps F_ix [(.br 0), (.br 2)])), (.br 3)]) (gTupA [(gNm 5), (gNm 6)])) (sSeq (sAsg (aOps F_ix [(.ex (aOps F_ix [(.br 0), (.br 6)])), (.br 4)]) (gTupA [(gNm 7), (gNm 8)])) (sSeq (sAsg (aOps F_ix [(.ex (aOps F_ix [(.br 0), (.br 5)])), (.br 7)]) (gTupA [(gNm 5), (gNm 7)])) (sSeq (sAsg (aOps F_ix [(.ex (aOps F_ix [(.br 0), (.br 3)])), (.br 4)]) (gTupA [(gNm 9), (gNm 10)])) (sSeq (sAsg (aOps F_ix [(.ex (aOps F_ix [(.br 0), (.br 2)])), (.br 9)]) (gTupA [(gNm 11), (gNm 9)])) (sSeq (sAsg (aOps F_ix [(.ex (aOps F_ix [(.br 0), (.br 9)])), (.br 10)]) (gTupA [(gNm 9), (gNm 10)])) (sSeq (sIf (aT (aOps F_ne [(.ex (aTup [(eV 5), (eV 7), (eV 8)])), (.ex (aTup [(eV 11), (eV 9), (eV 10)]))])) (sSeq (sRet (eC (.bool false))) sNx) sNx) sNx)))))))) sNx)) (ρ0 := [.pl (tabD R n), .pl (.int (n : Nat)), .pl (.int (x : Nat)), t, l, a, b, c, d, e, f, g]) (ρ := [.pl (tabD R n), .pl (.int (n : Nat)), .pl (.int (x : Nat)), t, l, a, b, c, d, e, f, g]) (items := iL (upto n)) (fun _ ρ => ∃ t1 l1 a1 b1 c1 d1 e1 f1 g1, (isIo t1 = false ∧ isIo l1 = false ∧ isIo a1 = false ∧ isIo b1 = false ∧ isIo c1 = false ∧ isIo d1 = false ∧ isIo e1 = false ∧ isIo f1 = false ∧ isIo g1 = false) ∧ ρ = [.pl (tabD R n), .pl (.int (n : Nat)), .pl (.int (x : Nat)), t1, l1, a1, b1, c1, d1, e1, f1, g1]) (it _ _ _ _ _ _ _ _ _ _) ⟨t, l, a, b, c, d, e, f, g, h, rfl⟩ fun i d ρ hd hI => by
      obtain ⟨t, l, a, b, c, d, e, f, g, h', rfl⟩ := hI
      obtain ⟨hi, rfl⟩ := upto_item hd
      obtain ⟨l2, a2, b2, c2, d2, e2, f2, g2, h2, e⟩ := w3 hx (y := i) hi l a b c d e f g h'.2
      exact ⟨_, _, gnm_ok h'.1 rfl, seq_nx e rfl, _, _, _, _, _, _, _, _, _, ⟨rfl, h2⟩, rfl⟩
    exact ⟨t1, l1, a1, b1, c1, d1, e1, f1, g1, k2, k1⟩
  have w1 : ∀  (o t l a b c d e f g : SV), (isIo o = false ∧ isIo t = false ∧ isIo l = false ∧ isIo a = false ∧ isIo b = false ∧ isIo c = false ∧ isIo d = false ∧ isIo e = false ∧ isIo f = false ∧ isIo g = false) → ∃ o1 t1 l1 a1 b1 c1 d1 e1 f1 g1, (isIo o1 = false ∧ isIo t1 = false ∧ isIo l1 = false ∧ isIo a1 = false ∧ isIo b1 = false ∧ isIo c1 = false ∧ isIo d1 = false ∧ isIo e1 = false ∧ isIo f1 = false ∧ isIo g1 = false) ∧ sFor (iRg (aRg1 (eV 1))) (gNm 2) (sSeq (sFor (iRg (aRg1 (eV 1))) (gNm 3) (sSeq (sFor (iRg (aRg1 (eV 1))) (gNm 4) (sSeq (sAsg (aOps F_ix [(.ex (aOps F_ix [(.br 0), (.br 2)])), (.br 3)]) (gTupA [(gNm 5), (gNm 6)])) (sSeq (sAsg (aOps F_ix [(.ex (aOps F_ix [(.br 0), (.br 6)])), (.br 4)]) (gTupA [(gNm 7), (gNm 8)])) (sSeq (sAsg (aOps F_ix [(.ex (aOps F_ix [(.br 0), (.br 5)])), (.br 7)]) (gTupA [(gNm 5), (gNm 7)])) (sSeq (sAsg (aOps F_ix [(.ex (aOps F_ix [(.br 0), (.br 3)])), (.br 4)]) (gTupA [(gNm 9), (gNm 10)])) (sSeq (sAsg (aOps F_ix [(.ex (aOps F_ix [(.br 0), (.br 2)])), (.br 9)]) (gTupA [(gNm 11), (gNm 9)])) (sSeq (sAsg (aOps F_ix [(.ex (aOps F_ix [(.br 0), (.br 9)])), (.br 10)]) (gTupA [(gNm 9), (gNm 10)])) (sSeq (sIf (aT (aOps F_ne [(.ex (aTup [(eV 5), (eV 7), (eV 8)])), (.ex (aTup [(eV 11), (eV 9), (eV 10)]))])) (sSeq (sRet (eC (.bool false))) sNx) sNx) sNx)))))))) sNx)) sNx) [.pl (tabD R n), .pl (.int (n : Nat)), o, t, l, a, b, c, d, e, f, g] = .ok .nx [.pl (tabD R n), .pl (.int (n : Nat)), o1, t1, l1, a1, b1, c1, d1, e1, f1, g1] := fun  o t l a b c d e f g h => by
    obtain ⟨ρ', k1, o1, t1, l1, a1, b1, c1, d1, e1, f1, g1, k2, rfl⟩ := for_inv (it := iRg (aRg1 (eV 1))) (g := gNm 2) (body := (sSeq (sFor (iRg (aRg1 (eV 1))) (gNm 3) (sSeq (sFor (iRg (aRg1 (eV 1))) (gNm 4) (sSeq (sAsg (aOps F_ix [(.ex (aOps F_ix [(.br 0), (.br 2)])), (.br 3)]) (gTupA [(gNm 5), (gNm 6)])) (sSeq (sAsg (aOps F_ix [(.ex (aOps F_ix [(.br 0), (.br 6)])), (.br 4)]) (gTupA [(gNm 7), (gNm 8)])) (sSeq (sAsg (aOps F_ix [(.ex (aOps F_ix [(.br 0), (.br 5)])), (.br 7)]) (gTupA [(gNm 5), (gNm 7)])) (sSeq (sAsg (aOps F_ix [(.ex (aOps F_ix [(.br 0), (.br 3)])), (.br 4)]) (gTupA [(gNm 9), (gNm 10)])) (sSeq (sAsg (aOps F_ix [(.ex (aOps F_ix [(.br 0), (.br 2)])), (.br 9)]) (gTupA [(gNm 11), (gNm 9)])) (sSeq (sAsg (aOps F_ix [(.ex (aOps F_ix [(.br 0), (.br 9)])), (.br 10)]) (gTupA [(gNm 9), (gNm 10)])) (sSeq (sIf (aT (aOps F_ne [(.ex (aTup [(eV 5), (eV 7), (eV 8)])), (.ex (aTup [(eV 11), (eV 9), (eV 10)]))])) (sSeq (sRet (eC (.bool false))) sNx) sNx) sNx)))))))) sNx)) sNx)) (ρ0 := [.pl (tabD R n), .pl (.int (n : Nat)), o, t, l, a, b, c, d, e, f, g]) (ρ := [.pl (tabD R n), .pl (.int (n : Nat)), o, t, l, a, b, c, d, e, f, g]) (items := iL (upto n)) (fun _ ρ => ∃ o1 t1 l1 a1 b1 c1 d1 e1 f1 g1, (isIo o1 = false ∧ isIo t1 = false ∧ isIo l1 = false ∧ isIo a1 = false ∧ isIo b1 = false ∧ isIo c1 = false ∧ isIo d1 = false ∧ isIo e1 = false ∧ isIo f1 = false ∧ isIo g1 = false) ∧ ρ = [.pl (tabD R n), .pl (.int (n : Nat)), o1, t1, l1, a1, b1, c1, d1, e1, f1, g1]) (it _ _ _ _ _ _ _ _ _ _) ⟨o, t, l, a, b, c, d, e, f, g, h, rfl⟩ fun i d ρ hd hI => by
      obtain ⟨o, t, l, a, b, c, d, e, f, g, h', rfl⟩ := hI
      obtain ⟨hi, rfl⟩ := upto_item hd
      obtain ⟨t2, l2, a2, b2, c2, d2, e2, f2, g2, h2, e⟩ := w2 (x := i) hi t l a b c d e f g h'.2
      exact ⟨_, _, gnm_ok h'.1 rfl, seq_nx e rfl, _, _, _, _, _, _, _, _, _, _, ⟨rfl, h2⟩, rfl⟩
    exact ⟨o1, t1, l1, a1, b1, c1, d1, e1, f1, g1, k2, k1⟩
  obtain ⟨o1, t1, l1, a1, b1, c1, d1, e1, f1, g1, _, e⟩ := w1 .un .un .un .un .un .un .un .un .un .un ⟨rfl, rfl, rfl, rfl, rfl, rfl, rfl, rfl, rfl, rfl⟩
  exact mk_ok (body := b__law_thrice) rfl (seq_nx e (seq_rt (ret_ok rfl))) rfl
end SW
set_option Elab.async false
set_option linter.all false
set_option maxRecDepth 100000
set_option maxHeartbeats 2000000
namespace SW
open PySem L2
theorem due_ok {n : Nat} {R : List (List Int)} (hn : n ≤ 16) (hR : Sq n R) (c t : SV) : aOps F_tuple [(.ex (aFr (fComp [5] (iRg (aRg1 (eV 2))) (gNm 5) tYes (aOps F_tuple [(.ex (aFr (fComp [8] (iRg (aRg1 (eV 2))) (gNm 8) tYes (aCall m__law_pair [(.br 1), (.br 5), (.br 8)]))))]))))] [c, .pl (Mx R), .pl (.int (n : Nat)), t, .un, .un, .un, .un, .un, .un, .un, .un, .un, .un] = .ok (tabD R n) [c, .pl (Mx R), .pl (.int (n : Nat)), t, .un, .un, .un, .un, .un, .un, .un, .un, .un, .un] := by
  have it : ∀ ρ, eV 2 ρ = .ok (.int (n : Nat)) ρ → iRg (aRg1 (eV 2)) ρ = .ok (iL (upto n)) ρ := fun ρ h => by
    rw [← rgs_upto]; exact irg_ok (rg1_ok h) (rgIn_n (by omega))
  have inner : ∀ x, x < n → fComp [8] (iRg (aRg1 (eV 2))) (gNm 8) tYes (aCall m__law_pair [(.br 1), (.br 5), (.br 8)]) [c, .pl (Mx R), .pl (.int (n : Nat)), t, .un, .pl (.int (x : Nat)), .un, .un, .un, .un, .un, .un, .un, .un] = .ok ((List.range n).map fun y => sp R x y) [c, .pl (Mx R), .pl (.int (n : Nat)), t, .un, .pl (.int (x : Nat)), .un, .un, .un, .un, .un, .un, .un, .un] := fun x hx =>
    comp_upto (fun y => sp R x y) (by omega) (it _ rfl) (fun _ => rfl) (fun _ => rfl) fun y hy => call_p (ρ1 := [c, .pl (Mx R), .pl (.int (n : Nat)), t, .un, .pl (.int (x : Nat)), .un, .un, .pl (.int (y : Nat)), .un, .un, .un, .un, .un]) rfl rfl (lpair_ok hn hR hx hy) rfl rfl
  have outer : fComp [5] (iRg (aRg1 (eV 2))) (gNm 5) tYes (aOps F_tuple [(.ex (aFr (fComp [8] (iRg (aRg1 (eV 2))) (gNm 8) tYes (aCall m__law_pair [(.br 1), (.br 5), (.br 8)]))))]) [c, .pl (Mx R), .pl (.int (n : Nat)), t, .un, .un, .un, .un, .un, .un, .un, .un, .un, .un] = .ok ((List.range n).map fun x => .tuple ((List.range n).map fun y => sp R x y)) [c, .pl (Mx R), .pl (.int (n : Nat)), t, .un, .un, .un, .un, .un, .un, .un, .un, .un, .un] :=
    comp_upto (fun x => .tuple ((List.range n).map fun y => sp R x y)) (by omega) (it _ rfl) (fun _ => rfl) (fun _ => rfl) fun x hx => ops1 (ex_ok (fr_ok (inner x hx))) rfl (f_tuple _)
  exact ops1 (ex_ok (fr_ok outer)) rfl (f_tuple _)
end SW
set_option Elab.async false
set_option linter.all false
set_option maxRecDepth 100000
set_option maxHeartbeats 2000000
namespace SW
open PySem L2
theorem lay_all {p : D → Bool} (h : ∀ x, p x = true → PyData.canLay0 x = true) : ∀ xs : List D, xs.all p = true → PyData.canLayAll0 xs = true
  | [], _ => by simp [PyData.canLayAll0]
  | x :: xs, hx => by
    rw [List.all_cons, Bool.and_eq_true] at hx
    simp only [PyData.canLayAll0, h x hx.1, lay_all h xs hx.2, Bool.and_self]
theorem depth_all {p : D → Bool} {n : Nat} (h : ∀ x, p x = true → PyData.depth x ≤ n) : ∀ xs : List D, xs.all p = true → PyData.depthAll xs ≤ n + 1
  | [], _ => by simp [PyData.depthAll]
  | x :: xs, hx => by
    rw [List.all_cons, Bool.and_eq_true] at hx
    have h1 := h x hx.1
    have h2 := depth_all h xs hx.2
    simp only [PyData.depthAll]
    omega
theorem eqv_all {p : D → Bool} (h : ∀ x, p x = true → PyData.eqv x x = true) : ∀ xs : List D, xs.all p = true → PyData.eqvAll xs xs = true
  | [], _ => by simp [PyData.eqvAll]
  | x :: xs, hx => by
    rw [List.all_cons, Bool.and_eq_true] at hx
    simp only [PyData.eqvAll, h x hx.1, eqv_all h xs hx.2, Bool.and_self]
theorem likeN_facts : ∀ (n : Nat) (d : D), likeN n d = true → PyData.canLay0 d = true ∧ PyData.depth d ≤ 2 * n + 2 ∧ PyData.eqv d d = true
  | n, .none, _ => by simp [PyData.canLay0, PyData.depth, PyData.eqv]
  | n, .bool _, _ => by simp [PyData.canLay0, PyData.depth, PyData.eqv]
  | n, .int _, _ => by simp [PyData.canLay0, PyData.depth, PyData.eqv]
  | n, .str s, h => by
    have h' : PyData.strOk s = true := by cases n <;> exact h
    simp [PyData.canLay0, PyData.depth, PyData.eqv, h']
  | 0, .tuple _, h => by cases h
  | 0, .list _, h => by cases h
  | n, .dict _, h => by cases n <;> cases h
  | n + 1, .tuple xs, h => by
    have h' : (decide (xs.length ≤ 16777216) && xs.all (likeN n)) = true := h
    rw [Bool.and_eq_true] at h'
    have d := depth_all (fun x hx => (likeN_facts n x hx).2.1) xs h'.2
    refine ⟨by simp only [PyData.canLay0]; exact lay_all (fun x hx => (likeN_facts n x hx).1) xs h'.2, by simp only [PyData.depth]; omega, by simp only [PyData.eqv]; exact eqv_all (fun x hx => (likeN_facts n x hx).2.2) xs h'.2⟩
  | n + 1, .list xs, h => by
    have h' : (decide (xs.length ≤ 16777216) && xs.all (likeN n)) = true := h
    rw [Bool.and_eq_true] at h'
    have d := depth_all (fun x hx => (likeN_facts n x hx).2.1) xs h'.2
    refine ⟨by simp only [PyData.canLay0]; exact lay_all (fun x hx => (likeN_facts n x hx).1) xs h'.2, by simp only [PyData.depth]; omega, by simp only [PyData.eqv]; exact eqv_all (fun x hx => (likeN_facts n x hx).2.2) xs h'.2⟩
theorem eq_self {n : Nat} {d : D} (hn : n ≤ 30) (h : likeN n d = true) : F_eq [d, d] = some (.bool true) ∧ F_ne [d, d] = some (.bool false) := by
  obtain ⟨h1, h2, h3⟩ := likeN_facts n d h
  have hs : SeqAt.shaped d = true := by
    show (d.canLay0 && decide (d.depth ≤ 64)) = true
    rw [h1, decide_eq_true (by omega)]
    rfl
  constructor
  · show (if (SeqAt.shaped d && SeqAt.shaped d) = true then some (PyData.bool (PyData.eqv d d)) else none) = _
    rw [hs, h3]
    rfl
  · show (if (SeqAt.shaped d && SeqAt.shaped d) = true then some (PyData.bool (!PyData.eqv d d)) else none) = _
    rw [hs, h3]
    rfl
end SW
set_option Elab.async false
set_option linter.all false
set_option maxRecDepth 100000
set_option maxHeartbeats 2000000
namespace SW
open PySem L2
theorem twice_body {n : Nat} {R : List (List Int)} (hn : n ≤ 16) (hR : Sq n R) {x : Nat} (hx : x < n) (c t a : SV) (ha : isIo a = false) : (sSeq (sAsg (aFr (fComp [12, 13] (iSeq (aOps F_ix [(.br 3), (.br 5)])) (gTupA [(gNm 12), (gNm 13)]) tYes (aOps F_ix [(.ex (aOps F_ix [(.br 3), (.br 12)])), (.br 13)]))) (gNm 6)) (sSeq (sIf (aT (aOps F_ne [(.br 6), (.ex (aFr (fComp [8] (iRg (aRg1 (eV 2))) (gNm 8) tYes (aTup [(eV 5), (eV 8)]))))])) (sSeq (sRet (eC (.bool false))) sNx) sNx) sNx)) [c, .pl (Mx R), .pl (.int (n : Nat)), .pl (tabD R n), t, .pl (.int (x : Nat)), a, .un, .un, .un, .un, .un, .un, .un] = .ok .nx [c, .pl (Mx R), .pl (.int (n : Nat)), .pl (tabD R n), t, .pl (.int (x : Nat)), .pl (.list ((List.range n).map fun y => .tuple [.int (x : Nat), .int (y : Nat)])), .un, .un, .un, .un, .un, .un, .un] := by
  have u := tab_ix (n := n) (R := R) hx
  have it2 : ∀ ρ, eV 2 ρ = .ok (.int (n : Nat)) ρ → iRg (aRg1 (eV 2)) ρ = .ok (iL (upto n)) ρ := fun ρ h => by
    rw [← rgs_upto]; exact irg_ok (rg1_ok h) (rgIn_n (by omega))
  have c1 : fComp [12, 13] (iSeq (aOps F_ix [(.br 3), (.br 5)])) (gTupA [(gNm 12), (gNm 13)]) tYes (aOps F_ix [(.ex (aOps F_ix [(.br 3), (.br 12)])), (.br 13)]) [c, .pl (Mx R), .pl (.int (n : Nat)), .pl (tabD R n), t, .pl (.int (x : Nat)), a, .un, .un, .un, .un, .un, .un, .un] = .ok ((List.range n).map fun y => .tuple [.int (x : Nat), .int (y : Nat)]) [c, .pl (Mx R), .pl (.int (n : Nat)), .pl (tabD R n), t, .pl (.int (x : Nat)), a, .un, .un, .un, .un, .un, .un, .un] := by
    have h := fComp_st (vs := [12, 13]) (g := gTupA [(gNm 12), (gNm 13)]) (te := aOps F_ix [(.ex (aOps F_ix [(.br 3), (.br 12)])), (.br 13)]) (it := iSeq (aOps F_ix [(.br 3), (.br 5)])) (ρ0 := [c, .pl (Mx R), .pl (.int (n : Nat)), .pl (tabD R n), t, .pl (.int (x : Nat)), a, .un, .un, .un, .un, .un, .un, .un]) (ρ := [c, .pl (Mx R), .pl (.int (n : Nat)), .pl (tabD R n), t, .pl (.int (x : Nat)), a, .un, .un, .un, .un, .un, .un, .un]) (items := (List.range n).map fun y => sp R x y) (fun ρ => ρ = [c, .pl (Mx R), .pl (.int (n : Nat)), .pl (tabD R n), t, .pl (.int (x : Nat)), a, .un, .un, .un, .un, .un, .un, .un]) (fun d e => ∀ y, y < n → d = sp R x y → e = .tuple [.int (x : Nat), .int (y : Nat)]) (by unfold iSeq; rw [ops2 rfl rfl rfl rfl u]; rfl) rfl (fun d hd ρ hI => by
      subst hI
      obtain ⟨y, hy, rfl⟩ := List.mem_map.mp hd
      have hy := List.mem_range.mp hy
      obtain ⟨e, k1, k2⟩ := sp_eq hR hx hy
      obtain ⟨w1, w2⟩ := r_twice hR hx hy
      have u2 := tab_ix (n := n) (R := R) k1
      have t2 := tab_ix2 hR k1 k2
      rw [w1, w2] at t2
      refine ⟨[c, .pl (Mx R), .pl (.int (n : Nat)), .pl (tabD R n), t, .pl (.int (x : Nat)), a, .un, .un, .un, .un, .un, .pl (.int (sw1 R x y : Nat)), .pl (.int (sw2 R x y : Nat))], .tuple [.int (x : Nat), .int (y : Nat)], [c, .pl (Mx R), .pl (.int (n : Nat)), .pl (tabD R n), t, .pl (.int (x : Nat)), a, .un, .un, .un, .un, .un, .pl (.int (sw1 R x y : Nat)), .pl (.int (sw2 R x y : Nat))], ?_, ops2 (ex_ok (ops2 rfl rfl rfl rfl u2)) rfl rfl rfl t2, fun y' hy' e' => ?_, rfl⟩
      · rw [e]; exact gtup2 rfl rfl rfl
      · rw [e, (sp_eq hR hx hy').1] at e'
        have w' := r_twice hR hx hy'
        injection e' with e1
        injection e1 with e2 e3
        injection e3 with e4 _
        injection e2 with e5
        injection e4 with e6
        have z1 : sw1 R x y = sw1 R x y' := by omega
        have z2 : sw2 R x y = sw2 R x y' := by omega
        rw [z1, z2] at w2
        rw [← w2, w'.2]) (le_sz (by simp; omega))
    obtain ⟨es, ρ', h1, rfl, h3⟩ := h
    rw [h1]
    congr 1
    have all : ∀ (l : List Nat) (es : List D), (∀ y ∈ l, y < n) → All2 (fun d e => ∀ y, y < n → d = sp R x y → e = .tuple [.int (x : Nat), .int (y : Nat)]) (l.map fun y => sp R x y) es → es = l.map fun y => .tuple [.int (x : Nat), .int (y : Nat)] := fun l => by
      induction l with
      | nil => intro es _ h; cases h; rfl
      | cons y l ih =>
        intro es hl h
        cases h with
        | cons p q => rw [List.map_cons, p y (hl y List.mem_cons_self) rfl, ih _ (fun z hz => hl z (List.mem_cons_of_mem _ hz)) q]
    exact all _ es (fun y hy => List.mem_range.mp hy) h3
  have c2 : fComp [8] (iRg (aRg1 (eV 2))) (gNm 8) tYes (aTup [(eV 5), (eV 8)]) [c, .pl (Mx R), .pl (.int (n : Nat)), .pl (tabD R n), t, .pl (.int (x : Nat)), .pl (.list ((List.range n).map fun y => .tuple [.int (x : Nat), .int (y : Nat)])), .un, .un, .un, .un, .un, .un, .un] = .ok ((List.range n).map fun y => .tuple [.int (x : Nat), .int (y : Nat)]) [c, .pl (Mx R), .pl (.int (n : Nat)), .pl (tabD R n), t, .pl (.int (x : Nat)), .pl (.list ((List.range n).map fun y => .tuple [.int (x : Nat), .int (y : Nat)])), .un, .un, .un, .un, .un, .un, .un] :=
    comp_upto (fun y => .tuple [.int (x : Nat), .int (y : Nat)]) (by omega) (it2 _ rfl) (fun _ => rfl) (fun _ => rfl) fun y hy => atup_ok (ds_cons rfl (ds_cons rfl ds_nil)) (by show 2 ≤ _; decide)
  have ne := (eq_self (n := 2) (d := (.list ((List.range n).map fun y => .tuple [.int (x : Nat), .int (y : Nat)]))) (by decide) (likeN_list (by simp; omega) fun z hz => by
    obtain ⟨y, _, rfl⟩ := List.mem_map.mp hz
    rfl)).2
  exact seq_nx (ρ1 := [c, .pl (Mx R), .pl (.int (n : Nat)), .pl (tabD R n), t, .pl (.int (x : Nat)), .pl (.list ((List.range n).map fun y => .tuple [.int (x : Nat), .int (y : Nat)])), .un, .un, .un, .un, .un, .un, .un]) (set_ok (fr_ok c1) ha rfl) (seq_nx (iff' (aT_ok (ops2 rfl (ex_ok (fr_ok c2)) rfl rfl ne)) rfl) rfl)
end SW
set_option Elab.async false
set_option linter.all false
set_option maxRecDepth 100000
set_option maxHeartbeats 2000000
namespace SW
open PySem L2
def swp (i j k : Nat) : Nat := if k = j then i else if k = i then j else k
theorem swp_swp (i j k : Nat) : swp i j (swp i j k) = k := by
  unfold swp
  repeat' split
  all_goals omega
theorem swp_lt {n i j k : Nat} (hi : i < n) (hj : j < n) (hk : k < n) : swp i j k < n := by
  unfold swp
  repeat' split
  all_goals omega
def exch (r : List Int) (i j : Nat) : List Int := (r.set i (r.getD j 0)).set j (r.getD i 0)
theorem exch_len (r : List Int) (i j : Nat) : (exch r i j).length = r.length := by unfold exch; rw [List.length_set, List.length_set]
theorem exch_at {r : List Int} {i j k : Nat} (hi : i < r.length) (hj : j < r.length) (hk : k < r.length) : (exch r i j).getD k 0 = r.getD (swp i j k) 0 := by
  unfold exch swp
  by_cases h1 : k = j
  · subst h1
    rw [if_pos rfl, List.getD_eq_getElem?_getD, List.getElem?_set_self (by rw [List.length_set]; exact hk)]
    rfl
  · rw [if_neg h1, List.getD_eq_getElem?_getD, List.getElem?_set_ne (Ne.symm h1)]
    by_cases h2 : k = i
    · subst h2
      rw [if_pos rfl, List.getElem?_set_self hk]
      rfl
    · rw [if_neg h2, List.getElem?_set_ne (Ne.symm h2), ← List.getD_eq_getElem?_getD]
theorem exch_tn {n : Nat} {r : List Int} (h : Tn n r) {i j : Nat} (hi : i < n) (hj : j < n) : Tn n (exch r i j) := by
  have l := h.len
  refine tn_of (by rw [exch_len, l]) (fun k hk => ?_) (fun v hv => ?_) (fun k m hk hm e => ?_)
  · rw [exch_at (by omega) (by omega) (by omega)]
    exact h.at (swp_lt hi hj hk)
  · obtain ⟨k, hk, e⟩ := h.surj hv
    refine ⟨swp i j k, swp_lt hi hj hk, ?_⟩
    rw [exch_at (by omega) (by omega) (by have := swp_lt hi hj hk; omega), swp_swp, e]
  · rw [exch_at (by omega) (by omega) (by omega), exch_at (by omega) (by omega) (by omega)] at e
    have := h.inj (swp_lt hi hj hk) (swp_lt hi hj hm) e
    rw [← swp_swp i j k, this, swp_swp]
end SW
set_option Elab.async false
set_option linter.all false
set_option maxRecDepth 100000
set_option maxHeartbeats 2000000
namespace SW
open PySem L2
theorem set_split {α : Type} {R : List α} {k : Nat} (h : k < R.length) (r : α) : R.take k ++ [r] ++ R.drop (k + 1) = R.set k r := by
  rw [List.set_eq_take_append_cons_drop, if_pos h, List.append_assoc]
  rfl
theorem set_sq {n : Nat} {R : List (List Int)} (hR : Sq n R) {k : Nat} (hk : k < n) {r : List Int} (hr : Tn n r) : Sq n (R.set k r) := by
  have l := hR.len
  refine ⟨by rw [List.length_set, l], fun i hi => ?_⟩
  by_cases e : i = k
  · subst e
    rw [List.getD_eq_getElem?_getD, List.getElem?_set_self (by omega)]
    exact hr
  · rw [List.getD_eq_getElem?_getD, List.getElem?_set_ne (Ne.symm e), ← List.getD_eq_getElem?_getD]
    exact hR.tn i hi
end SW
set_option Elab.async false
set_option linter.all false
set_option maxRecDepth 100000
set_option maxHeartbeats 2000000
namespace SW
open PySem L2
theorem gtup3 {i j k : Nat} {d1 d2 d3 : D} {ρ ρ1 ρ2 ρ' : En} (h1 : gNm i d1 ρ = .ok () ρ1) (h2 : gNm j d2 ρ1 = .ok () ρ2) (h3 : gNm k d3 ρ2 = .ok () ρ') : gTupA [gNm i, gNm j, gNm k] (.tuple [d1, d2, d3]) ρ = .ok () ρ' := by
  show (gNm i d1 ρ).bind _ = _
  rw [h1]
  show (gNm j d2 ρ1).bind _ = _
  rw [h2]
  show (gNm k d3 ρ2).bind _ = _
  rw [h3]
  rfl
theorem gix2 {i : Nat} {f1 f2 : AE} {d1 d2 k1 k2 : D} {ρ ρ1 ρ2 : En} {q1 q2 : SV} (w1 : isOwn (getSlot ρ i) = true) (e1 : f1 ρ = .ok k1 ρ) (s1 : setAt k1 (getSlot ρ i) d1 = some q1) (h1 : setSlot ρ i q1 = ρ1) (w2 : isOwn (getSlot ρ1 i) = true) (e2 : f2 ρ1 = .ok k2 ρ1) (s2 : setAt k2 (getSlot ρ1 i) d2 = some q2) (h2 : setSlot ρ1 i q2 = ρ2) : gTupA [gIx i f1, gIx i f2] (.tuple [d1, d2]) ρ = .ok () ρ2 := by
  have a1 : gIx i f1 d1 ρ = .ok () ρ1 := by
    unfold gIx
    rw [if_pos w1, e1]
    show (match setAt k1 (getSlot ρ i) d1 with | some r => R.ok () (setSlot ρ i r) | none => (R.bad : R Unit)) = _
    rw [s1, ← h1]
  have a2 : gIx i f2 d2 ρ1 = .ok () ρ2 := by
    unfold gIx
    rw [if_pos w2, e2]
    show (match setAt k2 (getSlot ρ1 i) d2 with | some r => R.ok () (setSlot ρ1 i r) | none => (R.bad : R Unit)) = _
    rw [s2, ← h2]
  show (gIx i f1 d1 ρ).bind _ = _
  rw [a1]
  show (gIx i f2 d2 ρ1).bind _ = _
  rw [a2]
  rfl
theorem sets_ok {s : SV} (hs : CupS s) : ∃ s', m__law_sets_right [s] = .ok (.rt (.bool true)) [s'] ∧ CupS s' := by
  obtain ⟨a0, b0, rfl, ha0, hb0⟩ := hs
  obtain ⟨R, n, c1, er, ⟨a1, b1, rfl, ha1, hb1⟩, n1, n2, hR, hc⟩ := lrows_ok ⟨a0, b0, rfl, ha0, hb0⟩
  have l := hR.len
  have ln : F_len [Mx R] = some (.int (n : Nat)) := by
    show some (PyData.int ((rL R).length : Nat)) = _
    rw [rL_len, l]
  have es := swaps_ok n1 (by omega) hR hc
  have ed := due_ok (n := n) (R := R) (by omega) hR (.own true [.int a1, .int b1]) (.pl (tabD R n))
  have ec := cyc_ok n1 (by omega) hR
  rw [unl_cyc.mpr hc] at ec
  have lt : likeN 10 (tabD R n) = true := likeN_tuple (by simp; omega) fun x hx => by
    obtain ⟨i, _, rfl⟩ := List.mem_map.mp hx
    exact likeN_tuple (by simp; omega) fun y hy => by
      obtain ⟨j, _, rfl⟩ := List.mem_map.mp hy
      rfl
  have k1 : m__law_like [.pl (.list [.bool true, tabD R n]), .pl (.list [.bool true, tabD R n])] = .ok (.rt (.bool true)) [.un, .un] := like_ok (likeN_list (by show 2 ≤ _; decide) (all_cons rfl (all_cons lt all_nil)))
  have it2 : ∀ ρ, eV 2 ρ = .ok (.int (n : Nat)) ρ → iRg (aRg1 (eV 2)) ρ = .ok (iL (upto n)) ρ := fun ρ h => by
    rw [← rgs_upto]; exact irg_ok (rg1_ok h) (rgIn_n (by omega))
  obtain ⟨ρ', k2, x5, x6, h5, h6, rfl⟩ := for_inv (it := iRg (aRg1 (eV 2))) (g := gNm 5) (body := (sSeq (sAsg (aFr (fComp [12, 13] (iSeq (aOps F_ix [(.br 3), (.br 5)])) (gTupA [(gNm 12), (gNm 13)]) tYes (aOps F_ix [(.ex (aOps F_ix [(.br 3), (.br 12)])), (.br 13)]))) (gNm 6)) (sSeq (sIf (aT (aOps F_ne [(.br 6), (.ex (aFr (fComp [8] (iRg (aRg1 (eV 2))) (gNm 8) tYes (aTup [(eV 5), (eV 8)]))))])) (sSeq (sRet (eC (.bool false))) sNx) sNx) sNx))) (ρ0 := [.own true [.int a1, .int b1], .pl (Mx R), .pl (.int (n : Nat)), .pl (tabD R n), .pl (tabD R n), .un, .un, .un, .un, .un, .un, .un, .un, .un]) (ρ := [.own true [.int a1, .int b1], .pl (Mx R), .pl (.int (n : Nat)), .pl (tabD R n), .pl (tabD R n), .un, .un, .un, .un, .un, .un, .un, .un, .un]) (items := iL (upto n)) (fun _ ρ => ∃ x5 x6, isIo x5 = false ∧ isIo x6 = false ∧ ρ = [.own true [.int a1, .int b1], .pl (Mx R), .pl (.int (n : Nat)), .pl (tabD R n), .pl (tabD R n), x5, x6, .un, .un, .un, .un, .un, .un, .un]) (it2 _ rfl) ⟨_, _, rfl, rfl, rfl⟩ fun i d ρ hd hI => by
    obtain ⟨x5, x6, h5, h6, rfl⟩ := hI
    obtain ⟨hi, rfl⟩ := upto_item hd
    exact ⟨_, _, gnm_ok h5 rfl, twice_body (by omega) hR hi _ _ _ h6, _, _, rfl, rfl, rfl⟩
  have et := thrice_ok (by omega) hR hc
  obtain ⟨rw, c2, e2, hrw, a2, b2, rfl, ha2, hb2⟩ := roll_nat ⟨a1, b1, rfl, ha1, hb1⟩ (n := n) (by omega) (by omega)
  obtain ⟨on, c3, e3, hon, a3, b3, rfl, ha3, hb3⟩ := roll_nat ⟨a2, b2, rfl, ha2, hb2⟩ (n := n) (by omega) (by omega)
  obtain ⟨ot, c4, e4, hot, a4, b4, rfl, ha4, hb4⟩ := roll_nat ⟨a3, b3, rfl, ha3, hb3⟩ (n := n) (by omega) (by omega)
  obtain ⟨r, hr⟩ : ∃ r, r = R.getD rw [] := ⟨_, rfl⟩
  have tr : Tn n r := by rw [hr]; exact hR.tn rw hrw
  have lr := tr.len
  have ixr : F_ix [Mx R, .int (rw : Nat)] = some (T r) := by rw [hr]; exact f_ixR (by omega)
  have sq1 := set_sq hR hrw (exch_tn tr hon hot)
  have cb := cyc_ok n1 (by omega) sq1
  have ab := agree_ok (by omega) sq1
  have kb : ∀ b : Bool, m__law_like [.pl (.bool b), .pl (.bool b)] = .ok (.rt (.bool true)) [.un, .un] := fun b => like_ok rfl
  have eqv := eq_int (on : Nat) (ot : Nat)
  have lw : (r.set on (r.getD ot 0)).length = n := by rw [List.length_set, lr]
  have cw : m_is_cycle_set [.pl (Mx (R.set rw (r.set on (r.getD ot 0))))] = .ok (.rt (.bool (decide ((on : Int) = (ot : Int))))) [.un] := by
    have bi := bent_iff tr hon (r.getD ot 0)
    rw [set_split (by omega)] at bi
    by_cases e : on = ot
    · subst e
      have e1 : r.set on (r.getD on 0) = r := by
        rw [List.getD_eq_getElem?_getD, List.getElem?_eq_getElem (by omega)]
        exact List.set_getElem_self (by omega)
      have e2 : R.set rw r = R := by
        rw [hr, List.getD_eq_getElem?_getD, List.getElem?_eq_getElem (by omega)]
        exact List.set_getElem_self (by omega)
      rw [e1, e2, decide_eq_true rfl]
      exact ec
    · rw [decide_eq_false (by omega)]
      refine cyc_no n1 (by omega) (by rw [List.length_set, l]) (fun z hz => ?_) (r := r.set on (r.getD ot 0)) ?_ fun z => e ?_
      · rcases List.mem_or_eq_of_mem_set hz with h | h
        · exact (hR.rows z h).len
        · rw [h]; exact lw
      · exact List.mem_of_getElem? (by rw [List.getElem?_set_self (by omega)])
      · exact (tr.inj hot hon (bi.mp z)).symm
  have sl1 : F_sl (Mx R) none (some (rw : Nat)) = some (Mx (R.take rw)) := by
    rw [f_slT_to (Int.natCast_nonneg _) (by rw [rL_len]; omega), Int.toNat_natCast, rL_take]
  have sl2 : F_sl (Mx R) (some ((rw : Nat) + 1)) none = some (Mx (R.drop (rw + 1))) := by
    rw [f_slT_from (by omega), show ((rw : Nat) + 1 : Int).toNat = rw + 1 by omega, rL_drop]
  have sl3 : F_sl (T r) none (some (on : Nat)) = some (T (r.take on)) := by
    rw [f_slT_to (Int.natCast_nonneg _) (by rw [iL_len]; omega), Int.toNat_natCast, iL_take]
  have sl4 : F_sl (T r) (some ((on : Nat) + 1)) none = some (T (r.drop (on + 1))) := by
    rw [f_slT_from (by omega), show ((on : Nat) + 1 : Int).toNat = on + 1 by omega, iL_drop]
  have ad : ∀ q : List Int, F_add [Mx (R.take rw), .tuple [T q]] = some (Mx (R.take rw ++ [q])) := fun q => by
    rw [f_addT (le_sz (by rw [rL_len, List.length_take]; show _ + 1 ≤ _; omega))]
    exact congrArg (fun z => some (PyData.tuple z)) (rL_app (R.take rw) [q])
  have ad2 : ∀ q : List Int, F_add [Mx (R.take rw ++ [q]), Mx (R.drop (rw + 1))] = some (Mx (R.set rw q)) := fun q => by
    rw [f_addT (le_sz (by rw [rL_len, rL_len, List.length_append, List.length_take, List.length_drop]; show _ + 1 + _ ≤ _; omega)), rL_app, set_split (by omega)]
  have ad3 : F_add [T (r.take on), .tuple [.int (r.getD ot 0)]] = some (T (r.take on ++ [r.getD ot 0])) := by
    rw [f_addT (le_sz (by rw [iL_len, List.length_take]; show _ + 1 ≤ _; omega)), iL_one, iL_app]
  have ad4 : F_add [T (r.take on ++ [r.getD ot 0]), T (r.drop (on + 1))] = some (T (r.set on (r.getD ot 0))) := by
    rw [f_addT (le_sz (by rw [iL_len, iL_len, List.length_append, List.length_take, List.length_drop]; show _ + 1 + _ ≤ _; omega)), iL_app, set_split (by omega)]
  have ixi : F_ix [T r, .int (ot : Nat)] = some (.int (r.getD ot 0)) := f_ixi (by omega)
  have li : ∀ {k : Nat}, k < n → F_ix [.list (iL r), .int (k : Nat)] = some (.int (r.getD k 0)) := fun {k} hk => f_ixL (Int.natCast_nonneg _) (by rw [Int.toNat_natCast]; exact iL_at (getD_at (by omega)))
  refine ⟨.own true [.int a4, .int b4], mk_ok (body := b__law_sets_right) (ρ' := [.own true [.int a4, .int b4], .pl (Mx R), .pl (.int (n : Nat)), .pl (tabD R n), .pl (tabD R n), .pl (.int (on : Nat)), x6, .pl (.int (rw : Nat)), .pl (.int (ot : Nat)), .own false (iL (exch r on ot)), .pl (Mx (R.set rw (exch r on ot))), .pl (Mx (R.set rw (r.set on (r.getD ot 0)))), .un, .un]) rfl ?_ rfl, a4, b4, rfl, ha4, hb4⟩
  refine seq_nx (ρ1 := [.own true [.int a1, .int b1], .pl (Mx R), .un, .un, .un, .un, .un, .un, .un, .un, .un, .un, .un, .un]) (set_ok (call_c rfl rfl er rfl rfl) rfl rfl) ?_
  refine seq_nx (ρ1 := [.own true [.int a1, .int b1], .pl (Mx R), .pl (.int (n : Nat)), .un, .un, .un, .un, .un, .un, .un, .un, .un, .un, .un]) (set_ok (ops1 rfl rfl ln) rfl rfl) ?_
  refine seq_nx (ρ1 := [.own true [.int a1, .int b1], .pl (Mx R), .pl (.int (n : Nat)), .pl (tabD R n), .un, .un, .un, .un, .un, .un, .un, .un, .un, .un]) (set_ok (call_p rfl rfl es rfl rfl) rfl rfl) ?_
  refine seq_nx (ρ1 := [.own true [.int a1, .int b1], .pl (Mx R), .pl (.int (n : Nat)), .pl (tabD R n), .pl (tabD R n), .un, .un, .un, .un, .un, .un, .un, .un, .un]) (set_ok ed rfl rfl) ?_
  refine seq_nx (ρ1 := [.own true [.int a1, .int b1], .pl (Mx R), .pl (.int (n : Nat)), .pl (tabD R n), .pl (tabD R n), .un, .un, .un, .un, .un, .un, .un, .un, .un]) (iff' (not_ok (b := true) (aT_ok (call_p (os_cons (ex_ok (fr_ok (lst_ok (ds_cons (call_p rfl rfl ec rfl rfl) (ds_cons rfl ds_nil)) (by show 2 ≤ _; decide)))) (os_cons (ex_ok (fr_ok (lst_ok (ds_cons rfl (ds_cons rfl ds_nil)) (by show 2 ≤ _; decide)))) os_nil)) rfl k1 rfl rfl))) rfl) ?_
  refine seq_nx (ρ1 := [.own true [.int a1, .int b1], .pl (Mx R), .pl (.int (n : Nat)), .pl (tabD R n), .pl (tabD R n), x5, x6, .un, .un, .un, .un, .un, .un, .un]) k2 ?_
  refine seq_nx (ρ1 := [.own true [.int a1, .int b1], .pl (Mx R), .pl (.int (n : Nat)), .pl (tabD R n), .pl (tabD R n), x5, x6, .un, .un, .un, .un, .un, .un, .un]) (iff' (not_ok (b := true) (aT_ok (call_p rfl rfl et rfl rfl))) rfl) ?_
  refine seq_nx (ρ1 := [.own true [.int a4, .int b4], .pl (Mx R), .pl (.int (n : Nat)), .pl (tabD R n), .pl (tabD R n), .pl (.int (on : Nat)), x6, .pl (.int (rw : Nat)), .pl (.int (ot : Nat)), .un, .un, .un, .un, .un]) (asg_g (ρ1 := [.own true [.int a4, .int b4], .pl (Mx R), .pl (.int (n : Nat)), .pl (tabD R n), .pl (tabD R n), x5, x6, .un, .un, .un, .un, .un, .un, .un]) (atup_ok (ds_cons (call_c rfl rfl e2 rfl rfl) (ds_cons (call_c rfl rfl e3 rfl rfl) (ds_cons (call_c rfl rfl e4 rfl rfl) ds_nil))) (by show 3 ≤ _; decide)) (gtup3 (gnm_ok rfl rfl) (gnm_ok h5 rfl) (gnm_ok rfl rfl))) ?_
  refine seq_nx (ρ1 := [.own true [.int a4, .int b4], .pl (Mx R), .pl (.int (n : Nat)), .pl (tabD R n), .pl (tabD R n), .pl (.int (on : Nat)), x6, .pl (.int (rw : Nat)), .pl (.int (ot : Nat)), .own false (iL r), .un, .un, .un, .un]) (own_ok (ρ1 := [.own true [.int a4, .int b4], .pl (Mx R), .pl (.int (n : Nat)), .pl (tabD R n), .pl (tabD R n), .pl (.int (on : Nat)), x6, .pl (.int (rw : Nat)), .pl (.int (ot : Nat)), .un, .un, .un, .un, .un]) (ds := iL r) (by
    unfold fOps
    rw [os_cons (ex_ok (ops2 rfl rfl rfl rfl ixr)) os_nil]
    rfl) rfl rfl) ?_
  have hs1 : setAt (.int (on : Nat)) (.own false (iL r)) (.int (r.getD ot 0)) = some (.own false (iL (r.set on (r.getD ot 0)))) := by
    have hix : ixN (iL r).length ((on : Nat) : Int) = some on := by
      rw [iL_len]; unfold ixN; rw [if_pos (Int.natCast_nonneg _), if_pos (by omega), Int.toNat_natCast]
    show (match ixN (iL r).length ((on : Nat) : Int) with | some j => some (SV.own false ((iL r).set j (.int (r.getD ot 0)))) | none => none) = _
    rw [hix, ← set_iL]
  have hs2 : setAt (.int (ot : Nat)) (.own false (iL (r.set on (r.getD ot 0)))) (.int (r.getD on 0)) = some (.own false (iL (exch r on ot))) := by
    have hix : ixN (iL (r.set on (r.getD ot 0))).length ((ot : Nat) : Int) = some ot := by
      rw [iL_len]; unfold ixN; rw [if_pos (Int.natCast_nonneg _), if_pos (by omega), Int.toNat_natCast]
    show (match ixN (iL (r.set on (r.getD ot 0))).length ((ot : Nat) : Int) with | some j => some (SV.own false ((iL (r.set on (r.getD ot 0))).set j (.int (r.getD on 0)))) | none => none) = _
    rw [hix]
    show some (SV.own false ((iL (r.set on (r.getD ot 0))).set ot (.int (r.getD on 0)))) = _
    rw [set_iL]
    rfl
  refine seq_nx (ρ1 := [.own true [.int a4, .int b4], .pl (Mx R), .pl (.int (n : Nat)), .pl (tabD R n), .pl (tabD R n), .pl (.int (on : Nat)), x6, .pl (.int (rw : Nat)), .pl (.int (ot : Nat)), .own false (iL (exch r on ot)), .un, .un, .un, .un]) (asg_g (ρ1 := [.own true [.int a4, .int b4], .pl (Mx R), .pl (.int (n : Nat)), .pl (tabD R n), .pl (tabD R n), .pl (.int (on : Nat)), x6, .pl (.int (rw : Nat)), .pl (.int (ot : Nat)), .own false (iL r), .un, .un, .un, .un]) (atup_ok (ds_cons (ops2 rfl rfl rfl rfl (li hot)) (ds_cons (ops2 rfl rfl rfl rfl (li hon)) ds_nil)) (by show 2 ≤ _; decide)) (gix2 rfl rfl hs1 rfl rfl rfl hs2 rfl)) ?_
  refine seq_nx (ρ1 := [.own true [.int a4, .int b4], .pl (Mx R), .pl (.int (n : Nat)), .pl (tabD R n), .pl (tabD R n), .pl (.int (on : Nat)), x6, .pl (.int (rw : Nat)), .pl (.int (ot : Nat)), .own false (iL (exch r on ot)), .pl (Mx (R.set rw (exch r on ot))), .un, .un, .un]) (set_ok (ops2 (ex_ok (ops2 (ex_ok (sl_ok rfl pt_none (pt_some rfl) rfl sl1)) (ex_ok (atup_ok (ds_cons (ops1 rfl rfl rfl) ds_nil) (by show 1 ≤ _; decide))) rfl rfl (ad _))) (ex_ok (sl_ok rfl (pt_some (ops2 rfl (ex_ok rfl) rfl rfl (f_addI _ _))) pt_none rfl sl2)) rfl rfl (ad2 _)) rfl rfl) ?_
  refine seq_nx (ρ1 := [.own true [.int a4, .int b4], .pl (Mx R), .pl (.int (n : Nat)), .pl (tabD R n), .pl (tabD R n), .pl (.int (on : Nat)), x6, .pl (.int (rw : Nat)), .pl (.int (ot : Nat)), .own false (iL (exch r on ot)), .pl (Mx (R.set rw (exch r on ot))), .un, .un, .un]) (iff' (not_ok (b := true) (aT_ok (call_p (os_cons (ex_ok (call_p rfl rfl cb rfl rfl)) (os_cons (ex_ok (call_p rfl rfl ab rfl rfl)) os_nil)) rfl (kb _) rfl rfl))) rfl) ?_
  refine seq_nx (ρ1 := [.own true [.int a4, .int b4], .pl (Mx R), .pl (.int (n : Nat)), .pl (tabD R n), .pl (tabD R n), .pl (.int (on : Nat)), x6, .pl (.int (rw : Nat)), .pl (.int (ot : Nat)), .own false (iL (exch r on ot)), .pl (Mx (R.set rw (exch r on ot))), .pl (Mx (R.set rw (r.set on (r.getD ot 0)))), .un, .un]) (set_ok (ops2 (ex_ok (ops2 (ex_ok (sl_ok rfl pt_none (pt_some rfl) rfl sl1)) (ex_ok (atup_ok (ds_cons (ops2 (ex_ok (ops2 (ex_ok (sl_ok (ex_ok (ops2 rfl rfl rfl rfl ixr)) pt_none (pt_some rfl) rfl sl3)) (ex_ok (atup_ok (ds_cons (ops2 (ex_ok (ops2 rfl rfl rfl rfl ixr)) rfl rfl rfl ixi) ds_nil) (by show 1 ≤ _; decide))) rfl rfl ad3)) (ex_ok (sl_ok (ex_ok (ops2 rfl rfl rfl rfl ixr)) (pt_some (ops2 rfl (ex_ok rfl) rfl rfl (f_addI _ _))) pt_none rfl sl4)) rfl rfl ad4) ds_nil) (by show 1 ≤ _; decide))) rfl rfl (ad _))) (ex_ok (sl_ok rfl (pt_some (ops2 rfl (ex_ok rfl) rfl rfl (f_addI _ _))) pt_none rfl sl2)) rfl rfl (ad2 _)) rfl rfl) ?_
  exact seq_rt (ret_ok (call_p (os_cons (ex_ok (call_p rfl rfl cw rfl rfl)) (os_cons (ex_ok (ops2 rfl rfl rfl rfl eqv)) os_nil)) rfl (kb _) rfl rfl))
end SW
set_option Elab.async false
set_option linter.all false
set_option maxRecDepth 100000
set_option maxHeartbeats 2000000
namespace SW
open PySem L2
theorem limits_run (a b : Int) : isTrueM (m__law_limits_right [.own true [.int a, .int b]]) = true := by kernel_rfl
theorem limits_end (a b : Int) : endM (m__law_limits_right [.own true [.int a, .int b]]) = [.own true [.int a, .int b]] := by kernel_rfl
theorem limits_ok (a b : Int) : m__law_limits_right [.own true [.int a, .int b]] = .ok (.rt (.bool true)) [.own true [.int a, .int b]] := run_true (limits_run a b) (limits_end a b)
theorem law_true (ns : List Int) (hl : ns.length ≤ 63) (h2 : ∀ z ∈ ns, PySem.Builtin.Int.intBits z ≤ 1048576) : ∃ ρ', m_law [SV.pl (.list (ns.map .int))] = .ok (.rt (.bool true)) ρ' := by
  obtain ⟨a, b, ec, ha, hb⟩ := cup_ok ns hl
  have el := limits_ok a b
  obtain ⟨ρ', ef, x, a', b', rfl, ha', hb'⟩ := for_inv (it := iRg (aRg1 (eC (.int 5)))) (g := gNm 2) (body := (sSeq (sIf (tNotA (aT (aCall m__law_sets_right [(.br 1)]))) (sSeq (sRet (eC (.bool false))) sNx) sNx) sNx))
    (ρ0 := [.pl (.list (iL ns)), .own false [.int a, .int b], .un]) (ρ := [.pl (.list (iL ns)), .own false [.int a, .int b], .un]) (items := iL (upto 5))
    (fun _ ρ => ∃ (x : SV) (a b : Int), ρ = [.pl (.list (iL ns)), .own false [.int a, .int b], x] ∧ (0 ≤ a ∧ 0 ≤ b) ∧ isIo x = false)
    (by rw [← rgs_upto]; exact irg_ok (rg1_ok rfl) (rgIn_n (n := 5) (by decide))) ⟨.un, a, b, rfl, ⟨ha, hb⟩, rfl⟩ fun i d ρ hd hI => by
      obtain ⟨x, a, b, rfl, ⟨ha, hb⟩, hx⟩ := hI
      obtain ⟨s1, e1, a1, b1, rfl, ha1, hb1⟩ := sets_ok ⟨a, b, rfl, ha, hb⟩
      refine ⟨[.pl (.list (iL ns)), .own false [.int a, .int b], .pl d], [.pl (.list (iL ns)), .own false [.int a1, .int b1], .pl d], ?_, ?_, .pl d, a1, b1, rfl, ⟨ha1, hb1⟩, rfl⟩
      · unfold gNm
        rw [gs_s, gs_s, gs_0, hx]
        rfl
      · exact seq_nx (iff' (not_ok (b := true) (aT_ok (call_c1 rfl rfl e1 rfl rfl))) rfl) rfl
  exact ⟨_, mk_ok (body := b_law) rfl (seq_nx (ρ1 := [.pl (.list (iL ns)), .own false [.int a, .int b], .un]) (own_ok (call_f rfl rfl ec rfl rfl) rfl rfl) (seq_nx (ρ1 := [.pl (.list (iL ns)), .own false [.int a, .int b], .un]) (iff' (not_ok (b := true) (aT_ok (call_c1 rfl rfl el rfl rfl))) rfl) (seq_nx ef (seq_rt (ret_ok rfl))))) rfl⟩
end SW
set_option Elab.async false
set_option linter.all false
set_option maxRecDepth 100000
set_option maxHeartbeats 0
open PySem PySem.W PySem.Calls PyProof.Rows
theorem PySem.Challenge.cw_swapsagree_k01_whole_cycle_sets_holds : PySem.Challenge.rw_swapsagree_k01_whole_cycle_sets.Holds := by
  w_on; o_law
  refine HandSHeadRun.head_any (r := OpenLaw.row PySem.Challenge.rw_swapsagree_k01_whole_cycle_sets) (q := view (OpenLaw.row PySem.Challenge.rw_swapsagree_k01_whole_cycle_sets).prog [35]) (H := SW.hk) (ob := SW.ob) (M := 20000) (loose := SW.loose) (d := HandSHeadRun.topDef (OpenLaw.row PySem.Challenge.rw_swapsagree_k01_whole_cycle_sets).prog 35) (kwd := []) SW.ob_eq
    (by kernel_rfl) (fun s => by kernel_rfl) SW.run (by kernel_rfl) (by kernel_rfl) (by kernel_rfl) (by rfl) (by first | assumption | decide +kernel) (by decide +kernel) ⟨rfl, rfl, rfl, rfl, rfl, by decide +kernel⟩ ?hw ?hc
  case hw => w_witness2
  case hc =>
    refine LamX.walk_ofTsE (l := PySem.Challenge.rw_swapsagree_k01_whole_cycle_sets) (n := 63) (k := 16) (x := "script") (CX := fun w => L2.CX (PySem.Challenge.rw_swapsagree_k01_whole_cycle_sets).prog w) rfl (by decide) (by kernel_rfl) ⟨rfl, by decide, by decide⟩ ?F (fun w => SW.hCX)
    intro w mg fa h Y G hmg0
    obtain ⟨K, KX, c⟩ := Y
    have hmg : mg ("law" : PySem.Str) = some (.ref fa) := by
      have e : (HandSHeadRun.topDef (OpenLaw.row PySem.Challenge.rw_swapsagree_k01_whole_cycle_sets).prog 35).name = ("law" : PySem.Str) := by kernel_rfl
      rw [← e]
      exact hmg0
    exact ⟨K, KX, SW.law_at KX G c SW.exB1 SW.exB2 hmg 26 26 rfl rfl (fun _ _ _ _ _ _ us hl => match us, hl with | [_], _ => rfl) (N := SW.N_law) (m := SW.m_law) (by decide) (fun base fx ct => SW.ok_all fx ct) SW.law_true⟩
