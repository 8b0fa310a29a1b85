import PyProof.Rows.All
import Wide.All
import OpenK.AllK
import Wide.FinOn
import HandS.ForMost
import HandS.ForExc
import HandS.HotCalls
import HandS.Lambda
import HandS.Walk
import HandS.Zip
import HandS.Conv
import HandS.IsInst
import HandS.SortInts
import HandS.Deep
import HandS.TupAny
import HandS.TupMul
import HandS.Flow
import HandS.HeadHook4
import HandS.Strs
import KE.KSortedM
import KE.GoesNew
import KE.GoesMore
import KE.GoesEnum
import HandS.ExcIs
import HandS.Style
import HandS.Text
import HandS.HeadWalk
import HandS.Rev
import PySem.Challenge.RW_swapsagree_k15_whole_laid_rows
import HandS.Head2
set_option Elab.async false
set_option linter.all false
set_option maxRecDepth 100000
set_option maxHeartbeats 4000000
/-! SWHot0: lists walked, pairs taken apart, lists made while an exception is handled. -/
namespace SWH
open PySem PySem.Spec PyProof.Rows
section
variable {prog : Program} {w : World} {A : Around} {E : Value → Shared → Prop} {s : Shared} {x1 it l : Addr} {i : Nat} {items : Array Value}
theorem ext_raise {h0 h1 : Heap} {e1 e2 : Obj} {v : Value} (e : Heap.ExtBut it h0 h1) : Heap.ExtBut it h0 (((h1.push e1).push e2).update (h1.push e1).objs.size (Obj.mapFields (·.setIfInBounds 2 v))) := fun b o hb z => by
  have z1 := e b o hb z
  have z2 : (h1.push e1).get? b = some o := Heap.get?_push_of_some _ z1
  have z3 : ((h1.push e1).push e2).get? b = some o := Heap.get?_push_of_some _ z2
  rw [Heap.get?_update_other _ _ (Nat.ne_of_gt (Heap.lt_size z2))]
  exact z3
theorem list_stop {Q : Option Value → Shared → Prop} (hot : HotX.HotAt A x1 s.heap) (hne : x1 ≠ it) (ht : s.heap.IsListIter it l i) (hs : s.heap.IsList l items) (he : items[i]? = none)
    (q : ∀ h', Heap.ExtBut it s.heap h' → Q none { s with heap := h' }) : wpAny (model prog w) A (pyNext (.ref it)) Q E s := by
  obtain ⟨hh, o1, vs1, k1, k2, k3⟩ := hot
  obtain ⟨oi, a1, a2, a3⟩ := id ht
  obtain ⟨ol, b1, b2, nl, b3⟩ := hs
  have tI := ht.typeIs
  unfold pyNext
  refine wpAny_bind (wpAny_attempt (wpAny_callSpecial?_slot (name := Str.ofString "__next__") tI slot_listiter_next (wpAny_call_entry slot_listiter_next tI entry_listiter_next ?_ (args_listiter_next _))))
  show wpAny _ _ (field (.ref it) 0 >>= _) _ _ s
  refine wpAny_bind (wpAny_field a1 a3 (x := .ref l) rfl ?_)
  show wpAny _ _ (if (Value.ref l == Value.none) = true then _ else _) _ _ s
  rw [if_neg (fun z : (Value.ref l == Value.none) = true => Bool.false_ne_true z)]
  show wpAny _ _ (field (.ref it) 1 >>= _) _ _ s
  refine wpAny_bind (wpAny_field a1 a3 (x := .int i 0) rfl ?_)
  show wpAny _ _ (seqItems? (.ref l) >>= _) _ _ s
  refine wpAny_bind (wpAny_seqItems b1 b3 ?_)
  simp only [Int.toNat_natCast, he]
  refine wpAny_bind (wpAny_rule (wpAny_bind (wpAny_setField a1 a3 (by simp) ?_)))
  show wpAny _ _ (newExc (.type "StopIteration") [] >>= _) _ _ _
  refine wpAny_bind ?_
  simp only [newExc, newTuple]
  refine wpAny_bind (wpAny_newObj_type ?_ (by size_fits))
  refine wpAny_bind (m := firstArgMember _ _) (wpAny_of_eq (a := Value.none) (by first | rfl | (simp only [firstArgMember]; rfl)) ?_)
  refine wpAny_newObj_type ?_ (by size_fits)
  have z1 := (Heap.get?_update_other (h := s.heap) (a := it) (b := x1) (f := Obj.mapFields (·.setIfInBounds 0 Value.none)) (by first | exact hne.symm | exact hne)).trans k1
  refine HotX.raiseNew_hot ⟨hh, o1, vs1, Heap.get?_push_of_some _ (Heap.get?_push_of_some _ z1), k2, k3⟩ (Nat.ne_of_lt (Heap.lt_size (Heap.get?_push_of_some _ z1))) (Heap.get?_push_size _ rfl) rfl (by first | (simp; done) | (simp; omega) | (simp only [Array.size_append]; simp; omega)) ?_
  refine wpAny_bind (wpAny_isInstance (T := "StopIteration") (b := true) ⟨_, Heap.get?_update_self _ (Heap.get?_push_size _ rfl) rfl, rfl⟩ isSubtype_stop ?_)
  exact wpAny_pure (q _ (ext_raise (Heap.SameBut.update ..).extBut))
theorem tup_stop {Q : Option Value → Shared → Prop} (hot : HotX.HotAt A x1 s.heap) (hne : x1 ≠ it) (ht : IsTupIter s.heap it l i) (hs : IsTup s.heap l items) (he : items[i]? = none)
    (q : ∀ h', Heap.ExtBut it s.heap h' → Q none { s with heap := h' }) : wpAny (model prog w) A (pyNext (.ref it)) Q E s := by
  obtain ⟨hh, o1, vs1, k1, k2, k3⟩ := hot
  obtain ⟨oi, a1, a2, a3⟩ := id ht
  obtain ⟨ol, b1, b2, nl, b3⟩ := hs
  have tI := ht.typeIs
  unfold pyNext
  refine wpAny_bind (wpAny_attempt (wpAny_callSpecial?_slot (name := Str.ofString "__next__") tI slot_tupleiter_next (wpAny_call_entry slot_tupleiter_next tI entry_tupleiter_next ?_ (args_tupleiter_next _))))
  show wpAny _ _ (field (.ref it) 0 >>= _) _ _ s
  refine wpAny_bind (wpAny_field a1 a3 (x := .ref l) rfl ?_)
  show wpAny _ _ (if (Value.ref l == Value.none) = true then _ else _) _ _ s
  rw [if_neg (fun z : (Value.ref l == Value.none) = true => Bool.false_ne_true z)]
  show wpAny _ _ (field (.ref it) 1 >>= _) _ _ s
  refine wpAny_bind (wpAny_field a1 a3 (x := .int i 0) rfl ?_)
  show wpAny _ _ (seqItems? (.ref l) >>= _) _ _ s
  refine wpAny_bind (wpAny_seqItems b1 b3 ?_)
  simp only [Int.toNat_natCast, he]
  refine wpAny_bind (wpAny_rule (wpAny_bind (wpAny_setField a1 a3 (by simp) ?_)))
  show wpAny _ _ (newExc (.type "StopIteration") [] >>= _) _ _ _
  refine wpAny_bind ?_
  simp only [newExc, newTuple]
  refine wpAny_bind (wpAny_newObj_type ?_ (by size_fits))
  refine wpAny_bind (m := firstArgMember _ _) (wpAny_of_eq (a := Value.none) (by first | rfl | (simp only [firstArgMember]; rfl)) ?_)
  refine wpAny_newObj_type ?_ (by size_fits)
  have z1 := (Heap.get?_update_other (h := s.heap) (a := it) (b := x1) (f := Obj.mapFields (·.setIfInBounds 0 Value.none)) (by first | exact hne.symm | exact hne)).trans k1
  refine HotX.raiseNew_hot ⟨hh, o1, vs1, Heap.get?_push_of_some _ (Heap.get?_push_of_some _ z1), k2, k3⟩ (Nat.ne_of_lt (Heap.lt_size (Heap.get?_push_of_some _ z1))) (Heap.get?_push_size _ rfl) rfl (by first | (simp; done) | (simp; omega) | (simp only [Array.size_append]; simp; omega)) ?_
  refine wpAny_bind (wpAny_isInstance (T := "StopIteration") (b := true) ⟨_, Heap.get?_update_self _ (Heap.get?_push_size _ rfl) rfl, rfl⟩ isSubtype_stop ?_)
  exact wpAny_pure (q _ (ext_raise (Heap.SameBut.update ..).extBut))
theorem unpack_hot {t : Addr} {Q : List Value → Shared → Prop} (hot : HotX.HotAt A x1 s.heap) (ht : IsTup s.heap t items) (q : ∀ h', Heap.ExtBut s.heap.objs.size s.heap h' → Q items.toList { s with heap := h' }) : wpAny (model prog w) A (unpackItems (.ref t) items.size none) Q E s := by
  have nt : t ≠ s.heap.objs.size := by
    obtain ⟨o, ho, _⟩ := ht
    exact Nat.ne_of_lt (Heap.lt_size ho)
  have nx : x1 ≠ s.heap.objs.size := by
    obtain ⟨_, o, _, ho, _⟩ := hot
    exact Nat.ne_of_lt (Heap.lt_size ho)
  unfold unpackItems
  refine wpAny_bind ?_
  unfold notIterableAtAll
  refine wpAny_bind (wpAny_specialOf ht.typeIs slot_tuple_iter.lookup (wpAny_pure ?_))
  simp only [Bool.false_eq_true, if_false]
  refine wpAny_bind (wpAny_holding (iter_tuple ht ?_))
  refine wpAny_bind (wpAny_holding (draw_tuple nt items.size 0 _ _ ⟨_, Heap.get?_push_size _ rfl, rfl, rfl⟩ (ht.push _) (by omega) fun h1 it1 sb1 => ?_))
  have all : List.take items.size (List.drop 0 items.toList) = items.toList := List.take_of_length_le (by simp)
  rw [all, if_neg (by simp)]
  have ht1 : IsTup h1 t items := (ht.push _).extBut sb1.extBut nt
  have hot1 : HotX.HotAt A x1 h1 := by
    obtain ⟨k0, o1, vs1, k1, k2, k3⟩ := hot
    exact ⟨k0, o1, vs1, sb1.extBut _ _ nx (Heap.get?_push_of_some _ k1), k2, k3⟩
  refine wpAny_bind (wpAny_holding (tup_stop hot1 nx it1 ht1 (by simp) fun h2 e2 => ?_))
  simp only [Option.isSome_none, Bool.false_eq_true, if_false]
  exact wpAny_pure (q h2 fun b o hb e => e2 b o hb (sb1.extBut b o hb (Heap.get?_push_of_some _ e)))
end
open L2
/-- an exception is handled whose context is None -/
def HotK (X : Cx) : Prop := ∀ (pins : List (Addr × Obj)) (σ : L2.St) (H : Hp) (s : Shared), L2.Inv X pins σ H s → ∃ x1, HotX.HotAt X.A x1 s.heap ∧ H x1 = none ∧ x1 ∉ frs X.stack ∧ ∀ b, FpOk X pins H b → x1 ≠ b
theorem hotK_suite {X : Cx} {a : Addr} {oe : Obj} {pn : List (Addr × Obj)} {cls : Value} {d : Option Addr} (hz : L2N.Zn cls d oe) (hf : ∃ vs, oe.data = .fields vs) : HotK (X.suite a ((a, oe) :: pn)) := fun pins σ H s I => by
  obtain ⟨h1, h2, h3, h4, _⟩ := I.pin (a, oe) (List.mem_append_left _ List.mem_cons_self)
  obtain ⟨vs, hv⟩ := hf
  refine ⟨a, ⟨rfl, oe, vs, h1, hv, hz.2.2 vs hv⟩, h2, fun hm => ?_, fun b hb => hb.2.2.2.2.2 (a, oe) (List.mem_append_left _ List.mem_cons_self)⟩
  rcases List.mem_cons.mp (I.stkSub _ hm) with z | z
  · exact h3 z
  · exact h4 z
theorem hotK_blk {X : Cx} {s : Shared} {H : Hp} {scope : Scope} {ce : Env} {fp : List Addr} {x1 : Addr} (hot : HotX.HotAt X.A x1 s.heap) (hn : H x1 = none) (hs : x1 ∉ frs X.stack) (hp : x1 ∉ fp) : HotK (X.blk s H scope ce fp) := fun pins σ H' s' I => by
  obtain ⟨k0, o1, vs1, k1, k2, k3⟩ := hot
  refine ⟨x1, ⟨k0, o1, vs1, I.base.keep x1 o1 k1 hn hs hp, k2, k3⟩, I.base.free x1 o1 k1 hn hp, hs, fun b hb z => ?_⟩
  subst z
  rcases hb.2.2.2.1 with z | z
  · exact hp z
  · exact absurd (Nat.lt_of_lt_of_le (Heap.lt_size k1) z) (Nat.lt_irrefl _)
structure TurnK (P : Program) (w : World) (K : PySem.W.Frag) (tg : Expr) (J : It) (fp : List Addr) (it : Addr) (tn : Nat → Heap → Prop) : Prop where
  mem : it ∈ fp
  obj : ∀ i h, tn i h → ∀ b ∈ fp, ∃ o, h.get? b = some o ∧ ∀ v, o.data ≠ .cell v
  keep : ∀ i h h', tn i h → (∀ b ∈ fp, ∀ o, h.get? b = some o → h'.get? b = some o) → tn i h'
  item : ∀ (X : Cx), X.prog = P → X.w = w → X.K = K → ∀ (i : Nat) (pins : List (Addr × Obj)) (s : Shared) (σ : L2.St) (H : Hp) (E : Value → Shared → Prop), L2.Inv X pins σ H s → (∀ b ∈ fp, FpOk X pins H b) → tn i s.heap → J.go i H →
    wpAny (model P w) X.A (pyNext (.ref it)) (fun r s1 => ∃ u, r = some u ∧
      wpAny (model P w) X.A (letOwnedTupleGo tg (.ref it) u) (fun _ s2 => ∃ x H', L2.Inv X pins σ H' s2 ∧ L2.RelV x u ∧ J.yld i H x H' ∧ tn (i + 1) s2.heap ∧ ∀ b ∈ fp, H' b = none) E s1) E s
  done : ∀ (X : Cx), X.prog = P → X.w = w → X.K = K → HotK X → ∀ (i : Nat) (pins : List (Addr × Obj)) (s : Shared) (σ : L2.St) (H : Hp) (E : Value → Shared → Prop), L2.Inv X pins σ H s → (∀ b ∈ fp, FpOk X pins H b) → tn i s.heap → J.stop i H →
    wpAny (model P w) X.A (pyNext (.ref it)) (fun r s1 => r = none ∧ L2.Inv X pins σ H s1) E s
  self : ∀ (A : Around) (i : Nat) (s : Shared) (Q : Value → Shared → Prop) (E : Value → Shared → Prop), tn i s.heap → Q (.ref it) s → wpAny (model P w) A (pyIter (.ref it)) Q E s
theorem turnK_list {P : Program} {w : World} {K : PySem.W.Frag} {tg : Expr} (a it : Addr) : TurnK P w K tg (Itl K a) [it] it (fun i h => h.IsListIter it a i) where
  mem := List.mem_cons_self
  obj := fun i h st b hb => by
    obtain rfl : b = it := by simpa using hb
    obtain ⟨o, e, c, d⟩ := st
    exact ⟨o, e, fun v z => by rw [d] at z; cases z⟩
  keep := fun i h h' st k => st.at fun o e => k it List.mem_cons_self o e
  item := by
    intro X hP hw hK i pins s σ H E I hf st hg
    subst hP hw hK
    obtain ⟨xs, x, hq, hx⟩ := hg
    obtain ⟨its, rv, p, hz⟩ := I.list hq
    obtain ⟨u, hu, ru⟩ := rv.get hx
    obtain ⟨g0, g1, g2, g3, g4, g5⟩ := hf it List.mem_cons_self
    refine wpAny_pyNext_list_item st p.isList (x := u) (by simpa using hu) fun h' st' sb => ?_
    have J1 : L2.Inv X pins σ H { s with heap := h' } := I.turned (t' := s.toks) (fun b o hb e => (sb.2 b hb).trans e) g0 g1 g3 g4 g5
    obtain ⟨o, e, c, d⟩ := id st'
    exact ⟨u, rfl, go_of (s := { s with heap := h' }) e c d (by decide) ⟨x, H, J1, ru, ⟨rfl, fun ys hy => by rw [I.list_inj hy hq]; exact hx⟩, st', fun b hb => (hf b hb).1⟩⟩
  done := by
    intro X hP hw hK hk i pins s σ H E I hf st hg
    subst hP hw hK
    obtain ⟨xs, hq, hx⟩ := hg
    obtain ⟨its, rv, p, hz⟩ := I.list hq
    have fo := hf it List.mem_cons_self
    obtain ⟨x1, hot, _, _, hne⟩ := hk pins σ H s I
    obtain ⟨g0, g1, g2, g3, g4, g5⟩ := fo
    have hl := rv.length
    exact list_stop hot (hne it (hf it List.mem_cons_self)) st p.isList (by simp; omega) fun h' eb => ⟨rfl, I.turned (t' := s.toks) (fun b o hb e => eb b o hb e) g0 g1 g3 g4 g5⟩
  self := fun _ _ _ _ _ st h => wpAny_pyIter_listiter st h
def PIEK (X : Cx) (pins : List (Addr × Obj)) (σ : L2.St) (tg : Expr) (R : It → Hp → Prop) (itv : Value) (s2 : Shared) : Prop :=
  ∃ (it : Addr) (fp : List Addr) (tn : Nat → Heap → Prop) (J : It) (H' : Hp), itv = .ref it ∧ L2.Inv X pins σ H' s2 ∧ TurnK X.prog X.w X.K tg J fp it tn ∧ tn 0 s2.heap ∧ (∀ b ∈ fp, FpOk X pins H' b) ∧ R J H'
structure PIK (X : Cx) (tg iter : Expr) (wi : TI) : Prop where
  run : ∀ (pins : List (Addr × Obj)) (s : Shared) (σ : L2.St) (H : Hp) (R : It → Hp → Prop), L2.Inv X pins σ H s → wi σ H R →
    wpAny (model X.prog X.w) X.A (eval iter X.env) (fun v s1 => wpAny (model X.prog X.w) X.A (pyIter v) (PIEK X pins σ tg R) X.xe s1) X.xe s
theorem piK_list {X : Cx} {tg l : Expr} {tl : TE} (hl : PE X l tl) : PIK X tg l (iList X.K tl) := ⟨fun pins s σ H R I h => by
  refine thn (hl.run pins s σ H _ I h) fun v s1 ⟨x, H1, I1, r1, a, ea, ⟨xs, hq⟩, q⟩ => ?_
  subst ea
  cases r1
  obtain ⟨its, rv, p, hz⟩ := I1.list hq
  refine wpAny_pyIter_list p.isList ⟨s1.heap.objs.size, [s1.heap.objs.size], _, _, H1, rfl, I1.kept (t' := s1.toks) fun b o e => Heap.get?_push_of_some _ e, turnK_list a _, ⟨_, Heap.get?_push_size _ rfl, rfl, rfl⟩, fun b hb => ?_, q⟩
  obtain rfl : b = s1.heap.objs.size := by simpa using hb
  exact I1.fpOk (Nat.le_refl _) (I1.hok.fresh (Nat.le_refl _))⟩
theorem pgK_tup {X : Cx} {pos : Pos} {es : List Expr} {k : Nat} {t : TGs} {n : Nat} (hk : HotK X) (h : PGs X es t) (hn : (assignEach es X.env).length = n := by rfl) (hst : (assignEach es X.env).findIdx? (·.1) = none := by rfl) : PG X (.Tuple es k pos) (gTup X.K n t) := ⟨fun pins s σ H v u Q I r hw => by
  obtain ⟨a, xs, ea, hq, hl, hw⟩ := hw
  subst ea
  cases r
  obtain ⟨its, rv, ht, hz⟩ := I.tuple hq
  obtain ⟨x1, hot, _⟩ := hk pins σ H s I
  rw [assign_Tuple]
  refine wpAny_bind (wpAny_standAt ?_)
  unfold unpack
  have el : (assignEach es X.env).length = its.toArray.size := by simp [hn, ← hl, rv.length]
  rw [el, hst]
  refine wpAny_bind (wpAny_holding (unpack_hot hot ht fun h' hx => ?_))
  exact h.run pins _ σ H xs _ Q (I.kept (t' := s.toks) fun b o e => hx b o (Nat.ne_of_lt (Heap.lt_size e)) e) (by simpa using rv) hw⟩
end SWH
set_option Elab.async false
set_option linter.all false
set_option maxRecDepth 100000
set_option maxHeartbeats 4000000
/-! SWHot1: list comprehensions while an exception is handled (after lc_core). -/
namespace SWH
open PySem PySem.Spec PyProof.Rows L2
section
variable {X : Cx}
theorem lcK_core {pins : List (Addr × Obj)} {s : Shared} {σ : L2.St} {H : Hp} {Q : VK} {elt tg iter : Expr} {ifs : List Expr} {scope : Scope} {own : List (Str × Nat)} {pos pos' : Pos} {wi : TI} {g : TG} {tt : TT} {te : TE} {use : Option (Value → Sem Unit)} {Qf : Value → Shared → Prop}
    (hk : HotK X) (hN : X.N.Nodup) (I : L2.Inv X pins σ H s) (hi : PIK X tg iter wi) (ok : BlkOk X.N X.env.scope scope own)
    (hg : ∀ (s : Shared) (H : Hp) (C : Addr) (cl : List (Str × Addr)) (fp : List Addr), HotK (X.blk s H scope (compEnvC scope cl C X.env) fp) → PG (X.blk s H scope (compEnvC scope cl C X.env) fp) tg g)
    (ht : ∀ (s : Shared) (H : Hp) (C : Addr) (cl : List (Str × Addr)) (fp : List Addr), HotK (X.blk s H scope (compEnvC scope cl C X.env) fp) → PTs (X.blk s H scope (compEnvC scope cl C X.env) fp) ifs tt)
    (he : ∀ (s : Shared) (H : Hp) (C : Addr) (cl : List (Str × Addr)) (fp : List Addr), HotK (X.blk s H scope (compEnvC scope cl C X.env) fp) → PE (X.blk s H scope (compEnvC scope cl C X.env) fp) elt te) (hs : ∀ x, foldedSetIterable iter X.env x = pure x)
    (h : tLc wi g tt te (own.map (·.2)) σ H Q)
    (hRR : ∀ D C s' m H', L2.Inv X pins σ H' s' → Q (.ref D) H' → s'.heap.Ns C m → FpOk X pins H' C → compPost (model X.prog X.w) X.A X.xe use Qf (.ref D) C (.ok .next) s') :
    wpAny (model X.prog X.w) X.A (comprehension (.ListComp elt [⟨tg, iter, ifs, 0⟩] scope pos) scope X.env pos' (newList []) false (eval iter X.env) use) Qf X.xe s := by
  have free : ∀ y ∈ scope.names, y.2 = .free → ∃ c, X.env.cells.lookup y.1 = some c := fun y hy e => (ok.free y hy e).elim (fun k => I.ok.has _ (.inl k)) fun k => I.ok.has _ (.inr k)
  refine wpAny_comprehension_free (use := use) rfl hs (closure_ok free) ok.kind (fun y hy e => by rw [ok.uniq y hy, e]) (thn (hi.run pins s σ H _ I h) fun xv s1 hx => thn hx fun itv s2 h2 => ?_)
  obtain ⟨it, fp, tn, J, H2, ei, I2, T, st2, f2, q⟩ := h2
  subst ei
  refine wpAny_newObj_type (newEnv_comp ?_) (by show 0 ≤ sizeLine; decide)
  generalize hD : s2.heap.objs.size = D
  have nD : H2 D = none := I2.hok.fresh (Nat.le_of_eq hD)
  obtain ⟨W, ⟨m0, w0⟩, turn⟩ := q D nD
  generalize e3 : ({ s2 with heap := s2.heap.push { cls := .type "list", data := .seq ([] : List Value).toArray } } : Shared) = s3
  have I3 : L2.Inv X pins σ (upd H2 D (.lst [])) s3 := by
    rw [← e3]
    refine I2.laid (t' := s2.toks) (fun b o e => Heap.get?_push_of_some _ e) (Nat.le_of_eq hD) ⟨Nat.zero_le _, [], 0, .nil, ?_⟩
    rw [← hD]
    exact Heap.get?_push_size _ rfl
  have h3 : s3.heap = s2.heap.push { cls := .type "list", data := .seq ([] : List Value).toArray } := by rw [← e3]
  have below : ∀ b ∈ fp, b < s2.heap.objs.size := fun b hb => by
    obtain ⟨o, e, _⟩ := T.obj _ _ st2 b hb
    exact Heap.lt_size e
  have f3 : ∀ b ∈ fp, FpOk X pins (upd H2 D (.lst [])) b ∧ b < s3.heap.objs.size := fun b hb => by
    have lt := below b hb
    exact ⟨⟨by rw [upd_ne (by rw [← hD]; exact Nat.ne_of_lt lt)]; exact (f2 b hb).1, (f2 b hb).2⟩, by rw [h3, Heap.size_push]; exact Nat.lt_succ_of_lt lt⟩
  have st3 : tn 0 s3.heap := T.keep _ _ _ st2 fun b _ o e => by rw [h3]; exact Heap.get?_push_of_some _ e
  obtain ⟨x1, hot3, n3, ns3, nf3⟩ := hk pins σ _ s3 I3
  have I4 := block_start I3 ok hN f3
  have hb : ∀ (C : Addr) (cl : List (Str × Addr)), HotK (X.blk s3 (upd H2 D (.lst [])) scope (compEnvC scope cl C X.env) fp) := fun C cl => hotK_blk hot3 n3 ns3 fun z => nf3 x1 (f3 x1 z).1 rfl
  have pg := hg s3 (upd H2 D (.lst [])) s3.heap.objs.size (cellsFrom (s3.heap.objs.size + 1) scope.names (cloFrom X.env.cells scope.names [])) fp (hb _ _)
  have pt := ht s3 (upd H2 D (.lst [])) s3.heap.objs.size (cellsFrom (s3.heap.objs.size + 1) scope.names (cloFrom X.env.cells scope.names [])) fp (hb _ _)
  have pe := he s3 (upd H2 D (.lst [])) s3.heap.objs.size (cellsFrom (s3.heap.objs.size + 1) scope.names (cloFrom X.env.cells scope.names [])) fp (hb _ _)
  have hbk := hb s3.heap.objs.size (cellsFrom (s3.heap.objs.size + 1) scope.names (cloFrom X.env.cells scope.names []))
  show codeAny _ _ (.compStart (.ListComp elt [⟨tg, iter, ifs, 0⟩] scope pos) 0 (.ref it) (.ref D) (compEnvC scope (cellsFrom (s3.heap.objs.size + 1) scope.names (cloFrom X.env.cells scope.names [])) s3.heap.objs.size X.env)) (compPost (model X.prog X.w) X.A X.xe use Qf (.ref D) s3.heap.objs.size)
    { s3 with heap := pushCells (s3.heap.push { cls := .type "dict", data := .dict #[] }) scope.names }
  have nfp : ∀ b ∈ fp, (upd H2 D (.lst [])) b = none := fun b hb => (f3 b hb).1.1
  generalize ece : compEnvC scope (cellsFrom (s3.heap.objs.size + 1) scope.names (cloFrom X.env.cells scope.names [])) s3.heap.objs.size X.env = ce at I4 pg pt pe hbk ⊢
  have cL : ce.locals = s3.heap.objs.size := by subst ece; rfl
  generalize eH : upd H2 D (.lst []) = H3 at I3 I4 pg pt pe hbk w0 nfp f3
  generalize e4 : ({ s3 with heap := pushCells (s3.heap.push { cls := .type "dict", data := .dict #[] }) scope.names } : Shared) = s4 at I4 ⊢
  have st4 : tn 0 s4.heap := T.keep _ _ _ st3 fun b _ o e => by rw [← e4]; exact pushCells_keeps _ _ _ _ (Heap.get?_push_of_some _ e)
  have stays : ∀ {τ : L2.St} {H' : Hp} {s' : Shared}, L2.Inv (X.blk s3 H3 scope ce fp) [] τ H' s' → (∀ b ∈ fp, H' b = none) → ∀ b ∈ fp, FpOk (X.blk s3 H3 scope ce fp) [] H' b := fun {τ H' s'} I' hn b hb =>
    ⟨hn b hb, (I'.ok.exf b hb).1, I'.ok.exfs b hb, .inl hb, fun x c e => (I'.ok.exf b hb).2 x c e, fun p hp => nomatch (show p ∈ ([] : List (Addr × Obj)) ++ [] from hp)⟩
  have loop : codeAny (model X.prog X.w) X.A (.compLoop (.ListComp elt [⟨tg, iter, ifs, 0⟩] scope pos) 0 (.ref it) (.ref D) ce) (compPost (model X.prog X.w) X.A X.xe use Qf (.ref D) s3.heap.objs.size) s4 := by
    refine compLoop_any (fun n s' => ∃ i H', L2.Inv (X.blk s3 H3 scope ce fp) [] (wipe σ (own.map (·.2))) H' s' ∧ tn i s'.heap ∧ (∀ b ∈ fp, H' b = none) ∧ W i n H') ?_ m0 ⟨0, H3, I4, st4, nfp, w0⟩
    rintro n s5 ⟨i, H5, I5, st5, n5, w5⟩
    rcases turn i n H5 w5 with ⟨stop, qq⟩ | ⟨go, Nx, hNx, step⟩
    · refine thnF (T.done (X.blk s3 H3 scope ce fp) rfl rfl rfl hbk i [] s5 _ H5 (fun _ _ => False) I5 (stays I5 n5) st5 stop) fun r s6 ⟨hr, I6⟩ => ?_
      subst hr
      have I7 : L2.Inv X pins σ H5 s6 := I3.call' (ch := fp) I6.os I6.base I6.hok I6.bare fun b hb => ⟨(f3 b hb).1.2.2.2.1, (f3 b hb).1.2.1, (f3 b hb).1.2.2.2.2.1, (f3 b hb).1.2.2.2.2.2⟩
      have nC : H5 s3.heap.objs.size = none := by rw [← cL]; exact I6.free
      obtain ⟨m, hn, _⟩ := I6.loc
      have hn : s6.heap.Ns ce.locals m := hn
      rw [cL] at hn
      exact hRR D s3.heap.objs.size s6 m H5 I7 qq hn (I3.fpOk (Nat.le_refl _) nC)
    · refine thnF (T.item (X.blk s3 H3 scope ce fp) rfl rfl rfl i [] s5 _ H5 (fun _ _ => False) I5 (stays I5 n5) st5 go) fun r s6 ⟨u, hr, h6⟩ => ?_
      subst hr
      refine thnF h6 fun _ s7 ⟨x, H7, I7, r7, y7, st7, n7⟩ => ?_
      have J7 := I7.pinned (stays I7 n7) (T.obj _ _ st7)
      refine thnF (pg.run _ s7 _ H7 x u _ J7 r7 (step x H7 y7)) fun _ s8 ⟨σ8, H8, I8, hw8, q8⟩ => thnF (pt.run _ s8 σ8 H8 _ I8 q8) fun b s9 ⟨H9, I9, q9⟩ => ?_
      have fin : ∀ {s' : Shared} {H' : Hp}, L2.Inv (X.blk s3 H3 scope ce fp) ([] ++ pinsAt fp s7.heap) σ8 H' s' → Nx H' → ∃ m, m < n ∧ ∃ i H', L2.Inv (X.blk s3 H3 scope ce fp) [] (wipe σ (own.map (·.2))) H' s' ∧ tn i s'.heap ∧ (∀ b ∈ fp, H' b = none) ∧ W i m H' := fun {s' H'} I' nx => by
        obtain ⟨m', hm, w'⟩ := hNx H' nx
        have pin : ∀ b ∈ fp, ∀ o, s7.heap.get? b = some o → s'.heap.get? b = some o ∧ H' b = none := fun b hb o e =>
          have z := I'.pin (b, o) (List.mem_append_right _ (List.mem_append_right _ (mem_pinsAt hb e)))
          ⟨z.1, z.2.1⟩
        refine ⟨m', hm, i + 1, H', (I'.unpinned (pins := [])).weak (by rw [← hw8, wipe_length]) (fun j v e => ?_), T.keep _ _ _ st7 fun b hb o e => (pin b hb o e).1, fun b hb => ?_, w'⟩
        · rw [← hw8] at e
          exact (wipe_some e).1
        · obtain ⟨o, e, _⟩ := T.obj _ _ st7 b hb
          exact (pin b hb o e).2
      cases b with
      | false =>
        simp only [Bool.false_eq_true, if_false] at q9 ⊢
        exact fin I9 q9
      | true =>
        simp only [if_true] at q9 ⊢
        refine thnF (pe.run _ s9 σ8 H9 _ I9 q9) fun z s10 ⟨yv, H10, I10, r10, acc, d10, z10, nx⟩ => ?_
        exact app_ok (X := X.blk s3 H3 scope ce fp) I10 d10 z10 r10 fun s11 I11 => fin I11 nx
  exact codeAny_compStart_list loop (T.self X.A 0 _ _ _ st4 loop)
theorem peK_lc {elt tg iter : Expr} {ifs : List Expr} {scope : Scope} {own : List (Str × Nat)} {pos : Pos} {wi : TI} {g : TG} {tt : TT} {te : TE} (hk : HotK X) (hN : X.N.Nodup) (hi : PIK X tg iter wi) (ok : BlkOk X.N X.env.scope scope own)
    (hg : ∀ (s : Shared) (H : Hp) (C : Addr) (cl : List (Str × Addr)) (fp : List Addr), HotK (X.blk s H scope (compEnvC scope cl C X.env) fp) → PG (X.blk s H scope (compEnvC scope cl C X.env) fp) tg g)
    (ht : ∀ (s : Shared) (H : Hp) (C : Addr) (cl : List (Str × Addr)) (fp : List Addr), HotK (X.blk s H scope (compEnvC scope cl C X.env) fp) → PTs (X.blk s H scope (compEnvC scope cl C X.env) fp) ifs tt)
    (he : ∀ (s : Shared) (H : Hp) (C : Addr) (cl : List (Str × Addr)) (fp : List Addr), HotK (X.blk s H scope (compEnvC scope cl C X.env) fp) → PE (X.blk s H scope (compEnvC scope cl C X.env) fp) elt te) (hs : ∀ x, foldedSetIterable iter X.env x = pure x := by intro _; rfl) :
    PE X (.ListComp elt [⟨tg, iter, ifs, 0⟩] scope pos) (tLc wi g tt te (own.map (·.2))) := ⟨fun pins s σ H Q I h => by
  rw [eval_ListComp]
  refine lcK_core hk hN I hi ok hg ht he hs h fun D C s' m H' I' q hn f => ⟨m, hn, fun h'' sb => ?_⟩
  obtain ⟨g0, g1, g2, g3, g4, g5⟩ := f
  exact ⟨.ref D, H', I'.turned (t' := s'.toks) (fun b o hb e => (sb.2 b hb).trans e) g0 g1 g3 g4 g5, rfl, q⟩⟩
end
end SWH
set_option Elab.async false
set_option linter.all false
set_option maxRecDepth 100000
set_option maxHeartbeats 4000000
/-! SWHot2: a lambda called where exceptions keep that their context is None (after LamX.pe_act). -/
namespace SWH
open PySem PySem.Spec PyProof.Rows L2
/-- the context of the lambda's body -/
abbrev lamN (X : Cx) (A : Around) (outer : List Env) (s : Shared) (H : Hp) (E : XK) (scope : Scope) (f c' : Addr) : Cx :=
  (LamX.lamCx X A outer s H E scope f c').tr [] fun e s' => wpAny (model X.prog X.w) (A.deeper (LamX.lamEnv X scope s.heap.objs.size f c')) (leaving (LamX.lamEnv X scope s.heap.objs.size f c') e) (fun _ s'' => L2N.CX X.prog X.w outer H s E e s'') (fun e' s'' => L2N.CX X.prog X.w outer H s E e' s'') s'
theorem takes0 {X : Cx} : L2N.Takes X (fun _ _ _ _ => False) := fun _ _ x => by
  obtain ⟨_, _, _, _, _, _, _, _, _, _, _, _, _, _, _, _, z⟩ := x
  exact z.elim
theorem act_n {X : Cx} {pins : List (Addr × Obj)} {σ : L2.St} {H : Hp} {s : Shared} {CXg : CXT} {Eg : XK} {Ng : List Str} {qg : Str} {sg : Scope} {g f c' : Addr} {cdg pm ctv : Value} {params : Arguments} {body : Expr} {scope : Scope} {k i : Nat} {a : Str} {pn : List (Addr × Obj)} {xe : Value → Shared → Prop} {W : WX} {E : XK} {tb : TE} {p1 p2 : Pos}
    (I : L2.Inv X pins σ H s) (L : LamX.LamS X.env.scope scope) (hf : s.heap.get? f = some (PySem.W.kla_obj "<lambda>" (X.env.qual ++ "<lambda>") params body scope (cloFrom X.env.cells scope.names []) pm c' ctv)) (hfn : H f = none) (hfr : f ∉ frs X.stack)
    (hbind : bindArgs (PySem.W.kla_fn "<lambda>" (X.env.qual ++ "<lambda>") params body scope (cloFrom X.env.cells scope.names []) pm (.ref c') ctv) ⟨[], []⟩ = pure [])
    (tk : L2N.Takes ((cxOf CXg X.prog X.w X.K X.mg X.base Ng qg sg g cdg X.A X.stack s H Eg).tr pn xe) W) (hW : ∀ cls d σ' H', E cls d H' → W cls d σ' H') (hr : Room (k + 1) (X.A.deeper (envOfC qg sg s.heap.objs.size g cdg)))
    (hbody : ∀ (A : Around) (outer : List Env) (s : Shared) (H : Hp), Room k (A.deeper (LamX.lamEnv X scope s.heap.objs.size f c')) → PE (lamN X A outer s H E scope f c') body tb)
    (hN : Ng[i]? = some a) (hv : Vis sg a) (hd : (a == ("__debug__" : Str)) = false := by decide) (hcd : (a == ("__classdict__" : Str)) = false := by decide) :
    PE ((cxOf CXg X.prog X.w X.K X.mg X.base Ng qg sg g cdg X.A X.stack s H Eg).tr pn xe) (.Call (.Name a p1) [] [] p2)
      (fun σZ HZ Q => σZ[i]? = some (some (.ref f)) ∧ HZ c' = some (LamX.CodeO c' (X.env.qual ++ "<lambda>")) ∧ tb σ HZ Q) := ⟨fun pinsZ sZ σZ HZ Q IZ h => by
  obtain ⟨hs, hc, ht⟩ := h
  refine wpAny_Call_Name_kw (thn ((pe_var (pos := p1) (i := i) hN hv hd hcd).run pinsZ sZ σZ HZ (fun v H1 => v = .ref f ∧ H1 = HZ) IZ ⟨.ref f, hs, rfl, rfl⟩) fun u s1 ⟨v, H1, J1, ru, ev, eH⟩ => ?_)
  subst ev eH
  obtain rfl : u = Value.ref f := ru
  have at1 := J1.base.keep f _ hf hfn hfr (fun z => nomatch (show f ∈ ([] : List Addr) from z))
  refine PySem.W.callWith_F0 ⟨_, _, _, _, at1⟩ ?_
  have un : Un (frs X.stack) [] H H1 s.heap s1.heap := J1.base
  obtain ⟨⟨oc, vs, t, q1, q2, q3⟩, _, _⟩ := J1.hok c' _ hc
  have rc : codeAny (model X.prog X.w) (X.A.deeper (envOfC qg sg s.heap.objs.size g cdg)) (.call (.ref f) ⟨[], []⟩) (CR (L2N.CX X.prog X.w) (envOfC qg sg s.heap.objs.size g cdg :: X.stack) X.prog X.w H1 s1 Q E) s1 := by
    refine PySem.W.kla_callFunE hr.depth at1 rfl L.co L.gen rfl ⟨c', oc, vs, t, rfl, q1, q2, q3⟩ ?_
    rw [hbind]
    refine wpAny_pure (wpAny_newFunctionEnv (fun y hy => (L.own y hy).2) (fun y hy => absurd hy (by simp)) (fun h₁ hns hsb => ⟨J1.nolimit.fresh _ hsb, ?_⟩) L.kind)
    show codeAny _ _ (.expr body (LamX.lamEnv X scope s1.heap.objs.size f c')) _ _
    have kp : ∀ b o, s1.heap.get? b = some o → h₁.get? b = some o := fun b o e => hsb.extBut b o (Nat.ne_of_lt (Heap.lt_size e)) (Heap.get?_push_of_some _ e)
    have J0 := LamX.lam_start2 (E := E) (f := f) (c' := c') (A := X.A.deeper (envOfC qg sg s.heap.objs.size g cdg)) (tk := s1.toks + ([] : List (Str × Value)).length) I L J1.env0 hr.hd un hns kp
    have J : L2.Inv (lamN X (X.A.deeper (envOfC qg sg s.heap.objs.size g cdg)) (envOfC qg sg s.heap.objs.size g cdg :: X.stack) s1 H1 E scope f c') [] σ H1 { s1 with heap := h₁, toks := s1.toks + ([] : List (Str × Value)).length } := J0.toTry _
    refine PySem.W.kla_codeExpr (wpAny_mono ((hbody _ _ s1 H1 (hr.deeper _)).run [] _ _ H1 Q J ht) (fun v s' ⟨w', H', J', rv, q⟩ => ⟨w', H', J'.os, J'.bare, J'.base, J'.hok, rv, q⟩) fun e s' hq => hq)
  have hx : Passes (L2N.CX X.prog X.w) ((cxOf CXg X.prog X.w X.K X.mg X.base Ng qg sg g cdg X.A X.stack s H Eg).tr pn xe) E := L2N.passes_call tk hW
  refine wpAny_call (codeAny_mono rc fun r s' hq => ?_)
  cases r with
  | error e => exact hx pinsZ σZ H1 s1 e s' J1 hq
  | ok fl =>
    cases fl with
    | ret u => exact J1.after hq
    | next => exact hq.elim
    | brk => exact hq.elim
    | cont => exact hq.elim⟩
end SWH
set_option Elab.async false
set_option linter.all false
set_option maxRecDepth 100000
set_option maxHeartbeats 2000000
/-! SWBase: data trees over the heap, owned lists, mirrored expressions and statements. -/
namespace SW
open PySem PySem.Spec PyProof.Rows L2
abbrev D := PyData
/-- a slot's abstract state: unknown, data that stands for good, a list of one's own (io: the caller's), a raw value -/
inductive SV where
  | un
  | pl (d : D)
  | own (io : Bool) (ds : List D)
  | raw (v : V)
abbrev En := List SV
structure Ex where
  cls : Str
  fs : List (Str × D) := []
inductive R (α : Type) where
  | ok (a : α) (ρ : En)
  | err (x : Ex) (ρ : En)
  | bad
abbrev AM (α : Type) := En → R α
def R.bind {α β : Type} (r : R α) (f : α → En → R β) : R β := match r with
  | .ok a ρ => f a ρ
  | .err x ρ => .err x ρ
  | .bad => .bad
@[simp] theorem R.bind_ok {α β : Type} {a : α} {ρ : En} {f : α → En → R β} : (R.ok a ρ).bind f = f a ρ := rfl
@[simp] theorem R.bind_err {α β : Type} {x : Ex} {ρ : En} {f : α → En → R β} : (R.err x ρ).bind f = .err x ρ := rfl
@[simp] theorem R.bind_bad {α β : Type} {f : α → En → R β} : (R.bad : R α).bind f = .bad := rfl

/-! ### data in a heap -/
mutual
theorem dp_mono {K : PySem.W.Frag} {H H' : Hp} (e : Same H H') : ∀ (d : PyData) (v : V), Dp K H v d → Dp K H' v d
  | .none, _, h => by cases h; exact .non
  | .bool b, _, h => by cases h; exact .bl b
  | .int i, _, h => by cases h; exact .int i
  | .str x, _, h => by cases h; exact .str x
  | .list ds, _, h => by
    cases h with
    | lst hs ha =>
      refine .lst ?_ (dpAll_mono e ds _ ha)
      rcases hs with (h | ⟨o, h⟩) | h
      · exact .inl (.inl (e _ _ h))
      · exact .inl (.inr ⟨o, e _ _ h⟩)
      · exact .inr h
  | .tuple ds, _, h => by
    cases h with
    | tup hs ha =>
      refine .tup ?_ (dpAll_mono e ds _ ha)
      rcases hs with (h | ⟨o, h⟩) | h
      · exact .inl (.inl (e _ _ h))
      · exact .inl (.inr ⟨o, e _ _ h⟩)
      · exact .inr h
  | .dict _, _, h => by cases h
theorem dpAll_mono {K : PySem.W.Frag} {H H' : Hp} (e : Same H H') : ∀ (ds : List PyData) (vs : List V), DpAll K H vs ds → DpAll K H' vs ds
  | [], _, h => by cases h; exact .nil
  | d :: ds, _, h => by
    cases h with
    | cons h1 h2 => exact .cons (dp_mono e d _ h1) (dpAll_mono e ds _ h2)
end
end SW
namespace L2
open PySem PySem.Spec PyProof.Rows
section
variable {K : PySem.W.Frag} {H : Hp}
theorem DpAll.len : ∀ {vs : List V} {ds : List PyData}, DpAll K H vs ds → vs.length = ds.length
  | _, _, .nil => rfl
  | _, _, .cons _ t => congrArg (· + 1) (DpAll.len t)
theorem DpAll.app : ∀ {vs us : List V} {ds es : List PyData}, DpAll K H vs ds → DpAll K H us es → DpAll K H (vs ++ us) (ds ++ es)
  | _, _, _, _, .nil, h => h
  | _, _, _, _, .cons a t, h => .cons a (DpAll.app t h)
theorem DpAll.get : ∀ {vs : List V} {ds : List PyData} {i : Nat} {d : PyData}, DpAll K H vs ds → ds[i]? = some d → ∃ v, vs[i]? = some v ∧ Dp K H v d
  | _, _, _, _, .nil, e => by simp at e
  | _, _, 0, _, .cons a _, e => by simp at e; subst e; exact ⟨_, rfl, a⟩
  | _, _, i + 1, _, .cons _ t, e => by
    obtain ⟨v, h1, h2⟩ := DpAll.get (i := i) t (by simpa using e)
    exact ⟨v, by simpa using h1, h2⟩
theorem DpAll.take : ∀ {vs : List V} {ds : List PyData} (n : Nat), DpAll K H vs ds → DpAll K H (vs.take n) (ds.take n)
  | _, _, 0, _ => .nil
  | _, _, _ + 1, .nil => .nil
  | _, _, n + 1, .cons a t => .cons a (DpAll.take n t)
theorem DpAll.drop : ∀ {vs : List V} {ds : List PyData} (n : Nat), DpAll K H vs ds → DpAll K H (vs.drop n) (ds.drop n)
  | _, _, 0, h => h
  | _, _, _ + 1, .nil => .nil
  | _, _, n + 1, .cons _ t => DpAll.drop n t
theorem DpAll.set {v : V} {d : PyData} (r : Dp K H v d) : ∀ {vs : List V} {ds : List PyData} (i : Nat), DpAll K H vs ds → DpAll K H (vs.set i v) (ds.set i d)
  | _, _, _, .nil => .nil
  | _, _, 0, .cons _ t => .cons r t
  | _, _, i + 1, .cons a t => .cons a (DpAll.set r i t)
theorem DpAll.rep {vs : List V} {ds : List PyData} (h : DpAll K H vs ds) : ∀ k : Nat, DpAll K H (List.replicate k vs).flatten (List.replicate k ds).flatten
  | 0 => .nil
  | k + 1 => by
    rw [List.replicate_succ, List.replicate_succ, List.flatten_cons, List.flatten_cons]
    exact h.app (DpAll.rep h k)
theorem DpAll.ints : ∀ {vs : List V} {ns : List Int}, DpAll K H vs (ns.map PyData.int) → vs = ns.map V.int
  | _, [], h => by cases h; rfl
  | _, n :: r, h => by
    cases h with
    | cons a t =>
      cases a
      rw [DpAll.ints t]
      rfl
theorem DpAll.of_ints : ∀ ns : List Int, DpAll K H (ns.map V.int) (ns.map PyData.int)
  | [] => .nil
  | n :: r => .cons (.int n) (DpAll.of_ints r)
theorem DpAll.bls : ∀ {vs : List V} {bs : List Bool}, DpAll K H vs (bs.map PyData.bool) → vs = bs.map V.bl
  | _, [], h => by cases h; rfl
  | _, n :: r, h => by
    cases h with
    | cons a t =>
      cases a
      rw [DpAll.bls t]
      rfl
theorem DpAll.nil_iff {vs : List V} {ds : List PyData} (h : DpAll K H vs ds) : vs = [] ↔ ds = [] := by
  cases h with
  | nil => simp
  | cons a t => simp
end
end L2
namespace SW
open PySem PySem.Spec PyProof.Rows L2
section
variable {K : PySem.W.Frag} {H : Hp}
/-- what an operand is: data that stands for good, or a list that is borrowed -/
def DpB (K : PySem.W.Frag) (G H : Hp) (v : V) (d : D) : Prop := Dp K G v d ∨ ∃ a vs ds, v = .ref a ∧ d = .list ds ∧ H a = some (.lst vs) ∧ DpAll K G vs ds
theorem DpB.list {G : Hp} {v : V} {ds : List D} (s : Same G H) (h : DpB K G H v (.list ds)) : ∃ a vs, v = .ref a ∧ SqL K H a vs ∧ DpAll K G vs ds := by
  rcases h with h | ⟨a, vs, ds', rfl, e, h, q⟩
  · cases h with
    | lst hs ha => exact ⟨_, _, rfl, s.seq hs, ha⟩
  · cases e
    exact ⟨a, vs, rfl, .inl (.inl h), q⟩
theorem _root_.L2.Same.seqT {H' : Hp} {a : Addr} {xs : List V} (e : Same H H') (h : SqT K H a xs) : SqT K H' a xs := by
  rcases h with (h | ⟨o, h⟩) | h
  · exact .inl (.inl (e _ _ h))
  · exact .inl (.inr ⟨o, e _ _ h⟩)
  · exact .inr h
theorem DpB.tup {G : Hp} {v : V} {ds : List D} (s : Same G H) (h : DpB K G H v (.tuple ds)) : ∃ a vs, v = .ref a ∧ SqT K H a vs ∧ DpAll K G vs ds := by
  rcases h with h | ⟨a, vs, ds', rfl, e, h, q⟩
  · cases h with
    | tup hs ha => exact ⟨_, _, rfl, Same.seqT s hs, ha⟩
  · cases e
theorem DpB.deep {G : Hp} {v : V} {d : D} (s : Same G H) (h : DpB K G H v d) : Dp K H v d := by
  rcases h with h | ⟨a, vs, ds, rfl, rfl, h, q⟩
  · exact dp_mono s _ _ h
  · exact .lst (.inl (.inl h)) (dpAll_mono s _ _ q)
theorem DpB.int {G : Hp} {v : V} {i : Int} (h : DpB K G H v (.int i)) : v = .int i := by
  rcases h with h | ⟨a, vs, ds, _, e, _⟩
  · cases h; rfl
  · cases e
theorem DpB.bool {G : Hp} {v : V} {i : Bool} (h : DpB K G H v (.bool i)) : v = .bl i := by
  rcases h with h | ⟨a, vs, ds, _, e, _⟩
  · cases h; rfl
  · cases e
theorem DpB.str {G : Hp} {v : V} {i : Str} (h : DpB K G H v (.str i)) : v = .str i := by
  rcases h with h | ⟨a, vs, ds, _, e, _⟩
  · cases h; rfl
  · cases e
theorem DpB.none {G : Hp} {v : V} (h : DpB K G H v .none) : v = .non := by
  rcases h with h | ⟨a, vs, ds, _, e, _⟩
  · cases h; rfl
  · cases e
inductive DpBs (K : PySem.W.Frag) (G H : Hp) : List V → List D → Prop
  | nil : DpBs K G H [] []
  | cons {v : V} {d : D} {vs : List V} {ds : List D} : DpB K G H v d → DpBs K G H vs ds → DpBs K G H (v :: vs) (d :: ds)
end

/-! ### the tables of code objects (LamX): which, by a class -/
class Tab where
  T : List (Addr × Str)
  /-- where the exception lies that is handled -/
  ad : Addr := 0
def notTbl (o : HO) : Prop := ∀ ps, o ≠ .tbl ps
/-- what may stand for good: no table, and a tuple only with its object in sight, which has no dict -/
def goodO : HO → Prop
  | .tbl _ => False
  | .tup _ => False
  | .frz ob (.tup _) => ob.dict = none
  | _ => True
theorem goodO.nt {o : HO} (h : goodO o) : notTbl o := fun ps e => by subst e; exact h
structure TabOk [Tab] (H : Hp) : Prop where
  ok : LamX.Tabs Tab.T H
theorem nt_lst {xs : List V} : notTbl (.lst xs) := fun _ z => nomatch z
theorem TabOk.upd [Tab] {H : Hp} {p : Addr} {o : HO} (t : TabOk H) (h : H p = none) (no : notTbl o) : TabOk (upd H p o) :=
  ⟨t.ok.ext fun b x e => by
    rw [upd_ne (ne_of_none e h)]
    exact e⟩
theorem TabOk.lst [Tab] {H : Hp} {p : Addr} {xs ys : List V} (t : TabOk H) (h : H p = some (.lst xs)) : TabOk (L2.upd H p (.lst ys)) := by
  refine ⟨fun q hq => ?_⟩
  obtain ⟨ps, h1, h2, h3⟩ := t.ok q hq
  refine ⟨ps, by rw [upd_ne fun z => by rw [z, h] at h1; cases h1]; exact h1, h2, fun pos cv hc => ?_⟩
  obtain ⟨c, e1, e2⟩ := h3 pos cv hc
  refine ⟨c, e1, ?_⟩
  rw [upd_ne fun z => by rw [z, h] at e2; unfold LamX.CodeO at e2; cases e2]
  exact e2
variable [Tab]
/-! ### the state -/
def Owned (ρ : En) (σ : L2.St) (a : Addr) : Prop := ∃ (i : Nat) (io : Bool) (ds : List D), ρ[i]? = some (.own io ds) ∧ σ[i]? = some (some (.ref a))
structure ER (K : PySem.W.Frag) (ρ : En) (σ : L2.St) (H G : Hp) : Prop where
  len : ρ.length = σ.length
  sub : Same G H
  pl : ∀ (i : Nat) d, ρ[i]? = some (.pl d) → ∃ v, σ[i]? = some (some v) ∧ Dp K G v d
  own : ∀ (i : Nat) io ds, ρ[i]? = some (.own io ds) → ∃ a vs, σ[i]? = some (some (.ref a)) ∧ G a = none ∧ H a = some (.lst vs) ∧ DpAll K G vs ds
  inj : ∀ (i j : Nat) io ds io' ds' a, ρ[i]? = some (.own io ds) → ρ[j]? = some (.own io' ds') → σ[i]? = some (some (.ref a)) → σ[j]? = some (some (.ref a)) → i = j
  raw : ∀ (i : Nat) v, ρ[i]? = some (.raw v) → σ[i]? = some (some (.ref Tab.ad))
  tabs : TabOk H
  ng : ∀ b o, G b = some o → goodO o
structure Step (ρ : En) (σ : L2.St) (H G : Hp) (ρ' : En) (σ' : L2.St) (H' G' : Hp) : Prop where
  sg : Same G G'
  keep : ∀ b o, H b = some o → notTbl o → ¬ Owned ρ σ b → H' b = some o ∧ G' b = G b
  there : ∀ b, H' b = none → H b = none
  osub : ∀ b, Owned ρ' σ' b → Owned ρ σ b ∨ H b = none
  io : ∀ (i : Nat) ds', ρ'[i]? = some (.own true ds') → ∃ ds, ρ[i]? = some (.own true ds) ∧ σ'[i]? = σ[i]?
  ln : ρ'.length = ρ.length
theorem Step.refl {ρ : En} {σ : L2.St} {H G : Hp} : Step ρ σ H G ρ σ H G := ⟨Same.refl _, fun _ _ h _ _ => ⟨h, rfl⟩, fun _ h => h, fun _ h => .inl h, fun _ ds h => ⟨ds, h, rfl⟩, rfl⟩
theorem Step.trans {ρ ρ1 ρ2 : En} {σ σ1 σ2 : L2.St} {H G H1 G1 H2 G2 : Hp} (a : Step ρ σ H G ρ1 σ1 H1 G1) (b : Step ρ1 σ1 H1 G1 ρ2 σ2 H2 G2) : Step ρ σ H G ρ2 σ2 H2 G2 where
  sg := a.sg.trans b.sg
  keep := fun c o h nt n => by
    obtain ⟨h1, g1⟩ := a.keep c o h nt n
    have n1 : ¬ Owned ρ1 σ1 c := fun z => by
      rcases a.osub c z with z | z
      · exact n z
      · rw [h] at z; cases z
    obtain ⟨h2, g2⟩ := b.keep c o h1 nt n1
    exact ⟨h2, g2.trans g1⟩
  there := fun c h => a.there c (b.there c h)
  osub := fun c z => by
    rcases b.osub c z with z | z
    · exact a.osub c z
    · exact .inr (a.there c z)
  io := fun i ds' h => by
    obtain ⟨ds1, h1, e1⟩ := b.io i ds' h
    obtain ⟨ds, h2, e2⟩ := a.io i ds1 h1
    exact ⟨ds, h2, e1.trans e2⟩
  ln := b.ln.trans a.ln
theorem ng_upd {G : Hp} {p : Addr} {o : HO} (h : ∀ b o, G b = some o → goodO o) (no : goodO o) : ∀ b u, upd G p o b = some u → goodO u := fun b u e => by
  by_cases hb : b = p
  · rw [hb, upd_same] at e
    rw [← Option.some.inj e]
    exact no
  · rw [upd_ne hb] at e
    exact h b u e
/-- the object at p is new and stands for good -/
theorem same_new {H : Hp} {p : Addr} {o : HO} (h : H p = none) : Same H (upd H p o) := fun b x e => by
  rw [upd_ne (ne_of_none e h)]
  exact e
theorem sub_none {G H : Hp} {p : Addr} (s : Same G H) (h : H p = none) : G p = none := by
  cases e : G p with
  | none => rfl
  | some o => rw [s p o e] at h; cases h
section
variable {K : PySem.W.Frag} {ρ : En} {σ : L2.St} {H G : Hp} {p : Addr} {o : HO}
theorem ER.owned (er : ER K ρ σ H G) {a : Addr} (h : Owned ρ σ a) : (∃ vs, H a = some (.lst vs)) ∧ G a = none := by
  obtain ⟨i, io, ds, h1, h2⟩ := h
  obtain ⟨a', vs, h3, h4, h5, _⟩ := er.own i io ds h1
  rw [h2] at h3
  cases h3
  exact ⟨⟨vs, h5⟩, h4⟩
theorem ER.new (er : ER K ρ σ H G) (h : H p = none) (nt : goodO o := by exact trivial) : ER K ρ σ (upd H p o) (upd G p o) := by
  have gp := sub_none er.sub h
  refine ⟨er.len, fun b x e => ?_, fun i d e => ?_, fun i io ds e => ?_, er.inj, er.raw, er.tabs.upd h nt.nt, ng_upd er.ng nt⟩
  · by_cases hb : b = p
    · subst hb; rw [upd_same] at e ⊢; exact e
    · rw [upd_ne hb] at e ⊢; exact er.sub _ _ e
  · obtain ⟨v, h1, h2⟩ := er.pl i d e
    exact ⟨v, h1, dp_mono (same_new gp) _ _ h2⟩
  · obtain ⟨a, vs, h1, h2, h3, h4⟩ := er.own i io ds e
    have ne : a ≠ p := ne_of_none h3 h
    exact ⟨a, vs, h1, by rw [upd_ne ne]; exact h2, by rw [upd_ne ne]; exact h3, dpAll_mono (same_new gp) _ _ h4⟩
theorem ER.stepNew (er : ER K ρ σ H G) (h : H p = none) : Step ρ σ H G ρ σ (upd H p o) (upd G p o) := by
  refine ⟨same_new (sub_none er.sub h), fun b x e _ _ => ?_, fun b e => ?_, fun b z => .inl z, fun i ds e => ⟨ds, e, rfl⟩, rfl⟩
  · rw [upd_ne (ne_of_none e h), upd_ne (ne_of_none e h)]
    exact ⟨e, rfl⟩
  · by_cases hb : b = p
    · rw [hb]; exact h
    · rw [upd_ne hb] at e; exact e
/-- .. new, but nobody's yet -/
theorem ER.lay (er : ER K ρ σ H G) (h : H p = none) (nt : notTbl o := by exact fun _ z => nomatch z) : ER K ρ σ (upd H p o) G := by
  refine ⟨er.len, er.sub.trans (same_new h), er.pl, fun i io ds e => ?_, er.inj, er.raw, er.tabs.upd h nt, er.ng⟩
  obtain ⟨a, vs, h1, h2, h3, h4⟩ := er.own i io ds e
  exact ⟨a, vs, h1, h2, by rw [upd_ne (ne_of_none h3 h)]; exact h3, h4⟩
theorem ER.stepLay (er : ER K ρ σ H G) (h : H p = none) : Step ρ σ H G ρ σ (upd H p o) G := by
  refine ⟨Same.refl _, fun b x e _ _ => ?_, fun b e => ?_, fun b z => .inl z, fun i ds e => ⟨ds, e, rfl⟩, rfl⟩
  · rw [upd_ne (ne_of_none e h)]
    exact ⟨e, rfl⟩
  · by_cases hb : b = p
    · rw [hb]; exact h
    · rw [upd_ne hb] at e; exact e
end

/-! ### what is raised -/
structure ExR (K : PySem.W.Frag) (x : Ex) (c : Value) (dx : Option Addr) (H : Hp) : Prop where
  cls : c = .ref (He.ga K x.cls)
  none : x.fs = [] → dx = none
  some : x.fs ≠ [] → ∃ a fv, dx = some a ∧ H a = some (.xd fv) ∧ fv.map (·.1) = x.fs.map (·.1) ∧ DpAll K H (fv.map (·.2)) (x.fs.map (·.2))

/-! ### readings -/
def Out {α : Type} (K : PySem.W.Frag) (E : WX) (r : R α) (ρ : En) (σ : L2.St) (H G : Hp) (Z : α → En → Hp → Hp → Prop) : Prop := match r with
  | .ok a ρ' => ∀ H' G', ER K ρ' σ H' G' → Step ρ σ H G ρ' σ H' G' → Z a ρ' H' G'
  | .err x ρ' => ∀ c dx H' G', ER K ρ' σ H' G' → Step ρ σ H G ρ' σ H' G' → ExR K x c dx H' → E c dx σ H'
  | .bad => False
theorem Out.shift {α : Type} {K : PySem.W.Frag} {E : WX} {r : R α} {ρ ρ1 : En} {σ : L2.St} {H G H1 G1 : Hp} {Z : α → En → Hp → Hp → Prop} (h : Out K E r ρ σ H G Z) (s : Step ρ σ H G ρ1 σ H1 G1) : Out K E r ρ1 σ H1 G1 Z := by
  cases r with
  | ok a ρ' => exact fun H' G' e t => h H' G' e (s.trans t)
  | err x ρ' => exact fun c dx H' G' e t => h c dx H' G' e (s.trans t)
  | bad => exact h
theorem Out.imp {α : Type} {K : PySem.W.Frag} {E : WX} {r : R α} {ρ : En} {σ : L2.St} {H G : Hp} {Z Z' : α → En → Hp → Hp → Prop} (h : Out K E r ρ σ H G Z) (f : ∀ a ρ' H' G', ER K ρ' σ H' G' → Step ρ σ H G ρ' σ H' G' → Z a ρ' H' G' → Z' a ρ' H' G') : Out K E r ρ σ H G Z' := by
  cases r with
  | ok a ρ' => exact fun H' G' e t => f _ _ _ _ e t (h H' G' e t)
  | err x ρ' => exact h
  | bad => exact h
/-- the first part, then the rest -/
theorem Out.split {α β : Type} {K : PySem.W.Frag} {E : WX} {r : R α} {f : α → En → R β} {ρ : En} {σ : L2.St} {H G : Hp} {Z : β → En → Hp → Hp → Prop} (h : Out K E (r.bind f) ρ σ H G Z) :
    Out K E r ρ σ H G (fun a ρ1 H1 G1 => Out K E (f a ρ1) ρ1 σ H1 G1 Z) := by
  cases r with
  | ok a ρ1 => exact fun H1 G1 e t => Out.shift h t
  | err x ρ1 => exact h
  | bad => exact h
abbrev AE := AM D
def ZE (K : PySem.W.Frag) (Q : VK) : D → En → Hp → Hp → Prop := fun d _ H' G' => ∀ v, Dp K G' v d → Q v H'
def tX (K : PySem.W.Frag) (E : WX) (f : AE) : TE := fun σ H Q => ∃ ρ G, ER K ρ σ H G ∧ Out K E (f ρ) ρ σ H G (ZE K Q)
/-- an expression whose value is a list just made, nobody's yet -/
def ZF (K : PySem.W.Frag) (σ : L2.St) (H0 : Hp) (Q : VK) : List D → En → Hp → Hp → Prop := fun ds ρ' H' G' => ∀ a vs, H0 a = none → G' a = none → H' a = some (.lst vs) → ¬ Owned ρ' σ a → DpAll K G' vs ds → Q (.ref a) H'
def tF (K : PySem.W.Frag) (E : WX) (f : AM (List D)) : TE := fun σ H Q => ∃ ρ G, ER K ρ σ H G ∧ Out K E (f ρ) ρ σ H G (ZF K σ H Q)
def tXT (K : PySem.W.Frag) (E : WX) (f : AM Bool) : TT := fun σ H Q => ∃ ρ G, ER K ρ σ H G ∧ Out K E (f ρ) ρ σ H G (fun b _ H' _ => Q b H')
theorem _root_.L2.PE.imp {X : Cx} {e : Expr} {t t' : TE} (h : PE X e t) (i : ∀ σ H Q, t' σ H Q → t σ H Q) : PE X e t' := ⟨fun pins s σ H Q I hw => h.run pins s σ H Q I (i σ H Q hw)⟩
theorem _root_.L2.PT.imp {X : Cx} {e : Expr} {t t' : TT} (h : PT X e t) (i : ∀ σ H Q, t' σ H Q → t σ H Q) : PT X e t' := ⟨fun pins s σ H Q I hw => h.run pins s σ H Q I (i σ H Q hw)⟩
theorem _root_.L2.PS.imp {X : Cx} {e : Stmt} {t t' : TS} (h : PS X e t) (i : ∀ D σ H, t' D σ H → t D σ H) : PS X e t' := ⟨fun pins s σ H D I hw => h.run pins s σ H D I (i D σ H hw)⟩
theorem _root_.L2.PSs.imp {X : Cx} {e : List Stmt} {t t' : TS} (h : PSs X e t) (i : ∀ D σ H, t' D σ H → t D σ H) : PSs X e t' := ⟨fun pins s σ H D I hw => h.run pins s σ H D I (i D σ H hw)⟩
theorem _root_.L2.PA.imp {X : Cx} {e : List Expr} {t t' : TA} (h : PA X e t) (i : ∀ σ H Q, t' σ H Q → t σ H Q) : PA X e t' := ⟨fun pos pins s σ H Q I hw => h.run pos pins s σ H Q I (i σ H Q hw)⟩
abbrev EV (X : Cx) (E : WX) (e : Expr) (f : AE) : Prop := PE X e (tX X.K E f)
abbrev EF (X : Cx) (E : WX) (e : Expr) (f : AM (List D)) : Prop := PE X e (tF X.K E f)
abbrev ET (X : Cx) (E : WX) (e : Expr) (f : AM Bool) : Prop := PT X e (tXT X.K E f)

/-! ### freezing an owned list, names, constants -/
def getSlot (ρ : En) (i : Nat) : SV := match ρ[i]? with
  | some v => v
  | none => .un
def setSlot (ρ : En) (i : Nat) (v : SV) : En := ρ.set i v
theorem getSlot_pl {ρ : En} {i : Nat} {d : D} (h : getSlot ρ i = .pl d) : ρ[i]? = some (.pl d) := by
  unfold getSlot at h
  split at h
  · rename_i v e; rw [e, h]
  · cases h
theorem getSlot_own {ρ : En} {i : Nat} {io : Bool} {ds : List D} (h : getSlot ρ i = .own io ds) : ρ[i]? = some (.own io ds) := by
  unfold getSlot at h
  split at h
  · rename_i v e; rw [e, h]
  · cases h
theorem getSlot_raw {ρ : En} {i : Nat} {v : V} (h : getSlot ρ i = .raw v) : ρ[i]? = some (.raw v) := by
  unfold getSlot at h
  split at h
  · rename_i v e; rw [e, h]
  · cases h
theorem set_get {ρ : En} {i j : Nat} {v w : SV} (h : (ρ.set i v)[j]? = some w) : (j = i ∧ w = v ∧ i < ρ.length) ∨ (j ≠ i ∧ ρ[j]? = some w) := by
  by_cases e : j = i
  · subst e
    by_cases hl : j < ρ.length
    · rw [List.getElem?_set_self hl] at h
      exact .inl ⟨rfl, (Option.some.inj h).symm, hl⟩
    · rw [List.getElem?_eq_none (by simpa using hl)] at h
      cases h
  · rw [List.getElem?_set_ne (Ne.symm e)] at h
    exact .inr ⟨e, h⟩
section
variable {K : PySem.W.Frag} {ρ : En} {σ : L2.St} {H G : Hp}
/-- an owned list stands for good from now on -/
theorem ER.freeze (er : ER K ρ σ H G) {i : Nat} {io : Bool} {ds : List D} (h : ρ[i]? = some (.own io ds)) :
    ∃ (a : Addr) (G' : Hp), σ[i]? = some (some (.ref a)) ∧ ER K (ρ.set i (.pl (.list ds))) σ H G' ∧ Step ρ σ H G (ρ.set i (.pl (.list ds))) σ H G' ∧ Dp K G' (.ref a) (.list ds) := by
  obtain ⟨a, vs, h1, h2, h3, h4⟩ := er.own i io ds h
  have sg : Same G (upd G a (.lst vs)) := same_new h2
  have dp : Dp K (upd G a (.lst vs)) (.ref a) (.list ds) := .lst (.inl (.inl upd_same)) (dpAll_mono sg _ _ h4)
  refine ⟨a, upd G a (.lst vs), h1, ⟨by simpa using er.len, fun b x e => ?_, fun j d e => ?_, fun j jo es e => ?_, fun j k jo es ko fs b e1 e2 q1 q2 => ?_, fun j v e => ?_, er.tabs, ng_upd er.ng trivial⟩, ⟨sg, fun b o e _ n => ⟨e, ?_⟩, fun _ e => e, fun b z => .inl ?_, fun j es e => ?_, by simp⟩, dp⟩
  · by_cases hb : b = a
    · subst hb; rw [upd_same] at e; cases e; exact h3
    · rw [upd_ne hb] at e; exact er.sub _ _ e
  · rcases set_get e with ⟨rfl, e, _⟩ | ⟨_, e⟩
    · cases e; exact ⟨_, h1, dp⟩
    · obtain ⟨v, q1, q2⟩ := er.pl j d e
      exact ⟨v, q1, dp_mono sg _ _ q2⟩
  · rcases set_get e with ⟨rfl, e, _⟩ | ⟨hj, e⟩
    · cases e
    · obtain ⟨b, ws, q1, q2, q3, q4⟩ := er.own j jo es e
      have ne : b ≠ a := fun z => hj (er.inj _ _ _ _ _ _ b e h q1 (by rw [z]; exact h1))
      exact ⟨b, ws, q1, by rw [upd_ne ne]; exact q2, q3, dpAll_mono sg _ _ q4⟩
  · rcases set_get e1 with ⟨rfl, e1, _⟩ | ⟨_, e1⟩
    · cases e1
    · rcases set_get e2 with ⟨rfl, e2, _⟩ | ⟨_, e2⟩
      · cases e2
      · exact er.inj _ _ _ _ _ _ b e1 e2 q1 q2
  · rcases set_get e with ⟨rfl, e, _⟩ | ⟨_, e⟩
    · cases e
    · exact er.raw j v e
  · refine upd_ne fun z => n ?_
    rw [z]
    exact ⟨i, io, ds, h, h1⟩
  · obtain ⟨j, jo, es, e, q⟩ := z
    rcases set_get e with ⟨rfl, e, _⟩ | ⟨_, e⟩
    · cases e
    · exact ⟨j, jo, es, e, q⟩
  · rcases set_get e with ⟨rfl, e, _⟩ | ⟨_, e⟩
    · cases e
    · exact ⟨es, e, rfl⟩
end
/-- a name read for its value: a list of one's own is given away -/
def eV (i : Nat) : AE := fun ρ => match getSlot ρ i with
  | .pl d => .ok d ρ
  | .own _ ds => .ok (.list ds) (setSlot ρ i (.pl (.list ds)))
  | _ => .bad
def eC (d : D) : AE := fun ρ => .ok d ρ
section
variable {X : Cx} {E : WX} {pos : Pos}
theorem v_name {i : Nat} {x : Str} (hN : X.N[i]? = some x) (hv : Vis X.env.scope x) (hd : (x == ("__debug__" : Str)) = false := by decide) (hcd : (x == ("__classdict__" : Str)) = false := by decide) : EV X E (.Name x pos) (eV i) := by
  refine PE.imp (pe_var hN hv hd hcd) fun σ H Q ⟨ρ, G, er, h⟩ => ?_
  unfold eV at h
  split at h
  · rename_i d e
    obtain ⟨v, h1, h2⟩ := er.pl i d (getSlot_pl e)
    exact ⟨v, h1, h H G er .refl v h2⟩
  · rename_i io ds e
    obtain ⟨a, G', h1, er', st, dp⟩ := er.freeze (getSlot_own e)
    exact ⟨_, h1, h H G' er' st _ dp⟩
  · exact h.elim
theorem v_int {i : Int} {j} : EV X E (.Constant (.int i) j pos) (eC (.int i)) := PE.imp pe_int fun σ H Q ⟨ρ, G, er, h⟩ => h H G er .refl _ (.int i)
theorem v_bl {b : Bool} {j} : EV X E (.Constant (.bool b) j pos) (eC (.bool b)) := PE.imp pe_bl fun σ H Q ⟨ρ, G, er, h⟩ => h H G er .refl _ (.bl b)
theorem v_non {j} : EV X E (.Constant .none j pos) (eC .none) := PE.imp pe_non fun σ H Q ⟨ρ, G, er, h⟩ => h H G er .refl _ .non
theorem v_str {x : Str} {j} : EV X E (.Constant (.str x) j pos) (eC (.str x)) := PE.imp pe_str fun σ H Q ⟨ρ, G, er, h⟩ => h H G er .refl _ (.str x)
/-- a module's number or text -/
theorem v_gint {x : Str} {i : Int} (hg : Gl X x) (hm : ∃ t, X.mg x = some (.int i t)) (hd : (x == ("__debug__" : Str)) = false := by decide) : EV X E (.Name x pos) (eC (.int i)) := by
  obtain ⟨t, hm⟩ := hm
  exact PE.imp (pe_glob (v := .int i) hg hm ⟨t, rfl⟩ hd) fun σ H Q ⟨ρ, G, er, h⟩ => h H G er .refl _ (.int i)
theorem v_gstr {x : Str} {i : Str} (hg : Gl X x) (hm : ∃ t, X.mg x = some (.str i t)) (hd : (x == ("__debug__" : Str)) = false := by decide) : EV X E (.Name x pos) (eC (.str i)) := by
  obtain ⟨t, hm⟩ := hm
  exact PE.imp (pe_glob (v := .str i) hg hm ⟨t, rfl⟩ hd) fun σ H Q ⟨ρ, G, er, h⟩ => h H G er .refl _ (.str i)
end
end SW
set_option Elab.async false
set_option linter.all false
set_option maxRecDepth 100000
set_option maxHeartbeats 2000000
/-! SWTup: tuples made, with their objects in sight (no dict on them). -/
namespace L2
open PySem PySem.Spec PyProof.Rows
section
variable {X : Cx} {es : List Expr} {t : TA} {pos : Pos} {pins : List (Addr × Obj)} {σ : St} {H : Hp} {s : Shared}
/-- a tuple just made -/
def NewT (ys : List V) (H : Hp) (Q : VK) : Prop := ∀ p ob, ob.dict = none → H p = none → Q (.ref p) (upd H p (.frz ob (.tup ys)))
theorem newT_push {ys : List V} {its : List Value} {Q : VK} (I : Inv X pins σ H s) (r : Vals ys its) (hz : ys.length ≤ sizeLine) (q : NewT ys H Q) :
    EP X pins σ Q (.ref s.heap.objs.size) { s with heap := s.heap.push { cls := .type "tuple", data := .seq its.toArray } } := by
  have g : (s.heap.push { cls := .type "tuple", data := .seq its.toArray }).get? s.heap.objs.size = some { cls := .type "tuple", data := .seq its.toArray } := Heap.get?_push_size _ rfl
  exact ⟨.ref s.heap.objs.size, _, I.laid (t' := s.toks) (o := .frz { cls := .type "tuple", data := .seq its.toArray } (.tup ys)) (fun b ob q => Heap.get?_push_of_some _ q) (Nat.le_refl _) ⟨g, hz, its, r, ⟨_, g, rfl, _, rfl⟩⟩, rfl, q _ _ rfl (I.hok.fresh (Nat.le_refl _))⟩
def tTupF (t : TA) : TE := fun σ H Q => t σ H fun xs H1 => xs.length ≤ sizeLine ∧ NewT xs H1 Q
theorem pe_tupF {x1} (h : PA X es t) : PE X (.Tuple es x1 pos) (tTupF t) := by
  refine ⟨fun pins s σ H Q I hq => ?_⟩
  refine wpAny_Tuple_spliced (thn (h.run pos pins s σ H _ I hq) fun us s1 ⟨xs, H1, I1, r, z, q⟩ => ⟨by rw [← r.length]; exact z, ?_⟩)
  exact newT_push I1 r z q
variable {e : Expr} {te : St → Hp → (Int → Int → Hp → Prop) → Prop}
def tTupRgF (te : St → Hp → (Int → Int → Hp → Prop) → Prop) : TE := fun σ H Q => te σ H fun a b H1 => RgOk a b ∧ NewT (rgV a b) H1 Q
theorem pe_tupRgF {p pos : Pos} (hc : X.calm = true) (hg : Gl X "tuple") (hm : X.mg "tuple" = none) (he : PRg X e te) (na : starEach [e] X.env = (false, eval e X.env) :: starEach [] X.env := by rfl) : PE X (.Call (.Name "tuple" p) [e] [] pos) (tTupRgF te) := by
  refine ⟨fun pins s σ H Q I h => ?_⟩
  refine Call_ (ld_blt I hg hm boot_tuple (PyProof.Rows.callWith_type1 (args_cons (thn (he pins s σ H _ I h) fun x s1 ⟨r, a, b, t, u, v, H1, ex, hr, I1, ok, q⟩ => args_nil ?_) na) na))
  subst ex
  obtain ⟨b1, b2, b3, b4, b5⟩ := ok
  refine call_tuple_range (n := (b - a).toNat) (I1.ok.hd hc) hr (small_one b1 b2 b3 b4) (rangeSize_nat a b) b5 fun h' tk acc hk hi => ?_
  have I2 : Inv X pins σ H1 { s1 with heap := h', toks := tk } := I1.kept hk
  have w := newT_push (its := acc.toList) I2 (vals_rg hi) (by rw [rgV_length, sizeLine_eq]; omega) q
  rw [Array.toArray_toList] at w
  exact w
def rCatF (K : PySem.W.Frag) : R2 := fun x y H Q => ∃ a b xs ys, x = .ref a ∧ y = .ref b ∧ SqT K H a xs ∧ SqT K H b ys ∧ xs.length + ys.length ≤ sizeLine ∧
  (xs = [] → Q (.ref b) H) ∧ (xs ≠ [] → ys = [] → Q (.ref a) H) ∧ (xs ≠ [] → ys ≠ [] → NewT (xs ++ ys) H Q)
theorem op_catF : OpR X (binaryOp .Add) (rCatF X.K) := by
  intro pins s σ H x y v u Q I rx ry h
  obtain ⟨a, b, xs, ys, rfl, rfl, ha, hb, hz, q0, q1, q2⟩ := h
  by_cases hx : xs = []
  · exact op_catA pins s σ H _ _ v u Q I rx ry ⟨a, b, xs, ys, rfl, rfl, ha, hb, hz, q0, q1, fun z => (z hx).elim⟩
  · cases rx
    cases ry
    obtain ⟨its, r1, p1, _⟩ := I.tuple ha
    obtain ⟨its2, r2, p2, _⟩ := I.tuple hb
    refine HT.cat_tup p1 p2 (fun z => hx (r1.nil_iff.mp z)) (fun z => ⟨.ref a, H, I, rfl, q1 hx (r2.nil_iff.mp z)⟩) (fun z => ?_) (by rw [← r1.length, ← r2.length]; exact hz)
    exact newT_push I (r1.append r2) (by rw [List.length_append]; exact hz) (q2 hx fun w => z (r2.nil_iff.mpr w))
def rSlF (K : PySem.W.Frag) : V → Option Int → Option Int → Hp → VK → Prop := fun x lo hi H Q => ∃ a xs, x = .ref a ∧ SqT K H a xs ∧
  (HT.sIx xs.length 0 lo = 0 ∧ HT.sIx xs.length xs.length hi = xs.length → Q (.ref a) H) ∧ (¬ (HT.sIx xs.length 0 lo = 0 ∧ HT.sIx xs.length xs.length hi = xs.length) → NewT (cutV xs lo hi) H Q)
theorem sl_tupF : SlR X (rSlF X.K) := by
  intro pins s σ H x v vl vu lo hi sl Q I rx hs pl pu h
  obtain ⟨a, xs, rfl, hx, q1, q2⟩ := h
  by_cases hw : HT.sIx xs.length 0 lo = 0 ∧ HT.sIx xs.length xs.length hi = xs.length
  · exact sl_tupA pins s σ H _ v vl vu lo hi sl Q I rx hs pl pu ⟨a, xs, rfl, hx, q1, fun z => (z hw).elim⟩
  · cases rx
    obtain ⟨its, r, ht, hz⟩ := I.tuple hx
    have hlen : its.toArray.size = xs.length := by rw [List.size_toArray]; exact r.length.symm
    refine ⟨"tuple", _, PyProof.Rows.slot_tuple_getitem.lookup, ht.typeIs, ?_⟩
    refine HT.getItem_tuple_cut ht hs pl pu (by rw [hlen]; exact hw) ?_ (by rw [hlen]; exact hz)
    rw [hlen]
    exact newT_push I ((r.drop (HT.sIx xs.length 0 lo)).take (HT.sIx xs.length xs.length hi - HT.sIx xs.length 0 lo)) (Nat.le_trans (cutV_length xs lo hi) hz) (q2 hw)
theorem call_tupleF : CallR X (.type "tuple") (fun xs H Q => ∃ p ys, xs = [.ref p] ∧ ((SqL X.K H p ys ∧ NewT ys H Q) ∨ (SqT X.K H p ys ∧ Q (.ref p) H))) := by
  intro pins s σ H xs us Q I r h
  obtain ⟨p, ys, rfl, h⟩ := h
  obtain ⟨u, rfl, rx⟩ := vals1 r
  cases rx
  rcases h with ⟨hq, q⟩ | ⟨hq, q⟩
  · obtain ⟨its, r', pl, hz⟩ := I.list hq
    have hlen := r'.length
    refine call_tuple_list pl.isList (fun h' kp => ?_) (by simp only [List.size_toArray] <;> omega)
    have I1 : Inv X pins σ H { s with heap := h' } := I.kept (t' := s.toks) kp
    exact newT_push I1 r' hz q
  · obtain ⟨its, r', pl, hz⟩ := I.tuple hq
    exact call_tuple_same pl ⟨.ref p, H, I, rfl, q⟩
theorem tuple_mul_same (l : Addr) (items : Array Value) (n : Nat) (dd : Option Addr) (sl : Array (Option Value)) (x : Int) (u : Tok) (c0 : (decide (x < -(2 ^ 63)) || decide (x ≥ 2 ^ 63)) = false) (c1 : (items.isEmpty || x == 1) = true) :
    Meets (Builtin.«tuple.__mul__» ⟨[.ref l, .int x u], []⟩) (fun _ R s => s.heap.get? l = some { cls := .type "tuple", dict := dd, data := .seq items n, slots := sl } ∧ R (.ok (.ret (Value.ref l))) s) :=
  .of_wp fun prog w A R s h => by
    obtain ⟨hp, g, d, tk, os⟩ := s
    obtain ⟨hl, h⟩ := h
    have f1 := AutoSeq1.idx_int
    wp_walk using wpAny_loadPart' hl
    repeat (first
      | (refine wpAny_ite_false (decide_eq_false (by rw [c0]; exact Bool.false_ne_true)) ?_; wp_walk using wpAny_loadPart' hl)
      | (refine wpAny_ite_true (decide_eq_true (by rw [c1])) ?_; wp_walk using wpAny_loadPart' hl))
    exact ⟨_, rfl, h⟩
theorem tuple_mul_zero (l : Addr) (items : Array Value) (n : Nat) (dd : Option Addr) (sl : Array (Option Value)) (x : Int) (u : Tok) (c0 : (decide (x < -(2 ^ 63)) || decide (x ≥ 2 ^ 63)) = false) (c1 : (items.isEmpty || x == 1) = false) (c2 : (decide (x ≤ 0) || items.isEmpty) = true) :
    Meets (Builtin.«tuple.__mul__» ⟨[.ref l, .int x u], []⟩) (fun _ R s => s.heap.get? l = some { cls := .type "tuple", dict := dd, data := .seq items n, slots := sl } ∧
      R (.ok (.ret (Value.ref s.heap.objs.size))) { s with heap := s.heap.push { cls := Value.type "tuple", data := Data.seq #[] }, toks := s.toks }) :=
  .of_wp fun prog w A R s h => by
    obtain ⟨hp, g, d, tk, os⟩ := s
    obtain ⟨hl, h⟩ := h
    have f1 := AutoSeq1.idx_int
    wp_walk using wpAny_loadPart' hl
    repeat (first
      | (refine wpAny_ite_false (decide_eq_false (by rw [c0]; exact Bool.false_ne_true)) ?_; wp_walk using wpAny_loadPart' hl)
      | (refine wpAny_ite_false (decide_eq_false (by rw [c1]; exact Bool.false_ne_true)) ?_; wp_walk using wpAny_loadPart' hl)
      | (refine wpAny_ite_true (decide_eq_true (by rw [c2])) ?_; wp_walk using wpAny_loadPart' hl))
    exact ⟨_, rfl, h⟩
def rRepF (K : PySem.W.Frag) : R2 := fun x y H Q => ∃ l k xs, x = .ref l ∧ y = .int k ∧ SqT K H l xs ∧ -1000 ≤ k ∧ k ≤ 1000 ∧ xs.length ≤ 1000 ∧ ((xs = [] ∨ k = 1) → Q (.ref l) H) ∧ (xs ≠ [] → k ≠ 1 → NewT (List.replicate k.toNat xs).flatten H Q)
theorem op_repF : OpR X (binaryOp .Mult) (rRepF X.K) := by
  intro pins s σ H x y v u Q I rx ry h
  obtain ⟨l, k, xs, rfl, rfl, hT, h1, h2, hz, q1, q2⟩ := h
  cases rx
  obtain ⟨t, rfl⟩ := ry
  obtain ⟨its, r, ⟨⟨cls, dd, data, sl⟩, ho, hc, n, hd⟩, hs⟩ := I.tuple hT
  simp only at hc hd
  subst hc hd
  have hle : its.length = xs.length := r.length.symm
  have hsz0 : its.toArray.size = xs.length := by rw [List.size_toArray, hle]
  have hm : ((its.toArray.size : Nat) : Int) * k ≤ 1000000 := by
    rw [hsz0]
    by_cases hk : 0 ≤ k
    · have a1 : ((xs.length : Nat) : Int) * k ≤ 1000 * k := Int.mul_le_mul_of_nonneg_right (by omega) (by omega)
      omega
    · have a1 : ((xs.length : Nat) : Int) * k ≤ 0 := Int.mul_nonpos_of_nonneg_of_nonpos (by omega) (by omega)
      omega
  have flen : (List.replicate k.toNat its).flatten.length ≤ sizeLine := by
    rw [PyProof.Rows.lm_len_rep_flat, hle, sizeLine_eq]
    have a1 : k.toNat * xs.length ≤ 1000 * 1000 := Nat.mul_le_mul (by omega) hz
    omega
  have c0 : (decide (k < -(2 ^ 63)) || decide (k ≥ 2 ^ 63)) = false := by
    rw [decide_eq_false (by omega), decide_eq_false (by omega)] <;> rfl
  have c4 : Builtin.Tuple.tupleTooMany (((its.toArray.size : Nat) : Int) * k) = false := by
    unfold Builtin.Tuple.tupleTooMany
    rw [sizeLine_eq]
    exact decide_eq_false (by omega)
  refine wpAny_binaryOp_repeat_ref (T := "tuple") (U := "int") (by decide) ⟨_, ho, rfl⟩ (fun s' => typeIs_int s' k t) noFill_tuple_mul F.fills_int_mul F.slot_int_rmul repeat_tuple F.slot_int_index.lookup
    (call_meets F.slot_int_rmul (typeIs_int s k t) F.entry_int_rmul (F.args_int_rmul_2 _ _) (int_rmul_tuple k t l its.toArray n dd sl)
      ⟨ho, rfl, ⟨_, ho, rfl⟩, ?_⟩)
  by_cases hx : xs = [] ∨ k = 1
  · have c1 : (its.toArray.isEmpty || k == 1) = true := by
      rcases hx with h | h
      · have : its = [] := List.eq_nil_of_length_eq_zero (by rw [hle, h]; rfl)
        subst this
        rfl
      · subst h
        rw [show ((1 : Int) == 1) = true from rfl, Bool.or_true]
    exact call_meets F.slot_tuple_mul ⟨_, ho, rfl⟩ F.entry_tuple_mul (F.args_tuple_mul_2 _ _) (tuple_mul_same l its.toArray n dd sl k t c0 c1) ⟨ho, ⟨.ref l, H, I, rfl, q1 hx⟩⟩
  · have hne : xs ≠ [] := fun h => hx (.inl h)
    have hk1 : k ≠ 1 := fun h => hx (.inr h)
    have hn : its ≠ [] := fun e => hne (by
      rw [e] at hle
      exact List.eq_nil_of_length_eq_zero hle.symm)
    have hi : its.toArray.isEmpty = false := by
      cases its with
      | nil => exact absurd rfl hn
      | cons a b => rfl
    have c1 : (its.toArray.isEmpty || k == 1) = false := by
      rw [hi, Bool.false_or]
      exact beq_eq_false_iff_ne.mpr hk1
    by_cases hk : k ≤ 0
    · have c2 : (decide (k ≤ 0) || its.toArray.isEmpty) = true := by rw [decide_eq_true hk, Bool.true_or]
      refine call_meets F.slot_tuple_mul ⟨_, ho, rfl⟩ F.entry_tuple_mul (F.args_tuple_mul_2 _ _) (tuple_mul_zero l its.toArray n dd sl k t c0 c1 c2) ⟨ho, ?_⟩
      have q := q2 hne hk1
      rw [show k.toNat = 0 by omega] at q
      exact newT_push (its := []) I .nil (Nat.zero_le _) q
    · have c2 : (decide (k ≤ 0) || its.toArray.isEmpty) = false := by
        rw [hi, Bool.or_false]
        exact decide_eq_false hk
      refine call_meets F.slot_tuple_mul ⟨_, ho, rfl⟩ F.entry_tuple_mul (F.args_tuple_mul_2 _ _) (tuple_mulW l its.toArray n dd sl k t c0 c1 c2 (by omega) c4 (by rw [size_rep, List.size_toArray]; exact flen)) ⟨ho, ?_⟩
      rw [size_rep]
      exact newT_push I (r.rep k.toNat) (by rw [PyProof.Rows.lm_len_rep_flat, sizeLine_eq]; have a1 : k.toNat * xs.length ≤ 1000 * 1000 := Nat.mul_le_mul (by omega) hz; omega) (q2 hne hk1)
/-! ### a method of a tuple whose object has no dict -/
def tyT (K : PySem.W.Frag) (x : V) (H : Hp) : Prop := ∃ p ob, x = .ref p ∧ ob.dict = none ∧ ((∃ xs, H p = some (.frz ob (.tup xs))) ∨ (K.lookup p = some ob ∧ ob.cls = .type "tuple"))
theorem tyT_is {v : Value} {x : V} (I : Inv X pins σ H s) (r : RelV x v) (ty : tyT X.K x H) : s.TypeIs v "tuple" ∧ ∀ a, v = .ref a → ∃ ob, s.heap.get? a = some ob ∧ ob.dict = none := by
  obtain ⟨p, ob, rfl, hd, h⟩ := ty
  cases r
  rcases h with ⟨xs, h⟩ | ⟨h, hc⟩
  · obtain ⟨e, _, its, _, o, e2, c, _⟩ := I.hok p _ h
    exact ⟨⟨o, e2, c⟩, fun a ea => by cases ea; exact ⟨ob, e, hd⟩⟩
  · exact ⟨⟨ob, I.kIn p ob h, hc⟩, fun a ea => by cases ea; exact ⟨ob, I.kIn _ ob h, hd⟩⟩
/-- the type of x for its methods: as HandS tells it, or a tuple -/
def tyV2 (K : PySem.W.Frag) (T : String) (x : V) (H : Hp) : Prop := tyV K T x H ∨ (T = "tuple" ∧ tyT K x H)
theorem tyV2_is {v : Value} {x : V} {T : String} (I : Inv X pins σ H s) (r : RelV x v) (ty : tyV2 X.K T x H) : s.TypeIs v T ∧ ∀ a, v = .ref a → ∃ ob, s.heap.get? a = some ob ∧ ob.dict = none := by
  rcases ty with h | ⟨rfl, h⟩
  · exact tyV_is I r h
  · exact tyT_is I r h
def tBM2 (K : PySem.W.Frag) (T : String) (r : V → List V → Hp → VK → Prop) (to : TE) (t : TA) : TE := fun σ H Q => to σ H fun x H1 => tyV2 K T x H1 ∧ t σ H1 fun xs H2 => r x xs H2 Q
variable {o : Expr} {to : TE} {name : Str} {apos cpos : Pos} {T id : String} {r : V → List V → Hp → VK → Prop}
theorem pe_bm2 (pa : PlainAttrs T) (slot : Slot T name id) (hty : typeOf (.builtin id) = pure (.type "method_descriptor")) (hm : MtR X id r) (ho : PE X o to) (ha : PA X (e :: es) t)
    (hbase : attributeBase o name X.env (eval o X.env) = eval o X.env := by rfl)
    (hfew : ((backTo cpos (starEach (e :: es) X.env)).all (fun x => !x.1) && (backToKw cpos (keywordEach [] X.env)).all (fun x => x.1.isSome)
      && decide ((e :: es).length + ([] : List Keyword).length + (if ([] : List Keyword).isEmpty then 0 else 1) < 30)) = true := by rfl)
    (hline : (apos.endLine == cpos.line) = true := by rfl) (hs : starEach (e :: es) X.env = (false, eval e X.env) :: starEach es X.env := by rfl) (hplain : (backTo cpos (starEach es X.env)).any (·.1) = false := by rfl) :
    PE X (.Call (.Attribute o name apos) (e :: es) [] cpos) (tBM2 X.K T r to t) := by
  refine ⟨fun pins s σ H Q I h => ?_⟩
  refine wpAny_Call_method_late hbase hfew hline rfl (thn (ho.run pins s σ H _ I h) fun v s1 ⟨x, H1, I1, r1, ty, q1⟩ => ?_)
  obtain ⟨h1, h2⟩ := tyV2_is I1 r1 ty
  refine ⟨T, id, pa, slot, hty, h1, h2, ?_⟩
  have hA := ha.run cpos pins s1 σ H1 _ I1 q1
  rw [hs] at hA ⊢
  refine Calls.callWith_builtin (by show (false || (backTo cpos (starEach es X.env)).any (·.1)) = false; rw [hplain] <;> rfl) (Calls.evalArgs_plain ?_)
  exact thn hA fun us s2 ⟨vs, H2, I2, r2, q2⟩ => hm pins s2 σ H2 x vs v us Q I2 r1 r2 q2
end
end L2
set_option Elab.async false
set_option linter.all false
set_option maxRecDepth 100000
set_option maxHeartbeats 2000000
/-! SWExpr: operands, operations by values, calls of built-ins, control. -/
namespace SW
open PySem PySem.Spec PyProof.Rows L2
variable [Tab]
/-- an operand: an expression, or a list of one's own that is borrowed (its slot) -/
inductive Opd where
  | ex (f : AE)
  | br (i : Nat)
inductive OV where
  | val (d : D)
  | slot (i : Nat)
def Opd.ev : Opd → AM OV
  | .ex f => fun ρ => (f ρ).bind fun d ρ' => .ok (.val d) ρ'
  | .br i => fun ρ => match getSlot ρ i with
    | .pl _ => .ok (.slot i) ρ
    | .own _ _ => .ok (.slot i) ρ
    | _ => .bad
def OV.get (ρ : En) : OV → Option D
  | .val d => some d
  | .slot i => match getSlot ρ i with
    | .pl d => some d
    | .own _ ds => some (.list ds)
    | _ => none
def getAll (ρ : En) : List OV → Option (List D)
  | [] => some []
  | v :: vs => match v.get ρ with
    | some d => (match getAll ρ vs with
      | some ds => some (d :: ds)
      | none => none)
    | none => none
def evs : List Opd → AM (List OV)
  | [] => fun ρ => .ok [] ρ
  | o :: os => fun ρ => (o.ev ρ).bind fun v ρ1 => (evs os ρ1).bind fun vs ρ2 => .ok (v :: vs) ρ2
def tO (K : PySem.W.Frag) (E : WX) : Opd → TE
  | .ex f => tX K E f
  | .br i => tVar i
abbrev EO (X : Cx) (E : WX) (e : Expr) (o : Opd) : Prop := PE X e (tO X.K E o)
def ORel (K : PySem.W.Frag) (σ : L2.St) (G : Hp) (v : V) : OV → Prop
  | .val d => Dp K G v d
  | .slot i => σ[i]? = some (some v)
inductive ORels (K : PySem.W.Frag) (σ : L2.St) (G : Hp) : List V → List OV → Prop
  | nil : ORels K σ G [] []
  | cons {v : V} {o : OV} {vs : List V} {os : List OV} : ORel K σ G v o → ORels K σ G vs os → ORels K σ G (v :: vs) (o :: os)
theorem ORel.mono {K : PySem.W.Frag} {σ : L2.St} {G G' : Hp} (s : Same G G') {v : V} {o : OV} (h : ORel K σ G v o) : ORel K σ G' v o := by
  cases o with
  | val d => exact dp_mono s _ _ h
  | slot i => exact h
theorem ORels.mono {K : PySem.W.Frag} {σ : L2.St} {G G' : Hp} (s : Same G G') : ∀ {vs : List V} {os : List OV}, ORels K σ G vs os → ORels K σ G' vs os
  | _, _, .nil => .nil
  | _, _, .cons a t => .cons (a.mono s) (ORels.mono s t)
theorem ORel.get {K : PySem.W.Frag} {ρ : En} {σ : L2.St} {H G : Hp} (er : ER K ρ σ H G) {v : V} {o : OV} {d : D} (h : ORel K σ G v o) (e : o.get ρ = some d) : DpB K G H v d := by
  cases o with
  | val d' => cases e; exact .inl h
  | slot i =>
    have h : σ[i]? = some (some v) := h
    unfold OV.get at e
    dsimp only at e
    split at e
    · rename_i d' q
      cases e
      obtain ⟨u, h1, h2⟩ := er.pl i d (getSlot_pl q)
      rw [h] at h1
      cases h1
      exact .inl h2
    · rename_i io ds q
      cases e
      obtain ⟨a, vs, h1, h2, h3, h4⟩ := er.own i io ds (getSlot_own q)
      rw [h] at h1
      cases h1
      exact .inr ⟨a, vs, ds, rfl, rfl, h3, h4⟩
    · cases e
theorem ORels.get {K : PySem.W.Frag} {ρ : En} {σ : L2.St} {H G : Hp} (er : ER K ρ σ H G) : ∀ {vs : List V} {os : List OV} {ds : List D}, ORels K σ G vs os → getAll ρ os = some ds → DpBs K G H vs ds
  | _, _, _, .nil, e => by cases e; exact .nil
  | _, _, _, .cons (o := o) (os := os) a t, e => by
    unfold getAll at e
    cases q : o.get ρ with
    | none => rw [q] at e; cases e
    | some d =>
      rw [q] at e
      dsimp only at e
      cases q2 : getAll ρ os with
      | none => rw [q2] at e; cases e
      | some ds' =>
        rw [q2] at e
        cases e
        exact .cons (a.get er q) (ORels.get er t q2)
section
variable {K : PySem.W.Frag} {E : WX} {ρ : En} {σ : L2.St} {H G : Hp}
/-- one operand, then the rest -/
theorem opd_step {β : Type} {o : Opd} {k : OV → En → R β} {Z : β → En → Hp → Hp → Prop} {Q : VK} (er : ER K ρ σ H G) (h : Out K E ((o.ev ρ).bind k) ρ σ H G Z)
    (q : ∀ v ov ρ1 H1 G1, ER K ρ1 σ H1 G1 → Step ρ σ H G ρ1 σ H1 G1 → ORel K σ G1 v ov → Out K E (k ov ρ1) ρ1 σ H1 G1 Z → Q v H1) : tO K E o σ H Q := by
  cases o with
  | ex f =>
    refine ⟨ρ, G, er, ?_⟩
    have h1 : Out K E ((f ρ).bind fun d ρ' => k (.val d) ρ') ρ σ H G Z := by
      have e : ((Opd.ex f).ev ρ).bind k = (f ρ).bind fun d ρ' => k (.val d) ρ' := by
        show ((f ρ).bind _).bind k = _
        cases f ρ <;> rfl
      rw [← e]; exact h
    exact (Out.split h1).imp fun d ρ1 H1 G1 e1 s1 z v dp => q v (.val d) ρ1 H1 G1 e1 s1 dp z
  | br i =>
    unfold Opd.ev at h
    dsimp only at h
    cases e : getSlot ρ i with
    | pl d =>
      rw [e] at h
      obtain ⟨v, h1, _⟩ := er.pl i d (getSlot_pl e)
      exact ⟨v, h1, q v (.slot i) ρ H G er .refl h1 h⟩
    | own io ds =>
      rw [e] at h
      obtain ⟨a, vs, h1, _⟩ := er.own i io ds (getSlot_own e)
      exact ⟨_, h1, q _ (.slot i) ρ H G er .refl h1 h⟩
    | un => rw [e] at h; exact h.elim
    | raw v => rw [e] at h; exact h.elim
end
/-! ### what an operation leaves -/
inductive Grow (G H : Hp) : Hp → Hp → Prop
  | refl : Grow G H G H
  | new {G1 H1 : Hp} (p : Addr) (o : HO) : Grow G H G1 H1 → H1 p = none → (nt : goodO o := by exact trivial) → Grow G H (upd G1 p o) (upd H1 p o)
  | lay {G1 H1 : Hp} (p : Addr) (o : HO) : Grow G H G1 H1 → H1 p = none → (nt : notTbl o := by exact fun _ z => nomatch z) → Grow G H G1 (upd H1 p o)
theorem ER.grow {K : PySem.W.Frag} {ρ : En} {σ : L2.St} {H G H' G' : Hp} (er : ER K ρ σ H G) (g : Grow G H G' H') : ER K ρ σ H' G' ∧ Step ρ σ H G ρ σ H' G' := by
  induction g with
  | refl => exact ⟨er, .refl⟩
  | new p o g h nt ih => exact ⟨ih.1.new h nt, ih.2.trans (ih.1.stepNew h)⟩
  | lay p o g h nt ih => exact ⟨ih.1.lay h nt, ih.2.trans (ih.1.stepLay h)⟩
/-- an operation by values -/
def OpS (K : PySem.W.Frag) (r : List V → Hp → VK → Prop) (F : List D → Option D) : Prop :=
  ∀ vs ds d G H Q, Same G H → DpBs K G H vs ds → F ds = some d → (∀ v H' G', Grow G H G' H' → Dp K G' v d → Q v H') → r vs H Q
def r2 (r : R2) : List V → Hp → VK → Prop := fun vs H Q => ∃ x y, vs = [x, y] ∧ r x y H Q
/-- all operands, then the operation -/
def aOps (F : List D → Option D) (os : List Opd) : AE := fun ρ => (evs os ρ).bind fun vs ρ' => match getAll ρ' vs with
  | some ds => (match F ds with
    | some d => .ok d ρ'
    | none => .bad)
  | none => .bad
section
variable {K : PySem.W.Frag} {E : WX} {ρ : En} {σ : L2.St} {H G : Hp} {F : List D → Option D} {r : List V → Hp → VK → Prop}
theorem ops_end (hs : OpS K r F) {vs : List V} {ovs : List OV} {Q : VK} (er : ER K ρ σ H G) (rel : ORels K σ G vs ovs)
    (h : Out K E (match getAll ρ ovs with | some ds => (match F ds with | some d => R.ok d ρ | none => .bad) | none => .bad) ρ σ H G (ZE K Q)) : r vs H Q := by
  cases e : getAll ρ ovs with
  | none => rw [e] at h; exact h.elim
  | some ds =>
    rw [e] at h
    dsimp only at h
    cases e2 : F ds with
    | none => rw [e2] at h; exact h.elim
    | some d =>
      rw [e2] at h
      refine hs vs ds d G H Q er.sub (rel.get er e) e2 fun v H' G' g dp => ?_
      obtain ⟨er', st⟩ := er.grow g
      exact h H' G' er' st v dp
def tOs (K : PySem.W.Frag) (E : WX) : List Opd → TA
  | [] => tNil
  | o :: os => tCons (tO K E o) (tOs K E os)
abbrev EOs (X : Cx) (E : WX) (es : List Expr) (os : List Opd) : Prop := PA X es (tOs X.K E os)
theorem evs_step {β : Type} {k : List OV → En → R β} {Z : β → En → Hp → Hp → Prop} : ∀ {os : List Opd} {ρ : En} {H G : Hp} {Q : List V → Hp → Prop} (er : ER K ρ σ H G) (h : Out K E ((evs os ρ).bind k) ρ σ H G Z)
    (q : ∀ vs ovs ρ1 H1 G1, ER K ρ1 σ H1 G1 → Step ρ σ H G ρ1 σ H1 G1 → ORels K σ G1 vs ovs → Out K E (k ovs ρ1) ρ1 σ H1 G1 Z → Q vs H1), tOs K E os σ H Q
  | [], ρ, H, G, Q, er, h, q => q [] [] ρ H G er .refl .nil h
  | o :: os, ρ, H, G, Q, er, h, q => by
    have e : (evs (o :: os) ρ).bind k = (o.ev ρ).bind fun v ρ1 => (evs os ρ1).bind fun vs ρ2 => k (v :: vs) ρ2 := by
      show ((o.ev ρ).bind _).bind k = _
      cases o.ev ρ with
      | ok v ρ1 => show ((evs os ρ1).bind _).bind k = (evs os ρ1).bind _; cases evs os ρ1 <;> rfl
      | err x ρ1 => rfl
      | bad => rfl
    rw [e] at h
    refine opd_step er h fun v ov ρ1 H1 G1 er1 s1 rel h1 => ?_
    exact evs_step (k := fun vs ρ2 => k (ov :: vs) ρ2) er1 h1 fun vs ovs ρ2 H2 G2 er2 s2 rels h2 => q (v :: vs) (ov :: ovs) ρ2 H2 G2 er2 (s1.trans s2) (.cons (rel.mono s2.sg) rels) h2
end
section
variable {X : Cx} {E : WX} {pos : Pos} {a b : Expr} {o1 o2 : Opd} {F : List D → Option D}
theorem v_ex {f : AE} (h : EV X E a f) : EO X E a (.ex f) := h
theorem v_br {i : Nat} {x : Str} (hN : X.N[i]? = some x) (hv : Vis X.env.scope x) (hd : (x == ("__debug__" : Str)) = false := by decide) (hcd : (x == ("__classdict__" : Str)) = false := by decide) : EO X E (.Name x pos) (.br i) := pe_var hN hv hd hcd
theorem vs_nil : EOs X E [] [] := pa_nil
theorem vs_cons {e : Expr} {es : List Expr} {o : Opd} {os : List Opd} (ha : EO X E e o) (hr : EOs X E es os) (hs : starEach (e :: es) X.env = (false, eval e X.env) :: starEach es X.env := by rfl) : EOs X E (e :: es) (o :: os) := pa_cons ha hr hs
theorem two_end {r : R2} (hs : OpS X.K (r2 r) F) {ρ : En} {σ : L2.St} {H G : Hp} {Q : VK} (er : ER X.K ρ σ H G) (h : Out X.K E (aOps F [o1, o2] ρ) ρ σ H G (ZE X.K Q)) : tOp r (tO X.K E o1) (tO X.K E o2) σ H Q := by
  have h2 : tOs X.K E [o1, o2] σ H (fun vs H' => r2 r vs H' Q) := evs_step er h fun vs ovs ρ1 H1 G1 er1 s1 rel h1 => ops_end hs er1 rel h1
  have h3 : tO X.K E o1 σ H fun x H1 => tO X.K E o2 σ H1 fun y H2 => r2 r [x, y] H2 Q := h2
  have conv : ∀ (o : Opd) (σ : L2.St) (H : Hp) (Q Q' : VK), (∀ v H', Q v H' → Q' v H') → tO X.K E o σ H Q → tO X.K E o σ H Q' := fun o σ H Q Q' i h => by
    cases o with
    | ex f =>
      obtain ⟨ρ, G, er, h⟩ := h
      exact ⟨ρ, G, er, h.imp fun d ρ' H' G' _ _ z v dp => i _ _ (z v dp)⟩
    | br i' =>
      obtain ⟨v, e, h⟩ := h
      exact ⟨v, e, i _ _ h⟩
  refine conv _ _ _ _ _ (fun x H1 h4 => conv _ _ _ _ _ (fun y H2 h5 => ?_) h4) h3
  obtain ⟨x', y', e, q⟩ := h5
  cases e
  exact q
theorem v_bin {op : Operator} {r : R2} (ho : OpR X (binaryOp op) r) (hs : OpS X.K (r2 r) F) (h1 : EO X E a o1) (h2 : EO X E b o2) : EV X E (.BinOp a op b pos) (aOps F [o1, o2]) :=
  PE.imp (pe_op ho h1 h2) fun σ H Q ⟨ρ, G, er, h⟩ => two_end hs er h
theorem v_cmp {op : CmpOp} {r : R2} (ho : OpR X (compareOp op) r) (hs : OpS X.K (r2 r) F) (h1 : EO X E a o1) (h2 : EO X E b o2) (hm : behindInMarks op b = false) : EV X E (.Compare a [op] [b] pos) (aOps F [o1, o2]) :=
  PE.imp (pe_cmpR ho h1 h2 hm) fun σ H Q ⟨ρ, G, er, h⟩ => two_end hs er h
theorem v_ix {r : R2} (hr : IxR X r) (hs : OpS X.K (r2 r) F) (h1 : EO X E a o1) (h2 : EO X E b o2) (hp : PlainIx b) : EV X E (.Subscript a b pos) (aOps F [o1, o2]) :=
  PE.imp (pe_ix hr h1 h2 hp) fun σ H Q ⟨ρ, G, er, h⟩ => two_end hs er h
theorem v_un {op : UnaryOp} {r : V → Hp → VK → Prop} (ho : UnR X (unaryOp op) r) (hs : OpS X.K (fun vs H Q => ∃ x, vs = [x] ∧ r x H Q) F) (h1 : EO X E a o1) : EV X E (.UnaryOp op a pos) (aOps F [o1]) :=
  PE.imp (pe_un ho h1) fun σ H Q ⟨ρ, G, er, h⟩ => by
    have h2 : tOs X.K E [o1] σ H (fun vs H' => ∃ x, vs = [x] ∧ r x H' Q) := evs_step er h fun vs ovs ρ1 H1 G1 er1 s1 rel h1 => ops_end hs er1 rel h1
    have h3 : tO X.K E o1 σ H fun x H1 => ∃ x', [x] = [x'] ∧ r x' H1 Q := h2
    cases o1 with
    | ex f =>
      obtain ⟨ρ, G, er, h⟩ := h3
      exact ⟨ρ, G, er, h.imp fun d ρ' H' G' _ _ z v dp => by
        obtain ⟨x', e, q⟩ := z v dp
        cases e
        exact q⟩
    | br i' =>
      obtain ⟨v, e, x', e', q⟩ := h3
      cases e'
      exact ⟨v, e, q⟩
theorem v_callB {x : Str} {p : Pos} {id : String} {e : Expr} {es : List Expr} {os : List Opd} {r : List V → Hp → VK → Prop} (hc : CallR X (.builtin id) r) (hs : OpS X.K r F) (hg : Gl X x) (hm : X.mg x = none) (hv : bootBuiltins x = some (.builtin id)) (ha : EOs X E (e :: es) os)
    (hn : x ≠ "__name__" := by decide) (hdb : (x == ("__debug__" : Str)) = false := by decide) (he : starEach (e :: es) X.env = (false, eval e X.env) :: starEach es X.env := by rfl) (hpl : (backTo pos (starEach es X.env)).any (·.1) = false := by rfl) :
    EV X E (.Call (.Name x p) (e :: es) [] pos) (aOps F os) :=
  PE.imp (pe_callB hc hg hm hv ha hn hdb he hpl) fun σ H Q ⟨ρ, G, er, h⟩ => evs_step er h fun vs ovs ρ1 H1 G1 er1 s1 rel h1 => ops_end hs er1 rel h1
theorem v_callT {x : Str} {p : Pos} {T : String} {e : Expr} {es : List Expr} {os : List Opd} {r : List V → Hp → VK → Prop} (hc : CallR X (.type T) r) (hs : OpS X.K r F) (hg : Gl X x) (hm : X.mg x = none) (hv : bootBuiltins x = some (.type T)) (ha : EOs X E (e :: es) os)
    (hn : x ≠ "__name__" := by decide) (hdb : (x == ("__debug__" : Str)) = false := by decide) (he : starEach (e :: es) X.env = (false, eval e X.env) :: starEach es X.env := by rfl) (hpl : (backTo pos (starEach es X.env)).any (·.1) = false := by rfl) :
    EV X E (.Call (.Name x p) (e :: es) [] pos) (aOps F os) :=
  PE.imp (pe_callTy hc hg hm hv ha hn hdb he hpl) fun σ H Q ⟨ρ, G, er, h⟩ => evs_step er h fun vs ovs ρ1 H1 G1 er1 s1 rel h1 => ops_end hs er1 rel h1
/-- x is None -/
def isNone : D → Bool
  | .none => true
  | _ => false
def F_isN : List D → Option D
  | [d] => some (.bool (isNone d))
  | _ => none
def F_notN : List D → Option D
  | [d] => some (.bool (!isNone d))
  | _ => none
theorem dpb_none {K : PySem.W.Frag} {G H : Hp} {v : V} {d : D} (h : DpB K G H v d) : decide (v = .non) = isNone d := by
  rcases h with h | ⟨a, vs, ds, rfl, rfl, _, _⟩
  · cases h <;> rfl
  · rfl
theorem v_isN {p : Pos} {j : Nat} (h1 : EO X E a o1) : EV X E (.Compare a [.Is] [.Constant .none j p] pos) (aOps F_isN [o1]) :=
  PE.imp (pe_cmp (pc_isN h1)) fun σ H Q ⟨ρ, G, er, h⟩ => by
    have h3 : tO X.K E o1 σ H fun x H1 => Q (.bl (decide (x = .non))) H1 := opd_step (k := fun v ρ1 => match getAll ρ1 [v] with | some ds => (match F_isN ds with | some d => R.ok d ρ1 | none => .bad) | none => .bad) (Z := ZE X.K Q) er (by
      have e : aOps F_isN [o1] ρ = (o1.ev ρ).bind (fun v ρ1 => match getAll ρ1 [v] with | some ds => (match F_isN ds with | some d => R.ok d ρ1 | none => .bad) | none => .bad) := by
        unfold aOps evs
        cases o1.ev ρ <;> rfl
      rw [← e]; exact h) fun v ov ρ1 H1 G1 er1 s1 rel h1 => by
        cases e : ov.get ρ1 with
        | none => unfold getAll at h1; rw [e] at h1; exact h1.elim
        | some d =>
          unfold getAll at h1
          rw [e] at h1
          have h2 := h1 H1 G1 er1 .refl (.bl _) (.bl _)
          rw [dpb_none (rel.get er1 e)]
          exact h2
    exact h3
theorem v_notN {p : Pos} {j : Nat} (h1 : EO X E a o1) : EV X E (.Compare a [.IsNot] [.Constant .none j p] pos) (aOps F_notN [o1]) :=
  PE.imp (pe_cmp (pc_notN h1)) fun σ H Q ⟨ρ, G, er, h⟩ => by
    have h3 : tO X.K E o1 σ H fun x H1 => Q (.bl (!decide (x = .non))) H1 := opd_step (k := fun v ρ1 => match getAll ρ1 [v] with | some ds => (match F_notN ds with | some d => R.ok d ρ1 | none => .bad) | none => .bad) (Z := ZE X.K Q) er (by
      have e : aOps F_notN [o1] ρ = (o1.ev ρ).bind (fun v ρ1 => match getAll ρ1 [v] with | some ds => (match F_notN ds with | some d => R.ok d ρ1 | none => .bad) | none => .bad) := by
        unfold aOps evs
        cases o1.ev ρ <;> rfl
      rw [← e]; exact h) fun v ov ρ1 H1 G1 er1 s1 rel h1 => by
        cases e : ov.get ρ1 with
        | none => unfold getAll at h1; rw [e] at h1; exact h1.elim
        | some d =>
          unfold getAll at h1
          rw [e] at h1
          have h2 := h1 H1 G1 er1 .refl (.bl _) (.bl _)
          rw [dpb_none (rel.get er1 e)]
          exact h2
    exact h3
end

/-! ### control -/
def asB (d : D) (ρ : En) : R Bool := match d with
  | .bool b => .ok b ρ
  | _ => .bad
/-- an expression as a test: a bool -/
def aT (f : AE) : AM Bool := fun ρ => (f ρ).bind asB
def aAnd (f g : AE) : AE := fun ρ => (f ρ).bind fun d ρ1 => match d with
  | .bool true => g ρ1
  | .bool false => .ok (.bool false) ρ1
  | _ => .bad
def aOr (f g : AE) : AE := fun ρ => (f ρ).bind fun d ρ1 => match d with
  | .bool true => .ok (.bool true) ρ1
  | .bool false => g ρ1
  | _ => .bad
def aNot (f : AE) : AE := fun ρ => (f ρ).bind fun d ρ1 => match d with
  | .bool b => .ok (.bool (!b)) ρ1
  | _ => .bad
def tAndA (f g : AM Bool) : AM Bool := fun ρ => (f ρ).bind fun b ρ1 => match b with
  | true => g ρ1
  | false => .ok false ρ1
def tOrA (f g : AM Bool) : AM Bool := fun ρ => (f ρ).bind fun b ρ1 => match b with
  | true => .ok true ρ1
  | false => g ρ1
def tNotA (f : AM Bool) : AM Bool := fun ρ => (f ρ).bind fun b ρ1 => .ok (!b) ρ1
def aIf (c : AM Bool) (f g : AE) : AE := fun ρ => (c ρ).bind fun b ρ1 => match b with
  | true => f ρ1
  | false => g ρ1
section
variable {X : Cx} {E : WX} {pos : Pos} {a b c : Expr} {f g : AE} {rest : List Expr}
theorem tx_of {K : PySem.W.Frag} {ρ : En} {σ : L2.St} {H G : Hp} {β : Type} {f : AE} {k : D → En → R β} {Z : β → En → Hp → Hp → Prop} {Q : VK} (er : ER K ρ σ H G) (h : Out K E ((f ρ).bind k) ρ σ H G Z)
    (q : ∀ v d ρ1 H1 G1, ER K ρ1 σ H1 G1 → Step ρ σ H G ρ1 σ H1 G1 → Dp K G1 v d → Out K E (k d ρ1) ρ1 σ H1 G1 Z → Q v H1) : tX K E f σ H Q :=
  ⟨ρ, G, er, (Out.split h).imp fun d ρ1 H1 G1 e1 s1 z v dp => q v d ρ1 H1 G1 e1 s1 dp z⟩
theorem txt_of {K : PySem.W.Frag} {ρ : En} {σ : L2.St} {H G : Hp} {β : Type} {f : AM Bool} {k : Bool → En → R β} {Z : β → En → Hp → Hp → Prop} {Q : Bool → Hp → Prop} (er : ER K ρ σ H G) (h : Out K E ((f ρ).bind k) ρ σ H G Z)
    (q : ∀ d ρ1 H1 G1, ER K ρ1 σ H1 G1 → Step ρ σ H G ρ1 σ H1 G1 → Out K E (k d ρ1) ρ1 σ H1 G1 Z → Q d H1) : tXT K E f σ H Q :=
  ⟨ρ, G, er, (Out.split h).imp fun d ρ1 H1 G1 e1 s1 z => q d ρ1 H1 G1 e1 s1 z⟩
theorem out_tx {K : PySem.W.Frag} {ρ : En} {σ : L2.St} {H G : Hp} {f : AE} {Q : VK} (er : ER K ρ σ H G) (h : Out K E (f ρ) ρ σ H G (ZE K Q)) : tX K E f σ H Q := ⟨ρ, G, er, h⟩
theorem v_and (h1 : EV X E a f) (h2 : EV X E (.BoolOp .And (b :: rest) pos) g) : EV X E (.BoolOp .And (a :: b :: rest) pos) (aAnd f g) :=
  PE.imp (pe_and h1 h2) fun σ H Q ⟨ρ, G, er, h⟩ => tx_of er h fun v d ρ1 H1 G1 er1 s1 dp z => by
    cases d with
    | bool b' =>
      cases dp
      refine ⟨b', rfl, ?_⟩
      cases b' with
      | true => exact out_tx er1 z
      | false => exact z H1 G1 er1 .refl _ (.bl false)
    | _ => exact z.elim
theorem v_or (h1 : EV X E a f) (h2 : EV X E (.BoolOp .Or (b :: rest) pos) g) : EV X E (.BoolOp .Or (a :: b :: rest) pos) (aOr f g) :=
  PE.imp (pe_or h1 h2) fun σ H Q ⟨ρ, G, er, h⟩ => tx_of er h fun v d ρ1 H1 G1 er1 s1 dp z => by
    cases d with
    | bool b' =>
      cases dp
      refine ⟨b', rfl, ?_⟩
      cases b' with
      | true => exact z H1 G1 er1 .refl _ (.bl true)
      | false => exact out_tx er1 z
    | _ => exact z.elim
theorem v_one {op : BoolOp} (h1 : EV X E a f) : EV X E (.BoolOp op [a] pos) f := pe_one h1
theorem v_not (h1 : EV X E a f) : EV X E (.UnaryOp .Not a pos) (aNot f) :=
  PE.imp (pe_not h1) fun σ H Q ⟨ρ, G, er, h⟩ => tx_of er h fun v d ρ1 H1 G1 er1 s1 dp z => by
    cases d with
    | bool b' => cases dp; exact ⟨b', rfl, z H1 G1 er1 .refl _ (.bl _)⟩
    | _ => exact z.elim
theorem v_if {t : AM Bool} (hc : ET X E c t) (h1 : EV X E a f) (h2 : EV X E b g) : EV X E (.IfExp c a b pos) (aIf t f g) :=
  PE.imp (pe_ifExp hc h1 h2) fun σ H Q ⟨ρ, G, er, h⟩ => txt_of er h fun d ρ1 H1 G1 er1 s1 z => by
    cases d with
    | true => exact out_tx er1 z
    | false => exact out_tx er1 z
/-- tests -/
theorem t_val (h1 : EV X E a f) (he : ∀ whole, isTrue a X.env whole = (do let v ← whole; standAt a.pos; holding [v] (truthy v)) := by intro _; rfl) : ET X E a (aT f) :=
  PT.imp (pt_val h1 he) fun σ H Q ⟨ρ, G, er, h⟩ => tx_of er h fun v d ρ1 H1 G1 er1 s1 dp z => by
    cases d with
    | bool b' => cases dp; exact ⟨b', rfl, z H1 G1 er1 .refl⟩
    | _ => exact z.elim
theorem t_cmp {o1 o2 : Opd} {F : List D → Option D} {op : CmpOp} {r : R2} (ho : OpR X (compareOp op) r) (hs : OpS X.K (r2 r) F) (h1 : EO X E a o1) (h2 : EO X E b o2) (hm : behindInMarks op b = false) : ET X E (.Compare a [op] [b] pos) (aT (aOps F [o1, o2])) :=
  PT.imp (pt_cmpR ho h1 h2 hm) fun σ H Q ⟨ρ, G, er, h⟩ => two_end (Q := fun x H' => ∃ k, x = .bl k ∧ Q k H') hs er ((Out.split h).imp fun d ρ1 H1 G1 er1 s1 z v dp => by
    cases d with
    | bool b' => cases dp; exact ⟨b', rfl, z H1 G1 er1 .refl⟩
    | _ => exact z.elim)
theorem tis_core {o1 : Opd} {F : List D → Option D} {g : V → Bool} (hg : ∀ {K : PySem.W.Frag} {G H : Hp} {v : V} {d : D}, DpB K G H v d → F [d] = some (.bool (g v))) {Q : Bool → Hp → Prop} {ρ : En} {σ : L2.St} {H G : Hp} (er : ER X.K ρ σ H G)
    (h : Out X.K E (aT (aOps F [o1]) ρ) ρ σ H G (fun b _ H' _ => Q b H')) : tO X.K E o1 σ H fun x H1 => ∃ k, V.bl (g x) = .bl k ∧ Q k H1 := by
  refine opd_step (k := fun v ρ1 => (match getAll ρ1 [v] with | some ds => (match F ds with | some d => R.ok d ρ1 | none => .bad) | none => .bad).bind asB) (Z := fun b _ H' _ => Q b H') er ?_ fun v ov ρ1 H1 G1 er1 s1 rel h1 => ?_
  · have e : aT (aOps F [o1]) ρ = (o1.ev ρ).bind (fun v ρ1 => (match getAll ρ1 [v] with | some ds => (match F ds with | some d => R.ok d ρ1 | none => .bad) | none => .bad).bind asB) := by
      unfold aT aOps evs
      cases o1.ev ρ <;> rfl
    rw [← e]; exact h
  · cases e : ov.get ρ1 with
    | none => unfold getAll at h1; rw [e] at h1; exact h1.elim
    | some d =>
      unfold getAll at h1
      rw [e] at h1
      dsimp only [getAll] at h1
      rw [hg (rel.get er1 e)] at h1
      exact ⟨_, rfl, h1 H1 G1 er1 .refl⟩
theorem t_isN {o1 : Opd} {p : Pos} {j : Nat} (h1 : EO X E a o1) : ET X E (.Compare a [.Is] [.Constant .none j p] pos) (aT (aOps F_isN [o1])) :=
  PT.imp (pt_cmp (pc_isN h1)) fun σ H Q ⟨ρ, G, er, h⟩ => tis_core (g := fun v => decide (v = .non)) (fun hb => by rw [dpb_none hb]; rfl) er h
theorem t_notN {o1 : Opd} {p : Pos} {j : Nat} (h1 : EO X E a o1) : ET X E (.Compare a [.IsNot] [.Constant .none j p] pos) (aT (aOps F_notN [o1])) :=
  PT.imp (pt_cmp (pc_notN h1)) fun σ H Q ⟨ρ, G, er, h⟩ => tis_core (g := fun v => !decide (v = .non)) (fun hb => by rw [dpb_none hb]; rfl) er h
structure EW (X : Cx) (E : WX) (e : Expr) (f : AM Bool) : Prop where
  run : PW X e (tXT X.K E f)
theorem EW.t {f : AM Bool} (h : EW X E a f) : ET X E a f := PW.pt h.run
theorem PW_imp {X : Cx} {e : Expr} {t t' : TT} (h : PW X e t) (i : ∀ σ H Q, t' σ H Q → t σ H Q) : PW X e t' := ⟨fun wh pins s σ H Q I hw => h.run wh pins s σ H Q I (i σ H Q hw)⟩
theorem w_and1 {f : AM Bool} (h : ET X E a f) : EW X E (.BoolOp .And [a] pos) f := ⟨pw_and1 h⟩
theorem w_or1 {f : AM Bool} (h : ET X E a f) : EW X E (.BoolOp .Or [a] pos) f := ⟨pw_or1 h⟩
theorem out_txt {K : PySem.W.Frag} {ρ : En} {σ : L2.St} {H G : Hp} {f : AM Bool} {Q : Bool → Hp → Prop} (er : ER K ρ σ H G) (h : Out K E (f ρ) ρ σ H G (fun b _ H' _ => Q b H')) : tXT K E f σ H Q := ⟨ρ, G, er, h⟩
theorem w_and {f g : AM Bool} (h1 : ET X E a f) (h2 : EW X E (.BoolOp .And (b :: rest) pos) g) : EW X E (.BoolOp .And (a :: b :: rest) pos) (tAndA f g) :=
  ⟨PW_imp (pw_and h1 h2.run) fun σ H Q ⟨ρ, G, er, h⟩ => txt_of er h fun d ρ1 H1 G1 er1 s1 z => by
    cases d with
    | true => exact out_txt er1 z
    | false => exact z H1 G1 er1 .refl⟩
theorem w_or {f g : AM Bool} (h1 : ET X E a f) (h2 : EW X E (.BoolOp .Or (b :: rest) pos) g) : EW X E (.BoolOp .Or (a :: b :: rest) pos) (tOrA f g) :=
  ⟨PW_imp (pw_or h1 h2.run) fun σ H Q ⟨ρ, G, er, h⟩ => txt_of er h fun d ρ1 H1 G1 er1 s1 z => by
    cases d with
    | true => exact z H1 G1 er1 .refl
    | false => exact out_txt er1 z⟩
theorem t_not {f : AM Bool} (h1 : ET X E a f) : ET X E (.UnaryOp .Not a pos) (tNotA f) :=
  PT.imp (pt_not h1) fun σ H Q ⟨ρ, G, er, h⟩ => txt_of er h fun d ρ1 H1 G1 er1 s1 z => z H1 G1 er1 .refl
/-- a < b < c -/
def aChain (F F' : List D → Option D) (o1 o2 o3 : Opd) : AE := fun ρ => (evs [o1, o2] ρ).bind fun vs ρ1 => match getAll ρ1 vs with
  | some ds => (match F ds with
    | some (.bool true) => (match vs with
      | [_, v] => (o3.ev ρ1).bind fun w ρ2 => (match getAll ρ2 [v, w] with
        | some es => (match F' es with
          | some d => .ok d ρ2
          | none => .bad)
        | none => .bad)
      | _ => .bad)
    | some (.bool false) => .ok (.bool false) ρ1
    | _ => .bad)
  | none => .bad
theorem chain_core {o1 o2 o3 : Opd} {F F' : List D → Option D} {r r' : R2} (hs : OpS X.K (r2 r) F) (hs' : OpS X.K (r2 r') F') {ρ : En} {σ : L2.St} {H G : Hp} {Q : VK} (er : ER X.K ρ σ H G) (h : Out X.K E (aChain F F' o1 o2 o3 ρ) ρ σ H G (ZE X.K Q)) :
    tChain r r' (tO X.K E o1) (tO X.K E o2) (tO X.K E o3) σ H Q := by
  have conv : ∀ (o : Opd) (σ : L2.St) (H : Hp) (Q Q' : VK), (∀ v H', Q v H' → Q' v H') → tO X.K E o σ H Q → tO X.K E o σ H Q' := fun o σ H Q Q' i h => by
    cases o with
    | ex f =>
      obtain ⟨ρ, G, er, h⟩ := h
      exact ⟨ρ, G, er, h.imp fun d ρ' H' G' _ _ z v dp => i _ _ (z v dp)⟩
    | br i' =>
      obtain ⟨v, e, h⟩ := h
      exact ⟨v, e, i _ _ h⟩
  have key : tOs X.K E [o1, o2] σ H (fun vs H2 => ∀ x y, vs = [x, y] → r x y H2 fun z H3 => ∃ k, z = .bl k ∧ (if k = true then tO X.K E o3 σ H3 fun w' H4 => r' y w' H4 Q else Q (.bl false) H3)) := by
    refine evs_step er h fun vs ovs ρ1 H1 G1 er1 s1 rel h1 x y exy => ?_
    subst exy
    cases e : getAll ρ1 ovs with
    | none => rw [e] at h1; exact h1.elim
    | some ds =>
      rw [e] at h1
      dsimp only at h1
      cases e2 : F ds with
      | none => rw [e2] at h1; exact h1.elim
      | some d =>
        rw [e2] at h1
        have hr := hs [x, y] ds d G1 H1 (fun z H3 => ∃ k, z = .bl k ∧ (if k = true then tO X.K E o3 σ H3 fun w' H4 => r' y w' H4 Q else Q (.bl false) H3)) er1.sub (rel.get er1 e) e2 fun v H' G' g dp => by
          obtain ⟨er', st⟩ := er1.grow g
          cases d with
          | bool k =>
            cases dp
            refine ⟨k, rfl, ?_⟩
            cases k with
            | false => exact h1 H' G' er' st _ (.bl false)
            | true =>
              rw [if_pos rfl]
              cases rel with
              | cons ra rt =>
                cases rt with
                | cons rb rt2 =>
                  cases rt2 with
                  | nil =>
                    refine opd_step er' (Out.shift h1 st) fun w ow ρ2 H2 G2 er2 s2 relw h2 => ?_
                    cases e3 : getAll ρ2 [_, ow] with
                    | none => rw [e3] at h2; exact h2.elim
                    | some es =>
                      rw [e3] at h2
                      dsimp only at h2
                      cases e4 : F' es with
                      | none => rw [e4] at h2; exact h2.elim
                      | some d2 =>
                        rw [e4] at h2
                        obtain ⟨y', w'', ee, q⟩ := hs' [y, w] es d2 G2 H2 Q er2.sub (ORels.get er2 (.cons ((rb.mono st.sg).mono s2.sg) (.cons relw .nil)) e3) e4 fun v H' G' g dp => by
                          obtain ⟨er3, st3⟩ := er2.grow g
                          exact h2 H' G' er3 st3 v dp
                        cases ee
                        exact q
          | _ => exact h1.elim
        obtain ⟨x', y', ee, q⟩ := hr
        cases ee
        exact q
  have h4 : tO X.K E o1 σ H fun x H1 => tO X.K E o2 σ H1 fun y H2 => ∀ x' y', [x, y] = [x', y'] → r x' y' H2 fun z H3 => ∃ k, z = .bl k ∧ (if k = true then tO X.K E o3 σ H3 fun w' H4 => r' y' w' H4 Q else Q (.bl false) H3) := key
  exact conv _ _ _ _ _ (fun x H1 h5 => conv _ _ _ _ _ (fun y H2 h6 => h6 x y rfl) h5) h4
theorem v_chain {o1 o2 o3 : Opd} {F F' : List D → Option D} {op op' : CmpOp} {r r' : R2} (ho : OpR X (compareOp op) r) (ho' : OpR X (compareOp op') r') (hs : OpS X.K (r2 r) F) (hs' : OpS X.K (r2 r') F')
    (h1 : EO X E a o1) (h2 : EO X E b o2) (h3 : EO X E c o3) (hm : lastMarks [op, op'] [b, c] = false := by with_unfolding_all rfl) : EV X E (.Compare a [op, op'] [b, c] pos) (aChain F F' o1 o2 o3) := PE.imp (pe_chain ho ho' h1 h2 h3 hm) fun σ H Q ⟨ρ, G, er, h⟩ => chain_core hs hs' er h
theorem t_chain {o1 o2 o3 : Opd} {F F' : List D → Option D} {op op' : CmpOp} {r r' : R2} (ho : OpR X (compareOp op) r) (ho' : OpR X (compareOp op') r') (hs : OpS X.K (r2 r) F) (hs' : OpS X.K (r2 r') F')
    (h1 : EO X E a o1) (h2 : EO X E b o2) (h3 : EO X E c o3) (hm : lastMarks [op, op'] [b, c] = false := by with_unfolding_all rfl) : ET X E (.Compare a [op, op'] [b, c] pos) (aT (aChain F F' o1 o2 o3)) :=
  PT.imp (pt_chain ho ho' h1 h2 h3 hm) fun σ H Q ⟨ρ, G, er, h⟩ => chain_core (Q := fun x H' => ∃ k, x = .bl k ∧ Q k H') hs hs' er ((Out.split h).imp fun d ρ1 H1 G1 er1 s1 z v dp => by
    cases d with
    | bool b' => cases dp; exact ⟨b', rfl, z H1 G1 er1 .refl⟩
    | _ => exact z.elim)
end
end SW
set_option Elab.async false
set_option linter.all false
set_option maxRecDepth 100000
set_option maxHeartbeats 2000000
/-! SWOps: the operations by values. -/
namespace SW
open PySem PySem.Spec PyProof.Rows L2
variable [Tab]
section
variable {X : Cx} {K : PySem.W.Frag}
theorem OpS.or {r r' : List V → Hp → VK → Prop} {F F' G : List D → Option D} (h : OpS K r F) (h' : OpS K r' F') (g : ∀ ds d, G ds = some d → F ds = some d ∨ F' ds = some d) : OpS K (fun vs H Q => r vs H Q ∨ r' vs H Q) G :=
  fun vs ds d G H Q s b e q => by
    rcases g ds d e with e | e
    · exact .inl (h vs ds d G H Q s b e q)
    · exact .inr (h' vs ds d G H Q s b e q)
theorem OpS.or2 {r r' : R2} {F F' G : List D → Option D} (h : OpS K (r2 r) F) (h' : OpS K (r2 r') F') (g : ∀ ds d, G ds = some d → F ds = some d ∨ F' ds = some d) : OpS K (r2 fun x y H Q => r x y H Q ∨ r' x y H Q) G :=
  fun vs ds d G H Q s b e q => by
    rcases g ds d e with e | e
    · obtain ⟨x, y, e1, q⟩ := h vs ds d G H Q s b e q
      exact ⟨x, y, e1, .inl q⟩
    · obtain ⟨x, y, e1, q⟩ := h' vs ds d G H Q s b e q
      exact ⟨x, y, e1, .inr q⟩
theorem dpbs2 {G H : Hp} {vs : List V} {a b : D} (h : DpBs K G H vs [a, b]) : ∃ x y, vs = [x, y] ∧ DpB K G H x a ∧ DpB K G H y b := by
  cases h with
  | cons h1 t =>
    cases t with
    | cons h2 t2 =>
      cases t2
      exact ⟨_, _, rfl, h1, h2⟩
theorem dpbs1 {G H : Hp} {vs : List V} {a : D} (h : DpBs K G H vs [a]) : ∃ x, vs = [x] ∧ DpB K G H x a := by
  cases h with
  | cons h1 t => cases t; exact ⟨_, rfl, h1⟩
/-! ### ints -/
def fII (C : Int → Int → Bool) (g : Int → Int → D) : List D → Option D
  | [.int i, .int j] => if C i j = true then some (g i j) else none
  | _ => none
theorem fII_ok {C : Int → Int → Bool} {g : Int → Int → D} {ds : List D} {d : D} (h : fII C g ds = some d) : ∃ i j, ds = [.int i, .int j] ∧ C i j = true ∧ d = g i j := by
  unfold fII at h
  split at h
  · rename_i i j
    split at h
    · rename_i hc
      cases h
      exact ⟨i, j, rfl, hc, rfl⟩
    · cases h
  · cases h
theorem ops_II {C : Int → Int → Prop} {Cb : Int → Int → Bool} {g : Int → Int → V} {gd : Int → Int → D} (hc : ∀ i j, Cb i j = true → C i j) (hg : ∀ i j (G : Hp), Dp K G (g i j) (gd i j)) : OpS K (r2 (rI C g)) (fII Cb gd) := fun vs ds d G H Q s b e q => by
  obtain ⟨i, j, rfl, h1, rfl⟩ := fII_ok e
  obtain ⟨x, y, rfl, bx, byy⟩ := dpbs2 b
  exact ⟨_, _, rfl, i, j, bx.int, byy.int, hc i j h1, q _ H G .refl (hg i j G)⟩
theorem ops_II0 {g : Int → Int → V} {gd : Int → Int → D} (hg : ∀ i j (G : Hp), Dp K G (g i j) (gd i j)) : OpS K (r2 (rI0 g)) (fII (fun _ _ => true) gd) := fun vs ds d G H Q s b e q => by
  obtain ⟨i, j, rfl, h1, rfl⟩ := fII_ok e
  obtain ⟨x, y, rfl, bx, byy⟩ := dpbs2 b
  exact ⟨_, _, rfl, i, j, bx.int, byy.int, q _ H G .refl (hg i j G)⟩
def F_sub : List D → Option D := fII (fun _ _ => true) fun i j => .int (i - j)
theorem s_sub : OpS K (r2 (rI0 fun i j => .int (i - j))) F_sub := ops_II0 fun i j G => .int _
def big64 (i : Int) : Bool := decide (-18446744073709551616 < i) && decide (i < 18446744073709551616)
theorem big64_ok {i : Int} (h : big64 i = true) : -(2 ^ 64) < i ∧ i < 2 ^ 64 := by
  unfold big64 at h
  simp only [Bool.and_eq_true, decide_eq_true_eq] at h
  exact ⟨by omega, by omega⟩
def F_fdiv : List D → Option D := fII (fun _ j => decide (0 < j) && decide (j < 1073741824)) fun i j => .int (i / j)
theorem s_fdiv : OpS K (r2 (rI CDiv fun i j => .int (i / j))) F_fdiv := ops_II (fun i j h => by
  show 0 < j ∧ j < 1073741824
  simpa using h) fun i j G => .int _
def F_mod : List D → Option D := fII (fun _ j => decide (0 < j)) fun i j => .int (i % j)
theorem s_mod : OpS K (r2 (rI (fun _ j => 0 < j) fun i j => .int (i % j))) F_mod := ops_II (fun i j h => by simpa using h) fun i j G => .int _
def F_pow : List D → Option D := fII (fun i j => decide (0 ≤ j) && (decide (j ≤ 1000000) && decide (i.natAbs < 18446744073709551616))) fun i j => .int (i ^ j.toNat)
theorem s_pow : OpS K (r2 (rI CPow fun i j => .int (i ^ j.toNat))) F_pow := ops_II (fun i j h => by
  simp only [Bool.and_eq_true, decide_eq_true_eq] at h
  exact ⟨h.1, h.2.1, by omega⟩) fun i j G => .int _
def F_neg : List D → Option D
  | [.int i] => some (.int (-i))
  | _ => none
theorem s_neg : OpS K (fun vs H Q => ∃ x, vs = [x] ∧ rU (fun i => .int (-i)) x H Q) F_neg := fun vs ds d G H Q s b e q => by
  unfold F_neg at e
  split at e
  · rename_i i
    cases e
    obtain ⟨x, rfl, bx⟩ := dpbs1 b
    exact ⟨_, rfl, i, bx.int, q _ H G .refl (.int _)⟩
  · cases e
/-! ### + -/
def F_addI : List D → Option D := fII (fun _ _ => true) fun i j => .int (i + j)
def F_addS : List D → Option D
  | [.str a, .str b] => if a.length + b.length ≤ sizeLine then some (.str (a ++ b)) else none
  | _ => none
def F_addL : List D → Option D
  | [.list a, .list b] => if a.length + b.length ≤ sizeLine then some (.list (a ++ b)) else none
  | _ => none
def F_addT : List D → Option D
  | [.tuple a, .tuple b] => if a.length + b.length ≤ sizeLine then some (.tuple (a ++ b)) else none
  | _ => none
def F_add : List D → Option D
  | [.int i, .int j] => some (.int (i + j))
  | [.str a, .str b] => if a.length + b.length ≤ sizeLine then some (.str (a ++ b)) else none
  | [.list a, .list b] => if a.length + b.length ≤ sizeLine then some (.list (a ++ b)) else none
  | [.tuple a, .tuple b] => if a.length + b.length ≤ sizeLine then some (.tuple (a ++ b)) else none
  | _ => none
def rCatL (K : PySem.W.Frag) : R2 := fun x y H Q => ∃ l b xs zs, x = .ref l ∧ y = .ref b ∧ SqL K H l xs ∧ SqL K H b zs ∧ xs.length + zs.length ≤ sizeLine ∧ ∀ p, H p = none → Q (.ref p) (upd H p (.lst (xs ++ zs)))
theorem op_catL : OpR X (binaryOp .Add) (rCatL X.K) := by
  intro pins s σ H x y v u Q I rx ry h
  obtain ⟨l, b, xs, zs, rfl, rfl, hH, hB, hz, q⟩ := h
  cases rx
  cases ry
  obtain ⟨its, r, ⟨⟨cls, dd, data, sl⟩, n, e, hc, hdn, hd⟩, z⟩ := I.list hH
  obtain ⟨its2, r2, ⟨⟨cls2, dd2, data2, sl2⟩, n2, e2, hc2, hdn2, hd2⟩, z2⟩ := I.list hB
  simp only at hc hd hc2 hd2
  subst hc hd hc2 hd2
  have l1 := r.length
  have l2 := r2.length
  refine concat_meets ⟨_, e, rfl⟩ ⟨_, e2, rfl⟩ noFill_list_add seq_list_add PySem.F.slot_list_add PySem.F.entry_list_add (PySem.F.args_list_add_2 _ _) (list_addW l b its.toArray its2.toArray n n2 dd dd2 sl sl2 (by rw [List.size_toArray, List.size_toArray]; omega)) ⟨e, e2, ?_⟩
  have ea : its.toArray ++ its2.toArray = (its ++ its2).toArray := by simp
  rw [ea]
  exact ⟨.ref _, _, I.lnew (t' := s.toks) (r.append r2) (by rw [List.length_append]; omega), rfl, q _ I.fresh⟩
theorem s_addI : OpS K (r2 (rI0 fun i j => .int (i + j))) F_addI := ops_II0 fun i j G => .int _
theorem s_addS : OpS K (r2 fun x y H Q => ∃ i j, x = .str i ∧ y = .str j ∧ i.length + j.length ≤ sizeLine ∧ Q (.str (i ++ j)) H) F_addS := fun vs ds d G H Q s b e q => by
  unfold F_addS at e
  split at e
  · rename_i i j
    split at e
    · rename_i hz
      cases e
      obtain ⟨x, y, rfl, bx, byy⟩ := dpbs2 b
      exact ⟨_, _, rfl, i, j, bx.str, byy.str, hz, q _ H G .refl (.str _)⟩
    · cases e
  · cases e
theorem s_addL : OpS K (r2 (rCatL K)) F_addL := fun vs ds d G H Q s b e q => by
  unfold F_addL at e
  split at e
  · rename_i i j
    split at e
    · rename_i hz
      cases e
      obtain ⟨x, y, rfl, bx, byy⟩ := dpbs2 b
      obtain ⟨a1, v1, rfl, h1, d1⟩ := bx.list s
      obtain ⟨a2, v2, rfl, h2, d2⟩ := byy.list s
      refine ⟨_, _, rfl, a1, a2, v1, v2, rfl, rfl, h1, h2, by rw [d1.len, d2.len]; exact hz, fun p hp => ?_⟩
      exact q _ _ _ (.new p _ .refl hp) (.lst (.inl (.inl upd_same)) (dpAll_mono (same_new (sub_none s hp)) _ _ (d1.app d2)))
    · cases e
  · cases e
theorem s_addT : OpS K (r2 (rCatF K)) F_addT := fun vs ds d G H Q s b e q => by
  unfold F_addT at e
  split at e
  · rename_i i j
    split at e
    · rename_i hz
      cases e
      obtain ⟨x, y, rfl, bx, byy⟩ := dpbs2 b
      have t1 := bx.tup s
      have t2 := byy.tup s
      have dx : Dp K G x (.tuple i) := by
        rcases bx with h | ⟨_, _, _, _, e, _⟩
        · exact h
        · cases e
      have dy : Dp K G y (.tuple j) := by
        rcases byy with h | ⟨_, _, _, _, e, _⟩
        · exact h
        · cases e
      obtain ⟨a1, v1, rfl, h1, d1⟩ := t1
      obtain ⟨a2, v2, rfl, h2, d2⟩ := t2
      refine ⟨_, _, rfl, a1, a2, v1, v2, rfl, rfl, h1, h2, by rw [d1.len, d2.len]; exact hz, fun e0 => ?_, fun e0 e1 => ?_, fun e0 e1 p ob hd hp => ?_⟩
      · have : i = [] := d1.nil_iff.mp e0
        subst this
        exact q _ H G .refl dy
      · have : j = [] := d2.nil_iff.mp e1
        subst this
        refine q _ H G .refl ?_
        rw [List.append_nil]
        exact dx
      · exact q _ _ _ (.new p _ .refl hp hd) (.tup (.inl (.inr ⟨_, upd_same⟩)) (dpAll_mono (same_new (sub_none s hp)) _ _ (d1.app d2)))
    · cases e
  · cases e
def rAddA (K : PySem.W.Frag) : R2 := fun x y H Q => (rI0 (fun i j => .int (i + j)) x y H Q ∨ (∃ i j, x = .str i ∧ y = .str j ∧ i.length + j.length ≤ sizeLine ∧ Q (.str (i ++ j)) H)) ∨ (rCatL K x y H Q ∨ rCatF K x y H Q)
theorem op_addA : OpR X (binaryOp .Add) (rAddA X.K) := (op_add.or op_add_str).or (op_catL.or op_catF)
theorem s_add : OpS K (r2 (rAddA K)) F_add := OpS.or2 (F := fun ds => (F_addI ds).orElse fun _ => F_addS ds) (F' := fun ds => (F_addL ds).orElse fun _ => F_addT ds)
  (OpS.or2 s_addI s_addS fun ds d e => by
    cases h : F_addI ds with
    | none => rw [h] at e; exact .inr e
    | some d' => rw [h] at e; exact .inl e)
  (OpS.or2 s_addL s_addT fun ds d e => by
    cases h : F_addL ds with
    | none => rw [h] at e; exact .inr e
    | some d' => rw [h] at e; exact .inl e)
  fun ds d e => by
    unfold F_add at e
    split at e
    · exact .inl e
    · exact .inl e
    · exact .inr (by unfold F_addL F_addT; dsimp only; rw [e]; rfl)
    · exact .inr e
    · cases e
/-! ### * -/
def F_mulI : List D → Option D := fII (fun i j => big64 i || big64 j) fun i j => .int (i * j)
theorem s_mulI : OpS K (r2 (rI CMul fun i j => .int (i * j))) F_mulI := ops_II (fun i j h => by
  rcases (Bool.or_eq_true _ _).mp h with h | h
  · exact .inl (big64_ok h)
  · exact .inr (big64_ok h)) fun i j G => .int _
def F_mulT : List D → Option D
  | [.tuple a, .int k] => if decide (-1000 ≤ k) && (decide (k ≤ 1000) && decide (a.length ≤ 1000)) then some (.tuple (List.replicate k.toNat a).flatten) else none
  | _ => none
theorem s_mulT : OpS K (r2 (rRepF K)) F_mulT := fun vs ds d G H Q s b e q => by
  unfold F_mulT at e
  split at e
  · rename_i a k
    split at e
    · rename_i hz
      cases e
      simp only [Bool.and_eq_true, decide_eq_true_eq] at hz
      obtain ⟨x, y, rfl, bx, byy⟩ := dpbs2 b
      have t1 := bx.tup s
      have dx : Dp K G x (.tuple a) := by
        rcases bx with h | ⟨_, _, _, _, e, _⟩
        · exact h
        · cases e
      obtain ⟨a1, v1, rfl, h1, d1⟩ := t1
      refine ⟨_, _, rfl, a1, k, v1, rfl, byy.int, h1, hz.1, hz.2.1, by rw [d1.len]; exact hz.2.2, fun z => ?_, fun _ _ p ob hd hp => ?_⟩
      · have e : (List.replicate k.toNat a).flatten = a := by
          rcases z with z | z
          · have : a = [] := d1.nil_iff.mp z
            subst this
            induction k.toNat with
            | zero => rfl
            | succ m ih => rw [List.replicate_succ, List.flatten_cons, ih]; rfl
          · subst z
            show a ++ [] = a
            rw [List.append_nil]
        rw [e] at q
        exact q _ H G .refl dx
      · exact q _ _ _ (.new p _ .refl hp hd) (.tup (.inl (.inr ⟨_, upd_same⟩)) (dpAll_mono (same_new (sub_none s hp)) _ _ (d1.rep k.toNat)))
    · cases e
  · cases e
def F_mul : List D → Option D
  | [.int i, .int j] => if (big64 i || big64 j) = true then some (.int (i * j)) else none
  | [.tuple a, .int k] => if decide (-1000 ≤ k) && (decide (k ≤ 1000) && decide (a.length ≤ 1000)) then some (.tuple (List.replicate k.toNat a).flatten) else none
  | _ => none
def rMulA (K : PySem.W.Frag) : R2 := fun x y H Q => rI CMul (fun i j => .int (i * j)) x y H Q ∨ rRepF K x y H Q
theorem op_mulA : OpR X (binaryOp .Mult) (rMulA X.K) := op_mul.or op_repF
theorem s_mul : OpS K (r2 (rMulA K)) F_mul := OpS.or2 s_mulI s_mulT fun ds d e => by
  unfold F_mul at e
  split at e
  · exact .inl e
  · exact .inr e
  · cases e
/-! ### comparisons -/
def strLt (a b : Str) : Bool := decide (a.cps.toList < b.cps.toList)
def intsOf : List D → Option (List Int)
  | [] => some []
  | .int i :: r => (match intsOf r with
    | some l => some (i :: l)
    | none => none)
  | _ => none
theorem intsOf_ok : ∀ {ds : List D} {ns : List Int}, intsOf ds = some ns → ds = ns.map PyData.int
  | [], ns, h => by cases h; rfl
  | d :: r, ns, h => by
    unfold intsOf at h
    split at h
    · rename_i e; cases e
    · rename_i i r' e
      cases e
      cases q : intsOf r with
      | none => rw [q] at h; cases h
      | some l =>
        rw [q] at h
        cases h
        rw [intsOf_ok q]
        rfl
    · cases h
theorem intsOf_map (ns : List Int) : intsOf (ns.map PyData.int) = some ns := by
  induction ns with
  | nil => rfl
  | cons n r ih => show (match intsOf (r.map PyData.int) with | some l => some (n :: l) | none => none) = _; rw [ih]
def fSS (g : Str → Str → D) : List D → Option D
  | [.str i, .str j] => some (g i j)
  | _ => none
theorem s_SS {g : Str → Str → V} {gd : Str → Str → D} (hg : ∀ i j (G : Hp), Dp K G (g i j) (gd i j)) : OpS K (r2 fun x y H Q => ∃ i j, x = .str i ∧ y = .str j ∧ Q (g i j) H) (fSS gd) := fun vs ds d G H Q s b e q => by
  unfold fSS at e
  split at e
  · rename_i i j
    cases e
    obtain ⟨x, y, rfl, bx, byy⟩ := dpbs2 b
    exact ⟨_, _, rfl, i, j, bx.str, byy.str, q _ H G .refl (hg i j G)⟩
  · cases e
def fTT (g : List Int → List Int → Bool) : List D → Option D
  | [.tuple a, .tuple b] => (match intsOf a, intsOf b with
    | some ns, some ms => some (.bool (g ns ms))
    | _, _ => none)
  | _ => none
theorem s_ltT : OpS K (r2 (rLtT K)) (fTT HT.lexLt) := fun vs ds d G H Q s b e q => by
  unfold fTT at e
  split at e
  · rename_i a c
    cases e1 : intsOf a with
    | none => rw [e1] at e; cases e
    | some ns =>
      cases e2 : intsOf c with
      | none => rw [e1, e2] at e; cases e
      | some ms =>
        rw [e1, e2] at e
        cases e
        obtain ⟨x, y, rfl, bx, byy⟩ := dpbs2 b
        obtain ⟨a1, v1, rfl, h1, d1⟩ := bx.tup s
        obtain ⟨a2, v2, rfl, h2, d2⟩ := byy.tup s
        rw [intsOf_ok e1] at d1
        rw [intsOf_ok e2] at d2
        rw [d1.ints] at h1
        rw [d2.ints] at h2
        exact ⟨_, _, rfl, a1, a2, ns, ms, rfl, rfl, h1, h2, q _ H G .refl (.bl _)⟩
  · cases e
def F_lt : List D → Option D
  | [.int i, .int j] => some (.bool (decide (i < j)))
  | [.str i, .str j] => some (.bool (decide (i.cps.toList < j.cps.toList)))
  | [.tuple a, .tuple b] => (match intsOf a, intsOf b with
    | some ns, some ms => some (.bool (HT.lexLt ns ms))
    | _, _ => none)
  | _ => none
def rLtA (K : PySem.W.Frag) : R2 := fun x y H Q => (rI0 (fun i j => .bl (decide (i < j))) x y H Q ∨ (∃ i j, x = .str i ∧ y = .str j ∧ Q (.bl (decide (i.cps.toList < j.cps.toList))) H)) ∨ rLtT K x y H Q
theorem op_ltA {k : Nat} (hr : Room k X.A) : OpR X (compareOp .Lt) (rLtA X.K) := (op_lt.or op_lt_str).or (op_ltT hr.units0)
theorem s_lt : OpS K (r2 (rLtA K)) F_lt := OpS.or2 (F := fun ds => match ds with | [.tuple _, .tuple _] => none | _ => F_lt ds) (OpS.or2 (ops_II0 (gd := fun i j => .bool (decide (i < j))) fun i j G => .bl _) (s_SS (gd := fun i j => .bool (decide (i.cps.toList < j.cps.toList))) fun i j G => .bl _) fun ds d e => by
    split at e
    · cases e
    · unfold F_lt at e
      split at e
      · exact .inl e
      · exact .inr e
      · rename_i h; exact (h _ _ rfl).elim
      · cases e) s_ltT fun ds d e => by
    split
    · exact .inr e
    · exact .inl e
def F_le : List D → Option D
  | [.int i, .int j] => some (.bool (decide (i ≤ j)))
  | [.str i, .str j] => some (.bool (!decide (j.cps.toList < i.cps.toList)))
  | _ => none
def rLeA : R2 := fun x y H Q => rI0 (fun i j => .bl (decide (i ≤ j))) x y H Q ∨ ∃ i j, x = .str i ∧ y = .str j ∧ Q (.bl (!decide (j.cps.toList < i.cps.toList))) H
theorem op_leA : OpR X (compareOp .LtE) rLeA := op_le.or op_le_str
theorem s_le : OpS K (r2 rLeA) F_le := OpS.or2 (ops_II0 (gd := fun i j => .bool (decide (i ≤ j))) fun i j G => .bl _) (s_SS (gd := fun i j => .bool (!decide (j.cps.toList < i.cps.toList))) fun i j G => .bl _) fun ds d e => by
  unfold F_le at e
  split at e
  · exact .inl e
  · exact .inr e
  · cases e
def F_gt : List D → Option D
  | [.int i, .int j] => some (.bool (decide (j < i)))
  | [.str i, .str j] => some (.bool (decide (j.cps.toList < i.cps.toList)))
  | _ => none
def rGtA : R2 := fun x y H Q => rI0 (fun i j => .bl (decide (j < i))) x y H Q ∨ ∃ i j, x = .str i ∧ y = .str j ∧ Q (.bl (decide (j.cps.toList < i.cps.toList))) H
theorem op_gtA : OpR X (compareOp .Gt) rGtA := op_gt.or op_gt_str
theorem s_gt : OpS K (r2 rGtA) F_gt := OpS.or2 (ops_II0 (gd := fun i j => .bool (decide (j < i))) fun i j G => .bl _) (s_SS (gd := fun i j => .bool (decide (j.cps.toList < i.cps.toList))) fun i j G => .bl _) fun ds d e => by
  unfold F_gt at e
  split at e
  · exact .inl e
  · exact .inr e
  · cases e
def F_ge : List D → Option D
  | [.int i, .int j] => some (.bool (decide (j ≤ i)))
  | [.str i, .str j] => some (.bool (!decide (i.cps.toList < j.cps.toList)))
  | _ => none
def rGeA : R2 := fun x y H Q => rI0 (fun i j => .bl (decide (j ≤ i))) x y H Q ∨ ∃ i j, x = .str i ∧ y = .str j ∧ Q (.bl (!decide (i.cps.toList < j.cps.toList))) H
theorem op_geA : OpR X (compareOp .GtE) rGeA := op_ge.or op_ge_str
theorem s_ge : OpS K (r2 rGeA) F_ge := OpS.or2 (ops_II0 (gd := fun i j => .bool (decide (j ≤ i))) fun i j G => .bl _) (s_SS (gd := fun i j => .bool (!decide (i.cps.toList < j.cps.toList))) fun i j G => .bl _) fun ds d e => by
  unfold F_ge at e
  split at e
  · exact .inl e
  · exact .inr e
  · cases e
def F_eq : List D → Option D
  | [a, b] => if (SeqAt.shaped a && SeqAt.shaped b) = true then some (.bool (PyData.eqv a b)) else none
  | _ => none
theorem s_eq : OpS K (r2 (rEqD K)) F_eq := fun vs ds d G H Q s b e q => by
  unfold F_eq at e
  split at e
  · rename_i i j
    split at e
    · rename_i hz
      cases e
      obtain ⟨h1, h2⟩ := Bool.and_eq_true_iff.mp hz
      obtain ⟨x, y, rfl, bx, byy⟩ := dpbs2 b
      exact ⟨_, _, rfl, i, j, bx.deep s, byy.deep s, h1, h2, q _ H G .refl (.bl _)⟩
    · cases e
  · cases e
def F_ne : List D → Option D
  | [a, b] => if (SeqAt.shaped a && SeqAt.shaped b) = true then some (.bool (!PyData.eqv a b)) else none
  | _ => none
theorem s_ne : OpS K (r2 (rNeD K)) F_ne := fun vs ds d G H Q s b e q => by
  unfold F_ne at e
  split at e
  · rename_i i j
    split at e
    · rename_i hz
      cases e
      obtain ⟨h1, h2⟩ := Bool.and_eq_true_iff.mp hz
      obtain ⟨x, y, rfl, bx, byy⟩ := dpbs2 b
      exact ⟨_, _, rfl, i, j, bx.deep s, byy.deep s, h1, h2, q _ H G .refl (.bl _)⟩
    · cases e
  · cases e
/-! ### items -/
def F_ix : List D → Option D
  | [.list xs, .int i] => atI xs i
  | [.tuple xs, .int i] => atI xs i
  | [.str z, .int i] => if z.length ≤ sizeLine then (match atI z.cps.toList i with
    | some c => some (.str ⟨#[c]⟩)
    | none => none) else none
  | _ => none
theorem atI_dp {G : Hp} {vs : List V} {ds : List D} {i : Int} {d : D} (h : DpAll K G vs ds) (e : atI ds i = some d) : ∃ v, atI vs i = some v ∧ Dp K G v d := by
  unfold atI at e ⊢
  rw [h.len]
  cases q : ixN ds.length i with
  | none => rw [q] at e; cases e
  | some j =>
    rw [q] at e
    exact h.get e
theorem s_ix : OpS K (r2 (rIx K)) F_ix := fun vs ds d G H Q s b e q => by
  unfold F_ix at e
  split at e
  · rename_i xs i
    obtain ⟨x, y, rfl, bx, byy⟩ := dpbs2 b
    obtain ⟨a1, v1, rfl, h1, d1⟩ := bx.list s
    obtain ⟨v, e1, dv⟩ := atI_dp d1 e
    exact ⟨_, _, rfl, .inl ⟨a1, v1, i, v, rfl, byy.int, h1, e1, q _ H G .refl dv⟩⟩
  · rename_i xs i
    obtain ⟨x, y, rfl, bx, byy⟩ := dpbs2 b
    obtain ⟨a1, v1, rfl, h1, d1⟩ := bx.tup s
    obtain ⟨v, e1, dv⟩ := atI_dp d1 e
    exact ⟨_, _, rfl, .inr (.inl ⟨a1, v1, i, v, rfl, byy.int, h1, e1, q _ H G .refl dv⟩)⟩
  · rename_i z i
    split at e
    · rename_i hz
      split at e
      · rename_i c ec
        cases e
        obtain ⟨x, y, rfl, bx, byy⟩ := dpbs2 b
        exact ⟨_, _, rfl, .inr (.inr ⟨z, i, c, bx.str, byy.int, hz, ec, q _ H G .refl (.str _)⟩)⟩
      · cases e
    · cases e
  · cases e
/-! ### built-ins -/
def F_len : List D → Option D
  | [.list xs] => some (.int xs.length)
  | [.tuple xs] => some (.int xs.length)
  | [.str z] => if z.length ≤ sizeLine then some (.int z.length) else none
  | _ => none
def rLenA (K : PySem.W.Frag) : List V → Hp → VK → Prop := fun xs H Q => (∃ p ys, xs = [.ref p] ∧ (SqL K H p ys ∨ SqT K H p ys) ∧ Q (.int ys.length) H) ∨ ∃ z, xs = [.str z] ∧ z.length ≤ sizeLine ∧ Q (.int z.length) H
theorem cl_len : CallR X (.builtin "len") (rLenA X.K) := call_len_seq.or call_len_str
theorem s_len : OpS K (rLenA K) F_len := fun vs ds d G H Q s b e q => by
  unfold F_len at e
  split at e
  · cases e
    obtain ⟨x, rfl, bx⟩ := dpbs1 b
    obtain ⟨a1, v1, rfl, h1, d1⟩ := bx.list s
    rw [← d1.len] at q
    exact .inl ⟨a1, v1, rfl, .inl h1, q _ H G .refl (.int _)⟩
  · cases e
    obtain ⟨x, rfl, bx⟩ := dpbs1 b
    obtain ⟨a1, v1, rfl, h1, d1⟩ := bx.tup s
    rw [← d1.len] at q
    exact .inl ⟨a1, v1, rfl, .inr h1, q _ H G .refl (.int _)⟩
  · rename_i z
    split at e
    · rename_i hz
      cases e
      obtain ⟨x, rfl, bx⟩ := dpbs1 b
      exact .inr ⟨z, by rw [bx.str], hz, q _ H G .refl (.int _)⟩
    · cases e
  · cases e
def F_abs : List D → Option D
  | [.int i] => some (.int (if i < 0 then -i else i))
  | _ => none
theorem s_abs : OpS K (fun xs H Q => ∃ i, xs = [.int i] ∧ Q (.int (if i < 0 then -i else i)) H) F_abs := fun vs ds d G H Q s b e q => by
  unfold F_abs at e
  split at e
  · cases e
    obtain ⟨x, rfl, bx⟩ := dpbs1 b
    exact ⟨_, by rw [bx.int], q _ H G .refl (.int _)⟩
  · cases e
def F_int : List D → Option D
  | [.int i] => some (.int i)
  | [.bool k] => some (.int (if k then 1 else 0))
  | _ => none
theorem s_int : OpS K (fun xs H Q => (∃ i, xs = [.int i] ∧ Q (.int i) H) ∨ ∃ k, xs = [.bl k] ∧ Q (.int (if k then 1 else 0)) H) F_int := fun vs ds d G H Q s b e q => by
  unfold F_int at e
  split at e
  · cases e
    obtain ⟨x, rfl, bx⟩ := dpbs1 b
    exact .inl ⟨_, by rw [bx.int], q _ H G .refl (.int _)⟩
  · cases e
    obtain ⟨x, rfl, bx⟩ := dpbs1 b
    exact .inr ⟨_, by rw [bx.bool], q _ H G .refl (.int _)⟩
  · cases e
def F_list : List D → Option D
  | [.list xs] => some (.list xs)
  | [.tuple xs] => some (.list xs)
  | _ => none
theorem s_list : OpS K (fun xs H Q => ∃ p ys, xs = [.ref p] ∧ (SqL K H p ys ∨ SqT K H p ys) ∧ ∀ l, H l = none → Q (.ref l) (upd H l (.lst ys))) F_list := fun vs ds d G H Q s b e q => by
  unfold F_list at e
  split at e
  · cases e
    obtain ⟨x, rfl, bx⟩ := dpbs1 b
    obtain ⟨a1, v1, rfl, h1, d1⟩ := bx.list s
    exact ⟨a1, v1, rfl, .inl h1, fun p hp => q _ _ _ (.new p _ .refl hp) (.lst (.inl (.inl upd_same)) (dpAll_mono (same_new (sub_none s hp)) _ _ d1))⟩
  · cases e
    obtain ⟨x, rfl, bx⟩ := dpbs1 b
    obtain ⟨a1, v1, rfl, h1, d1⟩ := bx.tup s
    exact ⟨a1, v1, rfl, .inr h1, fun p hp => q _ _ _ (.new p _ .refl hp) (.lst (.inl (.inl upd_same)) (dpAll_mono (same_new (sub_none s hp)) _ _ d1))⟩
  · cases e
def F_tuple : List D → Option D
  | [.list xs] => some (.tuple xs)
  | [.tuple xs] => some (.tuple xs)
  | _ => none
theorem s_tuple : OpS K (fun xs H Q => ∃ p ys, xs = [.ref p] ∧ ((SqL K H p ys ∧ NewT ys H Q) ∨ (SqT K H p ys ∧ Q (.ref p) H))) F_tuple := fun vs ds d G H Q s b e q => by
  unfold F_tuple at e
  split at e
  · cases e
    obtain ⟨x, rfl, bx⟩ := dpbs1 b
    obtain ⟨a1, v1, rfl, h1, d1⟩ := bx.list s
    exact ⟨a1, v1, rfl, .inl ⟨h1, fun p ob hd hp => q _ _ _ (.new p _ .refl hp hd) (.tup (.inl (.inr ⟨_, upd_same⟩)) (dpAll_mono (same_new (sub_none s hp)) _ _ d1))⟩⟩
  · cases e
    obtain ⟨x, rfl, bx⟩ := dpbs1 b
    have bx2 := bx
    obtain ⟨a1, v1, rfl, h1, d1⟩ := bx.tup s
    refine ⟨a1, v1, rfl, .inr ⟨h1, q _ H G .refl ?_⟩⟩
    rcases bx2 with h | ⟨_, _, _, _, e, _⟩
    · exact h
    · cases e
  · cases e
def boolsOf : List D → Option (List Bool)
  | [] => some []
  | .bool i :: r => (match boolsOf r with
    | some l => some (i :: l)
    | none => none)
  | _ => none
theorem boolsOf_ok : ∀ {ds : List D} {ns : List Bool}, boolsOf ds = some ns → ds = ns.map PyData.bool
  | [], ns, h => by cases h; rfl
  | d :: r, ns, h => by
    unfold boolsOf at h
    split at h
    · rename_i e; cases e
    · rename_i i r' e
      cases e
      cases q : boolsOf r with
      | none => rw [q] at h; cases h
      | some l =>
        rw [q] at h
        cases h
        rw [boolsOf_ok q]
        rfl
    · cases h
theorem boolsOf_map (ns : List Bool) : boolsOf (ns.map PyData.bool) = some ns := by
  induction ns with
  | nil => rfl
  | cons n r ih => show (match boolsOf (r.map PyData.bool) with | some l => some (n :: l) | none => none) = _; rw [ih]
def F_all : List D → Option D
  | [.list xs] => (match boolsOf xs with
    | some bs => some (.bool (bs.all id))
    | none => none)
  | _ => none
theorem s_all : OpS K (rAll K) F_all := fun vs ds d G H Q s b e q => by
  unfold F_all at e
  split at e
  · split at e
    · rename_i bs eb
      cases e
      obtain ⟨x, rfl, bx⟩ := dpbs1 b
      obtain ⟨a1, v1, rfl, h1, d1⟩ := bx.list s
      rw [boolsOf_ok eb] at d1
      rw [d1.bls] at h1
      exact ⟨a1, bs, rfl, h1, q _ H G .refl (.bl _)⟩
    · cases e
  · cases e
def F_any : List D → Option D
  | [.list xs] => (match boolsOf xs with
    | some bs => some (.bool (bs.any id))
    | none => none)
  | _ => none
theorem s_any : OpS K (rAny K) F_any := fun vs ds d G H Q s b e q => by
  unfold F_any at e
  split at e
  · split at e
    · rename_i bs eb
      cases e
      obtain ⟨x, rfl, bx⟩ := dpbs1 b
      obtain ⟨a1, v1, rfl, h1, d1⟩ := bx.list s
      rw [boolsOf_ok eb] at d1
      rw [d1.bls] at h1
      exact ⟨a1, bs, rfl, h1, q _ H G .refl (.bl _)⟩
    · cases e
  · cases e
def F_sum : List D → Option D
  | [.list xs] => (match intsOf xs with
    | some ns => some (.int ns.sum)
    | none => none)
  | _ => none
theorem s_sum : OpS K (rSum K) F_sum := fun vs ds d G H Q s b e q => by
  unfold F_sum at e
  split at e
  · split at e
    · rename_i bs eb
      cases e
      obtain ⟨x, rfl, bx⟩ := dpbs1 b
      obtain ⟨a1, v1, rfl, h1, d1⟩ := bx.list s
      rw [intsOf_ok eb] at d1
      rw [d1.ints] at h1
      exact ⟨a1, bs, rfl, h1, q _ H G .refl (.int _)⟩
    · cases e
  · cases e
end
end SW
set_option Elab.async false
set_option linter.all false
set_option maxRecDepth 100000
set_option maxHeartbeats 2000000
/-! SWMore: displays, slices, isinstance, range as a value, methods, in, sorted. -/
namespace SW
open PySem PySem.Spec PyProof.Rows L2
variable [Tab]
/-! ### displays -/
def evsD : List AE → AM (List D)
  | [] => fun ρ => .ok [] ρ
  | f :: fs => fun ρ => (f ρ).bind fun d ρ1 => (evsD fs ρ1).bind fun ds ρ2 => .ok (d :: ds) ρ2
def tDs (K : PySem.W.Frag) (E : WX) : List AE → TA
  | [] => tNil
  | f :: fs => tCons (tX K E f) (tDs K E fs)
abbrev EDs (X : Cx) (E : WX) (es : List Expr) (fs : List AE) : Prop := PA X es (tDs X.K E fs)
theorem evsD_step {K : PySem.W.Frag} {E : WX} {σ : L2.St} {β : Type} {k : List D → En → R β} {Z : β → En → Hp → Hp → Prop} : ∀ {fs : List AE} {ρ : En} {H G : Hp} {Q : List V → Hp → Prop} (er : ER K ρ σ H G) (h : Out K E ((evsD fs ρ).bind k) ρ σ H G Z)
    (q : ∀ vs ds ρ1 H1 G1, ER K ρ1 σ H1 G1 → Step ρ σ H G ρ1 σ H1 G1 → DpAll K G1 vs ds → Out K E (k ds ρ1) ρ1 σ H1 G1 Z → Q vs H1), tDs K E fs σ H Q
  | [], ρ, H, G, Q, er, h, q => q [] [] ρ H G er .refl .nil h
  | f :: fs, ρ, H, G, Q, er, h, q => by
    have e : (evsD (f :: fs) ρ).bind k = (f ρ).bind fun d ρ1 => (evsD fs ρ1).bind fun ds ρ2 => k (d :: ds) ρ2 := by
      show ((f ρ).bind _).bind k = _
      cases f ρ with
      | ok v ρ1 => show ((evsD fs ρ1).bind _).bind k = (evsD fs ρ1).bind _; cases evsD fs ρ1 <;> rfl
      | err x ρ1 => rfl
      | bad => rfl
    rw [e] at h
    refine tx_of er h fun v d ρ1 H1 G1 er1 s1 dp h1 => ?_
    exact evsD_step (k := fun ds ρ2 => k (d :: ds) ρ2) er1 h1 fun vs ds ρ2 H2 G2 er2 s2 dps h2 => q (v :: vs) (d :: ds) ρ2 H2 G2 er2 (s1.trans s2) (.cons (dp_mono s2.sg _ _ dp) dps) h2
def aTup (fs : List AE) : AE := fun ρ => (evsD fs ρ).bind fun ds ρ1 => if ds.length ≤ sizeLine then .ok (.tuple ds) ρ1 else .bad
/-- a list just made -/
def fLst (fs : List AE) : AM (List D) := fun ρ => (evsD fs ρ).bind fun ds ρ1 => if ds.length ≤ sizeLine then .ok ds ρ1 else .bad
/-- a list just made that stands for good -/
def aFr (f : AM (List D)) : AE := fun ρ => (f ρ).bind fun ds ρ1 => .ok (.list ds) ρ1
section
variable {X : Cx} {E : WX} {pos : Pos} {a b e : Expr} {es : List Expr} {fs : List AE} {f g : AE} {o o1 o2 : Opd}
theorem d_nil : EDs X E [] [] := pa_nil
theorem d_cons (ha : EV X E e f) (hr : EDs X E es fs) (hs : starEach (e :: es) X.env = (false, eval e X.env) :: starEach es X.env := by rfl) : EDs X E (e :: es) (f :: fs) := pa_cons ha hr hs
theorem v_tup {k : Nat} (h : EDs X E es fs) : EV X E (.Tuple es k pos) (aTup fs) :=
  PE.imp (pe_tupF h) fun σ H Q ⟨ρ, G, er, h⟩ => evsD_step er h fun vs ds ρ1 H1 G1 er1 s1 dps h1 => by
    split at h1
    · rename_i hz
      refine ⟨by rw [dps.len]; exact hz, fun p ob hd hp => ?_⟩
      exact h1 _ _ (er1.new (o := .frz ob (.tup _)) hp hd) (er1.stepNew hp) _ (.tup (.inl (.inr ⟨_, upd_same⟩)) (dpAll_mono (same_new (sub_none er1.sub hp)) _ _ dps))
    · exact h1.elim
theorem not_owned_new {K : PySem.W.Frag} {ρ : En} {σ : L2.St} {H G : Hp} {p : Addr} (er : ER K ρ σ H G) (hp : H p = none) : ¬ Owned ρ σ p := fun z => by
  obtain ⟨⟨vs, e⟩, _⟩ := er.owned z
  rw [hp] at e
  cases e
theorem f_lst (h : EDs X E es fs) : EF X E (.List es pos) (fLst fs) :=
  PE.imp (pe_lst h) fun σ H Q ⟨ρ, G, er, h⟩ => evsD_step er h fun vs ds ρ1 H1 G1 er1 s1 dps h1 => by
    split at h1
    · rename_i hz
      refine ⟨by rw [dps.len]; exact hz, fun p hp => ?_⟩
      exact h1 _ _ (er1.lay hp) (er1.stepLay hp) p vs (s1.there p hp) (sub_none er1.sub hp) upd_same (not_owned_new er1 hp) dps
    · exact h1.elim
/-- what was just made stands for good -/
theorem ER.settle {K : PySem.W.Frag} {ρ : En} {σ : L2.St} {H G : Hp} {a : Addr} {vs : List V} (er : ER K ρ σ H G) (hG : G a = none) (hH : H a = some (.lst vs)) (no : ¬ Owned ρ σ a) :
    ER K ρ σ H (upd G a (.lst vs)) := by
  refine ⟨er.len, fun b x e => ?_, fun i d e => ?_, fun i io ds e => ?_, er.inj, er.raw, er.tabs, ng_upd er.ng trivial⟩
  · by_cases hb : b = a
    · subst hb; rw [upd_same] at e; cases e; exact hH
    · rw [upd_ne hb] at e; exact er.sub _ _ e
  · obtain ⟨v, h1, h2⟩ := er.pl i d e
    exact ⟨v, h1, dp_mono (same_new hG) _ _ h2⟩
  · obtain ⟨b, ws, h1, h2, h3, h4⟩ := er.own i io ds e
    have ne : b ≠ a := fun z => no (by rw [← z]; exact ⟨i, io, ds, e, h1⟩)
    exact ⟨b, ws, h1, by rw [upd_ne ne]; exact h2, h3, dpAll_mono (same_new hG) _ _ h4⟩
theorem Step.settle {ρ ρ1 : En} {σ σ1 : L2.St} {H G H1 G1 : Hp} {a : Addr} {vs : List V} (s1 : Step ρ σ H G ρ1 σ1 H1 G1) (n0 : H a = none) (n1 : G1 a = none) : Step ρ σ H G ρ1 σ1 H1 (upd G1 a (.lst vs)) :=
  ⟨s1.sg.trans (same_new n1), fun b o hb nt hn => by
    obtain ⟨h1, h2⟩ := s1.keep b o hb nt hn
    refine ⟨h1, ?_⟩
    rw [upd_ne (ne_of_none hb n0)]
    exact h2, s1.there, s1.osub, s1.io, s1.ln⟩
theorem v_fr {fl : AM (List D)} (h : EF X E e fl) : EV X E e (aFr fl) :=
  PE.imp h fun σ H Q ⟨ρ, G, er, h⟩ => ⟨ρ, G, er, by
    unfold aFr at h
    cases q : fl ρ with
    | ok ds ρ1 =>
      rw [q] at h
      intro H1 G1 er1 s1 a vs n0 n1 e1 no dps
      exact h H1 _ (er1.settle n1 e1 no) (s1.settle n0 n1) _ (.lst (.inl (.inl upd_same)) (dpAll_mono (same_new n1) _ _ dps))
    | err x ρ1 => rw [q] at h; exact h
    | bad => rw [q] at h; exact h⟩
/-! ### list * int, a list just made -/
def fRep (fl : AM (List D)) (o : Opd) : AM (List D) := fun ρ => (fl ρ).bind fun ds ρ1 => (o.ev ρ1).bind fun ov ρ2 => match ov.get ρ2 with
  | some (.int k) => if decide (-9223372036854775808 ≤ k) && (decide (k < 9223372036854775808) && decide (ds.length * k.toNat ≤ sizeLine)) then .ok (List.replicate k.toNat ds).flatten ρ2 else .bad
  | _ => .bad
theorem f_rep {fl : AM (List D)} (h1 : EF X E a fl) (h2 : EO X E b o) : EF X E (.BinOp a .Mult b pos) (fRep fl o) :=
  PE.imp (pe_op op_rep h1 h2) fun σ H Q ⟨ρ, G, er, h⟩ => ⟨ρ, G, er, by
    unfold fRep at h
    cases q : fl ρ with
    | err x ρ1 => rw [q] at h; exact h
    | bad => rw [q] at h; exact h
    | ok ds ρ1 =>
      rw [q] at h
      intro H1 G1 er1 s1 l vs n0 n1 e1 no dps
      have h3 := Out.shift (show Out X.K E ((o.ev ρ1).bind _) ρ σ H G _ from h) s1
      refine opd_step er1 h3 fun v ov ρ2 H2 G2 er2 s2 rel h4 => ?_
      cases e : ov.get ρ2 with
      | none => rw [e] at h4; exact h4.elim
      | some d =>
        rw [e] at h4
        cases d with
        | int k =>
          dsimp only at h4
          split at h4
          · rename_i hz
            simp only [Bool.and_eq_true, decide_eq_true_eq] at hz
            have bk := (rel.get er2 e).int
            subst bk
            obtain ⟨e2, g2⟩ := s2.keep l _ e1 nt_lst no
            refine ⟨l, k, vs, rfl, rfl, e2, by omega, by omega, by rw [dps.len]; exact hz.2.2, fun p hp => ?_⟩
            exact h4 _ _ (er2.lay hp) (er2.stepLay hp) p _ (s1.there p (s2.there p hp)) (sub_none er2.sub hp) upd_same (not_owned_new er2 hp) ((dpAll_mono s2.sg _ _ dps).rep k.toNat)
          · exact h4.elim
        | _ => exact h4.elim⟩
/-! ### list + list as a list just made -/
def fOps (F : List D → Option D) (os : List Opd) : AM (List D) := fun ρ => (evs os ρ).bind fun vs ρ' => match getAll ρ' vs with
  | some ds => (match F ds with
    | some (.list xs) => .ok xs ρ'
    | _ => .bad)
  | none => .bad
/-- an operation whose answer is a list just made -/
def OpF (K : PySem.W.Frag) (r : List V → Hp → VK → Prop) (F : List D → Option D) : Prop :=
  ∀ vs ds xs G H Q, Same G H → DpBs K G H vs ds → F ds = some (.list xs) → (∀ p us, H p = none → DpAll K G us xs → Q (.ref p) (upd H p (.lst us))) → r vs H Q
theorem fops_end {K : PySem.W.Frag} {ρ ρ0 : En} {σ : L2.St} {H G H0 G0 : Hp} {F : List D → Option D} {r : List V → Hp → VK → Prop} (hs : OpF K r F) {vs : List V} {ovs : List OV} {Q : VK} (er : ER K ρ σ H G) (st : Step ρ0 σ H0 G0 ρ σ H G) (rel : ORels K σ G vs ovs)
    (h : Out K E (match getAll ρ ovs with | some ds => (match F ds with | some (.list xs) => R.ok xs ρ | _ => .bad) | none => .bad) ρ σ H G (ZF K σ H0 Q)) : r vs H Q := by
  cases e : getAll ρ ovs with
  | none => rw [e] at h; exact h.elim
  | some ds =>
    rw [e] at h
    dsimp only at h
    split at h
    · rename_i xs e2
      refine hs vs ds xs G H Q er.sub (rel.get er e) e2 fun p us hp dps => ?_
      exact h _ _ (er.lay hp) (er.stepLay hp) p us (st.there p hp) (sub_none er.sub hp) upd_same (not_owned_new er hp) dps
    · exact h.elim
theorem f_two {r : R2} {F : List D → Option D} {op : Operator} (ho : OpR X (binaryOp op) r) (hs : OpF X.K (r2 r) F) (h1 : EO X E a o1) (h2 : EO X E b o2) : EF X E (.BinOp a op b pos) (fOps F [o1, o2]) :=
  PE.imp (pe_op ho h1 h2) fun σ H Q ⟨ρ, G, er, h⟩ => by
    have h2 : tOs X.K E [o1, o2] σ H (fun vs H' => r2 r vs H' Q) := evs_step er h fun vs ovs ρ1 H1 G1 er1 s1 rel h1 => fops_end hs er1 s1 rel h1
    have h3 : tO X.K E o1 σ H fun x H1 => tO X.K E o2 σ H1 fun y H2 => r2 r [x, y] H2 Q := h2
    have conv : ∀ (o : Opd) (σ : L2.St) (H : Hp) (Q Q' : VK), (∀ v H', Q v H' → Q' v H') → tO X.K E o σ H Q → tO X.K E o σ H Q' := fun o σ H Q Q' i h => by
      cases o with
      | ex f =>
        obtain ⟨ρ, G, er, h⟩ := h
        exact ⟨ρ, G, er, h.imp fun d ρ' H' G' _ _ z v dp => i _ _ (z v dp)⟩
      | br i' =>
        obtain ⟨v, e, h⟩ := h
        exact ⟨v, e, i _ _ h⟩
    refine conv _ _ _ _ _ (fun x H1 h4 => conv _ _ _ _ _ (fun y H2 h5 => ?_) h4) h3
    obtain ⟨x', y', e, q⟩ := h5
    cases e
    exact q
theorem g_addL : OpF X.K (r2 (rCatL X.K)) F_addL := fun vs ds xs G H Q s b e q => by
  unfold F_addL at e
  split at e
  · rename_i i j
    split at e
    · rename_i hz
      cases e
      obtain ⟨x, y, rfl, bx, byy⟩ := dpbs2 b
      obtain ⟨a1, v1, rfl, h1, d1⟩ := bx.list s
      obtain ⟨a2, v2, rfl, h2, d2⟩ := byy.list s
      exact ⟨_, _, rfl, a1, a2, v1, v2, rfl, rfl, h1, h2, by rw [d1.len, d2.len]; exact hz, fun p hp => q p _ hp (d1.app d2)⟩
    · cases e
  · cases e
theorem f_callT {x : Str} {p : Pos} {T : String} {e : Expr} {es : List Expr} {os : List Opd} {F : List D → Option D} {r : List V → Hp → VK → Prop} (hc : CallR X (.type T) r) (hs : OpF X.K r F) (hg : Gl X x) (hm : X.mg x = none) (hv : bootBuiltins x = some (.type T)) (ha : EOs X E (e :: es) os)
    (hn : x ≠ "__name__" := by decide) (hdb : (x == ("__debug__" : Str)) = false := by decide) (he : starEach (e :: es) X.env = (false, eval e X.env) :: starEach es X.env := by rfl) (hpl : (backTo pos (starEach es X.env)).any (·.1) = false := by rfl) :
    EF X E (.Call (.Name x p) (e :: es) [] pos) (fOps F os) :=
  PE.imp (pe_callTy hc hg hm hv ha hn hdb he hpl) fun σ H Q ⟨ρ, G, er, h⟩ => evs_step er h fun vs ovs ρ1 H1 G1 er1 s1 rel h1 => fops_end hs er1 s1 rel h1
theorem f_callB {x : Str} {p : Pos} {id : String} {e : Expr} {es : List Expr} {os : List Opd} {F : List D → Option D} {r : List V → Hp → VK → Prop} (hc : CallR X (.builtin id) r) (hs : OpF X.K r F) (hg : Gl X x) (hm : X.mg x = none) (hv : bootBuiltins x = some (.builtin id)) (ha : EOs X E (e :: es) os)
    (hn : x ≠ "__name__" := by decide) (hdb : (x == ("__debug__" : Str)) = false := by decide) (he : starEach (e :: es) X.env = (false, eval e X.env) :: starEach es X.env := by rfl) (hpl : (backTo pos (starEach es X.env)).any (·.1) = false := by rfl) :
    EF X E (.Call (.Name x p) (e :: es) [] pos) (fOps F os) :=
  PE.imp (pe_callB hc hg hm hv ha hn hdb he hpl) fun σ H Q ⟨ρ, G, er, h⟩ => evs_step er h fun vs ovs ρ1 H1 G1 er1 s1 rel h1 => fops_end hs er1 s1 rel h1
theorem g_list : OpF X.K (fun xs H Q => ∃ p ys, xs = [.ref p] ∧ (SqL X.K H p ys ∨ SqT X.K H p ys) ∧ ∀ l, H l = none → Q (.ref l) (upd H l (.lst ys))) F_list := fun vs ds xs G H Q s b e q => by
  unfold F_list at e
  split at e
  · cases e
    obtain ⟨x, rfl, bx⟩ := dpbs1 b
    obtain ⟨a1, v1, rfl, h1, d1⟩ := bx.list s
    exact ⟨a1, v1, rfl, .inl h1, fun p hp => q p _ hp d1⟩
  · cases e
    obtain ⟨x, rfl, bx⟩ := dpbs1 b
    obtain ⟨a1, v1, rfl, h1, d1⟩ := bx.tup s
    exact ⟨a1, v1, rfl, .inr h1, fun p hp => q p _ hp d1⟩
  · cases e
/-! ### range -/
def rgD (a b : Int) : List D := (List.range (b - a).toNat).map fun i => .int (a + (i : Nat))
theorem rgD_dp {K : PySem.W.Frag} {G : Hp} (a b : Int) : DpAll K G (rgV a b) (rgD a b) := by
  have e1 : rgV a b = ((List.range (b - a).toNat).map fun i => a + ((i : Nat) : Int)).map V.int := by unfold rgV; rw [List.map_map]; rfl
  have e2 : rgD a b = ((List.range (b - a).toNat).map fun i => a + ((i : Nat) : Int)).map PyData.int := by unfold rgD; rw [List.map_map]; rfl
  rw [e1, e2]
  exact DpAll.of_ints _
def rgOk (a b : Int) : Bool := decide (-4611686018427387904 ≤ a) && (decide (a < 4611686018427387904) && (decide (-4611686018427387904 ≤ b) && (decide (b < 4611686018427387904) && decide ((b - a).toNat ≤ 16777216))))
theorem rgOk_ok {a b : Int} (h : rgOk a b = true) : RgOk a b := by
  unfold rgOk at h
  simp only [Bool.and_eq_true, decide_eq_true_eq] at h
  exact ⟨by omega, by omega, by omega, by omega, by omega⟩
/-- the bounds of a range -/
def aRg1 (f : AE) : AM (Int × Int) := fun ρ => (f ρ).bind fun d ρ1 => match d with
  | .int n => .ok (0, n) ρ1
  | _ => .bad
def aRg2 (f g : AE) : AM (Int × Int) := fun ρ => (f ρ).bind fun d ρ1 => match d with
  | .int i => (g ρ1).bind fun d ρ2 => (match d with
    | .int j => .ok (i, j) ρ2
    | _ => .bad)
  | _ => .bad
def tRgA (K : PySem.W.Frag) (E : WX) (f : AM (Int × Int)) : L2.St → Hp → (Int → Int → Hp → Prop) → Prop := fun σ H Q => ∃ ρ G, ER K ρ σ H G ∧ Out K E (f ρ) ρ σ H G fun p _ H' _ => Q p.1 p.2 H'
abbrev ERg (X : Cx) (E : WX) (e : Expr) (f : AM (Int × Int)) : Prop := PRg X e (tRgA X.K E f)
theorem PRg_imp {t t' : L2.St → Hp → (Int → Int → Hp → Prop) → Prop} (h : PRg X e t) (i : ∀ σ H Q, t' σ H Q → t σ H Q) : PRg X e t' := fun pins s σ H Q I hw => h pins s σ H Q I (i σ H Q hw)
theorem rg_1 {p : Pos} (hg : Gl X "range") (hm : X.mg "range" = none) (ha : EV X E a f) (na : starEach [a] X.env = (false, eval a X.env) :: starEach [] X.env := by rfl) : ERg X E (.Call (.Name "range" p) [a] [] pos) (aRg1 f) :=
  PRg_imp (prg_1 hg hm ha na) fun σ H Q ⟨ρ, G, er, h⟩ => tx_of er h fun v d ρ1 H1 G1 er1 s1 dp z => by
    cases d with
    | int n => cases dp; exact ⟨n, rfl, z H1 G1 er1 .refl⟩
    | _ => exact z.elim
theorem rg_2 {p : Pos} (hg : Gl X "range") (hm : X.mg "range" = none) (ha : EV X E a f) (hb : EV X E b g) (na : starEach [a, b] X.env = (false, eval a X.env) :: starEach [b] X.env := by rfl)
    (nb : starEach [b] X.env = (false, eval b X.env) :: starEach [] X.env := by rfl) (hp : (backTo pos (starEach [b] X.env)).any (·.1) = false := by rfl) : ERg X E (.Call (.Name "range" p) [a, b] [] pos) (aRg2 f g) :=
  PRg_imp (prg_2 hg hm ha hb na nb hp) fun σ H Q ⟨ρ, G, er, h⟩ => tx_of er h fun v d ρ1 H1 G1 er1 s1 dp z => by
    cases d with
    | int i =>
      cases dp
      refine tx_of er1 z fun w d2 ρ2 H2 G2 er2 s2 dp2 z2 => ?_
      cases d2 with
      | int j => cases dp2; exact ⟨i, j, rfl, rfl, z2 H2 G2 er2 .refl⟩
      | _ => exact z2.elim
    | _ => exact z.elim
def fRg (f : AM (Int × Int)) : AM (List D) := fun ρ => (f ρ).bind fun p ρ1 => if rgOk p.1 p.2 = true then .ok (rgD p.1 p.2) ρ1 else .bad
def aTupRg (f : AM (Int × Int)) : AE := fun ρ => (f ρ).bind fun p ρ1 => if rgOk p.1 p.2 = true then .ok (.tuple (rgD p.1 p.2)) ρ1 else .bad
theorem f_listRg {p : Pos} {r : AM (Int × Int)} (hc : X.calm = true) (hg : Gl X "list") (hm : X.mg "list" = none) (he : ERg X E e r) (na : starEach [e] X.env = (false, eval e X.env) :: starEach [] X.env := by rfl) : EF X E (.Call (.Name "list" p) [e] [] pos) (fRg r) :=
  PE.imp (pe_listRg hc hg hm he na) fun σ H Q ⟨ρ, G, er, h⟩ => ⟨ρ, G, er, (by
    unfold fRg at h
    cases q : r ρ with
    | err x ρ1 => rw [q] at h; exact h
    | bad => rw [q] at h; exact h
    | ok bd ρ1 =>
      rw [q] at h
      intro H1 G1 er1 s1
      have h2 : Out X.K E (if rgOk bd.1 bd.2 = true then R.ok (rgD bd.1 bd.2) ρ1 else .bad) ρ σ H G (ZF X.K σ H Q) := h
      split at h2
      · rename_i hz
        refine ⟨rgOk_ok hz, fun p hp => ?_⟩
        exact (Out.shift h2 s1) _ _ (er1.lay hp) (er1.stepLay hp) p _ (s1.there p hp) (sub_none er1.sub hp) upd_same (not_owned_new er1 hp) (rgD_dp _ _)
      · exact h2.elim)⟩
theorem v_tupRg {p : Pos} {r : AM (Int × Int)} (hc : X.calm = true) (hg : Gl X "tuple") (hm : X.mg "tuple" = none) (he : ERg X E e r) (na : starEach [e] X.env = (false, eval e X.env) :: starEach [] X.env := by rfl) : EV X E (.Call (.Name "tuple" p) [e] [] pos) (aTupRg r) :=
  PE.imp (pe_tupRgF hc hg hm he na) fun σ H Q ⟨ρ, G, er, h⟩ => ⟨ρ, G, er, (Out.split h).imp fun bd ρ1 H1 G1 er1 s1 h2 => by
    split at h2
    · rename_i hz
      refine ⟨rgOk_ok hz, fun p ob hd hp => ?_⟩
      exact h2 _ _ (er1.new (o := .frz ob (.tup _)) hp hd) (er1.stepNew hp) _ (.tup (.inl (.inr ⟨_, upd_same⟩)) (dpAll_mono (same_new (sub_none er1.sub hp)) _ _ (rgD_dp _ _)))
    · exact h2.elim⟩
/-! ### isinstance of a built-in class -/
inductive Ty where
  | int | bool | str | tuple | list
def Ty.nm : Ty → String
  | .int => "int"
  | .bool => "bool"
  | .str => "str"
  | .tuple => "tuple"
  | .list => "list"
def isTy : Ty → D → Bool
  | .int, .int _ => true
  | .int, .bool _ => true
  | .bool, .bool _ => true
  | .str, .str _ => true
  | .tuple, .tuple _ => true
  | .list, .list _ => true
  | _, _ => false
def F_isi (t : Ty) : List D → Option D
  | [.dict _] => none
  | [d] => some (.bool (isTy t d))
  | _ => none
def tyName : D → String
  | .none => "NoneType"
  | .bool _ => "bool"
  | .int _ => "int"
  | .str _ => "str"
  | .list _ => "list"
  | .tuple _ => "tuple"
  | .dict _ => "dict"
theorem tyx_of {K : PySem.W.Frag} {G H : Hp} {v : V} {d : D} (s : Same G H) (h : DpB K G H v d) : TyX K H v (.type (tyName d)) := by
  have h := h.deep s
  cases h with
  | non => exact .base .non
  | bl b => exact .base (.bl b)
  | int i => exact .base (.int i)
  | str x => exact .base (.str x)
  | lst hs ha =>
    rcases hs with (e | ⟨o, e⟩) | ⟨o, its, n, k, c, _⟩
    · exact .base (.lst e)
    · exact .base (.frz e)
    · exact .kList k c
  | tup hs ha =>
    rcases hs with (e | ⟨o, e⟩) | ⟨o, its, n, k, c, _⟩
    · exact .base (.tup e)
    · exact .fTuple e
    · exact .kTuple k c
theorem kit_tbl {K : PySem.W.Frag} (t : Ty) (d : D) (hd : ∀ kvs, d ≠ .dict kvs) : PySem.W.kitOne K (.type (tyName d)) (.type t.nm) = some (isTy t d) := by
  cases d with
  | dict kvs => exact (hd kvs rfl).elim
  | none => cases t <;> (refine kit_ty ?_; dsimp only [tyName, Ty.nm, isTy]; decide +kernel)
  | bool b => cases t <;> (refine kit_ty ?_; dsimp only [tyName, Ty.nm, isTy]; decide +kernel)
  | int b => cases t <;> (refine kit_ty ?_; dsimp only [tyName, Ty.nm, isTy]; decide +kernel)
  | str b => cases t <;> (refine kit_ty ?_; dsimp only [tyName, Ty.nm, isTy]; decide +kernel)
  | list b => cases t <;> (refine kit_ty ?_; dsimp only [tyName, Ty.nm, isTy]; decide +kernel)
  | tuple b => cases t <;> (refine kit_ty ?_; dsimp only [tyName, Ty.nm, isTy]; decide +kernel)
theorem s_isi {K : PySem.W.Frag} (t : Ty) : OpS K (fun vs H Q => ∃ x, vs = [x] ∧ rIsi K [x, .ty t.nm] H Q) (F_isi t) := fun vs ds d G H Q s b e q => by
  unfold F_isi at e
  split at e
  · cases e
  · rename_i d' hd
    cases e
    obtain ⟨x, rfl, bx⟩ := dpbs1 b
    exact ⟨x, rfl, x, _, _, _, _, rfl, .ty _, tyx_of s bx, kit_tbl t d' (fun kvs z => hd kvs (by rw [z])), q _ H G .refl (.bl _)⟩
  · cases e
theorem v_isi {t : Ty} {T : Str} {p p2 : Pos} (hg : Gl X "isinstance") (hm : X.mg "isinstance" = none) (hgT : Gl X T) (hmT : X.mg T = none) (hvT : bootBuiltins T = some (.type t.nm)) (h1 : EO X E a o)
    (hn : T ≠ "__name__" := by decide) (hdb : (T == ("__debug__" : Str)) = false := by decide)
    (he : starEach [a, .Name T p2] X.env = (false, eval a X.env) :: starEach [.Name T p2] X.env := by rfl) (hpl : (backTo pos (starEach [Expr.Name T p2] X.env)).any (·.1) = false := by rfl) :
    EV X E (.Call (.Name "isinstance" p) [a, .Name T p2] [] pos) (aOps (F_isi t) [o]) :=
  PE.imp (pe_callB call_isi hg hm (by decide +kernel) (pa_cons h1 (pa_cons (pe_bltn (v := .ty t.nm) hgT hmT hvT rfl hn hdb) pa_nil) he) (by decide) (by decide) he hpl) fun σ H Q ⟨ρ, G, er, h⟩ => by
    have h2 : tOs X.K E [o] σ H (fun vs H' => ∃ x, vs = [x] ∧ rIsi X.K [x, .ty t.nm] H' Q) := evs_step er h fun vs ovs ρ1 H1 G1 er1 s1 rel h1 => ops_end (s_isi t) er1 rel h1
    have h3 : tO X.K E o σ H fun x H1 => ∃ x', [x] = [x'] ∧ rIsi X.K [x', .ty t.nm] H1 Q := h2
    cases o with
    | ex f =>
      obtain ⟨ρ, G, er, h⟩ := h3
      exact ⟨ρ, G, er, h.imp fun d ρ' H' G' _ _ z v dp => by
        obtain ⟨x', e, q⟩ := z v dp
        cases e
        exact q⟩
    | br i' =>
      obtain ⟨v, e, x', e', q⟩ := h3
      cases e'
      exact ⟨v, e, q⟩
/-! ### slices -/
def F_sl (d : D) (lo hi : Option Int) : Option D := match d with
  | .list xs => some (.list ((xs.drop (HT.sIx xs.length 0 lo)).take (HT.sIx xs.length xs.length hi - HT.sIx xs.length 0 lo)))
  | .tuple xs => some (.tuple ((xs.drop (HT.sIx xs.length 0 lo)).take (HT.sIx xs.length xs.length hi - HT.sIx xs.length 0 lo)))
  | .str z => if z.length ≤ sizeLine then some (.str (cutS z lo hi)) else none
  | _ => none
def aPart : Option AE → AM (Option Int)
  | none => fun ρ => .ok none ρ
  | some f => fun ρ => (f ρ).bind fun d ρ1 => match d with
    | .int i => .ok (some i) ρ1
    | _ => .bad
def aSl (o : Opd) (lo hi : Option AE) : AE := fun ρ => (o.ev ρ).bind fun ov ρ1 => (aPart lo ρ1).bind fun l ρ2 => (aPart hi ρ2).bind fun h ρ3 => match ov.get ρ3 with
  | some d => (match F_sl d l h with
    | some r => .ok r ρ3
    | none => .bad)
  | none => .bad
def tPa (K : PySem.W.Frag) (E : WX) : Option AE → TO
  | none => tNoPart
  | some f => tPart (tX K E f)
abbrev EP' (X : Cx) (E : WX) (e : Option Expr) (f : Option AE) : Prop := PO X e (tPa X.K E f)
theorem p_none : EP' X E none none := po_none
theorem p_some (h : EV X E e f) : EP' X E (some e) (some f) := po_some h
theorem part_step {K : PySem.W.Frag} {ρ : En} {σ : L2.St} {H G : Hp} {β : Type} {f : Option AE} {k : Option Int → En → R β} {Z : β → En → Hp → Hp → Prop} {Q : Option Int → Hp → Prop} (er : ER K ρ σ H G) (h : Out K E ((aPart f ρ).bind k) ρ σ H G Z)
    (q : ∀ i ρ1 H1 G1, ER K ρ1 σ H1 G1 → Step ρ σ H G ρ1 σ H1 G1 → Out K E (k i ρ1) ρ1 σ H1 G1 Z → Q i H1) : tPa K E f σ H Q := by
  cases f with
  | none => exact q none ρ H G er .refl h
  | some f =>
    have e : (aPart (some f) ρ).bind k = (f ρ).bind fun d ρ1 => (match d with | .int i => R.ok (some i) ρ1 | _ => .bad).bind k := by
      show ((f ρ).bind _).bind k = (f ρ).bind _
      cases f ρ with
      | ok d ρ1 => rfl
      | err x ρ1 => rfl
      | bad => rfl
    rw [e] at h
    refine tx_of er h fun v d ρ1 H1 G1 er1 s1 dp z => ?_
    cases d with
    | int i => cases dp; exact ⟨i, rfl, q (some i) ρ1 H1 G1 er1 s1 z⟩
    | _ => exact z.elim
def rSlAll (K : PySem.W.Frag) : V → Option Int → Option Int → Hp → VK → Prop := fun x lo hi H Q => rSlL K x lo hi H Q ∨ (rSlF K x lo hi H Q ∨ rSlS x lo hi H Q)
theorem sl_all : SlR X (rSlAll X.K) := sl_list.or (sl_tupF.or sl_str)
theorem v_sl {lo hi : Option Expr} {fl fh : Option AE} {p2 : Pos} (h1 : EO X E a o) (h2 : EP' X E lo fl) (h3 : EP' X E hi fh) : EV X E (.Subscript a (.Slice lo hi none p2) pos) (aSl o fl fh) :=
  PE.imp (pe_slice sl_all h1 h2 h3) fun σ H Q ⟨ρ, G, er, h⟩ => opd_step er h fun v ov ρ1 H1 G1 er1 s1 rel z1 => part_step er1 z1 fun l ρ2 H2 G2 er2 s2 z2 => part_step er2 z2 fun u ρ3 H3 G3 er3 s3 z3 => by
    cases e : ov.get ρ3 with
    | none => rw [e] at z3; exact z3.elim
    | some d =>
      rw [e] at z3
      have bx := ((rel.mono s2.sg).mono s3.sg).get er3 e
      cases d with
      | list xs =>
        obtain ⟨a1, v1, rfl, h1, d1⟩ := bx.list er3.sub
        refine .inl ⟨a1, v1, rfl, h1, fun p hp => ?_⟩
        refine z3 _ _ (er3.new hp) (er3.stepNew hp) _ (.lst (.inl (.inl upd_same)) (dpAll_mono (same_new (sub_none er3.sub hp)) _ _ ?_))
        unfold cutV
        rw [d1.len]
        exact (d1.drop _).take _
      | tuple xs =>
        have bx2 := bx
        obtain ⟨a1, v1, rfl, h1, d1⟩ := bx.tup er3.sub
        refine .inr (.inl ⟨a1, v1, rfl, h1, fun w => ?_, fun _ p ob hd hp => ?_⟩)
        · refine z3 H3 G3 er3 .refl _ ?_
          rw [d1.len] at w
          rw [w.1, w.2, List.drop_zero, Nat.sub_zero, List.take_length]
          rcases bx2 with h | ⟨_, _, _, _, e, _⟩
          · exact h
          · cases e
        · refine z3 _ _ (er3.new (o := .frz ob (.tup _)) hp hd) (er3.stepNew hp) _ (.tup (.inl (.inr ⟨_, upd_same⟩)) (dpAll_mono (same_new (sub_none er3.sub hp)) _ _ ?_))
          unfold cutV
          rw [d1.len]
          exact (d1.drop _).take _
      | str z =>
        unfold F_sl at z3
        dsimp only at z3
        split at z3
        · rename_i r er'
          split at er'
          · rename_i hz
            cases er'
            exact .inr (.inr ⟨z, bx.str, hz, z3 H3 G3 er3 .refl _ (.str _)⟩)
          · cases er'
        · exact z3.elim
      | _ => exact z3.elim
end
end SW
set_option Elab.async false
set_option linter.all false
set_option maxRecDepth 100000
set_option maxHeartbeats 2000000
/-! SWIter: what a loop or a comprehension walks. -/
namespace SW
open PySem PySem.Spec PyProof.Rows L2
variable [Tab]
def YD (b : Bool) (K : PySem.W.Frag) (G : Hp) (od : Option D) (H : Hp) (x : V) (H' : Hp) : Prop := ∃ d, od = some d ∧ ((H' = H ∧ Dp K G x d) ∨ b = true ∧ ∃ T xs ds, x = .ref T ∧ H T = none ∧ H' = upd H T (.tup xs) ∧ d = .tuple ds ∧ DpAll K G xs ds)
/-- b: the items may be new pairs, which only a tuple of names may take apart -/
structure WalkD (b : Bool) (K : PySem.W.Frag) (G : Hp) (J : It) (items : List D) : Prop where
  goes : ∀ i Hc, i < items.length → Same G Hc → J.go i Hc
  stops : ∀ Hc, Same G Hc → J.stop items.length Hc
  yields : ∀ i Hc x H', i < items.length → Same G Hc → J.yld i Hc x H' → YD b K G items[i]? Hc x H'
def tI (b : Bool) (K : PySem.W.Frag) (E : WX) (it : AM (List D)) : TI := fun σ H R => ∃ ρ G, ER K ρ σ H G ∧ Out K E (it ρ) ρ σ H G fun items _ H' G' => ∀ J, WalkD b K G' J items → R J H'
abbrev EI (b : Bool) (X : Cx) (E : WX) (tg iter : Expr) (it : AM (List D)) : Prop := PI X tg iter (tI b X.K E it)
theorem PI_imp {X : Cx} {tg iter : Expr} {t t' : TI} (h : PI X tg iter t) (i : ∀ σ H R, t' σ H R → t σ H R) : PI X tg iter t' := ⟨fun pins s σ H R I hw => h.run pins s σ H R I (i σ H R hw)⟩
theorem PI_or {X : Cx} {tg iter : Expr} {t t' : TI} (h : PI X tg iter t) (h' : PI X tg iter t') : PI X tg iter (fun σ H R => t σ H R ∨ t' σ H R) := ⟨fun pins s σ H R I hw => hw.elim (h.run pins s σ H R I) (h'.run pins s σ H R I)⟩
section
variable {K : PySem.W.Frag} {G : Hp} {bb : Bool}
theorem walkD_list {a : Addr} {vs : List V} {ds : List D} (h : SqL K G a vs) (dp : DpAll K G vs ds) : WalkD bb K G (Itl K a) ds where
  goes := fun i Hc hi s => by
    have w := (walk_list (K := K) (a := a) (xs := vs)).goes i Hc (by rw [dp.len]; exact hi) (s.seq h)
    exact w
  stops := fun Hc s => ⟨vs, s.seq h, Nat.le_of_eq dp.len⟩
  yields := fun i Hc x H' hi s y => by
    obtain ⟨e1, e2⟩ := y
    have e3 := e2 vs (s.seq h)
    obtain ⟨v, e4, e5⟩ := dp.get (List.getElem?_eq_getElem hi)
    rw [e3] at e4
    cases e4
    exact ⟨_, List.getElem?_eq_getElem hi, .inl ⟨e1, e5⟩⟩
theorem walkD_tup {a : Addr} {vs : List V} {ds : List D} (h : SqT K G a vs) (dp : DpAll K G vs ds) : WalkD bb K G (Itt K a) ds where
  goes := fun i Hc hi s => by
    have w := (walk_tup (K := K) (a := a) (xs := vs)).goes i Hc (by rw [dp.len]; exact hi) (Same.seqT s h)
    exact w
  stops := fun Hc s => ⟨vs, Same.seqT s h, Nat.le_of_eq dp.len⟩
  yields := fun i Hc x H' hi s y => by
    obtain ⟨e1, e2⟩ := y
    have e3 := e2 vs (Same.seqT s h)
    obtain ⟨v, e4, e5⟩ := dp.get (List.getElem?_eq_getElem hi)
    rw [e3] at e4
    cases e4
    exact ⟨_, List.getElem?_eq_getElem hi, .inl ⟨e1, e5⟩⟩
def signs (z : Str) : List D := z.cps.toList.map fun c => .str ⟨#[c]⟩
theorem walkD_str {z : Str} : WalkD bb K G (Its z) (signs z) where
  goes := fun i Hc hi s => by
    have e : (signs z).length = z.cps.size := by unfold signs; rw [List.length_map, Array.length_toList]
    rw [e] at hi
    exact hi
  stops := fun Hc s => by
    have e : (signs z).length = z.cps.size := by unfold signs; rw [List.length_map, Array.length_toList]
    show z.cps.size ≤ (signs z).length
    rw [e]
    exact Nat.le_refl _
  yields := fun i Hc x H' hi s y => by
    obtain ⟨e1, c, e2, e3⟩ := y
    refine ⟨.str ⟨#[c]⟩, ?_, .inl ⟨e1, by rw [e3]; exact .str _⟩⟩
    unfold signs
    rw [List.getElem?_map, Array.getElem?_toList, e2]
    rfl
theorem walkD_range {lo : Int} {n : Nat} : WalkD bb K G (Itr lo n) ((List.range n).map fun i => .int (lo + (i : Nat))) where
  goes := fun i Hc hi s => by rw [List.length_map, List.length_range] at hi; exact hi
  stops := fun Hc s => by
    show n ≤ _
    rw [List.length_map, List.length_range]
    exact Nat.le_refl _
  yields := fun i Hc x H' hi s y => by
    obtain ⟨e1, e2⟩ := y
    rw [List.length_map, List.length_range] at hi
    refine ⟨.int (lo + (i : Nat)), ?_, .inl ⟨e1, by rw [e2]; exact .int _⟩⟩
    rw [List.getElem?_map, List.getElem?_range hi]
    rfl
/-- what enumerate gives -/
def enumD (ds : List D) : List D := (List.range ds.length).map fun i => .tuple [.int (i : Nat), ds.getD i .none]
theorem enumD_at {ds : List D} {i : Nat} (hi : i < ds.length) : (enumD ds)[i]? = some (.tuple [.int (i : Nat), ds[i]]) := by
  unfold enumD
  rw [List.getElem?_map, List.getElem?_range hi]
  simp [hi]
theorem enumD_len (ds : List D) : (enumD ds).length = ds.length := by unfold enumD; rw [List.length_map, List.length_range]
theorem walkD_enum {a : Addr} {vs : List V} {ds : List D} (h : SqL K G a vs) (dp : DpAll K G vs ds) : WalkD true K G (Ite K a) (enumD ds) where
  goes := fun i Hc hi s => by
    rw [enumD_len] at hi
    exact ⟨vs, vs[i]'(by rw [dp.len]; exact hi), s.seq h, List.getElem?_eq_getElem _⟩
  stops := fun Hc s => ⟨vs, s.seq h, by rw [enumD_len, dp.len]; exact Nat.le_refl _⟩
  yields := fun i Hc x H' hi s y => by
    rw [enumD_len] at hi
    obtain ⟨T, u, e1, e2, e3, e4⟩ := y
    have e5 := e4 vs (s.seq h)
    obtain ⟨v, e6, e7⟩ := dp.get (List.getElem?_eq_getElem hi)
    rw [e5] at e6
    cases e6
    exact ⟨_, enumD_at hi, .inr ⟨rfl, T, _, _, e1, e2, e3, rfl, .cons (.int _) (.cons e7 .nil)⟩⟩
def ItEn (K : PySem.W.Frag) (a : Addr) : It :=
  ⟨fun i H => ∃ (xs : List V) (x : V), SqT K H a xs ∧ xs[i]? = some x, fun i H v H' => ∃ T x, v = .ref T ∧ H T = none ∧ H' = upd H T (.tup [.int (i : Nat), x]) ∧ ∀ xs, SqT K H a xs → xs[i]? = some x, fun i H => ∃ xs : List V, SqT K H a xs ∧ xs.length = i⟩
theorem walkD_enumT {a : Addr} {vs : List V} {ds : List D} (h : SqT K G a vs) (dp : DpAll K G vs ds) : WalkD true K G (ItEn K a) (enumD ds) where
  goes := fun i Hc hi s => by
    rw [enumD_len] at hi
    exact ⟨vs, vs[i]'(by rw [dp.len]; exact hi), Same.seqT s h, List.getElem?_eq_getElem _⟩
  stops := fun Hc s => ⟨vs, Same.seqT s h, by rw [enumD_len, dp.len]⟩
  yields := fun i Hc x H' hi s y => by
    rw [enumD_len] at hi
    obtain ⟨T, u, e1, e2, e3, e4⟩ := y
    have e5 := e4 vs (Same.seqT s h)
    obtain ⟨v, e6, e7⟩ := dp.get (List.getElem?_eq_getElem hi)
    rw [e5] at e6
    cases e6
    exact ⟨_, enumD_at hi, .inr ⟨rfl, T, _, _, e1, e2, e3, rfl, .cons (.int _) (.cons e7 .nil)⟩⟩
theorem turn_enumT {P : Program} {w : World} {K : PySem.W.Frag} {elts : List Expr} {kk : Nat} {tpos : Pos} (a e it : Addr) :
    Turn P w K (.Tuple elts kk tpos) (ItEn K a) [e, it] e (fun i h => (∃ old, IsEnum h e it ((i : Nat) : Int) old) ∧ h.IsTupleIter it a i ∧ e ≠ it) where
  mem := by simp
  obj := fun i h st b hb => by
    obtain ⟨⟨old, he⟩, ⟨o, ho, hc, hd⟩, _⟩ := st
    have e' : b = e ∨ b = it := by simpa using hb
    rcases e' with z | z
    · rw [z]; exact ⟨_, he, fun v q => nomatch q⟩
    · rw [z]; exact ⟨o, ho, fun v q => by rw [hd] at q; cases q⟩
  keep := fun i h h' st k => let ⟨⟨old, he⟩, hi, hne⟩ := st; ⟨⟨old, k e (by simp) _ he⟩, hi.at fun o q => k it (by simp) o q, hne⟩
  item := by
    intro X hP hw hK hc i pins s σ H E I hf st hg
    subst hP hw hK
    obtain ⟨⟨old, he⟩, hit, hne⟩ := st
    obtain ⟨xs, x, hq, hx⟩ := hg
    obtain ⟨its, rv, p, hz⟩ := I.tuple hq
    obtain ⟨u, hu, ru⟩ := rv.get hx
    have hel : e < s.heap.objs.size := Heap.lt_size he
    have hil : it < s.heap.objs.size := by obtain ⟨_, q, _⟩ := hit; exact Heap.lt_size q
    have hal : a < s.heap.objs.size := by obtain ⟨_, q, _⟩ := id p; exact Heap.lt_size q
    have hni : a ≠ it := fun z => by
      obtain ⟨o1, q1, c1, _⟩ := id p
      obtain ⟨o2, q2, c2, _⟩ := hit
      rw [z, q2] at q1
      cases q1
      rw [c1] at c2
      injection c2 with c3
      exact absurd c3 (by decide)
    have hne2 : e ≠ a := fun z => by
      obtain ⟨o1, q1, c1, _⟩ := id p
      have he' : s.heap.get? e = some _ := he
      rw [← z, he'] at q1
      cases q1
      injection c1 with c3
      exact absurd c3 (by decide)
    have hd : X.A.in1.handled = none := by
      show X.A.handled = none
      exact I.ok.hd hc
    have W := GoesN.enumFrom (elts := elts) (x1 := kk) (pos := tpos) 0 (Draws.tuple (prog := X.prog) (w := X.w) hd it a hni its.toArray) e hne (by simp; exact ⟨hne, hne2⟩) (by simp)
    have hst : (∃ old, IsEnum s.heap e it (0 + ((i : Nat) : Int)) old) ∧ (s.heap.IsTupleIter it a i ∧ s.heap.IsTuple a its.toArray) := ⟨⟨old, by rw [Int.zero_add]; exact he⟩, hit, p⟩
    have hlt : i < its.toArray.size := by
      have h3 := (List.getElem?_eq_some_iff.mp hu).1
      simpa using h3
    refine wpAny_mono (W.goes i s (fun v s2 => ∃ x' H', L2.Inv X pins σ H' s2 ∧ RelV x' v ∧ (ItEn X.K a).yld i H x' H' ∧ ((∃ old, IsEnum s2.heap e it (((i + 1 : Nat) : Nat) : Int) old) ∧ s2.heap.IsTupleIter it a (i + 1) ∧ e ≠ it) ∧ ∀ b ∈ [e, it], H' b = none) E hlt hst fun v h' tk hY st' hk htk => ?_) (fun r s1 h1 => ?_) fun _ _ z => z
    · obtain ⟨T, t, x2, rfl, hn, hx2, hT⟩ := hY
      obtain ⟨⟨old', he'⟩, hit', _⟩ := st'
      have eu : x2 = u := by
        rw [show its.toArray[i]? = its[i]? by simp] at hx2
        rw [hu] at hx2
        exact (Option.some.inj hx2).symm
      subst eu
      have new : ObjOk X.prog X.w (upd H T (.tup [.int (i : Nat), x])) h' T (.tup [.int (i : Nat), x]) := by
        refine ⟨by show 2 ≤ sizeLine; decide, [.int (0 + (i : Int)) t, x2], .cons ⟨t, by rw [Int.zero_add]⟩ (.cons ru .nil), ?_⟩
        exact hT
      have I1 : L2.Inv X pins σ (upd H T (.tup [.int (i : Nat), x])) { s with heap := h', toks := tk } :=
        I.turnedNew (ch := [e, it]) (fun b ob hb q => hk b ob hb q) hf hn new
      refine ⟨.ref T, _, I1, rfl, ⟨T, x, rfl, I.hok.fresh hn, rfl, fun ys hy => by rw [I.tuple_inj hy hq]; exact hx⟩, ⟨⟨old', ?_⟩, hit', hne⟩, fun b hb => ?_⟩
      · rw [Int.zero_add] at he'
        exact he'
      · have hb' : b < s.heap.objs.size := by
          have e' : b = e ∨ b = it := by simpa using hb
          rcases e' with z | z
          · rw [z]; exact hel
          · rw [z]; exact hil
        rw [upd_ne (Nat.ne_of_lt (Nat.lt_of_lt_of_le hb' hn))]
        exact (hf b hb).1
    · obtain ⟨v, rfl, h2⟩ := h1
      exact ⟨v, rfl, h2⟩
  done := by
    intro X hP hw hK hc i pins s σ H E I hf st hg
    subst hP hw hK
    obtain ⟨⟨old, he⟩, hit, hne⟩ := st
    obtain ⟨xs, hq, hx⟩ := hg
    obtain ⟨its, rv, p, hz⟩ := I.tuple hq
    have hni : a ≠ it := fun z => by
      obtain ⟨o1, q1, c1, _⟩ := id p
      obtain ⟨o2, q2, c2, _⟩ := hit
      rw [z, q2] at q1
      cases q1
      rw [c1] at c2
      injection c2 with c3
      exact absurd c3 (by decide)
    have hne2 : e ≠ a := fun z => by
      obtain ⟨o1, q1, c1, _⟩ := id p
      have he' : s.heap.get? e = some _ := he
      rw [← z, he'] at q1
      cases q1
      injection c1 with c3
      exact absurd c3 (by decide)
    have hd : X.A.in1.handled = none := by
      show X.A.handled = none
      exact I.ok.hd hc
    have W := GoesN.enumFrom (elts := elts) (x1 := kk) (pos := tpos) 0 (Draws.tuple (prog := X.prog) (w := X.w) hd it a hni its.toArray) e hne (by simp; exact ⟨hne, hne2⟩) (by simp)
    have en : i = its.toArray.size := by
      rw [List.size_toArray, ← rv.length]
      exact hx.symm
    subst en
    refine wpAny_mono (W.stops s (fun s1 => L2.Inv X pins σ H s1) E ⟨⟨old, by rw [Int.zero_add]; exact he⟩, hit, p⟩ fun h' tk hk htk => ?_) (fun r s1 h1 => h1) fun _ _ z => z
    exact I.turnedL (ch := [e, it]) (fun b o hb q => hk b o hb q) hf
  self := fun A i s Q E st h => wpAny_pyIter_enum st.1.choose_spec h
end
set_option maxHeartbeats 4000000 in
theorem meets_enum1 {v : Value} {o : Obj} {Hs : Heap → Prop} (B : Begins v o Hs) :
    Meets (Builtin.«enumerate.__new__» ⟨[.type "enumerate", v], []⟩) (fun _ R s => Hs s.heap ∧
      R (.ok (.ret (.ref (s.heap.push o).objs.size))) { s with heap := (s.heap.push o).push { cls := .type "enumerate", data := .fields #[.none, .bool false, .ref s.heap.objs.size, rawInt 0, .none, .none] } }) :=
  .of_wp fun prog w A R s h => by
    obtain ⟨hp, g, d, tk, os⟩ := s
    obtain ⟨h1, h⟩ := h
    have hsub := sub_enumerate
    have q1 : ∀ {A' : Around} {E : Value → Shared → Prop} {Q : Value → Shared → Prop}, Q (.ref hp.objs.size) ⟨hp.push o, g, d, tk, os⟩ → wpAny (model prog w) A' (pyIter v) Q E ⟨hp, g, d, tk, os⟩ :=
      fun q => B.iter prog w _ _ ⟨hp, g, d, tk, os⟩ _ h1 q
    wp_walk using q1
    refine wpAny_stack_any fun st => wpAny_pure ?_
    split
    · rename_i c _ _ _ _ _
      cases (c == Value.type "enumerate")
      · wp_walk using q1
        exact ⟨_, rfl, h⟩
      · wp_walk using q1
        exact ⟨_, rfl, h⟩
    · wp_walk using q1
      exact ⟨_, rfl, h⟩
theorem enum1_begins {prog : Program} {w : World} {A : Around} {E : Value → Shared → Prop} {s : Shared} {v : Value} {o : Obj} {Hs : Heap → Prop} {Q : Value → Shared → Prop} (B : Begins v o Hs) (h1 : Hs s.heap)
    (h : ∀ h', IsEnum h' (s.heap.objs.size + 1) s.heap.objs.size 0 .none → h'.get? s.heap.objs.size = some o → h'.objs.size = s.heap.objs.size + 2 →
      (∀ b o, s.heap.get? b = some o → h'.get? b = some o) → Q (.ref (s.heap.objs.size + 1)) { s with heap := h' }) :
    wpAny (model prog w) A (call (.type "enumerate") [v]) Q E s := by
  refine callType_new F.called_enumerate (by decide) (F.typeCall_enumerate_1 _) (F.newCall_enumerate_1 _) (fun obj => F.args_object_init_2 obj _) F.entry_enumerate_new (meets_enum1 B) ⟨h1, ?_⟩
  have hz : (s.heap.push o).objs.size = s.heap.objs.size + 1 := Heap.size_push ..
  show _ ∧ _
  rw [hz]
  have he : IsEnum ((s.heap.push o).push { cls := .type "enumerate", data := .fields #[.none, .bool false, .ref s.heap.objs.size, rawInt 0, .none, .none] }) (s.heap.objs.size + 1) s.heap.objs.size 0 .none := by
    have := Heap.get?_push_size (s.heap.push o) (o := { cls := .type "enumerate", data := .fields #[.none, .bool false, .ref s.heap.objs.size, rawInt 0, .none, .none] }) rfl
    rw [hz] at this
    exact this
  exact ⟨⟨_, he, rfl⟩, h _ he (Heap.get?_push_of_some _ (Heap.get?_push_size _ B.free)) (by rw [Heap.size_push, hz]) fun b o x => Heap.get?_push_of_some _ (Heap.get?_push_of_some _ x)⟩
section
variable {X : Cx} {E : WX} {tg e a b : Expr} {f g : AE} {pos p : Pos} {bb : Bool}
/-- a list, a tuple, a text: its items -/
def itemsOf : D → Option (List D)
  | .list ds => some ds
  | .tuple ds => some ds
  | .str z => some (signs z)
  | _ => none
def iSeq (f : AE) : AM (List D) := fun ρ => (f ρ).bind fun d ρ1 => match itemsOf d with
  | some ds => .ok ds ρ1
  | none => .bad
theorem i_seq (h : EV X E e f) : EI bb X E tg e (iSeq f) :=
  PI_imp (PI_or (PI_or (pi_list h) (pi_tup h)) (pi_str h)) fun σ H RR ⟨ρ, G, er, h⟩ => by
    unfold iSeq at h
    cases q : f ρ with
    | err x ρ1 =>
      refine .inl (.inl ⟨ρ, G, er, ?_⟩)
      rw [q] at h ⊢
      exact h
    | bad => rw [q] at h; exact h.elim
    | ok d ρ1 =>
      rw [q] at h
      cases d with
      | list ds =>
        refine .inl (.inl ⟨ρ, G, er, ?_⟩)
        rw [q]
        intro H1 G1 er1 s1 v dp
        cases dp with
        | lst hs ha => exact ⟨_, rfl, ⟨_, er1.sub.seq hs⟩, h H1 G1 er1 s1 _ (walkD_list hs ha)⟩
      | tuple ds =>
        refine .inl (.inr ⟨ρ, G, er, ?_⟩)
        rw [q]
        intro H1 G1 er1 s1 v dp
        cases dp with
        | tup hs ha => exact ⟨_, rfl, ⟨_, Same.seqT er1.sub hs⟩, h H1 G1 er1 s1 _ (walkD_tup hs ha)⟩
      | str z =>
        refine .inr ⟨ρ, G, er, ?_⟩
        rw [q]
        intro H1 G1 er1 s1 v dp
        cases dp
        exact ⟨z, rfl, h H1 G1 er1 s1 _ walkD_str⟩
      | _ => exact h.elim
def rgs (a b : Int) : List D := (List.range (b - a).toNat).map fun i => .int (a + (i : Nat))
def rgIn (a b : Int) : Bool := decide (-4611686018427387904 ≤ a) && (decide (a < 4611686018427387904) && (decide (-4611686018427387904 ≤ b) && decide (b < 4611686018427387904)))
def iRg (r : AM (Int × Int)) : AM (List D) := fun ρ => (r ρ).bind fun p ρ1 => if rgIn p.1 p.2 = true then .ok (rgs p.1 p.2) ρ1 else .bad
theorem i_rg1 (hg : Gl X "range") (hm : X.mg "range" = none) (ha : EV X E a f) (hs : starEach [a] X.env = [(false, eval a X.env)] := by rfl) : EI bb X E tg (.Call (.Name "range" p) [a] [] pos) (iRg (aRg1 f)) :=
  PI_imp (pi_range1 hg hm (pa_cons ha pa_nil hs) hs) fun σ H RR ⟨ρ, G, er, h⟩ => by
    refine tx_of (k := fun d ρ1 => (match d with | .int n => R.ok ((0 : Int), n) ρ1 | _ => .bad).bind fun p ρ1 => if rgIn p.1 p.2 = true then .ok (rgs p.1 p.2) ρ1 else .bad) er (Z := fun items _ H' G' => ∀ J, WalkD bb X.K G' J items → RR J H') ?_ fun v d ρ1 H1 G1 er1 s1 dp z => ?_
    · have e : iRg (aRg1 f) ρ = (f ρ).bind fun d ρ1 => (match d with | .int n => R.ok ((0 : Int), n) ρ1 | _ => .bad).bind fun p ρ1 => if rgIn p.1 p.2 = true then .ok (rgs p.1 p.2) ρ1 else .bad := by
        show ((f ρ).bind _).bind _ = _
        cases f ρ <;> rfl
      rw [← e]
      exact h
    · cases d with
      | int n =>
        cases dp
        have z2 : Out X.K E (if rgIn 0 n = true then R.ok (rgs 0 n) ρ1 else .bad) ρ1 σ H1 G1 _ := z
        split at z2
        · rename_i hz
          unfold rgIn at hz
          simp only [Bool.and_eq_true, decide_eq_true_eq] at hz
          have w := z2 H1 G1 er1 .refl (Itr 0 n.toNat)
          have e2 : rgs 0 n = (List.range n.toNat).map fun i => PyData.int (0 + ((i : Nat) : Int)) := by unfold rgs; rw [Int.sub_zero]
          rw [e2] at w
          exact ⟨n, rfl, by omega, by omega, w walkD_range⟩
        · exact z2.elim
      | _ => exact z.elim
theorem i_rg2 (hg : Gl X "range") (hm : X.mg "range" = none) (ha : EV X E a f) (hb : EV X E b g) (hs : starEach [a, b] X.env = [(false, eval a X.env), (false, eval b X.env)] := by rfl) (hs2 : starEach [b] X.env = [(false, eval b X.env)] := by rfl) : EI bb X E tg (.Call (.Name "range" p) [a, b] [] pos) (iRg (aRg2 f g)) :=
  PI_imp (pi_range2 hg hm (pa_cons ha (pa_cons hb pa_nil hs2) (by rw [hs, hs2])) hs hs2) fun σ H RR ⟨ρ, G, er, h⟩ => by
    refine tx_of (k := fun d ρ1 => (match d with | .int i => (g ρ1).bind fun d ρ2 => (match d with | .int j => R.ok (i, j) ρ2 | _ => .bad) | _ => .bad).bind fun p ρ1 => if rgIn p.1 p.2 = true then .ok (rgs p.1 p.2) ρ1 else .bad) er (Z := fun items _ H' G' => ∀ J, WalkD bb X.K G' J items → RR J H') ?_ fun v d ρ1 H1 G1 er1 s1 dp z => ?_
    · have e : iRg (aRg2 f g) ρ = (f ρ).bind fun d ρ1 => (match d with | .int i => (g ρ1).bind fun d ρ2 => (match d with | .int j => R.ok (i, j) ρ2 | _ => .bad) | _ => .bad).bind fun p ρ1 => if rgIn p.1 p.2 = true then .ok (rgs p.1 p.2) ρ1 else .bad := by
        show ((f ρ).bind _).bind _ = _
        cases f ρ <;> rfl
      rw [← e]
      exact h
    · cases d with
      | int i =>
        cases dp
        refine tx_of (k := fun d ρ2 => (match d with | .int j => R.ok (i, j) ρ2 | _ => .bad).bind fun p ρ1 => if rgIn p.1 p.2 = true then .ok (rgs p.1 p.2) ρ1 else .bad) er1 (Z := fun items _ H' G' => ∀ J, WalkD bb X.K G' J items → RR J H') ?_ fun v2 d2 ρ2 H2 G2 er2 s2 dp2 z2 => ?_
        · have e : ((g ρ1).bind fun d ρ2 => (match d with | .int j => R.ok (i, j) ρ2 | _ => .bad)).bind (fun (p : Int × Int) ρ1 => if rgIn p.1 p.2 = true then R.ok (rgs p.1 p.2) ρ1 else .bad) = (g ρ1).bind fun d ρ2 => (match d with | .int j => R.ok (i, j) ρ2 | _ => .bad).bind fun p ρ1 => if rgIn p.1 p.2 = true then .ok (rgs p.1 p.2) ρ1 else .bad := by
            cases g ρ1 <;> rfl
          rw [← e]
          exact z
        · cases d2 with
          | int j =>
            cases dp2
            have z3 : Out X.K E (if rgIn i j = true then R.ok (rgs i j) ρ2 else .bad) ρ2 σ H2 G2 _ := z2
            split at z3
            · rename_i hz
              unfold rgIn at hz
              simp only [Bool.and_eq_true, decide_eq_true_eq] at hz
              exact ⟨i, j, rfl, ⟨by omega, by omega, by omega, by omega⟩, z3 H2 G2 er2 .refl _ walkD_range⟩
            · exact z3.elim
          | _ => exact z2.elim
      | _ => exact z.elim
/-- enumerate of a list or a tuple -/
def iEnumA (f : AE) : AM (List D) := fun ρ => (f ρ).bind fun d ρ1 => match d with
  | .list ds => .ok (enumD ds) ρ1
  | .tuple ds => .ok (enumD ds) ρ1
  | _ => .bad
def iEnT (K : PySem.W.Frag) (ta : TA) : TI := fun σ H R => ta σ H fun vs H1 => ∃ a xs, vs = [.ref a] ∧ SqT K H1 a xs ∧ R (ItEn K a) H1
theorem pi_enumT {ta : TA} {tpos : Pos} {elts : List Expr} {kk : Nat} (hg : Gl X "enumerate") (hm : X.mg "enumerate" = none) (ha : PA X [e] ta) (hs : starEach [e] X.env = [(false, eval e X.env)] := by rfl) :
    PI X (.Tuple elts kk tpos) (.Call (.Name "enumerate" p) [e] [] pos) (iEnT X.K ta) := by
  refine ⟨fun pins s σ H R I h => ?_⟩
  refine Call_ (ld_blt I hg hm boot_enumerate (PyProof.Rows.callWith_type1 (thn (ha.run pos pins s σ H _ I h) fun us s1 ⟨vs, H1, I1, r1, q1⟩ => ?_) hs rfl))
  obtain ⟨a, xs, ex, hq, q⟩ := q1
  subst ex
  cases r1 with
  | cons r rr =>
    cases rr
    cases r
    obtain ⟨its, rv, p', hz⟩ := I1.tuple hq
    refine enum1_begins (begins_tuple a its.toArray) p' fun h' he hit hsz hk => wpAny_pyIter_enum he ?_
    have I2 : L2.Inv X pins σ H1 { s1 with heap := h' } := I1.kept (t' := s1.toks) hk
    refine ⟨s1.heap.objs.size + 1, [s1.heap.objs.size + 1, s1.heap.objs.size], _, _, H1, rfl, I2, turn_enumT a (s1.heap.objs.size + 1) s1.heap.objs.size, ⟨⟨.none, he⟩, ⟨_, hit, rfl, rfl⟩, Nat.succ_ne_self _⟩, fun b hb => ?_, q⟩
    have e' : b = s1.heap.objs.size + 1 ∨ b = s1.heap.objs.size := by simpa using hb
    have hle : s1.heap.objs.size ≤ b := by
      rcases e' with z | z
      · rw [z]; exact Nat.le_add_right _ _
      · rw [z]; exact Nat.le_refl _
    exact I1.fpOk hle (I1.hok.fresh hle)
theorem i_enum {tpos : Pos} {elts : List Expr} {kk : Nat} (hg : Gl X "enumerate") (hm : X.mg "enumerate" = none) (ha : EV X E e f) (hs : starEach [e] X.env = [(false, eval e X.env)] := by rfl) :
    EI true X E (.Tuple elts kk tpos) (.Call (.Name "enumerate" p) [e] [] pos) (iEnumA f) :=
  PI_imp (PI_or (pi_enum hg hm (pa_cons ha pa_nil hs) hs) (pi_enumT hg hm (pa_cons ha pa_nil hs) hs)) fun σ H RR ⟨ρ, G, er, h⟩ => by
    unfold iEnumA at h
    cases q : f ρ with
    | err x ρ1 =>
      refine .inl ⟨ρ, G, er, ?_⟩
      rw [q] at h ⊢
      exact h
    | bad => rw [q] at h; exact h.elim
    | ok d ρ1 =>
      rw [q] at h
      cases d with
      | list ds =>
        refine .inl ⟨ρ, G, er, ?_⟩
        rw [q]
        intro H1 G1 er1 s1 v dp
        cases dp with
        | lst hs ha => exact ⟨_, _, rfl, er1.sub.seq hs, h H1 G1 er1 s1 _ (walkD_enum hs ha)⟩
      | tuple ds =>
        refine .inr ⟨ρ, G, er, ?_⟩
        rw [q]
        intro H1 G1 er1 s1 v dp
        cases dp with
        | tup hs ha => exact ⟨_, _, rfl, Same.seqT er1.sub hs, h H1 G1 er1 s1 _ (walkD_enumT hs ha)⟩
      | _ => exact h.elim
/-- zip of two lists or two tuples -/
def zipD (ds es : List D) : List D := (ds.zip es).map fun p => .tuple [p.1, p.2]
theorem zipD_len (ds es : List D) : (zipD ds es).length = min ds.length es.length := by unfold zipD; rw [List.length_map, List.length_zip]
theorem zipD_at {ds es : List D} {i : Nat} (h1 : i < ds.length) (h2 : i < es.length) : (zipD ds es)[i]? = some (.tuple [ds[i], es[i]]) := by
  have h3 : i < (ds.zip es).length := by rw [List.length_zip]; omega
  unfold zipD
  rw [List.getElem?_map, List.getElem?_eq_getElem h3, List.getElem_zip]
  rfl
theorem walkD_zip {K : PySem.W.Frag} {G : Hp} {a b : Addr} {vs us : List V} {ds es : List D} (h : SqL K G a vs) (dp : DpAll K G vs ds) (h' : SqL K G b us) (dp' : DpAll K G us es) : WalkD true K G (Itz K a b) (zipD ds es) where
  goes := fun i Hc hi s => by
    rw [zipD_len] at hi
    exact ⟨vs, us, vs[i]'(by rw [dp.len]; omega), us[i]'(by rw [dp'.len]; omega), s.seq h, s.seq h', List.getElem?_eq_getElem _, List.getElem?_eq_getElem _⟩
  stops := fun Hc s => ⟨vs, us, s.seq h, s.seq h', by rw [zipD_len, dp.len, dp'.len]; omega⟩
  yields := fun i Hc x H' hi s y => by
    rw [zipD_len] at hi
    obtain ⟨T, u1, u2, e1, e2, e3, e4, e5⟩ := y
    have e6 := e4 vs (s.seq h)
    have e7 := e5 us (s.seq h')
    obtain ⟨v, e8, e9⟩ := dp.get (List.getElem?_eq_getElem (show i < ds.length by omega))
    obtain ⟨v', e8', e9'⟩ := dp'.get (List.getElem?_eq_getElem (show i < es.length by omega))
    rw [e6] at e8
    cases e8
    rw [e7] at e8'
    cases e8'
    exact ⟨_, zipD_at (by omega) (by omega), .inr ⟨rfl, T, _, _, e1, e2, e3, rfl, .cons e9 (.cons e9' .nil)⟩⟩
theorem walkD_zipT {K : PySem.W.Frag} {G : Hp} {a b : Addr} {vs us : List V} {ds es : List D} (h : SqT K G a vs) (dp : DpAll K G vs ds) (h' : SqT K G b us) (dp' : DpAll K G us es) : WalkD true K G (RZ.ItzT K a b) (zipD ds es) where
  goes := fun i Hc hi s => by
    rw [zipD_len] at hi
    exact ⟨vs, us, vs[i]'(by rw [dp.len]; omega), us[i]'(by rw [dp'.len]; omega), Same.seqT s h, Same.seqT s h', List.getElem?_eq_getElem _, List.getElem?_eq_getElem _⟩
  stops := fun Hc s => ⟨vs, us, Same.seqT s h, Same.seqT s h', by rw [zipD_len, dp.len, dp'.len]; omega⟩
  yields := fun i Hc x H' hi s y => by
    rw [zipD_len] at hi
    obtain ⟨T, u1, u2, e1, e2, e3, e4, e5⟩ := y
    have e6 := e4 vs (Same.seqT s h)
    have e7 := e5 us (Same.seqT s h')
    obtain ⟨v, e8, e9⟩ := dp.get (List.getElem?_eq_getElem (show i < ds.length by omega))
    obtain ⟨v', e8', e9'⟩ := dp'.get (List.getElem?_eq_getElem (show i < es.length by omega))
    rw [e6] at e8
    cases e8
    rw [e7] at e8'
    cases e8'
    exact ⟨_, zipD_at (by omega) (by omega), .inr ⟨rfl, T, _, _, e1, e2, e3, rfl, .cons e9 (.cons e9' .nil)⟩⟩
def iZipS (fs : List AE) : AM (List D) := fun ρ => (evsD fs ρ).bind fun ds ρ1 => match ds with
  | [.list a, .list b] => .ok (zipD a b) ρ1
  | [.tuple a, .tuple b] => .ok (zipD a b) ρ1
  | _ => .bad
theorem i_zip {tpos : Pos} {elts : List Expr} {kk : Nat} {fs : List AE} (hg : Gl X "zip") (hm : X.mg "zip" = none) (ha : EDs X E [a, b] fs)
    (hs : starEach [a, b] X.env = (false, eval a X.env) :: starEach [b] X.env := by rfl) (hpl : (backTo pos (starEach [b] X.env)).any (·.1) = false := by rfl) :
    EI true X E (.Tuple elts kk tpos) (.Call (.Name "zip" p) [a, b] [] pos) (iZipS fs) :=
  PI_imp (RZ.pi_zipA hg hm ha hs hpl) fun σ H RR ⟨ρ, G, er, h⟩ => evsD_step er h fun vs ds ρ1 H1 G1 er1 s1 dps z => by
    split at z
    · rename_i x y
      cases dps with
      | cons d1 t =>
        cases t with
        | cons d2 t2 =>
          cases t2
          cases d1 with
          | lst hs1 ha1 =>
            cases d2 with
            | lst hs2 ha2 => exact ⟨_, _, _, _, rfl, .inl ⟨er1.sub.seq hs1, er1.sub.seq hs2, z H1 G1 er1 .refl _ (walkD_zip hs1 ha1 hs2 ha2)⟩⟩
    · rename_i x y
      cases dps with
      | cons d1 t =>
        cases t with
        | cons d2 t2 =>
          cases t2
          cases d1 with
          | tup hs1 ha1 =>
            cases d2 with
            | tup hs2 ha2 => exact ⟨_, _, _, _, rfl, .inr ⟨Same.seqT er1.sub hs1, Same.seqT er1.sub hs2, z H1 G1 er1 .refl _ (walkD_zipT hs1 ha1 hs2 ha2)⟩⟩
    · exact z.elim
end
end SW
set_option Elab.async false
set_option linter.all false
set_option maxRecDepth 100000
set_option maxHeartbeats 2000000
/-! SWStm: targets, comprehensions, statements. -/
namespace SW
open PySem PySem.Spec PyProof.Rows L2
variable [Tab]
/-! ### targets -/
abbrev AG := D → En → R Unit
/-- but at ws the slots are as they were -/
def But (ws : List Nat) (σ σ' : L2.St) : Prop := σ'.length = σ.length ∧ ∀ i, i ∉ ws → σ'[i]? = σ[i]?
def OutG (K : PySem.W.Frag) (ws : List Nat) (r : R Unit) (ρ : En) (σ : L2.St) (H G : Hp) (Q : L2.St → Hp → Prop) : Prop := match r with
  | .ok _ ρ' => ∀ σ' H' G', ER K ρ' σ' H' G' → Step ρ σ H G ρ' σ' H' G' → But ws σ σ' → Q σ' H'
  | _ => False
/-- data, or (b) a new pair of data -/
def DpI (b : Bool) (K : PySem.W.Frag) (G H : Hp) (v : V) (d : D) : Prop := Dp K G v d ∨ b = true ∧ ∃ T xs ds, v = .ref T ∧ d = .tuple ds ∧ H T = some (.tup xs) ∧ DpAll K G xs ds
def tG (b : Bool) (K : PySem.W.Frag) (ws : List Nat) (g : AG) : TG := fun v σ H Q => ∃ ρ G d, ER K ρ σ H G ∧ DpI b K G H v d ∧ OutG K ws (g d ρ) ρ σ H G Q
abbrev EG (b : Bool) (X : Cx) (tg : Expr) (g : AG) (ws : List Nat) : Prop := PG X tg (tG b X.K ws g)
theorem But.refl {ws : List Nat} {σ : L2.St} : But ws σ σ := ⟨rfl, fun _ _ => rfl⟩
theorem But.trans {ws us : List Nat} {σ σ1 σ2 : L2.St} (a : But ws σ σ1) (b : But us σ1 σ2) : But (ws ++ us) σ σ2 :=
  ⟨b.1.trans a.1, fun i h => (b.2 i fun z => h (List.mem_append_right _ z)).trans (a.2 i fun z => h (List.mem_append_left _ z))⟩
theorem But.set {σ : L2.St} {i : Nat} {v : Option V} : But [i] σ (σ.set i v) := ⟨List.length_set, fun j h => List.getElem?_set_ne (fun e => h (by simp [e]))⟩
def isIo : SV → Bool
  | .own true _ => true
  | _ => false
def gNm (i : Nat) : AG := fun d ρ => if isIo (getSlot ρ i) = true then .bad else .ok () (setSlot ρ i (.pl d))
theorem not_io {ρ : En} {i : Nat} (h : ¬ isIo (getSlot ρ i) = true) {ds : List D} (e : ρ[i]? = some (.own true ds)) : False := by
  apply h
  unfold getSlot
  rw [e]
  rfl
theorem ER.put {K : PySem.W.Frag} {ρ : En} {σ : L2.St} {H G : Hp} (er : ER K ρ σ H G) {i : Nat} {v : V} {d : D} (h : ¬ isIo (getSlot ρ i) = true) (dp : Dp K G v d) :
    ER K (ρ.set i (.pl d)) (σ.set i (some v)) H G ∧ Step ρ σ H G (ρ.set i (.pl d)) (σ.set i (some v)) H G := by
  have other : ∀ {j : Nat} {w : SV}, (ρ.set i (.pl d))[j]? = some w → (∀ e, w ≠ .pl e) → j ≠ i ∧ ρ[j]? = some w ∧ (σ.set i (some v))[j]? = σ[j]? := fun {j w} e hw => by
    rcases set_get e with ⟨rfl, e, _⟩ | ⟨hj, e⟩
    · exact (hw _ e).elim
    · exact ⟨hj, e, List.getElem?_set_ne (Ne.symm hj)⟩
  refine ⟨⟨by simpa using er.len, er.sub, fun j e he => ?_, fun j io ds he => ?_, fun j k io ds io' ds' a h1 h2 h3 h4 => ?_, fun j w he => ?_, er.tabs, er.ng⟩, ⟨Same.refl _, fun b o hb _ _ => ⟨hb, rfl⟩, fun _ h => h, fun b hb => .inl ?_, fun j ds he => ?_, by simp⟩⟩
  · rcases set_get he with ⟨rfl, e1, hl⟩ | ⟨hj, e1⟩
    · cases e1
      exact ⟨v, List.getElem?_set_self (by rw [← er.len]; exact hl), dp⟩
    · obtain ⟨u, q1, q2⟩ := er.pl j e e1
      exact ⟨u, by rw [List.getElem?_set_ne (Ne.symm hj)]; exact q1, q2⟩
  · obtain ⟨hj, e1, e2⟩ := other he (fun _ z => nomatch z)
    obtain ⟨a, vs, q1, q2⟩ := er.own j io ds e1
    exact ⟨a, vs, by rw [e2]; exact q1, q2⟩
  · obtain ⟨_, e1, e2⟩ := other h1 (fun _ z => nomatch z)
    obtain ⟨_, e3, e4⟩ := other h2 (fun _ z => nomatch z)
    rw [e2] at h3
    rw [e4] at h4
    exact er.inj j k io ds io' ds' a e1 e3 h3 h4
  · obtain ⟨_, e1, e2⟩ := other he (fun _ z => nomatch z)
    rw [e2]
    exact er.raw j w e1
  · obtain ⟨j, io, ds, h1, h2⟩ := hb
    obtain ⟨_, e1, e2⟩ := other h1 (fun _ z => nomatch z)
    rw [e2] at h2
    exact ⟨j, io, ds, e1, h2⟩
  · obtain ⟨_, e1, e2⟩ := other he (fun _ z => nomatch z)
    exact ⟨ds, e1, e2⟩
section
variable {X : Cx} {pos : Pos}
theorem g_nm {i : Nat} {x : Str} (hN : X.N.Nodup) (hi : X.N[i]? = some x) (hx : Loc X.env.scope x) (hf : X.fn x = true ∨ X.env.scope.names.lookup x = some .local := by first | exact .inl rfl | exact .inr rfl | assumption) : EG false X (.Name x pos) (gNm i) [i] :=
  ⟨fun pins s σ H v u Q I r h => (pg_name (pos := pos) hN hi hx hf).run pins s σ H v u Q I r (by
    obtain ⟨ρ, G, d, er, dp, h⟩ := h
    have dp := dp.resolve_right fun z => nomatch z.1
    unfold gNm at h
    split at h
    · exact h.elim
    · rename_i hn
      obtain ⟨e1, s1⟩ := er.put hn dp
      exact h _ _ _ e1 s1 .set)⟩
def gsRun : List AG → List D → En → R Unit
  | [], [], ρ => .ok () ρ
  | g :: gs, d :: ds, ρ => (g d ρ).bind fun _ ρ1 => gsRun gs ds ρ1
  | _, _, _ => .bad
def tGs (K : PySem.W.Frag) (ws : List Nat) (gs : List AG) : TGs := fun vs σ H Q => ∃ ρ G ds, ER K ρ σ H G ∧ DpAll K G vs ds ∧ OutG K ws (gsRun gs ds ρ) ρ σ H G Q
abbrev EGs (X : Cx) (ts : List Expr) (gs : List AG) (ws : List Nat) : Prop := PGs X ts (tGs X.K ws gs)
theorem gs_nil : EGs X [] [] [] := ⟨fun pins s σ H vs us Q I r h => pgs_nil.run pins s σ H vs us Q I r (by
  obtain ⟨ρ, G, ds, er, dp, h⟩ := h
  cases dp with
  | nil => exact ⟨rfl, h σ H G er .refl .refl⟩
  | cons _ _ => exact h.elim)⟩
theorem gs_cons {e : Expr} {es : List Expr} {g : AG} {gs : List AG} {ws wz : List Nat} (h1 : EG false X e g ws) (h2 : EGs X es gs wz) (hs : (assignEach (e :: es) X.env).map (·.2) = assign e X.env :: (assignEach es X.env).map (·.2) := by rfl) : EGs X (e :: es) (g :: gs) (ws ++ wz) :=
  ⟨fun pins s σ H vs us Q I r h => (pgs_cons h1 h2 hs).run pins s σ H vs us Q I r (by
    obtain ⟨ρ, G, ds, er, dp, h⟩ := h
    cases dp with
    | nil => exact h.elim
    | cons d1 dt =>
      rename_i v vr d dr
      refine ⟨v, vr, rfl, ρ, G, d, er, .inl d1, ?_⟩
      have h' : OutG X.K (ws ++ wz) ((g d ρ).bind fun _ ρ1 => gsRun gs dr ρ1) ρ σ H G Q := h
      cases q : g d ρ with
      | err x ρ1 => rw [q] at h'; exact h'.elim
      | bad => rw [q] at h'; exact h'.elim
      | ok u ρ1 =>
        rw [q] at h'
        intro σ1 H1 G1 er1 s1 b1
        refine ⟨ρ1, G1, dr, er1, dpAll_mono s1.sg _ _ dt, ?_⟩
        have h3 : OutG X.K (ws ++ wz) (gsRun gs dr ρ1) ρ σ H G Q := h'
        cases q2 : gsRun gs dr ρ1 with
        | err x ρ1 => rw [q2] at h3; exact h3.elim
        | bad => rw [q2] at h3; exact h3.elim
        | ok u2 ρ2 =>
          rw [q2] at h3
          exact fun σ2 H2 G2 er2 s2 b2 => h3 σ2 H2 G2 er2 (s1.trans s2) (b1.trans b2))⟩
def gTupA (gs : List AG) : AG := fun d ρ => match d with
  | .tuple ds => gsRun gs ds ρ
  | _ => .bad
theorem gsRun_len : ∀ {gs : List AG} {ds : List D} {ρ ρ' : En} {u : Unit}, gsRun gs ds ρ = .ok u ρ' → ds.length = gs.length
  | [], [], _, _, _, _ => rfl
  | g :: gs, d :: ds, ρ, ρ', u, h => by
    have h' : (g d ρ).bind (fun _ ρ1 => gsRun gs ds ρ1) = .ok u ρ' := h
    cases q : g d ρ with
    | ok a ρ1 => rw [q] at h'; exact congrArg (· + 1) (gsRun_len h')
    | err x ρ1 => rw [q] at h'; cases h'
    | bad => rw [q] at h'; cases h'
  | [], _ :: _, _, _, _, h => by cases h
  | _ :: _, [], _, _, _, h => by cases h
theorem g_tup {bb : Bool} {es : List Expr} {k : Nat} {gs : List AG} {ws : List Nat} (hc : X.calm = true) (h : EGs X es gs ws) (hn : (assignEach es X.env).length = gs.length := by rfl) (hst : (assignEach es X.env).findIdx? (·.1) = none := by rfl) : EG bb X (.Tuple es k pos) (gTupA gs) ws :=
  ⟨fun pins s σ H v u Q I r hw => (pg_tup (k := k) (pos := pos) (n := gs.length) hc h hn hst).run pins s σ H v u Q I r (by
    obtain ⟨ρ, G, d, er, dp, h⟩ := hw
    cases d with
    | tuple ds =>
      have h' : OutG X.K ws (gsRun gs ds ρ) ρ σ H G Q := h
      obtain ⟨a, xs, rfl, hs, ha⟩ : ∃ a xs, v = .ref a ∧ SqT X.K H a xs ∧ DpAll X.K G xs ds := by
        rcases dp with dp | ⟨_, T, xs, ds', rfl, e, hT, ha⟩
        · cases dp with
          | tup hs ha => exact ⟨_, _, rfl, Same.seqT er.sub hs, ha⟩
        · cases e
          exact ⟨T, xs, rfl, .inl (.inl hT), ha⟩
      refine ⟨_, _, rfl, hs, ?_, ρ, G, ds, er, ha, h'⟩
      rw [ha.len]
      cases q : gsRun gs ds ρ with
      | ok a ρ1 => exact gsRun_len q
      | err x ρ1 => rw [q] at h'; exact h'.elim
      | bad => rw [q] at h'; exact h'.elim
    | _ => exact h.elim)⟩
end
/-! ### a list of one's own is changed -/
theorem ER.ownSet {K : PySem.W.Frag} {ρ : En} {σ : L2.St} {H G : Hp} (er : ER K ρ σ H G) {i : Nat} {io : Bool} {ds ds' : List D} {a : Addr} {us : List V} (h : ρ[i]? = some (.own io ds)) (ha : σ[i]? = some (some (.ref a))) (dp : DpAll K G us ds') :
    ER K (ρ.set i (.own io ds')) σ (upd H a (.lst us)) G ∧ Step ρ σ H G (ρ.set i (.own io ds')) σ (upd H a (.lst us)) G := by
  obtain ⟨a', vs, h1, h2, h3, h4⟩ := er.own i io ds h
  rw [ha] at h1
  cases h1
  refine ⟨⟨by simpa using er.len, fun b x e => ?_, fun j d e => ?_, fun j jo es e => ?_, fun j k jo es ko fs b e1 e2 q1 q2 => ?_, fun j v e => ?_, er.tabs.lst h3, er.ng⟩, ⟨Same.refl _, fun b o e _ n => ⟨?_, rfl⟩, fun b e => ?_, fun b z => .inl ?_, fun j es e => ?_, by simp⟩⟩
  · rw [upd_ne fun z => by rw [z, h2] at e; cases e]
    exact er.sub _ _ e
  · rcases set_get e with ⟨rfl, e, _⟩ | ⟨_, e⟩
    · cases e
    · exact er.pl j d e
  · rcases set_get e with ⟨rfl, e, _⟩ | ⟨hj, e⟩
    · cases e
      exact ⟨a, us, ha, h2, upd_same, dp⟩
    · obtain ⟨b, ws, q1, q2, q3, q4⟩ := er.own j jo es e
      have ne : b ≠ a := fun z => hj (er.inj _ _ _ _ _ _ b e h q1 (by rw [z]; exact ha))
      exact ⟨b, ws, q1, q2, by rw [upd_ne ne]; exact q3, q4⟩
  · have back : ∀ {j : Nat} {jo : Bool} {es : List D}, (ρ.set i (.own io ds'))[j]? = some (.own jo es) → ∃ jo' es', ρ[j]? = some (.own jo' es') := fun {j jo es} e => by
      rcases set_get e with ⟨rfl, _, _⟩ | ⟨_, e⟩
      · exact ⟨_, _, h⟩
      · exact ⟨_, _, e⟩
    obtain ⟨_, _, f1⟩ := back e1
    obtain ⟨_, _, f2⟩ := back e2
    exact er.inj _ _ _ _ _ _ b f1 f2 q1 q2
  · rcases set_get e with ⟨rfl, e, _⟩ | ⟨_, e⟩
    · cases e
    · exact er.raw j v e
  · rw [upd_ne fun z => n (by rw [z]; exact ⟨i, io, ds, h, ha⟩)]
    exact e
  · by_cases hb : b = a
    · rw [hb, upd_same] at e; cases e
    · rw [upd_ne hb] at e; exact e
  · obtain ⟨j, jo, es, e, q⟩ := z
    rcases set_get e with ⟨rfl, e, _⟩ | ⟨_, e⟩
    · exact ⟨j, io, ds, h, q⟩
    · exact ⟨j, jo, es, e, q⟩
  · rcases set_get e with ⟨rfl, e, _⟩ | ⟨_, e⟩
    · cases e
      exact ⟨ds, h, rfl⟩
    · exact ⟨es, e, rfl⟩
def setAt : D → SV → D → Option SV
  | .int n, .own io ds, d => (match ixN ds.length n with
    | some j => some (.own io (ds.set j d))
    | none => none)
  | _, _, _ => none
theorem setAt_ok {k : D} {sv : SV} {d : D} {r : SV} (h : setAt k sv d = some r) : ∃ n io ds j, k = .int n ∧ sv = .own io ds ∧ ixN ds.length n = some j ∧ r = .own io (ds.set j d) := by
  cases k with
  | int n =>
    cases sv with
    | own io ds =>
      have h' : (match ixN ds.length n with
        | some j => some (SV.own io (ds.set j d))
        | none => none) = some r := h
      split at h'
      · rename_i j e
        cases h'
        exact ⟨n, io, ds, j, rfl, rfl, e, rfl⟩
      · cases h'
    | _ => cases h
  | _ => cases h
def isOwn : SV → Bool
  | .own _ _ => true
  | _ => false
theorem isOwn_at {ρ : En} {i : Nat} (h : isOwn (getSlot ρ i) = true) : ∃ io ds, ρ[i]? = some (.own io ds) := by
  cases e : getSlot ρ i with
  | own io ds => exact ⟨io, ds, getSlot_own e⟩
  | _ => rw [e] at h; cases h
def gIx (i : Nat) (fi : AE) : AG := fun d ρ => if isOwn (getSlot ρ i) = true then (match fi ρ with
  | .ok k ρ1 => (match setAt k (getSlot ρ1 i) d with
    | some r => .ok () (setSlot ρ1 i r)
    | none => .bad)
  | _ => .bad) else .bad
theorem g_ix {X : Cx} {pos p : Pos} {i : Nat} {x : Str} {e : Expr} {fi : AE} (hN : X.N[i]? = some x) (hv : Vis X.env.scope x) (he : EV X (fun _ _ _ _ => False) e fi)
    (ha : ∀ v, assign (.Subscript (.Name x p) e pos) X.env v = (do
      let ov ← holding [v] (eval (.Name x p) X.env)
      let iv ← holding [v, ov] (eval e X.env)
      standAt pos
      holding [v, ov, iv] (setItem ov iv v)
      release [v, ov, iv] []) := by intro _; rfl) (hd : (x == ("__debug__" : Str)) = false := by decide) (hcd : (x == ("__classdict__" : Str)) = false := by decide) : EG false X (.Subscript (.Name x p) e pos) (gIx i fi) [] :=
  ⟨fun pins s σ H v u Q I r h => (pg_sub (pe_var hN hv hd hcd) he set_list ha).run pins s σ H v u Q I r (by
    obtain ⟨ρ, G, d, er, dp, h⟩ := h
    have dp := dp.resolve_right fun z => nomatch z.1
    unfold gIx at h
    split at h
    · rename_i ho
      obtain ⟨io0, ds0, eo0⟩ := isOwn_at ho
      obtain ⟨a0, vs0, ea0, _⟩ := er.own i io0 ds0 eo0
      refine ⟨_, ea0, ρ, G, er, ?_⟩
      cases q : fi ρ with
      | err x ρ1 => rw [q] at h; exact h.elim
      | bad => rw [q] at h; exact h.elim
      | ok k ρ1 =>
        rw [q] at h
        have h0 : OutG X.K [] (match setAt k (getSlot ρ1 i) d with
          | some r => R.ok () (setSlot ρ1 i r)
          | none => .bad) ρ σ H G Q := h
        intro H1 G1 er1 s1 iv dpi
        split at h0
        · rename_i r er'
          obtain ⟨n, io, ds, j, rfl, eo, ej, rfl⟩ := setAt_ok er'
          have eo := getSlot_own eo
          cases dpi
          obtain ⟨a, vs, h1, h2, h3, h4⟩ := er1.own i io ds eo
          rw [ea0] at h1
          cases h1
          refine ⟨a0, vs, n, j, rfl, rfl, h3, by rw [h4.len]; exact ej, ?_⟩
          obtain ⟨er2, s2⟩ := er1.ownSet (ds' := ds.set j d) (us := vs.set j v) eo ea0 (h4.set (dp_mono s1.sg _ _ dp) j)
          exact h0 σ _ _ er2 (s1.trans s2) .refl
        · exact h0.elim
    · exact h.elim)⟩
/-! ### comprehensions -/
def wipeE (ρ : En) : List Nat → En
  | [] => ρ
  | v :: vs => (wipeE ρ vs).set v .un
def backE (ρ ρ' : En) : List Nat → En
  | [] => ρ'
  | v :: vs => (backE ρ ρ' vs).set v (getSlot ρ v)
theorem wipeE_length (ρ : En) : ∀ vs : List Nat, (wipeE ρ vs).length = ρ.length
  | [] => rfl
  | v :: vs => by
    show ((wipeE ρ vs).set v .un).length = _
    rw [List.length_set, wipeE_length ρ vs]
theorem backE_length (ρ ρ' : En) : ∀ vs : List Nat, (backE ρ ρ' vs).length = ρ'.length
  | [] => rfl
  | v :: vs => by
    show ((backE ρ ρ' vs).set v _).length = _
    rw [List.length_set, backE_length ρ ρ' vs]
theorem wipeE_at {ρ : En} {i : Nat} {w : SV} : ∀ {vs : List Nat}, (wipeE ρ vs)[i]? = some w → w ≠ .un → i ∉ vs ∧ ρ[i]? = some w
  | [], h, _ => ⟨by simp, h⟩
  | v :: vs, h, hw => by
    rcases set_get (ρ := wipeE ρ vs) h with ⟨_, e, _⟩ | ⟨hj, e⟩
    · exact (hw e).elim
    · obtain ⟨h1, h2⟩ := wipeE_at e hw
      exact ⟨by simp; exact ⟨hj, h1⟩, h2⟩
theorem backE_at {ρ ρ' : En} (hl : ρ.length = ρ'.length) {i : Nat} {w : SV} : ∀ {vs : List Nat}, (backE ρ ρ' vs)[i]? = some w → (i ∈ vs ∧ ρ[i]? = some w) ∨ (i ∉ vs ∧ ρ'[i]? = some w)
  | [], h => .inr ⟨by simp, h⟩
  | v :: vs, h => by
    rcases set_get (ρ := backE ρ ρ' vs) h with ⟨e0, e, hlt⟩ | ⟨hj, e⟩
    · refine .inl ⟨by simp [e0], ?_⟩
      rw [backE_length, ← hl] at hlt
      rw [e, e0]
      unfold getSlot
      rw [List.getElem?_eq_getElem hlt]
    · rcases backE_at hl e with ⟨h1, h2⟩ | ⟨h1, h2⟩
      · exact .inl ⟨List.mem_cons_of_mem _ h1, h2⟩
      · exact .inr ⟨by simp; exact ⟨hj, h1⟩, h2⟩
theorem wipe_at {σ : L2.St} {i : Nat} : ∀ {vs : List Nat}, i ∉ vs → (wipe σ vs)[i]? = σ[i]?
  | [], _ => rfl
  | v :: vs, h => by
    have h1 : i ≠ v := fun z => h (by simp [z])
    have h2 : i ∉ vs := fun z => h (List.mem_cons_of_mem _ z)
    show ((wipe σ vs).set v none)[i]? = _
    rw [List.getElem?_set_ne (Ne.symm h1)]
    exact wipe_at h2
section
variable {K : PySem.W.Frag} {ρ : En} {σ : L2.St} {H G : Hp} {vs : List Nat}
theorem Owned.unwipe {b : Addr} (h : Owned (wipeE ρ vs) (wipe σ vs) b) : ∃ i io ds, i ∉ vs ∧ ρ[i]? = some (.own io ds) ∧ σ[i]? = some (some (.ref b)) := by
  obtain ⟨i, io, ds, h1, h2⟩ := h
  obtain ⟨h3, h4⟩ := wipeE_at h1 (fun z => nomatch z)
  rw [wipe_at h3] at h2
  exact ⟨i, io, ds, h3, h4, h2⟩
theorem ER.wipe (er : ER K ρ σ H G) : ER K (wipeE ρ vs) (wipe σ vs) H G := by
  refine ⟨by rw [wipeE_length, wipe_length]; exact er.len, er.sub, fun i d h => ?_, fun i io ds h => ?_, fun i j io ds io' ds' a h1 h2 h3 h4 => ?_, fun i v h => ?_, er.tabs, er.ng⟩
  · obtain ⟨h3, h4⟩ := wipeE_at h (fun z => nomatch z)
    rw [wipe_at h3]
    exact er.pl i d h4
  · obtain ⟨h3, h4⟩ := wipeE_at h (fun z => nomatch z)
    rw [wipe_at h3]
    exact er.own i io ds h4
  · obtain ⟨n1, e1⟩ := wipeE_at h1 (fun z => nomatch z)
    obtain ⟨n2, e2⟩ := wipeE_at h2 (fun z => nomatch z)
    rw [wipe_at n1] at h3
    rw [wipe_at n2] at h4
    exact er.inj i j io ds io' ds' a e1 e2 h3 h4
  · obtain ⟨h3, h4⟩ := wipeE_at h (fun z => nomatch z)
    rw [wipe_at h3]
    exact er.raw i v h4
/-- behind a turn of a comprehension: its own names are as they were -/
theorem ER.unwipe (er : ER K ρ σ H G) {ρ' : En} {σ' : L2.St} {H' G' : Hp} (er' : ER K ρ' σ' H' G') (st : Step (wipeE ρ vs) (L2.wipe σ vs) H G ρ' σ' H' G') (hs : L2.wipe σ' vs = L2.wipe σ vs) :
    ER K (backE ρ ρ' vs) σ H' G' ∧ Step ρ σ H G (backE ρ ρ' vs) σ H' G' := by
  have hl : ρ.length = ρ'.length := by
    have e1 := congrArg List.length hs
    rw [wipe_length, wipe_length] at e1
    rw [er.len, er'.len, e1]
  have same : ∀ {i : Nat}, i ∉ vs → σ'[i]? = σ[i]? := fun {i} h => by
    rw [← wipe_at h, hs, wipe_at h]
  have stay : ∀ {i : Nat} {io : Bool} {ds : List D} {a : Addr}, i ∈ vs → ρ[i]? = some (.own io ds) → σ[i]? = some (some (.ref a)) → ¬ Owned (wipeE ρ vs) (L2.wipe σ vs) a := fun {i io ds a} hi h1 h2 z => by
    obtain ⟨j, jo, es, h3, h4, h5⟩ := z.unwipe
    exact h3 (by rw [← er.inj i j io ds jo es a h1 h4 h2 h5]; exact hi)
  refine ⟨⟨by rw [backE_length]; rw [← hl]; exact er.len, er'.sub, fun i d h => ?_, fun i io ds h => ?_, fun i j io ds io' ds' a h1 h2 h3 h4 => ?_, fun i v h => ?_, er'.tabs, er'.ng⟩, ⟨st.sg, fun b o hb nt hn => ?_, st.there, fun b hb => ?_, fun i ds' h => ?_, by rw [backE_length]; exact hl.symm⟩⟩
  · rcases backE_at hl h with ⟨h1, h2⟩ | ⟨h1, h2⟩
    · obtain ⟨v, q1, q2⟩ := er.pl i d h2
      exact ⟨v, q1, dp_mono st.sg _ _ q2⟩
    · obtain ⟨v, q1, q2⟩ := er'.pl i d h2
      exact ⟨v, by rw [← same h1]; exact q1, q2⟩
  · rcases backE_at hl h with ⟨h1, h2⟩ | ⟨h1, h2⟩
    · obtain ⟨a, us, q1, q2, q3, q4⟩ := er.own i io ds h2
      obtain ⟨k1, k2⟩ := st.keep a _ q3 nt_lst (stay h1 h2 q1)
      exact ⟨a, us, q1, by rw [k2]; exact q2, k1, dpAll_mono st.sg _ _ q4⟩
    · obtain ⟨a, us, q1, q2⟩ := er'.own i io ds h2
      exact ⟨a, us, by rw [← same h1]; exact q1, q2⟩
  · rcases backE_at hl h1 with ⟨m1, e1⟩ | ⟨m1, e1⟩
    · rcases backE_at hl h2 with ⟨m2, e2⟩ | ⟨m2, e2⟩
      · exact er.inj i j io ds io' ds' a e1 e2 h3 h4
      · exfalso
        rcases st.osub a ⟨j, io', ds', e2, by rw [same m2]; exact h4⟩ with z | z
        · exact stay m1 e1 h3 z
        · obtain ⟨a', us, q1, _, q3, _⟩ := er.own i io ds e1
          rw [h3] at q1
          cases q1
          rw [z] at q3
          cases q3
    · rcases backE_at hl h2 with ⟨m2, e2⟩ | ⟨m2, e2⟩
      · exfalso
        rcases st.osub a ⟨i, io, ds, e1, by rw [same m1]; exact h3⟩ with z | z
        · exact stay m2 e2 h4 z
        · obtain ⟨a', us, q1, _, q3, _⟩ := er.own j io' ds' e2
          rw [h4] at q1
          cases q1
          rw [z] at q3
          cases q3
      · exact er'.inj i j io ds io' ds' a e1 e2 (by rw [same m1]; exact h3) (by rw [same m2]; exact h4)
  · rcases backE_at hl h with ⟨h1, h2⟩ | ⟨h1, h2⟩
    · exact er.raw i v h2
    · rw [← same h1]
      exact er'.raw i v h2
  · refine st.keep b o hb nt fun z => hn ?_
    obtain ⟨j, jo, es, h3, h4, h5⟩ := z.unwipe
    exact ⟨j, jo, es, h4, h5⟩
  · obtain ⟨i, io, ds, h, h2⟩ := hb
    rcases backE_at hl h with ⟨h1, h3⟩ | ⟨h1, h3⟩
    · exact .inl ⟨i, io, ds, h3, h2⟩
    · rcases st.osub b ⟨i, io, ds, h3, by rw [same h1]; exact h2⟩ with z | z
      · obtain ⟨j, jo, es, h4, h5, h6⟩ := z.unwipe
        exact .inl ⟨j, jo, es, h5, h6⟩
      · exact .inr z
  · rcases backE_at hl h with ⟨h1, h3⟩ | ⟨h1, h3⟩
    · exact ⟨ds', h3, rfl⟩
    · obtain ⟨ds, h4, _⟩ := st.io i ds' h3
      obtain ⟨_, h5⟩ := wipeE_at h4 (fun z => nomatch z)
      exact ⟨ds, h5, rfl⟩
end
end SW
set_option Elab.async false
set_option linter.all false
set_option maxRecDepth 100000
set_option maxHeartbeats 2000000
/-! SWComp: list comprehensions. -/
namespace SW
open PySem PySem.Spec PyProof.Rows L2
variable [Tab]
def compLoop (vs : List Nat) (g : AG) (tt : AM Bool) (te : AE) : List D → List D → En → R (List D)
  | [], acc, ρ => .ok acc ρ
  | d :: ds, acc, ρ => match g d (wipeE ρ vs) with
    | .ok _ ρ1 => (match tt ρ1 with
      | .ok true ρ2 => (match te ρ2 with
        | .ok e ρ3 => if acc.length < sizeLine then compLoop vs g tt te ds (acc ++ [e]) (backE ρ ρ3 vs) else .bad
        | _ => .bad)
      | .ok false ρ2 => compLoop vs g tt te ds acc (backE ρ ρ2 vs)
      | _ => .bad)
    | _ => .bad
/-- [te for g in it if tt]: a list just made -/
def fComp (vs : List Nat) (it : AM (List D)) (g : AG) (tt : AM Bool) (te : AE) : AM (List D) := fun ρ => (it ρ).bind fun items ρ1 => compLoop vs g tt te items [] ρ1
def noE : WX := fun _ _ _ _ => False
def tYes : AM Bool := fun ρ => .ok true ρ
abbrev ETs (X : Cx) (E : WX) (es : List Expr) (f : AM Bool) : Prop := PTs X es (tXT X.K E f)
theorem PTs_imp {X : Cx} {es : List Expr} {t t' : TT} (h : PTs X es t) (i : ∀ σ H Q, t' σ H Q → t σ H Q) : PTs X es t' := ⟨fun pins s σ H Q I hw => h.run pins s σ H Q I (i σ H Q hw)⟩
theorem ts_nil {X : Cx} {E : WX} : ETs X E [] tYes := PTs_imp pts_nil fun σ H Q ⟨ρ, G, er, h⟩ => h H G er .refl
theorem ts_one {X : Cx} {E : WX} {e : Expr} {f : AM Bool} (h : ET X E e f) : ETs X E [e] f := pts_one h
theorem wipe_but {σ σ2 : L2.St} {vs ws : List Nat} (h : But ws (wipe σ vs) σ2) (hw : ∀ i ∈ ws, i ∈ vs) : wipe σ2 vs = wipe σ vs := by
  have hl : σ2.length = σ.length := by rw [h.1, wipe_length]
  refine List.ext_getElem? fun i => ?_
  by_cases hi : i ∈ vs
  · have aux : ∀ (τ : L2.St) (vs : List Nat), i ∈ vs → (wipe τ vs)[i]? = if i < τ.length then some none else none := by
      intro τ vs
      induction vs with
      | nil => intro h; cases h
      | cons v vs ih =>
        intro hm
        show ((wipe τ vs).set v none)[i]? = _
        by_cases e : i = v
        · subst e
          by_cases hlt : i < τ.length
          · rw [if_pos hlt, List.getElem?_set_self (by rw [wipe_length]; exact hlt)]
          · rw [if_neg hlt, List.getElem?_eq_none (by rw [List.length_set, wipe_length]; omega)]
        · rw [List.getElem?_set_ne (Ne.symm e)]
          exact ih ((List.mem_cons.mp hm).resolve_left e)
    rw [aux σ2 vs hi, aux σ vs hi, hl]
  · rw [wipe_at hi, h.2 i fun z => hi (hw i z)]
section
variable {X : Cx} {pos : Pos}
theorem comp_read {bb : Bool} {K : PySem.W.Frag} {vs ws : List Nat} {it : AM (List D)} {g : AG} {tt : AM Bool} {te : AE} {E : WX} (hw : ∀ i ∈ ws, i ∈ vs) {σ : L2.St} {H : Hp} {Q : VK} (h : tF K E (fComp vs it g tt te) σ H Q) :
    tLc (tI bb K E it) (tG bb K ws g) (tXT K noE tt) (tX K noE te) vs σ H Q := by
  obtain ⟨ρ, G, er, h⟩ := h
  refine ⟨ρ, G, er, ?_⟩
  unfold fComp at h
  cases q : it ρ with
  | err x ρ1 => rw [q] at h; exact h
  | bad => rw [q] at h; exact h
  | ok items ρ1 =>
    rw [q] at h
    have h0 : Out K E (compLoop vs g tt te items [] ρ1) ρ σ H G (ZF K σ H Q) := h
    intro H1 G1 er1 s1 J wk Da nD
    have nG : G1 Da = none := sub_none er1.sub nD
    have nH : H Da = none := s1.there Da nD
    have no : ¬ Owned ρ1 σ Da := not_owned_new er1 nD
    -- the invariant
    refine ⟨fun i m Hc => i ≤ items.length ∧ m = items.length - i ∧ ∃ acc ρc Gc us, ER K ρc σ Hc Gc ∧ Step ρ σ H G ρc σ Hc Gc ∧ Same G1 Gc ∧ Hc Da = some (.lst us) ∧ Gc Da = none ∧ ¬ Owned ρc σ Da ∧ DpAll K Gc us acc ∧
      Out K E (compLoop vs g tt te (items.drop i) acc ρc) ρ σ H G (ZF K σ H Q), ⟨items.length, Nat.zero_le _, rfl, [], ρ1, G1, [], er1.lay nD, s1.trans (er1.stepLay nD), Same.refl _, upd_same, nG, no, .nil, h0⟩, ?_⟩
    rintro i m Hc ⟨hi, rfl, acc, ρc, Gc, us, erc, sc, sg, eD, gD, oD, dps, hc⟩
    by_cases hlt : i < items.length
    · refine .inr ⟨wk.goes i Hc hlt (sg.trans erc.sub), fun H' => ∃ m', m' < items.length - i ∧ (i + 1 ≤ items.length ∧ m' = items.length - (i + 1) ∧ ∃ acc ρc Gc us, ER K ρc σ H' Gc ∧ Step ρ σ H G ρc σ H' Gc ∧ Same G1 Gc ∧ H' Da = some (.lst us) ∧ Gc Da = none ∧ ¬ Owned ρc σ Da ∧ DpAll K Gc us acc ∧
        Out K E (compLoop vs g tt te (items.drop (i + 1)) acc ρc) ρ σ H G (ZF K σ H Q)), fun H' z => z, fun x H' hy => ?_⟩
      have yd := wk.yields i Hc x H' hlt (sg.trans erc.sub) hy
      obtain ⟨d, ed, hcase⟩ := yd
      have edrop : items.drop i = d :: items.drop (i + 1) := by
        rw [List.drop_eq_getElem_cons hlt]
        rw [List.getElem?_eq_getElem hlt] at ed
        rw [Option.some.inj ed]
      rw [edrop] at hc
      -- the heap with the item
      obtain ⟨Gx, erx, sx, dpx, eDx, gDx⟩ : ∃ Gx, ER K ρc σ H' Gx ∧ Step ρc σ Hc Gc ρc σ H' Gx ∧ DpI bb K Gx H' x d ∧ H' Da = some (.lst us) ∧ Gx Da = none := by
        rcases hcase with ⟨rfl, dp⟩ | ⟨eb, T, xs, ds, rfl, nT, rfl, rfl, dp⟩
        · exact ⟨Gc, erc, .refl, .inl (dp_mono sg _ _ dp), eD, gD⟩
        · have ne : Da ≠ T := ne_of_none eD nT
          exact ⟨Gc, erc.lay nT, erc.stepLay nT, .inr ⟨eb, T, xs, ds, rfl, rfl, upd_same, dpAll_mono sg _ _ dp⟩, by rw [upd_ne ne]; exact eD, gD⟩
      have sgx : Same G1 Gx := sg.trans sx.sg
      have dpsx := dpAll_mono sx.sg _ _ dps
      have hc2 : Out K E (match g d (wipeE ρc vs) with
        | .ok _ ρ1 => (match tt ρ1 with
          | .ok true ρ2 => (match te ρ2 with
            | .ok e ρ3 => if acc.length < sizeLine then compLoop vs g tt te (items.drop (i + 1)) (acc ++ [e]) (backE ρc ρ3 vs) else .bad
            | _ => .bad)
          | .ok false ρ2 => compLoop vs g tt te (items.drop (i + 1)) acc (backE ρc ρ2 vs)
          | _ => .bad)
        | _ => .bad) ρ σ H G (ZF K σ H Q) := hc
      refine ⟨wipeE ρc vs, Gx, d, erx.wipe, dpx, ?_⟩
      cases q1 : g d (wipeE ρc vs) with
      | err x ρ1 => rw [q1] at hc2; exact hc2.elim
      | bad => rw [q1] at hc2; exact hc2.elim
      | ok u ρa =>
        rw [q1] at hc2
        intro σa Ha Ga era sa ba
        have wa : wipe σa vs = wipe σ vs := wipe_but ba hw
        have nox : ¬ Owned (wipeE ρc vs) (wipe σ vs) Da := fun z => by
          obtain ⟨j, jo, es, _, h2, h3⟩ := z.unwipe
          exact oD ⟨j, jo, es, h2, h3⟩
        obtain ⟨eDa, gDa⟩ := sa.keep Da _ eDx nt_lst nox
        refine ⟨wa, ρa, Ga, era, ?_⟩
        dsimp only at hc2
        cases q2 : tt ρa with
        | err x ρ1 => rw [q2] at hc2; exact hc2.elim
        | bad => rw [q2] at hc2; exact hc2.elim
        | ok b ρb =>
          rw [q2] at hc2
          intro Hb Gb erb sb
          have sab := sa.trans sb
          obtain ⟨eDb, gDb⟩ := sab.keep Da _ eDx nt_lst nox
          cases b with
          | false =>
            show ite _ _ _
            rw [if_neg Bool.false_ne_true]
            obtain ⟨erf, sf⟩ := erx.unwipe erb sab wa
            refine ⟨items.length - (i + 1), by omega, hlt, rfl, acc, _, Gb, us, erf, (sc.trans sx).trans sf, sgx.trans sf.sg, eDb, by rw [gDb]; exact gDx, fun z => ?_, dpAll_mono sf.sg _ _ dpsx, hc2⟩
            rcases sf.osub Da z with z | z
            · exact oD z
            · rw [eDx] at z; cases z
          | true =>
            show ite _ _ _
            rw [if_pos rfl]
            refine ⟨ρb, Gb, erb, ?_⟩
            dsimp only at hc2
            cases q3 : te ρb with
            | err x ρ1 => rw [q3] at hc2; exact hc2.elim
            | bad => rw [q3] at hc2; exact hc2.elim
            | ok e ρe =>
              rw [q3] at hc2
              intro He Ge ere se v dpv
              have sae := sab.trans se
              obtain ⟨eDe, gDe⟩ := sae.keep Da _ eDx nt_lst nox
              have hc3 : Out K E (if acc.length < sizeLine then compLoop vs g tt te (items.drop (i + 1)) (acc ++ [e]) (backE ρc ρe vs) else .bad) ρ σ H G (ZF K σ H Q) := hc2
              split at hc3
              · rename_i hz
                obtain ⟨erf, sf⟩ := erx.unwipe ere sae wa
                have gDe' : Ge Da = none := by rw [gDe]; exact gDx
                have noF : ¬ Owned (backE ρc ρe vs) σ Da := fun z => by
                  rcases sf.osub Da z with z | z
                  · exact oD z
                  · rw [eDx] at z; cases z
                have dpf := dpAll_mono sf.sg _ _ dpsx
                have stx := (sc.trans sx).trans sf
                refine ⟨us, eDe, by rw [dps.len]; exact hz, items.length - (i + 1), by omega, hlt, rfl, acc ++ [e], _, Ge, us ++ [v], ⟨erf.len, fun b o hb => ?_, erf.pl, fun j jo es hj => ?_, erf.inj, erf.raw, erf.tabs.lst eDe, erf.ng⟩, ⟨stx.sg, fun b o hb nt hn => ?_, fun b hb => ?_, stx.osub, stx.io, stx.ln⟩, sgx.trans sf.sg, upd_same, gDe', noF, dpf.app (.cons dpv .nil), hc3⟩
                · rw [upd_ne fun z => by rw [z, gDe'] at hb; cases hb]
                  exact erf.sub _ _ hb
                · obtain ⟨a, ws', k1, k2, k3, k4⟩ := erf.own j jo es hj
                  have ne : a ≠ Da := fun z => noF (by rw [← z]; exact ⟨j, jo, es, hj, k1⟩)
                  exact ⟨a, ws', k1, k2, by rw [upd_ne ne]; exact k3, k4⟩
                · rw [upd_ne (ne_of_none hb nH)]
                  exact stx.keep b o hb nt hn
                · by_cases e : b = Da
                  · rw [e]; exact nH
                  · rw [upd_ne e] at hb; exact stx.there b hb
              · exact hc3.elim
    · have en : i = items.length := by omega
      subst en
      refine .inl ⟨wk.stops Hc (sg.trans erc.sub), ?_⟩
      rw [List.drop_length] at hc
      have hc1 : Out K E (R.ok acc ρc) ρ σ H G (ZF K σ H Q) := hc
      exact hc1 Hc Gc erc sc Da us nH gD eD oD dps
theorem f_comp {bb : Bool} {elt tg iter : Expr} {ifs : List Expr} {scope : Scope} {own : List (Str × Nat)} {ws : List Nat} {it : AM (List D)} {g : AG} {tt : AM Bool} {te : AE} {E : WX} (hc : X.calm = true) (hN : X.N.Nodup) (hi : EI bb X E tg iter it) (ok : BlkOk X.N X.env.scope scope own)
    (hg : ∀ (s : Shared) (H : Hp) (C : Addr) (cl : List (Str × Addr)) (fp : List Addr), EG bb (X.blk s H scope (compEnvC scope cl C X.env) fp) tg g ws) (ht : ∀ (s : Shared) (H : Hp) (C : Addr) (cl : List (Str × Addr)) (fp : List Addr), ETs (X.blk s H scope (compEnvC scope cl C X.env) fp) noE ifs tt)
    (he : ∀ (s : Shared) (H : Hp) (C : Addr) (cl : List (Str × Addr)) (fp : List Addr), EV (X.blk s H scope (compEnvC scope cl C X.env) fp) noE elt te) (hw : ∀ i ∈ ws, i ∈ own.map (·.2) := by decide) (hs : ∀ x, foldedSetIterable iter X.env x = pure x := by intro _; rfl) :
    EF X E (.ListComp elt [⟨tg, iter, ifs, 0⟩] scope pos) (fComp (own.map (·.2)) it g tt te) :=
  PE.imp (pe_lc hc hN hi ok hg ht he hs) fun σ H Q h => comp_read hw h
end
end SW
set_option Elab.async false
set_option linter.all false
set_option maxRecDepth 100000
set_option maxHeartbeats 2000000
/-! SWFlow: statements, blocks, loops, defs and their calls. -/
namespace SW
open PySem PySem.Spec PyProof.Rows L2
variable [Tab]
inductive Fl where
  | nx | bk | ct
  | rt (d : D)
  | rf (ds : List D)
abbrev AS := En → R Fl
def EndF (K : PySem.W.Frag) (Dn : Ends) (H0 : Hp) (fl : Fl) (ρ' : En) (σ' : L2.St) (H' G' : Hp) : Prop := match fl with
  | .nx => Dn.nx σ' H'
  | .bk => Dn.bk σ' H'
  | .ct => Dn.ct σ' H'
  | .rt d => ∀ v, Dp K G' v d → Dn.rt v H'
  | .rf ds => ∀ a vs, H0 a = none → G' a = none → H' a = some (.lst vs) → ¬ Owned ρ' σ' a → DpAll K G' vs ds → Dn.rt (.ref a) H'
def OutS (K : PySem.W.Frag) (E : WX) (r : R Fl) (ρ : En) (σ : L2.St) (H G : Hp) (Dn : Ends) : Prop := match r with
  | .ok fl ρ' => ∀ σ' H' G', ER K ρ' σ' H' G' → Step ρ σ H G ρ' σ' H' G' → EndF K Dn H fl ρ' σ' H' G'
  | .err x ρ' => ∀ c dx σ' H' G', ER K ρ' σ' H' G' → Step ρ σ H G ρ' σ' H' G' → ExR K x c dx H' → E c dx σ' H'
  | .bad => False
theorem OutS.shift {K : PySem.W.Frag} {E : WX} {r : R Fl} {ρ ρ1 : En} {σ σ1 : L2.St} {H G H1 G1 : Hp} {Dn : Ends} (h : OutS K E r ρ σ H G Dn) (s : Step ρ σ H G ρ1 σ1 H1 G1) : OutS K E r ρ1 σ1 H1 G1 Dn := by
  cases r with
  | ok fl ρ' =>
    intro σ' H' G' e t
    have z := h σ' H' G' e (s.trans t)
    cases fl with
    | rf ds => exact fun a vs n0 => z a vs (s.there a n0)
    | nx => exact z
    | bk => exact z
    | ct => exact z
    | rt d => exact z
  | err x ρ' => exact fun c dx σ' H' G' e t => h c dx σ' H' G' e (s.trans t)
  | bad => exact h
def tS (K : PySem.W.Frag) (E : WX) (f : AS) : TS := fun Dn σ H => ∃ ρ G, ER K ρ σ H G ∧ OutS K E (f ρ) ρ σ H G Dn
abbrev SS (X : Cx) (E : WX) (st : Stmt) (f : AS) : Prop := PS X st (tS X.K E f)
abbrev SSs (X : Cx) (E : WX) (st : List Stmt) (f : AS) : Prop := PSs X st (tS X.K E f)
/-- an expression first -/
theorem out_outS {α : Type} {K : PySem.W.Frag} {E : WX} {r : R α} {f : α → En → R Fl} {ρ : En} {σ : L2.St} {H G : Hp} {Dn : Ends} (h : OutS K E (r.bind f) ρ σ H G Dn) :
    Out K E r ρ σ H G (fun a ρ1 H1 G1 => OutS K E (f a ρ1) ρ1 σ H1 G1 Dn) := by
  cases r with
  | ok a ρ1 => exact fun H1 G1 e t => OutS.shift h t
  | err x ρ1 => exact fun c dx H1 G1 e t => h c dx σ H1 G1 e t
  | bad => exact h
/-- .. without a shift: for what is new since the start -/
theorem out_outS0 {α : Type} {K : PySem.W.Frag} {E : WX} {r : R α} {f : α → En → R Fl} {ρ : En} {σ : L2.St} {H G : Hp} {Dn : Ends} (h : OutS K E (r.bind f) ρ σ H G Dn) :
    Out K E r ρ σ H G (fun a ρ1 H1 G1 => ER K ρ1 σ H1 G1 ∧ Step ρ σ H G ρ1 σ H1 G1 ∧ OutS K E (f a ρ1) ρ σ H G Dn) := by
  cases r with
  | ok a ρ1 => exact fun H1 G1 e t => ⟨e, t, h⟩
  | err x ρ1 => exact fun c dx H1 G1 e t => h c dx σ H1 G1 e t
  | bad => exact h
def sNx : AS := fun ρ => .ok .nx ρ
def sSeq (f g : AS) : AS := fun ρ => match f ρ with
  | .ok .nx ρ1 => g ρ1
  | r => r
def sIf (c : AM Bool) (f g : AS) : AS := fun ρ => (c ρ).bind fun b ρ1 => match b with
  | true => f ρ1
  | false => g ρ1
def sRet (f : AE) : AS := fun ρ => (f ρ).bind fun d ρ1 => .ok (.rt d) ρ1
def sRetF (f : AM (List D)) : AS := fun ρ => (f ρ).bind fun ds ρ1 => .ok (.rf ds) ρ1
def sRetN : AS := fun ρ => .ok (.rt .none) ρ
def sDrop (f : AE) : AS := fun ρ => (f ρ).bind fun _ ρ1 => .ok .nx ρ1
def sAsg (f : AE) (g : AG) : AS := fun ρ => (f ρ).bind fun d ρ1 => (g d ρ1).bind fun _ ρ2 => .ok .nx ρ2
/-- a name gets a list of one's own -/
def sOwn (i : Nat) (f : AM (List D)) : AS := fun ρ => (f ρ).bind fun ds ρ1 => if isIo (getSlot ρ1 i) = true then .bad else .ok .nx (setSlot ρ1 i (.own false ds))
section
variable {bb : Bool} {X : Cx} {E : WX} {pos : Pos} {st : Stmt} {rest : List Stmt} {f g : AS} {e : Expr}
theorem b_nil : SSs X E [] sNx := PSs.imp pss_nil fun Dn σ H ⟨ρ, G, er, h⟩ => h σ H G er .refl
theorem b_cons (h1 : SS X E st f) (h2 : SSs X E rest g) : SSs X E (st :: rest) (sSeq f g) :=
  PSs.imp (pss_cons h1 h2) fun Dn σ H ⟨ρ, G, er, h⟩ => ⟨ρ, G, er, by
    unfold sSeq at h
    cases q : f ρ with
    | err x ρ1 => rw [q] at h; exact h
    | bad => rw [q] at h; exact h
    | ok fl ρ1 =>
      rw [q] at h
      cases fl with
      | nx => exact fun σ1 H1 G1 er1 s1 => ⟨ρ1, G1, er1, OutS.shift h s1⟩
      | bk => exact h
      | ct => exact h
      | rt d => exact h
      | rf d => exact h⟩
theorem b_one (h1 : SS X E st f) : SSs X E [st] f := pss_one h1
theorem s_pass : SS X E (.Pass pos) sNx := PS.imp ps_pass fun Dn σ H ⟨ρ, G, er, h⟩ => h σ H G er .refl
theorem s_break : SS X E (.Break pos) (fun ρ => .ok .bk ρ) := PS.imp ps_break fun Dn σ H ⟨ρ, G, er, h⟩ => h σ H G er .refl
theorem s_cont : SS X E (.Continue pos) (fun ρ => .ok .ct ρ) := PS.imp ps_continue fun Dn σ H ⟨ρ, G, er, h⟩ => h σ H G er .refl
theorem s_if {c : Expr} {a b : List Stmt} {t : AM Bool} (hc : ET X E c t) (ha : SSs X E a f) (hb : SSs X E b g) : SS X E (.If c a b pos) (sIf t f g) :=
  PS.imp (ps_if hc ha hb) fun Dn σ H ⟨ρ, G, er, h⟩ => ⟨ρ, G, er, (out_outS h).imp fun b ρ1 H1 G1 er1 s1 z => by
    cases b with
    | true => exact ⟨ρ1, G1, er1, z⟩
    | false => exact ⟨ρ1, G1, er1, z⟩⟩
theorem s_ret {f : AE} (h : EV X E e f) : SS X E (.Return (some e) pos) (sRet f) :=
  PS.imp (ps_ret h) fun Dn σ H ⟨ρ, G, er, h⟩ => ⟨ρ, G, er, (out_outS h).imp fun d ρ1 H1 G1 er1 s1 z v dp => z σ H1 G1 er1 .refl v dp⟩
theorem s_retN : SS X E (.Return none pos) sRetN := PS.imp ps_retN fun Dn σ H ⟨ρ, G, er, h⟩ => h σ H G er .refl _ .non
theorem s_retF {f : AM (List D)} (h : EF X E e f) : SS X E (.Return (some e) pos) (sRetF f) :=
  PS.imp (ps_ret h) fun Dn σ H ⟨ρ, G, er, h⟩ => ⟨ρ, G, er, (out_outS0 h).imp fun ds ρ1 H1 G1 er1 s1 z a vs n0 n1 e1 no dps => z.2.2 σ H1 G1 er1 s1 a vs n0 n1 e1 no dps⟩
theorem s_drop {f : AE} (h : EV X E e f) (hs : swapsWith e none pos.line X.env = pure false := by rfl) : SS X E (.Expr e pos) (sDrop f) :=
  PS.imp (ps_expr h hs) fun Dn σ H ⟨ρ, G, er, h⟩ => ⟨ρ, G, er, (out_outS h).imp fun d ρ1 H1 G1 er1 s1 z v dp => z σ H1 G1 er1 .refl⟩
theorem outG_of {K : PySem.W.Frag} {ws : List Nat} {r : R Unit} {k : Unit → En → R Fl} {ρ : En} {σ : L2.St} {H G : Hp} {Dn : Ends} (h : OutS K E (r.bind k) ρ σ H G Dn) (nox : ∀ x ρ', r ≠ .err x ρ') (hk : ∀ u ρ', k u ρ' = .ok .nx ρ') : OutG K ws r ρ σ H G Dn.nx := by
  cases r with
  | ok u ρ1 =>
    have h' : OutS K E (k u ρ1) ρ σ H G Dn := h
    rw [hk] at h'
    exact fun σ1 H1 G1 er1 s1 _ => h' σ1 H1 G1 er1 s1
  | err x ρ1 => exact (nox x ρ1 rfl).elim
  | bad => exact h
/-- targets raise nothing -/
def NoErr (g : AG) : Prop := ∀ d ρ x ρ', g d ρ ≠ .err x ρ'
theorem s_asg {tg : Expr} {f : AE} {g : AG} {ws : List Nat} (he : EV X E e f) (hg : EG false X tg g ws) (ng : NoErr g) (hs : swapsWithSole [tg] e pos.line X.env = pure false := by rfl) (hw : swappedStores [tg] e X.env = pure none := by rfl)
    (h1 : (assignEach [tg] X.env).map (·.2) = [assign tg X.env] := by rfl) : SS X E (.Assign [tg] e pos) (sAsg f g) :=
  PS.imp (ps_asg he hg hs hw h1) fun Dn σ H ⟨ρ, G, er, h⟩ => ⟨ρ, G, er, (out_outS h).imp fun d ρ1 H1 G1 er1 s1 z v dp => ⟨ρ1, G1, d, er1, .inl dp, outG_of z (fun x ρ' => ng d ρ1 x ρ') fun _ _ => rfl⟩⟩
theorem ne_nm {i : Nat} : NoErr (gNm i) := fun d ρ x ρ' h => by
  unfold gNm at h
  split at h <;> cases h
theorem s_set {i : Nat} {x : Str} {f : AE} {pos' : Pos} (hN : X.N.Nodup) (hi : X.N[i]? = some x) (hx : Loc X.env.scope x) (he : EV X E e f) (hs : swapsWith e (some (.Name x pos')) pos.line X.env = pure false := by rfl) (hf : X.fn x = true ∨ X.env.scope.names.lookup x = some .local := by first | exact .inl rfl | exact .inr rfl | assumption) :
    SS X E (.Assign [.Name x pos'] e pos) (sAsg f (gNm i)) :=
  PS.imp (ps_set hN hi hx he hs hf) fun Dn σ H ⟨ρ, G, er, h⟩ => ⟨ρ, G, er, (out_outS h).imp fun d ρ1 H1 G1 er1 s1 z v dp => by
    have z2 := outG_of (ws := [i]) z (fun x ρ' => ne_nm d ρ1 x ρ') fun _ _ => rfl
    unfold gNm at z2
    split at z2
    · exact z2.elim
    · rename_i hn
      obtain ⟨e1, t1⟩ := er1.put hn dp
      exact z2 _ _ _ e1 t1 .set⟩
/-- a new list to a name -/
theorem ER.putOwn {K : PySem.W.Frag} {ρ : En} {σ : L2.St} {H G : Hp} (er : ER K ρ σ H G) {i : Nat} {a : Addr} {vs : List V} {ds : List D} (h : ¬ isIo (getSlot ρ i) = true) (n1 : G a = none) (e1 : H a = some (.lst vs)) (no : ¬ Owned ρ σ a) (dps : DpAll K G vs ds) :
    ER K (ρ.set i (.own false ds)) (σ.set i (some (.ref a))) H G := by
  have other : ∀ {j : Nat} {w : SV}, j ≠ i → (ρ.set i (.own false ds))[j]? = some w → ρ[j]? = some w ∧ (σ.set i (some (V.ref a)))[j]? = σ[j]? := fun {j w} hj e => by
    rcases set_get e with ⟨z, _, _⟩ | ⟨_, e⟩
    · exact (hj z).elim
    · exact ⟨e, List.getElem?_set_ne (Ne.symm hj)⟩
  refine ⟨by simpa using er.len, er.sub, fun j d he => ?_, fun j io es he => ?_, fun j k io es io' es' b h1 h2 h3 h4 => ?_, fun j w he => ?_, er.tabs, er.ng⟩
  · by_cases hj : j = i
    · subst hj
      rcases set_get he with ⟨_, z, _⟩ | ⟨z, _⟩
      · cases z
      · exact (z rfl).elim
    · obtain ⟨q1, q2⟩ := other hj he
      rw [q2]
      exact er.pl j d q1
  · by_cases hj : j = i
    · subst hj
      rcases set_get he with ⟨_, z, hl⟩ | ⟨z, _⟩
      · cases z
        exact ⟨a, vs, List.getElem?_set_self (by rw [← er.len]; exact hl), n1, e1, dps⟩
      · exact (z rfl).elim
    · obtain ⟨q1, q2⟩ := other hj he
      rw [q2]
      exact er.own j io es q1
  · by_cases hj : j = i
    · by_cases hk : k = i
      · rw [hj, hk]
      · exfalso
        subst hj
        obtain ⟨q1, q2⟩ := other hk h2
        rcases set_get h1 with ⟨_, z, hl⟩ | ⟨z, _⟩
        · rw [List.getElem?_set_self (by rw [← er.len]; exact hl)] at h3
          cases h3
          rw [q2] at h4
          exact no ⟨k, io', es', q1, h4⟩
        · exact z rfl
    · by_cases hk : k = i
      · exfalso
        subst hk
        obtain ⟨q1, q2⟩ := other hj h1
        rcases set_get h2 with ⟨_, z, hl⟩ | ⟨z, _⟩
        · rw [List.getElem?_set_self (by rw [← er.len]; exact hl)] at h4
          cases h4
          rw [q2] at h3
          exact no ⟨j, io, es, q1, h3⟩
        · exact z rfl
      · obtain ⟨q1, q2⟩ := other hj h1
        obtain ⟨q3, q4⟩ := other hk h2
        rw [q2] at h3
        rw [q4] at h4
        exact er.inj j k io es io' es' b q1 q3 h3 h4
  · by_cases hj : j = i
    · subst hj
      rcases set_get he with ⟨_, z, _⟩ | ⟨z, _⟩
      · cases z
      · exact (z rfl).elim
    · obtain ⟨q1, q2⟩ := other hj he
      rw [q2]
      exact er.raw j w q1
theorem Step.putOwn {ρ ρ1 : En} {σ σ1 : L2.St} {H G H1 G1 : Hp} (s : Step ρ σ H G ρ1 σ1 H1 G1) {i : Nat} {a : Addr} {ds : List D} (hl : ρ1.length = σ1.length) (h : ¬ isIo (getSlot ρ1 i) = true) (n0 : H a = none) : Step ρ σ H G (ρ1.set i (.own false ds)) (σ1.set i (some (.ref a))) H1 G1 := by
  refine ⟨s.sg, s.keep, s.there, fun b hb => ?_, fun j es he => ?_, by rw [List.length_set]; exact s.ln⟩
  · obtain ⟨j, io, es, h1, h2⟩ := hb
    rcases set_get h1 with ⟨rfl, z, hlt⟩ | ⟨hj, q1⟩
    · rw [List.getElem?_set_self (by rw [← hl]; exact hlt)] at h2
      cases h2
      exact .inr n0
    · rw [List.getElem?_set_ne (Ne.symm hj)] at h2
      exact s.osub b ⟨j, io, es, q1, h2⟩
  · rcases set_get he with ⟨rfl, z, _⟩ | ⟨hj, q1⟩
    · cases z
    · rw [List.getElem?_set_ne (Ne.symm hj)]
      exact s.io j es q1
theorem s_own {i : Nat} {x : Str} {f : AM (List D)} {pos' : Pos} (hN : X.N.Nodup) (hi : X.N[i]? = some x) (hx : Loc X.env.scope x) (he : EF X E e f) (hs : swapsWith e (some (.Name x pos')) pos.line X.env = pure false := by rfl) (hf : X.fn x = true ∨ X.env.scope.names.lookup x = some .local := by first | exact .inl rfl | exact .inr rfl | assumption) :
    SS X E (.Assign [.Name x pos'] e pos) (sOwn i f) :=
  PS.imp (ps_set hN hi hx he hs hf) fun Dn σ H ⟨ρ, G, er, h⟩ => ⟨ρ, G, er, (out_outS0 h).imp fun ds ρ1 H1 G1 er1 s1 z a vs n0 n1 e1 no dps => by
    obtain ⟨_, _, z⟩ := z
    split at z
    · exact z.elim
    · rename_i hn
      exact z _ _ _ (er1.putOwn hn n1 e1 no dps) (s1.putOwn er1.len hn n0)⟩
/-- name = [..] on one line (a comprehension), the name a local -/
theorem s_setLc {i : Nat} {y : Str} {py : Pos} {elt tg iter : Expr} {ifs : List Expr} {scope : Scope} {own : List (Str × Nat)} {spos : Pos} {ws : List Nat} {it : AM (List D)} {g : AG} {tt : AM Bool} {te : AE} (hc : X.calm = true) (hN : X.N.Nodup) (hy : X.N[i]? = some y) (hyl : X.env.scope.names.lookup y = some .local)
    (hsw : swapsWith (.ListComp elt [⟨tg, iter, ifs, 0⟩] scope pos) (some (.Name y py)) spos.line X.env = pure true) (hi : EI bb X E tg iter it) (ok : BlkOk X.N X.env.scope scope own)
    (hg : ∀ (s : Shared) (H : Hp) (C : Addr) (cl : List (Str × Addr)) (fp : List Addr), EG bb (X.blk s H scope (compEnvC scope cl C X.env) fp) tg g ws) (ht : ∀ (s : Shared) (H : Hp) (C : Addr) (cl : List (Str × Addr)) (fp : List Addr), ETs (X.blk s H scope (compEnvC scope cl C X.env) fp) noE ifs tt)
    (he : ∀ (s : Shared) (H : Hp) (C : Addr) (cl : List (Str × Addr)) (fp : List Addr), EV (X.blk s H scope (compEnvC scope cl C X.env) fp) noE elt te) (hw : ∀ i ∈ ws, i ∈ own.map (·.2) := by decide) (hs : ∀ x, foldedSetIterable iter X.env x = pure x := by intro _; rfl) :
    SS X E (.Assign [.Name y py] (.ListComp elt [⟨tg, iter, ifs, 0⟩] scope pos) spos) (sAsg (aFr (fComp (own.map (·.2)) it g tt te)) (gNm i)) :=
  PS.imp (ps_setLc hc hN hy hyl hsw hi ok hg ht he hs) fun Dn σ H ⟨ρ, G, er, h⟩ => by
    refine comp_read (E := E) (ws := ws) (it := it) (g := g) (tt := tt) (te := te) hw ⟨ρ, G, er, ?_⟩
    unfold sAsg aFr at h
    cases q : fComp (own.map (·.2)) it g tt te ρ with
    | err x ρ1 => rw [q] at h; exact fun c dx H1 G1 e t => h c dx σ H1 G1 e t
    | bad => rw [q] at h; exact h
    | ok ds ρ1 =>
      rw [q] at h
      intro H1 G1 er1 s1 a vs n0 n1 e1 no dps
      have er2 := er1.settle n1 e1 no
      have s2 := s1.settle n0 n1 (vs := vs)
      have z2 := outG_of (ws := [i]) (show OutS X.K E ((gNm i (.list ds) ρ1).bind _) ρ σ H G Dn from h) (fun x ρ' => ne_nm _ ρ1 x ρ') fun _ _ => rfl
      unfold gNm at z2
      split at z2
      · exact z2.elim
      · rename_i hn
        obtain ⟨e3, t3⟩ := er2.put hn (.lst (.inl (.inl upd_same)) (dpAll_mono (same_new n1) _ _ dps))
        exact z2 _ _ _ e3 (s2.trans t3) .set
theorem s_ownLc {i : Nat} {y : Str} {py : Pos} {elt tg iter : Expr} {ifs : List Expr} {scope : Scope} {own : List (Str × Nat)} {spos : Pos} {ws : List Nat} {it : AM (List D)} {g : AG} {tt : AM Bool} {te : AE} (hc : X.calm = true) (hN : X.N.Nodup) (hy : X.N[i]? = some y) (hyl : X.env.scope.names.lookup y = some .local)
    (hsw : swapsWith (.ListComp elt [⟨tg, iter, ifs, 0⟩] scope pos) (some (.Name y py)) spos.line X.env = pure true) (hi : EI bb X E tg iter it) (ok : BlkOk X.N X.env.scope scope own)
    (hg : ∀ (s : Shared) (H : Hp) (C : Addr) (cl : List (Str × Addr)) (fp : List Addr), EG bb (X.blk s H scope (compEnvC scope cl C X.env) fp) tg g ws) (ht : ∀ (s : Shared) (H : Hp) (C : Addr) (cl : List (Str × Addr)) (fp : List Addr), ETs (X.blk s H scope (compEnvC scope cl C X.env) fp) noE ifs tt)
    (he : ∀ (s : Shared) (H : Hp) (C : Addr) (cl : List (Str × Addr)) (fp : List Addr), EV (X.blk s H scope (compEnvC scope cl C X.env) fp) noE elt te) (hw : ∀ i ∈ ws, i ∈ own.map (·.2) := by decide) (hs : ∀ x, foldedSetIterable iter X.env x = pure x := by intro _; rfl) :
    SS X E (.Assign [.Name y py] (.ListComp elt [⟨tg, iter, ifs, 0⟩] scope pos) spos) (sOwn i (fComp (own.map (·.2)) it g tt te)) :=
  PS.imp (ps_setLc hc hN hy hyl hsw hi ok hg ht he hs) fun Dn σ H ⟨ρ, G, er, h⟩ => by
    refine comp_read (E := E) (ws := ws) (it := it) (g := g) (tt := tt) (te := te) hw ⟨ρ, G, er, ?_⟩
    unfold sOwn at h
    cases q : fComp (own.map (·.2)) it g tt te ρ with
    | err x ρ1 => rw [q] at h; exact fun c dx H1 G1 e t => h c dx σ H1 G1 e t
    | bad => rw [q] at h; exact h
    | ok ds ρ1 =>
      rw [q] at h
      intro H1 G1 er1 s1 a vs n0 n1 e1 no dps
      have h2 : OutS X.K E (if isIo (getSlot ρ1 i) = true then .bad else .ok .nx (setSlot ρ1 i (.own false ds))) ρ σ H G Dn := h
      split at h2
      · exact h2.elim
      · rename_i hn
        exact h2 _ _ _ (er1.putOwn hn n1 e1 no dps) (s1.putOwn er1.len hn n0)
/-! ### for -/
def loopF (g : AG) (body : AS) : List D → AS
  | [] => fun ρ => .ok .nx ρ
  | d :: ds => fun ρ => match g d ρ with
    | .ok _ ρ1 => (match body ρ1 with
      | .ok .nx ρ2 => loopF g body ds ρ2
      | .ok .ct ρ2 => loopF g body ds ρ2
      | .ok .bk ρ2 => .ok .nx ρ2
      | r => r)
    | _ => .bad
def sFor (it : AM (List D)) (g : AG) (body : AS) : AS := fun ρ => (it ρ).bind fun ds ρ1 => loopF g body ds ρ1
theorem s_for {tg iter : Expr} {body : List Stmt} {it : AM (List D)} {g : AG} {ws : List Nat} (hp : PassesOwn (model X.prog X.w) X.A X.env X.xe) (hc : X.calm = true) (hi : EI bb X E tg iter it) (hg : EG bb X tg g ws) (hb : SSs X E body f)
    (hs : ∀ x, foldedSetIterable iter X.env x = pure x := by intro _; rfl) : SS X E (.For tg iter body [] pos) (sFor it g f) :=
  PS.imp (ps_for hp hc hi hg hb hs) fun Dn σ H ⟨ρ, G, er, h⟩ => ⟨ρ, G, er, (out_outS h).imp fun items ρ1 H1 G1 er1 s1 z J wk => by
    refine ⟨fun i m σc Hc => i ≤ items.length ∧ m = items.length - i ∧ ∃ ρc Gc, ER X.K ρc σc Hc Gc ∧ Same G1 Gc ∧ OutS X.K E (loopF g f (items.drop i) ρc) ρc σc Hc Gc Dn, ⟨items.length, Nat.zero_le _, rfl, ρ1, G1, er1, Same.refl _, z⟩, ?_⟩
    rintro i m σc Hc ⟨hi, rfl, ρc, Gc, erc, sg, hcn⟩
    by_cases hlt : i < items.length
    · refine .inr ⟨wk.goes i Hc hlt (sg.trans erc.sub), fun σ' H' => ∃ m', m' < items.length - i ∧ (i + 1 ≤ items.length ∧ m' = items.length - (i + 1) ∧ ∃ ρc Gc, ER X.K ρc σ' H' Gc ∧ Same G1 Gc ∧ OutS X.K E (loopF g f (items.drop (i + 1)) ρc) ρc σ' H' Gc Dn), fun σ' H' z => z, fun x H' hy => ?_⟩
      have yd := wk.yields i Hc x H' hlt (sg.trans erc.sub) hy
      obtain ⟨d, ed, hcase⟩ := yd
      have edrop : items.drop i = d :: items.drop (i + 1) := by
        rw [List.drop_eq_getElem_cons hlt]
        rw [List.getElem?_eq_getElem hlt] at ed
        rw [Option.some.inj ed]
      rw [edrop] at hcn
      obtain ⟨Gx, erx, sx, dpx⟩ : ∃ Gx, ER X.K ρc σc H' Gx ∧ Step ρc σc Hc Gc ρc σc H' Gx ∧ DpI bb X.K Gx H' x d := by
        rcases hcase with ⟨rfl, dp⟩ | ⟨eb, T, xs, ds, rfl, nT, rfl, rfl, dp⟩
        · exact ⟨Gc, erc, .refl, .inl (dp_mono sg _ _ dp)⟩
        · exact ⟨Gc, erc.lay nT, erc.stepLay nT, .inr ⟨eb, T, xs, ds, rfl, rfl, upd_same, dpAll_mono sg _ _ dp⟩⟩
      have h2 := OutS.shift hcn sx
      have h3 : OutS X.K E (match g d ρc with
        | .ok _ ρ1 => (match f ρ1 with
          | .ok .nx ρ2 => loopF g f (items.drop (i + 1)) ρ2
          | .ok .ct ρ2 => loopF g f (items.drop (i + 1)) ρ2
          | .ok .bk ρ2 => .ok .nx ρ2
          | r => r)
        | _ => .bad) ρc σc H' Gx Dn := h2
      refine ⟨ρc, Gx, d, erx, dpx, ?_⟩
      cases q1 : g d ρc with
      | err x ρ1 => rw [q1] at h3; exact h3.elim
      | bad => rw [q1] at h3; exact h3.elim
      | ok u ρa =>
        rw [q1] at h3
        intro σa Ha Ga era sa _
        have h4 := OutS.shift h3 sa
        dsimp only at h4
        have sga : Same G1 Ga := (sg.trans sx.sg).trans sa.sg
        refine ⟨ρa, Ga, era, ?_⟩
        cases q2 : f ρa with
        | err x ρ1 => rw [q2] at h4; exact h4
        | bad => rw [q2] at h4; exact h4
        | ok fl ρb =>
          rw [q2] at h4
          cases fl with
          | nx => exact fun σb Hb Gb erb sb => ⟨items.length - (i + 1), by omega, hlt, rfl, ρb, Gb, erb, sga.trans sb.sg, OutS.shift h4 sb⟩
          | ct => exact fun σb Hb Gb erb sb => ⟨items.length - (i + 1), by omega, hlt, rfl, ρb, Gb, erb, sga.trans sb.sg, OutS.shift h4 sb⟩
          | bk => exact h4
          | rt d => exact h4
          | rf ds => exact h4
    · have en : i = items.length := by omega
      subst en
      rw [List.drop_length] at hcn
      exact .inl ⟨wk.stops Hc (sg.trans erc.sub), hcn σc Hc Gc erc .refl⟩⟩
end
end SW
set_option Elab.async false
set_option linter.all false
set_option maxRecDepth 100000
set_option maxHeartbeats 2000000
/-! SWDef: defs, their promises and their calls. -/
namespace SW
open PySem PySem.Spec PyProof.Rows L2
variable [Tab]
/-- a def: what its body leaves, from its arguments; n: the number of its names -/
abbrev MF := List SV → R Fl
/-- what a call leaves of the callee's names: the lists that were lent -/
def nmS : SV → SV
  | .own true ds => .own true ds
  | _ => .un
def nmE (k : Nat) (ρ : En) : En := (ρ.take k).map nmS
def nmR (k : Nat) (r : R Fl) : R Fl := match r with
  | .ok fl ρ => .ok fl (nmE k ρ)
  | .err x ρ => .err x (nmE k ρ)
  | .bad => .bad
def mkF (n : Nat) (body : AS) : MF := fun svs => nmR svs.length (body (svs ++ List.replicate (n - svs.length) .un))
/-- the arguments: expressions, or lists of one's own that are lent -/
def backSV (io : Bool) : SV → SV
  | .own true ds => .own io ds
  | _ => .un
def setBack (ρ : En) : List OV → List SV → En
  | .slot j :: os, f :: fs => (match getSlot ρ j with
    | .own io _ => (setBack ρ os fs).set j (backSV io f)
    | _ => setBack ρ os fs)
  | .val _ :: os, _ :: fs => setBack ρ os fs
  | _, _ => ρ
def argSV (ρ : En) : OV → SV
  | .val d => .pl d
  | .slot i => match getSlot ρ i with
    | .own _ ds => .own true ds
    | .pl d => .pl d
    | _ => .un
def isUn : SV → Bool
  | .un => true
  | _ => false
/-- the lent slots, each once -/
def lent (ρ : En) : List OV → List Nat
  | [] => []
  | .slot i :: r => if isOwn (getSlot ρ i) = true then i :: lent ρ r else lent ρ r
  | _ :: r => lent ρ r
def nodupB : List Nat → Bool
  | [] => true
  | i :: r => !r.contains i && nodupB r
/-- f(args) -/
def callM (m : MF) (ovs : List OV) (ρ : En) : R (Fl × En) := 
  let svs := ovs.map (argSV ρ)
  if (svs.any isUn || !nodupB (lent ρ ovs)) = true then .bad else match m svs with
    | .ok fl ρ' => .ok (fl, ρ') (setBack ρ ovs ρ')
    | .err x ρ' => .err x (setBack ρ ovs ρ')
    | .bad => .bad
def aCall (m : MF) (os : List Opd) : AE := fun ρ => (evs os ρ).bind fun ovs ρ1 => (callM m ovs ρ1).bind fun p ρ2 => match p.1 with
  | .rt d => .ok d ρ2
  | .nx => .ok .none ρ2
  | _ => .bad
def fCall (m : MF) (os : List Opd) : AM (List D) := fun ρ => (evs os ρ).bind fun ovs ρ1 => (callM m ovs ρ1).bind fun p ρ2 => match p.1 with
  | .rf ds => .ok ds ρ2
  | _ => .bad
/-- an outcome of which only the lent lists are told -/
def OutN (k : Nat) (K : PySem.W.Frag) (E : WX) (r : R Fl) (ρ : En) (σ : L2.St) (H G : Hp) (Dn : Ends) : Prop := match r with
  | .ok fl ρn => ∀ ρ' σ' H' G', nmE k ρ' = ρn → ER K ρ' σ' H' G' → Step ρ σ H G ρ' σ' H' G' → EndF K Dn H fl ρ' σ' H' G'
  | .err x ρn => ∀ ρ' c dx σ' H' G', nmE k ρ' = ρn → ER K ρ' σ' H' G' → Step ρ σ H G ρ' σ' H' G' → ExR K x c dx H' → E c dx σ' H'
  | .bad => False
theorem OutN.outS {k : Nat} {K : PySem.W.Frag} {E : WX} {r : R Fl} {ρ : En} {σ : L2.St} {H G : Hp} {Dn : Ends} (h : OutN k K E (nmR k r) ρ σ H G Dn) : OutS K E r ρ σ H G Dn := by
  cases r with
  | ok fl ρ' => exact fun σ' H' G' er st => h ρ' σ' H' G' rfl er st
  | err x ρ' => exact fun c dx σ' H' G' er st ex => h ρ' c dx σ' H' G' rfl er st ex
  | bad => exact h
/-- the promise of a def with n names and k parameters -/
def spF (K : PySem.W.Frag) (N : List Str) (k : Nat) (m : MF) : Sp := fun vs H Q E => vs.length = k ∧ ∃ svs G, ER K (svs ++ List.replicate (N.length - svs.length) .un) (L2.start N vs) H G ∧ svs.length = k ∧
  OutN k K (fun c d _ H' => E c d H') (m svs) (svs ++ List.replicate (N.length - svs.length) .un) (L2.start N vs) H G { nx := fun _ H' => Q .non H', rt := Q }
section
variable {P : Program} {w : World} {K : PySem.W.Frag} {mg : Str → Option Value} {base : Heap}
end
theorem start_get {N : List Str} {vs : List V} {i : Nat} (h : i < vs.length) : (L2.start N vs)[i]? = some (some vs[i]) := by
  unfold L2.start
  rw [List.getElem?_append_left (by simpa using h), List.getElem?_map, List.getElem?_eq_getElem h]
  rfl
section
variable {K : PySem.W.Frag} {ρ : En} {σ : L2.St} {H G : Hp}
theorem ORels.len : ∀ {vs : List V} {os : List OV}, ORels K σ G vs os → vs.length = os.length
  | _, _, .nil => rfl
  | _, _, .cons _ t => congrArg (· + 1) (ORels.len t)
theorem ORels.at : ∀ {vs : List V} {os : List OV} {i : Nat} {o : OV}, ORels K σ G vs os → os[i]? = some o → ∃ v, vs[i]? = some v ∧ ORel K σ G v o
  | _, _, _, _, .nil, e => by simp at e
  | _, _, 0, _, .cons a _, e => by simp at e; subst e; exact ⟨_, rfl, a⟩
  | _, _, i + 1, _, .cons _ t, e => by
    obtain ⟨v, h1, h2⟩ := ORels.at (i := i) t (by simpa using e)
    exact ⟨v, by simpa using h1, h2⟩
theorem lent_mem {j i : Nat} : ∀ {os : List OV}, os[i]? = some (.slot j) → isOwn (getSlot ρ j) = true → j ∈ lent ρ os
  | [], e, _ => by simp at e
  | o :: os, e, h => by
    cases i with
    | zero =>
      have e1 : o = .slot j := by simpa using e
      subst e1
      unfold lent
      rw [if_pos h]
      exact List.mem_cons_self
    | succ i =>
      have e1 : os[i]? = some (.slot j) := by simpa using e
      have ih := lent_mem e1 h
      cases o with
      | val d => exact ih
      | slot i' =>
        unfold lent
        split
        · exact List.mem_cons_of_mem _ ih
        · exact ih
theorem lent_inj {j : Nat} : ∀ {os : List OV} {i i' : Nat}, nodupB (lent ρ os) = true → os[i]? = some (.slot j) → os[i']? = some (.slot j) → isOwn (getSlot ρ j) = true → i = i'
  | [], _, _, _, e, _, _ => by simp at e
  | o :: os, i, i', hn, e, e', h => by
    have htail : nodupB (lent ρ os) = true := by
      cases o with
      | val d => exact hn
      | slot q =>
        unfold lent at hn
        split at hn
        · unfold nodupB at hn
          exact (Bool.and_eq_true_iff.mp hn).2
        · exact hn
    have hhead : o = .slot j → j ∉ lent ρ os := fun e0 hm => by
      subst e0
      unfold lent at hn
      rw [if_pos h] at hn
      unfold nodupB at hn
      have h1 := (Bool.and_eq_true_iff.mp hn).1
      simp at h1
      exact h1 hm
    cases i with
    | zero =>
      cases i' with
      | zero => rfl
      | succ i' =>
        exfalso
        exact hhead (by simpa using e) (lent_mem (by simpa using e' : os[i']? = some (.slot j)) h)
    | succ i =>
      cases i' with
      | zero =>
        exfalso
        exact hhead (by simpa using e') (lent_mem (by simpa using e : os[i]? = some (.slot j)) h)
      | succ i' => exact congrArg (· + 1) (lent_inj htail (by simpa using e) (by simpa using e') h)
/-- the callee's names at its entry -/
theorem ER.enter (er : ER K ρ σ H G) {vs : List V} {ovs : List OV} (rel : ORels K σ G vs ovs) (hu : (ovs.map (argSV ρ)).any isUn = false) (hn : nodupB (lent ρ ovs) = true) {N : List Str} (hN : vs.length ≤ N.length) :
    ER K (ovs.map (argSV ρ) ++ List.replicate (N.length - (ovs.map (argSV ρ)).length) .un) (L2.start N vs) H G := by
  have hl := rel.len
  have hat : ∀ {i : Nat} {w : SV}, (ovs.map (argSV ρ) ++ List.replicate (N.length - (ovs.map (argSV ρ)).length) SV.un)[i]? = some w → w ≠ .un → ∃ o v, ovs[i]? = some o ∧ argSV ρ o = w ∧ (L2.start N vs)[i]? = some (some v) ∧ ORel K σ G v o := fun {i w} e hw => by
    by_cases hi : i < (ovs.map (argSV ρ)).length
    · rw [List.getElem?_append_left hi] at e
      rw [List.length_map] at hi
      rw [List.getElem?_map, List.getElem?_eq_getElem hi] at e
      obtain ⟨v, h1, h2⟩ := rel.at (List.getElem?_eq_getElem hi)
      have hv : i < vs.length := by rw [hl]; exact hi
      rw [List.getElem?_eq_getElem hv] at h1
      cases h1
      exact ⟨ovs[i], vs[i], List.getElem?_eq_getElem hi, Option.some.inj e, start_get hv, h2⟩
    · rw [List.getElem?_append_right (by omega)] at e
      obtain ⟨h1, h2⟩ := List.getElem?_eq_some_iff.mp e
      rw [List.getElem_replicate] at h2
      exact (hw h2.symm).elim
  have oin : ∀ {o : OV} {io : Bool} {ds : List D}, argSV ρ o = .own io ds → ∃ j io0, o = .slot j ∧ ρ[j]? = some (.own io0 ds) ∧ io = true := fun {o io ds} e => by
    cases o with
    | val d => cases e
    | slot j =>
      unfold argSV at e
      dsimp only at e
      cases q : getSlot ρ j with
      | own io0 ds0 => rw [q] at e; cases e; exact ⟨j, io0, rfl, getSlot_own q, rfl⟩
      | pl d => rw [q] at e; cases e
      | un => rw [q] at e; cases e
      | raw v => rw [q] at e; cases e
  refine ⟨?_, er.sub, fun i d h => ?_, fun i io ds h => ?_, fun i j io ds io' ds' a h1 h2 h3 h4 => ?_, fun i v h => ?_, er.tabs, er.ng⟩
  · unfold L2.start
    rw [List.length_append, List.length_append, List.length_replicate, List.length_replicate, List.length_map, List.length_map, hl]
  · obtain ⟨o, v, h1, h2, h3, h4⟩ := hat h (fun z => nomatch z)
    refine ⟨v, h3, ?_⟩
    cases o with
    | val d' => cases h2; exact h4
    | slot j =>
      have h4 : σ[j]? = some (some v) := h4
      unfold argSV at h2
      dsimp only at h2
      cases q : getSlot ρ j with
      | own io0 ds0 => rw [q] at h2; cases h2
      | pl d' =>
        rw [q] at h2
        cases h2
        obtain ⟨u, q1, q2⟩ := er.pl j d (getSlot_pl q)
        rw [h4] at q1
        cases q1
        exact q2
      | un => rw [q] at h2; cases h2
      | raw v => rw [q] at h2; cases h2
  · obtain ⟨o, v, h1, h2, h3, h4⟩ := hat h (fun z => nomatch z)
    obtain ⟨j, io0, rfl, q, _⟩ := oin h2
    have h4 : σ[j]? = some (some v) := h4
    obtain ⟨a, us, k1, k2⟩ := er.own j io0 ds q
    rw [h4] at k1
    cases k1
    exact ⟨a, us, h3, k2⟩
  · obtain ⟨o, v, k1, k2, k3, k4⟩ := hat h1 (fun z => nomatch z)
    obtain ⟨o', v', m1, m2, m3, m4⟩ := hat h2 (fun z => nomatch z)
    obtain ⟨p, io0, rfl, q, _⟩ := oin k2
    obtain ⟨p', io0', rfl, q', _⟩ := oin m2
    have k4 : σ[p]? = some (some v) := k4
    have m4 : σ[p']? = some (some v') := m4
    rw [k3] at h3
    cases h3
    rw [m3] at h4
    cases h4
    have ep := er.inj p p' io0 ds io0' ds' a q q' k4 m4
    subst ep
    refine lent_inj hn k1 m1 ?_
    unfold getSlot
    rw [q]
    rfl
  · obtain ⟨o, u, h1, h2, h3, h4⟩ := hat h (fun z => nomatch z)
    exfalso
    cases o with
    | val d' => cases h2
    | slot j =>
      unfold argSV at h2
      dsimp only at h2
      cases q : getSlot ρ j with
      | own io0 ds0 => rw [q] at h2; cases h2
      | pl d' => rw [q] at h2; cases h2
      | un => rw [q] at h2; cases h2
      | raw v => rw [q] at h2; cases h2
theorem setBack_length : ∀ (os : List OV) (fs : List SV), (setBack ρ os fs).length = ρ.length
  | [], _ => by unfold setBack; rfl
  | .slot j :: os, [] => rfl
  | .val d :: os, [] => rfl
  | .val d :: os, f :: fs => setBack_length os fs
  | .slot j :: os, f :: fs => by
    unfold setBack
    split
    · rw [List.length_set]; exact setBack_length os fs
    · exact setBack_length os fs
theorem setBack_at {j : Nat} {w : SV} : ∀ {os : List OV} {fs : List SV}, os.length ≤ fs.length → (setBack ρ os fs)[j]? = some w →
    (ρ[j]? = some w ∧ ∀ i : Nat, os[i]? = some (.slot j) → isOwn (getSlot ρ j) = false) ∨ ∃ (i : Nat) (io : Bool) (ds : List D) (f : SV), os[i]? = some (.slot j) ∧ ρ[j]? = some (.own io ds) ∧ fs[i]? = some f ∧ w = backSV io f
  | [], fs, _, h => .inl ⟨by unfold setBack at h; exact h, fun i e => by simp at e⟩
  | o :: os, [], hl, h => by simp at hl
  | .val d :: os, f :: fs, hl, h => by
    rcases setBack_at (os := os) (fs := fs) (by simpa using hl) h with ⟨h1, h2⟩ | ⟨i, io, ds, f', h1, h2⟩
    · refine .inl ⟨h1, fun i e => ?_⟩
      cases i with
      | zero => simp at e
      | succ i => exact h2 i (by simpa using e)
    · exact .inr ⟨i + 1, io, ds, f', by simpa using h1, by simpa using h2⟩
  | .slot k :: os, f :: fs, hl, h => by
    unfold setBack at h
    split at h
    · rename_i io ds q
      rcases set_get (ρ := setBack ρ os fs) h with ⟨rfl, e, _⟩ | ⟨hj, e⟩
      · exact .inr ⟨0, io, ds, f, rfl, getSlot_own q, rfl, e⟩
      · rcases setBack_at (os := os) (fs := fs) (by simpa using hl) e with ⟨h1, h2⟩ | ⟨i, io, ds, f', h1, h2⟩
        · refine .inl ⟨h1, fun i e => ?_⟩
          cases i with
          | zero =>
            have e2 : k = j := by simpa using e
            exact (hj e2.symm).elim
          | succ i => exact h2 i (by simpa using e)
        · exact .inr ⟨i + 1, io, ds, f', by simpa using h1, by simpa using h2⟩
    · rename_i hno
      rcases setBack_at (os := os) (fs := fs) (by simpa using hl) h with ⟨h1, h2⟩ | ⟨i, io, ds, f', h1, h2⟩
      · refine .inl ⟨h1, fun i e => ?_⟩
        cases i with
        | zero =>
          have e2 : k = j := by simpa using e
          subst e2
          cases q : getSlot ρ k with
          | own io ds => exact (hno io ds q).elim
          | _ => rfl
        | succ i => exact h2 i (by simpa using e)
      · exact .inr ⟨i + 1, io, ds, f', by simpa using h1, by simpa using h2⟩
/-- behind a call -/
theorem ER.leave (er : ER K ρ σ H G) {vs : List V} {ovs : List OV} (rel : ORels K σ G vs ovs) (hu : (ovs.map (argSV ρ)).any isUn = false) (hn : nodupB (lent ρ ovs) = true) {N : List Str} (hN : vs.length ≤ N.length)
    {ρ' : En} {σ' : L2.St} {H' G' : Hp} (er' : ER K ρ' σ' H' G') (hlen : ovs.length ≤ ρ'.length) (st : Step (ovs.map (argSV ρ) ++ List.replicate (N.length - (ovs.map (argSV ρ)).length) .un) (L2.start N vs) H G ρ' σ' H' G') :
    ER K (setBack ρ ovs ρ') σ H' G' ∧ Step ρ σ H G (setBack ρ ovs ρ') σ H' G' := by
  have hl := rel.len
  -- the callee's lists are lent ones
  have ownIn : ∀ {b : Addr}, Owned (ovs.map (argSV ρ) ++ List.replicate (N.length - (ovs.map (argSV ρ)).length) .un) (L2.start N vs) b → ∃ (i j : Nat) (io : Bool) (ds : List D), ovs[i]? = some (.slot j) ∧ ρ[j]? = some (.own io ds) ∧ σ[j]? = some (some (.ref b)) ∧ (L2.start N vs)[i]? = some (some (V.ref b)) := fun {b} z => by
    obtain ⟨i, io, ds, e, h2⟩ := z
    by_cases hi : i < (ovs.map (argSV ρ)).length
    · rw [List.getElem?_append_left hi] at e
      rw [List.length_map] at hi
      rw [List.getElem?_map, List.getElem?_eq_getElem hi] at e
      obtain ⟨v, h3, h4⟩ := rel.at (List.getElem?_eq_getElem hi)
      have hv : i < vs.length := by rw [hl]; exact hi
      rw [List.getElem?_eq_getElem hv] at h3
      have h5 := start_get (N := N) hv
      rw [h2] at h5
      have e0 : argSV ρ ovs[i] = .own io ds := Option.some.inj e
      cases ho : ovs[i] with
      | val d => rw [ho] at e0; cases e0
      | slot j =>
        rw [ho] at e0 h4
        have h4 : σ[j]? = some (some v) := h4
        unfold argSV at e0
        dsimp only at e0
        cases q : getSlot ρ j with
        | own io0 ds0 =>
          have ev : V.ref b = v := by
            have := h5.trans (congrArg some h3)
            cases this
            rfl
          subst ev
          exact ⟨i, j, io0, ds0, by rw [List.getElem?_eq_getElem hi, ho], getSlot_own q, h4, h2⟩
        | pl d => rw [q] at e0; cases e0
        | un => rw [q] at e0; cases e0
        | raw v => rw [q] at e0; cases e0
    · rw [List.getElem?_append_right (by omega)] at e
      obtain ⟨h1, h3⟩ := List.getElem?_eq_some_iff.mp e
      rw [List.getElem_replicate] at h3
      cases h3
  have ownSub : ∀ {b : Addr}, Owned (ovs.map (argSV ρ) ++ List.replicate (N.length - (ovs.map (argSV ρ)).length) .un) (L2.start N vs) b → Owned ρ σ b := fun {b} z => by
    obtain ⟨i, j, io, ds, _, h2, h3, _⟩ := ownIn z
    exact ⟨j, io, ds, h2, h3⟩
  -- a lent slot's list behind the call
  have lentOwn : ∀ {i j : Nat} {io io' : Bool} {ds ds' : List D} {f : SV}, ovs[i]? = some (.slot j) → ρ[j]? = some (.own io ds) → ρ'[i]? = some f → SV.own io' ds' = backSV io f → io' = io ∧ f = .own true ds' ∧ ∃ a, σ[j]? = some (some (.ref a)) ∧ σ'[i]? = some (some (.ref a)) := fun {i j io io' ds ds' f} h1 h2 h3 h4 => by
    cases f with
    | own b es =>
      cases b with
      | true =>
        cases h4
        obtain ⟨es', h5, h6⟩ := st.io i ds' h3
        obtain ⟨a, us, k1, _⟩ := er.own j io ds h2
        obtain ⟨v, m1, m2⟩ := rel.at h1
        have m2 : σ[j]? = some (some v) := m2
        rw [k1] at m2
        cases m2
        have hv : i < vs.length := (List.getElem?_eq_some_iff.mp m1).1
        have h7 := start_get (N := N) hv
        rw [List.getElem?_eq_getElem hv] at m1
        rw [Option.some.inj m1] at h7
        exact ⟨rfl, rfl, a, k1, by rw [h6, h7]⟩
      | false => cases h4
    | un => cases h4
    | pl d => cases h4
    | raw v => cases h4
  have free : ∀ {j : Nat} {io : Bool} {ds : List D} {a : Addr}, ρ[j]? = some (.own io ds) → (∀ i : Nat, ovs[i]? = some (.slot j) → isOwn (getSlot ρ j) = false) → σ[j]? = some (some (.ref a)) → ¬ Owned (ovs.map (argSV ρ) ++ List.replicate (N.length - (ovs.map (argSV ρ)).length) .un) (L2.start N vs) a := fun {j io ds a} h1 h2 h3 z => by
    obtain ⟨i, k, io', ds', k1, k2, k3, _⟩ := ownIn z
    have e := er.inj j k io ds io' ds' a h1 k2 h3 k3
    subst e
    have := h2 i k1
    unfold getSlot at this
    rw [h1] at this
    cases this
  refine ⟨⟨by rw [setBack_length]; exact er.len, er'.sub, fun j d h => ?_, fun j io ds h => ?_, fun j k io ds io' ds' a h1 h2 h3 h4 => ?_, fun j v h => ?_, er'.tabs, er'.ng⟩, ⟨st.sg, fun b o hb nt nb => st.keep b o hb nt fun z => nb (ownSub z), st.there, fun b hb => ?_, fun j ds' h => ?_, setBack_length _ _⟩⟩
  · rcases setBack_at hlen h with ⟨h1, _⟩ | ⟨i, io, ds, f, h1, h2, h3, h4⟩
    · obtain ⟨v, q1, q2⟩ := er.pl j d h1
      exact ⟨v, q1, dp_mono st.sg _ _ q2⟩
    · exfalso
      cases f with
      | own b es => cases b <;> cases h4
      | _ => cases h4
  · rcases setBack_at hlen h with ⟨h1, h2⟩ | ⟨i, io0, ds0, f, h1, h2, h3, h4⟩
    · obtain ⟨a, us, q1, q2, q3, q4⟩ := er.own j io ds h1
      obtain ⟨k1, k2⟩ := st.keep a _ q3 nt_lst (free h1 h2 q1)
      exact ⟨a, us, q1, by rw [k2]; exact q2, k1, dpAll_mono st.sg _ _ q4⟩
    · obtain ⟨rfl, rfl, a, k1, k2⟩ := lentOwn h1 h2 h3 h4
      obtain ⟨a', us, q1, q2⟩ := er'.own i true ds h3
      rw [k2] at q1
      cases q1
      exact ⟨a, us, k1, q2⟩
  · have own0 : ∀ {j : Nat} {io : Bool} {ds : List D}, (setBack ρ ovs ρ')[j]? = some (.own io ds) → ∃ io' ds', ρ[j]? = some (.own io' ds') := fun {j io ds} h => by
      rcases setBack_at hlen h with ⟨h1, _⟩ | ⟨i, io0, ds0, f, _, h2, _⟩
      · exact ⟨_, _, h1⟩
      · exact ⟨_, _, h2⟩
    obtain ⟨_, _, q1⟩ := own0 h1
    obtain ⟨_, _, q2⟩ := own0 h2
    exact er.inj j k _ _ _ _ a q1 q2 h3 h4
  · rcases setBack_at hlen h with ⟨h1, _⟩ | ⟨i, io0, ds0, f, _, _, _, h4⟩
    · exact er.raw j v h1
    · exfalso
      cases f with
      | own b es => cases b <;> cases h4
      | _ => cases h4
  · obtain ⟨j, io, ds, h, h2⟩ := hb
    rcases setBack_at hlen h with ⟨h1, _⟩ | ⟨i, io0, ds0, f, _, h3, _⟩
    · exact .inl ⟨j, io, ds, h1, h2⟩
    · exact .inl ⟨j, io0, ds0, h3, h2⟩
  · rcases setBack_at hlen h with ⟨h1, _⟩ | ⟨i, io0, ds0, f, h1, h2, h3, h4⟩
    · exact ⟨ds', h1, rfl⟩
    · obtain ⟨e, _, _⟩ := lentOwn h1 h2 h3 h4
      subst e
      exact ⟨ds0, h2, rfl⟩
end
theorem setBack_nm {ρ : En} : ∀ {os : List OV} {ρ' : En} {k : Nat}, os.length ≤ k → os.length ≤ ρ'.length → setBack ρ os (nmE k ρ') = setBack ρ os ρ'
  | [], _, _, _, _ => by unfold setBack; rfl
  | o :: os, [], k, _, h => by simp at h
  | o :: os, f :: fs, 0, h, _ => by simp at h
  | o :: os, f :: fs, k + 1, h1, h2 => by
    have ih := setBack_nm (ρ := ρ) (os := os) (ρ' := fs) (k := k) (by simpa using h1) (by simpa using h2)
    have e : nmE (k + 1) (f :: fs) = nmS f :: nmE k fs := rfl
    rw [e]
    have eb : ∀ io, backSV io (nmS f) = backSV io f := fun io => by
      cases f with
      | own b ds => cases b <;> rfl
      | _ => rfl
    cases o with
    | val d => unfold setBack; exact ih
    | slot j =>
      unfold setBack
      split
      · rw [ih, eb]
      · exact ih
theorem setBack_owned {ρ ρ' : En} {σ : L2.St} {ovs : List OV} {b : Addr} (hl : ovs.length ≤ ρ'.length) (h : Owned (setBack ρ ovs ρ') σ b) : Owned ρ σ b := by
  obtain ⟨j, io, ds, h, h2⟩ := h
  rcases setBack_at hl h with ⟨h1, _⟩ | ⟨i, io0, ds0, f, _, h3, _⟩
  · exact ⟨j, io, ds, h1, h2⟩
  · exact ⟨j, io0, ds0, h3, h2⟩
/-! ### the call -/
section
variable {X : Cx} {E : WX} {pos p : Pos} {x : Str} {e : Expr} {es : List Expr} {os : List Opd} {f : Addr} {fd : FuncData} {ps : List Str} {k kk : Nat} {m : MF} {N : List Str}
/-- what a call gives its caller -/
theorem call_read {ρ : En} {σ : L2.St} {H G : Hp} {ovs : List OV} {vs : List V} {β : Type} {kf : (Fl × En) → En → R β} {Z : β → En → Hp → Hp → Prop} {Q : VK} (er : ER X.K ρ σ H G) (rel : ORels X.K σ G vs ovs) (hk : ovs.length = kk) (hN : kk ≤ N.length)
    (h : Out X.K E ((callM m ovs ρ).bind kf) ρ σ H G Z)
    (hb : ∀ ρ' ρ2, kf (.bk, ρ') ρ2 = .bad ∧ kf (.ct, ρ') ρ2 = .bad) (qr : ∀ fl ρ' ρ2 v H' G', (match fl with | .rt d => Dp X.K G' v d | .nx => v = .non | .rf ds => ∃ a us, v = .ref a ∧ H a = none ∧ G' a = none ∧ H' a = some (.lst us) ∧ ¬ Owned ρ2 σ a ∧ DpAll X.K G' us ds | _ => False) → ER X.K ρ2 σ H' G' → Step ρ σ H G ρ2 σ H' G' → Out X.K E (kf (fl, ρ') ρ2) ρ σ H G Z → Q v H') :
    spF X.K N kk m vs H Q (WE E σ) := by
  have hl := rel.len
  have hvl : vs.length = kk := hl.trans hk
  unfold callM at h
  dsimp only at h
  by_cases hc : ((ovs.map (argSV ρ)).any isUn || !nodupB (lent ρ ovs)) = true
  · rw [if_pos hc] at h
    exact h.elim
  · rw [if_neg hc] at h
    have hc2 : (ovs.map (argSV ρ)).any isUn = false ∧ nodupB (lent ρ ovs) = true := by
      cases h1 : (ovs.map (argSV ρ)).any isUn <;> cases h2 : nodupB (lent ρ ovs) <;> simp [h1, h2] at hc ⊢
    have ere := er.enter rel hc2.1 hc2.2 (N := N) (by rw [hvl]; exact hN)
    refine ⟨hvl, ovs.map (argSV ρ), G, ere, by rw [List.length_map]; exact hk, ?_⟩
    have hlen : ∀ {ρ' : En} {σ' : L2.St} {H' G' : Hp}, Step (ovs.map (argSV ρ) ++ List.replicate (N.length - (ovs.map (argSV ρ)).length) .un) (L2.start N vs) H G ρ' σ' H' G' → ovs.length ≤ ρ'.length := fun st => by
      rw [st.ln, List.length_append, List.length_map]
      exact Nat.le_add_right _ _
    have hvN : vs.length ≤ N.length := by rw [hvl]; exact hN
    cases q : m (ovs.map (argSV ρ)) with
    | bad => rw [q] at h; exact h.elim
    | err x' ρn =>
      rw [q] at h
      intro ρ' c dx σ' H' G' en er' st ex
      obtain ⟨e2, s2⟩ := er.leave rel hc2.1 hc2.2 hvN er' (hlen st) st
      rw [← setBack_nm (k := kk) (by rw [hk]; exact Nat.le_refl _) (hlen st), en] at e2 s2
      exact h c dx H' G' e2 s2 ex
    | ok fl ρn =>
      rw [q] at h
      intro ρ' σ' H' G' en er' st
      obtain ⟨e2, s2⟩ := er.leave rel hc2.1 hc2.2 hvN er' (hlen st) st
      have eb := setBack_nm (ρ := ρ) (os := ovs) (ρ' := ρ') (k := kk) (by rw [hk]; exact Nat.le_refl _) (hlen st)
      rw [en] at eb
      rw [← eb] at e2 s2
      cases fl with
      | nx => exact qr .nx ρn (setBack ρ ovs ρn) .non H' G' rfl e2 s2 h
      | rt d => exact fun v dp => qr (.rt d) ρn (setBack ρ ovs ρn) v H' G' dp e2 s2 h
      | rf ds =>
        intro a us n0 n1 e1 no dps
        refine qr (.rf ds) ρn (setBack ρ ovs ρn) (.ref a) H' G' ⟨a, us, rfl, n0, n1, e1, fun z => ?_, dps⟩ e2 s2 h
        rw [eb] at z
        obtain ⟨⟨_, e3⟩, _⟩ := er.owned (setBack_owned (hlen st) z)
        rw [n0] at e3
        cases e3
      | bk =>
        have h2 : Out X.K E (kf (.bk, ρn) (setBack ρ ovs ρn)) ρ σ H G Z := h
        rw [(hb _ _).1] at h2
        exact h2
      | ct =>
        have h2 : Out X.K E (kf (.ct, ρn) (setBack ρ ovs ρn)) ρ σ H G Z := h
        rw [(hb _ _).2] at h2
        exact h2
theorem evs_len : ∀ {os : List Opd} {ρ ρ1 : En} {ovs : List OV}, evs os ρ = .ok ovs ρ1 → ovs.length = os.length
  | [], _, _, _, h => by cases h; rfl
  | o :: os, ρ, ρ1, ovs, h => by
    have h' : (o.ev ρ).bind (fun v ρ1 => (evs os ρ1).bind fun vs ρ2 => R.ok (v :: vs) ρ2) = .ok ovs ρ1 := h
    cases q : o.ev ρ with
    | err x ρ2 => rw [q] at h'; cases h'
    | bad => rw [q] at h'; cases h'
    | ok v ρ2 =>
      rw [q] at h'
      have h2 : (evs os ρ2).bind (fun vs ρ3 => R.ok (v :: vs) ρ3) = .ok ovs ρ1 := h'
      cases q2 : evs os ρ2 with
      | err x ρ2 => rw [q2] at h2; cases h2
      | bad => rw [q2] at h2; cases h2
      | ok vs ρ3 =>
        rw [q2] at h2
        cases h2
        exact congrArg (· + 1) (evs_len q2)
theorem v_call (F : FnOk X.prog X.w X.K X.mg X.base (L2N.CX X.prog X.w) k f fd ps (spF X.K N kk m)) (tk : L2N.Takes X E) (hr : Room k X.A) (hg : Gl X x) (hm : X.mg x = some (.ref f)) (hkp : PySem.W.keepIn X.K (.ref f) = true) (hb : Binds X.K fd ps []) (ha : EOs X E (e :: es) os) (hk : os.length = kk := by rfl) (hN : kk ≤ N.length := by decide)
    (hdb : (x == ("__debug__" : Str)) = false := by decide) (hs : starEach (e :: es) X.env = (false, eval e X.env) :: starEach es X.env := by rfl) (hpl : (backTo pos (starEach es X.env)).any (·.1) = false := by rfl) : EV X E (.Call (.Name x p) (e :: es) [] pos) (aCall m os) :=
  PE.imp (pe_callS F hr hg hm hkp hb (fun σ => L2N.passAt tk σ) ha hdb hs hpl) fun σ H Q ⟨ρ, G, er, h⟩ => by
    unfold aCall at h
    have hlen : ∀ ovs ρ1, evs os ρ = .ok ovs ρ1 → ovs.length = kk := fun ovs ρ1 e => (evs_len e).trans hk
    cases q : evs os ρ with
    | bad => rw [q] at h; exact h.elim
    | err x ρ1 =>
      refine evs_step (k := fun _ _ => R.bad) (Z := fun (_ : Unit) _ _ _ => False) er ?_ fun vs ovs ρ1 H1 G1 er1 s1 rel z => z.elim
      rw [q] at h ⊢
      exact h
    | ok ovs0 ρ0 =>
      have hl0 := hlen ovs0 ρ0 q
      refine evs_step (k := fun ovs ρ1 => if ovs.length = kk then (callM m ovs ρ1).bind fun p ρ2 => match p.1 with
        | .rt d => R.ok d ρ2
        | .nx => .ok .none ρ2
        | _ => .bad else .bad) (Z := ZE X.K Q) er ?_ fun vs ovs ρ1 H1 G1 er1 s1 rel z => ?_
      · rw [q] at h ⊢
        show Out X.K E (if ovs0.length = kk then _ else _) _ _ _ _ _
        rw [if_pos hl0]
        exact h
      · split at z
        · rename_i hl
          refine call_read er1 rel hl hN z (fun ρ' ρ2 => ⟨rfl, rfl⟩) fun fl ρ' ρ2 v H' G' hv e2 s2 h2 => ?_
          cases fl with
          | rt d => exact h2 H' G' e2 s2 v hv
          | nx => exact h2 H' G' e2 s2 v (by cases hv; exact .non)
          | rf ds => exact h2.elim
          | bk => exact hv.elim
          | ct => exact hv.elim
        · exact z.elim
theorem f_call (F : FnOk X.prog X.w X.K X.mg X.base (L2N.CX X.prog X.w) k f fd ps (spF X.K N kk m)) (tk : L2N.Takes X E) (hr : Room k X.A) (hg : Gl X x) (hm : X.mg x = some (.ref f)) (hkp : PySem.W.keepIn X.K (.ref f) = true) (hb : Binds X.K fd ps []) (ha : EOs X E (e :: es) os) (hk : os.length = kk := by rfl) (hN : kk ≤ N.length := by decide)
    (hdb : (x == ("__debug__" : Str)) = false := by decide) (hs : starEach (e :: es) X.env = (false, eval e X.env) :: starEach es X.env := by rfl) (hpl : (backTo pos (starEach es X.env)).any (·.1) = false := by rfl) : EF X E (.Call (.Name x p) (e :: es) [] pos) (fCall m os) :=
  PE.imp (pe_callS F hr hg hm hkp hb (fun σ => L2N.passAt tk σ) ha hdb hs hpl) fun σ H Q ⟨ρ, G, er, h⟩ => by
    unfold fCall at h
    have hlen : ∀ ovs ρ1, evs os ρ = .ok ovs ρ1 → ovs.length = kk := fun ovs ρ1 e => (evs_len e).trans hk
    cases q : evs os ρ with
    | bad => rw [q] at h; exact h.elim
    | err x ρ1 =>
      refine evs_step (k := fun _ _ => R.bad) (Z := fun (_ : Unit) _ _ _ => False) er ?_ fun vs ovs ρ1 H1 G1 er1 s1 rel z => z.elim
      rw [q] at h ⊢
      exact h
    | ok ovs0 ρ0 =>
      have hl0 := hlen ovs0 ρ0 q
      refine evs_step (k := fun ovs ρ1 => if ovs.length = kk then (callM m ovs ρ1).bind fun p ρ2 => match p.1 with
        | .rf ds => R.ok ds ρ2
        | _ => .bad else .bad) (Z := ZF X.K σ H Q) er ?_ fun vs ovs ρ1 H1 G1 er1 s1 rel z => ?_
      · rw [q] at h ⊢
        show Out X.K E (if ovs0.length = kk then _ else _) _ _ _ _ _
        rw [if_pos hl0]
        exact h
      · split at z
        · rename_i hl
          refine call_read er1 rel hl hN z (fun ρ' ρ2 => ⟨rfl, rfl⟩) fun fl ρ' ρ2 v H' G' hv e2 s2 h2 => ?_
          cases fl with
          | rf ds =>
            obtain ⟨a, us, rfl, n0, n1, e1, no, dps⟩ := hv
            exact h2 H' G' e2 s2 a us (s1.there a n0) n1 e1 no dps
          | rt d => exact h2.elim
          | nx => exact h2.elim
          | bk => exact hv.elim
          | ct => exact hv.elim
        · exact z.elim
end
end SW
set_option Elab.async false
set_option linter.all false
set_option maxRecDepth 100000
set_option maxHeartbeats 2000000
/-! SWExc: raise; a lambda handed to a def that tells what it raises. -/
namespace SW
open PySem PySem.Spec PyProof.Rows L2
variable [Tab]
def sRaise (x : Str) : AS := fun ρ => .err ⟨x, []⟩ ρ
theorem s_raise {X : Cx} {E : WX} {e : Expr} {pos : Pos} {x : Str} (hc : X.calm = true) (tk : L2N.Takes X E) (he : L2N.PMk X e (fun _ H Q => Q (.ref (He.ga X.K x)) none H)) : SS X E (.Raise (some e) none pos) (sRaise x) :=
  PS.imp (L2N.ps_raise hc tk he) fun Dn σ H ⟨ρ, G, er, h⟩ => h _ _ σ H G er .refl ⟨rfl, fun _ => rfl, fun z => (z rfl).elim⟩
/-! ### a lambda is made (LamX.lam_make2, and what else stays) -/
section
variable {X : Cx} {pins : List (Addr × Obj)} {σ : L2.St} {H : Hp} {s : Shared}
theorem lam_make3 {c P : Addr} {params : Arguments} {body : Expr} {scope : Scope} {pos : Pos} {E : Value → Shared → Prop} {Q : Value → Shared → Prop} (I : L2.Inv X pins σ H s) (TB : LamX.TabB X.base X.mg c P) (hcode : X.env.code = .ref c)
    (hm : (P, X.env.qual ++ "<lambda>") ∈ Tab.T) (hu : ∀ p ∈ Tab.T, p.1 = P → p.2 = X.env.qual ++ "<lambda>") (hT : TabOk H) (hdef : defaultsOf params X.env = ([], [])) (hfree : ∀ y ∈ scope.names, y.2 = .free → ∃ c, X.env.cells.lookup y.1 = some c)
    (h : ∀ (f c' : Addr) (pm ctv : Value) (H1 : Hp) (s' : Shared), L2.Inv X pins σ H1 s' → LamX.ExtN H H1 → (∀ b, H1 b = none → H b = none) → TabOk H1 →
      s'.heap.get? f = some (PySem.W.kla_obj "<lambda>" (X.env.qual ++ "<lambda>") params body scope (cloFrom X.env.cells scope.names []) pm c' ctv) → H1 f = none → f ∉ frs X.stack → H1 c' = some (LamX.CodeO c' (X.env.qual ++ "<lambda>")) → Q (.ref f) s') :
    wpAny (model X.prog X.w) X.A (eval (.Lambda params body scope pos) X.env) Q E s := by
  obtain ⟨ps, hP, ht, ha⟩ := hT.ok _ hm
  refine PySem.W.kla_eval hdef ?_
  have bP := TB.bm.keeps I.bk
  have hP' : s.heap.get? P = some { cls := .none, data := .fields ps } := I.hok P _ hP
  have nofr : ∀ f, s.heap.objs.size ≤ f → f ∉ frs X.stack := fun f hf z => by
    rcases List.mem_cons.mp (I.stkSub _ z) with e | e
    · have h1 := I.lt
      rw [← e] at h1
      exact Nat.lt_irrefl _ (Nat.lt_of_lt_of_le h1 hf)
    · exact I.nofs hf e
  cases hc : codeAmong pos ps.toList with
  | none =>
    refine PySem.W.kla_makeFunction (mg := X.mg) (c := c) (P := P) (ps := ps) (closure_ok hfree) I.ok.glob (I.mod.glob.keeps I.bk) hcode (TB.code.keeps I.bk) hP' ht hc TB.gP bP fun c' ctv h' tk hx hge hlt hrec htb => ?_
    obtain ⟨c2, oc, vs, t, e2, hoc, hd, hv⟩ := hrec
    cases e2
    have hsz := Nat.le_trans hge (Nat.le_of_lt hlt)
    have nC : H c' = none := I.hok.fresh hge
    have I1 := LamX.inv_table (t' := tk) (more := #[rawInt pos.line, rawInt pos.col, .ref c']) (h' := h'.push (PySem.W.kla_obj "<lambda>" (X.env.qual ++ "<lambda>") params body scope (cloFrom X.env.cells scope.names []) ((X.mg "__name__").getD .none) c' ctv)) I hP
      (fun b o hb e => Heap.get?_push_of_some _ (hx b o hb e)) (Heap.get?_push_of_some _ htb) hge ⟨oc, vs, t, Heap.get?_push_of_some _ hoc, hd, hv⟩
    have hE : LamX.ExtN H (upd (upd H P (.tbl (ps ++ #[rawInt pos.line, rawInt pos.col, .ref c']))) c' (LamX.CodeO c' (X.env.qual ++ "<lambda>"))) := fun b o e n => by
      rw [upd_ne (ne_of_none e nC), upd_ne (fun z => n ps (Option.some.inj (e.symm.trans (by rw [z]; exact hP))))]
      exact e
    have eL : (ps ++ #[rawInt pos.line, rawInt pos.col, .ref c']).toList = ps.toList ++ [rawInt pos.line, rawInt pos.col, .ref c'] := by simp
    have th : ∀ b, (upd (upd H P (.tbl (ps ++ #[rawInt pos.line, rawInt pos.col, .ref c']))) c' (LamX.CodeO c' (X.env.qual ++ "<lambda>"))) b = none → H b = none := fun b e => by
      by_cases h1 : b = c'
      · rw [h1, upd_same] at e; cases e
      · rw [upd_ne h1] at e
        by_cases h2 : b = P
        · rw [h2, upd_same] at e; cases e
        · rw [upd_ne h2] at e; exact e
    refine h h'.objs.size c' ((X.mg "__name__").getD .none) ctv _ _ I1 hE th ⟨fun p hp => ?_⟩ (Heap.get?_push_size _ rfl) ?_ (nofr _ hsz) upd_same
    · by_cases hb : p.1 = P
      · rw [hu p hp hb, hb]
        refine ⟨_, by rw [upd_ne (ne_of_none hP nC), upd_same], by rw [eL]; exact PySem.TriplesOk_snoc _ _ _ _ ht, fun p' cv hcv => ?_⟩
        rw [eL] at hcv
        rcases LamX.among_app _ ht hcv with z | z
        · obtain ⟨c0, e1, e2⟩ := ha p' cv z
          exact ⟨c0, e1, hE _ _ e2 LamX.codeO_ne⟩
        · exact ⟨c', z, upd_same⟩
      · obtain ⟨ps', a1, a2, a3⟩ := hT.ok p hp
        refine ⟨ps', by rw [upd_ne (ne_of_none a1 nC), upd_ne hb]; exact a1, a2, fun p' cv hcv => ?_⟩
        obtain ⟨c0, e1, e2⟩ := a3 p' cv hcv
        exact ⟨c0, e1, hE _ _ e2 LamX.codeO_ne⟩
    · have n1 : h'.objs.size ≠ c' := Nat.ne_of_gt hlt
      have n2 : h'.objs.size ≠ P := Nat.ne_of_gt (Nat.lt_of_lt_of_le (Heap.lt_size hP') hsz)
      rw [upd_ne n1, upd_ne n2]
      exact I.hok.fresh hsz
  | some cv =>
    obtain ⟨c', e, hco⟩ := ha pos cv hc
    subst e
    refine PySem.W.kla_makeFunctionHit (mg := X.mg) (c := c) (P := P) (ps := ps) (closure_ok hfree) I.ok.glob (I.mod.glob.keeps I.bk) hcode (TB.code.keeps I.bk) hP' ht hc bP fun ctv h' tk hx hsz => ?_
    have I1 : L2.Inv X pins σ H { s with heap := h'.push (PySem.W.kla_obj "<lambda>" (X.env.qual ++ "<lambda>") params body scope (cloFrom X.env.cells scope.names []) ((X.mg "__name__").getD .none) c' ctv), toks := tk } := I.kept fun b o e => Heap.get?_push_of_some _ (hx b o e)
    exact h h'.objs.size c' ((X.mg "__name__").getD .none) ctv H _ I1 (LamX.ExtN.refl H) (fun _ e => e) hT (Heap.get?_push_size _ rfl) (I.hok.fresh hsz) (nofr _ hsz) hco
end
/-! ### the def that tells what a call raises -/
/-- what holds where a suite begins, or ends -/
structure At0 (G H : Hp) : Prop where
  sub : Same G H
  tabs : TabOk H
  ng : ∀ b o, G b = some o → goodO o
/-- what a suite leaves -/
structure Ext0 (H G H' G' : Hp) : Prop where
  sg : Same G G'
  keep : ∀ b o, H b = some o → notTbl o → H' b = some o ∧ G' b = G b
  there : ∀ b, H' b = none → H b = none
  at0 : At0 G' H'
/-- what it makes of the call's reading: sv where it runs through, F of what is raised -/
def TTold (K : PySem.W.Frag) (F : Ex → Option D) (sv : V) : (XK → Hp → VK → Prop) → Hp → VK → Prop := fun tl H Q =>
  tl (fun cls dx H' => ∃ x d G', ExR K x cls dx H' ∧ F x = some d ∧ At0 G' H' ∧ ∀ H'' G'', Ext0 H' G' H'' G'' → ∀ v, Dp K G'' v d → Q v H'') H (fun _ H' => Q sv H')
def aTold (F : Ex → Option D) (sn : D) (f : AE) : AE := fun ρ => match f ρ with
  | .ok _ ρ' => .ok sn ρ'
  | .err x ρ' => (match F x with
    | some s => .ok s ρ'
    | none => .bad)
  | .bad => .bad
section
variable {X : Cx} {E : WX}
theorem er_ext {K : PySem.W.Frag} {ρ : En} {σ : L2.St} {H G H1 : Hp} (er : ER K ρ σ H G) (e : LamX.ExtN H H1) (th : ∀ b, H1 b = none → H b = none) (t : TabOk H1) : ER K ρ σ H1 G ∧ Step ρ σ H G ρ σ H1 G := by
  refine ⟨⟨er.len, fun b o g => e b o (er.sub b o g) (er.ng b o g).nt, er.pl, fun i io ds h => ?_, er.inj, er.raw, t, er.ng⟩, ⟨Same.refl _, fun b o hb nt _ => ⟨e b o hb nt, rfl⟩, th, fun b z => .inl z, fun i ds h => ⟨ds, h, rfl⟩, rfl⟩⟩
  obtain ⟨a, vs, h1, h2, h3, h4⟩ := er.own i io ds h
  exact ⟨a, vs, h1, h2, e a _ h3 (fun _ z => nomatch z), h4⟩
/-- x(), in the def that got the lambda -/
def GivesT (X : Cx) (Ng : List Str) (x : Str) (sg : Scope) (g : Addr) (cdg : Value) (bg : List Stmt) (a : Str) (q : Str) (F : Ex → Option D) (sv : V) : Prop :=
  ∀ (f c' : Addr) (s : Shared) (H : Hp) (Q : VK) (tl : XK → Hp → VK → Prop), Room 0 (X.A.deeper (envOfC x sg s.heap.objs.size g cdg)) →
    (∀ (W : WX) (pn : List (Addr × Obj)) (xe : Value → Shared → Prop) (E : XK) (p1 p2 : Pos), L2N.Takes ((cxOf C8.CX0 X.prog X.w X.K X.mg X.base Ng x sg g cdg X.A X.stack s H C8.E0).tr pn xe) W → (∀ cls d σ' H', E cls d H' → W cls d σ' H') →
      PE ((cxOf C8.CX0 X.prog X.w X.K X.mg X.base Ng x sg g cdg X.A X.stack s H C8.E0).tr pn xe) (.Call (.Name a p1) [] [] p2) (fun σZ HZ Q => σZ[0]? = some (some (.ref f)) ∧ HZ c' = some (LamX.CodeO c' q) ∧ tl E HZ Q)) →
    H c' = some (LamX.CodeO c' q) → TTold X.K F sv tl H Q →
    ∃ t, PSs (cxOf C8.CX0 X.prog X.w X.K X.mg X.base Ng x sg g cdg X.A X.stack s H C8.E0).nox bg t ∧ t { nx := fun _ H' => Q .non H', rt := Q } (L2.start Ng [.ref f]) H
theorem er_after {K : PySem.W.Frag} {ρ : En} {σ : L2.St} {H G H' G' : Hp} (er : ER K ρ σ H G) (e : Ext0 H G H' G') : ER K ρ σ H' G' ∧ Step ρ σ H G ρ σ H' G' := by
  refine ⟨⟨er.len, e.at0.sub, fun i d h => ?_, fun i io ds h => ?_, er.inj, er.raw, e.at0.tabs, e.at0.ng⟩, ⟨e.sg, fun b o hb nt _ => e.keep b o hb nt, e.there, fun b z => .inl z, fun i ds h => ⟨ds, h, rfl⟩, rfl⟩⟩
  · obtain ⟨v, h1, h2⟩ := er.pl i d h
    exact ⟨v, h1, dp_mono e.sg _ _ h2⟩
  · obtain ⟨a, vs, h1, h2, h3, h4⟩ := er.own i io ds h
    obtain ⟨k1, k2⟩ := e.keep a _ h3 (fun _ z => nomatch z)
    exact ⟨a, vs, h1, k2.trans h2, k1, dpAll_mono e.sg _ _ h4⟩
/-- x(lambda: body) -/
theorem v_told {x a : Str} {g c P : Addr} {k : Nat} {pg : Arguments} {bg : List Stmt} {sg : Scope} {dV kV doc pm cdv ct oc : Value} {an od : Option Addr} {osl : Array (Option Value)} {Ng : List Str} {F : Ex → Option D} {sn : D} {sv : V}
    {params : Arguments} {body : Expr} {scope : Scope} {f : AE} {p lpos pos : Pos} (hg : Gl X x) (hm : X.mg x = some (.ref g)) (hk : PySem.W.keepIn X.K (.ref g) = true)
    (lk : X.K.lookup g = some ⟨oc, od, .func (PySem.W.fnOf x x pg bg sg dV kV doc pm an cdv ct), osl⟩) (hcg : PySem.W.codeIn X.K cdv x = true) (hb : L2.Binds X.K (PySem.W.fnOf x x pg bg sg dV kV doc pm an cdv ct) [a] []) (Sg : FnScope Ng [a] sg) (hNg : Ng[0]? = some a) (hva : Vis sg a)
    (hG : GivesT X Ng x sg g cdv bg a (X.env.qual ++ "<lambda>") F sv) (hsv : ∀ G, Dp X.K G sv sn)
    (TB : LamX.TabB X.base X.mg c P) (hcode : X.env.code = .ref c) (hmT : (P, X.env.qual ++ "<lambda>") ∈ Tab.T) (hu : ∀ p ∈ Tab.T, p.1 = P → p.2 = X.env.qual ++ "<lambda>") (hr : Room (k + 2) X.A) (L : LamX.LamS X.env.scope scope) (hdef : defaultsOf params X.env = ([], []))
    (hbind : ∀ (q : Str) (cl : List (Str × Addr)) (pm cv ctv : Value), bindArgs (PySem.W.kla_fn "<lambda>" q params body scope cl pm cv ctv) ⟨[], []⟩ = pure [])
    (hbody : ∀ (A : Around) (outer : List Env) (s : Shared) (H : Hp) (E : XK) (f' c' : Addr), Room k (A.deeper (LamX.lamEnv X scope s.heap.objs.size f' c')) → L2N.Takes (SWH.lamN X A outer s H E scope f' c') (fun c d _ H' => E c d H') → EV (SWH.lamN X A outer s H E scope f' c') (fun c d _ H' => E c d H') body f)
    (hdb : (x == ("__debug__" : Str)) = false := by decide) (hd : (a == ("__debug__" : Str)) = false := by decide) (hcd : (a == ("__classdict__" : Str)) = false := by decide) :
    EV X E (.Call (.Name x p) [.Lambda params body scope lpos] [] pos) (aTold F sn f) := by
  refine ⟨fun pins s σ H Q I h => ?_⟩
  obtain ⟨ρ, G, er, h⟩ := h
  refine wpAny_Call_Name_kw (ld_glob I hg hm ?_ hdb)
  refine PySem.W.callWith_K (h₀ := X.base) I.ok.mod.kin hk ?_ (by rfl) (by rfl)
  show wpAny _ _ (spliced ((false, eval (.Lambda params body scope lpos) X.env) :: backTo pos (starEach [] X.env))) _ _ s
  refine Calls.spliced_cons (lam_make3 I TB hcode hmT hu er.tabs hdef (L.has I.ok) fun f1 c' pm' ctv H1 s' I1 eN th T1 hf hfn hfr hco => ?_)
  refine Calls.spliced_nil ⟨I1.kIn, ?_⟩
  obtain ⟨er1, st1⟩ := er_ext er eN th T1
  have h1 := Out.shift h st1
  have tt : TTold X.K F sv (fun E' H' Q' => tX X.K (fun c d _ H' => E' c d H') f σ H' Q') H1 Q := by
    refine ⟨ρ, G, er1, ?_⟩
    unfold aTold at h1
    cases q : f ρ with
    | ok d ρ' =>
      rw [q] at h1
      exact fun H2 G2 er2 s2 v dp => h1 H2 G2 er2 s2 _ (hsv G2)
    | err x ρ' =>
      rw [q] at h1
      dsimp only at h1
      cases q2 : F x with
      | none => rw [q2] at h1; exact h1.elim
      | some w' =>
        rw [q2] at h1
        exact fun cc dx H2 G2 er2 s2 ex => ⟨x, w', G2, ex, q2, ⟨er2.sub, er2.tabs, er2.ng⟩, fun H3 G3 e3 v dp => by
          obtain ⟨er3, s3⟩ := er_after er2 e3
          exact h1 H3 G3 er3 (s2.trans s3) v dp⟩
    | bad => rw [q] at h1; exact h1.elim
  have rc : codeAny (model X.prog X.w) X.A (.call (.ref g) ⟨[.ref f1], []⟩) (CR C8.CX0 X.stack X.prog X.w H1 s' Q C8.E0) s' := by
    refine LamX.run_ofS (N := Ng) (ps := [a]) (us := [.ref f1]) (vs := [.ref f1]) lk hcg Sg hr I1.env0 (hb s' [.ref f1] I1.kIn rfl) (.cons rfl .nil) rfl fun hr' => ?_
    obtain ⟨t', ht', hq'⟩ := hG f1 c' s' H1 Q (fun E' H' Q' => tX X.K (fun c d _ H' => E' c d H') f σ H' Q') (hr'.mono (Nat.zero_le _)) (fun W pn xe E' p1 p2 tk hW => SWH.act_n (i := 0) I1 L hf hfn hfr (hbind _ _ _ _ _) tk hW hr' (fun A outer s H hr2 => hbody A outer s H E' f1 c' hr2 (L2N.takes_of rfl rfl rfl rfl)) hNg hva hd hcd) hco tt
    exact ⟨t', ht'.nox, hq'⟩
  refine wpAny_call (codeAny_mono rc fun r s2 hq => ?_)
  cases r with
  | error e => exact (show False from hq).elim
  | ok fl =>
    cases fl with
    | ret u => exact I1.after hq
    | next => exact False.elim hq
    | brk => exact False.elim hq
    | cont => exact False.elim hq
end
end SW
set_option Elab.async false
set_option linter.all false
set_option maxRecDepth 100000
set_option maxHeartbeats 2000000
/-! SWTold: defs that tell what a call raises. -/
namespace SW
open PySem PySem.Spec PyProof.Rows L2
/-- isinstance(e, C), e the exception that is handled (slot i) -/
def eIsE (i : Nat) (c : Bool) : AE := fun ρ => match getSlot ρ i with
  | .raw _ => .ok (.bool c) ρ
  | _ => .bad
section
variable [Tab] {X : Cx} {oe : Obj} {pn : List (Addr × Obj)} {E : WX}
theorem v_isE {D CT : Addr} {c : Bool} {en C : Str} {p1 p2 p3 pos : Pos} (i : Nat) (xc : ExcC X.K D) (hz : Zc (.ref D) none oe) (hf : ∃ vs, oe.data = .fields vs) (hm : X.mg C = some (.ref CT)) (hk : PySem.W.kitOne X.K (.ref D) (.ref CT) = some c) (hmI : X.mg "isinstance" = none)
    (hgI : X.env.scope.names.lookup ("isinstance" : Str) = some .globalImplicit := by rfl) (hgC : X.env.scope.names.lookup C = some .globalImplicit := by rfl) (hN : X.N[i]? = some en := by rfl) (hv : Vis X.env.scope en := by first | exact .inl rfl | exact .inr (.inl rfl) | exact .inr (.inr rfl))
    (hd : (en == ("__debug__" : Str)) = false := by decide) (hcd : (en == ("__classdict__" : Str)) = false := by decide) (hdC : (C == ("__debug__" : Str)) = false := by decide) :
    EV (X.suite Tab.ad ((Tab.ad, oe) :: pn)) E (.Call (.Name "isinstance" p1) [.Name en p2, .Name C p3] [] pos) (eIsE i c) :=
  PE.imp (pe_callB (call_isE (X := X) (a := Tab.ad) (oe := oe) (pn := pn) xc hz hf) hgI hmI (by decide +kernel) (pa_cons (pe_var (X := X.suite Tab.ad ((Tab.ad, oe) :: pn)) (i := i) hN hv hd hcd) (pa_cons (pe_glob (X := X.suite Tab.ad ((Tab.ad, oe) :: pn)) (v := .ref CT) hgC hm rfl hdC) pa_nil))) fun σ H Q ⟨ρ, G, er, h⟩ => by
    unfold eIsE at h
    split at h
    · rename_i v e
      have hs := er.raw i v (getSlot_raw e)
      exact ⟨_, hs, .ref CT, .ref CT, c, rfl, fun u r => r, hk, h H G er .refl _ (.bl c)⟩
    · exact h.elim
end
/-- the slots where the suite begins -/
def suiteE (n i : Nat) : En := (List.replicate n .un).set i (.raw .non)
theorem at0_tab {T1 T2 : Tab} (e : T1.T = T2.T) {G H : Hp} (a : @At0 T1 G H) : @At0 T2 G H :=
  @At0.mk T2 G H (@At0.sub T1 G H a) (@TabOk.mk T2 H (by rw [← e]; exact @TabOk.ok T1 H (@At0.tabs T1 G H a))) (@At0.ng T1 G H a)
theorem set_getS {ρ : En} {i j : Nat} {v w : SV} (h : (ρ.set i v)[j]? = some w) : (j = i ∧ w = v) ∨ ρ[j]? = some w := by
  by_cases e : j = i
  · subst e
    by_cases hl : j < ρ.length
    · rw [List.getElem?_set_self hl] at h
      exact .inl ⟨rfl, (Option.some.inj h).symm⟩
    · rw [List.getElem?_eq_none (by simpa using hl)] at h
      cases h
  · rw [List.getElem?_set_ne (Ne.symm e)] at h
    exact .inr h
theorem er_suite {T0 : List (Addr × Str)} {ad : Addr} {K : PySem.W.Frag} {n i : Nat} {σ : L2.St} {H G : Hp} (hl : σ.length = n) (hs : σ[i]? = some (some (.ref ad))) (a : @At0 ⟨T0, ad⟩ G H) : @ER ⟨T0, ad⟩ K (suiteE n i) σ H G := by
  have none : ∀ {j : Nat} {s : SV}, (suiteE n i)[j]? = some s → s = .un ∨ (j = i ∧ s = .raw .non) := fun {j s} e => by
    unfold suiteE at e
    rcases set_getS e with ⟨h1, h2⟩ | e
    · exact .inr ⟨h1, h2⟩
    · rw [List.getElem?_replicate] at e
      split at e
      · exact .inl (Option.some.inj e).symm
      · cases e
  refine @ER.mk ⟨T0, ad⟩ _ _ _ _ _ (by unfold suiteE; simp [hl]) (@At0.sub ⟨T0, ad⟩ G H a) (fun j d e => ?_) (fun j io ds e => ?_) (fun j k io ds io' ds' b e => ?_) (fun j v e => ?_) (@At0.tabs ⟨T0, ad⟩ G H a) (@At0.ng ⟨T0, ad⟩ G H a)
  · rcases none e with z | ⟨_, z⟩ <;> cases z
  · rcases none e with z | ⟨_, z⟩ <;> cases z
  · rcases none e with z | ⟨_, z⟩ <;> cases z
  · rcases none e with z | ⟨h1, _⟩
    · cases z
    · rw [h1]; exact hs
variable [Tab]
section
variable {X : Cx} {x a en eS q : Str} {sg : Scope} {g CS : Addr} {cdg : Value} {F : Ex → Option D} {Ng : List Str} {bs : Ex → AS} {sv : V}
/-- try: a() / except eS as en: suite / return sn -/
theorem gives_suite {i : Nat} {snE : Expr} {s0 : Stmt} {suite : List Stmt} {p1 p2 p3 p4 p13 p14 p16 : Pos} (hgS : sg.names.lookup eS = some .globalImplicit) (hmS : X.mg eS = some (.ref CS)) (hen : sg.names.lookup en = some .local) (hnd : Ng.Nodup) (hi : Ng[i]? = some en) (h0 : Ng[0]? = some a) (hi0 : i ≠ 0)
    (hsn : ∀ {X' : Cx}, PE X' snE (fun _ H Q => Q sv H))
    (hF : ∀ x d, F x = some d → x.fs = [] ∧ PySem.W.exmOne X.K (.ref (He.ga X.K x.cls)) (.ref CS) = some true ∧ ExcC X.K (He.ga X.K x.cls) ∧ ∃ ρ', bs x (suiteE Ng.length i) = .ok (.rt d) ρ')
    (hsuite : ∀ (s : Shared) (H : Hp) (ad : Addr) (oe : Obj) (pn : List (Addr × Obj)) (y : Ex) (d : D), F y = some d → L2N.Zn (.ref (He.ga X.K y.cls)) none oe → (∃ vs, oe.data = .fields vs) → Room 0 (X.A.deeper (envOfC x sg s.heap.objs.size g cdg)) →
      @SSs ⟨Tab.T, ad⟩ ((cxOf C8.CX0 X.prog X.w X.K X.mg X.base Ng x sg g cdg X.A X.stack s H C8.E0).nox.suite ad ((ad, oe) :: pn)) noE (s0 :: suite) (bs y))
    (dS : (eS == ("__debug__" : Str)) = false := by decide) (dE : (en == ("__debug__" : Str)) = false := by decide) (dC : (en == ("__classdict__" : Str)) = false := by decide) :
    GivesT X Ng x sg g cdg [.Try [.Expr (.Call (.Name a p1) [] [] p2) p3] [.ExceptHandler (some (.Name eS p4)) (some en) (s0 :: suite) p13] [] [] p14, .Return (some snE) p16] a q F sv := by
  intro f c' s H Q tl hr act hc h
  have hgl : ∀ {y : Str}, sg.names.lookup y = some .globalImplicit → Gl (cxOf C8.CX0 X.prog X.w X.K X.mg X.base Ng x sg g cdg X.A X.stack s H C8.E0).nox y := fun z => z
  let ts : Addr → Value → Option Addr → TS := fun ad cls d => fun Dn σ H => ∃ (y : Ex) (dd : D) (G : Hp), cls = .ref (He.ga X.K y.cls) ∧ d = none ∧ F y = some dd ∧ At0 G H ∧ (∃ σ0, σ = List.set σ0 i (some (V.ref ad))) ∧ ∀ H'' G'', Ext0 H G H'' G'' → ∀ v, Dp X.K G'' v dd → Dn.rt v H''
  refine ⟨_, pss_cons (L2N.ps_try_as (X := (cxOf C8.CX0 X.prog X.w X.K X.mg X.base Ng x sg g cdg X.A X.stack s H C8.E0).nox) (c := .ref CS) (i := i) (ts := ts)
      (tb := fun W D σ H => ∃ Ech : XK, (∀ cls d σ' H', Ech cls d H' → W cls d σ' H') ∧ σ[0]? = some (some (.ref f)) ∧ H c' = some (LamX.CodeO c' q) ∧ tl Ech H (fun _ H' => D.nx σ H'))
      rfl rfl hnd hi hen ⟨hgl hgS, dS, .inl hmS⟩ SWH.takes0 (fun W pn xe tk _ => ?_) (fun ad oe cls d pn hz hf => ?_)) (pss_one (ps_ret hsn)), ?_⟩
  · refine ⟨fun pins s' σ H' D I h' => ?_⟩
    obtain ⟨Ech, hW, h1, h2, h3⟩ := h'
    have hp := act W pn xe Ech p1 p2 tk hW
    exact (pss_one (ps_expr (pos := p3) hp)).run pins s' σ H' D I ⟨h1, h2, h3⟩
  · refine ⟨fun pins s' σ H' Dn I h' => ?_⟩
    obtain ⟨y, dd, G, rfl, rfl, hy, at0, ⟨σ0, rfl⟩, hend⟩ := h'
    have hl : (List.set σ0 i (some (V.ref ad))).length = Ng.length := I.len
    have hs : (List.set σ0 i (some (V.ref ad)))[i]? = some (some (V.ref ad)) := List.getElem?_set_self (by rw [List.length_set] at hl; rw [hl]; exact (List.getElem?_eq_some_iff.mp hi).1)
    obtain ⟨_, _, _, ρ', hρ⟩ := hF y dd hy
    refine (hsuite s H ad oe pn y dd hy hz hf hr).run pins s' _ H' Dn I ?_
    refine ⟨suiteE Ng.length i, G, er_suite (T0 := Tab.T) hl hs (at0_tab (T1 := ‹Tab›) (T2 := ⟨Tab.T, ad⟩) rfl at0), ?_⟩
    rw [hρ]
    intro σ2 H2 G2 er2 st v dp
    refine hend H2 G2 ⟨st.sg, fun b o hb nt => st.keep b o hb nt fun ⟨j, io, ds, e, _⟩ => ?_, st.there, at0_tab (T1 := ⟨Tab.T, ad⟩) (T2 := ‹Tab›) rfl (@At0.mk ⟨Tab.T, ad⟩ G2 H2 (@ER.sub ⟨Tab.T, ad⟩ _ _ _ _ _ er2) (@ER.tabs ⟨Tab.T, ad⟩ _ _ _ _ _ er2) (@ER.ng ⟨Tab.T, ad⟩ _ _ _ _ _ er2))⟩ v dp
    unfold suiteE at e
    rcases set_getS e with ⟨_, z⟩ | e
    · cases z
    · rw [List.getElem?_replicate] at e
      split at e
      · cases e
      · cases e
  · refine ⟨fun cls dx H' => ∃ y dd G', ExR X.K y cls dx H' ∧ F y = some dd ∧ At0 G' H' ∧ ∀ H'' G'', Ext0 H' G' H'' G'' → ∀ v, Dp X.K G'' v dd → Q v H'', fun cls d σ' H' ⟨y, dd, G', ex, e1, at0, e2⟩ => ?_, ?_, hc, h⟩
    · obtain ⟨f1, f2, f3, ρ', f4⟩ := hF y dd e1
      exact ⟨true, by rw [ex.cls]; exact f2, fun _ ad _ => ⟨y, dd, G', ex.cls, ex.none f1, e1, at0, ⟨σ', rfl⟩, e2⟩, fun z => nomatch z⟩
    · have l0 : 0 < Ng.length := (List.getElem?_eq_some_iff.mp h0).1
      unfold L2.start
      cases Ng with
      | nil => cases l0
      | cons n r => rfl
end
end SW
set_option Elab.async false
set_option linter.all false
set_option maxRecDepth 100000
set_option maxHeartbeats 2000000
/-! SWSort: sorted of ints, index, in. -/
namespace SrtO
open PySem PyProof.Rows Srt
section
variable {prog : Program} {w : World} {A : Around} {E : Value → Shared → Prop} {s : Shared}
theorem sw_collect_tup {l : Addr} {vs : List Value} {Q : List Value → Shared → Prop} (hl : IsTup s.heap l vs.toArray)
    (h : Q vs { s with heap := (s.heap.push (seqObj "list" #[] 0)).update s.heap.objs.size (Obj.mapSeq (· ++ vs.toArray)) }) (hsz : vs.length ≤ sizeLine) :
    wpAny (model prog w) A (collect (.ref l)) Q E s := by
  obtain ⟨o, ho, hc, n, hd⟩ := id hl
  unfold collect
  refine wpAny_bind (wpAny_runValue (codeAny_builtin entry_proto_collect' ?_))
  show wpAny _ _ (do again (.builtin "list.__iadd__" ⟨[← newList [], .ref l], []⟩)) _ _ s
  refine wpAny_bind (wpAny_newList (wpAny_pure ⟨Code.quiet_builtin _ (by decide +kernel), codeAny_builtin entry_list_iadd' ?_⟩))
  show wpAny _ _ (Builtin.List.listExtendWith (.ref s.heap.objs.size) (.ref l) (.ref s.heap.objs.size)) _ _ { s with heap := s.heap.push (seqObj "list" #[] 0) }
  unfold Builtin.List.listExtendWith
  have ho' : (s.heap.push (seqObj "list" #[] 0)).get? l = some o := Heap.get?_push_of_some _ ho
  refine wpAny_bind (wpAny_typeOf (T := "tuple") ⟨o, ho', hc⟩ ?_)
  have ht : (Value.type "tuple" == Value.type "tuple") = true := by rfl
  rw [if_pos (by rw [ht]; simp)]
  refine wpAny_bind (listItems_at ho' hd ?_)
  refine wpAny_bind (listItems_at (xs := #[]) (n := 0) (Heap.get?_push_size _ rfl) rfl ?_)
  rw [if_neg (by simp)]
  refine wpAny_bind (listUpdate_at (xs := #[]) (n := 0) (Heap.get?_push_size _ rfl) rfl ?_ (Nat.zero_le _) (by show (#[] ++ vs.toArray).size ≤ sizeLine + 1; simp only [Array.size_append, List.size_toArray, List.length_nil]; omega))
  refine wpAny_pure ?_
  show wpAny (model prog w) A (do
      let o ← load s.heap.objs.size
      match o.data with
      | .seq xs _ => pure xs.toList
      | _ => unsupported "internal:collect") Q E { s with heap := (s.heap.push (seqObj "list" #[] 0)).update s.heap.objs.size (Obj.mapSeq (· ++ vs.toArray)) }
  refine wpAny_bind (wpAny_load (get?_update_seq (Heap.get?_push_size _ rfl) _) ?_)
  show wpAny _ _ (pure ((#[] : Array Value) ++ vs.toArray).toList) Q E _
  rw [show ((#[] : Array Value) ++ vs.toArray).toList = vs by simp]
  exact wpAny_pure h
theorem sw_sorted_tup {l : Addr} {vs : List Value} {ltv : Value → Value → Bool} {Q : Value → Shared → Prop} (O : Swo ltv) (hl : IsTup s.heap l vs.toArray) (hz : vs.length ≤ sizeLine)
    (hS : 2 ≤ vs.length → ∀ (h₁ : Heap) (a : Addr), h₁.get? a = some (seqObj "list" vs.toArray 0) → (∀ b o, s.heap.get? b = some o → b ≠ a ∧ h₁.get? b = some o) → SortableO prog w A.in1.in1 { s with heap := h₁ } a vs ltv)
    (h : ∀ out : List Value, Srtd ltv out → Stb ltv out vs → Q (.ref (s.heap.objs.size + 1)) { s with heap := sortedAll s.heap vs out.toArray }) :
    wpAny (model prog w) A (call (.builtin "sorted") [.ref l]) Q E s := by
  refine Calls.call_function_entry kind_sorted plain_sorted entry_sorted (args_sorted1 _) ?_
  unfold Builtin.«sorted»
  refine wpAny_bind (m := checkCount "sorted" 1 1 _) (wpAny_pure ?_)
  refine wpAny_bind (sw_collect_tup hl ?_ hz)
  refine wpAny_bind (wpAny_newList ?_ hz)
  have hsz : ((s.heap.push (seqObj "list" #[] 0)).update s.heap.objs.size (Obj.mapSeq (· ++ vs.toArray))).objs.size = s.heap.objs.size + 1 := by
    rw [Heap.size_update, size_push']
  have hoL : (((s.heap.push (seqObj "list" #[] 0)).update s.heap.objs.size (Obj.mapSeq (· ++ vs.toArray))).push (seqObj "list" vs.toArray 0)).get? (s.heap.objs.size + 1) = some (seqObj "list" vs.toArray 0) := by
    rw [← hsz]; exact Heap.get?_push_size _ rfl
  have keep : ∀ b o, s.heap.get? b = some o → b ≠ s.heap.objs.size + 1 ∧ (((s.heap.push (seqObj "list" #[] 0)).update s.heap.objs.size (Obj.mapSeq (· ++ vs.toArray))).push (seqObj "list" vs.toArray 0)).get? b = some o := fun b o q => by
    have hlt : b < s.heap.objs.size := Heap.lt_size q
    refine ⟨Nat.ne_of_lt (Nat.lt_succ_of_lt hlt), Heap.get?_push_of_some _ ?_⟩
    rw [Heap.get?_update_ne _ _ _ _ (Nat.ne_of_lt hlt)]
    exact Heap.get?_push_of_some _ q
  show wpAny _ _ _ _ _ { s with heap := ((s.heap.push (seqObj "list" #[] 0)).update s.heap.objs.size (Obj.mapSeq (· ++ vs.toArray))).push (seqObj "list" vs.toArray 0) }
  rw [hsz]
  refine wpAny_bind (wpAny_holding (wpAny_call_entry slot_list_sort ⟨_, hoL, rfl⟩ entry_list_sort (list_sort_ord O hoL hz (fun h2 => hS h2 _ _ hoL keep) fun out hs hb => ⟨_, rfl, ?_⟩) (args_list_sort _)))
  exact wpAny_pure ⟨_, rfl, h out hs hb⟩
end
end SrtO
namespace SW
open PySem PySem.Spec PyProof.Rows L2
def rSortedT (K : PySem.W.Frag) : List V → Hp → VK → Prop := fun vs H Q => ∃ (a : Addr) (ns : List Int), vs = [V.ref a] ∧ SqT K H a (ns.map V.int) ∧
  ∀ (ns' : List Int) (p : Addr), ns'.Perm ns → ns'.Pairwise (· ≤ ·) → H p = none → Q (.ref p) (upd H p (.lst (ns'.map V.int)))
theorem cr_sortedT {X : Cx} : CallR X (.builtin "sorted") (rSortedT X.K) := by
  intro pins s σ H vs us Q I r h
  obtain ⟨a, ns, rfl, hs, q⟩ := h
  obtain ⟨its, rv, hl, hz⟩ := I.tuple hs
  rw [Vals.ref1 r]
  have hi := rv.ints
  refine SrtO.sw_sorted_tup SrtO.swo_int hl (by rw [← rv.length]; exact hz) (fun h2 h₁ a' _ _ => SrtO.ints_sortable hi h2) fun out h1 h2 => ?_
  obtain ⟨k1, k2, k3⟩ := SrtO.ints_out hi h1 h2
  obtain ⟨ep, he'⟩ := PyProof.Rows.sortedAll_at s.heap its out.toArray
  have hlen : ((out.map SrtO.iv).map V.int).length ≤ sizeLine := by
    rw [List.length_map, k2.length_eq]
    rw [List.length_map] at hz
    exact hz
  exact ⟨.ref _, upd H (s.heap.objs.size + 1) (.lst ((out.map SrtO.iv).map V.int)), I.laid (t' := s.toks) (fun _ _ => PyProof.Rows.sortedAll_old) (Nat.le_succ _) ⟨hlen, out, ep, vals_of_ints k1, he'⟩, rfl, q _ _ k2 k3 (I.hok.fresh (Nat.le_succ _))⟩
/-- insertion -/
def insI (x : Int) : List Int → List Int
  | [] => [x]
  | y :: r => if x ≤ y then x :: y :: r else y :: insI x r
def isort : List Int → List Int
  | [] => []
  | x :: r => insI x (isort r)
theorem insI_perm (x : Int) : ∀ l : List Int, (insI x l).Perm (x :: l)
  | [] => .refl _
  | y :: r => by
    unfold insI
    split
    · exact .refl _
    · exact ((insI_perm x r).cons y).trans (.swap x y r)
theorem isort_perm : ∀ l : List Int, (isort l).Perm l
  | [] => .refl _
  | x :: r => (insI_perm x (isort r)).trans ((isort_perm r).cons x)
theorem insI_sorted (x : Int) : ∀ l : List Int, l.Pairwise (· ≤ ·) → (insI x l).Pairwise (· ≤ ·)
  | [], _ => by unfold insI; exact List.pairwise_singleton _ _
  | y :: r, h => by
    obtain ⟨h1, h2⟩ := List.pairwise_cons.mp h
    unfold insI
    split
    · rename_i hxy
      refine List.pairwise_cons.mpr ⟨fun z hz => ?_, h⟩
      rcases List.mem_cons.mp hz with rfl | hz
      · exact hxy
      · exact Int.le_trans hxy (h1 z hz)
    · rename_i hxy
      refine List.pairwise_cons.mpr ⟨fun z hz => ?_, insI_sorted x r h2⟩
      rcases List.mem_cons.mp ((insI_perm x r).mem_iff.mp hz) with rfl | hz
      · omega
      · exact h1 z hz
theorem isort_sorted : ∀ l : List Int, (isort l).Pairwise (· ≤ ·)
  | [] => .nil
  | x :: r => insI_sorted x _ (isort_sorted r)
theorem isort_eq {l m : List Int} (hp : m.Perm l) (hs : m.Pairwise (· ≤ ·)) : m = isort l := PySem.W.ksm_same (hp.trans (isort_perm l).symm) hs (isort_sorted l)
variable [Tab]
def F_sorted : List D → Option D
  | [.list xs] => (match intsOf xs with
    | some ns => some (.list ((isort ns).map .int))
    | none => none)
  | [.tuple xs] => (match intsOf xs with
    | some ns => some (.list ((isort ns).map .int))
    | none => none)
  | _ => none
def rSortedA (K : PySem.W.Frag) : List V → Hp → VK → Prop := fun vs H Q => rSortedI K vs H Q ∨ rSortedT K vs H Q
theorem cl_sorted {X : Cx} : CallR X (.builtin "sorted") (rSortedA X.K) := cr_sortedI.or cr_sortedT
theorem s_sorted {K : PySem.W.Frag} : OpS K (rSortedA K) F_sorted := fun vs ds d G H Q s b e q => by
  unfold F_sorted at e
  split at e
  · split at e
    · rename_i ns eb
      cases e
      obtain ⟨x, rfl, bx⟩ := dpbs1 b
      obtain ⟨a1, v1, rfl, h1, d1⟩ := bx.list s
      rw [intsOf_ok eb] at d1
      rw [d1.ints] at h1
      refine .inl ⟨a1, ns, rfl, h1, fun ns' p hp hs hn => ?_⟩
      rw [isort_eq hp hs]
      exact q _ _ _ (.new p _ .refl hn) (.lst (.inl (.inl upd_same)) (DpAll.of_ints _))
    · cases e
  · split at e
    · rename_i ns eb
      cases e
      obtain ⟨x, rfl, bx⟩ := dpbs1 b
      obtain ⟨a1, v1, rfl, h1, d1⟩ := bx.tup s
      rw [intsOf_ok eb] at d1
      rw [d1.ints] at h1
      refine .inr ⟨a1, ns, rfl, h1, fun ns' p hp hs hn => ?_⟩
      rw [isort_eq hp hs]
      exact q _ _ _ (.new p _ .refl hn) (.lst (.inl (.inl upd_same)) (DpAll.of_ints _))
    · cases e
  · cases e
/-! ### index -/
def findD (d : D) : List D → Nat → Option Nat
  | [], _ => none
  | z :: r, i => if PyData.eqv z d = true then some i else findD d r (i + 1)
theorem findD_ok {d : D} : ∀ {ds : List D} {i j : Nat}, findD d ds i = some j → ∃ k z, j = i + k ∧ ds[k]? = some z ∧ PyData.eqv z d = true ∧ ∀ (m : Nat) (z' : D), m < k → ds[m]? = some z' → PyData.eqv z' d = false
  | [], _, _, h => by cases h
  | z :: r, i, j, h => by
    unfold findD at h
    split at h
    · rename_i hz
      cases h
      exact ⟨0, z, rfl, rfl, hz, fun m z' hm _ => by omega⟩
    · rename_i hz
      obtain ⟨k, z1, e1, e2, e3, e4⟩ := findD_ok h
      refine ⟨k + 1, z1, by omega, by simpa using e2, e3, fun m z' hm hz' => ?_⟩
      cases m with
      | zero =>
        have : z = z' := by simpa using hz'
        rw [← this]
        cases q : PyData.eqv z d with
        | false => rfl
        | true => exact (hz q).elim
      | succ m => exact e4 m z' (by omega) (by simpa using hz')
def F_index : List D → Option D
  | [.list ds, d] => if (SeqAt.shaped (.list ds) && SeqAt.shaped d) = true then (match findD d ds 0 with
    | some j => some (.int (j : Nat))
    | none => none) else none
  | [.tuple ds, d] => if (SeqAt.shaped (.tuple ds) && SeqAt.shaped d) = true then (match findD d ds 0 with
    | some j => some (.int (j : Nat))
    | none => none) else none
  | _ => none
def rIndexT (K : PySem.W.Frag) : V → List V → Hp → VK → Prop := fun x xs H Q => ∃ (a : Addr) (y : V) (d : PyData) (ds : List PyData) (j : Nat) (z : PyData), x = V.ref a ∧ xs = [y] ∧ Dp K H (V.ref a) (.tuple ds) ∧ Dp K H y d ∧
  SeqAt.shaped (.tuple ds) = true ∧ SeqAt.shaped d = true ∧ ds[j]? = some z ∧ PyData.eqv z d = true ∧ (∀ (m : Nat) (z' : PyData), m < j → ds[m]? = some z' → PyData.eqv z' d = false) ∧ Q (.int (j : Nat)) H
theorem shaped_tl {ds : List D} (h : SeqAt.shaped (.tuple ds) = true) : SeqAt.shaped (.list ds) = true := h
theorem mt_indexT {X : Cx} (hu : X.A.units + 65 < cLine) : MtR X "tuple.index" (rIndexT X.K) := by
  intro pins s σ H x xs v us Q I rx rxs h
  obtain ⟨a, y, d, ds, j, z, rfl, rfl, hl, hy, sl, sd, hz, hzj, hno, q⟩ := h
  cases rx
  cases rxs with
  | cons ry rt =>
    rename_i uy ut
    cases rt
    obtain ⟨bs, r1⟩ := Dp.reads I d y uy hy ry
    have hxs : PyData.canLayAll0 ds = true := SeqAt.canLay_of_shaped (shaped_tl sl)
    have hroom : X.A.units + 1 + min (PyData.depthAll ds) d.depth < cLine := room_in_shaped sd hu
    cases hl with
    | tup hs ha =>
      obtain ⟨its, rv, ⟨⟨cls, dd, data, sls⟩, ho, hc, n, hdt⟩, hlen⟩ := I.tuple hs
      simp only at hc hdt
      subst hc hdt
      obtain ⟨as, h4⟩ := Dp.readsAll I ds _ its ha rv
      have hn : its.length = ds.length := SeqAt.ReadsAll.length ds its as h4
      have hmap : its.map (SeqAt.readOf s.heap) = ds := SeqAt.readsAll_map ds its as hxs h4
      obtain ⟨hjd, _⟩ := List.getElem?_eq_some_iff.mp hz
      have hjl : j < its.length := by omega
      have hj : j < its.toArray.size := by simpa using hjl
      have at_ : ∀ (m : Nat) (hm : m < its.toArray.size) (z' : PyData), ds[m]? = some z' → SeqAt.readOf s.heap its.toArray[m] = z' := by
        intro m hm z' hz'
        have hml : m < its.length := by simpa using hm
        rw [← hmap, List.getElem?_map, List.getElem?_eq_getElem hml] at hz'
        have e1 : SeqAt.readOf s.heap its[m] = z' := Option.some.inj (show some (SeqAt.readOf s.heap its[m]) = some z' from hz')
        simpa using e1
      refine call_meets PySem.F.slot_tuple_index ⟨_, ho, rfl⟩ PySem.F.entry_tuple_index (PySem.F.args_tuple_index_2 _ _)
        (TI.tuple_indexAt a its.toArray n dd sls uy (fun u => PyData.eqv (SeqAt.readOf s.heap u) d) j hj ?_ ?_) ⟨ho, SeqAt.items_eqAt (vs := its.toArray) (show ReadsAll s.heap its.toArray.toList ds as from h4) r1 hxs (SeqAt.canLay_of_shaped sd) hroom, ?_⟩
      · show PyData.eqv (SeqAt.readOf s.heap its.toArray[j]) d = true
        rw [at_ j hj z hz]
        exact hzj
      · intro m hm hmj
        have hmd : m < ds.length := by omega
        have hz' : ds[m]? = some ds[m] := List.getElem?_eq_getElem hmd
        show PyData.eqv (SeqAt.readOf s.heap its.toArray[m]) d = false
        rw [at_ m hm _ hz']
        exact hno m _ hmj hz'
      · exact ⟨.int (j : Nat), H, I.tok _, ⟨_, rfl⟩, q⟩
/-- o.m(e): a method of one kind of thing -/
def hasTy : Ty → D → Bool
  | .list, .list _ => true
  | .tuple, .tuple _ => true
  | .str, .str _ => true
  | _, _ => false
def aMeth (ty : Ty) (F : List D → Option D) (o : Opd) (os : List Opd) : AE := fun ρ => (o.ev ρ).bind fun ov ρ1 => match ov.get ρ1 with
  | some d => if hasTy ty d = true then (evs os ρ1).bind fun vs ρ2 => (match getAll ρ2 (ov :: vs) with
    | some ds => (match F ds with
      | some d => .ok d ρ2
      | none => .bad)
    | none => .bad) else .bad
  | none => .bad
end SW
set_option Elab.async false
set_option linter.all false
set_option maxRecDepth 100000
set_option maxHeartbeats 2000000
/-! SWMeth: methods, in, pairs of names. -/
namespace SW
open PySem PySem.Spec PyProof.Rows L2
variable [Tab]
/-- the row's own tuples have no dict -/
def KTup (K : PySem.W.Frag) : Prop := ∀ a o, K.lookup a = some o → o.cls = .type "tuple" → o.dict = none
theorem tyV_of {K : PySem.W.Frag} {G H : Hp} {v : V} {d : D} {ty : Ty} (kt : KTup K) (ng : ∀ b o, G b = some o → goodO o) (s : Same G H) (h : DpB K G H v d) (ht : hasTy ty d = true) : tyV2 K ty.nm v H := by
  cases ty with
  | list =>
    cases d with
    | list ds =>
      obtain ⟨a, vs, rfl, h1, _⟩ := h.list s
      exact .inl (.inl ⟨rfl, _, h1⟩)
    | _ => cases ht
  | tuple =>
    cases d with
    | tuple ds =>
      rcases h with h | ⟨_, _, _, _, e, _⟩
      · cases h with
        | tup hs ha =>
          rcases hs with (h | ⟨ob, h⟩) | ⟨ob, its, n, k, c, _⟩
          · exact (ng _ _ h).elim
          · exact .inr ⟨rfl, _, ob, rfl, ng _ _ h, .inl ⟨_, s _ _ h⟩⟩
          · exact .inr ⟨rfl, _, ob, rfl, kt _ _ k c, .inr ⟨k, c⟩⟩
      · cases e
    | _ => cases ht
  | str =>
    cases d with
    | str z =>
      rw [h.str]
      exact .inl rfl
    | _ => cases ht
  | _ => cases d <;> cases ht
section
variable {X : Cx} {E : WX} {o e : Expr} {es : List Expr} {oo : Opd} {os : List Opd} {name : Str} {apos cpos : Pos} {id : String} {r : V → List V → Hp → VK → Prop} {F : List D → Option D} {ty : Ty}
theorem v_meth (kt : KTup X.K) (pa : PlainAttrs ty.nm) (slot : Slot ty.nm name id) (hty : typeOf (.builtin id) = pure (.type "method_descriptor")) (hm : MtR X id r) (hs : OpS X.K (fun vs H Q => ∃ x xs, vs = x :: xs ∧ r x xs H Q) F) (ho : EO X E o oo) (ha : EOs X E (e :: es) os)
    (hbase : attributeBase o name X.env (eval o X.env) = eval o X.env := by rfl)
    (hfew : ((backTo cpos (starEach (e :: es) X.env)).all (fun x => !x.1) && (backToKw cpos (keywordEach [] X.env)).all (fun x => x.1.isSome)
      && decide ((e :: es).length + ([] : List Keyword).length + (if ([] : List Keyword).isEmpty then 0 else 1) < 30)) = true := by rfl)
    (hline : (apos.endLine == cpos.line) = true := by rfl) (hs1 : starEach (e :: es) X.env = (false, eval e X.env) :: starEach es X.env := by rfl) (hplain : (backTo cpos (starEach es X.env)).any (·.1) = false := by rfl) :
    EV X E (.Call (.Attribute o name apos) (e :: es) [] cpos) (aMeth ty F oo os) :=
  PE.imp (pe_bm2 pa slot hty hm ho ha hbase hfew hline hs1 hplain) fun σ H Q ⟨ρ, G, er, h⟩ => opd_step er h fun v ov ρ1 H1 G1 er1 s1 rel h1 => by
    cases q : ov.get ρ1 with
    | none => rw [q] at h1; exact h1.elim
    | some d =>
      rw [q] at h1
      dsimp only at h1
      split at h1
      · rename_i ht
        refine ⟨tyV_of kt er1.ng er1.sub (rel.get er1 q) ht, evs_step er1 h1 fun vs ovs ρ2 H2 G2 er2 s2 rels h2 => ?_⟩
        obtain ⟨x, xs, e1, e2⟩ := ops_end hs er2 (vs := v :: vs) (ovs := ov :: ovs) (.cons (rel.mono s2.sg) rels) h2
        cases e1
        exact e2
      · exact h1.elim
end
/-! ### index -/
def F_idxT : List D → Option D
  | [.tuple xs, d] => F_index [.tuple xs, d]
  | _ => none
def F_idxL : List D → Option D
  | [.list xs, d] => F_index [.list xs, d]
  | _ => none
theorem s_indexT {K : PySem.W.Frag} : OpS K (fun vs H Q => ∃ x xs, vs = x :: xs ∧ rIndexT K x xs H Q) F_idxT := fun vs ds d G H Q s b e q => by
  unfold F_idxT at e
  split at e
  · rename_i xs y
    unfold F_index at e
    dsimp only at e
    split at e
    · rename_i hz
      obtain ⟨h1, h2⟩ := Bool.and_eq_true_iff.mp hz
      split at e
      · rename_i j hj
        cases e
        obtain ⟨v, u, rfl, bx, byy⟩ := dpbs2 b
        obtain ⟨k, z, e1, e2, e3, e4⟩ := findD_ok hj
        have : j = k := by omega
        subst this
        obtain ⟨a, us, rfl, _⟩ := bx.tup s
        exact ⟨_, _, rfl, a, u, y, xs, j, z, rfl, rfl, bx.deep s, byy.deep s, h1, h2, e2, e3, e4, q _ H G .refl (.int _)⟩
      · cases e
    · cases e
  · cases e
theorem s_indexL {K : PySem.W.Frag} : OpS K (fun vs H Q => ∃ x xs, vs = x :: xs ∧ rIndexD K x xs H Q) F_idxL := fun vs ds d G H Q s b e q => by
  unfold F_idxL at e
  split at e
  · rename_i xs y
    unfold F_index at e
    dsimp only at e
    split at e
    · rename_i hz
      obtain ⟨h1, h2⟩ := Bool.and_eq_true_iff.mp hz
      split at e
      · rename_i j hj
        cases e
        obtain ⟨v, u, rfl, bx, byy⟩ := dpbs2 b
        obtain ⟨k, z, e1, e2, e3, e4⟩ := findD_ok hj
        have : j = k := by omega
        subst this
        obtain ⟨a, us, rfl, _⟩ := bx.list s
        exact ⟨_, _, rfl, a, u, y, xs, j, z, rfl, rfl, bx.deep s, byy.deep s, h1, h2, e2, e3, e4, q _ H G .refl (.int _)⟩
      · cases e
    · cases e
  · cases e
section
variable {X : Cx} {E : WX} {o e : Expr} {oo o1 : Opd} {apos cpos : Pos} {k : Nat}
theorem v_indexT (kt : KTup X.K) (hr : Room k X.A) (ho : EO X E o oo) (ha : EO X E e o1)
    (hbase : attributeBase o "index" X.env (eval o X.env) = eval o X.env := by rfl)
    (hfew : ((backTo cpos (starEach [e] X.env)).all (fun x => !x.1) && (backToKw cpos (keywordEach [] X.env)).all (fun x => x.1.isSome)
      && decide ([e].length + ([] : List Keyword).length + (if ([] : List Keyword).isEmpty then 0 else 1) < 30)) = true := by rfl)
    (hline : (apos.endLine == cpos.line) = true := by rfl) (hs1 : starEach [e] X.env = (false, eval e X.env) :: starEach [] X.env := by rfl) (hplain : (backTo cpos (starEach [] X.env)).any (·.1) = false := by rfl) :
    EV X E (.Call (.Attribute o "index" apos) [e] [] cpos) (aMeth .tuple F_idxT oo [o1]) :=
  v_meth kt PySem.F.plainAttrs_tuple PySem.F.slot_tuple_index rfl (mt_indexT (by have := hr.un; omega)) s_indexT ho (vs_cons ha vs_nil hs1) hbase hfew hline hs1 hplain
theorem v_indexL (kt : KTup X.K) (hr : Room k X.A) (ho : EO X E o oo) (ha : EO X E e o1)
    (hbase : attributeBase o "index" X.env (eval o X.env) = eval o X.env := by rfl)
    (hfew : ((backTo cpos (starEach [e] X.env)).all (fun x => !x.1) && (backToKw cpos (keywordEach [] X.env)).all (fun x => x.1.isSome)
      && decide ([e].length + ([] : List Keyword).length + (if ([] : List Keyword).isEmpty then 0 else 1) < 30)) = true := by rfl)
    (hline : (apos.endLine == cpos.line) = true := by rfl) (hs1 : starEach [e] X.env = (false, eval e X.env) :: starEach [] X.env := by rfl) (hplain : (backTo cpos (starEach [] X.env)).any (·.1) = false := by rfl) :
    EV X E (.Call (.Attribute o "index" apos) [e] [] cpos) (aMeth .list F_idxL oo [o1]) :=
  v_meth kt PySem.F.plainAttrs_list PySem.F.slot_list_index rfl (mt_indexD (by have := hr.un; omega)) s_indexL ho (vs_cons ha vs_nil hs1) hbase hfew hline hs1 hplain
end
/-! ### in -/
def flatD : D → Bool
  | .none => true
  | .bool _ => true
  | .int _ => true
  | .str _ => true
  | _ => false
def inD (d : D) (ds : List D) : Bool := ds.any fun z => PyData.eqv z d
theorem flat_dp {K : PySem.W.Frag} {H : Hp} {v : V} {d : D} (h : Dp K H v d) (f : flatD d = true) : flatV v = true := by
  cases h with
  | lst _ _ => cases f
  | tup _ _ => cases f
  | _ => rfl
theorem eqv_dp {K : PySem.W.Frag} {H : Hp} {v u : V} {d e : D} (h : Dp K H v d) (h2 : Dp K H u e) (f : flatD d = true) (f2 : flatD e = true) : eqV v u = PyData.eqv d e := by
  cases h with
  | lst _ _ => cases f
  | tup _ _ => cases f
  | non => cases h2 <;> first | (simp [eqV, PyData.eqv]; done) | cases f2
  | bl a => cases h2 <;> first | (simp [eqV, PyData.eqv]; done) | cases f2
  | int a => cases h2 <;> first | (simp [eqV, PyData.eqv]; done) | cases f2
  | str a => cases h2 <;> first | (simp [eqV, PyData.eqv]; done) | cases f2
theorem inV_dp {K : PySem.W.Frag} {H : Hp} {v : V} {d : D} (h : Dp K H v d) (f : flatD d = true) : ∀ {vs : List V} {ds : List D}, DpAll K H vs ds → ds.all flatD = true → vs.all flatV = true ∧ inV v vs = inD d ds
  | _, _, .nil, _ => ⟨rfl, rfl⟩
  | _, _, .cons a t, fs => by
    rw [List.all_cons, Bool.and_eq_true] at fs
    obtain ⟨h1, h2⟩ := inV_dp h f t fs.2
    refine ⟨by rw [List.all_cons, flat_dp a fs.1, h1]; rfl, ?_⟩
    unfold inV inD at h2 ⊢
    rw [List.any_cons, List.any_cons, h2, eqv_dp a h fs.1 f]
def F_in : List D → Option D
  | [d, .list ds] => if (SeqAt.shaped d && SeqAt.shaped (.list ds)) = true then some (.bool (inD d ds)) else none
  | [d, .tuple ds] => if (flatD d && ds.all flatD) = true then some (.bool (inD d ds)) else none
  | [.str c, .str z] => if c.cps.size = 1 then some (.bool (decide (c.cps.getD 0 0 ∈ z.cps.toList))) else none
  | _ => none
def F_notIn (ds : List D) : Option D := match F_in ds with
  | some (.bool b) => some (.bool (!b))
  | _ => none
def rInS : R2 := fun x y H Q => ∃ (c : Nat) (z : Str), x = .str ⟨#[c]⟩ ∧ y = .str z ∧ Q (.bl (decide (c ∈ z.cps.toList))) H
def rNotInS : R2 := fun x y H Q => ∃ (c : Nat) (z : Str), x = .str ⟨#[c]⟩ ∧ y = .str z ∧ Q (.bl (!decide (c ∈ z.cps.toList))) H
def rInA (K : PySem.W.Frag) : R2 := fun x y H Q => (rInD K x y H Q ∨ rIn K false x y H Q) ∨ rInS x y H Q
def rNotInA (K : PySem.W.Frag) : R2 := fun x y H Q => (rNotInD K x y H Q ∨ rIn K true x y H Q) ∨ rNotInS x y H Q
theorem op_inA {X : Cx} {k : Nat} (hr : Room k X.A) : OpR X (compareOp .In) (rInA X.K) := ((op_inD (by have := hr.un; omega)).or op_in_seq).or op_in_sign
theorem op_notInA {X : Cx} {k : Nat} (hr : Room k X.A) : OpR X (compareOp .NotIn) (rNotInA X.K) := ((op_notInD (by have := hr.un; omega)).or op_notIn_seq).or op_notIn_sign
theorem str_one {c : Str} (h : c.cps.size = 1) : c = ⟨#[c.cps.getD 0 0]⟩ := by
  obtain ⟨a⟩ := c
  obtain ⟨l⟩ := a
  match l, h with
  | [x], _ => rfl
theorem in_cases {K : PySem.W.Frag} {vs : List V} {ds : List D} {d : D} {G H : Hp} (s : Same G H) (b : DpBs K G H vs ds) (e : F_in ds = some d) : ∃ x y k, vs = [x, y] ∧ d = .bool k ∧
    ∀ (Q : VK), ((Q (.bl k) H → rInA K x y H Q) ∧ (Q (.bl (!k)) H → rNotInA K x y H Q)) := by
  unfold F_in at e
  split at e
  · rename_i i j
    split at e
    · rename_i hz
      cases e
      obtain ⟨h1, h2⟩ := Bool.and_eq_true_iff.mp hz
      obtain ⟨x, y, rfl, bx, byy⟩ := dpbs2 b
      exact ⟨x, y, _, rfl, rfl, fun Q => ⟨fun q => .inl (.inl ⟨i, j, bx.deep s, byy.deep s, h1, h2, q⟩), fun q => .inl (.inl ⟨i, j, bx.deep s, byy.deep s, h1, h2, q⟩)⟩⟩
    · cases e
  · rename_i i j
    split at e
    · rename_i hz
      cases e
      obtain ⟨h1, h2⟩ := Bool.and_eq_true_iff.mp hz
      obtain ⟨x, y, rfl, bx, byy⟩ := dpbs2 b
      obtain ⟨a1, v1, rfl, k1, d1⟩ := byy.tup s
      have dx := bx.deep s
      obtain ⟨m1, m2⟩ := inV_dp dx h1 (dpAll_mono s _ _ d1) h2
      refine ⟨x, _, _, rfl, rfl, fun Q => ⟨fun q => .inl (.inr ⟨a1, v1, rfl, .inr k1, flat_dp dx h1, m1, ?_⟩), fun q => .inl (.inr ⟨a1, v1, rfl, .inr k1, flat_dp dx h1, m1, ?_⟩)⟩⟩
      · show Q (.bl (inV x v1)) H
        rw [m2]; exact q
      · show Q (.bl (!inV x v1)) H
        rw [m2]; exact q
    · cases e
  · rename_i c z
    split at e
    · rename_i hz
      cases e
      obtain ⟨x, y, rfl, bx, byy⟩ := dpbs2 b
      refine ⟨x, y, _, rfl, rfl, fun Q => ⟨fun q => .inr ⟨_, z, ?_, byy.str, q⟩, fun q => .inr ⟨_, z, ?_, byy.str, q⟩⟩⟩
      · rw [bx.str]; exact congrArg _ (str_one hz)
      · rw [bx.str]; exact congrArg _ (str_one hz)
    · cases e
  · cases e
theorem s_in {K : PySem.W.Frag} : OpS K (r2 (rInA K)) F_in := fun vs ds d G H Q s b e q => by
  obtain ⟨x, y, k, rfl, rfl, h⟩ := in_cases s b e
  exact ⟨x, y, rfl, (h Q).1 (q _ H G .refl (.bl _))⟩
theorem s_notIn {K : PySem.W.Frag} : OpS K (r2 (rNotInA K)) F_notIn := fun vs ds d G H Q s b e q => by
  unfold F_notIn at e
  split at e
  · rename_i k0 e0
    cases e
    obtain ⟨x, y, k, rfl, ek, h⟩ := in_cases s b e0
    cases ek
    exact ⟨x, y, rfl, (h Q).2 (q _ H G .refl (.bl _))⟩
  · cases e
/-! ### a, b = x, y -/
def putAll : List Nat → List D → AS
  | [], [] => fun ρ => .ok .nx ρ
  | i :: is, d :: ds => fun ρ => if isIo (getSlot ρ i) = true then .bad else putAll is ds (setSlot ρ i (.pl d))
  | _, _ => fun _ => .bad
def setVs : List Nat → List V → L2.St → L2.St
  | i :: is, v :: vs, σ => setVs is vs (σ.set i (some v))
  | _, _, σ => σ
def sPar (is : List Nat) (fs : List AE) : AS := fun ρ => (evsD fs ρ).bind fun ds ρ1 => putAll is ds ρ1
theorem put_read {K : PySem.W.Frag} {E : WX} {H G : Hp} {Dn : Ends} : ∀ {is : List Nat} {vs : List V} {ds : List D} {ρ : En} {σ : L2.St}, ER K ρ σ H G → DpAll K G vs ds → OutS K E (putAll is ds ρ) ρ σ H G Dn → vs.length = is.length ∧ Dn.nx (setVs is vs σ) H
  | [], _, _, ρ, σ, er, .nil, h => ⟨rfl, h σ H G er .refl⟩
  | [], _, _, ρ, σ, er, .cons _ _, h => h.elim
  | i :: is, _, _, ρ, σ, er, .nil, h => h.elim
  | i :: is, _, _, ρ, σ, er, .cons (v := v) (d := d) (vs := vs) (ds := ds) a t, h => by
    have h' : OutS K E (if isIo (getSlot ρ i) = true then .bad else putAll is ds (setSlot ρ i (.pl d))) ρ σ H G Dn := h
    split at h'
    · exact h'.elim
    · rename_i hn
      obtain ⟨e1, s1⟩ := er.put hn a
      obtain ⟨k1, k2⟩ := put_read e1 t (OutS.shift h' s1)
      exact ⟨congrArg (· + 1) k1, k2⟩
section
variable {X : Cx} {E : WX} {pos : Pos}
theorem par_read {K : PySem.W.Frag} {is : List Nat} {fs : List AE} {ρ : En} {σ : L2.St} {H G : Hp} {Dn : Ends} {Q : List V → Hp → Prop} (er : ER K ρ σ H G) (h : OutS K E (sPar is fs ρ) ρ σ H G Dn)
    (q : ∀ vs H1, vs.length = is.length → Dn.nx (setVs is vs σ) H1 → Q vs H1) : tDs K E fs σ H Q := by
  have e : (evsD fs ρ).bind (fun ds ρ1 => R.ok ds ρ1) = evsD fs ρ := by cases evsD fs ρ <;> rfl
  have h2 := out_outS h
  rw [← e] at h2
  exact evsD_step er h2 fun vs ds ρ1 H1 G1 er1 s1 dps z => by
    obtain ⟨k1, k2⟩ := put_read er1 dps (z H1 G1 er1 .refl)
    exact q vs H1 k1 k2
theorem s_par {i j : Nat} {x y : Str} {a b : Expr} {fs : List AE} {px py pt : Pos} {kt k2 pt2} (hc : X.calm = true) (hN : X.N.Nodup) (hi : X.N[i]? = some x) (hj : X.N[j]? = some y)
    (hx : X.env.scope.names.lookup x = some .local) (hy : X.env.scope.names.lookup y = some .local) (ha : EDs X E [a, b] fs)
    (hij : i ≠ j := by decide) (hw : swappedStores [.Tuple [.Name x px, .Name y py] kt pt] (.Tuple [a, b] k2 pt2) X.env = pure (some [x, y]) := by rfl)
    (hs : swapsWithSole [.Tuple [.Name x px, .Name y py] kt pt] (.Tuple [a, b] k2 pt2) pos.line X.env = pure false := by rfl) :
    SS X E (.Assign [.Tuple [.Name x px, .Name y py] kt pt] (.Tuple [a, b] k2 pt2) pos) (sPar [i, j] fs) :=
  PS.imp (ps_par hc hN hi hj hij hx hy ha hw hs) fun Dn σ H ⟨ρ, G, er, h⟩ => par_read er h fun vs H1 k1 k2 => match vs, k1, k2 with | [v, w], _, k2 => ⟨v, w, rfl, k2⟩
theorem s_par3 {i j l : Nat} {x y z : Str} {a b c : Expr} {fs : List AE} {px py pz pt : Pos} {kt k2 pt2} (hc : X.calm = true) (hN : X.N.Nodup) (hi : X.N[i]? = some x) (hj : X.N[j]? = some y) (hl : X.N[l]? = some z)
    (hx : X.env.scope.names.lookup x = some .local) (hy : X.env.scope.names.lookup y = some .local) (hz : X.env.scope.names.lookup z = some .local) (ha : EDs X E [a, b, c] fs)
    (hij : i ≠ j := by decide) (hil : i ≠ l := by decide) (hjl : j ≠ l := by decide) (hw : swappedStores [.Tuple [.Name x px, .Name y py, .Name z pz] kt pt] (.Tuple [a, b, c] k2 pt2) X.env = pure (some [x, y, z]) := by rfl)
    (hs : swapsWithSole [.Tuple [.Name x px, .Name y py, .Name z pz] kt pt] (.Tuple [a, b, c] k2 pt2) pos.line X.env = pure false := by rfl) :
    SS X E (.Assign [.Tuple [.Name x px, .Name y py, .Name z pz] kt pt] (.Tuple [a, b, c] k2 pt2) pos) (sPar [i, j, l] fs) :=
  PS.imp (ps_par3 hc hN hi hj hl hij hil hjl hx hy hz ha hw hs) fun Dn σ H ⟨ρ, G, er, h⟩ => par_read er h fun vs H1 k1 k2 => match vs, k1, k2 with | [v, w, u], _, k2 => ⟨v, w, u, rfl, k2⟩
end
end SW
set_option Elab.async false
set_option linter.all false
set_option maxRecDepth 100000
set_option maxHeartbeats 2000000
/-! SWHead: the head's facts, defs by the head, calls of them. -/
namespace SW
open PySem PySem.Spec PyProof.Rows L2
variable [Tab]
/-! ### facts of the row by a Bool -/
def kTupB (K : PySem.W.Frag) : Bool := K.all fun q => !decide (q.2.cls = .type "tuple") || q.2.dict.isNone
theorem kTup_ok {K : PySem.W.Frag} (h : kTupB K = true) : KTup K := fun a o e c => by
  have h2 := List.all_eq_true.mp h _ (He.lookup_mem e)
  rcases (Bool.or_eq_true _ _).mp h2 with h3 | h3
  · rw [decide_eq_true c] at h3
    cases h3
  · exact Option.isNone_iff_eq_none.mp h3
def eqVV (a b : Option (Option Value)) : Bool := decide (a = b)
def excCB (K : PySem.W.Frag) (D : Addr) : Bool :=
  eqVV (PySem.W.findIn K (.ref D) "__getattribute__") (some (some (.builtin "BaseException.__getattribute__"))) && (eqVV (PySem.W.findIn K (.ref D) "__getattr__") (some none) && (decide (PySem.W.subIn K (.ref D) (.type "BaseException") = some true) &&
  (PySem.W.hasDictIn K D && (eqVV (PySem.W.findIn K (.ref D) "__class__") (some (some (.builtin "object.__class__"))) && (eqVV (PySem.W.specialIn K (.builtin "object.__class__") "__get__") (some (some (.builtin "getset_descriptor.__get__"))) &&
  (decide (PySem.W.takesIn K (.builtin "object.__class__") = some true) && decide (PySem.W.mroIn K D (.type "object") = some true)))))))
theorem excC_ok {K : PySem.W.Frag} {D : Addr} (h : excCB K D = true) : ExcC K D := by
  unfold excCB eqVV at h
  simp only [Bool.and_eq_true, decide_eq_true_eq] at h
  obtain ⟨h1, h2, h3, h4, h5, h6, h7, h8⟩ := h
  exact ⟨h1, h2, h3, h4, h5, h6, h7, h8⟩
/-- what a class's name is told as: the told classes are all under S, and w1 those under T -/
def tellB (K : PySem.W.Frag) (S T w1 w2 : Str) (tbl : List (Str × Str)) : Bool := tbl.all fun p => decide (PySem.W.exmOne K (.ref (He.ga K p.1)) (.ref (He.ga K S)) = some true) && (excCB K (He.ga K p.1) &&
  (decide (PySem.W.kitOne K (.ref (He.ga K p.1)) (.ref (He.ga K T)) = some (decide (p.2 = w1))) && (decide (p.2 = w1) || decide (p.2 = w2))))
def tellF (tbl : List (Str × Str)) : Ex → Option Str := fun x => if x.fs.isEmpty then tbl.lookup x.cls else none
theorem lookupS_mem {x s : Str} : ∀ {l : List (Str × Str)}, l.lookup x = some s → (x, s) ∈ l
  | [], h => by cases h
  | (b, u) :: r, h => by
    have h2 : (match x == b with | true => some u | false => r.lookup x) = some s := h
    cases q : (x == b) with
    | true =>
      rw [q] at h2
      have e : u = s := Option.some.inj h2
      rw [beq_iff_eq.mp q, e]
      exact List.mem_cons_self
    | false =>
      rw [q] at h2
      exact List.mem_cons_of_mem _ (lookupS_mem h2)
theorem tell_ok {K : PySem.W.Frag} {S T w1 w2 : Str} {tbl : List (Str × Str)} (h : tellB K S T w1 w2 tbl = true) (x : Ex) (s : Str) (e : tellF tbl x = some s) :
    x.fs = [] ∧ PySem.W.exmOne K (.ref (He.ga K x.cls)) (.ref (He.ga K S)) = some true ∧ ExcC K (He.ga K x.cls) ∧ ∃ c, PySem.W.kitOne K (.ref (He.ga K x.cls)) (.ref (He.ga K T)) = some c ∧ s = if c = true then w1 else w2 := by
  unfold tellF at e
  split at e
  · rename_i hz
    have h2 := List.all_eq_true.mp h _ (lookupS_mem e)
    simp only [Bool.and_eq_true, decide_eq_true_eq, Bool.or_eq_true] at h2
    obtain ⟨h3, h4, h5, h6⟩ := h2
    refine ⟨List.isEmpty_iff.mp hz, h3, excC_ok h4, _, h5, ?_⟩
    by_cases q : s = w1
    · rw [decide_eq_true q, if_pos rfl]; exact q
    · rw [decide_eq_false q, if_neg Bool.false_ne_true]; exact h6.resolve_left q
  · cases e
structure Fx (K : PySem.W.Frag) (mg : Str → Option Value) (fn : List He.DefD) (fa : List He.Fa) (ex : PySem.W.Frag → Bool) : Prop where
  df : ∀ (i : Nat) d, fn[i]? = some d → ∃ fd, FunD K d.name d.qual d.params d.body d.scope (d.dvs K) (d.kws K) (He.fAd K d.at_) fd
  ok : ∀ (i : Nat) f, fa[i]? = some f → f.ok K = true
  gl : ∀ x, (He.Fa.glo x).ok K = true → mg x = some (.ref (He.ga K x))
  fr : ∀ x, (He.Fa.free x).ok K = true → mg x = none
  it : ∀ x n, (He.Fa.int x n).ok K = true → ∃ t, mg x = some (.int n t)
  st : ∀ x n, (He.Fa.str x n).ok K = true → ∃ t, mg x = some (.str n t)
  kt : KTup K
  more : ex K = true
section
variable {K : PySem.W.Frag} {mg : Str → Option Value} {fn : List He.DefD} {fa : List He.Fa} {ex : PySem.W.Frag → Bool}
theorem Fx.g (c : Fx K mg fn fa ex) {x : Str} (i : Nat) (h : fa[i]? = some (.glo x) := by rfl) : mg x = some (.ref (He.ga K x)) := c.gl x (c.ok i _ h)
theorem Fx.f (c : Fx K mg fn fa ex) {x : Str} (i : Nat) (h : fa[i]? = some (.free x) := by rfl) : mg x = none := c.fr x (c.ok i _ h)
theorem Fx.i (c : Fx K mg fn fa ex) {x : Str} {n : Int} (i : Nat) (h : fa[i]? = some (.int x n) := by rfl) : ∃ t, mg x = some (.int n t) := c.it x n (c.ok i _ h)
theorem Fx.s (c : Fx K mg fn fa ex) {x : Str} {n : Str} (i : Nat) (h : fa[i]? = some (.str x n) := by rfl) : ∃ t, mg x = some (.str n t) := c.st x n (c.ok i _ h)
end
section
variable {P : Program} {w : World} {K : PySem.W.Frag} {mg : Str → Option Value} {base : Heap} {fn : List He.DefD} {fa : List He.Fa} {ex : PySem.W.Frag → Bool}
theorem fnD_ok {x qual : Str} {params : Arguments} {bd : List Stmt} {scope : Scope} {dvs : List V} {kws : List (Str × V)} {f : Addr} {fd : FuncData} {N ps : List Str} {k : Nat} {body : AS} (F : FunD K x qual params bd scope dvs kws f fd) (S : FnScope N ps scope)
    (hb : ∀ (cdv : Value) (A : Around) (outer : List Env) (s : Shared) (H : Hp) (E : XK), Room k (A.deeper (envOfC qual scope s.heap.objs.size f cdv)) →
      L2N.Takes (cxOf (L2N.CX P w) P w K mg base N qual scope f cdv A outer s H E) (fun c d _ H' => E c d H') →
      SSs (cxOf (L2N.CX P w) P w K mg base N qual scope f cdv A outer s H E) (fun c d _ H' => E c d H') bd body) :
    FnOk P w K mg base (L2N.CX P w) (k + 1) f fd ps (spF K N ps.length (mkF N.length body)) := by
  refine F.ok S (fun vs H Q E h => h.1) fun cdv A outer s H vs Q E hr hsp => ?_
  obtain ⟨hl, svs, G, er, hk, ho⟩ := hsp
  unfold mkF at ho
  rw [hk] at ho
  exact ⟨_, hb cdv A outer s H E hr (L2N.takes_of rfl rfl rfl rfl), _, G, er, by rw [hk]; exact OutN.outS ho⟩
/-- a def of the row, ready to be called -/
def OkD (P : Program) (w : World) (K : PySem.W.Frag) (mg : Str → Option Value) (base : Heap) (x : Str) (k : Nat) (ps N : List Str) (m : MF) : Prop :=
  ∃ f fd, mg x = some (.ref f) ∧ PySem.W.keepIn K (.ref f) = true ∧ Binds K fd ps [] ∧ FnOk P w K mg base (L2N.CX P w) k f fd ps (spF K N ps.length m) ∧ ∃ oc od osl, K.lookup f = some ⟨oc, od, .func fd, osl⟩
theorem okD_of (c : Fx K mg fn fa ex) {x : Str} {params : Arguments} {bd : List Stmt} {scope : Scope} {N ps : List Str} {k : Nat} {body : AS} (i j : Nat) (hi : fn[i]? = some ⟨(x, none), x, x, params, bd, scope, [], []⟩) (hj : fa[j]? = some (.glo x)) (S : FnScope N ps scope)
    (hbd : ∀ (kV doc pm : Value) (an : Option Addr) (cdv ct : Value) (us : List Value), us.length = ps.length → bindArgs (PySem.W.fnOf x x params bd scope .none kV doc pm an cdv ct) ⟨us, []⟩ = pure (ps.zip us))
    (hb : ∀ (f : Addr) (cdv : Value) (A : Around) (outer : List Env) (s : Shared) (H : Hp) (E : XK), Room k (A.deeper (envOfC x scope s.heap.objs.size f cdv)) →
      L2N.Takes (cxOf (L2N.CX P w) P w K mg base N x scope f cdv A outer s H E) (fun c d _ H' => E c d H') →
      SSs (cxOf (L2N.CX P w) P w K mg base N x scope f cdv A outer s H E) (fun c d _ H' => E c d H') bd body) : OkD P w K mg base x (k + 1) ps N (mkF N.length body) := by
  obtain ⟨fd, F⟩ := c.df i _ hi
  have hl : ∃ oc od osl, K.lookup (He.fAd K (x, none)) = some ⟨oc, od, .func fd, osl⟩ := by
    obtain ⟨oc, od, dV, kV, doc, pm, an, cdv, ct, osl, _, lk, _⟩ := F.ex
    exact ⟨oc, od, osl, lk⟩
  refine ⟨_, fd, c.gl x (c.ok j _ hj), F.kp, FunD.bindsN F hbd, fnD_ok F S fun cdv A outer s H E => hb _ cdv A outer s H E, hl⟩
/-- .. whose code object is asked for -/
theorem okD_ofL (c : Fx K mg fn fa ex) {x : Str} {params : Arguments} {bd : List Stmt} {scope : Scope} {N ps : List Str} {k : Nat} {body : AS} (i j : Nat) (hi : fn[i]? = some ⟨(x, none), x, x, params, bd, scope, [], []⟩) (hj : fa[j]? = some (.glo x)) (S : FnScope N ps scope)
    (hbd : ∀ (kV doc pm : Value) (an : Option Addr) (cdv ct : Value) (us : List Value), us.length = ps.length → bindArgs (PySem.W.fnOf x x params bd scope .none kV doc pm an cdv ct) ⟨us, []⟩ = pure (ps.zip us))
    (hb : ∀ (f : Addr) (cdv : Value) (A : Around) (outer : List Env) (s : Shared) (H : Hp) (E : XK), cdv = .ref (He.codeOf K (x, none)) → Room k (A.deeper (envOfC x scope s.heap.objs.size f cdv)) →
      L2N.Takes (cxOf (L2N.CX P w) P w K mg base N x scope f cdv A outer s H E) (fun c d _ H' => E c d H') →
      SSs (cxOf (L2N.CX P w) P w K mg base N x scope f cdv A outer s H E) (fun c d _ H' => E c d H') bd body) : OkD P w K mg base x (k + 1) ps N (mkF N.length body) := by
  obtain ⟨fd, F⟩ := c.df i _ hi
  have hl : ∃ oc od osl, K.lookup (He.fAd K (x, none)) = some ⟨oc, od, .func fd, osl⟩ := by
    obtain ⟨oc, od, dV, kV, doc, pm, an, cdv, ct, osl, _, lk, _⟩ := F.ex
    exact ⟨oc, od, osl, lk⟩
  refine ⟨_, fd, c.gl x (c.ok j _ hj), F.kp, FunD.bindsN F hbd, ?_, hl⟩
  obtain ⟨oc, od, dV, kV, doc, pm, an, cdv, ct, osl, rfl, lk, hcd, _, _⟩ := F.ex
  obtain ⟨c0, rfl⟩ := He.codeIn_ref hcd
  have ec : He.codeOf K (x, none) = c0 := He.codeOf_eq lk rfl
  refine fn_of lk hcd S (fun vs H Q E h => h.1) fun A outer s H vs Q E hr hsp => ?_
  obtain ⟨hl, svs, G, er, hk, ho⟩ := hsp
  unfold mkF at ho
  rw [hk] at ho
  exact ⟨_, hb _ _ A outer s H E (by rw [ec]) hr (L2N.takes_of rfl rfl rfl rfl), _, G, er, by rw [hk]; exact OutN.outS ho⟩
/-- a def that calls itself -/
theorem okD_rec (c : Fx K mg fn fa ex) {x : Str} {params : Arguments} {bd : List Stmt} {scope : Scope} {N ps : List Str} {k : Nat} {body : MF → AS} (i j : Nat) (hi : fn[i]? = some ⟨(x, none), x, x, params, bd, scope, [], []⟩) (hj : fa[j]? = some (.glo x)) (S : FnScope N ps scope)
    (hbd : ∀ (kV doc pm : Value) (an : Option Addr) (cdv ct : Value) (us : List Value), us.length = ps.length → bindArgs (PySem.W.fnOf x x params bd scope .none kV doc pm an cdv ct) ⟨us, []⟩ = pure (ps.zip us))
    (mf : Nat → MF) (h0 : mf 0 = fun _ => .bad) (hS : ∀ n, mf (n + 1) = mkF N.length (body (mf n)))
    (hb : ∀ (n : Nat) (hm : OkD P w K mg base x (k + n) ps N (mf n)) (f : Addr) (cdv : Value) (A : Around) (outer : List Env) (s : Shared) (H : Hp) (E : XK), Room (k + n) (A.deeper (envOfC x scope s.heap.objs.size f cdv)) →
      L2N.Takes (cxOf (L2N.CX P w) P w K mg base N x scope f cdv A outer s H E) (fun c d _ H' => E c d H') →
      SSs (cxOf (L2N.CX P w) P w K mg base N x scope f cdv A outer s H E) (fun c d _ H' => E c d H') bd (body (mf n))) (hk : 1 ≤ k) : ∀ n, OkD P w K mg base x (k + n) ps N (mf n)
  | 0 => by
    obtain ⟨fd, F⟩ := c.df i _ hi
    obtain ⟨k', rfl⟩ : ∃ k', k = k' + 1 := ⟨k - 1, by omega⟩
    have hl : ∃ oc od osl, K.lookup (He.fAd K (x, none)) = some ⟨oc, od, .func fd, osl⟩ := by
      obtain ⟨oc, od, dV, kV, doc, pm, an, cdv, ct, osl, _, lk, _⟩ := F.ex
      exact ⟨oc, od, osl, lk⟩
    refine ⟨_, fd, c.gl x (c.ok j _ hj), F.kp, FunD.bindsN F hbd, ?_, hl⟩
    refine F.ok S (fun vs H Q E h => h.1) fun cdv A outer s H vs Q E hr hsp => ?_
    obtain ⟨hl, svs, G, er, hk, ho⟩ := hsp
    rw [h0] at ho
    exact ho.elim
  | n + 1 => by
    have ih := okD_rec c i j hi hj S hbd mf h0 hS hb hk n
    have h := okD_of (k := k + n) c i j hi hj S hbd (hb n ih)
    rw [← hS] at h
    exact h
end
section
variable {X : Cx} {E : WX} {pos p : Pos} {x : Str} {e : Expr} {es : List Expr} {os : List Opd} {ps : List Str} {k k' : Nat} {m : MF} {N : List Str}
theorem v_callD (h : OkD X.prog X.w X.K X.mg X.base x k ps N m) (tk : L2N.Takes X E) (hr : Room k' X.A) (hg : Gl X x) (ha : EOs X E (e :: es) os) (hkk : k ≤ k' := by decide) (hk : os.length = ps.length := by rfl) (hN : ps.length ≤ N.length := by decide)
    (hdb : (x == ("__debug__" : Str)) = false := by decide) (hs : starEach (e :: es) X.env = (false, eval e X.env) :: starEach es X.env := by rfl) (hpl : (backTo pos (starEach es X.env)).any (·.1) = false := by rfl) : EV X E (.Call (.Name x p) (e :: es) [] pos) (aCall m os) := by
  obtain ⟨f, fd, hm, hkp, hb, F, _⟩ := h
  exact v_call F tk (hr.mono hkk) hg hm hkp hb ha hk hN hdb hs hpl
theorem f_callD (h : OkD X.prog X.w X.K X.mg X.base x k ps N m) (tk : L2N.Takes X E) (hr : Room k' X.A) (hg : Gl X x) (ha : EOs X E (e :: es) os) (hkk : k ≤ k' := by decide) (hk : os.length = ps.length := by rfl) (hN : ps.length ≤ N.length := by decide)
    (hdb : (x == ("__debug__" : Str)) = false := by decide) (hs : starEach (e :: es) X.env = (false, eval e X.env) :: starEach es X.env := by rfl) (hpl : (backTo pos (starEach es X.env)).any (·.1) = false := by rfl) : EF X E (.Call (.Name x p) (e :: es) [] pos) (fCall m os) := by
  obtain ⟨f, fd, hm, hkp, hb, F, _⟩ := h
  exact f_call F tk (hr.mono hkk) hg hm hkp hb ha hk hN hdb hs hpl
/-- x(lambda: body), x a def that tells what it raises -/
theorem v_toldX {fn : List He.DefD} {fa : List He.Fa} {ex : PySem.W.Frag → Bool} (c : Fx X.K X.mg fn fa ex) {a : Str} {cc P : Addr} {k : Nat} {pg : Arguments} {bg : List Stmt} {sg : Scope} {Ng : List Str} {F : Ex → Option D} {sn : D} {sv : V}
    {params : Arguments} {body : Expr} {scope : Scope} {f : AE} {lpos : Pos} (i j : Nat) (hi : fn[i]? = some ⟨(x, none), x, x, pg, bg, sg, [], []⟩) (hj : fa[j]? = some (.glo x)) (hg : Gl X x) (Sg : FnScope Ng [a] sg) (hNg : Ng[0]? = some a) (hva : Vis sg a)
    (hbd : ∀ (kV doc pm : Value) (an : Option Addr) (cdv ct : Value) (us : List Value), us.length = [a].length → bindArgs (PySem.W.fnOf x x pg bg sg .none kV doc pm an cdv ct) ⟨us, []⟩ = pure ([a].zip us))
    (hG : ∀ g cdg, GivesT X Ng x sg g cdg bg a (X.env.qual ++ "<lambda>") F sv)
    (hsv : ∀ G, Dp X.K G sv sn)
    (TB : LamX.TabB X.base X.mg cc P) (hcode : X.env.code = .ref cc) (hmT : (P, X.env.qual ++ "<lambda>") ∈ Tab.T) (hu : ∀ p ∈ Tab.T, p.1 = P → p.2 = X.env.qual ++ "<lambda>") (hr : Room (k + 2) X.A) (L : LamX.LamS X.env.scope scope)
    (hbody : ∀ (A : Around) (outer : List Env) (s : Shared) (H : Hp) (E : XK) (f' c' : Addr), Room k (A.deeper (LamX.lamEnv X scope s.heap.objs.size f' c')) → L2N.Takes (SWH.lamN X A outer s H E scope f' c') (fun c d _ H' => E c d H') → EV (SWH.lamN X A outer s H E scope f' c') (fun c d _ H' => E c d H') body f)
    (hdef : defaultsOf params X.env = ([], []) := by rfl) (hbind : ∀ (q : Str) (cl : List (Str × Addr)) (pm cv ctv : Value), bindArgs (PySem.W.kla_fn "<lambda>" q params body scope cl pm cv ctv) ⟨[], []⟩ = pure [] := by intros; rfl)
    (hdb : (x == ("__debug__" : Str)) = false := by decide) (hd : (a == ("__debug__" : Str)) = false := by decide) (hcd : (a == ("__classdict__" : Str)) = false := by decide) :
    EV X E (.Call (.Name x p) [.Lambda params body scope lpos] [] pos) (aTold F sn f) := by
  obtain ⟨fd, FD⟩ := c.df i _ hi
  have hb := FunD.bindsN FD hbd
  have kp := FD.kp
  obtain ⟨oc, od, dV, kV, doc, pm, an, cdv, ct, osl, rfl, lk, hcd', _, _⟩ := FD.ex
  exact v_told hg (c.gl x (c.ok j _ hj)) kp lk hcd' hb Sg hNg hva (hG _ _) hsv TB hcode hmT hu hr L hdef hbind hbody hdb hd hcd
/-- raise X('..') -/
theorem s_raiseX {fn : List He.DefD} {fa : List He.Fa} {ex : PySem.W.Frag → Bool} (c : Fx X.K X.mg fn fa ex) {m : Str} {j : Nat} {p2 pos2 : Pos} (i ig : Nat) (hi : fa[i]? = some (.exc x)) (hig : fa[ig]? = some (.glo x)) (hc : X.calm = true) (tk : L2N.Takes X E) (hg : Gl X x) (hdb : (x == ("__debug__" : Str)) = false := by decide) :
    SS X E (.Raise (some (.Call (.Name x p) [.Constant (.str m) j p2] [] pos)) none pos2) (sRaise x) := by
  obtain ⟨h1, h2, h3, h4⟩ := He.exc_ok (c.ok i _ hi)
  exact s_raise hc tk (L2N.pmk_own PySem.F.excBase_ValueError h1 (c.g ig hig) h2 (raises_own h3 h4) hg hdb)
end
end SW
set_option Elab.async false
set_option linter.all false
set_option maxRecDepth 100000
set_option maxHeartbeats 2000000
/-! SWUse: the rules in short. -/
namespace SW
open PySem PySem.Spec PyProof.Rows L2
variable [Tab]
section
variable {X : Cx} {E : WX} {pos p p2 : Pos} {e a b : Expr} {es : List Expr} {os : List Opd} {o1 o2 : Opd} {f g : AE} {k : Nat}
theorem vn (i : Nat) {x : Str} (hN : X.N[i]? = some x := by rfl) (hv : Vis X.env.scope x := by first | exact .inl rfl | exact .inr (.inl rfl) | exact .inr (.inr rfl)) (hd : (x == ("__debug__" : Str)) = false := by decide) (hcd : (x == ("__classdict__" : Str)) = false := by decide) : EO X E (.Name x pos) (.br i) := v_br hN hv hd hcd
theorem vv (i : Nat) {x : Str} (hN : X.N[i]? = some x := by rfl) (hv : Vis X.env.scope x := by first | exact .inl rfl | exact .inr (.inl rfl) | exact .inr (.inr rfl)) (hd : (x == ("__debug__" : Str)) = false := by decide) (hcd : (x == ("__classdict__" : Str)) = false := by decide) : EV X E (.Name x pos) (eV i) := v_name hN hv hd hcd
theorem gi {x : Str} {i : Int} (hm : ∃ t, X.mg x = some (.int i t)) (hg : Gl X x := by rfl) (hd : (x == ("__debug__" : Str)) = false := by decide) : EV X E (.Name x pos) (eC (.int i)) := v_gint hg hm hd
theorem gs {x : Str} {i : Str} (hm : ∃ t, X.mg x = some (.str i t)) (hg : Gl X x := by rfl) (hd : (x == ("__debug__" : Str)) = false := by decide) : EV X E (.Name x pos) (eC (.str i)) := v_gstr hg hm hd
theorem u_add (h1 : EO X E a o1) (h2 : EO X E b o2) : EV X E (.BinOp a .Add b pos) (aOps F_add [o1, o2]) := v_bin op_addA s_add h1 h2
theorem u_sub (h1 : EO X E a o1) (h2 : EO X E b o2) : EV X E (.BinOp a .Sub b pos) (aOps F_sub [o1, o2]) := v_bin op_sub s_sub h1 h2
theorem u_mul (h1 : EO X E a o1) (h2 : EO X E b o2) : EV X E (.BinOp a .Mult b pos) (aOps F_mul [o1, o2]) := v_bin op_mulA s_mul h1 h2
theorem u_fdiv (h1 : EO X E a o1) (h2 : EO X E b o2) : EV X E (.BinOp a .FloorDiv b pos) (aOps F_fdiv [o1, o2]) := v_bin op_fdiv s_fdiv h1 h2
theorem u_mod (h1 : EO X E a o1) (h2 : EO X E b o2) : EV X E (.BinOp a .Mod b pos) (aOps F_mod [o1, o2]) := v_bin op_mod s_mod h1 h2
theorem u_pow (h1 : EO X E a o1) (h2 : EO X E b o2) : EV X E (.BinOp a .Pow b pos) (aOps F_pow [o1, o2]) := v_bin op_pow s_pow h1 h2
theorem u_neg (h1 : EO X E a o1) : EV X E (.UnaryOp .USub a pos) (aOps F_neg [o1]) := v_un un_neg s_neg h1
theorem u_lt (hr : Room k X.A) (h1 : EO X E a o1) (h2 : EO X E b o2) : EV X E (.Compare a [.Lt] [b] pos) (aOps F_lt [o1, o2]) := v_cmp (op_ltA hr) s_lt h1 h2 (nomark _)
theorem u_le (hr : Room k X.A) (h1 : EO X E a o1) (h2 : EO X E b o2) : EV X E (.Compare a [.LtE] [b] pos) (aOps F_le [o1, o2]) := v_cmp op_leA s_le h1 h2 (nomark _)
theorem u_gt (hr : Room k X.A) (h1 : EO X E a o1) (h2 : EO X E b o2) : EV X E (.Compare a [.Gt] [b] pos) (aOps F_gt [o1, o2]) := v_cmp op_gtA s_gt h1 h2 (nomark _)
theorem u_ge (hr : Room k X.A) (h1 : EO X E a o1) (h2 : EO X E b o2) : EV X E (.Compare a [.GtE] [b] pos) (aOps F_ge [o1, o2]) := v_cmp op_geA s_ge h1 h2 (nomark _)
theorem u_eq (hr : Room k X.A) (h1 : EO X E a o1) (h2 : EO X E b o2) : EV X E (.Compare a [.Eq] [b] pos) (aOps F_eq [o1, o2]) := v_cmp (op_eqD hr.units) s_eq h1 h2 (nomark _)
theorem u_ne (hr : Room k X.A) (h1 : EO X E a o1) (h2 : EO X E b o2) : EV X E (.Compare a [.NotEq] [b] pos) (aOps F_ne [o1, o2]) := v_cmp (op_neD hr.units) s_ne h1 h2 (nomark _)
theorem u_in (hr : Room k X.A) (h1 : EO X E a o1) (h2 : EO X E b o2) (hm : behindInMarks .In b = false := by rfl) : EV X E (.Compare a [.In] [b] pos) (aOps F_in [o1, o2]) := v_cmp (op_inA hr) s_in h1 h2 hm
theorem u_notIn (hr : Room k X.A) (h1 : EO X E a o1) (h2 : EO X E b o2) (hm : behindInMarks .NotIn b = false := by rfl) : EV X E (.Compare a [.NotIn] [b] pos) (aOps F_notIn [o1, o2]) := v_cmp (op_notInA hr) s_notIn h1 h2 hm
theorem ut_lt (hr : Room k X.A) (h1 : EO X E a o1) (h2 : EO X E b o2) : ET X E (.Compare a [.Lt] [b] pos) (aT (aOps F_lt [o1, o2])) := t_cmp (op_ltA hr) s_lt h1 h2 (nomark _)
theorem ut_le (hr : Room k X.A) (h1 : EO X E a o1) (h2 : EO X E b o2) : ET X E (.Compare a [.LtE] [b] pos) (aT (aOps F_le [o1, o2])) := t_cmp op_leA s_le h1 h2 (nomark _)
theorem ut_gt (hr : Room k X.A) (h1 : EO X E a o1) (h2 : EO X E b o2) : ET X E (.Compare a [.Gt] [b] pos) (aT (aOps F_gt [o1, o2])) := t_cmp op_gtA s_gt h1 h2 (nomark _)
theorem ut_ge (hr : Room k X.A) (h1 : EO X E a o1) (h2 : EO X E b o2) : ET X E (.Compare a [.GtE] [b] pos) (aT (aOps F_ge [o1, o2])) := t_cmp op_geA s_ge h1 h2 (nomark _)
theorem ut_eq (hr : Room k X.A) (h1 : EO X E a o1) (h2 : EO X E b o2) : ET X E (.Compare a [.Eq] [b] pos) (aT (aOps F_eq [o1, o2])) := t_cmp (op_eqD hr.units) s_eq h1 h2 (nomark _)
theorem ut_ne (hr : Room k X.A) (h1 : EO X E a o1) (h2 : EO X E b o2) : ET X E (.Compare a [.NotEq] [b] pos) (aT (aOps F_ne [o1, o2])) := t_cmp (op_neD hr.units) s_ne h1 h2 (nomark _)
theorem ut_in (hr : Room k X.A) (h1 : EO X E a o1) (h2 : EO X E b o2) (hm : behindInMarks .In b = false := by rfl) : ET X E (.Compare a [.In] [b] pos) (aT (aOps F_in [o1, o2])) := t_cmp (op_inA hr) s_in h1 h2 hm
theorem ut_notIn (hr : Room k X.A) (h1 : EO X E a o1) (h2 : EO X E b o2) (hm : behindInMarks .NotIn b = false := by rfl) : ET X E (.Compare a [.NotIn] [b] pos) (aT (aOps F_notIn [o1, o2])) := t_cmp (op_notInA hr) s_notIn h1 h2 hm
theorem u_ix (h1 : EO X E a o1) (h2 : EO X E b o2) (hp : PlainIx b := by intro _ _; rfl) : EV X E (.Subscript a b pos) (aOps F_ix [o1, o2]) := v_ix ix_seq s_ix h1 h2 hp
theorem u_len (hm : X.mg "len" = none) (ha : EOs X E (e :: es) os) (hg : Gl X "len" := by rfl) (he : starEach (e :: es) X.env = (false, eval e X.env) :: starEach es X.env := by rfl) (hpl : (backTo pos (starEach es X.env)).any (·.1) = false := by rfl) : EV X E (.Call (.Name "len" p) (e :: es) [] pos) (aOps F_len os) :=
  v_callB cl_len s_len hg hm boot_len ha (by decide) (by decide) he hpl
theorem u_abs (hm : X.mg "abs" = none) (ha : EOs X E (e :: es) os) (hg : Gl X "abs" := by rfl) (he : starEach (e :: es) X.env = (false, eval e X.env) :: starEach es X.env := by rfl) (hpl : (backTo pos (starEach es X.env)).any (·.1) = false := by rfl) : EV X E (.Call (.Name "abs" p) (e :: es) [] pos) (aOps F_abs os) :=
  v_callB call_abs s_abs hg hm boot_abs ha (by decide) (by decide) he hpl
theorem u_sum (hc : X.calm = true) (hm : X.mg "sum" = none) (ha : EOs X E (e :: es) os) (hg : Gl X "sum" := by rfl) (he : starEach (e :: es) X.env = (false, eval e X.env) :: starEach es X.env := by rfl) (hpl : (backTo pos (starEach es X.env)).any (·.1) = false := by rfl) : EV X E (.Call (.Name "sum" p) (e :: es) [] pos) (aOps F_sum os) :=
  v_callB (cr_sum hc) s_sum hg hm boot_sum ha (by decide) (by decide) he hpl
theorem u_all (hc : X.calm = true) (hm : X.mg "all" = none) (ha : EOs X E (e :: es) os) (hg : Gl X "all" := by rfl) (he : starEach (e :: es) X.env = (false, eval e X.env) :: starEach es X.env := by rfl) (hpl : (backTo pos (starEach es X.env)).any (·.1) = false := by rfl) : EV X E (.Call (.Name "all" p) (e :: es) [] pos) (aOps F_all os) :=
  v_callB (cr_all hc) s_all hg hm boot_all ha (by decide) (by decide) he hpl
theorem u_any (hc : X.calm = true) (hm : X.mg "any" = none) (ha : EOs X E (e :: es) os) (hg : Gl X "any" := by rfl) (he : starEach (e :: es) X.env = (false, eval e X.env) :: starEach es X.env := by rfl) (hpl : (backTo pos (starEach es X.env)).any (·.1) = false := by rfl) : EV X E (.Call (.Name "any" p) (e :: es) [] pos) (aOps F_any os) :=
  v_callB (cr_any hc) s_any hg hm boot_any ha (by decide) (by decide) he hpl
theorem u_sorted (hm : X.mg "sorted" = none) (ha : EOs X E (e :: es) os) (hg : Gl X "sorted" := by rfl) (he : starEach (e :: es) X.env = (false, eval e X.env) :: starEach es X.env := by rfl) (hpl : (backTo pos (starEach es X.env)).any (·.1) = false := by rfl) : EV X E (.Call (.Name "sorted" p) (e :: es) [] pos) (aOps F_sorted os) :=
  v_callB cl_sorted s_sorted hg hm boot_sorted ha (by decide) (by decide) he hpl
theorem u_int (hm : X.mg "int" = none) (ha : EOs X E (e :: es) os) (hg : Gl X "int" := by rfl) (he : starEach (e :: es) X.env = (false, eval e X.env) :: starEach es X.env := by rfl) (hpl : (backTo pos (starEach es X.env)).any (·.1) = false := by rfl) : EV X E (.Call (.Name "int" p) (e :: es) [] pos) (aOps F_int os) :=
  v_callT call_int1 s_int hg hm boot_int ha (by decide) (by decide) he hpl
theorem u_list (hm : X.mg "list" = none) (ha : EOs X E (e :: es) os) (hg : Gl X "list" := by rfl) (he : starEach (e :: es) X.env = (false, eval e X.env) :: starEach es X.env := by rfl) (hpl : (backTo pos (starEach es X.env)).any (·.1) = false := by rfl) : EV X E (.Call (.Name "list" p) (e :: es) [] pos) (aOps F_list os) :=
  v_callT call_list_of s_list hg hm boot_list ha (by decide) (by decide) he hpl
theorem uf_list (hm : X.mg "list" = none) (ha : EOs X E (e :: es) os) (hg : Gl X "list" := by rfl) (he : starEach (e :: es) X.env = (false, eval e X.env) :: starEach es X.env := by rfl) (hpl : (backTo pos (starEach es X.env)).any (·.1) = false := by rfl) : EF X E (.Call (.Name "list" p) (e :: es) [] pos) (fOps F_list os) :=
  f_callT call_list_of g_list hg hm boot_list ha (by decide) (by decide) he hpl
theorem uf_add (h1 : EO X E a o1) (h2 : EO X E b o2) : EF X E (.BinOp a .Add b pos) (fOps F_addL [o1, o2]) := f_two op_catL g_addL h1 h2
theorem u_tuple (hm : X.mg "tuple" = none) (ha : EOs X E (e :: es) os) (hg : Gl X "tuple" := by rfl) (he : starEach (e :: es) X.env = (false, eval e X.env) :: starEach es X.env := by rfl) (hpl : (backTo pos (starEach es X.env)).any (·.1) = false := by rfl) : EV X E (.Call (.Name "tuple" p) (e :: es) [] pos) (aOps F_tuple os) :=
  v_callT call_tupleF s_tuple hg hm boot_tuple ha (by decide) (by decide) he hpl
theorem u_isi (t : Ty) {T : Str} (hm : X.mg "isinstance" = none) (hmT : X.mg T = none) (h1 : EO X E a o1) (hg : Gl X "isinstance" := by rfl) (hgT : Gl X T := by rfl) (hvT : bootBuiltins T = some (.type t.nm) := by decide +kernel)
    (hn : T ≠ "__name__" := by decide) (hdb : (T == ("__debug__" : Str)) = false := by decide)
    (he : starEach [a, .Name T p2] X.env = (false, eval a X.env) :: starEach [.Name T p2] X.env := by rfl) (hpl : (backTo pos (starEach [Expr.Name T p2] X.env)).any (·.1) = false := by rfl) :
    EV X E (.Call (.Name "isinstance" p) [a, .Name T p2] [] pos) (aOps (F_isi t) [o1]) := v_isi hg hm hgT hmT hvT h1 hn hdb he hpl
/-- two readings of one expression: the second where the first has none -/
def aOr2 (f g : AE) : AE := fun ρ => match f ρ with
  | .bad => g ρ
  | r => r
theorem v_either (h1 : EV X E e f) (h2 : EV X E e g) : EV X E e (aOr2 f g) :=
  ⟨fun pins s σ H Q I ⟨ρ, G, er, h⟩ => by
    unfold aOr2 at h
    cases q : f ρ with
    | ok d ρ1 => rw [q] at h; exact h1.run pins s σ H Q I ⟨ρ, G, er, by rw [q]; exact h⟩
    | err x ρ1 => rw [q] at h; exact h1.run pins s σ H Q I ⟨ρ, G, er, by rw [q]; exact h⟩
    | bad => rw [q] at h; exact h2.run pins s σ H Q I ⟨ρ, G, er, h⟩⟩
theorem u_index (kt : KTup X.K) (hr : Room k X.A) {apos cpos : Pos} (ho : EO X E a o1) (ha : EO X E e o2)
    (hbase : attributeBase a "index" X.env (eval a X.env) = eval a X.env := by rfl)
    (hfew : ((backTo cpos (starEach [e] X.env)).all (fun x => !x.1) && (backToKw cpos (keywordEach [] X.env)).all (fun x => x.1.isSome)
      && decide ([e].length + ([] : List Keyword).length + (if ([] : List Keyword).isEmpty then 0 else 1) < 30)) = true := by rfl)
    (hline : (apos.endLine == cpos.line) = true := by rfl) (hs1 : starEach [e] X.env = (false, eval e X.env) :: starEach [] X.env := by rfl) (hplain : (backTo cpos (starEach [] X.env)).any (·.1) = false := by rfl) :
    EV X E (.Call (.Attribute a "index" apos) [e] [] cpos) (aOr2 (aMeth .tuple F_idxT o1 [o2]) (aMeth .list F_idxL o1 [o2])) :=
  v_either (v_indexT kt hr ho ha hbase hfew hline hs1 hplain) (v_indexL kt hr ho ha hbase hfew hline hs1 hplain)
theorem ug (i : Nat) {x : Str} (hN : X.N.Nodup) (hi : X.N[i]? = some x := by rfl) (hx : Loc X.env.scope x := by first | exact .inl rfl | exact .inr rfl) (hf : X.fn x = true ∨ X.env.scope.names.lookup x = some .local := by first | exact .inr rfl | exact .inl rfl) : EG false X (.Name x pos) (gNm i) [i] := g_nm hN hi hx hf
theorem us_set (i : Nat) {x : Str} {pos' : Pos} (hN : X.N.Nodup) (he : EV X E e f) (hi : X.N[i]? = some x := by rfl) (hx : Loc X.env.scope x := by first | exact .inl rfl | exact .inr rfl) (hs : swapsWith e (some (.Name x pos')) pos.line X.env = pure false := by rfl) (hf : X.fn x = true ∨ X.env.scope.names.lookup x = some .local := by first | exact .inr rfl | exact .inl rfl) :
    SS X E (.Assign [.Name x pos'] e pos) (sAsg f (gNm i)) := s_set hN hi hx he hs hf
theorem us_own (i : Nat) {x : Str} {pos' : Pos} {fl : AM (List D)} (hN : X.N.Nodup) (he : EF X E e fl) (hi : X.N[i]? = some x := by rfl) (hx : Loc X.env.scope x := by first | exact .inl rfl | exact .inr rfl) (hs : swapsWith e (some (.Name x pos')) pos.line X.env = pure false := by rfl) (hf : X.fn x = true ∨ X.env.scope.names.lookup x = some .local := by first | exact .inr rfl | exact .inl rfl) :
    SS X E (.Assign [.Name x pos'] e pos) (sOwn i fl) := s_own hN hi hx he hs hf
theorem ne_ix {i : Nat} {fi : AE} : NoErr (gIx i fi) := fun d ρ x ρ' e => by
  unfold gIx at e
  split at e
  · split at e
    · split at e <;> cases e
    · cases e
  · cases e
theorem ne_run : ∀ {gs : List AG}, (∀ g ∈ gs, NoErr g) → ∀ (ds : List D) ρ x ρ', gsRun gs ds ρ ≠ .err x ρ'
  | [], _, [], _, _, _, h => by cases h
  | [], _, _ :: _, _, _, _, h => by cases h
  | _ :: _, _, [], _, _, _, h => by cases h
  | g :: gs, hg, d :: ds, ρ, x, ρ', h => by
    have h' : (g d ρ).bind (fun _ ρ1 => gsRun gs ds ρ1) = .err x ρ' := h
    cases q : g d ρ with
    | ok a ρ1 => rw [q] at h'; exact ne_run (fun g hg' => hg g (List.mem_cons_of_mem _ hg')) ds ρ1 x ρ' h'
    | err x2 ρ1 => exact hg g List.mem_cons_self d ρ x2 ρ1 q
    | bad => rw [q] at h'; cases h'
theorem ne_nil : ∀ g ∈ ([] : List AG), NoErr g := fun _ h => nomatch h
theorem ne_cons {g : AG} {gs : List AG} (h : NoErr g) (hs : ∀ g ∈ gs, NoErr g) : ∀ g' ∈ g :: gs, NoErr g' := fun g' hm => by
  rcases List.mem_cons.mp hm with rfl | hm
  · exact h
  · exact hs g' hm
theorem ne_tup {gs : List AG} (h : ∀ g ∈ gs, NoErr g) : NoErr (gTupA gs) := fun d ρ x ρ' e => by
  unfold gTupA at e
  split at e
  · exact ne_run h _ ρ x ρ' e
  · cases e
/-! ### f() -/
theorem pe_callS0 {f : Addr} {fd : FuncData} {ps : List Str} {sp : Sp} {EK : L2.St → XK} {x : Str} {CX : CXT} (F : FnOk X.prog X.w X.K X.mg X.base CX k f fd ps sp) (hr : Room k X.A) (hg : Gl X x) (hm : X.mg x = some (.ref f)) (hk : PySem.W.keepIn X.K (.ref f) = true) (hb : Binds X.K fd ps []) (hx : ∀ σ, PassesAt CX X σ (EK σ))
    (hdb : (x == ("__debug__" : Str)) = false := by decide) : PE X (.Call (.Name x p) [] [] pos) (tCallS sp EK tNil) := by
  refine ⟨fun pins s σ H Q I h => ?_⟩
  refine wpAny_Call_Name_kw (ld_glob I hg hm ?_ hdb)
  exact PySem.W.callWith_K0 I.kIn hk (run_fnS (us := []) F hr hb (hx σ) I .nil h)
theorem v_callD0 {x : Str} {k k' : Nat} {N : List Str} {m : MF} (h : OkD X.prog X.w X.K X.mg X.base x k [] N m) (tk : L2N.Takes X E) (hr : Room k' X.A) (hg : Gl X x) (hkk : k ≤ k' := by decide) (hdb : (x == ("__debug__" : Str)) = false := by decide) : EV X E (.Call (.Name x p) [] [] pos) (aCall m []) := by
  obtain ⟨f, fd, hm, hkp, hb, F, _⟩ := h
  refine PE.imp (pe_callS0 F (hr.mono hkk) hg hm hkp hb (fun σ => L2N.passAt tk σ) hdb) fun σ H Q ⟨ρ, G, er, h⟩ => ?_
  have h2 : Out X.K E ((callM m [] ρ).bind fun p ρ2 => match p.1 with
        | .rt d => R.ok d ρ2
        | .nx => .ok .none ρ2
        | _ => .bad) ρ σ H G (ZE X.K Q) := h
  refine call_read (kk := 0) (N := N) er .nil rfl (Nat.zero_le _) h2 (fun ρ' ρ2 => ⟨rfl, rfl⟩) fun fl ρ' ρ2 v H' G' hv e2 s2 h3 => ?_
  cases fl with
  | rt d => exact h3 H' G' e2 s2 v hv
  | nx => exact h3 H' G' e2 s2 v (by cases hv; exact .non)
  | rf ds => exact h3.elim
  | bk => exact hv.elim
  | ct => exact hv.elim
end
end SW
set_option Elab.async false
set_option linter.all false
set_option maxRecDepth 100000
set_option maxHeartbeats 2000000
/-! SWNew: reversed, append, op= at a place, join, lists of one's own in pairs. -/
namespace SW
open PySem PySem.Spec PyProof.Rows L2 RT
variable [Tab]
/-! ### reversed -/
def revD : D → Option (List D)
  | .list ds => some ds.reverse
  | .tuple ds => some ds.reverse
  | _ => none
def iRevD (f : AE) : AM (List D) := fun ρ => (f ρ).bind fun d ρ1 => match revD d with
  | some ds => .ok ds ρ1
  | none => .bad
section
variable {bb : Bool} {K : PySem.W.Frag} {G : Hp}
theorem rev_at {α : Type} {xs : List α} {i : Nat} (h : i < xs.length) : xs.reverse[i]? = xs[xs.length - 1 - i]? := by
  rw [List.getElem?_reverse h]
theorem walkD_rev {a : Addr} {vs : List V} {ds : List D} (h : SqL K G a vs) (dp : DpAll K G vs ds) : WalkD bb K G (Itv K a vs.length) ds.reverse where
  goes := fun i Hc hi s => by
    rw [List.length_reverse] at hi
    exact ⟨by rw [dp.len]; exact hi, vs, vs[vs.length - 1 - i]'(by rw [dp.len]; omega), s.seq h, List.getElem?_eq_getElem _⟩
  stops := fun Hc s => by
    show vs.length ≤ _
    rw [List.length_reverse, dp.len]
    exact Nat.le_refl _
  yields := fun i Hc x H' hi s y => by
    rw [List.length_reverse] at hi
    obtain ⟨e1, e2⟩ := y
    have hx := e2 vs (s.seq h)
    rw [rev_at hi]
    have hd : ds[ds.length - 1 - i]? = some ds[ds.length - 1 - i] := List.getElem?_eq_getElem (by omega)
    obtain ⟨v, g1, g2⟩ := dp.get hd
    rw [dp.len, g1] at hx
    cases hx
    exact ⟨_, hd, .inl ⟨e1, g2⟩⟩
theorem walkD_revT {a : Addr} {vs : List V} {ds : List D} (h : SqT K G a vs) (dp : DpAll K G vs ds) : WalkD bb K G (ItvT K a vs.length) ds.reverse where
  goes := fun i Hc hi s => by
    rw [List.length_reverse] at hi
    exact ⟨by rw [dp.len]; exact hi, vs, vs[vs.length - 1 - i]'(by rw [dp.len]; omega), Same.seqT s h, List.getElem?_eq_getElem _⟩
  stops := fun Hc s => by
    show vs.length ≤ _
    rw [List.length_reverse, dp.len]
    exact Nat.le_refl _
  yields := fun i Hc x H' hi s y => by
    rw [List.length_reverse] at hi
    obtain ⟨e1, e2⟩ := y
    have hx := e2 vs (Same.seqT s h)
    rw [rev_at hi]
    have hd : ds[ds.length - 1 - i]? = some ds[ds.length - 1 - i] := List.getElem?_eq_getElem (by omega)
    obtain ⟨v, g1, g2⟩ := dp.get hd
    rw [dp.len, g1] at hx
    cases hx
    exact ⟨_, hd, .inl ⟨e1, g2⟩⟩
end
section
variable {bb : Bool} {X : Cx} {E : WX} {tg e : Expr} {f : AE} {p pos : Pos}
theorem i_rev (hm : X.mg "reversed" = none) (h : EV X E e f) (hg : Gl X "reversed" := by rfl) (hs : starEach [e] X.env = (false, eval e X.env) :: starEach [] X.env := by rfl) : EI bb X E tg (.Call (.Name "reversed" p) [e] [] pos) (iRevD f) :=
  PI_imp (pi_revA hg hm h hs) fun σ H RR ⟨ρ, G, er, h⟩ => by
    unfold iRevD at h
    refine ⟨ρ, G, er, ?_⟩
    cases q : f ρ with
    | err x ρ1 => rw [q] at h; exact h
    | bad => rw [q] at h; exact h.elim
    | ok d ρ1 =>
      rw [q] at h
      intro H1 G1 er1 s1 v dp
      cases d with
      | list ds =>
        cases dp with
        | lst hs ha => exact ⟨_, _, rfl, .inl ⟨er1.sub.seq hs, h H1 G1 er1 s1 _ (walkD_rev hs ha)⟩⟩
      | tuple ds =>
        cases dp with
        | tup hs ha => exact ⟨_, _, rfl, .inr ⟨Same.seqT er1.sub hs, h H1 G1 er1 s1 _ (walkD_revT hs ha)⟩⟩
      | _ => exact h.elim
end
/-! ### append -/
def appAt : SV → D → Option SV
  | .own io ds, d => if ds.length < sizeLine then some (.own io (ds ++ [d])) else none
  | _, _ => none
def sApp (i : Nat) (f : AE) : AS := fun ρ => if isOwn (getSlot ρ i) = true then (f ρ).bind fun d ρ1 => (match appAt (getSlot ρ1 i) d with
  | some r => .ok .nx (setSlot ρ1 i r)
  | none => .bad) else .bad
theorem appAt_ok {sv r : SV} {d : D} (h : appAt sv d = some r) : ∃ io ds, sv = .own io ds ∧ ds.length < sizeLine ∧ r = .own io (ds ++ [d]) := by
  cases sv with
  | own io ds =>
    have h : (if ds.length < sizeLine then some (SV.own io (ds ++ [d])) else none) = some r := h
    split at h
    · rename_i hz
      cases h
      exact ⟨io, ds, rfl, hz, rfl⟩
    · cases h
  | _ => cases h
section
variable {X : Cx} {E : WX} {e : Expr} {f : AE} {p pos apos cpos : Pos}
theorem s_app (i : Nat) {x : Str} (he : EV X E e f) (hN : X.N[i]? = some x := by rfl) (hv : Vis X.env.scope x := by first | exact .inl rfl | exact .inr (.inl rfl) | exact .inr (.inr rfl)) (hd : (x == ("__debug__" : Str)) = false := by decide) (hcd : (x == ("__classdict__" : Str)) = false := by decide)
    (hs : swapsWith (.Call (.Attribute (.Name x p) "append" apos) [e] [] cpos) none pos.line X.env = pure false := by rfl)
    (hbase : attributeBase (.Name x p) "append" X.env (eval (.Name x p) X.env) = eval (.Name x p) X.env := by rfl)
    (hfew : ((backTo cpos (starEach [e] X.env)).all (fun x => !x.1) && (backToKw cpos (keywordEach [] X.env)).all (fun x => x.1.isSome)
      && decide ([e].length + ([] : List Keyword).length + (if ([] : List Keyword).isEmpty then 0 else 1) < 30)) = true := by rfl)
    (hline : (apos.endLine == cpos.line) = true := by rfl) (hs1 : starEach [e] X.env = (false, eval e X.env) :: starEach [] X.env := by rfl) (hplain : (backTo cpos (starEach [] X.env)).any (·.1) = false := by rfl) :
    SS X E (.Expr (.Call (.Attribute (.Name x p) "append" apos) [e] [] cpos) pos) (sApp i f) :=
  PS.imp (ps_expr (pe_bm2 PySem.F.plainAttrs_list PySem.F.slot_list_append PySem.F.type_list_append mt_append (pe_var hN hv hd hcd) (pa_cons he pa_nil hs1) hbase hfew hline hs1 hplain) hs) fun Dn σ H ⟨ρ, G, er, h⟩ => by
    unfold sApp at h
    split at h
    · rename_i ho
      obtain ⟨io0, ds0, eo0⟩ := isOwn_at ho
      obtain ⟨a0, vs0, ea0, ga0, ha0, _⟩ := er.own i io0 ds0 eo0
      refine ⟨_, ea0, .inl (.inl ⟨rfl, _, .inl (.inl ha0)⟩), ρ, G, er, (out_outS h).imp fun d ρ1 H1 G1 er1 s1 z v dp => ?_⟩
      split at z
      · rename_i r er'
        obtain ⟨io, ds, eo, hz, rfl⟩ := appAt_ok er'
        have eo := getSlot_own eo
        obtain ⟨a, vs, h1, h2, h3, h4⟩ := er1.own i io ds eo
        rw [ea0] at h1
        cases h1
        obtain ⟨er2, s2⟩ := er1.ownSet (ds' := ds ++ [d]) (us := vs ++ [v]) eo ea0 (h4.app (.cons dp .nil))
        exact ⟨a0, vs, v, rfl, rfl, h3, by rw [h4.len]; exact hz, z σ _ _ er2 s2⟩
      · exact z.elim
    · exact h.elim
end
/-! ### xs[i] op= e -/
theorem get_list {X : Cx} : PGet X (rIxL X.K) := by
  intro pins s σ H o i ov iv Q I ro ri h
  obtain ⟨p, xs, k, z, rfl, rfl, hq, he, q⟩ := h
  cases ro
  obtain ⟨t, rfl⟩ := ri
  obtain ⟨its, r, pl, hz⟩ := I.list hq
  obtain ⟨j, h1, h2, h3, h4, h5⟩ := atI_get he
  obtain ⟨w, ew, rw'⟩ := r.get h2
  have hl := r.length
  have hn := line63
  have fin : EP X pins σ Q w s := ⟨z, H, I, rw', q⟩
  by_cases h0 : 0 ≤ k
  · have hj : k.toNat = j := by
      rw [seqIndex_of h0 h5] at h1
      exact Option.some.inj h1
    exact wpAny_mono (wpAny_getItem_list (Q := fun r s' => r = w ∧ EP X pins σ Q r s') pl.isList h0 (by omega) (by rw [hj]; simpa using ew) ⟨rfl, fin⟩) (fun _ _ z => z.2) fun _ _ z => z
  · have hj : (k + (its.toArray.size : Int)).toNat = j := by
      rw [seqIndex_neg (by omega) h4] at h1
      rw [List.size_toArray, ← hl]
      exact Option.some.inj h1
    exact wpAny_mono (wpAny_getItem_list_neg (Q := fun r s' => r = w ∧ EP X pins σ Q r s') pl.isList (by omega) (by rw [List.size_toArray] <;> omega) (by omega) (by rw [hj]; simpa using ew) ⟨rfl, fin⟩) (fun _ _ z => z.2) fun _ _ z => z
def itemAt : SV → D → Option D
  | .own _ ds, .int n => atI ds n
  | _, _ => none
def sAugI (i : Nat) (g : Int → Int → Int) (fi fe : AE) : AS := fun ρ => if isOwn (getSlot ρ i) = true then (fi ρ).bind fun k ρ1 => (match itemAt (getSlot ρ1 i) k with
  | some (.int old) => (fe ρ1).bind fun y ρ2 => (match y with
    | .int y => (match setAt k (getSlot ρ2 i) (.int (g old y)) with
      | some r => .ok .nx (setSlot ρ2 i r)
      | none => .bad)
    | _ => .bad)
  | _ => .bad) else .bad
section
variable {X : Cx} {E : WX} {ei e : Expr} {fi fe : AE} {p pos tpos : Pos} {op : Operator} {g : Int → Int → Int}
theorem itemAt_ok {sv : SV} {k d : D} (h : itemAt sv k = some d) : ∃ io ds n, sv = .own io ds ∧ k = .int n ∧ atI ds n = some d := by
  cases sv with
  | own io ds =>
    cases k with
    | int n => exact ⟨io, ds, n, rfl, rfl, h⟩
    | _ => cases h
  | _ => cases k <;> cases h
theorem s_augI (i : Nat) {x : Str} (hp : PIp X op (ipI g)) (hi : EV X E ei fi) (he : EV X E e fe) (hN : X.N[i]? = some x := by rfl) (hv : Vis X.env.scope x := by first | exact .inl rfl | exact .inr (.inl rfl) | exact .inr (.inr rfl)) (hd : (x == ("__debug__" : Str)) = false := by decide) (hcd : (x == ("__classdict__" : Str)) = false := by decide)
    (ha : ∀ ov iv new, augStore ei ov iv new = (do holding [new, ov, iv] (setItem ov iv new); release [new, ov, iv] []; pure .next) := by intros; rfl) :
    SS X E (.AugAssign (.Subscript (.Name x p) ei tpos) op e pos) (sAugI i g fi fe) :=
  PS.imp (ps_augS (pe_var hN hv hd hcd) hi get_list he hp set_list ha) fun Dn σ H ⟨ρ, G, er, h⟩ => by
    unfold sAugI at h
    split at h
    · rename_i ho
      obtain ⟨io0, ds0, eo0⟩ := isOwn_at ho
      obtain ⟨a0, vs0, ea0, _⟩ := er.own i io0 ds0 eo0
      refine ⟨_, ea0, ρ, G, er, (out_outS h).imp fun k ρ1 H1 G1 er1 s1 z iv dpk => ?_⟩
      split at z
      · rename_i old eold
        obtain ⟨io, ds, n, eo, rfl, eat⟩ := itemAt_ok eold
        have eo := getSlot_own eo
        obtain ⟨a, vs, h1, h2, h3, h4⟩ := er1.own i io ds eo
        rw [ea0] at h1
        cases h1
        cases dpk
        obtain ⟨v, ev, dv⟩ := atI_dp h4 eat
        cases dv
        refine ⟨a0, vs, n, _, rfl, rfl, .inl (.inl h3), ev, ρ1, G1, er1, (out_outS z).imp fun y ρ2 H2 G2 er2 s2 z2 yv dpy => ?_⟩
        cases y with
        | int y =>
          cases dpy
          dsimp only at z2
          split at z2
          · rename_i r er'
            obtain ⟨n', io', ds', j, e1, eo', ej, rfl⟩ := setAt_ok er'
            cases e1
            have eo' := getSlot_own eo'
            obtain ⟨a', vs', k1, k2, k3, k4⟩ := er2.own i io' ds' eo'
            rw [ea0] at k1
            cases k1
            refine ⟨_, _, rfl, rfl, a0, vs', n, j, rfl, rfl, k3, by rw [k4.len]; exact ej, ?_⟩
            obtain ⟨er3, s3⟩ := er2.ownSet (ds' := ds'.set j (.int (g old y))) (us := vs'.set j (.int (g old y))) eo' ea0 (k4.set (.int _) j)
            exact z2 σ _ _ er3 s3
          · exact z2.elim
        | _ => exact z2.elim
      · exact z.elim
    · exact h.elim
end
/-! ### ''.join(..) -/
def strsOf : List D → Option (List Str)
  | [] => some []
  | .str i :: r => (match strsOf r with
    | some l => some (i :: l)
    | none => none)
  | _ => none
theorem strsOf_ok : ∀ {ds : List D} {ns : List Str}, strsOf ds = some ns → ds = ns.map PyData.str
  | [], ns, h => by cases h; rfl
  | d :: r, ns, h => by
    unfold strsOf at h
    split at h
    · rename_i e; cases e
    · rename_i i r' e
      cases e
      cases q : strsOf r with
      | none => rw [q] at h; cases h
      | some l =>
        rw [q] at h
        cases h
        rw [strsOf_ok q]
        rfl
    · cases h
theorem dpAll_strs {K : PySem.W.Frag} {H : Hp} : ∀ {vs : List V} {ns : List Str}, DpAll K H vs (ns.map PyData.str) → vs = ns.map V.str
  | _, [], h => by cases h; rfl
  | _, n :: r, h => by
    cases h with
    | cons a t =>
      cases a
      rw [dpAll_strs t]
      rfl
def F_join : List D → Option D
  | [.str a, .list ds] => (match strsOf ds with
    | some ys => if (ys.map (·.length)).sum + ys.length * a.length ≤ 16777216 then some (.str (Txt.join a ys)) else none
    | none => none)
  | [.str a, .tuple ds] => (match strsOf ds with
    | some ys => if (ys.map (·.length)).sum + ys.length * a.length ≤ 16777216 then some (.str (Txt.join a ys)) else none
    | none => none)
  | _ => none
section
variable {X : Cx} {E : WX} {o e : Expr} {oo oe : Opd} {apos pos : Pos}
theorem join_end {K : PySem.W.Frag} {H G : Hp} {v y : V} {d d2 r : D} {Q : VK} (s : Same G H) (b1 : DpB K G H v d) (b2 : DpB K G H y d2) (e : F_join [d, d2] = some r) (q : ∀ v, Dp K G v r → Q v H) :
    ∃ a p, ∃ ys : List Str, v = .str a ∧ [y] = [.ref p] ∧ (SqL K H p (ys.map V.str) ∨ SqT K H p (ys.map V.str)) ∧ (ys.map (·.length)).sum + ys.length * a.length ≤ 16777216 ∧ Q (.str (Txt.join a ys)) H := by
  unfold F_join at e
  split at e
  · rename_i a ds e1
    cases e1
    split at e
    · rename_i ys ey
      split at e
      · rename_i hz
        cases e
        obtain ⟨p, vs, rfl, h1, h2⟩ := b2.list s
        rw [strsOf_ok ey] at h2
        rw [dpAll_strs h2] at h1
        exact ⟨a, p, ys, b1.str, rfl, .inl h1, hz, q _ (.str _)⟩
      · cases e
    · cases e
  · rename_i a ds e1
    cases e1
    split at e
    · rename_i ys ey
      split at e
      · rename_i hz
        cases e
        obtain ⟨p, vs, rfl, h1, h2⟩ := b2.tup s
        rw [strsOf_ok ey] at h2
        rw [dpAll_strs h2] at h1
        exact ⟨a, p, ys, b1.str, rfl, .inr h1, hz, q _ (.str _)⟩
      · cases e
    · cases e
  · cases e
theorem F_join_str {d d2 r : D} (e : F_join [d, d2] = some r) : ∃ a, d = .str a := by
  unfold F_join at e
  split at e
  · rename_i a ds e1; cases e1; exact ⟨a, rfl⟩
  · rename_i a ds e1; cases e1; exact ⟨a, rfl⟩
  · cases e
theorem evs_one {oe : Opd} {ρ : En} : evs [oe] ρ = (oe.ev ρ).bind fun w ρ2 => R.ok [w] ρ2 := by
  unfold evs
  cases oe.ev ρ <;> rfl
theorem rb_assoc {α β γ : Type} {r : R α} {f : α → En → R β} {g : β → En → R γ} : (r.bind f).bind g = r.bind fun a ρ => (f a ρ).bind g := by
  cases r <;> rfl
theorem u_join (ho : EO X E o oo) (he : EO X E e oe) (hs : starEach [e] X.env = [(false, eval e X.env)] := by rfl) (hbase : attributeBase o "join" X.env (eval o X.env) = eval o X.env := by rfl) (hline : (apos.endLine == pos.line) = true := by rfl) :
    EV X E (.Call (.Attribute o "join" apos) [e] [] pos) (aMeth .str F_join oo [oe]) :=
  PE.imp (pe_join ho he hs hbase hline) fun σ H Q ⟨ρ, G, er, h⟩ => opd_step er h fun v ov ρ1 H1 G1 er1 s1 rel h1 => by
    cases q : ov.get ρ1 with
    | none => rw [q] at h1; exact h1.elim
    | some d =>
      rw [q] at h1
      dsimp only at h1
      split at h1
      · rename_i ht
        have hb := rel.get er1 q
        obtain ⟨a, ea⟩ : ∃ a, d = .str a := by
          cases d with
          | str a => exact ⟨a, rfl⟩
          | _ => cases ht
        subst ea
        refine ⟨⟨a, hb.str⟩, ?_⟩
        rw [evs_one, rb_assoc] at h1
        refine opd_step er1 h1 fun w ow ρ2 H2 G2 er2 s2 relw h2 => ?_
        dsimp only [R.bind_ok] at h2
        cases q2 : getAll ρ2 [ov, ow] with
        | none => rw [q2] at h2; exact h2.elim
        | some ds =>
          rw [q2] at h2
          dsimp only at h2
          have rels : ORels X.K σ G2 [v, w] [ov, ow] := .cons (rel.mono s2.sg) (.cons relw .nil)
          have bs := rels.get er2 q2
          cases bs with
          | cons b1 t =>
            cases t with
            | cons b2 t =>
              cases t
              cases q3 : F_join [_, _] with
              | none => rw [q3] at h2; exact h2.elim
              | some r =>
                rw [q3] at h2
                exact join_end er2.sub b1 b2 q3 fun v dp => h2 H2 G2 er2 .refl v dp
      · exact h1.elim
end
/-! ### while an exception is handled -/
def iSeqL (f : AE) : AM (List D) := fun ρ => (f ρ).bind fun d ρ1 => match d with
  | .list ds => .ok ds ρ1
  | _ => .bad
section
variable {bb : Bool} {X : Cx} {E : WX} {tg e : Expr} {f : AE} {pos : Pos}
abbrev EIK (bb : Bool) (X : Cx) (E : WX) (tg iter : Expr) (it : AM (List D)) : Prop := SWH.PIK X tg iter (tI bb X.K E it)
theorem iK_seq (h : EV X E e f) : EIK bb X E tg e (iSeqL f) := ⟨fun pins s σ H RR I ⟨ρ, G, er, h0⟩ => (SWH.piK_list h).run pins s σ H RR I (by
  unfold iSeqL at h0
  refine ⟨ρ, G, er, ?_⟩
  cases q : f ρ with
  | err x ρ1 => rw [q] at h0; exact h0
  | bad => rw [q] at h0; exact h0.elim
  | ok d ρ1 =>
    rw [q] at h0
    intro H1 G1 er1 s1 v dp
    cases d with
    | list ds =>
      cases dp with
      | lst hs ha => exact ⟨_, rfl, ⟨_, er1.sub.seq hs⟩, h0 H1 G1 er1 s1 _ (walkD_list hs ha)⟩
    | _ => exact h0.elim)⟩
theorem gK_tup {es : List Expr} {k : Nat} {gs : List AG} {ws : List Nat} (hk : SWH.HotK X) (h : EGs X es gs ws) (hn : (assignEach es X.env).length = gs.length := by rfl) (hst : (assignEach es X.env).findIdx? (·.1) = none := by rfl) : EG bb X (.Tuple es k pos) (gTupA gs) ws :=
  ⟨fun pins s σ H v u Q I r hw => (SWH.pgK_tup (k := k) (pos := pos) (n := gs.length) hk h hn hst).run pins s σ H v u Q I r (by
    obtain ⟨ρ, G, d, er, dp, h⟩ := hw
    cases d with
    | tuple ds =>
      have h' : OutG X.K ws (gsRun gs ds ρ) ρ σ H G Q := h
      obtain ⟨a, xs, rfl, hs, ha⟩ : ∃ a xs, v = .ref a ∧ SqT X.K H a xs ∧ DpAll X.K G xs ds := by
        rcases dp with dp | ⟨_, T, xs, ds', rfl, e, hT, ha⟩
        · cases dp with
          | tup hs ha => exact ⟨_, _, rfl, Same.seqT er.sub hs, ha⟩
        · cases e
          exact ⟨T, xs, rfl, .inl (.inl hT), ha⟩
      refine ⟨_, _, rfl, hs, ?_, ρ, G, ds, er, ha, h'⟩
      rw [ha.len]
      cases q : gsRun gs ds ρ with
      | ok a ρ1 => exact gsRun_len q
      | err x ρ1 => rw [q] at h'; exact h'.elim
      | bad => rw [q] at h'; exact h'.elim
    | _ => exact h.elim)⟩
theorem fK_comp {elt iter : Expr} {ifs : List Expr} {scope : Scope} {own : List (Str × Nat)} {ws : List Nat} {it : AM (List D)} {g : AG} {tt : AM Bool} {te : AE} (hk : SWH.HotK X) (hN : X.N.Nodup) (hi : EIK bb X E tg iter it) (ok : BlkOk X.N X.env.scope scope own)
    (hg : ∀ (s : Shared) (H : Hp) (C : Addr) (cl : List (Str × Addr)) (fp : List Addr), SWH.HotK (X.blk s H scope (compEnvC scope cl C X.env) fp) → EG bb (X.blk s H scope (compEnvC scope cl C X.env) fp) tg g ws) (ht : ∀ (s : Shared) (H : Hp) (C : Addr) (cl : List (Str × Addr)) (fp : List Addr), SWH.HotK (X.blk s H scope (compEnvC scope cl C X.env) fp) → ETs (X.blk s H scope (compEnvC scope cl C X.env) fp) noE ifs tt)
    (he : ∀ (s : Shared) (H : Hp) (C : Addr) (cl : List (Str × Addr)) (fp : List Addr), SWH.HotK (X.blk s H scope (compEnvC scope cl C X.env) fp) → EV (X.blk s H scope (compEnvC scope cl C X.env) fp) noE elt te) (hw : ∀ i ∈ ws, i ∈ own.map (·.2) := by decide) (hs : ∀ x, foldedSetIterable iter X.env x = pure x := by intro _; rfl) :
    EF X E (.ListComp elt [⟨tg, iter, ifs, 0⟩] scope pos) (fComp (own.map (·.2)) it g tt te) :=
  PE.imp (SWH.peK_lc hk hN hi ok hg ht he hs) fun σ H Q h => comp_read hw h
end
/-! ### what a class is told as -/
def isSub (t : List (Str × Str)) (x : Ex) (C : Str) : Bool := t.any fun p => decide (p.1 = x.cls) && decide (p.2 = C)
def tell2B (K : PySem.W.Frag) (S : Str) (Cs cls : List Str) (t : List (Str × Str)) : Bool := cls.all fun x => decide (PySem.W.exmOne K (.ref (He.ga K x)) (.ref (He.ga K S)) = some true) && (excCB K (He.ga K x) &&
  Cs.all fun C => decide (PySem.W.kitOne K (.ref (He.ga K x)) (.ref (He.ga K C)) = some (isSub t ⟨x, []⟩ C)))
def tellD (cls : List Str) (bs : Ex → AS) (n i : Nat) : Ex → Option D := fun x => if x.fs.isEmpty && cls.contains x.cls then (match bs x (suiteE n i) with
  | .ok (.rt d) _ => some d
  | _ => none) else none
theorem tell2_ok {K : PySem.W.Frag} {S : Str} {Cs cls : List Str} {t : List (Str × Str)} {bs : Ex → AS} {n i : Nat} (h : tell2B K S Cs cls t = true) (x : Ex) (d : D) (e : tellD cls bs n i x = some d) :
    x.fs = [] ∧ PySem.W.exmOne K (.ref (He.ga K x.cls)) (.ref (He.ga K S)) = some true ∧ ExcC K (He.ga K x.cls) ∧ ∃ ρ', bs x (suiteE n i) = .ok (.rt d) ρ' := by
  unfold tellD at e
  split at e
  · rename_i hz
    obtain ⟨z1, z2⟩ := Bool.and_eq_true_iff.mp hz
    have h2 := List.all_eq_true.mp h x.cls (List.contains_iff_mem.mp z2)
    simp only [Bool.and_eq_true, decide_eq_true_eq] at h2
    split at e
    · rename_i d' ρ' q
      cases e
      exact ⟨List.isEmpty_iff.mp z1, h2.1, excC_ok h2.2.1, ρ', q⟩
    · cases e
  · cases e
theorem tell2_kit {K : PySem.W.Frag} {S : Str} {Cs cls : List Str} {t : List (Str × Str)} {bs : Ex → AS} {n i : Nat} (h : tell2B K S Cs cls t = true) {x : Ex} {d : D} (e : tellD cls bs n i x = some d) {C : Str} (hC : C ∈ Cs) :
    PySem.W.kitOne K (.ref (He.ga K x.cls)) (.ref (He.ga K C)) = some (isSub t x C) := by
  unfold tellD at e
  split at e
  · rename_i hz
    obtain ⟨z1, z2⟩ := Bool.and_eq_true_iff.mp hz
    have h2 := List.all_eq_true.mp h x.cls (List.contains_iff_mem.mp z2)
    simp only [Bool.and_eq_true, decide_eq_true_eq, List.all_eq_true] at h2
    exact h2.2.2 C hC
  · cases e
theorem tell2_exc {K : PySem.W.Frag} {S : Str} {Cs cls : List Str} {t : List (Str × Str)} {bs : Ex → AS} {n i : Nat} (h : tell2B K S Cs cls t = true) {x : Ex} {d : D} (e : tellD cls bs n i x = some d) : ExcC K (He.ga K x.cls) := (tell2_ok h x d e).2.2.1
/-! ### a, b = c, d, of which some are lists of one's own -/
inductive PIt where
  | v (f : AE)
  | o (f : AM (List D))
def PIt.ev : PIt → AM SV
  | .v f => fun ρ => (f ρ).bind fun d ρ1 => .ok (.pl d) ρ1
  | .o f => fun ρ => (f ρ).bind fun d ρ1 => .ok (.own false d) ρ1
def tP (K : PySem.W.Frag) (E : WX) : PIt → TE
  | .v f => tX K E f
  | .o f => tF K E f
abbrev EPt (X : Cx) (E : WX) (e : Expr) (p : PIt) : Prop := PE X e (tP X.K E p)
def put2 (i j : Nat) (s t : SV) : AS := fun ρ => if isIo (getSlot ρ i) = true then .bad else if isIo (getSlot (setSlot ρ i s) j) = true then .bad else .ok .nx (setSlot (setSlot ρ i s) j t)
def sPar2 (i j : Nat) (p q : PIt) : AS := fun ρ => (p.ev ρ).bind fun s ρ1 => (q.ev ρ1).bind fun t ρ2 => put2 i j s t ρ2
/-- what waits to be stored -/
def Pend (K : PySem.W.Frag) (ρ : En) (σ : L2.St) (H G : Hp) (v : V) : SV → Prop
  | .pl d => Dp K G v d
  | .own false ds => ∃ a vs, v = .ref a ∧ G a = none ∧ H a = some (.lst vs) ∧ ¬ Owned ρ σ a ∧ DpAll K G vs ds
  | _ => False
theorem Pend.keep {K : PySem.W.Frag} {ρ ρ1 : En} {σ : L2.St} {H G H1 G1 : Hp} {v : V} {s : SV} (p : Pend K ρ σ H G v s) (st : Step ρ σ H G ρ1 σ H1 G1) : Pend K ρ1 σ H1 G1 v s := by
  cases s with
  | pl d => exact dp_mono st.sg _ _ p
  | own io ds =>
    cases io with
    | true => exact p.elim
    | false =>
      obtain ⟨a, vs, e, h1, h2, h3, h4⟩ := p
      obtain ⟨k1, k2⟩ := st.keep a _ h2 nt_lst h3
      refine ⟨a, vs, e, k2.trans h1, k1, fun z => ?_, dpAll_mono st.sg _ _ h4⟩
      rcases st.osub a z with z | z
      · exact h3 z
      · rw [h2] at z; cases z
  | un => exact p.elim
  | raw _ => exact p.elim
theorem Pend.put {K : PySem.W.Frag} {ρ : En} {σ : L2.St} {H G : Hp} {i : Nat} {v : V} {s : SV} (er : ER K ρ σ H G) (p : Pend K ρ σ H G v s) (hn : ¬ isIo (getSlot ρ i) = true) (H0 : Hp) (hs : ∀ a, v = .ref a → isOwn s = true → H0 a = none) (ρ0 : En) (σ0 : L2.St) (G0 : Hp) (st0 : Step ρ0 σ0 H0 G0 ρ σ H G) :
    ER K (ρ.set i s) (σ.set i (some v)) H G ∧ Step ρ0 σ0 H0 G0 (ρ.set i s) (σ.set i (some v)) H G := by
  cases s with
  | pl d =>
    obtain ⟨e1, s1⟩ := er.put hn p
    exact ⟨e1, st0.trans s1⟩
  | own io ds =>
    cases io with
    | true => exact p.elim
    | false =>
      obtain ⟨a, vs, rfl, h1, h2, h3, h4⟩ := p
      exact ⟨er.putOwn hn h1 h2 h3 h4, st0.putOwn er.len hn (hs a rfl rfl)⟩
  | un => exact p.elim
  | raw _ => exact p.elim
/-- an item, then the rest -/
theorem pit_step {K : PySem.W.Frag} {E : WX} {ρ : En} {σ : L2.St} {H G : Hp} {β : Type} {p : PIt} {k : SV → En → R β} {Z : β → En → Hp → Hp → Prop} {Q : VK} (er : ER K ρ σ H G) (h : Out K E ((p.ev ρ).bind k) ρ σ H G Z)
    (q : ∀ v s ρ1 H1 G1, ER K ρ1 σ H1 G1 → Step ρ σ H G ρ1 σ H1 G1 → Pend K ρ1 σ H1 G1 v s → (∀ a, v = .ref a → isOwn s = true → H a = none) → Out K E (k s ρ1) ρ1 σ H1 G1 Z → Q v H1) : tP K E p σ H Q := by
  cases p with
  | v f =>
    refine ⟨ρ, G, er, ?_⟩
    have e : ((PIt.v f).ev ρ).bind k = (f ρ).bind fun d ρ' => k (.pl d) ρ' := by
      show ((f ρ).bind _).bind k = _
      cases f ρ <;> rfl
    rw [e] at h
    exact (Out.split h).imp fun d ρ1 H1 G1 e1 s1 z v dp => q v (.pl d) ρ1 H1 G1 e1 s1 dp (fun a _ z => by cases z) z
  | o f =>
    refine ⟨ρ, G, er, ?_⟩
    have e : ((PIt.o f).ev ρ).bind k = (f ρ).bind fun d ρ' => k (.own false d) ρ' := by
      show ((f ρ).bind _).bind k = _
      cases f ρ <;> rfl
    rw [e] at h
    exact (Out.split h).imp fun d ρ1 H1 G1 e1 s1 z a vs n0 n1 e2 no dps => q (.ref a) (.own false d) ρ1 H1 G1 e1 s1 ⟨a, vs, rfl, n1, e2, no, dps⟩ (fun b eb _ => by cases eb; exact n0) z
theorem tp_imp {K : PySem.W.Frag} {E : WX} {p : PIt} {σ : L2.St} {H : Hp} {Q Q' : VK} (h : tP K E p σ H Q) (i : ∀ v H', Q v H' → Q' v H') : tP K E p σ H Q' := by
  cases p with
  | v f =>
    obtain ⟨ρ, G, er, h⟩ := h
    exact ⟨ρ, G, er, h.imp fun d ρ' H' G' _ _ z v dp => i _ _ (z v dp)⟩
  | o f =>
    obtain ⟨ρ, G, er, h⟩ := h
    exact ⟨ρ, G, er, h.imp fun d ρ' H' G' _ _ z a vs n0 n1 e no dps => i _ _ (z a vs n0 n1 e no dps)⟩
theorem le_sz2 : 2 ≤ sizeLine := by rw [sizeLine_eq]; decide
section
variable {X : Cx} {E : WX} {pos : Pos}
theorem par2_core {i j : Nat} {p q : PIt} {Dn : Ends} {ρ : En} {σ : L2.St} {H G : Hp} (er : ER X.K ρ σ H G) (h : OutS X.K E (sPar2 i j p q ρ) ρ σ H G Dn) :
    tP X.K E p σ H fun v H1 => tP X.K E q σ H1 fun w H2 => ∃ ρ2 G2, ER X.K ρ2 σ H2 G2 ∧ ∀ H3 G3, ER X.K ρ2 σ H3 G3 → Step ρ2 σ H2 G2 ρ2 σ H3 G3 → Dn.nx ((σ.set i (some v)).set j (some w)) H3 := by
  have h0 : Out X.K E ((p.ev ρ).bind fun s ρ1 => R.ok s ρ1) ρ σ H G (fun s ρ1 H1 G1 => ER X.K ρ1 σ H1 G1 ∧ Step ρ σ H G ρ1 σ H1 G1 ∧ OutS X.K E ((q.ev ρ1).bind fun t ρ2 => put2 i j s t ρ2) ρ σ H G Dn) := by
    have e : (p.ev ρ).bind (fun s ρ1 => R.ok s ρ1) = p.ev ρ := by cases p.ev ρ <;> rfl
    rw [e]
    exact out_outS0 (r := p.ev ρ) (f := fun s ρ1 => (q.ev ρ1).bind fun t ρ2 => put2 i j s t ρ2) h
  refine pit_step er h0 fun v s ρ1 H1 G1 er1 s1 pe1 n1 z => ?_
  obtain ⟨_, _, z⟩ := z H1 G1 er1 .refl
  have h3 : Out X.K E ((q.ev ρ1).bind fun s ρ1 => R.ok s ρ1) ρ1 σ H1 G1 (fun t ρ2 H2 G2 => ER X.K ρ2 σ H2 G2 ∧ Step ρ σ H G ρ2 σ H2 G2 ∧ OutS X.K E (put2 i j s t ρ2) ρ σ H G Dn) := by
    have e : (q.ev ρ1).bind (fun s ρ1 => R.ok s ρ1) = q.ev ρ1 := by cases q.ev ρ1 <;> rfl
    rw [e]
    exact Out.shift (out_outS0 (r := q.ev ρ1) (f := fun t ρ2 => put2 i j s t ρ2) z) s1
  refine pit_step er1 h3 fun w t ρ2 H2 G2 er2 s2 pe2 n2 z2 => ?_
  obtain ⟨_, _, z2⟩ := z2 H2 G2 er2 .refl
  refine ⟨ρ2, G2, er2, fun H3 G3 er2 s3 => ?_⟩
  unfold put2 at z2
  split at z2
  · exact z2.elim
  · rename_i g1
    split at z2
    · exact z2.elim
    · rename_i g2
      have pe1' := (pe1.keep s2).keep s3
      have pe2 := pe2.keep s3
      obtain ⟨er3, st3⟩ := Pend.put (i := i) er2 pe1' g1 H n1 ρ σ G ((s1.trans s2).trans s3)
      have pe2' : Pend X.K (ρ2.set i s) (σ.set i (some v)) H3 G3 w t := by
        cases t with
        | pl d => exact pe2
        | own io ds =>
          cases io with
          | true => exact pe2.elim
          | false =>
            obtain ⟨a2, vs, e, k1, k2, k3, k4⟩ := pe2
            refine ⟨a2, vs, e, k1, k2, fun ⟨m, io, es, o1, o2⟩ => ?_, k4⟩
            have n2' := n2 a2 e rfl
            rcases set_get o1 with ⟨rfl, e1, hl⟩ | ⟨hm, o1⟩
            · rw [List.getElem?_set_self (by rw [← er2.len]; exact hl)] at o2
              have ev : v = .ref a2 := Option.some.inj (Option.some.inj o2)
              rw [← e1] at pe1
              cases io with
              | true => exact pe1.elim
              | false =>
                obtain ⟨a1, vs1, e5, _, j2, _⟩ := pe1
                rw [ev] at e5
                cases e5
                rw [n2'] at j2
                cases j2
            · rw [List.getElem?_set_ne (Ne.symm hm)] at o2
              exact k3 ⟨m, io, es, o1, o2⟩
        | un => exact pe2.elim
        | raw _ => exact pe2.elim
      obtain ⟨er4, st4⟩ := Pend.put (i := j) er3 pe2' g2 H (fun a e o => s1.there a (n2 a e o)) ρ σ G st3
      exact z2 _ H3 G3 er4 st4
theorem s_par2 {i j : Nat} {x y : Str} {a b : Expr} {p q : PIt} {px py pt : Pos} {kt k2 pt2} (hc : X.calm = true) (hN : X.N.Nodup) (hi : X.N[i]? = some x) (hj : X.N[j]? = some y)
    (hx : X.env.scope.names.lookup x = some .local) (hy : X.env.scope.names.lookup y = some .local) (ha : EPt X E a p) (hb : EPt X E b q) (hij : i ≠ j := by decide)
    (hw : swappedStores [.Tuple [.Name x px, .Name y py] kt pt] (.Tuple [a, b] k2 pt2) X.env = pure (some [x, y]) := by rfl) (hs : swapsWithSole [.Tuple [.Name x px, .Name y py] kt pt] (.Tuple [a, b] k2 pt2) pos.line X.env = pure false := by rfl)
    (h1 : starEach [a, b] X.env = (false, eval a X.env) :: starEach [b] X.env := by rfl) (h2 : starEach [b] X.env = (false, eval b X.env) :: starEach [] X.env := by rfl) :
    SS X E (.Assign [.Tuple [.Name x px, .Name y py] kt pt] (.Tuple [a, b] k2 pt2) pos) (sPar2 i j p q) :=
  PS.imp (ps_par hc hN hi hj hij hx hy (pa_cons ha (pa_cons hb pa_nil h2) h1) hw hs) fun Dn σ H ⟨ρ, G, er, h⟩ => by
    have c := par2_core er h
    refine tp_imp c fun v H1 c1 => tp_imp c1 fun w H2 ⟨ρ2, G2, er2, z⟩ => ⟨v, w, rfl, z H2 G2 er2 .refl⟩
/-- .. where a name is a cell: by way of the pair itself -/
theorem s_parT {i j : Nat} {x y : Str} {a b : Expr} {p q : PIt} {px py pt : Pos} {kt k2 pt2} (hc : X.calm = true) (hN : X.N.Nodup) (hi : X.N[i]? = some x) (hj : X.N[j]? = some y) (ha : EPt X E a p) (hb : EPt X E b q)
    (hx : Loc X.env.scope x := by first | exact .inl rfl | exact .inr rfl) (hy : Loc X.env.scope y := by first | exact .inl rfl | exact .inr rfl)
    (fx : X.fn x = true ∨ X.env.scope.names.lookup x = some .local := by first | exact .inr rfl | exact .inl rfl) (fy : X.fn y = true ∨ X.env.scope.names.lookup y = some .local := by first | exact .inr rfl | exact .inl rfl)
    (hw : swappedStores [.Tuple [.Name x px, .Name y py] kt pt] (.Tuple [a, b] k2 pt2) X.env = pure none := by rfl) (hs : swapsWithSole [.Tuple [.Name x px, .Name y py] kt pt] (.Tuple [a, b] k2 pt2) pos.line X.env = pure false := by rfl)
    (h1 : starEach [a, b] X.env = (false, eval a X.env) :: starEach [b] X.env := by rfl) (h2 : starEach [b] X.env = (false, eval b X.env) :: starEach [] X.env := by rfl) :
    SS X E (.Assign [.Tuple [.Name x px, .Name y py] kt pt] (.Tuple [a, b] k2 pt2) pos) (sPar2 i j p q) :=
  PS.imp (ps_asg (pe_tup (pa_cons ha (pa_cons hb pa_nil h2) h1)) (pg_tup (n := 2) hc (pgs_cons (pg_name hN hi hx fx) (pgs_cons (pg_name hN hj hy fy) pgs_nil))) hs hw) fun Dn σ H ⟨ρ, G, er, h⟩ => by
    have c := par2_core er h
    refine tp_imp c fun v H1 c1 => tp_imp c1 fun w H2 ⟨ρ2, G2, er2, z⟩ => ⟨le_sz2, fun T hT => ?_⟩
    exact ⟨T, [v, w], rfl, .inl (.inl upd_same), rfl, v, [w], rfl, w, [], rfl, rfl, z _ _ (er2.lay (o := .tup [v, w]) hT) (er2.stepLay hT)⟩
theorem pt_v {e : Expr} {f : AE} (h : EV X E e f) : EPt X E e (.v f) := h
theorem pt_o {e : Expr} {f : AM (List D)} (h : EF X E e f) : EPt X E e (.o f) := h
end
end SW
set_option Elab.async false
set_option linter.all false
set_option maxRecDepth 100000
set_option maxHeartbeats 2000000
/-! SWEnd: a law by its def's mirror. -/
namespace SW
open PySem PySem.Spec PyProof.Rows L2
/-- the tables of a row's defs with lambdas -/
def tabT (K : PySem.W.Frag) (tf : List (Str × Option Str)) : List (Addr × Str) := tf.map fun p => ((He.cT K p).2, p.1 ++ ".<locals>.<lambda>")
theorem fx_of [Tab] {K : PySem.W.Frag} {w : World} {h : Heap} {mg : Str → Option Value} {fn : List He.DefD} {fa : List He.Fa} {tf : List (Str × Option Str)} {ex : PySem.W.Frag → Bool} (X : K.In h) (G : h.Ns mainGlobals mg) (c : He.SaysX fa fn [] tf ex w h K) (hk : ∀ K, ex K = true → kTupB K = true) : Fx K mg fn fa ex where
  df := fun i d e => c.t.d.def_ i e
  ok := fun i f e => c.t.d.fact i e
  gl := fun x e => He.glo_ok X G e
  fr := fun x e => He.free_ok X G e
  it := fun x n e => He.int_ok X G e
  st := fun x n e => He.str_ok X G e
  kt := kTup_ok (hk K c.more)
  more := c.more
theorem nodup_map_inj {α β : Type} {f : α → β} : ∀ {l : List α}, (l.map f).Nodup → ∀ {a b : α}, a ∈ l → b ∈ l → f a = f b → a = b
  | [], _, _, _, h, _, _ => nomatch h
  | x :: l, nd, a, b, ha, hb, e => by
    rw [List.map_cons, List.nodup_cons] at nd
    rcases List.mem_cons.mp ha with ha1 | ha1
    · rcases List.mem_cons.mp hb with hb1 | hb1
      · rw [ha1, hb1]
      · exact (nd.1 (by rw [← ha1, e]; exact List.mem_map.mpr ⟨b, hb1, rfl⟩)).elim
    · rcases List.mem_cons.mp hb with hb1 | hb1
      · exact (nd.1 (by rw [← hb1, ← e]; exact List.mem_map.mpr ⟨a, ha1, rfl⟩)).elim
      · exact nodup_map_inj nd.2 ha1 hb1 e
theorem er_start [Tab] {K : PySem.W.Frag} {H : Hp} {a : Addr} {ns : List Int} {N : List Str} (hN : 1 ≤ N.length) (hS : SqL K H a (ns.map V.int)) (hT : ∀ p ∈ Tab.T, H p.1 = some (.tbl #[])) :
    ∃ G, ER K ([SV.pl (.list (ns.map .int))] ++ List.replicate (N.length - 1) .un) (L2.start N [.ref a]) H G := by
  have hat : ∀ {i : Nat} {w : SV}, ([SV.pl (.list (ns.map PyData.int))] ++ List.replicate (N.length - 1) SV.un)[i]? = some w → w ≠ .un → i = 0 ∧ w = .pl (.list (ns.map .int)) := fun {i w} e hw => by
    cases i with
    | zero => exact ⟨rfl, by simpa using e.symm⟩
    | succ i =>
      have e2 : (List.replicate (N.length - 1) SV.un)[i]? = some w := by simpa using e
      obtain ⟨h1, h2⟩ := List.getElem?_eq_some_iff.mp e2
      rw [List.getElem_replicate] at h2
      exact (hw h2.symm).elim
  have hg : ∃ G : Hp, Same G H ∧ SqL K G a (ns.map V.int) ∧ ∀ b o, G b = some o → goodO o := by
    rcases hS with (h | ⟨o, h⟩) | h
    · refine ⟨fun b => if b = a then some (.lst (ns.map V.int)) else none, fun b x e => ?_, .inl (.inl (by show ite _ _ _ = _; rw [if_pos rfl])), fun b x e => ?_⟩
      · dsimp only at e
        split at e
        · rename_i hb; rw [hb, h]; exact e
        · cases e
      · dsimp only at e
        split at e
        · cases e; trivial
        · cases e
    · refine ⟨fun b => if b = a then some (.frz o (.lst (ns.map V.int))) else none, fun b x e => ?_, .inl (.inr ⟨o, by show ite _ _ _ = _; rw [if_pos rfl]⟩), fun b x e => ?_⟩
      · dsimp only at e
        split at e
        · rename_i hb; rw [hb, h]; exact e
        · cases e
      · dsimp only at e
        split at e
        · cases e; trivial
        · cases e
    · exact ⟨fun _ => none, (fun b x e => nomatch (show (none : Option HO) = some x from e)), .inr h, fun b x e => nomatch (show (none : Option HO) = some x from e)⟩
  obtain ⟨G, s, sq, ng⟩ := hg
  refine ⟨G, ?_, s, fun i d e => ?_, fun i io ds e => ?_, fun i j io ds io' ds' b h1 h2 h3 h4 => ?_, fun i v e => ?_, ⟨fun p hp => ⟨#[], hT p hp, trivial, fun pos cv e => nomatch (show (none : Option Value) = some cv from e)⟩⟩, ng⟩
  · unfold L2.start
    simp
  · obtain ⟨rfl, e2⟩ := hat e (fun z => nomatch z)
    cases e2
    exact ⟨_, start_get (vs := [V.ref a]) (i := 0) (by simp), .lst sq (DpAll.of_ints ns)⟩
  · exact nomatch (hat e (fun z => nomatch z)).2
  · exact nomatch (hat h1 (fun z => nomatch z)).2
  · exact nomatch (hat e (fun z => nomatch z)).2
theorem hCX {P : Program} {w : World} (H : Hp) (s : Shared) (e : Value) (s' : Shared) : L2N.CX P w [] H s (fun _ _ _ => False) e s' → False := fun ⟨_, _, _, _, _, _, _, _, _, _, _, _, z⟩ => z
/-- the promise of the law's def, where the mirror tells True -/
theorem sp_true [Tab] {K : PySem.W.Frag} {H : Hp} {a : Addr} {ns : List Int} {N : List Str} {m : MF} (hN : 1 ≤ N.length) (hS : SqL K H a (ns.map V.int)) (hT : ∀ p ∈ Tab.T, H p.1 = some (.tbl #[]))
    (hm : ∃ ρ', m [SV.pl (.list (ns.map .int))] = .ok (.rt (.bool true)) ρ') : spF K N 1 m [.ref a] H (fun v _ => v = .bl true) fun _ _ _ => False := by
  obtain ⟨G, er⟩ := er_start hN hS hT
  obtain ⟨ρ', e⟩ := hm
  refine ⟨rfl, [SV.pl (.list (ns.map .int))], G, er, rfl, ?_⟩
  rw [e]
  exact fun ρ' σ' H' G' _ _ _ v dp => by cases dp; rfl
theorem law_at {l : PySem.W.OpenLaw} {w : World} {K : PySem.W.Frag} {mg : Str → Option Value} {fa' : Addr} {h : Heap} {fn : List He.DefD} {fa : List He.Fa} {tf : List (Str × Option Str)} {ex : PySem.W.Frag → Bool} {k n : Nat} {x : Str} {N : List Str} {m : MF}
    (X : K.In h) (G : h.Ns mainGlobals mg) (c : He.SaysX fa fn [] tf ex w h K) (hk : ∀ K, ex K = true → kTupB K = true) (hnd : ∀ K, ex K = true → (tf.map fun p => (He.cT K p).2).Nodup) (hfa : mg "law" = some (.ref fa')) {params : Arguments} {bd : List Stmt} {scope : Scope} (i j : Nat) (hj : fa[j]? = some (.glo "law")) (hi : fn[i]? = some ⟨("law", none), "law", "law", params, bd, scope, [], []⟩)
    (hbd : ∀ (kV doc pm : Value) (an : Option Addr) (cdv ct : Value) (us : List Value), us.length = [x].length → bindArgs (PySem.W.fnOf "law" "law" params bd scope .none kV doc pm an cdv ct) ⟨us, []⟩ = pure ([x].zip us)) (hN : 1 ≤ N.length)
    (ok : ∀ [Tab] (base : Heap), Fx K mg fn fa ex → (∀ p ∈ tf, LamX.TabB base mg (He.cT K p).1 (He.cT K p).2 ∧ ((He.cT K p).2, p.1 ++ ".<locals>.<lambda>") ∈ Tab.T ∧ ∀ z ∈ Tab.T, z.1 = (He.cT K p).2 → z.2 = p.1 ++ ".<locals>.<lambda>") → OkD l.prog w K mg base "law" k [x] N m)
    (hm : ∀ ns : List Int, ns.length ≤ n → (∀ z ∈ ns, Builtin.Int.intBits z ≤ 1048576) → ∃ ρ', m [SV.pl (.list (ns.map .int))] = .ok (.rt (.bool true)) ρ') : LamX.LawAtS l w K (L2N.CX l.prog w) k n x mg fa' h := by
  letI : Tab := ⟨tabT K tf, 0⟩
  have fx := fx_of X G c hk
  obtain ⟨fd, F⟩ := c.t.d.def_ i hi
  have hlk : ∃ oc od osl, K.lookup (He.fAd K ("law", none)) = some ⟨oc, od, .func fd, osl⟩ := by
    obtain ⟨oc, od, dV, kV, doc, pm, an, cdv, ct, osl, _, lk, _⟩ := F.ex
    exact ⟨oc, od, osl, lk⟩
  have memT : ∀ q ∈ Tab.T, ∃ p ∈ tf, q = ((He.cT K p).2, p.1 ++ ".<locals>.<lambda>") := fun q hq => by
    obtain ⟨p, hp, e⟩ := List.mem_map.mp (show q ∈ tabT K tf from hq)
    exact ⟨p, hp, e.symm⟩
  refine ⟨fd, tf.map (He.cT K), spF K N 1 m, fun p hp => ?_, fun p hp => ?_, fun p hp => ?_, fun s v => FunD.bindsA (ps := [x]) F hbd s [v] rfl, fun H a ns hl hb hT hS => ?_, fun base hB hM hTB => ?_⟩
  · obtain ⟨q, hq, e⟩ := List.mem_map.mp hp
    rw [← e]; exact c.empty q hq
  · obtain ⟨q, hq, e⟩ := List.mem_map.mp hp
    rw [← e]; exact c.out q hq
  · obtain ⟨q, hq, e⟩ := List.mem_map.mp hp
    rw [← e]; exact PySem.W.codeHd_of_K X (c.hd q hq)
  · refine sp_true hN hS (fun q hq => ?_) (hm ns hl hb)
    obtain ⟨p, hp, e⟩ := memT q hq
    rw [e]
    exact hT _ (List.mem_map.mpr ⟨p, hp, rfl⟩)
  · obtain ⟨f, fd', h1, h2, h3, h4, oc, od, osl, h5⟩ := ok base fx fun p hp => ⟨hTB _ (List.mem_map.mpr ⟨p, hp, rfl⟩), List.mem_map.mpr ⟨p, hp, rfl⟩, fun z hz ez => by
      obtain ⟨p', hp', e⟩ := memT z hz
      subst e
      have nd := hnd K c.more
      have : p' = p := nodup_map_inj nd hp' hp ez
      rw [this]⟩
    have ef : f = fa' := by
      have := h1.symm.trans hfa
      cases this
      rfl
    subst ef
    have eg : f = He.fAd K ("law", none) := by
      have := h1.symm.trans (fx.g j hj)
      cases this
      rfl
    obtain ⟨oc1, od1, osl1, h6⟩ := hlk
    rw [← eg, h5] at h6
    cases h6
    exact h4
end SW
set_option Elab.async false
set_option linter.all false
set_option maxRecDepth 100000
set_option maxHeartbeats 2000000
/-! SWLaw: plain lemmas on mirrors. -/
namespace SW
open PySem L2
theorem gs_0 (s : SV) (ρ : En) : getSlot (s :: ρ) 0 = s := rfl
theorem gs_s (s : SV) (ρ : En) (i : Nat) : getSlot (s :: ρ) (i + 1) = getSlot ρ i := rfl
theorem ss_0 (s t : SV) (ρ : En) : setSlot (s :: ρ) 0 t = t :: ρ := rfl
theorem ss_s (s t : SV) (ρ : En) (i : Nat) : setSlot (s :: ρ) (i + 1) t = s :: setSlot ρ i t := rfl
inductive All2 (P : D → D → Prop) : List D → List D → Prop
  | nil : All2 P [] []
  | cons {a b : D} {as bs : List D} : P a b → All2 P as bs → All2 P (a :: as) (b :: bs)
theorem All2.len {P : D → D → Prop} : ∀ {as bs : List D}, All2 P as bs → bs.length = as.length
  | _, _, .nil => rfl
  | _, _, .cons _ t => congrArg (· + 1) t.len
theorem All2.mem {P : D → D → Prop} : ∀ {as bs : List D} {b : D}, All2 P as bs → b ∈ bs → ∃ a ∈ as, P a b
  | _, _, _, .nil, h => nomatch h
  | _, _, _, .cons p t, h => by
    rcases List.mem_cons.mp h with e | h
    · exact ⟨_, List.mem_cons_self, by rw [e]; exact p⟩
    · obtain ⟨a, h1, h2⟩ := t.mem h
      exact ⟨a, List.mem_cons_of_mem _ h1, h2⟩
/-! ### comprehensions -/
/-- each item on its own, the names as they were -/
theorem comp_pure {vs : List Nat} {g : AG} {te : AE} (F : D → D) {ρ : En} : ∀ (items acc : List D), (∀ d ∈ items, ∃ ρ1 ρ3, g d (wipeE ρ vs) = .ok () ρ1 ∧ te ρ1 = .ok (F d) ρ3 ∧ backE ρ ρ3 vs = ρ) → acc.length + items.length ≤ sizeLine →
    compLoop vs g tYes te items acc ρ = .ok (acc ++ items.map F) ρ
  | [], acc, _, _ => by
    unfold compLoop
    simp
  | d :: ds, acc, h, hl => by
    obtain ⟨ρ1, ρ3, e1, e2, e3⟩ := h d List.mem_cons_self
    rw [List.length_cons] at hl
    have ih := comp_pure (vs := vs) (g := g) (te := te) F (ρ := ρ) ds (acc ++ [F d]) (fun d' hd => h d' (List.mem_cons_of_mem _ hd)) (by rw [List.length_append]; simp; omega)
    unfold compLoop
    rw [e1]
    show (match te ρ1 with | .ok e ρ3 => if acc.length < sizeLine then compLoop vs g tYes te ds (acc ++ [e]) (backE ρ ρ3 vs) else .bad | _ => .bad) = _
    rw [e2]
    show (if acc.length < sizeLine then compLoop vs g tYes te ds (acc ++ [F d]) (backE ρ ρ3 vs) else .bad) = _
    rw [if_pos (by omega), e3, ih]
    simp
theorem fComp_pure {vs : List Nat} {g : AG} {te : AE} {it : AM (List D)} {ρ ρ0 : En} {items : List D} (F : D → D) (hit : it ρ0 = .ok items ρ) (h : ∀ d ∈ items, ∃ ρ1 ρ3, g d (wipeE ρ vs) = .ok () ρ1 ∧ te ρ1 = .ok (F d) ρ3 ∧ backE ρ ρ3 vs = ρ) (hl : items.length ≤ sizeLine) :
    fComp vs it g tYes te ρ0 = .ok (items.map F) ρ := by
  unfold fComp
  rw [hit]
  show compLoop vs g tYes te items [] ρ = _
  rw [comp_pure F items [] h (by simpa using hl)]
  rfl
/-- with a test -/
theorem comp_filt {vs : List Nat} {g : AG} {tt : AM Bool} {te : AE} (p : D → Bool) (F : D → D) {ρ : En} : ∀ (items acc : List D), (∀ d ∈ items, ∃ ρ1 ρ2, g d (wipeE ρ vs) = .ok () ρ1 ∧ tt ρ1 = .ok (p d) ρ2 ∧ (p d = false → backE ρ ρ2 vs = ρ) ∧ (p d = true → ∃ ρ3, te ρ2 = .ok (F d) ρ3 ∧ backE ρ ρ3 vs = ρ)) → acc.length + items.length ≤ sizeLine →
    compLoop vs g tt te items acc ρ = .ok (acc ++ (items.filter p).map F) ρ
  | [], acc, _, _ => by
    unfold compLoop
    simp
  | d :: ds, acc, h, hl => by
    obtain ⟨ρ1, ρ2, e1, e2, e3, e4⟩ := h d List.mem_cons_self
    rw [List.length_cons] at hl
    unfold compLoop
    rw [e1]
    show (match tt ρ1 with
      | .ok true ρ2 => (match te ρ2 with
        | .ok e ρ3 => if acc.length < sizeLine then compLoop vs g tt te ds (acc ++ [e]) (backE ρ ρ3 vs) else .bad
        | _ => .bad)
      | .ok false ρ2 => compLoop vs g tt te ds acc (backE ρ ρ2 vs)
      | _ => .bad) = _
    rw [e2]
    cases q : p d with
    | false =>
      show compLoop vs g tt te ds acc (backE ρ ρ2 vs) = _
      rw [e3 q, comp_filt p F ds acc (fun d' hd => h d' (List.mem_cons_of_mem _ hd)) (by omega), List.filter_cons, q]
      rfl
    | true =>
      obtain ⟨ρ3, e5, e6⟩ := e4 q
      show (match te ρ2 with | .ok e ρ3 => if acc.length < sizeLine then compLoop vs g tt te ds (acc ++ [e]) (backE ρ ρ3 vs) else .bad | _ => .bad) = _
      rw [e5]
      show (if acc.length < sizeLine then compLoop vs g tt te ds (acc ++ [F d]) (backE ρ ρ3 vs) else .bad) = _
      rw [if_pos (by omega), e6, comp_filt p F ds (acc ++ [F d]) (fun d' hd => h d' (List.mem_cons_of_mem _ hd)) (by rw [List.length_append]; simp; omega), List.filter_cons, q]
      simp
theorem fComp_filt {vs : List Nat} {g : AG} {tt : AM Bool} {te : AE} {it : AM (List D)} {ρ ρ0 : En} {items : List D} (p : D → Bool) (F : D → D) (hit : it ρ0 = .ok items ρ) (h : ∀ d ∈ items, ∃ ρ1 ρ2, g d (wipeE ρ vs) = .ok () ρ1 ∧ tt ρ1 = .ok (p d) ρ2 ∧ (p d = false → backE ρ ρ2 vs = ρ) ∧ (p d = true → ∃ ρ3, te ρ2 = .ok (F d) ρ3 ∧ backE ρ ρ3 vs = ρ)) (hl : items.length ≤ sizeLine) :
    fComp vs it g tt te ρ0 = .ok ((items.filter p).map F) ρ := by
  unfold fComp
  rw [hit]
  show compLoop vs g tt te items [] ρ = _
  rw [comp_filt p F items [] h (by simpa using hl)]
  rfl
/-- with a state that runs through: I holds of the names, P of what is told -/
theorem comp_st {vs : List Nat} {g : AG} {te : AE} (I : En → Prop) (P : D → D → Prop) : ∀ (items acc : List D) (ρ : En), I ρ → (∀ d ∈ items, ∀ ρ, I ρ → ∃ ρ1 e ρ3, g d (wipeE ρ vs) = .ok () ρ1 ∧ te ρ1 = .ok e ρ3 ∧ P d e ∧ I (backE ρ ρ3 vs)) → acc.length + items.length ≤ sizeLine →
    ∃ es ρ', compLoop vs g tYes te items acc ρ = .ok (acc ++ es) ρ' ∧ I ρ' ∧ All2 P items es
  | [], acc, ρ, hI, _, _ => by
    refine ⟨[], ρ, ?_, hI, .nil⟩
    unfold compLoop
    simp
  | d :: ds, acc, ρ, hI, h, hl => by
    obtain ⟨ρ1, e, ρ3, e1, e2, e3, e4⟩ := h d List.mem_cons_self ρ hI
    rw [List.length_cons] at hl
    obtain ⟨es, ρ', k1, k2, k3⟩ := comp_st (vs := vs) (g := g) (te := te) I P ds (acc ++ [e]) (backE ρ ρ3 vs) e4 (fun d' hd => h d' (List.mem_cons_of_mem _ hd)) (by rw [List.length_append]; simp; omega)
    refine ⟨e :: es, ρ', ?_, k2, .cons e3 k3⟩
    unfold compLoop
    rw [e1]
    show (match te ρ1 with | .ok e ρ3 => if acc.length < sizeLine then compLoop vs g tYes te ds (acc ++ [e]) (backE ρ ρ3 vs) else .bad | _ => .bad) = _
    rw [e2]
    show (if acc.length < sizeLine then compLoop vs g tYes te ds (acc ++ [e]) (backE ρ ρ3 vs) else .bad) = _
    rw [if_pos (by omega), k1]
    simp
theorem fComp_st {vs : List Nat} {g : AG} {te : AE} {it : AM (List D)} {ρ ρ0 : En} {items : List D} (I : En → Prop) (P : D → D → Prop) (hit : it ρ0 = .ok items ρ) (hI : I ρ) (h : ∀ d ∈ items, ∀ ρ, I ρ → ∃ ρ1 e ρ3, g d (wipeE ρ vs) = .ok () ρ1 ∧ te ρ1 = .ok e ρ3 ∧ P d e ∧ I (backE ρ ρ3 vs)) (hl : items.length ≤ sizeLine) :
    ∃ es ρ', fComp vs it g tYes te ρ0 = .ok es ρ' ∧ I ρ' ∧ All2 P items es := by
  obtain ⟨es, ρ', k1, k2, k3⟩ := comp_st (vs := vs) (g := g) (te := te) I P items [] ρ hI h (by simpa using hl)
  refine ⟨es, ρ', ?_, k2, k3⟩
  unfold fComp
  rw [hit]
  exact k1
/-! ### loops -/
theorem loop_inv {g : AG} {body : AS} (I : Nat → En → Prop) : ∀ (items : List D) (n : Nat) (ρ : En), I n ρ → (∀ (i : Nat) d ρ, items[i]? = some d → I (n + i) ρ → ∃ ρ1 ρ2, g d ρ = .ok () ρ1 ∧ body ρ1 = .ok .nx ρ2 ∧ I (n + i + 1) ρ2) →
    ∃ ρ', loopF g body items ρ = .ok .nx ρ' ∧ I (n + items.length) ρ'
  | [], n, ρ, h, _ => ⟨ρ, rfl, h⟩
  | d :: ds, n, ρ, h, st => by
    obtain ⟨ρ1, ρ2, e1, e2, e3⟩ := st 0 d ρ rfl h
    obtain ⟨ρ', k1, k2⟩ := loop_inv I ds (n + 1) ρ2 e3 fun i d' ρ' hd hi => by
      have e : n + 1 + i = n + (i + 1) := by omega
      rw [e] at hi ⊢
      exact st (i + 1) d' ρ' (by simpa using hd) hi
    refine ⟨ρ', ?_, by rw [List.length_cons, show n + (ds.length + 1) = n + 1 + ds.length by omega]; exact k2⟩
    unfold loopF
    rw [e1]
    show (match body ρ1 with
      | .ok .nx ρ2 => loopF g body ds ρ2
      | .ok .ct ρ2 => loopF g body ds ρ2
      | .ok .bk ρ2 => .ok .nx ρ2
      | r => r) = _
    rw [e2]
    exact k1
theorem for_inv {it : AM (List D)} {g : AG} {body : AS} {ρ0 ρ : En} {items : List D} (I : Nat → En → Prop) (hit : it ρ0 = .ok items ρ) (h : I 0 ρ) (st : ∀ (i : Nat) d ρ, items[i]? = some d → I i ρ → ∃ ρ1 ρ2, g d ρ = .ok () ρ1 ∧ body ρ1 = .ok .nx ρ2 ∧ I (i + 1) ρ2) :
    ∃ ρ', sFor it g body ρ0 = .ok .nx ρ' ∧ I items.length ρ' := by
  obtain ⟨ρ', k1, k2⟩ := loop_inv I items 0 ρ h fun i d ρ hd hi => by
    rw [Nat.zero_add] at hi ⊢
    exact st i d ρ hd hi
  refine ⟨ρ', ?_, by rw [Nat.zero_add] at k2; exact k2⟩
  unfold sFor
  rw [hit]
  exact k1
/-! ### operations on numbers -/
theorem f_sub (i j : Int) : F_sub [.int i, .int j] = some (.int (i - j)) := rfl
theorem f_addI (i j : Int) : F_add [.int i, .int j] = some (.int (i + j)) := rfl
theorem f_mod {i j : Int} (h : 0 < j) : F_mod [.int i, .int j] = some (.int (i % j)) := by
  show (if decide (0 < j) = true then some (PyData.int (i % j)) else none) = _
  rw [decide_eq_true h, if_pos rfl]
theorem f_fdiv {i j : Int} (h : 0 < j) (h2 : j < 1073741824) : F_fdiv [.int i, .int j] = some (.int (i / j)) := by
  show (if (decide (0 < j) && decide (j < 1073741824)) = true then some (PyData.int (i / j)) else none) = _
  rw [decide_eq_true h, decide_eq_true h2]
  rfl
theorem f_mulI {i j : Int} (h : (big64 i || big64 j) = true) : F_mul [.int i, .int j] = some (.int (i * j)) := by
  show (if (big64 i || big64 j) = true then some (PyData.int (i * j)) else none) = _
  rw [if_pos h]
theorem f_ixT {xs : List D} {i : Int} {d : D} (h0 : 0 ≤ i) (h : xs[i.toNat]? = some d) : F_ix [.tuple xs, .int i] = some d := by
  obtain ⟨hl, _⟩ := List.getElem?_eq_some_iff.mp h
  show (ixN xs.length i).bind (fun j => xs[j]?) = some d
  unfold ixN
  rw [if_pos h0, if_pos (by omega)]
  exact h
theorem f_ixL {xs : List D} {i : Int} {d : D} (h0 : 0 ≤ i) (h : xs[i.toNat]? = some d) : F_ix [.list xs, .int i] = some d := by
  obtain ⟨hl, _⟩ := List.getElem?_eq_some_iff.mp h
  show (ixN xs.length i).bind (fun j => xs[j]?) = some d
  unfold ixN
  rw [if_pos h0, if_pos (by omega)]
  exact h
/-! ### ints in lists -/
def iL (t : List Int) : List D := t.map .int
theorem iL_len (t : List Int) : (iL t).length = t.length := List.length_map ..
theorem iL_at {t : List Int} {i : Nat} {v : Int} (h : t[i]? = some v) : (iL t)[i]? = some (.int v) := by
  unfold iL
  rw [List.getElem?_map, h]
  rfl
theorem iL_app (t u : List Int) : iL t ++ iL u = iL (t ++ u) := by unfold iL; rw [List.map_append]
theorem iL_one (v : Int) : [PyData.int v] = iL [v] := rfl
theorem iL_mem {t : List Int} {d : D} (h : d ∈ iL t) : ∃ v ∈ t, d = .int v := by
  obtain ⟨v, h1, h2⟩ := List.mem_map.mp h
  exact ⟨v, h1, h2.symm⟩
/-- 0 .. n - 1 -/
def upto (n : Nat) : List Int := (List.range n).map fun i => ((i : Nat) : Int)
theorem upto_len (n : Nat) : (upto n).length = n := by simp [upto]
theorem upto_at {n i : Nat} (h : i < n) : (upto n)[i]? = some (i : Int) := by simp [upto, h]
theorem mem_upto {n : Nat} {v : Int} : v ∈ upto n ↔ 0 ≤ v ∧ v < n := by
  unfold upto
  constructor
  · intro h
    obtain ⟨i, hi, e⟩ := List.mem_map.mp h
    have := List.mem_range.mp hi
    omega
  · intro h
    exact List.mem_map.mpr ⟨v.toNat, List.mem_range.mpr (by omega), by omega⟩
theorem upto_nodup (n : Nat) : (upto n).Nodup := by
  unfold upto
  rw [List.nodup_iff_pairwise_ne]
  refine List.pairwise_map.mpr (List.Pairwise.imp ?_ List.pairwise_lt_range)
  intro a b h e
  omega
theorem upto_sorted (n : Nat) : (upto n).Pairwise (· ≤ ·) := by
  unfold upto
  refine List.pairwise_map.mpr (List.Pairwise.imp ?_ List.pairwise_lt_range)
  intro a b h
  omega
theorem rgD_upto (n : Nat) : rgD 0 (n : Int) = iL (upto n) := by
  unfold rgD iL upto
  rw [List.map_map, Int.sub_zero]
  have e : ((n : Nat) : Int).toNat = n := by omega
  rw [e]
  refine List.map_congr_left fun i _ => ?_
  simp
theorem rgs_upto (n : Nat) : rgs 0 (n : Int) = iL (upto n) := rgD_upto n
theorem intsOf_ints (t : List Int) : intsOf (iL t) = some t := by
  induction t with
  | nil => rfl
  | cons x r ih =>
    show (match intsOf (iL r) with | some l => some (x :: l) | none => none) = _
    rw [ih]
theorem boolsOf_bools (t : List D) (f : D → Bool) : boolsOf (t.map fun d => .bool (f d)) = some (t.map f) := by
  induction t with
  | nil => rfl
  | cons x r ih =>
    show (match boolsOf (r.map fun d => .bool (f d)) with | some l => some (f x :: l) | none => none) = _
    rw [ih]
    rfl
/-! ### == of iL -/
theorem eqvAll_ints : ∀ (a b : List Int), PyData.eqvAll (iL a) (iL b) = decide (a = b)
  | [], [] => by simp [iL, PyData.eqvAll]
  | [], _ :: _ => by simp [iL, PyData.eqvAll]
  | _ :: _, [] => by simp [iL, PyData.eqvAll]
  | x :: a, y :: b => by
    have ih := eqvAll_ints a b
    simp only [iL, List.map_cons, PyData.eqvAll, PyData.eqv] at ih ⊢
    rw [ih]
    by_cases h : x = y
    · subst h; simp
    · simp [h]
theorem eqv_ints (a b : List Int) : PyData.eqv (.list (iL a)) (.list (iL b)) = decide (a = b) := by
  rw [← eqvAll_ints]
  simp only [PyData.eqv]
theorem lay_ints : ∀ a : List Int, PyData.canLayAll0 (iL a) = true
  | [] => by simp [iL, PyData.canLayAll0]
  | x :: a => by
    have ih := lay_ints a
    simp only [iL, List.map_cons, PyData.canLayAll0, PyData.canLay0] at ih ⊢
    rw [ih]; rfl
theorem depth_ints : ∀ a : List Int, PyData.depthAll (iL a) ≤ 1
  | [] => by simp [iL, PyData.depthAll]
  | x :: a => by
    have ih := depth_ints a
    simp only [iL, List.map_cons, PyData.depthAll, PyData.depth] at ih ⊢
    omega
theorem shaped_ints (a : List Int) : SeqAt.shaped (.list (iL a)) = true := by
  show ((PyData.list (iL a)).canLay0 && decide ((PyData.list (iL a)).depth ≤ 64)) = true
  have h := depth_ints a
  rw [Bool.and_eq_true]
  refine ⟨by simp only [PyData.canLay0]; exact lay_ints a, decide_eq_true ?_⟩
  simp only [PyData.depth]
  omega
theorem eq_ints (a b : List Int) : F_eq [.list (iL a), .list (iL b)] = some (.bool (decide (a = b))) := by
  show (if (SeqAt.shaped (.list (iL a)) && SeqAt.shaped (.list (iL b))) = true then some (PyData.bool (PyData.eqv (.list (iL a)) (.list (iL b)))) else none) = _
  rw [shaped_ints, shaped_ints, eqv_ints]
  rfl
/-! ### slices of lists -/
theorem f_slL_to {xs : List D} {i : Int} (h0 : 0 ≤ i) (h : i ≤ xs.length) : F_sl (.list xs) none (some i) = some (.list (xs.take i.toNat)) := by
  show some (PyData.list ((xs.drop (HT.sIx xs.length 0 none)).take (HT.sIx xs.length xs.length (some i) - HT.sIx xs.length 0 none))) = _
  have e : HT.sIx xs.length xs.length (some i) = i.toNat := by unfold HT.sIx; dsimp only; rw [if_neg (by omega)]; omega
  rw [e, HT.sIx_none]
  simp
theorem f_slL_from {xs : List D} {i : Int} (h0 : 0 ≤ i) : F_sl (.list xs) (some i) none = some (.list (xs.drop i.toNat)) := by
  show some (PyData.list ((xs.drop (HT.sIx xs.length 0 (some i))).take (HT.sIx xs.length xs.length none - HT.sIx xs.length 0 (some i)))) = _
  have e : HT.sIx xs.length 0 (some i) = min i.toNat xs.length := by unfold HT.sIx; dsimp only; rw [if_neg (by omega)]
  rw [e, HT.sIx_none]
  by_cases h : i.toNat ≤ xs.length
  · rw [Nat.min_eq_left h, List.take_of_length_le (by rw [List.length_drop]; omega)]
  · rw [Nat.min_eq_right (by omega), List.drop_of_length_le (Nat.le_refl _), List.drop_of_length_le (by omega)]
    simp
theorem f_slT_to {xs : List D} {i : Int} (h0 : 0 ≤ i) (h : i ≤ xs.length) : F_sl (.tuple xs) none (some i) = some (.tuple (xs.take i.toNat)) := by
  show some (PyData.tuple ((xs.drop (HT.sIx xs.length 0 none)).take (HT.sIx xs.length xs.length (some i) - HT.sIx xs.length 0 none))) = _
  have e : HT.sIx xs.length xs.length (some i) = i.toNat := by unfold HT.sIx; dsimp only; rw [if_neg (by omega)]; omega
  rw [e, HT.sIx_none]
  simp
theorem f_slT_from {xs : List D} {i : Int} (h0 : 0 ≤ i) : F_sl (.tuple xs) (some i) none = some (.tuple (xs.drop i.toNat)) := by
  show some (PyData.tuple ((xs.drop (HT.sIx xs.length 0 (some i))).take (HT.sIx xs.length xs.length none - HT.sIx xs.length 0 (some i)))) = _
  have e : HT.sIx xs.length 0 (some i) = min i.toNat xs.length := by unfold HT.sIx; dsimp only; rw [if_neg (by omega)]
  rw [e, HT.sIx_none]
  by_cases h : i.toNat ≤ xs.length
  · rw [Nat.min_eq_left h, List.take_of_length_le (by rw [List.length_drop]; omega)]
  · rw [Nat.min_eq_right (by omega), List.drop_of_length_le (Nat.le_refl _), List.drop_of_length_le (by omega)]
    simp
/-- t[:-1] -/
theorem f_slT_init {xs : List D} : F_sl (.tuple xs) none (some (-1)) = some (.tuple (xs.take (xs.length - 1))) := by
  show some (PyData.tuple ((xs.drop (HT.sIx xs.length 0 none)).take (HT.sIx xs.length xs.length (some (-1)) - HT.sIx xs.length 0 none))) = _
  have e : HT.sIx xs.length xs.length (some (-1)) = xs.length - 1 := by unfold HT.sIx; dsimp only; rw [if_pos (by omega)]; omega
  rw [e, HT.sIx_none]
  simp
theorem f_addL {a b : List D} (h : a.length + b.length ≤ sizeLine) : F_add [.list a, .list b] = some (.list (a ++ b)) := by
  show (if a.length + b.length ≤ sizeLine then some (PyData.list (a ++ b)) else none) = _
  rw [if_pos h]
theorem f_addT {a b : List D} (h : a.length + b.length ≤ sizeLine) : F_add [.tuple a, .tuple b] = some (.tuple (a ++ b)) := by
  show (if a.length + b.length ≤ sizeLine then some (PyData.tuple (a ++ b)) else none) = _
  rw [if_pos h]
/-! ### a turn's arithmetic -/
/-- one behind other -/
def beh (one other : List Int) : List Int := other.map fun i => one.getD i.toNat 0
theorem beh_len (one other : List Int) : (beh one other).length = other.length := List.length_map ..
theorem getD_at {t : List Int} {i : Nat} (h : i < t.length) : t[i]? = some (t.getD i 0) := by
  rw [List.getD_eq_getElem?_getD, List.getElem?_eq_getElem h]
  rfl
abbrev Tn (n : Nat) (t : List Int) : Prop := t.Perm (upto n)
theorem Tn.len {n : Nat} {t : List Int} (h : Tn n t) : t.length = n := by rw [h.length_eq, upto_len]
theorem Tn.nodup {n : Nat} {t : List Int} (h : Tn n t) : t.Nodup := h.symm.nodup (upto_nodup n)
theorem Tn.mem {n : Nat} {t : List Int} (h : Tn n t) {v : Int} : v ∈ t ↔ 0 ≤ v ∧ v < n := h.mem_iff.trans mem_upto
theorem Tn.at {n : Nat} {t : List Int} (h : Tn n t) {i : Nat} (hi : i < n) : 0 ≤ t.getD i 0 ∧ t.getD i 0 < n := by
  have e := getD_at (t := t) (i := i) (by rw [h.len]; exact hi)
  exact h.mem.mp (List.mem_of_getElem? e)
theorem Tn.inj {n : Nat} {t : List Int} (h : Tn n t) {i j : Nat} (hi : i < n) (hj : j < n) (e : t.getD i 0 = t.getD j 0) : i = j := by
  have e1 := getD_at (t := t) (i := i) (by rw [h.len]; exact hi)
  have e2 := getD_at (t := t) (i := j) (by rw [h.len]; exact hj)
  rw [e] at e1
  exact (List.getElem?_inj (by rw [h.len]; exact hi) h.nodup).mp (e1.trans e2.symm)
theorem Tn.surj {n : Nat} {t : List Int} (h : Tn n t) {v : Nat} (hv : v < n) : ∃ i, i < n ∧ t.getD i 0 = (v : Int) := by
  obtain ⟨i, hi, e⟩ := List.mem_iff_getElem.mp (h.mem.mpr ⟨by omega, by omega⟩ : ((v : Nat) : Int) ∈ t)
  refine ⟨i, by rw [h.len] at hi; exact hi, ?_⟩
  rw [List.getD_eq_getElem?_getD, List.getElem?_eq_getElem hi, e]
  rfl
/-- a list of the right length whose items are told apart and in reach -/
theorem tn_of {n : Nat} {t : List Int} (hl : t.length = n) (hr : ∀ i, i < n → 0 ≤ t.getD i 0 ∧ t.getD i 0 < n) (hs : ∀ v, v < n → ∃ i, i < n ∧ t.getD i 0 = (v : Int)) (hi : ∀ i j, i < n → j < n → t.getD i 0 = t.getD j 0 → i = j) : Tn n t := by
  have nd : t.Nodup := by
    rw [List.nodup_iff_pairwise_ne]
    refine List.pairwise_iff_getElem.mpr fun i j h1 h2 hij e => ?_
    have := hi i j (by omega) (by omega) (by
      rw [List.getD_eq_getElem?_getD, List.getD_eq_getElem?_getD, List.getElem?_eq_getElem h1, List.getElem?_eq_getElem h2, e])
    omega
  refine (List.perm_ext_iff_of_nodup nd (upto_nodup n)).mpr fun a => ?_
  rw [mem_upto]
  constructor
  · intro ha
    obtain ⟨i, h1, e⟩ := List.mem_iff_getElem.mp ha
    have := hr i (by omega)
    rw [List.getD_eq_getElem?_getD, List.getElem?_eq_getElem h1, e] at this
    exact this
  · intro ha
    obtain ⟨i, h1, e⟩ := hs a.toNat (by omega)
    have e2 := getD_at (t := t) (i := i) (by omega)
    rw [e, show ((a.toNat : Nat) : Int) = a by omega] at e2
    exact List.mem_of_getElem? e2
theorem beh_at {one other : List Int} {i : Nat} (h : i < other.length) : (beh one other).getD i 0 = one.getD (other.getD i 0).toNat 0 := by
  unfold beh
  rw [List.getD_eq_getElem?_getD, List.getElem?_map, getD_at h]
  rfl
theorem list_ext_getD {a b : List Int} (hl : a.length = b.length) (h : ∀ i, i < a.length → a.getD i 0 = b.getD i 0) : a = b := by
  refine List.ext_getElem? fun i => ?_
  by_cases hi : i < a.length
  · rw [getD_at hi, getD_at (by omega), h i hi]
  · rw [List.getElem?_eq_none (by omega), List.getElem?_eq_none (by omega)]
theorem Tn.beh {n : Nat} {one other : List Int} (h1 : Tn n one) (h2 : Tn n other) : Tn n (beh one other) := by
  have l2 := h2.len
  refine tn_of (by rw [beh_len, l2]) (fun i hi => ?_) (fun v hv => ?_) (fun i j hi hj e => ?_)
  · rw [beh_at (by omega)]
    have := h2.at hi
    exact h1.at (by omega)
  · obtain ⟨i, hi, e⟩ := h1.surj hv
    obtain ⟨j, hj, e2⟩ := h2.surj hi
    refine ⟨j, hj, ?_⟩
    rw [beh_at (by omega), e2, Int.toNat_natCast, e]
  · rw [beh_at (by omega), beh_at (by omega)] at e
    have a1 := h2.at hi
    have a2 := h2.at hj
    have := h1.inj (by omega) (by omega) e
    exact h2.inj hi hj (by omega)
theorem beh_assoc {n : Nat} {a b c : List Int} (hb : Tn n b) (hc : Tn n c) : beh (beh a b) c = beh a (beh b c) := by
  have l1 := hb.len
  have l2 := hc.len
  refine list_ext_getD (by rw [beh_len, beh_len, beh_len]) fun i hi => ?_
  rw [beh_len] at hi
  have := hc.at (i := i) (by omega)
  rw [beh_at hi, beh_at (by omega), beh_at (by rw [beh_len]; exact hi), beh_at hi]
/-- f undoes t -/
structure Back (t f : List Int) : Prop where
  len : f.length = t.length
  at_ : ∀ j, j < t.length → f.getD (t.getD j 0).toNat 0 = (j : Int)
theorem upto_getD {n i : Nat} (h : i < n) : (upto n).getD i 0 = (i : Int) := by
  rw [List.getD_eq_getElem?_getD, upto_at h]
  rfl
theorem Back.tn {n : Nat} {t f : List Int} (h : Tn n t) (b : Back t f) : Tn n f := by
  have l1 := h.len
  refine tn_of (by rw [b.len, l1]) (fun i hi => ?_) (fun v hv => ?_) (fun i j hi hj e => ?_)
  · obtain ⟨j, hj, e⟩ := h.surj hi
    have := b.at_ j (by omega)
    rw [e, Int.toNat_natCast] at this
    omega
  · have a1 := h.at hv
    exact ⟨_, by omega, b.at_ v (by omega)⟩
  · obtain ⟨i', hi', e1⟩ := h.surj hi
    obtain ⟨j', hj', e2⟩ := h.surj hj
    have k1 := b.at_ i' (by omega)
    have k2 := b.at_ j' (by omega)
    rw [e1, Int.toNat_natCast] at k1
    rw [e2, Int.toNat_natCast] at k2
    have : i' = j' := by omega
    subst this
    omega
theorem Back.left {n : Nat} {t f : List Int} (h : Tn n t) (b : Back t f) : beh f t = upto n := by
  have l1 := h.len
  refine list_ext_getD (by rw [beh_len, l1, upto_len]) fun i hi => ?_
  rw [beh_len] at hi
  rw [beh_at hi, b.at_ i hi, upto_getD (by omega)]
theorem Back.right {n : Nat} {t f : List Int} (h : Tn n t) (b : Back t f) : beh t f = upto n := by
  have l1 := h.len
  refine list_ext_getD (by rw [beh_len, b.len, l1, upto_len]) fun i hi => ?_
  rw [beh_len, b.len] at hi
  obtain ⟨j, hj, e⟩ := h.surj (v := i) (by omega)
  have := b.at_ j (by omega)
  rw [e, Int.toNat_natCast] at this
  rw [beh_at (by rw [b.len]; exact hi), this, Int.toNat_natCast, e, upto_getD (by omega)]
theorem Back.back {n : Nat} {t f g : List Int} (h : Tn n t) (b : Back t f) (c : Back f g) : g = t := by
  have l1 := h.len
  have l2 := b.len
  have l3 := c.len
  refine list_ext_getD (by omega) fun i hi => ?_
  have k := b.at_ i (by omega)
  have a1 := h.at (i := i) (by omega)
  have k2 := c.at_ (t.getD i 0).toNat (by omega)
  rw [k, Int.toNat_natCast] at k2
  omega
/-- the first place of v -/
theorem findD_at : ∀ {t : List Int} {j k : Nat} {v : Int}, t.Nodup → t[j]? = some v → findD (.int v) (iL t) k = some (k + j)
  | [], _, _, _, _, h => by simp at h
  | x :: t, 0, k, v, nd, h => by
    have e : x = v := by simpa using h
    subst e
    show (if PyData.eqv (.int x) (.int x) = true then some k else findD (.int x) (iL t) (k + 1)) = _
    rw [if_pos (by simp [PyData.eqv])]
    rfl
  | x :: t, j + 1, k, v, nd, h => by
    rw [List.nodup_cons] at nd
    have h2 : t[j]? = some v := by simpa using h
    have ne : x ≠ v := fun z => nd.1 (by rw [z]; exact List.mem_of_getElem? h2)
    show (if PyData.eqv (.int x) (.int v) = true then some k else findD (.int v) (iL t) (k + 1)) = _
    rw [if_neg (by simp [PyData.eqv, ne]), findD_at nd.2 h2]
    congr 1
    omega
theorem enum_len (ds : List D) : (enumD ds).length = ds.length := @enumD_len ⟨[], 0⟩ ds
theorem enum_at {t : List Int} {i : Nat} {d : D} (h : (enumD (iL t))[i]? = some d) : i < t.length ∧ ∃ v, v = t.getD i 0 ∧ d = .tuple [.int (i : Nat), .int v] := by
  have hl : i < (enumD (iL t)).length := (List.getElem?_eq_some_iff.mp h).1
  rw [enum_len, iL_len] at hl
  refine ⟨hl, _, rfl, ?_⟩
  rw [@enumD_at ⟨[], 0⟩ _ _ (by rw [iL_len]; exact hl)] at h
  cases h
  have := iL_at (getD_at hl)
  rw [List.getElem?_eq_getElem (by rw [iL_len]; exact hl)] at this
  rw [Option.some.inj this]
theorem set_iL (f : List Int) (k : Nat) (v : Int) : (iL f).set k (.int v) = iL (f.set k v) := by
  unfold iL
  rw [List.map_set]
theorem rep_iL (n : Nat) (v : Int) : List.replicate n (PyData.int v) = iL (List.replicate n v) := by
  unfold iL
  rw [List.map_replicate]
theorem le_sz {n : Nat} (h : n ≤ 16777216) : n ≤ sizeLine := by rw [sizeLine_eq]; exact h
/-- a block, statement by statement -/
theorem seq_nx {f g : AS} {ρ ρ1 : En} {r : R Fl} (h : f ρ = .ok .nx ρ1) (h2 : g ρ1 = r) : sSeq f g ρ = r := by
  unfold sSeq
  rw [h]
  exact h2
theorem seq_rt {f g : AS} {ρ ρ1 : En} {d : D} (h : f ρ = .ok (.rt d) ρ1) : sSeq f g ρ = .ok (.rt d) ρ1 := by
  unfold sSeq
  rw [h]
theorem seq_rf {f g : AS} {ρ ρ1 : En} {d : List D} (h : f ρ = .ok (.rf d) ρ1) : sSeq f g ρ = .ok (.rf d) ρ1 := by
  unfold sSeq
  rw [h]
theorem mk_ok {n : Nat} {body : AS} {svs : List SV} {ρ0 ρ' ρn : En} {fl : Fl} (h0 : svs ++ List.replicate (n - svs.length) .un = ρ0) (h : body ρ0 = .ok fl ρ') (hn : nmE svs.length ρ' = ρn) : mkF n body svs = .ok fl ρn := by
  unfold mkF
  rw [h0, h, ← hn]
  rfl
theorem mk_err {n : Nat} {body : AS} {svs : List SV} {ρ0 ρ' ρn : En} {x : Ex} (h0 : svs ++ List.replicate (n - svs.length) .un = ρ0) (h : body ρ0 = .err x ρ') (hn : nmE svs.length ρ' = ρn) : mkF n body svs = .err x ρn := by
  unfold mkF
  rw [h0, h, ← hn]
  rfl
theorem call_v {m : MF} {os : List Opd} {ρ ρ1 ρn ρ2 : En} {ovs : List OV} {svs : List SV} {d : D} (h1 : evs os ρ = .ok ovs ρ1) (h2 : ovs.map (argSV ρ1) = svs) (h4 : m svs = .ok (.rt d) ρn) (h3 : (svs.any isUn || !nodupB (lent ρ1 ovs)) = false) (h5 : setBack ρ1 ovs ρn = ρ2) : aCall m os ρ = .ok d ρ2 := by
  unfold aCall
  rw [h1]
  show (callM m ovs ρ1).bind _ = _
  unfold callM
  dsimp only
  rw [h2, h3, if_neg Bool.false_ne_true, h4, ← h5]
  rfl
theorem call_n {m : MF} {os : List Opd} {ρ ρ1 ρn ρ2 : En} {ovs : List OV} {svs : List SV} (h1 : evs os ρ = .ok ovs ρ1) (h2 : ovs.map (argSV ρ1) = svs) (h4 : m svs = .ok .nx ρn) (h3 : (svs.any isUn || !nodupB (lent ρ1 ovs)) = false) (h5 : setBack ρ1 ovs ρn = ρ2) : aCall m os ρ = .ok .none ρ2 := by
  unfold aCall
  rw [h1]
  show (callM m ovs ρ1).bind _ = _
  unfold callM
  dsimp only
  rw [h2, h3, if_neg Bool.false_ne_true, h4, ← h5]
  rfl
theorem call_f {m : MF} {os : List Opd} {ρ ρ1 ρn ρ2 : En} {ovs : List OV} {svs : List SV} {ds : List D} (h1 : evs os ρ = .ok ovs ρ1) (h2 : ovs.map (argSV ρ1) = svs) (h4 : m svs = .ok (.rf ds) ρn) (h3 : (svs.any isUn || !nodupB (lent ρ1 ovs)) = false) (h5 : setBack ρ1 ovs ρn = ρ2) : fCall m os ρ = .ok ds ρ2 := by
  unfold fCall
  rw [h1]
  show (callM m ovs ρ1).bind _ = _
  unfold callM
  dsimp only
  rw [h2, h3, if_neg Bool.false_ne_true, h4, ← h5]
  rfl
theorem drop_ok {f : AE} {ρ ρ1 : En} {d : D} (h : f ρ = .ok d ρ1) : sDrop f ρ = .ok .nx ρ1 := by
  unfold sDrop
  rw [h]
  rfl
theorem own_ok {f : AM (List D)} {i : Nat} {ρ ρ1 ρ2 : En} {ds : List D} (h : f ρ = .ok ds ρ1) (hi : isIo (getSlot ρ1 i) = false) (h2 : setSlot ρ1 i (.own false ds) = ρ2) : sOwn i f ρ = .ok .nx ρ2 := by
  unfold sOwn
  rw [h]
  show (if isIo (getSlot ρ1 i) = true then (R.bad : R Fl) else R.ok .nx (setSlot ρ1 i (.own false ds))) = _
  rw [hi, if_neg Bool.false_ne_true, h2]
theorem set_ok {f : AE} {i : Nat} {ρ ρ1 ρ2 : En} {d : D} (h : f ρ = .ok d ρ1) (hi : isIo (getSlot ρ1 i) = false) (h2 : setSlot ρ1 i (.pl d) = ρ2) : sAsg f (gNm i) ρ = .ok .nx ρ2 := by
  unfold sAsg gNm
  rw [h]
  show (if isIo (getSlot ρ1 i) = true then (R.bad : R Unit) else R.ok () (setSlot ρ1 i (.pl d))).bind _ = _
  rw [hi, h2]
  rfl
theorem ops1 {F : List D → Option D} {o1 : Opd} {ρ ρ1 : En} {v1 : OV} {d1 d : D} (h1 : o1.ev ρ = .ok v1 ρ1) (g1 : v1.get ρ1 = some d1) (hf : F [d1] = some d) : aOps F [o1] ρ = .ok d ρ1 := by
  unfold aOps evs
  rw [h1]
  show (match getAll ρ1 [v1] with | some ds => (match F ds with | some d => R.ok d ρ1 | none => .bad) | none => .bad) = _
  unfold getAll
  rw [g1]
  show (match F [d1] with | some d => R.ok d ρ1 | none => .bad) = _
  rw [hf]
theorem ops2 {F : List D → Option D} {o1 o2 : Opd} {ρ ρ1 ρ2 : En} {v1 v2 : OV} {d1 d2 d : D} (h1 : o1.ev ρ = .ok v1 ρ1) (h2 : o2.ev ρ1 = .ok v2 ρ2) (g1 : v1.get ρ2 = some d1) (g2 : v2.get ρ2 = some d2) (hf : F [d1, d2] = some d) : aOps F [o1, o2] ρ = .ok d ρ2 := by
  have e : evs [o1, o2] ρ = .ok [v1, v2] ρ2 := by
    show (o1.ev ρ).bind _ = _
    rw [h1]
    show ((o2.ev ρ1).bind _).bind _ = _
    rw [h2]
    rfl
  unfold aOps
  rw [e]
  show (match getAll ρ2 [v1, v2] with | some ds => (match F ds with | some d => R.ok d ρ2 | none => .bad) | none => .bad) = _
  have e2 : getAll ρ2 [v1, v2] = some [d1, d2] := by
    unfold getAll
    rw [g1]
    show (match getAll ρ2 [v2] with | some ds => some (d1 :: ds) | none => none) = _
    unfold getAll
    rw [g2]
    rfl
  rw [e2]
  show (match F [d1, d2] with | some d => R.ok d ρ2 | none => .bad) = _
  rw [hf]
theorem ex_ok {f : AE} {ρ ρ1 : En} {d : D} (h : f ρ = .ok d ρ1) : (Opd.ex f).ev ρ = .ok (.val d) ρ1 := by
  unfold Opd.ev
  dsimp only
  rw [h]
  rfl
theorem fr_ok {f : AM (List D)} {ρ ρ1 : En} {ds : List D} (h : f ρ = .ok ds ρ1) : aFr f ρ = .ok (.list ds) ρ1 := by
  unfold aFr
  rw [h]
  rfl
theorem aT_ok {f : AE} {ρ ρ1 : En} {b : Bool} (h : f ρ = .ok (.bool b) ρ1) : aT f ρ = .ok b ρ1 := by
  unfold aT
  rw [h]
  rfl
theorem not_ok {f : AM Bool} {ρ ρ1 : En} {b : Bool} (h : f ρ = .ok b ρ1) : tNotA f ρ = .ok (!b) ρ1 := by
  unfold tNotA
  rw [h]
  rfl
theorem retf_ok {f : AM (List D)} {ρ ρ1 : En} {ds : List D} (h : f ρ = .ok ds ρ1) : sRetF f ρ = .ok (.rf ds) ρ1 := by
  unfold sRetF
  rw [h]
  rfl
theorem asg_ok {f : AE} {i : Nat} {ρ ρ1 : En} {d : D} (h : f ρ = .ok d ρ1) (hi : isIo (getSlot ρ1 i) = false) : sAsg f (gNm i) ρ = .ok .nx (setSlot ρ1 i (.pl d)) := by
  unfold sAsg gNm
  rw [h]
  show (if isIo (getSlot ρ1 i) = true then (R.bad : R Unit) else R.ok () (setSlot ρ1 i (.pl d))).bind _ = _
  rw [hi]
  rfl
theorem ret_ok {f : AE} {ρ ρ1 : En} {d : D} (h : f ρ = .ok d ρ1) : sRet f ρ = .ok (.rt d) ρ1 := by
  unfold sRet
  rw [h]
  rfl
theorem if_t {c : AM Bool} {f g : AS} {ρ ρ1 : En} (h : c ρ = .ok true ρ1) : sIf c f g ρ = f ρ1 := by
  unfold sIf
  rw [h]
  rfl
theorem if_f {c : AM Bool} {f g : AS} {ρ ρ1 : En} (h : c ρ = .ok false ρ1) : sIf c f g ρ = g ρ1 := by
  unfold sIf
  rw [h]
  rfl
theorem lst_ok {fs : List AE} {ρ ρ1 : En} {ds : List D} (h : evsD fs ρ = .ok ds ρ1) (hz : ds.length ≤ 16777216) : fLst fs ρ = .ok ds ρ1 := by
  unfold fLst
  rw [h]
  show (if ds.length ≤ sizeLine then R.ok ds ρ1 else .bad) = _
  rw [if_pos (le_sz hz)]
theorem atup_ok {fs : List AE} {ρ ρ1 : En} {ds : List D} (h : evsD fs ρ = .ok ds ρ1) (hz : ds.length ≤ 16777216) : aTup fs ρ = .ok (.tuple ds) ρ1 := by
  unfold aTup
  rw [h]
  show (if ds.length ≤ sizeLine then R.ok (PyData.tuple ds) ρ1 else .bad) = _
  rw [if_pos (le_sz hz)]
theorem ds_nil {ρ : En} : evsD [] ρ = .ok [] ρ := rfl
theorem ds_cons {f : AE} {fs : List AE} {ρ ρ1 ρ2 : En} {d : D} {ds : List D} (h : f ρ = .ok d ρ1) (hs : evsD fs ρ1 = .ok ds ρ2) : evsD (f :: fs) ρ = .ok (d :: ds) ρ2 := by
  show (f ρ).bind _ = _
  rw [h]
  show (evsD fs ρ1).bind _ = _
  rw [hs]
  rfl
theorem os_nil {ρ : En} : evs [] ρ = .ok [] ρ := rfl
theorem os_cons {o : Opd} {os : List Opd} {ρ ρ1 ρ2 : En} {v : OV} {vs : List OV} (h : o.ev ρ = .ok v ρ1) (hs : evs os ρ1 = .ok vs ρ2) : evs (o :: os) ρ = .ok (v :: vs) ρ2 := by
  show (o.ev ρ).bind _ = _
  rw [h]
  show (evs os ρ1).bind _ = _
  rw [hs]
  rfl
theorem aif_t {c : AM Bool} {f g : AE} {ρ ρ1 : En} {r : R D} (h : c ρ = .ok true ρ1) (h2 : f ρ1 = r) : aIf c f g ρ = r := by
  unfold aIf
  rw [h]
  exact h2
theorem aif_f {c : AM Bool} {f g : AE} {ρ ρ1 : En} {r : R D} (h : c ρ = .ok false ρ1) (h2 : g ρ1 = r) : aIf c f g ρ = r := by
  unfold aIf
  rw [h]
  exact h2
theorem ift {c : AM Bool} {f g : AS} {ρ ρ1 : En} {r : R Fl} (h : c ρ = .ok true ρ1) (h2 : f ρ1 = r) : sIf c f g ρ = r := by
  rw [if_t h]
  exact h2
theorem iff' {c : AM Bool} {f g : AS} {ρ ρ1 : En} {r : R Fl} (h : c ρ = .ok false ρ1) (h2 : g ρ1 = r) : sIf c f g ρ = r := by
  rw [if_f h]
  exact h2
theorem put_ix {f fi : AE} {i : Nat} {ρ ρ1 ρ2 ρ3 : En} {d k : D} {r : SV} (h : f ρ = .ok d ρ1) (hw : isOwn (getSlot ρ1 i) = true) (hi : fi ρ1 = .ok k ρ2) (hs : setAt k (getSlot ρ2 i) d = some r) (h3 : setSlot ρ2 i r = ρ3) : sAsg f (gIx i fi) ρ = .ok .nx ρ3 := by
  unfold sAsg
  rw [h]
  show (gIx i fi d ρ1).bind _ = _
  unfold gIx
  rw [if_pos hw, hi]
  show (match setAt k (getSlot ρ2 i) d with | some r => R.ok () (setSlot ρ2 i r) | none => (R.bad : R Unit)).bind _ = _
  rw [hs, ← h3]
  rfl
theorem or_t {f g : AM Bool} {ρ ρ1 : En} (h : f ρ = .ok true ρ1) : tOrA f g ρ = .ok true ρ1 := by
  unfold tOrA
  rw [h]
  rfl
theorem or_f {f g : AM Bool} {ρ ρ1 : En} {r : R Bool} (h : f ρ = .ok false ρ1) (h2 : g ρ1 = r) : tOrA f g ρ = r := by
  unfold tOrA
  rw [h]
  exact h2
theorem and_f {f g : AM Bool} {ρ ρ1 : En} (h : f ρ = .ok false ρ1) : tAndA f g ρ = .ok false ρ1 := by
  unfold tAndA
  rw [h]
  rfl
theorem and_t {f g : AM Bool} {ρ ρ1 : En} {r : R Bool} (h : f ρ = .ok true ρ1) (h2 : g ρ1 = r) : tAndA f g ρ = r := by
  unfold tAndA
  rw [h]
  exact h2
theorem sl_ok {o : Opd} {lo hi : Option AE} {ρ ρ1 ρ2 ρ3 : En} {v : OV} {d r : D} {l h : Option Int} (h1 : o.ev ρ = .ok v ρ1) (h2 : aPart lo ρ1 = .ok l ρ2) (h3 : aPart hi ρ2 = .ok h ρ3) (g : v.get ρ3 = some d) (hf : F_sl d l h = some r) : aSl o lo hi ρ = .ok r ρ3 := by
  unfold aSl
  rw [h1]
  show (aPart lo ρ1).bind _ = _
  rw [h2]
  show (aPart hi ρ2).bind _ = _
  rw [h3]
  show (match v.get ρ3 with | some d => (match F_sl d l h with | some r => R.ok r ρ3 | none => .bad) | none => .bad) = _
  rw [g]
  show (match F_sl d l h with | some r => R.ok r ρ3 | none => .bad) = _
  rw [hf]
theorem pt_some {f : AE} {ρ ρ1 : En} {i : Int} (h : f ρ = .ok (.int i) ρ1) : aPart (some f) ρ = .ok (some i) ρ1 := by
  show (f ρ).bind _ = _
  rw [h]
  rfl
theorem pt_none {ρ : En} : aPart none ρ = .ok none ρ := rfl
theorem par_ok {is : List Nat} {fs : List AE} {ρ ρ1 : En} {ds : List D} {r : R Fl} (h : evsD fs ρ = .ok ds ρ1) (h2 : putAll is ds ρ1 = r) : sPar is fs ρ = r := by
  unfold sPar
  rw [h]
  exact h2
theorem frg_ok {f : AM (Int × Int)} {ρ ρ1 : En} {a b : Int} (h : f ρ = .ok (a, b) ρ1) (hr : rgOk a b = true) : fRg f ρ = .ok (rgD a b) ρ1 := by
  unfold fRg
  rw [h]
  show (if rgOk a b = true then R.ok (rgD a b) ρ1 else .bad) = _
  rw [if_pos hr]
theorem irg_ok {f : AM (Int × Int)} {ρ ρ1 : En} {a b : Int} (h : f ρ = .ok (a, b) ρ1) (hr : rgIn a b = true) : iRg f ρ = .ok (rgs a b) ρ1 := by
  unfold iRg
  rw [h]
  show (if rgIn a b = true then R.ok (rgs a b) ρ1 else .bad) = _
  rw [if_pos hr]
theorem tuprg_ok {f : AM (Int × Int)} {ρ ρ1 : En} {a b : Int} (h : f ρ = .ok (a, b) ρ1) (hr : rgOk a b = true) : aTupRg f ρ = .ok (.tuple (rgD a b)) ρ1 := by
  unfold aTupRg
  rw [h]
  show (if rgOk a b = true then R.ok (PyData.tuple (rgD a b)) ρ1 else .bad) = _
  rw [if_pos hr]
theorem rg1_ok {f : AE} {ρ ρ1 : En} {n : Int} (h : f ρ = .ok (.int n) ρ1) : aRg1 f ρ = .ok (0, n) ρ1 := by
  unfold aRg1
  rw [h]
  rfl
theorem rgOk_n {n : Nat} (h : n ≤ 16777216) : rgOk 0 (n : Int) = true := by unfold rgOk; simp; omega
theorem rgIn_n {n : Nat} (h : n ≤ 16777216) : rgIn 0 (n : Int) = true := by unfold rgIn; simp; omega
theorem upto_item {n i : Nat} {d : D} (h : (iL (upto n))[i]? = some d) : i < n ∧ d = .int (i : Nat) := by
  have hl := (List.getElem?_eq_some_iff.mp h).1
  rw [iL_len, upto_len] at hl
  rw [iL_at (upto_at hl)] at h
  cases h
  exact ⟨hl, rfl⟩
theorem iL_take (t : List Int) (n : Nat) : (iL t).take n = iL (t.take n) := by unfold iL; rw [List.map_take]
theorem iL_drop (t : List Int) (n : Nat) : (iL t).drop n = iL (t.drop n) := by unfold iL; rw [List.map_drop]
/-- a call that is lent nothing -/
theorem call_p {m : MF} {os : List Opd} {ρ ρ1 ρn : En} {ovs : List OV} {svs : List SV} {d : D} (h1 : evs os ρ = .ok ovs ρ1) (h2 : ovs.map (argSV ρ1) = svs) (h4 : m svs = .ok (.rt d) ρn) (h3 : (svs.any isUn || !nodupB (lent ρ1 ovs)) = false) (h5 : setBack ρ1 ovs ρn = ρ1) : aCall m os ρ = .ok d ρ1 := call_v h1 h2 h4 h3 h5
theorem call_pn {m : MF} {os : List Opd} {ρ ρ1 ρn : En} {ovs : List OV} {svs : List SV} (h1 : evs os ρ = .ok ovs ρ1) (h2 : ovs.map (argSV ρ1) = svs) (h4 : m svs = .ok .nx ρn) (h3 : (svs.any isUn || !nodupB (lent ρ1 ovs)) = false) (h5 : setBack ρ1 ovs ρn = ρ1) : aCall m os ρ = .ok .none ρ1 := call_n h1 h2 h4 h3 h5
/-- a call that is lent the list of slot 0 -/
theorem call_c {m : MF} {os : List Opd} {io : Bool} {c c' : List D} {ρ ρn : En} {ovs : List OV} {svs : List SV} {d : D} (h1 : evs os (.own io c :: ρ) = .ok ovs (.own io c :: ρ)) (h2 : ovs.map (argSV (.own io c :: ρ)) = svs) (h4 : m svs = .ok (.rt d) (.own true c' :: ρn)) (h3 : (svs.any isUn || !nodupB (lent (.own io c :: ρ) ovs)) = false) (h5 : setBack (.own io c :: ρ) ovs (.own true c' :: ρn) = .own io c' :: ρ) : aCall m os (.own io c :: ρ) = .ok d (.own io c' :: ρ) := call_v h1 h2 h4 h3 h5
/-- .. of slot 1 -/
theorem call_c1 {m : MF} {os : List Opd} {io : Bool} {s : SV} {c c' : List D} {ρ ρn : En} {ovs : List OV} {svs : List SV} {d : D} (h1 : evs os (s :: .own io c :: ρ) = .ok ovs (s :: .own io c :: ρ)) (h2 : ovs.map (argSV (s :: .own io c :: ρ)) = svs) (h4 : m svs = .ok (.rt d) (.own true c' :: ρn)) (h3 : (svs.any isUn || !nodupB (lent (s :: .own io c :: ρ) ovs)) = false) (h5 : setBack (s :: .own io c :: ρ) ovs (.own true c' :: ρn) = s :: .own io c' :: ρ) : aCall m os (s :: .own io c :: ρ) = .ok d (s :: .own io c' :: ρ) := call_v h1 h2 h4 h3 h5
/-! ### a loop that may return -/
theorem loop_find {g : AG} {body : AS} (I J : En → Prop) (W : D → Prop) (p : D → Bool) : ∀ (items : List D) (ρ : En), I ρ → (∀ d ∈ items, ∀ ρ, I ρ → ∃ ρ1, g d ρ = .ok () ρ1 ∧ (p d = true → ∃ w ρ2, body ρ1 = .ok (.rt w) ρ2 ∧ W w ∧ J ρ2) ∧ (p d = false → ∃ ρ2, body ρ1 = .ok .nx ρ2 ∧ I ρ2)) →
    (items.any p = true → ∃ w ρ', loopF g body items ρ = .ok (.rt w) ρ' ∧ W w ∧ J ρ') ∧ (items.any p = false → ∃ ρ', loopF g body items ρ = .ok .nx ρ' ∧ I ρ')
  | [], ρ, hI, _ => ⟨fun h => (nomatch h), fun _ => ⟨ρ, rfl, hI⟩⟩
  | d :: ds, ρ, hI, st => by
    obtain ⟨ρ1, e1, h1, h2⟩ := st d List.mem_cons_self ρ hI
    have un : loopF g body (d :: ds) ρ = (match body ρ1 with
      | .ok .nx ρ2 => loopF g body ds ρ2
      | .ok .ct ρ2 => loopF g body ds ρ2
      | .ok .bk ρ2 => .ok .nx ρ2
      | r => r) := by
      show (match g d ρ with
        | .ok _ ρ1 => (match body ρ1 with
          | .ok .nx ρ2 => loopF g body ds ρ2
          | .ok .ct ρ2 => loopF g body ds ρ2
          | .ok .bk ρ2 => .ok .nx ρ2
          | r => r)
        | _ => .bad) = _
      rw [e1]
    cases q : p d with
    | true =>
      obtain ⟨w, ρ2, e2, hw, hj⟩ := h1 q
      refine ⟨fun _ => ⟨w, ρ2, ?_, hw, hj⟩, fun h => ?_⟩
      · rw [un, e2]
      · rw [List.any_cons, q] at h
        cases h
    | false =>
      obtain ⟨ρ2, e2, hi⟩ := h2 q
      obtain ⟨k1, k2⟩ := loop_find I J W p ds ρ2 hi fun d' hd => st d' (List.mem_cons_of_mem _ hd)
      rw [List.any_cons, q, Bool.false_or]
      rw [un, e2]
      exact ⟨k1, k2⟩
theorem for_find {it : AM (List D)} {g : AG} {body : AS} {ρ0 ρ : En} {items : List D} (I J : En → Prop) (W : D → Prop) (p : D → Bool) (hit : it ρ0 = .ok items ρ) (hI : I ρ) (st : ∀ d ∈ items, ∀ ρ, I ρ → ∃ ρ1, g d ρ = .ok () ρ1 ∧ (p d = true → ∃ w ρ2, body ρ1 = .ok (.rt w) ρ2 ∧ W w ∧ J ρ2) ∧ (p d = false → ∃ ρ2, body ρ1 = .ok .nx ρ2 ∧ I ρ2)) :
    (items.any p = true → ∃ w ρ', sFor it g body ρ0 = .ok (.rt w) ρ' ∧ W w ∧ J ρ') ∧ (items.any p = false → ∃ ρ', sFor it g body ρ0 = .ok .nx ρ' ∧ I ρ') := by
  have e : sFor it g body ρ0 = loopF g body items ρ := by
    unfold sFor
    rw [hit]
    rfl
  rw [e]
  exact loop_find I J W p items ρ hI st
/-! ### rows of numbers -/
abbrev T (t : List Int) : D := .tuple (iL t)
def rL (R : List (List Int)) : List D := R.map T
abbrev Mx (R : List (List Int)) : D := .tuple (rL R)
theorem rL_len (R : List (List Int)) : (rL R).length = R.length := List.length_map ..
theorem rL_at {R : List (List Int)} {i : Nat} {t : List Int} (h : R[i]? = some t) : (rL R)[i]? = some (T t) := by
  unfold rL
  rw [List.getElem?_map, h]
  rfl
theorem rL_mem {R : List (List Int)} {d : D} (h : d ∈ rL R) : ∃ t ∈ R, d = T t := by
  obtain ⟨v, h1, h2⟩ := List.mem_map.mp h
  exact ⟨v, h1, h2.symm⟩
theorem rL_app (t u : List (List Int)) : rL t ++ rL u = rL (t ++ u) := by unfold rL; rw [List.map_append]
theorem rL_take (t : List (List Int)) (n : Nat) : (rL t).take n = rL (t.take n) := by unfold rL; rw [List.map_take]
theorem rL_drop (t : List (List Int)) (n : Nat) : (rL t).drop n = rL (t.drop n) := by unfold rL; rw [List.map_drop]
/-- the item of a row of rows -/
def at2 (R : List (List Int)) (i j : Nat) : Int := (R.getD i []).getD j 0
theorem getD_row {R : List (List Int)} {i : Nat} (h : i < R.length) : R[i]? = some (R.getD i []) := by
  rw [List.getD_eq_getElem?_getD, List.getElem?_eq_getElem h]
  rfl
theorem f_ixR {R : List (List Int)} {i : Nat} (h : i < R.length) : F_ix [Mx R, .int (i : Nat)] = some (T (R.getD i [])) := f_ixT (Int.natCast_nonneg _) (by rw [Int.toNat_natCast]; exact rL_at (getD_row h))
theorem f_ixi {t : List Int} {i : Nat} (h : i < t.length) : F_ix [T t, .int (i : Nat)] = some (.int (t.getD i 0)) := f_ixT (Int.natCast_nonneg _) (by rw [Int.toNat_natCast]; exact iL_at (getD_at h))
/-- n rows, each a turn of n things -/
structure Sq (n : Nat) (R : List (List Int)) : Prop where
  len : R.length = n
  tn : ∀ i, i < n → Tn n (R.getD i [])
/-- .. a cycle set -/
def Cyc (n : Nat) (R : List (List Int)) : Prop := ∀ x y z, x < n → y < n → z < n → at2 R (at2 R x y).toNat (at2 R x z).toNat = at2 R (at2 R y x).toNat (at2 R y z).toNat
end SW
set_option Elab.async false
set_option linter.all false
set_option maxRecDepth 100000
set_option maxHeartbeats 2000000
/-! SWLaw2: plain lemmas that name no mirror. -/
namespace SW
open PySem L2
def isWhole (d : D) (lo hi : Int) : Bool := match d with
  | .int i => decide (lo ≤ i) && decide (i ≤ hi)
  | _ => false
def noDict : D → Bool
  | .dict _ => false
  | _ => true
def isTup (d : D) (lo hi : Int) : Bool := match d with
  | .tuple xs => decide (lo ≤ (xs.length : Int)) && decide ((xs.length : Int) ≤ hi)
  | _ => false
theorem all_ints (t : List Int) (f : D → Bool) : F_all [.list ((iL t).map fun d => .bool (f d))] = some (.bool (t.all fun i => f (.int i))) := by
  show (match boolsOf ((iL t).map fun d => .bool (f d)) with | some bs => some (PyData.bool (bs.all id)) | none => none) = _
  rw [boolsOf_bools]
  simp [iL, List.all_map, Function.comp_def]
def CupS (s : SV) : Prop := ∃ a b : Int, s = .own true [.int a, .int b] ∧ 0 ≤ a ∧ 0 ≤ b
theorem turn_step {n : Nat} {f l : List Int} (hp : (f ++ l).Perm (upto n)) {r : Nat} (hr : r < l.length) : ((f ++ [l.getD r 0]) ++ (l.take r ++ l.drop (r + 1))).Perm (upto n) := by
  refine List.Perm.trans ?_ hp
  rw [List.append_assoc]
  refine List.Perm.append_left f ?_
  have e : l = l.take r ++ (l.getD r 0 :: l.drop (r + 1)) := by
    have h1 := List.take_append_drop r l
    have h2 : l.drop r = l[r] :: l.drop (r + 1) := List.drop_eq_getElem_cons hr
    have h3 : l.getD r 0 = l[r] := by rw [List.getD_eq_getElem?_getD, List.getElem?_eq_getElem hr]; rfl
    rw [h3, ← h2]
    exact h1.symm
  conv => rhs; rw [e]
  show (l.getD r 0 :: (l.take r ++ l.drop (r + 1))).Perm _
  exact List.perm_middle.symm
theorem eq_int (i j : Int) : F_eq [.int i, .int j] = some (.bool (decide (i = j))) := by
  have h : (SeqAt.shaped (.int i) && SeqAt.shaped (.int j)) = true := by simp [SeqAt.shaped, PyData.canLay0, PyData.depth]
  show (if (SeqAt.shaped (.int i) && SeqAt.shaped (.int j)) = true then some (PyData.bool (PyData.eqv (.int i) (.int j))) else none) = _
  rw [if_pos h]
  simp only [PyData.eqv]
  by_cases e : i = j
  · subst e; simp
  · simp [e]
theorem ne_int (i j : Int) : F_ne [.int i, .int j] = some (.bool (!decide (i = j))) := by
  have h : (SeqAt.shaped (.int i) && SeqAt.shaped (.int j)) = true := by simp [SeqAt.shaped, PyData.canLay0, PyData.depth]
  show (if (SeqAt.shaped (.int i) && SeqAt.shaped (.int j)) = true then some (PyData.bool (!PyData.eqv (.int i) (.int j))) else none) = _
  rw [if_pos h]
  simp only [PyData.eqv]
  by_cases e : i = j
  · subst e; simp
  · simp [e]
def atom : D → Bool
  | .none => true
  | .bool _ => true
  | .int _ => true
  | .str s => PyData.strOk s
  | _ => false
theorem eq_atom {d : D} (h : atom d = true) : F_eq [d, d] = some (.bool true) := by
  have h2 : (SeqAt.shaped d && SeqAt.shaped d) = true ∧ PyData.eqv d d = true := by
    cases d with
    | str s =>
      have h' : PyData.strOk s = true := h
      exact ⟨by simp [SeqAt.shaped, PyData.canLay0, PyData.depth, h'], by simp only [PyData.eqv]; simp⟩
    | _ => first | (simp [SeqAt.shaped, PyData.canLay0, PyData.depth, PyData.eqv]; done) | cases h
  show (if (SeqAt.shaped d && SeqAt.shaped d) = true then some (PyData.bool (PyData.eqv d d)) else none) = _
  rw [if_pos h2.1, h2.2]
theorem eq_nil : F_eq [.list [], .list []] = some (.bool true) := by
  have := eq_ints [] []
  simpa [iL] using this
def sortN : D → Int
  | .none => 0
  | .bool _ => 1
  | .int _ => 2
  | .str _ => 3
  | .tuple _ => 4
  | .list _ => 5
  | .dict _ => 6
/-- a thing that _law_like looks through: n, how deep it may be -/
def likeN : Nat → D → Bool
  | _, .none => true
  | _, .bool _ => true
  | _, .int _ => true
  | _, .str s => PyData.strOk s
  | n + 1, .tuple xs => decide (xs.length ≤ 16777216) && xs.all (likeN n)
  | n + 1, .list xs => decide (xs.length ≤ 16777216) && xs.all (likeN n)
  | _, _ => false
theorem likeN_noDict {n : Nat} {d : D} (h : likeN n d = true) : noDict d = true := by
  cases d with
  | dict _ => cases n <;> cases h
  | _ => rfl
theorem in45 (i : Int) : F_in [.int i, .tuple [.int 4, .int 5]] = some (.bool (decide (4 = i) || decide (5 = i))) := by
  show (if (flatD (.int i) && [PyData.int 4, PyData.int 5].all flatD) = true then some (PyData.bool (inD (.int i) [PyData.int 4, PyData.int 5])) else none) = _
  rw [if_pos (by rfl)]
  have e : inD (.int i) [PyData.int 4, PyData.int 5] = (decide (4 = i) || decide (5 = i)) := by
    unfold inD
    simp only [List.any_cons, List.any_nil, PyData.eqv, Bool.or_false]
    congr 1 <;> (by_cases h : (4 : Int) = i <;> by_cases h' : (5 : Int) = i <;> simp [h, h'])
  rw [e]
theorem aand_t {f g : AE} {ρ ρ1 : En} {r : R D} (h : f ρ = .ok (.bool true) ρ1) (h2 : g ρ1 = r) : aAnd f g ρ = r := by
  unfold aAnd
  rw [h]
  exact h2
theorem zip_at {xs ys : List D} {d : D} (h : d ∈ zipD xs ys) : ∃ x ∈ xs, ∃ y ∈ ys, d = .tuple [x, y] := by
  unfold zipD at h
  obtain ⟨p, hp, e⟩ := List.mem_map.mp h
  have := List.of_mem_zip hp
  exact ⟨p.1, this.1, p.2, this.2, e.symm⟩
theorem zip_self {xs : List D} {d : D} (h : d ∈ zipD xs xs) : ∃ x ∈ xs, d = .tuple [x, x] := by
  unfold zipD at h
  obtain ⟨p, hp, e⟩ := List.mem_map.mp h
  have : p.1 = p.2 ∧ p.1 ∈ xs := by
    clear e h d
    induction xs with
    | nil => cases hp
    | cons a r ih =>
      rw [List.zip_cons_cons] at hp
      rcases List.mem_cons.mp hp with e | hp
      · rw [e]; exact ⟨rfl, List.mem_cons_self⟩
      · exact ⟨(ih hp).1, List.mem_cons_of_mem _ (ih hp).2⟩
  refine ⟨p.1, this.2, ?_⟩
  rw [← e, ← this.1]
theorem zip_len (xs : List D) : (zipD xs xs).length = xs.length := by
  unfold zipD
  simp
theorem likeN_iL (n : Nat) (t : List Int) : (iL t).all (likeN n) = true := by
  rw [List.all_eq_true]
  intro d hd
  obtain ⟨v, _, rfl⟩ := iL_mem hd
  cases n <;> rfl
theorem likeN_T {n : Nat} {t : List Int} (h : t.length ≤ 16777216) : likeN (n + 1) (T t) = true := by
  show (decide ((iL t).length ≤ 16777216) && (iL t).all (likeN n)) = true
  rw [likeN_iL, iL_len, decide_eq_true h]
  rfl
theorem asg_g {f : AE} {g : AG} {ρ ρ1 ρ2 : En} {d : D} (h : f ρ = .ok d ρ1) (hg : g d ρ1 = .ok () ρ2) : sAsg f g ρ = .ok .nx ρ2 := by
  unfold sAsg
  rw [h]
  show (g d ρ1).bind _ = _
  rw [hg]
  rfl
theorem frep_ok {fl : AM (List D)} {o : Opd} {ρ ρ1 ρ2 : En} {ds : List D} {v : OV} {k : Int} (h : fl ρ = .ok ds ρ1) (h2 : o.ev ρ1 = .ok v ρ2) (g : v.get ρ2 = some (.int k)) (h0 : 0 ≤ k) (hk : k < 9223372036854775808) (hz : ds.length * k.toNat ≤ 16777216) : fRep fl o ρ = .ok (List.replicate k.toNat ds).flatten ρ2 := by
  unfold fRep
  rw [h]
  show (o.ev ρ1).bind _ = _
  rw [h2]
  show (match v.get ρ2 with
  | some (.int k) => if decide (-9223372036854775808 ≤ k) && (decide (k < 9223372036854775808) && decide (ds.length * k.toNat ≤ sizeLine)) then R.ok (List.replicate k.toNat ds).flatten ρ2 else .bad
  | _ => .bad) = _
  rw [g]
  show (if (decide (-9223372036854775808 ≤ k) && (decide (k < 9223372036854775808) && decide (ds.length * k.toNat ≤ sizeLine))) = true then R.ok (List.replicate k.toNat ds).flatten ρ2 else .bad) = _
  rw [decide_eq_true (by omega : -9223372036854775808 ≤ k), decide_eq_true hk, decide_eq_true (le_sz hz)]
  rfl
theorem likeN_list {n : Nat} {xs : List D} (hl : xs.length ≤ 16777216) (h : ∀ x ∈ xs, likeN n x = true) : likeN (n + 1) (.list xs) = true := by
  show (decide (xs.length ≤ 16777216) && xs.all (likeN n)) = true
  rw [decide_eq_true hl, List.all_eq_true.mpr h]
  rfl
theorem likeN_tuple {n : Nat} {xs : List D} (hl : xs.length ≤ 16777216) (h : ∀ x ∈ xs, likeN n x = true) : likeN (n + 1) (.tuple xs) = true := by
  show (decide (xs.length ≤ 16777216) && xs.all (likeN n)) = true
  rw [decide_eq_true hl, List.all_eq_true.mpr h]
  rfl
theorem all_nil {p : D → Prop} : ∀ x ∈ ([] : List D), p x := fun _ h => nomatch h
theorem all_cons {p : D → Prop} {a : D} {as : List D} (h : p a) (hs : ∀ x ∈ as, p x) : ∀ x ∈ a :: as, p x := fun x hx => by
  rcases List.mem_cons.mp hx with e | hx
  · rw [e]; exact h
  · exact hs x hx
theorem shaped_T (t : List Int) : SeqAt.shaped (T t) = true := by
  show ((PyData.tuple (iL t)).canLay0 && decide ((PyData.tuple (iL t)).depth ≤ 64)) = true
  have h := depth_ints t
  rw [Bool.and_eq_true]
  refine ⟨by simp only [PyData.canLay0]; exact lay_ints t, decide_eq_true ?_⟩
  simp only [PyData.depth]
  omega
theorem shaped_int (v : Int) : SeqAt.shaped (.int v) = true := by simp [SeqAt.shaped, PyData.canLay0, PyData.depth]
theorem idx_ok {t : List Int} {j : Nat} {v : Int} (nd : t.Nodup) (h : t[j]? = some v) : F_idxT [T t, .int v] = some (.int (j : Nat)) := by
  show F_index [T t, .int v] = _
  show (if (SeqAt.shaped (T t) && SeqAt.shaped (.int v)) = true then (match findD (.int v) (iL t) 0 with | some j => some (PyData.int (j : Nat)) | none => none) else none) = _
  rw [shaped_T, shaped_int, findD_at nd h, Nat.zero_add]
  rfl
theorem meth_ok {ty : Ty} {F : List D → Option D} {o : Opd} {os : List Opd} {ρ ρ1 ρ2 : En} {ov : OV} {vs : List OV} {d r : D} {ds : List D} (h : o.ev ρ = .ok ov ρ1) (g : ov.get ρ1 = some d) (ht : hasTy ty d = true) (h2 : evs os ρ1 = .ok vs ρ2) (g2 : getAll ρ2 (ov :: vs) = some ds) (hf : F ds = some r) : aMeth ty F o os ρ = .ok r ρ2 := by
  unfold aMeth
  rw [h]
  show (match ov.get ρ1 with
  | some d => if hasTy ty d = true then (evs os ρ1).bind fun vs ρ2 => (match getAll ρ2 (ov :: vs) with
    | some ds => (match F ds with
      | some d => R.ok d ρ2
      | none => .bad)
    | none => .bad) else .bad
  | none => .bad) = _
  rw [g]
  show (if hasTy ty d = true then (evs os ρ1).bind fun vs ρ2 => (match getAll ρ2 (ov :: vs) with
    | some ds => (match F ds with
      | some d => R.ok d ρ2
      | none => .bad)
    | none => .bad) else .bad) = _
  rw [if_pos ht, h2]
  show (match getAll ρ2 (ov :: vs) with
    | some ds => (match F ds with
      | some d => R.ok d ρ2
      | none => .bad)
    | none => .bad) = _
  rw [g2]
  show (match F ds with | some d => R.ok d ρ2 | none => .bad) = _
  rw [hf]
theorem or2_l {f g : AE} {ρ ρ1 : En} {d : D} (h : f ρ = .ok d ρ1) : aOr2 f g ρ = .ok d ρ1 := by
  unfold aOr2
  rw [h]
/-- one place of a turn changed -/
theorem bent_iff {n : Nat} {t : List Int} (ht : Tn n t) {i : Nat} (hi : i < n) (v : Int) : (isort (t.take i ++ [v] ++ t.drop (i + 1)) = upto (t.take i ++ [v] ++ t.drop (i + 1)).length) ↔ v = t.getD i 0 := by
  have l := ht.len
  have e0 : t.take i ++ [v] ++ t.drop (i + 1) = t.set i v := by
    rw [List.set_eq_take_append_cons_drop, if_pos (by omega), List.append_assoc]
    rfl
  rw [e0, List.length_set, l]
  constructor
  · intro h
    have hp : Tn n (t.set i v) := by
      unfold Tn
      rw [← h]
      exact (isort_perm _).symm
    obtain ⟨a1, a2⟩ := ht.at hi
    obtain ⟨j, hj, e⟩ := hp.surj (v := (t.getD i 0).toNat) (by omega)
    by_cases hij : i = j
    · subst hij
      rw [List.getD_eq_getElem?_getD, List.getElem?_set_self (by omega)] at e
      have : v = ((t.getD i 0).toNat : Nat) := e
      omega
    · rw [List.getD_eq_getElem?_getD, List.getElem?_set_ne hij, ← List.getD_eq_getElem?_getD] at e
      exact (hij (ht.inj hi hj (by omega))).elim
  · intro h
    have : t.set i v = t := by
      rw [h, List.getD_eq_getElem?_getD, List.getElem?_eq_getElem (by omega)]
      exact List.set_getElem_self (by omega)
    rw [this]
    exact (isort_eq ht.symm (upto_sorted n)).symm
theorem aand_f {f g : AE} {ρ ρ1 : En} (h : f ρ = .ok (.bool false) ρ1) : aAnd f g ρ = .ok (.bool false) ρ1 := by
  unfold aAnd
  rw [h]
  rfl
theorem all_bools (xs : List D) (f : D → Bool) : F_all [.list (xs.map fun d => .bool (f d))] = some (.bool (xs.all f)) := by
  show (match boolsOf (xs.map fun d => .bool (f d)) with | some bs => some (PyData.bool (bs.all id)) | none => none) = _
  rw [boolsOf_bools]
  simp [List.all_map, Function.comp_def]
def items : D → List D
  | .tuple xs => xs
  | _ => []
theorem isTup_tuple {d : D} {lo hi : Int} (h : isTup d lo hi = true) : ∃ xs, d = .tuple xs ∧ lo ≤ xs.length ∧ (xs.length : Int) ≤ hi := by
  cases d with
  | tuple xs =>
    have h' : (decide (lo ≤ (xs.length : Int)) && decide ((xs.length : Int) ≤ hi)) = true := h
    simp only [Bool.and_eq_true, decide_eq_true_eq] at h'
    exact ⟨xs, rfl, h'⟩
  | _ => cases h
/-! ### likeness, the def's own mirror put in -/
def isTrueM (r : R Fl) : Bool := match r with
  | .ok (.rt (.bool true)) _ => true
  | _ => false
def endM (r : R Fl) : En := match r with
  | .ok _ ρ => ρ
  | _ => []
theorem run_true {r : R Fl} {ρ : En} (h1 : isTrueM r = true) (h2 : endM r = ρ) : r = .ok (.rt (.bool true)) ρ := by
  unfold isTrueM at h1
  split at h1
  · exact congrArg (R.ok (Fl.rt (.bool true))) h2
  · cases h1
end SW
set_option Elab.async false
set_option linter.all false
set_option maxRecDepth 100000
set_option maxHeartbeats 2000000
/-! SWP: mirrors read without slots: what a def does as a condition on what is asked of its end. -/
namespace SW
open PySem L2
/-- a computation by what it promises: Q of its value, X of what it raises -/
abbrev W (α : Type) : Type := (α → Prop) → (Ex → Prop) → Prop
section
variable {α β γ : Type}
def pu (a : α) : W α := fun Q _ => Q a
def bd (t : W α) (k : α → W β) : W β := fun Q X => t (fun a => k a Q X) X
def no : W α := fun _ _ => False
def rz (x : Ex) : W α := fun _ X => X x
def opt : Option α → W α
  | some a => pu a
  | none => no
def ner (t : W α) : W α := fun Q _ => t Q fun _ => False
def iteW (c : W Bool) (t u : W α) : W α := bd c fun b => cond b t u
@[simp] theorem bd_pu (a : α) (k : α → W β) : bd (pu a) k = k a := rfl
@[simp] theorem bd_no (k : α → W β) : bd no k = no := rfl
@[simp] theorem bd_rz (x : Ex) (k : α → W β) : bd (rz x) k = rz x := rfl
theorem bd_bd (t : W α) (k : α → W β) (l : β → W γ) : bd (bd t k) l = bd t fun a => bd (k a) l := rfl
@[simp] theorem opt_some (a : α) : opt (some a) = pu a := rfl
@[simp] theorem opt_none : opt (none : Option α) = no := rfl
@[simp] theorem ner_pu (a : α) : ner (pu a) = pu a := rfl
@[simp] theorem ite_t (t u : W α) : iteW (pu true) t u = t := rfl
@[simp] theorem ite_f (t u : W α) : iteW (pu false) t u = u := rfl
theorem bd_run (t : W α) (k : α → W β) (Q : β → Prop) (X : Ex → Prop) : bd t k Q X = t (fun a => k a Q X) X := rfl
end
def asBW : D → W Bool
  | .bool b => pu b
  | _ => no
@[simp] theorem asBW_b (b : Bool) : asBW (.bool b) = pu b := rfl
def tst (t : W D) : W Bool := bd t asBW
def andD (t u : W D) : W D := bd t fun d => bd (asBW d) fun b => cond b u (pu (.bool false))
def orD (t u : W D) : W D := bd t fun d => bd (asBW d) fun b => cond b (pu (.bool true)) u
def notD (t : W D) : W D := bd t fun d => bd (asBW d) fun b => pu (.bool (!b))
def andB (t u : W Bool) : W Bool := bd t fun b => cond b u (pu false)
def orB (t u : W Bool) : W Bool := bd t fun b => cond b (pu true) u
def notB (t : W Bool) : W Bool := bd t fun b => pu (!b)
@[simp] theorem tst_b (b : Bool) : tst (pu (.bool b)) = pu b := rfl
@[simp] theorem andD_t (u : W D) : andD (pu (.bool true)) u = u := rfl
@[simp] theorem andD_f (u : W D) : andD (pu (.bool false)) u = pu (.bool false) := rfl
@[simp] theorem orD_t (u : W D) : orD (pu (.bool true)) u = pu (.bool true) := rfl
@[simp] theorem orD_f (u : W D) : orD (pu (.bool false)) u = u := rfl
@[simp] theorem notD_b (b : Bool) : notD (pu (.bool b)) = pu (.bool (!b)) := rfl
@[simp] theorem andB_t (u : W Bool) : andB (pu true) u = u := rfl
@[simp] theorem andB_f (u : W Bool) : andB (pu false) u = pu false := rfl
@[simp] theorem orB_t (u : W Bool) : orB (pu true) u = pu true := rfl
@[simp] theorem orB_f (u : W Bool) : orB (pu false) u = u := rfl
@[simp] theorem notB_b (b : Bool) : notB (pu b) = pu (!b) := rfl
def lst (t : W (List D)) : W D := bd t fun ds => pu (.list ds)
@[simp] theorem lst_pu (ds : List D) : lst (pu ds) = pu (.list ds) := rfl
def optL : Option D → W (List D)
  | some (.list xs) => pu xs
  | _ => no
@[simp] theorem optL_l (xs : List D) : optL (some (.list xs)) = pu xs := rfl
def chainW (r : Option D) (u : W D) : W D := bd (opt r) fun d => bd (asBW d) fun b => cond b u (pu (.bool false))
@[simp] theorem chain_t (u : W D) : chainW (some (.bool true)) u = u := rfl
@[simp] theorem chain_f (u : W D) : chainW (some (.bool false)) u = pu (.bool false) := rfl
def idxW (a d : D) : W D := match a with
  | .tuple xs => opt (F_idxT [.tuple xs, d])
  | .list xs => opt (F_idxL [.list xs, d])
  | _ => no
def partW : D → W (Option Int)
  | .int i => pu (some i)
  | _ => no
@[simp] theorem partW_i (i : Int) : partW (.int i) = pu (some i) := rfl
def rg1 : D → W (Int × Int)
  | .int n => pu (0, n)
  | _ => no
@[simp] theorem rg1_i (n : Int) : rg1 (.int n) = pu (0, n) := rfl
def rg2 (t : W D) (u : W D) : W (Int × Int) := bd t fun d => match d with
  | .int i => bd u fun d => (match d with
    | .int j => pu (i, j)
    | _ => no)
  | _ => no
@[simp] theorem rg2_i (i j : Int) : rg2 (pu (.int i)) (pu (.int j)) = pu (i, j) := rfl
def rgL (p : Int × Int) : W (List D) := if rgOk p.1 p.2 = true then pu (rgD p.1 p.2) else no
def rgT (p : Int × Int) : W D := if rgOk p.1 p.2 = true then pu (.tuple (rgD p.1 p.2)) else no
def rgI (p : Int × Int) : W (List D) := if rgIn p.1 p.2 = true then pu (rgs p.1 p.2) else no
theorem rgL_n {n : Nat} (h : n ≤ 16777216) : rgL (0, (n : Int)) = pu (iL (upto n)) := by
  unfold rgL; rw [if_pos (rgOk_n h), rgD_upto]
theorem rgT_n {n : Nat} (h : n ≤ 16777216) : rgT (0, (n : Int)) = pu (T (upto n)) := by
  unfold rgT; rw [if_pos (rgOk_n h), rgD_upto]
theorem rgI_n {n : Nat} (h : n ≤ 16777216) : rgI (0, (n : Int)) = pu (iL (upto n)) := by
  unfold rgI; rw [if_pos (rgIn_n h), rgs_upto]
def enumW : D → W (List D)
  | .list ds => pu (enumD ds)
  | .tuple ds => pu (enumD ds)
  | _ => no
def zipW : List D → W (List D)
  | [.list a, .list b] => pu (zipD a b)
  | [.tuple a, .tuple b] => pu (zipD a b)
  | _ => no
def repW (ds : List D) : D → W (List D)
  | .int k => if (decide (-9223372036854775808 ≤ k) && (decide (k < 9223372036854775808) && decide (ds.length * k.toNat ≤ sizeLine))) = true then pu (List.replicate k.toNat ds).flatten else no
  | _ => no
def setW (xs : List D) (k d : D) : W (List D) := match k with
  | .int n => (match ixN xs.length n with
    | some j => pu (xs.set j d)
    | none => no)
  | _ => no
def tup2 {α : Type} (d : D) (k : D → D → W α) : W α := match d with
  | .tuple [a, b] => k a b
  | _ => no
def tup3 {α : Type} (d : D) (k : D → D → D → W α) : W α := match d with
  | .tuple [a, b, c] => k a b c
  | _ => no
def par1 {α : Type} (ds : List D) (k : D → W α) : W α := match ds with
  | [a] => k a
  | _ => no
@[simp] theorem par1_t {α : Type} (a : D) (k : D → W α) : par1 [a] k = k a := rfl
def par2 {α : Type} (ds : List D) (k : D → D → W α) : W α := match ds with
  | [a, b] => k a b
  | _ => no
def par3 {α : Type} (ds : List D) (k : D → D → D → W α) : W α := match ds with
  | [a, b, c] => k a b c
  | _ => no
@[simp] theorem tup2_t {α : Type} (a b : D) (k : D → D → W α) : tup2 (.tuple [a, b]) k = k a b := rfl
@[simp] theorem tup3_t {α : Type} (a b c : D) (k : D → D → D → W α) : tup3 (.tuple [a, b, c]) k = k a b c := rfl
@[simp] theorem par2_t {α : Type} (a b : D) (k : D → D → W α) : par2 [a, b] k = k a b := rfl
@[simp] theorem par3_t {α : Type} (a b c : D) (k : D → D → D → W α) : par3 [a, b, c] k = k a b c := rfl
/-- each item on its own -/
def mapW (f : D → W D) : List D → W (List D)
  | [] => pu []
  | d :: ds => bd (ner (f d)) fun e => bd (mapW f ds) fun es => pu (e :: es)
def compW (f : D → W D) (ds : List D) : W (List D) := if ds.length ≤ sizeLine then mapW f ds else no
def mapO (f : D → W (Option D)) : List D → W (List D)
  | [] => pu []
  | d :: ds => bd (ner (f d)) fun e => bd (mapO f ds) fun es => pu (match e with | some e => e :: es | none => es)
def filtW (f : D → W (Option D)) (ds : List D) : W (List D) := if ds.length ≤ sizeLine then mapO f ds else no
def keepW (c : W Bool) (t : W D) : W (Option D) := iteW c (bd t fun e => pu (some e)) (pu none)
def toldW (F : Ex → Option D) (sn : D) {α : Type} (t : W α) : W D := fun Q _ => t (fun _ => Q sn) fun x => ∃ s, F x = some s ∧ Q s
/-! ### flows -/
inductive FW (σ l : Type) where
  | nx (s : σ)
  | bk (l : l)
  | ct (l : l)
  | rt (d : D)
  | rf (ds : List D)
def seqW {σ τ l : Type} (t : W (FW σ l)) (k : σ → W (FW τ l)) : W (FW τ l) := bd t fun r => match r with
  | .nx s => k s
  | .bk x => pu (.bk x)
  | .ct x => pu (.ct x)
  | .rt d => pu (.rt d)
  | .rf ds => pu (.rf ds)
def forW {l' l : Type} (f : D → l' → W (FW l' l')) : List D → l' → W (FW l' l)
  | [], s => pu (.nx s)
  | d :: ds, s => bd (f d s) fun r => match r with
    | .nx s => forW f ds s
    | .ct s => forW f ds s
    | .bk s => pu (.nx s)
    | .rt d => pu (.rt d)
    | .rf ds => pu (.rf ds)
def fin (t : W (FW Unit Unit)) : W D := bd t fun r => match r with
  | .rt d => pu d
  | .nx _ => pu .none
  | _ => no
def finF (t : W (FW Unit Unit)) : W (List D) := bd t fun r => match r with
  | .rf ds => pu ds
  | _ => no
@[simp] theorem seq_p {σ τ l : Type} (s : σ) (k : σ → W (FW τ l)) : seqW (pu (.nx s)) k = k s := rfl
@[simp] theorem seq_r {σ τ l : Type} (d : D) (k : σ → W (FW τ l)) : seqW (pu (.rt d)) k = pu (.rt d) := rfl
@[simp] theorem fin_r (d : D) : fin (pu (.rt d)) = pu d := rfl
@[simp] theorem fin_n (u : Unit) : fin (pu (.nx u)) = pu .none := rfl
@[simp] theorem fin_z (x : Ex) : fin (rz x) = rz x := rfl
@[simp] theorem finF_r (d : List D) : finF (pu (.rf d)) = pu d := rfl
theorem fin_bd {α : Type} (t : W α) (k : α → W (FW Unit Unit)) : fin (bd t k) = bd t fun a => fin (k a) := rfl
theorem seq_bd {α σ τ l : Type} (t : W α) (k : α → W (FW σ l)) (u : σ → W (FW τ l)) : seqW (bd t k) u = bd t fun a => seqW (k a) u := rfl
def ap0 (p : W D) : List D → W D
  | [] => p
  | _ => no
def ap1 (p : D → W D) : List D → W D
  | [a] => p a
  | _ => no
def ap2 (p : D → D → W D) : List D → W D
  | [a, b] => p a b
  | _ => no
def ap3 (p : D → D → D → W D) : List D → W D
  | [a, b, c] => p a b c
  | _ => no
def ap4 (p : D → D → D → D → W D) : List D → W D
  | [a, b, c, d] => p a b c d
  | _ => no
def ap5 (p : D → D → D → D → D → W D) : List D → W D
  | [a, b, c, d, e] => p a b c d e
  | _ => no
def ap6 (p : D → D → D → D → D → D → W D) : List D → W D
  | [a, b, c, d, e, f] => p a b c d e f
  | _ => no

/-! ### what stands in the slots -/
inductive SP where
  | any
  | pl (d : D)
  | own (io : Bool) (ds : List D)
  | cup (io : Bool)
def Fit1 : SP → SV → Prop
  | .any, s => isIo s = false
  | .pl d, s => s = .pl d
  | .own io ds, s => s = .own io ds
  | .cup io, s => ∃ a b : Int, s = .own io [.int a, .int b] ∧ 0 ≤ a ∧ 0 ≤ b
inductive Fits : List SP → En → Prop
  | nil : Fits [] []
  | cons {p : SP} {s : SV} {V : List SP} {ρ : En} : Fit1 p s → Fits V ρ → Fits (p :: V) (s :: ρ)
theorem Fits.get : ∀ {V : List SP} {ρ : En} {i : Nat} {p : SP}, Fits V ρ → V[i]? = some p → ∃ s, ρ[i]? = some s ∧ getSlot ρ i = s ∧ Fit1 p s
  | _, _, _, _, .nil, e => by simp at e
  | _, _, 0, _, .cons h _, e => by
    have e2 := Option.some.inj e
    subst e2
    exact ⟨_, rfl, rfl, h⟩
  | _, _, i + 1, _, .cons (s := s) (ρ := ρ) _ t, e => by
    obtain ⟨s', h1, h2, h3⟩ := Fits.get (i := i) t e
    exact ⟨s', h1, h2, h3⟩
theorem Fits.pl {V : List SP} {ρ : En} {i : Nat} {d : D} (h : Fits V ρ) (e : V[i]? = some (.pl d)) : getSlot ρ i = .pl d := by
  obtain ⟨s, _, h2, h3⟩ := h.get e
  rw [h2]; exact h3
theorem Fits.own {V : List SP} {ρ : En} {i : Nat} {io : Bool} {d : List D} (h : Fits V ρ) (e : V[i]? = some (.own io d)) : getSlot ρ i = .own io d := by
  obtain ⟨s, _, h2, h3⟩ := h.get e
  rw [h2]; exact h3
theorem Fits.cup {V : List SP} {ρ : En} {i : Nat} {io : Bool} (h : Fits V ρ) (e : V[i]? = some (.cup io)) : ∃ a b : Int, getSlot ρ i = .own io [.int a, .int b] ∧ 0 ≤ a ∧ 0 ≤ b := by
  obtain ⟨s, _, h2, h3⟩ := h.get e
  rw [h2]; exact h3
theorem Fits.set : ∀ {V : List SP} {ρ : En} {i : Nat} {p : SP} {s : SV}, Fits V ρ → Fit1 p s → Fits (V.set i p) (ρ.set i s)
  | _, _, _, _, _, .nil, _ => .nil
  | _, _, 0, _, _, .cons _ t, h => .cons h t
  | _, _, i + 1, _, _, .cons a t, h => .cons a (t.set h)
theorem Fits.put : ∀ {V : List SP} {ρ : En} {i : Nat} {p : SP} {s : SV}, Fits V ρ → V[i]? = some p → Fit1 p s → Fits V (ρ.set i s)
  | _, _, _, _, _, .nil, _, _ => .nil
  | _, _, 0, _, _, .cons _ t, e, h => by
    have e2 := Option.some.inj e
    subst e2
    exact .cons h t
  | _, _, i + 1, _, _, .cons a t, e, h => .cons a (t.put e h)
theorem Fits.len : ∀ {V : List SP} {ρ : En}, Fits V ρ → ρ.length = V.length
  | _, _, .nil => rfl
  | _, _, .cons _ t => congrArg (· + 1) t.len
/-- no list that is the caller's, and no cup -/
def nioP : SP → Bool
  | .any => true
  | .pl _ => true
  | .own false _ => true
  | _ => false
def nio (V : List SP) (i : Nat) : Bool := match V[i]? with
  | some p => nioP p
  | none => false
theorem nioP_ok {p : SP} {s : SV} (h : nioP p = true) (f : Fit1 p s) : isIo s = false := by
  cases p with
  | any => exact f
  | pl d => rw [show s = .pl d from f]; rfl
  | own io ds =>
    cases io with
    | false => rw [show s = .own false ds from f]; rfl
    | true => cases h
  | cup io => cases h
theorem nio_ok {V : List SP} {ρ : En} {i : Nat} (h : nio V i = true) (f : Fits V ρ) : isIo (getSlot ρ i) = false := by
  unfold nio at h
  split at h
  · rename_i p e
    obtain ⟨s, _, h2, h3⟩ := f.get e
    rw [h2]; exact nioP_ok h h3
  · cases h
inductive Le : List SP → List SP → Prop
  | nil : Le [] []
  | r {p : SP} {V V' : List SP} : Le V V' → Le (p :: V) (p :: V')
  | a {p : SP} {V V' : List SP} : (nioP p = true) → Le V V' → Le (p :: V) (.any :: V')
  | u {io : Bool} {V V' : List SP} : io = false → Le V V' → Le (.cup io :: V) (.any :: V')
theorem Fits.le : ∀ {V V' : List SP} {ρ : En}, Fits V ρ → Le V V' → Fits V' ρ
  | _, _, _, .nil, .nil => .nil
  | _, _, _, .cons h t, .r l => .cons h (t.le l)
  | _, _, _, .cons h t, .a n l => .cons (nioP_ok n h) (t.le l)
  | _, _, _, .cons h t, .u n l => by
    obtain ⟨a, b, e, _⟩ := h
    rw [e]
    exact .cons (by subst n; rfl) (t.le l)
def Tr {α : Type} (r : R α) (Q : α → En → Prop) (X : Ex → En → Prop) : Prop := match r with
  | .ok a ρ => Q a ρ
  | .err x ρ => X x ρ
  | .bad => False
section
variable {α β : Type}
def JE (V : List SP) (f : AM α) (t : W α) : Prop := ∀ ρ Q X, Fits V ρ → t Q X → Tr (f ρ) (fun a ρ' => Fits V ρ' ∧ Q a) (fun x ρ' => Fits V ρ' ∧ X x)
/-- an expression that is there at once -/
def JEa (V : List SP) (f : AE) (d : D) : Prop := ∀ ρ, Fits V ρ → f ρ = .ok d ρ
theorem je_bind {V : List SP} {f : AM α} {g : α → AM β} {t : W α} {u : α → W β} (h : JE V f t) (k : ∀ a, JE V (g a) (u a)) : JE V (fun ρ => (f ρ).bind g) (bd t u) := by
  intro ρ Q X hf ht
  have h1 := h ρ _ X hf ht
  show Tr ((f ρ).bind g) _ _
  cases e : f ρ with
  | ok a ρ1 => rw [e] at h1; exact k a ρ1 Q X h1.1 h1.2
  | err x ρ1 => rw [e] at h1; exact h1
  | bad => rw [e] at h1; exact h1
theorem je_pu {V : List SP} {a : α} : JE V (fun ρ => .ok a ρ) (pu a) := fun ρ Q X hf ht => ⟨hf, ht⟩
theorem je_no {V : List SP} {f : AM α} : JE V f no := fun ρ Q X hf ht => ht.elim
theorem je_a {V : List SP} {f : AE} {d : D} (h : JEa V f d) : JE V f (pu d) := fun ρ Q X hf ht => by rw [h ρ hf]; exact ⟨hf, ht⟩
theorem je_cast {V : List SP} {f f' : AM α} {t : W α} (h : JE V f t) (e : ∀ ρ, f' ρ = f ρ) : JE V f' t := fun ρ Q X hf ht => by rw [e]; exact h ρ Q X hf ht
end
section
variable {V : List SP} {f g : AE} {t u : W D} {c c' : AM Bool} {tc uc : W Bool} {d : D} {i : Nat}
theorem ea_c : JEa V (eC d) d := fun ρ _ => rfl
theorem ea_v (i : Nat) (e : V[i]? = some (.pl d) := by rfl) : JEa V (eV i) d := fun ρ hf => by
  unfold eV
  rw [hf.pl e]
theorem je_t (h : JE V f t) : JE V (aT f) (tst t) := je_bind h fun d => by
  cases d with
  | bool b => exact je_pu
  | _ => exact je_no
theorem je_not (h : JE V f t) : JE V (aNot f) (notD t) := je_bind h fun d => by
  cases d with
  | bool b => exact je_pu
  | _ => exact je_no
theorem je_and (h : JE V f t) (k : JE V g u) : JE V (aAnd f g) (andD t u) := je_bind h fun d => by
  cases d with
  | bool b => cases b with
    | true => exact k
    | false => exact je_pu
  | _ => exact je_no
theorem je_or (h : JE V f t) (k : JE V g u) : JE V (aOr f g) (orD t u) := je_bind h fun d => by
  cases d with
  | bool b => cases b with
    | true => exact je_pu
    | false => exact k
  | _ => exact je_no
theorem je_andB (h : JE V c tc) (k : JE V c' uc) : JE V (tAndA c c') (andB tc uc) := je_bind h fun d => by
  cases d with
  | true => exact k
  | false => exact je_pu
theorem je_orB (h : JE V c tc) (k : JE V c' uc) : JE V (tOrA c c') (orB tc uc) := je_bind h fun d => by
  cases d with
  | true => exact je_pu
  | false => exact k
theorem je_notB (h : JE V c tc) : JE V (tNotA c) (notB tc) := je_bind h fun d => je_pu
theorem je_if (hc : JE V c tc) (h : JE V f t) (k : JE V g u) : JE V (aIf c f g) (iteW tc t u) := je_bind hc fun d => by
  cases d with
  | true => exact h
  | false => exact k
theorem je_fr {fl : AM (List D)} {tl : W (List D)} (h : JE V fl tl) : JE V (aFr fl) (lst tl) := je_bind h fun d => je_pu
theorem je_rg1 (h : JE V f t) : JE V (aRg1 f) (bd t rg1) := je_bind h fun d => by
  cases d with
  | int b => exact je_pu
  | _ => exact je_no
theorem je_rg2 (h : JE V f t) (k : JE V g u) : JE V (aRg2 f g) (rg2 t u) := je_bind h fun d => by
  cases d with
  | int b =>
    refine je_bind k fun d => ?_
    cases d with
    | int b => exact je_pu
    | _ => exact je_no
  | _ => exact je_no
section
variable {r : AM (Int × Int)} {tr : W (Int × Int)}
theorem je_ifd {α : Type} {b : Prop} [Decidable b] {x : α} : JE V (fun ρ => if b then .ok x ρ else .bad) (if b then pu x else no) := by
  by_cases h : b
  · rw [if_pos h]
    exact je_cast je_pu fun ρ => if_pos h
  · rw [if_neg h]
    exact je_no
theorem je_fRg (h : JE V r tr) : JE V (fRg r) (bd tr rgL) := je_bind h fun p => je_ifd
theorem je_tRg (h : JE V r tr) : JE V (aTupRg r) (bd tr rgT) := je_bind h fun p => je_ifd
theorem je_iRg (h : JE V r tr) : JE V (iRg r) (bd tr rgI) := je_bind h fun p => je_ifd
end
theorem je_seq (h : JE V f t) : JE V (iSeq f) (bd t fun d => opt (itemsOf d)) := je_bind h fun d => by
  cases e : itemsOf d with
  | none => exact je_no
  | some ds => exact je_cast (je_pu (a := ds)) fun ρ => by simp
theorem je_enum (h : JE V f t) : JE V (iEnumA f) (bd t enumW) := je_bind h fun d => by
  cases d with
  | list b => exact je_pu
  | tuple b => exact je_pu
  | _ => exact je_no
theorem je_ptn : JE V (aPart none) (pu none) := je_pu
theorem je_pts (h : JE V f t) : JE V (aPart (some f)) (bd t partW) := je_bind h fun d => by
  cases d with
  | int b => exact je_pu
  | _ => exact je_no
theorem je_told {F : Ex → Option D} {sn : D} (h : JE V f t) : JE V (aTold F sn f) (toldW F sn t) := fun ρ Q X hf ht => by
  have h1 := h ρ _ _ hf ht
  unfold aTold
  cases e : f ρ with
  | ok a ρ1 => rw [e] at h1; exact h1
  | err x ρ1 =>
    rw [e] at h1
    obtain ⟨h2, s, h3, h4⟩ := h1
    dsimp only
    rw [h3]
    exact ⟨h2, h4⟩
  | bad => rw [e] at h1; exact h1
end
/-! ### operands -/
def JA (V : List SP) (o : Opd) (d : D) : Prop := ∀ ρ, Fits V ρ → ∃ ov, o.ev ρ = .ok ov ρ ∧ ∀ ρ', Fits V ρ' → ov.get ρ' = some d
def GA (V : List SP) (ovs : List OV) (ds : List D) : Prop := ∀ ρ, Fits V ρ → getAll ρ ovs = some ds
def JK {β : Type} (V : List SP) (os : List Opd) (t : W β) (K : List D → W β) : Prop := ∀ ρ Q X, Fits V ρ → t Q X → Tr (evs os ρ) (fun ovs ρ' => Fits V ρ' ∧ ∃ ds, GA V ovs ds ∧ ds.length = os.length ∧ K ds Q X) (fun x ρ' => Fits V ρ' ∧ X x)
section
variable {V : List SP} {f g : AE} {o : Opd} {os : List Opd} {d : D} {i : Nat} {β : Type} {K : List D → W β}
theorem oa_v (i : Nat) (e : V[i]? = some (.pl d) := by rfl) : JA V (.br i) d := fun ρ hf => by
  refine ⟨.slot i, ?_, fun ρ' hf' => ?_⟩
  · unfold Opd.ev
    dsimp only
    rw [hf.pl e]
  · unfold OV.get
    dsimp only
    rw [hf'.pl e]
theorem oa_o (i : Nat) {io : Bool} {ds : List D} (e : V[i]? = some (.own io ds) := by rfl) : JA V (.br i) (.list ds) := fun ρ hf => by
  refine ⟨.slot i, ?_, fun ρ' hf' => ?_⟩
  · unfold Opd.ev
    dsimp only
    rw [hf.own e]
  · unfold OV.get
    dsimp only
    rw [hf'.own e]
theorem oa_c : JA V (.ex (eC d)) d := fun ρ _ => ⟨.val d, rfl, fun _ _ => rfl⟩
theorem k_nil {t : W β} (h : K [] = t) : JK V [] t K := fun ρ Q X hf ht => ⟨hf, [], fun _ _ => rfl, rfl, by rw [h]; exact ht⟩
theorem getAll_cons {ρ : En} {ov : OV} {ovs : List OV} {d : D} {ds : List D} (h : ov.get ρ = some d) (hs : getAll ρ ovs = some ds) : getAll ρ (ov :: ovs) = some (d :: ds) := by
  unfold getAll
  rw [h]
  dsimp only
  rw [hs]
theorem k_a {t : W β} (h : JA V o d) (k : JK V os t fun ds => K (d :: ds)) : JK V (o :: os) t K := fun ρ Q X hf ht => by
  obtain ⟨ov, h1, h2⟩ := h ρ hf
  have h3 := k ρ Q X hf ht
  show Tr ((o.ev ρ).bind _) _ _
  rw [h1]
  show Tr ((evs os ρ).bind _) _ _
  cases e : evs os ρ with
  | ok ovs ρ1 =>
    rw [e] at h3
    obtain ⟨h4, ds, h5, h6, h7⟩ := h3
    exact ⟨h4, d :: ds, fun ρ' hf' => getAll_cons (h2 ρ' hf') (h5 ρ' hf'), congrArg (· + 1) h6, h7⟩
  | err x ρ1 => rw [e] at h3; exact h3
  | bad => rw [e] at h3; exact h3
theorem k_c {tf : W D} {t : D → W β} (h : JE V f tf) (k : ∀ v, JK V os (t v) fun ds => K (v :: ds)) : JK V (.ex f :: os) (bd tf t) K := fun ρ Q X hf ht => by
  have h1 := h ρ _ X hf ht
  show Tr (((f ρ).bind fun d ρ' => R.ok (OV.val d) ρ').bind _) _ _
  cases e : f ρ with
  | ok v ρ1 =>
    rw [e] at h1
    have h3 := k v ρ1 Q X h1.1 h1.2
    show Tr ((evs os ρ1).bind _) _ _
    cases e2 : evs os ρ1 with
    | ok ovs ρ2 =>
      rw [e2] at h3
      obtain ⟨h4, ds, h5, h6, h7⟩ := h3
      exact ⟨h4, v :: ds, fun ρ' hf' => getAll_cons rfl (h5 ρ' hf'), congrArg (· + 1) h6, h7⟩
    | err x ρ2 => rw [e2] at h3; exact h3
    | bad => rw [e2] at h3; exact h3
  | err x ρ1 => rw [e] at h1; exact h1
  | bad => rw [e] at h1; exact h1
theorem tr_bind {α γ : Type} {r : R α} {g : α → En → R γ} {P : α → En → Prop} {Q : γ → En → Prop} {X : Ex → En → Prop} (h : Tr r P X) (k : ∀ a ρ, P a ρ → Tr (g a ρ) Q X) : Tr (r.bind g) Q X := by
  cases r with
  | ok a ρ => exact k a ρ h
  | err x ρ => exact h
  | bad => exact h
theorem je_ops {F : List D → Option D} {t : W D} (k : JK V os t fun ds => opt (F ds)) : JE V (aOps F os) t := fun ρ Q X hf ht => by
  refine tr_bind (k ρ Q X hf ht) fun ovs ρ1 ⟨h1, ds, h2, _, h3⟩ => ?_
  rw [h2 ρ1 h1]
  dsimp only
  have h3 : opt (F ds) Q X := h3
  cases e : F ds with
  | none => rw [e] at h3; exact h3.elim
  | some d => rw [e] at h3; exact ⟨h1, h3⟩
theorem je_fops {F : List D → Option D} {t : W (List D)} (k : JK V os t fun ds => optL (F ds)) : JE V (fOps F os) t := fun ρ Q X hf ht => by
  refine tr_bind (k ρ Q X hf ht) fun ovs ρ1 ⟨h1, ds, h2, _, h3⟩ => ?_
  rw [h2 ρ1 h1]
  dsimp only
  have h3 : optL (F ds) Q X := h3
  cases e : F ds with
  | none => rw [e] at h3; exact h3.elim
  | some d =>
    rw [e] at h3
    cases d with
    | list xs => exact ⟨h1, h3⟩
    | _ => exact h3.elim
theorem get_two {ρ : En} {v w : OV} {a b : D} (h : getAll ρ [v, w] = some [a, b]) : v.get ρ = some a ∧ w.get ρ = some b := by
  unfold getAll at h
  cases q : v.get ρ with
  | none => rw [q] at h; cases h
  | some a' =>
    rw [q] at h
    dsimp only at h
    unfold getAll at h
    cases q2 : w.get ρ with
    | none => rw [q2] at h; cases h
    | some b' =>
      rw [q2] at h
      cases h
      exact ⟨rfl, rfl⟩
theorem get_one {ρ : En} {v : OV} {ds : List D} (h : getAll ρ [v] = some ds) : ∃ a, ds = [a] ∧ v.get ρ = some a := by
  unfold getAll at h
  cases q : v.get ρ with
  | none => rw [q] at h; cases h
  | some a' =>
    rw [q] at h
    cases h
    exact ⟨_, rfl, rfl⟩
theorem evs_length : ∀ {os : List Opd} {ρ ρ' : En} {ovs : List OV}, evs os ρ = .ok ovs ρ' → ovs.length = os.length
  | [], _, _, _, e => by cases e; rfl
  | o :: os, ρ, ρ', ovs, e => by
    have e : (o.ev ρ).bind (fun v ρ1 => (evs os ρ1).bind fun vs ρ2 => R.ok (v :: vs) ρ2) = R.ok ovs ρ' := e
    cases q : o.ev ρ with
    | ok v ρ1 =>
      rw [q] at e
      have e : (evs os ρ1).bind (fun vs ρ2 => R.ok (v :: vs) ρ2) = R.ok ovs ρ' := e
      cases q2 : evs os ρ1 with
      | ok vs ρ2 =>
        rw [q2] at e
        cases e
        exact congrArg (· + 1) (evs_length q2)
      | err x ρ2 => rw [q2] at e; cases e
      | bad => rw [q2] at e; cases e
    | err x ρ1 => rw [q] at e; cases e
    | bad => rw [q] at e; cases e
theorem je_chain {F F' : List D → Option D} {o1 o2 o3 : Opd} {t : W D} {u : D → W D} (k : JK V [o1, o2] t fun ds => par2 ds fun a b => chainW (F [a, b]) (u b)) (k2 : ∀ b, JK V [o3] (u b) fun cs => opt (F' (b :: cs))) : JE V (aChain F F' o1 o2 o3) t := fun ρ Q X hf ht => by
  have h0 := k ρ Q X hf ht
  show Tr ((evs [o1, o2] ρ).bind _) _ _
  cases e : evs [o1, o2] ρ with
  | err x ρ1 => rw [e] at h0; exact h0
  | bad => rw [e] at h0; exact h0
  | ok ovs ρ1 =>
    rw [e] at h0
    obtain ⟨h1, ds, h2, h2l, h3⟩ := h0
    have hl := evs_length e
    match ovs, hl, ds, h2l, h2, h3 with
    | [v, w], _, [a, b], _, h2, h3 =>
      show Tr (match getAll ρ1 [v, w] with
        | some ds => (match F ds with
          | some (.bool true) => (match ([v, w] : List OV) with
            | [_, v] => (o3.ev ρ1).bind fun w ρ2 => (match getAll ρ2 [v, w] with
              | some es => (match F' es with
                | some d => R.ok d ρ2
                | none => .bad)
              | none => .bad)
            | _ => .bad)
          | some (.bool false) => R.ok (.bool false) ρ1
          | _ => .bad)
        | none => .bad) _ _
      rw [h2 ρ1 h1]
      dsimp only
      have h3 : chainW (F [a, b]) (u b) Q X := h3
      unfold chainW at h3
      cases q : F [a, b] with
      | none => rw [q] at h3; exact h3.elim
      | some d =>
        rw [q] at h3
        cases d with
        | bool k0 =>
          cases k0 with
          | false => exact ⟨h1, h3⟩
          | true =>
            have h4 : u b Q X := h3
            have h5 := k2 b ρ1 Q X h1 h4
            have h5 : Tr ((o3.ev ρ1).bind fun v ρ2 => R.ok [v] ρ2) _ _ := h5
            dsimp only
            cases q3 : o3.ev ρ1 with
            | err x ρ2 => rw [q3] at h5; exact h5
            | bad => rw [q3] at h5; exact h5
            | ok z ρ2 =>
              rw [q3] at h5
              obtain ⟨h6, cs, h7, _, h8⟩ := h5
              obtain ⟨c, rfl, h9⟩ := get_one (h7 ρ2 h6)
              have h10 : getAll ρ2 [w, z] = some [b, c] := getAll_cons (get_two (h2 ρ2 h6)).2 (h7 ρ2 h6)
              show Tr (match getAll ρ2 [w, z] with
                | some es => (match F' es with
                  | some d => R.ok d ρ2
                  | none => .bad)
                | none => .bad) _ _
              rw [h10]
              dsimp only
              have h8 : opt (F' [b, c]) Q X := h8
              cases q4 : F' [b, c] with
              | none => rw [q4] at h8; exact h8.elim
              | some r => rw [q4] at h8; exact ⟨h6, h8⟩
        | _ => exact h3.elim
    | [_, _], _, [], h, _, _ => cases h
    | [_, _], _, [_], h, _, _ => cases h
    | [_, _], _, _ :: _ :: _ :: _, h, _, _ => cases h
    | [], h, _, _, _, _ => cases h
    | [_], h, _, _, _, _ => cases h
    | _ :: _ :: _ :: _, h, _, _, _, _ => cases h
/-- parts of a slice -/
theorem je_sla {lo hi : Option AE} {tl th : W (Option Int)} (h : JA V o d) (h1 : JE V (aPart lo) tl) (h2 : JE V (aPart hi) th) : JE V (aSl o lo hi) (bd tl fun l => bd th fun h => opt (F_sl d l h)) := fun ρ Q X hf ht => by
  obtain ⟨ov, e1, e2⟩ := h ρ hf
  unfold aSl
  rw [e1]
  show Tr ((aPart lo ρ).bind _) _ _
  refine tr_bind (h1 ρ _ X hf ht) fun l ρ1 ⟨g1, z1⟩ => ?_
  refine tr_bind (h2 ρ1 _ X g1 z1) fun h ρ2 ⟨g2, z2⟩ => ?_
  rw [e2 ρ2 g2]
  dsimp only
  have z2 : opt (F_sl d l h) Q X := z2
  cases q : F_sl d l h with
  | none => rw [q] at z2; exact z2.elim
  | some r => rw [q] at z2; exact ⟨g2, z2⟩
theorem je_slc {lo hi : Option AE} {tf : W D} {tl th : W (Option Int)} (h : JE V f tf) (h1 : JE V (aPart lo) tl) (h2 : JE V (aPart hi) th) : JE V (aSl (.ex f) lo hi) (bd tf fun d => bd tl fun l => bd th fun h => opt (F_sl d l h)) := fun ρ Q X hf ht => by
  unfold aSl
  show Tr (((f ρ).bind fun d ρ' => R.ok (OV.val d) ρ').bind _) _ _
  have h0 := h ρ _ X hf ht
  cases e : f ρ with
  | err x ρ1 => rw [e] at h0; exact h0
  | bad => rw [e] at h0; exact h0
  | ok d ρ0 =>
    rw [e] at h0
    show Tr ((aPart lo ρ0).bind _) _ _
    refine tr_bind (h1 ρ0 _ X h0.1 h0.2) fun l ρ1 ⟨g1, z1⟩ => ?_
    refine tr_bind (h2 ρ1 _ X g1 z1) fun h ρ2 ⟨g2, z2⟩ => ?_
    show Tr (match F_sl d l h with
    | some r => R.ok r ρ2
    | none => .bad) _ _
    have z2 : opt (F_sl d l h) Q X := z2
    cases q : F_sl d l h with
    | none => rw [q] at z2; exact z2.elim
    | some r => rw [q] at z2; exact ⟨g2, z2⟩
/-- an operand that raises nothing -/
def JN (V : List SP) (o : Opd) (t : W D) : Prop := ∀ ρ Q X, Fits V ρ → t Q X → ∃ ov ρ', o.ev ρ = .ok ov ρ' ∧ Fits V ρ' ∧ ∃ d, (∀ ρ'', Fits V ρ'' → ov.get ρ'' = some d) ∧ Q d
theorem n_a (h : JA V o d) : JN V o (pu d) := fun ρ Q X hf ht => by
  obtain ⟨ov, h1, h2⟩ := h ρ hf
  exact ⟨ov, ρ, h1, hf, d, h2, ht⟩
theorem n_c {t : W D} (h : JE V f t) : JN V (.ex f) (ner t) := fun ρ Q X hf ht => by
  have h1 := h ρ _ _ hf ht
  cases e : f ρ with
  | ok a ρ1 =>
    rw [e] at h1
    exact ⟨.val a, ρ1, ex_ok e, h1.1, a, fun _ _ => rfl, h1.2⟩
  | err x ρ1 => rw [e] at h1; exact h1.2.elim
  | bad => rw [e] at h1; exact h1.elim
/-- d.index(e) -/
theorem je_idx {o1 o2 : Opd} {t t2 : W D} (k : JK V [o1] t fun as => par1 as fun a => bd t2 fun b => idxW a b) (h2 : JN V o2 t2) : JE V (aOr2 (aMeth .tuple F_idxT o1 [o2]) (aMeth .list F_idxL o1 [o2])) t := fun ρ Q X hf ht => by
  have h0 := k ρ Q X hf ht
  have h0 : Tr ((o1.ev ρ).bind fun v ρ1 => R.ok [v] ρ1) _ _ := h0
  cases e1 : o1.ev ρ with
  | bad => rw [e1] at h0; exact h0.elim
  | err x ρ1 =>
    rw [e1] at h0
    have q : aMeth .tuple F_idxT o1 [o2] ρ = .err x ρ1 := by unfold aMeth; rw [e1]; rfl
    unfold aOr2
    rw [q]
    exact h0
  | ok ov ρ1 =>
    rw [e1] at h0
    obtain ⟨f1, as, f2, _, f3⟩ := h0
    obtain ⟨a, rfl, g1⟩ := get_one (f2 ρ1 f1)
    have f3 : bd t2 (fun b => idxW a b) Q X := f3
    obtain ⟨ov2, ρ2, e2, f4, b, g2, f5⟩ := h2 ρ1 _ X f1 f3
    have ga : getAll ρ2 [ov, ov2] = some [a, b] := getAll_cons (by
      obtain ⟨a', e', g'⟩ := get_one (f2 ρ2 f4)
      cases e'
      exact g') (getAll_cons (g2 ρ2 f4) rfl)
    have e3 : evs [o2] ρ1 = .ok [ov2] ρ2 := os_cons e2 os_nil
    have f5 : idxW a b Q X := f5
    unfold aOr2
    cases a with
    | tuple xs =>
      have f5 : opt (F_idxT [.tuple xs, b]) Q X := f5
      cases q : F_idxT [.tuple xs, b] with
      | none => rw [q] at f5; exact f5.elim
      | some r =>
        rw [q] at f5
        rw [meth_ok e1 g1 rfl e3 ga q]
        exact ⟨f4, f5⟩
    | list xs =>
      have f5 : opt (F_idxL [.list xs, b]) Q X := f5
      have q0 : aMeth .tuple F_idxT o1 [o2] ρ = .bad := by
        unfold aMeth
        rw [e1]
        show (match ov.get ρ1 with
          | some d => if hasTy .tuple d = true then (evs [o2] ρ1).bind fun vs ρ2 => (match getAll ρ2 (ov :: vs) with
            | some ds => (match F_idxT ds with
              | some d => R.ok d ρ2
              | none => .bad)
            | none => .bad) else .bad
          | none => .bad) = _
        rw [g1]
        rfl
      rw [q0]
      dsimp only
      cases q : F_idxL [.list xs, b] with
      | none => rw [q] at f5; exact f5.elim
      | some r =>
        rw [q] at f5
        rw [meth_ok e1 g1 rfl e3 ga q]
        exact ⟨f4, f5⟩
    | _ => exact f5.elim
/-! ### displays -/
def JDs {β : Type} (V : List SP) (fs : List AE) (t : W β) (K : List D → W β) : Prop := ∀ ρ Q X, Fits V ρ → t Q X → Tr (evsD fs ρ) (fun ds ρ' => Fits V ρ' ∧ ds.length = fs.length ∧ K ds Q X) (fun x ρ' => Fits V ρ' ∧ X x)
theorem d_n {t : W β} (h : K [] = t) : JDs V [] t K := fun ρ Q X hf ht => ⟨hf, rfl, by rw [h]; exact ht⟩
theorem d_a {fs : List AE} {t : W β} (h : JEa V f d) (k : JDs V fs t fun ds => K (d :: ds)) : JDs V (f :: fs) t K := fun ρ Q X hf ht => by
  show Tr ((f ρ).bind _) _ _
  rw [h ρ hf]
  show Tr ((evsD fs ρ).bind _) _ _
  refine tr_bind (k ρ Q X hf ht) fun ds ρ1 ⟨h1, h2, h3⟩ => ⟨h1, congrArg (· + 1) h2, h3⟩
theorem d_c {fs : List AE} {tf : W D} {t : D → W β} (h : JE V f tf) (k : ∀ v, JDs V fs (t v) fun ds => K (v :: ds)) : JDs V (f :: fs) (bd tf t) K := fun ρ Q X hf ht => by
  show Tr ((f ρ).bind _) _ _
  refine tr_bind (h ρ _ X hf ht) fun v ρ1 ⟨g1, z1⟩ => ?_
  refine tr_bind (k v ρ1 Q X g1 z1) fun ds ρ1 ⟨h1, h2, h3⟩ => ⟨h1, congrArg (· + 1) h2, h3⟩
theorem je_tup {fs : List AE} {t : W D} (k : JDs V fs t fun ds => pu (.tuple ds)) (hl : fs.length ≤ 16777216 := by decide) : JE V (aTup fs) t := fun ρ Q X hf ht => by
  refine tr_bind (k ρ Q X hf ht) fun ds ρ1 ⟨h1, h2, h3⟩ => ?_
  rw [if_pos (le_sz (by omega))]
  exact ⟨h1, h3⟩
theorem je_lst {fs : List AE} {t : W (List D)} (k : JDs V fs t fun ds => pu ds) (hl : fs.length ≤ 16777216 := by decide) : JE V (fLst fs) t := fun ρ Q X hf ht => by
  refine tr_bind (k ρ Q X hf ht) fun ds ρ1 ⟨h1, h2, h3⟩ => ?_
  rw [if_pos (le_sz (by omega))]
  exact ⟨h1, h3⟩
theorem je_list {fs : List AE} {t : W D} (k : JDs V fs t fun ds => pu (.list ds)) (hl : fs.length ≤ 16777216 := by decide) : JE V (aFr (fLst fs)) t := fun ρ Q X hf ht => by
  show Tr (((evsD fs ρ).bind fun ds ρ1 => if ds.length ≤ sizeLine then R.ok ds ρ1 else .bad).bind _) _ _
  have h0 := k ρ Q X hf ht
  cases e : evsD fs ρ with
  | ok ds ρ1 =>
    rw [e] at h0
    obtain ⟨h1, h2, h3⟩ := h0
    show Tr ((if ds.length ≤ sizeLine then R.ok ds ρ1 else (.bad : R (List D))).bind _) _ _
    rw [if_pos (le_sz (by omega))]
    exact ⟨h1, h3⟩
  | err x ρ1 => rw [e] at h0; exact h0
  | bad => rw [e] at h0; exact h0
theorem je_zip {fs : List AE} {t : W (List D)} (k : JDs V fs t zipW) : JE V (iZipS fs) t := fun ρ Q X hf ht => by
  refine tr_bind (k ρ Q X hf ht) fun ds ρ1 ⟨h1, _, h3⟩ => ?_
  unfold zipW at h3
  split at h3
  · exact ⟨h1, h3⟩
  · exact ⟨h1, h3⟩
  · exact h3.elim
theorem je_rep {fl : AM (List D)} {tl : W (List D)} {t : D → W D} (h : JE V fl tl) (ha : JA V o d) : JE V (fRep fl o) (bd tl fun ds => repW ds d) := fun ρ Q X hf ht => by
  refine tr_bind (h ρ _ X hf ht) fun ds ρ1 ⟨g1, z1⟩ => ?_
  obtain ⟨ov, e1, e2⟩ := ha ρ1 g1
  rw [e1]
  dsimp only [R.bind_ok]
  rw [e2 ρ1 g1]
  cases d with
  | int k =>
    dsimp only
    have z1 : (if (decide (-9223372036854775808 ≤ k) && (decide (k < 9223372036854775808) && decide (ds.length * k.toNat ≤ sizeLine))) = true then pu (List.replicate k.toNat ds).flatten else no) Q X := z1
    by_cases c : (decide (-9223372036854775808 ≤ k) && (decide (k < 9223372036854775808) && decide (ds.length * k.toNat ≤ sizeLine))) = true
    · rw [if_pos c] at z1 ⊢
      exact ⟨g1, z1⟩
    · rw [if_neg c] at z1
      exact z1.elim
  | _ => exact z1.elim
theorem je_repc {fl : AM (List D)} {tl : W (List D)} {t : W D} (h : JE V fl tl) (ha : JE V f t) : JE V (fRep fl (.ex f)) (bd tl fun ds => bd t fun d => repW ds d) := fun ρ Q X hf ht => by
  refine tr_bind (h ρ _ X hf ht) fun ds ρ1 ⟨g1, z1⟩ => ?_
  show Tr (((f ρ1).bind fun d ρ' => R.ok (OV.val d) ρ').bind _) _ _
  have h0 := ha ρ1 _ X g1 z1
  cases e : f ρ1 with
  | err x ρ1 => rw [e] at h0; exact h0
  | bad => rw [e] at h0; exact h0
  | ok d ρ0 =>
    rw [e] at h0
    obtain ⟨g2, z2⟩ := h0
    dsimp only [R.bind_ok]
    cases d with
    | int k =>
      dsimp only [OV.get]
      have z1 : (if (decide (-9223372036854775808 ≤ k) && (decide (k < 9223372036854775808) && decide (ds.length * k.toNat ≤ sizeLine))) = true then pu (List.replicate k.toNat ds).flatten else no) Q X := z2
      by_cases c : (decide (-9223372036854775808 ≤ k) && (decide (k < 9223372036854775808) && decide (ds.length * k.toNat ≤ sizeLine))) = true
      · rw [if_pos c] at z1 ⊢
        exact ⟨g2, z1⟩
      · rw [if_neg c] at z1
        exact z1.elim
    | _ => exact z2.elim
end
end SW
set_option Elab.async false
set_option linter.all false
set_option maxRecDepth 100000
set_option maxHeartbeats 2000000
/-! SWP2: comprehensions, calls, statements, defs without slots. -/
namespace SW
open PySem L2
/-! ### targets and comprehensions -/
def Off (vs : List Nat) (V1 V : List SP) : Prop := V1.length = V.length ∧ ∀ i, i ∉ vs → V1[i]? = V[i]?
theorem off_refl {vs : List Nat} {V : List SP} : Off vs V V := ⟨rfl, fun _ _ => rfl⟩
theorem off_set {vs : List Nat} {V1 V : List SP} {i : Nat} {p : SP} (h : Off vs V1 V) (hi : i ∈ vs) : Off vs (V1.set i p) V := ⟨by rw [List.length_set]; exact h.1, fun j hj => by
  rw [List.getElem?_set_ne (fun e => hj (by rw [← e]; exact hi))]
  exact h.2 j hj⟩
/-- the target takes d: V becomes V1, at vs only -/
structure JG (vs : List Nat) (V : List SP) (g : AG) (d : D) (V1 : List SP) : Prop where
  run : ∀ ρ, Fits V ρ → ∃ ρ1, g d ρ = .ok () ρ1 ∧ Fits V1 ρ1
  off : Off vs V1 V
theorem gnm_run {V : List SP} {i : Nat} {d : D} (h : nio V i = true) {ρ : En} (hf : Fits V ρ) : gNm i d ρ = .ok () (setSlot ρ i (.pl d)) ∧ Fits (V.set i (.pl d)) (setSlot ρ i (.pl d)) := by
  refine ⟨?_, hf.set rfl⟩
  unfold gNm
  rw [nio_ok h hf, if_neg Bool.false_ne_true]
theorem jg_nm {vs : List Nat} {V : List SP} {i : Nat} {d : D} (h : nio V i = true := by rfl) (hi : i ∈ vs := by decide) : JG vs V (gNm i) d (V.set i (.pl d)) :=
  ⟨fun ρ hf => ⟨_, gnm_run h hf⟩, off_set off_refl hi⟩
structure JGs (vs : List Nat) (V : List SP) (gs : List AG) (ds : List D) (V1 : List SP) : Prop where
  run : ∀ ρ, Fits V ρ → ∃ ρ1, gsRun gs ds ρ = .ok () ρ1 ∧ Fits V1 ρ1
  off : Off vs V1 V
theorem jgs_nil {vs : List Nat} {V : List SP} : JGs vs V [] [] V := ⟨fun ρ hf => ⟨ρ, rfl, hf⟩, off_refl⟩
theorem jgs_cons {vs : List Nat} {V V1 V2 : List SP} {g : AG} {gs : List AG} {d : D} {ds : List D} (h : JG vs V g d V1) (k : JGs vs V1 gs ds V2) : JGs vs V (g :: gs) (d :: ds) V2 :=
  ⟨fun ρ hf => by
    obtain ⟨ρ1, e1, f1⟩ := h.run ρ hf
    obtain ⟨ρ2, e2, f2⟩ := k.run ρ1 f1
    refine ⟨ρ2, ?_, f2⟩
    show (g d ρ).bind _ = _
    rw [e1]
    exact e2, k.off.1.trans h.off.1, fun i hi => (k.off.2 i hi).trans (h.off.2 i hi)⟩
theorem jg_tup {vs : List Nat} {V V1 : List SP} {gs : List AG} {ds : List D} (h : JGs vs V gs ds V1) : JG vs V (gTupA gs) (.tuple ds) V1 := ⟨h.run, h.off⟩
def noX : Ex → Prop := fun _ => False
def OffF (vs : List Nat) (V : List SP) (ρ : En) : Prop := ∃ V1, Fits V1 ρ ∧ Off vs V1 V
def JCy (V : List SP) (vs : List Nat) (g : AG) (te : AE) (d : D) (t : W D) : Prop := ∀ ρ Q, Fits V ρ → t Q noX → ∃ ρ1 e ρ3, g d ρ = .ok () ρ1 ∧ te ρ1 = .ok e ρ3 ∧ Q e ∧ OffF vs V ρ3
def JCt (V : List SP) (vs : List Nat) (g : AG) (tt : AM Bool) (te : AE) (d : D) (t : W (Option D)) : Prop := ∀ ρ Q, Fits V ρ → t Q noX → ∃ ρ1, g d ρ = .ok () ρ1 ∧
  ((∃ ρ2 e ρ3, tt ρ1 = .ok true ρ2 ∧ te ρ2 = .ok e ρ3 ∧ Q (some e) ∧ OffF vs V ρ3) ∨ (∃ ρ2, tt ρ1 = .ok false ρ2 ∧ Q none ∧ OffF vs V ρ2))
section
variable {V V1 : List SP} {vs : List Nat} {g : AG} {te : AE} {tt : AM Bool} {d : D}
theorem je_ok {α : Type} {f : AM α} {t : W α} (h : JE V f t) {ρ : En} {Q : α → Prop} (hf : Fits V ρ) (ht : t Q noX) : ∃ a ρ', f ρ = .ok a ρ' ∧ Fits V ρ' ∧ Q a := by
  have h1 := h ρ Q noX hf ht
  cases e : f ρ with
  | ok a ρ1 => rw [e] at h1; exact ⟨a, ρ1, rfl, h1⟩
  | err x ρ1 => rw [e] at h1; exact h1.2.elim
  | bad => rw [e] at h1; exact h1.elim
theorem cy_run {t : W D} (hg : JG vs V g d V1) (h : JE V1 te t) : JCy V vs g te d t := fun ρ Q hf ht => by
  obtain ⟨ρ1, e1, f1⟩ := hg.run ρ hf
  obtain ⟨e, ρ3, e2, f3, q⟩ := je_ok h f1 ht
  exact ⟨ρ1, e, ρ3, e1, e2, q, V1, f3, hg.off⟩
theorem ct_run {t : W D} {c : W Bool} (hg : JG vs V g d V1) (hc : JE V1 tt c) (h : JE V1 te t) : JCt V vs g tt te d (keepW c t) := fun ρ Q hf ht => by
  obtain ⟨ρ1, e1, f1⟩ := hg.run ρ hf
  obtain ⟨b, ρ2, e2, f2, q⟩ := je_ok hc f1 ht
  refine ⟨ρ1, e1, ?_⟩
  cases b with
  | true =>
    obtain ⟨e, ρ3, e3, f3, q⟩ := je_ok h f2 q
    exact .inl ⟨ρ2, e, ρ3, e2, e3, q, V1, f3, hg.off⟩
  | false => exact .inr ⟨ρ2, e2, q, V1, f2, hg.off⟩
theorem cy_tup2 (C : D → D) {t : D → D → W D} (h : ∀ a b, JCy V vs g te (C (.tuple [a, b])) (t a b)) : JCy V vs g te (C d) (tup2 d t) := fun ρ Q hf ht => by
  unfold tup2 at ht
  split at ht
  · exact h _ _ ρ Q hf ht
  · exact ht.elim
theorem cy_tup3 (C : D → D) {t : D → D → D → W D} (h : ∀ a b c, JCy V vs g te (C (.tuple [a, b, c])) (t a b c)) : JCy V vs g te (C d) (tup3 d t) := fun ρ Q hf ht => by
  unfold tup3 at ht
  split at ht
  · exact h _ _ _ ρ Q hf ht
  · exact ht.elim
theorem ct_tup2 (C : D → D) {t : D → D → W (Option D)} (h : ∀ a b, JCt V vs g tt te (C (.tuple [a, b])) (t a b)) : JCt V vs g tt te (C d) (tup2 d t) := fun ρ Q hf ht => by
  unfold tup2 at ht
  split at ht
  · exact h _ _ ρ Q hf ht
  · exact ht.elim
theorem ct_tup3 (C : D → D) {t : D → D → D → W (Option D)} (h : ∀ a b c, JCt V vs g tt te (C (.tuple [a, b, c])) (t a b c)) : JCt V vs g tt te (C d) (tup3 d t) := fun ρ Q hf ht => by
  unfold tup3 at ht
  split at ht
  · exact h _ _ _ ρ Q hf ht
  · exact ht.elim
end
def wipeV (V : List SP) : List Nat → List SP
  | [] => V
  | v :: vs => (wipeV V vs).set v .any
theorem fits_wipe {V : List SP} {ρ : En} (hf : Fits V ρ) : ∀ {vs : List Nat}, Fits (wipeV V vs) (wipeE ρ vs)
  | [] => hf
  | v :: vs => (fits_wipe hf (vs := vs)).set rfl
theorem fits_at : ∀ {V : List SP} {ρ : En}, ρ.length = V.length → (∀ (i : Nat) p, V[i]? = some p → ∃ s, ρ[i]? = some s ∧ Fit1 p s) → Fits V ρ
  | [], [], _, _ => .nil
  | [], _ :: _, h, _ => by simp at h
  | _ :: _, [], h, _ => by simp at h
  | p :: V, s :: ρ, h, k => by
    obtain ⟨s', e1, e2⟩ := k 0 p rfl
    have e1 : s = s' := Option.some.inj e1
    subst e1
    exact .cons e2 (fits_at (by simpa using h) fun i p' hp => k (i + 1) p' (by simpa using hp))
theorem wipeV_len (V : List SP) : ∀ vs : List Nat, (wipeV V vs).length = V.length
  | [] => rfl
  | v :: vs => by
    show ((wipeV V vs).set v .any).length = _
    rw [List.length_set, wipeV_len V vs]
theorem wipeV_at {V : List SP} {i : Nat} : ∀ {vs : List Nat}, i ∉ vs → (wipeV V vs)[i]? = V[i]?
  | [], _ => rfl
  | v :: vs, h => by
    show ((wipeV V vs).set v .any)[i]? = _
    rw [List.getElem?_set_ne (fun e => h (by rw [e]; exact List.mem_cons_self)), wipeV_at fun e => h (List.mem_cons_of_mem _ e)]
theorem backE_in {ρ ρ' : En} (hl : ρ.length = ρ'.length) {i : Nat} (hi : i < ρ.length) : ∀ {vs : List Nat}, i ∈ vs → (backE ρ ρ' vs)[i]? = ρ[i]?
  | [], h => nomatch h
  | v :: vs, h => by
    show ((backE ρ ρ' vs).set v (getSlot ρ v))[i]? = _
    by_cases e : v = i
    · subst e
      rw [List.getElem?_set_self (by rw [@backE_length ⟨[], 0⟩]; omega)]
      unfold getSlot
      rw [List.getElem?_eq_getElem hi]
    · rw [List.getElem?_set_ne e]
      rcases List.mem_cons.mp h with h | h
      · exact (e h.symm).elim
      · exact backE_in hl hi h
theorem backE_out {ρ ρ' : En} {i : Nat} : ∀ {vs : List Nat}, i ∉ vs → (backE ρ ρ' vs)[i]? = ρ'[i]?
  | [], _ => rfl
  | v :: vs, h => by
    show ((backE ρ ρ' vs).set v (getSlot ρ v))[i]? = _
    rw [List.getElem?_set_ne (fun e => h (by rw [e]; exact List.mem_cons_self)), backE_out fun e => h (List.mem_cons_of_mem _ e)]
theorem fits_back {V : List SP} {ρ ρ' : En} {vs : List Nat} (hf : Fits V ρ) (h : OffF vs (wipeV V vs) ρ') : Fits V (backE ρ ρ' vs) := by
  obtain ⟨V1, f1, ln, off⟩ := h
  have l1 := hf.len
  have l2 := f1.len
  rw [wipeV_len] at ln
  refine fits_at (by rw [@backE_length ⟨[], 0⟩]; omega) fun i p hp => ?_
  have hi : i < V.length := (List.getElem?_eq_some_iff.mp hp).1
  by_cases hm : i ∈ vs
  · rw [backE_in (by omega) (by omega) hm]
    obtain ⟨s, e1, _, e2⟩ := hf.get hp
    exact ⟨s, e1, e2⟩
  · rw [backE_out hm]
    have := off i hm
    rw [wipeV_at hm, hp] at this
    obtain ⟨s, e1, _, e2⟩ := f1.get this
    exact ⟨s, e1, e2⟩
section
variable {V : List SP} {vs : List Nat} {g : AG} {te : AE} {tt : AM Bool} {it : AM (List D)} {tit : W (List D)}
theorem je_comp {t : D → W D} (hi : JE V it tit) (h : ∀ d, JCy (wipeV V vs) vs g te d (t d)) : JE V (fComp vs it g tYes te) (bd tit (compW t)) := by
  refine je_bind hi fun items => ?_
  intro ρ Q X hf ht
  unfold compW at ht
  by_cases hl : items.length ≤ sizeLine
  · rw [if_pos hl] at ht
    have key : ∀ (items acc : List D) (ρ : En) (Q : List D → Prop), Fits V ρ → acc.length + items.length ≤ sizeLine → mapW t items Q X → Tr (compLoop vs g tYes te items acc ρ) (fun a ρ' => Fits V ρ' ∧ ∃ es, a = acc ++ es ∧ Q es) (fun x ρ' => Fits V ρ' ∧ X x) := by
      intro items
      induction items with
      | nil => intro acc ρ Q hf _ ht; exact ⟨hf, [], (List.append_nil _).symm, ht⟩
      | cons d ds ih =>
        intro acc ρ Q hf hl ht
        rw [List.length_cons] at hl
        obtain ⟨ρ1, e, ρ3, e1, e2, q, off⟩ := h d (wipeE ρ vs) _ (fits_wipe hf) ht
        unfold compLoop
        rw [e1]
        show Tr (match te ρ1 with | .ok e ρ3 => if acc.length < sizeLine then compLoop vs g tYes te ds (acc ++ [e]) (backE ρ ρ3 vs) else .bad | _ => .bad) _ _
        rw [e2]
        show Tr (if acc.length < sizeLine then compLoop vs g tYes te ds (acc ++ [e]) (backE ρ ρ3 vs) else .bad) _ _
        rw [if_pos (by omega)]
        have := ih (acc ++ [e]) (backE ρ ρ3 vs) (fun es => Q (e :: es)) (fits_back hf off) (by rw [List.length_append]; show acc.length + 1 + _ ≤ _; omega) q
        cases q2 : compLoop vs g tYes te ds (acc ++ [e]) (backE ρ ρ3 vs) with
        | ok a ρ' =>
          rw [q2] at this
          obtain ⟨h1, es, h2, h3⟩ := this
          exact ⟨h1, e :: es, by rw [h2, List.append_assoc]; rfl, h3⟩
        | err x ρ' => rw [q2] at this; exact this
        | bad => rw [q2] at this; exact this
    have := key items [] ρ Q hf (by simpa using hl) ht
    show Tr (compLoop vs g tYes te items [] ρ) _ _
    cases q2 : compLoop vs g tYes te items [] ρ with
    | ok a ρ' =>
      rw [q2] at this
      obtain ⟨h1, es, h2, h3⟩ := this
      rw [h2]
      exact ⟨h1, h3⟩
    | err x ρ' => rw [q2] at this; exact this
    | bad => rw [q2] at this; exact this
  · rw [if_neg hl] at ht
    exact ht.elim
theorem je_filt {t : D → W (Option D)} (hi : JE V it tit) (h : ∀ d, JCt (wipeV V vs) vs g tt te d (t d)) : JE V (fComp vs it g tt te) (bd tit (filtW t)) := by
  refine je_bind hi fun items => ?_
  intro ρ Q X hf ht
  unfold filtW at ht
  by_cases hl : items.length ≤ sizeLine
  · rw [if_pos hl] at ht
    have key : ∀ (items acc : List D) (ρ : En) (Q : List D → Prop), Fits V ρ → acc.length + items.length ≤ sizeLine → mapO t items Q X → Tr (compLoop vs g tt te items acc ρ) (fun a ρ' => Fits V ρ' ∧ ∃ es, a = acc ++ es ∧ Q es) (fun x ρ' => Fits V ρ' ∧ X x) := by
      intro items
      induction items with
      | nil => intro acc ρ Q hf _ ht; exact ⟨hf, [], (List.append_nil _).symm, ht⟩
      | cons d ds ih =>
        intro acc ρ Q hf hl ht
        rw [List.length_cons] at hl
        obtain ⟨ρ1, e1, hh⟩ := h d (wipeE ρ vs) _ (fits_wipe hf) ht
        unfold compLoop
        rw [e1]
        rcases hh with ⟨ρ2, e, ρ3, e2, e3, q, off⟩ | ⟨ρ2, e2, q, off⟩
        · show Tr (match tt ρ1 with
            | .ok true ρ2 => (match te ρ2 with
              | .ok e ρ3 => if acc.length < sizeLine then compLoop vs g tt te ds (acc ++ [e]) (backE ρ ρ3 vs) else .bad
              | _ => .bad)
            | .ok false ρ2 => compLoop vs g tt te ds acc (backE ρ ρ2 vs)
            | _ => .bad) _ _
          rw [e2]
          show Tr (match te ρ2 with | .ok e ρ3 => if acc.length < sizeLine then compLoop vs g tt te ds (acc ++ [e]) (backE ρ ρ3 vs) else .bad | _ => .bad) _ _
          rw [e3]
          show Tr (if acc.length < sizeLine then compLoop vs g tt te ds (acc ++ [e]) (backE ρ ρ3 vs) else .bad) _ _
          rw [if_pos (by omega)]
          have := ih (acc ++ [e]) (backE ρ ρ3 vs) (fun es => Q (e :: es)) (fits_back hf off) (by rw [List.length_append]; show acc.length + 1 + _ ≤ _; omega) q
          cases q2 : compLoop vs g tt te ds (acc ++ [e]) (backE ρ ρ3 vs) with
          | ok a ρ' =>
            rw [q2] at this
            obtain ⟨h1, es, h2, h3⟩ := this
            exact ⟨h1, e :: es, by rw [h2, List.append_assoc]; rfl, h3⟩
          | err x ρ' => rw [q2] at this; exact this
          | bad => rw [q2] at this; exact this
        · show Tr (match tt ρ1 with
            | .ok true ρ2 => (match te ρ2 with
              | .ok e ρ3 => if acc.length < sizeLine then compLoop vs g tt te ds (acc ++ [e]) (backE ρ ρ3 vs) else .bad
              | _ => .bad)
            | .ok false ρ2 => compLoop vs g tt te ds acc (backE ρ ρ2 vs)
            | _ => .bad) _ _
          rw [e2]
          exact ih acc (backE ρ ρ2 vs) Q (fits_back hf off) (by omega) q
    have := key items [] ρ Q hf (by simpa using hl) ht
    show Tr (compLoop vs g tt te items [] ρ) _ _
    cases q2 : compLoop vs g tt te items [] ρ with
    | ok a ρ' =>
      rw [q2] at this
      obtain ⟨h1, es, h2, h3⟩ := this
      rw [h2]
      exact ⟨h1, h3⟩
    | err x ρ' => rw [q2] at this; exact this
    | bad => rw [q2] at this; exact this
  · rw [if_neg hl] at ht
    exact ht.elim
end
/-! ### calls -/
inductive Args : List Bool → List SV → List D → Prop
  | nil : Args [] [] []
  | v {ps : List Bool} {svs : List SV} {d : D} {ds : List D} : Args ps svs ds → Args (false :: ps) (.pl d :: svs) (d :: ds)
  | c {ps : List Bool} {svs : List SV} {s : SV} {ds : List D} : CupS s → Args ps svs ds → Args (true :: ps) (s :: svs) ds
inductive Rets : List Bool → En → Prop
  | nil : Rets [] []
  | v {ps : List Bool} {ρ : En} : Rets ps ρ → Rets (false :: ps) (.un :: ρ)
  | c {ps : List Bool} {s : SV} {ρ : En} : CupS s → Rets ps ρ → Rets (true :: ps) (s :: ρ)
/-- what a def's mirror does: p, of what it is handed besides a cup -/
def JD (ps : List Bool) (m : MF) (p : List D → W D) : Prop := ∀ svs ds Q X, Args ps svs ds → p ds Q X → Tr (m svs) (fun fl ρ => Rets ps ρ ∧ (match fl with | .rt d => Q d | .nx => Q .none | _ => False)) (fun x ρ => Rets ps ρ ∧ X x)
def JDf (ps : List Bool) (m : MF) (p : List D → W (List D)) : Prop := ∀ svs ds Q X, Args ps svs ds → p ds Q X → Tr (m svs) (fun fl ρ => Rets ps ρ ∧ (match fl with | .rf d => Q d | _ => False)) (fun x ρ => Rets ps ρ ∧ X x)
def cups (ps : List Bool) : Nat := (ps.filter id).length
structure CO (V : List SP) (ps : List Bool) (ovs : List OV) (ds : List D) : Prop where
  args : ∀ ρ, Fits V ρ → Args ps (ovs.map (argSV ρ)) ds
  lent : ∀ ρ, Fits V ρ → (lent ρ ovs).length ≤ cups ps
  back : ∀ ρ ρn, Fits V ρ → Rets ps ρn → Fits V (setBack ρ ovs ρn)
theorem args_un {ps : List Bool} {svs : List SV} {ds : List D} (h : Args ps svs ds) : svs.any isUn = false := by
  induction h with
  | nil => rfl
  | v _ ih => rw [List.any_cons, ih]; rfl
  | c hs _ ih =>
    obtain ⟨a, b, rfl, _⟩ := hs
    rw [List.any_cons, ih]; rfl
theorem nodup_few : ∀ {l : List Nat}, l.length ≤ 1 → nodupB l = true
  | [], _ => rfl
  | [_], _ => rfl
  | _ :: _ :: _, h => by simp at h
def JC {β : Type} (V : List SP) (ps : List Bool) (os : List Opd) (t : W β) (K : List D → W β) : Prop := ∀ ρ Q X, Fits V ρ → t Q X → Tr (evs os ρ) (fun ovs ρ' => Fits V ρ' ∧ ∃ ds, CO V ps ovs ds ∧ K ds Q X) (fun x ρ' => Fits V ρ' ∧ X x)
section
variable {V : List SP} {f : AE} {o : Opd} {os : List Opd} {d : D} {i : Nat} {β : Type} {K : List D → W β} {ps : List Bool}
theorem c_nil {t : W β} (h : K [] = t) : JC V [] [] t K := fun ρ Q X hf ht => ⟨hf, [], ⟨fun _ _ => .nil, fun _ _ => Nat.le_refl _, fun _ _ hf _ => hf⟩, by rw [h]; exact ht⟩
theorem co_val {ovs : List OV} {ds : List D} (h : CO V ps ovs ds) : CO V (false :: ps) (.val d :: ovs) (d :: ds) :=
  ⟨fun ρ hf => .v (h.args ρ hf), fun ρ hf => h.lent ρ hf, fun ρ ρn hf hr => by
    cases hr with
    | v hr => exact h.back ρ _ hf hr⟩
theorem co_slot {ovs : List OV} {ds : List D} (e : V[i]? = some (.pl d)) (h : CO V ps ovs ds) : CO V (false :: ps) (.slot i :: ovs) (d :: ds) :=
  ⟨fun ρ hf => by
    have e2 : argSV ρ (.slot i) = .pl d := by
      unfold argSV
      dsimp only
      rw [hf.pl e]
    show Args _ (argSV ρ (.slot i) :: _) _
    rw [e2]
    exact .v (h.args ρ hf), fun ρ hf => by
    have := h.lent ρ hf
    unfold SW.lent
    rw [hf.pl e]
    exact this, fun ρ ρn hf hr => by
    cases hr with
    | v hr =>
      unfold setBack
      rw [hf.pl e]
      exact h.back ρ _ hf hr⟩
theorem co_cup {ovs : List OV} {ds : List D} {io : Bool} (e : V[i]? = some (.cup io)) (h : CO V ps ovs ds) : CO V (true :: ps) (.slot i :: ovs) ds :=
  ⟨fun ρ hf => by
    obtain ⟨a, b, g, h1, h2⟩ := hf.cup e
    have e2 : argSV ρ (.slot i) = .own true [.int a, .int b] := by
      unfold argSV
      dsimp only
      rw [g]
    show Args _ (argSV ρ (.slot i) :: _) _
    rw [e2]
    exact .c ⟨a, b, rfl, h1, h2⟩ (h.args ρ hf), fun ρ hf => by
    obtain ⟨a, b, g, h1, h2⟩ := hf.cup e
    have := h.lent ρ hf
    unfold SW.lent
    rw [g]
    show (i :: SW.lent ρ ovs).length ≤ (List.filter id (true :: ps)).length
    rw [List.filter_cons_of_pos rfl, List.length_cons, List.length_cons]
    unfold cups at this
    omega, fun ρ ρn hf hr => by
    obtain ⟨a, b, g, h1, h2⟩ := hf.cup e
    cases hr with
    | c hs hr =>
      obtain ⟨a', b', rfl, h3, h4⟩ := hs
      unfold setBack
      rw [g]
      exact (h.back ρ _ hf hr).put e ⟨a', b', rfl, h3, h4⟩⟩
theorem c_v {t : W β} (i : Nat) (k : JC V ps os t fun ds => K (d :: ds)) (e : V[i]? = some (.pl d) := by rfl) : JC V (false :: ps) (.br i :: os) t K := fun ρ Q X hf ht => by
  show Tr (((Opd.br i).ev ρ).bind _) _ _
  have e1 : (Opd.br i).ev ρ = .ok (.slot i) ρ := by
    unfold Opd.ev
    dsimp only
    rw [hf.pl e]
  rw [e1]
  show Tr ((evs os ρ).bind _) _ _
  exact tr_bind (k ρ Q X hf ht) fun ovs ρ1 ⟨h1, ds, h2, h3⟩ => ⟨h1, d :: ds, co_slot e h2, h3⟩
theorem c_k {t : W β} (k : JC V ps os t fun ds => K (d :: ds)) : JC V (false :: ps) (.ex (eC d) :: os) t K := fun ρ Q X hf ht => by
  show Tr ((evs os ρ).bind _) _ _
  exact tr_bind (k ρ Q X hf ht) fun ovs ρ1 ⟨h1, ds, h2, h3⟩ => ⟨h1, d :: ds, co_val h2, h3⟩
theorem c_c {tf : W D} {t : D → W β} (h : JE V f tf) (k : ∀ v, JC V ps os (t v) fun ds => K (v :: ds)) : JC V (false :: ps) (.ex f :: os) (bd tf t) K := fun ρ Q X hf ht => by
  have h1 := h ρ _ X hf ht
  show Tr (((f ρ).bind fun d ρ' => R.ok (OV.val d) ρ').bind _) _ _
  cases e : f ρ with
  | ok v ρ1 =>
    rw [e] at h1
    show Tr ((evs os ρ1).bind _) _ _
    exact tr_bind (k v ρ1 Q X h1.1 h1.2) fun ovs ρ1 ⟨h1, ds, h2, h3⟩ => ⟨h1, v :: ds, co_val h2, h3⟩
  | err x ρ1 => rw [e] at h1; exact h1
  | bad => rw [e] at h1; exact h1
theorem c_u {t : W β} (i : Nat) {io : Bool} (k : JC V ps os t K) (e : V[i]? = some (.cup io) := by rfl) : JC V (true :: ps) (.br i :: os) t K := fun ρ Q X hf ht => by
  show Tr (((Opd.br i).ev ρ).bind _) _ _
  have e1 : (Opd.br i).ev ρ = .ok (.slot i) ρ := by
    obtain ⟨a, b, g, _⟩ := hf.cup e
    unfold Opd.ev
    dsimp only
    rw [g]
  rw [e1]
  show Tr ((evs os ρ).bind _) _ _
  exact tr_bind (k ρ Q X hf ht) fun ovs ρ1 ⟨h1, ds, h2, h3⟩ => ⟨h1, ds, co_cup e h2, h3⟩
theorem je_call {m : MF} {p : List D → W D} {t : W D} (hd : JD ps m p) (k : JC V ps os t p) (h1 : cups ps ≤ 1 := by decide) : JE V (aCall m os) t := fun ρ Q X hf ht => by
  refine tr_bind (k ρ Q X hf ht) fun ovs ρ1 ⟨f1, ds, co, z⟩ => ?_
  have ag := co.args ρ1 f1
  have hc : (((ovs.map (argSV ρ1)).any isUn || !nodupB (lent ρ1 ovs)) = true) = False := by
    rw [args_un ag, nodup_few (Nat.le_trans (co.lent ρ1 f1) h1)]
    simp
  unfold callM
  dsimp only
  rw [if_neg (by rw [hc]; exact id)]
  have := hd _ ds Q X ag z
  cases e : m (ovs.map (argSV ρ1)) with
  | ok fl ρn =>
    rw [e] at this
    obtain ⟨r, q⟩ := this
    have fb := co.back ρ1 ρn f1 r
    cases fl with
    | rt d => exact ⟨fb, q⟩
    | nx => exact ⟨fb, q⟩
    | _ => exact q.elim
  | err x ρn =>
    rw [e] at this
    exact ⟨co.back ρ1 ρn f1 this.1, this.2⟩
  | bad => rw [e] at this; exact this.elim
theorem je_callF {m : MF} {p : List D → W (List D)} {t : W (List D)} (hd : JDf ps m p) (k : JC V ps os t p) (h1 : cups ps ≤ 1 := by decide) : JE V (fCall m os) t := fun ρ Q X hf ht => by
  refine tr_bind (k ρ Q X hf ht) fun ovs ρ1 ⟨f1, ds, co, z⟩ => ?_
  have ag := co.args ρ1 f1
  have hc : (((ovs.map (argSV ρ1)).any isUn || !nodupB (lent ρ1 ovs)) = true) = False := by
    rw [args_un ag, nodup_few (Nat.le_trans (co.lent ρ1 f1) h1)]
    simp
  unfold callM
  dsimp only
  rw [if_neg (by rw [hc]; exact id)]
  have := hd _ ds Q X ag z
  cases e : m (ovs.map (argSV ρ1)) with
  | ok fl ρn =>
    rw [e] at this
    obtain ⟨r, q⟩ := this
    have fb := co.back ρ1 ρn f1 r
    cases fl with
    | rf d => exact ⟨fb, q⟩
    | _ => exact q.elim
  | err x ρn =>
    rw [e] at this
    exact ⟨co.back ρ1 ρn f1 this.1, this.2⟩
  | bad => rw [e] at this; exact this.elim
end
end SW
set_option Elab.async false
set_option linter.all false
set_option maxRecDepth 100000
set_option maxHeartbeats 2000000
/-! SWP3: statements and defs without slots. -/
namespace SW
open PySem L2
def endB : List Bool → List SP → Bool
  | [], _ => true
  | false :: ps, p :: V => nioP p && endB ps V
  | true :: ps, .cup true :: V => endB ps V
  | _, _ => false
theorem nmS_un {s : SV} (h : isIo s = false) : nmS s = .un := by
  cases s with
  | own io ds =>
    cases io with
    | true => cases h
    | false => rfl
  | _ => rfl
theorem rets_of : ∀ {ps : List Bool} {V : List SP} {ρ : En}, endB ps V = true → Fits V ρ → Rets ps (nmE ps.length ρ)
  | [], _, _, _, _ => .nil
  | false :: ps, [], _, h, _ => by cases h
  | true :: ps, [], _, h, _ => by cases h
  | false :: ps, p :: V, _, h, .cons (s := s) (ρ := ρ) f t => by
    have h : (nioP p && endB ps V) = true := h
    rw [Bool.and_eq_true] at h
    show Rets _ (nmS s :: nmE ps.length ρ)
    rw [nmS_un (nioP_ok h.1 f)]
    exact .v (rets_of h.2 t)
  | true :: ps, .cup true :: V, _, h, .cons (s := s) (ρ := ρ) f t => by
    obtain ⟨a, b, rfl, h1, h2⟩ := f
    have h : endB ps V = true := h
    exact .c ⟨a, b, rfl, h1, h2⟩ (rets_of h t)
  | true :: ps, .cup false :: V, _, h, _ => by cases h
  | true :: ps, .any :: V, _, h, _ => by cases h
  | true :: ps, .pl _ :: V, _, h, _ => by cases h
  | true :: ps, .own _ _ :: V, _, h, _ => by cases h
theorem endB_set : ∀ {ps : List Bool} {V : List SP} {i : Nat} {p : SP}, endB ps V = true → nio V i = true → nioP p = true → endB ps (V.set i p) = true
  | [], _, _, _, _, _, _ => rfl
  | false :: ps, [], _, _, h, _, _ => by cases h
  | true :: ps, [], _, _, h, _, _ => by cases h
  | false :: ps, q :: V, 0, p, h, _, hp => by
    have h : (nioP q && endB ps V) = true := h
    rw [Bool.and_eq_true] at h
    show (nioP p && endB ps V) = true
    rw [hp, h.2]; rfl
  | false :: ps, q :: V, i + 1, p, h, hn, hp => by
    have h : (nioP q && endB ps V) = true := h
    rw [Bool.and_eq_true] at h
    show (nioP q && endB ps (V.set i p)) = true
    rw [h.1, endB_set (i := i) h.2 hn hp]; rfl
  | true :: ps, .cup true :: V, 0, p, h, hn, hp => by cases hn
  | true :: ps, .cup true :: V, i + 1, p, h, hn, hp => by
    have h : endB ps V = true := h
    show endB ps (V.set i p) = true
    exact endB_set (i := i) h hn hp
  | true :: ps, .cup false :: V, _, _, h, _, _ => by cases h
  | true :: ps, .any :: V, _, _, h, _, _ => by cases h
  | true :: ps, .pl _ :: V, _, _, h, _, _ => by cases h
  | true :: ps, .own _ _ :: V, _, _, h, _, _ => by cases h
def EndFW {σ l : Type} (ps : List Bool) (V' : σ → List SP) (Vl : l → List SP) (Q : FW σ l → Prop) (fl : Fl) (ρ : En) : Prop := match fl with
  | .nx => ∃ s, Q (.nx s) ∧ Fits (V' s) ρ
  | .bk => ∃ s, Q (.bk s) ∧ Fits (Vl s) ρ
  | .ct => ∃ s, Q (.ct s) ∧ Fits (Vl s) ρ
  | .rt d => Q (.rt d) ∧ Rets ps (nmE ps.length ρ)
  | .rf ds => Q (.rf ds) ∧ Rets ps (nmE ps.length ρ)
abbrev EndX (ps : List Bool) (X : Ex → Prop) (x : Ex) (ρ : En) : Prop := Rets ps (nmE ps.length ρ) ∧ X x
def JS {σ l : Type} (ps : List Bool) (V : List SP) (s : AS) (t : W (FW σ l)) (V' : σ → List SP) (Vl : l → List SP) : Prop := endB ps V = true → ∀ ρ Q X, Fits V ρ → t Q X → Tr (s ρ) (EndFW ps V' Vl Q) (EndX ps X)
/-- the target, then the body -/
def JT {σ l : Type} (ps : List Bool) (V : List SP) (g : AG) (body : AS) (d : D) (t : W (FW σ l)) (V' : σ → List SP) (Vl : l → List SP) : Prop := endB ps V = true → ∀ ρ Q X, Fits V ρ → t Q X → ∃ ρ1, g d ρ = .ok () ρ1 ∧ Tr (body ρ1) (EndFW ps V' Vl Q) (EndX ps X)
def JTs {σ l : Type} (ps : List Bool) (V : List SP) (gs : List AG) (body : AS) (ds : List D) (t : W (FW σ l)) (V' : σ → List SP) (Vl : l → List SP) : Prop := endB ps V = true → ∀ ρ Q X, Fits V ρ → t Q X → ∃ ρ1, gsRun gs ds ρ = .ok () ρ1 ∧ Tr (body ρ1) (EndFW ps V' Vl Q) (EndX ps X)
section
variable {σ l : Type} {ps : List Bool} {V : List SP} {body rest s : AS} {V' : σ → List SP} {Vl : l → List SP} {f : AE} {d : D} {i : Nat} {t : W (FW σ l)} {tf : W D} {k : D → W (FW σ l)}
theorem tr_mono {α : Type} {r : R α} {P Q : α → En → Prop} {X Y : Ex → En → Prop} (h : Tr r P X) (k : ∀ a ρ, P a ρ → Q a ρ) (kx : ∀ x ρ, X x ρ → Y x ρ) : Tr r Q Y := by
  cases r with
  | ok a ρ => exact k a ρ h
  | err x ρ => exact kx x ρ h
  | bad => exact h
/-- an expression, then the rest -/
theorem tr_expr {α : Type} {f : AM α} {tf : W α} {g : α → En → R Fl} {Q : FW σ l → Prop} {X : Ex → Prop} {ρ : En} {u : α → W (FW σ l)} (he : endB ps V = true) (h : JE V f tf) (hf : Fits V ρ) (ht : bd tf u Q X) (k : ∀ a ρ', Fits V ρ' → u a Q X → Tr (g a ρ') (EndFW ps V' Vl Q) (EndX ps X)) :
    Tr ((f ρ).bind g) (EndFW ps V' Vl Q) (EndX ps X) := by
  have h1 := h ρ _ X hf ht
  cases e : f ρ with
  | ok a ρ1 => rw [e] at h1; exact k a ρ1 h1.1 h1.2
  | err x ρ1 => rw [e] at h1; exact ⟨rets_of he h1.1, h1.2⟩
  | bad => rw [e] at h1; exact h1
theorem tr_sq {s rest : AS} {ρ : En} {P Q : Fl → En → Prop} {X : Ex → En → Prop} (h : Tr (s ρ) P X) (k : ∀ fl ρ', P fl ρ' → match fl with | .nx => Tr (rest ρ') Q X | fl => Q fl ρ') : Tr (sSeq s rest ρ) Q X := by
  unfold sSeq
  cases e : s ρ with
  | ok fl ρ1 =>
    rw [e] at h
    have := k fl ρ1 h
    cases fl with
    | nx => exact this
    | bk => exact this
    | ct => exact this
    | rt d => exact this
    | rf d => exact this
  | err x ρ1 => rw [e] at h; exact h
  | bad => rw [e] at h; exact h
/-- a statement that only goes on, then the rest -/
theorem tr_go {s rest : AS} {ρ : En} {Q : Fl → En → Prop} {X : Ex → En → Prop} (h : Tr (s ρ) (fun fl ρ' => fl = .nx ∧ Tr (rest ρ') Q X) X) : Tr (sSeq s rest ρ) Q X :=
  tr_sq h fun fl ρ' ⟨e, z⟩ => by subst e; exact z
theorem tr_e {α : Type} {f : AM α} {tf : W α} {g : α → En → R Fl} {P : Fl → En → Prop} {X : Ex → Prop} {ρ : En} {u : α → W (FW σ l)} {Q : FW σ l → Prop} (he : endB ps V = true) (h : JE V f tf) (hf : Fits V ρ) (ht : bd tf u Q X) (k : ∀ a ρ', Fits V ρ' → u a Q X → Tr (g a ρ') P (EndX ps X)) :
    Tr ((f ρ).bind g) P (EndX ps X) := by
  have h1 := h ρ _ X hf ht
  cases e : f ρ with
  | ok a ρ1 => rw [e] at h1; exact k a ρ1 h1.1 h1.2
  | err x ρ1 => rw [e] at h1; exact ⟨rets_of he h1.1, h1.2⟩
  | bad => rw [e] at h1; exact h1
theorem js_set (h : JE V f tf) (k2 : ∀ d, JS ps (V.set i (.pl d)) rest (k d) V' Vl) (hn : nio V i = true := by rfl) : JS ps V (sSeq (sAsg f (gNm i)) rest) (bd tf k) V' Vl := fun he ρ Q X hf ht =>
  tr_go (tr_e he h hf ht fun a ρ' hf' z => by
    obtain ⟨e1, f1⟩ := gnm_run (d := a) hn hf'
    rw [e1]
    exact ⟨rfl, k2 a (endB_set he hn rfl) _ Q X f1 z⟩)
theorem js_seta (h : JEa V f d) (k2 : JS ps (V.set i (.pl d)) rest t V' Vl) (hn : nio V i = true := by rfl) : JS ps V (sSeq (sAsg f (gNm i)) rest) t V' Vl := fun he ρ Q X hf ht => by
  refine tr_go ?_
  show Tr ((f ρ).bind _) _ _
  rw [h ρ hf]
  obtain ⟨e1, f1⟩ := gnm_run (d := d) hn hf
  show Tr ((gNm i d ρ).bind _) _ _
  rw [e1]
  exact ⟨rfl, k2 (endB_set he hn rfl) _ Q X f1 ht⟩
theorem js_own {fl : AM (List D)} {tl : W (List D)} {k : List D → W (FW σ l)} (h : JE V fl tl) (k2 : ∀ ds, JS ps (V.set i (.own false ds)) rest (k ds) V' Vl) (hn : nio V i = true := by rfl) : JS ps V (sSeq (sOwn i fl) rest) (bd tl k) V' Vl := fun he ρ Q X hf ht =>
  tr_go (tr_e he h hf ht fun a ρ' hf' z => by
    rw [nio_ok hn hf', if_neg Bool.false_ne_true]
    exact ⟨rfl, k2 a (endB_set he hn rfl) _ Q X (hf'.set rfl) z⟩)
theorem js_drop {k : W (FW σ l)} (h : JE V f tf) (k2 : JS ps V rest k V' Vl) : JS ps V (sSeq (sDrop f) rest) (bd tf fun _ => k) V' Vl := fun he ρ Q X hf ht =>
  tr_go (tr_e he h hf ht fun a ρ' hf' z => ⟨rfl, k2 he _ Q X hf' z⟩)
theorem js_ret (h : JE V f tf) : JS ps V (sSeq (sRet f) rest) (bd tf fun d => pu (.rt d)) V' Vl := fun he ρ Q X hf ht =>
  tr_sq (tr_e (P := fun fl ρ' => ∃ d, fl = .rt d ∧ Q (.rt d) ∧ Rets ps (nmE ps.length ρ')) he h hf ht fun a ρ' hf' z => ⟨a, rfl, z, rets_of he hf'⟩) fun fl ρ' ⟨d, e, z⟩ => by subst e; exact z
theorem js_reta (h : JEa V f d) : JS ps V (sSeq (sRet f) rest) (pu (.rt d)) V' Vl := fun he ρ Q X hf ht => by
  refine tr_sq (P := fun fl ρ' => ∃ d, fl = .rt d ∧ Q (.rt d) ∧ Rets ps (nmE ps.length ρ')) ?_ fun fl ρ' ⟨d, e, z⟩ => by subst e; exact z
  show Tr ((f ρ).bind _) _ _
  rw [h ρ hf]
  exact ⟨d, rfl, ht, rets_of he hf⟩
theorem js_reto {io : Bool} {ds : List D} (i : Nat) (e : V[i]? = some (.own io ds) := by rfl) (hn : nio V i = true := by rfl) : JS ps V (sSeq (sRet (eV i)) rest) (pu (.rt (.list ds))) V' Vl := fun he ρ Q X hf ht => by
  refine tr_sq (P := fun fl ρ' => ∃ d, fl = .rt d ∧ Q (.rt d) ∧ Rets ps (nmE ps.length ρ')) ?_ fun fl ρ' ⟨d, e, z⟩ => by subst e; exact z
  show Tr ((eV i ρ).bind _) _ _
  have e1 : eV i ρ = .ok (.list ds) (setSlot ρ i (.pl (.list ds))) := by
    unfold eV
    rw [hf.own e]
  rw [e1]
  exact ⟨_, rfl, ht, rets_of (endB_set he hn (p := .pl (.list ds)) rfl) (hf.set rfl)⟩
theorem js_retN : JS ps V (sSeq sRetN rest) (pu (.rt .none)) V' Vl := fun he ρ Q X hf ht =>
  ⟨ht, rets_of he hf⟩
theorem js_retF {fl : AM (List D)} {tl : W (List D)} (h : JE V fl tl) : JS ps V (sSeq (sRetF fl) rest) (bd tl fun d => pu (.rf d)) V' Vl := fun he ρ Q X hf ht =>
  tr_sq (tr_e (P := fun fl ρ' => ∃ d, fl = .rf d ∧ Q (.rf d) ∧ Rets ps (nmE ps.length ρ')) he h hf ht fun a ρ' hf' z => ⟨a, rfl, z, rets_of he hf'⟩) fun fl ρ' ⟨d, e, z⟩ => by subst e; exact z
theorem js_raise {x : Str} : JS ps V (sSeq (sRaise x) rest) (rz ⟨x, []⟩) V' Vl := fun he ρ Q X hf ht => ⟨rets_of he hf, ht⟩
theorem js_bk {x : l} (h : Le V (Vl x)) : JS ps V (sSeq (fun ρ => .ok .bk ρ) rest) (pu (.bk x)) V' Vl := fun he ρ Q X hf ht => ⟨x, ht, hf.le h⟩
theorem js_ct {x : l} (h : Le V (Vl x)) : JS ps V (sSeq (fun ρ => .ok .ct ρ) rest) (pu (.ct x)) V' Vl := fun he ρ Q X hf ht => ⟨x, ht, hf.le h⟩
theorem js_nx {x : σ} (h : Le V (V' x)) : JS ps V sNx (pu (.nx x)) V' Vl := fun he ρ Q X hf ht => ⟨x, ht, hf.le h⟩
theorem js_pass (h : JS ps V rest t V' Vl) : JS ps V (sSeq sNx rest) t V' Vl := h
theorem js_last (h : JS ps V s t V' Vl) : JS ps V (sSeq s sNx) t V' Vl := fun he ρ Q X hf ht =>
  tr_sq (h he ρ Q X hf ht) fun fl ρ' z => by
    cases fl with
    | nx => exact z
    | _ => exact z
theorem js_seq {τ : Type} {t : W (FW τ l)} {k : τ → W (FW σ l)} {V1 : τ → List SP} (h : JS ps V s t V1 Vl) (k2 : ∀ x, JS ps (V1 x) rest (k x) V' Vl) (hb : ∀ x, endB ps (V1 x) = true := by intro x; rfl) : JS ps V (sSeq s rest) (seqW t k) V' Vl := fun he ρ Q X hf ht =>
  tr_sq (h he ρ _ X hf ht) fun fl ρ' z => by
    cases fl with
    | nx =>
      obtain ⟨x, q, f⟩ := z
      exact k2 x (hb x) ρ' Q X f q
    | bk => exact z
    | ct => exact z
    | rt d => exact z
    | rf d => exact z
theorem js_if {c : AM Bool} {tc : W Bool} {a b : AS} {ta tb : W (FW σ l)} (hc : JE V c tc) (ha : JS ps V a ta V' Vl) (hb : JS ps V b tb V' Vl) : JS ps V (sIf c a b) (iteW tc ta tb) V' Vl := fun he ρ Q X hf ht =>
  tr_e he hc hf ht fun x ρ' hf' z => by
    cases x with
    | true => exact ha he ρ' Q X hf' z
    | false => exact hb he ρ' Q X hf' z
/-- a block that never goes on behind its end -/
def NoNx (s : AS) : Prop := ∀ ρ ρ', s ρ ≠ .ok .nx ρ'
theorem nn_seq {f g : AS} (h : NoNx g) : NoNx (sSeq f g) := fun ρ ρ' e => by
  unfold sSeq at e
  cases q : f ρ with
  | ok fl ρ1 =>
    rw [q] at e
    cases fl with
    | nx => exact h ρ1 ρ' e
    | _ => cases e
  | err x ρ1 => rw [q] at e; cases e
  | bad => rw [q] at e; cases e
theorem nn_one {f g : AS} (h : NoNx f) : NoNx (sSeq f g) := fun ρ ρ' e => by
  unfold sSeq at e
  cases q : f ρ with
  | ok fl ρ1 =>
    rw [q] at e
    cases fl with
    | nx => exact h ρ ρ1 q
    | _ => cases e
  | err x ρ1 => rw [q] at e; cases e
  | bad => rw [q] at e; cases e
theorem nn_ret : NoNx (sRet f) := fun ρ ρ' e => by
  have e : (f ρ).bind (fun d ρ1 => R.ok (Fl.rt d) ρ1) = .ok .nx ρ' := e
  cases q : f ρ <;> rw [q] at e <;> cases e
theorem nn_retF {f : AM (List D)} : NoNx (sRetF f) := fun ρ ρ' e => by
  have e : (f ρ).bind (fun d ρ1 => R.ok (Fl.rf d) ρ1) = .ok .nx ρ' := e
  cases q : f ρ <;> rw [q] at e <;> cases e
theorem nn_retN : NoNx sRetN := fun ρ ρ' e => nomatch e
theorem nn_raise {x : Str} : NoNx (sRaise x) := fun ρ ρ' e => nomatch e
theorem nn_bk : NoNx (fun ρ => .ok .bk ρ) := fun ρ ρ' e => nomatch e
theorem nn_ct : NoNx (fun ρ => .ok .ct ρ) := fun ρ ρ' e => nomatch e
theorem nn_if {c : AM Bool} {a b : AS} (ha : NoNx a) (hb : NoNx b) : NoNx (sIf c a b) := fun ρ ρ' e => by
  have e : (c ρ).bind (fun x ρ1 => match x with | true => a ρ1 | false => b ρ1) = .ok .nx ρ' := e
  cases q : c ρ with
  | ok x ρ1 =>
    rw [q] at e
    cases x with
    | true => exact ha _ _ e
    | false => exact hb _ _ e
  | err x ρ1 => rw [q] at e; cases e
  | bad => rw [q] at e; cases e
/-- if c: a (which ends); rest -/
theorem js_ifr {c : AM Bool} {tc : W Bool} {a : AS} {ta tr : W (FW σ l)} (hc : JE V c tc) (ha : JS ps V a ta V' Vl) (hn : NoNx a) (hr : JS ps V rest tr V' Vl) : JS ps V (sSeq (sIf c a sNx) rest) (iteW tc ta tr) V' Vl := fun he ρ Q X hf ht => by
  have h1 := hc ρ _ X hf ht
  unfold sSeq sIf
  cases e : c ρ with
  | err x ρ1 => rw [e] at h1; exact ⟨rets_of he h1.1, h1.2⟩
  | bad => rw [e] at h1; exact h1
  | ok x ρ1 =>
    rw [e] at h1
    obtain ⟨f1, z⟩ := h1
    cases x with
    | false => exact hr he ρ1 Q X f1 z
    | true =>
      have h2 := ha he ρ1 Q X f1 z
      show Tr (match a ρ1 with | .ok .nx ρ1 => rest ρ1 | r => r) _ _
      cases e2 : a ρ1 with
      | ok fl ρ2 =>
        rw [e2] at h2
        cases fl with
        | nx => exact (hn _ _ e2).elim
        | bk => exact h2
        | ct => exact h2
        | rt d => exact h2
        | rf d => exact h2
      | err x ρ2 => rw [e2] at h2; exact h2
      | bad => rw [e2] at h2; exact h2
/-- if c: a else: b (which ends); rest behind a -/
theorem js_ifl {c : AM Bool} {tc : W Bool} {a b : AS} {ta tr : W (FW σ l)} (hc : JE V c tc) (hb : JS ps V b tr V' Vl) (hn : NoNx b) (ha : JS ps V (sSeq a rest) ta V' Vl) : JS ps V (sSeq (sIf c a b) rest) (iteW tc ta tr) V' Vl := fun he ρ Q X hf ht => by
  have h1 := hc ρ _ X hf ht
  unfold sSeq sIf
  cases e : c ρ with
  | err x ρ1 => rw [e] at h1; exact ⟨rets_of he h1.1, h1.2⟩
  | bad => rw [e] at h1; exact h1
  | ok x ρ1 =>
    rw [e] at h1
    obtain ⟨f1, z⟩ := h1
    cases x with
    | true => exact ha he ρ1 Q X f1 z
    | false =>
      have h2 := hb he ρ1 Q X f1 z
      show Tr (match b ρ1 with | .ok .nx ρ1 => rest ρ1 | r => r) _ _
      cases e2 : b ρ1 with
      | ok fl ρ2 =>
        rw [e2] at h2
        cases fl with
        | nx => exact (hn _ _ e2).elim
        | bk => exact h2
        | ct => exact h2
        | rt d => exact h2
        | rf d => exact h2
      | err x ρ2 => rw [e2] at h2; exact h2
      | bad => rw [e2] at h2; exact h2
/-! ### targets -/
variable {g : AG} {gs : List AG}
theorem jt_nm (k2 : JS ps (V.set i (.pl d)) body t V' Vl) (hn : nio V i = true := by rfl) : JT ps V (gNm i) body d t V' Vl := fun he ρ Q X hf ht => by
  obtain ⟨e1, f1⟩ := gnm_run (d := d) hn hf
  exact ⟨_, e1, k2 (endB_set he hn rfl) _ Q X f1 ht⟩
theorem jt_tup {ds : List D} (h : JTs ps V gs body ds t V' Vl) : JT ps V (gTupA gs) body (.tuple ds) t V' Vl := fun he ρ Q X hf ht => h he ρ Q X hf ht
theorem jts_nil (h : JS ps V body t V' Vl) : JTs ps V [] body [] t V' Vl := fun he ρ Q X hf ht => ⟨ρ, rfl, h he ρ Q X hf ht⟩
theorem jts_nm {ds : List D} (k2 : JTs ps (V.set i (.pl d)) gs body ds t V' Vl) (hn : nio V i = true := by rfl) : JTs ps V (gNm i :: gs) body (d :: ds) t V' Vl := fun he ρ Q X hf ht => by
  obtain ⟨e1, f1⟩ := gnm_run (d := d) hn hf
  obtain ⟨ρ1, e2, z⟩ := k2 (endB_set he hn rfl) _ Q X f1 ht
  refine ⟨ρ1, ?_, z⟩
  show (gNm i d ρ).bind _ = _
  rw [e1]
  exact e2
theorem jt_ix {fi : AE} {tk : W D} {xs : List D} {k : List D → W (FW σ l)} (hk : JE V fi tk) (k2 : ∀ ys, JS ps (V.set i (.own false ys)) body (k ys) V' Vl) (e : V[i]? = some (.own false xs) := by rfl) (hn : nio V i = true := by rfl) : JT ps V (gIx i fi) body d (bd (ner tk) fun kk => bd (setW xs kk d) k) V' Vl := fun he ρ Q X hf ht => by
  have h1 := hk ρ _ _ hf ht
  cases q : fi ρ with
  | err x ρ1 => rw [q] at h1; exact h1.2.elim
  | bad => rw [q] at h1; exact h1.elim
  | ok kk ρ1 =>
    rw [q] at h1
    obtain ⟨f1, z⟩ := h1
    have z : setW xs kk d (fun ys => k ys Q X) X := z
    cases kk with
    | int n =>
      cases q2 : ixN xs.length n with
      | none =>
        unfold setW at z
        dsimp only at z
        rw [q2] at z
        exact z.elim
      | some j =>
        unfold setW at z
        dsimp only at z
        rw [q2] at z
        refine ⟨setSlot ρ1 i (.own false (xs.set j d)), ?_, k2 _ (endB_set he hn rfl) _ Q X (f1.set rfl) z⟩
        unfold gIx
        rw [hf.own e, if_pos (show isOwn (SV.own false xs) = true from rfl), q]
        dsimp only
        rw [f1.own e]
        unfold setAt
        dsimp only
        rw [q2]
    | _ => exact z.elim
theorem jts_ix {fi : AE} {tk : W D} {xs : List D} {ds : List D} {k : List D → W (FW σ l)} (hk : JE V fi tk) (k2 : ∀ ys, JTs ps (V.set i (.own false ys)) gs body ds (k ys) V' Vl) (e : V[i]? = some (.own false xs) := by rfl) (hn : nio V i = true := by rfl) : JTs ps V (gIx i fi :: gs) body (d :: ds) (bd (ner tk) fun kk => bd (setW xs kk d) k) V' Vl := fun he ρ Q X hf ht => by
  have h1 := hk ρ _ _ hf ht
  cases q : fi ρ with
  | err x ρ1 => rw [q] at h1; exact h1.2.elim
  | bad => rw [q] at h1; exact h1.elim
  | ok kk ρ1 =>
    rw [q] at h1
    obtain ⟨f1, z⟩ := h1
    have z : setW xs kk d (fun ys => k ys Q X) X := z
    cases kk with
    | int n =>
      cases q2 : ixN xs.length n with
      | none =>
        unfold setW at z
        dsimp only at z
        rw [q2] at z
        exact z.elim
      | some j =>
        unfold setW at z
        dsimp only at z
        rw [q2] at z
        obtain ⟨ρ2, e3, z2⟩ := k2 _ (endB_set he hn rfl) _ Q X (f1.set rfl) z
        refine ⟨ρ2, ?_, z2⟩
        show (gIx i fi d ρ).bind _ = _
        have e4 : gIx i fi d ρ = .ok () (setSlot ρ1 i (.own false (xs.set j d))) := by
          unfold gIx
          rw [hf.own e, if_pos (show isOwn (SV.own false xs) = true from rfl), q]
          dsimp only
          rw [f1.own e]
          unfold setAt
          dsimp only
          rw [q2]
        rw [e4]
        exact e3
    | _ => exact z.elim
theorem jt_tup2 (C : D → D) {k : D → D → W (FW σ l)} (h : ∀ a b, JT ps V g body (C (.tuple [a, b])) (k a b) V' Vl) : JT ps V g body (C d) (tup2 d k) V' Vl := fun he ρ Q X hf ht => by
  unfold tup2 at ht
  split at ht
  · exact h _ _ he ρ Q X hf ht
  · exact ht.elim
theorem jt_tup3 (C : D → D) {k : D → D → D → W (FW σ l)} (h : ∀ a b c, JT ps V g body (C (.tuple [a, b, c])) (k a b c) V' Vl) : JT ps V g body (C d) (tup3 d k) V' Vl := fun he ρ Q X hf ht => by
  unfold tup3 at ht
  split at ht
  · exact h _ _ _ he ρ Q X hf ht
  · exact ht.elim
theorem js_asg {k : D → W (FW σ l)} (h : JE V f tf) (k2 : ∀ d, JT ps V g rest d (k d) V' Vl) : JS ps V (sSeq (sAsg f g) rest) (bd tf k) V' Vl := fun he ρ Q X hf ht =>
  tr_go (tr_e he h hf ht fun a ρ' hf' z => by
    obtain ⟨ρ1, e1, z1⟩ := k2 a he ρ' Q X hf' z
    rw [e1]
    exact ⟨rfl, z1⟩)
theorem js_asga (h : JEa V f d) (k2 : JT ps V g rest d t V' Vl) : JS ps V (sSeq (sAsg f g) rest) t V' Vl := fun he ρ Q X hf ht => by
  refine tr_go ?_
  show Tr ((f ρ).bind _) _ _
  rw [h ρ hf]
  obtain ⟨ρ1, e1, z1⟩ := k2 he ρ Q X hf ht
  show Tr ((g d ρ).bind _) _ _
  rw [e1]
  exact ⟨rfl, z1⟩
/-- a, b = c, d -/
theorem js_par2 {fs : List AE} {i j : Nat} {t : W (FW σ l)} {k : D → D → W (FW σ l)} (h : JDs V fs t fun ds => par2 ds k) (k2 : ∀ a b, JS ps ((V.set i (.pl a)).set j (.pl b)) rest (k a b) V' Vl) (h1 : nio V i = true := by rfl) (h2 : ∀ a, nio (V.set i (.pl a)) j = true := by intro a; rfl) : JS ps V (sSeq (sPar [i, j] fs) rest) t V' Vl := fun he ρ Q X hf ht => by
  refine tr_go ?_
  show Tr ((evsD fs ρ).bind _) _ _
  have h0 := h ρ Q X hf ht
  cases e : evsD fs ρ with
  | err x ρ1 => rw [e] at h0; exact ⟨rets_of he h0.1, h0.2⟩
  | bad => rw [e] at h0; exact h0
  | ok ds ρ1 =>
    rw [e] at h0
    obtain ⟨f1, _, z⟩ := h0
    match ds, z with
    | [a, b], z =>
      obtain ⟨e1, f2⟩ := gnm_run (d := a) h1 f1
      obtain ⟨e2, f3⟩ := gnm_run (d := b) (h2 a) f2
      show Tr (if isIo (getSlot ρ1 i) = true then SW.R.bad else if isIo (getSlot (setSlot ρ1 i (.pl a)) j) = true then SW.R.bad else R.ok Fl.nx (setSlot (setSlot ρ1 i (.pl a)) j (.pl b))) _ _
      rw [nio_ok h1 f1, if_neg Bool.false_ne_true, nio_ok (h2 a) f2, if_neg Bool.false_ne_true]
      exact ⟨rfl, k2 a b (endB_set (endB_set he h1 rfl) (h2 a) rfl) _ Q X f3 z⟩
    | [], z => exact z.elim
    | [_], z => exact z.elim
    | _ :: _ :: _ :: _, z => exact z.elim
theorem js_par3 {fs : List AE} {i j m : Nat} {t : W (FW σ l)} {k : D → D → D → W (FW σ l)} (h : JDs V fs t fun ds => par3 ds k) (k2 : ∀ a b c, JS ps (((V.set i (.pl a)).set j (.pl b)).set m (.pl c)) rest (k a b c) V' Vl) (h1 : nio V i = true := by rfl) (h2 : ∀ a, nio (V.set i (.pl a)) j = true := by intro a; rfl) (h3 : ∀ a b, nio ((V.set i (.pl a)).set j (.pl b)) m = true := by intro a b; rfl) : JS ps V (sSeq (sPar [i, j, m] fs) rest) t V' Vl := fun he ρ Q X hf ht => by
  refine tr_go ?_
  show Tr ((evsD fs ρ).bind _) _ _
  have h0 := h ρ Q X hf ht
  cases e : evsD fs ρ with
  | err x ρ1 => rw [e] at h0; exact ⟨rets_of he h0.1, h0.2⟩
  | bad => rw [e] at h0; exact h0
  | ok ds ρ1 =>
    rw [e] at h0
    obtain ⟨f1, _, z⟩ := h0
    match ds, z with
    | [a, b, c], z =>
      obtain ⟨e1, f2⟩ := gnm_run (d := a) h1 f1
      obtain ⟨e2, f3⟩ := gnm_run (d := b) (h2 a) f2
      obtain ⟨e3, f4⟩ := gnm_run (d := c) (h3 a b) f3
      show Tr (if isIo (getSlot ρ1 i) = true then SW.R.bad else if isIo (getSlot (setSlot ρ1 i (.pl a)) j) = true then SW.R.bad else if isIo (getSlot (setSlot (setSlot ρ1 i (.pl a)) j (.pl b)) m) = true then SW.R.bad else R.ok Fl.nx (setSlot (setSlot (setSlot ρ1 i (.pl a)) j (.pl b)) m (.pl c))) _ _
      rw [nio_ok h1 f1, if_neg Bool.false_ne_true, nio_ok (h2 a) f2, if_neg Bool.false_ne_true, nio_ok (h3 a b) f3, if_neg Bool.false_ne_true]
      exact ⟨rfl, k2 a b c (endB_set (endB_set (endB_set he h1 rfl) (h2 a) rfl) (h3 a b) rfl) _ Q X f4 z⟩
    | [], z => exact z.elim
    | [_], z => exact z.elim
    | [_, _], z => exact z.elim
    | _ :: _ :: _ :: _ :: _, z => exact z.elim
/-- for g in it: body -/
theorem js_for {it : AM (List D)} {tit : W (List D)} {l' : Type} (L : l' → List SP) {tb : D → l' → W (FW l' l')} {s0 : l'} (hi : JE V it tit) (h0 : Le V (L s0)) (hb : ∀ d s, JT ps (L s) g body d (tb d s) L L) (hB : ∀ s, endB ps (L s) = true := by intro s; rfl) : JS ps V (sFor it g body) (bd tit fun items => forW tb items s0) L Vl := fun he ρ Q X hf ht => by
  refine tr_e (σ := l') (l := l) he hi hf ht fun items ρ' hf' z => ?_
  have key : ∀ (items : List D) (s : l') (ρ : En), Fits (L s) ρ → forW tb items s Q X → Tr (loopF g body items ρ) (EndFW ps L Vl Q) (EndX ps X) := by
    intro items
    induction items with
    | nil => intro s ρ hf z; exact ⟨s, z, hf⟩
    | cons d ds ih =>
      intro s ρ hf z
      obtain ⟨ρ1, e1, z1⟩ := hb d s (hB s) ρ _ X hf z
      unfold loopF
      rw [e1]
      dsimp only
      cases e2 : body ρ1 with
      | err x ρ2 => rw [e2] at z1; exact z1
      | bad => rw [e2] at z1; exact z1
      | ok fl ρ2 =>
        rw [e2] at z1
        cases fl with
        | nx =>
          obtain ⟨s', q, f⟩ := z1
          exact ih s' ρ2 f q
        | ct =>
          obtain ⟨s', q, f⟩ := z1
          exact ih s' ρ2 f q
        | bk =>
          obtain ⟨s', q, f⟩ := z1
          exact ⟨s', q, f⟩
        | rt d => exact z1
        | rf d => exact z1
  exact key items s0 ρ' (hf'.le h0) z
/-- the state of all draws is made -/
theorem js_cup {m : MF} {d : D} {j : Nat} (hm : ∃ a b : Int, m [.pl d] = .ok (.rf [.int a, .int b]) [.un] ∧ 0 ≤ a ∧ 0 ≤ b) (k2 : JS ps (V.set i (.cup false)) rest t V' Vl) (e : V[j]? = some (.pl d) := by rfl) (hn : nio V i = true := by rfl) (hb : endB ps (V.set i (.cup false)) = true := by rfl) : JS ps V (sSeq (sOwn i (fCall m [.br j])) rest) t V' Vl := fun he ρ Q X hf ht => by
  obtain ⟨a, b, e1, ha, hb'⟩ := hm
  have e2 : fCall m [.br j] ρ = .ok [.int a, .int b] ρ := by
    have g := hf.pl e
    refine call_f (ovs := [.slot j]) (svs := [.pl d]) (ρ1 := ρ) (ρn := [.un]) (os_cons ?_ os_nil) ?_ e1 ?_ ?_
    · unfold Opd.ev
      dsimp only
      rw [g]
    · show [argSV ρ (.slot j)] = _
      unfold argSV
      dsimp only
      rw [g]
    · unfold lent
      rw [g]
      rfl
    · unfold setBack
      rw [g]
      rfl
  refine tr_go ?_
  show Tr ((fCall m [.br j] ρ).bind _) _ _
  rw [e2]
  show Tr (if isIo (getSlot ρ i) = true then (R.bad : R Fl) else R.ok .nx (setSlot ρ i (.own false [.int a, .int b]))) _ _
  rw [nio_ok hn hf, if_neg Bool.false_ne_true]
  exact ⟨rfl, k2 hb _ Q X (hf.set ⟨a, b, rfl, ha, hb'⟩) ht⟩
end
/-! ### defs -/
def startV : List Bool → List D → Option (List SP)
  | [], [] => some []
  | false :: ps, d :: ds => (match startV ps ds with
    | some V => some (.pl d :: V)
    | none => none)
  | true :: ps, ds => (match startV ps ds with
    | some V => some (.cup true :: V)
    | none => none)
  | _, _ => none
theorem fits_app : ∀ {V : List SP} {ρ : En} {V2 : List SP} {ρ2 : En}, Fits V ρ → Fits V2 ρ2 → Fits (V ++ V2) (ρ ++ ρ2)
  | _, _, _, _, .nil, h => h
  | _, _, _, _, .cons a t, h => .cons a (fits_app t h)
theorem fits_un : ∀ n : Nat, Fits (List.replicate n .any) (List.replicate n .un)
  | 0 => .nil
  | n + 1 => .cons rfl (fits_un n)
theorem start_ok : ∀ {ps : List Bool} {svs : List SV} {ds : List D}, Args ps svs ds → svs.length = ps.length ∧ ∃ V, startV ps ds = some V ∧ Fits V svs
  | _, _, _, .nil => ⟨rfl, [], rfl, .nil⟩
  | _, _, _, .v (d := d) h => by
    obtain ⟨h1, V, h2, h3⟩ := start_ok h
    refine ⟨congrArg (· + 1) h1, .pl d :: V, ?_, .cons rfl h3⟩
    unfold startV
    rw [h2]
  | _, _, _, .c (ps := ps) (ds := ds) hs h => by
    obtain ⟨a, b, rfl, h4, h5⟩ := hs
    obtain ⟨h1, V, h2, h3⟩ := start_ok h
    refine ⟨congrArg (· + 1) h1, .cup true :: V, ?_, .cons ⟨a, b, rfl, h4, h5⟩ h3⟩
    unfold startV
    rw [h2]
theorem jd_mk {ps : List Bool} {n : Nat} {body : AS} {p : List D → W D} (Vn : List SP) (hv : endB ps Vn = true) (h : ∀ ds V, startV ps ds = some V → ∃ t : W (FW Unit Unit), JS ps (V ++ List.replicate (n - ps.length) .any) body t (fun _ => Vn) (fun _ => Vn) ∧ p ds = fin t)
    (hb : ∀ ds V, startV ps ds = some V → endB ps (V ++ List.replicate (n - ps.length) .any) = true) : JD ps (mkF n body) p := fun svs ds Q X ha ht => by
  obtain ⟨h1, V, h2, h3⟩ := start_ok ha
  obtain ⟨t, h4, h5⟩ := h ds V h2
  rw [h5] at ht
  have := h4 (hb ds V h2) (svs ++ List.replicate (n - svs.length) .un) _ X (by rw [h1]; exact fits_app h3 (fits_un _)) ht
  unfold mkF
  rw [h1] at this ⊢
  cases e : body (svs ++ List.replicate (n - ps.length) .un) with
  | bad => rw [e] at this; exact this
  | err x ρ => rw [e] at this; exact this
  | ok fl ρ =>
    rw [e] at this
    cases fl with
    | nx =>
      obtain ⟨_, q, f⟩ := this
      exact ⟨rets_of hv f, q⟩
    | rt d => exact ⟨this.2, this.1⟩
    | bk =>
      obtain ⟨_, q, _⟩ := this
      exact q.elim
    | ct =>
      obtain ⟨_, q, _⟩ := this
      exact q.elim
    | rf d => exact this.1.elim
theorem jd_mkF {ps : List Bool} {n : Nat} {body : AS} {p : List D → W (List D)} (Vn : List SP) (h : ∀ ds V, startV ps ds = some V → ∃ t : W (FW Unit Unit), JS ps (V ++ List.replicate (n - ps.length) .any) body t (fun _ => Vn) (fun _ => Vn) ∧ p ds = finF t)
    (hb : ∀ ds V, startV ps ds = some V → endB ps (V ++ List.replicate (n - ps.length) .any) = true) : JDf ps (mkF n body) p := fun svs ds Q X ha ht => by
  obtain ⟨h1, V, h2, h3⟩ := start_ok ha
  obtain ⟨t, h4, h5⟩ := h ds V h2
  rw [h5] at ht
  have := h4 (hb ds V h2) (svs ++ List.replicate (n - svs.length) .un) _ X (by rw [h1]; exact fits_app h3 (fits_un _)) ht
  unfold mkF
  rw [h1] at this ⊢
  cases e : body (svs ++ List.replicate (n - ps.length) .un) with
  | bad => rw [e] at this; exact this
  | err x ρ => rw [e] at this; exact this
  | ok fl ρ =>
    rw [e] at this
    cases fl with
    | rf d => exact ⟨this.2, this.1⟩
    | nx =>
      obtain ⟨_, q, _⟩ := this
      exact q.elim
    | bk =>
      obtain ⟨_, q, _⟩ := this
      exact q.elim
    | ct =>
      obtain ⟨_, q, _⟩ := this
      exact q.elim
    | rt d => exact this.1.elim
theorem endB_start : ∀ {ps : List Bool} {ds : List D} {V : List SP} {U : List SP}, startV ps ds = some V → endB ps (V ++ U) = true
  | [], _, _, _, _ => rfl
  | false :: ps, [], _, _, h => by cases h
  | false :: ps, d :: ds, V, U, h => by
    unfold startV at h
    cases q : startV ps ds with
    | none => rw [q] at h; cases h
    | some V' =>
      rw [q] at h
      cases h
      show (nioP (.pl d) && endB ps (V' ++ U)) = true
      rw [endB_start q]; rfl
  | true :: ps, ds, V, U, h => by
    have h : (match startV ps ds with | some V => some (SP.cup true :: V) | none => none) = some V := by
      cases ds <;> exact h
    cases q : startV ps ds with
    | none => rw [q] at h; cases h
    | some V' =>
      rw [q] at h
      cases h
      show endB ps (V' ++ U) = true
      exact endB_start q
/-- one that calls itself -/
theorem jd_rec {ps : List Bool} {mm : Nat → MF} {pp : Nat → List D → W D} (h0 : mm 0 = fun _ => .bad) (p0 : pp 0 = fun _ => no) (h : ∀ n, JD ps (mm n) (pp n) → JD ps (mm (n + 1)) (pp (n + 1))) : ∀ n, JD ps (mm n) (pp n)
  | 0 => fun svs ds Q X ha ht => by rw [p0] at ht; exact ht.elim
  | n + 1 => h n (jd_rec h0 p0 h n)
end SW
set_option Elab.async false
set_option linter.all false
set_option maxRecDepth 100000
set_option maxHeartbeats 2000000
/-! SWP4: rules for what is there at once; the ends of defs; loops and comprehensions to be reasoned with. -/
namespace SW
open PySem L2
section
variable {V : List SP} {f g : AE} {d d2 : D}
theorem je_rg1a (h : JEa V f d) : JE V (aRg1 f) (rg1 d) := fun ρ Q X hf ht => by
  show Tr ((f ρ).bind _) _ _
  rw [h ρ hf]
  cases d with
  | int n => exact ⟨hf, ht⟩
  | _ => exact ht.elim
theorem je_seqa (h : JEa V f d) : JE V (iSeq f) (opt (itemsOf d)) := fun ρ Q X hf ht => by
  show Tr ((f ρ).bind _) _ _
  rw [h ρ hf]
  dsimp only [R.bind_ok]
  cases q : itemsOf d with
  | none => rw [q] at ht; exact ht.elim
  | some ds => rw [q] at ht; exact ⟨hf, ht⟩
theorem je_enuma (h : JEa V f d) : JE V (iEnumA f) (enumW d) := fun ρ Q X hf ht => by
  show Tr ((f ρ).bind _) _ _
  rw [h ρ hf]
  cases d with
  | list n => exact ⟨hf, ht⟩
  | tuple n => exact ⟨hf, ht⟩
  | _ => exact ht.elim
theorem je_ptsa (h : JEa V f d) : JE V (aPart (some f)) (partW d) := fun ρ Q X hf ht => by
  show Tr ((f ρ).bind _) _ _
  rw [h ρ hf]
  cases d with
  | int n => exact ⟨hf, ht⟩
  | _ => exact ht.elim
theorem ea_tup0 : JEa V (aTup []) (.tuple []) := fun ρ hf => rfl
end
theorem startV_n {ds : List D} {V : List SP} (h : startV [] ds = some V) : ds = [] ∧ V = [] := by
  cases ds with
  | nil => cases h; exact ⟨rfl, rfl⟩
  | cons d ds => cases h
theorem startV_v {ps : List Bool} {ds : List D} {V : List SP} (h : startV (false :: ps) ds = some V) : ∃ d ds' V', ds = d :: ds' ∧ V = .pl d :: V' ∧ startV ps ds' = some V' := by
  cases ds with
  | nil => cases h
  | cons d ds =>
    unfold startV at h
    cases q : startV ps ds with
    | none => rw [q] at h; cases h
    | some V' =>
      rw [q] at h
      cases h
      exact ⟨d, ds, V', rfl, rfl, q⟩
theorem startV_c {ps : List Bool} {ds : List D} {V : List SP} (h : startV (true :: ps) ds = some V) : ∃ V', V = .cup true :: V' ∧ startV ps ds = some V' := by
  have h : (match startV ps ds with | some V => some (SP.cup true :: V) | none => none) = some V := by
    cases ds <;> exact h
  cases q : startV ps ds with
  | none => rw [q] at h; cases h
  | some V' =>
    rw [q] at h
    cases h
    exact ⟨V', rfl, rfl⟩
theorem law_end {n : Nat} {body : AS} {d : D} {t : W (FW Unit Unit)} {Vn : Unit → List SP} (h : JS [false] (.pl d :: List.replicate (n - 1) .any) body t Vn Vn) (ht : fin t (fun d => d = .bool true) noX) : ∃ ρ', mkF n body [.pl d] = .ok (.rt (.bool true)) ρ' := by
  have := h rfl (.pl d :: List.replicate (n - 1) .un) _ noX (.cons rfl (fits_un _)) ht
  unfold mkF
  show ∃ ρ', nmR 1 (body (.pl d :: List.replicate (n - 1) .un)) = _
  cases e : body (.pl d :: List.replicate (n - 1) .un) with
  | bad => rw [e] at this; exact this.elim
  | err x ρ => rw [e] at this; exact this.2.elim
  | ok fl ρ =>
    rw [e] at this
    cases fl with
    | rt d' =>
      have e2 : d' = .bool true := this.1
      rw [e2]
      exact ⟨_, rfl⟩
    | nx =>
      obtain ⟨_, q, _⟩ := this
      exact PyData.noConfusion (show PyData.none = PyData.bool true from q)
    | bk =>
      obtain ⟨_, q, _⟩ := this
      exact q.elim
    | ct =>
      obtain ⟨_, q, _⟩ := this
      exact q.elim
    | rf d => exact this.1.elim
/-! ### draws -/
def rollW : D → W D
  | .int n => fun Q _ => 0 < n ∧ n < 1073741824 ∧ ∀ r : Nat, (r : Int) < n → Q (.int (r : Nat))
  | _ => no
theorem roll_w {n : Nat} {Q : D → Prop} {X : Ex → Prop} (h0 : 0 < n) (h1 : n < 1073741824) (h : ∀ r, r < n → Q (.int (r : Nat))) : rollW (.int (n : Nat)) Q X := ⟨by omega, by omega, fun r hr => h r (by omega)⟩
theorem jd_roll {m : MF} (h : ∀ (a b n : Int), 0 ≤ a → 0 ≤ b → 0 < n → n < 1073741824 → ∃ r a' b', m [.own true [.int a, .int b], .pl (.int n)] = .ok (.rt (.int r)) [.own true [.int a', .int b'], .un] ∧ 0 ≤ r ∧ r < n ∧ 0 ≤ a' ∧ 0 ≤ b') : JD [true, false] m (ap1 rollW) := fun svs ds Q X ha ht => by
  cases ha with
  | c hs ha =>
    cases ha with
    | v ha =>
      cases ha with
      | nil =>
        rename_i s d
        obtain ⟨a, b, rfl, h1, h2⟩ := hs
        cases d with
        | int n =>
          obtain ⟨h3, h4, h5⟩ := ht
          obtain ⟨r, a', b', e, g1, g2, g3, g4⟩ := h a b n h1 h2 h3 h4
          rw [e]
          refine ⟨.c ⟨a', b', rfl, g3, g4⟩ (.v .nil), ?_⟩
          have := h5 r.toNat (by omega)
          rw [show ((r.toNat : Nat) : Int) = r by omega] at this
          exact this
        | _ => exact ht.elim
theorem jd_run1 {m : MF} (h : ∀ a b : Int, m [.own true [.int a, .int b]] = .ok (.rt (.bool true)) [.own true [.int a, .int b]]) : JD [true] m (ap0 (pu (.bool true))) := fun svs ds Q X ha ht => by
  cases ha with
  | c hs ha =>
    cases ha with
    | nil =>
      obtain ⟨a, b, rfl, h1, h2⟩ := hs
      rw [h a b]
      exact ⟨.c ⟨a, b, rfl, h1, h2⟩ .nil, ht⟩
/-- a def without arguments that was run -/
theorem jd_run0 {m : MF} {d : D} (h : m [] = .ok (.rt d) []) : JD [] m (ap0 (pu d)) := fun svs ds Q X ha ht => by
  cases ha with
  | nil =>
    rw [h]
    exact ⟨.nil, ht⟩
/-! ### comprehensions -/
theorem mapW_pu (F : D → D) {f : D → W D} : ∀ {ds : List D}, (∀ d ∈ ds, f d = pu (F d)) → mapW f ds = pu (ds.map F)
  | [], _ => rfl
  | d :: ds, h => by
    unfold mapW
    rw [h d List.mem_cons_self, mapW_pu F fun d' hd => h d' (List.mem_cons_of_mem _ hd)]
    rfl
theorem compW_pu (F : D → D) {f : D → W D} {ds : List D} (hl : ds.length ≤ 16777216) (h : ∀ d ∈ ds, f d = pu (F d)) : compW f ds = pu (ds.map F) := by
  unfold compW
  rw [if_pos (le_sz hl), mapW_pu F h]
theorem mapO_pu (p : D → Bool) (F : D → D) {f : D → W (Option D)} : ∀ {ds : List D}, (∀ d ∈ ds, f d = pu (if p d = true then some (F d) else none)) → mapO f ds = pu ((ds.filter p).map F)
  | [], _ => rfl
  | d :: ds, h => by
    unfold mapO
    rw [h d List.mem_cons_self, mapO_pu p F fun d' hd => h d' (List.mem_cons_of_mem _ hd), List.filter_cons]
    cases q : p d with
    | true => rfl
    | false => rfl
theorem filtW_pu (p : D → Bool) (F : D → D) {f : D → W (Option D)} {ds : List D} (hl : ds.length ≤ 16777216) (h : ∀ d ∈ ds, f d = pu (if p d = true then some (F d) else none)) : filtW f ds = pu ((ds.filter p).map F) := by
  unfold filtW
  rw [if_pos (le_sz hl), mapO_pu p F h]
theorem mapW_w (P : D → D → Prop) {f : D → W D} {X : Ex → Prop} : ∀ {ds : List D} {Q : List D → Prop}, (∀ d ∈ ds, f d (P d) noX) → (∀ es, All2 P ds es → Q es) → (∀ d ∈ ds, ∀ (Q' : D → Prop), (∀ e, P d e → Q' e) → f d (P d) noX → f d Q' noX) → mapW f ds Q X
  | [], Q, _, q, _ => q [] .nil
  | d :: ds, Q, h, q, m => m d List.mem_cons_self _ (fun e he => mapW_w P (fun d' hd => h d' (List.mem_cons_of_mem _ hd)) (fun es hs => q (e :: es) (.cons he hs)) fun d' hd => m d' (List.mem_cons_of_mem _ hd)) (h d List.mem_cons_self)
/-- each item is told something that P holds of -/
theorem compW_w (P : D → D → Prop) {f : D → W D} {X : Ex → Prop} {ds : List D} {Q : List D → Prop} (hl : ds.length ≤ 16777216) (h : ∀ d ∈ ds, ∀ Q' : D → Prop, (∀ e, P d e → Q' e) → f d Q' noX) (q : ∀ es, All2 P ds es → Q es) : compW f ds Q X := by
  unfold compW
  rw [if_pos (le_sz hl)]
  exact mapW_w P (fun d hd => h d hd _ fun _ he => he) q fun d hd Q' hq _ => h d hd Q' hq
/-! ### loops -/
theorem forW_inv {l' l : Type} (I : Nat → l' → Prop) {f : D → l' → W (FW l' l')} {X : Ex → Prop} : ∀ (items : List D) (n : Nat) (s : l') (Q : FW l' l → Prop), I n s → (∀ (i : Nat) d s (Q' : FW l' l' → Prop), items[i]? = some d → I (n + i) s → (∀ s', I (n + i + 1) s' → Q' (.nx s')) → f d s Q' X) → (∀ s, I (n + items.length) s → Q (.nx s)) → forW f items s Q X
  | [], n, s, Q, h, _, q => q s h
  | d :: ds, n, s, Q, h, st, q => by
    refine st 0 d s _ rfl h fun s' hs => ?_
    refine forW_inv I ds (n + 1) s' Q hs (fun i d' s2 Q' hd hi hq => ?_) fun s2 h2 => q s2 (by rw [List.length_cons, show n + (ds.length + 1) = n + 1 + ds.length by omega]; exact h2)
    have e : n + 1 + i = n + (i + 1) := by omega
    rw [e] at hi hq
    exact st (i + 1) d' s2 Q' (by simpa using hd) hi hq
/-- a loop that only goes on -/
theorem forW_w {l' l : Type} (I : Nat → l' → Prop) {f : D → l' → W (FW l' l')} {X : Ex → Prop} {items : List D} {s : l'} {Q : FW l' l → Prop} (h : I 0 s) (st : ∀ (i : Nat) d s (Q' : FW l' l' → Prop), items[i]? = some d → I i s → (∀ s', I (i + 1) s' → Q' (.nx s')) → f d s Q' X) (q : ∀ s, I items.length s → Q (.nx s)) : forW f items s Q X :=
  forW_inv I items 0 s Q h (fun i d s Q' hd hi hq => by rw [Nat.zero_add] at hi hq; exact st i d s Q' hd hi hq) fun s hs => q s (by rw [Nat.zero_add] at hs; exact hs)
/-- .. as a fold -/
def foldD {l' : Type} (F : D → l' → l') : List D → l' → l'
  | [], s => s
  | d :: ds, s => foldD F ds (F d s)
theorem forW_pu {l' l : Type} (F : D → l' → l') {f : D → l' → W (FW l' l')} : ∀ {items : List D} {s : l'}, (∀ d ∈ items, ∀ s, f d s = pu (.nx (F d s))) → (forW f items s : W (FW l' l)) = pu (.nx (foldD F items s))
  | [], s, _ => rfl
  | d :: ds, s, h => by
    unfold forW
    rw [h d List.mem_cons_self]
    show forW f ds (F d s) = _
    rw [forW_pu F fun d' hd => h d' (List.mem_cons_of_mem _ hd)]
    rfl
/-- .. with an invariant for the items -/
theorem forW_pui {l' l : Type} (I : Nat → l' → Prop) (F : D → l' → l') {f : D → l' → W (FW l' l')} : ∀ {items : List D} (n : Nat) {s : l'}, I n s → (∀ (i : Nat) d s, items[i]? = some d → I (n + i) s → f d s = pu (.nx (F d s)) ∧ I (n + i + 1) (F d s)) → (forW f items s : W (FW l' l)) = pu (.nx (foldD F items s)) ∧ I (n + items.length) (foldD F items s)
  | [], n, s, h, _ => ⟨rfl, h⟩
  | d :: ds, n, s, h, st => by
    obtain ⟨e, h1⟩ := st 0 d s rfl h
    have ih := forW_pui (l := l) I F (items := ds) (n + 1) h1 fun i d' s2 hd hi => by
      have e : n + 1 + i = n + (i + 1) := by omega
      rw [e] at hi ⊢
      exact st (i + 1) d' s2 (by simpa using hd) hi
    refine ⟨?_, by rw [List.length_cons, show n + (ds.length + 1) = n + 1 + ds.length by omega]; exact ih.2⟩
    unfold forW
    rw [e]
    exact ih.1
/-- a loop without state that looks for one: the first that is found is told -/
theorem forW_find {l : Type} (p : D → Option D) {f : D → Unit → W (FW Unit Unit)} : ∀ {items : List D}, (∀ d ∈ items, f d () = pu (match p d with | some w => .rt w | none => .nx ())) → (forW f items () : W (FW Unit l)) = pu (match items.findSome? p with | some w => .rt w | none => .nx ())
  | [], _ => rfl
  | d :: ds, h => by
    unfold forW
    rw [h d List.mem_cons_self, List.findSome?_cons]
    cases q : p d with
    | some w => rfl
    | none => exact forW_find p fun d' hd => h d' (List.mem_cons_of_mem _ hd)
end SW
set_option Elab.async false
set_option linter.all false
set_option maxRecDepth 100000
set_option maxHeartbeats 2000000
/-! SWP5: reversed, append, op= at a place, pairs with lists of one's own. -/
namespace SW
open PySem L2
section
variable {V : List SP} {f g : AE} {t : W D} {d : D}
theorem je_opt {α : Type} {f : AE} {F : D → Option α} {g : D → AM α} (h : JE V f t) (k : ∀ d, g d = fun ρ => match F d with | some a => .ok a ρ | none => .bad) : JE V (fun ρ => (f ρ).bind g) (bd t fun d => opt (F d)) := je_bind h fun d => by
  rw [k d]
  cases e : F d with
  | none => exact je_no
  | some a => exact je_pu
theorem je_rev (h : JE V f t) : JE V (iRevD f) (bd t fun d => opt (revD d)) := je_bind h fun d => by
  cases e : revD d with
  | none => exact je_no
  | some a => exact je_cast (je_pu (a := a)) fun ρ => by simp
theorem je_reva (h : JEa V f d) : JE V (iRevD f) (opt (revD d)) := fun ρ Q X hf ht => by
  show Tr ((f ρ).bind _) _ _
  rw [h ρ hf]
  dsimp only [R.bind_ok]
  cases q : revD d with
  | none => rw [q] at ht; exact ht.elim
  | some ds => rw [q] at ht; exact ⟨hf, ht⟩
end
def appW (ds : List D) (d : D) : W (List D) := if ds.length < sizeLine then pu (ds ++ [d]) else no
theorem appW_ok {ds : List D} {d : D} (h : ds.length < 16777216) : appW ds d = pu (ds ++ [d]) := by
  unfold appW
  rw [if_pos (by rw [sizeLine_eq]; exact h)]
def itemW (ds : List D) (k : D) : W Int := match itemAt (.own false ds) k with
  | some (.int old) => pu old
  | _ => no
def augW (g : Int → Int → Int) (ds : List D) (k : D) (old : Int) (y : D) : W (List D) := match y with
  | .int y => setW ds k (.int (g old y))
  | _ => no
section
variable {σ l : Type} {ps : List Bool} {V : List SP} {body rest s : AS} {V' : σ → List SP} {Vl : l → List SP} {f fi fe : AE} {d : D} {i : Nat} {t : W (FW σ l)} {tf ti te : W D} {ds : List D} {k : List D → W (FW σ l)}
theorem js_app (h : JE V f tf) (k2 : ∀ xs, JS ps (V.set i (.own false xs)) rest (k xs) V' Vl) (e : V[i]? = some (.own false ds) := by rfl) (hn : nio V i = true := by rfl) : JS ps V (sSeq (sApp i f) rest) (bd tf fun d => bd (appW ds d) k) V' Vl := fun he ρ Q X hf ht => by
  refine tr_go ?_
  unfold sApp
  rw [hf.own e, if_pos (show isOwn (SV.own false ds) = true from rfl)]
  refine tr_e (σ := σ) (l := l) he h hf ht fun d ρ' hf' z => ?_
  rw [hf'.own e]
  have z : appW ds d (fun xs => k xs Q X) X := z
  unfold appW at z
  unfold appAt
  dsimp only
  by_cases hz : ds.length < sizeLine
  · rw [if_pos hz] at z ⊢
    exact ⟨rfl, k2 _ (endB_set he hn rfl) _ Q X (hf'.set rfl) z⟩
  · rw [if_neg hz] at z
    exact z.elim
theorem js_appa (h : JEa V f d) (k2 : ∀ xs, JS ps (V.set i (.own false xs)) rest (k xs) V' Vl) (e : V[i]? = some (.own false ds) := by rfl) (hn : nio V i = true := by rfl) : JS ps V (sSeq (sApp i f) rest) (bd (appW ds d) k) V' Vl :=
  js_app (tf := pu d) (je_a h) k2 e hn
theorem js_augI {g : Int → Int → Int} (hi : JE V fi ti) (he : JE V fe te) (k2 : ∀ xs, JS ps (V.set i (.own false xs)) rest (k xs) V' Vl) (e : V[i]? = some (.own false ds) := by rfl) (hn : nio V i = true := by rfl) :
    JS ps V (sSeq (sAugI i g fi fe) rest) (bd ti fun kk => bd (itemW ds kk) fun old => bd te fun y => bd (augW g ds kk old y) k) V' Vl := fun hb ρ Q X hf ht => by
  refine tr_go ?_
  unfold sAugI
  rw [hf.own e, if_pos (show isOwn (SV.own false ds) = true from rfl)]
  refine tr_e (σ := σ) (l := l) hb hi hf ht fun kk ρ1 hf1 z => ?_
  rw [hf1.own e]
  have z : itemW ds kk (fun old => bd te (fun y => bd (augW g ds kk old y) k) Q X) X := z
  unfold itemW at z
  cases q : itemAt (.own false ds) kk with
  | none => rw [q] at z; exact z.elim
  | some old =>
    rw [q] at z
    cases old with
    | int old =>
      dsimp only
      refine tr_e (σ := σ) (l := l) hb he hf1 z fun y ρ2 hf2 z2 => ?_
      cases y with
      | int y =>
        dsimp only
        rw [hf2.own e]
        have z2 : setW ds kk (.int (g old y)) (fun xs => k xs Q X) X := z2
        cases kk with
        | int n =>
          unfold setW at z2
          dsimp only at z2
          unfold setAt
          dsimp only
          cases q2 : ixN ds.length n with
          | none => rw [q2] at z2; exact z2.elim
          | some j =>
            rw [q2] at z2
            exact ⟨rfl, k2 _ (endB_set hb hn rfl) _ Q X (hf2.set rfl) z2⟩
        | _ => exact z2.elim
      | _ => exact z2.elim
    | _ => exact z.elim
end
/-! ### pairs -/
/-- an item of a pair: what it tells, what then stands in the slots, what is stored -/
def JPt {α : Type} (V : List SP) (p : PIt) (t : W α) (V' : α → List SP) (sp : α → SP) : Prop := ∀ ρ Q X, Fits V ρ → t Q X → Tr (p.ev ρ) (fun s ρ' => ∃ a, Q a ∧ Fits (V' a) ρ' ∧ Fit1 (sp a) s) (fun x ρ' => Fits V ρ' ∧ X x)
section
variable {V : List SP} {f : AE} {tf : W D}
theorem p_v (h : JE V f tf) : JPt V (.v f) tf (fun _ => V) (fun d => .pl d) := fun ρ Q X hf ht => by
  have h1 := h ρ Q X hf ht
  show Tr ((f ρ).bind _) _ _
  cases e : f ρ with
  | ok a ρ1 => rw [e] at h1; exact ⟨a, h1.2, h1.1, rfl⟩
  | err x ρ1 => rw [e] at h1; exact h1
  | bad => rw [e] at h1; exact h1
theorem p_o {fl : AM (List D)} {tl : W (List D)} (h : JE V fl tl) : JPt V (.o fl) tl (fun _ => V) (fun d => .own false d) := fun ρ Q X hf ht => by
  have h1 := h ρ Q X hf ht
  show Tr ((fl ρ).bind _) _ _
  cases e : fl ρ with
  | ok a ρ1 => rw [e] at h1; exact ⟨a, h1.2, h1.1, rfl⟩
  | err x ρ1 => rw [e] at h1; exact h1
  | bad => rw [e] at h1; exact h1
theorem p_f {io : Bool} {ds : List D} (i : Nat) (e : V[i]? = some (.own io ds) := by rfl) : JPt V (.v (eV i)) (pu ds) (fun ds => V.set i (.pl (.list ds))) (fun ds => .pl (.list ds)) := fun ρ Q X hf ht => by
  show Tr ((eV i ρ).bind _) _ _
  have e1 : eV i ρ = .ok (.list ds) (setSlot ρ i (.pl (.list ds))) := by
    unfold eV
    rw [hf.own e]
  rw [e1]
  exact ⟨ds, ht, hf.set rfl, rfl⟩
end
section
variable {σ l : Type} {ps : List Bool} {V : List SP} {rest : AS} {V' : σ → List SP} {Vl : l → List SP} {i j : Nat}
theorem js_pair {α β : Type} {p q : PIt} {tp : W α} {tq : α → W β} {k : α → β → W (FW σ l)} {Vp : α → List SP} {Vq : α → β → List SP} {sp : α → SP} {sq : α → β → SP} (h1 : JPt V p tp Vp sp) (h2 : ∀ a, JPt (Vp a) q (tq a) (Vq a) (sq a))
    (h3 : ∀ a b, JS ps (((Vq a b).set i (sp a)).set j (sq a b)) rest (k a b) V' Vl) (e1 : ∀ a, endB ps (Vp a) = true := by intro a; rfl) (e2 : ∀ a b, endB ps (((Vq a b).set i (sp a)).set j (sq a b)) = true := by intro a b; rfl)
    (n1 : ∀ a b, nio (Vq a b) i = true := by intro a b; rfl) (n2 : ∀ a b, nio ((Vq a b).set i (sp a)) j = true := by intro a b; rfl) : JS ps V (sSeq (sPar2 i j p q) rest) (bd tp fun a => bd (tq a) fun b => k a b) V' Vl := fun he ρ Q X hf ht => by
  refine tr_go ?_
  show Tr ((p.ev ρ).bind _) _ _
  have g1 := h1 ρ _ X hf ht
  cases q1 : p.ev ρ with
  | err x ρ1 => rw [q1] at g1; exact ⟨rets_of he g1.1, g1.2⟩
  | bad => rw [q1] at g1; exact g1
  | ok s ρ1 =>
    rw [q1] at g1
    obtain ⟨a, z, f1, s1⟩ := g1
    show Tr ((q.ev ρ1).bind _) _ _
    have g2 := h2 a ρ1 _ X f1 z
    cases q2 : q.ev ρ1 with
    | err x ρ2 => rw [q2] at g2; exact ⟨rets_of (e1 a) g2.1, g2.2⟩
    | bad => rw [q2] at g2; exact g2
    | ok u ρ2 =>
      rw [q2] at g2
      obtain ⟨b, z2, f2, s2⟩ := g2
      show Tr (put2 i j s u ρ2) _ _
      unfold put2
      have f3 : Fits ((Vq a b).set i (sp a)) (setSlot ρ2 i s) := f2.set s1
      rw [nio_ok (n1 a b) f2, if_neg Bool.false_ne_true, nio_ok (n2 a b) f3, if_neg Bool.false_ne_true]
      exact ⟨rfl, h3 a b (e2 a b) _ Q X (f3.set s2) z2⟩
/-- a list of one's own to another name, for good -/
theorem js_fz {io : Bool} {ds : List D} {t : W (FW σ l)} (j : Nat) (k2 : JS ps ((V.set j (.pl (.list ds))).set i (.pl (.list ds))) rest t V' Vl) (e : V[j]? = some (.own io ds) := by rfl) (hn : nio V j = true := by rfl) (hi : nio (V.set j (.pl (.list ds))) i = true := by rfl) : JS ps V (sSeq (sAsg (eV j) (gNm i)) rest) t V' Vl := fun he ρ Q X hf ht => by
  refine tr_go ?_
  show Tr ((eV j ρ).bind _) _ _
  have e1 : eV j ρ = .ok (.list ds) (setSlot ρ j (.pl (.list ds))) := by
    unfold eV
    rw [hf.own e]
  rw [e1]
  have f1 : Fits (V.set j (.pl (.list ds))) (setSlot ρ j (.pl (.list ds))) := hf.set rfl
  obtain ⟨e2, f2⟩ := gnm_run (d := .list ds) hi f1
  show Tr ((gNm i (.list ds) (setSlot ρ j (.pl (.list ds)))).bind _) _ _
  rw [e2]
  exact ⟨rfl, k2 (endB_set (endB_set he hn rfl) hi rfl) _ Q X f2 ht⟩
end
end SW
set_option Elab.async false
set_option linter.all false
set_option maxRecDepth 100000
set_option maxHeartbeats 2000000
/-! SWGive: what was run, as a datum. -/
namespace SW
open PySem L2
/-! ### data told apart, as far as n deep -/
def beqN : Nat → D → D → Bool
  | _, .none, .none => true
  | _, .bool a, .bool b => a == b
  | _, .int a, .int b => a == b
  | n + 1, .tuple xs, .tuple ys => decide (xs.length = ys.length) && (xs.zip ys).all fun p => beqN n p.1 p.2
  | n + 1, .list xs, .list ys => decide (xs.length = ys.length) && (xs.zip ys).all fun p => beqN n p.1 p.2
  | _, _, _ => false
theorem zip_eq {p : D → D → Bool} (hp : ∀ a b, p a b = true → a = b) : ∀ {xs ys : List D}, xs.length = ys.length → ((xs.zip ys).all fun q => p q.1 q.2) = true → xs = ys
  | [], [], _, _ => rfl
  | [], _ :: _, h, _ => by simp at h
  | _ :: _, [], h, _ => by simp at h
  | x :: xs, y :: ys, h, h2 => by
    rw [List.zip_cons_cons, List.all_cons, Bool.and_eq_true] at h2
    have e : x = y := hp x y h2.1
    rw [e, zip_eq hp (by simpa using h) h2.2]
theorem beqN_eq : ∀ (n : Nat) (a b : D), beqN n a b = true → a = b
  | 0, a, b, h => by
    cases a <;> cases b <;> first | rfl | (have h' := eq_of_beq h; rw [h']) | cases h
  | n + 1, a, b, h => by
    cases a with
    | tuple xs =>
      cases b with
      | tuple ys =>
        have h' : (decide (xs.length = ys.length) && (xs.zip ys).all fun p => beqN n p.1 p.2) = true := h
        rw [Bool.and_eq_true, decide_eq_true_eq] at h'
        rw [zip_eq (fun a b => beqN_eq n a b) h'.1 h'.2]
      | _ => cases h
    | list xs =>
      cases b with
      | list ys =>
        have h' : (decide (xs.length = ys.length) && (xs.zip ys).all fun p => beqN n p.1 p.2) = true := h
        rw [Bool.and_eq_true, decide_eq_true_eq] at h'
        rw [zip_eq (fun a b => beqN_eq n a b) h'.1 h'.2]
      | _ => cases h
    | _ => cases b <;> first | rfl | (have h' := eq_of_beq h; rw [h']) | cases h
/-- the mirror gives that datum, nothing is lent -/
def givesB (k : Nat) (r : R Fl) (d : D) : Bool := match r with
  | .ok (.rt e) ρ => beqN 6 e d && decide (ρ.length = k) && ρ.all isUn
  | _ => false
theorem all_un : ∀ {ρ : En}, ρ.all isUn = true → ρ = List.replicate ρ.length .un
  | [], _ => rfl
  | s :: ρ, h => by
    rw [List.all_cons, Bool.and_eq_true] at h
    cases s with
    | un => rw [List.length_cons, List.replicate_succ, ← all_un h.2]
    | _ => cases h.1
theorem gives_ok {k : Nat} {r : R Fl} {d : D} (h : givesB k r d = true) : r = .ok (.rt d) (List.replicate k .un) := by
  unfold givesB at h
  split at h
  · rename_i e ρ
    simp only [Bool.and_eq_true, decide_eq_true_eq] at h
    rw [beqN_eq _ _ _ h.1.1, all_un h.2, h.1.2]
  · cases h
def stock : List (List (List Int)) := [[[0]], [[0, 1], [0, 1]], [[1, 0], [1, 0]], [[0, 1, 2], [0, 1, 2], [1, 0, 2]], [[1, 2, 0], [1, 2, 0], [1, 2, 0]], [[1, 0, 2], [1, 0, 2], [0, 1, 2]], [[0, 1, 3, 2], [3, 2, 0, 1], [2, 3, 1, 0], [1, 0, 2, 3]]]
end SW
set_option Elab.async false
set_option linter.all false
set_option maxRecDepth 100000
set_option maxHeartbeats 2000000
/-! SWPl: sequences by place, for plain reasoning. -/
namespace SW
open PySem L2
/-- g 0, .., g (n - 1) -/
def sq {α : Type} (n : Nat) (g : Nat → α) : List α := (List.range n).map g
section
variable {α : Type} {n : Nat} {g h : Nat → α}
@[simp] theorem sq_len : (sq n g).length = n := by simp [sq]
theorem sq_at {i : Nat} (hi : i < n) : (sq n g)[i]? = some (g i) := by simp [sq, hi]
theorem sq_congr (e : ∀ i, i < n → g i = h i) : sq n g = sq n h := List.map_congr_left fun i hi => e i (List.mem_range.mp hi)
theorem sq_ext {xs : List α} (hl : xs.length = n) (e : ∀ i, i < n → xs[i]? = some (g i)) : xs = sq n g := by
  refine List.ext_getElem? fun i => ?_
  by_cases hi : i < n
  · rw [e i hi, sq_at hi]
  · rw [List.getElem?_eq_none (by omega), List.getElem?_eq_none (by rw [sq_len]; omega)]
theorem sq_inj (e : sq n g = sq n h) {i : Nat} (hi : i < n) : g i = h i := by
  have e1 := sq_at (g := g) hi
  rw [e, sq_at hi] at e1
  exact (Option.some.inj e1).symm
theorem mem_sq {x : α} : x ∈ sq n g ↔ ∃ i, i < n ∧ g i = x := by simp [sq]
theorem sq_set {i : Nat} (d : α) (hi : i < n) : (sq n g).set i d = sq n fun j => if j = i then d else g j := by
  refine sq_ext (by simp) fun j hj => ?_
  by_cases e : j = i
  · subst e
    rw [List.getElem?_set_self (by simpa using hj), if_pos rfl]
  · rw [List.getElem?_set_ne (Ne.symm e), sq_at hj, if_neg e]
theorem sq_succ : sq (n + 1) g = sq n g ++ [g n] := by simp [sq, List.range_succ]
theorem sq_zero : sq 0 g = [] := rfl
theorem sq_map {β : Type} (f : α → β) : (sq n g).map f = sq n fun i => f (g i) := by simp [sq]
theorem sq_rep (d : α) : List.replicate n d = sq n fun _ => d := sq_ext (by simp) fun i hi => by simp [hi]
end
/-! ### data -/
abbrev nI (i : Nat) : D := .int (i : Int)
def row (n : Nat) (f : Nat → Nat) : D := .tuple (sq n fun i => nI (f i))
def tab (n : Nat) (r : Nat → Nat → Nat) : D := .tuple (sq n fun i => row n (r i))
def bag (n : Nat) (b : Nat → Int) : D := .tuple (sq n fun i => .int (b i))
def rng (n : Nat) : List D := sq n fun i => nI i
theorem iL_upto (n : Nat) : iL (upto n) = rng n := by unfold iL upto rng sq; rw [List.map_map]; rfl
theorem row_congr {n : Nat} {f g : Nat → Nat} (e : ∀ i, i < n → f i = g i) : row n f = row n g := by
  unfold row
  rw [sq_congr fun i hi => by rw [e i hi]]
theorem tab_congr {n : Nat} {r s : Nat → Nat → Nat} (e : ∀ i j, i < n → j < n → r i j = s i j) : tab n r = tab n s := by
  unfold tab
  rw [sq_congr fun i hi => row_congr fun j hj => e i j hi hj]
theorem bag_congr {n : Nat} {f g : Nat → Int} (e : ∀ i, i < n → f i = g i) : bag n f = bag n g := by
  unfold bag
  rw [sq_congr fun i hi => by rw [e i hi]]
/-! ### operations by place -/
section
variable {n : Nat} {g : Nat → D} {r : Nat → Nat → Nat} {f : Nat → Nat} {b : Nat → Int}
theorem len_t : F_len [.tuple (sq n g)] = some (nI n) := by
  show some (PyData.int ((sq n g).length : Nat)) = _
  rw [sq_len]
theorem len_l : F_len [.list (sq n g)] = some (nI n) := by
  show some (PyData.int ((sq n g).length : Nat)) = _
  rw [sq_len]
theorem len_tab : F_len [tab n r] = some (nI n) := len_t
theorem len_row : F_len [row n f] = some (nI n) := len_t
theorem len_bag : F_len [bag n b] = some (nI n) := len_t
theorem len_tup (xs : List D) : F_len [.tuple xs] = some (nI xs.length) := rfl
theorem len_lst (xs : List D) : F_len [.list xs] = some (nI xs.length) := rfl
theorem ix_t {i : Nat} (h : i < n) : F_ix [.tuple (sq n g), nI i] = some (g i) := f_ixT (Int.natCast_nonneg _) (by rw [Int.toNat_natCast]; exact sq_at h)
theorem ix_l {i : Nat} (h : i < n) : F_ix [.list (sq n g), nI i] = some (g i) := f_ixL (Int.natCast_nonneg _) (by rw [Int.toNat_natCast]; exact sq_at h)
theorem ix_tab {i : Nat} (h : i < n) : F_ix [tab n r, nI i] = some (row n (r i)) := ix_t h
theorem ix_row {i : Nat} (h : i < n) : F_ix [row n f, nI i] = some (nI (f i)) := ix_t h
theorem ix_bag {i : Nat} (h : i < n) : F_ix [bag n b, nI i] = some (.int (b i)) := ix_t h
theorem items_tup (xs : List D) : itemsOf (.tuple xs) = some xs := rfl
theorem items_lst (xs : List D) : itemsOf (.list xs) = some xs := rfl
theorem items_tab : itemsOf (tab n r) = some (sq n fun i => row n (r i)) := rfl
theorem items_row : itemsOf (row n f) = some (sq n fun i => nI (f i)) := rfl
theorem items_bag : itemsOf (bag n b) = some (sq n fun i => .int (b i)) := rfl
theorem tuple_l (xs : List D) : F_tuple [.list xs] = some (.tuple xs) := rfl
theorem tuple_t (xs : List D) : F_tuple [.tuple xs] = some (.tuple xs) := rfl
theorem list_l (xs : List D) : F_list [.list xs] = some (.list xs) := rfl
theorem list_t (xs : List D) : F_list [.tuple xs] = some (.list xs) := rfl
theorem list_row : F_list [row n f] = some (.list (sq n fun i => nI (f i))) := rfl
theorem list_bag : F_list [bag n b] = some (.list (sq n fun i => .int (b i))) := rfl
theorem rgL_s (h : n ≤ 16777216) : rgL (0, (n : Int)) = pu (rng n) := by rw [rgL_n h, iL_upto]
theorem rgI_s (h : n ≤ 16777216) : rgI (0, (n : Int)) = pu (rng n) := by rw [rgI_n h, iL_upto]
theorem rgT_s (h : n ≤ 16777216) : rgT (0, (n : Int)) = pu (.tuple (rng n)) := by
  rw [rgT_n h]
  show pu (PyData.tuple (iL (upto n))) = _
  rw [iL_upto]
theorem sub_i (i j : Int) : F_sub [.int i, .int j] = some (.int (i - j)) := rfl
theorem add_i (i j : Int) : F_add [.int i, .int j] = some (.int (i + j)) := rfl
theorem neg_i (i : Int) : F_neg [.int i] = some (.int (-i)) := rfl
theorem abs_i (i : Int) : F_abs [.int i] = some (.int (if i < 0 then -i else i)) := rfl
theorem lt_i (i j : Int) : F_lt [.int i, .int j] = some (.bool (decide (i < j))) := rfl
theorem le_i (i j : Int) : F_le [.int i, .int j] = some (.bool (decide (i ≤ j))) := rfl
theorem gt_i (i j : Int) : F_gt [.int i, .int j] = some (.bool (decide (j < i))) := rfl
theorem ge_i (i j : Int) : F_ge [.int i, .int j] = some (.bool (decide (j ≤ i))) := rfl
theorem isN_d (d : D) : F_isN [d] = some (.bool (isNone d)) := rfl
theorem notN_d (d : D) : F_notN [d] = some (.bool (!isNone d)) := rfl
theorem set_s {i : Nat} (h : i < n) (d : D) : setW (sq n g) (nI i) d = pu (sq n fun j => if j = i then d else g j) := by
  show (match ixN (sq n g).length (i : Int) with | some j => pu ((sq n g).set j d) | none => no) = _
  have e : ixN (sq n g).length (i : Int) = some i := by
    unfold ixN
    rw [if_pos (Int.natCast_nonneg _), sq_len, if_pos (by omega), Int.toNat_natCast]
  rw [e]
  dsimp only
  rw [sq_set d h]
theorem rep_s (d : D) (h : n ≤ 16777216) : repW [d] (nI n) = pu (sq n fun _ => d) := by
  show (if (decide (-9223372036854775808 ≤ (n : Int)) && (decide ((n : Int) < 9223372036854775808) && decide ([d].length * ((n : Int)).toNat ≤ sizeLine))) = true then pu (List.replicate ((n : Int)).toNat [d]).flatten else no) = _
  rw [decide_eq_true (by omega : -9223372036854775808 ≤ (n : Int)), decide_eq_true (by omega : (n : Int) < 9223372036854775808), decide_eq_true (by rw [sizeLine_eq]; show 1 * _ ≤ _; omega)]
  show pu (List.replicate ((n : Int)).toNat [d]).flatten = _
  rw [Int.toNat_natCast, ← sq_rep]
  congr 1
  induction n with
  | zero => rfl
  | succ n ih => rw [List.replicate_succ, List.flatten_cons, ih (by omega)]; rfl
theorem enum_t : enumW (.tuple (sq n g)) = pu (sq n fun i => .tuple [nI i, g i]) := by
  show pu (enumD (sq n g)) = _
  congr 1
  refine sq_ext (by rw [enum_len, sq_len]) fun i hi => ?_
  rw [@enumD_at ⟨[], 0⟩ _ _ (by simpa using hi)]
  have := sq_at (g := g) hi
  rw [List.getElem?_eq_getElem (by simpa using hi)] at this
  rw [Option.some.inj this]
theorem enum_row : enumW (row n f) = pu (sq n fun i => .tuple [nI i, nI (f i)]) := enum_t
theorem enum_bag : enumW (bag n b) = pu (sq n fun i => .tuple [nI i, .int (b i)]) := enum_t
end
/-! ### comprehensions and loops by place -/
def compN (n : Nat) (f : Nat → W D) : W (List D) := mapW (fun d => d.casesOn no (fun _ => no) (fun i => f i.toNat) (fun _ => no) (fun _ => no) (fun _ => no) (fun _ => no)) (rng n)
theorem mapW_congr {f f' : D → W D} : ∀ {ds : List D}, (∀ d ∈ ds, f d = f' d) → mapW f ds = mapW f' ds
  | [], _ => rfl
  | d :: ds, h => by
    unfold mapW
    rw [h d List.mem_cons_self, mapW_congr fun d' hd => h d' (List.mem_cons_of_mem _ hd)]
theorem mapW_map {f : D → W D} {k : D → D} : ∀ {ds : List D}, mapW f (ds.map k) = mapW (fun d => f (k d)) ds
  | [] => rfl
  | d :: ds => by
    rw [List.map_cons]
    unfold mapW
    rw [mapW_map]
theorem compN_congr {n : Nat} {f f' : Nat → W D} (h : ∀ i, i < n → f i = f' i) : compN n f = compN n f' := mapW_congr fun d hd => by
  obtain ⟨i, hi, rfl⟩ := mem_sq.mp hd
  show f ((i : Int)).toNat = f' ((i : Int)).toNat
  rw [Int.toNat_natCast, h i hi]
theorem comp_sq {n : Nat} {f : D → W D} {g : Nat → D} (hn : n ≤ 16777216) : compW f (sq n g) = compN n fun i => f (g i) := by
  unfold compW
  rw [if_pos (le_sz (by rw [sq_len]; exact hn))]
  have e : sq n g = (rng n).map fun d => d.casesOn .none (fun _ => .none) (fun i => g i.toNat) (fun _ => .none) (fun _ => .none) (fun _ => .none) (fun _ => .none) := by
    unfold rng
    rw [sq_map]
    exact sq_congr fun i hi => by show g i = g ((i : Int)).toNat; rw [Int.toNat_natCast]
  rw [e, mapW_map]
  refine mapW_congr fun d hd => ?_
  obtain ⟨i, hi, rfl⟩ := mem_sq.mp hd
  rfl
theorem comp_rng {n : Nat} {f : D → W D} (hn : n ≤ 16777216) : compW f (rng n) = compN n fun i => f (nI i) := comp_sq hn
theorem compN_pu {n : Nat} {h : Nat → D} : (compN n fun i => pu (h i)) = pu (sq n h) := by
  unfold compN
  rw [mapW_pu (fun d => d.casesOn .none (fun _ => .none) (fun i => h i.toNat) (fun _ => .none) (fun _ => .none) (fun _ => .none) (fun _ => .none)) fun d hd => by
    obtain ⟨i, hi, rfl⟩ := mem_sq.mp hd
    rfl]
  unfold rng
  rw [sq_map]
  congr 1
theorem compN_eq {n : Nat} {f : Nat → W D} (h : Nat → D) (e : ∀ i, i < n → f i = pu (h i)) : compN n f = pu (sq n h) := (compN_congr e).trans compN_pu
/-- the places by their numbers -/
theorem for_inv_sq {l' l : Type} {n : Nat} {g : Nat → D} (I : Nat → l' → Prop) {f : D → l' → W (FW l' l')} {X : Ex → Prop} {s : l'} {Q : FW l' l → Prop} (h : I 0 s)
    (st : ∀ (i : Nat) s (Q' : FW l' l' → Prop), i < n → I i s → (∀ s', I (i + 1) s' → Q' (.nx s')) → f (g i) s Q' X) (q : ∀ s, I n s → Q (.nx s)) : forW f (sq n g) s Q X :=
  forW_w I h (fun i d s Q' hd hi hq => by
    have hl := (List.getElem?_eq_some_iff.mp hd).1
    rw [sq_len] at hl
    rw [sq_at hl] at hd
    cases hd
    exact st i s Q' hl hi hq) fun s hs => q s (by rw [sq_len] at hs; exact hs)
/-- a loop whose turns are told: its states by number -/
theorem for_sq {l' l : Type} {n : Nat} {g : Nat → D} (S : Nat → l') {f : D → l' → W (FW l' l')} (st : ∀ i, i < n → f (g i) (S i) = pu (.nx (S (i + 1)))) : (forW f (sq n g) (S 0) : W (FW l' l)) = pu (.nx (S n)) := by
  have key : ∀ m k, k + m = n → (forW f ((List.range' k m).map g) (S k) : W (FW l' l)) = pu (.nx (S n)) := by
    intro m
    induction m with
    | zero => intro k e; rw [Nat.add_zero] at e; subst e; rfl
    | succ m ih =>
      intro k e
      rw [List.range'_succ, List.map_cons]
      unfold forW
      rw [st k (by omega)]
      exact ih (k + 1) (by omega)
  have := key n 0 (by omega)
  rw [← List.range_eq_range'] at this
  exact this
theorem for_rng {l' l : Type} {n : Nat} (S : Nat → l') {f : D → l' → W (FW l' l')} (st : ∀ i, i < n → f (nI i) (S i) = pu (.nx (S (i + 1)))) : (forW f (rng n) (S 0) : W (FW l' l)) = pu (.nx (S n)) := for_sq S st
/-- a loop that looks for a place -/
theorem find_sq {l : Type} {n : Nat} {g : Nat → D} (p : Nat → Option D) {f : D → Unit → W (FW Unit Unit)} (h : ∀ i, i < n → f (g i) () = pu (match p i with | some w => .rt w | none => .nx ())) : (forW f (sq n g) () : W (FW Unit l)) = pu (match (List.range n).findSome? p with | some w => .rt w | none => .nx ()) := by
  have key : ∀ m k, k + m = n → (forW f ((List.range' k m).map g) () : W (FW Unit l)) = pu (match (List.range' k m).findSome? p with | some w => .rt w | none => .nx ()) := by
    intro m
    induction m with
    | zero => intro k e; rfl
    | succ m ih =>
      intro k e
      rw [List.range'_succ, List.map_cons, List.findSome?_cons]
      unfold forW
      rw [h k (by omega)]
      cases q : p k with
      | some w => rfl
      | none => exact ih (k + 1) (by omega)
  have := key n 0 (by omega)
  rw [← List.range_eq_range'] at this
  exact this
/-! ### one step at a time -/
section
variable {α β γ : Type}
theorem bd_go {t : W α} {k : α → W β} {Q : β → Prop} {X : Ex → Prop} (h : t (fun a => k a Q X) X) : bd t k Q X := h
theorem bd_eta (t : W α) : bd t (fun a => pu a) = t := rfl
theorem pu_run (a : α) (Q : α → Prop) (X : Ex → Prop) : pu a Q X = Q a := rfl
theorem pu_go {a : α} {Q : α → Prop} {X : Ex → Prop} (h : Q a) : pu a Q X := h
theorem tst_bd (t : W α) (k : α → W D) : tst (bd t k) = bd t fun a => tst (k a) := rfl
theorem ite_bd (t : W α) (k : α → W Bool) (u v : W β) : iteW (bd t k) u v = bd t fun a => iteW (k a) u v := rfl
theorem notB_bd (t : W α) (k : α → W Bool) : notB (bd t k) = bd t fun a => notB (k a) := rfl
theorem notD_bd (t : W α) (k : α → W D) : notD (bd t k) = bd t fun a => notD (k a) := rfl
theorem andB_bd (t : W α) (k : α → W Bool) (u : W Bool) : andB (bd t k) u = bd t fun a => andB (k a) u := rfl
theorem orB_bd (t : W α) (k : α → W Bool) (u : W Bool) : orB (bd t k) u = bd t fun a => orB (k a) u := rfl
theorem andD_bd (t : W α) (k : α → W D) (u : W D) : andD (bd t k) u = bd t fun a => andD (k a) u := rfl
theorem orD_bd (t : W α) (k : α → W D) (u : W D) : orD (bd t k) u = bd t fun a => orD (k a) u := rfl
theorem lst_bd (t : W α) (k : α → W (List D)) : lst (bd t k) = bd t fun a => lst (k a) := rfl
theorem ner_bd {t : W α} {k : α → W β} {Q : β → Prop} {X : Ex → Prop} (h : t (fun a => k a Q noX) noX) : ner (bd t k) Q X := h
theorem bd_ite (c : Bool) (t u : W α) (k : α → W β) : bd (if c = true then t else u) k = if c = true then bd t k else bd u k := by cases c <;> rfl
end
theorem loop_seq {l' τ l : Type} {n : Nat} {g : Nat → D} (I : Nat → l' → Prop) {f : D → l' → W (FW l' l')} {X : Ex → Prop} {s : l'} {k : l' → W (FW τ l)} {Q : FW τ l → Prop} (h : I 0 s)
    (st : ∀ (i : Nat) s (Q' : FW l' l' → Prop), i < n → I i s → (∀ s', I (i + 1) s' → Q' (.nx s')) → f (g i) s Q' X) (q : ∀ s, I n s → k s Q X) : seqW (forW f (sq n g) s) k Q X := for_inv_sq I h st q
theorem loop_fin {l' : Type} {n : Nat} {g : Nat → D} (I : Nat → l' → Prop) {f : D → l' → W (FW l' l')} {X : Ex → Prop} {s : l'} {k : l' → W (FW Unit Unit)} {Q : D → Prop} (h : I 0 s)
    (st : ∀ (i : Nat) s (Q' : FW l' l' → Prop), i < n → I i s → (∀ s', I (i + 1) s' → Q' (.nx s')) → f (g i) s Q' X) (q : ∀ s, I n s → fin (k s) Q X) : fin (seqW (forW f (sq n g) s) k) Q X := for_inv_sq (l := Unit) I h st q
theorem rng_sq (n : Nat) : rng n = sq n fun i => nI i := rfl
theorem rgT_ab {n m : Nat} (h : n + m ≤ 16777216) : rgT ((n : Int), (n : Int) + (m : Int)) = pu (.tuple (sq m fun i => nI (n + i))) := by
  unfold rgT
  have e : rgOk (n : Int) ((n : Int) + (m : Int)) = true := by unfold rgOk; simp; omega
  rw [if_pos e]
  unfold rgD
  show pu (PyData.tuple ((List.range ((n : Int) + (m : Int) - (n : Int)).toNat).map fun i => .int ((n : Int) + (i : Nat)))) = _
  rw [show ((n : Int) + (m : Int) - (n : Int)).toNat = m by omega]
  congr 2
/-- a comprehension whose items are told by place, each with a promise -/
theorem comp_go {n : Nat} {g : Nat → D} {f : D → W D} (P : Nat → D → Prop) {X : Ex → Prop} {Q : List D → Prop} (hn : n ≤ 16777216) (h : ∀ i, i < n → ∀ Q' : D → Prop, (∀ e, P i e → Q' e) → f (g i) Q' noX) (q : ∀ e : Nat → D, (∀ i, i < n → P i (e i)) → Q (sq n e)) : compW f (sq n g) Q X := by
  unfold compW
  rw [if_pos (le_sz (by rw [sq_len]; exact hn))]
  have key : ∀ (m k : Nat) (Q : List D → Prop), k + m = n → (∀ e : Nat → D, (∀ i, k ≤ i → i < n → P i (e i)) → Q ((List.range' k m).map e)) → mapW f ((List.range' k m).map g) Q X := by
    intro m
    induction m with
    | zero => intro k Q _ q; exact q (fun _ => .none) fun i h1 h2 => absurd h1 (by omega)
    | succ m ih =>
      intro k Q e q
      rw [List.range'_succ, List.map_cons]
      refine h k (by omega) _ fun d hd => ?_
      refine ih (k + 1) _ (by omega) fun e2 h2 => ?_
      have := q (fun i => if i = k then d else e2 i) fun i h3 h4 => by
        show P i (if i = k then d else e2 i)
        by_cases z : i = k
        · subst z
          rw [if_pos rfl]
          exact hd
        · rw [if_neg z]
          exact h2 i (by omega) h4
      rw [List.range'_succ, List.map_cons, if_pos rfl] at this
      have z : (List.range' (k + 1) m).map (fun i => if i = k then d else e2 i) = (List.range' (k + 1) m).map e2 := List.map_congr_left fun i hi => if_neg (by have := List.mem_range'.mp hi; omega)
      rw [z] at this
      exact this
  have := key n 0 Q (by omega) fun e he => by
    rw [← List.range_eq_range']
    exact q e fun i hi => he i (Nat.zero_le _) hi
  rw [← List.range_eq_range'] at this
  exact this
/-! ### places told anew -/
theorem ixN_s {n i : Nat} (h : i < n) : ixN n (i : Int) = some i := by
  unfold ixN
  rw [if_pos (Int.natCast_nonneg _), if_pos (by omega), Int.toNat_natCast]
theorem item_s {n i : Nat} {b : Nat → Int} (h : i < n) : itemW (sq n fun i => .int (b i)) (nI i) = pu (b i) := by
  unfold itemW
  have e : itemAt (.own false (sq n fun i => PyData.int (b i))) (nI i) = some (.int (b i)) := by
    exact ix_l (g := fun i => PyData.int (b i)) h
  rw [e]
theorem aug_s {n i : Nat} {b : Nat → Int} {g : Int → Int → Int} {o y : Int} (h : i < n) : augW g (sq n fun i => .int (b i)) (nI i) o (.int y) = pu (sq n fun j => .int (if j = i then g o y else b j)) := by
  have e : augW g (sq n fun i => .int (b i)) (nI i) o (.int y) = setW (sq n fun i => .int (b i)) (nI i) (.int (g o y)) := rfl
  rw [e, set_s h]
  congr 1
  exact sq_congr fun j _ => by split <;> rfl
theorem mapO_map {f : D → W (Option D)} {k : Nat → D} : ∀ {is : List Nat} {p : Nat → Bool} {F : Nat → D}, (∀ i ∈ is, f (k i) = pu (if p i = true then some (F i) else none)) → mapO f (is.map k) = pu ((is.filter p).map F)
  | [], _, _, _ => rfl
  | i :: is, p, F, h => by
    rw [List.map_cons]
    unfold mapO
    rw [h i List.mem_cons_self, mapO_map fun i hi => h i (List.mem_cons_of_mem _ hi), List.filter_cons]
    cases q : p i with
    | true => rfl
    | false => rfl
/-- what is kept, by place -/
theorem filt_sq {n : Nat} {g : Nat → D} {f : D → W (Option D)} (p : Nat → Bool) (F : Nat → D) (hn : n ≤ 16777216) (h : ∀ i, i < n → f (g i) = pu (if p i = true then some (F i) else none)) : filtW f (sq n g) = pu (((List.range n).filter p).map F) := by
  unfold filtW
  rw [if_pos (le_sz (by rw [sq_len]; exact hn))]
  exact mapO_map fun i hi => h i (List.mem_range.mp hi)
theorem filter_one {n i : Nat} (h : i < n) : (List.range n).filter (fun j => decide (j = i)) = [i] := by
  induction n with
  | zero => omega
  | succ n ih =>
    rw [List.range_succ, List.filter_append]
    by_cases e : i = n
    · subst e
      rw [List.filter_eq_nil_iff.mpr fun j hj => by have := List.mem_range.mp hj; simp; omega]
      simp
    · rw [ih (by omega)]
      simp
      omega
theorem rgI_abs {v : Int} (h : v.natAbs ≤ 16777216) : rgI (0, if v < 0 then -v else v) = pu (rng v.natAbs) := by
  rw [show (if v < 0 then -v else v) = (v.natAbs : Int) by split <;> omega]
  exact rgI_s h
theorem iL_w (w : List Int) : iL w = sq w.length fun i => .int (w.getD i 0) := by
  refine sq_ext (iL_len w) fun i hi => ?_
  rw [iL_at (getD_at hi)]
theorem items_T (w : List Int) : itemsOf (T w) = some (iL w) := rfl
theorem rev_T (w : List Int) : revD (T w) = some (iL w.reverse) := by
  show some (iL w).reverse = _
  unfold iL
  rw [List.map_reverse]
theorem take_snoc {w : List Int} {k : Nat} (h : k < w.length) : w.take (k + 1) = w.take k ++ [w.getD k 0] := by
  rw [List.take_add_one, getD_at h]
  rfl
theorem shaped_le {xs : List D} : F_len [.list xs] = some (nI xs.length) := rfl
/-! ### filled place by place -/
section
variable {α : Type} {n : Nat} {g : Nat → α} {d : α}
theorem fill_0 (q : Nat → Nat) : (sq n fun _ => d) = sq n fun x => if q x < 0 then g x else d := sq_congr fun x _ => (if_neg (by omega)).symm
theorem fill_step {q : Nat → Nat} {a j : Nat} (h : ∀ x, x < n → (x = a ↔ q x = j)) : (sq n fun x => if x = a then g a else if q x < j then g x else d) = sq n fun x => if q x < j + 1 then g x else d := sq_congr fun x hx => by
  by_cases e : x = a
  · have := (h x hx).mp e
    rw [if_pos e, if_pos (by omega), e]
  · have : q x ≠ j := fun z => e ((h x hx).mpr z)
    rw [if_neg e]
    by_cases z : q x < j
    · rw [if_pos z, if_pos (by omega)]
    · rw [if_neg z, if_neg (by omega)]
theorem fill_n {q : Nat → Nat} {m : Nat} (h : ∀ x, x < n → q x < m) : (sq n fun x => if q x < m then g x else d) = sq n g := sq_congr fun x hx => if_pos (h x hx)
end
/-! ### what was drawn -/
theorem ints_of {n : Nat} {e : Nat → D} {P : Int → Prop} (h : ∀ i, i < n → ∃ v, P v ∧ e i = .int v) : ∃ b : Nat → Int, (sq n e = sq n fun i => .int (b i)) ∧ ∀ i, i < n → P (b i) := by
  refine ⟨fun i => match e i with | .int v => v | _ => 0, sq_congr fun i hi => ?_, fun i hi => ?_⟩
  · obtain ⟨v, _, e1⟩ := h i hi
    simp only [e1]
  · obtain ⟨v, hv, e1⟩ := h i hi
    simp only [e1]
    exact hv
theorem word_of {n : Nat} {e : Nat → D} {P : Int → Prop} (h : ∀ i, i < n → ∃ v, P v ∧ e i = .int v) : ∃ w : List Int, sq n e = iL w ∧ w.length = n ∧ ∀ v ∈ w, P v := by
  obtain ⟨b, e1, e2⟩ := ints_of h
  refine ⟨sq n b, by rw [e1]; unfold iL; rw [sq_map], sq_len, fun v hv => ?_⟩
  obtain ⟨i, hi, rfl⟩ := mem_sq.mp hv
  exact e2 i hi
theorem bag_T {n : Nat} (b : Nat → Int) : bag n b = T (sq n b) := by
  show _ = PyData.tuple (iL _)
  unfold iL
  rw [sq_map]
  rfl
theorem like_bag {n k : Nat} {b : Nat → Int} (h : n ≤ 16777216) : likeN (k + 1) (bag n b) = true := by
  rw [bag_T]
  exact likeN_T (by rw [sq_len]; exact h)
theorem like_row {n k : Nat} {f : Nat → Nat} (h : n ≤ 16777216) : likeN (k + 1) (row n f) = true := like_bag (b := fun i => (f i : Int)) h
theorem like_tab {n k : Nat} {r : Nat → Nat → Nat} (h : n ≤ 16777216) : likeN (k + 2) (tab n r) = true := likeN_tuple (by rw [sq_len]; exact h) fun x hx => by
  obtain ⟨i, _, rfl⟩ := mem_sq.mp hx
  exact like_row h
theorem like_int {k : Nat} (v : Int) : likeN k (.int v) = true := by cases k <;> rfl
theorem like_bool {k : Nat} (v : Bool) : likeN k (.bool v) = true := by cases k <;> rfl
theorem like_none {k : Nat} : likeN k (.none : D) = true := by cases k <;> rfl
theorem like_l0 {k : Nat} : likeN (k + 1) (.list []) = true := rfl
theorem like_two {k : Nat} {a b : D} (h1 : likeN k a = true) (h2 : likeN k b = true) : likeN (k + 1) (.tuple [a, b]) = true := likeN_tuple (show 2 ≤ _ by decide) (all_cons h1 (all_cons h2 all_nil))
theorem like_list2 {k : Nat} {a b : D} (h1 : likeN k a = true) (h2 : likeN k b = true) : likeN (k + 1) (.list [a, b]) = true := likeN_list (show 2 ≤ _ by decide) (all_cons h1 (all_cons h2 all_nil))
theorem like_list3 {k : Nat} {a b c : D} (h1 : likeN k a = true) (h2 : likeN k b = true) (h3 : likeN k c = true) : likeN (k + 1) (.list [a, b, c]) = true := likeN_list (show 3 ≤ _ by decide) (all_cons h1 (all_cons h2 (all_cons h3 all_nil)))
theorem like_list4 {k : Nat} {a b c d : D} (h1 : likeN k a = true) (h2 : likeN k b = true) (h3 : likeN k c = true) (h4 : likeN k d = true) : likeN (k + 1) (.list [a, b, c, d]) = true := likeN_list (show 4 ≤ _ by decide) (all_cons h1 (all_cons h2 (all_cons h3 (all_cons h4 all_nil))))
theorem add_T {a b : List Int} (h : a.length + b.length ≤ 16777216) : F_add [T a, T b] = some (T (a ++ b)) := by
  show F_add [.tuple (iL a), .tuple (iL b)] = _
  rw [f_addT (le_sz (by rw [iL_len, iL_len]; exact h)), iL_app]
theorem len_T (w : List Int) : F_len [T w] = some (nI w.length) := by
  show some (PyData.int ((iL w).length : Nat)) = _
  rw [iL_len]
theorem ix_T {w : List Int} {i : Nat} (h : i < w.length) : F_ix [T w, nI i] = some (.int (w.getD i 0)) := f_ixi h
theorem sl_T_to {w : List Int} {i : Nat} (h : i ≤ w.length) : F_sl (T w) none (some (i : Int)) = some (T (w.take i)) := by
  show F_sl (.tuple (iL w)) _ _ = _
  rw [f_slT_to (Int.natCast_nonneg _) (by rw [iL_len]; omega), Int.toNat_natCast, iL_take]
theorem sl_T_from {w : List Int} {v : Int} {i : Nat} (h : v = i) : F_sl (T w) (some v) none = some (T (w.drop i)) := by
  subst h
  show F_sl (.tuple (iL w)) _ _ = _
  rw [f_slT_from (Int.natCast_nonneg _), Int.toNat_natCast, iL_drop]
theorem iL_noDict {w : List Int} : ∀ x ∈ iL w, noDict x = true := fun x hx => by
  obtain ⟨v, _, rfl⟩ := iL_mem hx
  rfl
theorem split2 {w : List Int} {r : Nat} (h : r + 1 < w.length) : w = w.take r ++ [w.getD r 0, w.getD (r + 1) 0] ++ w.drop (r + 2) := by
  have e1 : w.getD r 0 = w[r] := by rw [List.getD_eq_getElem?_getD, List.getElem?_eq_getElem (by omega)]; rfl
  have e2 : w.getD (r + 1) 0 = w[r + 1] := by rw [List.getD_eq_getElem?_getD, List.getElem?_eq_getElem h]; rfl
  have h1 := List.take_append_drop r w
  have h2 : w.drop r = w[r] :: w.drop (r + 1) := List.drop_eq_getElem_cons (by omega)
  have h3 : w.drop (r + 1) = w[r + 1] :: w.drop (r + 2) := List.drop_eq_getElem_cons h
  rw [e1, e2, List.append_assoc]
  show w = w.take r ++ (w[r] :: w[r + 1] :: w.drop (r + 2))
  rw [← h3, ← h2, h1]
theorem getD_mem {w : List Int} {r : Nat} (h : r < w.length) : w.getD r 0 ∈ w := by
  rw [List.getD_eq_getElem?_getD, List.getElem?_eq_getElem h]
  exact List.getElem_mem h
theorem ixt_0 {a : D} {r : List D} : F_ix [.tuple (a :: r), .int 0] = some a := f_ixT (Int.le_refl _) rfl
theorem ixt_1 {a b : D} {r : List D} : F_ix [.tuple (a :: b :: r), .int 1] = some b := f_ixT (by decide) rfl
theorem ixt_2 {a b c : D} {r : List D} : F_ix [.tuple (a :: b :: c :: r), .int 2] = some c := f_ixT (by decide) rfl
theorem ixl_0 {a : D} {r : List D} : F_ix [.list (a :: r), .int 0] = some a := f_ixL (Int.le_refl _) rfl
theorem ixl_1 {a b : D} {r : List D} : F_ix [.list (a :: b :: r), .int 1] = some b := f_ixL (by decide) rfl
theorem zip_sq {n : Nat} {g h : Nat → D} : zipD (sq n g) (sq n h) = sq n fun i => .tuple [g i, h i] := by
  have key : ∀ is : List Nat, zipD (is.map g) (is.map h) = is.map fun i => .tuple [g i, h i] := by
    intro is
    induction is with
    | nil => rfl
    | cons a is ih =>
      rw [List.map_cons, List.map_cons, List.map_cons, ← ih]
      rfl
  exact key _
theorem zipW_t {n : Nat} {g h : Nat → D} : zipW [.tuple (sq n g), .tuple (sq n h)] = pu (sq n fun i => .tuple [g i, h i]) := by
  show pu (zipD _ _) = _
  rw [zip_sq]
theorem zipW_bag {n : Nat} {b c : Nat → Int} : zipW [bag n b, bag n c] = pu (sq n fun i => .tuple [.int (b i), .int (c i)]) := zipW_t
theorem mul_t {xs : List D} {k : Int} (h1 : -1000 ≤ k) (h2 : k ≤ 1000) (h3 : xs.length ≤ 1000) : F_mul [.tuple xs, .int k] = some (.tuple (List.replicate k.toNat xs).flatten) := by
  show (if (decide (-1000 ≤ k) && (decide (k ≤ 1000) && decide (xs.length ≤ 1000))) = true then some (PyData.tuple (List.replicate k.toNat xs).flatten) else none) = _
  rw [decide_eq_true h1, decide_eq_true h2, decide_eq_true h3]
  rfl
theorem flat_one {α : Type} (d : α) : ∀ m, (List.replicate m [d]).flatten = sq m fun _ => d
  | 0 => rfl
  | m + 1 => by rw [List.replicate_succ', List.flatten_concat, flat_one, sq_succ]
theorem mul_t1 {d : D} {n : Nat} (h : n ≤ 1000) : F_mul [.tuple [d], nI n] = some (.tuple (sq n fun _ => d)) := by
  show F_mul [.tuple [d], .int (n : Int)] = _
  rw [mul_t (by omega) (by omega) (by show 1 ≤ _; omega), Int.toNat_natCast, flat_one]
theorem mul_T {w : List Int} {k : Int} (h1 : -1000 ≤ k) (h2 : k ≤ 1000) (h3 : w.length ≤ 1000) : F_mul [T w, .int k] = some (T (List.replicate k.toNat w).flatten) := by
  show F_mul [.tuple (iL w), .int k] = _
  rw [mul_t h1 h2 (by rw [iL_len]; exact h3)]
  show some (PyData.tuple _) = some (PyData.tuple _)
  congr 2
  generalize k.toNat = m
  induction m with
  | zero => rfl
  | succ m ih => rw [List.replicate_succ, List.flatten_cons, ih, List.replicate_succ, List.flatten_cons, iL_app]
theorem for_list {l : Type} {f : D → Unit → W (FW Unit Unit)} {items : List D} (h : ∀ d ∈ items, f d () = pu (.nx ())) : (forW f items () : W (FW Unit l)) = pu (.nx ()) := by
  have := forW_pu (l := l) (fun _ s => s) (s := ()) (fun d hd s => h d hd)
  rw [this]
end SW
set_option Elab.async false
set_option linter.all false
set_option maxRecDepth 100000
set_option maxHeartbeats 2000000
/-! SWCs: turns and cycle sets as functions; bags. Plain. -/
namespace SW
open PySem L2
/-- a turn of n things: what is not among them stays -/
structure Pm (n : Nat) where
  to : Nat → Nat
  inv : Nat → Nat
  l : ∀ i, inv (to i) = i
  r : ∀ i, to (inv i) = i
  o : ∀ i, n ≤ i → to i = i
namespace Pm
variable {n : Nat}
theorem ext {p q : Pm n} (h : ∀ i, p.to i = q.to i) : p = q := by
  obtain ⟨a, b, l, r, o⟩ := p
  obtain ⟨c, d, l', r', o'⟩ := q
  have e1 : a = c := funext h
  subst e1
  have e2 : b = d := funext fun i => by
    have := l (d i)
    rw [r' i] at this
    exact this
  subst e2
  rfl
theorem inj (p : Pm n) {i j : Nat} (h : p.to i = p.to j) : i = j := by rw [← p.l i, h, p.l]
theorem invj (p : Pm n) {i j : Nat} (h : p.inv i = p.inv j) : i = j := by rw [← p.r i, h, p.r]
theorem oi (p : Pm n) {i : Nat} (h : n ≤ i) : p.inv i = i := by
  have := p.l i
  rw [p.o i h] at this
  exact this
theorem lt (p : Pm n) {i : Nat} (h : i < n) : p.to i < n := by
  refine Classical.byContradiction fun z => ?_
  have h1 := p.o (p.to i) (by omega)
  have := p.inj h1
  omega
theorem lti (p : Pm n) {i : Nat} (h : i < n) : p.inv i < n := by
  refine Classical.byContradiction fun z => ?_
  have h1 := p.o (p.inv i) (by omega)
  rw [p.r] at h1
  omega
theorem to_eq (p : Pm n) {i j : Nat} : p.to i = j ↔ i = p.inv j := ⟨fun h => by rw [← h, p.l], fun h => by rw [h, p.r]⟩
def one : Pm n := ⟨fun i => i, fun i => i, fun _ => rfl, fun _ => rfl, fun _ _ => rfl⟩
def mul (p q : Pm n) : Pm n := ⟨fun i => p.to (q.to i), fun i => q.inv (p.inv i), fun i => by rw [p.l, q.l], fun i => by rw [q.r, p.r], fun i h => by rw [q.o i h, p.o i h]⟩
def bk (p : Pm n) : Pm n := ⟨p.inv, p.to, p.r, p.l, fun _ h => p.oi h⟩
theorem mul_to (p q : Pm n) (i : Nat) : (p.mul q).to i = p.to (q.to i) := rfl
theorem mul_inv (p q : Pm n) (i : Nat) : (p.mul q).inv i = q.inv (p.inv i) := rfl
theorem bk_to (p : Pm n) (i : Nat) : p.bk.to i = p.inv i := rfl
theorem bk_inv (p : Pm n) (i : Nat) : p.bk.inv i = p.to i := rfl
theorem mul_assoc (p q r : Pm n) : (p.mul q).mul r = p.mul (q.mul r) := rfl
theorem one_mul (p : Pm n) : one.mul p = p := rfl
theorem mul_one (p : Pm n) : p.mul one = p := rfl
theorem mul_bk (p : Pm n) : p.mul p.bk = one := ext fun i => p.r i
theorem bk_mul (p : Pm n) : p.bk.mul p = one := ext fun i => p.l i
theorem bk_bk (p : Pm n) : p.bk.bk = p := rfl
theorem bk_one : (one : Pm n).bk = one := rfl
theorem bk_of_mul (p q : Pm n) : (p.mul q).bk = q.bk.mul p.bk := rfl
end Pm
/-- a cycle set of n letters -/
structure CS (n : Nat) where
  R : Nat → Pm n
  ro : ∀ i, n ≤ i → ∀ j, (R i).to j = j
  law : ∀ i j k, (R ((R i).to j)).to ((R i).to k) = (R ((R j).to i)).to ((R j).to k)
  S : Nat → Nat
  s1 : ∀ i, (R (S i)).to (S i) = i
  s2 : ∀ i, S ((R i).to i) = i
def CS.r {n : Nat} (C : CS n) (i j : Nat) : Nat := (C.R i).to j
namespace CS
variable {n : Nat} (C : CS n)
theorem lt {i j : Nat} (h : j < n) : C.r i j < n := (C.R i).lt h
theorem so {i : Nat} (h : n ≤ i) : C.S i = i := by
  have := C.s2 i
  rw [C.ro i h] at this
  exact this
theorem slt {i : Nat} (h : i < n) : C.S i < n := by
  refine Classical.byContradiction fun z => ?_
  have h1 := C.s1 i
  rw [C.ro _ (by omega)] at h1
  omega
/-! ### one thing more in the bag -/
def add (a : Nat) (t : Pm n) : Pm n := t.mul (C.R (t.inv a)).bk
def tak (a : Nat) (t : Pm n) : Pm n := t.mul (C.R (C.S (t.inv a)))
theorem add_tak (a : Nat) (t : Pm n) : C.add a (C.tak a t) = t := by
  unfold add tak
  rw [Pm.mul_assoc, Pm.mul_inv]
  have e : (C.R (C.S (t.inv a))).inv (t.inv a) = C.S (t.inv a) := ((Pm.to_eq _).mp (C.s1 _)).symm
  rw [e, Pm.mul_bk, Pm.mul_one]
theorem tak_add (a : Nat) (t : Pm n) : C.tak a (C.add a t) = t := by
  unfold add tak
  rw [Pm.mul_inv, Pm.bk_inv, C.s2, Pm.mul_assoc, Pm.bk_mul, Pm.mul_one]
theorem add_comm (a b : Nat) (t : Pm n) : C.add a (C.add b t) = C.add b (C.add a t) := by
  unfold add
  rw [Pm.mul_inv, Pm.mul_inv, Pm.bk_inv, Pm.bk_inv, Pm.mul_assoc, Pm.mul_assoc, ← Pm.bk_of_mul, ← Pm.bk_of_mul]
  rw [show (C.R ((C.R (t.inv b)).to (t.inv a))).mul (C.R (t.inv b)) = (C.R ((C.R (t.inv a)).to (t.inv b))).mul (C.R (t.inv a)) from Pm.ext fun k => C.law _ _ k]
theorem tak_of {a : Nat} {t u : Pm n} (h : C.add a u = t) : C.tak a t = u := by rw [← h, tak_add]
theorem add_of {a : Nat} {t u : Pm n} (h : C.tak a u = t) : C.add a t = u := by rw [← h, add_tak]
theorem tak_comm' (a b : Nat) (t : Pm n) : C.tak a (C.add b t) = C.add b (C.tak a t) := C.tak_of (by rw [add_comm, add_tak])
theorem tak_comm (a b : Nat) (t : Pm n) : C.tak a (C.tak b t) = C.tak b (C.tak a t) := C.tak_of (by rw [← tak_comm', add_tak])
def itr {α : Type} (f : α → α) : Nat → α → α
  | 0, x => x
  | m + 1, x => f (itr f m x)
theorem itr_comm {α : Type} {f g : α → α} (h : ∀ x, f (g x) = g (f x)) : ∀ m x, itr f m (g x) = g (itr f m x)
  | 0, _ => rfl
  | m + 1, x => by
    show f (itr f m (g x)) = g (f (itr f m x))
    rw [itr_comm h m x, h]
theorem itr_succ {α : Type} {f : α → α} (m : Nat) (x : α) : itr f (m + 1) x = itr f m (f x) := (itr_comm (fun _ => rfl) m x).symm
def pw (a : Nat) (k : Int) (t : Pm n) : Pm n := itr (if 0 < k then C.add a else C.tak a) k.natAbs t
theorem pw_zero (a : Nat) (t : Pm n) : C.pw a 0 t = t := rfl
theorem pw_add (a : Nat) (k : Int) (t : Pm n) : C.pw a (k + 1) t = C.add a (C.pw a k t) := by
  unfold pw
  by_cases h : 0 ≤ k
  · rw [if_pos (by omega), show (k + 1).natAbs = k.natAbs + 1 by omega]
    by_cases h0 : k = 0
    · subst h0; rfl
    · rw [if_pos (by omega)]; rfl
  · rw [if_neg (by omega), if_neg (by omega), show k.natAbs = (k + 1).natAbs + 1 by omega]
    show _ = C.add a (C.tak a _)
    rw [add_tak]
theorem pw_comm (a b : Nat) (k : Int) (t : Pm n) : C.pw b k (C.add a t) = C.add a (C.pw b k t) := by
  unfold pw
  by_cases h : 0 < k
  · rw [if_pos h]
    exact itr_comm (fun x => C.add_comm b a x) _ _
  · rw [if_neg h]
    exact itr_comm (fun x => C.tak_comm' b a x) _ _
/-- the turn at a bag -/
def Tb (b : Nat → Int) : Nat → Pm n → Pm n
  | 0, t => t
  | m + 1, t => C.pw m (b m) (Tb b m t)
def upd (b : Nat → Int) (a : Nat) (v : Int) : Nat → Int := fun i => if i = a then v else b i
theorem Tb_congr {b c : Nat → Int} : ∀ {m : Nat}, (∀ i, i < m → b i = c i) → ∀ t, C.Tb b m t = C.Tb c m t
  | 0, _, _ => rfl
  | m + 1, h, t => by
    show C.pw m (b m) (C.Tb b m t) = _
    rw [h m (by omega), Tb_congr (fun i hi => h i (by omega)) t]
    rfl
theorem Tb_add {b : Nat → Int} {a : Nat} : ∀ {m : Nat}, a < m → ∀ t, C.Tb (upd b a (b a + 1)) m t = C.add a (C.Tb b m t)
  | 0, h, _ => absurd h (by omega)
  | m + 1, h, t => by
    show C.pw m (upd b a (b a + 1) m) _ = C.add a (C.pw m (b m) _)
    by_cases e : a = m
    · subst e
      rw [show upd b a (b a + 1) a = b a + 1 from if_pos rfl, pw_add]
      rw [C.Tb_congr (b := upd b a (b a + 1)) (c := b) (m := a) (fun i hi => if_neg (by omega)) t]
    · rw [show upd b a (b a + 1) m = b m from if_neg (Ne.symm e), Tb_add (by omega) t, pw_comm]
theorem Tb_tak {b : Nat → Int} {a m : Nat} (h : a < m) (t : Pm n) : C.Tb (upd b a (b a - 1)) m t = C.tak a (C.Tb b m t) := by
  refine (C.tak_of ?_).symm
  rw [← C.Tb_add h]
  refine C.Tb_congr (fun i hi => ?_) t
  unfold upd
  by_cases e : i = a
  · subst e
    rw [if_pos rfl, if_pos rfl]
    omega
  · rw [if_neg e, if_neg e]
theorem Tb_zero : ∀ {m : Nat} {b : Nat → Int}, (∀ i, i < m → b i = 0) → ∀ t, C.Tb b m t = t
  | 0, _, _, _ => rfl
  | m + 1, b, h, t => by
    show C.pw m (b m) _ = _
    rw [h m (by omega), pw_zero, Tb_zero (fun i hi => h i (by omega)) t]
end CS
/-! ### walks: bags with turns -/
structure St (n : Nat) where
  b : Nat → Int
  t : Pm n
namespace St
variable {n : Nat}
theorem ext {s u : St n} (h : ∀ j, s.b j = u.b j) (h2 : s.t = u.t) : s = u := by
  obtain ⟨a, b⟩ := s
  obtain ⟨c, d⟩ := u
  have : a = c := funext h
  subst this
  cases h2
  rfl
def one : St n := ⟨fun _ => 0, .one⟩
def mul (s u : St n) : St n := ⟨fun j => s.b j + u.b (s.t.inv j), s.t.mul u.t⟩
theorem mul_assoc (s u v : St n) : (s.mul u).mul v = s.mul (u.mul v) := ext (fun j => by
  show s.b j + u.b (s.t.inv j) + v.b (u.t.inv (s.t.inv j)) = s.b j + (u.b (s.t.inv j) + v.b (u.t.inv (s.t.inv j)))
  omega) rfl
theorem one_mul (s : St n) : one.mul s = s := ext (fun j => by show (0 : Int) + s.b j = _; omega) rfl
theorem mul_one (s : St n) : s.mul one = s := ext (fun j => by show s.b j + (0 : Int) = _; omega) rfl
end St
def one1 (i : Nat) : Nat → Int := fun j => if j = i then 1 else 0
namespace CS
variable {n : Nat} (C : CS n)
def gen (i : Nat) : St n := ⟨one1 i, (C.R i).bk⟩
def gin (i : Nat) : St n := ⟨fun j => - one1 (C.r i i) j, C.R i⟩
/-- a letter, or a letter taken back -/
def let1 (v : Int) : St n := if 0 ≤ v then C.gen v.toNat else C.gin (-1 - v).toNat
def prod (w : List Int) : St n := w.foldr (fun v s => (C.let1 v).mul s) St.one
theorem prod_app (v w : List Int) : C.prod (v ++ w) = (C.prod v).mul (C.prod w) := by
  induction v with
  | nil => exact (St.one_mul _).symm
  | cons a v ih =>
    show (C.let1 a).mul (C.prod (v ++ w)) = ((C.let1 a).mul (C.prod v)).mul (C.prod w)
    rw [ih, St.mul_assoc]
theorem prod_one (v : Int) : C.prod [v] = C.let1 v := St.mul_one _
theorem prod_cons (v : Int) (w : List Int) : C.prod (v :: w) = (C.let1 v).mul (C.prod w) := rfl
theorem prod_snoc (w : List Int) (v : Int) : C.prod (w ++ [v]) = (C.prod w).mul (C.let1 v) := by rw [prod_app, prod_one]
/-- the letters of a word -/
def okw (n : Nat) (v : Int) : Prop := -(n : Int) ≤ v ∧ v < n
theorem Tb_mul {s : St n} {v : Int} (hv : okw n v) (h : C.Tb s.b n .one = s.t) : C.Tb (s.mul (C.let1 v)).b n .one = (s.mul (C.let1 v)).t := by
  obtain ⟨h1, h2⟩ := hv
  unfold let1
  by_cases h0 : 0 ≤ v
  · rw [if_pos h0]
    have e := C.Tb_add (b := s.b) (a := s.t.to v.toNat) (m := n) (s.t.lt (by omega)) .one
    rw [h] at e
    have e2 : C.add (s.t.to v.toNat) s.t = s.t.mul (C.R v.toNat).bk := by unfold add; rw [s.t.l]
    rw [e2] at e
    refine (C.Tb_congr (fun i _ => ?_) _).trans e
    show s.b i + one1 _ (s.t.inv i) = upd _ _ _ _
    unfold one1 upd
    by_cases q : i = s.t.to v.toNat
    · rw [if_pos q, if_pos (by rw [q, s.t.l]), q]
    · rw [if_neg q, if_neg (fun z => q (by rw [← z, s.t.r])), Int.add_zero]
  · rw [if_neg h0]
    have hl : (-1 - v).toNat < n := by omega
    have e := C.Tb_tak (b := s.b) (a := s.t.to (C.r (-1 - v).toNat (-1 - v).toNat)) (m := n) (s.t.lt (C.lt hl)) .one
    rw [h] at e
    have e2 : C.tak (s.t.to (C.r (-1 - v).toNat (-1 - v).toNat)) s.t = s.t.mul (C.R (-1 - v).toNat) := by unfold tak; rw [s.t.l, show C.S (C.r (-1 - v).toNat (-1 - v).toNat) = _ from C.s2 _]
    rw [e2] at e
    refine (C.Tb_congr (fun i _ => ?_) _).trans e
    show s.b i + - one1 _ (s.t.inv i) = upd _ _ _ _
    unfold one1 upd
    by_cases q : i = s.t.to (C.r (-1 - v).toNat (-1 - v).toNat)
    · rw [if_pos q, if_pos (by rw [q, s.t.l]), q]
      rfl
    · rw [if_neg q, if_neg (fun z => q (by rw [← z, s.t.r]))]
      omega
/-- the turn of a walk is told by its bag -/
theorem Tb_prod {w : List Int} (hw : ∀ v ∈ w, okw n v) : C.Tb (C.prod w).b n .one = (C.prod w).t := by
  have key : ∀ (w : List Int) (s : St n), (∀ v ∈ w, okw n v) → C.Tb s.b n .one = s.t → C.Tb (s.mul (C.prod w)).b n .one = (s.mul (C.prod w)).t := by
    intro w
    induction w with
    | nil => intro s _ h; rw [show C.prod [] = St.one from rfl, St.mul_one]; exact h
    | cons v w ih =>
      intro s hw h
      rw [prod_cons, ← St.mul_assoc]
      exact ih _ (fun v hv => hw v (List.mem_cons_of_mem _ hv)) (C.Tb_mul (hw _ List.mem_cons_self) h)
  have := key w St.one hw (C.Tb_zero (fun _ _ => rfl) _)
  rw [St.one_mul] at this
  exact this
/-- how far a bag can come -/
theorem prod_big (w : List Int) : ∀ j, -(w.length : Int) ≤ (C.prod w).b j ∧ (C.prod w).b j ≤ w.length := by
  induction w with
  | nil => intro j; exact ⟨Int.le_refl _, Int.le_refl _⟩
  | cons v w ih =>
    intro j
    have h := ih ((C.let1 v).t.inv j)
    have h1 : -1 ≤ (C.let1 v).b j ∧ (C.let1 v).b j ≤ 1 := by
      unfold let1
      split
      · show -1 ≤ one1 _ j ∧ one1 _ j ≤ 1
        unfold one1
        split <;> omega
      · show -1 ≤ -one1 _ j ∧ -one1 _ j ≤ 1
        unfold one1
        split <;> omega
    have e : (C.prod (v :: w)).b j = (C.let1 v).b j + (C.prod w).b ((C.let1 v).t.inv j) := rfl
    rw [e, List.length_cons]
    omega
/-- two letters led past one another -/
theorem swap2 (i k : Nat) : (C.gen i).mul (C.gen (C.r i k)) = (C.gen k).mul (C.gen (C.r k i)) := St.ext (fun j => by
  show one1 i j + one1 (C.r i k) ((C.R i).to j) = one1 k j + one1 (C.r k i) ((C.R k).to j)
  have e1 : one1 (C.r i k) ((C.R i).to j) = one1 k j := by
    unfold one1
    by_cases q : j = k
    · rw [if_pos q, if_pos (by rw [q]; rfl)]
    · rw [if_neg q, if_neg fun (z : (C.R i).to j = C.r i k) => q ((C.R i).inj z)]
  have e2 : one1 (C.r k i) ((C.R k).to j) = one1 i j := by
    unfold one1
    by_cases q : j = i
    · rw [if_pos q, if_pos (by rw [q]; rfl)]
    · rw [if_neg q, if_neg fun (z : (C.R k).to j = C.r k i) => q ((C.R k).inj z)]
  rw [e1, e2]
  omega) (by
  show (C.R i).bk.mul (C.R (C.r i k)).bk = (C.R k).bk.mul (C.R (C.r k i)).bk
  rw [← Pm.bk_of_mul, ← Pm.bk_of_mul]
  congr 1
  exact Pm.ext fun j => C.law i k j)
theorem let1_nat (i : Nat) : C.let1 (i : Int) = C.gen i := by
  unfold let1
  rw [if_pos (Int.natCast_nonneg _), Int.toNat_natCast]
theorem swapped_prod (u v : List Int) (i k : Nat) : C.prod (u ++ [(i : Int), (C.r i k : Nat)] ++ v) = C.prod (u ++ [(k : Int), (C.r k i : Nat)] ++ v) := by
  have e : C.prod [(i : Int), (C.r i k : Nat)] = C.prod [(k : Int), (C.r k i : Nat)] := by
    have p2 : ∀ a b : Int, C.prod [a, b] = (C.let1 a).mul (C.let1 b) := fun a b => by
      show (C.let1 a).mul ((C.let1 b).mul St.one) = _
      rw [St.mul_one]
    rw [p2, p2, let1_nat, let1_nat, let1_nat, let1_nat, swap2]
  rw [prod_app, prod_app, prod_app, prod_app, e]
/-! ### renamed -/
def ren (p : Pm n) : CS n where
  R i := (p.mul (C.R (p.inv i))).mul p.bk
  ro i h j := by
    show p.to ((C.R (p.inv i)).to (p.inv j)) = j
    rw [p.oi h, C.ro i h, p.r]
  law i j k := by
    show p.to ((C.R (p.inv (p.to ((C.R (p.inv i)).to (p.inv j))))).to (p.inv (p.to ((C.R (p.inv i)).to (p.inv k))))) = p.to ((C.R (p.inv (p.to ((C.R (p.inv j)).to (p.inv i))))).to (p.inv (p.to ((C.R (p.inv j)).to (p.inv k)))))
    rw [p.l, p.l, p.l, p.l, C.law]
  S i := p.to (C.S (p.inv i))
  s1 i := by
    show p.to ((C.R (p.inv (p.to (C.S (p.inv i))))).to (p.inv (p.to (C.S (p.inv i))))) = i
    rw [p.l, C.s1, p.r]
  s2 i := by
    show p.to (C.S (p.inv (p.to ((C.R (p.inv i)).to (p.inv i))))) = i
    rw [p.l, C.s2, p.r]
theorem ren_r (p : Pm n) (i j : Nat) : (C.ren p).r i j = p.to (C.r (p.inv i) (p.inv j)) := rfl
end CS
theorem iL_sq' {n : Nat} (g : Nat → Int) : iL (sq n g) = sq n fun i => .int (g i) := by unfold iL; rw [sq_map]
/-! ### how many things -/
def tot (b : Nat → Int) : Nat → Nat
  | 0 => 0
  | m + 1 => tot b m + (b m).natAbs
theorem tot_congr {b c : Nat → Int} : ∀ {m : Nat}, (∀ i, i < m → b i = c i) → tot b m = tot c m
  | 0, _ => rfl
  | m + 1, h => by
    show tot b m + (b m).natAbs = tot c m + (c m).natAbs
    rw [tot_congr fun i hi => h i (by omega), h m (by omega)]
theorem tot_upd {b : Nat → Int} {a : Nat} {v : Int} : ∀ {m : Nat}, a < m → tot (CS.upd b a v) m + (b a).natAbs = tot b m + v.natAbs
  | 0, h => absurd h (by omega)
  | m + 1, h => by
    show tot (CS.upd b a v) m + (CS.upd b a v m).natAbs + _ = tot b m + (b m).natAbs + _
    by_cases e : a = m
    · subst e
      rw [show CS.upd b a v a = v from if_pos rfl, tot_congr (b := CS.upd b a v) (c := b) (m := a) fun i hi => if_neg (by omega)]
      omega
    · rw [show CS.upd b a v m = b m from if_neg (Ne.symm e)]
      have := tot_upd (b := b) (v := v) (show a < m by omega)
      omega
theorem tot_zero {b : Nat → Int} : ∀ {m : Nat}, tot b m = 0 → ∀ i, i < m → b i = 0
  | 0, _, i, hi => absurd hi (by omega)
  | m + 1, h, i, hi => by
    have h : tot b m + (b m).natAbs = 0 := h
    by_cases e : i = m
    · subst e
      omega
    · exact tot_zero (m := m) (by omega) i (by omega)
theorem tot_pos {b : Nat → Int} {m : Nat} (h : 0 < tot b m) : ∃ i, i < m ∧ b i ≠ 0 := Classical.byContradiction fun z => by
  have e : tot b m = tot (fun _ => 0) m := tot_congr fun i hi => Classical.byContradiction fun y => z ⟨i, hi, y⟩
  have e2 : ∀ m, tot (fun _ => 0) m = 0 := fun m => by
    induction m with
    | zero => rfl
    | succ m ih => show tot (fun _ => 0) m + (0 : Int).natAbs = 0; rw [ih]; rfl
  rw [e, e2] at h
  omega
theorem tot_le {b : Nat → Int} {K : Nat} : ∀ {m : Nat}, (∀ i, i < m → (b i).natAbs ≤ K) → tot b m ≤ m * K
  | 0, _ => Nat.zero_le _
  | m + 1, h => by
    show tot b m + (b m).natAbs ≤ _
    have h1 := tot_le (m := m) (b := b) fun i hi => h i (by omega)
    have h2 := h m (by omega)
    rw [Nat.succ_mul]
    omega
theorem sum_abs (b : Nat → Int) : ∀ m, (sq m fun i => if b i < 0 then -b i else b i).sum = (tot b m : Int)
  | 0 => rfl
  | m + 1 => by
    rw [sq_succ, List.sum_append, sum_abs b m]
    show (tot b m : Int) + ((if b m < 0 then -b m else b m) + 0) = ((tot b m + (b m).natAbs : Nat) : Int)
    split <;> omega
theorem fsum_abs {b : Nat → Int} {m : Nat} : F_sum [.list (sq m fun i => .int (if b i < 0 then -b i else b i))] = some (nI (tot b m)) := by
  rw [← iL_sq']
  show (match intsOf (iL _) with | some ns => some (PyData.int ns.sum) | none => none) = _
  rw [intsOf_ints]
  show some (PyData.int (List.sum _)) = _
  rw [sum_abs]
end SW
set_option Elab.async false
set_option linter.all false
set_option maxRecDepth 100000
set_option maxHeartbeats 2000000
/-! SWCt: turns and cycle sets as data. -/
namespace SW
open PySem L2
theorem iL_sq {n : Nat} (g : Nat → Int) : iL (sq n g) = sq n fun i => .int (g i) := by unfold iL; rw [sq_map]
theorem row_T {n : Nat} (f : Nat → Nat) : row n f = T (sq n fun i => (f i : Int)) := by
  show _ = PyData.tuple (iL _)
  rw [iL_sq]
  rfl
theorem sqi_getD {n : Nat} {g : Nat → Int} {i : Nat} (h : i < n) : (sq n g).getD i 0 = g i := by
  rw [List.getD_eq_getElem?_getD, sq_at h]
  rfl
theorem pm_tn {n : Nat} (p : Pm n) : Tn n (sq n fun i => (p.to i : Int)) := tn_of sq_len (fun i hi => by rw [sqi_getD hi]; have := p.lt hi; omega) (fun v hv => ⟨p.inv v, p.lti hv, by rw [sqi_getD (p.lti hv), p.r]⟩) fun i j hi hj e => by
  rw [sqi_getD hi, sqi_getD hj] at e
  exact p.inj (by omega)
theorem upto_sq (n : Nat) : upto n = sq n fun i => ((i : Nat) : Int) := rfl
theorem sorted_row {n : Nat} (p : Pm n) : F_sorted [row n p.to] = some (.list (rng n)) := by
  rw [row_T]
  show (match intsOf (iL _) with | some ns => some (PyData.list ((isort ns).map .int)) | none => none) = _
  rw [intsOf_ints]
  show some (PyData.list ((isort _).map .int)) = _
  rw [← isort_eq (pm_tn p).symm (upto_sorted n), ← iL_upto]
  rfl
theorem eq_rng (n : Nat) : F_eq [.list (rng n), .list (rng n)] = some (.bool true) := by
  rw [← iL_upto, eq_ints, decide_eq_true rfl]
theorem all_sq {n : Nat} (f : Nat → Bool) : F_all [.list (sq n fun i => .bool (f i))] = some (.bool ((List.range n).all f)) := by
  have e : (sq n fun i => PyData.bool (f i)) = (List.range n).map fun i => .bool (f i) := rfl
  show (match boolsOf (sq n fun i => .bool (f i)) with | some bs => some (PyData.bool (bs.all id)) | none => none) = _
  have e2 : ∀ l : List Nat, boolsOf (l.map fun i => .bool (f i)) = some (l.map f) := by
    intro l
    induction l with
    | nil => rfl
    | cons a l ih =>
      rw [List.map_cons]
      unfold boolsOf
      rw [ih]
      rfl
  rw [e, e2]
  simp [List.all_map, Function.comp_def]
theorem all_true {n : Nat} : F_all [.list (sq n fun _ => .bool true)] = some (.bool true) := by
  rw [all_sq fun _ => true]
  simp
theorem all_map {xs : List D} (f : D → Bool) : F_all [.list (xs.map fun d => .bool (f d))] = some (.bool (xs.all f)) := all_bools xs f
theorem eq_nI (i j : Nat) : F_eq [nI i, nI j] = some (.bool (decide (i = j))) := by
  rw [eq_int]
  congr 2
  exact decide_eq_decide.mpr ⟨fun h => by omega, fun h => by omega⟩
theorem ne_nI (i j : Nat) : F_ne [nI i, nI j] = some (.bool (!decide (i = j))) := by
  rw [ne_int]
  congr 3
  exact decide_eq_decide.mpr ⟨fun h => by omega, fun h => by omega⟩
theorem eq_self (i : Int) : F_eq [.int i, .int i] = some (.bool true) := by rw [eq_int, decide_eq_true rfl]
theorem ne_self (i : Int) : F_ne [.int i, .int i] = some (.bool false) := by rw [ne_int, decide_eq_true rfl]; rfl
theorem idx_row {n : Nat} (p : Pm n) {v : Nat} (h : v < n) : F_idxT [row n p.to, nI v] = some (nI (p.inv v)) := by
  rw [row_T]
  exact idx_ok (pm_tn p).nodup (by rw [sq_at (p.lti h), p.r])
theorem idxW_row {n : Nat} (p : Pm n) {v : Nat} (h : v < n) : idxW (row n p.to) (nI v) = pu (nI (p.inv v)) := by
  show opt (F_idxT [row n p.to, nI v]) = _
  rw [idx_row p h]
  rfl
theorem idx_lst {n : Nat} (p : Pm n) {v : Nat} (h : v < n) : F_idxL [.list (sq n fun i => nI (p.to i)), nI v] = some (nI (p.inv v)) := by
  have e : (sq n fun i => nI (p.to i)) = iL (sq n fun i => (p.to i : Int)) := (iL_sq _).symm
  rw [e]
  show F_index [.list (iL _), .int _] = _
  show (if (SeqAt.shaped (.list (iL _)) && SeqAt.shaped (.int _)) = true then (match findD (.int _) (iL _) 0 with | some j => some (PyData.int (j : Nat)) | none => none) else none) = _
  rw [shaped_ints, shaped_int, findD_at (pm_tn p).nodup (show (sq n fun i => (p.to i : Int))[p.inv v]? = some (v : Int) by rw [sq_at (p.lti h), p.r]), Nat.zero_add]
  rfl
theorem idxW_lst {n : Nat} (p : Pm n) {v : Nat} (h : v < n) : idxW (.list (sq n fun i => nI (p.to i))) (nI v) = pu (nI (p.inv v)) := by
  show opt (F_idxL [.list (sq n fun i => nI (p.to i)), nI v]) = _
  rw [idx_lst p h]
  rfl
/-- a turn from the list of a law -/
theorem pm_of {n : Nat} {t : List Int} (h : Tn n t) : ∃ p : Pm n, T t = row n p.to := by
  have hl := h.len
  let f : Nat → Nat := fun i => if i < n then (t.getD i 0).toNat else i
  have hf : ∀ i, i < n → ((f i : Nat) : Int) = t.getD i 0 ∧ f i < n := fun i hi => by
    have := h.at hi
    show ((if i < n then (t.getD i 0).toNat else i : Nat) : Int) = _ ∧ (if i < n then (t.getD i 0).toNat else i) < n
    rw [if_pos hi]
    omega
  have ho : ∀ i, n ≤ i → f i = i := fun i hi => if_neg (by omega)
  have hs : ∀ v, ∃ i, f i = v := fun v => by
    by_cases hv : v < n
    · obtain ⟨i, hi, e⟩ := h.surj hv
      exact ⟨i, by have := (hf i hi).1; omega⟩
    · exact ⟨v, ho v (by omega)⟩
  have hi : ∀ i j, f i = f j → i = j := fun i j e => by
    by_cases h1 : i < n
    · by_cases h2 : j < n
      · exact h.inj h1 h2 (by rw [← (hf i h1).1, ← (hf j h2).1, e])
      · rw [ho j (by omega)] at e
        have := (hf i h1).2
        omega
    · rw [ho i (by omega)] at e
      by_cases h2 : j < n
      · have := (hf j h2).2
        omega
      · rw [ho j (by omega)] at e
        exact e
  let g : Nat → Nat := fun v => (hs v).choose
  have hg : ∀ v, f (g v) = v := fun v => (hs v).choose_spec
  refine ⟨⟨f, g, fun i => hi _ _ (hg (f i)), hg, ho⟩, ?_⟩
  rw [row_T]
  congr 2
  refine sq_ext hl fun i hi => ?_
  rw [getD_at (by omega), (hf i hi).1]
/-! ### lists put together -/
theorem sq_app {α : Type} {n m : Nat} {g h : Nat → α} : sq n g ++ sq m h = sq (n + m) fun i => if i < n then g i else h (i - n) := by
  refine sq_ext (by simp) fun i hi => ?_
  by_cases e : i < n
  · rw [List.getElem?_append_left (by simpa using e), sq_at e, if_pos e]
  · rw [List.getElem?_append_right (by simpa using e), sq_len, sq_at (by omega), if_neg e]
theorem rgDs {a b : Int} (h : a ≤ b) : rgD a b = sq (b - a).toNat fun i => .int (a + i) := by
  unfold rgD sq
  rfl
/-! ### beside -/
def besP {n m : Nat} (p : Pm n) : Pm (n + m) := ⟨p.to, p.inv, p.l, p.r, fun i h => p.o i (by omega)⟩
def besQ {n m : Nat} (q : Pm m) : Pm (n + m) where
  to i := if i < n then i else n + q.to (i - n)
  inv i := if i < n then i else n + q.inv (i - n)
  l i := by
    by_cases h : i < n
    · simp only [if_pos h]
    · simp only [if_neg h, if_neg (show ¬ n + q.to (i - n) < n by omega), show n + q.to (i - n) - n = q.to (i - n) by omega, q.l]
      omega
  r i := by
    by_cases h : i < n
    · simp only [if_pos h]
    · simp only [if_neg h, if_neg (show ¬ n + q.inv (i - n) < n by omega), show n + q.inv (i - n) - n = q.inv (i - n) by omega, q.r]
      omega
  o i h := by
    simp only [if_neg (show ¬ i < n by omega), q.o (i - n) (by omega)]
    omega
def bes {n m : Nat} (A : CS n) (B : CS m) : CS (n + m) where
  R i := if i < n then besP (A.R i) else besQ (B.R (i - n))
  ro i h j := by
    rw [if_neg (by omega)]
    show (if j < n then j else n + (B.R (i - n)).to (j - n)) = j
    by_cases e : j < n
    · rw [if_pos e]
    · rw [if_neg e, B.ro _ (by omega)]
      omega
  law i j k := by
    have a1 : ∀ (x y : Nat), (besP (m := m) (A.R x)).to y = (A.R x).to y := fun _ _ => rfl
    have b1 : ∀ (x y : Nat), y < n → (besQ (n := n) (B.R x)).to y = y := fun x y h => if_pos h
    have b2 : ∀ (x y : Nat), ¬ y < n → (besQ (n := n) (B.R x)).to y = n + (B.R x).to (y - n) := fun x y h => if_neg h
    by_cases hi : i < n
    · by_cases hj : j < n
      · simp only [if_pos hi, if_pos hj, a1, if_pos ((A.R i).lt hj), if_pos ((A.R j).lt hi)]
        exact A.law i j k
      · simp only [if_pos hi, if_neg hj, a1, b1 _ _ hi, (A.R i).o j (by omega)]
        by_cases hk : k < n
        · simp only [b1 _ _ ((A.R i).lt hk), b1 _ _ hk]
        · have e : (A.R i).to (n + (B.R (j - n)).to (k - n)) = n + (B.R (j - n)).to (k - n) := (A.R i).o _ (by omega)
          simp only [(A.R i).o k (by omega), b2 _ _ hk, e]
    · by_cases hj : j < n
      · simp only [if_neg hi, if_pos hj, a1, b1 _ _ hj, (A.R j).o i (by omega)]
        by_cases hk : k < n
        · simp only [b1 _ _ ((A.R j).lt hk), b1 _ _ hk]
        · have e : (A.R j).to (n + (B.R (i - n)).to (k - n)) = n + (B.R (i - n)).to (k - n) := (A.R j).o _ (by omega)
          simp only [(A.R j).o k (by omega), b2 _ _ hk, e]
      · have e1 : ¬ n + (B.R (i - n)).to (j - n) < n := by omega
        have e2 : ¬ n + (B.R (j - n)).to (i - n) < n := by omega
        simp only [if_neg hi, if_neg hj, b2 _ _ hj, b2 _ _ hi, if_neg e1, if_neg e2, Nat.add_sub_cancel_left]
        by_cases hk : k < n
        · simp only [b1 _ _ hk]
        · have e3 : ¬ n + (B.R (i - n)).to (k - n) < n := by omega
          have e4 : ¬ n + (B.R (j - n)).to (k - n) < n := by omega
          simp only [b2 _ _ hk, b2 _ _ e3, b2 _ _ e4, Nat.add_sub_cancel_left]
          rw [B.law]
  S i := if i < n then A.S i else n + B.S (i - n)
  s1 i := by
    by_cases h : i < n
    · rw [if_pos h, if_pos (A.slt h)]
      exact A.s1 i
    · rw [if_neg h, if_neg (by omega)]
      show (if n + B.S (i - n) < n then _ else n + (B.R (n + B.S (i - n) - n)).to (n + B.S (i - n) - n)) = i
      rw [if_neg (by omega), Nat.add_sub_cancel_left, B.s1]
      omega
  s2 i := by
    by_cases h : i < n
    · rw [if_pos h]
      show (if (A.R i).to i < n then A.S ((A.R i).to i) else _) = i
      rw [if_pos ((A.R i).lt h), A.s2]
    · rw [if_neg h]
      show (if (if i < n then i else n + (B.R (i - n)).to (i - n)) < n then _ else n + B.S ((if i < n then i else n + (B.R (i - n)).to (i - n)) - n)) = i
      rw [if_neg h, if_neg (by omega), Nat.add_sub_cancel_left, B.s2]
      omega
theorem bes_r {n m : Nat} (A : CS n) (B : CS m) (i j : Nat) : (bes A B).r i j = if i < n then A.r i j else if j < n then j else n + B.r (i - n) (j - n) := by
  show (if i < n then besP (A.R i) else besQ (B.R (i - n))).to j = _
  by_cases h : i < n
  · rw [if_pos h, if_pos h]
    rfl
  · rw [if_neg h, if_neg h]
    rfl
end SW
set_option Elab.async false
set_option linter.all false
set_option maxRecDepth 100000
set_option maxHeartbeats 2000000
/-! SWCk: the sets of the stock. -/
namespace SW
open PySem L2
def kf (M : List (List Nat)) (i j : Nat) : Nat := if i < M.length ∧ j < M.length then (M.getD i []).getD j 0 else j
def kg (M : List (List Nat)) (i j : Nat) : Nat := if i < M.length ∧ j < M.length then (M.getD i []).idxOf j else j
def ks (M : List (List Nat)) (i : Nat) : Nat := if i < M.length then ((List.range M.length).map fun x => kf M x x).idxOf i else i
def allN (n : Nat) (p : Nat → Bool) : Bool := (List.range n).all p
theorem allN_at {n : Nat} {p : Nat → Bool} (h : allN n p = true) {i : Nat} (hi : i < n) : p i = true := List.all_eq_true.mp h i (List.mem_range.mpr hi)
def okM (M : List (List Nat)) : Bool := (allN M.length fun i => allN M.length fun j => decide (kg M i (kf M i j) = j) && (decide (kf M i (kg M i j) = j))) &&
  ((allN M.length fun i => allN M.length fun j => allN M.length fun k => decide (kf M (kf M i j) (kf M i k) = kf M (kf M j i) (kf M j k))) &&
  (allN M.length fun i => decide (kf M (ks M i) (ks M i) = i) && (decide (ks M (kf M i i) = i) && decide (ks M i < M.length))))
section
variable {M : List (List Nat)}
theorem kf_i {i j : Nat} (h : M.length ≤ i) : kf M i j = j := if_neg (by omega)
theorem kf_j {i j : Nat} (h : M.length ≤ j) : kf M i j = j := if_neg (by omega)
theorem kg_i {i j : Nat} (h : M.length ≤ i) : kg M i j = j := if_neg (by omega)
theorem kg_j {i j : Nat} (h : M.length ≤ j) : kg M i j = j := if_neg (by omega)
theorem ok1 (h : okM M = true) (i j : Nat) : kg M i (kf M i j) = j ∧ kf M i (kg M i j) = j := by
  by_cases hi : i < M.length
  · by_cases hj : j < M.length
    · unfold okM at h
      rw [Bool.and_eq_true] at h
      have := allN_at (allN_at h.1 hi) hj
      rw [Bool.and_eq_true, decide_eq_true_eq, decide_eq_true_eq] at this
      exact this
    · rw [kf_j (by omega), kg_j (by omega), kf_j (by omega)]
      exact ⟨rfl, rfl⟩
  · rw [kf_i (by omega), kg_i (by omega), kf_i (by omega)]
    exact ⟨rfl, rfl⟩
theorem ok2 (h : okM M = true) (i j k : Nat) : kf M (kf M i j) (kf M i k) = kf M (kf M j i) (kf M j k) := by
  by_cases hi : i < M.length
  · by_cases hj : j < M.length
    · by_cases hk : k < M.length
      · unfold okM at h
        rw [Bool.and_eq_true, Bool.and_eq_true] at h
        exact of_decide_eq_true (allN_at (allN_at (allN_at h.2.1 hi) hj) hk)
      · simp only [kf_j (show M.length ≤ k by omega)]
    · simp only [kf_j (show M.length ≤ j by omega), kf_i (show M.length ≤ j by omega)]
  · simp only [kf_j (show M.length ≤ i by omega), kf_i (show M.length ≤ i by omega)]
theorem ok3 (h : okM M = true) (i : Nat) : kf M (ks M i) (ks M i) = i ∧ ks M (kf M i i) = i := by
  by_cases hi : i < M.length
  · unfold okM at h
    rw [Bool.and_eq_true, Bool.and_eq_true] at h
    have := allN_at h.2.2 hi
    rw [Bool.and_eq_true, Bool.and_eq_true, decide_eq_true_eq, decide_eq_true_eq] at this
    exact ⟨this.1, this.2.1⟩
  · have e : ks M i = i := if_neg hi
    rw [e, kf_i (by omega), e]
    exact ⟨rfl, rfl⟩
def csM (h : okM M = true) : CS M.length where
  R i := ⟨kf M i, kg M i, fun j => (ok1 h i j).1, fun j => (ok1 h i j).2, fun j hj => kf_j hj⟩
  ro i hi j := kf_i hi
  law i j k := ok2 h i j k
  S := ks M
  s1 i := (ok3 h i).1
  s2 i := (ok3 h i).2
end
def stockN : List (List (List Nat)) := [[[0]], [[0, 1], [0, 1]], [[1, 0], [1, 0]], [[0, 1, 2], [0, 1, 2], [1, 0, 2]], [[1, 2, 0], [1, 2, 0], [1, 2, 0]], [[1, 0, 2], [1, 0, 2], [0, 1, 2]], [[0, 1, 3, 2], [3, 2, 0, 1], [2, 3, 1, 0], [1, 0, 2, 3]]]
theorem stockN_eq : stock.map Mx = stockN.map fun M => tab M.length (kf M) := by kernel_rfl
theorem stockN_ok : (stockN.all fun M => okM M && (decide (1 ≤ M.length) && decide (M.length ≤ 4))) = true := by kernel_rfl
theorem stock_cs {d : D} (h : d ∈ stock.map Mx) : ∃ n, ∃ C : CS n, 1 ≤ n ∧ n ≤ 4 ∧ d = tab n C.r := by
  rw [stockN_eq] at h
  obtain ⟨M, hM, rfl⟩ := List.mem_map.mp h
  have h1 := List.all_eq_true.mp stockN_ok M hM
  rw [Bool.and_eq_true, Bool.and_eq_true, decide_eq_true_eq, decide_eq_true_eq] at h1
  exact ⟨M.length, csM h1.1, h1.2.1, h1.2.2, rfl⟩
end SW
set_option Elab.async false
set_option linter.all false
set_option maxRecDepth 100000
set_option maxHeartbeats 2000000
/-! SWCg: the group of the bags. Plain. -/
namespace SW
open PySem L2
namespace St
variable {n : Nat}
def inv (s : St n) : St n := ⟨fun j => -s.b (s.t.to j), s.t.bk⟩
theorem inv_mul (s : St n) : s.inv.mul s = one := ext (fun j => by
  show -s.b (s.t.to j) + s.b (s.t.to j) = 0
  omega) (Pm.bk_mul _)
theorem mul_inv (s : St n) : s.mul s.inv = one := ext (fun j => by
  show s.b j + -s.b (s.t.to (s.t.inv j)) = 0
  rw [s.t.r]
  omega) (Pm.mul_bk _)
theorem inv_eq {s u : St n} (h : u.mul s = one) : u = s.inv := by
  rw [← mul_one u, ← mul_inv s, ← mul_assoc, h, one_mul]
theorem inv_inv (s : St n) : s.inv.inv = s := (inv_eq (mul_inv s)).symm
theorem mul_inv_rev (s u : St n) : (s.mul u).inv = u.inv.mul s.inv := (inv_eq (by rw [mul_assoc, ← mul_assoc s.inv, inv_mul, one_mul, inv_mul])).symm
theorem inv_one : (one : St n).inv = one := (inv_eq (mul_one _)).symm
def powN (s : St n) : Nat → St n
  | 0 => one
  | m + 1 => (powN s m).mul s
def powZ (s : St n) (e : Int) : St n := powN (if 0 ≤ e then s else s.inv) e.natAbs
theorem powN_comm (s : St n) : ∀ m, s.mul (powN s m) = (powN s m).mul s
  | 0 => by show s.mul one = one.mul s; rw [mul_one, one_mul]
  | m + 1 => by
    show s.mul ((powN s m).mul s) = ((powN s m).mul s).mul s
    rw [← mul_assoc, powN_comm]
theorem powN_add (s : St n) (k : Nat) : ∀ m, powN s (k + m) = (powN s k).mul (powN s m)
  | 0 => (mul_one _).symm
  | m + 1 => by
    show (powN s (k + m)).mul s = (powN s k).mul ((powN s m).mul s)
    rw [powN_add, mul_assoc]
end St
namespace CS
variable {n : Nat} (C : CS n)
theorem mul_add (t u : Pm n) (a : Nat) : t.mul (C.add a u) = C.add (t.to a) (t.mul u) := by
  unfold add
  rw [Pm.mul_inv, t.l, Pm.mul_assoc]
theorem mul_tak (t u : Pm n) (a : Nat) : t.mul (C.tak a u) = C.tak (t.to a) (t.mul u) := by
  unfold tak
  rw [Pm.mul_inv, t.l, Pm.mul_assoc]
theorem mul_itr {t : Pm n} {f g : Pm n → Pm n} (h : ∀ u, t.mul (f u) = g (t.mul u)) : ∀ m u, t.mul (itr f m u) = itr g m (t.mul u)
  | 0, _ => rfl
  | m + 1, u => by
    show t.mul (f _) = g _
    rw [h, mul_itr h]
theorem mul_pw (t u : Pm n) (a : Nat) (k : Int) : t.mul (C.pw a k u) = C.pw (t.to a) k (t.mul u) := by
  unfold pw
  by_cases h : 0 < k
  · rw [if_pos h, if_pos h]
    exact mul_itr (fun u => C.mul_add t u a) _ _
  · rw [if_neg h, if_neg h]
    exact mul_itr (fun u => C.mul_tak t u a) _ _
theorem upd_upd (b : Nat → Int) (a : Nat) (v w : Int) : upd (upd b a v) a w = upd b a w := funext fun i => by
  unfold upd
  split <;> rfl
theorem upd_same (b : Nat → Int) (a : Nat) : upd b a (b a) = b := funext fun i => by
  unfold upd
  split
  · rename_i h; rw [h]
  · rfl
theorem Tb_pw {b : Nat → Int} {a m : Nat} (h : a < m) (k : Int) (t : Pm n) : C.Tb (upd b a (b a + k)) m t = C.pw a k (C.Tb b m t) := by
  have hp : ∀ j : Nat, C.Tb (upd b a (b a + (j : Int))) m t = C.pw a (j : Int) (C.Tb b m t) := fun j => by
    induction j with
    | zero =>
      rw [show b a + ((0 : Nat) : Int) = b a by omega, upd_same]
      rfl
    | succ j ih =>
      have e := C.Tb_add (b := upd b a (b a + (j : Int))) h t
      rw [upd_upd, show upd b a (b a + (j : Int)) a = b a + j from if_pos rfl, ih] at e
      rw [show b a + ((j + 1 : Nat) : Int) = b a + (j : Int) + 1 by omega, e, show ((j + 1 : Nat) : Int) = (j : Int) + 1 by omega, pw_add]
  have hn : ∀ j : Nat, C.Tb (upd b a (b a + -(j : Int))) m t = C.pw a (-(j : Int)) (C.Tb b m t) := fun j => by
    induction j with
    | zero =>
      rw [show b a + -((0 : Nat) : Int) = b a by omega, upd_same]
      rfl
    | succ j ih =>
      have e := C.Tb_tak (b := upd b a (b a + -(j : Int))) h t
      rw [upd_upd, show upd b a (b a + -(j : Int)) a = b a + -j from if_pos rfl, ih] at e
      rw [show b a + -((j + 1 : Nat) : Int) = b a + -(j : Int) - 1 by omega, e]
      exact C.tak_of (by rw [← pw_add]; congr 1; omega)
  by_cases q : 0 ≤ k
  · have := hp k.toNat
    rw [show ((k.toNat : Nat) : Int) = k by omega] at this
    exact this
  · have := hn (-k).toNat
    rw [show -(((-k).toNat : Nat) : Int) = k by omega] at this
    exact this
/-- the turn at a bag of n letters -/
def T (b : Nat → Int) : Pm n := C.Tb b n .one
theorem T_congr {b c : Nat → Int} (h : ∀ i, i < n → b i = c i) : C.T b = C.T c := C.Tb_congr h _
/-- the turn at a product of bags -/
theorem T_act (b c : Nat → Int) : C.T (fun j => b j + c ((C.T b).inv j)) = (C.T b).mul (C.T c) := by
  have key : ∀ m, m ≤ n → C.T (fun j => b j + (if (C.T b).inv j < m then c ((C.T b).inv j) else 0)) = (C.T b).mul (C.Tb c m .one) := by
    intro m
    induction m with
    | zero =>
      intro _
      show _ = (C.T b).mul .one
      rw [Pm.mul_one]
      exact C.T_congr fun i _ => by rw [if_neg (by omega)]; omega
    | succ m ih =>
      intro hm
      show _ = (C.T b).mul (C.pw m (c m) (C.Tb c m .one))
      rw [mul_pw, ← ih (by omega)]
      have e := C.Tb_pw (b := fun j => b j + (if (C.T b).inv j < m then c ((C.T b).inv j) else 0)) ((C.T b).lt (show m < n by omega)) (c m) .one
      refine Eq.trans (C.Tb_congr (fun i _ => ?_) _) e
      unfold upd
      by_cases q : i = (C.T b).to m
      · rw [if_pos q, q, (C.T b).l, if_pos (by omega), if_neg (by omega)]
        omega
      · rw [if_neg q]
        have q2 : (C.T b).inv i ≠ m := fun z => q (by rw [← z, (C.T b).r])
        by_cases z : (C.T b).inv i < m
        · simp only [if_pos z, if_pos (show (C.T b).inv i < m + 1 by omega)]
        · simp only [if_neg z, if_neg (show ¬ (C.T b).inv i < m + 1 by omega)]
  refine Eq.trans ?_ (key n (Nat.le_refl _))
  exact C.T_congr fun i hi => by rw [if_pos ((C.T b).lti hi)]
theorem T_zero {b : Nat → Int} (h : ∀ i, i < n → b i = 0) : C.T b = .one := C.Tb_zero h _
/-- a bag with its turn -/
def gb (b : Nat → Int) : St n := ⟨b, C.T b⟩
theorem gb_mul (b c : Nat → Int) : (C.gb b).mul (C.gb c) = C.gb fun j => b j + c ((C.T b).inv j) := St.ext (fun _ => rfl) (C.T_act b c).symm
theorem gb_one : C.gb (fun _ => 0) = St.one := St.ext (fun _ => rfl) (C.T_zero fun _ _ => rfl)
theorem gb_inv (b : Nat → Int) : (C.gb b).inv = C.gb fun j => -b ((C.T b).to j) := St.ext (fun _ => rfl) (by
  have e := C.T_act b fun j => -b ((C.T b).to j)
  rw [C.T_zero fun i _ => by show b i + -b ((C.T b).to ((C.T b).inv i)) = 0; rw [(C.T b).r]; omega] at e
  show (C.T b).bk = _
  rw [← Pm.mul_one (C.T b).bk, e, ← Pm.mul_assoc, Pm.bk_mul, Pm.one_mul]
  rfl)
/-- what a bag tells in full -/
def G (s : St n) : Prop := C.gb s.b = s
theorem G.gb (b : Nat → Int) : C.G (C.gb b) := rfl
theorem G.mul {s u : St n} (h : C.G s) (h2 : C.G u) : C.G (s.mul u) := by
  have e : s.mul u = (C.gb s.b).mul (C.gb u.b) := by rw [show C.gb s.b = s from h, show C.gb u.b = u from h2]
  rw [e, gb_mul]
  rfl
theorem G.inv {s : St n} (h : C.G s) : C.G s.inv := by
  have e : s.inv = (C.gb s.b).inv := by rw [show C.gb s.b = s from h]
  rw [e, gb_inv]
  rfl
theorem G.one : C.G St.one := C.gb_one
theorem gb_pow (b : Nat → Int) : ∀ m, ∃ c, (C.gb b).powN m = C.gb c
  | 0 => ⟨fun _ => 0, (C.gb_one).symm⟩
  | m + 1 => by
    obtain ⟨c, e⟩ := gb_pow b m
    exact ⟨fun j => c j + b ((C.T c).inv j), by
      show ((C.gb b).powN m).mul (C.gb b) = _
      rw [e, gb_mul]⟩
theorem gb_prod {w : List Int} (hw : ∀ v ∈ w, okw n v) : C.gb (C.prod w).b = C.prod w := St.ext (fun _ => rfl) (C.Tb_prod hw)
theorem let1_back (v : Int) : C.let1 (-1 - v) = (C.let1 v).inv := by
  have hg : ∀ i, (C.gen i).inv = C.gin i := fun i => St.ext (fun j => by
    show -one1 i ((C.R i).inv j) = -one1 (C.r i i) j
    unfold one1
    by_cases q : j = C.r i i
    · rw [if_pos q, if_pos (by rw [q]; exact (C.R i).l i)]
    · rw [if_neg q, if_neg fun z => q (by rw [← (C.R i).r j, z]; rfl)]) rfl
  unfold let1
  by_cases h : 0 ≤ v
  · rw [if_neg (by omega), if_pos h, show (-1 - (-1 - v)).toNat = v.toNat by omega, hg]
  · rw [if_pos (by omega), if_neg h, ← hg, St.inv_inv]
def wback (w : List Int) : List Int := w.reverse.map fun v => -1 - v
theorem wback_len (w : List Int) : (wback w).length = w.length := by unfold wback; rw [List.length_map, List.length_reverse]
theorem wback_ok {w : List Int} (h : ∀ v ∈ w, okw n v) : ∀ v ∈ wback w, okw n v := fun v hv => by
  obtain ⟨u, hu, rfl⟩ := List.mem_map.mp hv
  obtain ⟨h1, h2⟩ := h u (List.mem_reverse.mp hu)
  exact ⟨by omega, by omega⟩
theorem prod_back (w : List Int) : C.prod (wback w) = (C.prod w).inv := by
  induction w with
  | nil => exact St.inv_one.symm
  | cons v w ih =>
    have e : wback (v :: w) = wback w ++ [-1 - v] := by unfold wback; rw [List.reverse_cons, List.map_append]; rfl
    rw [e, prod_snoc, ih, prod_cons, St.mul_inv_rev, let1_back]
def wrep (w : List Int) : Nat → List Int
  | 0 => []
  | m + 1 => wrep w m ++ w
theorem wrep_len (w : List Int) : ∀ m, (wrep w m).length = m * w.length
  | 0 => by show 0 = 0 * _; omega
  | m + 1 => by show (wrep w m ++ w).length = _; rw [List.length_append, wrep_len, Nat.succ_mul]
theorem wrep_ok {w : List Int} (h : ∀ v ∈ w, okw n v) : ∀ m, ∀ v ∈ wrep w m, okw n v
  | 0, _, hv => nomatch hv
  | m + 1, v, hv => (List.mem_append.mp hv).elim (wrep_ok h m v) (h v)
theorem prod_rep (w : List Int) : ∀ m, C.prod (wrep w m) = (C.prod w).powN m
  | 0 => rfl
  | m + 1 => by
    show C.prod (wrep w m ++ w) = ((C.prod w).powN m).mul (C.prod w)
    rw [prod_app, prod_rep]
theorem wrep_eq (w : List Int) : ∀ m, wrep w m = (List.replicate m w).flatten
  | 0 => rfl
  | m + 1 => by
    show wrep w m ++ w = _
    rw [List.replicate_succ', List.flatten_concat, wrep_eq]
end CS
end SW
set_option Elab.async false
set_option linter.all false
set_option maxRecDepth 100000
set_option maxHeartbeats 2000000
/-! SWCw: words by place; laid rows. Plain. -/
namespace SW
open PySem L2
namespace CS
variable {n : Nat} (C : CS n)
/-- the turn ahead of place k -/
def tt (w : Nat → Nat) : Nat → Pm n
  | 0 => .one
  | k + 1 => (tt w k).mul (C.R (w k)).bk
def laid (w : Nat → Nat) (k : Nat) : Nat := (C.tt w k).to (w k)
theorem tt_congr {w v : Nat → Nat} : ∀ {k : Nat}, (∀ i, i < k → w i = v i) → C.tt w k = C.tt v k
  | 0, _ => rfl
  | k + 1, h => by
    show (C.tt w k).mul _ = (C.tt v k).mul _
    rw [tt_congr fun i hi => h i (by omega), h k (by omega)]
theorem laid_congr {w v : Nat → Nat} {k : Nat} (h : ∀ i, i ≤ k → w i = v i) : C.laid w k = C.laid v k := by
  unfold laid
  rw [C.tt_congr fun i hi => h i (by omega), h k (Nat.le_refl _)]
theorem laid_lt {w : Nat → Nat} {k : Nat} (h : w k < n) : C.laid w k < n := (C.tt w k).lt h
theorem tt_back (w : Nat → Nat) (k : Nat) (L : Nat) : (C.R (w k)).inv ((C.tt w (k + 1)).inv L) = (C.tt w k).inv L := by
  show (C.R (w k)).inv ((C.R (w k)).to ((C.tt w k).inv L)) = _
  rw [(C.R (w k)).l]
/-- the word of a laid row, and its turns -/
def wl (l : Nat → Nat) : Nat → Nat × Pm n
  | 0 => ((Pm.one : Pm n).inv (l 0), .one)
  | k + 1 => (((wl l k).2.mul (C.R (wl l k).1).bk).inv (l (k + 1)), (wl l k).2.mul (C.R (wl l k).1).bk)
def wof (l : Nat → Nat) (k : Nat) : Nat := (C.wl l k).1
theorem wl_tt (l : Nat → Nat) : ∀ k, (C.wl l k).2 = C.tt (C.wof l) k
  | 0 => rfl
  | k + 1 => by
    show (C.wl l k).2.mul (C.R (C.wl l k).1).bk = (C.tt (C.wof l) k).mul (C.R (C.wof l k)).bk
    rw [wl_tt l k]
    rfl
theorem wof_eq (l : Nat → Nat) : ∀ k, C.wof l k = (C.tt (C.wof l) k).inv (l k)
  | 0 => rfl
  | k + 1 => by
    show ((C.wl l k).2.mul (C.R (C.wl l k).1).bk).inv (l (k + 1)) = _
    rw [wl_tt]
    rfl
theorem laid_wof (l : Nat → Nat) (k : Nat) : C.laid (C.wof l) k = l k := by
  unfold laid
  rw [C.wof_eq l k, (C.tt (C.wof l) k).r]
theorem wof_laid (w : Nat → Nat) : ∀ k, C.wof (C.laid w) k = w k := by
  have key : ∀ k, ∀ i, i < k → C.wof (C.laid w) i = w i := by
    intro k
    induction k with
    | zero => intro i hi; omega
    | succ k ih =>
      intro i hi
      by_cases h : i < k
      · exact ih i h
      · have e : i = k := by omega
        subst e
        rw [wof_eq, C.tt_congr ih]
        exact (C.tt w i).l _
  exact fun k => key (k + 1) k (by omega)
theorem wof_lt {l : Nat → Nat} {k : Nat} (h : l k < n) : C.wof l k < n := by
  rw [wof_eq]
  exact (C.tt _ k).lti h
theorem wof_congr {l l' : Nat → Nat} : ∀ k, (∀ i, i ≤ k → l i = l' i) → C.wl l k = C.wl l' k
  | 0, h => by
    show ((Pm.one : Pm n).inv (l 0), Pm.one) = ((Pm.one : Pm n).inv (l' 0), Pm.one)
    rw [h 0 (Nat.le_refl _)]
  | k + 1, h => by
    show (((C.wl l k).2.mul (C.R (C.wl l k).1).bk).inv (l (k + 1)), (C.wl l k).2.mul (C.R (C.wl l k).1).bk) = (((C.wl l' k).2.mul (C.R (C.wl l' k).1).bk).inv (l' (k + 1)), (C.wl l' k).2.mul (C.R (C.wl l' k).1).bk)
    rw [wof_congr k fun i hi => h i (by omega), h (k + 1) (Nat.le_refl _)]
/-- a letter, its square, .. -/
def sqs (x : Nat) : Nat → Nat
  | 0 => x
  | k + 1 => C.r (sqs x k) (sqs x k)
theorem sqs_lt {x : Nat} (h : x < n) : ∀ k, C.sqs x k < n
  | 0 => h
  | k + 1 => C.lt (sqs_lt h k)
theorem laid_sqs (x : Nat) : ∀ k, C.laid (C.sqs x) k = x
  | 0 => rfl
  | k + 1 => by
    show (C.tt (C.sqs x) k).to ((C.R (C.sqs x k)).inv ((C.R (C.sqs x k)).to (C.sqs x k))) = x
    rw [(C.R (C.sqs x k)).l]
    exact laid_sqs x k
theorem wof_const (x : Nat) (k : Nat) : C.wof (fun _ => x) k = C.sqs x k := by
  rw [← C.wof_laid (C.sqs x) k, show C.laid (C.sqs x) = fun _ => x from funext (C.laid_sqs x)]
end CS
theorem nats_of {n : Nat} {e : Nat → D} {P : Nat → Prop} (h : ∀ i, i < n → ∃ v, P v ∧ e i = nI v) : ∃ b : Nat → Nat, (sq n e = sq n fun i => nI (b i)) ∧ ∀ i, i < n → P (b i) := by
  refine ⟨fun i => match e i with | .int v => v.toNat | _ => 0, sq_congr fun i hi => ?_, fun i hi => ?_⟩
  · obtain ⟨v, _, e1⟩ := h i hi
    simp only [e1, Int.toNat_natCast]
  · obtain ⟨v, hv, e1⟩ := h i hi
    simp only [e1, Int.toNat_natCast]
    exact hv
theorem zip_le {n m : Nat} {g h : Nat → D} (hm : m ≤ n) : zipD (sq n g) (sq m h) = sq m fun i => .tuple [g i, h i] := by
  refine sq_ext (by rw [@zipD_len ⟨[], 0⟩, sq_len, sq_len]; omega) fun i hi => ?_
  have h1 : i < (sq n g).length := by rw [sq_len]; omega
  have h2 : i < (sq m h).length := by rw [sq_len]; exact hi
  rw [@zipD_at ⟨[], 0⟩ _ _ _ h1 h2]
  have e1 := sq_at (g := g) (show i < n by omega)
  have e2 := sq_at (g := h) hi
  rw [List.getElem?_eq_getElem h1] at e1
  rw [List.getElem?_eq_getElem h2] at e2
  rw [Option.some.inj e1, Option.some.inj e2]
theorem take_sq {α : Type} {n k : Nat} {g : Nat → α} (h : k ≤ n) : (sq n g).take k = sq k g := by
  refine sq_ext (by rw [List.length_take, sq_len]; omega) fun i hi => ?_
  rw [List.getElem?_take, if_pos hi, sq_at (by omega)]
theorem drop_sq {α : Type} {n k : Nat} {g : Nat → α} : (sq n g).drop k = sq (n - k) fun i => g (k + i) := by
  refine sq_ext (by rw [List.length_drop, sq_len]) fun i hi => ?_
  rw [List.getElem?_drop, sq_at (by omega)]
theorem sl_row {n k : Nat} {f : Nat → Nat} (h : k ≤ n) : F_sl (row n f) none (some (k : Int)) = some (row k f) := by
  show F_sl (.tuple (sq n fun i => nI (f i))) _ _ = _
  rw [f_slT_to (Int.natCast_nonneg _) (by rw [sq_len]; omega), Int.toNat_natCast, take_sq h]
  rfl
theorem row_snoc {n : Nat} {f : Nat → Nat} {v : Nat} (h : n + 1 ≤ 16777216) : F_add [row n f, .tuple [nI v]] = some (row (n + 1) fun k => if k < n then f k else v) := by
  show F_add [.tuple (sq n fun i => nI (f i)), .tuple [nI v]] = _
  rw [f_addT (le_sz (by rw [sq_len]; exact h))]
  show some (PyData.tuple _) = some (PyData.tuple _)
  rw [sq_succ]
  congr 3
  · exact sq_congr fun i hi => by simp only [if_pos hi]
  · simp only [if_neg (Nat.lt_irrefl n)]
theorem neL_nil : F_ne [.list [], .list []] = some (.bool false) := by kernel_rfl
end SW
set_option Elab.async false
set_option linter.all false
set_option maxRecDepth 100000
set_option maxHeartbeats 4000000
namespace SW
open PySem PySem.Spec PyProof.Rows L2
def top (i : Nat) : Stmt := PySem.Challenge.pw_swapsagree_k15_whole_laid_rows.main.body.getD i (.Pass ⟨0, 0, 0, 0⟩)
abbrev st_is_whole : Stmt := top 6
abbrev st_need_whole : Stmt := top 7
abbrev st_is_tuple_of : Stmt := top 8
abbrev st_is_turn : Stmt := top 12
abbrev st_joined_of : Stmt := top 13
abbrev st_back_of : Stmt := top 14
abbrev st_plain_of : Stmt := top 15
abbrev st_are_turn_rows : Stmt := top 17
abbrev st_first_unlike : Stmt := top 18
abbrev st_is_cycle_set : Stmt := top 19
abbrev st_need_cycle_set : Stmt := top 20
abbrev st_is_word_of : Stmt := top 23
abbrev st_need_word : Stmt := top 24
abbrev st_letter_adding : Stmt := top 25
abbrev st_turns_of : Stmt := top 27
abbrev st_laid_of : Stmt := top 28
abbrev st_word_of_laid : Stmt := top 29
abbrev st_laid_row : Stmt := top 30
abbrev st_word_laid : Stmt := top 31
abbrev st_turns_along : Stmt := top 32
abbrev st_frozen_word : Stmt := top 33
abbrev st__law_cup : Stmt := top 35
abbrev st__law_roll : Stmt := top 36
abbrev st__law_some : Stmt := top 37
abbrev st__law_sort : Stmt := top 38
abbrev st__law_like : Stmt := top 39
abbrev st__law_error : Stmt := top 40
abbrev st__law_turn : Stmt := top 41
abbrev st__law_stock : Stmt := top 42
abbrev st__law_beside : Stmt := top 43
abbrev st__law_renamed : Stmt := top 44
abbrev st__law_rows : Stmt := top 45
abbrev st__law_pair : Stmt := top 46
abbrev st__law_word : Stmt := top 47
abbrev st__law_front : Stmt := top 48
abbrev st__law_laid : Stmt := top 49
abbrev st__law_ahead : Stmt := top 50
abbrev st__law_words_right : Stmt := top 51
abbrev st__law_limits_right : Stmt := top 52
abbrev st_law : Stmt := top 53
abbrev dd_is_whole : He.DefD := ⟨("is_whole", none), "is_whole", "is_whole", defArgs st_is_whole, defBody st_is_whole, defScope st_is_whole, [], []⟩
abbrev dd_need_whole : He.DefD := ⟨("need_whole", none), "need_whole", "need_whole", defArgs st_need_whole, defBody st_need_whole, defScope st_need_whole, [], []⟩
abbrev dd_is_tuple_of : He.DefD := ⟨("is_tuple_of", none), "is_tuple_of", "is_tuple_of", defArgs st_is_tuple_of, defBody st_is_tuple_of, defScope st_is_tuple_of, [], []⟩
abbrev dd_is_turn : He.DefD := ⟨("is_turn", none), "is_turn", "is_turn", defArgs st_is_turn, defBody st_is_turn, defScope st_is_turn, [], []⟩
abbrev dd_joined_of : He.DefD := ⟨("joined_of", none), "joined_of", "joined_of", defArgs st_joined_of, defBody st_joined_of, defScope st_joined_of, [], []⟩
abbrev dd_back_of : He.DefD := ⟨("back_of", none), "back_of", "back_of", defArgs st_back_of, defBody st_back_of, defScope st_back_of, [], []⟩
abbrev dd_plain_of : He.DefD := ⟨("plain_of", none), "plain_of", "plain_of", defArgs st_plain_of, defBody st_plain_of, defScope st_plain_of, [], []⟩
abbrev dd_are_turn_rows : He.DefD := ⟨("are_turn_rows", none), "are_turn_rows", "are_turn_rows", defArgs st_are_turn_rows, defBody st_are_turn_rows, defScope st_are_turn_rows, [], []⟩
abbrev dd_first_unlike : He.DefD := ⟨("first_unlike", none), "first_unlike", "first_unlike", defArgs st_first_unlike, defBody st_first_unlike, defScope st_first_unlike, [], []⟩
abbrev dd_is_cycle_set : He.DefD := ⟨("is_cycle_set", none), "is_cycle_set", "is_cycle_set", defArgs st_is_cycle_set, defBody st_is_cycle_set, defScope st_is_cycle_set, [], []⟩
abbrev dd_need_cycle_set : He.DefD := ⟨("need_cycle_set", none), "need_cycle_set", "need_cycle_set", defArgs st_need_cycle_set, defBody st_need_cycle_set, defScope st_need_cycle_set, [], []⟩
abbrev dd_is_word_of : He.DefD := ⟨("is_word_of", none), "is_word_of", "is_word_of", defArgs st_is_word_of, defBody st_is_word_of, defScope st_is_word_of, [], []⟩
abbrev dd_need_word : He.DefD := ⟨("need_word", none), "need_word", "need_word", defArgs st_need_word, defBody st_need_word, defScope st_need_word, [], []⟩
abbrev dd_letter_adding : He.DefD := ⟨("letter_adding", none), "letter_adding", "letter_adding", defArgs st_letter_adding, defBody st_letter_adding, defScope st_letter_adding, [], []⟩
abbrev dd_turns_of : He.DefD := ⟨("turns_of", none), "turns_of", "turns_of", defArgs st_turns_of, defBody st_turns_of, defScope st_turns_of, [], []⟩
abbrev dd_laid_of : He.DefD := ⟨("laid_of", none), "laid_of", "laid_of", defArgs st_laid_of, defBody st_laid_of, defScope st_laid_of, [], []⟩
abbrev dd_word_of_laid : He.DefD := ⟨("word_of_laid", none), "word_of_laid", "word_of_laid", defArgs st_word_of_laid, defBody st_word_of_laid, defScope st_word_of_laid, [], []⟩
abbrev dd_laid_row : He.DefD := ⟨("laid_row", none), "laid_row", "laid_row", defArgs st_laid_row, defBody st_laid_row, defScope st_laid_row, [], []⟩
abbrev dd_word_laid : He.DefD := ⟨("word_laid", none), "word_laid", "word_laid", defArgs st_word_laid, defBody st_word_laid, defScope st_word_laid, [], []⟩
abbrev dd_turns_along : He.DefD := ⟨("turns_along", none), "turns_along", "turns_along", defArgs st_turns_along, defBody st_turns_along, defScope st_turns_along, [], []⟩
abbrev dd_frozen_word : He.DefD := ⟨("frozen_word", none), "frozen_word", "frozen_word", defArgs st_frozen_word, defBody st_frozen_word, defScope st_frozen_word, [], []⟩
abbrev dd__law_cup : He.DefD := ⟨("_law_cup", none), "_law_cup", "_law_cup", defArgs st__law_cup, defBody st__law_cup, defScope st__law_cup, [], []⟩
abbrev dd__law_roll : He.DefD := ⟨("_law_roll", none), "_law_roll", "_law_roll", defArgs st__law_roll, defBody st__law_roll, defScope st__law_roll, [], []⟩
abbrev dd__law_some : He.DefD := ⟨("_law_some", none), "_law_some", "_law_some", defArgs st__law_some, defBody st__law_some, defScope st__law_some, [], []⟩
abbrev dd__law_sort : He.DefD := ⟨("_law_sort", none), "_law_sort", "_law_sort", defArgs st__law_sort, defBody st__law_sort, defScope st__law_sort, [], []⟩
abbrev dd__law_like : He.DefD := ⟨("_law_like", none), "_law_like", "_law_like", defArgs st__law_like, defBody st__law_like, defScope st__law_like, [], []⟩
abbrev dd__law_error : He.DefD := ⟨("_law_error", none), "_law_error", "_law_error", defArgs st__law_error, defBody st__law_error, defScope st__law_error, [], []⟩
abbrev dd__law_turn : He.DefD := ⟨("_law_turn", none), "_law_turn", "_law_turn", defArgs st__law_turn, defBody st__law_turn, defScope st__law_turn, [], []⟩
abbrev dd__law_stock : He.DefD := ⟨("_law_stock", none), "_law_stock", "_law_stock", defArgs st__law_stock, defBody st__law_stock, defScope st__law_stock, [], []⟩
abbrev dd__law_beside : He.DefD := ⟨("_law_beside", none), "_law_beside", "_law_beside", defArgs st__law_beside, defBody st__law_beside, defScope st__law_beside, [], []⟩
abbrev dd__law_renamed : He.DefD := ⟨("_law_renamed", none), "_law_renamed", "_law_renamed", defArgs st__law_renamed, defBody st__law_renamed, defScope st__law_renamed, [], []⟩
abbrev dd__law_rows : He.DefD := ⟨("_law_rows", none), "_law_rows", "_law_rows", defArgs st__law_rows, defBody st__law_rows, defScope st__law_rows, [], []⟩
abbrev dd__law_pair : He.DefD := ⟨("_law_pair", none), "_law_pair", "_law_pair", defArgs st__law_pair, defBody st__law_pair, defScope st__law_pair, [], []⟩
abbrev dd__law_word : He.DefD := ⟨("_law_word", none), "_law_word", "_law_word", defArgs st__law_word, defBody st__law_word, defScope st__law_word, [], []⟩
abbrev dd__law_front : He.DefD := ⟨("_law_front", none), "_law_front", "_law_front", defArgs st__law_front, defBody st__law_front, defScope st__law_front, [], []⟩
abbrev dd__law_laid : He.DefD := ⟨("_law_laid", none), "_law_laid", "_law_laid", defArgs st__law_laid, defBody st__law_laid, defScope st__law_laid, [], []⟩
abbrev dd__law_ahead : He.DefD := ⟨("_law_ahead", none), "_law_ahead", "_law_ahead", defArgs st__law_ahead, defBody st__law_ahead, defScope st__law_ahead, [], []⟩
abbrev dd__law_words_right : He.DefD := ⟨("_law_words_right", none), "_law_words_right", "_law_words_right", defArgs st__law_words_right, defBody st__law_words_right, defScope st__law_words_right, [], []⟩
abbrev dd__law_limits_right : He.DefD := ⟨("_law_limits_right", none), "_law_limits_right", "_law_limits_right", defArgs st__law_limits_right, defBody st__law_limits_right, defScope st__law_limits_right, [], []⟩
abbrev dd_law : He.DefD := ⟨("law", none), "law", "law", defArgs st_law, defBody st_law, defScope st_law, [], []⟩
def fn_0 : List He.DefD := [dd_is_whole, dd_need_whole, dd_is_tuple_of, dd_is_turn, dd_joined_of, dd_back_of, dd_plain_of, dd_are_turn_rows, dd_first_unlike, dd_is_cycle_set, dd_need_cycle_set, dd_is_word_of, dd_need_word, dd_letter_adding, dd_turns_of, dd_laid_of, dd_word_of_laid, dd_laid_row, dd_word_laid, dd_turns_along, dd_frozen_word, dd__law_cup, dd__law_roll, dd__law_some, dd__law_sort, dd__law_like, dd__law_error, dd__law_turn, dd__law_stock, dd__law_beside]
def fn_1 : List He.DefD := [dd__law_renamed, dd__law_rows, dd__law_pair, dd__law_word, dd__law_front, dd__law_laid, dd__law_ahead, dd__law_words_right, dd__law_limits_right, dd_law]
def fn : List He.DefD := fn_0 ++ fn_1
def fa_0 : List He.Fa := [.glo "is_whole", .glo "need_whole", .glo "is_tuple_of", .glo "is_turn", .glo "joined_of", .glo "back_of", .glo "plain_of", .glo "are_turn_rows", .glo "first_unlike", .glo "is_cycle_set", .glo "need_cycle_set", .glo "is_word_of", .glo "need_word", .glo "letter_adding", .glo "turns_of", .glo "laid_of", .glo "word_of_laid", .glo "laid_row", .glo "word_laid", .glo "turns_along", .glo "frozen_word", .glo "_law_cup", .glo "_law_roll", .glo "_law_some", .glo "_law_sort", .glo "_law_like", .glo "_law_error", .glo "_law_turn", .glo "_law_stock", .glo "_law_beside"]
def fa_1 : List He.Fa := [.glo "_law_renamed", .glo "_law_rows", .glo "_law_pair", .glo "_law_word", .glo "_law_front", .glo "_law_laid", .glo "_law_ahead", .glo "_law_words_right", .glo "_law_limits_right", .glo "law", .glo "SwapError", .glo "InvalidNumber", .glo "InvalidCycle", .glo "InvalidWord", .exc "SwapError", .exc "InvalidNumber", .exc "InvalidCycle", .exc "InvalidWord", .int "LETTERS" 16, .int "THINGS" 60, .int "LONG" 60, .free "ValueError", .free "abs", .free "all", .free "bool", .free "enumerate", .free "int", .free "isinstance", .free "len", .free "list"]
def fa_2 : List He.Fa := [.free "range", .free "sorted", .free "str", .free "tuple", .free "zip"]
def fa : List He.Fa := fa_0 ++ fa_1 ++ fa_2
def loose_0 : List Str := ["is_whole", "need_whole", "is_tuple_of", "is_turn", "joined_of", "back_of", "plain_of", "are_turn_rows", "first_unlike", "is_cycle_set", "need_cycle_set", "is_word_of", "need_word", "letter_adding", "turns_of", "laid_of", "word_of_laid", "laid_row", "word_laid", "turns_along", "frozen_word", "_law_cup", "_law_roll", "_law_some", "_law_sort", "_law_like", "_law_error", "_law_turn", "_law_stock", "_law_beside"]
def loose_1 : List Str := ["_law_renamed", "_law_rows", "_law_pair", "_law_word", "_law_front", "_law_laid", "_law_ahead", "_law_words_right", "_law_limits_right", "SwapError", "InvalidNumber", "InvalidCycle", "InvalidWord", "LETTERS", "THINGS", "LONG"]
def loose : List Str := loose_0 ++ loose_1
def tf : List (Str × Option Str) := [("_law_limits_right", none)]
def cls__law_error : List Str := ["SwapError", "InvalidNumber", "InvalidCycle", "InvalidWord"]
def sub__law_error : List (Str × Str) := [("InvalidNumber", "InvalidNumber"), ("InvalidCycle", "InvalidCycle"), ("InvalidWord", "InvalidWord")]
def bs__law_error (y : Ex) : AS :=
  (sSeq (sAsg (aFr (fLst [(aTup [(eC (.str "cycle")), (eIsE 1 (isSub sub__law_error y "InvalidCycle"))]), (aTup [(eC (.str "word")), (eIsE 1 (isSub sub__law_error y "InvalidWord"))]), (aTup [(eC (.str "number")), (eIsE 1 (isSub sub__law_error y "InvalidNumber"))])])) (gNm 2))
    (sSeq (sRet (aMeth .str F_join (.ex (eC (.str ""))) [(.ex (aFr (fComp [3, 4] (iSeqL (eV 2)) (gTupA [(gNm 3), (gNm 4)]) (aT (eV 4)) (eV 3))))]))
    sNx))
def N__law_error : List Str := ["call", "e", "pairs", "word", "is_so"]
def F__law_error : Ex → Option D := tellD cls__law_error bs__law_error 5 1
def w__law_error : D := (.str "none")
def exB (K : PySem.W.Frag) : Bool := kTupB K && (decide ((tf.map fun p => (He.cT K p).2).Nodup) && (tell2B K "SwapError" ["InvalidCycle", "InvalidWord", "InvalidNumber"] cls__law_error sub__law_error))
end SW
set_option Elab.async false
set_option linter.all false
set_option maxRecDepth 100000
set_option maxHeartbeats 4000000
namespace SW
open PySem PySem.Spec PyProof.Rows L2
def N__law_cup : List Str := ["script", "cell"]
def b__law_cup : AS :=
  (sSeq (sAsg (aOps F_abs [(.ex (aOps F_ix [(.ex (aOps F_add [(.ex (aFr (fOps F_list [(.br 0)]))), (.ex (aFr (fLst [(eC (.int 0))])))])), (.ex (eC (.int 0)))]))]) (gNm 1))
    (sSeq (sRetF (fLst [(aIf (aT (aOps F_ge [(.br 1), (.ex (aOps F_pow [(.ex (eC (.int 10))), (.ex (eC (.int 18)))]))])) (aOps F_fdiv [(.br 1), (.ex (eC (.int 311)))]) (eC (.int 0))), (aOps F_mod [(.ex (aOps F_int [(.ex (aOps F_add [(.ex (aOps F_mul [(.br 1), (.ex (eC (.int 1091)))])), (.ex (eC (.int 94033)))]))])), (.ex (eC (.int 1048576)))])]))
    sNx))
def m__law_cup : MF := mkF 2 b__law_cup
def N_is_tuple_of : List Str := ["value", "low", "high"]
def b_is_tuple_of : AS :=
  (sSeq (sRet (aAnd (aOps (F_isi .tuple) [(.br 0)]) (aChain F_le F_le (.br 1) (.ex (aOps F_len [(.br 0)])) (.br 2))))
    sNx)
def m_is_tuple_of : MF := mkF 3 b_is_tuple_of
def N_is_whole : List Str := ["value", "low", "high"]
def b_is_whole : AS :=
  (sSeq (sRet (aAnd (aOps (F_isi .int) [(.br 0)]) (aAnd (aNot (aOps (F_isi .bool) [(.br 0)])) (aChain F_le F_le (.br 1) (.br 0) (.br 2)))))
    sNx)
def m_is_whole : MF := mkF 3 b_is_whole
def N_is_turn : List Str := ["value", "own"]
def b_is_turn : AS :=
  (sSeq (sIf (tOrA (tNotA (aT (aCall m_is_tuple_of [(.br 0), (.ex (eC (.int 1))), (.ex (eC (.int 60)))]))) (tNotA (aT (aOps F_all [(.ex (aFr (fComp [1] (iSeq (eV 0)) (gNm 1) tYes (aCall m_is_whole [(.br 1), (.ex (eC (.int 0))), (.ex (aOps F_sub [(.ex (aOps F_len [(.br 0)])), (.ex (eC (.int 1)))]))]))))])))) (sSeq (sRet (eC (.bool false)))
    sNx) sNx)
    (sSeq (sRet (aOps F_eq [(.ex (aOps F_sorted [(.br 0)])), (.ex (aFr (fRg (aRg1 (aOps F_len [(.br 0)])))))]))
    sNx))
def m_is_turn : MF := mkF 2 b_is_turn
def N_are_turn_rows : List Str := ["value", "row"]
def b_are_turn_rows : AS :=
  (sSeq (sIf (tNotA (aT (aCall m_is_tuple_of [(.br 0), (.ex (eC (.int 1))), (.ex (eC (.int 16)))]))) (sSeq (sRet (eC (.bool false)))
    sNx) sNx)
    (sSeq (sRet (aOps F_all [(.ex (aFr (fComp [1] (iSeq (eV 0)) (gNm 1) tYes (aAnd (aCall m_is_turn [(.br 1)]) (aOps F_eq [(.ex (aOps F_len [(.br 1)])), (.ex (aOps F_len [(.br 0)]))])))))]))
    sNx))
def m_are_turn_rows : MF := mkF 2 b_are_turn_rows
def N_first_unlike : List Str := ["rows", "letters", "one", "other", "first", "second", "last"]
def b_first_unlike : AS :=
  (sSeq (sAsg (aFr (fRg (aRg1 (aOps F_len [(.br 0)])))) (gNm 1))
    (sSeq (sFor (iSeq (eV 1)) (gNm 2) (sSeq (sFor (iSeq (eV 1)) (gNm 3) (sSeq (sPar [4, 5] [(aOps F_ix [(.br 0), (.ex (aOps F_ix [(.ex (aOps F_ix [(.br 0), (.br 2)])), (.br 3)]))]), (aOps F_ix [(.br 0), (.ex (aOps F_ix [(.ex (aOps F_ix [(.br 0), (.br 3)])), (.br 2)]))])])
    (sSeq (sFor (iSeq (eV 1)) (gNm 6) (sSeq (sIf (aT (aOps F_ne [(.ex (aOps F_ix [(.br 4), (.ex (aOps F_ix [(.ex (aOps F_ix [(.br 0), (.br 2)])), (.br 6)]))])), (.ex (aOps F_ix [(.br 5), (.ex (aOps F_ix [(.ex (aOps F_ix [(.br 0), (.br 3)])), (.br 6)]))]))])) (sSeq (sRet (aTup [(eV 2), (eV 3), (eV 6)]))
    sNx) sNx)
    sNx))
    sNx)))
    sNx))
    (sSeq (sRet (eC .none))
    sNx)))
def m_first_unlike : MF := mkF 7 b_first_unlike
def N_is_cycle_set : List Str := ["value"]
def b_is_cycle_set : AS :=
  (sSeq (sRet (aAnd (aCall m_are_turn_rows [(.br 0)]) (aOps F_isN [(.ex (aCall m_first_unlike [(.br 0)]))])))
    sNx)
def m_is_cycle_set : MF := mkF 1 b_is_cycle_set
def N_need_cycle_set : List Str := ["value"]
def b_need_cycle_set : AS :=
  (sSeq (sIf (tNotA (aT (aCall m_is_cycle_set [(.br 0)]))) (sSeq (sRaise "InvalidCycle")
    sNx) sNx)
    sNx)
def m_need_cycle_set : MF := mkF 1 b_need_cycle_set
def N_is_word_of : List Str := ["value", "many", "own"]
def b_is_word_of : AS :=
  (sSeq (sRet (aAnd (aCall m_is_tuple_of [(.br 0), (.ex (eC (.int 0))), (.ex (eC (.int 60)))]) (aOps F_all [(.ex (aFr (fComp [2] (iSeq (eV 0)) (gNm 2) tYes (aCall m_is_whole [(.br 2), (.ex (eC (.int 0))), (.ex (aOps F_sub [(.br 1), (.ex (eC (.int 1)))]))]))))])))
    sNx)
def m_is_word_of : MF := mkF 3 b_is_word_of
def N_need_word : List Str := ["value", "many"]
def b_need_word : AS :=
  (sSeq (sIf (tNotA (aT (aCall m_is_word_of [(.br 0), (.br 1)]))) (sSeq (sRaise "InvalidWord")
    sNx) sNx)
    sNx)
def m_need_word : MF := mkF 2 b_need_word
def N_joined_of : List Str := ["one", "other", "own"]
def b_joined_of : AS :=
  (sSeq (sRet (aOps F_tuple [(.ex (aFr (fComp [2] (iSeq (eV 1)) (gNm 2) tYes (aOps F_ix [(.br 0), (.br 2)]))))]))
    sNx)
def m_joined_of : MF := mkF 3 b_joined_of
def N_back_of : List Str := ["turn", "found", "at", "own"]
def b_back_of : AS :=
  (sSeq (sOwn 1 (fRep (fLst [(eC (.int 0))]) (.ex (aOps F_len [(.br 0)]))))
    (sSeq (sFor (iEnumA (eV 0)) (gTupA [(gNm 2), (gNm 3)]) (sSeq (sAsg (eV 2) (gIx 1 (eV 3)))
    sNx))
    (sSeq (sRet (aOps F_tuple [(.br 1)]))
    sNx)))
def m_back_of : MF := mkF 4 b_back_of
def N_plain_of : List Str := ["many"]
def b_plain_of : AS :=
  (sSeq (sRet (aTupRg (aRg1 (eV 0))))
    sNx)
def m_plain_of : MF := mkF 1 b_plain_of
def N_turns_of : List Str := ["rows", "word", "turn", "found", "own"]
def b_turns_of : AS :=
  (sSeq (sAsg (aCall m_plain_of [(.ex (aOps F_len [(.br 0)]))]) (gNm 2))
    (sSeq (sOwn 3 (fLst [(eV 2)]))
    (sSeq (sFor (iSeq (eV 1)) (gNm 4) (sSeq (sAsg (aCall m_joined_of [(.br 2), (.ex (aCall m_back_of [(.ex (aOps F_ix [(.br 0), (.br 4)]))]))]) (gNm 2))
    (sSeq (sApp 3 (eV 2))
    sNx)))
    (sSeq (sRet (aOps F_tuple [(.br 3)]))
    sNx))))
def m_turns_of : MF := mkF 5 b_turns_of
def N_laid_of : List Str := ["rows", "word", "turn", "own"]
def b_laid_of : AS :=
  (sSeq (sRet (aOps F_tuple [(.ex (aFr (fComp [2, 3] (iZipS [(aCall m_turns_of [(.br 0), (.br 1)]), (eV 1)]) (gTupA [(gNm 2), (gNm 3)]) tYes (aOps F_ix [(.br 2), (.br 3)]))))]))
    sNx)
def m_laid_of : MF := mkF 4 b_laid_of
def N_laid_row : List Str := ["rows", "word"]
def b_laid_row : AS :=
  (sSeq (sDrop (aCall m_need_cycle_set [(.br 0)]))
    (sSeq (sDrop (aCall m_need_word [(.br 1), (.ex (aOps F_len [(.br 0)]))]))
    (sSeq (sRet (aCall m_laid_of [(.br 0), (.br 1)]))
    sNx)))
def m_laid_row : MF := mkF 2 b_laid_row
def N_letter_adding : List Str := ["rows", "turn", "at"]
def b_letter_adding : AS :=
  (sSeq (sRet (aOps F_ix [(.ex (aCall m_back_of [(.br 1)])), (.br 2)]))
    sNx)
def m_letter_adding : MF := mkF 3 b_letter_adding
def N_word_of_laid : List Str := ["rows", "laid", "turn", "found", "at", "own"]
def b_word_of_laid : AS :=
  (sSeq (sPar2 2 3 (.v (aCall m_plain_of [(.ex (aOps F_len [(.br 0)]))])) (.o (fLst [])))
    (sSeq (sFor (iSeq (eV 1)) (gNm 4) (sSeq (sAsg (aCall m_letter_adding [(.br 0), (.br 2), (.br 4)]) (gNm 5))
    (sSeq (sApp 3 (eV 5))
    (sSeq (sAsg (aCall m_joined_of [(.br 2), (.ex (aCall m_back_of [(.ex (aOps F_ix [(.br 0), (.br 5)]))]))]) (gNm 2))
    sNx))))
    (sSeq (sRet (aOps F_tuple [(.br 3)]))
    sNx)))
def m_word_of_laid : MF := mkF 6 b_word_of_laid
def N_word_laid : List Str := ["rows", "laid"]
def b_word_laid : AS :=
  (sSeq (sDrop (aCall m_need_cycle_set [(.br 0)]))
    (sSeq (sDrop (aCall m_need_word [(.br 1), (.ex (aOps F_len [(.br 0)]))]))
    (sSeq (sRet (aCall m_word_of_laid [(.br 0), (.br 1)]))
    sNx)))
def m_word_laid : MF := mkF 2 b_word_laid
def N_turns_along : List Str := ["rows", "word"]
def b_turns_along : AS :=
  (sSeq (sDrop (aCall m_need_cycle_set [(.br 0)]))
    (sSeq (sDrop (aCall m_need_word [(.br 1), (.ex (aOps F_len [(.br 0)]))]))
    (sSeq (sRet (aCall m_turns_of [(.br 0), (.br 1)]))
    sNx)))
def m_turns_along : MF := mkF 2 b_turns_along
def N_need_whole : List Str := ["value", "low", "high"]
def b_need_whole : AS :=
  (sSeq (sIf (tNotA (aT (aCall m_is_whole [(.br 0), (.br 1), (.br 2)]))) (sSeq (sRaise "InvalidNumber")
    sNx) sNx)
    sNx)
def m_need_whole : MF := mkF 3 b_need_whole
def N_frozen_word : List Str := ["rows", "letter", "many"]
def b_frozen_word : AS :=
  (sSeq (sDrop (aCall m_need_cycle_set [(.br 0)]))
    (sSeq (sDrop (aCall m_need_whole [(.br 1), (.ex (eC (.int 0))), (.ex (aOps F_sub [(.ex (aOps F_len [(.br 0)])), (.ex (eC (.int 1)))]))]))
    (sSeq (sDrop (aCall m_need_whole [(.br 2), (.ex (eC (.int 0))), (.ex (eC (.int 60)))]))
    (sSeq (sRet (aCall m_word_of_laid [(.br 0), (.ex (aOps F_mul [(.ex (aTup [(eV 1)])), (.br 2)]))]))
    sNx))))
def m_frozen_word : MF := mkF 3 b_frozen_word
def N__law_roll : List Str := ["cup", "many", "found"]
def b__law_roll : AS :=
  (sSeq (sIf (aT (aOps F_gt [(.ex (aOps F_ix [(.br 0), (.ex (eC (.int 0)))])), (.ex (eC (.int 0)))])) (sSeq (sAsg (aOps F_mod [(.ex (aOps F_int [(.ex (aOps F_ix [(.br 0), (.ex (eC (.int 0)))]))])), (.br 1)]) (gNm 2))
    (sSeq (sAsg (aOps F_fdiv [(.ex (aOps F_ix [(.br 0), (.ex (eC (.int 0)))])), (.br 1)]) (gIx 0 (eC (.int 0))))
    (sSeq (sRet (eV 2))
    sNx))) sNx)
    (sSeq (sAsg (aOps F_mod [(.ex (aOps F_int [(.ex (aOps F_add [(.ex (aOps F_mul [(.ex (aOps F_ix [(.br 0), (.ex (eC (.int 1)))])), (.ex (eC (.int 21269)))])), (.ex (eC (.int 45433)))]))])), (.ex (eC (.int 1048576)))]) (gIx 0 (eC (.int 1))))
    (sSeq (sRet (aOps F_mod [(.ex (aOps F_int [(.ex (aOps F_fdiv [(.ex (aOps F_ix [(.br 0), (.ex (eC (.int 1)))])), (.ex (eC (.int 137)))]))])), (.br 1)]))
    sNx)))
def m__law_roll : MF := mkF 3 b__law_roll
def N__law_some : List Str := ["cup", "things"]
def b__law_some : AS :=
  (sSeq (sRet (aOps F_ix [(.br 1), (.ex (aCall m__law_roll [(.br 0), (.ex (aOps F_len [(.br 1)]))]))]))
    sNx)
def m__law_some : MF := mkF 2 b__law_some
def N__law_sort : List Str := ["value"]
def b__law_sort : AS :=
  (sSeq (sIf (tOrA (aT (aOps F_isN [(.br 0)])) (aT (aOps (F_isi .bool) [(.br 0)]))) (sSeq (sRet (aIf (aT (aOps F_isN [(.br 0)])) (eC (.int 0)) (eC (.int 1))))
    sNx) sNx)
    (sSeq (sIf (tOrA (aT (aOps (F_isi .int) [(.br 0)])) (aT (aOps (F_isi .str) [(.br 0)]))) (sSeq (sRet (aIf (aT (aOps (F_isi .int) [(.br 0)])) (eC (.int 2)) (eC (.int 3))))
    sNx) sNx)
    (sSeq (sRet (aIf (aT (aOps (F_isi .tuple) [(.br 0)])) (eC (.int 4)) (aIf (aT (aOps (F_isi .list) [(.br 0)])) (eC (.int 5)) (eC (.int 6)))))
    sNx)))
def m__law_sort : MF := mkF 1 b__law_sort
def N__law_like : List Str := ["one", "other", "sort", "first", "second"]
def b__law_like (mr : MF) : AS :=
  (sSeq (sAsg (aCall m__law_sort [(.br 1)]) (gNm 2))
    (sSeq (sIf (tOrA (aT (aOps F_ne [(.ex (aCall m__law_sort [(.br 0)])), (.br 2)])) (aT (aOps F_eq [(.br 2), (.ex (eC (.int 6)))]))) (sSeq (sRet (eC (.bool false)))
    sNx) sNx)
    (sSeq (sIf (aT (aOps F_in [(.br 2), (.ex (aTup [(eC (.int 4)), (eC (.int 5))]))])) (sSeq (sRet (aAnd (aOps F_eq [(.ex (aOps F_len [(.br 0)])), (.ex (aOps F_len [(.br 1)]))]) (aOps F_eq [(.ex (aFr (fComp [3, 4] (iZipS [(eV 0), (eV 1)]) (gTupA [(gNm 3), (gNm 4)]) (tNotA (aT (aCall mr [(.br 3), (.br 4)]))) (eC (.int 1))))), (.ex (aFr (fLst [])))])))
    sNx) sNx)
    (sSeq (sRet (aOps F_eq [(.br 0), (.br 1)]))
    sNx))))
def mm__law_like : Nat → MF
  | 0 => fun _ => .bad
  | n + 1 => mkF 5 (b__law_like (mm__law_like n))
def m__law_like : MF := mm__law_like 12
def N__law_turn : List Str := ["cup", "many", "left", "found", "step", "at"]
def b__law_turn : AS :=
  (sSeq (sPar [2, 3] [(aFr (fRg (aRg1 (eV 1)))), (aFr (fLst []))])
    (sSeq (sFor (iRg (aRg1 (eV 1))) (gNm 4) (sSeq (sAsg (aCall m__law_roll [(.br 0), (.ex (aOps F_len [(.br 2)]))]) (gNm 5))
    (sSeq (sAsg (aOps F_add [(.br 3), (.ex (aFr (fLst [(aOps F_ix [(.br 2), (.br 5)])])))]) (gNm 3))
    (sSeq (sAsg (aOps F_add [(.ex (aSl (.br 2) none (some (eV 5)))), (.ex (aSl (.br 2) (some (aOps F_add [(.br 5), (.ex (eC (.int 1)))])) none))]) (gNm 2))
    sNx))))
    (sSeq (sRet (aOps F_tuple [(.br 3)]))
    sNx)))
def m__law_turn : MF := mkF 6 b__law_turn
def N__law_stock : List Str := ["few"]
def b__law_stock : AS :=
  (sSeq (sAsg (aFr (fLst [(aTup [(aTup [(eC (.int 0))])]), (aTup [(aTup [(eC (.int 0)), (eC (.int 1))]), (aTup [(eC (.int 0)), (eC (.int 1))])]), (aTup [(aTup [(eC (.int 1)), (eC (.int 0))]), (aTup [(eC (.int 1)), (eC (.int 0))])]), (aTup [(aTup [(eC (.int 0)), (eC (.int 1)), (eC (.int 2))]), (aTup [(eC (.int 0)), (eC (.int 1)), (eC (.int 2))]), (aTup [(eC (.int 1)), (eC (.int 0)), (eC (.int 2))])]), (aTup [(aTup [(eC (.int 1)), (eC (.int 2)), (eC (.int 0))]), (aTup [(eC (.int 1)), (eC (.int 2)), (eC (.int 0))]), (aTup [(eC (.int 1)), (eC (.int 2)), (eC (.int 0))])])])) (gNm 0))
    (sSeq (sRet (aOps F_add [(.br 0), (.ex (aFr (fLst [(aTup [(aTup [(eC (.int 1)), (eC (.int 0)), (eC (.int 2))]), (aTup [(eC (.int 1)), (eC (.int 0)), (eC (.int 2))]), (aTup [(eC (.int 0)), (eC (.int 1)), (eC (.int 2))])]), (aTup [(aTup [(eC (.int 0)), (eC (.int 1)), (eC (.int 3)), (eC (.int 2))]), (aTup [(eC (.int 3)), (eC (.int 2)), (eC (.int 0)), (eC (.int 1))]), (aTup [(eC (.int 2)), (eC (.int 3)), (eC (.int 1)), (eC (.int 0))]), (aTup [(eC (.int 1)), (eC (.int 0)), (eC (.int 2)), (eC (.int 3))])])])))]))
    sNx))
def m__law_stock : MF := mkF 1 b__law_stock
def N__law_beside : List Str := ["one", "other", "first", "second", "rows", "row", "own"]
def b__law_beside : AS :=
  (sSeq (sAsg (aTup [(aOps F_len [(.br 0)]), (aOps F_len [(.br 1)])]) (gTupA [(gNm 2), (gNm 3)]))
    (sSeq (sAsg (aFr (fComp [5] (iSeq (eV 0)) (gNm 5) tYes (aOps F_add [(.br 5), (.ex (aTupRg (aRg2 (eV 2) (aOps F_add [(.br 2), (.br 3)]))))]))) (gNm 4))
    (sSeq (sRet (aOps F_tuple [(.ex (aOps F_add [(.br 4), (.ex (aFr (fComp [5] (iSeq (eV 1)) (gNm 5) tYes (aOps F_add [(.ex (aTupRg (aRg1 (eV 2)))), (.ex (aOps F_tuple [(.ex (aFr (fComp [6] (iSeq (eV 5)) (gNm 6) tYes (aOps F_add [(.br 2), (.br 6)]))))]))]))))]))]))
    sNx)))
def m__law_beside : MF := mkF 7 b__law_beside
def N__law_renamed : List Str := ["rows", "turn", "many", "one", "other"]
def b__law_renamed : AS :=
  (sSeq (sAsg (aOps F_len [(.br 0)]) (gNm 2))
    (sSeq (sRet (aOps F_tuple [(.ex (aFr (fComp [3] (iRg (aRg1 (eV 2))) (gNm 3) tYes (aOps F_tuple [(.ex (aFr (fComp [4] (iRg (aRg1 (eV 2))) (gNm 4) tYes (aOps F_ix [(.br 1), (.ex (aOps F_ix [(.ex (aOps F_ix [(.br 0), (.ex (aOr2 (aMeth .tuple F_idxT (.br 1) [(.br 3)]) (aMeth .list F_idxL (.br 1) [(.br 3)])))])), (.ex (aOr2 (aMeth .tuple F_idxT (.br 1) [(.br 4)]) (aMeth .list F_idxL (.br 1) [(.br 4)])))]))]))))]))))]))
    sNx))
def m__law_renamed : MF := mkF 5 b__law_renamed
def N__law_rows : List Str := ["cup", "one", "other", "rows"]
def b__law_rows : AS :=
  (sSeq (sPar [1, 2] [(aCall m__law_some [(.br 0), (.ex (aCall m__law_stock []))]), (aCall m__law_some [(.br 0), (.ex (aCall m__law_stock []))])])
    (sSeq (sAsg (aIf (aT (aOps F_gt [(.ex (aCall m__law_roll [(.br 0), (.ex (eC (.int 3)))])), (.ex (eC (.int 0)))])) (aCall m__law_beside [(.br 1), (.br 2)]) (eV 1)) (gNm 3))
    (sSeq (sRet (aCall m__law_renamed [(.br 3), (.ex (aCall m__law_turn [(.br 0), (.ex (aOps F_len [(.br 3)]))]))]))
    sNx)))
def m__law_rows : MF := mkF 4 b__law_rows
def N__law_word : List Str := ["cup", "many", "most", "step"]
def b__law_word : AS :=
  (sSeq (sRet (aOps F_tuple [(.ex (aFr (fComp [3] (iRg (aRg1 (aCall m__law_roll [(.br 0), (.ex (aOps F_add [(.br 2), (.ex (eC (.int 1)))]))]))) (gNm 3) tYes (aCall m__law_roll [(.br 0), (.br 1)]))))]))
    sNx)
def m__law_word : MF := mkF 4 b__law_word
def N__law_pair : List Str := ["rows", "one", "other", "first"]
def b__law_pair : AS :=
  (sSeq (sAsg (aOr2 (aMeth .tuple F_idxT (.ex (aOps F_ix [(.br 0), (.br 1)])) [(.br 2)]) (aMeth .list F_idxL (.ex (aOps F_ix [(.br 0), (.br 1)])) [(.br 2)])) (gNm 3))
    (sSeq (sRet (aTup [(eV 3), (aOps F_ix [(.ex (aOps F_ix [(.br 0), (.br 3)])), (.br 1)])]))
    sNx))
def m__law_pair : MF := mkF 4 b__law_pair
def N__law_front : List Str := ["rows", "word", "place", "found", "step"]
def b__law_front : AS :=
  (sSeq (sAsg (aOps F_ix [(.br 1), (.br 2)]) (gNm 3))
    (sSeq (sFor (iRg (aRg1 (eV 2))) (gNm 4) (sSeq (sAsg (aOps F_ix [(.ex (aCall m__law_pair [(.br 0), (.ex (aOps F_ix [(.br 1), (.ex (aOps F_sub [(.ex (aOps F_sub [(.br 2), (.ex (eC (.int 1)))])), (.br 4)]))])), (.br 3)])), (.ex (eC (.int 0)))]) (gNm 3))
    sNx))
    (sSeq (sRet (eV 3))
    sNx)))
def m__law_front : MF := mkF 5 b__law_front
def N__law_laid : List Str := ["rows", "word", "place"]
def b__law_laid : AS :=
  (sSeq (sRet (aOps F_tuple [(.ex (aFr (fComp [2] (iRg (aRg1 (aOps F_len [(.br 1)]))) (gNm 2) tYes (aCall m__law_front [(.br 0), (.br 1), (.br 2)]))))]))
    sNx)
def m__law_laid : MF := mkF 3 b__law_laid
def N__law_ahead : List Str := ["rows", "word", "own"]
def b__law_ahead : AS :=
  (sSeq (sRet (aOps F_tuple [(.ex (aFr (fComp [2] (iRg (aRg1 (aOps F_len [(.br 0)]))) (gNm 2) tYes (aCall m__law_front [(.br 0), (.ex (aOps F_add [(.br 1), (.ex (aTup [(eV 2)]))])), (.ex (aOps F_len [(.br 1)]))]))))]))
    sNx)
def m__law_ahead : MF := mkF 3 b__law_ahead
def N__law_words_right : List Str := ["cup", "rows", "many", "word", "due", "laid", "told", "letter", "last", "found", "step", "at", "own"]
def b__law_words_right : AS :=
  (sSeq (sAsg (aCall m__law_rows [(.br 0)]) (gNm 1))
    (sSeq (sAsg (aOps F_len [(.br 1)]) (gNm 2))
    (sSeq (sAsg (aCall m__law_word [(.br 0), (.br 2), (.ex (aCall m__law_some [(.br 0), (.ex (aFr (fLst [(eC (.int 4)), (eC (.int 7)), (eC (.int 7)), (eC (.int 60))])))]))]) (gNm 3))
    (sSeq (sAsg (aCall m__law_laid [(.br 1), (.br 3)]) (gNm 4))
    (sSeq (sIf (tNotA (aT (aCall m__law_like [(.ex (aFr (fLst [(aCall m_laid_row [(.br 1), (.br 3)]), (aCall m_word_laid [(.br 1), (.br 4)])]))), (.ex (aFr (fLst [(eV 4), (eV 3)])))]))) (sSeq (sRet (eC (.bool false)))
    sNx) sNx)
    (sSeq (sAsg (aOps F_tuple [(.ex (aFr (fComp [11] (iRg (aRg1 (aOps F_add [(.ex (aOps F_len [(.br 3)])), (.ex (eC (.int 1)))]))) (gNm 11) tYes (aCall m__law_ahead [(.br 1), (.ex (aSl (.br 3) none (some (eV 11))))]))))]) (gNm 4))
    (sSeq (sIf (tNotA (aT (aCall m__law_like [(.ex (aCall m_turns_along [(.br 1), (.br 3)])), (.br 4)]))) (sSeq (sRet (eC (.bool false)))
    sNx) sNx)
    (sSeq (sAsg (aCall m__law_word [(.br 0), (.br 2), (.ex (aCall m__law_some [(.br 0), (.ex (aFr (fLst [(eC (.int 4)), (eC (.int 7)), (eC (.int 7)), (eC (.int 60))])))]))]) (gNm 5))
    (sSeq (sAsg (aCall m_word_laid [(.br 1), (.br 5)]) (gNm 6))
    (sSeq (sIf (tOrA (aT (aOps F_ne [(.ex (aCall m__law_sort [(.br 6)])), (.ex (eC (.int 4)))])) (tOrA (aT (aOps F_ne [(.ex (aOps F_len [(.br 6)])), (.ex (aOps F_len [(.br 5)]))])) (tNotA (aT (aCall m__law_like [(.ex (aCall m_laid_row [(.br 1), (.br 6)])), (.br 5)]))))) (sSeq (sRet (eC (.bool false)))
    sNx) sNx)
    (sSeq (sIf (tOrA (aT (aOps F_ne [(.ex (aFr (fComp [12] (iSeq (eV 6)) (gNm 12) (tOrA (aT (aOps F_ne [(.ex (aCall m__law_sort [(.br 12)])), (.ex (eC (.int 2)))])) (tNotA (aT (aChain F_le F_lt (.ex (eC (.int 0))) (.br 12) (.br 2))))) (eC (.int 1))))), (.ex (aFr (fLst [])))])) (tNotA (aT (aCall m__law_like [(.ex (aCall m__law_laid [(.br 1), (.br 6)])), (.br 5)])))) (sSeq (sRet (eC (.bool false)))
    sNx) sNx)
    (sSeq (sAsg (aCall m__law_roll [(.br 0), (.br 2)]) (gNm 7))
    (sSeq (sPar [8, 9] [(eV 7), (aFr (fLst []))])
    (sSeq (sFor (iRg (aRg1 (aCall m__law_some [(.br 0), (.ex (aFr (fLst [(eC (.int 0)), (eC (.int 1)), (eC (.int 3)), (eC (.int 9)), (eC (.int 60))])))]))) (gNm 10) (sSeq (sPar [9, 8] [(aOps F_add [(.br 9), (.ex (aFr (fLst [(eV 8)])))]), (aOps F_ix [(.ex (aOps F_ix [(.br 1), (.br 8)])), (.br 8)])])
    sNx))
    (sSeq (sAsg (aFr (fLst [(aCall m_frozen_word [(.br 1), (.br 7), (.ex (aOps F_len [(.br 9)]))]), (aCall m_laid_row [(.br 1), (.ex (aOps F_tuple [(.br 9)]))])])) (gNm 6))
    (sSeq (sRet (aCall m__law_like [(.br 6), (.ex (aFr (fLst [(aOps F_tuple [(.br 9)]), (aOps F_mul [(.ex (aTup [(eV 7)])), (.ex (aOps F_len [(.br 9)]))])])))]))
    sNx))))))))))))))))
def m__law_words_right : MF := mkF 13 b__law_words_right
def N__law_limits_right : List Str := ["cup", "f", "s", "q", "told", "due", "words", "odd"]
def b__law_limits_right : AS :=
  (sSeq (sAsg (aTup [(aTup [(aTup [(eC (.int 1)), (eC (.int 0))]), (aTup [(eC (.int 1)), (eC (.int 0))])]), (aTup [(aTup [(eC (.int 0)), (eC (.int 1)), (eC (.int 2))]), (aTup [(eC (.int 0)), (eC (.int 1)), (eC (.int 2))]), (aTup [(eC (.int 1)), (eC (.int 0)), (eC (.int 2))])])]) (gTupA [(gNm 1), (gNm 2)]))
    (sSeq (sAsg (aTup [(aTup [(eC (.int 0)), (eC (.int 1)), (eC (.int 3)), (eC (.int 2))]), (aTup [(eC (.int 3)), (eC (.int 2)), (eC (.int 0)), (eC (.int 1))]), (aTup [(eC (.int 2)), (eC (.int 3)), (eC (.int 1)), (eC (.int 0))]), (aTup [(eC (.int 1)), (eC (.int 0)), (eC (.int 2)), (eC (.int 3))])]) (gNm 3))
    (sSeq (sIf (tNotA (aT (aCall m__law_like [(.ex (aFr (fLst [(aCall m_laid_row [(.br 3), (.ex (aTup [(eC (.int 1)), (eC (.int 2)), (eC (.int 0))]))]), (aCall m_word_laid [(.br 3), (.ex (aTup [(eC (.int 1)), (eC (.int 1)), (eC (.int 0))]))])]))), (.ex (aFr (fLst [(aTup [(eC (.int 1)), (eC (.int 1)), (eC (.int 0))]), (aTup [(eC (.int 1)), (eC (.int 2)), (eC (.int 0))])])))]))) (sSeq (sRet (eC (.bool false)))
    sNx) sNx)
    (sSeq (sAsg (aFr (fLst [(aCall m_laid_row [(.br 1), (.ex (aTup [(eC (.int 0)), (eC (.int 0)), (eC (.int 1))]))]), (aCall m_laid_row [(.br 2), (.ex (aTup [(eC (.int 2)), (eC (.int 0)), (eC (.int 1))]))]), (aCall m_laid_row [(.br 3), (.ex (aTup [(eC (.int 3)), (eC (.int 2)), (eC (.int 1)), (eC (.int 0))]))]), (aCall m_laid_row [(.br 2), (.ex (aTup []))]), (aCall m_laid_row [(.ex (aTup [(aTup [(eC (.int 0))])])), (.ex (aTup [(eC (.int 0)), (eC (.int 0))]))])])) (gNm 4))
    (sSeq (sAsg (aFr (fLst [(aTup [(eC (.int 0)), (eC (.int 1)), (eC (.int 1))]), (aTup [(eC (.int 2)), (eC (.int 1)), (eC (.int 0))]), (aTup [(eC (.int 3)), (eC (.int 2)), (eC (.int 2)), (eC (.int 1))]), (aTup []), (aTup [(eC (.int 0)), (eC (.int 0))])])) (gNm 5))
    (sSeq (sAsg (aOps F_add [(.br 4), (.ex (aFr (fLst [(aCall m_word_laid [(.br 2), (.ex (aTup [(eC (.int 2)), (eC (.int 1)), (eC (.int 0))]))]), (aCall m_word_laid [(.br 3), (.ex (aTup [(eC (.int 3)), (eC (.int 2)), (eC (.int 2)), (eC (.int 1))]))]), (aCall m_word_laid [(.br 1), (.ex (aTup []))]), (aOps F_len [(.ex (aCall m_word_laid [(.br 3), (.ex (aOps F_mul [(.ex (aTup [(eC (.int 1))])), (.ex (eC (.int 60)))]))]))])])))]) (gNm 4))
    (sSeq (sAsg (aOps F_add [(.br 5), (.ex (aFr (fLst [(aTup [(eC (.int 2)), (eC (.int 0)), (eC (.int 1))]), (aTup [(eC (.int 3)), (eC (.int 2)), (eC (.int 1)), (eC (.int 0))]), (aTup []), (eC (.int 60))])))]) (gNm 5))
    (sSeq (sAsg (aOps F_add [(.br 4), (.ex (aFr (fLst [(aCall m_turns_along [(.br 2), (.ex (aTup [(eC (.int 2)), (eC (.int 0))]))]), (aCall m_turns_along [(.br 1), (.ex (aTup [(eC (.int 0)), (eC (.int 0))]))]), (aCall m_turns_along [(.br 3), (.ex (aTup []))]), (aOps F_ix [(.ex (aCall m_turns_along [(.br 3), (.ex (aTup [(eC (.int 3)), (eC (.int 2)), (eC (.int 1)), (eC (.int 0))]))])), (.ex (eC (.int 4)))])])))]) (gNm 4))
    (sSeq (sAsg (aOps F_add [(.br 5), (.ex (aFr (fLst [(aTup [(aTup [(eC (.int 0)), (eC (.int 1)), (eC (.int 2))]), (aTup [(eC (.int 1)), (eC (.int 0)), (eC (.int 2))]), (aTup [(eC (.int 1)), (eC (.int 0)), (eC (.int 2))])]), (aTup [(aTup [(eC (.int 0)), (eC (.int 1))]), (aTup [(eC (.int 1)), (eC (.int 0))]), (aTup [(eC (.int 0)), (eC (.int 1))])]), (aTup [(aTup [(eC (.int 0)), (eC (.int 1)), (eC (.int 2)), (eC (.int 3))])]), (aTup [(eC (.int 1)), (eC (.int 0)), (eC (.int 3)), (eC (.int 2))])])))]) (gNm 5))
    (sSeq (sAsg (aOps F_add [(.br 4), (.ex (aFr (fLst [(aCall m_frozen_word [(.br 3), (.ex (eC (.int 1))), (.ex (eC (.int 3)))]), (aCall m_frozen_word [(.br 1), (.ex (eC (.int 0))), (.ex (eC (.int 2)))]), (aCall m_frozen_word [(.br 2), (.ex (eC (.int 2))), (.ex (eC (.int 0)))]), (aCall m_frozen_word [(.br 3), (.ex (eC (.int 3))), (.ex (eC (.int 60)))]), (aCall m_frozen_word [(.br 1), (.ex (eC (.int 1))), (.ex (eC (.int 3)))])])))]) (gNm 4))
    (sSeq (sAsg (aOps F_add [(.br 5), (.ex (aFr (fLst [(aTup [(eC (.int 1)), (eC (.int 2)), (eC (.int 1))]), (aTup [(eC (.int 0)), (eC (.int 1))]), (aTup []), (aOps F_mul [(.ex (aTup [(eC (.int 3))])), (.ex (eC (.int 60)))]), (aTup [(eC (.int 1)), (eC (.int 0)), (eC (.int 1))])])))]) (gNm 5))
    (sSeq (sIf (tNotA (aT (aCall m__law_like [(.br 4), (.br 5)]))) (sSeq (sRet (eC (.bool false)))
    sNx) sNx)
    (sSeq (sAsg (aFr (fLst [])) (gNm 6))
    (sSeq (sFor (iSeq (aTup [(eC .none), (aTup [(aTup [(eC (.int 0)), (eC (.int 1))]), (aTup [(eC (.int 1)), (eC (.int 0))])]), (aTup []), (aFr (fLst [(aTup [(eC (.int 0))])])), (aTup [(aTup [(eC (.int 0)), (eC (.int 1))])]), (aTup [(aTup [(eC (.int 0)), (eC (.int 2)), (eC (.int 1))]), (aTup [(eC (.int 1)), (eC (.int 0)), (eC (.int 2))]), (aTup [(eC (.int 0)), (eC (.int 1)), (eC (.int 2))])]), (eC (.int 0))])) (gNm 7) (sSeq (sAsg (aOps F_add [(.br 6), (.ex (aFr (fLst [(aTold F__law_error w__law_error (aCall m_laid_row [(.br 7), (.ex (eC .none))]))])))]) (gNm 6))
    (sSeq (sAsg (aOps F_add [(.br 6), (.ex (aFr (fLst [(aTold F__law_error w__law_error (aCall m_word_laid [(.br 7), (.ex (eC .none))]))])))]) (gNm 6))
    (sSeq (sAsg (aOps F_add [(.br 6), (.ex (aFr (fLst [(aTold F__law_error w__law_error (aCall m_turns_along [(.br 7), (.ex (eC .none))]))])))]) (gNm 6))
    (sSeq (sAsg (aOps F_add [(.br 6), (.ex (aFr (fLst [(aTold F__law_error w__law_error (aCall m_frozen_word [(.br 7), (.ex (eC .none)), (.ex (eC .none))]))])))]) (gNm 6))
    sNx)))))
    (sSeq (sIf (aT (aOps F_ne [(.br 6), (.ex (aFr (fRep (fLst [(eC (.str "cycle"))]) (.ex (eC (.int 28))))))])) (sSeq (sRet (eC (.bool false)))
    sNx) sNx)
    (sSeq (sFor (iSeq (aTup [(eC .none), (aFr (fLst [(eC (.int 0))])), (aTup [(eC (.int 3))]), (aTup [(eC (.int 0)), (aOps F_neg [(.ex (eC (.int 1)))])]), (aTup [(eC (.bool true))]), (aTup [(eC .none)]), (aOps F_mul [(.ex (aTup [(eC (.int 0))])), (.ex (eC (.int 61)))]), (eC (.str "0")), (eC (.int 0))])) (gNm 7) (sSeq (sAsg (aOps F_add [(.br 6), (.ex (aFr (fLst [(aTold F__law_error w__law_error (aCall m_laid_row [(.br 2), (.br 7)]))])))]) (gNm 6))
    (sSeq (sAsg (aOps F_add [(.br 6), (.ex (aFr (fLst [(aTold F__law_error w__law_error (aCall m_word_laid [(.br 2), (.br 7)]))])))]) (gNm 6))
    (sSeq (sAsg (aOps F_add [(.br 6), (.ex (aFr (fLst [(aTold F__law_error w__law_error (aCall m_turns_along [(.br 2), (.br 7)]))])))]) (gNm 6))
    sNx))))
    (sSeq (sFor (iSeq (aTup [(eC .none), (aOps F_neg [(.ex (eC (.int 1)))]), (eC (.int 3)), (eC (.bool true)), (eC (.str "0")), (aTup [(eC (.int 0))])])) (gNm 7) (sSeq (sAsg (aOps F_add [(.br 6), (.ex (aFr (fLst [(aTold F__law_error w__law_error (aCall m_frozen_word [(.br 2), (.br 7), (.ex (eC .none))]))])))]) (gNm 6))
    sNx))
    (sSeq (sFor (iSeq (aTup [(eC .none), (aOps F_neg [(.ex (eC (.int 1)))]), (eC (.int 61)), (eC (.bool false)), (eC (.str "3"))])) (gNm 7) (sSeq (sAsg (aOps F_add [(.br 6), (.ex (aFr (fLst [(aTold F__law_error w__law_error (aCall m_frozen_word [(.br 2), (.ex (eC (.int 0))), (.br 7)]))])))]) (gNm 6))
    sNx))
    (sSeq (sRet (aOps F_eq [(.ex (aSl (.br 6) (some (eC (.int 28))) none)), (.ex (aOps F_add [(.ex (aFr (fRep (fLst [(eC (.str "word"))]) (.ex (eC (.int 27)))))), (.ex (aFr (fRep (fLst [(eC (.str "number"))]) (.ex (eC (.int 11))))))]))]))
    sNx)))))))))))))))))))
def m__law_limits_right : MF := mkF 8 b__law_limits_right
def N_law : List Str := ["script", "cup", "turn"]
def b_law : AS :=
  (sSeq (sOwn 1 (fCall m__law_cup [(.br 0)]))
    (sSeq (sIf (tNotA (aT (aCall m__law_limits_right [(.br 1)]))) (sSeq (sRet (eC (.bool false)))
    sNx) sNx)
    (sSeq (sFor (iRg (aRg1 (eC (.int 6)))) (gNm 2) (sSeq (sIf (tNotA (aT (aCall m__law_words_right [(.br 1)]))) (sSeq (sRet (eC (.bool false)))
    sNx) sNx)
    sNx))
    (sSeq (sRet (eC (.bool true)))
    sNx))))
def m_law : MF := mkF 3 b_law
end SW
set_option Elab.async false
set_option linter.all false
set_option maxRecDepth 100000
set_option maxHeartbeats 4000000
namespace SW
open PySem L2
theorem cup_ok (ns : List Int) (h : ns.length ≤ 63) : ∃ a b : Int, m__law_cup [.pl (.list (iL ns))] = .ok (.rf [.int a, .int b]) [.un] ∧ 0 ≤ a ∧ 0 ≤ b := by
  have hz : (iL ns).length + 1 ≤ sizeLine := le_sz (by rw [iL_len]; omega)
  obtain ⟨v, hv⟩ : ∃ v, F_ix [.list (iL ns ++ [.int 0]), .int 0] = some (.int v) := by
    cases ns with
    | nil => exact ⟨0, rfl⟩
    | cons x r => exact ⟨x, f_ixL (Int.le_refl _) rfl⟩
  have hp : F_pow [.int 10, .int 18] = some (.int 1000000000000000000) := by rfl
  have ha := f_addL (a := iL ns) (b := [.int 0]) hz
  obtain ⟨c, hc, hc0⟩ : ∃ c : Int, F_abs [.int v] = some (.int c) ∧ 0 ≤ c := ⟨_, rfl, by split <;> omega⟩
  have hmul : F_mul [.int c, .int 1091] = some (.int (c * 1091)) := f_mulI (by
    have : big64 1091 = true := by rfl
    rw [this, Bool.or_true])
  have s1 : aOps F_abs [(.ex (aOps F_ix [(.ex (aOps F_add [(.ex (aFr (fOps F_list [(.br 0)]))), (.ex (aFr (fLst [(eC (.int 0))])))])), (.ex (eC (.int 0)))]))] [.pl (.list (iL ns)), .un] = .ok (.int c) [.pl (.list (iL ns)), .un] :=
    ops1 (ex_ok (ops2 (ex_ok (ops2 (ex_ok (fr_ok (ds := iL ns) rfl)) (ex_ok (fr_ok (lst_ok (ds := [.int 0]) rfl (by decide)))) rfl rfl ha)) (ex_ok rfl) rfl rfl hv)) rfl hc
  have s3 : aOps F_mod [(.ex (aOps F_int [(.ex (aOps F_add [(.ex (aOps F_mul [(.br 1), (.ex (eC (.int 1091)))])), (.ex (eC (.int 94033)))]))])), (.ex (eC (.int 1048576)))] [.pl (.list (iL ns)), .pl (.int c)] = .ok (.int ((c * 1091 + 94033) % 1048576)) [.pl (.list (iL ns)), .pl (.int c)] :=
    ops2 (ex_ok (ops1 (ex_ok (ops2 (ex_ok (ops2 rfl (ex_ok rfl) rfl rfl hmul)) (ex_ok rfl) rfl rfl (f_addI _ _))) rfl rfl)) (ex_ok rfl) rfl rfl (f_mod (by decide))
  obtain ⟨a, ha0, s2⟩ : ∃ a : Int, 0 ≤ a ∧ aIf (aT (aOps F_ge [(.br 1), (.ex (aOps F_pow [(.ex (eC (.int 10))), (.ex (eC (.int 18)))]))])) (aOps F_fdiv [(.br 1), (.ex (eC (.int 311)))]) (eC (.int 0)) [.pl (.list (iL ns)), .pl (.int c)] = .ok (.int a) [.pl (.list (iL ns)), .pl (.int c)] := by
    have t : aOps F_ge [(.br 1), (.ex (aOps F_pow [(.ex (eC (.int 10))), (.ex (eC (.int 18)))]))] [.pl (.list (iL ns)), .pl (.int c)] = .ok (.bool (decide (1000000000000000000 ≤ c))) [.pl (.list (iL ns)), .pl (.int c)] := ops2 rfl (ex_ok (ops2 (ex_ok rfl) (ex_ok rfl) rfl rfl hp)) rfl rfl rfl
    cases q : decide (1000000000000000000 ≤ c) with
    | true =>
      rw [q] at t
      exact ⟨c / 311, Int.ediv_nonneg hc0 (by decide), aif_t (aT_ok t) (ops2 rfl (ex_ok rfl) rfl rfl (f_fdiv (by decide) (by decide)))⟩
    | false =>
      rw [q] at t
      exact ⟨0, Int.le_refl _, aif_f (aT_ok t) rfl⟩
  exact ⟨a, (c * 1091 + 94033) % 1048576, mk_ok (body := b__law_cup) rfl (seq_nx (set_ok s1 rfl rfl) (seq_rf (retf_ok (lst_ok (ds_cons s2 (ds_cons s3 ds_nil)) (Nat.le_add_left _ _))))) rfl, ha0, Int.emod_nonneg _ (by decide)⟩
theorem roll_ok (a b n : Int) (ha : 0 ≤ a) (hb : 0 ≤ b) (hn : 0 < n) (hn2 : n < 1073741824) : ∃ r a' b', m__law_roll [.own true [.int a, .int b], .pl (.int n)] = .ok (.rt (.int r)) [.own true [.int a', .int b'], .un] ∧ 0 ≤ r ∧ r < n ∧ 0 ≤ a' ∧ 0 ≤ b' := by
  by_cases h : 0 < a
  · refine ⟨a % n, a / n, b, ?_, Int.emod_nonneg _ (by omega), Int.emod_lt_of_pos _ hn, Int.ediv_nonneg ha (by omega), hb⟩
    have t : aT (aOps F_gt [(.ex (aOps F_ix [(.br 0), (.ex (eC (.int 0)))])), (.ex (eC (.int 0)))]) [.own true [.int a, .int b], .pl (.int n), .un] = .ok true [.own true [.int a, .int b], .pl (.int n), .un] := aT_ok (by
      rw [← decide_eq_true h]
      exact ops2 (ex_ok (ops2 rfl (ex_ok rfl) rfl rfl rfl)) (ex_ok rfl) rfl rfl rfl)
    exact mk_ok (body := b__law_roll) rfl (seq_rt (ift t (seq_nx (set_ok (ops2 (ex_ok (ops1 (ex_ok (ops2 rfl (ex_ok rfl) rfl rfl rfl)) rfl rfl)) rfl rfl rfl (f_mod hn)) rfl rfl)
      (seq_nx (put_ix (ops2 (ex_ok (ops2 rfl (ex_ok rfl) rfl rfl rfl)) rfl rfl rfl (f_fdiv hn hn2)) rfl rfl rfl rfl) (seq_rt (ret_ok rfl)))))) rfl
  · have t : aT (aOps F_gt [(.ex (aOps F_ix [(.br 0), (.ex (eC (.int 0)))])), (.ex (eC (.int 0)))]) [.own true [.int a, .int b], .pl (.int n), .un] = .ok false [.own true [.int a, .int b], .pl (.int n), .un] := aT_ok (by
      rw [← decide_eq_false h]
      exact ops2 (ex_ok (ops2 rfl (ex_ok rfl) rfl rfl rfl)) (ex_ok rfl) rfl rfl rfl)
    have hmul : F_mul [.int b, .int 21269] = some (.int (b * 21269)) := f_mulI (by
      have : big64 21269 = true := by rfl
      rw [this, Bool.or_true])
    refine ⟨((b * 21269 + 45433) % 1048576) / 137 % n, a, (b * 21269 + 45433) % 1048576, ?_, Int.emod_nonneg _ (by omega), Int.emod_lt_of_pos _ hn, ha, Int.emod_nonneg _ (by decide)⟩
    exact mk_ok (body := b__law_roll) rfl (seq_nx (iff' t rfl) (seq_nx (put_ix (ops2 (ex_ok (ops1 (ex_ok (ops2 (ex_ok (ops2 (ex_ok (ops2 rfl (ex_ok rfl) rfl rfl rfl)) (ex_ok rfl) rfl rfl hmul)) (ex_ok rfl) rfl rfl (f_addI _ _))) rfl rfl)) (ex_ok rfl) rfl rfl (f_mod (by decide))) rfl rfl rfl rfl)
      (seq_rt (ret_ok (ops2 (ex_ok (ops1 (ex_ok (ops2 (ex_ok (ops2 rfl (ex_ok rfl) rfl rfl rfl)) (ex_ok rfl) rfl rfl (f_fdiv (by decide) (by decide)))) rfl rfl)) rfl rfl rfl (f_mod hn)))))) rfl
theorem roll_nat {s : SV} (hs : CupS s) {n : Nat} (hn : 0 < n) (hn2 : n ≤ 1000) : ∃ r : Nat, ∃ s', m__law_roll [s, .pl (.int n)] = .ok (.rt (.int (r : Nat))) [s', .un] ∧ r < n ∧ CupS s' := by
  obtain ⟨a, b, rfl, ha, hb⟩ := hs
  obtain ⟨r, a', b', e, h1, h2, h3, h4⟩ := roll_ok a b n ha hb (by omega) (by omega)
  exact ⟨r.toNat, _, by rw [show ((r.toNat : Nat) : Int) = r by omega]; exact e, by omega, a', b', rfl, h3, h4⟩
/-- a slot that holds a cup of the def that was called -/
theorem cup_facts {s s' : SV} (h : CupS s) (h' : CupS s') (ρ : En) : isIo s = true ∧ isOwn s = true ∧ isUn (argSV (s :: ρ) (.slot 0)) = false ∧ argSV (s :: ρ) (.slot 0) = s ∧ backSV true s' = s' := by
  obtain ⟨a, b, rfl, _⟩ := h
  obtain ⟨a', b', rfl, _⟩ := h'
  exact ⟨rfl, rfl, rfl, rfl, rfl⟩

def p__law_roll : D → W D := rollW
theorem jd__law_roll : JD [true, false] m__law_roll (ap1 p__law_roll) := jd_roll fun a b n ha hb h0 h1 => roll_ok a b n ha hb h0 h1
theorem limits_ok (a b : Int) : m__law_limits_right [.own true [.int a, .int b]] = .ok (.rt (.bool true)) [.own true [.int a, .int b]] := by kernel_rfl
def p__law_limits_right : W D := pu (.bool true)
theorem jd__law_limits_right : JD [true] m__law_limits_right (ap0 p__law_limits_right) := jd_run1 limits_ok
theorem stock_run : givesB 0 (m__law_stock []) (.list (stock.map Mx)) = true := by kernel_rfl
def p__law_stock : W D := pu (.list (stock.map Mx))
theorem jd__law_stock : JD [] m__law_stock (ap0 p__law_stock) := jd_run0 (gives_ok stock_run)
end SW
set_option Elab.async false
set_option linter.all false
set_option maxRecDepth 100000
set_option maxHeartbeats 4000000
namespace SW
open PySem L2
def pb_is_tuple_of (value_ low_ high_ : D) : W (FW Unit Unit) :=
  bd (andD (opt (F_isi .tuple [value_])) (bd (opt (F_len [value_])) fun v1 => chainW (F_le [low_, v1]) (opt (F_le [v1, high_])))) fun d => pu (FW.rt d)
@[irreducible] def p_is_tuple_of (value_ low_ high_ : D) : W D := fin (pb_is_tuple_of value_ low_ high_)
theorem pe_is_tuple_of (value_ low_ high_ : D) : p_is_tuple_of value_ low_ high_ = fin (pb_is_tuple_of value_ low_ high_) := by first | (unfold p_is_tuple_of; rfl) | unfold p_is_tuple_of
theorem js_is_tuple_of (value_ low_ high_ : D) : JS [false, false, false] [.pl value_, .pl low_, .pl high_] b_is_tuple_of (pb_is_tuple_of value_ low_ high_) (fun _ => [.any, .any, .any]) (fun _ => [.any, .any, .any]) :=
  (js_ret (je_and (je_ops (k_a (oa_v 0) (k_nil rfl))) (je_chain (u := (fun b => opt (F_le [b, high_]))) (k_a (oa_v 1) (k_c (je_ops (k_a (oa_v 0) (k_nil rfl))) fun _ => (k_nil rfl))) (fun _ => (k_a (oa_v 2) (k_nil rfl))))))
theorem jd_is_tuple_of : JD [false, false, false] m_is_tuple_of (ap3 p_is_tuple_of) :=
  jd_mk (n := 3) (body := b_is_tuple_of) [.any, .any, .any] rfl (fun ds V e => by
    obtain ⟨value_, _, _, rfl, rfl, e0⟩ := startV_v e
    obtain ⟨low_, _, _, rfl, rfl, e1⟩ := startV_v e0
    obtain ⟨high_, _, _, rfl, rfl, e2⟩ := startV_v e1
    obtain ⟨rfl, rfl⟩ := startV_n e2
    exact ⟨pb_is_tuple_of value_ low_ high_, js_is_tuple_of value_ low_ high_, pe_is_tuple_of value_ low_ high_⟩) (fun ds V e => endB_start e)
def pb_is_whole (value_ low_ high_ : D) : W (FW Unit Unit) :=
  bd (andD (opt (F_isi .int [value_])) (andD (notD (opt (F_isi .bool [value_]))) (chainW (F_le [low_, value_]) (opt (F_le [value_, high_]))))) fun d => pu (FW.rt d)
@[irreducible] def p_is_whole (value_ low_ high_ : D) : W D := fin (pb_is_whole value_ low_ high_)
theorem pe_is_whole (value_ low_ high_ : D) : p_is_whole value_ low_ high_ = fin (pb_is_whole value_ low_ high_) := by first | (unfold p_is_whole; rfl) | unfold p_is_whole
theorem js_is_whole (value_ low_ high_ : D) : JS [false, false, false] [.pl value_, .pl low_, .pl high_] b_is_whole (pb_is_whole value_ low_ high_) (fun _ => [.any, .any, .any]) (fun _ => [.any, .any, .any]) :=
  (js_ret (je_and (je_ops (k_a (oa_v 0) (k_nil rfl))) (je_and (je_not (je_ops (k_a (oa_v 0) (k_nil rfl)))) (je_chain (u := (fun b => opt (F_le [b, high_]))) (k_a (oa_v 1) (k_a (oa_v 0) (k_nil rfl))) (fun _ => (k_a (oa_v 2) (k_nil rfl)))))))
theorem jd_is_whole : JD [false, false, false] m_is_whole (ap3 p_is_whole) :=
  jd_mk (n := 3) (body := b_is_whole) [.any, .any, .any] rfl (fun ds V e => by
    obtain ⟨value_, _, _, rfl, rfl, e0⟩ := startV_v e
    obtain ⟨low_, _, _, rfl, rfl, e1⟩ := startV_v e0
    obtain ⟨high_, _, _, rfl, rfl, e2⟩ := startV_v e1
    obtain ⟨rfl, rfl⟩ := startV_n e2
    exact ⟨pb_is_whole value_ low_ high_, js_is_whole value_ low_ high_, pe_is_whole value_ low_ high_⟩) (fun ds V e => endB_start e)
def pb_is_turn (value_ : D) : W (FW Unit Unit) :=
  iteW (orB (notB (tst (p_is_tuple_of value_ (.int 1 : D) (.int 60 : D)))) (notB (tst (bd (lst (bd (opt (itemsOf value_)) (compW fun d1 => (bd (bd (opt (F_len [value_])) fun v2 => opt (F_sub [v2, (.int 1 : D)])) fun v3 => p_is_whole d1 (.int 0 : D) v3)))) fun v4 => opt (F_all [v4]))))) (pu (FW.rt (.bool false : D))) (bd (bd (opt (F_sorted [value_])) fun v5 => bd (lst (bd (bd (opt (F_len [value_])) rg1) rgL)) fun v6 => opt (F_eq [v5, v6])) fun d => pu (FW.rt d))
@[irreducible] def p_is_turn (value_ : D) : W D := fin (pb_is_turn value_)
theorem pe_is_turn (value_ : D) : p_is_turn value_ = fin (pb_is_turn value_) := by first | (unfold p_is_turn; rfl) | unfold p_is_turn
theorem js_is_turn (value_ : D) : JS [false] [.pl value_, .any] b_is_turn (pb_is_turn value_) (fun _ => [.any, .any]) (fun _ => [.any, .any]) :=
  (js_ifr (je_orB (je_notB (je_t (je_call jd_is_tuple_of (c_v 0 (c_k (c_k (c_nil rfl))))))) (je_notB (je_t (je_ops (k_c (je_fr (je_comp (je_seqa (ea_v 0)) fun d1 => (cy_run jg_nm (je_call jd_is_whole (c_v 1 (c_k (c_c (je_ops (k_c (je_ops (k_a (oa_v 0) (k_nil rfl))) fun _ => (k_a oa_c (k_nil rfl)))) fun _ => (c_nil rfl)))))))) fun _ => (k_nil rfl)))))) (js_reta ea_c) (nn_one nn_ret)
    (js_ret (je_ops (k_c (je_ops (k_a (oa_v 0) (k_nil rfl))) fun _ => (k_c (je_fr (je_fRg (je_rg1 (je_ops (k_a (oa_v 0) (k_nil rfl)))))) fun _ => (k_nil rfl))))))
theorem jd_is_turn : JD [false] m_is_turn (ap1 p_is_turn) :=
  jd_mk (n := 2) (body := b_is_turn) [.any, .any] rfl (fun ds V e => by
    obtain ⟨value_, _, _, rfl, rfl, e0⟩ := startV_v e
    obtain ⟨rfl, rfl⟩ := startV_n e0
    exact ⟨pb_is_turn value_, js_is_turn value_, pe_is_turn value_⟩) (fun ds V e => endB_start e)
def pb_are_turn_rows (value_ : D) : W (FW Unit Unit) :=
  iteW (notB (tst (p_is_tuple_of value_ (.int 1 : D) (.int 16 : D)))) (pu (FW.rt (.bool false : D))) (bd (bd (lst (bd (opt (itemsOf value_)) (compW fun d1 => (andD (p_is_turn d1) (bd (opt (F_len [d1])) fun v2 => bd (opt (F_len [value_])) fun v3 => opt (F_eq [v2, v3])))))) fun v4 => opt (F_all [v4])) fun d => pu (FW.rt d))
@[irreducible] def p_are_turn_rows (value_ : D) : W D := fin (pb_are_turn_rows value_)
theorem pe_are_turn_rows (value_ : D) : p_are_turn_rows value_ = fin (pb_are_turn_rows value_) := by first | (unfold p_are_turn_rows; rfl) | unfold p_are_turn_rows
theorem js_are_turn_rows (value_ : D) : JS [false] [.pl value_, .any] b_are_turn_rows (pb_are_turn_rows value_) (fun _ => [.any, .any]) (fun _ => [.any, .any]) :=
  (js_ifr (je_notB (je_t (je_call jd_is_tuple_of (c_v 0 (c_k (c_k (c_nil rfl))))))) (js_reta ea_c) (nn_one nn_ret)
    (js_ret (je_ops (k_c (je_fr (je_comp (je_seqa (ea_v 0)) fun d1 => (cy_run jg_nm (je_and (je_call jd_is_turn (c_v 1 (c_nil rfl))) (je_ops (k_c (je_ops (k_a (oa_v 1) (k_nil rfl))) fun _ => (k_c (je_ops (k_a (oa_v 0) (k_nil rfl))) fun _ => (k_nil rfl)))))))) fun _ => (k_nil rfl)))))
theorem jd_are_turn_rows : JD [false] m_are_turn_rows (ap1 p_are_turn_rows) :=
  jd_mk (n := 2) (body := b_are_turn_rows) [.any, .any] rfl (fun ds V e => by
    obtain ⟨value_, _, _, rfl, rfl, e0⟩ := startV_v e
    obtain ⟨rfl, rfl⟩ := startV_n e0
    exact ⟨pb_are_turn_rows value_, js_are_turn_rows value_, pe_are_turn_rows value_⟩) (fun ds V e => endB_start e)
def pb_first_unlike (rows_ : D) : W (FW Unit Unit) :=
  bd (lst (bd (bd (opt (F_len [rows_])) rg1) rgL)) fun letters_1 => seqW (bd (opt (itemsOf letters_1)) fun items => forW (fun (d3 : D) (s2 : Unit) => seqW (bd (opt (itemsOf letters_1)) fun items => forW (fun (d5 : D) (s4 : Unit) => bd (bd (bd (opt (F_ix [rows_, d3])) fun v8 => opt (F_ix [v8, d5])) fun v9 => opt (F_ix [rows_, v9])) fun v10 => bd (bd (bd (opt (F_ix [rows_, d5])) fun v11 => opt (F_ix [v11, d3])) fun v12 => opt (F_ix [rows_, v12])) fun v13 => par2 [v10, v13] fun first_6 second_7 => seqW (bd (opt (itemsOf letters_1)) fun items => forW (fun (d15 : D) (s14 : Unit) => iteW (tst (bd (bd (bd (opt (F_ix [rows_, d3])) fun v16 => opt (F_ix [v16, d15])) fun v17 => opt (F_ix [first_6, v17])) fun v18 => bd (bd (bd (opt (F_ix [rows_, d5])) fun v19 => opt (F_ix [v19, d15])) fun v20 => opt (F_ix [second_7, v20])) fun v21 => opt (F_ne [v18, v21]))) (bd (pu (.tuple [d3, d5, d15])) fun d => pu (FW.rt d)) (pu (FW.nx ()))) items ()) fun (s22 : Unit) => pu (FW.nx ())) items ()) fun (s23 : Unit) => pu (FW.nx ())) items ()) fun (s24 : Unit) => pu (FW.rt (.none : D))
@[irreducible] def p_first_unlike (rows_ : D) : W D := fin (pb_first_unlike rows_)
theorem pe_first_unlike (rows_ : D) : p_first_unlike rows_ = fin (pb_first_unlike rows_) := by first | (unfold p_first_unlike; rfl) | unfold p_first_unlike
theorem js_first_unlike (rows_ : D) : JS [false] [.pl rows_, .any, .any, .any, .any, .any, .any] b_first_unlike (pb_first_unlike rows_) (fun _ => [.any, .any, .any, .any, .any, .any, .any]) (fun _ => [.any, .any, .any, .any, .any, .any, .any]) :=
  (js_set (je_fr (je_fRg (je_rg1 (je_ops (k_a (oa_v 0) (k_nil rfl)))))) fun letters_1 =>
    (js_seq (js_for (fun (s2 : Unit) => [.pl rows_, .pl letters_1, .any, .any, .any, .any, .any]) (je_seqa (ea_v 1)) (.r (.r (.r (.r (.r (.r (.r .nil))))))) fun d3 s2 =>
    (jt_nm (js_seq (js_for (fun (s4 : Unit) => [.pl rows_, .pl letters_1, .pl d3, .any, .any, .any, .any]) (je_seqa (ea_v 1)) (.r (.r (.r (.r (.r (.r (.r .nil))))))) fun d5 s4 =>
    (jt_nm (js_par2 (d_c (je_ops (k_a (oa_v 0) (k_c (je_ops (k_c (je_ops (k_a (oa_v 0) (k_a (oa_v 2) (k_nil rfl)))) fun _ => (k_a (oa_v 3) (k_nil rfl)))) fun _ => (k_nil rfl)))) fun _ => (d_c (je_ops (k_a (oa_v 0) (k_c (je_ops (k_c (je_ops (k_a (oa_v 0) (k_a (oa_v 3) (k_nil rfl)))) fun _ => (k_a (oa_v 2) (k_nil rfl)))) fun _ => (k_nil rfl)))) fun _ => (d_n rfl))) fun first_6 second_7 =>
    (js_seq (js_for (fun (s14 : Unit) => [.pl rows_, .pl letters_1, .pl d3, .pl d5, .pl first_6, .pl second_7, .any]) (je_seqa (ea_v 1)) (.r (.r (.r (.r (.r (.r (.r .nil))))))) fun d15 s14 =>
    (jt_nm (js_ifr (je_t (je_ops (k_c (je_ops (k_a (oa_v 4) (k_c (je_ops (k_c (je_ops (k_a (oa_v 0) (k_a (oa_v 2) (k_nil rfl)))) fun _ => (k_a (oa_v 6) (k_nil rfl)))) fun _ => (k_nil rfl)))) fun _ => (k_c (je_ops (k_a (oa_v 5) (k_c (je_ops (k_c (je_ops (k_a (oa_v 0) (k_a (oa_v 3) (k_nil rfl)))) fun _ => (k_a (oa_v 6) (k_nil rfl)))) fun _ => (k_nil rfl)))) fun _ => (k_nil rfl))))) (js_ret (je_tup (d_a (ea_v 2) (d_a (ea_v 3) (d_a (ea_v 6) (d_n rfl)))))) (nn_one nn_ret)
    (js_nx (x := ()) (.r (.r (.r (.r (.r (.r (.a rfl .nil))))))))))) fun s22 =>
    (js_nx (x := ()) (.r (.r (.r (.a rfl (.a rfl (.a rfl (.r .nil)))))))))))) fun s23 =>
    (js_nx (x := ()) (.r (.r (.a rfl (.r (.r (.r (.r .nil))))))))))) fun s24 =>
    (js_reta ea_c)))
theorem jd_first_unlike : JD [false] m_first_unlike (ap1 p_first_unlike) :=
  jd_mk (n := 7) (body := b_first_unlike) [.any, .any, .any, .any, .any, .any, .any] rfl (fun ds V e => by
    obtain ⟨rows_, _, _, rfl, rfl, e0⟩ := startV_v e
    obtain ⟨rfl, rfl⟩ := startV_n e0
    exact ⟨pb_first_unlike rows_, js_first_unlike rows_, pe_first_unlike rows_⟩) (fun ds V e => endB_start e)
def pb_is_cycle_set (value_ : D) : W (FW Unit Unit) :=
  bd (andD (p_are_turn_rows value_) (bd (p_first_unlike value_) fun v1 => opt (F_isN [v1]))) fun d => pu (FW.rt d)
@[irreducible] def p_is_cycle_set (value_ : D) : W D := fin (pb_is_cycle_set value_)
theorem pe_is_cycle_set (value_ : D) : p_is_cycle_set value_ = fin (pb_is_cycle_set value_) := by first | (unfold p_is_cycle_set; rfl) | unfold p_is_cycle_set
theorem js_is_cycle_set (value_ : D) : JS [false] [.pl value_] b_is_cycle_set (pb_is_cycle_set value_) (fun _ => [.any]) (fun _ => [.any]) :=
  (js_ret (je_and (je_call jd_are_turn_rows (c_v 0 (c_nil rfl))) (je_ops (k_c (je_call jd_first_unlike (c_v 0 (c_nil rfl))) fun _ => (k_nil rfl)))))
theorem jd_is_cycle_set : JD [false] m_is_cycle_set (ap1 p_is_cycle_set) :=
  jd_mk (n := 1) (body := b_is_cycle_set) [.any] rfl (fun ds V e => by
    obtain ⟨value_, _, _, rfl, rfl, e0⟩ := startV_v e
    obtain ⟨rfl, rfl⟩ := startV_n e0
    exact ⟨pb_is_cycle_set value_, js_is_cycle_set value_, pe_is_cycle_set value_⟩) (fun ds V e => endB_start e)
def pb_need_cycle_set (value_ : D) : W (FW Unit Unit) :=
  iteW (notB (tst (p_is_cycle_set value_))) (rz ⟨"InvalidCycle", []⟩) (pu (FW.nx ()))
@[irreducible] def p_need_cycle_set (value_ : D) : W D := fin (pb_need_cycle_set value_)
theorem pe_need_cycle_set (value_ : D) : p_need_cycle_set value_ = fin (pb_need_cycle_set value_) := by first | (unfold p_need_cycle_set; rfl) | unfold p_need_cycle_set
theorem js_need_cycle_set (value_ : D) : JS [false] [.pl value_] b_need_cycle_set (pb_need_cycle_set value_) (fun _ => [.any]) (fun _ => [.any]) :=
  (js_ifr (je_notB (je_t (je_call jd_is_cycle_set (c_v 0 (c_nil rfl))))) js_raise (nn_one nn_raise)
    (js_nx (x := ()) (.a rfl .nil)))
theorem jd_need_cycle_set : JD [false] m_need_cycle_set (ap1 p_need_cycle_set) :=
  jd_mk (n := 1) (body := b_need_cycle_set) [.any] rfl (fun ds V e => by
    obtain ⟨value_, _, _, rfl, rfl, e0⟩ := startV_v e
    obtain ⟨rfl, rfl⟩ := startV_n e0
    exact ⟨pb_need_cycle_set value_, js_need_cycle_set value_, pe_need_cycle_set value_⟩) (fun ds V e => endB_start e)
def pb_is_word_of (value_ many_ : D) : W (FW Unit Unit) :=
  bd (andD (p_is_tuple_of value_ (.int 0 : D) (.int 60 : D)) (bd (lst (bd (opt (itemsOf value_)) (compW fun d1 => (bd (opt (F_sub [many_, (.int 1 : D)])) fun v2 => p_is_whole d1 (.int 0 : D) v2)))) fun v3 => opt (F_all [v3]))) fun d => pu (FW.rt d)
@[irreducible] def p_is_word_of (value_ many_ : D) : W D := fin (pb_is_word_of value_ many_)
theorem pe_is_word_of (value_ many_ : D) : p_is_word_of value_ many_ = fin (pb_is_word_of value_ many_) := by first | (unfold p_is_word_of; rfl) | unfold p_is_word_of
theorem js_is_word_of (value_ many_ : D) : JS [false, false] [.pl value_, .pl many_, .any] b_is_word_of (pb_is_word_of value_ many_) (fun _ => [.any, .any, .any]) (fun _ => [.any, .any, .any]) :=
  (js_ret (je_and (je_call jd_is_tuple_of (c_v 0 (c_k (c_k (c_nil rfl))))) (je_ops (k_c (je_fr (je_comp (je_seqa (ea_v 0)) fun d1 => (cy_run jg_nm (je_call jd_is_whole (c_v 2 (c_k (c_c (je_ops (k_a (oa_v 1) (k_a oa_c (k_nil rfl)))) fun _ => (c_nil rfl)))))))) fun _ => (k_nil rfl)))))
theorem jd_is_word_of : JD [false, false] m_is_word_of (ap2 p_is_word_of) :=
  jd_mk (n := 3) (body := b_is_word_of) [.any, .any, .any] rfl (fun ds V e => by
    obtain ⟨value_, _, _, rfl, rfl, e0⟩ := startV_v e
    obtain ⟨many_, _, _, rfl, rfl, e1⟩ := startV_v e0
    obtain ⟨rfl, rfl⟩ := startV_n e1
    exact ⟨pb_is_word_of value_ many_, js_is_word_of value_ many_, pe_is_word_of value_ many_⟩) (fun ds V e => endB_start e)
def pb_need_word (value_ many_ : D) : W (FW Unit Unit) :=
  iteW (notB (tst (p_is_word_of value_ many_))) (rz ⟨"InvalidWord", []⟩) (pu (FW.nx ()))
@[irreducible] def p_need_word (value_ many_ : D) : W D := fin (pb_need_word value_ many_)
theorem pe_need_word (value_ many_ : D) : p_need_word value_ many_ = fin (pb_need_word value_ many_) := by first | (unfold p_need_word; rfl) | unfold p_need_word
theorem js_need_word (value_ many_ : D) : JS [false, false] [.pl value_, .pl many_] b_need_word (pb_need_word value_ many_) (fun _ => [.any, .any]) (fun _ => [.any, .any]) :=
  (js_ifr (je_notB (je_t (je_call jd_is_word_of (c_v 0 (c_v 1 (c_nil rfl)))))) js_raise (nn_one nn_raise)
    (js_nx (x := ()) (.a rfl (.a rfl .nil))))
theorem jd_need_word : JD [false, false] m_need_word (ap2 p_need_word) :=
  jd_mk (n := 2) (body := b_need_word) [.any, .any] rfl (fun ds V e => by
    obtain ⟨value_, _, _, rfl, rfl, e0⟩ := startV_v e
    obtain ⟨many_, _, _, rfl, rfl, e1⟩ := startV_v e0
    obtain ⟨rfl, rfl⟩ := startV_n e1
    exact ⟨pb_need_word value_ many_, js_need_word value_ many_, pe_need_word value_ many_⟩) (fun ds V e => endB_start e)
def pb_joined_of (one_ other_ : D) : W (FW Unit Unit) :=
  bd (bd (lst (bd (opt (itemsOf other_)) (compW fun d1 => (opt (F_ix [one_, d1]))))) fun v2 => opt (F_tuple [v2])) fun d => pu (FW.rt d)
@[irreducible] def p_joined_of (one_ other_ : D) : W D := fin (pb_joined_of one_ other_)
theorem pe_joined_of (one_ other_ : D) : p_joined_of one_ other_ = fin (pb_joined_of one_ other_) := by first | (unfold p_joined_of; rfl) | unfold p_joined_of
theorem js_joined_of (one_ other_ : D) : JS [false, false] [.pl one_, .pl other_, .any] b_joined_of (pb_joined_of one_ other_) (fun _ => [.any, .any, .any]) (fun _ => [.any, .any, .any]) :=
  (js_ret (je_ops (k_c (je_fr (je_comp (je_seqa (ea_v 1)) fun d1 => (cy_run jg_nm (je_ops (k_a (oa_v 0) (k_a (oa_v 2) (k_nil rfl))))))) fun _ => (k_nil rfl))))
theorem jd_joined_of : JD [false, false] m_joined_of (ap2 p_joined_of) :=
  jd_mk (n := 3) (body := b_joined_of) [.any, .any, .any] rfl (fun ds V e => by
    obtain ⟨one_, _, _, rfl, rfl, e0⟩ := startV_v e
    obtain ⟨other_, _, _, rfl, rfl, e1⟩ := startV_v e0
    obtain ⟨rfl, rfl⟩ := startV_n e1
    exact ⟨pb_joined_of one_ other_, js_joined_of one_ other_, pe_joined_of one_ other_⟩) (fun ds V e => endB_start e)
def pb_back_of (turn_ : D) : W (FW Unit Unit) :=
  bd (bd (pu [(.int 0 : D)]) fun ds => bd (opt (F_len [turn_])) fun d => repW ds d) fun found_1 => seqW (bd (enumW turn_) fun items => forW (fun (d3 : D) (s2 : List D) => tup2 d3 fun at_4 own_5 => bd (ner (pu own_5)) fun k6 => bd (setW s2 k6 at_4) fun found_7 => pu (FW.nx found_7)) items found_1) fun (s8 : List D) => bd (opt (F_tuple [(.list s8 : D)])) fun d => pu (FW.rt d)
@[irreducible] def p_back_of (turn_ : D) : W D := fin (pb_back_of turn_)
theorem pe_back_of (turn_ : D) : p_back_of turn_ = fin (pb_back_of turn_) := by first | (unfold p_back_of; rfl) | unfold p_back_of
theorem js_back_of (turn_ : D) : JS [false] [.pl turn_, .any, .any, .any] b_back_of (pb_back_of turn_) (fun _ => [.any, .any, .any, .any]) (fun _ => [.any, .any, .any, .any]) :=
  (js_own (je_repc (je_lst (d_a ea_c (d_n rfl))) (je_ops (k_a (oa_v 0) (k_nil rfl)))) fun found_1 =>
    (js_seq (js_for (fun (s2 : List D) => [.pl turn_, .own false s2, .any, .any]) (je_enuma (ea_v 0)) (.r (.r (.r (.r .nil)))) fun d3 s2 =>
    (jt_tup2 (fun z => z) fun at_4 own_5 => (jt_tup (jts_nm (jts_nm (jts_nil (js_asga (ea_v 2)
    (jt_ix (i := 1) (je_a (ea_v 3)) fun found_7 =>
    (js_nx (x := found_7) (.r (.r (.a rfl (.a rfl .nil))))))))))))) fun s8 =>
    (js_ret (je_ops (k_a (oa_o 1) (k_nil rfl))))))
theorem jd_back_of : JD [false] m_back_of (ap1 p_back_of) :=
  jd_mk (n := 4) (body := b_back_of) [.any, .any, .any, .any] rfl (fun ds V e => by
    obtain ⟨turn_, _, _, rfl, rfl, e0⟩ := startV_v e
    obtain ⟨rfl, rfl⟩ := startV_n e0
    exact ⟨pb_back_of turn_, js_back_of turn_, pe_back_of turn_⟩) (fun ds V e => endB_start e)
def pb_plain_of (many_ : D) : W (FW Unit Unit) :=
  bd (bd (rg1 many_) rgT) fun d => pu (FW.rt d)
@[irreducible] def p_plain_of (many_ : D) : W D := fin (pb_plain_of many_)
theorem pe_plain_of (many_ : D) : p_plain_of many_ = fin (pb_plain_of many_) := by first | (unfold p_plain_of; rfl) | unfold p_plain_of
theorem js_plain_of (many_ : D) : JS [false] [.pl many_] b_plain_of (pb_plain_of many_) (fun _ => [.any]) (fun _ => [.any]) :=
  (js_ret (je_tRg (je_rg1a (ea_v 0))))
theorem jd_plain_of : JD [false] m_plain_of (ap1 p_plain_of) :=
  jd_mk (n := 1) (body := b_plain_of) [.any] rfl (fun ds V e => by
    obtain ⟨many_, _, _, rfl, rfl, e0⟩ := startV_v e
    obtain ⟨rfl, rfl⟩ := startV_n e0
    exact ⟨pb_plain_of many_, js_plain_of many_, pe_plain_of many_⟩) (fun ds V e => endB_start e)
def pb_turns_of (rows_ word_ : D) : W (FW Unit Unit) :=
  bd (bd (opt (F_len [rows_])) fun v1 => p_plain_of v1) fun turn_2 => bd (pu [turn_2]) fun found_3 => seqW (bd (opt (itemsOf word_)) fun items => forW (fun (d5 : D) (s4 : D × List D) => bd (bd (bd (opt (F_ix [rows_, d5])) fun v6 => p_back_of v6) fun v7 => p_joined_of s4.1 v7) fun turn_8 => bd (appW s4.2 turn_8) fun found_9 => pu (FW.nx (turn_8, found_9))) items (turn_2, found_3)) fun (s10 : D × List D) => bd (opt (F_tuple [(.list s10.2 : D)])) fun d => pu (FW.rt d)
@[irreducible] def p_turns_of (rows_ word_ : D) : W D := fin (pb_turns_of rows_ word_)
theorem pe_turns_of (rows_ word_ : D) : p_turns_of rows_ word_ = fin (pb_turns_of rows_ word_) := by first | (unfold p_turns_of; rfl) | unfold p_turns_of
theorem js_turns_of (rows_ word_ : D) : JS [false, false] [.pl rows_, .pl word_, .any, .any, .any] b_turns_of (pb_turns_of rows_ word_) (fun _ => [.any, .any, .any, .any, .any]) (fun _ => [.any, .any, .any, .any, .any]) :=
  (js_set (je_call jd_plain_of (c_c (je_ops (k_a (oa_v 0) (k_nil rfl))) fun _ => (c_nil rfl))) fun turn_2 =>
    (js_own (je_lst (d_a (ea_v 2) (d_n rfl))) fun found_3 =>
    (js_seq (js_for (fun (s4 : D × List D) => [.pl rows_, .pl word_, .pl s4.1, .own false s4.2, .any]) (je_seqa (ea_v 1)) (.r (.r (.r (.r (.r .nil))))) fun d5 s4 =>
    (jt_nm (js_set (je_call jd_joined_of (c_v 2 (c_c (je_call jd_back_of (c_c (je_ops (k_a (oa_v 0) (k_a (oa_v 4) (k_nil rfl)))) fun _ => (c_nil rfl))) fun _ => (c_nil rfl)))) fun turn_8 =>
    (js_appa (i := 3) (ea_v 2) fun found_9 =>
    (js_nx (x := (turn_8, found_9)) (.r (.r (.r (.r (.a rfl .nil)))))))))) fun s10 =>
    (js_ret (je_ops (k_a (oa_o 3) (k_nil rfl)))))))
theorem jd_turns_of : JD [false, false] m_turns_of (ap2 p_turns_of) :=
  jd_mk (n := 5) (body := b_turns_of) [.any, .any, .any, .any, .any] rfl (fun ds V e => by
    obtain ⟨rows_, _, _, rfl, rfl, e0⟩ := startV_v e
    obtain ⟨word_, _, _, rfl, rfl, e1⟩ := startV_v e0
    obtain ⟨rfl, rfl⟩ := startV_n e1
    exact ⟨pb_turns_of rows_ word_, js_turns_of rows_ word_, pe_turns_of rows_ word_⟩) (fun ds V e => endB_start e)
def pb_laid_of (rows_ word_ : D) : W (FW Unit Unit) :=
  bd (bd (lst (bd (bd (p_turns_of rows_ word_) fun v1 => zipW [v1, word_]) (compW fun d2 => tup2 d2 fun turn_3 own_4 => (opt (F_ix [turn_3, own_4]))))) fun v5 => opt (F_tuple [v5])) fun d => pu (FW.rt d)
@[irreducible] def p_laid_of (rows_ word_ : D) : W D := fin (pb_laid_of rows_ word_)
theorem pe_laid_of (rows_ word_ : D) : p_laid_of rows_ word_ = fin (pb_laid_of rows_ word_) := by first | (unfold p_laid_of; rfl) | unfold p_laid_of
theorem js_laid_of (rows_ word_ : D) : JS [false, false] [.pl rows_, .pl word_, .any, .any] b_laid_of (pb_laid_of rows_ word_) (fun _ => [.any, .any, .any, .any]) (fun _ => [.any, .any, .any, .any]) :=
  (js_ret (je_ops (k_c (je_fr (je_comp (je_zip (d_c (je_call jd_turns_of (c_v 0 (c_v 1 (c_nil rfl)))) fun _ => (d_a (ea_v 1) (d_n rfl)))) fun d2 => (cy_tup2 (fun z => z) fun turn_3 own_4 => (cy_run (jg_tup (jgs_cons jg_nm (jgs_cons jg_nm jgs_nil))) (je_ops (k_a (oa_v 2) (k_a (oa_v 3) (k_nil rfl)))))))) fun _ => (k_nil rfl))))
theorem jd_laid_of : JD [false, false] m_laid_of (ap2 p_laid_of) :=
  jd_mk (n := 4) (body := b_laid_of) [.any, .any, .any, .any] rfl (fun ds V e => by
    obtain ⟨rows_, _, _, rfl, rfl, e0⟩ := startV_v e
    obtain ⟨word_, _, _, rfl, rfl, e1⟩ := startV_v e0
    obtain ⟨rfl, rfl⟩ := startV_n e1
    exact ⟨pb_laid_of rows_ word_, js_laid_of rows_ word_, pe_laid_of rows_ word_⟩) (fun ds V e => endB_start e)
def pb_laid_row (rows_ word_ : D) : W (FW Unit Unit) :=
  bd (p_need_cycle_set rows_) fun _ => bd (bd (opt (F_len [rows_])) fun v1 => p_need_word word_ v1) fun _ => bd (p_laid_of rows_ word_) fun d => pu (FW.rt d)
@[irreducible] def p_laid_row (rows_ word_ : D) : W D := fin (pb_laid_row rows_ word_)
theorem pe_laid_row (rows_ word_ : D) : p_laid_row rows_ word_ = fin (pb_laid_row rows_ word_) := by first | (unfold p_laid_row; rfl) | unfold p_laid_row
theorem js_laid_row (rows_ word_ : D) : JS [false, false] [.pl rows_, .pl word_] b_laid_row (pb_laid_row rows_ word_) (fun _ => [.any, .any]) (fun _ => [.any, .any]) :=
  (js_drop (je_call jd_need_cycle_set (c_v 0 (c_nil rfl))) (js_drop (je_call jd_need_word (c_v 1 (c_c (je_ops (k_a (oa_v 0) (k_nil rfl))) fun _ => (c_nil rfl)))) (js_ret (je_call jd_laid_of (c_v 0 (c_v 1 (c_nil rfl)))))))
theorem jd_laid_row : JD [false, false] m_laid_row (ap2 p_laid_row) :=
  jd_mk (n := 2) (body := b_laid_row) [.any, .any] rfl (fun ds V e => by
    obtain ⟨rows_, _, _, rfl, rfl, e0⟩ := startV_v e
    obtain ⟨word_, _, _, rfl, rfl, e1⟩ := startV_v e0
    obtain ⟨rfl, rfl⟩ := startV_n e1
    exact ⟨pb_laid_row rows_ word_, js_laid_row rows_ word_, pe_laid_row rows_ word_⟩) (fun ds V e => endB_start e)
def pb_letter_adding (rows_ turn_ at_ : D) : W (FW Unit Unit) :=
  bd (bd (p_back_of turn_) fun v1 => opt (F_ix [v1, at_])) fun d => pu (FW.rt d)
@[irreducible] def p_letter_adding (rows_ turn_ at_ : D) : W D := fin (pb_letter_adding rows_ turn_ at_)
theorem pe_letter_adding (rows_ turn_ at_ : D) : p_letter_adding rows_ turn_ at_ = fin (pb_letter_adding rows_ turn_ at_) := by first | (unfold p_letter_adding; rfl) | unfold p_letter_adding
theorem js_letter_adding (rows_ turn_ at_ : D) : JS [false, false, false] [.pl rows_, .pl turn_, .pl at_] b_letter_adding (pb_letter_adding rows_ turn_ at_) (fun _ => [.any, .any, .any]) (fun _ => [.any, .any, .any]) :=
  (js_ret (je_ops (k_c (je_call jd_back_of (c_v 1 (c_nil rfl))) fun _ => (k_a (oa_v 2) (k_nil rfl)))))
theorem jd_letter_adding : JD [false, false, false] m_letter_adding (ap3 p_letter_adding) :=
  jd_mk (n := 3) (body := b_letter_adding) [.any, .any, .any] rfl (fun ds V e => by
    obtain ⟨rows_, _, _, rfl, rfl, e0⟩ := startV_v e
    obtain ⟨turn_, _, _, rfl, rfl, e1⟩ := startV_v e0
    obtain ⟨at_, _, _, rfl, rfl, e2⟩ := startV_v e1
    obtain ⟨rfl, rfl⟩ := startV_n e2
    exact ⟨pb_letter_adding rows_ turn_ at_, js_letter_adding rows_ turn_ at_, pe_letter_adding rows_ turn_ at_⟩) (fun ds V e => endB_start e)
def pb_word_of_laid (rows_ laid_ : D) : W (FW Unit Unit) :=
  bd (bd (opt (F_len [rows_])) fun v1 => p_plain_of v1) fun turn_2 => bd (pu []) fun found_3 => seqW (bd (opt (itemsOf laid_)) fun items => forW (fun (d5 : D) (s4 : List D × D) => bd (p_letter_adding rows_ s4.2 d5) fun own_6 => bd (appW s4.1 own_6) fun found_7 => bd (bd (bd (opt (F_ix [rows_, own_6])) fun v8 => p_back_of v8) fun v9 => p_joined_of s4.2 v9) fun turn_10 => pu (FW.nx (found_7, turn_10))) items (found_3, turn_2)) fun (s11 : List D × D) => bd (opt (F_tuple [(.list s11.1 : D)])) fun d => pu (FW.rt d)
@[irreducible] def p_word_of_laid (rows_ laid_ : D) : W D := fin (pb_word_of_laid rows_ laid_)
theorem pe_word_of_laid (rows_ laid_ : D) : p_word_of_laid rows_ laid_ = fin (pb_word_of_laid rows_ laid_) := by first | (unfold p_word_of_laid; rfl) | unfold p_word_of_laid
theorem js_word_of_laid (rows_ laid_ : D) : JS [false, false] [.pl rows_, .pl laid_, .any, .any, .any, .any] b_word_of_laid (pb_word_of_laid rows_ laid_) (fun _ => [.any, .any, .any, .any, .any, .any]) (fun _ => [.any, .any, .any, .any, .any, .any]) :=
  (js_pair (i := 2) (j := 3) (p_v (je_call jd_plain_of (c_c (je_ops (k_a (oa_v 0) (k_nil rfl))) fun _ => (c_nil rfl)))) (fun turn_2 => (p_o (je_lst (d_n rfl)))) fun turn_2 found_3 =>
    (js_seq (js_for (fun (s4 : List D × D) => [.pl rows_, .pl laid_, .pl s4.2, .own false s4.1, .any, .any]) (je_seqa (ea_v 1)) (.r (.r (.r (.r (.r (.r .nil)))))) fun d5 s4 =>
    (jt_nm (js_set (je_call jd_letter_adding (c_v 0 (c_v 2 (c_v 4 (c_nil rfl))))) fun own_6 =>
    (js_appa (i := 3) (ea_v 5) fun found_7 =>
    (js_set (je_call jd_joined_of (c_v 2 (c_c (je_call jd_back_of (c_c (je_ops (k_a (oa_v 0) (k_a (oa_v 5) (k_nil rfl)))) fun _ => (c_nil rfl))) fun _ => (c_nil rfl)))) fun turn_10 =>
    (js_nx (x := (found_7, turn_10)) (.r (.r (.r (.r (.a rfl (.a rfl .nil)))))))))))) fun s11 =>
    (js_ret (je_ops (k_a (oa_o 3) (k_nil rfl))))))
theorem jd_word_of_laid : JD [false, false] m_word_of_laid (ap2 p_word_of_laid) :=
  jd_mk (n := 6) (body := b_word_of_laid) [.any, .any, .any, .any, .any, .any] rfl (fun ds V e => by
    obtain ⟨rows_, _, _, rfl, rfl, e0⟩ := startV_v e
    obtain ⟨laid_, _, _, rfl, rfl, e1⟩ := startV_v e0
    obtain ⟨rfl, rfl⟩ := startV_n e1
    exact ⟨pb_word_of_laid rows_ laid_, js_word_of_laid rows_ laid_, pe_word_of_laid rows_ laid_⟩) (fun ds V e => endB_start e)
def pb_word_laid (rows_ laid_ : D) : W (FW Unit Unit) :=
  bd (p_need_cycle_set rows_) fun _ => bd (bd (opt (F_len [rows_])) fun v1 => p_need_word laid_ v1) fun _ => bd (p_word_of_laid rows_ laid_) fun d => pu (FW.rt d)
@[irreducible] def p_word_laid (rows_ laid_ : D) : W D := fin (pb_word_laid rows_ laid_)
theorem pe_word_laid (rows_ laid_ : D) : p_word_laid rows_ laid_ = fin (pb_word_laid rows_ laid_) := by first | (unfold p_word_laid; rfl) | unfold p_word_laid
theorem js_word_laid (rows_ laid_ : D) : JS [false, false] [.pl rows_, .pl laid_] b_word_laid (pb_word_laid rows_ laid_) (fun _ => [.any, .any]) (fun _ => [.any, .any]) :=
  (js_drop (je_call jd_need_cycle_set (c_v 0 (c_nil rfl))) (js_drop (je_call jd_need_word (c_v 1 (c_c (je_ops (k_a (oa_v 0) (k_nil rfl))) fun _ => (c_nil rfl)))) (js_ret (je_call jd_word_of_laid (c_v 0 (c_v 1 (c_nil rfl)))))))
theorem jd_word_laid : JD [false, false] m_word_laid (ap2 p_word_laid) :=
  jd_mk (n := 2) (body := b_word_laid) [.any, .any] rfl (fun ds V e => by
    obtain ⟨rows_, _, _, rfl, rfl, e0⟩ := startV_v e
    obtain ⟨laid_, _, _, rfl, rfl, e1⟩ := startV_v e0
    obtain ⟨rfl, rfl⟩ := startV_n e1
    exact ⟨pb_word_laid rows_ laid_, js_word_laid rows_ laid_, pe_word_laid rows_ laid_⟩) (fun ds V e => endB_start e)
def pb_turns_along (rows_ word_ : D) : W (FW Unit Unit) :=
  bd (p_need_cycle_set rows_) fun _ => bd (bd (opt (F_len [rows_])) fun v1 => p_need_word word_ v1) fun _ => bd (p_turns_of rows_ word_) fun d => pu (FW.rt d)
@[irreducible] def p_turns_along (rows_ word_ : D) : W D := fin (pb_turns_along rows_ word_)
theorem pe_turns_along (rows_ word_ : D) : p_turns_along rows_ word_ = fin (pb_turns_along rows_ word_) := by first | (unfold p_turns_along; rfl) | unfold p_turns_along
theorem js_turns_along (rows_ word_ : D) : JS [false, false] [.pl rows_, .pl word_] b_turns_along (pb_turns_along rows_ word_) (fun _ => [.any, .any]) (fun _ => [.any, .any]) :=
  (js_drop (je_call jd_need_cycle_set (c_v 0 (c_nil rfl))) (js_drop (je_call jd_need_word (c_v 1 (c_c (je_ops (k_a (oa_v 0) (k_nil rfl))) fun _ => (c_nil rfl)))) (js_ret (je_call jd_turns_of (c_v 0 (c_v 1 (c_nil rfl)))))))
theorem jd_turns_along : JD [false, false] m_turns_along (ap2 p_turns_along) :=
  jd_mk (n := 2) (body := b_turns_along) [.any, .any] rfl (fun ds V e => by
    obtain ⟨rows_, _, _, rfl, rfl, e0⟩ := startV_v e
    obtain ⟨word_, _, _, rfl, rfl, e1⟩ := startV_v e0
    obtain ⟨rfl, rfl⟩ := startV_n e1
    exact ⟨pb_turns_along rows_ word_, js_turns_along rows_ word_, pe_turns_along rows_ word_⟩) (fun ds V e => endB_start e)
def pb_need_whole (value_ low_ high_ : D) : W (FW Unit Unit) :=
  iteW (notB (tst (p_is_whole value_ low_ high_))) (rz ⟨"InvalidNumber", []⟩) (pu (FW.nx ()))
@[irreducible] def p_need_whole (value_ low_ high_ : D) : W D := fin (pb_need_whole value_ low_ high_)
theorem pe_need_whole (value_ low_ high_ : D) : p_need_whole value_ low_ high_ = fin (pb_need_whole value_ low_ high_) := by first | (unfold p_need_whole; rfl) | unfold p_need_whole
theorem js_need_whole (value_ low_ high_ : D) : JS [false, false, false] [.pl value_, .pl low_, .pl high_] b_need_whole (pb_need_whole value_ low_ high_) (fun _ => [.any, .any, .any]) (fun _ => [.any, .any, .any]) :=
  (js_ifr (je_notB (je_t (je_call jd_is_whole (c_v 0 (c_v 1 (c_v 2 (c_nil rfl))))))) js_raise (nn_one nn_raise)
    (js_nx (x := ()) (.a rfl (.a rfl (.a rfl .nil)))))
theorem jd_need_whole : JD [false, false, false] m_need_whole (ap3 p_need_whole) :=
  jd_mk (n := 3) (body := b_need_whole) [.any, .any, .any] rfl (fun ds V e => by
    obtain ⟨value_, _, _, rfl, rfl, e0⟩ := startV_v e
    obtain ⟨low_, _, _, rfl, rfl, e1⟩ := startV_v e0
    obtain ⟨high_, _, _, rfl, rfl, e2⟩ := startV_v e1
    obtain ⟨rfl, rfl⟩ := startV_n e2
    exact ⟨pb_need_whole value_ low_ high_, js_need_whole value_ low_ high_, pe_need_whole value_ low_ high_⟩) (fun ds V e => endB_start e)
def pb_frozen_word (rows_ letter_ many_ : D) : W (FW Unit Unit) :=
  bd (p_need_cycle_set rows_) fun _ => bd (bd (bd (opt (F_len [rows_])) fun v1 => opt (F_sub [v1, (.int 1 : D)])) fun v2 => p_need_whole letter_ (.int 0 : D) v2) fun _ => bd (p_need_whole many_ (.int 0 : D) (.int 60 : D)) fun _ => bd (bd (bd (pu (.tuple [letter_])) fun v3 => opt (F_mul [v3, many_])) fun v4 => p_word_of_laid rows_ v4) fun d => pu (FW.rt d)
@[irreducible] def p_frozen_word (rows_ letter_ many_ : D) : W D := fin (pb_frozen_word rows_ letter_ many_)
theorem pe_frozen_word (rows_ letter_ many_ : D) : p_frozen_word rows_ letter_ many_ = fin (pb_frozen_word rows_ letter_ many_) := by first | (unfold p_frozen_word; rfl) | unfold p_frozen_word
theorem js_frozen_word (rows_ letter_ many_ : D) : JS [false, false, false] [.pl rows_, .pl letter_, .pl many_] b_frozen_word (pb_frozen_word rows_ letter_ many_) (fun _ => [.any, .any, .any]) (fun _ => [.any, .any, .any]) :=
  (js_drop (je_call jd_need_cycle_set (c_v 0 (c_nil rfl))) (js_drop (je_call jd_need_whole (c_v 1 (c_k (c_c (je_ops (k_c (je_ops (k_a (oa_v 0) (k_nil rfl))) fun _ => (k_a oa_c (k_nil rfl)))) fun _ => (c_nil rfl))))) (js_drop (je_call jd_need_whole (c_v 2 (c_k (c_k (c_nil rfl))))) (js_ret (je_call jd_word_of_laid (c_v 0 (c_c (je_ops (k_c (je_tup (d_a (ea_v 1) (d_n rfl))) fun _ => (k_a (oa_v 2) (k_nil rfl)))) fun _ => (c_nil rfl))))))))
theorem jd_frozen_word : JD [false, false, false] m_frozen_word (ap3 p_frozen_word) :=
  jd_mk (n := 3) (body := b_frozen_word) [.any, .any, .any] rfl (fun ds V e => by
    obtain ⟨rows_, _, _, rfl, rfl, e0⟩ := startV_v e
    obtain ⟨letter_, _, _, rfl, rfl, e1⟩ := startV_v e0
    obtain ⟨many_, _, _, rfl, rfl, e2⟩ := startV_v e1
    obtain ⟨rfl, rfl⟩ := startV_n e2
    exact ⟨pb_frozen_word rows_ letter_ many_, js_frozen_word rows_ letter_ many_, pe_frozen_word rows_ letter_ many_⟩) (fun ds V e => endB_start e)
def pb__law_some (things_ : D) : W (FW Unit Unit) :=
  bd (bd (bd (opt (F_len [things_])) fun v1 => p__law_roll v1) fun v2 => opt (F_ix [things_, v2])) fun d => pu (FW.rt d)
@[irreducible] def p__law_some (things_ : D) : W D := fin (pb__law_some things_)
theorem pe__law_some (things_ : D) : p__law_some things_ = fin (pb__law_some things_) := by first | (unfold p__law_some; rfl) | unfold p__law_some
theorem js__law_some (things_ : D) : JS [true, false] [.cup true, .pl things_] b__law_some (pb__law_some things_) (fun _ => [.cup true, .any]) (fun _ => [.cup true, .any]) :=
  (js_ret (je_ops (k_a (oa_v 1) (k_c (je_call jd__law_roll (c_u 0 (c_c (je_ops (k_a (oa_v 1) (k_nil rfl))) fun _ => (c_nil rfl)))) fun _ => (k_nil rfl)))))
theorem jd__law_some : JD [true, false] m__law_some (ap1 p__law_some) :=
  jd_mk (n := 2) (body := b__law_some) [.cup true, .any] rfl (fun ds V e => by
    obtain ⟨_, rfl, e0⟩ := startV_c e
    obtain ⟨things_, _, _, rfl, rfl, e1⟩ := startV_v e0
    obtain ⟨rfl, rfl⟩ := startV_n e1
    exact ⟨pb__law_some things_, js__law_some things_, pe__law_some things_⟩) (fun ds V e => endB_start e)
def pb__law_sort (value_ : D) : W (FW Unit Unit) :=
  iteW (orB (tst (opt (F_isN [value_]))) (tst (opt (F_isi .bool [value_])))) (bd (iteW (tst (opt (F_isN [value_]))) (pu (.int 0 : D)) (pu (.int 1 : D))) fun d => pu (FW.rt d)) (iteW (orB (tst (opt (F_isi .int [value_]))) (tst (opt (F_isi .str [value_])))) (bd (iteW (tst (opt (F_isi .int [value_]))) (pu (.int 2 : D)) (pu (.int 3 : D))) fun d => pu (FW.rt d)) (bd (iteW (tst (opt (F_isi .tuple [value_]))) (pu (.int 4 : D)) (iteW (tst (opt (F_isi .list [value_]))) (pu (.int 5 : D)) (pu (.int 6 : D)))) fun d => pu (FW.rt d)))
@[irreducible] def p__law_sort (value_ : D) : W D := fin (pb__law_sort value_)
theorem pe__law_sort (value_ : D) : p__law_sort value_ = fin (pb__law_sort value_) := by first | (unfold p__law_sort; rfl) | unfold p__law_sort
theorem js__law_sort (value_ : D) : JS [false] [.pl value_] b__law_sort (pb__law_sort value_) (fun _ => [.any]) (fun _ => [.any]) :=
  (js_ifr (je_orB (je_t (je_ops (k_a (oa_v 0) (k_nil rfl)))) (je_t (je_ops (k_a (oa_v 0) (k_nil rfl))))) (js_ret (je_if (je_t (je_ops (k_a (oa_v 0) (k_nil rfl)))) (je_a ea_c) (je_a ea_c))) (nn_one nn_ret)
    (js_ifr (je_orB (je_t (je_ops (k_a (oa_v 0) (k_nil rfl)))) (je_t (je_ops (k_a (oa_v 0) (k_nil rfl))))) (js_ret (je_if (je_t (je_ops (k_a (oa_v 0) (k_nil rfl)))) (je_a ea_c) (je_a ea_c))) (nn_one nn_ret)
    (js_ret (je_if (je_t (je_ops (k_a (oa_v 0) (k_nil rfl)))) (je_a ea_c) (je_if (je_t (je_ops (k_a (oa_v 0) (k_nil rfl)))) (je_a ea_c) (je_a ea_c))))))
theorem jd__law_sort : JD [false] m__law_sort (ap1 p__law_sort) :=
  jd_mk (n := 1) (body := b__law_sort) [.any] rfl (fun ds V e => by
    obtain ⟨value_, _, _, rfl, rfl, e0⟩ := startV_v e
    obtain ⟨rfl, rfl⟩ := startV_n e0
    exact ⟨pb__law_sort value_, js__law_sort value_, pe__law_sort value_⟩) (fun ds V e => endB_start e)
def pb__law_like (pr : D → D → W D) (one_ other_ : D) : W (FW Unit Unit) :=
  bd (p__law_sort other_) fun sort_1 => iteW (orB (tst (bd (p__law_sort one_) fun v2 => opt (F_ne [v2, sort_1]))) (tst (opt (F_eq [sort_1, (.int 6 : D)])))) (pu (FW.rt (.bool false : D))) (iteW (tst (bd (pu (.tuple [(.int 4 : D), (.int 5 : D)])) fun v3 => opt (F_in [sort_1, v3]))) (bd (andD (bd (opt (F_len [one_])) fun v9 => bd (opt (F_len [other_])) fun v10 => opt (F_eq [v9, v10])) (bd (lst (bd (zipW [one_, other_]) (filtW fun d4 => tup2 d4 fun first_5 second_6 => keepW (notB (tst (pr first_5 second_6))) (pu (.int 1 : D))))) fun v7 => bd (pu (.list [])) fun v8 => opt (F_eq [v7, v8]))) fun d => pu (FW.rt d)) (bd (opt (F_eq [one_, other_])) fun d => pu (FW.rt d)))
def pp__law_like : Nat → D → D → W D
  | 0 => fun _ _ => no
  | n + 1 => fun one_ other_ => fin (pb__law_like (pp__law_like n) one_ other_)
def p__law_like : D → D → W D := pp__law_like 12
theorem js__law_like {mr : MF} {pr : D → D → W D} (hm : JD [false, false] mr (ap2 pr)) (one_ other_ : D) : JS [false, false] [.pl one_, .pl other_, .any, .any, .any] (b__law_like mr) (pb__law_like pr one_ other_) (fun _ => [.any, .any, .any, .any, .any]) (fun _ => [.any, .any, .any, .any, .any]) :=
  (js_set (je_call jd__law_sort (c_v 1 (c_nil rfl))) fun sort_1 =>
    (js_ifr (je_orB (je_t (je_ops (k_c (je_call jd__law_sort (c_v 0 (c_nil rfl))) fun _ => (k_a (oa_v 2) (k_nil rfl))))) (je_t (je_ops (k_a (oa_v 2) (k_a oa_c (k_nil rfl)))))) (js_reta ea_c) (nn_one nn_ret)
    (js_ifr (je_t (je_ops (k_a (oa_v 2) (k_c (je_tup (d_a ea_c (d_a ea_c (d_n rfl)))) fun _ => (k_nil rfl))))) (js_ret (je_and (je_ops (k_c (je_ops (k_a (oa_v 0) (k_nil rfl))) fun _ => (k_c (je_ops (k_a (oa_v 1) (k_nil rfl))) fun _ => (k_nil rfl)))) (je_ops (k_c (je_fr (je_filt (je_zip (d_a (ea_v 0) (d_a (ea_v 1) (d_n rfl)))) fun d4 => (ct_tup2 (fun z => z) fun first_5 second_6 => (ct_run (jg_tup (jgs_cons jg_nm (jgs_cons jg_nm jgs_nil))) (je_notB (je_t (je_call hm (c_v 3 (c_v 4 (c_nil rfl)))))) (je_a ea_c))))) fun _ => (k_c (je_list (d_n rfl)) fun _ => (k_nil rfl)))))) (nn_one nn_ret)
    (js_ret (je_ops (k_a (oa_v 0) (k_a (oa_v 1) (k_nil rfl))))))))
theorem jd__law_like : JD [false, false] m__law_like (ap2 p__law_like) :=
  jd_rec (mm := mm__law_like) (pp := fun n => ap2 (pp__law_like n)) rfl (by funext ds; unfold ap2; split <;> rfl) (fun n hm => jd_mk (n := 5) (body := b__law_like (mm__law_like n)) [.any, .any, .any, .any, .any] rfl (fun ds V e => by
    obtain ⟨one_, _, _, rfl, rfl, e0⟩ := startV_v e
    obtain ⟨other_, _, _, rfl, rfl, e1⟩ := startV_v e0
    obtain ⟨rfl, rfl⟩ := startV_n e1
    exact ⟨pb__law_like (pp__law_like n) one_ other_, js__law_like hm one_ other_, rfl⟩) (fun ds V e => endB_start e)) 12
def pb__law_turn (many_ : D) : W (FW Unit Unit) :=
  bd (lst (bd (rg1 many_) rgL)) fun v3 => bd (pu (.list [])) fun v4 => par2 [v3, v4] fun left_1 found_2 => seqW (bd (bd (rg1 many_) rgI) fun items => forW (fun (d6 : D) (s5 : D × D) => bd (bd (opt (F_len [s5.2])) fun v7 => p__law_roll v7) fun at_8 => bd (bd (bd (opt (F_ix [s5.2, at_8])) fun v9 => pu (.list [v9])) fun v10 => opt (F_add [s5.1, v10])) fun found_11 => bd (bd (bd (pu none) fun lo => bd (partW at_8) fun hi => opt (F_sl s5.2 lo hi)) fun v12 => bd (bd (bd (opt (F_add [at_8, (.int 1 : D)])) partW) fun lo => bd (pu none) fun hi => opt (F_sl s5.2 lo hi)) fun v13 => opt (F_add [v12, v13])) fun left_14 => pu (FW.nx (found_11, left_14))) items (found_2, left_1)) fun (s15 : D × D) => bd (opt (F_tuple [s15.1])) fun d => pu (FW.rt d)
@[irreducible] def p__law_turn (many_ : D) : W D := fin (pb__law_turn many_)
theorem pe__law_turn (many_ : D) : p__law_turn many_ = fin (pb__law_turn many_) := by first | (unfold p__law_turn; rfl) | unfold p__law_turn
theorem js__law_turn (many_ : D) : JS [true, false] [.cup true, .pl many_, .any, .any, .any, .any] b__law_turn (pb__law_turn many_) (fun _ => [.cup true, .any, .any, .any, .any, .any]) (fun _ => [.cup true, .any, .any, .any, .any, .any]) :=
  (js_par2 (d_c (je_fr (je_fRg (je_rg1a (ea_v 1)))) fun _ => (d_c (je_list (d_n rfl)) fun _ => (d_n rfl))) fun left_1 found_2 =>
    (js_seq (js_for (fun (s5 : D × D) => [.cup true, .pl many_, .pl s5.2, .pl s5.1, .any, .any]) (je_iRg (je_rg1a (ea_v 1))) (.r (.r (.r (.r (.r (.r .nil)))))) fun d6 s5 =>
    (jt_nm (js_set (je_call jd__law_roll (c_u 0 (c_c (je_ops (k_a (oa_v 2) (k_nil rfl))) fun _ => (c_nil rfl)))) fun at_8 =>
    (js_set (je_ops (k_a (oa_v 3) (k_c (je_list (d_c (je_ops (k_a (oa_v 2) (k_a (oa_v 5) (k_nil rfl)))) fun _ => (d_n rfl))) fun _ => (k_nil rfl)))) fun found_11 =>
    (js_set (je_ops (k_c (je_sla (oa_v 2) je_ptn (je_ptsa (ea_v 5))) fun _ => (k_c (je_sla (oa_v 2) (je_pts (je_ops (k_a (oa_v 5) (k_a oa_c (k_nil rfl))))) je_ptn) fun _ => (k_nil rfl)))) fun left_14 =>
    (js_nx (x := (found_11, left_14)) (.r (.r (.r (.r (.a rfl (.a rfl .nil)))))))))))) fun s15 =>
    (js_ret (je_ops (k_a (oa_v 3) (k_nil rfl))))))
theorem jd__law_turn : JD [true, false] m__law_turn (ap1 p__law_turn) :=
  jd_mk (n := 6) (body := b__law_turn) [.cup true, .any, .any, .any, .any, .any] rfl (fun ds V e => by
    obtain ⟨_, rfl, e0⟩ := startV_c e
    obtain ⟨many_, _, _, rfl, rfl, e1⟩ := startV_v e0
    obtain ⟨rfl, rfl⟩ := startV_n e1
    exact ⟨pb__law_turn many_, js__law_turn many_, pe__law_turn many_⟩) (fun ds V e => endB_start e)
def pb__law_beside (one_ other_ : D) : W (FW Unit Unit) :=
  bd (bd (opt (F_len [one_])) fun v1 => bd (opt (F_len [other_])) fun v2 => pu (.tuple [v1, v2])) fun d3 => tup2 d3 fun first_4 second_5 => bd (lst (bd (opt (itemsOf one_)) (compW fun d6 => (bd (bd (rg2 (pu first_4) (opt (F_add [first_4, second_5]))) rgT) fun v7 => opt (F_add [d6, v7]))))) fun rows_8 => bd (bd (bd (lst (bd (opt (itemsOf other_)) (compW fun d9 => (bd (bd (rg1 first_4) rgT) fun v10 => bd (bd (lst (bd (opt (itemsOf d9)) (compW fun d11 => (opt (F_add [first_4, d11]))))) fun v12 => opt (F_tuple [v12])) fun v13 => opt (F_add [v10, v13]))))) fun v14 => opt (F_add [rows_8, v14])) fun v15 => opt (F_tuple [v15])) fun d => pu (FW.rt d)
@[irreducible] def p__law_beside (one_ other_ : D) : W D := fin (pb__law_beside one_ other_)
theorem pe__law_beside (one_ other_ : D) : p__law_beside one_ other_ = fin (pb__law_beside one_ other_) := by first | (unfold p__law_beside; rfl) | unfold p__law_beside
theorem js__law_beside (one_ other_ : D) : JS [false, false] [.pl one_, .pl other_, .any, .any, .any, .any, .any] b__law_beside (pb__law_beside one_ other_) (fun _ => [.any, .any, .any, .any, .any, .any, .any]) (fun _ => [.any, .any, .any, .any, .any, .any, .any]) :=
  (js_asg (je_tup (d_c (je_ops (k_a (oa_v 0) (k_nil rfl))) fun _ => (d_c (je_ops (k_a (oa_v 1) (k_nil rfl))) fun _ => (d_n rfl)))) fun d3 =>
    (jt_tup2 (fun z => z) fun first_4 second_5 => (jt_tup (jts_nm (jts_nm (jts_nil (js_set (je_fr (je_comp (je_seqa (ea_v 0)) fun d6 => (cy_run jg_nm (je_ops (k_a (oa_v 5) (k_c (je_tRg (je_rg2 (je_a (ea_v 2)) (je_ops (k_a (oa_v 2) (k_a (oa_v 3) (k_nil rfl)))))) fun _ => (k_nil rfl))))))) fun rows_8 =>
    (js_ret (je_ops (k_c (je_ops (k_a (oa_v 4) (k_c (je_fr (je_comp (je_seqa (ea_v 1)) fun d9 => (cy_run jg_nm (je_ops (k_c (je_tRg (je_rg1a (ea_v 2))) fun _ => (k_c (je_ops (k_c (je_fr (je_comp (je_seqa (ea_v 5)) fun d11 => (cy_run jg_nm (je_ops (k_a (oa_v 2) (k_a (oa_v 6) (k_nil rfl))))))) fun _ => (k_nil rfl))) fun _ => (k_nil rfl))))))) fun _ => (k_nil rfl)))) fun _ => (k_nil rfl)))))))))))
theorem jd__law_beside : JD [false, false] m__law_beside (ap2 p__law_beside) :=
  jd_mk (n := 7) (body := b__law_beside) [.any, .any, .any, .any, .any, .any, .any] rfl (fun ds V e => by
    obtain ⟨one_, _, _, rfl, rfl, e0⟩ := startV_v e
    obtain ⟨other_, _, _, rfl, rfl, e1⟩ := startV_v e0
    obtain ⟨rfl, rfl⟩ := startV_n e1
    exact ⟨pb__law_beside one_ other_, js__law_beside one_ other_, pe__law_beside one_ other_⟩) (fun ds V e => endB_start e)
def pb__law_renamed (rows_ turn_ : D) : W (FW Unit Unit) :=
  bd (opt (F_len [rows_])) fun many_1 => bd (bd (lst (bd (bd (rg1 many_1) rgI) (compW fun d2 => (bd (lst (bd (bd (rg1 many_1) rgI) (compW fun d3 => (bd (bd (bd (idxW turn_ d2) fun v4 => opt (F_ix [rows_, v4])) fun v5 => bd (idxW turn_ d3) fun v6 => opt (F_ix [v5, v6])) fun v7 => opt (F_ix [turn_, v7]))))) fun v8 => opt (F_tuple [v8]))))) fun v9 => opt (F_tuple [v9])) fun d => pu (FW.rt d)
@[irreducible] def p__law_renamed (rows_ turn_ : D) : W D := fin (pb__law_renamed rows_ turn_)
theorem pe__law_renamed (rows_ turn_ : D) : p__law_renamed rows_ turn_ = fin (pb__law_renamed rows_ turn_) := by first | (unfold p__law_renamed; rfl) | unfold p__law_renamed
theorem js__law_renamed (rows_ turn_ : D) : JS [false, false] [.pl rows_, .pl turn_, .any, .any, .any] b__law_renamed (pb__law_renamed rows_ turn_) (fun _ => [.any, .any, .any, .any, .any]) (fun _ => [.any, .any, .any, .any, .any]) :=
  (js_set (je_ops (k_a (oa_v 0) (k_nil rfl))) fun many_1 =>
    (js_ret (je_ops (k_c (je_fr (je_comp (je_iRg (je_rg1a (ea_v 2))) fun d2 => (cy_run jg_nm (je_ops (k_c (je_fr (je_comp (je_iRg (je_rg1a (ea_v 2))) fun d3 => (cy_run jg_nm (je_ops (k_a (oa_v 1) (k_c (je_ops (k_c (je_ops (k_a (oa_v 0) (k_c (je_idx (t2 := (pu d2)) (k_a (oa_v 1) (k_nil rfl)) (n_a (oa_v 3))) fun _ => (k_nil rfl)))) fun _ => (k_c (je_idx (t2 := (pu d3)) (k_a (oa_v 1) (k_nil rfl)) (n_a (oa_v 4))) fun _ => (k_nil rfl)))) fun _ => (k_nil rfl))))))) fun _ => (k_nil rfl)))))) fun _ => (k_nil rfl)))))
theorem jd__law_renamed : JD [false, false] m__law_renamed (ap2 p__law_renamed) :=
  jd_mk (n := 5) (body := b__law_renamed) [.any, .any, .any, .any, .any] rfl (fun ds V e => by
    obtain ⟨rows_, _, _, rfl, rfl, e0⟩ := startV_v e
    obtain ⟨turn_, _, _, rfl, rfl, e1⟩ := startV_v e0
    obtain ⟨rfl, rfl⟩ := startV_n e1
    exact ⟨pb__law_renamed rows_ turn_, js__law_renamed rows_ turn_, pe__law_renamed rows_ turn_⟩) (fun ds V e => endB_start e)
def pb__law_rows : W (FW Unit Unit) :=
  bd (bd (p__law_stock) fun v3 => p__law_some v3) fun v4 => bd (bd (p__law_stock) fun v5 => p__law_some v5) fun v6 => par2 [v4, v6] fun one_1 other_2 => bd (iteW (tst (bd (p__law_roll (.int 3 : D)) fun v7 => opt (F_gt [v7, (.int 0 : D)]))) (p__law_beside one_1 other_2) (pu one_1)) fun rows_8 => bd (bd (bd (opt (F_len [rows_8])) fun v9 => p__law_turn v9) fun v10 => p__law_renamed rows_8 v10) fun d => pu (FW.rt d)
@[irreducible] def p__law_rows : W D := fin (pb__law_rows )
theorem pe__law_rows : p__law_rows  = fin (pb__law_rows ) := by first | (unfold p__law_rows; rfl) | unfold p__law_rows
theorem js__law_rows : JS [true] [.cup true, .any, .any, .any] b__law_rows (pb__law_rows ) (fun _ => [.cup true, .any, .any, .any]) (fun _ => [.cup true, .any, .any, .any]) :=
  (js_par2 (d_c (je_call jd__law_some (c_u 0 (c_c (je_call jd__law_stock (c_nil rfl)) fun _ => (c_nil rfl)))) fun _ => (d_c (je_call jd__law_some (c_u 0 (c_c (je_call jd__law_stock (c_nil rfl)) fun _ => (c_nil rfl)))) fun _ => (d_n rfl))) fun one_1 other_2 =>
    (js_set (je_if (je_t (je_ops (k_c (je_call jd__law_roll (c_u 0 (c_k (c_nil rfl)))) fun _ => (k_a oa_c (k_nil rfl))))) (je_call jd__law_beside (c_v 1 (c_v 2 (c_nil rfl)))) (je_a (ea_v 1))) fun rows_8 =>
    (js_ret (je_call jd__law_renamed (c_v 3 (c_c (je_call jd__law_turn (c_u 0 (c_c (je_ops (k_a (oa_v 3) (k_nil rfl))) fun _ => (c_nil rfl)))) fun _ => (c_nil rfl)))))))
theorem jd__law_rows : JD [true] m__law_rows (ap0 p__law_rows) :=
  jd_mk (n := 4) (body := b__law_rows) [.cup true, .any, .any, .any] rfl (fun ds V e => by
    obtain ⟨_, rfl, e0⟩ := startV_c e
    obtain ⟨rfl, rfl⟩ := startV_n e0
    exact ⟨pb__law_rows , js__law_rows , pe__law_rows ⟩) (fun ds V e => endB_start e)
def pb__law_word (many_ most_ : D) : W (FW Unit Unit) :=
  bd (bd (lst (bd (bd (bd (bd (opt (F_add [most_, (.int 1 : D)])) fun v1 => p__law_roll v1) rg1) rgI) (compW fun d2 => (p__law_roll many_)))) fun v3 => opt (F_tuple [v3])) fun d => pu (FW.rt d)
@[irreducible] def p__law_word (many_ most_ : D) : W D := fin (pb__law_word many_ most_)
theorem pe__law_word (many_ most_ : D) : p__law_word many_ most_ = fin (pb__law_word many_ most_) := by first | (unfold p__law_word; rfl) | unfold p__law_word
theorem js__law_word (many_ most_ : D) : JS [true, false, false] [.cup true, .pl many_, .pl most_, .any] b__law_word (pb__law_word many_ most_) (fun _ => [.cup true, .any, .any, .any]) (fun _ => [.cup true, .any, .any, .any]) :=
  (js_ret (je_ops (k_c (je_fr (je_comp (je_iRg (je_rg1 (je_call jd__law_roll (c_u 0 (c_c (je_ops (k_a (oa_v 2) (k_a oa_c (k_nil rfl)))) fun _ => (c_nil rfl)))))) fun d2 => (cy_run jg_nm (je_call jd__law_roll (c_u 0 (c_v 1 (c_nil rfl))))))) fun _ => (k_nil rfl))))
theorem jd__law_word : JD [true, false, false] m__law_word (ap2 p__law_word) :=
  jd_mk (n := 4) (body := b__law_word) [.cup true, .any, .any, .any] rfl (fun ds V e => by
    obtain ⟨_, rfl, e0⟩ := startV_c e
    obtain ⟨many_, _, _, rfl, rfl, e1⟩ := startV_v e0
    obtain ⟨most_, _, _, rfl, rfl, e2⟩ := startV_v e1
    obtain ⟨rfl, rfl⟩ := startV_n e2
    exact ⟨pb__law_word many_ most_, js__law_word many_ most_, pe__law_word many_ most_⟩) (fun ds V e => endB_start e)
def pb__law_pair (rows_ one_ other_ : D) : W (FW Unit Unit) :=
  bd (bd (opt (F_ix [rows_, one_])) fun v1 => idxW v1 other_) fun first_2 => bd (bd (bd (opt (F_ix [rows_, first_2])) fun v3 => opt (F_ix [v3, one_])) fun v4 => pu (.tuple [first_2, v4])) fun d => pu (FW.rt d)
@[irreducible] def p__law_pair (rows_ one_ other_ : D) : W D := fin (pb__law_pair rows_ one_ other_)
theorem pe__law_pair (rows_ one_ other_ : D) : p__law_pair rows_ one_ other_ = fin (pb__law_pair rows_ one_ other_) := by first | (unfold p__law_pair; rfl) | unfold p__law_pair
theorem js__law_pair (rows_ one_ other_ : D) : JS [false, false, false] [.pl rows_, .pl one_, .pl other_, .any] b__law_pair (pb__law_pair rows_ one_ other_) (fun _ => [.any, .any, .any, .any]) (fun _ => [.any, .any, .any, .any]) :=
  (js_set (je_idx (t2 := (pu other_)) (k_c (je_ops (k_a (oa_v 0) (k_a (oa_v 1) (k_nil rfl)))) fun _ => (k_nil rfl)) (n_a (oa_v 2))) fun first_2 =>
    (js_ret (je_tup (d_a (ea_v 3) (d_c (je_ops (k_c (je_ops (k_a (oa_v 0) (k_a (oa_v 3) (k_nil rfl)))) fun _ => (k_a (oa_v 1) (k_nil rfl)))) fun _ => (d_n rfl))))))
theorem jd__law_pair : JD [false, false, false] m__law_pair (ap3 p__law_pair) :=
  jd_mk (n := 4) (body := b__law_pair) [.any, .any, .any, .any] rfl (fun ds V e => by
    obtain ⟨rows_, _, _, rfl, rfl, e0⟩ := startV_v e
    obtain ⟨one_, _, _, rfl, rfl, e1⟩ := startV_v e0
    obtain ⟨other_, _, _, rfl, rfl, e2⟩ := startV_v e1
    obtain ⟨rfl, rfl⟩ := startV_n e2
    exact ⟨pb__law_pair rows_ one_ other_, js__law_pair rows_ one_ other_, pe__law_pair rows_ one_ other_⟩) (fun ds V e => endB_start e)
def pb__law_front (rows_ word_ place_ : D) : W (FW Unit Unit) :=
  bd (opt (F_ix [word_, place_])) fun found_1 => seqW (bd (bd (rg1 place_) rgI) fun items => forW (fun (d3 : D) (s2 : D) => bd (bd (bd (bd (bd (opt (F_sub [place_, (.int 1 : D)])) fun v4 => opt (F_sub [v4, d3])) fun v5 => opt (F_ix [word_, v5])) fun v6 => p__law_pair rows_ v6 s2) fun v7 => opt (F_ix [v7, (.int 0 : D)])) fun found_8 => pu (FW.nx found_8)) items found_1) fun (s9 : D) => pu (FW.rt s9)
@[irreducible] def p__law_front (rows_ word_ place_ : D) : W D := fin (pb__law_front rows_ word_ place_)
theorem pe__law_front (rows_ word_ place_ : D) : p__law_front rows_ word_ place_ = fin (pb__law_front rows_ word_ place_) := by first | (unfold p__law_front; rfl) | unfold p__law_front
theorem js__law_front (rows_ word_ place_ : D) : JS [false, false, false] [.pl rows_, .pl word_, .pl place_, .any, .any] b__law_front (pb__law_front rows_ word_ place_) (fun _ => [.any, .any, .any, .any, .any]) (fun _ => [.any, .any, .any, .any, .any]) :=
  (js_set (je_ops (k_a (oa_v 1) (k_a (oa_v 2) (k_nil rfl)))) fun found_1 =>
    (js_seq (js_for (fun (s2 : D) => [.pl rows_, .pl word_, .pl place_, .pl s2, .any]) (je_iRg (je_rg1a (ea_v 2))) (.r (.r (.r (.r (.r .nil))))) fun d3 s2 =>
    (jt_nm (js_set (je_ops (k_c (je_call jd__law_pair (c_v 0 (c_c (je_ops (k_a (oa_v 1) (k_c (je_ops (k_c (je_ops (k_a (oa_v 2) (k_a oa_c (k_nil rfl)))) fun _ => (k_a (oa_v 4) (k_nil rfl)))) fun _ => (k_nil rfl)))) fun _ => (c_v 3 (c_nil rfl))))) fun _ => (k_a oa_c (k_nil rfl)))) fun found_8 =>
    (js_nx (x := found_8) (.r (.r (.r (.r (.a rfl .nil))))))))) fun s9 =>
    (js_reta (ea_v 3))))
theorem jd__law_front : JD [false, false, false] m__law_front (ap3 p__law_front) :=
  jd_mk (n := 5) (body := b__law_front) [.any, .any, .any, .any, .any] rfl (fun ds V e => by
    obtain ⟨rows_, _, _, rfl, rfl, e0⟩ := startV_v e
    obtain ⟨word_, _, _, rfl, rfl, e1⟩ := startV_v e0
    obtain ⟨place_, _, _, rfl, rfl, e2⟩ := startV_v e1
    obtain ⟨rfl, rfl⟩ := startV_n e2
    exact ⟨pb__law_front rows_ word_ place_, js__law_front rows_ word_ place_, pe__law_front rows_ word_ place_⟩) (fun ds V e => endB_start e)
def pb__law_laid (rows_ word_ : D) : W (FW Unit Unit) :=
  bd (bd (lst (bd (bd (bd (opt (F_len [word_])) rg1) rgI) (compW fun d1 => (p__law_front rows_ word_ d1)))) fun v2 => opt (F_tuple [v2])) fun d => pu (FW.rt d)
@[irreducible] def p__law_laid (rows_ word_ : D) : W D := fin (pb__law_laid rows_ word_)
theorem pe__law_laid (rows_ word_ : D) : p__law_laid rows_ word_ = fin (pb__law_laid rows_ word_) := by first | (unfold p__law_laid; rfl) | unfold p__law_laid
theorem js__law_laid (rows_ word_ : D) : JS [false, false] [.pl rows_, .pl word_, .any] b__law_laid (pb__law_laid rows_ word_) (fun _ => [.any, .any, .any]) (fun _ => [.any, .any, .any]) :=
  (js_ret (je_ops (k_c (je_fr (je_comp (je_iRg (je_rg1 (je_ops (k_a (oa_v 1) (k_nil rfl))))) fun d1 => (cy_run jg_nm (je_call jd__law_front (c_v 0 (c_v 1 (c_v 2 (c_nil rfl)))))))) fun _ => (k_nil rfl))))
theorem jd__law_laid : JD [false, false] m__law_laid (ap2 p__law_laid) :=
  jd_mk (n := 3) (body := b__law_laid) [.any, .any, .any] rfl (fun ds V e => by
    obtain ⟨rows_, _, _, rfl, rfl, e0⟩ := startV_v e
    obtain ⟨word_, _, _, rfl, rfl, e1⟩ := startV_v e0
    obtain ⟨rfl, rfl⟩ := startV_n e1
    exact ⟨pb__law_laid rows_ word_, js__law_laid rows_ word_, pe__law_laid rows_ word_⟩) (fun ds V e => endB_start e)
def pb__law_ahead (rows_ word_ : D) : W (FW Unit Unit) :=
  bd (bd (lst (bd (bd (bd (opt (F_len [rows_])) rg1) rgI) (compW fun d1 => (bd (bd (pu (.tuple [d1])) fun v2 => opt (F_add [word_, v2])) fun v3 => bd (opt (F_len [word_])) fun v4 => p__law_front rows_ v3 v4)))) fun v5 => opt (F_tuple [v5])) fun d => pu (FW.rt d)
@[irreducible] def p__law_ahead (rows_ word_ : D) : W D := fin (pb__law_ahead rows_ word_)
theorem pe__law_ahead (rows_ word_ : D) : p__law_ahead rows_ word_ = fin (pb__law_ahead rows_ word_) := by first | (unfold p__law_ahead; rfl) | unfold p__law_ahead
theorem js__law_ahead (rows_ word_ : D) : JS [false, false] [.pl rows_, .pl word_, .any] b__law_ahead (pb__law_ahead rows_ word_) (fun _ => [.any, .any, .any]) (fun _ => [.any, .any, .any]) :=
  (js_ret (je_ops (k_c (je_fr (je_comp (je_iRg (je_rg1 (je_ops (k_a (oa_v 0) (k_nil rfl))))) fun d1 => (cy_run jg_nm (je_call jd__law_front (c_v 0 (c_c (je_ops (k_a (oa_v 1) (k_c (je_tup (d_a (ea_v 2) (d_n rfl))) fun _ => (k_nil rfl)))) fun _ => (c_c (je_ops (k_a (oa_v 1) (k_nil rfl))) fun _ => (c_nil rfl)))))))) fun _ => (k_nil rfl))))
theorem jd__law_ahead : JD [false, false] m__law_ahead (ap2 p__law_ahead) :=
  jd_mk (n := 3) (body := b__law_ahead) [.any, .any, .any] rfl (fun ds V e => by
    obtain ⟨rows_, _, _, rfl, rfl, e0⟩ := startV_v e
    obtain ⟨word_, _, _, rfl, rfl, e1⟩ := startV_v e0
    obtain ⟨rfl, rfl⟩ := startV_n e1
    exact ⟨pb__law_ahead rows_ word_, js__law_ahead rows_ word_, pe__law_ahead rows_ word_⟩) (fun ds V e => endB_start e)
def pb__law_words_right : W (FW Unit Unit) :=
  bd (p__law_rows) fun rows_1 => bd (opt (F_len [rows_1])) fun many_2 => bd (bd (bd (pu (.list [(.int 4 : D), (.int 7 : D), (.int 7 : D), (.int 60 : D)])) fun v3 => p__law_some v3) fun v4 => p__law_word many_2 v4) fun word_5 => bd (p__law_laid rows_1 word_5) fun due_6 => iteW (notB (tst (bd (bd (p_laid_row rows_1 word_5) fun v7 => bd (p_word_laid rows_1 due_6) fun v8 => pu (.list [v7, v8])) fun v9 => bd (pu (.list [due_6, word_5])) fun v10 => p__law_like v9 v10))) (pu (FW.rt (.bool false : D))) (bd (bd (lst (bd (bd (bd (bd (opt (F_len [word_5])) fun v11 => opt (F_add [v11, (.int 1 : D)])) rg1) rgI) (compW fun d12 => (bd (bd (pu none) fun lo => bd (partW d12) fun hi => opt (F_sl word_5 lo hi)) fun v13 => p__law_ahead rows_1 v13)))) fun v14 => opt (F_tuple [v14])) fun due_15 => iteW (notB (tst (bd (p_turns_along rows_1 word_5) fun v16 => p__law_like v16 due_15))) (pu (FW.rt (.bool false : D))) (bd (bd (bd (pu (.list [(.int 4 : D), (.int 7 : D), (.int 7 : D), (.int 60 : D)])) fun v17 => p__law_some v17) fun v18 => p__law_word many_2 v18) fun laid_19 => bd (p_word_laid rows_1 laid_19) fun told_20 => iteW (orB (tst (bd (p__law_sort told_20) fun v24 => opt (F_ne [v24, (.int 4 : D)]))) (orB (tst (bd (opt (F_len [told_20])) fun v22 => bd (opt (F_len [laid_19])) fun v23 => opt (F_ne [v22, v23]))) (notB (tst (bd (p_laid_row rows_1 told_20) fun v21 => p__law_like v21 laid_19))))) (pu (FW.rt (.bool false : D))) (iteW (orB (tst (bd (lst (bd (opt (itemsOf told_20)) (filtW fun d26 => keepW (orB (tst (bd (p__law_sort d26) fun v27 => opt (F_ne [v27, (.int 2 : D)]))) (notB (tst (chainW (F_le [(.int 0 : D), d26]) (opt (F_lt [d26, many_2])))))) (pu (.int 1 : D))))) fun v28 => bd (pu (.list [])) fun v29 => opt (F_ne [v28, v29]))) (notB (tst (bd (p__law_laid rows_1 told_20) fun v25 => p__law_like v25 laid_19)))) (pu (FW.rt (.bool false : D))) (bd (p__law_roll many_2) fun letter_30 => bd (pu (.list [])) fun v33 => par2 [letter_30, v33] fun last_31 found_32 => seqW (bd (bd (bd (bd (pu (.list [(.int 0 : D), (.int 1 : D), (.int 3 : D), (.int 9 : D), (.int 60 : D)])) fun v34 => p__law_some v34) rg1) rgI) fun items => forW (fun (d36 : D) (s35 : D × D) => bd (bd (pu (.list [s35.2])) fun v39 => opt (F_add [s35.1, v39])) fun v40 => bd (bd (opt (F_ix [rows_1, s35.2])) fun v41 => opt (F_ix [v41, s35.2])) fun v42 => par2 [v40, v42] fun found_37 last_38 => pu (FW.nx (found_37, last_38))) items (found_32, last_31)) fun (s43 : D × D) => bd (bd (bd (opt (F_len [s43.1])) fun v44 => p_frozen_word rows_1 letter_30 v44) fun v45 => bd (bd (opt (F_tuple [s43.1])) fun v46 => p_laid_row rows_1 v46) fun v47 => pu (.list [v45, v47])) fun told_48 => bd (bd (bd (opt (F_tuple [s43.1])) fun v49 => bd (bd (pu (.tuple [letter_30])) fun v50 => bd (opt (F_len [s43.1])) fun v51 => opt (F_mul [v50, v51])) fun v52 => pu (.list [v49, v52])) fun v53 => p__law_like told_48 v53) fun d => pu (FW.rt d)))))
@[irreducible] def p__law_words_right : W D := fin (pb__law_words_right )
theorem pe__law_words_right : p__law_words_right  = fin (pb__law_words_right ) := by first | (unfold p__law_words_right; rfl) | unfold p__law_words_right
theorem js__law_words_right : JS [true] [.cup true, .any, .any, .any, .any, .any, .any, .any, .any, .any, .any, .any, .any] b__law_words_right (pb__law_words_right ) (fun _ => [.cup true, .any, .any, .any, .any, .any, .any, .any, .any, .any, .any, .any, .any]) (fun _ => [.cup true, .any, .any, .any, .any, .any, .any, .any, .any, .any, .any, .any, .any]) :=
  (js_set (je_call jd__law_rows (c_u 0 (c_nil rfl))) fun rows_1 =>
    (js_set (je_ops (k_a (oa_v 1) (k_nil rfl))) fun many_2 =>
    (js_set (je_call jd__law_word (c_u 0 (c_v 2 (c_c (je_call jd__law_some (c_u 0 (c_c (je_list (d_a ea_c (d_a ea_c (d_a ea_c (d_a ea_c (d_n rfl)))))) fun _ => (c_nil rfl)))) fun _ => (c_nil rfl))))) fun word_5 =>
    (js_set (je_call jd__law_laid (c_v 1 (c_v 3 (c_nil rfl)))) fun due_6 =>
    (js_ifr (je_notB (je_t (je_call jd__law_like (c_c (je_list (d_c (je_call jd_laid_row (c_v 1 (c_v 3 (c_nil rfl)))) fun _ => (d_c (je_call jd_word_laid (c_v 1 (c_v 4 (c_nil rfl)))) fun _ => (d_n rfl)))) fun _ => (c_c (je_list (d_a (ea_v 4) (d_a (ea_v 3) (d_n rfl)))) fun _ => (c_nil rfl)))))) (js_reta ea_c) (nn_one nn_ret)
    (js_set (je_ops (k_c (je_fr (je_comp (je_iRg (je_rg1 (je_ops (k_c (je_ops (k_a (oa_v 3) (k_nil rfl))) fun _ => (k_a oa_c (k_nil rfl)))))) fun d12 => (cy_run jg_nm (je_call jd__law_ahead (c_v 1 (c_c (je_sla (oa_v 3) je_ptn (je_ptsa (ea_v 11))) fun _ => (c_nil rfl))))))) fun _ => (k_nil rfl))) fun due_15 =>
    (js_ifr (je_notB (je_t (je_call jd__law_like (c_c (je_call jd_turns_along (c_v 1 (c_v 3 (c_nil rfl)))) fun _ => (c_v 4 (c_nil rfl)))))) (js_reta ea_c) (nn_one nn_ret)
    (js_set (je_call jd__law_word (c_u 0 (c_v 2 (c_c (je_call jd__law_some (c_u 0 (c_c (je_list (d_a ea_c (d_a ea_c (d_a ea_c (d_a ea_c (d_n rfl)))))) fun _ => (c_nil rfl)))) fun _ => (c_nil rfl))))) fun laid_19 =>
    (js_set (je_call jd_word_laid (c_v 1 (c_v 5 (c_nil rfl)))) fun told_20 =>
    (js_ifr (je_orB (je_t (je_ops (k_c (je_call jd__law_sort (c_v 6 (c_nil rfl))) fun _ => (k_a oa_c (k_nil rfl))))) (je_orB (je_t (je_ops (k_c (je_ops (k_a (oa_v 6) (k_nil rfl))) fun _ => (k_c (je_ops (k_a (oa_v 5) (k_nil rfl))) fun _ => (k_nil rfl))))) (je_notB (je_t (je_call jd__law_like (c_c (je_call jd_laid_row (c_v 1 (c_v 6 (c_nil rfl)))) fun _ => (c_v 5 (c_nil rfl)))))))) (js_reta ea_c) (nn_one nn_ret)
    (js_ifr (je_orB (je_t (je_ops (k_c (je_fr (je_filt (je_seqa (ea_v 6)) fun d26 => (ct_run jg_nm (je_orB (je_t (je_ops (k_c (je_call jd__law_sort (c_v 12 (c_nil rfl))) fun _ => (k_a oa_c (k_nil rfl))))) (je_notB (je_t (je_chain (u := (fun b => opt (F_lt [b, many_2]))) (k_a oa_c (k_a (oa_v 12) (k_nil rfl))) (fun _ => (k_a (oa_v 2) (k_nil rfl))))))) (je_a ea_c)))) fun _ => (k_c (je_list (d_n rfl)) fun _ => (k_nil rfl))))) (je_notB (je_t (je_call jd__law_like (c_c (je_call jd__law_laid (c_v 1 (c_v 6 (c_nil rfl)))) fun _ => (c_v 5 (c_nil rfl))))))) (js_reta ea_c) (nn_one nn_ret)
    (js_set (je_call jd__law_roll (c_u 0 (c_v 2 (c_nil rfl)))) fun letter_30 =>
    (js_par2 (d_a (ea_v 7) (d_c (je_list (d_n rfl)) fun _ => (d_n rfl))) fun last_31 found_32 =>
    (js_seq (js_for (fun (s35 : D × D) => [.cup true, .pl rows_1, .pl many_2, .pl word_5, .pl due_15, .pl laid_19, .pl told_20, .pl letter_30, .pl s35.2, .pl s35.1, .any, .any, .any]) (je_iRg (je_rg1 (je_call jd__law_some (c_u 0 (c_c (je_list (d_a ea_c (d_a ea_c (d_a ea_c (d_a ea_c (d_a ea_c (d_n rfl))))))) fun _ => (c_nil rfl)))))) (.r (.r (.r (.r (.r (.r (.r (.r (.r (.r (.r (.r (.r .nil))))))))))))) fun d36 s35 =>
    (jt_nm (js_par2 (d_c (je_ops (k_a (oa_v 9) (k_c (je_list (d_a (ea_v 8) (d_n rfl))) fun _ => (k_nil rfl)))) fun _ => (d_c (je_ops (k_c (je_ops (k_a (oa_v 1) (k_a (oa_v 8) (k_nil rfl)))) fun _ => (k_a (oa_v 8) (k_nil rfl)))) fun _ => (d_n rfl))) fun found_37 last_38 =>
    (js_nx (x := (found_37, last_38)) (.r (.r (.r (.r (.r (.r (.r (.r (.r (.r (.a rfl (.r (.r .nil))))))))))))))))) fun s43 =>
    (js_set (je_list (d_c (je_call jd_frozen_word (c_v 1 (c_v 7 (c_c (je_ops (k_a (oa_v 9) (k_nil rfl))) fun _ => (c_nil rfl))))) fun _ => (d_c (je_call jd_laid_row (c_v 1 (c_c (je_ops (k_a (oa_v 9) (k_nil rfl))) fun _ => (c_nil rfl)))) fun _ => (d_n rfl)))) fun told_48 =>
    (js_ret (je_call jd__law_like (c_v 6 (c_c (je_list (d_c (je_ops (k_a (oa_v 9) (k_nil rfl))) fun _ => (d_c (je_ops (k_c (je_tup (d_a (ea_v 7) (d_n rfl))) fun _ => (k_c (je_ops (k_a (oa_v 9) (k_nil rfl))) fun _ => (k_nil rfl)))) fun _ => (d_n rfl)))) fun _ => (c_nil rfl))))))))))))))))))))
theorem jd__law_words_right : JD [true] m__law_words_right (ap0 p__law_words_right) :=
  jd_mk (n := 13) (body := b__law_words_right) [.cup true, .any, .any, .any, .any, .any, .any, .any, .any, .any, .any, .any, .any] rfl (fun ds V e => by
    obtain ⟨_, rfl, e0⟩ := startV_c e
    obtain ⟨rfl, rfl⟩ := startV_n e0
    exact ⟨pb__law_words_right , js__law_words_right , pe__law_words_right ⟩) (fun ds V e => endB_start e)
def pb_law : W (FW Unit Unit) :=
  iteW (notB (tst (p__law_limits_right))) (pu (FW.rt (.bool false : D))) (seqW (bd (bd (rg1 (.int 6 : D)) rgI) fun items => forW (fun (d2 : D) (s1 : Unit) => iteW (notB (tst (p__law_words_right))) (pu (FW.rt (.bool false : D))) (pu (FW.nx ()))) items ()) fun (s3 : Unit) => pu (FW.rt (.bool true : D)))
def p_law : W D := fin pb_law
theorem law_true_of (hp : p_law (fun d => d = .bool true) noX) (ns : List Int) (hl : ns.length ≤ 63) (h2 : ∀ z ∈ ns, PySem.Builtin.Int.intBits z ≤ 1048576) : ∃ ρ', m_law [SV.pl (.list (ns.map .int))] = .ok (.rt (.bool true)) ρ' := by
  have hcup := cup_ok ns hl
  have h : JS [false] (.pl (.list (iL ns)) :: List.replicate 2 .any) b_law pb_law (fun _ : Unit => [.any, .any, .any]) (fun _ : Unit => [.any, .any, .any]) :=
    (js_cup (j := 0) hcup (js_ifr (je_notB (je_t (je_call jd__law_limits_right (c_u 1 (c_nil rfl))))) (js_reta ea_c) (nn_one nn_ret)
    (js_seq (js_for (fun (s1 : Unit) => [.pl (.list (iL ns)), .cup false, .any]) (je_iRg (je_rg1a ea_c)) (.r (.r (.r .nil))) fun d2 s1 =>
    (jt_nm (js_ifr (je_notB (je_t (je_call jd__law_words_right (c_u 1 (c_nil rfl))))) (js_reta ea_c) (nn_one nn_ret)
    (js_nx (x := ()) (.r (.r (.a rfl .nil))))))) fun s3 =>
    (js_reta ea_c))))
  exact law_end (n := 3) h hp
end SW
set_option Elab.async false
set_option linter.all false
set_option maxRecDepth 100000
set_option maxHeartbeats 4000000
namespace SW
open PySem PySem.Spec PyProof.Rows L2
section
variable [Tab] {P : Program} {w : World} {K : PySem.W.Frag} {mg : Str → Option Value} {base : Heap}
def TbOk (K : PySem.W.Frag) (base : Heap) (mg : Str → Option Value) [Tab] : Prop := (∀ p ∈ tf, LamX.TabB base mg (He.cT K p).1 (He.cT K p).2 ∧ ((He.cT K p).2, p.1 ++ ".<locals>.<lambda>") ∈ Tab.T ∧ ∀ z ∈ Tab.T, z.1 = (He.cT K p).2 → z.2 = p.1 ++ ".<locals>.<lambda>")
theorem sc__law_error : FnScope N__law_error ["call"] (defScope st__law_error) := ⟨rfl, rfl, rfl, by decide +kernel, rfl, by decide +kernel, by decide +kernel⟩
theorem tb__law_error {K : PySem.W.Frag} {mgx : Str → Option Value} (c : Fx K mgx fn fa exB) : tell2B K "SwapError" ["InvalidCycle", "InvalidWord", "InvalidNumber"] cls__law_error sub__law_error = true := by
  have h := c.more
  unfold exB at h
  simp only [Bool.and_eq_true] at h
  exact h.2.2
theorem toldX__law_error {X : Cx} {E : WX} {x : Str} (c : Fx X.K X.mg fn fa exB) (ct : TbOk X.K X.base X.mg) {k : Nat} {params : Arguments} {body : Expr} {scope : Scope} {f : AE} {lpos p pos : Pos}
    (hq : X.env.qual ++ "<lambda>" = x ++ ".<locals>.<lambda>") (hcode : (x, none) ∈ tf ∧ X.env.code = .ref (He.codeOf X.K (x, none))) (hr : Room (k + 2) X.A) (L : LamX.LamS X.env.scope scope)
    (hbody : ∀ (A : Around) (outer : List Env) (s : Shared) (H : Hp) (E : XK) (f' c' : Addr), Room k (A.deeper (LamX.lamEnv X scope s.heap.objs.size f' c')) → L2N.Takes (SWH.lamN X A outer s H E scope f' c') (fun c d _ H' => E c d H') → EV (SWH.lamN X A outer s H E scope f' c') (fun c d _ H' => E c d H') body f)
    (hg : Gl X "_law_error" := by rfl) (hdef : defaultsOf params X.env = ([], []) := by rfl) (hbind : ∀ (q : Str) (cl : List (Str × Addr)) (pm cv ctv : Value), bindArgs (PySem.W.kla_fn "<lambda>" q params body scope cl pm cv ctv) ⟨[], []⟩ = pure [] := by intros; rfl) :
    EV X E (.Call (.Name "_law_error" p) [.Lambda params body scope lpos] [] pos) (aTold F__law_error w__law_error f) :=
  v_toldX c (a := "call") (Ng := N__law_error) (sv := (.str "none")) 26 26 rfl rfl hg sc__law_error rfl (by first | exact .inl rfl | exact .inr (.inl rfl)) (fun _ _ _ _ _ _ us hl => match us, hl with | [_], _ => rfl)
    (fun g cdg => gives_suite (bs := bs__law_error) (eS := "SwapError") (en := "e") (i := 1) rfl (c.g 40) rfl sc__law_error.nd rfl rfl (by decide) pe_str (fun y d e => tell2_ok (tb__law_error c) y d e) (fun s H ad oe pn y d hy hz hf hr => by
      letI : Tab := ⟨Tab.T, ad⟩
      have hot := SWH.hotK_suite (a := ad) (X := (cxOf C8.CX0 X.prog X.w X.K X.mg X.base N__law_error "_law_error" (defScope st__law_error) g cdg X.A X.stack s H C8.E0).nox) (pn := pn) hz hf
      have xc := tell2_exc (tb__law_error c) hy
      have hz := hz.zc
      have S := sc__law_error
      exact (b_cons (us_set 2 S.nd (v_fr (f_lst (d_cons (v_tup (d_cons v_str (d_cons (v_isE 1 xc hz hf (c.g 42) (tell2_kit (tb__law_error c) hy (.head _)) (c.f 57)) d_nil))) (d_cons (v_tup (d_cons v_str (d_cons (v_isE 1 xc hz hf (c.g 43) (tell2_kit (tb__law_error c) hy (.tail _ (.head _))) (c.f 57)) d_nil))) (d_cons (v_tup (d_cons v_str (d_cons (v_isE 1 xc hz hf (c.g 41) (tell2_kit (tb__law_error c) hy (.tail _ (.tail _ (.head _)))) (c.f 57)) d_nil))) d_nil))))))
    (b_cons (s_ret (u_join (v_ex v_str) (v_ex (v_fr (fK_comp (own := [("word", 3), ("is_so", 4)]) (ws := [3, 4]) hot S.nd (iK_seq (bb := false) (vv 2)) (blkOk_by (N := N__law_error) (sc := defScope st__law_error) (by decide +kernel)) (fun _ _ _ _ _ hot => (gK_tup hot (gs_cons (ug 3 S.nd) (gs_cons (ug 4 S.nd) gs_nil)))) (fun _ _ _ _ _ hot => ts_one (t_val (vv 4))) (fun _ _ _ _ _ hot => (vv 3)))))))
    b_nil)))) (fun _ => .str _)
    (ct _ hcode.1).1 hcode.2 (by rw [hq]; exact (ct _ hcode.1).2.1) (by rw [hq]; exact (ct _ hcode.1).2.2) hr L hbody hdef hbind
theorem sc__law_cup : FnScope N__law_cup ["script"] (defScope st__law_cup) := ⟨rfl, rfl, rfl, by decide +kernel, rfl, by decide +kernel, by decide +kernel⟩
theorem ok__law_cup (c : Fx K mg fn fa exB) : OkD P w K mg base "_law_cup" 1 ["script"] N__law_cup m__law_cup :=
  okD_of (body := b__law_cup) (k := 0) c 21 21 rfl rfl sc__law_cup (fun _ _ _ _ _ _ us hl => match us, hl with | [_], _ => rfl) (fun f cdv A outer s H E hr tk => by
    have S := sc__law_cup
    exact (b_cons (us_set 1 S.nd (u_abs (c.f 52) (vs_cons (v_ex (u_ix (v_ex (u_add (v_ex (v_fr (uf_list (c.f 59) (vs_cons (vn 0) vs_nil)))) (v_ex (v_fr (f_lst (d_cons v_int d_nil)))))) (v_ex v_int))) vs_nil)))
    (b_cons (s_retF (f_lst (d_cons (v_if (ut_ge hr (vn 1) (v_ex (u_pow (v_ex v_int) (v_ex v_int)))) (u_fdiv (vn 1) (v_ex v_int)) v_int) (d_cons (u_mod (v_ex (u_int (c.f 56) (vs_cons (v_ex (u_add (v_ex (u_mul (vn 1) (v_ex v_int))) (v_ex v_int))) vs_nil))) (v_ex v_int)) d_nil))))
    b_nil)))
theorem sc_is_tuple_of : FnScope N_is_tuple_of ["value", "low", "high"] (defScope st_is_tuple_of) := ⟨rfl, rfl, rfl, by decide +kernel, rfl, by decide +kernel, by decide +kernel⟩
theorem ok_is_tuple_of (c : Fx K mg fn fa exB) : OkD P w K mg base "is_tuple_of" 1 ["value", "low", "high"] N_is_tuple_of m_is_tuple_of :=
  okD_of (body := b_is_tuple_of) (k := 0) c 2 2 rfl rfl sc_is_tuple_of (fun _ _ _ _ _ _ us hl => match us, hl with | [_, _, _], _ => rfl) (fun f cdv A outer s H E hr tk => by
    have S := sc_is_tuple_of
    exact (b_cons (s_ret (v_and (u_isi .tuple (c.f 57) (c.f 63) (vn 0)) (v_one (v_chain op_leA op_leA s_le s_le (vn 1) (v_ex (u_len (c.f 58) (vs_cons (vn 0) vs_nil))) (vn 2)))))
    b_nil))
theorem sc_is_whole : FnScope N_is_whole ["value", "low", "high"] (defScope st_is_whole) := ⟨rfl, rfl, rfl, by decide +kernel, rfl, by decide +kernel, by decide +kernel⟩
theorem ok_is_whole (c : Fx K mg fn fa exB) : OkD P w K mg base "is_whole" 1 ["value", "low", "high"] N_is_whole m_is_whole :=
  okD_of (body := b_is_whole) (k := 0) c 0 0 rfl rfl sc_is_whole (fun _ _ _ _ _ _ us hl => match us, hl with | [_, _, _], _ => rfl) (fun f cdv A outer s H E hr tk => by
    have S := sc_is_whole
    exact (b_cons (s_ret (v_and (u_isi .int (c.f 57) (c.f 56) (vn 0)) (v_and (v_not (u_isi .bool (c.f 57) (c.f 54) (vn 0))) (v_one (v_chain op_leA op_leA s_le s_le (vn 1) (vn 0) (vn 2))))))
    b_nil))
theorem sc_is_turn : FnScope N_is_turn ["value"] (defScope st_is_turn) := ⟨rfl, rfl, rfl, by decide +kernel, rfl, by decide +kernel, by decide +kernel⟩
theorem ok_is_turn (c : Fx K mg fn fa exB) (ok_is_tuple_of : OkD P w K mg base "is_tuple_of" 1 ["value", "low", "high"] N_is_tuple_of m_is_tuple_of) (ok_is_whole : OkD P w K mg base "is_whole" 1 ["value", "low", "high"] N_is_whole m_is_whole) : OkD P w K mg base "is_turn" 2 ["value"] N_is_turn m_is_turn :=
  okD_of (body := b_is_turn) (k := 1) c 3 3 rfl rfl sc_is_turn (fun _ _ _ _ _ _ us hl => match us, hl with | [_], _ => rfl) (fun f cdv A outer s H E hr tk => by
    have S := sc_is_turn
    exact (b_cons (s_if (EW.t (w_or (t_not (t_val (v_callD ok_is_tuple_of tk hr rfl (vs_cons (vn 0) (vs_cons (v_ex v_int) (vs_cons (v_ex (gi (c.i 49))) vs_nil)))))) (w_or1 (t_not (t_val (u_all rfl (c.f 53) (vs_cons (v_ex (v_fr (f_comp (own := [("own", 1)]) (ws := [1]) rfl S.nd (i_seq (bb := false) (vv 0)) (blkOk_by (N := N_is_turn) (sc := defScope st_is_turn) (by decide +kernel)) (fun _ _ _ _ _ => (ug 1 S.nd)) (fun _ _ _ _ _ => ts_nil) (fun _ _ _ _ _ => (v_callD ok_is_whole SWH.takes0 hr rfl (vs_cons (vn 1) (vs_cons (v_ex v_int) (vs_cons (v_ex (u_sub (v_ex (u_len (c.f 58) (vs_cons (vn 0) vs_nil))) (v_ex v_int))) vs_nil)))))))) vs_nil))))))) (b_cons (s_ret v_bl)
    b_nil) b_nil)
    (b_cons (s_ret (u_eq hr (v_ex (u_sorted (c.f 61) (vs_cons (vn 0) vs_nil))) (v_ex (v_fr (f_listRg rfl rfl (c.f 59) (rg_1 rfl (c.f 60) (u_len (c.f 58) (vs_cons (vn 0) vs_nil))))))))
    b_nil)))
theorem sc_are_turn_rows : FnScope N_are_turn_rows ["value"] (defScope st_are_turn_rows) := ⟨rfl, rfl, rfl, by decide +kernel, rfl, by decide +kernel, by decide +kernel⟩
theorem ok_are_turn_rows (c : Fx K mg fn fa exB) (ok_is_tuple_of : OkD P w K mg base "is_tuple_of" 1 ["value", "low", "high"] N_is_tuple_of m_is_tuple_of) (ok_is_turn : OkD P w K mg base "is_turn" 2 ["value"] N_is_turn m_is_turn) : OkD P w K mg base "are_turn_rows" 3 ["value"] N_are_turn_rows m_are_turn_rows :=
  okD_of (body := b_are_turn_rows) (k := 2) c 7 7 rfl rfl sc_are_turn_rows (fun _ _ _ _ _ _ us hl => match us, hl with | [_], _ => rfl) (fun f cdv A outer s H E hr tk => by
    have S := sc_are_turn_rows
    exact (b_cons (s_if (t_not (t_val (v_callD ok_is_tuple_of tk hr rfl (vs_cons (vn 0) (vs_cons (v_ex v_int) (vs_cons (v_ex (gi (c.i 48))) vs_nil)))))) (b_cons (s_ret v_bl)
    b_nil) b_nil)
    (b_cons (s_ret (u_all rfl (c.f 53) (vs_cons (v_ex (v_fr (f_comp (own := [("row", 1)]) (ws := [1]) rfl S.nd (i_seq (bb := false) (vv 0)) (blkOk_by (N := N_are_turn_rows) (sc := defScope st_are_turn_rows) (by decide +kernel)) (fun _ _ _ _ _ => (ug 1 S.nd)) (fun _ _ _ _ _ => ts_nil) (fun _ _ _ _ _ => (v_and (v_callD ok_is_turn SWH.takes0 hr rfl (vs_cons (vn 1) vs_nil)) (v_one (u_eq hr (v_ex (u_len (c.f 58) (vs_cons (vn 1) vs_nil))) (v_ex (u_len (c.f 58) (vs_cons (vn 0) vs_nil)))))))))) vs_nil)))
    b_nil)))
theorem sc_first_unlike : FnScope N_first_unlike ["rows"] (defScope st_first_unlike) := ⟨rfl, rfl, rfl, by decide +kernel, rfl, by decide +kernel, by decide +kernel⟩
theorem ok_first_unlike (c : Fx K mg fn fa exB) : OkD P w K mg base "first_unlike" 1 ["rows"] N_first_unlike m_first_unlike :=
  okD_of (body := b_first_unlike) (k := 0) c 8 8 rfl rfl sc_first_unlike (fun _ _ _ _ _ _ us hl => match us, hl with | [_], _ => rfl) (fun f cdv A outer s H E hr tk => by
    have S := sc_first_unlike
    exact (b_cons (us_set 1 S.nd (v_fr (f_listRg rfl rfl (c.f 59) (rg_1 rfl (c.f 60) (u_len (c.f 58) (vs_cons (vn 0) vs_nil))))))
    (b_cons (s_for (passes_of rfl) rfl (i_seq (bb := false) (vv 1)) (ug 2 S.nd) (b_cons (s_for (passes_of rfl) rfl (i_seq (bb := false) (vv 1)) (ug 3 S.nd) (b_cons (s_par (i := 4) (j := 5) rfl S.nd rfl rfl rfl rfl (d_cons (u_ix (vn 0) (v_ex (u_ix (v_ex (u_ix (vn 0) (vn 2))) (vn 3)))) (d_cons (u_ix (vn 0) (v_ex (u_ix (v_ex (u_ix (vn 0) (vn 3))) (vn 2)))) d_nil)))
    (b_cons (s_for (passes_of rfl) rfl (i_seq (bb := false) (vv 1)) (ug 6 S.nd) (b_cons (s_if (ut_ne hr (v_ex (u_ix (vn 4) (v_ex (u_ix (v_ex (u_ix (vn 0) (vn 2))) (vn 6))))) (v_ex (u_ix (vn 5) (v_ex (u_ix (v_ex (u_ix (vn 0) (vn 3))) (vn 6)))))) (b_cons (s_ret (v_tup (d_cons (vv 2) (d_cons (vv 3) (d_cons (vv 6) d_nil)))))
    b_nil) b_nil)
    b_nil))
    b_nil)))
    b_nil))
    (b_cons (s_ret v_non)
    b_nil))))
theorem sc_is_cycle_set : FnScope N_is_cycle_set ["value"] (defScope st_is_cycle_set) := ⟨rfl, rfl, rfl, by decide +kernel, rfl, by decide +kernel, by decide +kernel⟩
theorem ok_is_cycle_set (c : Fx K mg fn fa exB) (ok_are_turn_rows : OkD P w K mg base "are_turn_rows" 3 ["value"] N_are_turn_rows m_are_turn_rows) (ok_first_unlike : OkD P w K mg base "first_unlike" 1 ["rows"] N_first_unlike m_first_unlike) : OkD P w K mg base "is_cycle_set" 4 ["value"] N_is_cycle_set m_is_cycle_set :=
  okD_of (body := b_is_cycle_set) (k := 3) c 9 9 rfl rfl sc_is_cycle_set (fun _ _ _ _ _ _ us hl => match us, hl with | [_], _ => rfl) (fun f cdv A outer s H E hr tk => by
    have S := sc_is_cycle_set
    exact (b_cons (s_ret (v_and (v_callD ok_are_turn_rows tk hr rfl (vs_cons (vn 0) vs_nil)) (v_one (v_isN (v_ex (v_callD ok_first_unlike tk hr rfl (vs_cons (vn 0) vs_nil)))))))
    b_nil))
theorem sc_need_cycle_set : FnScope N_need_cycle_set ["value"] (defScope st_need_cycle_set) := ⟨rfl, rfl, rfl, by decide +kernel, rfl, by decide +kernel, by decide +kernel⟩
theorem ok_need_cycle_set (c : Fx K mg fn fa exB) (ok_is_cycle_set : OkD P w K mg base "is_cycle_set" 4 ["value"] N_is_cycle_set m_is_cycle_set) : OkD P w K mg base "need_cycle_set" 5 ["value"] N_need_cycle_set m_need_cycle_set :=
  okD_of (body := b_need_cycle_set) (k := 4) c 10 10 rfl rfl sc_need_cycle_set (fun _ _ _ _ _ _ us hl => match us, hl with | [_], _ => rfl) (fun f cdv A outer s H E hr tk => by
    have S := sc_need_cycle_set
    exact (b_cons (s_if (t_not (t_val (v_callD ok_is_cycle_set tk hr rfl (vs_cons (vn 0) vs_nil)))) (b_cons (s_raiseX c 46 42 rfl rfl rfl tk rfl)
    b_nil) b_nil)
    b_nil))
theorem sc_is_word_of : FnScope N_is_word_of ["value", "many"] (defScope st_is_word_of) := ⟨rfl, rfl, rfl, by decide +kernel, rfl, by decide +kernel, by decide +kernel⟩
theorem ok_is_word_of (c : Fx K mg fn fa exB) (ok_is_tuple_of : OkD P w K mg base "is_tuple_of" 1 ["value", "low", "high"] N_is_tuple_of m_is_tuple_of) (ok_is_whole : OkD P w K mg base "is_whole" 1 ["value", "low", "high"] N_is_whole m_is_whole) : OkD P w K mg base "is_word_of" 2 ["value", "many"] N_is_word_of m_is_word_of :=
  okD_of (body := b_is_word_of) (k := 1) c 11 11 rfl rfl sc_is_word_of (fun _ _ _ _ _ _ us hl => match us, hl with | [_, _], _ => rfl) (fun f cdv A outer s H E hr tk => by
    have S := sc_is_word_of
    exact (b_cons (s_ret (v_and (v_callD ok_is_tuple_of tk hr rfl (vs_cons (vn 0) (vs_cons (v_ex v_int) (vs_cons (v_ex (gi (c.i 50))) vs_nil)))) (v_one (u_all rfl (c.f 53) (vs_cons (v_ex (v_fr (f_comp (own := [("own", 2)]) (ws := [2]) rfl S.nd (i_seq (bb := false) (vv 0)) (blkOk_by (N := N_is_word_of) (sc := defScope st_is_word_of) (by decide +kernel)) (fun _ _ _ _ _ => (ug 2 S.nd)) (fun _ _ _ _ _ => ts_nil) (fun _ _ _ _ _ => (v_callD ok_is_whole SWH.takes0 hr rfl (vs_cons (vn 2) (vs_cons (v_ex v_int) (vs_cons (v_ex (u_sub (vn 1) (v_ex v_int))) vs_nil)))))))) vs_nil)))))
    b_nil))
theorem sc_need_word : FnScope N_need_word ["value", "many"] (defScope st_need_word) := ⟨rfl, rfl, rfl, by decide +kernel, rfl, by decide +kernel, by decide +kernel⟩
theorem ok_need_word (c : Fx K mg fn fa exB) (ok_is_word_of : OkD P w K mg base "is_word_of" 2 ["value", "many"] N_is_word_of m_is_word_of) : OkD P w K mg base "need_word" 3 ["value", "many"] N_need_word m_need_word :=
  okD_of (body := b_need_word) (k := 2) c 12 12 rfl rfl sc_need_word (fun _ _ _ _ _ _ us hl => match us, hl with | [_, _], _ => rfl) (fun f cdv A outer s H E hr tk => by
    have S := sc_need_word
    exact (b_cons (s_if (t_not (t_val (v_callD ok_is_word_of tk hr rfl (vs_cons (vn 0) (vs_cons (vn 1) vs_nil))))) (b_cons (s_raiseX c 47 43 rfl rfl rfl tk rfl)
    b_nil) b_nil)
    b_nil))
theorem sc_joined_of : FnScope N_joined_of ["one", "other"] (defScope st_joined_of) := ⟨rfl, rfl, rfl, by decide +kernel, rfl, by decide +kernel, by decide +kernel⟩
theorem ok_joined_of (c : Fx K mg fn fa exB) : OkD P w K mg base "joined_of" 1 ["one", "other"] N_joined_of m_joined_of :=
  okD_of (body := b_joined_of) (k := 0) c 4 4 rfl rfl sc_joined_of (fun _ _ _ _ _ _ us hl => match us, hl with | [_, _], _ => rfl) (fun f cdv A outer s H E hr tk => by
    have S := sc_joined_of
    exact (b_cons (s_ret (u_tuple (c.f 63) (vs_cons (v_ex (v_fr (f_comp (own := [("own", 2)]) (ws := [2]) rfl S.nd (i_seq (bb := false) (vv 1)) (blkOk_by (N := N_joined_of) (sc := defScope st_joined_of) (by decide +kernel)) (fun _ _ _ _ _ => (ug 2 S.nd)) (fun _ _ _ _ _ => ts_nil) (fun _ _ _ _ _ => (u_ix (vn 0) (vn 2)))))) vs_nil)))
    b_nil))
theorem sc_back_of : FnScope N_back_of ["turn"] (defScope st_back_of) := ⟨rfl, rfl, rfl, by decide +kernel, rfl, by decide +kernel, by decide +kernel⟩
theorem ok_back_of (c : Fx K mg fn fa exB) : OkD P w K mg base "back_of" 1 ["turn"] N_back_of m_back_of :=
  okD_of (body := b_back_of) (k := 0) c 5 5 rfl rfl sc_back_of (fun _ _ _ _ _ _ us hl => match us, hl with | [_], _ => rfl) (fun f cdv A outer s H E hr tk => by
    have S := sc_back_of
    exact (b_cons (us_own 1 S.nd (f_rep (f_lst (d_cons v_int d_nil)) (v_ex (u_len (c.f 58) (vs_cons (vn 0) vs_nil)))))
    (b_cons (s_for (passes_of rfl) rfl (i_enum rfl (c.f 55) (vv 0)) (g_tup rfl (gs_cons (ug 2 S.nd) (gs_cons (ug 3 S.nd) gs_nil))) (b_cons (s_asg (vv 2) (g_ix (i := 1) rfl (by first | exact .inl rfl | exact .inr (.inl rfl)) (vv 3)) ne_ix)
    b_nil))
    (b_cons (s_ret (u_tuple (c.f 63) (vs_cons (vn 1) vs_nil)))
    b_nil))))
theorem sc_plain_of : FnScope N_plain_of ["many"] (defScope st_plain_of) := ⟨rfl, rfl, rfl, by decide +kernel, rfl, by decide +kernel, by decide +kernel⟩
theorem ok_plain_of (c : Fx K mg fn fa exB) : OkD P w K mg base "plain_of" 1 ["many"] N_plain_of m_plain_of :=
  okD_of (body := b_plain_of) (k := 0) c 6 6 rfl rfl sc_plain_of (fun _ _ _ _ _ _ us hl => match us, hl with | [_], _ => rfl) (fun f cdv A outer s H E hr tk => by
    have S := sc_plain_of
    exact (b_cons (s_ret (v_tupRg rfl rfl (c.f 63) (rg_1 rfl (c.f 60) (vv 0))))
    b_nil))
theorem sc_turns_of : FnScope N_turns_of ["rows", "word"] (defScope st_turns_of) := ⟨rfl, rfl, rfl, by decide +kernel, rfl, by decide +kernel, by decide +kernel⟩
theorem ok_turns_of (c : Fx K mg fn fa exB) (ok_joined_of : OkD P w K mg base "joined_of" 1 ["one", "other"] N_joined_of m_joined_of) (ok_back_of : OkD P w K mg base "back_of" 1 ["turn"] N_back_of m_back_of) (ok_plain_of : OkD P w K mg base "plain_of" 1 ["many"] N_plain_of m_plain_of) : OkD P w K mg base "turns_of" 2 ["rows", "word"] N_turns_of m_turns_of :=
  okD_of (body := b_turns_of) (k := 1) c 14 14 rfl rfl sc_turns_of (fun _ _ _ _ _ _ us hl => match us, hl with | [_, _], _ => rfl) (fun f cdv A outer s H E hr tk => by
    have S := sc_turns_of
    exact (b_cons (us_set 2 S.nd (v_callD ok_plain_of tk hr rfl (vs_cons (v_ex (u_len (c.f 58) (vs_cons (vn 0) vs_nil))) vs_nil)))
    (b_cons (us_own 3 S.nd (f_lst (d_cons (vv 2) d_nil)))
    (b_cons (s_for (passes_of rfl) rfl (i_seq (bb := false) (vv 1)) (ug 4 S.nd) (b_cons (us_set 2 S.nd (v_callD ok_joined_of tk hr rfl (vs_cons (vn 2) (vs_cons (v_ex (v_callD ok_back_of tk hr rfl (vs_cons (v_ex (u_ix (vn 0) (vn 4))) vs_nil))) vs_nil))))
    (b_cons (s_app 3 (vv 2))
    b_nil)))
    (b_cons (s_ret (u_tuple (c.f 63) (vs_cons (vn 3) vs_nil)))
    b_nil)))))
theorem sc_laid_of : FnScope N_laid_of ["rows", "word"] (defScope st_laid_of) := ⟨rfl, rfl, rfl, by decide +kernel, rfl, by decide +kernel, by decide +kernel⟩
theorem ok_laid_of (c : Fx K mg fn fa exB) (ok_turns_of : OkD P w K mg base "turns_of" 2 ["rows", "word"] N_turns_of m_turns_of) : OkD P w K mg base "laid_of" 3 ["rows", "word"] N_laid_of m_laid_of :=
  okD_of (body := b_laid_of) (k := 2) c 15 15 rfl rfl sc_laid_of (fun _ _ _ _ _ _ us hl => match us, hl with | [_, _], _ => rfl) (fun f cdv A outer s H E hr tk => by
    have S := sc_laid_of
    exact (b_cons (s_ret (u_tuple (c.f 63) (vs_cons (v_ex (v_fr (f_comp (own := [("turn", 2), ("own", 3)]) (ws := [2, 3]) rfl S.nd (i_zip rfl (c.f 64) (d_cons (v_callD ok_turns_of tk hr rfl (vs_cons (vn 0) (vs_cons (vn 1) vs_nil))) (d_cons (vv 1) d_nil))) (blkOk_by (N := N_laid_of) (sc := defScope st_laid_of) (by decide +kernel)) (fun _ _ _ _ _ => (g_tup rfl (gs_cons (ug 2 S.nd) (gs_cons (ug 3 S.nd) gs_nil)))) (fun _ _ _ _ _ => ts_nil) (fun _ _ _ _ _ => (u_ix (vn 2) (vn 3)))))) vs_nil)))
    b_nil))
theorem sc_laid_row : FnScope N_laid_row ["rows", "word"] (defScope st_laid_row) := ⟨rfl, rfl, rfl, by decide +kernel, rfl, by decide +kernel, by decide +kernel⟩
theorem ok_laid_row (c : Fx K mg fn fa exB) (ok_need_cycle_set : OkD P w K mg base "need_cycle_set" 5 ["value"] N_need_cycle_set m_need_cycle_set) (ok_need_word : OkD P w K mg base "need_word" 3 ["value", "many"] N_need_word m_need_word) (ok_laid_of : OkD P w K mg base "laid_of" 3 ["rows", "word"] N_laid_of m_laid_of) : OkD P w K mg base "laid_row" 6 ["rows", "word"] N_laid_row m_laid_row :=
  okD_of (body := b_laid_row) (k := 5) c 17 17 rfl rfl sc_laid_row (fun _ _ _ _ _ _ us hl => match us, hl with | [_, _], _ => rfl) (fun f cdv A outer s H E hr tk => by
    have S := sc_laid_row
    exact (b_cons (s_drop (v_callD ok_need_cycle_set tk hr rfl (vs_cons (vn 0) vs_nil)))
    (b_cons (s_drop (v_callD ok_need_word tk hr rfl (vs_cons (vn 1) (vs_cons (v_ex (u_len (c.f 58) (vs_cons (vn 0) vs_nil))) vs_nil))))
    (b_cons (s_ret (v_callD ok_laid_of tk hr rfl (vs_cons (vn 0) (vs_cons (vn 1) vs_nil))))
    b_nil))))
theorem sc_letter_adding : FnScope N_letter_adding ["rows", "turn", "at"] (defScope st_letter_adding) := ⟨rfl, rfl, rfl, by decide +kernel, rfl, by decide +kernel, by decide +kernel⟩
theorem ok_letter_adding (c : Fx K mg fn fa exB) (ok_back_of : OkD P w K mg base "back_of" 1 ["turn"] N_back_of m_back_of) : OkD P w K mg base "letter_adding" 2 ["rows", "turn", "at"] N_letter_adding m_letter_adding :=
  okD_of (body := b_letter_adding) (k := 1) c 13 13 rfl rfl sc_letter_adding (fun _ _ _ _ _ _ us hl => match us, hl with | [_, _, _], _ => rfl) (fun f cdv A outer s H E hr tk => by
    have S := sc_letter_adding
    exact (b_cons (s_ret (u_ix (v_ex (v_callD ok_back_of tk hr rfl (vs_cons (vn 1) vs_nil))) (vn 2)))
    b_nil))
theorem sc_word_of_laid : FnScope N_word_of_laid ["rows", "laid"] (defScope st_word_of_laid) := ⟨rfl, rfl, rfl, by decide +kernel, rfl, by decide +kernel, by decide +kernel⟩
theorem ok_word_of_laid (c : Fx K mg fn fa exB) (ok_joined_of : OkD P w K mg base "joined_of" 1 ["one", "other"] N_joined_of m_joined_of) (ok_back_of : OkD P w K mg base "back_of" 1 ["turn"] N_back_of m_back_of) (ok_plain_of : OkD P w K mg base "plain_of" 1 ["many"] N_plain_of m_plain_of) (ok_letter_adding : OkD P w K mg base "letter_adding" 2 ["rows", "turn", "at"] N_letter_adding m_letter_adding) : OkD P w K mg base "word_of_laid" 3 ["rows", "laid"] N_word_of_laid m_word_of_laid :=
  okD_of (body := b_word_of_laid) (k := 2) c 16 16 rfl rfl sc_word_of_laid (fun _ _ _ _ _ _ us hl => match us, hl with | [_, _], _ => rfl) (fun f cdv A outer s H E hr tk => by
    have S := sc_word_of_laid
    exact (b_cons (s_par2 (i := 2) (j := 3) rfl S.nd rfl rfl rfl rfl (pt_v (v_callD ok_plain_of tk hr rfl (vs_cons (v_ex (u_len (c.f 58) (vs_cons (vn 0) vs_nil))) vs_nil))) (pt_o (f_lst d_nil)))
    (b_cons (s_for (passes_of rfl) rfl (i_seq (bb := false) (vv 1)) (ug 4 S.nd) (b_cons (us_set 5 S.nd (v_callD ok_letter_adding tk hr rfl (vs_cons (vn 0) (vs_cons (vn 2) (vs_cons (vn 4) vs_nil)))))
    (b_cons (s_app 3 (vv 5))
    (b_cons (us_set 2 S.nd (v_callD ok_joined_of tk hr rfl (vs_cons (vn 2) (vs_cons (v_ex (v_callD ok_back_of tk hr rfl (vs_cons (v_ex (u_ix (vn 0) (vn 5))) vs_nil))) vs_nil))))
    b_nil))))
    (b_cons (s_ret (u_tuple (c.f 63) (vs_cons (vn 3) vs_nil)))
    b_nil))))
theorem sc_word_laid : FnScope N_word_laid ["rows", "laid"] (defScope st_word_laid) := ⟨rfl, rfl, rfl, by decide +kernel, rfl, by decide +kernel, by decide +kernel⟩
theorem ok_word_laid (c : Fx K mg fn fa exB) (ok_need_cycle_set : OkD P w K mg base "need_cycle_set" 5 ["value"] N_need_cycle_set m_need_cycle_set) (ok_need_word : OkD P w K mg base "need_word" 3 ["value", "many"] N_need_word m_need_word) (ok_word_of_laid : OkD P w K mg base "word_of_laid" 3 ["rows", "laid"] N_word_of_laid m_word_of_laid) : OkD P w K mg base "word_laid" 6 ["rows", "laid"] N_word_laid m_word_laid :=
  okD_of (body := b_word_laid) (k := 5) c 18 18 rfl rfl sc_word_laid (fun _ _ _ _ _ _ us hl => match us, hl with | [_, _], _ => rfl) (fun f cdv A outer s H E hr tk => by
    have S := sc_word_laid
    exact (b_cons (s_drop (v_callD ok_need_cycle_set tk hr rfl (vs_cons (vn 0) vs_nil)))
    (b_cons (s_drop (v_callD ok_need_word tk hr rfl (vs_cons (vn 1) (vs_cons (v_ex (u_len (c.f 58) (vs_cons (vn 0) vs_nil))) vs_nil))))
    (b_cons (s_ret (v_callD ok_word_of_laid tk hr rfl (vs_cons (vn 0) (vs_cons (vn 1) vs_nil))))
    b_nil))))
theorem sc_turns_along : FnScope N_turns_along ["rows", "word"] (defScope st_turns_along) := ⟨rfl, rfl, rfl, by decide +kernel, rfl, by decide +kernel, by decide +kernel⟩
theorem ok_turns_along (c : Fx K mg fn fa exB) (ok_need_cycle_set : OkD P w K mg base "need_cycle_set" 5 ["value"] N_need_cycle_set m_need_cycle_set) (ok_need_word : OkD P w K mg base "need_word" 3 ["value", "many"] N_need_word m_need_word) (ok_turns_of : OkD P w K mg base "turns_of" 2 ["rows", "word"] N_turns_of m_turns_of) : OkD P w K mg base "turns_along" 6 ["rows", "word"] N_turns_along m_turns_along :=
  okD_of (body := b_turns_along) (k := 5) c 19 19 rfl rfl sc_turns_along (fun _ _ _ _ _ _ us hl => match us, hl with | [_, _], _ => rfl) (fun f cdv A outer s H E hr tk => by
    have S := sc_turns_along
    exact (b_cons (s_drop (v_callD ok_need_cycle_set tk hr rfl (vs_cons (vn 0) vs_nil)))
    (b_cons (s_drop (v_callD ok_need_word tk hr rfl (vs_cons (vn 1) (vs_cons (v_ex (u_len (c.f 58) (vs_cons (vn 0) vs_nil))) vs_nil))))
    (b_cons (s_ret (v_callD ok_turns_of tk hr rfl (vs_cons (vn 0) (vs_cons (vn 1) vs_nil))))
    b_nil))))
theorem sc_need_whole : FnScope N_need_whole ["value", "low", "high"] (defScope st_need_whole) := ⟨rfl, rfl, rfl, by decide +kernel, rfl, by decide +kernel, by decide +kernel⟩
theorem ok_need_whole (c : Fx K mg fn fa exB) (ok_is_whole : OkD P w K mg base "is_whole" 1 ["value", "low", "high"] N_is_whole m_is_whole) : OkD P w K mg base "need_whole" 2 ["value", "low", "high"] N_need_whole m_need_whole :=
  okD_of (body := b_need_whole) (k := 1) c 1 1 rfl rfl sc_need_whole (fun _ _ _ _ _ _ us hl => match us, hl with | [_, _, _], _ => rfl) (fun f cdv A outer s H E hr tk => by
    have S := sc_need_whole
    exact (b_cons (s_if (t_not (t_val (v_callD ok_is_whole tk hr rfl (vs_cons (vn 0) (vs_cons (vn 1) (vs_cons (vn 2) vs_nil)))))) (b_cons (s_raiseX c 45 41 rfl rfl rfl tk rfl)
    b_nil) b_nil)
    b_nil))
theorem sc_frozen_word : FnScope N_frozen_word ["rows", "letter", "many"] (defScope st_frozen_word) := ⟨rfl, rfl, rfl, by decide +kernel, rfl, by decide +kernel, by decide +kernel⟩
theorem ok_frozen_word (c : Fx K mg fn fa exB) (ok_need_cycle_set : OkD P w K mg base "need_cycle_set" 5 ["value"] N_need_cycle_set m_need_cycle_set) (ok_word_of_laid : OkD P w K mg base "word_of_laid" 3 ["rows", "laid"] N_word_of_laid m_word_of_laid) (ok_need_whole : OkD P w K mg base "need_whole" 2 ["value", "low", "high"] N_need_whole m_need_whole) : OkD P w K mg base "frozen_word" 6 ["rows", "letter", "many"] N_frozen_word m_frozen_word :=
  okD_of (body := b_frozen_word) (k := 5) c 20 20 rfl rfl sc_frozen_word (fun _ _ _ _ _ _ us hl => match us, hl with | [_, _, _], _ => rfl) (fun f cdv A outer s H E hr tk => by
    have S := sc_frozen_word
    exact (b_cons (s_drop (v_callD ok_need_cycle_set tk hr rfl (vs_cons (vn 0) vs_nil)))
    (b_cons (s_drop (v_callD ok_need_whole tk hr rfl (vs_cons (vn 1) (vs_cons (v_ex v_int) (vs_cons (v_ex (u_sub (v_ex (u_len (c.f 58) (vs_cons (vn 0) vs_nil))) (v_ex v_int))) vs_nil)))))
    (b_cons (s_drop (v_callD ok_need_whole tk hr rfl (vs_cons (vn 2) (vs_cons (v_ex v_int) (vs_cons (v_ex (gi (c.i 50))) vs_nil)))))
    (b_cons (s_ret (v_callD ok_word_of_laid tk hr rfl (vs_cons (vn 0) (vs_cons (v_ex (u_mul (v_ex (v_tup (d_cons (vv 1) d_nil))) (vn 2))) vs_nil))))
    b_nil)))))
theorem sc__law_roll : FnScope N__law_roll ["cup", "many"] (defScope st__law_roll) := ⟨rfl, rfl, rfl, by decide +kernel, rfl, by decide +kernel, by decide +kernel⟩
theorem ok__law_roll (c : Fx K mg fn fa exB) : OkD P w K mg base "_law_roll" 1 ["cup", "many"] N__law_roll m__law_roll :=
  okD_of (body := b__law_roll) (k := 0) c 22 22 rfl rfl sc__law_roll (fun _ _ _ _ _ _ us hl => match us, hl with | [_, _], _ => rfl) (fun f cdv A outer s H E hr tk => by
    have S := sc__law_roll
    exact (b_cons (s_if (ut_gt hr (v_ex (u_ix (vn 0) (v_ex v_int))) (v_ex v_int)) (b_cons (us_set 2 S.nd (u_mod (v_ex (u_int (c.f 56) (vs_cons (v_ex (u_ix (vn 0) (v_ex v_int))) vs_nil))) (vn 1)))
    (b_cons (s_asg (u_fdiv (v_ex (u_ix (vn 0) (v_ex v_int))) (vn 1)) (g_ix (i := 0) rfl (by first | exact .inl rfl | exact .inr (.inl rfl)) v_int) ne_ix)
    (b_cons (s_ret (vv 2))
    b_nil))) b_nil)
    (b_cons (s_asg (u_mod (v_ex (u_int (c.f 56) (vs_cons (v_ex (u_add (v_ex (u_mul (v_ex (u_ix (vn 0) (v_ex v_int))) (v_ex v_int))) (v_ex v_int))) vs_nil))) (v_ex v_int)) (g_ix (i := 0) rfl (by first | exact .inl rfl | exact .inr (.inl rfl)) v_int) ne_ix)
    (b_cons (s_ret (u_mod (v_ex (u_int (c.f 56) (vs_cons (v_ex (u_fdiv (v_ex (u_ix (vn 0) (v_ex v_int))) (v_ex v_int))) vs_nil))) (vn 1)))
    b_nil))))
theorem sc__law_some : FnScope N__law_some ["cup", "things"] (defScope st__law_some) := ⟨rfl, rfl, rfl, by decide +kernel, rfl, by decide +kernel, by decide +kernel⟩
theorem ok__law_some (c : Fx K mg fn fa exB) (ok__law_roll : OkD P w K mg base "_law_roll" 1 ["cup", "many"] N__law_roll m__law_roll) : OkD P w K mg base "_law_some" 2 ["cup", "things"] N__law_some m__law_some :=
  okD_of (body := b__law_some) (k := 1) c 23 23 rfl rfl sc__law_some (fun _ _ _ _ _ _ us hl => match us, hl with | [_, _], _ => rfl) (fun f cdv A outer s H E hr tk => by
    have S := sc__law_some
    exact (b_cons (s_ret (u_ix (vn 1) (v_ex (v_callD ok__law_roll tk hr rfl (vs_cons (vn 0) (vs_cons (v_ex (u_len (c.f 58) (vs_cons (vn 1) vs_nil))) vs_nil))))))
    b_nil))
theorem sc__law_sort : FnScope N__law_sort ["value"] (defScope st__law_sort) := ⟨rfl, rfl, rfl, by decide +kernel, rfl, by decide +kernel, by decide +kernel⟩
theorem ok__law_sort (c : Fx K mg fn fa exB) : OkD P w K mg base "_law_sort" 1 ["value"] N__law_sort m__law_sort :=
  okD_of (body := b__law_sort) (k := 0) c 24 24 rfl rfl sc__law_sort (fun _ _ _ _ _ _ us hl => match us, hl with | [_], _ => rfl) (fun f cdv A outer s H E hr tk => by
    have S := sc__law_sort
    exact (b_cons (s_if (EW.t (w_or (t_isN (vn 0)) (w_or1 (t_val (u_isi .bool (c.f 57) (c.f 54) (vn 0)))))) (b_cons (s_ret (v_if (t_isN (vn 0)) v_int v_int))
    b_nil) b_nil)
    (b_cons (s_if (EW.t (w_or (t_val (u_isi .int (c.f 57) (c.f 56) (vn 0))) (w_or1 (t_val (u_isi .str (c.f 57) (c.f 62) (vn 0)))))) (b_cons (s_ret (v_if (t_val (u_isi .int (c.f 57) (c.f 56) (vn 0))) v_int v_int))
    b_nil) b_nil)
    (b_cons (s_ret (v_if (t_val (u_isi .tuple (c.f 57) (c.f 63) (vn 0))) v_int (v_if (t_val (u_isi .list (c.f 57) (c.f 59) (vn 0))) v_int v_int)))
    b_nil))))
theorem sc__law_like : FnScope N__law_like ["one", "other"] (defScope st__law_like) := ⟨rfl, rfl, rfl, by decide +kernel, rfl, by decide +kernel, by decide +kernel⟩
theorem rk__law_like (c : Fx K mg fn fa exB) (ok__law_sort : OkD P w K mg base "_law_sort" 1 ["value"] N__law_sort m__law_sort) : ∀ n, OkD P w K mg base "_law_like" (2 + n) ["one", "other"] N__law_like (mm__law_like n) :=
  okD_rec (body := b__law_like) c 25 25 rfl rfl sc__law_like (fun _ _ _ _ _ _ us hl => match us, hl with | [_, _], _ => rfl) mm__law_like rfl (fun _ => rfl)
    (fun n hm f cdv A outer s H E hr tk => by
      have S := sc__law_like
      exact (b_cons (us_set 2 S.nd (v_callD ok__law_sort tk hr rfl (vs_cons (vn 1) vs_nil) (by omega)))
    (b_cons (s_if (EW.t (w_or (ut_ne hr (v_ex (v_callD ok__law_sort tk hr rfl (vs_cons (vn 0) vs_nil) (by omega))) (vn 2)) (w_or1 (ut_eq hr (vn 2) (v_ex v_int))))) (b_cons (s_ret v_bl)
    b_nil) b_nil)
    (b_cons (s_if (ut_in hr (vn 2) (v_ex (v_tup (d_cons v_int (d_cons v_int d_nil))))) (b_cons (s_ret (v_and (u_eq hr (v_ex (u_len (c.f 58) (vs_cons (vn 0) vs_nil))) (v_ex (u_len (c.f 58) (vs_cons (vn 1) vs_nil)))) (v_one (u_eq hr (v_ex (v_fr (f_comp (own := [("first", 3), ("second", 4)]) (ws := [3, 4]) rfl S.nd (i_zip rfl (c.f 64) (d_cons (vv 0) (d_cons (vv 1) d_nil))) (blkOk_by (N := N__law_like) (sc := defScope st__law_like) (by decide +kernel)) (fun _ _ _ _ _ => (g_tup rfl (gs_cons (ug 3 S.nd) (gs_cons (ug 4 S.nd) gs_nil)))) (fun _ _ _ _ _ => ts_one (t_not (t_val (v_callD hm SWH.takes0 hr rfl (vs_cons (vn 3) (vs_cons (vn 4) vs_nil)) (Nat.le_refl _))))) (fun _ _ _ _ _ => v_int)))) (v_ex (v_fr (f_lst d_nil)))))))
    b_nil) b_nil)
    (b_cons (s_ret (u_eq hr (vn 0) (vn 1)))
    b_nil))))) (by decide)
theorem ok__law_like (c : Fx K mg fn fa exB) (ok__law_sort : OkD P w K mg base "_law_sort" 1 ["value"] N__law_sort m__law_sort) : OkD P w K mg base "_law_like" 14 ["one", "other"] N__law_like m__law_like := rk__law_like c ok__law_sort 12
theorem sc__law_turn : FnScope N__law_turn ["cup", "many"] (defScope st__law_turn) := ⟨rfl, rfl, rfl, by decide +kernel, rfl, by decide +kernel, by decide +kernel⟩
theorem ok__law_turn (c : Fx K mg fn fa exB) (ok__law_roll : OkD P w K mg base "_law_roll" 1 ["cup", "many"] N__law_roll m__law_roll) : OkD P w K mg base "_law_turn" 2 ["cup", "many"] N__law_turn m__law_turn :=
  okD_of (body := b__law_turn) (k := 1) c 27 27 rfl rfl sc__law_turn (fun _ _ _ _ _ _ us hl => match us, hl with | [_, _], _ => rfl) (fun f cdv A outer s H E hr tk => by
    have S := sc__law_turn
    exact (b_cons (s_par (i := 2) (j := 3) rfl S.nd rfl rfl rfl rfl (d_cons (v_fr (f_listRg rfl rfl (c.f 59) (rg_1 rfl (c.f 60) (vv 1)))) (d_cons (v_fr (f_lst d_nil)) d_nil)))
    (b_cons (s_for (passes_of rfl) rfl (i_rg1 (bb := false) rfl (c.f 60) (vv 1)) (ug 4 S.nd) (b_cons (us_set 5 S.nd (v_callD ok__law_roll tk hr rfl (vs_cons (vn 0) (vs_cons (v_ex (u_len (c.f 58) (vs_cons (vn 2) vs_nil))) vs_nil))))
    (b_cons (us_set 3 S.nd (u_add (vn 3) (v_ex (v_fr (f_lst (d_cons (u_ix (vn 2) (vn 5)) d_nil))))))
    (b_cons (us_set 2 S.nd (u_add (v_ex (v_sl (vn 2) p_none (p_some (vv 5)))) (v_ex (v_sl (vn 2) (p_some (u_add (vn 5) (v_ex v_int))) p_none))))
    b_nil))))
    (b_cons (s_ret (u_tuple (c.f 63) (vs_cons (vn 3) vs_nil)))
    b_nil))))
theorem sc__law_stock : FnScope N__law_stock [] (defScope st__law_stock) := ⟨rfl, rfl, rfl, by decide +kernel, rfl, by decide +kernel, by decide +kernel⟩
theorem ok__law_stock (c : Fx K mg fn fa exB) : OkD P w K mg base "_law_stock" 1 [] N__law_stock m__law_stock :=
  okD_of (body := b__law_stock) (k := 0) c 28 28 rfl rfl sc__law_stock (fun _ _ _ _ _ _ us hl => match us, hl with | [], _ => rfl) (fun f cdv A outer s H E hr tk => by
    have S := sc__law_stock
    exact (b_cons (us_set 0 S.nd (v_fr (f_lst (d_cons (v_tup (d_cons (v_tup (d_cons v_int d_nil)) d_nil)) (d_cons (v_tup (d_cons (v_tup (d_cons v_int (d_cons v_int d_nil))) (d_cons (v_tup (d_cons v_int (d_cons v_int d_nil))) d_nil))) (d_cons (v_tup (d_cons (v_tup (d_cons v_int (d_cons v_int d_nil))) (d_cons (v_tup (d_cons v_int (d_cons v_int d_nil))) d_nil))) (d_cons (v_tup (d_cons (v_tup (d_cons v_int (d_cons v_int (d_cons v_int d_nil)))) (d_cons (v_tup (d_cons v_int (d_cons v_int (d_cons v_int d_nil)))) (d_cons (v_tup (d_cons v_int (d_cons v_int (d_cons v_int d_nil)))) d_nil)))) (d_cons (v_tup (d_cons (v_tup (d_cons v_int (d_cons v_int (d_cons v_int d_nil)))) (d_cons (v_tup (d_cons v_int (d_cons v_int (d_cons v_int d_nil)))) (d_cons (v_tup (d_cons v_int (d_cons v_int (d_cons v_int d_nil)))) d_nil)))) d_nil))))))))
    (b_cons (s_ret (u_add (vn 0) (v_ex (v_fr (f_lst (d_cons (v_tup (d_cons (v_tup (d_cons v_int (d_cons v_int (d_cons v_int d_nil)))) (d_cons (v_tup (d_cons v_int (d_cons v_int (d_cons v_int d_nil)))) (d_cons (v_tup (d_cons v_int (d_cons v_int (d_cons v_int d_nil)))) d_nil)))) (d_cons (v_tup (d_cons (v_tup (d_cons v_int (d_cons v_int (d_cons v_int (d_cons v_int d_nil))))) (d_cons (v_tup (d_cons v_int (d_cons v_int (d_cons v_int (d_cons v_int d_nil))))) (d_cons (v_tup (d_cons v_int (d_cons v_int (d_cons v_int (d_cons v_int d_nil))))) (d_cons (v_tup (d_cons v_int (d_cons v_int (d_cons v_int (d_cons v_int d_nil))))) d_nil))))) d_nil)))))))
    b_nil)))
theorem sc__law_beside : FnScope N__law_beside ["one", "other"] (defScope st__law_beside) := ⟨rfl, rfl, rfl, by decide +kernel, rfl, by decide +kernel, by decide +kernel⟩
theorem ok__law_beside (c : Fx K mg fn fa exB) : OkD P w K mg base "_law_beside" 1 ["one", "other"] N__law_beside m__law_beside :=
  okD_of (body := b__law_beside) (k := 0) c 29 29 rfl rfl sc__law_beside (fun _ _ _ _ _ _ us hl => match us, hl with | [_, _], _ => rfl) (fun f cdv A outer s H E hr tk => by
    have S := sc__law_beside
    exact (b_cons (s_asg (v_tup (d_cons (u_len (c.f 58) (vs_cons (vn 0) vs_nil)) (d_cons (u_len (c.f 58) (vs_cons (vn 1) vs_nil)) d_nil))) (g_tup rfl (gs_cons (ug 2 S.nd) (gs_cons (ug 3 S.nd) gs_nil))) (ne_tup (ne_cons ne_nm (ne_cons ne_nm ne_nil))))
    (b_cons (s_setLc (i := 4) (own := [("row", 5)]) (ws := [5]) rfl S.nd rfl rfl rfl (i_seq (bb := false) (vv 0)) (blkOk_by (N := N__law_beside) (sc := defScope st__law_beside) (by decide +kernel)) (fun _ _ _ _ _ => (ug 5 S.nd)) (fun _ _ _ _ _ => ts_nil) (fun _ _ _ _ _ => (u_add (vn 5) (v_ex (v_tupRg rfl rfl (c.f 63) (rg_2 rfl (c.f 60) (vv 2) (u_add (vn 2) (vn 3))))))))
    (b_cons (s_ret (u_tuple (c.f 63) (vs_cons (v_ex (u_add (vn 4) (v_ex (v_fr (f_comp (own := [("row", 5)]) (ws := [5]) rfl S.nd (i_seq (bb := false) (vv 1)) (blkOk_by (N := N__law_beside) (sc := defScope st__law_beside) (by decide +kernel)) (fun _ _ _ _ _ => (ug 5 S.nd)) (fun _ _ _ _ _ => ts_nil) (fun _ _ _ _ _ => (u_add (v_ex (v_tupRg rfl rfl (c.f 63) (rg_1 rfl (c.f 60) (vv 2)))) (v_ex (u_tuple (c.f 63) (vs_cons (v_ex (v_fr (f_comp (own := [("own", 6)]) (ws := [6]) rfl S.nd (i_seq (bb := false) (vv 5)) (blkOk_by (by kernel_rfl)) (fun _ _ _ _ _ => (ug 6 S.nd)) (fun _ _ _ _ _ => ts_nil) (fun _ _ _ _ _ => (u_add (vn 2) (vn 6)))))) vs_nil)))))))))) vs_nil)))
    b_nil))))
theorem sc__law_renamed : FnScope N__law_renamed ["rows", "turn"] (defScope st__law_renamed) := ⟨rfl, rfl, rfl, by decide +kernel, rfl, by decide +kernel, by decide +kernel⟩
theorem ok__law_renamed (c : Fx K mg fn fa exB) : OkD P w K mg base "_law_renamed" 1 ["rows", "turn"] N__law_renamed m__law_renamed :=
  okD_of (body := b__law_renamed) (k := 0) c 30 30 rfl rfl sc__law_renamed (fun _ _ _ _ _ _ us hl => match us, hl with | [_, _], _ => rfl) (fun f cdv A outer s H E hr tk => by
    have S := sc__law_renamed
    exact (b_cons (us_set 2 S.nd (u_len (c.f 58) (vs_cons (vn 0) vs_nil)))
    (b_cons (s_ret (u_tuple (c.f 63) (vs_cons (v_ex (v_fr (f_comp (own := [("one", 3)]) (ws := [3]) rfl S.nd (i_rg1 (bb := false) rfl (c.f 60) (vv 2)) (blkOk_by (N := N__law_renamed) (sc := defScope st__law_renamed) (by decide +kernel)) (fun _ _ _ _ _ => (ug 3 S.nd)) (fun _ _ _ _ _ => ts_nil) (fun _ _ _ _ _ => (u_tuple (c.f 63) (vs_cons (v_ex (v_fr (f_comp (own := [("other", 4)]) (ws := [4]) rfl S.nd (i_rg1 (bb := false) rfl (c.f 60) (vv 2)) (blkOk_by (by kernel_rfl)) (fun _ _ _ _ _ => (ug 4 S.nd)) (fun _ _ _ _ _ => ts_nil) (fun _ _ _ _ _ => (u_ix (vn 1) (v_ex (u_ix (v_ex (u_ix (vn 0) (v_ex (u_index c.kt hr (vn 1) (vn 3))))) (v_ex (u_index c.kt hr (vn 1) (vn 4)))))))))) vs_nil)))))) vs_nil)))
    b_nil)))
theorem sc__law_rows : FnScope N__law_rows ["cup"] (defScope st__law_rows) := ⟨rfl, rfl, rfl, by decide +kernel, rfl, by decide +kernel, by decide +kernel⟩
theorem ok__law_rows (c : Fx K mg fn fa exB) (ok__law_roll : OkD P w K mg base "_law_roll" 1 ["cup", "many"] N__law_roll m__law_roll) (ok__law_some : OkD P w K mg base "_law_some" 2 ["cup", "things"] N__law_some m__law_some) (ok__law_turn : OkD P w K mg base "_law_turn" 2 ["cup", "many"] N__law_turn m__law_turn) (ok__law_stock : OkD P w K mg base "_law_stock" 1 [] N__law_stock m__law_stock) (ok__law_beside : OkD P w K mg base "_law_beside" 1 ["one", "other"] N__law_beside m__law_beside) (ok__law_renamed : OkD P w K mg base "_law_renamed" 1 ["rows", "turn"] N__law_renamed m__law_renamed) : OkD P w K mg base "_law_rows" 3 ["cup"] N__law_rows m__law_rows :=
  okD_of (body := b__law_rows) (k := 2) c 31 31 rfl rfl sc__law_rows (fun _ _ _ _ _ _ us hl => match us, hl with | [_], _ => rfl) (fun f cdv A outer s H E hr tk => by
    have S := sc__law_rows
    exact (b_cons (s_par (i := 1) (j := 2) rfl S.nd rfl rfl rfl rfl (d_cons (v_callD ok__law_some tk hr rfl (vs_cons (vn 0) (vs_cons (v_ex (v_callD0 ok__law_stock tk hr rfl)) vs_nil))) (d_cons (v_callD ok__law_some tk hr rfl (vs_cons (vn 0) (vs_cons (v_ex (v_callD0 ok__law_stock tk hr rfl)) vs_nil))) d_nil)))
    (b_cons (us_set 3 S.nd (v_if (ut_gt hr (v_ex (v_callD ok__law_roll tk hr rfl (vs_cons (vn 0) (vs_cons (v_ex v_int) vs_nil)))) (v_ex v_int)) (v_callD ok__law_beside tk hr rfl (vs_cons (vn 1) (vs_cons (vn 2) vs_nil))) (vv 1)))
    (b_cons (s_ret (v_callD ok__law_renamed tk hr rfl (vs_cons (vn 3) (vs_cons (v_ex (v_callD ok__law_turn tk hr rfl (vs_cons (vn 0) (vs_cons (v_ex (u_len (c.f 58) (vs_cons (vn 3) vs_nil))) vs_nil)))) vs_nil))))
    b_nil))))
theorem sc__law_word : FnScope N__law_word ["cup", "many", "most"] (defScope st__law_word) := ⟨rfl, rfl, rfl, by decide +kernel, rfl, by decide +kernel, by decide +kernel⟩
theorem ok__law_word (c : Fx K mg fn fa exB) (ok__law_roll : OkD P w K mg base "_law_roll" 1 ["cup", "many"] N__law_roll m__law_roll) : OkD P w K mg base "_law_word" 2 ["cup", "many", "most"] N__law_word m__law_word :=
  okD_of (body := b__law_word) (k := 1) c 33 33 rfl rfl sc__law_word (fun _ _ _ _ _ _ us hl => match us, hl with | [_, _, _], _ => rfl) (fun f cdv A outer s H E hr tk => by
    have S := sc__law_word
    exact (b_cons (s_ret (u_tuple (c.f 63) (vs_cons (v_ex (v_fr (f_comp (own := [("step", 3)]) (ws := [3]) rfl S.nd (i_rg1 (bb := false) rfl (c.f 60) (v_callD ok__law_roll tk hr rfl (vs_cons (vn 0) (vs_cons (v_ex (u_add (vn 2) (v_ex v_int))) vs_nil)))) (blkOk_by (N := N__law_word) (sc := defScope st__law_word) (by decide +kernel)) (fun _ _ _ _ _ => (ug 3 S.nd)) (fun _ _ _ _ _ => ts_nil) (fun _ _ _ _ _ => (v_callD ok__law_roll SWH.takes0 hr rfl (vs_cons (vn 0) (vs_cons (vn 1) vs_nil))))))) vs_nil)))
    b_nil))
theorem sc__law_pair : FnScope N__law_pair ["rows", "one", "other"] (defScope st__law_pair) := ⟨rfl, rfl, rfl, by decide +kernel, rfl, by decide +kernel, by decide +kernel⟩
theorem ok__law_pair (c : Fx K mg fn fa exB) : OkD P w K mg base "_law_pair" 1 ["rows", "one", "other"] N__law_pair m__law_pair :=
  okD_of (body := b__law_pair) (k := 0) c 32 32 rfl rfl sc__law_pair (fun _ _ _ _ _ _ us hl => match us, hl with | [_, _, _], _ => rfl) (fun f cdv A outer s H E hr tk => by
    have S := sc__law_pair
    exact (b_cons (us_set 3 S.nd (u_index c.kt hr (v_ex (u_ix (vn 0) (vn 1))) (vn 2)))
    (b_cons (s_ret (v_tup (d_cons (vv 3) (d_cons (u_ix (v_ex (u_ix (vn 0) (vn 3))) (vn 1)) d_nil))))
    b_nil)))
theorem sc__law_front : FnScope N__law_front ["rows", "word", "place"] (defScope st__law_front) := ⟨rfl, rfl, rfl, by decide +kernel, rfl, by decide +kernel, by decide +kernel⟩
theorem ok__law_front (c : Fx K mg fn fa exB) (ok__law_pair : OkD P w K mg base "_law_pair" 1 ["rows", "one", "other"] N__law_pair m__law_pair) : OkD P w K mg base "_law_front" 2 ["rows", "word", "place"] N__law_front m__law_front :=
  okD_of (body := b__law_front) (k := 1) c 34 34 rfl rfl sc__law_front (fun _ _ _ _ _ _ us hl => match us, hl with | [_, _, _], _ => rfl) (fun f cdv A outer s H E hr tk => by
    have S := sc__law_front
    exact (b_cons (us_set 3 S.nd (u_ix (vn 1) (vn 2)))
    (b_cons (s_for (passes_of rfl) rfl (i_rg1 (bb := false) rfl (c.f 60) (vv 2)) (ug 4 S.nd) (b_cons (us_set 3 S.nd (u_ix (v_ex (v_callD ok__law_pair tk hr rfl (vs_cons (vn 0) (vs_cons (v_ex (u_ix (vn 1) (v_ex (u_sub (v_ex (u_sub (vn 2) (v_ex v_int))) (vn 4))))) (vs_cons (vn 3) vs_nil))))) (v_ex v_int)))
    b_nil))
    (b_cons (s_ret (vv 3))
    b_nil))))
theorem sc__law_laid : FnScope N__law_laid ["rows", "word"] (defScope st__law_laid) := ⟨rfl, rfl, rfl, by decide +kernel, rfl, by decide +kernel, by decide +kernel⟩
theorem ok__law_laid (c : Fx K mg fn fa exB) (ok__law_front : OkD P w K mg base "_law_front" 2 ["rows", "word", "place"] N__law_front m__law_front) : OkD P w K mg base "_law_laid" 3 ["rows", "word"] N__law_laid m__law_laid :=
  okD_of (body := b__law_laid) (k := 2) c 35 35 rfl rfl sc__law_laid (fun _ _ _ _ _ _ us hl => match us, hl with | [_, _], _ => rfl) (fun f cdv A outer s H E hr tk => by
    have S := sc__law_laid
    exact (b_cons (s_ret (u_tuple (c.f 63) (vs_cons (v_ex (v_fr (f_comp (own := [("place", 2)]) (ws := [2]) rfl S.nd (i_rg1 (bb := false) rfl (c.f 60) (u_len (c.f 58) (vs_cons (vn 1) vs_nil))) (blkOk_by (N := N__law_laid) (sc := defScope st__law_laid) (by decide +kernel)) (fun _ _ _ _ _ => (ug 2 S.nd)) (fun _ _ _ _ _ => ts_nil) (fun _ _ _ _ _ => (v_callD ok__law_front SWH.takes0 hr rfl (vs_cons (vn 0) (vs_cons (vn 1) (vs_cons (vn 2) vs_nil)))))))) vs_nil)))
    b_nil))
theorem sc__law_ahead : FnScope N__law_ahead ["rows", "word"] (defScope st__law_ahead) := ⟨rfl, rfl, rfl, by decide +kernel, rfl, by decide +kernel, by decide +kernel⟩
theorem ok__law_ahead (c : Fx K mg fn fa exB) (ok__law_front : OkD P w K mg base "_law_front" 2 ["rows", "word", "place"] N__law_front m__law_front) : OkD P w K mg base "_law_ahead" 3 ["rows", "word"] N__law_ahead m__law_ahead :=
  okD_of (body := b__law_ahead) (k := 2) c 36 36 rfl rfl sc__law_ahead (fun _ _ _ _ _ _ us hl => match us, hl with | [_, _], _ => rfl) (fun f cdv A outer s H E hr tk => by
    have S := sc__law_ahead
    exact (b_cons (s_ret (u_tuple (c.f 63) (vs_cons (v_ex (v_fr (f_comp (own := [("own", 2)]) (ws := [2]) rfl S.nd (i_rg1 (bb := false) rfl (c.f 60) (u_len (c.f 58) (vs_cons (vn 0) vs_nil))) (blkOk_by (N := N__law_ahead) (sc := defScope st__law_ahead) (by decide +kernel)) (fun _ _ _ _ _ => (ug 2 S.nd)) (fun _ _ _ _ _ => ts_nil) (fun _ _ _ _ _ => (v_callD ok__law_front SWH.takes0 hr rfl (vs_cons (vn 0) (vs_cons (v_ex (u_add (vn 1) (v_ex (v_tup (d_cons (vv 2) d_nil))))) (vs_cons (v_ex (u_len (c.f 58) (vs_cons (vn 1) vs_nil))) vs_nil)))))))) vs_nil)))
    b_nil))
theorem sc__law_words_right : FnScope N__law_words_right ["cup"] (defScope st__law_words_right) := ⟨rfl, rfl, rfl, by decide +kernel, rfl, by decide +kernel, by decide +kernel⟩
theorem ok__law_words_right (c : Fx K mg fn fa exB) (ok_laid_row : OkD P w K mg base "laid_row" 6 ["rows", "word"] N_laid_row m_laid_row) (ok_word_laid : OkD P w K mg base "word_laid" 6 ["rows", "laid"] N_word_laid m_word_laid) (ok_turns_along : OkD P w K mg base "turns_along" 6 ["rows", "word"] N_turns_along m_turns_along) (ok_frozen_word : OkD P w K mg base "frozen_word" 6 ["rows", "letter", "many"] N_frozen_word m_frozen_word) (ok__law_roll : OkD P w K mg base "_law_roll" 1 ["cup", "many"] N__law_roll m__law_roll) (ok__law_some : OkD P w K mg base "_law_some" 2 ["cup", "things"] N__law_some m__law_some) (ok__law_sort : OkD P w K mg base "_law_sort" 1 ["value"] N__law_sort m__law_sort) (ok__law_like : OkD P w K mg base "_law_like" 14 ["one", "other"] N__law_like m__law_like) (ok__law_rows : OkD P w K mg base "_law_rows" 3 ["cup"] N__law_rows m__law_rows) (ok__law_word : OkD P w K mg base "_law_word" 2 ["cup", "many", "most"] N__law_word m__law_word) (ok__law_laid : OkD P w K mg base "_law_laid" 3 ["rows", "word"] N__law_laid m__law_laid) (ok__law_ahead : OkD P w K mg base "_law_ahead" 3 ["rows", "word"] N__law_ahead m__law_ahead) : OkD P w K mg base "_law_words_right" 15 ["cup"] N__law_words_right m__law_words_right :=
  okD_of (body := b__law_words_right) (k := 14) c 37 37 rfl rfl sc__law_words_right (fun _ _ _ _ _ _ us hl => match us, hl with | [_], _ => rfl) (fun f cdv A outer s H E hr tk => by
    have S := sc__law_words_right
    exact (b_cons (us_set 1 S.nd (v_callD ok__law_rows tk hr rfl (vs_cons (vn 0) vs_nil)))
    (b_cons (us_set 2 S.nd (u_len (c.f 58) (vs_cons (vn 1) vs_nil)))
    (b_cons (us_set 3 S.nd (v_callD ok__law_word tk hr rfl (vs_cons (vn 0) (vs_cons (vn 2) (vs_cons (v_ex (v_callD ok__law_some tk hr rfl (vs_cons (vn 0) (vs_cons (v_ex (v_fr (f_lst (d_cons v_int (d_cons v_int (d_cons v_int (d_cons v_int d_nil))))))) vs_nil)))) vs_nil)))))
    (b_cons (us_set 4 S.nd (v_callD ok__law_laid tk hr rfl (vs_cons (vn 1) (vs_cons (vn 3) vs_nil))))
    (b_cons (s_if (t_not (t_val (v_callD ok__law_like tk hr rfl (vs_cons (v_ex (v_fr (f_lst (d_cons (v_callD ok_laid_row tk hr rfl (vs_cons (vn 1) (vs_cons (vn 3) vs_nil))) (d_cons (v_callD ok_word_laid tk hr rfl (vs_cons (vn 1) (vs_cons (vn 4) vs_nil))) d_nil))))) (vs_cons (v_ex (v_fr (f_lst (d_cons (vv 4) (d_cons (vv 3) d_nil))))) vs_nil))))) (b_cons (s_ret v_bl)
    b_nil) b_nil)
    (b_cons (us_set 4 S.nd (u_tuple (c.f 63) (vs_cons (v_ex (v_fr (f_comp (own := [("at", 11)]) (ws := [11]) rfl S.nd (i_rg1 (bb := false) rfl (c.f 60) (u_add (v_ex (u_len (c.f 58) (vs_cons (vn 3) vs_nil))) (v_ex v_int))) (blkOk_by (N := N__law_words_right) (sc := defScope st__law_words_right) (by decide +kernel)) (fun _ _ _ _ _ => (ug 11 S.nd)) (fun _ _ _ _ _ => ts_nil) (fun _ _ _ _ _ => (v_callD ok__law_ahead SWH.takes0 hr rfl (vs_cons (vn 1) (vs_cons (v_ex (v_sl (vn 3) p_none (p_some (vv 11)))) vs_nil))))))) vs_nil)))
    (b_cons (s_if (t_not (t_val (v_callD ok__law_like tk hr rfl (vs_cons (v_ex (v_callD ok_turns_along tk hr rfl (vs_cons (vn 1) (vs_cons (vn 3) vs_nil)))) (vs_cons (vn 4) vs_nil))))) (b_cons (s_ret v_bl)
    b_nil) b_nil)
    (b_cons (us_set 5 S.nd (v_callD ok__law_word tk hr rfl (vs_cons (vn 0) (vs_cons (vn 2) (vs_cons (v_ex (v_callD ok__law_some tk hr rfl (vs_cons (vn 0) (vs_cons (v_ex (v_fr (f_lst (d_cons v_int (d_cons v_int (d_cons v_int (d_cons v_int d_nil))))))) vs_nil)))) vs_nil)))))
    (b_cons (us_set 6 S.nd (v_callD ok_word_laid tk hr rfl (vs_cons (vn 1) (vs_cons (vn 5) vs_nil))))
    (b_cons (s_if (EW.t (w_or (ut_ne hr (v_ex (v_callD ok__law_sort tk hr rfl (vs_cons (vn 6) vs_nil))) (v_ex v_int)) (w_or (ut_ne hr (v_ex (u_len (c.f 58) (vs_cons (vn 6) vs_nil))) (v_ex (u_len (c.f 58) (vs_cons (vn 5) vs_nil)))) (w_or1 (t_not (t_val (v_callD ok__law_like tk hr rfl (vs_cons (v_ex (v_callD ok_laid_row tk hr rfl (vs_cons (vn 1) (vs_cons (vn 6) vs_nil)))) (vs_cons (vn 5) vs_nil))))))))) (b_cons (s_ret v_bl)
    b_nil) b_nil)
    (b_cons (s_if (EW.t (w_or (ut_ne hr (v_ex (v_fr (f_comp (own := [("own", 12)]) (ws := [12]) rfl S.nd (i_seq (bb := false) (vv 6)) (blkOk_by (N := N__law_words_right) (sc := defScope st__law_words_right) (by decide +kernel)) (fun _ _ _ _ _ => (ug 12 S.nd)) (fun _ _ _ _ _ => ts_one (EW.t (w_or (ut_ne hr (v_ex (v_callD ok__law_sort SWH.takes0 hr rfl (vs_cons (vn 12) vs_nil))) (v_ex v_int)) (w_or1 (t_not (t_chain op_leA (op_ltA hr) s_le s_lt (v_ex v_int) (vn 12) (vn 2))))))) (fun _ _ _ _ _ => v_int)))) (v_ex (v_fr (f_lst d_nil)))) (w_or1 (t_not (t_val (v_callD ok__law_like tk hr rfl (vs_cons (v_ex (v_callD ok__law_laid tk hr rfl (vs_cons (vn 1) (vs_cons (vn 6) vs_nil)))) (vs_cons (vn 5) vs_nil)))))))) (b_cons (s_ret v_bl)
    b_nil) b_nil)
    (b_cons (us_set 7 S.nd (v_callD ok__law_roll tk hr rfl (vs_cons (vn 0) (vs_cons (vn 2) vs_nil))))
    (b_cons (s_par (i := 8) (j := 9) rfl S.nd rfl rfl rfl rfl (d_cons (vv 7) (d_cons (v_fr (f_lst d_nil)) d_nil)))
    (b_cons (s_for (passes_of rfl) rfl (i_rg1 (bb := false) rfl (c.f 60) (v_callD ok__law_some tk hr rfl (vs_cons (vn 0) (vs_cons (v_ex (v_fr (f_lst (d_cons v_int (d_cons v_int (d_cons v_int (d_cons v_int (d_cons v_int d_nil)))))))) vs_nil)))) (ug 10 S.nd) (b_cons (s_par (i := 9) (j := 8) rfl S.nd rfl rfl rfl rfl (d_cons (u_add (vn 9) (v_ex (v_fr (f_lst (d_cons (vv 8) d_nil))))) (d_cons (u_ix (v_ex (u_ix (vn 1) (vn 8))) (vn 8)) d_nil)))
    b_nil))
    (b_cons (us_set 6 S.nd (v_fr (f_lst (d_cons (v_callD ok_frozen_word tk hr rfl (vs_cons (vn 1) (vs_cons (vn 7) (vs_cons (v_ex (u_len (c.f 58) (vs_cons (vn 9) vs_nil))) vs_nil)))) (d_cons (v_callD ok_laid_row tk hr rfl (vs_cons (vn 1) (vs_cons (v_ex (u_tuple (c.f 63) (vs_cons (vn 9) vs_nil))) vs_nil))) d_nil)))))
    (b_cons (s_ret (v_callD ok__law_like tk hr rfl (vs_cons (vn 6) (vs_cons (v_ex (v_fr (f_lst (d_cons (u_tuple (c.f 63) (vs_cons (vn 9) vs_nil)) (d_cons (u_mul (v_ex (v_tup (d_cons (vv 7) d_nil))) (v_ex (u_len (c.f 58) (vs_cons (vn 9) vs_nil)))) d_nil))))) vs_nil))))
    b_nil)))))))))))))))))
theorem sc__law_limits_right : FnScope N__law_limits_right ["cup"] (defScope st__law_limits_right) := ⟨rfl, rfl, rfl, by decide +kernel, rfl, by decide +kernel, by decide +kernel⟩
theorem ok__law_limits_right (c : Fx K mg fn fa exB) (ct : TbOk K base mg) (ok_laid_row : OkD P w K mg base "laid_row" 6 ["rows", "word"] N_laid_row m_laid_row) (ok_word_laid : OkD P w K mg base "word_laid" 6 ["rows", "laid"] N_word_laid m_word_laid) (ok_turns_along : OkD P w K mg base "turns_along" 6 ["rows", "word"] N_turns_along m_turns_along) (ok_frozen_word : OkD P w K mg base "frozen_word" 6 ["rows", "letter", "many"] N_frozen_word m_frozen_word) (ok__law_like : OkD P w K mg base "_law_like" 14 ["one", "other"] N__law_like m__law_like) : OkD P w K mg base "_law_limits_right" 15 ["cup"] N__law_limits_right m__law_limits_right :=
  okD_ofL (body := b__law_limits_right) (k := 14) c 38 38 rfl rfl sc__law_limits_right (fun _ _ _ _ _ _ us hl => match us, hl with | [_], _ => rfl) (fun f cdv A outer s H E hcd hr tk => by
    have S := sc__law_limits_right
    have hcd := And.intro (show (("_law_limits_right", none) : Str × Option Str) ∈ tf by decide +kernel) hcd
    exact (b_cons (s_asg (v_tup (d_cons (v_tup (d_cons (v_tup (d_cons v_int (d_cons v_int d_nil))) (d_cons (v_tup (d_cons v_int (d_cons v_int d_nil))) d_nil))) (d_cons (v_tup (d_cons (v_tup (d_cons v_int (d_cons v_int (d_cons v_int d_nil)))) (d_cons (v_tup (d_cons v_int (d_cons v_int (d_cons v_int d_nil)))) (d_cons (v_tup (d_cons v_int (d_cons v_int (d_cons v_int d_nil)))) d_nil)))) d_nil))) (g_tup rfl (gs_cons (ug 1 S.nd) (gs_cons (ug 2 S.nd) gs_nil))) (ne_tup (ne_cons ne_nm (ne_cons ne_nm ne_nil))))
    (b_cons (us_set 3 S.nd (v_tup (d_cons (v_tup (d_cons v_int (d_cons v_int (d_cons v_int (d_cons v_int d_nil))))) (d_cons (v_tup (d_cons v_int (d_cons v_int (d_cons v_int (d_cons v_int d_nil))))) (d_cons (v_tup (d_cons v_int (d_cons v_int (d_cons v_int (d_cons v_int d_nil))))) (d_cons (v_tup (d_cons v_int (d_cons v_int (d_cons v_int (d_cons v_int d_nil))))) d_nil))))))
    (b_cons (s_if (t_not (t_val (v_callD ok__law_like tk hr rfl (vs_cons (v_ex (v_fr (f_lst (d_cons (v_callD ok_laid_row tk hr rfl (vs_cons (vn 3) (vs_cons (v_ex (v_tup (d_cons v_int (d_cons v_int (d_cons v_int d_nil))))) vs_nil))) (d_cons (v_callD ok_word_laid tk hr rfl (vs_cons (vn 3) (vs_cons (v_ex (v_tup (d_cons v_int (d_cons v_int (d_cons v_int d_nil))))) vs_nil))) d_nil))))) (vs_cons (v_ex (v_fr (f_lst (d_cons (v_tup (d_cons v_int (d_cons v_int (d_cons v_int d_nil)))) (d_cons (v_tup (d_cons v_int (d_cons v_int (d_cons v_int d_nil)))) d_nil))))) vs_nil))))) (b_cons (s_ret v_bl)
    b_nil) b_nil)
    (b_cons (us_set 4 S.nd (v_fr (f_lst (d_cons (v_callD ok_laid_row tk hr rfl (vs_cons (vn 1) (vs_cons (v_ex (v_tup (d_cons v_int (d_cons v_int (d_cons v_int d_nil))))) vs_nil))) (d_cons (v_callD ok_laid_row tk hr rfl (vs_cons (vn 2) (vs_cons (v_ex (v_tup (d_cons v_int (d_cons v_int (d_cons v_int d_nil))))) vs_nil))) (d_cons (v_callD ok_laid_row tk hr rfl (vs_cons (vn 3) (vs_cons (v_ex (v_tup (d_cons v_int (d_cons v_int (d_cons v_int (d_cons v_int d_nil)))))) vs_nil))) (d_cons (v_callD ok_laid_row tk hr rfl (vs_cons (vn 2) (vs_cons (v_ex (v_tup d_nil)) vs_nil))) (d_cons (v_callD ok_laid_row tk hr rfl (vs_cons (v_ex (v_tup (d_cons (v_tup (d_cons v_int d_nil)) d_nil))) (vs_cons (v_ex (v_tup (d_cons v_int (d_cons v_int d_nil)))) vs_nil))) d_nil))))))))
    (b_cons (us_set 5 S.nd (v_fr (f_lst (d_cons (v_tup (d_cons v_int (d_cons v_int (d_cons v_int d_nil)))) (d_cons (v_tup (d_cons v_int (d_cons v_int (d_cons v_int d_nil)))) (d_cons (v_tup (d_cons v_int (d_cons v_int (d_cons v_int (d_cons v_int d_nil))))) (d_cons (v_tup d_nil) (d_cons (v_tup (d_cons v_int (d_cons v_int d_nil))) d_nil))))))))
    (b_cons (us_set 4 S.nd (u_add (vn 4) (v_ex (v_fr (f_lst (d_cons (v_callD ok_word_laid tk hr rfl (vs_cons (vn 2) (vs_cons (v_ex (v_tup (d_cons v_int (d_cons v_int (d_cons v_int d_nil))))) vs_nil))) (d_cons (v_callD ok_word_laid tk hr rfl (vs_cons (vn 3) (vs_cons (v_ex (v_tup (d_cons v_int (d_cons v_int (d_cons v_int (d_cons v_int d_nil)))))) vs_nil))) (d_cons (v_callD ok_word_laid tk hr rfl (vs_cons (vn 1) (vs_cons (v_ex (v_tup d_nil)) vs_nil))) (d_cons (u_len (c.f 58) (vs_cons (v_ex (v_callD ok_word_laid tk hr rfl (vs_cons (vn 3) (vs_cons (v_ex (u_mul (v_ex (v_tup (d_cons v_int d_nil))) (v_ex v_int))) vs_nil)))) vs_nil)) d_nil)))))))))
    (b_cons (us_set 5 S.nd (u_add (vn 5) (v_ex (v_fr (f_lst (d_cons (v_tup (d_cons v_int (d_cons v_int (d_cons v_int d_nil)))) (d_cons (v_tup (d_cons v_int (d_cons v_int (d_cons v_int (d_cons v_int d_nil))))) (d_cons (v_tup d_nil) (d_cons v_int d_nil)))))))))
    (b_cons (us_set 4 S.nd (u_add (vn 4) (v_ex (v_fr (f_lst (d_cons (v_callD ok_turns_along tk hr rfl (vs_cons (vn 2) (vs_cons (v_ex (v_tup (d_cons v_int (d_cons v_int d_nil)))) vs_nil))) (d_cons (v_callD ok_turns_along tk hr rfl (vs_cons (vn 1) (vs_cons (v_ex (v_tup (d_cons v_int (d_cons v_int d_nil)))) vs_nil))) (d_cons (v_callD ok_turns_along tk hr rfl (vs_cons (vn 3) (vs_cons (v_ex (v_tup d_nil)) vs_nil))) (d_cons (u_ix (v_ex (v_callD ok_turns_along tk hr rfl (vs_cons (vn 3) (vs_cons (v_ex (v_tup (d_cons v_int (d_cons v_int (d_cons v_int (d_cons v_int d_nil)))))) vs_nil)))) (v_ex v_int)) d_nil)))))))))
    (b_cons (us_set 5 S.nd (u_add (vn 5) (v_ex (v_fr (f_lst (d_cons (v_tup (d_cons (v_tup (d_cons v_int (d_cons v_int (d_cons v_int d_nil)))) (d_cons (v_tup (d_cons v_int (d_cons v_int (d_cons v_int d_nil)))) (d_cons (v_tup (d_cons v_int (d_cons v_int (d_cons v_int d_nil)))) d_nil)))) (d_cons (v_tup (d_cons (v_tup (d_cons v_int (d_cons v_int d_nil))) (d_cons (v_tup (d_cons v_int (d_cons v_int d_nil))) (d_cons (v_tup (d_cons v_int (d_cons v_int d_nil))) d_nil)))) (d_cons (v_tup (d_cons (v_tup (d_cons v_int (d_cons v_int (d_cons v_int (d_cons v_int d_nil))))) d_nil)) (d_cons (v_tup (d_cons v_int (d_cons v_int (d_cons v_int (d_cons v_int d_nil))))) d_nil)))))))))
    (b_cons (us_set 4 S.nd (u_add (vn 4) (v_ex (v_fr (f_lst (d_cons (v_callD ok_frozen_word tk hr rfl (vs_cons (vn 3) (vs_cons (v_ex v_int) (vs_cons (v_ex v_int) vs_nil)))) (d_cons (v_callD ok_frozen_word tk hr rfl (vs_cons (vn 1) (vs_cons (v_ex v_int) (vs_cons (v_ex v_int) vs_nil)))) (d_cons (v_callD ok_frozen_word tk hr rfl (vs_cons (vn 2) (vs_cons (v_ex v_int) (vs_cons (v_ex v_int) vs_nil)))) (d_cons (v_callD ok_frozen_word tk hr rfl (vs_cons (vn 3) (vs_cons (v_ex v_int) (vs_cons (v_ex v_int) vs_nil)))) (d_cons (v_callD ok_frozen_word tk hr rfl (vs_cons (vn 1) (vs_cons (v_ex v_int) (vs_cons (v_ex v_int) vs_nil)))) d_nil))))))))))
    (b_cons (us_set 5 S.nd (u_add (vn 5) (v_ex (v_fr (f_lst (d_cons (v_tup (d_cons v_int (d_cons v_int (d_cons v_int d_nil)))) (d_cons (v_tup (d_cons v_int (d_cons v_int d_nil))) (d_cons (v_tup d_nil) (d_cons (u_mul (v_ex (v_tup (d_cons v_int d_nil))) (v_ex v_int)) (d_cons (v_tup (d_cons v_int (d_cons v_int (d_cons v_int d_nil)))) d_nil))))))))))
    (b_cons (s_if (t_not (t_val (v_callD ok__law_like tk hr rfl (vs_cons (vn 4) (vs_cons (vn 5) vs_nil))))) (b_cons (s_ret v_bl)
    b_nil) b_nil)
    (b_cons (us_set 6 S.nd (v_fr (f_lst d_nil)))
    (b_cons (s_for (passes_of rfl) rfl (i_seq (bb := false) (v_tup (d_cons v_non (d_cons (v_tup (d_cons (v_tup (d_cons v_int (d_cons v_int d_nil))) (d_cons (v_tup (d_cons v_int (d_cons v_int d_nil))) d_nil))) (d_cons (v_tup d_nil) (d_cons (v_fr (f_lst (d_cons (v_tup (d_cons v_int d_nil)) d_nil))) (d_cons (v_tup (d_cons (v_tup (d_cons v_int (d_cons v_int d_nil))) d_nil)) (d_cons (v_tup (d_cons (v_tup (d_cons v_int (d_cons v_int (d_cons v_int d_nil)))) (d_cons (v_tup (d_cons v_int (d_cons v_int (d_cons v_int d_nil)))) (d_cons (v_tup (d_cons v_int (d_cons v_int (d_cons v_int d_nil)))) d_nil)))) (d_cons v_int d_nil))))))))) (ug 7 S.nd) (b_cons (us_set 6 S.nd (u_add (vn 6) (v_ex (v_fr (f_lst (d_cons (toldX__law_error c ct (by rfl) hcd hr (LamX.lamS_by (sc := defScope st__law_limits_right) (by decide +kernel)) (fun A outer s H E f' c' hr tk => (v_callD ok_laid_row tk hr rfl (vs_cons (vn 7) (vs_cons (v_ex v_non) vs_nil))))) d_nil))))))
    (b_cons (us_set 6 S.nd (u_add (vn 6) (v_ex (v_fr (f_lst (d_cons (toldX__law_error c ct (by rfl) hcd hr (LamX.lamS_by (sc := defScope st__law_limits_right) (by decide +kernel)) (fun A outer s H E f' c' hr tk => (v_callD ok_word_laid tk hr rfl (vs_cons (vn 7) (vs_cons (v_ex v_non) vs_nil))))) d_nil))))))
    (b_cons (us_set 6 S.nd (u_add (vn 6) (v_ex (v_fr (f_lst (d_cons (toldX__law_error c ct (by rfl) hcd hr (LamX.lamS_by (sc := defScope st__law_limits_right) (by decide +kernel)) (fun A outer s H E f' c' hr tk => (v_callD ok_turns_along tk hr rfl (vs_cons (vn 7) (vs_cons (v_ex v_non) vs_nil))))) d_nil))))))
    (b_cons (us_set 6 S.nd (u_add (vn 6) (v_ex (v_fr (f_lst (d_cons (toldX__law_error c ct (by rfl) hcd hr (LamX.lamS_by (sc := defScope st__law_limits_right) (by decide +kernel)) (fun A outer s H E f' c' hr tk => (v_callD ok_frozen_word tk hr rfl (vs_cons (vn 7) (vs_cons (v_ex v_non) (vs_cons (v_ex v_non) vs_nil)))))) d_nil))))))
    b_nil)))))
    (b_cons (s_if (ut_ne hr (vn 6) (v_ex (v_fr (f_rep (f_lst (d_cons v_str d_nil)) (v_ex v_int))))) (b_cons (s_ret v_bl)
    b_nil) b_nil)
    (b_cons (s_for (passes_of rfl) rfl (i_seq (bb := false) (v_tup (d_cons v_non (d_cons (v_fr (f_lst (d_cons v_int d_nil))) (d_cons (v_tup (d_cons v_int d_nil)) (d_cons (v_tup (d_cons v_int (d_cons (u_neg (v_ex v_int)) d_nil))) (d_cons (v_tup (d_cons v_bl d_nil)) (d_cons (v_tup (d_cons v_non d_nil)) (d_cons (u_mul (v_ex (v_tup (d_cons v_int d_nil))) (v_ex v_int)) (d_cons v_str (d_cons v_int d_nil))))))))))) (ug 7 S.nd) (b_cons (us_set 6 S.nd (u_add (vn 6) (v_ex (v_fr (f_lst (d_cons (toldX__law_error c ct (by rfl) hcd hr (LamX.lamS_by (sc := defScope st__law_limits_right) (by decide +kernel)) (fun A outer s H E f' c' hr tk => (v_callD ok_laid_row tk hr rfl (vs_cons (vn 2) (vs_cons (vn 7) vs_nil))))) d_nil))))))
    (b_cons (us_set 6 S.nd (u_add (vn 6) (v_ex (v_fr (f_lst (d_cons (toldX__law_error c ct (by rfl) hcd hr (LamX.lamS_by (sc := defScope st__law_limits_right) (by decide +kernel)) (fun A outer s H E f' c' hr tk => (v_callD ok_word_laid tk hr rfl (vs_cons (vn 2) (vs_cons (vn 7) vs_nil))))) d_nil))))))
    (b_cons (us_set 6 S.nd (u_add (vn 6) (v_ex (v_fr (f_lst (d_cons (toldX__law_error c ct (by rfl) hcd hr (LamX.lamS_by (sc := defScope st__law_limits_right) (by decide +kernel)) (fun A outer s H E f' c' hr tk => (v_callD ok_turns_along tk hr rfl (vs_cons (vn 2) (vs_cons (vn 7) vs_nil))))) d_nil))))))
    b_nil))))
    (b_cons (s_for (passes_of rfl) rfl (i_seq (bb := false) (v_tup (d_cons v_non (d_cons (u_neg (v_ex v_int)) (d_cons v_int (d_cons v_bl (d_cons v_str (d_cons (v_tup (d_cons v_int d_nil)) d_nil)))))))) (ug 7 S.nd) (b_cons (us_set 6 S.nd (u_add (vn 6) (v_ex (v_fr (f_lst (d_cons (toldX__law_error c ct (by rfl) hcd hr (LamX.lamS_by (sc := defScope st__law_limits_right) (by decide +kernel)) (fun A outer s H E f' c' hr tk => (v_callD ok_frozen_word tk hr rfl (vs_cons (vn 2) (vs_cons (vn 7) (vs_cons (v_ex v_non) vs_nil)))))) d_nil))))))
    b_nil))
    (b_cons (s_for (passes_of rfl) rfl (i_seq (bb := false) (v_tup (d_cons v_non (d_cons (u_neg (v_ex v_int)) (d_cons v_int (d_cons v_bl (d_cons v_str d_nil))))))) (ug 7 S.nd) (b_cons (us_set 6 S.nd (u_add (vn 6) (v_ex (v_fr (f_lst (d_cons (toldX__law_error c ct (by rfl) hcd hr (LamX.lamS_by (sc := defScope st__law_limits_right) (by decide +kernel)) (fun A outer s H E f' c' hr tk => (v_callD ok_frozen_word tk hr rfl (vs_cons (vn 2) (vs_cons (v_ex v_int) (vs_cons (vn 7) vs_nil)))))) d_nil))))))
    b_nil))
    (b_cons (s_ret (u_eq hr (v_ex (v_sl (vn 6) (p_some v_int) p_none)) (v_ex (u_add (v_ex (v_fr (f_rep (f_lst (d_cons v_str d_nil)) (v_ex v_int)))) (v_ex (v_fr (f_rep (f_lst (d_cons v_str d_nil)) (v_ex v_int))))))))
    b_nil))))))))))))))))))))
theorem sc_law : FnScope N_law ["script"] (defScope st_law) := ⟨rfl, rfl, rfl, by decide +kernel, rfl, by decide +kernel, by decide +kernel⟩
theorem ok_law (c : Fx K mg fn fa exB) (ok__law_cup : OkD P w K mg base "_law_cup" 1 ["script"] N__law_cup m__law_cup) (ok__law_words_right : OkD P w K mg base "_law_words_right" 15 ["cup"] N__law_words_right m__law_words_right) (ok__law_limits_right : OkD P w K mg base "_law_limits_right" 15 ["cup"] N__law_limits_right m__law_limits_right) : OkD P w K mg base "law" 16 ["script"] N_law m_law :=
  okD_of (body := b_law) (k := 15) c 39 39 rfl rfl sc_law (fun _ _ _ _ _ _ us hl => match us, hl with | [_], _ => rfl) (fun f cdv A outer s H E hr tk => by
    have S := sc_law
    exact (b_cons (us_own 1 S.nd (f_callD ok__law_cup tk hr rfl (vs_cons (vn 0) vs_nil)))
    (b_cons (s_if (t_not (t_val (v_callD ok__law_limits_right tk hr rfl (vs_cons (vn 1) vs_nil)))) (b_cons (s_ret v_bl)
    b_nil) b_nil)
    (b_cons (s_for (passes_of rfl) rfl (i_rg1 (bb := false) rfl (c.f 60) v_int) (ug 2 S.nd) (b_cons (s_if (t_not (t_val (v_callD ok__law_words_right tk hr rfl (vs_cons (vn 1) vs_nil)))) (b_cons (s_ret v_bl)
    b_nil) b_nil)
    b_nil))
    (b_cons (s_ret v_bl)
    b_nil)))))
theorem ok_all (c : Fx K mg fn fa exB) (ct : TbOk K base mg) : OkD P w K mg base "law" 16 ["script"] N_law m_law := by
  have h__law_cup := ok__law_cup (P := P) (w := w) (base := base) c 
  have h_is_tuple_of := ok_is_tuple_of (P := P) (w := w) (base := base) c 
  have h_is_whole := ok_is_whole (P := P) (w := w) (base := base) c 
  have h_is_turn := ok_is_turn (P := P) (w := w) (base := base) c h_is_tuple_of h_is_whole
  have h_are_turn_rows := ok_are_turn_rows (P := P) (w := w) (base := base) c h_is_tuple_of h_is_turn
  have h_first_unlike := ok_first_unlike (P := P) (w := w) (base := base) c 
  have h_is_cycle_set := ok_is_cycle_set (P := P) (w := w) (base := base) c h_are_turn_rows h_first_unlike
  have h_need_cycle_set := ok_need_cycle_set (P := P) (w := w) (base := base) c h_is_cycle_set
  have h_is_word_of := ok_is_word_of (P := P) (w := w) (base := base) c h_is_tuple_of h_is_whole
  have h_need_word := ok_need_word (P := P) (w := w) (base := base) c h_is_word_of
  have h_joined_of := ok_joined_of (P := P) (w := w) (base := base) c 
  have h_back_of := ok_back_of (P := P) (w := w) (base := base) c 
  have h_plain_of := ok_plain_of (P := P) (w := w) (base := base) c 
  have h_turns_of := ok_turns_of (P := P) (w := w) (base := base) c h_joined_of h_back_of h_plain_of
  have h_laid_of := ok_laid_of (P := P) (w := w) (base := base) c h_turns_of
  have h_laid_row := ok_laid_row (P := P) (w := w) (base := base) c h_need_cycle_set h_need_word h_laid_of
  have h_letter_adding := ok_letter_adding (P := P) (w := w) (base := base) c h_back_of
  have h_word_of_laid := ok_word_of_laid (P := P) (w := w) (base := base) c h_joined_of h_back_of h_plain_of h_letter_adding
  have h_word_laid := ok_word_laid (P := P) (w := w) (base := base) c h_need_cycle_set h_need_word h_word_of_laid
  have h_turns_along := ok_turns_along (P := P) (w := w) (base := base) c h_need_cycle_set h_need_word h_turns_of
  have h_need_whole := ok_need_whole (P := P) (w := w) (base := base) c h_is_whole
  have h_frozen_word := ok_frozen_word (P := P) (w := w) (base := base) c h_need_cycle_set h_word_of_laid h_need_whole
  have h__law_roll := ok__law_roll (P := P) (w := w) (base := base) c 
  have h__law_some := ok__law_some (P := P) (w := w) (base := base) c h__law_roll
  have h__law_sort := ok__law_sort (P := P) (w := w) (base := base) c 
  have h__law_like := ok__law_like (P := P) (w := w) (base := base) c h__law_sort
  have h__law_turn := ok__law_turn (P := P) (w := w) (base := base) c h__law_roll
  have h__law_stock := ok__law_stock (P := P) (w := w) (base := base) c 
  have h__law_beside := ok__law_beside (P := P) (w := w) (base := base) c 
  have h__law_renamed := ok__law_renamed (P := P) (w := w) (base := base) c 
  have h__law_rows := ok__law_rows (P := P) (w := w) (base := base) c h__law_roll h__law_some h__law_turn h__law_stock h__law_beside h__law_renamed
  have h__law_word := ok__law_word (P := P) (w := w) (base := base) c h__law_roll
  have h__law_pair := ok__law_pair (P := P) (w := w) (base := base) c 
  have h__law_front := ok__law_front (P := P) (w := w) (base := base) c h__law_pair
  have h__law_laid := ok__law_laid (P := P) (w := w) (base := base) c h__law_front
  have h__law_ahead := ok__law_ahead (P := P) (w := w) (base := base) c h__law_front
  have h__law_words_right := ok__law_words_right (P := P) (w := w) (base := base) c h_laid_row h_word_laid h_turns_along h_frozen_word h__law_roll h__law_some h__law_sort h__law_like h__law_rows h__law_word h__law_laid h__law_ahead
  have h__law_limits_right := ok__law_limits_right (P := P) (w := w) (base := base) c ct h_laid_row h_word_laid h_turns_along h_frozen_word h__law_like
  have h_law := ok_law (P := P) (w := w) (base := base) c h__law_cup h__law_words_right h__law_limits_right
  exact h_law
end
end SW
set_option Elab.async false
set_option linter.all false
set_option maxRecDepth 100000
set_option maxHeartbeats 0
namespace SW
open PySem PySem.Spec PyProof.Rows L2
abbrev RR : PySem.W.OpenRow := PySem.W.OpenLaw.row PySem.Challenge.rw_swapsagree_k15_whole_laid_rows
abbrev hk : PySem.W.Hook := He.hookX 4 fa fn [] tf exB
def ob (s : PySem.W.SharedT) : He.AlX := He.obsX 4 fa fn [] tf exB (HandSHeadRun.getT s)
theorem ob_eq (s : PySem.W.SharedT) : ob s = hk.obs s.abs := He.obsX_eq (HandSHeadRun.getT_eq s)
theorem run (w : World) : HandSHeadRun.RunEq RR (PySem.W.view RR.prog [53]) hk ob 20000 loose w := by
  intro os
  kernel_rfl
theorem exB1 (K : PySem.W.Frag) (h : exB K = true) : kTupB K = true := (Bool.and_eq_true_iff.mp h).1
theorem exB2 (K : PySem.W.Frag) (h : exB K = true) : (tf.map fun p => (He.cT K p).2).Nodup := of_decide_eq_true (Bool.and_eq_true_iff.mp (Bool.and_eq_true_iff.mp h).2).1
end SW
set_option Elab.async false
set_option linter.all false
set_option maxRecDepth 100000
set_option maxHeartbeats 2000000
namespace SW
open PySem L2
theorem z_whole {d : D} (lo hi : Int) (h : noDict d = true) : p_is_whole d (PyData.int lo) (PyData.int hi) = pu (PyData.bool (isWhole d lo hi)) := by
  rw [pe_is_whole]
  cases d with
  | dict _ => cases h
  | int v =>
    have e : fin (pb_is_whole (PyData.int v) (PyData.int lo) (PyData.int hi)) = fin (bd (chainW (some (PyData.bool (decide (lo ≤ v)))) (opt (some (PyData.bool (decide (v ≤ hi)))))) fun d => pu (.rt d)) := rfl
    rw [e]
    show _ = pu (PyData.bool (decide (lo ≤ v) && decide (v ≤ hi)))
    cases decide (lo ≤ v) <;> rfl
  | _ => rfl
theorem z_int (v lo hi : Int) : p_is_whole (PyData.int v) (PyData.int lo) (PyData.int hi) = pu (PyData.bool (isWhole (PyData.int v) lo hi)) := z_whole lo hi rfl
theorem z_int_t {v lo hi : Int} (h1 : lo ≤ v) (h2 : v ≤ hi) : p_is_whole (PyData.int v) (PyData.int lo) (PyData.int hi) = pu (PyData.bool true) := by
  rw [z_int]
  show pu (PyData.bool (decide (lo ≤ v) && decide (v ≤ hi))) = _
  rw [decide_eq_true h1, decide_eq_true h2]
  rfl
theorem z_tup {d : D} (lo hi : Int) (h : noDict d = true) : p_is_tuple_of d (PyData.int lo) (PyData.int hi) = pu (PyData.bool (isTup d lo hi)) := by
  rw [pe_is_tuple_of]
  cases d with
  | dict _ => cases h
  | tuple xs =>
    have e : fin (pb_is_tuple_of (PyData.tuple xs) (PyData.int lo) (PyData.int hi)) = fin (bd (chainW (some (PyData.bool (decide (lo ≤ (xs.length : Int))))) (opt (some (PyData.bool (decide ((xs.length : Int) ≤ hi)))))) fun d => pu (.rt d)) := rfl
    rw [e]
    show _ = pu (PyData.bool (decide (lo ≤ (xs.length : Int)) && decide ((xs.length : Int) ≤ hi)))
    cases decide (lo ≤ (xs.length : Int)) <;> rfl
  | _ => rfl
theorem z_tup_t {n : Nat} {g : Nat → D} {lo hi : Int} (h1 : lo ≤ n) (h2 : (n : Int) ≤ hi) : p_is_tuple_of (PyData.tuple (sq n g)) (PyData.int lo) (PyData.int hi) = pu (PyData.bool true) := by
  rw [z_tup _ _ rfl]
  show pu (PyData.bool (decide (lo ≤ ((sq n g).length : Int)) && decide (((sq n g).length : Int) ≤ hi))) = _
  rw [sq_len, decide_eq_true h1, decide_eq_true h2]
  rfl
theorem z_turn {n : Nat} (p : Pm n) (h1 : 1 ≤ n) (h2 : n ≤ 60) : p_is_turn (row n p.to) = pu (PyData.bool true) := by
  have e2 : p_is_tuple_of (row n p.to) (PyData.int 1) (PyData.int 60) = pu (PyData.bool true) := z_tup_t (by omega) (by omega)
  unfold p_is_turn pb_is_turn
  simp -implicitDefEqProofs only [e2, bd_pu, pu_run, bd_no, bd_rz, opt_some, opt_none, ner_pu, ite_t, ite_f, asBW_b, tst_b, andD_t, andD_f, orD_t, orD_f, notD_b, andB_t, andB_f, orB_t, orB_f, notB_b, lst_pu, optL_l, chain_t, chain_f, partW_i, rg1_i, rg2_i, par1_t, par2_t, par3_t, tup2_t, tup3_t, seq_p, seq_r, fin_r, fin_n, fin_z, finF_r, fin_bd, seq_bd, bd_bd, bd_eta, tst_bd, ite_bd, notB_bd, notD_bd, andB_bd, orB_bd, andD_bd, orD_bd, lst_bd, Bool.not_true, Bool.not_false, len_tab, len_row, len_bag, len_t, len_l, items_tab, items_row, items_bag, items_tup, items_lst, tuple_l, tuple_t, list_l, list_t, list_row, list_bag, sub_i, add_i, neg_i, abs_i, lt_i, le_i, gt_i, ge_i, eq_self, ne_self, sorted_row, eq_rng, all_true, isN_d, notN_d, zipW_bag, zipW_t, ixt_0, ixt_1, ixt_2, ixl_0, ixl_1, rgL_s (show n ≤ 16777216 by omega)]
  rw [comp_sq (by omega), compN_eq fun _ => PyData.bool true]
  · simp -implicitDefEqProofs only [bd_pu, pu_run, bd_no, bd_rz, opt_some, opt_none, ner_pu, ite_t, ite_f, asBW_b, tst_b, andD_t, andD_f, orD_t, orD_f, notD_b, andB_t, andB_f, orB_t, orB_f, notB_b, lst_pu, optL_l, chain_t, chain_f, partW_i, rg1_i, rg2_i, par1_t, par2_t, par3_t, tup2_t, tup3_t, seq_p, seq_r, fin_r, fin_n, fin_z, finF_r, fin_bd, seq_bd, bd_bd, bd_eta, tst_bd, ite_bd, notB_bd, notD_bd, andB_bd, orB_bd, andD_bd, orD_bd, lst_bd, Bool.not_true, Bool.not_false, len_tab, len_row, len_bag, len_t, len_l, items_tab, items_row, items_bag, items_tup, items_lst, tuple_l, tuple_t, list_l, list_t, list_row, list_bag, sub_i, add_i, neg_i, abs_i, lt_i, le_i, gt_i, ge_i, eq_self, ne_self, sorted_row, eq_rng, all_true, isN_d, notN_d, zipW_bag, zipW_t, ixt_0, ixt_1, ixt_2, ixl_0, ixl_1]
  · intro i hi
    exact z_int_t (by omega) (by have := p.lt hi; omega)
theorem z_joined {n : Nat} (p q : Pm n) (h2 : n ≤ 60) : p_joined_of (row n p.to) (row n q.to) = pu (row n (p.mul q).to) := by
  unfold p_joined_of pb_joined_of
  simp -implicitDefEqProofs only [bd_pu, pu_run, bd_no, bd_rz, opt_some, opt_none, ner_pu, ite_t, ite_f, asBW_b, tst_b, andD_t, andD_f, orD_t, orD_f, notD_b, andB_t, andB_f, orB_t, orB_f, notB_b, lst_pu, optL_l, chain_t, chain_f, partW_i, rg1_i, rg2_i, par1_t, par2_t, par3_t, tup2_t, tup3_t, seq_p, seq_r, fin_r, fin_n, fin_z, finF_r, fin_bd, seq_bd, bd_bd, bd_eta, tst_bd, ite_bd, notB_bd, notD_bd, andB_bd, orB_bd, andD_bd, orD_bd, lst_bd, Bool.not_true, Bool.not_false, len_tab, len_row, len_bag, len_t, len_l, items_tab, items_row, items_bag, items_tup, items_lst, tuple_l, tuple_t, list_l, list_t, list_row, list_bag, sub_i, add_i, neg_i, abs_i, lt_i, le_i, gt_i, ge_i, eq_self, ne_self, sorted_row, eq_rng, all_true, isN_d, notN_d, zipW_bag, zipW_t, ixt_0, ixt_1, ixt_2, ixl_0, ixl_1]
  rw [comp_sq (by omega), compN_eq fun i => nI (p.to (q.to i))]
  · rfl
  · intro i hi
    rw [ix_row (q.lt hi)]
    rfl
theorem z_plain {n : Nat} (h2 : n ≤ 60) : p_plain_of (nI n) = pu (row n (Pm.one : Pm n).to) := by
  unfold p_plain_of pb_plain_of
  simp -implicitDefEqProofs only [bd_pu, pu_run, bd_no, bd_rz, opt_some, opt_none, ner_pu, ite_t, ite_f, asBW_b, tst_b, andD_t, andD_f, orD_t, orD_f, notD_b, andB_t, andB_f, orB_t, orB_f, notB_b, lst_pu, optL_l, chain_t, chain_f, partW_i, rg1_i, rg2_i, par1_t, par2_t, par3_t, tup2_t, tup3_t, seq_p, seq_r, fin_r, fin_n, fin_z, finF_r, fin_bd, seq_bd, bd_bd, bd_eta, tst_bd, ite_bd, notB_bd, notD_bd, andB_bd, orB_bd, andD_bd, orD_bd, lst_bd, Bool.not_true, Bool.not_false, len_tab, len_row, len_bag, len_t, len_l, items_tab, items_row, items_bag, items_tup, items_lst, tuple_l, tuple_t, list_l, list_t, list_row, list_bag, sub_i, add_i, neg_i, abs_i, lt_i, le_i, gt_i, ge_i, eq_self, ne_self, sorted_row, eq_rng, all_true, isN_d, notN_d, zipW_bag, zipW_t, ixt_0, ixt_1, ixt_2, ixl_0, ixl_1, rgT_s (show n ≤ 16777216 by omega)]
  rfl
theorem z_back {n : Nat} (p : Pm n) (h2 : n ≤ 60) : p_back_of (row n p.to) = pu (row n p.bk.to) := by
  unfold p_back_of pb_back_of
  simp -implicitDefEqProofs only [bd_pu, pu_run, bd_no, bd_rz, opt_some, opt_none, ner_pu, ite_t, ite_f, asBW_b, tst_b, andD_t, andD_f, orD_t, orD_f, notD_b, andB_t, andB_f, orB_t, orB_f, notB_b, lst_pu, optL_l, chain_t, chain_f, partW_i, rg1_i, rg2_i, par1_t, par2_t, par3_t, tup2_t, tup3_t, seq_p, seq_r, fin_r, fin_n, fin_z, finF_r, fin_bd, seq_bd, bd_bd, bd_eta, tst_bd, ite_bd, notB_bd, notD_bd, andB_bd, orB_bd, andD_bd, orD_bd, lst_bd, Bool.not_true, Bool.not_false, len_tab, len_row, len_bag, len_t, len_l, items_tab, items_row, items_bag, items_tup, items_lst, tuple_l, tuple_t, list_l, list_t, list_row, list_bag, sub_i, add_i, neg_i, abs_i, lt_i, le_i, gt_i, ge_i, eq_self, ne_self, sorted_row, eq_rng, all_true, isN_d, notN_d, zipW_bag, zipW_t, ixt_0, ixt_1, ixt_2, ixl_0, ixl_1, rep_s (n := n) (PyData.int 0) (show n ≤ 16777216 by omega), enum_row]
  have z : (sq n fun _ => (PyData.int 0 : D)) = (fun k => sq n fun j => if p.inv j < k then nI (p.inv j) else PyData.int 0) 0 := sq_congr fun j _ => (if_neg (by omega)).symm
  rw [z, for_sq fun k => sq n fun j => if p.inv j < k then nI (p.inv j) else PyData.int 0]
  · simp -implicitDefEqProofs only [bd_pu, pu_run, bd_no, bd_rz, opt_some, opt_none, ner_pu, ite_t, ite_f, asBW_b, tst_b, andD_t, andD_f, orD_t, orD_f, notD_b, andB_t, andB_f, orB_t, orB_f, notB_b, lst_pu, optL_l, chain_t, chain_f, partW_i, rg1_i, rg2_i, par1_t, par2_t, par3_t, tup2_t, tup3_t, seq_p, seq_r, fin_r, fin_n, fin_z, finF_r, fin_bd, seq_bd, bd_bd, bd_eta, tst_bd, ite_bd, notB_bd, notD_bd, andB_bd, orB_bd, andD_bd, orD_bd, lst_bd, Bool.not_true, Bool.not_false, len_tab, len_row, len_bag, len_t, len_l, items_tab, items_row, items_bag, items_tup, items_lst, tuple_l, tuple_t, list_l, list_t, list_row, list_bag, sub_i, add_i, neg_i, abs_i, lt_i, le_i, gt_i, ge_i, eq_self, ne_self, sorted_row, eq_rng, all_true, isN_d, notN_d, zipW_bag, zipW_t, ixt_0, ixt_1, ixt_2, ixl_0, ixl_1]
    rw [show (sq n fun j => if p.inv j < n then nI (p.inv j) else PyData.int 0) = sq n fun j => nI (p.inv j) from sq_congr fun j hj => if_pos (p.lti hj)]
    rfl
  · intro i hi
    simp -implicitDefEqProofs only [bd_pu, pu_run, bd_no, bd_rz, opt_some, opt_none, ner_pu, ite_t, ite_f, asBW_b, tst_b, andD_t, andD_f, orD_t, orD_f, notD_b, andB_t, andB_f, orB_t, orB_f, notB_b, lst_pu, optL_l, chain_t, chain_f, partW_i, rg1_i, rg2_i, par1_t, par2_t, par3_t, tup2_t, tup3_t, seq_p, seq_r, fin_r, fin_n, fin_z, finF_r, fin_bd, seq_bd, bd_bd, bd_eta, tst_bd, ite_bd, notB_bd, notD_bd, andB_bd, orB_bd, andD_bd, orD_bd, lst_bd, Bool.not_true, Bool.not_false, len_tab, len_row, len_bag, len_t, len_l, items_tab, items_row, items_bag, items_tup, items_lst, tuple_l, tuple_t, list_l, list_t, list_row, list_bag, sub_i, add_i, neg_i, abs_i, lt_i, le_i, gt_i, ge_i, eq_self, ne_self, sorted_row, eq_rng, all_true, isN_d, notN_d, zipW_bag, zipW_t, ixt_0, ixt_1, ixt_2, ixl_0, ixl_1, set_s (p.lt hi)]
    congr 2
    refine sq_congr fun j hj => ?_
    by_cases q : j = p.to i
    · rw [if_pos q, if_pos (by rw [q, p.l]; omega), q, p.l]
    · rw [if_neg q]
      by_cases q2 : p.inv j < i
      · rw [if_pos q2, if_pos (by omega)]
      · rw [if_neg q2, if_neg fun z => q (by rw [← p.r j, show p.inv j = i by omega])]
theorem z_rows {n : Nat} (C : CS n) (h1 : 1 ≤ n) (h2 : n ≤ 16) : p_are_turn_rows (tab n C.r) = pu (PyData.bool true) := by
  have e2 : p_is_tuple_of (tab n C.r) (PyData.int 1) (PyData.int 16) = pu (PyData.bool true) := z_tup_t (by omega) (by omega)
  unfold p_are_turn_rows pb_are_turn_rows
  simp -implicitDefEqProofs only [e2, bd_pu, pu_run, bd_no, bd_rz, opt_some, opt_none, ner_pu, ite_t, ite_f, asBW_b, tst_b, andD_t, andD_f, orD_t, orD_f, notD_b, andB_t, andB_f, orB_t, orB_f, notB_b, lst_pu, optL_l, chain_t, chain_f, partW_i, rg1_i, rg2_i, par1_t, par2_t, par3_t, tup2_t, tup3_t, seq_p, seq_r, fin_r, fin_n, fin_z, finF_r, fin_bd, seq_bd, bd_bd, bd_eta, tst_bd, ite_bd, notB_bd, notD_bd, andB_bd, orB_bd, andD_bd, orD_bd, lst_bd, Bool.not_true, Bool.not_false, len_tab, len_row, len_bag, len_t, len_l, items_tab, items_row, items_bag, items_tup, items_lst, tuple_l, tuple_t, list_l, list_t, list_row, list_bag, sub_i, add_i, neg_i, abs_i, lt_i, le_i, gt_i, ge_i, eq_self, ne_self, sorted_row, eq_rng, all_true, isN_d, notN_d, zipW_bag, zipW_t, ixt_0, ixt_1, ixt_2, ixl_0, ixl_1]
  rw [comp_sq (by omega), compN_eq fun _ => PyData.bool true]
  · simp -implicitDefEqProofs only [bd_pu, pu_run, bd_no, bd_rz, opt_some, opt_none, ner_pu, ite_t, ite_f, asBW_b, tst_b, andD_t, andD_f, orD_t, orD_f, notD_b, andB_t, andB_f, orB_t, orB_f, notB_b, lst_pu, optL_l, chain_t, chain_f, partW_i, rg1_i, rg2_i, par1_t, par2_t, par3_t, tup2_t, tup3_t, seq_p, seq_r, fin_r, fin_n, fin_z, finF_r, fin_bd, seq_bd, bd_bd, bd_eta, tst_bd, ite_bd, notB_bd, notD_bd, andB_bd, orB_bd, andD_bd, orD_bd, lst_bd, Bool.not_true, Bool.not_false, len_tab, len_row, len_bag, len_t, len_l, items_tab, items_row, items_bag, items_tup, items_lst, tuple_l, tuple_t, list_l, list_t, list_row, list_bag, sub_i, add_i, neg_i, abs_i, lt_i, le_i, gt_i, ge_i, eq_self, ne_self, sorted_row, eq_rng, all_true, isN_d, notN_d, zipW_bag, zipW_t, ixt_0, ixt_1, ixt_2, ixl_0, ixl_1]
  · intro i hi
    simp -implicitDefEqProofs only [show p_is_turn (row n (C.r i)) = pu (PyData.bool true) from z_turn (C.R i) h1 (by omega), bd_pu, pu_run, bd_no, bd_rz, opt_some, opt_none, ner_pu, ite_t, ite_f, asBW_b, tst_b, andD_t, andD_f, orD_t, orD_f, notD_b, andB_t, andB_f, orB_t, orB_f, notB_b, lst_pu, optL_l, chain_t, chain_f, partW_i, rg1_i, rg2_i, par1_t, par2_t, par3_t, tup2_t, tup3_t, seq_p, seq_r, fin_r, fin_n, fin_z, finF_r, fin_bd, seq_bd, bd_bd, bd_eta, tst_bd, ite_bd, notB_bd, notD_bd, andB_bd, orB_bd, andD_bd, orD_bd, lst_bd, Bool.not_true, Bool.not_false, len_tab, len_row, len_bag, len_t, len_l, items_tab, items_row, items_bag, items_tup, items_lst, tuple_l, tuple_t, list_l, list_t, list_row, list_bag, sub_i, add_i, neg_i, abs_i, lt_i, le_i, gt_i, ge_i, eq_self, ne_self, sorted_row, eq_rng, all_true, isN_d, notN_d, zipW_bag, zipW_t, ixt_0, ixt_1, ixt_2, ixl_0, ixl_1]
theorem z_unlike {n : Nat} (C : CS n) (h2 : n ≤ 16) : p_first_unlike (tab n C.r) = pu PyData.none := by
  unfold p_first_unlike pb_first_unlike
  simp -implicitDefEqProofs only [bd_pu, pu_run, bd_no, bd_rz, opt_some, opt_none, ner_pu, ite_t, ite_f, asBW_b, tst_b, andD_t, andD_f, orD_t, orD_f, notD_b, andB_t, andB_f, orB_t, orB_f, notB_b, lst_pu, optL_l, chain_t, chain_f, partW_i, rg1_i, rg2_i, par1_t, par2_t, par3_t, tup2_t, tup3_t, seq_p, seq_r, fin_r, fin_n, fin_z, finF_r, fin_bd, seq_bd, bd_bd, bd_eta, tst_bd, ite_bd, notB_bd, notD_bd, andB_bd, orB_bd, andD_bd, orD_bd, lst_bd, Bool.not_true, Bool.not_false, len_tab, len_row, len_bag, len_t, len_l, items_tab, items_row, items_bag, items_tup, items_lst, tuple_l, tuple_t, list_l, list_t, list_row, list_bag, sub_i, add_i, neg_i, abs_i, lt_i, le_i, gt_i, ge_i, eq_self, ne_self, sorted_row, eq_rng, all_true, isN_d, notN_d, zipW_bag, zipW_t, ixt_0, ixt_1, ixt_2, ixl_0, ixl_1, rgL_s (show n ≤ 16777216 by omega)]
  rw [for_rng (S := fun _ => ()) (fun i hi => ?_)]
  · rfl
  · simp -implicitDefEqProofs only [bd_pu, pu_run, bd_no, bd_rz, opt_some, opt_none, ner_pu, ite_t, ite_f, asBW_b, tst_b, andD_t, andD_f, orD_t, orD_f, notD_b, andB_t, andB_f, orB_t, orB_f, notB_b, lst_pu, optL_l, chain_t, chain_f, partW_i, rg1_i, rg2_i, par1_t, par2_t, par3_t, tup2_t, tup3_t, seq_p, seq_r, fin_r, fin_n, fin_z, finF_r, fin_bd, seq_bd, bd_bd, bd_eta, tst_bd, ite_bd, notB_bd, notD_bd, andB_bd, orB_bd, andD_bd, orD_bd, lst_bd, Bool.not_true, Bool.not_false, len_tab, len_row, len_bag, len_t, len_l, items_tab, items_row, items_bag, items_tup, items_lst, tuple_l, tuple_t, list_l, list_t, list_row, list_bag, sub_i, add_i, neg_i, abs_i, lt_i, le_i, gt_i, ge_i, eq_self, ne_self, sorted_row, eq_rng, all_true, isN_d, notN_d, zipW_bag, zipW_t, ixt_0, ixt_1, ixt_2, ixl_0, ixl_1, ix_tab hi]
    rw [for_rng (S := fun _ => ()) (fun j hj => ?_)]
    · rfl
    · simp -implicitDefEqProofs only [bd_pu, pu_run, bd_no, bd_rz, opt_some, opt_none, ner_pu, ite_t, ite_f, asBW_b, tst_b, andD_t, andD_f, orD_t, orD_f, notD_b, andB_t, andB_f, orB_t, orB_f, notB_b, lst_pu, optL_l, chain_t, chain_f, partW_i, rg1_i, rg2_i, par1_t, par2_t, par3_t, tup2_t, tup3_t, seq_p, seq_r, fin_r, fin_n, fin_z, finF_r, fin_bd, seq_bd, bd_bd, bd_eta, tst_bd, ite_bd, notB_bd, notD_bd, andB_bd, orB_bd, andD_bd, orD_bd, lst_bd, Bool.not_true, Bool.not_false, len_tab, len_row, len_bag, len_t, len_l, items_tab, items_row, items_bag, items_tup, items_lst, tuple_l, tuple_t, list_l, list_t, list_row, list_bag, sub_i, add_i, neg_i, abs_i, lt_i, le_i, gt_i, ge_i, eq_self, ne_self, sorted_row, eq_rng, all_true, isN_d, notN_d, zipW_bag, zipW_t, ixt_0, ixt_1, ixt_2, ixl_0, ixl_1, ix_tab hj, ix_tab hi, ix_row hi, ix_row hj, ix_tab (C.lt (i := i) hj), ix_tab (C.lt (i := j) hi)]
      rw [for_rng (S := fun _ => ()) (fun k hk => ?_)]
      · rfl
      · simp -implicitDefEqProofs only [bd_pu, pu_run, bd_no, bd_rz, opt_some, opt_none, ner_pu, ite_t, ite_f, asBW_b, tst_b, andD_t, andD_f, orD_t, orD_f, notD_b, andB_t, andB_f, orB_t, orB_f, notB_b, lst_pu, optL_l, chain_t, chain_f, partW_i, rg1_i, rg2_i, par1_t, par2_t, par3_t, tup2_t, tup3_t, seq_p, seq_r, fin_r, fin_n, fin_z, finF_r, fin_bd, seq_bd, bd_bd, bd_eta, tst_bd, ite_bd, notB_bd, notD_bd, andB_bd, orB_bd, andD_bd, orD_bd, lst_bd, Bool.not_true, Bool.not_false, len_tab, len_row, len_bag, len_t, len_l, items_tab, items_row, items_bag, items_tup, items_lst, tuple_l, tuple_t, list_l, list_t, list_row, list_bag, sub_i, add_i, neg_i, abs_i, lt_i, le_i, gt_i, ge_i, eq_self, ne_self, sorted_row, eq_rng, all_true, isN_d, notN_d, zipW_bag, zipW_t, ixt_0, ixt_1, ixt_2, ixl_0, ixl_1, ix_row hk, ix_row (C.lt (i := i) hk), ix_row (C.lt (i := j) hk)]
        rw [show C.r (C.r i j) (C.r i k) = C.r (C.r j i) (C.r j k) from C.law i j k]
        simp -implicitDefEqProofs only [bd_pu, pu_run, bd_no, bd_rz, opt_some, opt_none, ner_pu, ite_t, ite_f, asBW_b, tst_b, andD_t, andD_f, orD_t, orD_f, notD_b, andB_t, andB_f, orB_t, orB_f, notB_b, lst_pu, optL_l, chain_t, chain_f, partW_i, rg1_i, rg2_i, par1_t, par2_t, par3_t, tup2_t, tup3_t, seq_p, seq_r, fin_r, fin_n, fin_z, finF_r, fin_bd, seq_bd, bd_bd, bd_eta, tst_bd, ite_bd, notB_bd, notD_bd, andB_bd, orB_bd, andD_bd, orD_bd, lst_bd, Bool.not_true, Bool.not_false, len_tab, len_row, len_bag, len_t, len_l, items_tab, items_row, items_bag, items_tup, items_lst, tuple_l, tuple_t, list_l, list_t, list_row, list_bag, sub_i, add_i, neg_i, abs_i, lt_i, le_i, gt_i, ge_i, eq_self, ne_self, sorted_row, eq_rng, all_true, isN_d, notN_d, zipW_bag, zipW_t, ixt_0, ixt_1, ixt_2, ixl_0, ixl_1]
theorem z_cyc {n : Nat} (C : CS n) (h1 : 1 ≤ n) (h2 : n ≤ 16) : p_is_cycle_set (tab n C.r) = pu (PyData.bool true) := by
  unfold p_is_cycle_set pb_is_cycle_set
  simp -implicitDefEqProofs only [z_rows C h1 h2, z_unlike C h2, bd_pu, pu_run, bd_no, bd_rz, opt_some, opt_none, ner_pu, ite_t, ite_f, asBW_b, tst_b, andD_t, andD_f, orD_t, orD_f, notD_b, andB_t, andB_f, orB_t, orB_f, notB_b, lst_pu, optL_l, chain_t, chain_f, partW_i, rg1_i, rg2_i, par1_t, par2_t, par3_t, tup2_t, tup3_t, seq_p, seq_r, fin_r, fin_n, fin_z, finF_r, fin_bd, seq_bd, bd_bd, bd_eta, tst_bd, ite_bd, notB_bd, notD_bd, andB_bd, orB_bd, andD_bd, orD_bd, lst_bd, Bool.not_true, Bool.not_false, len_tab, len_row, len_bag, len_t, len_l, items_tab, items_row, items_bag, items_tup, items_lst, tuple_l, tuple_t, list_l, list_t, list_row, list_bag, sub_i, add_i, neg_i, abs_i, lt_i, le_i, gt_i, ge_i, eq_self, ne_self, sorted_row, eq_rng, all_true, isN_d, notN_d, zipW_bag, zipW_t, ixt_0, ixt_1, ixt_2, ixl_0, ixl_1]
  rfl
theorem z_needc {n : Nat} (C : CS n) (h1 : 1 ≤ n) (h2 : n ≤ 16) : p_need_cycle_set (tab n C.r) = pu PyData.none := by
  unfold p_need_cycle_set pb_need_cycle_set
  simp -implicitDefEqProofs only [z_cyc C h1 h2, bd_pu, pu_run, bd_no, bd_rz, opt_some, opt_none, ner_pu, ite_t, ite_f, asBW_b, tst_b, andD_t, andD_f, orD_t, orD_f, notD_b, andB_t, andB_f, orB_t, orB_f, notB_b, lst_pu, optL_l, chain_t, chain_f, partW_i, rg1_i, rg2_i, par1_t, par2_t, par3_t, tup2_t, tup3_t, seq_p, seq_r, fin_r, fin_n, fin_z, finF_r, fin_bd, seq_bd, bd_bd, bd_eta, tst_bd, ite_bd, notB_bd, notD_bd, andB_bd, orB_bd, andD_bd, orD_bd, lst_bd, Bool.not_true, Bool.not_false, len_tab, len_row, len_bag, len_t, len_l, items_tab, items_row, items_bag, items_tup, items_lst, tuple_l, tuple_t, list_l, list_t, list_row, list_bag, sub_i, add_i, neg_i, abs_i, lt_i, le_i, gt_i, ge_i, eq_self, ne_self, sorted_row, eq_rng, all_true, isN_d, notN_d, zipW_bag, zipW_t, ixt_0, ixt_1, ixt_2, ixl_0, ixl_1]
theorem zr_roll {k : Int} {Q : D → Prop} {X : Ex → Prop} (h0 : 0 < k) (h1 : k < 1073741824) (h : ∀ r : Nat, (r : Int) < k → Q (nI r)) : p__law_roll (PyData.int k) Q X := ⟨h0, h1, h⟩
theorem zr_some {xs : List D} {Q : D → Prop} {X : Ex → Prop} (h0 : 0 < xs.length) (h1 : xs.length ≤ 1000) (h : ∀ d ∈ xs, Q d) : p__law_some (PyData.list xs) Q X := by
  unfold p__law_some pb__law_some
  rw [len_lst]
  simp -implicitDefEqProofs only [bd_pu, pu_run, bd_no, bd_rz, opt_some, opt_none, ner_pu, ite_t, ite_f, asBW_b, tst_b, andD_t, andD_f, orD_t, orD_f, notD_b, andB_t, andB_f, orB_t, orB_f, notB_b, lst_pu, optL_l, chain_t, chain_f, partW_i, rg1_i, rg2_i, par1_t, par2_t, par3_t, tup2_t, tup3_t, seq_p, seq_r, fin_r, fin_n, fin_z, finF_r, fin_bd, seq_bd, bd_bd, bd_eta, tst_bd, ite_bd, notB_bd, notD_bd, andB_bd, orB_bd, andD_bd, orD_bd, lst_bd, Bool.not_true, Bool.not_false, len_tab, len_row, len_bag, len_t, len_l, items_tab, items_row, items_bag, items_tup, items_lst, tuple_l, tuple_t, list_l, list_t, list_row, list_bag, sub_i, add_i, neg_i, abs_i, lt_i, le_i, gt_i, ge_i, eq_self, ne_self, sorted_row, eq_rng, all_true, isN_d, notN_d, zipW_bag, zipW_t, ixt_0, ixt_1, ixt_2, ixl_0, ixl_1]
  refine bd_go (zr_roll (by omega) (by omega) fun r hr => ?_)
  have hr2 : r < xs.length := by omega
  rw [show F_ix [PyData.list xs, nI r] = some xs[r] from f_ixL (Int.natCast_nonneg _) (by rw [Int.toNat_natCast]; exact List.getElem?_eq_getElem hr2)]
  exact h _ (List.getElem_mem hr2)
theorem zr_turn {n : Nat} (hn : n ≤ 60) {Q : D → Prop} {X : Ex → Prop} (h : ∀ p : Pm n, Q (row n p.to)) : p__law_turn (nI n) Q X := by
  unfold p__law_turn pb__law_turn
  simp -implicitDefEqProofs only [bd_pu, pu_run, bd_no, bd_rz, opt_some, opt_none, ner_pu, ite_t, ite_f, asBW_b, tst_b, andD_t, andD_f, orD_t, orD_f, notD_b, andB_t, andB_f, orB_t, orB_f, notB_b, lst_pu, optL_l, chain_t, chain_f, partW_i, rg1_i, rg2_i, par1_t, par2_t, par3_t, tup2_t, tup3_t, seq_p, seq_r, fin_r, fin_n, fin_z, finF_r, fin_bd, seq_bd, bd_bd, bd_eta, tst_bd, ite_bd, notB_bd, notD_bd, andB_bd, orB_bd, andD_bd, orD_bd, lst_bd, Bool.not_true, Bool.not_false, len_tab, len_row, len_bag, len_t, len_l, items_tab, items_row, items_bag, items_tup, items_lst, tuple_l, tuple_t, list_l, list_t, list_row, list_bag, sub_i, add_i, neg_i, abs_i, lt_i, le_i, gt_i, ge_i, eq_self, ne_self, sorted_row, eq_rng, all_true, isN_d, notN_d, zipW_bag, zipW_t, ixt_0, ixt_1, ixt_2, ixl_0, ixl_1, rgL_s (show n ≤ 16777216 by omega), rgI_s (show n ≤ 16777216 by omega)]
  refine loop_fin (fun i s => ∃ l f : List Int, s = (PyData.list (iL f), PyData.list (iL l)) ∧ l.length + i = n ∧ (f ++ l).Perm (upto n)) ⟨upto n, [], by rw [iL_upto]; rfl, by rw [upto_len]; rfl, List.Perm.refl _⟩ (fun i s Q' hi hI hq => ?_) fun s hI => ?_
  · obtain ⟨l, f, rfl, hl, hp⟩ := hI
    have hfl := hp.length_eq
    rw [List.length_append, upto_len] at hfl
    simp -implicitDefEqProofs only [bd_pu, pu_run, bd_no, bd_rz, opt_some, opt_none, ner_pu, ite_t, ite_f, asBW_b, tst_b, andD_t, andD_f, orD_t, orD_f, notD_b, andB_t, andB_f, orB_t, orB_f, notB_b, lst_pu, optL_l, chain_t, chain_f, partW_i, rg1_i, rg2_i, par1_t, par2_t, par3_t, tup2_t, tup3_t, seq_p, seq_r, fin_r, fin_n, fin_z, finF_r, fin_bd, seq_bd, bd_bd, bd_eta, tst_bd, ite_bd, notB_bd, notD_bd, andB_bd, orB_bd, andD_bd, orD_bd, lst_bd, Bool.not_true, Bool.not_false, len_tab, len_row, len_bag, len_t, len_l, items_tab, items_row, items_bag, items_tup, items_lst, tuple_l, tuple_t, list_l, list_t, list_row, list_bag, sub_i, add_i, neg_i, abs_i, lt_i, le_i, gt_i, ge_i, eq_self, ne_self, sorted_row, eq_rng, all_true, isN_d, notN_d, zipW_bag, zipW_t, ixt_0, ixt_1, ixt_2, ixl_0, ixl_1, len_lst, iL_len]
    refine bd_go (zr_roll (by omega) (by omega) fun r hr => ?_)
    have hr : r < l.length := by omega
    rw [show F_ix [PyData.list (iL l), nI r] = some (PyData.int (l.getD r 0)) from f_ixL (Int.natCast_nonneg _) (by rw [Int.toNat_natCast]; exact iL_at (getD_at hr))]
    have ad : F_add [PyData.list (iL f), PyData.list [PyData.int (l.getD r 0)]] = some (PyData.list (iL (f ++ [l.getD r 0]))) := by
      rw [f_addL (le_sz (by rw [iL_len]; show f.length + 1 ≤ _; omega)), iL_one, iL_app]
    have sl1 : F_sl (PyData.list (iL l)) none (some (r : Int)) = some (PyData.list (iL (l.take r))) := by
      rw [f_slL_to (Int.natCast_nonneg _) (by rw [iL_len]; omega), Int.toNat_natCast, iL_take]
    have sl2 : F_sl (PyData.list (iL l)) (some ((r : Int) + 1)) none = some (PyData.list (iL (l.drop (r + 1)))) := by
      rw [f_slL_from (by omega), show ((r : Int) + 1).toNat = r + 1 by omega, iL_drop]
    have ad2 : F_add [PyData.list (iL (l.take r)), PyData.list (iL (l.drop (r + 1)))] = some (PyData.list (iL (l.take r ++ l.drop (r + 1)))) := by
      rw [f_addL (le_sz (by rw [iL_len, iL_len, List.length_take, List.length_drop]; omega)), iL_app]
    simp -implicitDefEqProofs only [bd_pu, pu_run, bd_no, bd_rz, opt_some, opt_none, ner_pu, ite_t, ite_f, asBW_b, tst_b, andD_t, andD_f, orD_t, orD_f, notD_b, andB_t, andB_f, orB_t, orB_f, notB_b, lst_pu, optL_l, chain_t, chain_f, partW_i, rg1_i, rg2_i, par1_t, par2_t, par3_t, tup2_t, tup3_t, seq_p, seq_r, fin_r, fin_n, fin_z, finF_r, fin_bd, seq_bd, bd_bd, bd_eta, tst_bd, ite_bd, notB_bd, notD_bd, andB_bd, orB_bd, andD_bd, orD_bd, lst_bd, Bool.not_true, Bool.not_false, len_tab, len_row, len_bag, len_t, len_l, items_tab, items_row, items_bag, items_tup, items_lst, tuple_l, tuple_t, list_l, list_t, list_row, list_bag, sub_i, add_i, neg_i, abs_i, lt_i, le_i, gt_i, ge_i, eq_self, ne_self, sorted_row, eq_rng, all_true, isN_d, notN_d, zipW_bag, zipW_t, ixt_0, ixt_1, ixt_2, ixl_0, ixl_1, ad, sl1, sl2, ad2]
    exact hq _ ⟨_, _, rfl, by rw [List.length_append, List.length_take, List.length_drop]; omega, turn_step hp hr⟩
  · obtain ⟨l, f, rfl, hl, hp⟩ := hI
    have l0 : l = [] := List.eq_nil_of_length_eq_zero (by omega)
    subst l0
    rw [List.append_nil] at hp
    obtain ⟨p, e⟩ := pm_of hp
    simp -implicitDefEqProofs only [bd_pu, pu_run, bd_no, bd_rz, opt_some, opt_none, ner_pu, ite_t, ite_f, asBW_b, tst_b, andD_t, andD_f, orD_t, orD_f, notD_b, andB_t, andB_f, orB_t, orB_f, notB_b, lst_pu, optL_l, chain_t, chain_f, partW_i, rg1_i, rg2_i, par1_t, par2_t, par3_t, tup2_t, tup3_t, seq_p, seq_r, fin_r, fin_n, fin_z, finF_r, fin_bd, seq_bd, bd_bd, bd_eta, tst_bd, ite_bd, notB_bd, notD_bd, andB_bd, orB_bd, andD_bd, orD_bd, lst_bd, Bool.not_true, Bool.not_false, len_tab, len_row, len_bag, len_t, len_l, items_tab, items_row, items_bag, items_tup, items_lst, tuple_l, tuple_t, list_l, list_t, list_row, list_bag, sub_i, add_i, neg_i, abs_i, lt_i, le_i, gt_i, ge_i, eq_self, ne_self, sorted_row, eq_rng, all_true, isN_d, notN_d, zipW_bag, zipW_t, ixt_0, ixt_1, ixt_2, ixl_0, ixl_1]
    show Q (T f)
    rw [e]
    exact h p
theorem zr_renamed {n : Nat} (C : CS n) (p : Pm n) (hn : n ≤ 60) : p__law_renamed (tab n C.r) (row n p.to) = pu (tab n (C.ren p).r) := by
  unfold p__law_renamed pb__law_renamed
  simp -implicitDefEqProofs only [bd_pu, pu_run, bd_no, bd_rz, opt_some, opt_none, ner_pu, ite_t, ite_f, asBW_b, tst_b, andD_t, andD_f, orD_t, orD_f, notD_b, andB_t, andB_f, orB_t, orB_f, notB_b, lst_pu, optL_l, chain_t, chain_f, partW_i, rg1_i, rg2_i, par1_t, par2_t, par3_t, tup2_t, tup3_t, seq_p, seq_r, fin_r, fin_n, fin_z, finF_r, fin_bd, seq_bd, bd_bd, bd_eta, tst_bd, ite_bd, notB_bd, notD_bd, andB_bd, orB_bd, andD_bd, orD_bd, lst_bd, Bool.not_true, Bool.not_false, len_tab, len_row, len_bag, len_t, len_l, items_tab, items_row, items_bag, items_tup, items_lst, tuple_l, tuple_t, list_l, list_t, list_row, list_bag, sub_i, add_i, neg_i, abs_i, lt_i, le_i, gt_i, ge_i, eq_self, ne_self, sorted_row, eq_rng, all_true, isN_d, notN_d, zipW_bag, zipW_t, ixt_0, ixt_1, ixt_2, ixl_0, ixl_1, rgI_s (show n ≤ 16777216 by omega)]
  rw [comp_rng (by omega), compN_eq fun i => row n ((C.ren p).r i)]
  · rfl
  · intro i hi
    rw [comp_rng (by omega), compN_eq fun j => nI ((C.ren p).r i j)]
    · rfl
    · intro j hj
      simp -implicitDefEqProofs only [bd_pu, pu_run, bd_no, bd_rz, opt_some, opt_none, ner_pu, ite_t, ite_f, asBW_b, tst_b, andD_t, andD_f, orD_t, orD_f, notD_b, andB_t, andB_f, orB_t, orB_f, notB_b, lst_pu, optL_l, chain_t, chain_f, partW_i, rg1_i, rg2_i, par1_t, par2_t, par3_t, tup2_t, tup3_t, seq_p, seq_r, fin_r, fin_n, fin_z, finF_r, fin_bd, seq_bd, bd_bd, bd_eta, tst_bd, ite_bd, notB_bd, notD_bd, andB_bd, orB_bd, andD_bd, orD_bd, lst_bd, Bool.not_true, Bool.not_false, len_tab, len_row, len_bag, len_t, len_l, items_tab, items_row, items_bag, items_tup, items_lst, tuple_l, tuple_t, list_l, list_t, list_row, list_bag, sub_i, add_i, neg_i, abs_i, lt_i, le_i, gt_i, ge_i, eq_self, ne_self, sorted_row, eq_rng, all_true, isN_d, notN_d, zipW_bag, zipW_t, ixt_0, ixt_1, ixt_2, ixl_0, ixl_1, idxW_row p hi, idxW_row p hj, ix_tab (p.lti hi), ix_row (p.lti hj), ix_row (C.lt (i := p.inv i) (p.lti hj))]
      rfl
theorem zr_beside {n m : Nat} (A : CS n) (B : CS m) (hn : n ≤ 60) (hm : m ≤ 60) : p__law_beside (tab n A.r) (tab m B.r) = pu (tab (n + m) (bes A B).r) := by
  unfold p__law_beside pb__law_beside
  simp -implicitDefEqProofs only [bd_pu, pu_run, bd_no, bd_rz, opt_some, opt_none, ner_pu, ite_t, ite_f, asBW_b, tst_b, andD_t, andD_f, orD_t, orD_f, notD_b, andB_t, andB_f, orB_t, orB_f, notB_b, lst_pu, optL_l, chain_t, chain_f, partW_i, rg1_i, rg2_i, par1_t, par2_t, par3_t, tup2_t, tup3_t, seq_p, seq_r, fin_r, fin_n, fin_z, finF_r, fin_bd, seq_bd, bd_bd, bd_eta, tst_bd, ite_bd, notB_bd, notD_bd, andB_bd, orB_bd, andD_bd, orD_bd, lst_bd, Bool.not_true, Bool.not_false, len_tab, len_row, len_bag, len_t, len_l, items_tab, items_row, items_bag, items_tup, items_lst, tuple_l, tuple_t, list_l, list_t, list_row, list_bag, sub_i, add_i, neg_i, abs_i, lt_i, le_i, gt_i, ge_i, eq_self, ne_self, sorted_row, eq_rng, all_true, isN_d, notN_d, zipW_bag, zipW_t, ixt_0, ixt_1, ixt_2, ixl_0, ixl_1, rgT_ab (show n + m ≤ 16777216 by omega), rgT_s (show n ≤ 16777216 by omega)]
  rw [comp_sq (by omega), compN_eq fun i => row (n + m) ((bes A B).r i)]
  · simp -implicitDefEqProofs only [bd_pu, pu_run, bd_no, bd_rz, opt_some, opt_none, ner_pu, ite_t, ite_f, asBW_b, tst_b, andD_t, andD_f, orD_t, orD_f, notD_b, andB_t, andB_f, orB_t, orB_f, notB_b, lst_pu, optL_l, chain_t, chain_f, partW_i, rg1_i, rg2_i, par1_t, par2_t, par3_t, tup2_t, tup3_t, seq_p, seq_r, fin_r, fin_n, fin_z, finF_r, fin_bd, seq_bd, bd_bd, bd_eta, tst_bd, ite_bd, notB_bd, notD_bd, andB_bd, orB_bd, andD_bd, orD_bd, lst_bd, Bool.not_true, Bool.not_false, len_tab, len_row, len_bag, len_t, len_l, items_tab, items_row, items_bag, items_tup, items_lst, tuple_l, tuple_t, list_l, list_t, list_row, list_bag, sub_i, add_i, neg_i, abs_i, lt_i, le_i, gt_i, ge_i, eq_self, ne_self, sorted_row, eq_rng, all_true, isN_d, notN_d, zipW_bag, zipW_t, ixt_0, ixt_1, ixt_2, ixl_0, ixl_1]
    rw [comp_sq (by omega), compN_eq fun i => row (n + m) ((bes A B).r (n + i))]
    · simp -implicitDefEqProofs only [bd_pu, pu_run, bd_no, bd_rz, opt_some, opt_none, ner_pu, ite_t, ite_f, asBW_b, tst_b, andD_t, andD_f, orD_t, orD_f, notD_b, andB_t, andB_f, orB_t, orB_f, notB_b, lst_pu, optL_l, chain_t, chain_f, partW_i, rg1_i, rg2_i, par1_t, par2_t, par3_t, tup2_t, tup3_t, seq_p, seq_r, fin_r, fin_n, fin_z, finF_r, fin_bd, seq_bd, bd_bd, bd_eta, tst_bd, ite_bd, notB_bd, notD_bd, andB_bd, orB_bd, andD_bd, orD_bd, lst_bd, Bool.not_true, Bool.not_false, len_tab, len_row, len_bag, len_t, len_l, items_tab, items_row, items_bag, items_tup, items_lst, tuple_l, tuple_t, list_l, list_t, list_row, list_bag, sub_i, add_i, neg_i, abs_i, lt_i, le_i, gt_i, ge_i, eq_self, ne_self, sorted_row, eq_rng, all_true, isN_d, notN_d, zipW_bag, zipW_t, ixt_0, ixt_1, ixt_2, ixl_0, ixl_1]
      rw [f_addL (le_sz (by rw [sq_len, sq_len]; omega)), sq_app]
      simp -implicitDefEqProofs only [bd_pu, pu_run, bd_no, bd_rz, opt_some, opt_none, ner_pu, ite_t, ite_f, asBW_b, tst_b, andD_t, andD_f, orD_t, orD_f, notD_b, andB_t, andB_f, orB_t, orB_f, notB_b, lst_pu, optL_l, chain_t, chain_f, partW_i, rg1_i, rg2_i, par1_t, par2_t, par3_t, tup2_t, tup3_t, seq_p, seq_r, fin_r, fin_n, fin_z, finF_r, fin_bd, seq_bd, bd_bd, bd_eta, tst_bd, ite_bd, notB_bd, notD_bd, andB_bd, orB_bd, andD_bd, orD_bd, lst_bd, Bool.not_true, Bool.not_false, len_tab, len_row, len_bag, len_t, len_l, items_tab, items_row, items_bag, items_tup, items_lst, tuple_l, tuple_t, list_l, list_t, list_row, list_bag, sub_i, add_i, neg_i, abs_i, lt_i, le_i, gt_i, ge_i, eq_self, ne_self, sorted_row, eq_rng, all_true, isN_d, notN_d, zipW_bag, zipW_t, ixt_0, ixt_1, ixt_2, ixl_0, ixl_1]
      show pu (PyData.tuple _) = pu (PyData.tuple _)
      congr 2
      refine sq_congr fun i hi => ?_
      by_cases q : i < n
      · rw [if_pos q]
      · rw [if_neg q, show n + (i - n) = i by omega]
    · intro i hi
      simp -implicitDefEqProofs only [bd_pu, pu_run, bd_no, bd_rz, opt_some, opt_none, ner_pu, ite_t, ite_f, asBW_b, tst_b, andD_t, andD_f, orD_t, orD_f, notD_b, andB_t, andB_f, orB_t, orB_f, notB_b, lst_pu, optL_l, chain_t, chain_f, partW_i, rg1_i, rg2_i, par1_t, par2_t, par3_t, tup2_t, tup3_t, seq_p, seq_r, fin_r, fin_n, fin_z, finF_r, fin_bd, seq_bd, bd_bd, bd_eta, tst_bd, ite_bd, notB_bd, notD_bd, andB_bd, orB_bd, andD_bd, orD_bd, lst_bd, Bool.not_true, Bool.not_false, len_tab, len_row, len_bag, len_t, len_l, items_tab, items_row, items_bag, items_tup, items_lst, tuple_l, tuple_t, list_l, list_t, list_row, list_bag, sub_i, add_i, neg_i, abs_i, lt_i, le_i, gt_i, ge_i, eq_self, ne_self, sorted_row, eq_rng, all_true, isN_d, notN_d, zipW_bag, zipW_t, ixt_0, ixt_1, ixt_2, ixl_0, ixl_1]
      rw [comp_sq (by omega), compN_eq fun j => nI (n + B.r i j)]
      · simp -implicitDefEqProofs only [bd_pu, pu_run, bd_no, bd_rz, opt_some, opt_none, ner_pu, ite_t, ite_f, asBW_b, tst_b, andD_t, andD_f, orD_t, orD_f, notD_b, andB_t, andB_f, orB_t, orB_f, notB_b, lst_pu, optL_l, chain_t, chain_f, partW_i, rg1_i, rg2_i, par1_t, par2_t, par3_t, tup2_t, tup3_t, seq_p, seq_r, fin_r, fin_n, fin_z, finF_r, fin_bd, seq_bd, bd_bd, bd_eta, tst_bd, ite_bd, notB_bd, notD_bd, andB_bd, orB_bd, andD_bd, orD_bd, lst_bd, Bool.not_true, Bool.not_false, len_tab, len_row, len_bag, len_t, len_l, items_tab, items_row, items_bag, items_tup, items_lst, tuple_l, tuple_t, list_l, list_t, list_row, list_bag, sub_i, add_i, neg_i, abs_i, lt_i, le_i, gt_i, ge_i, eq_self, ne_self, sorted_row, eq_rng, all_true, isN_d, notN_d, zipW_bag, zipW_t, ixt_0, ixt_1, ixt_2, ixl_0, ixl_1]
        rw [rng_sq, f_addT (le_sz (by rw [sq_len, sq_len]; omega)), sq_app]
        simp -implicitDefEqProofs only [bd_pu, pu_run, bd_no, bd_rz, opt_some, opt_none, ner_pu, ite_t, ite_f, asBW_b, tst_b, andD_t, andD_f, orD_t, orD_f, notD_b, andB_t, andB_f, orB_t, orB_f, notB_b, lst_pu, optL_l, chain_t, chain_f, partW_i, rg1_i, rg2_i, par1_t, par2_t, par3_t, tup2_t, tup3_t, seq_p, seq_r, fin_r, fin_n, fin_z, finF_r, fin_bd, seq_bd, bd_bd, bd_eta, tst_bd, ite_bd, notB_bd, notD_bd, andB_bd, orB_bd, andD_bd, orD_bd, lst_bd, Bool.not_true, Bool.not_false, len_tab, len_row, len_bag, len_t, len_l, items_tab, items_row, items_bag, items_tup, items_lst, tuple_l, tuple_t, list_l, list_t, list_row, list_bag, sub_i, add_i, neg_i, abs_i, lt_i, le_i, gt_i, ge_i, eq_self, ne_self, sorted_row, eq_rng, all_true, isN_d, notN_d, zipW_bag, zipW_t, ixt_0, ixt_1, ixt_2, ixl_0, ixl_1]
        show pu (PyData.tuple _) = pu (PyData.tuple _)
        congr 2
        refine sq_congr fun j hj => ?_
        rw [bes_r, if_neg (show ¬ n + i < n by omega), Nat.add_sub_cancel_left]
        by_cases q : j < n
        · rw [if_pos q, if_pos q]
        · rw [if_neg q, if_neg q]
      · intro j hj
        rfl
  · intro i hi
    show bd (opt (F_add [PyData.tuple (sq n fun j => nI (A.r i j)), _])) _ = _
    rw [f_addT (le_sz (by rw [sq_len, sq_len]; omega)), sq_app]
    simp -implicitDefEqProofs only [bd_pu, pu_run, bd_no, bd_rz, opt_some, opt_none, ner_pu, ite_t, ite_f, asBW_b, tst_b, andD_t, andD_f, orD_t, orD_f, notD_b, andB_t, andB_f, orB_t, orB_f, notB_b, lst_pu, optL_l, chain_t, chain_f, partW_i, rg1_i, rg2_i, par1_t, par2_t, par3_t, tup2_t, tup3_t, seq_p, seq_r, fin_r, fin_n, fin_z, finF_r, fin_bd, seq_bd, bd_bd, bd_eta, tst_bd, ite_bd, notB_bd, notD_bd, andB_bd, orB_bd, andD_bd, orD_bd, lst_bd, Bool.not_true, Bool.not_false, len_tab, len_row, len_bag, len_t, len_l, items_tab, items_row, items_bag, items_tup, items_lst, tuple_l, tuple_t, list_l, list_t, list_row, list_bag, sub_i, add_i, neg_i, abs_i, lt_i, le_i, gt_i, ge_i, eq_self, ne_self, sorted_row, eq_rng, all_true, isN_d, notN_d, zipW_bag, zipW_t, ixt_0, ixt_1, ixt_2, ixl_0, ixl_1]
    show pu (PyData.tuple _) = pu (PyData.tuple _)
    congr 2
    refine sq_congr fun j hj => ?_
    rw [bes_r, if_pos hi]
    by_cases q : j < n
    · rw [if_pos q]
    · rw [if_neg q]
      show nI _ = nI ((A.R i).to j)
      rw [(A.R i).o j (by omega), show n + (j - n) = j by omega]
theorem zr_rows {Q : D → Prop} {X : Ex → Prop} (h : ∀ n (C : CS n), 1 ≤ n → n ≤ 8 → Q (tab n C.r)) : p__law_rows Q X := by
  unfold p__law_rows pb__law_rows p__law_stock
  have hs : (stock.map Mx).length = 7 := rfl
  simp -implicitDefEqProofs only [bd_pu, pu_run, bd_no, bd_rz, opt_some, opt_none, ner_pu, ite_t, ite_f, asBW_b, tst_b, andD_t, andD_f, orD_t, orD_f, notD_b, andB_t, andB_f, orB_t, orB_f, notB_b, lst_pu, optL_l, chain_t, chain_f, partW_i, rg1_i, rg2_i, par1_t, par2_t, par3_t, tup2_t, tup3_t, seq_p, seq_r, fin_r, fin_n, fin_z, finF_r, fin_bd, seq_bd, bd_bd, bd_eta, tst_bd, ite_bd, notB_bd, notD_bd, andB_bd, orB_bd, andD_bd, orD_bd, lst_bd, Bool.not_true, Bool.not_false, len_tab, len_row, len_bag, len_t, len_l, items_tab, items_row, items_bag, items_tup, items_lst, tuple_l, tuple_t, list_l, list_t, list_row, list_bag, sub_i, add_i, neg_i, abs_i, lt_i, le_i, gt_i, ge_i, eq_self, ne_self, sorted_row, eq_rng, all_true, isN_d, notN_d, zipW_bag, zipW_t, ixt_0, ixt_1, ixt_2, ixl_0, ixl_1]
  refine bd_go (zr_some (by rw [hs]; omega) (by rw [hs]; omega) fun d hd => ?_)
  refine bd_go (zr_some (by rw [hs]; omega) (by rw [hs]; omega) fun d2 hd2 => ?_)
  obtain ⟨n, A, h1, h2, rfl⟩ := stock_cs hd
  obtain ⟨m, B, h3, h4, rfl⟩ := stock_cs hd2
  refine bd_go (zr_roll (by decide) (by decide) fun r hr => ?_)
  have key : ∀ n (C : CS n), 1 ≤ n → n ≤ 8 → bd (p__law_turn (nI n)) (fun v10 => p__law_renamed (tab n C.r) v10) Q X := fun n C h1 h2 => by
    refine bd_go (zr_turn (show n ≤ 60 by omega) fun p => ?_)
    rw [zr_renamed C p (show n ≤ 60 by omega)]
    exact h n _ h1 h2
  cases q : decide ((0 : Int) < (r : Int)) with
  | true =>
    simp -implicitDefEqProofs only [bd_pu, pu_run, bd_no, bd_rz, opt_some, opt_none, ner_pu, ite_t, ite_f, asBW_b, tst_b, andD_t, andD_f, orD_t, orD_f, notD_b, andB_t, andB_f, orB_t, orB_f, notB_b, lst_pu, optL_l, chain_t, chain_f, partW_i, rg1_i, rg2_i, par1_t, par2_t, par3_t, tup2_t, tup3_t, seq_p, seq_r, fin_r, fin_n, fin_z, finF_r, fin_bd, seq_bd, bd_bd, bd_eta, tst_bd, ite_bd, notB_bd, notD_bd, andB_bd, orB_bd, andD_bd, orD_bd, lst_bd, Bool.not_true, Bool.not_false, len_tab, len_row, len_bag, len_t, len_l, items_tab, items_row, items_bag, items_tup, items_lst, tuple_l, tuple_t, list_l, list_t, list_row, list_bag, sub_i, add_i, neg_i, abs_i, lt_i, le_i, gt_i, ge_i, eq_self, ne_self, sorted_row, eq_rng, all_true, isN_d, notN_d, zipW_bag, zipW_t, ixt_0, ixt_1, ixt_2, ixl_0, ixl_1, q, zr_beside A B (show n ≤ 60 by omega) (show m ≤ 60 by omega)]
    exact key (n + m) (bes A B) (by omega) (by omega)
  | false =>
    simp -implicitDefEqProofs only [bd_pu, pu_run, bd_no, bd_rz, opt_some, opt_none, ner_pu, ite_t, ite_f, asBW_b, tst_b, andD_t, andD_f, orD_t, orD_f, notD_b, andB_t, andB_f, orB_t, orB_f, notB_b, lst_pu, optL_l, chain_t, chain_f, partW_i, rg1_i, rg2_i, par1_t, par2_t, par3_t, tup2_t, tup3_t, seq_p, seq_r, fin_r, fin_n, fin_z, finF_r, fin_bd, seq_bd, bd_bd, bd_eta, tst_bd, ite_bd, notB_bd, notD_bd, andB_bd, orB_bd, andD_bd, orD_bd, lst_bd, Bool.not_true, Bool.not_false, len_tab, len_row, len_bag, len_t, len_l, items_tab, items_row, items_bag, items_tup, items_lst, tuple_l, tuple_t, list_l, list_t, list_row, list_bag, sub_i, add_i, neg_i, abs_i, lt_i, le_i, gt_i, ge_i, eq_self, ne_self, sorted_row, eq_rng, all_true, isN_d, notN_d, zipW_bag, zipW_t, ixt_0, ixt_1, ixt_2, ixl_0, ixl_1, q]
    exact key n A (by omega) (by omega)
theorem z_sort (d : D) (h : noDict d = true) : p__law_sort d = pu (PyData.int (sortN d)) := by
  rw [pe__law_sort]
  cases d with
  | dict _ => cases h
  | _ => rfl
theorem z_like1 {pr : D → D → W D} {d : D} {xs : List D} (hd : d = PyData.tuple xs ∨ d = PyData.list xs) (hl : xs.length ≤ 16777216) (ih : ∀ x ∈ xs, pr x x = pu (PyData.bool true)) : fin (pb__law_like pr d d) = pu (PyData.bool true) := by
  have hn : noDict d = true := by rcases hd with rfl | rfl <;> rfl
  have hs : sortN d = 4 ∨ sortN d = 5 := by rcases hd with rfl | rfl <;> simp [sortN]
  have h6 : F_eq [PyData.int (sortN d), PyData.int 6] = some (PyData.bool false) := by
    rw [eq_int]
    rcases hs with h | h <;> rw [h] <;> rfl
  have hin : F_in [PyData.int (sortN d), PyData.tuple [PyData.int 4, PyData.int 5]] = some (PyData.bool true) := by
    rw [in45]
    rcases hs with h | h <;> rw [h] <;> rfl
  have hlen : F_len [d] = some (nI xs.length) := by rcases hd with rfl | rfl <;> rfl
  have hz : zipW [d, d] = pu (zipD xs xs) := by rcases hd with rfl | rfl <;> rfl
  have hc : filtW (fun d4 => tup2 d4 fun first_5 second_6 => keepW (notB (tst (pr first_5 second_6))) (pu (PyData.int 1 : D))) (zipD xs xs) = pu [] := by
    rw [filtW_pu (fun _ => false) (fun d => d) (by rw [zip_len]; exact hl) fun z hzm => ?_]
    · rw [List.filter_eq_nil_iff.mpr (by simp)]
      rfl
    · obtain ⟨x, hx, rfl⟩ := zip_self hzm
      simp -implicitDefEqProofs only [bd_pu, pu_run, bd_no, bd_rz, opt_some, opt_none, ner_pu, ite_t, ite_f, asBW_b, tst_b, andD_t, andD_f, orD_t, orD_f, notD_b, andB_t, andB_f, orB_t, orB_f, notB_b, lst_pu, optL_l, chain_t, chain_f, partW_i, rg1_i, rg2_i, par1_t, par2_t, par3_t, tup2_t, tup3_t, seq_p, seq_r, fin_r, fin_n, fin_z, finF_r, fin_bd, seq_bd, bd_bd, bd_eta, tst_bd, ite_bd, notB_bd, notD_bd, andB_bd, orB_bd, andD_bd, orD_bd, lst_bd, Bool.not_true, Bool.not_false, len_tab, len_row, len_bag, len_t, len_l, items_tab, items_row, items_bag, items_tup, items_lst, tuple_l, tuple_t, list_l, list_t, list_row, list_bag, sub_i, add_i, neg_i, abs_i, lt_i, le_i, gt_i, ge_i, eq_self, ne_self, sorted_row, eq_rng, all_true, isN_d, notN_d, zipW_bag, zipW_t, ixt_0, ixt_1, ixt_2, ixl_0, ixl_1, ih x hx]
      rfl
  unfold pb__law_like
  simp -implicitDefEqProofs only [bd_pu, pu_run, bd_no, bd_rz, opt_some, opt_none, ner_pu, ite_t, ite_f, asBW_b, tst_b, andD_t, andD_f, orD_t, orD_f, notD_b, andB_t, andB_f, orB_t, orB_f, notB_b, lst_pu, optL_l, chain_t, chain_f, partW_i, rg1_i, rg2_i, par1_t, par2_t, par3_t, tup2_t, tup3_t, seq_p, seq_r, fin_r, fin_n, fin_z, finF_r, fin_bd, seq_bd, bd_bd, bd_eta, tst_bd, ite_bd, notB_bd, notD_bd, andB_bd, orB_bd, andD_bd, orD_bd, lst_bd, Bool.not_true, Bool.not_false, len_tab, len_row, len_bag, len_t, len_l, items_tab, items_row, items_bag, items_tup, items_lst, tuple_l, tuple_t, list_l, list_t, list_row, list_bag, sub_i, add_i, neg_i, abs_i, lt_i, le_i, gt_i, ge_i, eq_self, ne_self, sorted_row, eq_rng, all_true, isN_d, notN_d, zipW_bag, zipW_t, ixt_0, ixt_1, ixt_2, ixl_0, ixl_1, z_sort d hn, h6, hin, hlen, hz, hc]
  exact congrArg (fun r => bd (opt r) fun a => pu a) eq_nil
theorem z_like0 {pr : D → D → W D} {d : D} (ha : atom d = true) : fin (pb__law_like pr d d) = pu (PyData.bool true) := by
  have hn : noDict d = true := by cases d <;> first | rfl | cases ha
  have hs : sortN d < 4 ∧ 0 ≤ sortN d := by cases d <;> first | (simp [sortN]; done) | cases ha
  have h6 : F_eq [PyData.int (sortN d), PyData.int 6] = some (PyData.bool false) := by
    rw [eq_int, decide_eq_false (by omega)]
  have hin : F_in [PyData.int (sortN d), PyData.tuple [PyData.int 4, PyData.int 5]] = some (PyData.bool false) := by
    rw [in45, decide_eq_false (by omega), decide_eq_false (by omega)]
    rfl
  unfold pb__law_like
  simp -implicitDefEqProofs only [bd_pu, pu_run, bd_no, bd_rz, opt_some, opt_none, ner_pu, ite_t, ite_f, asBW_b, tst_b, andD_t, andD_f, orD_t, orD_f, notD_b, andB_t, andB_f, orB_t, orB_f, notB_b, lst_pu, optL_l, chain_t, chain_f, partW_i, rg1_i, rg2_i, par1_t, par2_t, par3_t, tup2_t, tup3_t, seq_p, seq_r, fin_r, fin_n, fin_z, finF_r, fin_bd, seq_bd, bd_bd, bd_eta, tst_bd, ite_bd, notB_bd, notD_bd, andB_bd, orB_bd, andD_bd, orD_bd, lst_bd, Bool.not_true, Bool.not_false, len_tab, len_row, len_bag, len_t, len_l, items_tab, items_row, items_bag, items_tup, items_lst, tuple_l, tuple_t, list_l, list_t, list_row, list_bag, sub_i, add_i, neg_i, abs_i, lt_i, le_i, gt_i, ge_i, eq_self, ne_self, sorted_row, eq_rng, all_true, isN_d, notN_d, zipW_bag, zipW_t, ixt_0, ixt_1, ixt_2, ixl_0, ixl_1, z_sort d hn, h6, hin, eq_atom ha]
theorem z_liken : ∀ (n : Nat) (d : D), likeN n d = true → pp__law_like (n + 1) d d = pu (PyData.bool true)
  | n, PyData.none, _ => z_like0 rfl
  | n, PyData.bool _, _ => z_like0 rfl
  | n, PyData.int _, _ => z_like0 rfl
  | n, PyData.str s, h => z_like0 (by
    have : likeN n (PyData.str s) = PyData.strOk s := by cases n <;> rfl
    rw [this] at h
    exact h)
  | 0, PyData.tuple _, h => by cases h
  | 0, PyData.list _, h => by cases h
  | n, .dict _, h => by cases n <;> cases h
  | n + 1, PyData.tuple xs, h => by
    have h' : (decide (xs.length ≤ 16777216) && xs.all (likeN n)) = true := h
    simp -implicitDefEqProofs only [Bool.and_eq_true, decide_eq_true_eq, List.all_eq_true] at h'
    exact z_like1 (pr := pp__law_like (n + 1)) (.inl rfl) h'.1 fun x hx => z_liken n x (h'.2 x hx)
  | n + 1, PyData.list xs, h => by
    have h' : (decide (xs.length ≤ 16777216) && xs.all (likeN n)) = true := h
    simp -implicitDefEqProofs only [Bool.and_eq_true, decide_eq_true_eq, List.all_eq_true] at h'
    exact z_like1 (pr := pp__law_like (n + 1)) (.inr rfl) h'.1 fun x hx => z_liken n x (h'.2 x hx)
theorem z_like {d : D} (h : likeN 11 d = true) : p__law_like d d = pu (PyData.bool true) := z_liken 11 d h
theorem z_word_of {xs : List D} (n : Int) (hx : ∀ x ∈ xs, noDict x = true) (hl : xs.length ≤ 16777216) : p_is_word_of (PyData.tuple xs) (PyData.int n) = pu (PyData.bool (isTup (PyData.tuple xs) 0 60 && xs.all fun d => isWhole d 0 (n - 1))) := by
  rw [pe_is_word_of]
  unfold pb_is_word_of
  rw [z_tup (d := PyData.tuple xs) 0 60 rfl]
  cases q : isTup (PyData.tuple xs) 0 60 with
  | false => rfl
  | true =>
    simp -implicitDefEqProofs only [bd_pu, pu_run, bd_no, bd_rz, opt_some, opt_none, ner_pu, ite_t, ite_f, asBW_b, tst_b, andD_t, andD_f, orD_t, orD_f, notD_b, andB_t, andB_f, orB_t, orB_f, notB_b, lst_pu, optL_l, chain_t, chain_f, partW_i, rg1_i, rg2_i, par1_t, par2_t, par3_t, tup2_t, tup3_t, seq_p, seq_r, fin_r, fin_n, fin_z, finF_r, fin_bd, seq_bd, bd_bd, bd_eta, tst_bd, ite_bd, notB_bd, notD_bd, andB_bd, orB_bd, andD_bd, orD_bd, lst_bd, Bool.not_true, Bool.not_false, len_tab, len_row, len_bag, len_t, len_l, items_tab, items_row, items_bag, items_tup, items_lst, tuple_l, tuple_t, list_l, list_t, list_row, list_bag, sub_i, add_i, neg_i, abs_i, lt_i, le_i, gt_i, ge_i, eq_self, ne_self, sorted_row, eq_rng, all_true, isN_d, notN_d, zipW_bag, zipW_t, ixt_0, ixt_1, ixt_2, ixl_0, ixl_1]
    rw [compW_pu (fun d => PyData.bool (isWhole d 0 (n - 1))) hl fun d hd => z_whole _ _ (hx d hd)]
    simp -implicitDefEqProofs only [bd_pu, pu_run, bd_no, bd_rz, opt_some, opt_none, ner_pu, ite_t, ite_f, asBW_b, tst_b, andD_t, andD_f, orD_t, orD_f, notD_b, andB_t, andB_f, orB_t, orB_f, notB_b, lst_pu, optL_l, chain_t, chain_f, partW_i, rg1_i, rg2_i, par1_t, par2_t, par3_t, tup2_t, tup3_t, seq_p, seq_r, fin_r, fin_n, fin_z, finF_r, fin_bd, seq_bd, bd_bd, bd_eta, tst_bd, ite_bd, notB_bd, notD_bd, andB_bd, orB_bd, andD_bd, orD_bd, lst_bd, Bool.not_true, Bool.not_false, len_tab, len_row, len_bag, len_t, len_l, items_tab, items_row, items_bag, items_tup, items_lst, tuple_l, tuple_t, list_l, list_t, list_row, list_bag, sub_i, add_i, neg_i, abs_i, lt_i, le_i, gt_i, ge_i, eq_self, ne_self, sorted_row, eq_rng, all_true, isN_d, notN_d, zipW_bag, zipW_t, ixt_0, ixt_1, ixt_2, ixl_0, ixl_1, all_map, Bool.true_and]
theorem z_need_whole {v lo hi : Int} (h1 : lo ≤ v) (h2 : v ≤ hi) : p_need_whole (PyData.int v) (PyData.int lo) (PyData.int hi) = pu PyData.none := by
  rw [pe_need_whole]
  unfold pb_need_whole
  simp -implicitDefEqProofs only [bd_pu, pu_run, bd_no, bd_rz, opt_some, opt_none, ner_pu, ite_t, ite_f, asBW_b, tst_b, andD_t, andD_f, orD_t, orD_f, notD_b, andB_t, andB_f, orB_t, orB_f, notB_b, lst_pu, optL_l, chain_t, chain_f, partW_i, rg1_i, rg2_i, par1_t, par2_t, par3_t, tup2_t, tup3_t, seq_p, seq_r, fin_r, fin_n, fin_z, finF_r, fin_bd, seq_bd, bd_bd, bd_eta, tst_bd, ite_bd, notB_bd, notD_bd, andB_bd, orB_bd, andD_bd, orD_bd, lst_bd, Bool.not_true, Bool.not_false, len_tab, len_row, len_bag, len_t, len_l, items_tab, items_row, items_bag, items_tup, items_lst, tuple_l, tuple_t, list_l, list_t, list_row, list_bag, sub_i, add_i, neg_i, abs_i, lt_i, le_i, gt_i, ge_i, eq_self, ne_self, sorted_row, eq_rng, all_true, isN_d, notN_d, zipW_bag, zipW_t, ixt_0, ixt_1, ixt_2, ixl_0, ixl_1, z_int_t h1 h2]
theorem bag_ok {n : Nat} {b : Nat → Int} (h : ∀ i, i < n → -60 ≤ b i ∧ b i ≤ 60) : (isTup (bag n b) n n && (sq n fun i => PyData.int (b i)).all fun d => isWhole d (-60) 60) = true := by
  rw [Bool.and_eq_true, List.all_eq_true]
  refine ⟨?_, fun x hx => ?_⟩
  · show (decide ((n : Int) ≤ ((sq n fun i => PyData.int (b i)).length : Int)) && decide (((sq n fun i => PyData.int (b i)).length : Int) ≤ n)) = true
    rw [sq_len, decide_eq_true (Int.le_refl _)]
    rfl
  · obtain ⟨i, hi, rfl⟩ := mem_sq.mp hx
    show (decide (-60 ≤ b i) && decide (b i ≤ 60)) = true
    rw [decide_eq_true (h i hi).1, decide_eq_true (h i hi).2]
    rfl
theorem z_adding {n : Nat} (r : D) (t : Pm n) {a : Nat} (ha : a < n) (hn : n ≤ 60) : p_letter_adding r (row n t.to) (nI a) = pu (nI (t.inv a)) := by
  rw [pe_letter_adding]
  unfold pb_letter_adding
  simp -implicitDefEqProofs only [bd_pu, pu_run, bd_no, bd_rz, opt_some, opt_none, ner_pu, ite_t, ite_f, asBW_b, tst_b, andD_t, andD_f, orD_t, orD_f, notD_b, andB_t, andB_f, orB_t, orB_f, notB_b, lst_pu, optL_l, chain_t, chain_f, partW_i, rg1_i, rg2_i, par1_t, par2_t, par3_t, tup2_t, tup3_t, seq_p, seq_r, fin_r, fin_n, fin_z, finF_r, fin_bd, seq_bd, bd_bd, bd_eta, tst_bd, ite_bd, notB_bd, notD_bd, andB_bd, orB_bd, andD_bd, orD_bd, lst_bd, Bool.not_true, Bool.not_false, len_tab, len_row, len_bag, len_t, len_l, items_tab, items_row, items_bag, items_tup, items_lst, tuple_l, tuple_t, list_l, list_t, list_row, list_bag, sub_i, add_i, neg_i, abs_i, lt_i, le_i, gt_i, ge_i, eq_self, ne_self, sorted_row, eq_rng, all_true, isN_d, notN_d, zipW_bag, zipW_t, ixt_0, ixt_1, ixt_2, ixl_0, ixl_1, z_back t hn, ix_row ha]
  rfl
/-- a bag not too big -/
def smallb (n : Nat) (b : Nat → Int) : Prop := ∀ i, i < n → (b i).natAbs ≤ 16777216
/-- a bag as it may be given -/
def fullb (n : Nat) (b : Nat → Int) : Prop := ∀ i, i < n → -60 ≤ b i ∧ b i ≤ 60
theorem fullb.small {n : Nat} {b : Nat → Int} (h : fullb n b) : smallb n b := fun i hi => by have := h i hi; omega
theorem z_word_row {n m : Nat} {w : Nat → Nat} (hm : m ≤ 60) (h : ∀ k, k < m → w k < n) : p_is_word_of (row m w) (nI n) = pu (PyData.bool true) := by
  show p_is_word_of (PyData.tuple (sq m fun i => nI (w i))) (PyData.int n) = _
  rw [z_word_of (n : Int) (fun x hx => by obtain ⟨i, _, rfl⟩ := mem_sq.mp hx; rfl) (by rw [sq_len]; omega)]
  have e : (isTup (PyData.tuple (sq m fun i => nI (w i))) 0 60 && (sq m fun i => nI (w i)).all fun d => isWhole d 0 ((n : Int) - 1)) = true := by
    rw [Bool.and_eq_true, List.all_eq_true]
    refine ⟨?_, fun x hx => ?_⟩
    · show (decide ((0 : Int) ≤ ((sq m fun i => nI (w i)).length : Int)) && decide (((sq m fun i => nI (w i)).length : Int) ≤ 60)) = true
      rw [sq_len, decide_eq_true (by omega), decide_eq_true (by omega)]
      rfl
    · obtain ⟨i, hi, rfl⟩ := mem_sq.mp hx
      have := h i hi
      show (decide ((0 : Int) ≤ (w i : Int)) && decide ((w i : Int) ≤ (n : Int) - 1)) = true
      rw [decide_eq_true (by omega), decide_eq_true (by omega)]
      rfl
  rw [e]
theorem z_need_word {n m : Nat} {w : Nat → Nat} (hm : m ≤ 60) (h : ∀ k, k < m → w k < n) : p_need_word (row m w) (nI n) = pu PyData.none := by
  rw [pe_need_word]
  unfold pb_need_word
  rw [z_word_row hm h]
  simp -implicitDefEqProofs only [bd_pu, pu_run, bd_no, bd_rz, opt_some, opt_none, ner_pu, ite_t, ite_f, asBW_b, tst_b, andD_t, andD_f, orD_t, orD_f, notD_b, andB_t, andB_f, orB_t, orB_f, notB_b, lst_pu, optL_l, chain_t, chain_f, partW_i, rg1_i, rg2_i, par1_t, par2_t, par3_t, tup2_t, tup3_t, seq_p, seq_r, fin_r, fin_n, fin_z, finF_r, fin_bd, seq_bd, bd_bd, bd_eta, tst_bd, ite_bd, notB_bd, notD_bd, andB_bd, orB_bd, andD_bd, orD_bd, lst_bd, Bool.not_true, Bool.not_false, len_tab, len_row, len_bag, len_t, len_l, items_tab, items_row, items_bag, items_tup, items_lst, tuple_l, tuple_t, list_l, list_t, list_row, list_bag, sub_i, add_i, neg_i, abs_i, lt_i, le_i, gt_i, ge_i, eq_self, ne_self, sorted_row, eq_rng, all_true, isN_d, notN_d, zipW_bag, zipW_t, ixt_0, ixt_1, ixt_2, ixl_0, ixl_1]
theorem z_turns_of {n m : Nat} (C : CS n) {w : Nat → Nat} (hn : n ≤ 16) (hm : m ≤ 60) (h : ∀ k, k < m → w k < n) : p_turns_of (tab n C.r) (row m w) = pu (PyData.tuple (sq (m + 1) fun k => row n (C.tt w k).to)) := by
  rw [pe_turns_of]
  unfold pb_turns_of
  simp -implicitDefEqProofs only [bd_pu, pu_run, bd_no, bd_rz, opt_some, opt_none, ner_pu, ite_t, ite_f, asBW_b, tst_b, andD_t, andD_f, orD_t, orD_f, notD_b, andB_t, andB_f, orB_t, orB_f, notB_b, lst_pu, optL_l, chain_t, chain_f, partW_i, rg1_i, rg2_i, par1_t, par2_t, par3_t, tup2_t, tup3_t, seq_p, seq_r, fin_r, fin_n, fin_z, finF_r, fin_bd, seq_bd, bd_bd, bd_eta, tst_bd, ite_bd, notB_bd, notD_bd, andB_bd, orB_bd, andD_bd, orD_bd, lst_bd, Bool.not_true, Bool.not_false, len_tab, len_row, len_bag, len_t, len_l, items_tab, items_row, items_bag, items_tup, items_lst, tuple_l, tuple_t, list_l, list_t, list_row, list_bag, sub_i, add_i, neg_i, abs_i, lt_i, le_i, gt_i, ge_i, eq_self, ne_self, sorted_row, eq_rng, all_true, isN_d, notN_d, zipW_bag, zipW_t, ixt_0, ixt_1, ixt_2, ixl_0, ixl_1, z_plain (show n ≤ 60 by omega)]
  let S : Nat → D × List D := fun k => (row n (C.tt w k).to, sq (k + 1) fun i => row n (C.tt w i).to)
  rw [show (row n (Pm.one : Pm n).to, [row n (Pm.one : Pm n).to]) = S 0 from rfl, for_sq S]
  · simp -implicitDefEqProofs only [S, bd_pu, pu_run, bd_no, bd_rz, opt_some, opt_none, ner_pu, ite_t, ite_f, asBW_b, tst_b, andD_t, andD_f, orD_t, orD_f, notD_b, andB_t, andB_f, orB_t, orB_f, notB_b, lst_pu, optL_l, chain_t, chain_f, partW_i, rg1_i, rg2_i, par1_t, par2_t, par3_t, tup2_t, tup3_t, seq_p, seq_r, fin_r, fin_n, fin_z, finF_r, fin_bd, seq_bd, bd_bd, bd_eta, tst_bd, ite_bd, notB_bd, notD_bd, andB_bd, orB_bd, andD_bd, orD_bd, lst_bd, Bool.not_true, Bool.not_false, len_tab, len_row, len_bag, len_t, len_l, items_tab, items_row, items_bag, items_tup, items_lst, tuple_l, tuple_t, list_l, list_t, list_row, list_bag, sub_i, add_i, neg_i, abs_i, lt_i, le_i, gt_i, ge_i, eq_self, ne_self, sorted_row, eq_rng, all_true, isN_d, notN_d, zipW_bag, zipW_t, ixt_0, ixt_1, ixt_2, ixl_0, ixl_1]
  · intro k hk
    simp -implicitDefEqProofs only [S, bd_pu, pu_run, bd_no, bd_rz, opt_some, opt_none, ner_pu, ite_t, ite_f, asBW_b, tst_b, andD_t, andD_f, orD_t, orD_f, notD_b, andB_t, andB_f, orB_t, orB_f, notB_b, lst_pu, optL_l, chain_t, chain_f, partW_i, rg1_i, rg2_i, par1_t, par2_t, par3_t, tup2_t, tup3_t, seq_p, seq_r, fin_r, fin_n, fin_z, finF_r, fin_bd, seq_bd, bd_bd, bd_eta, tst_bd, ite_bd, notB_bd, notD_bd, andB_bd, orB_bd, andD_bd, orD_bd, lst_bd, Bool.not_true, Bool.not_false, len_tab, len_row, len_bag, len_t, len_l, items_tab, items_row, items_bag, items_tup, items_lst, tuple_l, tuple_t, list_l, list_t, list_row, list_bag, sub_i, add_i, neg_i, abs_i, lt_i, le_i, gt_i, ge_i, eq_self, ne_self, sorted_row, eq_rng, all_true, isN_d, notN_d, zipW_bag, zipW_t, ixt_0, ixt_1, ixt_2, ixl_0, ixl_1, ix_tab (h k hk), show p_back_of (row n (C.r (w k))) = pu (row n (C.R (w k)).bk.to) from z_back (C.R (w k)) (by omega), z_joined (C.tt w k) (C.R (w k)).bk (show n ≤ 60 by omega)]
    rw [appW_ok (by rw [sq_len]; omega)]
    simp -implicitDefEqProofs only [bd_pu, pu_run, bd_no, bd_rz, opt_some, opt_none, ner_pu, ite_t, ite_f, asBW_b, tst_b, andD_t, andD_f, orD_t, orD_f, notD_b, andB_t, andB_f, orB_t, orB_f, notB_b, lst_pu, optL_l, chain_t, chain_f, partW_i, rg1_i, rg2_i, par1_t, par2_t, par3_t, tup2_t, tup3_t, seq_p, seq_r, fin_r, fin_n, fin_z, finF_r, fin_bd, seq_bd, bd_bd, bd_eta, tst_bd, ite_bd, notB_bd, notD_bd, andB_bd, orB_bd, andD_bd, orD_bd, lst_bd, Bool.not_true, Bool.not_false, len_tab, len_row, len_bag, len_t, len_l, items_tab, items_row, items_bag, items_tup, items_lst, tuple_l, tuple_t, list_l, list_t, list_row, list_bag, sub_i, add_i, neg_i, abs_i, lt_i, le_i, gt_i, ge_i, eq_self, ne_self, sorted_row, eq_rng, all_true, isN_d, notN_d, zipW_bag, zipW_t, ixt_0, ixt_1, ixt_2, ixl_0, ixl_1]
    rw [sq_succ (n := k + 1)]
    rfl
theorem z_laid_of {n m : Nat} (C : CS n) {w : Nat → Nat} (hn : n ≤ 16) (hm : m ≤ 60) (h : ∀ k, k < m → w k < n) : p_laid_of (tab n C.r) (row m w) = pu (row m (C.laid w)) := by
  rw [pe_laid_of]
  unfold pb_laid_of
  simp -implicitDefEqProofs only [bd_pu, pu_run, bd_no, bd_rz, opt_some, opt_none, ner_pu, ite_t, ite_f, asBW_b, tst_b, andD_t, andD_f, orD_t, orD_f, notD_b, andB_t, andB_f, orB_t, orB_f, notB_b, lst_pu, optL_l, chain_t, chain_f, partW_i, rg1_i, rg2_i, par1_t, par2_t, par3_t, tup2_t, tup3_t, seq_p, seq_r, fin_r, fin_n, fin_z, finF_r, fin_bd, seq_bd, bd_bd, bd_eta, tst_bd, ite_bd, notB_bd, notD_bd, andB_bd, orB_bd, andD_bd, orD_bd, lst_bd, Bool.not_true, Bool.not_false, len_tab, len_row, len_bag, len_t, len_l, items_tab, items_row, items_bag, items_tup, items_lst, tuple_l, tuple_t, list_l, list_t, list_row, list_bag, sub_i, add_i, neg_i, abs_i, lt_i, le_i, gt_i, ge_i, eq_self, ne_self, sorted_row, eq_rng, all_true, isN_d, notN_d, zipW_bag, zipW_t, ixt_0, ixt_1, ixt_2, ixl_0, ixl_1, z_turns_of C hn hm h]
  rw [show zipW [PyData.tuple (sq (m + 1) fun k => row n (C.tt w k).to), row m w] = pu (sq m fun i => PyData.tuple [row n (C.tt w i).to, nI (w i)]) from congrArg pu (zip_le (Nat.le_succ m))]
  simp -implicitDefEqProofs only [bd_pu, pu_run, bd_no, bd_rz, opt_some, opt_none, ner_pu, ite_t, ite_f, asBW_b, tst_b, andD_t, andD_f, orD_t, orD_f, notD_b, andB_t, andB_f, orB_t, orB_f, notB_b, lst_pu, optL_l, chain_t, chain_f, partW_i, rg1_i, rg2_i, par1_t, par2_t, par3_t, tup2_t, tup3_t, seq_p, seq_r, fin_r, fin_n, fin_z, finF_r, fin_bd, seq_bd, bd_bd, bd_eta, tst_bd, ite_bd, notB_bd, notD_bd, andB_bd, orB_bd, andD_bd, orD_bd, lst_bd, Bool.not_true, Bool.not_false, len_tab, len_row, len_bag, len_t, len_l, items_tab, items_row, items_bag, items_tup, items_lst, tuple_l, tuple_t, list_l, list_t, list_row, list_bag, sub_i, add_i, neg_i, abs_i, lt_i, le_i, gt_i, ge_i, eq_self, ne_self, sorted_row, eq_rng, all_true, isN_d, notN_d, zipW_bag, zipW_t, ixt_0, ixt_1, ixt_2, ixl_0, ixl_1]
  rw [comp_sq (by omega), compN_eq fun i => nI (C.laid w i)]
  · rfl
  · intro i hi
    simp -implicitDefEqProofs only [bd_pu, pu_run, bd_no, bd_rz, opt_some, opt_none, ner_pu, ite_t, ite_f, asBW_b, tst_b, andD_t, andD_f, orD_t, orD_f, notD_b, andB_t, andB_f, orB_t, orB_f, notB_b, lst_pu, optL_l, chain_t, chain_f, partW_i, rg1_i, rg2_i, par1_t, par2_t, par3_t, tup2_t, tup3_t, seq_p, seq_r, fin_r, fin_n, fin_z, finF_r, fin_bd, seq_bd, bd_bd, bd_eta, tst_bd, ite_bd, notB_bd, notD_bd, andB_bd, orB_bd, andD_bd, orD_bd, lst_bd, Bool.not_true, Bool.not_false, len_tab, len_row, len_bag, len_t, len_l, items_tab, items_row, items_bag, items_tup, items_lst, tuple_l, tuple_t, list_l, list_t, list_row, list_bag, sub_i, add_i, neg_i, abs_i, lt_i, le_i, gt_i, ge_i, eq_self, ne_self, sorted_row, eq_rng, all_true, isN_d, notN_d, zipW_bag, zipW_t, ixt_0, ixt_1, ixt_2, ixl_0, ixl_1, ix_row (h i hi)]
    rfl
theorem z_wordof {n m : Nat} (C : CS n) {l : Nat → Nat} (hn : n ≤ 16) (hm : m ≤ 60) (h : ∀ k, k < m → l k < n) : p_word_of_laid (tab n C.r) (row m l) = pu (row m (C.wof l)) := by
  rw [pe_word_of_laid]
  unfold pb_word_of_laid
  simp -implicitDefEqProofs only [bd_pu, pu_run, bd_no, bd_rz, opt_some, opt_none, ner_pu, ite_t, ite_f, asBW_b, tst_b, andD_t, andD_f, orD_t, orD_f, notD_b, andB_t, andB_f, orB_t, orB_f, notB_b, lst_pu, optL_l, chain_t, chain_f, partW_i, rg1_i, rg2_i, par1_t, par2_t, par3_t, tup2_t, tup3_t, seq_p, seq_r, fin_r, fin_n, fin_z, finF_r, fin_bd, seq_bd, bd_bd, bd_eta, tst_bd, ite_bd, notB_bd, notD_bd, andB_bd, orB_bd, andD_bd, orD_bd, lst_bd, Bool.not_true, Bool.not_false, len_tab, len_row, len_bag, len_t, len_l, items_tab, items_row, items_bag, items_tup, items_lst, tuple_l, tuple_t, list_l, list_t, list_row, list_bag, sub_i, add_i, neg_i, abs_i, lt_i, le_i, gt_i, ge_i, eq_self, ne_self, sorted_row, eq_rng, all_true, isN_d, notN_d, zipW_bag, zipW_t, ixt_0, ixt_1, ixt_2, ixl_0, ixl_1, z_plain (show n ≤ 60 by omega)]
  let S : Nat → List D × D := fun k => (sq k fun i => nI (C.wof l i), row n (C.tt (C.wof l) k).to)
  rw [show (([] : List D), row n (Pm.one : Pm n).to) = S 0 from rfl, for_sq S]
  · simp -implicitDefEqProofs only [S, bd_pu, pu_run, bd_no, bd_rz, opt_some, opt_none, ner_pu, ite_t, ite_f, asBW_b, tst_b, andD_t, andD_f, orD_t, orD_f, notD_b, andB_t, andB_f, orB_t, orB_f, notB_b, lst_pu, optL_l, chain_t, chain_f, partW_i, rg1_i, rg2_i, par1_t, par2_t, par3_t, tup2_t, tup3_t, seq_p, seq_r, fin_r, fin_n, fin_z, finF_r, fin_bd, seq_bd, bd_bd, bd_eta, tst_bd, ite_bd, notB_bd, notD_bd, andB_bd, orB_bd, andD_bd, orD_bd, lst_bd, Bool.not_true, Bool.not_false, len_tab, len_row, len_bag, len_t, len_l, items_tab, items_row, items_bag, items_tup, items_lst, tuple_l, tuple_t, list_l, list_t, list_row, list_bag, sub_i, add_i, neg_i, abs_i, lt_i, le_i, gt_i, ge_i, eq_self, ne_self, sorted_row, eq_rng, all_true, isN_d, notN_d, zipW_bag, zipW_t, ixt_0, ixt_1, ixt_2, ixl_0, ixl_1]
    rfl
  · intro k hk
    have e := C.wof_eq l k
    have hw := C.wof_lt (h k hk)
    simp -implicitDefEqProofs only [S, bd_pu, pu_run, bd_no, bd_rz, opt_some, opt_none, ner_pu, ite_t, ite_f, asBW_b, tst_b, andD_t, andD_f, orD_t, orD_f, notD_b, andB_t, andB_f, orB_t, orB_f, notB_b, lst_pu, optL_l, chain_t, chain_f, partW_i, rg1_i, rg2_i, par1_t, par2_t, par3_t, tup2_t, tup3_t, seq_p, seq_r, fin_r, fin_n, fin_z, finF_r, fin_bd, seq_bd, bd_bd, bd_eta, tst_bd, ite_bd, notB_bd, notD_bd, andB_bd, orB_bd, andD_bd, orD_bd, lst_bd, Bool.not_true, Bool.not_false, len_tab, len_row, len_bag, len_t, len_l, items_tab, items_row, items_bag, items_tup, items_lst, tuple_l, tuple_t, list_l, list_t, list_row, list_bag, sub_i, add_i, neg_i, abs_i, lt_i, le_i, gt_i, ge_i, eq_self, ne_self, sorted_row, eq_rng, all_true, isN_d, notN_d, zipW_bag, zipW_t, ixt_0, ixt_1, ixt_2, ixl_0, ixl_1, z_adding (tab n C.r) (C.tt (C.wof l) k) (h k hk) (show n ≤ 60 by omega), ← e, ix_tab hw, show p_back_of (row n (C.r (C.wof l k))) = pu (row n (C.R (C.wof l k)).bk.to) from z_back (C.R (C.wof l k)) (by omega), z_joined (C.tt (C.wof l) k) (C.R (C.wof l k)).bk (show n ≤ 60 by omega)]
    rw [appW_ok (by rw [sq_len]; omega)]
    simp -implicitDefEqProofs only [bd_pu, pu_run, bd_no, bd_rz, opt_some, opt_none, ner_pu, ite_t, ite_f, asBW_b, tst_b, andD_t, andD_f, orD_t, orD_f, notD_b, andB_t, andB_f, orB_t, orB_f, notB_b, lst_pu, optL_l, chain_t, chain_f, partW_i, rg1_i, rg2_i, par1_t, par2_t, par3_t, tup2_t, tup3_t, seq_p, seq_r, fin_r, fin_n, fin_z, finF_r, fin_bd, seq_bd, bd_bd, bd_eta, tst_bd, ite_bd, notB_bd, notD_bd, andB_bd, orB_bd, andD_bd, orD_bd, lst_bd, Bool.not_true, Bool.not_false, len_tab, len_row, len_bag, len_t, len_l, items_tab, items_row, items_bag, items_tup, items_lst, tuple_l, tuple_t, list_l, list_t, list_row, list_bag, sub_i, add_i, neg_i, abs_i, lt_i, le_i, gt_i, ge_i, eq_self, ne_self, sorted_row, eq_rng, all_true, isN_d, notN_d, zipW_bag, zipW_t, ixt_0, ixt_1, ixt_2, ixl_0, ixl_1]
    rw [sq_succ (n := k)]
    rfl
theorem z_laid_row {n m : Nat} (C : CS n) {w : Nat → Nat} (h1 : 1 ≤ n) (hn : n ≤ 16) (hm : m ≤ 60) (h : ∀ k, k < m → w k < n) : p_laid_row (tab n C.r) (row m w) = pu (row m (C.laid w)) := by
  rw [pe_laid_row]
  unfold pb_laid_row
  simp -implicitDefEqProofs only [bd_pu, pu_run, bd_no, bd_rz, opt_some, opt_none, ner_pu, ite_t, ite_f, asBW_b, tst_b, andD_t, andD_f, orD_t, orD_f, notD_b, andB_t, andB_f, orB_t, orB_f, notB_b, lst_pu, optL_l, chain_t, chain_f, partW_i, rg1_i, rg2_i, par1_t, par2_t, par3_t, tup2_t, tup3_t, seq_p, seq_r, fin_r, fin_n, fin_z, finF_r, fin_bd, seq_bd, bd_bd, bd_eta, tst_bd, ite_bd, notB_bd, notD_bd, andB_bd, orB_bd, andD_bd, orD_bd, lst_bd, Bool.not_true, Bool.not_false, len_tab, len_row, len_bag, len_t, len_l, items_tab, items_row, items_bag, items_tup, items_lst, tuple_l, tuple_t, list_l, list_t, list_row, list_bag, sub_i, add_i, neg_i, abs_i, lt_i, le_i, gt_i, ge_i, eq_self, ne_self, sorted_row, eq_rng, all_true, isN_d, notN_d, zipW_bag, zipW_t, ixt_0, ixt_1, ixt_2, ixl_0, ixl_1, z_needc C h1 hn, z_need_word hm h, z_laid_of C hn hm h]
theorem z_word_laid {n m : Nat} (C : CS n) {w : Nat → Nat} (h1 : 1 ≤ n) (hn : n ≤ 16) (hm : m ≤ 60) (h : ∀ k, k < m → w k < n) : p_word_laid (tab n C.r) (row m w) = pu (row m (C.wof w)) := by
  rw [pe_word_laid]
  unfold pb_word_laid
  simp -implicitDefEqProofs only [bd_pu, pu_run, bd_no, bd_rz, opt_some, opt_none, ner_pu, ite_t, ite_f, asBW_b, tst_b, andD_t, andD_f, orD_t, orD_f, notD_b, andB_t, andB_f, orB_t, orB_f, notB_b, lst_pu, optL_l, chain_t, chain_f, partW_i, rg1_i, rg2_i, par1_t, par2_t, par3_t, tup2_t, tup3_t, seq_p, seq_r, fin_r, fin_n, fin_z, finF_r, fin_bd, seq_bd, bd_bd, bd_eta, tst_bd, ite_bd, notB_bd, notD_bd, andB_bd, orB_bd, andD_bd, orD_bd, lst_bd, Bool.not_true, Bool.not_false, len_tab, len_row, len_bag, len_t, len_l, items_tab, items_row, items_bag, items_tup, items_lst, tuple_l, tuple_t, list_l, list_t, list_row, list_bag, sub_i, add_i, neg_i, abs_i, lt_i, le_i, gt_i, ge_i, eq_self, ne_self, sorted_row, eq_rng, all_true, isN_d, notN_d, zipW_bag, zipW_t, ixt_0, ixt_1, ixt_2, ixl_0, ixl_1, z_needc C h1 hn, z_need_word hm h, z_wordof C hn hm h]
theorem z_turns_along {n m : Nat} (C : CS n) {w : Nat → Nat} (h1 : 1 ≤ n) (hn : n ≤ 16) (hm : m ≤ 60) (h : ∀ k, k < m → w k < n) : p_turns_along (tab n C.r) (row m w) = pu (PyData.tuple (sq (m + 1) fun k => row n (C.tt w k).to)) := by
  rw [pe_turns_along]
  unfold pb_turns_along
  simp -implicitDefEqProofs only [bd_pu, pu_run, bd_no, bd_rz, opt_some, opt_none, ner_pu, ite_t, ite_f, asBW_b, tst_b, andD_t, andD_f, orD_t, orD_f, notD_b, andB_t, andB_f, orB_t, orB_f, notB_b, lst_pu, optL_l, chain_t, chain_f, partW_i, rg1_i, rg2_i, par1_t, par2_t, par3_t, tup2_t, tup3_t, seq_p, seq_r, fin_r, fin_n, fin_z, finF_r, fin_bd, seq_bd, bd_bd, bd_eta, tst_bd, ite_bd, notB_bd, notD_bd, andB_bd, orB_bd, andD_bd, orD_bd, lst_bd, Bool.not_true, Bool.not_false, len_tab, len_row, len_bag, len_t, len_l, items_tab, items_row, items_bag, items_tup, items_lst, tuple_l, tuple_t, list_l, list_t, list_row, list_bag, sub_i, add_i, neg_i, abs_i, lt_i, le_i, gt_i, ge_i, eq_self, ne_self, sorted_row, eq_rng, all_true, isN_d, notN_d, zipW_bag, zipW_t, ixt_0, ixt_1, ixt_2, ixl_0, ixl_1, z_needc C h1 hn, z_need_word hm h, z_turns_of C hn hm h]
theorem z_frozen {n m x : Nat} (C : CS n) (h1 : 1 ≤ n) (hn : n ≤ 16) (hm : m ≤ 60) (hx : x < n) : p_frozen_word (tab n C.r) (nI x) (nI m) = pu (row m (C.sqs x)) := by
  rw [pe_frozen_word]
  unfold pb_frozen_word
  simp -implicitDefEqProofs only [bd_pu, pu_run, bd_no, bd_rz, opt_some, opt_none, ner_pu, ite_t, ite_f, asBW_b, tst_b, andD_t, andD_f, orD_t, orD_f, notD_b, andB_t, andB_f, orB_t, orB_f, notB_b, lst_pu, optL_l, chain_t, chain_f, partW_i, rg1_i, rg2_i, par1_t, par2_t, par3_t, tup2_t, tup3_t, seq_p, seq_r, fin_r, fin_n, fin_z, finF_r, fin_bd, seq_bd, bd_bd, bd_eta, tst_bd, ite_bd, notB_bd, notD_bd, andB_bd, orB_bd, andD_bd, orD_bd, lst_bd, Bool.not_true, Bool.not_false, len_tab, len_row, len_bag, len_t, len_l, items_tab, items_row, items_bag, items_tup, items_lst, tuple_l, tuple_t, list_l, list_t, list_row, list_bag, sub_i, add_i, neg_i, abs_i, lt_i, le_i, gt_i, ge_i, eq_self, ne_self, sorted_row, eq_rng, all_true, isN_d, notN_d, zipW_bag, zipW_t, ixt_0, ixt_1, ixt_2, ixl_0, ixl_1, z_needc C h1 hn, z_need_whole (v := x) (lo := 0) (hi := (n : Int) - 1) (by omega) (by omega), z_need_whole (v := m) (lo := 0) (hi := 60) (by omega) (by omega), mul_t1 (d := nI x) (show m ≤ 1000 by omega)]
  rw [show PyData.tuple (sq m fun _ => nI x) = row m fun _ => x from rfl, z_wordof C hn hm (fun _ _ => hx)]
  rw [show C.wof (fun _ => x) = C.sqs x from funext (C.wof_const x)]
theorem zr_lword {n : Nat} {m : Int} (h1 : 1 ≤ n) (hn : n ≤ 60) (hm : 0 ≤ m) (hm2 : m ≤ 1000) {Q : D → Prop} {X : Ex → Prop} (h : ∀ (k : Nat) (w : Nat → Nat), (k : Int) ≤ m → (∀ i, i < k → w i < n) → Q (row k w)) : p__law_word (nI n) (PyData.int m) Q X := by
  rw [pe__law_word]
  unfold pb__law_word
  simp -implicitDefEqProofs only [bd_pu, pu_run, bd_no, bd_rz, opt_some, opt_none, ner_pu, ite_t, ite_f, asBW_b, tst_b, andD_t, andD_f, orD_t, orD_f, notD_b, andB_t, andB_f, orB_t, orB_f, notB_b, lst_pu, optL_l, chain_t, chain_f, partW_i, rg1_i, rg2_i, par1_t, par2_t, par3_t, tup2_t, tup3_t, seq_p, seq_r, fin_r, fin_n, fin_z, finF_r, fin_bd, seq_bd, bd_bd, bd_eta, tst_bd, ite_bd, notB_bd, notD_bd, andB_bd, orB_bd, andD_bd, orD_bd, lst_bd, Bool.not_true, Bool.not_false, len_tab, len_row, len_bag, len_t, len_l, items_tab, items_row, items_bag, items_tup, items_lst, tuple_l, tuple_t, list_l, list_t, list_row, list_bag, sub_i, add_i, neg_i, abs_i, lt_i, le_i, gt_i, ge_i, eq_self, ne_self, sorted_row, eq_rng, all_true, isN_d, notN_d, zipW_bag, zipW_t, ixt_0, ixt_1, ixt_2, ixl_0, ixl_1]
  refine bd_go (zr_roll (by omega) (by omega) fun r hr => ?_)
  simp -implicitDefEqProofs only [bd_pu, pu_run, bd_no, bd_rz, opt_some, opt_none, ner_pu, ite_t, ite_f, asBW_b, tst_b, andD_t, andD_f, orD_t, orD_f, notD_b, andB_t, andB_f, orB_t, orB_f, notB_b, lst_pu, optL_l, chain_t, chain_f, partW_i, rg1_i, rg2_i, par1_t, par2_t, par3_t, tup2_t, tup3_t, seq_p, seq_r, fin_r, fin_n, fin_z, finF_r, fin_bd, seq_bd, bd_bd, bd_eta, tst_bd, ite_bd, notB_bd, notD_bd, andB_bd, orB_bd, andD_bd, orD_bd, lst_bd, Bool.not_true, Bool.not_false, len_tab, len_row, len_bag, len_t, len_l, items_tab, items_row, items_bag, items_tup, items_lst, tuple_l, tuple_t, list_l, list_t, list_row, list_bag, sub_i, add_i, neg_i, abs_i, lt_i, le_i, gt_i, ge_i, eq_self, ne_self, sorted_row, eq_rng, all_true, isN_d, notN_d, zipW_bag, zipW_t, ixt_0, ixt_1, ixt_2, ixl_0, ixl_1, rgI_s (show r ≤ 16777216 by omega)]
  refine bd_go (comp_go (fun _ e => ∃ v : Nat, v < n ∧ e = nI v) (by omega) (fun i hi Q' hq => ?_) fun e he => ?_)
  · refine zr_roll (by omega) (by omega) fun r hr => ?_
    exact hq _ ⟨_, by omega, rfl⟩
  obtain ⟨w, ew, hw⟩ := nats_of he
  rw [ew]
  simp -implicitDefEqProofs only [bd_pu, pu_run, bd_no, bd_rz, opt_some, opt_none, ner_pu, ite_t, ite_f, asBW_b, tst_b, andD_t, andD_f, orD_t, orD_f, notD_b, andB_t, andB_f, orB_t, orB_f, notB_b, lst_pu, optL_l, chain_t, chain_f, partW_i, rg1_i, rg2_i, par1_t, par2_t, par3_t, tup2_t, tup3_t, seq_p, seq_r, fin_r, fin_n, fin_z, finF_r, fin_bd, seq_bd, bd_bd, bd_eta, tst_bd, ite_bd, notB_bd, notD_bd, andB_bd, orB_bd, andD_bd, orD_bd, lst_bd, Bool.not_true, Bool.not_false, len_tab, len_row, len_bag, len_t, len_l, items_tab, items_row, items_bag, items_tup, items_lst, tuple_l, tuple_t, list_l, list_t, list_row, list_bag, sub_i, add_i, neg_i, abs_i, lt_i, le_i, gt_i, ge_i, eq_self, ne_self, sorted_row, eq_rng, all_true, isN_d, notN_d, zipW_bag, zipW_t, ixt_0, ixt_1, ixt_2, ixl_0, ixl_1]
  exact h r w (by omega) hw
theorem z_lpair {n x y : Nat} (C : CS n) (hx : x < n) (hy : y < n) : p__law_pair (tab n C.r) (nI x) (nI y) = pu (PyData.tuple [nI ((C.R x).inv y), nI (C.r ((C.R x).inv y) x)]) := by
  rw [pe__law_pair]
  unfold pb__law_pair
  simp -implicitDefEqProofs only [bd_pu, pu_run, bd_no, bd_rz, opt_some, opt_none, ner_pu, ite_t, ite_f, asBW_b, tst_b, andD_t, andD_f, orD_t, orD_f, notD_b, andB_t, andB_f, orB_t, orB_f, notB_b, lst_pu, optL_l, chain_t, chain_f, partW_i, rg1_i, rg2_i, par1_t, par2_t, par3_t, tup2_t, tup3_t, seq_p, seq_r, fin_r, fin_n, fin_z, finF_r, fin_bd, seq_bd, bd_bd, bd_eta, tst_bd, ite_bd, notB_bd, notD_bd, andB_bd, orB_bd, andD_bd, orD_bd, lst_bd, Bool.not_true, Bool.not_false, len_tab, len_row, len_bag, len_t, len_l, items_tab, items_row, items_bag, items_tup, items_lst, tuple_l, tuple_t, list_l, list_t, list_row, list_bag, sub_i, add_i, neg_i, abs_i, lt_i, le_i, gt_i, ge_i, eq_self, ne_self, sorted_row, eq_rng, all_true, isN_d, notN_d, zipW_bag, zipW_t, ixt_0, ixt_1, ixt_2, ixl_0, ixl_1, ix_tab hx, show idxW (row n (C.r x)) (nI y) = pu (nI ((C.R x).inv y)) from idxW_row (C.R x) hy, ix_tab ((C.R x).lti hy), ix_row hx]
theorem z_lfront {n m k : Nat} (C : CS n) {w : Nat → Nat} (hm : m ≤ 1000) (hk : k < m) (h : ∀ k, k < m → w k < n) : p__law_front (tab n C.r) (row m w) (nI k) = pu (nI (C.laid w k)) := by
  rw [pe__law_front]
  unfold pb__law_front
  simp -implicitDefEqProofs only [bd_pu, pu_run, bd_no, bd_rz, opt_some, opt_none, ner_pu, ite_t, ite_f, asBW_b, tst_b, andD_t, andD_f, orD_t, orD_f, notD_b, andB_t, andB_f, orB_t, orB_f, notB_b, lst_pu, optL_l, chain_t, chain_f, partW_i, rg1_i, rg2_i, par1_t, par2_t, par3_t, tup2_t, tup3_t, seq_p, seq_r, fin_r, fin_n, fin_z, finF_r, fin_bd, seq_bd, bd_bd, bd_eta, tst_bd, ite_bd, notB_bd, notD_bd, andB_bd, orB_bd, andD_bd, orD_bd, lst_bd, Bool.not_true, Bool.not_false, len_tab, len_row, len_bag, len_t, len_l, items_tab, items_row, items_bag, items_tup, items_lst, tuple_l, tuple_t, list_l, list_t, list_row, list_bag, sub_i, add_i, neg_i, abs_i, lt_i, le_i, gt_i, ge_i, eq_self, ne_self, sorted_row, eq_rng, all_true, isN_d, notN_d, zipW_bag, zipW_t, ixt_0, ixt_1, ixt_2, ixl_0, ixl_1, ix_row hk, rgI_s (show k ≤ 16777216 by omega)]
  let S : Nat → D := fun j => nI ((C.tt w (k - j)).inv (C.laid w k))
  rw [show nI (w k) = S 0 from congrArg nI ((C.tt w k).l (w k)).symm, for_rng S]
  · simp -implicitDefEqProofs only [S, bd_pu, pu_run, bd_no, bd_rz, opt_some, opt_none, ner_pu, ite_t, ite_f, asBW_b, tst_b, andD_t, andD_f, orD_t, orD_f, notD_b, andB_t, andB_f, orB_t, orB_f, notB_b, lst_pu, optL_l, chain_t, chain_f, partW_i, rg1_i, rg2_i, par1_t, par2_t, par3_t, tup2_t, tup3_t, seq_p, seq_r, fin_r, fin_n, fin_z, finF_r, fin_bd, seq_bd, bd_bd, bd_eta, tst_bd, ite_bd, notB_bd, notD_bd, andB_bd, orB_bd, andD_bd, orD_bd, lst_bd, Bool.not_true, Bool.not_false, len_tab, len_row, len_bag, len_t, len_l, items_tab, items_row, items_bag, items_tup, items_lst, tuple_l, tuple_t, list_l, list_t, list_row, list_bag, sub_i, add_i, neg_i, abs_i, lt_i, le_i, gt_i, ge_i, eq_self, ne_self, sorted_row, eq_rng, all_true, isN_d, notN_d, zipW_bag, zipW_t, ixt_0, ixt_1, ixt_2, ixl_0, ixl_1, Nat.sub_self]
    rfl
  · intro j hj
    have hl := C.laid_lt (h k hk)
    have e1 : ((k : Int) - 1 - (j : Int)) = ((k - 1 - j : Nat) : Int) := by omega
    have e2 : k - j = (k - 1 - j) + 1 := by omega
    have e3 : k - (j + 1) = k - 1 - j := by omega
    have hi : k - 1 - j < m := by omega
    have hw := h _ hi
    have hw2 := (C.tt w (k - 1 - j + 1)).lti hl
    simp -implicitDefEqProofs only [S, bd_pu, pu_run, bd_no, bd_rz, opt_some, opt_none, ner_pu, ite_t, ite_f, asBW_b, tst_b, andD_t, andD_f, orD_t, orD_f, notD_b, andB_t, andB_f, orB_t, orB_f, notB_b, lst_pu, optL_l, chain_t, chain_f, partW_i, rg1_i, rg2_i, par1_t, par2_t, par3_t, tup2_t, tup3_t, seq_p, seq_r, fin_r, fin_n, fin_z, finF_r, fin_bd, seq_bd, bd_bd, bd_eta, tst_bd, ite_bd, notB_bd, notD_bd, andB_bd, orB_bd, andD_bd, orD_bd, lst_bd, Bool.not_true, Bool.not_false, len_tab, len_row, len_bag, len_t, len_l, items_tab, items_row, items_bag, items_tup, items_lst, tuple_l, tuple_t, list_l, list_t, list_row, list_bag, sub_i, add_i, neg_i, abs_i, lt_i, le_i, gt_i, ge_i, eq_self, ne_self, sorted_row, eq_rng, all_true, isN_d, notN_d, zipW_bag, zipW_t, ixt_0, ixt_1, ixt_2, ixl_0, ixl_1, e1, ix_row hi, e2, z_lpair C hw hw2, C.tt_back, e3]
theorem z_llaid {n m : Nat} (C : CS n) {w : Nat → Nat} (hm : m ≤ 1000) (h : ∀ k, k < m → w k < n) : p__law_laid (tab n C.r) (row m w) = pu (row m (C.laid w)) := by
  rw [pe__law_laid]
  unfold pb__law_laid
  simp -implicitDefEqProofs only [bd_pu, pu_run, bd_no, bd_rz, opt_some, opt_none, ner_pu, ite_t, ite_f, asBW_b, tst_b, andD_t, andD_f, orD_t, orD_f, notD_b, andB_t, andB_f, orB_t, orB_f, notB_b, lst_pu, optL_l, chain_t, chain_f, partW_i, rg1_i, rg2_i, par1_t, par2_t, par3_t, tup2_t, tup3_t, seq_p, seq_r, fin_r, fin_n, fin_z, finF_r, fin_bd, seq_bd, bd_bd, bd_eta, tst_bd, ite_bd, notB_bd, notD_bd, andB_bd, orB_bd, andD_bd, orD_bd, lst_bd, Bool.not_true, Bool.not_false, len_tab, len_row, len_bag, len_t, len_l, items_tab, items_row, items_bag, items_tup, items_lst, tuple_l, tuple_t, list_l, list_t, list_row, list_bag, sub_i, add_i, neg_i, abs_i, lt_i, le_i, gt_i, ge_i, eq_self, ne_self, sorted_row, eq_rng, all_true, isN_d, notN_d, zipW_bag, zipW_t, ixt_0, ixt_1, ixt_2, ixl_0, ixl_1, rgI_s (show m ≤ 16777216 by omega)]
  rw [comp_rng (by omega), compN_eq fun k => nI (C.laid w k)]
  · rfl
  · intro k hk
    exact z_lfront C hm hk h
theorem z_lahead {n m : Nat} (C : CS n) {w : Nat → Nat} (hn : n ≤ 60) (hm : m ≤ 900) (h : ∀ k, k < m → w k < n) : p__law_ahead (tab n C.r) (row m w) = pu (row n (C.tt w m).to) := by
  rw [pe__law_ahead]
  unfold pb__law_ahead
  simp -implicitDefEqProofs only [bd_pu, pu_run, bd_no, bd_rz, opt_some, opt_none, ner_pu, ite_t, ite_f, asBW_b, tst_b, andD_t, andD_f, orD_t, orD_f, notD_b, andB_t, andB_f, orB_t, orB_f, notB_b, lst_pu, optL_l, chain_t, chain_f, partW_i, rg1_i, rg2_i, par1_t, par2_t, par3_t, tup2_t, tup3_t, seq_p, seq_r, fin_r, fin_n, fin_z, finF_r, fin_bd, seq_bd, bd_bd, bd_eta, tst_bd, ite_bd, notB_bd, notD_bd, andB_bd, orB_bd, andD_bd, orD_bd, lst_bd, Bool.not_true, Bool.not_false, len_tab, len_row, len_bag, len_t, len_l, items_tab, items_row, items_bag, items_tup, items_lst, tuple_l, tuple_t, list_l, list_t, list_row, list_bag, sub_i, add_i, neg_i, abs_i, lt_i, le_i, gt_i, ge_i, eq_self, ne_self, sorted_row, eq_rng, all_true, isN_d, notN_d, zipW_bag, zipW_t, ixt_0, ixt_1, ixt_2, ixl_0, ixl_1, rgI_s (show n ≤ 16777216 by omega)]
  rw [comp_rng (by omega), compN_eq fun i => nI ((C.tt w m).to i)]
  · rfl
  · intro i hi
    simp -implicitDefEqProofs only [bd_pu, pu_run, bd_no, bd_rz, opt_some, opt_none, ner_pu, ite_t, ite_f, asBW_b, tst_b, andD_t, andD_f, orD_t, orD_f, notD_b, andB_t, andB_f, orB_t, orB_f, notB_b, lst_pu, optL_l, chain_t, chain_f, partW_i, rg1_i, rg2_i, par1_t, par2_t, par3_t, tup2_t, tup3_t, seq_p, seq_r, fin_r, fin_n, fin_z, finF_r, fin_bd, seq_bd, bd_bd, bd_eta, tst_bd, ite_bd, notB_bd, notD_bd, andB_bd, orB_bd, andD_bd, orD_bd, lst_bd, Bool.not_true, Bool.not_false, len_tab, len_row, len_bag, len_t, len_l, items_tab, items_row, items_bag, items_tup, items_lst, tuple_l, tuple_t, list_l, list_t, list_row, list_bag, sub_i, add_i, neg_i, abs_i, lt_i, le_i, gt_i, ge_i, eq_self, ne_self, sorted_row, eq_rng, all_true, isN_d, notN_d, zipW_bag, zipW_t, ixt_0, ixt_1, ixt_2, ixl_0, ixl_1, row_snoc (f := w) (v := i) (show m + 1 ≤ 16777216 by omega)]
    rw [z_lfront C (m := m + 1) (by omega) (by omega) (fun k hk => ?_)]
    · congr 2
      show (C.tt _ m).to _ = _
      rw [C.tt_congr (v := w) (fun i hi => if_pos hi), show (fun k => if k < m then w k else i) m = i from if_neg (Nat.lt_irrefl m)]
    · show (if k < m then w k else i) < n
      split
      · exact h k (by omega)
      · exact hi
theorem words_right {Q : D → Prop} {X : Ex → Prop} (hQ : Q (PyData.bool true)) : p__law_words_right Q X := by
  rw [pe__law_words_right]
  unfold pb__law_words_right
  simp -implicitDefEqProofs only [bd_pu, pu_run, bd_no, bd_rz, opt_some, opt_none, ner_pu, ite_t, ite_f, asBW_b, tst_b, andD_t, andD_f, orD_t, orD_f, notD_b, andB_t, andB_f, orB_t, orB_f, notB_b, lst_pu, optL_l, chain_t, chain_f, partW_i, rg1_i, rg2_i, par1_t, par2_t, par3_t, tup2_t, tup3_t, seq_p, seq_r, fin_r, fin_n, fin_z, finF_r, fin_bd, seq_bd, bd_bd, bd_eta, tst_bd, ite_bd, notB_bd, notD_bd, andB_bd, orB_bd, andD_bd, orD_bd, lst_bd, Bool.not_true, Bool.not_false, len_tab, len_row, len_bag, len_t, len_l, items_tab, items_row, items_bag, items_tup, items_lst, tuple_l, tuple_t, list_l, list_t, list_row, list_bag, sub_i, add_i, neg_i, abs_i, lt_i, le_i, gt_i, ge_i, eq_self, ne_self, sorted_row, eq_rng, all_true, isN_d, notN_d, zipW_bag, zipW_t, ixt_0, ixt_1, ixt_2, ixl_0, ixl_1]
  refine bd_go (zr_rows fun n C h1 h2 => ?_)
  have hn : n ≤ 16 := by omega
  simp -implicitDefEqProofs only [bd_pu, pu_run, bd_no, bd_rz, opt_some, opt_none, ner_pu, ite_t, ite_f, asBW_b, tst_b, andD_t, andD_f, orD_t, orD_f, notD_b, andB_t, andB_f, orB_t, orB_f, notB_b, lst_pu, optL_l, chain_t, chain_f, partW_i, rg1_i, rg2_i, par1_t, par2_t, par3_t, tup2_t, tup3_t, seq_p, seq_r, fin_r, fin_n, fin_z, finF_r, fin_bd, seq_bd, bd_bd, bd_eta, tst_bd, ite_bd, notB_bd, notD_bd, andB_bd, orB_bd, andD_bd, orD_bd, lst_bd, Bool.not_true, Bool.not_false, len_tab, len_row, len_bag, len_t, len_l, items_tab, items_row, items_bag, items_tup, items_lst, tuple_l, tuple_t, list_l, list_t, list_row, list_bag, sub_i, add_i, neg_i, abs_i, lt_i, le_i, gt_i, ge_i, eq_self, ne_self, sorted_row, eq_rng, all_true, isN_d, notN_d, zipW_bag, zipW_t, ixt_0, ixt_1, ixt_2, ixl_0, ixl_1]
  refine bd_go (zr_some (by decide) (by decide) fun d0 hd0 => ?_)
  obtain ⟨t0, ht1, ht2, rfl⟩ : ∃ f : Int, 0 ≤ f ∧ f ≤ 60 ∧ d0 = PyData.int f := by
    simp -implicitDefEqProofs only [List.mem_cons, List.not_mem_nil, or_false] at hd0
    rcases hd0 with h | h | h | h <;> exact ⟨_, by decide, by decide, h⟩
  refine bd_go (zr_lword h1 (by omega) ht1 (by omega) fun m w hm hw => ?_)
  have hm : m ≤ 60 := by omega
  have hlw : ∀ k, k < m → C.laid w k < n := fun k hk => C.laid_lt (hw k hk)
  simp -implicitDefEqProofs only [bd_pu, pu_run, bd_no, bd_rz, opt_some, opt_none, ner_pu, ite_t, ite_f, asBW_b, tst_b, andD_t, andD_f, orD_t, orD_f, notD_b, andB_t, andB_f, orB_t, orB_f, notB_b, lst_pu, optL_l, chain_t, chain_f, partW_i, rg1_i, rg2_i, par1_t, par2_t, par3_t, tup2_t, tup3_t, seq_p, seq_r, fin_r, fin_n, fin_z, finF_r, fin_bd, seq_bd, bd_bd, bd_eta, tst_bd, ite_bd, notB_bd, notD_bd, andB_bd, orB_bd, andD_bd, orD_bd, lst_bd, Bool.not_true, Bool.not_false, len_tab, len_row, len_bag, len_t, len_l, items_tab, items_row, items_bag, items_tup, items_lst, tuple_l, tuple_t, list_l, list_t, list_row, list_bag, sub_i, add_i, neg_i, abs_i, lt_i, le_i, gt_i, ge_i, eq_self, ne_self, sorted_row, eq_rng, all_true, isN_d, notN_d, zipW_bag, zipW_t, ixt_0, ixt_1, ixt_2, ixl_0, ixl_1, z_llaid C (show m ≤ 1000 by omega) hw, z_laid_row C h1 hn hm hw, z_word_laid C h1 hn hm hlw]
  rw [show C.wof (C.laid w) = w from funext (C.wof_laid w), z_like (like_list2 (like_row (by omega)) (like_row (by omega)))]
  have c1 : (m : Int) + 1 = ((m + 1 : Nat) : Int) := by omega
  simp -implicitDefEqProofs only [bd_pu, pu_run, bd_no, bd_rz, opt_some, opt_none, ner_pu, ite_t, ite_f, asBW_b, tst_b, andD_t, andD_f, orD_t, orD_f, notD_b, andB_t, andB_f, orB_t, orB_f, notB_b, lst_pu, optL_l, chain_t, chain_f, partW_i, rg1_i, rg2_i, par1_t, par2_t, par3_t, tup2_t, tup3_t, seq_p, seq_r, fin_r, fin_n, fin_z, finF_r, fin_bd, seq_bd, bd_bd, bd_eta, tst_bd, ite_bd, notB_bd, notD_bd, andB_bd, orB_bd, andD_bd, orD_bd, lst_bd, Bool.not_true, Bool.not_false, len_tab, len_row, len_bag, len_t, len_l, items_tab, items_row, items_bag, items_tup, items_lst, tuple_l, tuple_t, list_l, list_t, list_row, list_bag, sub_i, add_i, neg_i, abs_i, lt_i, le_i, gt_i, ge_i, eq_self, ne_self, sorted_row, eq_rng, all_true, isN_d, notN_d, zipW_bag, zipW_t, ixt_0, ixt_1, ixt_2, ixl_0, ixl_1, c1, rgI_s (show m + 1 ≤ 16777216 by omega)]
  rw [comp_rng (by omega), compN_eq fun k => row n (C.tt w k).to]
  rotate_left
  · intro k hk
    simp -implicitDefEqProofs only [bd_pu, pu_run, bd_no, bd_rz, opt_some, opt_none, ner_pu, ite_t, ite_f, asBW_b, tst_b, andD_t, andD_f, orD_t, orD_f, notD_b, andB_t, andB_f, orB_t, orB_f, notB_b, lst_pu, optL_l, chain_t, chain_f, partW_i, rg1_i, rg2_i, par1_t, par2_t, par3_t, tup2_t, tup3_t, seq_p, seq_r, fin_r, fin_n, fin_z, finF_r, fin_bd, seq_bd, bd_bd, bd_eta, tst_bd, ite_bd, notB_bd, notD_bd, andB_bd, orB_bd, andD_bd, orD_bd, lst_bd, Bool.not_true, Bool.not_false, len_tab, len_row, len_bag, len_t, len_l, items_tab, items_row, items_bag, items_tup, items_lst, tuple_l, tuple_t, list_l, list_t, list_row, list_bag, sub_i, add_i, neg_i, abs_i, lt_i, le_i, gt_i, ge_i, eq_self, ne_self, sorted_row, eq_rng, all_true, isN_d, notN_d, zipW_bag, zipW_t, ixt_0, ixt_1, ixt_2, ixl_0, ixl_1, sl_row (f := w) (show k ≤ m by omega)]
    exact z_lahead C (by omega) (by omega) fun i hi => hw i (by omega)
  simp -implicitDefEqProofs only [bd_pu, pu_run, bd_no, bd_rz, opt_some, opt_none, ner_pu, ite_t, ite_f, asBW_b, tst_b, andD_t, andD_f, orD_t, orD_f, notD_b, andB_t, andB_f, orB_t, orB_f, notB_b, lst_pu, optL_l, chain_t, chain_f, partW_i, rg1_i, rg2_i, par1_t, par2_t, par3_t, tup2_t, tup3_t, seq_p, seq_r, fin_r, fin_n, fin_z, finF_r, fin_bd, seq_bd, bd_bd, bd_eta, tst_bd, ite_bd, notB_bd, notD_bd, andB_bd, orB_bd, andD_bd, orD_bd, lst_bd, Bool.not_true, Bool.not_false, len_tab, len_row, len_bag, len_t, len_l, items_tab, items_row, items_bag, items_tup, items_lst, tuple_l, tuple_t, list_l, list_t, list_row, list_bag, sub_i, add_i, neg_i, abs_i, lt_i, le_i, gt_i, ge_i, eq_self, ne_self, sorted_row, eq_rng, all_true, isN_d, notN_d, zipW_bag, zipW_t, ixt_0, ixt_1, ixt_2, ixl_0, ixl_1, z_turns_along C h1 hn hm hw]
  rw [z_like (likeN_tuple (by rw [sq_len]; omega) fun x hx => by
    obtain ⟨i, _, rfl⟩ := mem_sq.mp hx
    exact like_row (k := 9) (by omega))]
  simp -implicitDefEqProofs only [bd_pu, pu_run, bd_no, bd_rz, opt_some, opt_none, ner_pu, ite_t, ite_f, asBW_b, tst_b, andD_t, andD_f, orD_t, orD_f, notD_b, andB_t, andB_f, orB_t, orB_f, notB_b, lst_pu, optL_l, chain_t, chain_f, partW_i, rg1_i, rg2_i, par1_t, par2_t, par3_t, tup2_t, tup3_t, seq_p, seq_r, fin_r, fin_n, fin_z, finF_r, fin_bd, seq_bd, bd_bd, bd_eta, tst_bd, ite_bd, notB_bd, notD_bd, andB_bd, orB_bd, andD_bd, orD_bd, lst_bd, Bool.not_true, Bool.not_false, len_tab, len_row, len_bag, len_t, len_l, items_tab, items_row, items_bag, items_tup, items_lst, tuple_l, tuple_t, list_l, list_t, list_row, list_bag, sub_i, add_i, neg_i, abs_i, lt_i, le_i, gt_i, ge_i, eq_self, ne_self, sorted_row, eq_rng, all_true, isN_d, notN_d, zipW_bag, zipW_t, ixt_0, ixt_1, ixt_2, ixl_0, ixl_1]
  refine bd_go (zr_some (by decide) (by decide) fun d2 hd2 => ?_)
  obtain ⟨t2, ht3, ht4, rfl⟩ : ∃ f : Int, 0 ≤ f ∧ f ≤ 60 ∧ d2 = PyData.int f := by
    simp -implicitDefEqProofs only [List.mem_cons, List.not_mem_nil, or_false] at hd2
    rcases hd2 with h | h | h | h <;> exact ⟨_, by decide, by decide, h⟩
  refine bd_go (zr_lword h1 (by omega) ht3 (by omega) fun m2 l hm2 hl => ?_)
  have hm2 : m2 ≤ 60 := by omega
  have hwl : ∀ k, k < m2 → C.wof l k < n := fun k hk => C.wof_lt (hl k hk)
  have hs : p__law_sort (row m2 (C.wof l)) = pu (PyData.int 4) := z_sort _ rfl
  simp -implicitDefEqProofs only [bd_pu, pu_run, bd_no, bd_rz, opt_some, opt_none, ner_pu, ite_t, ite_f, asBW_b, tst_b, andD_t, andD_f, orD_t, orD_f, notD_b, andB_t, andB_f, orB_t, orB_f, notB_b, lst_pu, optL_l, chain_t, chain_f, partW_i, rg1_i, rg2_i, par1_t, par2_t, par3_t, tup2_t, tup3_t, seq_p, seq_r, fin_r, fin_n, fin_z, finF_r, fin_bd, seq_bd, bd_bd, bd_eta, tst_bd, ite_bd, notB_bd, notD_bd, andB_bd, orB_bd, andD_bd, orD_bd, lst_bd, Bool.not_true, Bool.not_false, len_tab, len_row, len_bag, len_t, len_l, items_tab, items_row, items_bag, items_tup, items_lst, tuple_l, tuple_t, list_l, list_t, list_row, list_bag, sub_i, add_i, neg_i, abs_i, lt_i, le_i, gt_i, ge_i, eq_self, ne_self, sorted_row, eq_rng, all_true, isN_d, notN_d, zipW_bag, zipW_t, ixt_0, ixt_1, ixt_2, ixl_0, ixl_1, z_word_laid C h1 hn hm2 hl, hs, z_laid_row C h1 hn hm2 hwl]
  rw [show C.laid (C.wof l) = l from funext (C.laid_wof l), z_like (like_row (by omega))]
  simp -implicitDefEqProofs only [bd_pu, pu_run, bd_no, bd_rz, opt_some, opt_none, ner_pu, ite_t, ite_f, asBW_b, tst_b, andD_t, andD_f, orD_t, orD_f, notD_b, andB_t, andB_f, orB_t, orB_f, notB_b, lst_pu, optL_l, chain_t, chain_f, partW_i, rg1_i, rg2_i, par1_t, par2_t, par3_t, tup2_t, tup3_t, seq_p, seq_r, fin_r, fin_n, fin_z, finF_r, fin_bd, seq_bd, bd_bd, bd_eta, tst_bd, ite_bd, notB_bd, notD_bd, andB_bd, orB_bd, andD_bd, orD_bd, lst_bd, Bool.not_true, Bool.not_false, len_tab, len_row, len_bag, len_t, len_l, items_tab, items_row, items_bag, items_tup, items_lst, tuple_l, tuple_t, list_l, list_t, list_row, list_bag, sub_i, add_i, neg_i, abs_i, lt_i, le_i, gt_i, ge_i, eq_self, ne_self, sorted_row, eq_rng, all_true, isN_d, notN_d, zipW_bag, zipW_t, ixt_0, ixt_1, ixt_2, ixl_0, ixl_1]
  rw [filt_sq (fun _ => false) (fun _ => PyData.int 1) (by omega) (fun i hi => ?_)]
  rotate_left
  · have hs : p__law_sort (nI (C.wof l i)) = pu (PyData.int 2) := z_sort _ rfl
    have := hwl i hi
    simp -implicitDefEqProofs only [bd_pu, pu_run, bd_no, bd_rz, opt_some, opt_none, ner_pu, ite_t, ite_f, asBW_b, tst_b, andD_t, andD_f, orD_t, orD_f, notD_b, andB_t, andB_f, orB_t, orB_f, notB_b, lst_pu, optL_l, chain_t, chain_f, partW_i, rg1_i, rg2_i, par1_t, par2_t, par3_t, tup2_t, tup3_t, seq_p, seq_r, fin_r, fin_n, fin_z, finF_r, fin_bd, seq_bd, bd_bd, bd_eta, tst_bd, ite_bd, notB_bd, notD_bd, andB_bd, orB_bd, andD_bd, orD_bd, lst_bd, Bool.not_true, Bool.not_false, len_tab, len_row, len_bag, len_t, len_l, items_tab, items_row, items_bag, items_tup, items_lst, tuple_l, tuple_t, list_l, list_t, list_row, list_bag, sub_i, add_i, neg_i, abs_i, lt_i, le_i, gt_i, ge_i, eq_self, ne_self, sorted_row, eq_rng, all_true, isN_d, notN_d, zipW_bag, zipW_t, ixt_0, ixt_1, ixt_2, ixl_0, ixl_1, hs, decide_eq_true (show (0 : Int) ≤ (C.wof l i : Int) by omega), decide_eq_true (show (C.wof l i : Int) < (n : Int) by omega)]
    rfl
  rw [show (List.map (fun _ => PyData.int 1) ((List.range m2).filter fun _ => false)) = [] by simp]
  simp -implicitDefEqProofs only [bd_pu, pu_run, bd_no, bd_rz, opt_some, opt_none, ner_pu, ite_t, ite_f, asBW_b, tst_b, andD_t, andD_f, orD_t, orD_f, notD_b, andB_t, andB_f, orB_t, orB_f, notB_b, lst_pu, optL_l, chain_t, chain_f, partW_i, rg1_i, rg2_i, par1_t, par2_t, par3_t, tup2_t, tup3_t, seq_p, seq_r, fin_r, fin_n, fin_z, finF_r, fin_bd, seq_bd, bd_bd, bd_eta, tst_bd, ite_bd, notB_bd, notD_bd, andB_bd, orB_bd, andD_bd, orD_bd, lst_bd, Bool.not_true, Bool.not_false, len_tab, len_row, len_bag, len_t, len_l, items_tab, items_row, items_bag, items_tup, items_lst, tuple_l, tuple_t, list_l, list_t, list_row, list_bag, sub_i, add_i, neg_i, abs_i, lt_i, le_i, gt_i, ge_i, eq_self, ne_self, sorted_row, eq_rng, all_true, isN_d, notN_d, zipW_bag, zipW_t, ixt_0, ixt_1, ixt_2, ixl_0, ixl_1, neL_nil, z_llaid C (show m2 ≤ 1000 by omega) hwl]
  rw [show C.laid (C.wof l) = l from funext (C.laid_wof l), z_like (like_row (by omega))]
  simp -implicitDefEqProofs only [bd_pu, pu_run, bd_no, bd_rz, opt_some, opt_none, ner_pu, ite_t, ite_f, asBW_b, tst_b, andD_t, andD_f, orD_t, orD_f, notD_b, andB_t, andB_f, orB_t, orB_f, notB_b, lst_pu, optL_l, chain_t, chain_f, partW_i, rg1_i, rg2_i, par1_t, par2_t, par3_t, tup2_t, tup3_t, seq_p, seq_r, fin_r, fin_n, fin_z, finF_r, fin_bd, seq_bd, bd_bd, bd_eta, tst_bd, ite_bd, notB_bd, notD_bd, andB_bd, orB_bd, andD_bd, orD_bd, lst_bd, Bool.not_true, Bool.not_false, len_tab, len_row, len_bag, len_t, len_l, items_tab, items_row, items_bag, items_tup, items_lst, tuple_l, tuple_t, list_l, list_t, list_row, list_bag, sub_i, add_i, neg_i, abs_i, lt_i, le_i, gt_i, ge_i, eq_self, ne_self, sorted_row, eq_rng, all_true, isN_d, notN_d, zipW_bag, zipW_t, ixt_0, ixt_1, ixt_2, ixl_0, ixl_1]
  refine bd_go (zr_roll (by omega) (by omega) fun x hx => ?_)
  have hx : x < n := by omega
  refine bd_go (zr_some (by decide) (by decide) fun d3 hd3 => ?_)
  obtain ⟨m3, hm3, rfl⟩ : ∃ f : Nat, f ≤ 60 ∧ d3 = nI f := by
    simp -implicitDefEqProofs only [List.mem_cons, List.not_mem_nil, or_false] at hd3
    rcases hd3 with h | h | h | h | h
    · exact ⟨0, by decide, h⟩
    · exact ⟨1, by decide, h⟩
    · exact ⟨3, by decide, h⟩
    · exact ⟨9, by decide, h⟩
    · exact ⟨60, by decide, h⟩
  simp -implicitDefEqProofs only [bd_pu, pu_run, bd_no, bd_rz, opt_some, opt_none, ner_pu, ite_t, ite_f, asBW_b, tst_b, andD_t, andD_f, orD_t, orD_f, notD_b, andB_t, andB_f, orB_t, orB_f, notB_b, lst_pu, optL_l, chain_t, chain_f, partW_i, rg1_i, rg2_i, par1_t, par2_t, par3_t, tup2_t, tup3_t, seq_p, seq_r, fin_r, fin_n, fin_z, finF_r, fin_bd, seq_bd, bd_bd, bd_eta, tst_bd, ite_bd, notB_bd, notD_bd, andB_bd, orB_bd, andD_bd, orD_bd, lst_bd, Bool.not_true, Bool.not_false, len_tab, len_row, len_bag, len_t, len_l, items_tab, items_row, items_bag, items_tup, items_lst, tuple_l, tuple_t, list_l, list_t, list_row, list_bag, sub_i, add_i, neg_i, abs_i, lt_i, le_i, gt_i, ge_i, eq_self, ne_self, sorted_row, eq_rng, all_true, isN_d, notN_d, zipW_bag, zipW_t, ixt_0, ixt_1, ixt_2, ixl_0, ixl_1, rgI_s (show m3 ≤ 16777216 by omega)]
  let S : Nat → D × D := fun k => (PyData.list (sq k fun i => nI (C.sqs x i)), nI (C.sqs x k))
  rw [show ((PyData.list []), nI x) = S 0 from rfl, for_rng S]
  rotate_left
  · intro k hk
    have hsk := C.sqs_lt hx k
    simp -implicitDefEqProofs only [S, bd_pu, pu_run, bd_no, bd_rz, opt_some, opt_none, ner_pu, ite_t, ite_f, asBW_b, tst_b, andD_t, andD_f, orD_t, orD_f, notD_b, andB_t, andB_f, orB_t, orB_f, notB_b, lst_pu, optL_l, chain_t, chain_f, partW_i, rg1_i, rg2_i, par1_t, par2_t, par3_t, tup2_t, tup3_t, seq_p, seq_r, fin_r, fin_n, fin_z, finF_r, fin_bd, seq_bd, bd_bd, bd_eta, tst_bd, ite_bd, notB_bd, notD_bd, andB_bd, orB_bd, andD_bd, orD_bd, lst_bd, Bool.not_true, Bool.not_false, len_tab, len_row, len_bag, len_t, len_l, items_tab, items_row, items_bag, items_tup, items_lst, tuple_l, tuple_t, list_l, list_t, list_row, list_bag, sub_i, add_i, neg_i, abs_i, lt_i, le_i, gt_i, ge_i, eq_self, ne_self, sorted_row, eq_rng, all_true, isN_d, notN_d, zipW_bag, zipW_t, ixt_0, ixt_1, ixt_2, ixl_0, ixl_1, ix_tab hsk, ix_row hsk]
    rw [f_addL (le_sz (by rw [sq_len]; show k + 1 ≤ _; omega)), ← sq_succ]
    rfl
  have hsq : ∀ k, k < m3 → C.sqs x k < n := fun k _ => C.sqs_lt hx k
  simp -implicitDefEqProofs only [S, bd_pu, pu_run, bd_no, bd_rz, opt_some, opt_none, ner_pu, ite_t, ite_f, asBW_b, tst_b, andD_t, andD_f, orD_t, orD_f, notD_b, andB_t, andB_f, orB_t, orB_f, notB_b, lst_pu, optL_l, chain_t, chain_f, partW_i, rg1_i, rg2_i, par1_t, par2_t, par3_t, tup2_t, tup3_t, seq_p, seq_r, fin_r, fin_n, fin_z, finF_r, fin_bd, seq_bd, bd_bd, bd_eta, tst_bd, ite_bd, notB_bd, notD_bd, andB_bd, orB_bd, andD_bd, orD_bd, lst_bd, Bool.not_true, Bool.not_false, len_tab, len_row, len_bag, len_t, len_l, items_tab, items_row, items_bag, items_tup, items_lst, tuple_l, tuple_t, list_l, list_t, list_row, list_bag, sub_i, add_i, neg_i, abs_i, lt_i, le_i, gt_i, ge_i, eq_self, ne_self, sorted_row, eq_rng, all_true, isN_d, notN_d, zipW_bag, zipW_t, ixt_0, ixt_1, ixt_2, ixl_0, ixl_1, z_frozen C h1 hn hm3 hx, mul_t1 (d := nI x) (show m3 ≤ 1000 by omega)]
  rw [show PyData.tuple (sq m3 fun i => nI (C.sqs x i)) = row m3 (C.sqs x) from rfl, show PyData.tuple (sq m3 fun _ => nI x) = row m3 fun _ => x from rfl]
  simp -implicitDefEqProofs only [z_laid_row C h1 hn hm3 hsq, bd_pu, pu_run, bd_no, bd_rz, opt_some, opt_none, ner_pu, ite_t, ite_f, asBW_b, tst_b, andD_t, andD_f, orD_t, orD_f, notD_b, andB_t, andB_f, orB_t, orB_f, notB_b, lst_pu, optL_l, chain_t, chain_f, partW_i, rg1_i, rg2_i, par1_t, par2_t, par3_t, tup2_t, tup3_t, seq_p, seq_r, fin_r, fin_n, fin_z, finF_r, fin_bd, seq_bd, bd_bd, bd_eta, tst_bd, ite_bd, notB_bd, notD_bd, andB_bd, orB_bd, andD_bd, orD_bd, lst_bd, Bool.not_true, Bool.not_false, len_tab, len_row, len_bag, len_t, len_l, items_tab, items_row, items_bag, items_tup, items_lst, tuple_l, tuple_t, list_l, list_t, list_row, list_bag, sub_i, add_i, neg_i, abs_i, lt_i, le_i, gt_i, ge_i, eq_self, ne_self, sorted_row, eq_rng, all_true, isN_d, notN_d, zipW_bag, zipW_t, ixt_0, ixt_1, ixt_2, ixl_0, ixl_1]
  rw [show C.laid (C.sqs x) = fun _ => x from funext (C.laid_sqs x), z_like (like_list2 (like_row (by omega)) (like_row (by omega)))]
  exact hQ
theorem law_p : p_law (fun d => d = PyData.bool true) noX := by
  unfold p_law pb_law p__law_limits_right
  simp -implicitDefEqProofs only [bd_pu, pu_run, bd_no, bd_rz, opt_some, opt_none, ner_pu, ite_t, ite_f, asBW_b, tst_b, andD_t, andD_f, orD_t, orD_f, notD_b, andB_t, andB_f, orB_t, orB_f, notB_b, lst_pu, optL_l, chain_t, chain_f, partW_i, rg1_i, rg2_i, par1_t, par2_t, par3_t, tup2_t, tup3_t, seq_p, seq_r, fin_r, fin_n, fin_z, finF_r, fin_bd, seq_bd, bd_bd, bd_eta, tst_bd, ite_bd, notB_bd, notD_bd, andB_bd, orB_bd, andD_bd, orD_bd, lst_bd, Bool.not_true, Bool.not_false, len_tab, len_row, len_bag, len_t, len_l, items_tab, items_row, items_bag, items_tup, items_lst, tuple_l, tuple_t, list_l, list_t, list_row, list_bag, sub_i, add_i, neg_i, abs_i, lt_i, le_i, gt_i, ge_i, eq_self, ne_self, sorted_row, eq_rng, all_true, isN_d, notN_d, zipW_bag, zipW_t, ixt_0, ixt_1, ixt_2, ixl_0, ixl_1, show rgI (0, 6) = pu (rng 6) from rgI_s (n := 6) (by decide)]
  refine loop_fin (fun _ _ => True) trivial (fun i s Q' hi _ hq => ?_) fun _ _ => ?_
  · refine words_right ?_
    exact hq _ trivial
  · exact rfl
theorem law_true (ns : List Int) (hl : ns.length ≤ 63) (h2 : ∀ z ∈ ns, PySem.Builtin.Int.intBits z ≤ 1048576) : ∃ ρ', m_law [SV.pl (PyData.list (ns.map PyData.int))] = .ok (.rt (PyData.bool true)) ρ' := law_true_of law_p ns hl h2
end SW
set_option Elab.async false
set_option linter.all false
set_option maxRecDepth 100000
set_option maxHeartbeats 0
open PySem PySem.W PySem.Calls PyProof.Rows
theorem PySem.Challenge.cw_swapsagree_k15_whole_laid_rows_holds : PySem.Challenge.rw_swapsagree_k15_whole_laid_rows.Holds := by
  w_on; o_law
  refine HandSHeadRun.head_any (r := OpenLaw.row PySem.Challenge.rw_swapsagree_k15_whole_laid_rows) (q := view (OpenLaw.row PySem.Challenge.rw_swapsagree_k15_whole_laid_rows).prog [53]) (H := SW.hk) (ob := SW.ob) (M := 20000) (loose := SW.loose) (d := HandSHeadRun.topDef (OpenLaw.row PySem.Challenge.rw_swapsagree_k15_whole_laid_rows).prog 53) (kwd := []) SW.ob_eq
    (by kernel_rfl) (fun s => by kernel_rfl) SW.run (by kernel_rfl) (by kernel_rfl) (by kernel_rfl) (by rfl) (by first | assumption | decide +kernel) (by decide +kernel) ⟨rfl, rfl, rfl, rfl, rfl, by decide +kernel⟩ ?hw ?hc
  case hw => w_witness2
  case hc =>
    refine LamX.walk_ofTsE (l := PySem.Challenge.rw_swapsagree_k15_whole_laid_rows) (n := 63) (k := 16) (x := "script") (CX := fun w => L2N.CX (PySem.Challenge.rw_swapsagree_k15_whole_laid_rows).prog w) rfl (by decide) (by kernel_rfl) ⟨rfl, by decide, by decide⟩ ?F (fun w => SW.hCX)
    intro w mg fa h Y G hmg0
    obtain ⟨K, KX, c⟩ := Y
    have hmg : mg ("law" : PySem.Str) = some (.ref fa) := by
      have e : (HandSHeadRun.topDef (OpenLaw.row PySem.Challenge.rw_swapsagree_k15_whole_laid_rows).prog 53).name = ("law" : PySem.Str) := by kernel_rfl
      rw [← e]
      exact hmg0
    exact ⟨K, KX, SW.law_at KX G c SW.exB1 SW.exB2 hmg 39 39 rfl rfl (fun _ _ _ _ _ _ us hl => match us, hl with | [_], _ => rfl) (N := SW.N_law) (m := SW.m_law) (by decide) (fun base fx ct => SW.ok_all fx ct) SW.law_true⟩
