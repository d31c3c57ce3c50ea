import PyProof.Rows.All
import Wide.All
import OpenK.AllK
import Wide.FinOn
import HandS.TupSets
import HandS.DictComp
import KE.KDictPairs
import HandS.Words
import HandS.ForMost
import HandS.Star
import HandS.Walk
import HandS.Zip
import HandS.TupAny
import HandS.IsInst
import HandS.Property
import HandS.Deep
import HandS.Strs
import HandS.Conv
import HandS.TupMul
import KE.GoesEnumKw
import HandS.SortKw
import KE.GoesMore
import KE.KUnpackStar
import KE.SortData
import HandS.Comp
import HandS.SetBool
import HandS.GenList
import HandS.GenBody
import HandS.GenYield
import PyProof.TupleOfGen
import PySem.Challenge.RW_ownrights_k40_whole_families
set_option Elab.async false
set_option linter.all false
set_option maxRecDepth 100000
set_option maxHeartbeats 8000000
/-! Dicts whose keys are tuples of ints and whose values are all True: the object without the tuples themselves. -/
namespace HS
open PySem PySem.Spec PyProof.Rows L2
abbrev entB (p : Addr × List Int) : List Int × Addr × Value := (p.2, p.1, Value.bool true)
structure KeyT (P : Program) (w : World) (h : Heap) (a : Addr) (Ls : List (Addr × List Int)) : Prop where
  ex : ∃ o es ep, h.get? a = some o ∧ o.ExactDict ∧ o.data = .dict es ep ∧ es.toList = (Ls.map entB).map (entryOfKey (TK P w)) ∧ (Ls.map (·.2)).Nodup ∧ (a == sysModules) = false
def KeyO (P : Program) (w : World) (a : Addr) (Ls : List (Addr × List Int)) : HO := .ext fun h => KeyT P w h a Ls
variable {P : Program} {w : World}
theorem keyO_new {H : Hp} {h : Heap} {a : Addr} {Ls : List (Addr × List Int)} (R : KeyT P w h a Ls) : ObjOk P w H h a (KeyO P w a Ls) := by
  have ⟨o, es, ep, ho, _⟩ := R.ex
  refine ⟨R, ⟨o, ho⟩, fun h1 h2 p k => ?_⟩
  have ⟨o', es', ep', ho', r'⟩ := KeyT.ex p
  exact ⟨o', es', ep', k o' ho', r'⟩
theorem keyT_empty (h : Heap) (hb : sysModules < h.objs.size) : KeyT P w (h.push { cls := .type "dict", data := .dict #[] }) h.objs.size [] :=
  ⟨_, #[], 0, Heap.get?_push_size _ rfl, ⟨rfl, rfl, rfl⟩, rfl, rfl, List.nodup_nil, beq_eq_false_iff_ne.mpr (Ne.symm (Nat.ne_of_lt hb))⟩
theorem keys_map (Ls : List (Addr × List Int)) : (Ls.map entB).map (·.1) = Ls.map (·.2) := by rw [List.map_map]; rfl
theorem KeyT.dict {h : Heap} {a : Addr} {Ls : List (Addr × List Int)} (R : KeyT P w h a Ls) (ht : ∀ p ∈ Ls, IsT P w h p.2 p.1) : (a == sysModules) = false ∧ h.DictOfH (TK P w) a (Ls.map entB) := by
  obtain ⟨o, es, ep, h1, h2, h3, h4, h5, h6⟩ := R.ex
  refine ⟨h6, o, es, ep, h1, h2, h3, h4, fun x hx => ?_, by rw [keys_map]; exact h5⟩
  obtain ⟨p, hp, rfl⟩ := List.mem_map.mp hx
  exact ht p hp
theorem KeyT.of {h : Heap} {a : Addr} {Ls : List (Addr × List Int)} (d : h.DictOfH (TK P w) a (Ls.map entB)) (hd : (a == sysModules) = false) : KeyT P w h a Ls := by
  obtain ⟨o, es, ep, h1, h2, h3, h4, h5, h6⟩ := d
  exact ⟨o, es, ep, h1, h2, h3, h4, by rw [← keys_map]; exact h6, hd⟩
theorem at_ent (Ls : List (Addr × List Int)) (k : List Int) : (atKey (Ls.map entB) k).isSome = decide (k ∈ Ls.map (·.2)) := by
  induction Ls with
  | nil => rfl
  | cons p r ih =>
    unfold atKey at ih ⊢
    rw [List.map_cons, List.map_cons, List.find?_cons]
    by_cases e : p.2 = k
    · have e2 : decide ((entB p).1 = k) = true := decide_eq_true e
      rw [e2]
      simp [e]
    · have e2 : decide ((entB p).1 = k) = false := decide_eq_false e
      rw [e2]
      show (((r.map entB).find? fun x => decide (x.1 = k)).map (·.2)).isSome = _
      rw [ih]
      exact decide_eq_decide.mpr ⟨.tail _, fun m => (List.mem_cons.mp m).elim (fun z => absurd z.symm e) id⟩
theorem stored_same {Ls : List (Addr × List Int)} {k : List Int} {b : Addr} (h : k ∈ Ls.map (·.2)) : storedH (Ls.map entB) k b (.bool true) = Ls.map entB := by
  have e := at_ent Ls k
  rw [decide_eq_true h] at e
  obtain ⟨p, hp⟩ := Option.isSome_iff_exists.mp e
  rw [storedH_old hp, List.map_map]
  refine List.map_congr_left fun q _ => ?_
  show putAt k (.bool true) (entB q) = entB q
  unfold putAt
  split <;> rfl
theorem stored_more {Ls : List (Addr × List Int)} {k : List Int} {b : Addr} (h : k ∉ Ls.map (·.2)) : storedH (Ls.map entB) k b (.bool true) = (Ls ++ [(b, k)]).map entB := by
  have e := at_ent Ls k
  rw [decide_eq_false h] at e
  rw [storedH_new (Option.not_isSome_iff_eq_none.mp (by rw [e]; simp)), List.map_append] <;> rfl
section
variable {X : Cx} {pins : List (Addr × Obj)} {σ : L2.St} {H : Hp} {s : Shared}
theorem d_in (I : Inv X pins σ H s) {a : Addr} {Ls : List (Addr × List Int)} (ha : H a = some (KeyO X.prog X.w a Ls)) (hL : ∀ p ∈ Ls, SqT X.K H p.1 (p.2.map V.int)) : (a == sysModules) = false ∧ s.heap.DictOfH (TK X.prog X.w) a (Ls.map entB) :=
  KeyT.dict (I.hok a _ ha).1 fun p hp => I.isT (hL p hp)
/-- d[k] = True within a comprehension -/
theorem dset_ok {E : Value → Shared → Prop} {D b : Addr} {k : List Int} {Ls : List (Addr × List Int)} {u r : Value} {Q : Unit → Shared → Prop} (I : Inv X pins σ H s) (hu : X.A.units + 64 < cLine) (hD : H D = some (KeyO X.prog X.w D Ls)) (hL : ∀ p ∈ Ls, SqT X.K H p.1 (p.2.map V.int)) (hb : SqT X.K H b (k.map V.int)) (ru : RelV (.ref b) u) (rr : RelV (.bl true) r) (few : Ls.length ≤ 1000)
    (h : ∀ s' L', (k ∈ Ls.map (·.2) → L' = Ls) → (k ∉ Ls.map (·.2) → L' = Ls ++ [(b, k)]) → Inv X pins σ (upd H D (KeyO X.prog X.w D L')) s' → Q () s') : wpAny (model X.prog X.w) X.A (dictSet D u r) Q E s := by
  obtain ⟨hd, dd⟩ := d_in I hD hL
  cases ru
  cases rr
  refine wpAny_dictSet_heap (knd := TK X.prog X.w) (by show X.A.units < cLine; omega) (I.isT hb) dd (fun h' d' sb => ?_) (by rw [List.length_map]; exact Nat.le_of_lt (small1000 few))
  have put : ∀ L', storedH (Ls.map entB) k b (.bool true) = L'.map entB → Inv X pins σ (upd H D (KeyO X.prog X.w D L')) { s with heap := h', toks := s.toks + (TK X.prog X.w).draws k } := fun L' e => by
    rw [e] at d'
    obtain ⟨o, es, ep, ho, _⟩ := id d'
    exact I.write (e := D) (by rw [hD]; trivial) (.inl rfl) (fun c u hc hu => (sb.2 c hc).trans hu) ⟨o, ho⟩ (keyO_new (.of d' hd))
  by_cases hm : k ∈ Ls.map (·.2)
  · exact h _ Ls (fun _ => rfl) (fun z => absurd hm z) (put Ls (stored_same hm))
  · exact h _ _ (fun z => absurd z hm) (fun _ => rfl) (put _ (stored_more hm))

/-! ### {k: True for target in iter} -/
def tDcT (P : Program) (w : World) (K : PySem.W.Frag) (wi : TI) (g : TG) (tk tv : TE) (vs : List Nat) : TE := fun σ H Q => wi σ H fun J H1 => ∀ D, H1 D = none → ∃ W : Nat → Nat → Hp → Prop, (∃ m, W 0 m (upd H1 D (KeyO P w D []))) ∧ ∀ i m H, W i m H →
  (J.stop i H ∧ Q (.ref D) H) ∨ (J.go i H ∧ ∃ Nx : Hp → Prop, (∀ H', Nx H' → ∃ m', m' < m ∧ W (i + 1) m' H') ∧ ∀ x H', J.yld i H x H' → g x (wipe σ vs) H' fun σ2 H2 => wipe σ2 vs = wipe σ vs ∧ tk σ2 H2 fun y H4 => tv σ2 H4 fun z H5 =>
    ∃ Ls b k, y = .ref b ∧ z = .bl true ∧ H5 D = some (KeyO P w D Ls) ∧ SqT K H5 b (k.map V.int) ∧ (∀ p ∈ Ls, SqT K H5 p.1 (p.2.map V.int)) ∧ Ls.length ≤ 1000 ∧ ∀ L', (k ∈ Ls.map (·.2) → L' = Ls) → (k ∉ Ls.map (·.2) → L' = Ls ++ [(b, k)]) → Nx (upd H5 D (KeyO P w D L')))
theorem dcT_core {Q : VK} {kx vx tg iter : Expr} {scope : Scope} {own : List (Str × Nat)} {pos pos' : Pos} {wi : TI} {g : TG} {tk tv : TE} {use : Option (Value → Sem Unit)} {Qf : Value → Shared → Prop}
    (hu : X.A.units + 64 < cLine) (hc : X.calm = true) (hN : X.N.Nodup) (I : Inv X pins σ H s) (hi : PI X tg iter wi) (ok : BlkOk X.N X.env.scope scope own)
    (hg : ∀ (s : Shared) (H : Hp) (C : Addr) (cl : List (Str × Addr)) (fp : List Addr), PG (X.blk s H scope (compEnvC scope cl C X.env) fp) tg g)
    (hk : ∀ (s : Shared) (H : Hp) (C : Addr) (cl : List (Str × Addr)) (fp : List Addr), PE (X.blk s H scope (compEnvC scope cl C X.env) fp) kx tk)
    (he : ∀ (s : Shared) (H : Hp) (C : Addr) (cl : List (Str × Addr)) (fp : List Addr), PE (X.blk s H scope (compEnvC scope cl C X.env) fp) vx tv) (hs : ∀ x, foldedSetIterable iter X.env x = pure x)
    (h : tDcT X.prog X.w X.K wi g tk tv (own.map (·.2)) σ H Q)
    (hRR : ∀ D C s' m H', Inv X pins σ H' s' → Q (.ref D) H' → s'.heap.Ns C m → FpOk X pins H' C → compPost (model X.prog X.w) X.A X.xe use Qf (.ref D) C (.ok .next) s') :
    wpAny (model X.prog X.w) X.A (comprehension (.DictComp kx vx [⟨tg, iter, [], 0⟩] scope pos) scope X.env pos' newDict false (eval iter X.env) use) Qf X.xe s := by
  have hfree : ∀ y ∈ scope.names, y.2 = .free → ∃ c, X.env.cells.lookup y.1 = some c := fun y hy e => (ok.free y hy e).elim (fun k => I.ok.has _ (.inl k)) fun k => I.ok.has _ (.inr k)
  refine wpAny_comprehension_free (use := use) rfl hs (closure_ok hfree) ok.kind (fun y hy e => by rw [ok.uniq y hy, e])
    (thn (hi.run pins s σ H _ I h) fun xv s1 hx => thn hx fun itv s2 ⟨it, fp, tn, J, H2, e, I2, T, st2, f2, q⟩ => ?_)
  subst e
  refine wpAny_newObj_type (newEnv_comp ?_)
  generalize hD : s2.heap.objs.size = D
  have hDn : H2 D = none := I2.hok.fresh (Nat.le_of_eq hD)
  obtain ⟨W, ⟨m0, w0⟩, turn⟩ := q D hDn
  generalize hs3 : ({ s2 with heap := s2.heap.push { cls := .type "dict", data := .dict #[] } } : Shared) = s3
  have h3 : s3.heap = s2.heap.push { cls := .type "dict", data := .dict #[] } := by rw [← hs3]
  have I3 : Inv X pins σ (upd H2 D (KeyO X.prog X.w D [])) s3 := by
    rw [← hs3]
    refine I2.laid (t' := s2.toks) (fun b o e => Heap.get?_push_of_some _ e) (Nat.le_of_eq hD) (keyO_new ?_)
    rw [← hD]
    exact keyT_empty s2.heap I2.big
  have sz : ∀ b ∈ fp, b < s2.heap.objs.size := fun b hb => (let ⟨o, e, _⟩ := T.obj _ _ st2 b hb; Heap.lt_size e)
  have f3 : ∀ b ∈ fp, FpOk X pins (upd H2 D (KeyO X.prog X.w D [])) b ∧ b < s3.heap.objs.size := fun b hb => by
    have lt := sz b hb
    refine ⟨⟨?_, (f2 b hb).2⟩, by rw [h3, Heap.size_push]; exact Nat.lt_succ_of_lt lt⟩
    rw [upd_ne (by rw [← hD]; exact Nat.ne_of_lt lt)]
    exact (f2 b hb).1
  have st3 : tn 0 s3.heap := T.keep _ _ _ st2 fun b _ o e => by rw [h3]; exact Heap.get?_push_of_some _ e
  have I4 := block_start I3 ok hN f3
  have pg := hg s3 (upd H2 D (KeyO X.prog X.w D [])) s3.heap.objs.size (cellsFrom (s3.heap.objs.size + 1) scope.names (cloFrom X.env.cells scope.names [])) fp
  have pk := hk s3 (upd H2 D (KeyO X.prog X.w D [])) s3.heap.objs.size (cellsFrom (s3.heap.objs.size + 1) scope.names (cloFrom X.env.cells scope.names [])) fp
  have pe := he s3 (upd H2 D (KeyO X.prog X.w D [])) s3.heap.objs.size (cellsFrom (s3.heap.objs.size + 1) scope.names (cloFrom X.env.cells scope.names [])) fp
  show codeAny _ _ (.compStart (.DictComp kx vx [⟨tg, iter, [], 0⟩] scope pos) 0 (.ref it) (.ref D) (compEnvC scope (cellsFrom (s3.heap.objs.size + 1) scope.names (cloFrom X.env.cells scope.names [])) s3.heap.objs.size X.env)) (compPost (model X.prog X.w) X.A X.xe use Qf (.ref D) s3.heap.objs.size) { s3 with heap := pushCells (s3.heap.push { cls := .type "dict", data := .dict #[] }) scope.names }
  have nfp : ∀ b ∈ fp, (upd H2 D (KeyO X.prog X.w D [])) b = none := fun b hb => (f3 b hb).1.1
  generalize hce : compEnvC scope (cellsFrom (s3.heap.objs.size + 1) scope.names (cloFrom X.env.cells scope.names [])) s3.heap.objs.size X.env = ce at I4 pg pk pe ⊢
  have cL : ce.locals = s3.heap.objs.size := by subst hce; rfl
  generalize hH3 : upd H2 D (KeyO X.prog X.w D []) = H3 at I3 I4 pg pk pe w0 nfp f3
  generalize hs4 : ({ s3 with heap := pushCells (s3.heap.push { cls := .type "dict", data := .dict #[] }) scope.names } : Shared) = s4 at I4 ⊢
  have st4 : tn 0 s4.heap := T.keep _ _ _ st3 fun b _ o e => by rw [← hs4]; exact pushCells_keeps _ _ _ _ (Heap.get?_push_of_some _ e)
  let B : Cx := X.blk s3 H3 scope ce fp
  have stat : ∀ {σ' : L2.St} {H' : Hp} {s' : Shared}, Inv B [] σ' H' s' → (∀ b ∈ fp, H' b = none) → ∀ b ∈ fp, FpOk B [] H' b := fun {σ' H' s'} I' hn b hb =>
    ⟨hn b hb, (I'.ok.exf b hb).1, I'.ok.exfs b hb, .inl hb, fun x c e => (I'.ok.exf b hb).2 x c e, fun p hp => absurd (show p ∈ ([] : List (Addr × Obj)) ++ [] from hp) (by simp)⟩
  have loop : codeAny (model X.prog X.w) X.A (.compLoop (.DictComp kx vx [⟨tg, iter, [], 0⟩] scope pos) 0 (.ref it) (.ref D) ce) (compPost (model X.prog X.w) X.A X.xe use Qf (.ref D) s3.heap.objs.size) s4 := by
    refine compLoop_anyD (fun n s' => ∃ i H', Inv B [] (wipe σ (own.map (·.2))) H' s' ∧ tn i s'.heap ∧ (∀ b ∈ fp, H' b = none) ∧ W i n H') ?_ m0 ⟨0, H3, I4, st4, nfp, w0⟩
    rintro n s5 ⟨i, H5, I5, st5, n5, w5⟩
    rcases turn i n H5 w5 with ⟨stop, qq⟩ | ⟨go, Nx, hNx, step⟩
    · refine thnF (T.done B rfl rfl rfl hc i [] s5 _ H5 (fun _ _ => False) I5 (stat I5 n5) st5 stop) fun r s6 ⟨hr, I6⟩ => ?_
      subst hr
      have I7 : Inv X pins σ H5 s6 := I3.call' (ch := fp) I6.os I6.base I6.hok I6.bare fun b hb => ⟨(f3 b hb).1.2.2.2.1, (f3 b hb).1.2.1, (f3 b hb).1.2.2.2.2.1, (f3 b hb).1.2.2.2.2.2⟩
      have nC : H5 s3.heap.objs.size = none := by
        have z : H5 ce.locals = none := I6.free
        rw [cL] at z
        exact z
      obtain ⟨m, hn, _⟩ := I6.loc
      have hn : s6.heap.Ns ce.locals m := hn
      rw [cL] at hn
      exact hRR D s3.heap.objs.size s6 m H5 I7 qq hn (I3.fpOk (Nat.le_refl _) nC)
    · refine thnF (T.item B rfl rfl rfl hc i [] s5 _ H5 (fun _ _ => False) I5 (stat I5 n5) st5 go) fun r s6 ⟨u, hr, h6⟩ => ?_
      subst hr
      refine thnF h6 fun _ s7 ⟨x, H7, I7, r7, y7, st7, n7⟩ => ?_
      have I7' := I7.pinned (stat I7 n7) (T.obj _ _ st7)
      refine thnF (pg.run _ s7 _ H7 x u _ I7' r7 (step x H7 y7)) fun _ s8 ⟨σ8, H8, I8, hw8, q8⟩ => ?_
      refine wpAny_tests_nil ?_
      simp only [if_true]
      refine thnF (pk.run _ s8 σ8 H8 _ I8 q8) fun z s10 ⟨yk, H10, I10, r10, q10⟩ => ?_
      refine thnF (pe.run _ s10 σ8 H10 _ I10 q10) fun z2 s11 ⟨yv, H11, I11, r11, Ls, b, k, ek, ev, hD11, hb, hL, few, nx⟩ => ?_
      subst ek ev
      refine dset_ok (X := B) I11 hu hD11 hL hb r10 r11 few fun s12 L' c1 c2 I12 => ?_
      obtain ⟨m', hm, w'⟩ := hNx _ (nx L' c1 c2)
      have pin' : ∀ b ∈ fp, ∀ o, s7.heap.get? b = some o → s12.heap.get? b = some o ∧ (upd H11 D (KeyO X.prog X.w D L')) b = none := fun b hb o e =>
        let z := I12.pin (b, o) (List.mem_append_right _ (List.mem_append_right _ (mem_pinsAt hb e)))
        ⟨z.1, z.2.1⟩
      refine ⟨m', hm, i + 1, _, (I12.unpinned (pins := [])).weak (by rw [← hw8, wipe_length]) (fun j v e => ?_), T.keep _ _ _ st7 fun b hb o e => (pin' b hb o e).1, fun b hb => ?_, w'⟩
      · rw [← hw8] at e
        exact (wipe_some e).1
      · obtain ⟨o, e, _⟩ := T.obj _ _ st7 b hb
        exact (pin' b hb o e).2
  exact codeAny_compStart_dict loop (T.self X.A 0 _ _ _ st4 loop)
end
section
variable {X : Cx}
theorem pe_dcT {kx vx tg iter : Expr} {scope : Scope} {own : List (Str × Nat)} {pos : Pos} {wi : TI} {g : TG} {tk tv : TE} (hu : X.A.units + 64 < cLine) (hc : X.calm = true) (hN : X.N.Nodup) (hi : PI X tg iter wi) (ok : BlkOk X.N X.env.scope scope own)
    (hg : ∀ (s : Shared) (H : Hp) (C : Addr) (cl : List (Str × Addr)) (fp : List Addr), PG (X.blk s H scope (compEnvC scope cl C X.env) fp) tg g)
    (hk : ∀ (s : Shared) (H : Hp) (C : Addr) (cl : List (Str × Addr)) (fp : List Addr), PE (X.blk s H scope (compEnvC scope cl C X.env) fp) kx tk)
    (he : ∀ (s : Shared) (H : Hp) (C : Addr) (cl : List (Str × Addr)) (fp : List Addr), PE (X.blk s H scope (compEnvC scope cl C X.env) fp) vx tv) (hs : ∀ x, foldedSetIterable iter X.env x = pure x) :
    PE X (.DictComp kx vx [⟨tg, iter, [], 0⟩] scope pos) (tDcT X.prog X.w X.K wi g tk tv (own.map (·.2))) := by
  refine ⟨fun pins s σ H Q I h => ?_⟩
  rw [arm_eval_DictComp]
  refine dcT_core hu hc hN I hi ok hg hk he hs h fun D C s' m H' I' q hn f => ⟨m, hn, fun h'' sb => ?_⟩
  obtain ⟨f0, f1, f2, f3, f4, f5⟩ := f
  exact ⟨.ref D, H', I'.turned (t' := s'.toks) (fun b o hb e => (sb.2 b hb).trans e) f0 f1 f3 f4 f5, rfl, q⟩
end
end HS
/-! The data level: what plain data a value stands for, and how a state goes on. -/
namespace DL
open PySem PySem.Spec PyProof.Rows L2

/-! ### data -/
abbrev Dat := PyData
def iD (k : List Int) : Dat := .tuple (k.map PyData.int)
def sD (S : List (List Int)) : Dat := .tuple (S.map iD)

/-- what a value stands for: plain data; the source; a list of this def's own; a dict of this def's own, int keys, all True; a dict whose keys are these tuples; a set of tuples; an instance of Sums; a tuple whose very object is known; an instance just made -/
inductive D where
  | dat (d : Dat)
  | src
  | own (ds : List Dat)
  | dic (ks : List Int)
  | keys (ks : List (List Int))
  | set (ks : List (List Int))
  | obj (ks : List (List Int))
  | ntup (ds : List Dat)
  | fresh (a dx : Addr)

def mine : D → Bool
  | .own _ => true
  | .dic _ => true
  | .fresh _ _ => true
  | _ => false

/-- what is fixed through the law -/
structure Wd where
  P : Program
  w : World
  K : PySem.W.Frag
  mg : Str → Option Value
  base : Heap
  C : Addr
  ns : List Int

/-- the stable part L of the heap H: what v stands for -/
def Is (G : Wd) (src : Option Addr) (L H : Hp) (v : V) : D → Prop
  | .dat d => Dp G.K L v d
  | .src => ∃ p, src = some p ∧ v = .ref p
  | .own ds => ∃ p xs, v = .ref p ∧ L p = none ∧ src ≠ some p ∧ H p = some (.lst xs) ∧ DpAll G.K L xs ds
  | .dic ks => ∃ p, v = .ref p ∧ L p = none ∧ src ≠ some p ∧ H p = some (.dK (ks.map fun k => ((Sum.inl k : Key), V.bl true)))
  | .keys ks => ∃ a Ls, v = .ref a ∧ L a = some (HS.KeyO G.P G.w a Ls) ∧ (∀ p ∈ Ls, SqT G.K L p.1 (p.2.map V.int)) ∧ ∀ k, k ∈ Ls.map (·.2) ↔ k ∈ ks
  | .set ks => ∃ a Ls, v = .ref a ∧ L a = some (SetTO G.P G.w a Ls) ∧ (∀ p ∈ Ls, SqT G.K L p.1 (p.2.map V.int)) ∧ ∀ k, k ∈ Ls.map (·.2) ↔ k ∈ ks
  | .obj ks => ∃ a dx x, v = .ref a ∧ L a = some (.ins G.C dx [(("own_sums" : Str), x)]) ∧ Dp G.K L x (sD ks)
  | .ntup ds => ∃ a o xs, v = .ref a ∧ L a = some (.frz o (.tup xs)) ∧ o.dict = none ∧ DpAll G.K L xs ds
  | .fresh a dx => v = .ref a ∧ L a = none ∧ src ≠ some a ∧ H a = some (.ins G.C dx [])

/-! ### heaps grow -/
theorem ex_rd {H H' : Hp} {a : Addr} {u : HO} (e : Same H H') (h : Rd H a u) : Rd H' a u := by
  rcases h with h | ⟨o, h⟩
  · exact Or.inl (e a _ h)
  · exact Or.inr ⟨o, e a _ h⟩
theorem ex_l {K : PySem.W.Frag} {H H' : Hp} {a : Addr} {xs : List V} (e : Same H H') (h : SqL K H a xs) : SqL K H' a xs := by
  rcases h with h | h
  · exact Or.inl (ex_rd e h)
  · exact Or.inr h
theorem ex_t {K : PySem.W.Frag} {H H' : Hp} {a : Addr} {xs : List V} (e : Same H H') (h : SqT K H a xs) : SqT K H' a xs := by
  rcases h with h | h
  · exact Or.inl (ex_rd e h)
  · exact Or.inr h
theorem same_new {H : Hp} {p : Addr} {o : HO} (h : H p = none) : Same H (upd H p o) := fun b u q => by rw [upd_ne (ne_of_none q h)]; exact q
theorem same_upd2 {L H : Hp} {p : Addr} {o : HO} (e : Same L H) : Same (upd L p o) (upd H p o) := fun b u q => by
  by_cases hb : b = p
  · subst hb; rw [upd_same] at q ⊢; exact q
  · rw [upd_ne hb] at q ⊢; exact e b u q
mutual
theorem ex_dp {K : PySem.W.Frag} {H H' : Hp} (e : Same H H') : ∀ {v : V} {d : Dat}, Dp K H v d → Dp K H' v d
  | _, _, .non => .non
  | _, _, .bl b => .bl b
  | _, _, .int i => .int i
  | _, _, .str x => .str x
  | _, _, .lst h r => .lst (ex_l e h) (ex_dps e r)
  | _, _, .tup h r => .tup (ex_t e h) (ex_dps e r)
theorem ex_dps {K : PySem.W.Frag} {H H' : Hp} (e : Same H H') : ∀ {vs : List V} {ds : List Dat}, DpAll K H vs ds → DpAll K H' vs ds
  | _, _, .nil => .nil
  | _, _, .cons h r => .cons (ex_dp e h) (ex_dps e r)
end

/-! ### lists of data -/
section
variable {K : PySem.W.Frag} {H : Hp}
theorem dps_len : ∀ {vs : List V} {ds : List Dat}, DpAll K H vs ds → vs.length = ds.length
  | _, _, .nil => rfl
  | _, _, .cons _ r => by rw [List.length_cons, List.length_cons, dps_len r]
theorem dps_get : ∀ {vs : List V} {ds : List Dat} {i : Nat} {d : Dat}, DpAll K H vs ds → ds[i]? = some d → ∃ v, vs[i]? = some v ∧ Dp K H v d
  | _, _, _, _, .nil, h => by simp at h
  | _, _, 0, _, .cons h _, e => by simp at e; subst e; exact ⟨_, rfl, h⟩
  | _, _, i + 1, d, .cons _ r, e => by
    obtain ⟨v, h1, h2⟩ := dps_get (i := i) (d := d) r (by simpa using e)
    exact ⟨v, by simpa using h1, h2⟩
theorem dps_at : ∀ {vs : List V} {ds : List Dat} {i : Nat} {v : V}, DpAll K H vs ds → vs[i]? = some v → ∃ d, ds[i]? = some d ∧ Dp K H v d
  | _, _, _, _, .nil, h => by simp at h
  | _, _, 0, _, .cons h _, e => by simp at e; subst e; exact ⟨_, rfl, h⟩
  | _, _, i + 1, d, .cons _ r, e => by
    obtain ⟨v, h1, h2⟩ := dps_at (i := i) (v := d) r (by simpa using e)
    exact ⟨v, by simpa using h1, h2⟩
theorem dps_app : ∀ {vs ws : List V} {ds es : List Dat}, DpAll K H vs ds → DpAll K H ws es → DpAll K H (vs ++ ws) (ds ++ es)
  | _, _, _, _, .nil, s => s
  | _, _, _, _, .cons h r, s => .cons h (dps_app r s)
theorem dps_take : ∀ {vs : List V} {ds : List Dat} (n : Nat), DpAll K H vs ds → DpAll K H (vs.take n) (ds.take n)
  | _, _, 0, _ => .nil
  | _, _, _ + 1, .nil => .nil
  | _, _, n + 1, .cons h r => .cons h (dps_take n r)
theorem dps_drop : ∀ {vs : List V} {ds : List Dat} (n : Nat), DpAll K H vs ds → DpAll K H (vs.drop n) (ds.drop n)
  | _, _, 0, r => r
  | _, _, _ + 1, .nil => .nil
  | _, _, n + 1, .cons _ r => dps_drop n r
theorem dps_set {v : V} {d : Dat} (h : Dp K H v d) : ∀ {vs : List V} {ds : List Dat} (n : Nat), DpAll K H vs ds → DpAll K H (vs.set n v) (ds.set n d)
  | _, _, _, .nil => .nil
  | _, _, 0, .cons _ r => .cons h r
  | _, _, n + 1, .cons q r => .cons q (dps_set h n r)
theorem dp_int {v : V} {i : Int} (h : Dp K H v (.int i)) : v = .int i := by cases h; rfl
theorem dp_bl {v : V} {b : Bool} (h : Dp K H v (.bool b)) : v = .bl b := by cases h; rfl
theorem dp_str {v : V} {x : Str} (h : Dp K H v (.str x)) : v = .str x := by cases h; rfl
theorem dp_non {v : V} (h : Dp K H v .none) : v = .non := by cases h; rfl
theorem dp_tup {v : V} {ds : List Dat} (h : Dp K H v (.tuple ds)) : ∃ a xs, v = .ref a ∧ SqT K H a xs ∧ DpAll K H xs ds := by
  cases h with
  | tup h r => exact ⟨_, _, rfl, h, r⟩
theorem dp_lst {v : V} {ds : List Dat} (h : Dp K H v (.list ds)) : ∃ a xs, v = .ref a ∧ SqL K H a xs ∧ DpAll K H xs ds := by
  cases h with
  | lst h r => exact ⟨_, _, rfl, h, r⟩
theorem dps_ints : ∀ {k : List Int} {vs : List V}, DpAll K H vs (k.map PyData.int) → vs = k.map V.int
  | [], _, .nil => rfl
  | i :: k, _, .cons h r => by rw [dp_int h, dps_ints r]; rfl
theorem ints_dps : ∀ (k : List Int), DpAll K H (k.map V.int) (k.map PyData.int)
  | [] => .nil
  | i :: k => .cons (.int i) (ints_dps k)
theorem dps_strs : ∀ {k : List Str} {vs : List V}, DpAll K H vs (k.map PyData.str) → vs = k.map V.str
  | [], _, .nil => rfl
  | i :: k, _, .cons h r => by rw [dp_str h, dps_strs r]; rfl
theorem dps_bls : ∀ {k : List Bool} {vs : List V}, DpAll K H vs (k.map PyData.bool) → vs = k.map V.bl
  | [], _, .nil => rfl
  | i :: k, _, .cons h r => by rw [dp_bl h, dps_bls r]; rfl
theorem dp_iD {v : V} {k : List Int} (h : Dp K H v (iD k)) : ∃ a, v = .ref a ∧ SqT K H a (k.map V.int) := by
  obtain ⟨a, xs, e, h1, r⟩ := dp_tup h
  rw [dps_ints r] at h1
  exact ⟨a, e, h1⟩
theorem iD_dp {a : Addr} {k : List Int} (h : SqT K H a (k.map V.int)) : Dp K H (.ref a) (iD k) := .tup h (ints_dps k)
end

/-! ### the state goes on -/
structure Step (src : Option Addr) (L H L' H' : Hp) : Prop where
  keep : ∀ a o, H a = some o → src ≠ some a → H' a = some o
  live : ∀ a, H' a = none → H a = none
  grow : Same L L'
  frsh : ∀ a, L a = none → L' a ≠ none → H a = none
theorem Step.refl (src : Option Addr) (L H : Hp) : Step src L H L H := ⟨fun _ _ h _ => h, fun _ h => h, fun _ _ h => h, fun _ h q => absurd h q⟩
theorem Step.trans {src : Option Addr} {L H L1 H1 L2 H2 : Hp} (a : Step src L H L1 H1) (b : Step src L1 H1 L2 H2) : Step src L H L2 H2 where
  keep := fun x o h n => b.keep x o (a.keep x o h n) n
  live := fun x h => a.live x (b.live x h)
  grow := a.grow.trans b.grow
  frsh := fun x h q => by
    cases e : L1 x with
    | none => exact a.live x (b.frsh x e q)
    | some o => exact a.frsh x h (by rw [e]; simp)
/-- the heap grows, the stable part with it -/
theorem Step.of {src : Option Addr} {L H L' H' : Hp} (h : Same H H') (l : Same L L') (f : ∀ a, L a = none → L' a ≠ none → H a = none) : Step src L H L' H' :=
  ⟨fun a o q _ => h a o q, fun a q => (by
    cases e : H a with
    | none => rfl
    | some o => rw [h a o e] at q; cases q), l, f⟩
theorem Step.both {src : Option Addr} {L H : Hp} {p : Addr} (o : HO) (hn : H p = none) (ln : L p = none) : Step src L H (upd L p o) (upd H p o) :=
  .of (same_new hn) (same_new ln) fun a h q => by
    by_cases e : a = p
    · rw [e]; exact hn
    · rw [upd_ne e] at q; exact absurd h q
theorem Step.up {src : Option Addr} {L H : Hp} {p : Addr} (o : HO) (hn : H p = none) : Step src L H L (upd H p o) := .of (same_new hn) (fun _ _ h => h) fun _ h q => absurd h q

/-- the source at p, at most n draws so far -/
def SrcAt (K : PySem.W.Frag) (ns0 : List Int) (L H : Hp) (p : Addr) (n : Nat) : Prop :=
  ∃ (sc : Addr) (ns : List Int) (c r t : Int), H p = some (.lst [.ref sc, .int c, .int r, .int t]) ∧ SqL K L sc (ns.map V.int) ∧ 0 ≤ c ∧ 0 ≤ r ∧ 0 ≤ t ∧ t ≤ n ∧ ns = ns0
structure Wl (G : Wd) (src : Option Addr) (L H : Hp) (n : Nat) : Prop where
  sub : Same L H
  src : ∀ p, src = some p → L p = none ∧ SrcAt G.K G.ns L H p n
  few : n ≤ 100000
section
variable {G : Wd} {src : Option Addr} {L H L' H' : Hp} {n : Nat}
theorem Wl.none_of (w : Wl G src L H n) {p : Addr} (h : H p = none) : L p = none := by
  cases e : L p with
  | none => rfl
  | some o => rw [w.sub p o e] at h; cases h
theorem Wl.nsrc (w : Wl G src L H n) {p : Addr} (h : H p = none) : src ≠ some p := fun e => by
  obtain ⟨_, _, _, _, _, _, q, _⟩ := w.src p e
  rw [h] at q; cases q
theorem Wl.go (w : Wl G src L H n) (h : Same H H') (l : Same L L') (s : Same L' H') (f : ∀ a, L a = none → L' a ≠ none → H a = none) : Wl G src L' H' n :=
  ⟨s, fun p e => (by
    obtain ⟨q1, sc, ns, c, r, t, q2, q3, q4⟩ := w.src p e
    refine ⟨?_, sc, ns, c, r, t, h _ _ q2, ex_l l q3, q4⟩
    cases z : L' p with
    | none => rfl
    | some o => (have z2 := f p q1 (by rw [z]; simp); rw [q2] at z2; cases z2)), w.few⟩
theorem Wl.both (w : Wl G src L H n) {p : Addr} (o : HO) (hn : H p = none) : Wl G src (upd L p o) (upd H p o) n :=
  w.go (same_new hn) (same_new (w.none_of hn)) (same_upd2 w.sub) fun a h q => by
    by_cases e : a = p
    · rw [e]; exact hn
    · rw [upd_ne e] at q; exact absurd h q
theorem Wl.up (w : Wl G src L H n) {p : Addr} (o : HO) (hn : H p = none) : Wl G src L (upd H p o) n :=
  w.go (same_new hn) (fun _ _ h => h) (fun a u q => same_new hn a u (w.sub a u q)) fun _ h q => absurd h q
theorem Step.newB (w : Wl G src L H n) {p : Addr} (o : HO) (hn : H p = none) : Step src L H (upd L p o) (upd H p o) := .both o hn (w.none_of hn)

theorem Is.go {v : V} {d : D} (h : Is G src L H v d) (s : Step src L H L' H') : Is G src L' H' v d := by
  have nl : ∀ {p : Addr} {o : HO}, L p = none → H p = some o → L' p = none := fun {p o} a b => by
    cases z : L' p with
    | none => rfl
    | some u => have z2 := s.frsh p a (by rw [z]; simp); rw [b] at z2; cases z2
  cases d with
  | dat d => exact ex_dp s.grow h
  | src => exact h
  | own ds => obtain ⟨p, xs, e, h1, h2, h3, h4⟩ := h; exact ⟨p, xs, e, nl h1 h3, h2, s.keep _ _ h3 h2, ex_dps s.grow h4⟩
  | dic ks => obtain ⟨p, e, h1, h2, h3⟩ := h; exact ⟨p, e, nl h1 h3, h2, s.keep _ _ h3 h2⟩
  | keys ks => obtain ⟨a, Ls, e, h1, h2, h3⟩ := h; exact ⟨a, Ls, e, s.grow _ _ h1, fun p hp => ex_t s.grow (h2 p hp), h3⟩
  | set ks => obtain ⟨a, Ls, e, h1, h2, h3⟩ := h; exact ⟨a, Ls, e, s.grow _ _ h1, fun p hp => ex_t s.grow (h2 p hp), h3⟩
  | obj ks => obtain ⟨a, dx, x, e, h1, h2⟩ := h; exact ⟨a, dx, x, e, s.grow _ _ h1, ex_dp s.grow h2⟩
  | ntup ds => obtain ⟨a, o, xs, e, h1, h2, h3⟩ := h; exact ⟨a, o, xs, e, s.grow _ _ h1, h2, ex_dps s.grow h3⟩
  | fresh fa fx => obtain ⟨e, h1, h2, h3⟩ := h; exact ⟨e, nl h1 h3, h2, s.keep _ _ h3 h2⟩
/-- a value of one's own stands where nothing stood -/
def New (H : Hp) (v : V) (d : D) : Prop := mine d = true → ∀ p, v = .ref p → H p = none
theorem New.no {v : V} {d : D} (h : mine d = false) : New H v d := fun q => by rw [h] at q; cases q
theorem New.back {v : V} {d : D} (h : New H' v d) (s : Step src L H L' H') : New H v d := fun q p e => s.live p (h q p e)
end

/-! ### where one stands: names, scope, room; the source -/
structure Cxt where
  N : List Str
  sc : Scope
  k : Nat
  src : Option Addr
  fn : Str → Bool
abbrev Rho := List (Option D)

structure Like (G : Wd) (c : Cxt) (X : Cx) : Prop where
  N : X.N = c.N
  nd : X.N.Nodup
  sc : X.env.scope = c.sc
  prog : X.prog = G.P
  w : X.w = G.w
  K : X.K = G.K
  mg : X.mg = G.mg
  base : X.base = G.base
  calm : X.calm = true
  room : Room c.k X.A
  fn : X.fn = c.fn
  xe : X.xe = fun _ _ => False

/-- the slots' data: H0 is the heap at the entry -/
structure En (G : Wd) (c : Cxt) (H0 L H : Hp) (σ : L2.St) (ρ : Rho) : Prop where
  len : σ.length = c.N.length
  at_ : ∀ (i : Nat) (d : D), ρ[i]? = some (some d) → ∃ x v, c.N[i]? = some x ∧ Vis c.sc x ∧ σ[i]? = some (some v) ∧ Is G c.src L H v d
  own : ∀ (i : Nat) (d : D) (p : Addr), ρ[i]? = some (some d) → mine d = true → σ[i]? = some (some (.ref p)) → H0 p = none
  apart : ∀ (i j : Nat) (d e : D) (p : Addr), i ≠ j → ρ[i]? = some (some d) → ρ[j]? = some (some e) → mine d = true → mine e = true → σ[i]? = some (some (.ref p)) → σ[j]? ≠ some (some (.ref p))
theorem En.go {G : Wd} {c : Cxt} {H0 L H L' H' : Hp} {σ : L2.St} {ρ : Rho} (e : En G c H0 L H σ ρ) (s : Step c.src L H L' H') : En G c H0 L' H' σ ρ :=
  ⟨e.len, fun i d h => let ⟨x, v, h1, h2, h3, h4⟩ := e.at_ i d h; ⟨x, v, h1, h2, h3, h4.go s⟩, e.own, e.apart⟩
end DL
/-! The data level: the judgements on syntax, and the rules that every construct has in common. -/
namespace DL
open PySem PySem.Spec L2

/-- what is wanted of a value and the heap behind -/
def EV (G : Wd) (src : Option Addr) (L H : Hp) (R : D → Nat → Prop) : VK := fun v H' => ∃ d L' n', Step src L H L' H' ∧ Wl G src L' H' n' ∧ Is G src L' H' v d ∧ New H v d ∧ R d n'
def TV (G : Wd) (src : Option Addr) (L H : Hp) (R : Bool → Nat → Prop) : Bool → Hp → Prop := fun b H' => ∃ L' n', Step src L H L' H' ∧ Wl G src L' H' n' ∧ R b n'
abbrev IsAll (G : Wd) (src : Option Addr) (L H : Hp) : List V → List D → Prop := Paired (Is G src L H)
def AV (G : Wd) (src : Option Addr) (L H : Hp) (R : List D → Nat → Prop) : List V → Hp → Prop := fun vs H' => ∃ ds L' n', Step src L H L' H' ∧ Wl G src L' H' n' ∧ IsAll G src L' H' vs ds ∧ R ds n'
structure Bx where
  nx : Rho → Nat → Prop
  rt : D → Nat → Prop
  bk : Rho → Nat → Prop := fun _ _ => False
  ct : Rho → Nat → Prop := fun _ _ => False
def NX (G : Wd) (c : Cxt) (L0 H0 : Hp) (N : Rho → Nat → Prop) : L2.St → Hp → Prop := fun σ' H' => ∃ L' ρ' n', Step c.src L0 H0 L' H' ∧ Wl G c.src L' H' n' ∧ En G c H0 L' H' σ' ρ' ∧ N ρ' n'
def RX (G : Wd) (c : Cxt) (L0 H0 : Hp) (R : D → Nat → Prop) : VK := fun v H' => ∃ d L' n', Step c.src L0 H0 L' H' ∧ Wl G c.src L' H' n' ∧ Is G c.src L' H' v d ∧ New H0 v d ∧ R d n'
def dn (G : Wd) (c : Cxt) (L0 H0 : Hp) (B : Bx) : Ends := { nx := NX G c L0 H0 B.nx, rt := RX G c L0 H0 B.rt, bk := NX G c L0 H0 B.bk, ct := NX G c L0 H0 B.ct }

/-! ### the judgements -/
section
variable (G : Wd) (c : Cxt)
def EX (e : Expr) (ρ : Rho) (n : Nat) (R : D → Nat → Prop) : Prop :=
  ∀ X, Like G c X → ∀ pins s σ H0 L H, Inv X pins σ H s → Wl G c.src L H n → En G c H0 L H σ ρ → wpAny (model X.prog X.w) X.A (eval e X.env) (EP X pins σ (EV G c.src L H R)) X.xe s
def TX (e : Expr) (ρ : Rho) (n : Nat) (R : Bool → Nat → Prop) : Prop :=
  ∀ X, Like G c X → ∀ (whole : Sem Value), whole = eval e X.env → ∀ pins s σ H0 L H, Inv X pins σ H s → Wl G c.src L H n → En G c H0 L H σ ρ → wpAny (model X.prog X.w) X.A (isTrue e X.env whole) (TP X pins σ (TV G c.src L H R)) X.xe s
/-- a test, whatever its whole is -/
def TW (e : Expr) (ρ : Rho) (n : Nat) (R : Bool → Nat → Prop) : Prop :=
  ∀ X, Like G c X → ∀ (whole : Sem Value) pins s σ H0 L H, Inv X pins σ H s → Wl G c.src L H n → En G c H0 L H σ ρ → wpAny (model X.prog X.w) X.A (isTrue e X.env whole) (TP X pins σ (TV G c.src L H R)) X.xe s
def AX (es : List Expr) (ρ : Rho) (n : Nat) (R : List D → Nat → Prop) : Prop :=
  ∀ X, Like G c X → ∀ (pos : Pos) pins s σ H0 L H, Inv X pins σ H s → Wl G c.src L H n → En G c H0 L H σ ρ → wpAny (model X.prog X.w) X.A (spliced (backTo pos (starEach es X.env))) (AP X pins σ (AV G c.src L H R)) X.xe s
def SX (st : Stmt) (ρ : Rho) (n : Nat) (B : Bx) : Prop :=
  ∀ X, Like G c X → ∀ L0 H0 pins s σ L H, Inv X pins σ H s → Step c.src L0 H0 L H → Wl G c.src L H n → En G c H0 L H σ ρ → wpAny (model X.prog X.w) X.A (exec st X.env) (SP X pins (dn G c L0 H0 B)) X.xe s
def SXs (sts : List Stmt) (ρ : Rho) (n : Nat) (B : Bx) : Prop :=
  ∀ X, Like G c X → ∀ L0 H0 pins s σ L H, Inv X pins σ H s → Step c.src L0 H0 L H → Wl G c.src L H n → En G c H0 L H σ ρ → wpAny (model X.prog X.w) X.A (execs sts X.env) (SP X pins (dn G c L0 H0 B)) X.xe s
end

/-! ### to and from the layer's judgements -/
def wpE (X : Cx) (e : Expr) : TE := fun σ H Q => ∀ pins s, Inv X pins σ H s → wpAny (model X.prog X.w) X.A (eval e X.env) (EP X pins σ Q) X.xe s
def wpT (X : Cx) (e : Expr) : TT := fun σ H Q => ∀ pins s, Inv X pins σ H s → wpAny (model X.prog X.w) X.A (isTrue e X.env (eval e X.env)) (TP X pins σ Q) X.xe s
def wpW (X : Cx) (e : Expr) : TT := fun σ H Q => ∀ (whole : Sem Value) pins s, Inv X pins σ H s → wpAny (model X.prog X.w) X.A (isTrue e X.env whole) (TP X pins σ Q) X.xe s
def wpA (X : Cx) (es : List Expr) : TA := fun σ H Q => ∀ (pos : Pos) pins s, Inv X pins σ H s → wpAny (model X.prog X.w) X.A (spliced (backTo pos (starEach es X.env))) (AP X pins σ Q) X.xe s
def wpS (X : Cx) (st : Stmt) : TS := fun D σ H => ∀ pins s, Inv X pins σ H s → wpAny (model X.prog X.w) X.A (exec st X.env) (SP X pins D) X.xe s
def wpSs (X : Cx) (st : List Stmt) : TS := fun D σ H => ∀ pins s, Inv X pins σ H s → wpAny (model X.prog X.w) X.A (execs st X.env) (SP X pins D) X.xe s
section
variable {X : Cx}
theorem pe_wp (e : Expr) : PE X e (wpE X e) := ⟨fun pins s _ _ _ I h => h pins s I⟩
theorem pt_wp (e : Expr) : PT X e (wpT X e) := ⟨fun pins s _ _ _ I h => h pins s I⟩
theorem pw_wp (e : Expr) : PW X e (wpW X e) := ⟨fun wh pins s _ _ _ I h => h wh pins s I⟩
theorem pa_wp (es : List Expr) : PA X es (wpA X es) := ⟨fun pos pins s _ _ _ I h => h pos pins s I⟩
theorem ps_wp (st : Stmt) : PS X st (wpS X st) := ⟨fun pins s _ _ _ I h => h pins s I⟩
theorem pss_wp (st : List Stmt) : PSs X st (wpSs X st) := ⟨fun pins s _ _ _ I h => h pins s I⟩
end
section
variable {G : Wd} {c : Cxt} {X : Cx} {e : Expr} {es : List Expr} {st : Stmt} {sts : List Stmt} {ρ : Rho} {n : Nat} {R : D → Nat → Prop} {RT : Bool → Nat → Prop} {RA : List D → Nat → Prop} {B : Bx} {σ : L2.St} {H0 L0 L H : Hp}
theorem ex_pe (h : ∀ X, Like G c X → ∃ t, PE X e t ∧ ∀ σ H0 L H, Wl G c.src L H n → En G c H0 L H σ ρ → t σ H (EV G c.src L H R)) : EX G c e ρ n R := fun X k pins s σ H0 L H I w en => by
  obtain ⟨t, p, q⟩ := h X k
  exact p.run pins s σ H _ I (q σ H0 L H w en)
theorem ex_wp {Q : VK} (h : EX G c e ρ n R) (k : Like G c X) (w : Wl G c.src L H n) (en : En G c H0 L H σ ρ) (q : ∀ v H', EV G c.src L H R v H' → Q v H') : wpE X e σ H Q := fun pins s I =>
  thn (h X k pins s σ H0 L H I w en) fun u s' ⟨v, H', I', r, z⟩ => ⟨v, H', I', r, q v H' z⟩
theorem tx_pt (h : ∀ X, Like G c X → ∃ t, PT X e t ∧ ∀ σ H0 L H, Wl G c.src L H n → En G c H0 L H σ ρ → t σ H (TV G c.src L H RT)) : TX G c e ρ n RT := fun X k wh ew pins s σ H0 L H I w en => by
  obtain ⟨t, p, q⟩ := h X k
  subst ew
  exact p.run pins s σ H _ I (q σ H0 L H w en)
theorem tx_wp {Q : Bool → Hp → Prop} (h : TX G c e ρ n RT) (k : Like G c X) (w : Wl G c.src L H n) (en : En G c H0 L H σ ρ) (q : ∀ v H', TV G c.src L H RT v H' → Q v H') : wpT X e σ H Q := fun pins s I =>
  thn (h X k _ rfl pins s σ H0 L H I w en) fun u s' ⟨H', I', z⟩ => ⟨H', I', q u H' z⟩
theorem tw_pw (h : ∀ X, Like G c X → ∃ t, PW X e t ∧ ∀ σ H0 L H, Wl G c.src L H n → En G c H0 L H σ ρ → t σ H (TV G c.src L H RT)) : TW G c e ρ n RT := fun X k wh pins s σ H0 L H I w en => by
  obtain ⟨t, p, q⟩ := h X k
  exact p.run wh pins s σ H _ I (q σ H0 L H w en)
theorem tw_wp {Q : Bool → Hp → Prop} (h : TW G c e ρ n RT) (k : Like G c X) (w : Wl G c.src L H n) (en : En G c H0 L H σ ρ) (q : ∀ v H', TV G c.src L H RT v H' → Q v H') : wpW X e σ H Q := fun wh pins s I =>
  thn (h X k wh pins s σ H0 L H I w en) fun u s' ⟨H', I', z⟩ => ⟨H', I', q u H' z⟩
theorem TW.tx (h : TW G c e ρ n RT) : TX G c e ρ n RT := fun X k wh _ pins s σ H0 L H I w en => h X k wh pins s σ H0 L H I w en
theorem ax_pa (h : ∀ X, Like G c X → ∃ t, PA X es t ∧ ∀ σ H0 L H, Wl G c.src L H n → En G c H0 L H σ ρ → t σ H (AV G c.src L H RA)) : AX G c es ρ n RA := fun X k pos pins s σ H0 L H I w en => by
  obtain ⟨t, p, q⟩ := h X k
  exact p.run pos pins s σ H _ I (q σ H0 L H w en)
theorem ax_wp {Q : List V → Hp → Prop} (h : AX G c es ρ n RA) (k : Like G c X) (w : Wl G c.src L H n) (en : En G c H0 L H σ ρ) (q : ∀ v H', AV G c.src L H RA v H' → Q v H') : wpA X es σ H Q := fun pos pins s I =>
  thn (h X k pos pins s σ H0 L H I w en) fun u s' ⟨v, H', I', r, z⟩ => ⟨v, H', I', r, q v H' z⟩
theorem sp_mono {pins : List (Addr × Obj)} {D D' : Ends} {f : Flow} {s : Shared} (h : SP X pins D f s) (a : ∀ σ H, D.nx σ H → D'.nx σ H) (b : ∀ v H, D.rt v H → D'.rt v H) (d : ∀ σ H, D.bk σ H → D'.bk σ H) (g : ∀ σ H, D.ct σ H → D'.ct σ H) : SP X pins D' f s := by
  cases f with
  | next => obtain ⟨σ', H', I, q⟩ := h; exact ⟨σ', H', I, a _ _ q⟩
  | brk => obtain ⟨σ', H', I, q⟩ := h; exact ⟨σ', H', I, d _ _ q⟩
  | cont => obtain ⟨σ', H', I, q⟩ := h; exact ⟨σ', H', I, g _ _ q⟩
  | ret u => obtain ⟨v, σ', H', I, r, q⟩ := h; exact ⟨v, σ', H', I, r, b _ _ q⟩
theorem sx_ps (h : ∀ X, Like G c X → ∃ t, PS X st t ∧ ∀ L0 H0 σ L H, Step c.src L0 H0 L H → Wl G c.src L H n → En G c H0 L H σ ρ → t (dn G c L0 H0 B) σ H) : SX G c st ρ n B := fun X k L0 H0 pins s σ L H I sp w en => by
  obtain ⟨t, p, q⟩ := h X k
  exact p.run pins s σ H _ I (q L0 H0 σ L H sp w en)
theorem sxs_pss (h : ∀ X, Like G c X → ∃ t, PSs X sts t ∧ ∀ L0 H0 σ L H, Step c.src L0 H0 L H → Wl G c.src L H n → En G c H0 L H σ ρ → t (dn G c L0 H0 B) σ H) : SXs G c sts ρ n B := fun X k L0 H0 pins s σ L H I sp w en => by
  obtain ⟨t, p, q⟩ := h X k
  exact p.run pins s σ H _ I (q L0 H0 σ L H sp w en)
theorem sx_wp {D : Ends} (h : SX G c st ρ n B) (k : Like G c X) (sp : Step c.src L0 H0 L H) (w : Wl G c.src L H n) (en : En G c H0 L H σ ρ) (a : ∀ σ H, NX G c L0 H0 B.nx σ H → D.nx σ H) (b : ∀ v H, RX G c L0 H0 B.rt v H → D.rt v H)
    (d : ∀ σ H, NX G c L0 H0 B.bk σ H → D.bk σ H) (g : ∀ σ H, NX G c L0 H0 B.ct σ H → D.ct σ H) : wpS X st D σ H := fun pins s I =>
  thn (h X k L0 H0 pins s σ L H I sp w en) fun f s' z => sp_mono z a b d g
theorem sxs_wp {D : Ends} (h : SXs G c sts ρ n B) (k : Like G c X) (sp : Step c.src L0 H0 L H) (w : Wl G c.src L H n) (en : En G c H0 L H σ ρ) (a : ∀ σ H, NX G c L0 H0 B.nx σ H → D.nx σ H) (b : ∀ v H, RX G c L0 H0 B.rt v H → D.rt v H)
    (d : ∀ σ H, NX G c L0 H0 B.bk σ H → D.bk σ H) (g : ∀ σ H, NX G c L0 H0 B.ct σ H → D.ct σ H) : wpSs X sts D σ H := fun pins s I =>
  thn (h X k L0 H0 pins s σ L H I sp w en) fun f s' z => sp_mono z a b d g
end

/-! ### the ends of readings -/
section
variable {G : Wd} {src : Option Addr} {c : Cxt} {L H L1 H1 : Hp} {n : Nat} {R R1 : D → Nat → Prop} {v : V} {d : D}
/-- nothing has changed -/
theorem ev_now (w : Wl G src L H n) (i : Is G src L H v d) (hm : mine d = false) (r : R d n) : EV G src L H R v H := ⟨d, L, n, .refl _ _ _, w, i, .no hm, r⟩
theorem ev_dat {x : Dat} (w : Wl G src L H n) (i : Dp G.K L v x) (r : R (.dat x) n) : EV G src L H R v H := ⟨.dat x, L, n, .refl _ _ _, w, i, .no rfl, r⟩
theorem tv_now {RT : Bool → Nat → Prop} {b : Bool} (w : Wl G src L H n) (r : RT b n) : TV G src L H RT b H := ⟨L, n, .refl _ _ _, w, r⟩
theorem av_now {RA : List D → Nat → Prop} {vs : List V} {ds : List D} (w : Wl G src L H n) (i : IsAll G src L H vs ds) (r : RA ds n) : AV G src L H RA vs H := ⟨ds, L, n, .refl _ _ _, w, i, r⟩
theorem EV.back {H2 : Hp} (s : Step src L H L1 H1) (h : EV G src L1 H1 R v H2) : EV G src L H R v H2 := by
  obtain ⟨d, L', n', s', w, i, nw, r⟩ := h
  exact ⟨d, L', n', s.trans s', w, i, nw.back s, r⟩
theorem TV.back {H2 : Hp} {RT : Bool → Nat → Prop} {b : Bool} (s : Step src L H L1 H1) (h : TV G src L1 H1 RT b H2) : TV G src L H RT b H2 := by
  obtain ⟨L', n', s', w, r⟩ := h
  exact ⟨L', n', s.trans s', w, r⟩
theorem AV.back {H2 : Hp} {RA : List D → Nat → Prop} {vs : List V} (s : Step src L H L1 H1) (h : AV G src L1 H1 RA vs H2) : AV G src L H RA vs H2 := by
  obtain ⟨d, L', n', s', w, i, r⟩ := h
  exact ⟨d, L', n', s.trans s', w, i, r⟩
/-- a new tuple of data -/
theorem ev_tup {p : Addr} {xs : List V} {ds : List Dat} (w : Wl G src L H n) (hp : H p = none) (i : DpAll G.K L xs ds) (r : R (.dat (.tuple ds)) n) : EV G src L H R (.ref p) (upd H p (.tup xs)) :=
  ⟨.dat (.tuple ds), upd L p (.tup xs), n, .newB w _ hp, w.both _ hp, Dp.tup (SqT.of upd_same) (ex_dps (same_new (w.none_of hp)) i), .no rfl, r⟩
theorem ev_lst {p : Addr} {xs : List V} {ds : List Dat} (w : Wl G src L H n) (hp : H p = none) (i : DpAll G.K L xs ds) (r : R (.dat (.list ds)) n) : EV G src L H R (.ref p) (upd H p (.lst xs)) :=
  ⟨.dat (.list ds), upd L p (.lst xs), n, .newB w _ hp, w.both _ hp, Dp.lst (SqL.of upd_same) (ex_dps (same_new (w.none_of hp)) i), .no rfl, r⟩
/-- .. as a list of one's own -/
theorem ev_own {p : Addr} {xs : List V} {ds : List Dat} (w : Wl G src L H n) (hp : H p = none) (i : DpAll G.K L xs ds) (r : R (.own ds) n) : EV G src L H R (.ref p) (upd H p (.lst xs)) :=
  ⟨.own ds, L, n, .up _ hp, w.up _ hp, ⟨p, xs, rfl, w.none_of hp, w.nsrc hp, upd_same, i⟩, fun _ q e => by cases e; exact hp, r⟩
theorem Paired.go {L' H' : Hp} {vs : List V} {ds : List D} (h : IsAll G src L H vs ds) (s : Step src L H L' H') : IsAll G src L' H' vs ds := Paired.mapP h fun _ _ z => Is.go z s
end

/-! ### expressions -/
section
variable {G : Wd} {c : Cxt} {e a b : Expr} {es : List Expr} {ρ : Rho} {n : Nat} {R : D → Nat → Prop} {RT : Bool → Nat → Prop} {RA : List D → Nat → Prop} {pos : Pos}
theorem ex_mono {R' : D → Nat → Prop} (h : EX G c e ρ n R) (m : ∀ d n, R d n → R' d n) : EX G c e ρ n R' := fun X k pins s σ H0 L H I w en =>
  thn (h X k pins s σ H0 L H I w en) fun u s' ⟨v, H', I', r, d, L', n', s1, w1, i1, nw, q⟩ => ⟨v, H', I', r, d, L', n', s1, w1, i1, nw, m d n' q⟩
theorem ex_var {d : D} (i : Nat) {x : Str} (hx : c.N[i]? = some x) (h : ρ[i]? = some (some d)) (hm : mine d = false) (r : R d n) (hd : (x == ("__debug__" : Str)) = false := by decide) (hcd : (x == ("__classdict__" : Str)) = false := by decide) : EX G c (.Name x pos) ρ n R :=
  ex_pe fun X k => by
    refine ⟨wpE X (.Name x pos), pe_wp _, fun σ H0 L H w en => ?_⟩
    obtain ⟨y, v, h1, h2, h3, h4⟩ := en.at_ i d h
    have exy : x = y := Option.some.inj (hx.symm.trans h1)
    subst exy
    have pv := pe_var (X := X) (pos := pos) (by rw [k.N]; exact hx) (by rw [k.sc]; exact h2) hd hcd
    exact fun pins s I => pv.run pins s σ H _ I ⟨v, h3, ev_now w h4 hm r⟩
/-- the i-th name -/
inductive At : List Str → Nat → Str → Prop
  | z {x : Str} {r : List Str} : At (x :: r) 0 x
  | s {x y : Str} {r : List Str} {i : Nat} : At r i x → At (y :: r) (i + 1) x
theorem At.get : ∀ {l : List Str} {i : Nat} {x : Str}, At l i x → l[i]? = some x
  | _, _, _, .z => rfl
  | _, _, _, .s h => by have := h.get; simpa using this
theorem ex_v {d : D} {i : Nat} {x : Str} (hx : At c.N i x) (h : ρ[i]? = some (some d)) (hm : mine d = false) (r : R d n) (hd : (x == ("__debug__" : Str)) = false := by decide) (hcd : (x == ("__classdict__" : Str)) = false := by decide) : EX G c (.Name x pos) ρ n R := ex_var i hx.get h hm r hd hcd
theorem ex_int {i : Int} {j : Nat} (r : R (.dat (.int i)) n) : EX G c (.Constant (.int i) j pos) ρ n R := ex_pe fun X _ => ⟨_, pe_int, fun _ _ _ _ w _ => ev_dat w (.int i) r⟩
theorem ex_bl {i : Bool} {j : Nat} (r : R (.dat (.bool i)) n) : EX G c (.Constant (.bool i) j pos) ρ n R := ex_pe fun X _ => ⟨_, pe_bl, fun _ _ _ _ w _ => ev_dat w (.bl i) r⟩
theorem ex_str {i : Str} {j : Nat} (r : R (.dat (.str i)) n) : EX G c (.Constant (.str i) j pos) ρ n R := ex_pe fun X _ => ⟨_, pe_str, fun _ _ _ _ w _ => ev_dat w (.str i) r⟩
theorem ex_non {j : Nat} (r : R (.dat .none) n) : EX G c (.Constant .none j pos) ρ n R := ex_pe fun X _ => ⟨_, pe_non, fun _ _ _ _ w _ => ev_dat w .non r⟩

/-- a tuple whose object is known is a tuple -/
theorem ex_weak (h : EX G c e ρ n fun d n1 => ∃ ds, d = .ntup ds ∧ R (.dat (.tuple ds)) n1) : EX G c e ρ n R := fun X k pins s σ H0 L H I w en =>
  thn (h X k pins s σ H0 L H I w en) fun u s' ⟨v, H', I', r, d, L', n', s1, w1, i1, nw, ds, e1, q⟩ => by
    subst e1
    obtain ⟨a, o, xs, rfl, h1, h2, h3⟩ := i1
    exact ⟨.ref a, H', I', r, .dat (.tuple ds), L', n', s1, w1, Dp.tup (.inl (.inr ⟨o, h1⟩)) h3, .no rfl, q⟩
/-- an operation on two values -/
def OP (G : Wd) (c : Cxt) (f : Value → Value → Sem Value) (d1 d2 : D) (n : Nat) (R : D → Nat → Prop) : Prop :=
  ∀ X, Like G c X → ∃ r, OpR X f r ∧ ∀ L H x y, Wl G c.src L H n → Is G c.src L H x d1 → Is G c.src L H y d2 → r x y H (EV G c.src L H R)
theorem ex_two {X : Cx} {σ : L2.St} {H0 L H : Hp} {Q : V → V → Hp → Prop} {R2 : D → D → Nat → Prop} (k : Like G c X) (w : Wl G c.src L H n) (en : En G c H0 L H σ ρ) (h : EX G c a ρ n fun d1 n1 => EX G c b ρ n1 fun d2 n2 => R2 d1 d2 n2)
    (q : ∀ x y d1 d2 L' H' n', Step c.src L H L' H' → Wl G c.src L' H' n' → Is G c.src L' H' x d1 → Is G c.src L' H' y d2 → New H x d1 → New H y d2 → R2 d1 d2 n' → Q x y H') : wpE X a σ H fun x H1 => wpE X b σ H1 fun y H2 => Q x y H2 :=
  ex_wp h k w en fun x H1 ⟨d1, L1, n1, s1, w1, i1, nw1, r1⟩ => ex_wp r1 k w1 (en.go s1) fun y H2 ⟨d2, L2, n2, s2, w2, i2, nw2, r2⟩ => q x y d1 d2 L2 H2 n2 (s1.trans s2) w2 (i1.go s2) i2 nw1 (nw2.back s1) r2
theorem ex_bin {op : Operator} (h : EX G c a ρ n fun d1 n1 => EX G c b ρ n1 fun d2 n2 => OP G c (binaryOp op) d1 d2 n2 R) : EX G c (.BinOp a op b pos) ρ n R := ex_pe fun X k => by
  refine ⟨_, pe_op (r := fun x y H Q => ∀ pins s σ v u, Inv X pins σ H s → RelV x v → RelV y u → wpAny (model X.prog X.w) X.A (binaryOp op v u) (EP X pins σ Q) X.xe s) (fun pins s σ H x y v u Q I rx ry q => q pins s σ v u I rx ry) (pe_wp a) (pe_wp b), fun σ H0 L H w en => ?_⟩
  refine ex_two k w en h fun x y d1 d2 L' H' n' s' w' i1 i2 nw1 nw2 r2 => ?_
  obtain ⟨r, ho, q⟩ := r2 X k
  exact fun pins s σ v u I rx ry => thn (ho pins s σ H' x y v u _ I rx ry (q L' H' x y w' i1 i2)) fun z s'' ⟨v', H'', I', r', e⟩ => ⟨v', H'', I', r', e.back s'⟩
theorem ex_cmp {op : CmpOp} (h : EX G c a ρ n fun d1 n1 => EX G c b ρ n1 fun d2 n2 => OP G c (compareOp op) d1 d2 n2 R) (hm : behindInMarks op b = false := by first | exact nobehind _ (by decide) (by decide) | rfl) : EX G c (.Compare a [op] [b] pos) ρ n R := ex_pe fun X k => by
  refine ⟨_, pe_cmpR (r := fun x y H Q => ∀ pins s σ v u, Inv X pins σ H s → RelV x v → RelV y u → wpAny (model X.prog X.w) X.A (compareOp op v u) (EP X pins σ Q) X.xe s) (fun pins s σ H x y v u Q I rx ry q => q pins s σ v u I rx ry) (pe_wp a) (pe_wp b) hm, fun σ H0 L H w en => ?_⟩
  refine ex_two k w en h fun x y d1 d2 L' H' n' s' w' i1 i2 nw1 nw2 r2 => ?_
  obtain ⟨r, ho, q⟩ := r2 X k
  exact fun pins s σ v u I rx ry => thn (ho pins s σ H' x y v u _ I rx ry (q L' H' x y w' i1 i2)) fun z s'' ⟨v', H'', I', r', e⟩ => ⟨v', H'', I', r', e.back s'⟩
/-- the truth of a bool -/
abbrev asB (RT : Bool → Nat → Prop) : D → Nat → Prop := fun d n => ∃ b, d = .dat (.bool b) ∧ RT b n
theorem asB.tv {src : Option Addr} {L H H' : Hp} {v : V} (h : EV G src L H (asB RT) v H') : ∃ b, v = .bl b ∧ TV G src L H RT b H' := by
  obtain ⟨d, L', n', s, w, i, _, b, rfl, r⟩ := h
  exact ⟨b, dp_bl i, L', n', s, w, r⟩
theorem tx_cmp {op : CmpOp} (h : EX G c a ρ n fun d1 n1 => EX G c b ρ n1 fun d2 n2 => OP G c (compareOp op) d1 d2 n2 (asB RT)) (hm : behindInMarks op b = false := by first | exact nobehind _ (by decide) (by decide) | rfl) : TX G c (.Compare a [op] [b] pos) ρ n RT := tx_pt fun X k => by
  refine ⟨_, pt_cmpR (r := fun x y H Q => ∀ pins s σ v u, Inv X pins σ H s → RelV x v → RelV y u → wpAny (model X.prog X.w) X.A (compareOp op v u) (EP X pins σ Q) X.xe s) (fun pins s σ H x y v u Q I rx ry q => q pins s σ v u I rx ry) (pe_wp a) (pe_wp b) hm, fun σ H0 L H w en => ?_⟩
  refine ex_two k w en h fun x y d1 d2 L' H' n' s' w' i1 i2 nw1 nw2 r2 => ?_
  obtain ⟨r, ho, q⟩ := r2 X k
  exact fun pins s σ v u I rx ry => thn (ho pins s σ H' x y v u _ I rx ry (q L' H' x y w' i1 i2)) fun z s'' ⟨v', H'', I', r', e⟩ => ⟨v', H'', I', r', asB.tv (e.back s')⟩
/-- an expression whose value is a bool, as a test -/
theorem tx_val (h : EX G c e ρ n (asB RT)) (he : ∀ env whole, isTrue e env whole = (do let v ← whole; standAt e.pos; holding [v] (truthy v)) := by intro _ _; rfl) : TX G c e ρ n RT := tx_pt fun X k =>
  ⟨_, pt_val (pe_wp e) (he _), fun σ H0 L H w en => ex_wp h k w en fun v H' z => asB.tv z⟩
theorem tx_not (h : TX G c a ρ n fun b n1 => RT (!b) n1) : TX G c (.UnaryOp .Not a pos) ρ n RT := tx_pt fun X k =>
  ⟨_, pt_not (pt_wp a), fun σ H0 L H w en => tx_wp h k w en fun v H' z => z⟩
theorem ex_not (h : EX G c a ρ n (asB fun b n1 => R (.dat (.bool (!b))) n1)) : EX G c (.UnaryOp .Not a pos) ρ n R := ex_pe fun X k =>
  ⟨_, pe_not (pe_wp a), fun σ H0 L H w en => ex_wp h k w en fun v H' ⟨d, L', n', s', w', i, _, b, e, r⟩ => by
    subst e
    exact ⟨b, dp_bl i, .dat (.bool (!b)), L', n', s', w', .bl (!b), .no rfl, r⟩⟩
theorem ex_one {op : BoolOp} (h : EX G c a ρ n R) : EX G c (.BoolOp op [a] pos) ρ n R := ex_pe fun X k => ⟨_, pe_one (pe_wp a), fun σ H0 L H w en => ex_wp h k w en fun v H' z => z⟩
theorem ex_and {rest : List Expr} (h : EX G c a ρ n (asB fun k n1 => if k = true then EX G c (.BoolOp .And (b :: rest) pos) ρ n1 R else R (.dat (.bool false)) n1)) : EX G c (.BoolOp .And (a :: b :: rest) pos) ρ n R := ex_pe fun X k =>
  ⟨_, pe_and (pe_wp a) (pe_wp _), fun σ H0 L H w en => ex_wp h k w en fun v H' ⟨d, L', n', s', w', i, _, t, e, r⟩ => by
    subst e
    refine ⟨t, dp_bl i, ?_⟩
    cases t with
    | true => exact ex_wp r k w' (en.go s') fun v2 H2 z => z.back s'
    | false => exact ⟨.dat (.bool false), L', n', s', w', .bl false, .no rfl, r⟩⟩
theorem ex_or {rest : List Expr} (h : EX G c a ρ n (asB fun k n1 => if k = true then R (.dat (.bool true)) n1 else EX G c (.BoolOp .Or (b :: rest) pos) ρ n1 R)) : EX G c (.BoolOp .Or (a :: b :: rest) pos) ρ n R := ex_pe fun X k =>
  ⟨_, pe_or (pe_wp a) (pe_wp _), fun σ H0 L H w en => ex_wp h k w en fun v H' ⟨d, L', n', s', w', i, _, t, e, r⟩ => by
    subst e
    refine ⟨t, dp_bl i, ?_⟩
    cases t with
    | true => exact ⟨.dat (.bool true), L', n', s', w', .bl true, .no rfl, r⟩
    | false => exact ex_wp r k w' (en.go s') fun v2 H2 z => z.back s'⟩
theorem tw_and1 (h : TX G c a ρ n RT) : TW G c (.BoolOp .And [a] pos) ρ n RT := tw_pw fun X k => ⟨_, pw_and1 (pt_wp a), fun σ H0 L H w en => tx_wp h k w en fun v H' z => z⟩
theorem tw_or1 (h : TX G c a ρ n RT) : TW G c (.BoolOp .Or [a] pos) ρ n RT := tw_pw fun X k => ⟨_, pw_or1 (pt_wp a), fun σ H0 L H w en => tx_wp h k w en fun v H' z => z⟩
theorem tw_and {rest : List Expr} (h : TX G c a ρ n fun k n1 => if k = true then TW G c (.BoolOp .And (b :: rest) pos) ρ n1 RT else RT false n1) : TW G c (.BoolOp .And (a :: b :: rest) pos) ρ n RT := tw_pw fun X k =>
  ⟨_, pw_and (pt_wp a) (pw_wp _), fun σ H0 L H w en => tx_wp h k w en fun t H' ⟨L', n', s', w', r⟩ => by
    cases t with
    | true => exact tw_wp r k w' (en.go s') fun v2 H2 z => z.back s'
    | false => exact ⟨L', n', s', w', r⟩⟩
theorem tw_or {rest : List Expr} (h : TX G c a ρ n fun k n1 => if k = true then RT true n1 else TW G c (.BoolOp .Or (b :: rest) pos) ρ n1 RT) : TW G c (.BoolOp .Or (a :: b :: rest) pos) ρ n RT := tw_pw fun X k =>
  ⟨_, pw_or (pt_wp a) (pw_wp _), fun σ H0 L H w en => tx_wp h k w en fun t H' ⟨L', n', s', w', r⟩ => by
    cases t with
    | true => exact ⟨L', n', s', w', r⟩
    | false => exact tw_wp r k w' (en.go s') fun v2 H2 z => z.back s'⟩
theorem ex_if {t : Expr} (h : TX G c t ρ n fun k n1 => if k = true then EX G c a ρ n1 R else EX G c b ρ n1 R) : EX G c (.IfExp t a b pos) ρ n R := ex_pe fun X k =>
  ⟨_, pe_ifExp (pt_wp t) (pe_wp a) (pe_wp b), fun σ H0 L H w en => tx_wp h k w en fun t H' ⟨L', n', s', w', r⟩ => by
    cases t with
    | true => exact ex_wp r k w' (en.go s') fun v2 H2 z => z.back s'
    | false => exact ex_wp r k w' (en.go s') fun v2 H2 z => z.back s'⟩

/-! ### argument lists, displays -/
theorem ax_nil (r : RA [] n) : AX G c [] ρ n RA := ax_pa fun X k => ⟨_, pa_nil, fun σ H0 L H w en => av_now w .nil r⟩
theorem ax_cons (h : EX G c e ρ n fun d n1 => AX G c es ρ n1 fun ds n2 => RA (d :: ds) n2) (hs : ∀ env, starEach (e :: es) env = (false, eval e env) :: starEach es env := by intro _; rfl) : AX G c (e :: es) ρ n RA := ax_pa fun X k =>
  ⟨_, pa_cons (pe_wp e) (pa_wp es) (hs _), fun σ H0 L H w en => ex_wp h k w en fun v H' ⟨d, L', n', s', w', i, _, r⟩ => ax_wp r k w' (en.go s') fun vs H2 ⟨ds, L2, n2, s2, w2, i2, r2⟩ =>
    ⟨d :: ds, L2, n2, s'.trans s2, w2, .cons (i.go s2) i2, r2⟩⟩
/-- all plain data -/
def datAll : List D → Option (List Dat)
  | [] => some []
  | .dat d :: r => (datAll r).map (d :: ·)
  | _ :: _ => none
theorem datAll_is {src : Option Addr} {L H : Hp} : ∀ {ds : List D} {vs : List V} {xs : List Dat}, IsAll G src L H vs ds → datAll ds = some xs → DpAll G.K L vs xs
  | [], _, _, .nil, e => by cases e; exact .nil
  | .dat d :: r, _, xs, .cons h t, e => by
    cases q : datAll r with
    | none => simp [datAll, q] at e
    | some ys =>
      have e' : d :: ys = xs := by simpa [datAll, q] using e
      subst e'
      exact .cons h (datAll_is t q)
theorem ex_tup {x1 : Nat} (h : AX G c es ρ n fun ds n1 => ∃ xs, datAll ds = some xs ∧ xs.length ≤ 1000 ∧ R (.dat (.tuple xs)) n1) : EX G c (.Tuple es x1 pos) ρ n R := ex_pe fun X k =>
  ⟨_, pe_tup (pa_wp es), fun σ H0 L H w en => ax_wp h k w en fun vs H' ⟨ds, L', n', s', w', i, xs, e, hl, r⟩ => by
    have q := datAll_is i e
    exact ⟨by rw [dps_len q]; exact Nat.le_of_lt (small1000 hl), fun p hp => (ev_tup w' hp q r).back s'⟩⟩
theorem ex_lst (h : AX G c es ρ n fun ds n1 => ∃ xs, datAll ds = some xs ∧ xs.length ≤ 1000 ∧ R (.dat (.list xs)) n1) : EX G c (.List es pos) ρ n R := ex_pe fun X k =>
  ⟨_, pe_lst (pa_wp es), fun σ H0 L H w en => ax_wp h k w en fun vs H' ⟨ds, L', n', s', w', i, xs, e, hl, r⟩ => by
    have q := datAll_is i e
    exact ⟨by rw [dps_len q]; exact Nat.le_of_lt (small1000 hl), fun p hp => (ev_lst w' hp q r).back s'⟩⟩
theorem ex_lstO (h : AX G c es ρ n fun ds n1 => ∃ xs, datAll ds = some xs ∧ xs.length ≤ 1000 ∧ R (.own xs) n1) : EX G c (.List es pos) ρ n R := ex_pe fun X k =>
  ⟨_, pe_lst (pa_wp es), fun σ H0 L H w en => ax_wp h k w en fun vs H' ⟨ds, L', n', s', w', i, xs, e, hl, r⟩ => by
    have q := datAll_is i e
    exact ⟨by rw [dps_len q]; exact Nat.le_of_lt (small1000 hl), fun p hp => (ev_own w' hp q r).back s'⟩⟩
end
end DL
/-! The data level: slots, targets, statements, what is walked, loops. -/
namespace DL
open PySem PySem.Spec L2

/-! ### slots -/
section
variable {G : Wd} {c : Cxt} {H0 L0 Lb Hb L H : Hp} {σ : L2.St} {ρ : Rho} {i : Nat} {x : Str} {v : V} {d : D} {n : Nat}
theorem is_mine {src : Option Addr} (h : Is G src L H v d) (m : mine d = true) : ∃ p o, v = .ref p ∧ H p = some o := by
  cases d with
  | own ds => obtain ⟨p, xs, e, _, _, h3, _⟩ := h; exact ⟨p, _, e, h3⟩
  | dic ks => obtain ⟨p, e, _, _, h3⟩ := h; exact ⟨p, _, e, h3⟩
  | fresh fa fx => obtain ⟨e, _, _, h3⟩ := h; exact ⟨fa, _, e, h3⟩
  | dat _ => cases m
  | src => cases m
  | keys _ => cases m
  | set _ => cases m
  | obj _ => cases m
  | ntup _ => cases m
/-- a slot is stored: the value was made since Hb -/
theorem En.set (en : En G c H0 Lb Hb σ ρ) (h0 : mine d = true → ∀ p, Hb p = none → H0 p = none) (s : Step c.src Lb Hb L H) (hx : c.N[i]? = some x) (hv : Vis c.sc x) (h : Is G c.src L H v d) (nw : New Hb v d) : En G c H0 L H (σ.set i (some v)) (ρ.set i (some d)) := by
  have old : ∀ {j : Nat} {e : D}, i ≠ j → (ρ.set i (some d))[j]? = some (some e) → ρ[j]? = some (some e) := fun {j e} hn q => by rwa [List.getElem?_set_ne hn] at q
  have new : ∀ {e : D}, (ρ.set i (some d))[i]? = some (some e) → e = d := fun {e} q => by
    by_cases hl : i < ρ.length
    · rw [List.getElem?_set_self hl] at q; exact (Option.some.inj (Option.some.inj q)).symm
    · rw [List.getElem?_eq_none (by rw [List.length_set]; omega)] at q; cases q
  have hi : i < σ.length := by rw [en.len]; exact (List.getElem?_eq_some_iff.mp hx).1
  refine ⟨by rw [List.length_set]; exact en.len, fun j e q => ?_, fun j e p q m r => ?_, fun j k e f p hn q1 q2 m1 m2 r1 r2 => ?_⟩
  · by_cases hj : i = j
    · subst hj
      rw [new q]
      exact ⟨x, v, hx, hv, List.getElem?_set_self hi, h⟩
    · obtain ⟨y, u, h1, h2, h3, h4⟩ := en.at_ j e (old hj q)
      exact ⟨y, u, h1, h2, by rw [List.getElem?_set_ne hj]; exact h3, h4.go s⟩
  · by_cases hj : i = j
    · subst hj
      rw [new q] at m
      rw [List.getElem?_set_self hi] at r
      exact h0 m p (nw m p (Option.some.inj (Option.some.inj r)))
    · rw [List.getElem?_set_ne hj] at r
      exact en.own j e p (old hj q) m r
  · have at' : ∀ {j : Nat} {e : D} {p : Addr}, i ≠ j → (ρ.set i (some d))[j]? = some (some e) → mine e = true → (σ.set i (some v))[j]? = some (some (.ref p)) → ∃ o, Hb p = some o := fun {j e p} hj q m r => by
      rw [List.getElem?_set_ne hj] at r
      obtain ⟨_, u, _, _, h3, h4⟩ := en.at_ j e (old hj q)
      rw [r] at h3
      have hu : V.ref p = u := Option.some.inj (Option.some.inj h3)
      obtain ⟨p', o, e1, e2⟩ := is_mine h4 m
      rw [← hu] at e1
      injection e1 with e1
      exact ⟨o, by rw [e1]; exact e2⟩
    by_cases hj : i = j
    · subst hj
      rw [new q1] at m1
      rw [List.getElem?_set_self hi] at r1
      have z := nw m1 p (Option.some.inj (Option.some.inj r1))
      obtain ⟨o, e⟩ := at' hn q2 m2 r2
      rw [z] at e; cases e
    · by_cases hk : i = k
      · subst hk
        rw [new q2] at m2
        rw [List.getElem?_set_self hi] at r2
        have z := nw m2 p (Option.some.inj (Option.some.inj r2))
        obtain ⟨o, e⟩ := at' hj q1 m1 r1
        rw [z] at e; cases e
      · rw [List.getElem?_set_ne hj] at r1
        rw [List.getElem?_set_ne hk] at r2
        exact en.apart j k e f p hn (old hj q1) (old hk q2) m1 m2 r1 r2
theorem En.lt (en : En G c H0 L H σ ρ) (h : ρ[i]? = some (some d)) : i < σ.length := by
  obtain ⟨_, u, _, _, h3, _⟩ := en.at_ i d h
  exact (List.getElem?_eq_some_iff.mp h3).1
/-- the object of a slot of one's own is written -/
theorem En.write (en : En G c H0 L H σ ρ) {p : Addr} {o : HO} {d' : D} (h : ρ[i]? = some (some d)) (m : mine d = true) (hp : σ[i]? = some (some (.ref p))) (h' : Is G c.src L (upd H p o) (.ref p) d') (m' : mine d' = true) : En G c H0 L (upd H p o) σ (ρ.set i (some d')) := by
  have hl : i < ρ.length := (List.getElem?_eq_some_iff.mp h).1
  have old : ∀ {j : Nat} {e : D}, i ≠ j → (ρ.set i (some d'))[j]? = some (some e) → ρ[j]? = some (some e) := fun {j e} hn q => by rwa [List.getElem?_set_ne hn] at q
  have new : ∀ {e : D}, (ρ.set i (some d'))[i]? = some (some e) → e = d' := fun {e} q => by
    rw [List.getElem?_set_self hl] at q; exact (Option.some.inj (Option.some.inj q)).symm
  have back : ∀ {j : Nat} {e : D}, (ρ.set i (some d'))[j]? = some (some e) → mine e = true → ∃ e', ρ[j]? = some (some e') ∧ mine e' = true := fun {j e} q me => by
    by_cases hj : i = j
    · subst hj; exact ⟨d, h, m⟩
    · exact ⟨e, old hj q, me⟩
  refine ⟨en.len, fun j e q => ?_, fun j e q' q me r => ?_, fun j k e f q' hn q1 q2 m1 m2 r1 r2 => ?_⟩
  · by_cases hj : i = j
    · subst hj
      obtain ⟨y, u, h1, h2, h3, _⟩ := en.at_ i d h
      rw [new q]
      exact ⟨y, .ref p, h1, h2, hp, h'⟩
    · obtain ⟨y, u, h1, h2, h3, h4⟩ := en.at_ j e (old hj q)
      refine ⟨y, u, h1, h2, h3, ?_⟩
      have ne : ∀ {q : Addr}, u = .ref q → mine e = true → q ≠ p := fun {q'} eu me z => by
        subst z
        exact en.apart i j d e q' hj h (old hj q) m me hp (by rw [h3, eu])
      cases e with
      | own ds => obtain ⟨q', xs, e1, e2, e3, e4, e5⟩ := h4; exact ⟨q', xs, e1, e2, e3, by rw [upd_ne (ne e1 rfl)]; exact e4, e5⟩
      | dic ks => obtain ⟨q', e1, e2, e3, e4⟩ := h4; exact ⟨q', e1, e2, e3, by rw [upd_ne (ne e1 rfl)]; exact e4⟩
      | fresh fa fx => obtain ⟨e1, e2, e3, e4⟩ := h4; exact ⟨e1, e2, e3, by rw [upd_ne (ne e1 rfl)]; exact e4⟩
      | dat _ => exact h4
      | src => exact h4
      | keys _ => exact h4
      | set _ => exact h4
      | obj _ => exact h4
      | ntup _ => exact h4
  · obtain ⟨e', h1, h2⟩ := back q me
    exact en.own j e' q' h1 h2 r
  · obtain ⟨e', h1, h2⟩ := back q1 m1
    obtain ⟨f', h3, h4⟩ := back q2 m2
    exact en.apart j k e' f' q' hn h1 h3 h2 h4 r1 r2
/-- a state behind a write to an object of one's own -/
theorem Step.wrote {src : Option Addr} {p : Addr} {o u : HO} (s : Step src L0 H0 L H) (h0 : H0 p = none) (hp : H p = some u) : Step src L0 H0 L (upd H p o) :=
  ⟨fun a x e ns => by rw [upd_ne (ne_of_none e h0)]; exact s.keep a x e ns, fun a e => by
    by_cases q : a = p
    · rw [q]; exact h0
    · rw [upd_ne q] at e; exact s.live a e, s.grow, s.frsh⟩
theorem Wl.wrote {src : Option Addr} {p : Addr} {o : HO} (w : Wl G src L H n) (lp : L p = none) (ns : src ≠ some p) : Wl G src L (upd H p o) n :=
  ⟨fun a u e => by rw [upd_ne (ne_of_none e lp)]; exact w.sub a u e, fun q e => by
    obtain ⟨q1, sc, nums, cc, r, t, q2, q3⟩ := w.src q e
    exact ⟨q1, sc, nums, cc, r, t, by rw [upd_ne (fun z => ns (by rw [← z]; exact e))]; exact q2, q3⟩, w.few⟩
/-- a list of one's own is shared from now on -/
theorem En.frz (en : En G c H0 L H σ ρ) (s : Step c.src L0 H0 L H) (w : Wl G c.src L H n) {ds : List Dat} (h : ρ[i]? = some (some (.own ds))) : ∃ L', Step c.src L0 H0 L' H ∧ Wl G c.src L' H n ∧ En G c H0 L' H σ (ρ.set i (some (.dat (.list ds)))) := by
  obtain ⟨y, u, h1, h2, h3, h4⟩ := en.at_ i _ h
  obtain ⟨p, xs, rfl, e2, e3, e4, e5⟩ := h4
  have h0 := en.own i _ p h rfl h3
  have hl : i < ρ.length := (List.getElem?_eq_some_iff.mp h).1
  have sl : Same L (upd L p (.lst xs)) := same_new e2
  have old : ∀ {j : Nat} {e : D}, i ≠ j → (ρ.set i (some (.dat (.list ds))))[j]? = some (some e) → ρ[j]? = some (some e) := fun {j e} hn q => by rwa [List.getElem?_set_ne hn] at q
  have new : ∀ {e : D}, (ρ.set i (some (.dat (.list ds))))[i]? = some (some e) → e = .dat (.list ds) := fun {e} q => by
    rw [List.getElem?_set_self hl] at q; exact (Option.some.inj (Option.some.inj q)).symm
  have nm : ∀ {j : Nat} {e : D}, (ρ.set i (some (.dat (.list ds))))[j]? = some (some e) → mine e = true → i ≠ j := fun {j e} q m z => by
    subst z; rw [new q] at m; cases m
  refine ⟨upd L p (.lst xs), ⟨s.keep, s.live, s.grow.trans sl, fun a a0 a1 => ?_⟩, ⟨fun a o q => ?_, fun q eq => ?_, w.few⟩, en.len, fun j e q => ?_, fun j e q' q m r => en.own j e q' (old (nm q m) q) m r,
    fun j k e f q' hn q1 q2 m1 m2 r1 r2 => en.apart j k e f q' hn (old (nm q1 m1) q1) (old (nm q2 m2) q2) m1 m2 r1 r2⟩
  · by_cases q : a = p
    · rw [q]; exact h0
    · rw [upd_ne q] at a1; exact s.frsh a a0 a1
  · by_cases z : a = p
    · subst z; rw [upd_same] at q; rw [← q]; exact e4
    · rw [upd_ne z] at q; exact w.sub a o q
  · obtain ⟨q1, sc, nums, cc, r, t, q2, q3, q4⟩ := w.src q eq
    exact ⟨by rw [upd_ne (fun z => e3 (by rw [← z]; exact eq))]; exact q1, sc, nums, cc, r, t, q2, ex_l sl q3, q4⟩
  · by_cases hj : i = j
    · subst hj
      rw [new q]
      exact ⟨y, .ref p, h1, h2, h3, Dp.lst (SqL.of upd_same) (ex_dps sl e5)⟩
    · obtain ⟨y', u', g1, g2, g3, g4⟩ := en.at_ j e (old hj q)
      refine ⟨y', u', g1, g2, g3, ?_⟩
      have ne : ∀ {q : Addr}, u' = .ref q → mine e = true → q ≠ p := fun {q'} eu me z => by
        subst z
        exact en.apart i j _ e q' hj h (old hj q) rfl me h3 (by rw [g3, eu])
      cases e with
      | dat d => exact ex_dp sl g4
      | src => exact g4
      | own es => obtain ⟨q', zs, a1, a2, a3, a4, a5⟩ := g4; exact ⟨q', zs, a1, by rw [upd_ne (ne a1 rfl)]; exact a2, a3, a4, ex_dps sl a5⟩
      | dic ks => obtain ⟨q', a1, a2, a3, a4⟩ := g4; exact ⟨q', a1, by rw [upd_ne (ne a1 rfl)]; exact a2, a3, a4⟩
      | fresh fa fx => obtain ⟨a1, a2, a3, a4⟩ := g4; exact ⟨a1, by rw [upd_ne (ne a1 rfl)]; exact a2, a3, a4⟩
      | keys ks => obtain ⟨a, Ls, a1, a2, a3, a4⟩ := g4; exact ⟨a, Ls, a1, sl _ _ a2, fun z hz => ex_t sl (a3 z hz), a4⟩
      | set ks => obtain ⟨a, Ls, a1, a2, a3, a4⟩ := g4; exact ⟨a, Ls, a1, sl _ _ a2, fun z hz => ex_t sl (a3 z hz), a4⟩
      | ntup ds => obtain ⟨a, o, xs, a1, a2, a3, a4⟩ := g4; exact ⟨a, o, xs, a1, sl _ _ a2, a3, ex_dps sl a4⟩
      | obj ks => obtain ⟨a, dx, z, a1, a2, a3⟩ := g4; exact ⟨a, dx, z, a1, sl _ _ a2, ex_dp sl a3⟩
theorem Step.under {src : Option Addr} {L1 : Hp} (s : Step src L0 H0 L H) (a : Same L0 L1) (b : Same L1 L) : Step src L1 H0 L H :=
  ⟨s.keep, s.live, b, fun x h q => s.frsh x (a.free h) q⟩
theorem Step.shift {src : Option Addr} {L1 H1 : Hp} (s : Step src L0 H0 L1 H1) (t : Step src L1 H0 L H) : Step src L0 H0 L H :=
  ⟨t.keep, t.live, s.grow.trans t.grow, fun x h q => by
    cases e : L1 x with
    | none => exact t.frsh x e q
    | some o => exact s.frsh x h (by rw [e]; simp)⟩
end

/-! ### targets -/
def wpG (X : Cx) (tg : Expr) : TG := fun v σ H Q => ∀ pins s u, Inv X pins σ H s → RelV v u → wpAny (model X.prog X.w) X.A (assign tg X.env u) (fun _ s' => ∃ σ' H', Inv X pins σ' H' s' ∧ Q σ' H') X.xe s
def wpGs (X : Cx) (ts : List Expr) : TGs := fun vs σ H Q => ∀ pins s us, Inv X pins σ H s → Vals vs us → wpAny (model X.prog X.w) X.A (assignInOrder ((assignEach ts X.env).map (·.2)) us) (fun _ s' => ∃ σ' H', Inv X pins σ' H' s' ∧ Q σ' H') X.xe s
theorem pg_wp {X : Cx} (tg : Expr) : PG X tg (wpG X tg) := ⟨fun pins s _ _ _ u _ I r h => h pins s u I r⟩
theorem pgs_wp {X : Cx} (ts : List Expr) : PGs X ts (wpGs X ts) := ⟨fun pins s _ _ _ us _ I r h => h pins s us I r⟩
section
variable (G : Wd) (c : Cxt)
/-- what is wanted behind a target: the slots vs alone may have changed -/
def GEnd (vs : List Nat) (H0 L H : Hp) (σ : L2.St) (R : Rho → Prop) : L2.St → Hp → Prop := fun σ' H' => H' = H ∧ wipe σ' vs = wipe σ vs ∧ ∃ ρ', En G c H0 L H σ' ρ' ∧ R ρ'
def BX (vs : List Nat) (tg : Expr) (d : Dat) (ρ : Rho) (R : Rho → Prop) : Prop :=
  ∀ X, Like G c X → ∀ H0 L H σ v, Same L H → Dp G.K L v d → En G c H0 L H σ ρ → wpG X tg v σ H (GEnd G c vs H0 L H σ R)
def BXs (vs : List Nat) (ts : List Expr) (ds : List Dat) (ρ : Rho) (R : Rho → Prop) : Prop :=
  ∀ X, Like G c X → ∀ H0 L H σ xs, Same L H → DpAll G.K L xs ds → En G c H0 L H σ ρ → wpGs X ts xs σ H (GEnd G c vs H0 L H σ R)
end
theorem wipe_set {σ : L2.St} {i : Nat} {x : Option V} : ∀ {vs : List Nat}, i ∈ vs → wipe (σ.set i x) vs = wipe σ vs
  | v :: vs, h => by
    unfold wipe
    by_cases e : i = v
    · subst e
      by_cases h' : i ∈ vs
      · rw [wipe_set h']
      · have aux : ∀ (vs : List Nat), (wipe (σ.set i x) vs).set i none = (wipe σ vs).set i none := by
          intro vs
          induction vs with
          | nil => simp [wipe]
          | cons w ws ih =>
            unfold wipe
            by_cases e : w = i
            · subst e; rw [List.set_set, List.set_set]; exact ih
            · rw [List.set_comm _ _ e, ih, List.set_comm _ _ (Ne.symm e)]
        exact aux vs
    · rw [wipe_set (List.mem_of_ne_of_mem e h)]
section
variable {G : Wd} {c : Cxt} {vs : List Nat} {tg : Expr} {ts : List Expr} {d : Dat} {ds : List Dat} {ρ : Rho} {R : Rho → Prop} {pos : Pos}
theorem loc_vis {sc : Scope} {x : Str} (h : Loc sc x) : Vis sc x := h.elim .inl fun q => .inr (.inl q)
theorem bx_name (i : Nat) {x : Str} (hx : c.N[i]? = some x) (hl : Loc c.sc x) (hf : c.fn x = true ∨ c.sc.names.lookup x = some .local) (hv : i ∈ vs) (r : R (ρ.set i (some (.dat d)))) : BX G c vs (.Name x pos) d ρ R := fun X k H0 L H σ v sl h en pins s u I ru => by
  have g := pg_name (X := X) (i := i) (x := x) (pos := pos) k.nd (by rw [k.N]; exact hx) (by rw [k.sc]; exact hl) (by rw [k.fn, k.sc]; exact hf)
  exact g.run pins s σ H v u _ I ru ⟨rfl, wipe_set hv, _, en.set (d := .dat d) (fun m => nomatch m) (.refl c.src L H) hx (loc_vis hl) h (.no rfl), r⟩
theorem bxs_nil (r : R ρ) : BXs G c vs [] [] ρ R := fun X k H0 L H σ xs sl h en pins s us I ru => by
  cases h
  exact pgs_nil.run pins s σ H [] us _ I ru ⟨rfl, rfl, rfl, ρ, en, r⟩
theorem bxs_cons (h : BX G c vs tg d ρ fun ρ1 => BXs G c vs ts ds ρ1 R) (hs : ∀ env, (assignEach (tg :: ts) env).map (·.2) = assign tg env :: (assignEach ts env).map (·.2) := by intro _; rfl) : BXs G c vs (tg :: ts) (d :: ds) ρ R := fun X k H0 L H σ xs sl hx en pins s us I ru => by
  cases hx with
  | @cons v vr _ _ h1 h2 =>
    refine (pgs_cons (pg_wp tg) (pgs_wp ts) (hs _)).run pins s σ H _ us _ I ru ⟨v, vr, rfl, ?_⟩
    exact fun pins s u I r => wpAny_mono (h X k H0 L H σ v sl h1 en pins s u I r) (fun _ s' ⟨σ', H', I', e1, e2, ρ', en', q⟩ => ⟨σ', H', I', by
      subst e1
      exact fun pins s us I r => wpAny_mono (q X k H0 L H' σ' vr sl h2 en' pins s us I r) (fun _ s' ⟨σ'', H'', I'', f1, f2, f3⟩ => ⟨σ'', H'', I'', f1, f2.trans e2, f3⟩) fun _ _ z => z⟩) fun _ _ z => z
theorem bx_tup {es : List Expr} {k2 : Nat} (h : ∃ ds, d = .tuple ds ∧ BXs G c vs es ds ρ R ∧ es.length = ds.length) (hn : ∀ env, (assignEach es env).length = es.length := by intro _; rfl) (hst : ∀ env, (assignEach es env).findIdx? (·.1) = none := by intro _; rfl) : BX G c vs (.Tuple es k2 pos) d ρ R := fun X k H0 L H σ v sl hd en => by
  obtain ⟨ds, rfl, h, hl⟩ := h
  obtain ⟨a, xs, rfl, hs, hr⟩ := dp_tup hd
  have g := pg_tup (X := X) (es := es) (k := k2) (pos := pos) k.calm (pgs_wp es) (hn _) (hst _)
  exact fun pins s u I ru => g.run pins s σ H _ u _ I ru ⟨a, xs, rfl, by rw [k.K]; exact ex_t sl hs, by rw [dps_len hr, hl], h X k H0 L H σ xs sl hr en⟩
end

/-! ### statements -/
section
variable {G : Wd} {c : Cxt} {e a b : Expr} {st : Stmt} {sts : List Stmt} {ρ : Rho} {n : Nat} {B : Bx} {pos pos' : Pos}
theorem sxs_nil (h : B.nx ρ n) : SXs G c [] ρ n B := sxs_pss fun X k => ⟨_, pss_nil, fun L0 H0 σ L H s w en => ⟨L, ρ, n, s, w, en, h⟩⟩
theorem sxs_cons (h : SX G c st ρ n { B with nx := fun ρ1 n1 => SXs G c sts ρ1 n1 B }) : SXs G c (st :: sts) ρ n B := sxs_pss fun X k => ⟨_, pss_cons (ps_wp st) (pss_wp sts), fun L0 H0 σ L H s w en =>
  sx_wp h k s w en (fun σ' H' ⟨L', ρ', n', s', w', en', q⟩ => sxs_wp q k s' w' en' (fun _ _ z => z) (fun _ _ z => z) (fun _ _ z => z) fun _ _ z => z) (fun _ _ z => z) (fun _ _ z => z) fun _ _ z => z⟩
theorem sxs_one (h : SX G c st ρ n B) : SXs G c [st] ρ n B := sxs_cons (B := B) (by
  intro X k L0 H0 pins s σ L H I sp w en
  refine thn (h X k L0 H0 pins s σ L H I sp w en) fun f s' z => sp_mono z (fun σ' H' ⟨L', ρ', n', s1, w1, en1, q⟩ => ⟨L', ρ', n', s1, w1, en1, sxs_nil q⟩) (fun _ _ z => z) (fun _ _ z => z) fun _ _ z => z)
/-- a list of one's own is shared from here on -/
theorem sxs_frz (i : Nat) {ds : List Dat} (hi : ρ[i]? = some (some (.own ds))) (h : SXs G c sts (ρ.set i (some (.dat (.list ds)))) n B) : SXs G c sts ρ n B := fun X k L0 H0 pins s σ L H I sp w en => by
  obtain ⟨L', s', w', en'⟩ := en.frz sp w hi
  exact h X k L0 H0 pins s σ L' H I s' w' en'
theorem sx_asg (i : Nat) {x : Str} (hx : c.N[i]? = some x) (hl : Loc c.sc x) (hf : c.fn x = true ∨ c.sc.names.lookup x = some .local) (h : EX G c e ρ n fun d n1 => B.nx (ρ.set i (some d)) n1) (hs : ∀ env, swapsWith e (some (.Name x pos')) pos.line env = pure false := by intro _; rfl) : SX G c (.Assign [.Name x pos'] e pos) ρ n B := sx_ps fun X k =>
  ⟨_, ps_asg (pe_wp e) (pg_wp _) (hs _) (by first | rfl | (simp [swappedStores] <;> rfl)) rfl, fun L0 H0 σ L H s w en => ex_wp h k w en fun v H' ⟨d, L', n', s', w', i', nw, r⟩ pins st u I ru => by
    have g := pg_name (X := X) (i := i) (x := x) (pos := pos') k.nd (by rw [k.N]; exact hx) (by rw [k.sc]; exact hl) (by rw [k.fn, k.sc]; exact hf)
    exact g.run pins st σ H' v u _ I ru ⟨L', _, n', s.trans s', w', en.set (fun _ p => s.live p) s' hx (loc_vis hl) i' nw, r⟩⟩
theorem sx_ret (h : EX G c e ρ n B.rt) : SX G c (.Return (some e) pos) ρ n B := sx_ps fun X k => ⟨_, ps_ret (pe_wp e), fun L0 H0 σ L H s w en => ex_wp h k w en fun v H' ⟨d, L', n', s', w', i', nw, r⟩ => ⟨d, L', n', s.trans s', w', i', nw.back s, r⟩⟩
theorem sx_expr (h : EX G c e ρ n fun _ n1 => B.nx ρ n1) (hs : ∀ env, swapsWith e none pos.line env = pure false := by intro _; rfl) : SX G c (.Expr e pos) ρ n B := sx_ps fun X k => ⟨_, ps_expr (pe_wp e) (hs _), fun L0 H0 σ L H s w en => ex_wp h k w en fun v H' ⟨d, L', n', s', w', i', nw, r⟩ => ⟨L', ρ, n', s.trans s', w', en.go s', r⟩⟩
theorem sx_if {t : Expr} {p q : List Stmt} (h : TX G c t ρ n fun k n1 => if k = true then SXs G c p ρ n1 B else SXs G c q ρ n1 B) : SX G c (.If t p q pos) ρ n B := sx_ps fun X k => ⟨_, ps_if (pt_wp t) (pss_wp p) (pss_wp q), fun L0 H0 σ L H s w en => tx_wp h k w en fun t H' ⟨L', n', s', w', r⟩ => by
  cases t with
  | true => exact sxs_wp r k (s.trans s') w' (en.go s') (fun _ _ z => z) (fun _ _ z => z) (fun _ _ z => z) fun _ _ z => z
  | false => exact sxs_wp r k (s.trans s') w' (en.go s') (fun _ _ z => z) (fun _ _ z => z) (fun _ _ z => z) fun _ _ z => z⟩
/-- x, y = a, b -/
theorem sx_par (i j : Nat) {x y : Str} {px py pt pt2 : Pos} {kt k2 : Nat} (hij : i ≠ j) (hx : c.N[i]? = some x) (hy : c.N[j]? = some y) (lx : c.sc.names.lookup x = some .local) (ly : c.sc.names.lookup y = some .local)
    (h : EX G c a ρ n fun d1 n1 => EX G c b ρ n1 fun d2 n2 => (mine d1 = false ∨ mine d2 = false) ∧ B.nx ((ρ.set i (some d1)).set j (some d2)) n2)
    (ha : ∀ env, starEach [a, b] env = (false, eval a env) :: starEach [b] env := by intro _; rfl) (hb : ∀ env, starEach [b] env = (false, eval b env) :: starEach [] env := by intro _; rfl)
    (hw : ∀ env : Env, env.scope.kind = .function → env.scope.names.lookup x = some .local → env.scope.names.lookup y = some .local → swappedStores [.Tuple [.Name x px, .Name y py] kt pt] (.Tuple [a, b] k2 pt2) env = pure (some [x, y]))
    (hs : ∀ env, swapsWithSole [.Tuple [.Name x px, .Name y py] kt pt] (.Tuple [a, b] k2 pt2) pos.line env = pure false := by intro _; rfl) (hk : c.sc.kind = .function) : SX G c (.Assign [.Tuple [.Name x px, .Name y py] kt pt] (.Tuple [a, b] k2 pt2) pos) ρ n B := sx_ps fun X k => by
  refine ⟨_, ps_par (i := i) (j := j) (px := px) (py := py) (kt := kt) (pt := pt) (k2 := k2) (pt2 := pt2) (pos := pos) k.calm k.nd (by rw [k.N]; exact hx) (by rw [k.N]; exact hy) hij (by rw [k.sc]; exact lx) (by rw [k.sc]; exact ly) (pa_cons (pe_wp a) (pa_cons (pe_wp b) pa_nil (hb _)) (ha _))
    (hw X.env (by rw [k.sc]; exact hk) (by rw [k.sc]; exact lx) (by rw [k.sc]; exact ly)) (hs _), fun L0 H0 σ L H s w en => ?_⟩
  refine ex_wp h k w en fun v H1 ⟨d1, L1, n1, s1, w1, i1, nw1, r1⟩ => ex_wp r1 k w1 (en.go s1) fun u H2 ⟨d2, L2, n2, s2, w2, i2, nw2, hm, r2⟩ => ?_
  refine ⟨v, u, rfl, ?_⟩
  rcases hm with hm | hm
  · have e2 := (en.go s1).set (fun _ p => (s.trans s1).live p) s2 hy (.inl ly) i2 nw2
    have e1 := e2.set (fun m => by rw [hm] at m; cases m) (.refl c.src L2 H2) hx (.inl lx) (i1.go s2) (.no hm)
    rw [List.set_comm _ _ (Ne.symm hij), List.set_comm _ _ (Ne.symm hij)] at e1
    exact ⟨L2, _, n2, (s.trans s1).trans s2, w2, e1, r2⟩
  · have e1 := en.set (fun _ p => s.live p) (s1.trans s2) hx (.inl lx) (i1.go s2) nw1
    have e2 := e1.set (fun m => by rw [hm] at m; cases m) (.refl c.src L2 H2) hy (.inl ly) i2 (.no hm)
    exact ⟨L2, _, n2, (s.trans s1).trans s2, w2, e2, r2⟩
end
end DL
/-! The data level: what is walked, for, list comprehensions. -/
namespace DL
open PySem PySem.Spec L2

/-- the iterator J gives these data, while L stands -/
structure Runs (G : Wd) (J : It) (L : Hp) (ds : List Dat) : Prop where
  ex : ∃ (Gd : Hp → Prop) (Y : Nat → Hp → V → Hp → Prop), Walk J ds.length Gd Y ∧ (∀ H, Same L H → Gd H) ∧
    ∀ i H x H' L2, Same L L2 → Same L2 H → i < ds.length → Y i H x H' → ∃ L2' d, Same H H' ∧ Same L2 L2' ∧ Same L2' H' ∧ (∀ a, L2 a = none → L2' a ≠ none → H a = none) ∧ ds[i]? = some d ∧ Dp G.K L2' x d
section
variable {G : Wd} {L : Hp} {ds : List Dat}
theorem runs_list {a : Addr} {xs : List V} (h : SqL G.K L a xs) (r : DpAll G.K L xs ds) : Runs G (Itl G.K a) L ds := by
  refine ⟨⟨_, _, (by rw [← dps_len r]; exact walk_list : Walk (Itl G.K a) ds.length (fun H => SqL G.K H a xs) (YAt xs)), fun H s => ex_l s h, fun i H x H' L2 s1 s2 hi y => ?_⟩⟩
  obtain ⟨e, q⟩ := y
  subst e
  obtain ⟨d, h1, h2⟩ := dps_at r q
  exact ⟨L2, d, fun _ _ z => z, fun _ _ z => z, s2, fun a h q => absurd h q, h1, ex_dp s1 h2⟩
theorem runs_tup {a : Addr} {xs : List V} (h : SqT G.K L a xs) (r : DpAll G.K L xs ds) : Runs G (Itt G.K a) L ds := by
  refine ⟨⟨_, _, (by rw [← dps_len r]; exact walk_tup : Walk (Itt G.K a) ds.length (fun H => SqT G.K H a xs) (YAt xs)), fun H s => ex_t s h, fun i H x H' L2 s1 s2 hi y => ?_⟩⟩
  obtain ⟨e, q⟩ := y
  subst e
  obtain ⟨d, h1, h2⟩ := dps_at r q
  exact ⟨L2, d, fun _ _ z => z, fun _ _ z => z, s2, fun a h q => absurd h q, h1, ex_dp s1 h2⟩
/-- the ints from lo on -/
def rngD (lo : Int) (n : Nat) : List Dat := (List.range n).map fun i => PyData.int (lo + (i : Nat))
theorem rngD_len (lo : Int) (n : Nat) : (rngD lo n).length = n := by unfold rngD; rw [List.length_map, List.length_range]
theorem rngD_get {lo : Int} {n i : Nat} (h : i < n) : (rngD lo n)[i]? = some (.int (lo + i)) := by
  unfold rngD
  rw [List.getElem?_map, List.getElem?_range h] <;> rfl
theorem runs_range {lo : Int} {n : Nat} : Runs G (Itr lo n) L (rngD lo n) := by
  refine ⟨⟨_, _, (by rw [rngD_len]; exact walk_range : Walk (Itr lo n) (rngD lo n).length (fun _ => True) (YFn fun i => .int (lo + i))), fun H s => trivial, fun i H x H' L2 s1 s2 hi y => ?_⟩⟩
  obtain ⟨e, q⟩ := y
  subst e
  rw [rngD_len] at hi
  exact ⟨L2, .int (lo + i), fun _ _ z => z, fun _ _ z => z, s2, fun a h q => absurd h q, rngD_get hi, by rw [q]; exact .int _⟩
/-- new pairs of what two functions of the place give -/
theorem runs_pair {J : It} {n : Nat} {Gd : Hp → Prop} {f g : Nat → Option V} (w : Walk J n Gd (YPair f g)) (hg : ∀ H, Same L H → Gd H) (hn : ds.length = n) (h : ∀ i x y, i < n → f i = some x → g i = some y → ∃ d e, ds[i]? = some (.tuple [d, e]) ∧ Dp G.K L x d ∧ Dp G.K L y e) : Runs G J L ds := by
  refine ⟨⟨_, _, (by rw [hn]; exact w : Walk J ds.length Gd (YPair f g)), hg, fun i H v H' L2 s1 s2 hi y => ?_⟩⟩
  obtain ⟨T, x, y, e1, e2, e3, e4, e5⟩ := y
  subst e1 e3
  obtain ⟨d, e, h1, h2, h3⟩ := h i x y (by omega) e4 e5
  have l2 : L2 T = none := s2.free e2
  refine ⟨upd L2 T (.tup [x, y]), _, same_new e2, same_new l2, same_upd2 s2, fun a q1 q2 => ?_, h1, .tup (SqT.of upd_same) (.cons (ex_dp (s1.trans (same_new l2)) h2) (.cons (ex_dp (s1.trans (same_new l2)) h3) .nil))⟩
  by_cases q : a = T
  · rw [q]; exact e2
  · rw [upd_ne q] at q2; exact absurd q1 q2
end

section
variable (G : Wd) (c : Cxt)
/-- what is walked by a for, in a comprehension -/
def IX (tg iter : Expr) (ρ : Rho) (n : Nat) (R : List Dat → Nat → Prop) : Prop :=
  ∀ X, Like G c X → ∃ wi, PI X tg iter wi ∧ ∀ σ H0 L H, Wl G c.src L H n → En G c H0 L H σ ρ → ∀ Q : It → Hp → Prop,
    (∀ J H' L' n' ds, Step c.src L H L' H' → Wl G c.src L' H' n' → Runs G J L' ds → R ds n' → Q J H') → wi σ H Q
end
section
variable {G : Wd} {c : Cxt} {tg e a b : Expr} {es : List Expr} {ρ : Rho} {n : Nat} {R : List Dat → Nat → Prop} {pos p : Pos}
theorem ix_list (h : EX G c e ρ n fun d n1 => ∃ ds, d = .dat (.list ds) ∧ R ds n1) : IX G c tg e ρ n R := fun X k =>
  ⟨_, pi_list (pe_wp e), fun σ H0 L H w en Q q => ex_wp h k w en fun v H' ⟨d, L', n', s', w', i', _, ds, e1, r⟩ => by
    subst e1
    obtain ⟨a, xs, rfl, hs, hr⟩ := dp_lst i'
    exact ⟨a, rfl, ⟨xs, by rw [k.K]; exact ex_l w'.sub hs⟩, q _ _ L' n' ds s' w' (by rw [k.K]; exact runs_list hs hr) r⟩⟩
theorem ix_tup (h : EX G c e ρ n fun d n1 => ∃ ds, d = .dat (.tuple ds) ∧ R ds n1) : IX G c tg e ρ n R := fun X k =>
  ⟨_, pi_tup (pe_wp e), fun σ H0 L H w en Q q => ex_wp h k w en fun v H' ⟨d, L', n', s', w', i', _, ds, e1, r⟩ => by
    subst e1
    obtain ⟨a, xs, rfl, hs, hr⟩ := dp_tup i'
    exact ⟨a, rfl, ⟨xs, by rw [k.K]; exact ex_t w'.sub hs⟩, q _ _ L' n' ds s' w' (by rw [k.K]; exact runs_tup hs hr) r⟩⟩
theorem gl_of {X : Cx} {x : Str} (k : Like G c X) (h : c.sc.names.lookup x = some .globalImplicit) : Gl X x := by
  show X.env.scope.names.lookup x = _
  rw [k.sc]; exact h
theorem ix_range1 (hg : c.sc.names.lookup ("range" : Str) = some .globalImplicit) (hm : G.mg "range" = none) (h : EX G c a ρ n fun d n1 => ∃ m : Int, d = .dat (.int m) ∧ -1000000 < m ∧ m < 1000000 ∧ R (rngD 0 m.toNat) n1) (hs : ∀ env, starEach [a] env = [(false, eval a env)] := by intro _; rfl) : IX G c tg (.Call (.Name "range" p) [a] [] pos) ρ n R := fun X k =>
  ⟨_, pi_range1 (gl_of k hg) (by rw [k.mg]; exact hm) (pa_cons (pe_wp a) pa_nil (hs _)) (hs _), fun σ H0 L H w en Q q => ex_wp h k w en fun v H' ⟨d, L', n', s', w', i', _, m, e1, h0, h1, r⟩ => by
    subst e1
    obtain rfl := dp_int i'
    exact ⟨m, rfl, by omega, by omega, q _ _ L' n' _ s' w' runs_range r⟩⟩
theorem ix_range2 (hg : c.sc.names.lookup ("range" : Str) = some .globalImplicit) (hm : G.mg "range" = none) (h : EX G c a ρ n fun d n1 => EX G c b ρ n1 fun d2 n2 => ∃ l m : Int, d = .dat (.int l) ∧ d2 = .dat (.int m) ∧ -1000000 < l ∧ l < 1000000 ∧ -1000000 < m ∧ m < 1000000 ∧ R (rngD l (m - l).toNat) n2)
    (hs : ∀ env, starEach [a, b] env = [(false, eval a env), (false, eval b env)] := by intro _; rfl) (hs2 : ∀ env, starEach [b] env = [(false, eval b env)] := by intro _; rfl) : IX G c tg (.Call (.Name "range" p) [a, b] [] pos) ρ n R := fun X k =>
  ⟨_, pi_range2 (gl_of k hg) (by rw [k.mg]; exact hm) (pa_cons (pe_wp a) (pa_cons (pe_wp b) pa_nil (hs2 _)) (by rw [hs, hs2])) (hs _) (hs2 _), fun σ H0 L H w en Q q => ex_two (R2 := fun d d2 n2 => ∃ l m : Int, d = .dat (.int l) ∧ d2 = .dat (.int m) ∧ -1000000 < l ∧ l < 1000000 ∧ -1000000 < m ∧ m < 1000000 ∧ R (rngD l (m - l).toNat) n2) k w en h fun x y d1 d2 L' H' n' s' w' i1 i2 _ _ ⟨l, m, e1, e2, h0, h1, h2, h3, r⟩ => by
    subst e1 e2
    obtain rfl := dp_int i1
    obtain rfl := dp_int i2
    exact ⟨l, m, rfl, ⟨by omega, by omega, by omega, by omega⟩, q _ _ L' n' _ s' w' runs_range r⟩⟩

/-! ### for -/
theorem sx_for (vs : List Nat) {body : List Stmt} {B : Bx} (h : IX G c tg e ρ n fun ds n1 => ∃ I : Nat → Rho → Nat → Prop, I 0 ρ n1 ∧
      (∀ i d ρ2 n2, ds[i]? = some d → I i ρ2 n2 → BX G c vs tg d ρ2 fun ρ3 => SXs G c body ρ3 n2 { nx := I (i + 1), ct := I (i + 1), bk := B.nx, rt := B.rt }) ∧ ∀ ρ2 n2, I ds.length ρ2 n2 → B.nx ρ2 n2)
    (hs : ∀ env x, foldedSetIterable e env x = pure x := by intro _ _; rfl) : SX G c (.For tg e body [] pos) ρ n B := sx_ps fun X k => by
  obtain ⟨wi, pi, hw⟩ := h X k
  refine ⟨_, ps_for (by rw [k.xe]; exact PassesOwn.never) k.calm pi (pg_wp tg) (pss_wp body) (hs _), fun L0 H0 σ L H s0 w en => ?_⟩
  refine hw σ H0 L H w en _ fun J H1 L1 n1 ds s1 w1 ru ⟨I, i0, it, ie⟩ => ?_
  obtain ⟨Gd, Y, W, hG, hY⟩ := ru.ex
  refine for_it W (fun i σ' H' => ∃ L' ρ' n', Step c.src L0 H0 L' H' ∧ Wl G c.src L' H' n' ∧ En G c H0 L' H' σ' ρ' ∧ Same L1 L' ∧ I i ρ' n') ⟨L1, ρ, n1, s0.trans s1, w1, en.go s1, fun _ _ z => z, i0⟩
    (fun i σ' H' _ ⟨L', ρ', n', s', w', en', sm, hi⟩ => hG H' (sm.trans w'.sub)) (fun i x σ' Ha Hb hi ⟨L', ρ', n', s', w', en', sm, hI⟩ y => ?_) fun σ' H' ⟨L', ρ', n', s', w', en', sm, hI⟩ => ⟨L', ρ', n', s', w', en', ie ρ' n' hI⟩
  obtain ⟨L2, d, a1, a2, a3, a4, a5, a6⟩ := hY i Ha x Hb L' sm w'.sub hi y
  have st := Step.of (src := c.src) a1 a2 a4
  have w2 : Wl G c.src L2 Hb n' := w'.go a1 a2 a3 a4
  refine fun pins s u Iv r => thn (it i d ρ' n' a5 hI X k H0 L2 Hb σ' x w2.sub a6 (en'.go st) pins s u Iv r) fun _ sh ⟨σ2, H2, I2, e1, _, ρ2, en2, q⟩ => ?_
  subst e1
  have sT := s'.trans st
  refine ⟨σ2, H2, I2, sxs_wp q k (sT.under (s0.grow.trans s1.grow) (sm.trans a2)) w2 en2 (fun σ3 H3 ⟨L3, ρ3, n3, b1, b2, b3, b4⟩ => ⟨L3, ρ3, n3, (s0.trans s1).shift b1, b2, b3, b1.grow, b4⟩)
    (fun v H3 ⟨d3, L3, n3, b1, b2, b3, b4, b5⟩ => ⟨d3, L3, n3, (s0.trans s1).shift b1, b2, b3, b4, b5⟩) (fun σ3 H3 ⟨L3, ρ3, n3, b1, b2, b3, b4⟩ => ⟨L3, ρ3, n3, (s0.trans s1).shift b1, b2, b3, b4⟩)
    fun σ3 H3 ⟨L3, ρ3, n3, b1, b2, b3, b4⟩ => ⟨L3, ρ3, n3, (s0.trans s1).shift b1, b2, b3, b1.grow, b4⟩⟩
end

/-! ### list comprehensions -/
def Cxt.blk (c : Cxt) (scope : Scope) : Cxt := { N := c.N, sc := relS scope c.sc, k := c.k, src := c.src, fn := fun x => scope.names.lookup x == some .cell }
def maskR : List Bool → Rho → Rho
  | [], _ => []
  | _, [] => []
  | b :: bs, d :: r => (if b = true then d else none) :: maskR bs r
theorem maskR_some : ∀ {vis : List Bool} {ρ : Rho} {i : Nat} {d : D}, (maskR vis ρ)[i]? = some (some d) → vis[i]? = some true ∧ ρ[i]? = some (some d)
  | [], _, _, _, h => by simp [maskR] at h
  | _ :: _, [], _, _, h => by simp [maskR] at h
  | b :: bs, x :: r, 0, d, h => by
    cases b with
    | true => exact ⟨rfl, by simpa [maskR] using h⟩
    | false => simp [maskR] at h
  | b :: bs, x :: r, i + 1, d, h => by
    have q := @maskR_some bs r i d (by simpa [maskR] using h)
    simpa using q
def visB (sc : Scope) (x : Str) : Bool := match sc.names.lookup x with
  | some .local => true
  | some .cell => true
  | some .free => true
  | _ => false
theorem visB_vis {sc : Scope} {x : Str} (h : visB sc x = true) : Vis sc x := by
  unfold visB at h
  unfold Vis
  split at h
  · exact .inl (by assumption)
  · exact .inr (.inl (by assumption))
  · exact .inr (.inr (by assumption))
  · cases h
/-- the slots that a block sees, its own apart -/
def visOk (N : List Str) (sc : Scope) (own : List (Str × Nat)) (vis : List Bool) : Bool :=
  (List.range vis.length).all fun i => match vis[i]? with
    | some true => (match N[i]? with | some x => visB sc x | none => false) && !(own.map (·.2)).contains i
    | _ => true
theorem visOk_at {N : List Str} {sc : Scope} {own : List (Str × Nat)} {vis : List Bool} (h : visOk N sc own vis = true) {i : Nat} (hi : vis[i]? = some true) : (∃ x, N[i]? = some x ∧ Vis sc x) ∧ i ∉ own.map (·.2) := by
  unfold visOk at h
  rw [List.all_eq_true] at h
  have q := h i (List.mem_range.mpr (List.getElem?_eq_some_iff.mp hi).1)
  rw [hi] at q
  simp only [Bool.and_eq_true] at q
  obtain ⟨q1, q2⟩ := q
  refine ⟨?_, fun m => ?_⟩
  · split at q1
    · rename_i x hx
      exact ⟨x, hx, visB_vis q1⟩
    · cases q1
  · have : (own.map (·.2)).contains i = true := List.contains_iff_mem.mpr m
    rw [this] at q2
    cases q2
theorem wipe_get {σ : L2.St} {i : Nat} : ∀ {vs : List Nat}, i ∉ vs → (wipe σ vs)[i]? = σ[i]?
  | [], _ => rfl
  | v :: vs, h => by
    rw [List.mem_cons, not_or] at h
    unfold wipe
    rw [List.getElem?_set_ne (Ne.symm h.1), wipe_get h.2]
theorem wipe_idem (σ : L2.St) (vs : List Nat) : wipe (wipe σ vs) vs = wipe σ vs := by
  have key : ∀ (ws : List Nat), (∀ w ∈ ws, w ∈ vs) → wipe (wipe σ vs) ws = wipe σ vs := by
    intro ws
    induction ws with
    | nil => intro _; rfl
    | cons w r ih =>
      intro h
      show (wipe (wipe σ vs) r).set w none = wipe σ vs
      rw [ih fun x hx => h x (List.mem_cons_of_mem _ hx)]
      have hw := h w List.mem_cons_self
      have none_at : ∀ (vs : List Nat), w ∈ vs → w < σ.length → (wipe σ vs)[w]? = some none := by
        intro vs
        induction vs with
        | nil => intro h; cases h
        | cons v vs ih2 =>
          intro h hl
          unfold wipe
          by_cases e : v = w
          · subst e; exact List.getElem?_set_self (by rw [wipe_length]; exact hl)
          · rw [List.getElem?_set_ne e]; exact ih2 (List.mem_of_ne_of_mem (Ne.symm e) h) hl
      by_cases hl : w < σ.length
      · refine List.ext_getElem? fun j => ?_
        by_cases e : w = j
        · subst e; rw [List.getElem?_set_self (by rw [wipe_length]; exact hl), none_at vs hw hl]
        · rw [List.getElem?_set_ne e]
      · rw [List.set_eq_of_length_le (by rw [wipe_length]; omega)]
  exact key vs fun _ h => h
section
variable {G : Wd} {c : Cxt} {H0 L H : Hp} {σ : L2.St} {ρ : Rho} {scope : Scope} {own : List (Str × Nat)} {vis : List Bool}
theorem En.blk (en : En G c H0 L H σ ρ) (hv : visOk c.N (relS scope c.sc) own vis = true) : En G (c.blk scope) H0 L H (wipe σ (own.map (·.2))) (maskR vis ρ) := by
  have get : ∀ {i : Nat} {d : D}, (maskR vis ρ)[i]? = some (some d) → (∃ x, c.N[i]? = some x ∧ Vis (relS scope c.sc) x) ∧ ρ[i]? = some (some d) ∧ (wipe σ (own.map (·.2)))[i]? = σ[i]? := fun {i d} h => by
    obtain ⟨h1, h2⟩ := maskR_some h
    obtain ⟨h3, h4⟩ := visOk_at hv h1
    exact ⟨h3, h2, wipe_get h4⟩
  refine ⟨by rw [wipe_length]; exact en.len, fun i d h => ?_, fun i d p h m r => ?_, fun i j d e p hn h1 h2 m1 m2 r1 r2 => ?_⟩
  · obtain ⟨⟨x, h1, h2⟩, h3, h4⟩ := get h
    obtain ⟨y, v, g1, g2, g3, g4⟩ := en.at_ i d h3
    exact ⟨x, v, h1, h2, by rw [h4]; exact g3, g4⟩
  · obtain ⟨_, h3, h4⟩ := get h
    exact en.own i d p h3 m (by rw [← h4]; exact r)
  · obtain ⟨_, a3, a4⟩ := get h1
    obtain ⟨_, b3, b4⟩ := get h2
    exact en.apart i j d e p hn a3 b3 m1 m2 (by rw [← a4]; exact r1) (by rw [← b4]; exact r2)
theorem Like.blk {X : Cx} (k : Like G c X) (scope : Scope) (s : Shared) (H : Hp) (C : Addr) (cl : List (Str × Addr)) (fp : List Addr) : Like G (c.blk scope) (X.blk s H scope (compEnvC scope cl C X.env) fp) :=
  ⟨k.N, k.nd, by show relS scope X.env.scope = relS scope c.sc; rw [k.sc], k.prog, k.w, k.K, k.mg, k.base, k.calm, k.room, rfl, rfl⟩
end
def blkE (X : Cx) (scope : Scope) (e : Expr) : TE := fun σ H Q => ∀ s H0 C cl fp, wpE (X.blk s H0 scope (compEnvC scope cl C X.env) fp) e σ H Q
def blkG (X : Cx) (scope : Scope) (e : Expr) : TG := fun v σ H Q => ∀ s H0 C cl fp, wpG (X.blk s H0 scope (compEnvC scope cl C X.env) fp) e v σ H Q
def wpTs (X : Cx) (ifs : List Expr) : TT := fun σ H Q => ∀ pins s, Inv X pins σ H s →
    wpAny (model X.prog X.w) X.A (forIn ifs true fun c r => if r = true then do let ok ← isTrue c X.env (eval c X.env); pure (ForInStep.yield ok) else pure (ForInStep.yield r)) (TP X pins σ Q) X.xe s
def blkTs (X : Cx) (scope : Scope) (ifs : List Expr) : TT := fun σ H Q => ∀ s H0 C cl fp, wpTs (X.blk s H0 scope (compEnvC scope cl C X.env) fp) ifs σ H Q
def TXs (G : Wd) (c : Cxt) (ifs : List Expr) (ρ : Rho) (n : Nat) (R : Bool → Nat → Prop) : Prop :=
  ∀ X, Like G c X → ∀ σ H0 L H, Wl G c.src L H n → En G c H0 L H σ ρ → wpTs X ifs σ H (TV G c.src L H R)
section
variable {G : Wd} {c : Cxt} {tg elt iter e : Expr} {ifs : List Expr} {scope : Scope} {ρ : Rho} {n : Nat} {R : D → Nat → Prop} {RT : Bool → Nat → Prop} {pos : Pos} {own : List (Str × Nat)} {vis : List Bool}
theorem txs_nil (r : RT true n) : TXs G c [] ρ n RT := fun X k σ H0 L H w en pins s I => pts_nil.run pins s σ H _ I (tv_now w r)
theorem txs_one (h : TX G c e ρ n RT) : TXs G c [e] ρ n RT := fun X k σ H0 L H w en pins s I => (pts_one (pt_wp e)).run pins s σ H _ I (tx_wp h k w en fun _ _ z => z)
/-- what a comprehension's clause asks: I by the turn and the list so far -/
abbrev Cl (G : Wd) (c : Cxt) (scope : Scope) (vs : List Nat) (tg elt : Expr) (ifs : List Expr) (ρ : Rho) (R : D → Nat → Prop) : List Dat → Nat → Prop := fun ds n1 => ds.length ≤ 1000000 ∧ ∃ I : Nat → List Dat → Nat → Prop, I 0 [] n1 ∧
  (∀ i d out n2, ds[i]? = some d → out.length ≤ i → I i out n2 → BX G (c.blk scope) vs tg d ρ fun ρ2 => TXs G (c.blk scope) ifs ρ2 n2 fun b n3 => if b = true then EX G (c.blk scope) elt ρ2 n3 fun y n4 => ∃ dy, y = .dat dy ∧ I (i + 1) (out ++ [dy]) n4 else I (i + 1) out n3) ∧
  ∀ out n2, I ds.length out n2 → R (.dat (.list out)) n2 ∨ R (.own out) n2
theorem lc_read {X : Cx} {wi : TI} {σ : L2.St} {H0 L H : Hp} (k : Like G c X) (hv : visOk c.N (relS scope c.sc) own vis = true) (w : Wl G c.src L H n) (en : En G c H0 L H σ ρ)
    (hw : ∀ Q : It → Hp → Prop, (∀ J H' L' n' ds, Step c.src L H L' H' → Wl G c.src L' H' n' → Runs G J L' ds → Cl G c scope (own.map (·.2)) tg elt ifs (maskR vis ρ) R ds n' → Q J H') → wi σ H Q) :
    ∀ Qv : VK, (∀ v H', EV G c.src L H R v H' → Qv v H') → tLc wi (blkG X scope tg) (blkTs X scope ifs) (blkE X scope elt) (own.map (·.2)) σ H Qv := fun Qv hq => by
  refine hw _ fun J H1 L1 n1 ds s1 w1 ru ⟨hz, I, i0, it, ie⟩ D hD => ?_
  obtain ⟨Gd, Y, W, hG, hY⟩ := ru.ex
  have nsD := w1.nsrc hD
  -- the list at D, beside the stable part
  refine lc_it W (fun i H' => ∃ L' n' acc out, Step c.src L H L' H' ∧ Wl G c.src L' H' n' ∧ En G c H0 L' H' σ ρ ∧ Same L1 L' ∧ L' D = none ∧ H' D = some (.lst acc) ∧ DpAll G.K L' acc out ∧ out.length ≤ i ∧ I i out n') ?_
    (fun i H' _ ⟨L', n', acc, out, s', w', en', sm, _⟩ => hG H' (sm.trans w'.sub)) (fun i x Ha Hb hi ⟨L', n', acc, out, s', w', en', sm, lD, aD, da, ho, hI⟩ y => ?_) fun H' ⟨L', n', acc, out, s', w', en', sm, lD, aD, da, ho, hI⟩ => ?_
  · exact ⟨L1, n1, [], [], s1.trans (.up _ hD), w1.up _ hD, (en.go s1).go (.up _ hD), fun _ _ z => z, w1.none_of hD, upd_same, .nil, Nat.le_refl _, i0⟩
  · obtain ⟨L2, d, a1, a2, a3, a4, a5, a6⟩ := hY i Ha x Hb L' sm w'.sub hi y
    have st := Step.of (src := c.src) a1 a2 a4
    have w2 : Wl G c.src L2 Hb n' := w'.go a1 a2 a3 a4
    have stay : ∀ {La Ha Lb Hb : Hp}, Step c.src La Ha Lb Hb → La D = none → ∀ {o}, Ha D = some o → Lb D = none ∧ Hb D = some o := fun {La Ha Lb Hb} q l {o} h => ⟨(by
      cases z : Lb D with
      | none => rfl
      | some u => (have z2 := q.frsh D l (by rw [z]; simp); rw [h] at z2; cases z2)), q.keep D o h nsD⟩
    have b2 := stay st lD aD
    intro sx HX C cl fp pins s u Iv r
    refine wpAny_mono (it i d out n' a5 ho hI _ (k.blk scope sx HX C cl fp) H0 L2 Hb _ x w2.sub a6 ((en'.go st).blk hv) pins s u Iv r) (fun _ sh ⟨σ2, H2, I2, e1, ew, ρ2, en2, q⟩ => ?_) fun _ _ z => z
    subst e1
    refine ⟨σ2, H2, I2, by rw [ew, wipe_idem], ?_⟩
    intro sx HX C cl fp pins s Iv
    refine wpAny_mono (q _ (k.blk scope sx HX C cl fp) σ2 H0 L2 H2 w2 en2 pins s Iv) (fun b sh2 ⟨H3, I3, L3, n3, t3, w3, r3⟩ => ⟨H3, I3, ?_⟩) fun _ _ z => z
    have b3 := stay t3 b2.1 b2.2
    have d3 := ex_dps t3.grow (ex_dps a2 da)
    have so := ((s'.trans st).trans t3)
    cases b with
    | false => exact ⟨L3, n3, acc, out, so, w3, en'.go (st.trans t3), sm.trans (a2.trans t3.grow), b3.1, b3.2, d3, by omega, r3⟩
    | true =>
      intro sx HX C cl fp
      refine ex_wp r3 (k.blk scope sx HX C cl fp) w3 (en2.go t3) fun v H4 ⟨dy, L4, n4, t4, w4, i4, _, dd, e4, hI4⟩ => ?_
      subst e4
      have b4 := stay t4 b3.1 b3.2
      have d4 := ex_dps t4.grow d3
      have lo : out.length ≤ 1000000 := by omega
      refine ⟨acc, b4.2, by rw [dps_len d4]; exact Nat.lt_of_le_of_lt lo (by decide), L4, n4, acc ++ [v], out ++ [dd], ?_, w4.wrote b4.1 nsD, ?_, sm.trans (a2.trans (t3.grow.trans t4.grow)), b4.1, upd_same, dps_app d4 (.cons i4 .nil), by rw [List.length_append, List.length_singleton]; omega, hI4⟩
      · exact (so.trans t4).wrote (s1.live D hD) b4.2
      · have e5 := en'.go ((st.trans t3).trans t4)
        refine ⟨e5.len, fun j e h => ?_, e5.own, e5.apart⟩
        obtain ⟨y', u', g1, g2, g3, g4⟩ := e5.at_ j e h
        refine ⟨y', u', g1, g2, g3, ?_⟩
        have ne : ∀ {q : Addr}, u' = .ref q → mine e = true → q ≠ D := fun {q} eu me z => by
          subst z eu
          have z1 := (en.at_ j e h)
          obtain ⟨_, u2, _, _, c3, c4⟩ := z1
          rw [g3] at c3
          have eu : V.ref q = u2 := Option.some.inj (Option.some.inj c3)
          obtain ⟨q', o, f1, f2⟩ := is_mine c4 me
          rw [← eu] at f1
          injection f1 with f1
          rw [← f1, s1.live q hD] at f2
          cases f2
        cases e with
        | own ds => obtain ⟨q', xs, f1, f2, f3, f4, f5⟩ := g4; exact ⟨q', xs, f1, f2, f3, by rw [upd_ne (ne f1 rfl)]; exact f4, f5⟩
        | dic ks => obtain ⟨q', f1, f2, f3, f4⟩ := g4; exact ⟨q', f1, f2, f3, by rw [upd_ne (ne f1 rfl)]; exact f4⟩
        | fresh fa fx => obtain ⟨f1, f2, f3, f4⟩ := g4; exact ⟨f1, f2, f3, by rw [upd_ne (ne f1 rfl)]; exact f4⟩
        | dat _ => exact g4
        | src => exact g4
        | keys _ => exact g4
        | set _ => exact g4
        | obj _ => exact g4
        | ntup _ => exact g4
  · have h0 : H D = none := s1.live D hD
    have sl : Same L' (upd L' D (.lst acc)) := same_new lD
    rcases ie out n' hI with r | r
    case inr => exact hq _ _ ⟨.own out, L', n', s', w', ⟨D, acc, rfl, lD, nsD, aD, da⟩, fun _ p e => (by cases e; exact h0), r⟩
    refine hq _ _ ⟨.dat (.list out), upd L' D (.lst acc), n', ⟨s'.keep, s'.live, s'.grow.trans sl, fun a l q => ?_⟩, ⟨fun a o q => ?_, fun q eq => ?_, w'.few⟩, Dp.lst (SqL.of upd_same) (ex_dps sl da), .no rfl, r⟩
    · by_cases z : a = D
      · rw [z]; exact h0
      · rw [upd_ne z] at q; exact s'.frsh a l q
    · by_cases z : a = D
      · subst z; rw [upd_same] at q; rw [← q]; exact aD
      · rw [upd_ne z] at q; exact w'.sub a o q
    · obtain ⟨q1, sc, nums, cc, r, t, q2, q3, q4⟩ := w'.src q eq
      exact ⟨by rw [upd_ne (fun z => nsD (by rw [← z]; exact eq))]; exact q1, sc, nums, cc, r, t, q2, ex_l sl q3, q4⟩
theorem ex_lc (own : List (Str × Nat)) (vis : List Bool) (hok : blkC c.N c.sc scope own = true) (hv : visOk c.N (relS scope c.sc) own vis = true) (h : IX G c tg iter ρ n (Cl G c scope (own.map (·.2)) tg elt ifs (maskR vis ρ) R)) (hs : ∀ env x, foldedSetIterable iter env x = pure x := by intro _ _; rfl) :
    EX G c (.ListComp elt [⟨tg, iter, ifs, 0⟩] scope pos) ρ n R := ex_pe fun X k => by
  obtain ⟨wi, pi, hw⟩ := h X k
  exact ⟨_, pe_lc k.calm k.nd pi (by rw [k.N, k.sc]; exact blkOk_by hok) (g := blkG X scope tg) (tt := blkTs X scope ifs) (te := blkE X scope elt) (fun s H C cl fp => ⟨fun pins s _ _ _ u _ I r h => h _ _ _ _ _ pins s u I r⟩) (fun s H C cl fp => ⟨fun pins s _ _ _ I h => h _ _ _ _ _ pins s I⟩) (fun s H C cl fp => ⟨fun pins s _ _ _ I h => h _ _ _ _ _ pins s I⟩) (hs _),
    fun σ H0 L H w en => lc_read k hv w en (hw σ H0 L H w en) _ fun _ _ z => z⟩
theorem sx_asgLc (i : Nat) {x : Str} {B : Bx} {px : Pos} {spos : Pos} (own : List (Str × Nat)) (vis : List Bool) (hx : c.N[i]? = some x) (hl : c.sc.names.lookup x = some .local) (hk : c.sc.kind = .function) (hok : blkC c.N c.sc scope own = true) (hv : visOk c.N (relS scope c.sc) own vis = true) (hln : (px.line == pos.line) = true)
    (ha : (scope.names.any fun (n, k) => n == x && (k == .local || k == .cell)) = false) (h : IX G c tg iter ρ n (Cl G c scope (own.map (·.2)) tg elt ifs (maskR vis ρ) fun d n1 => B.nx (ρ.set i (some d)) n1)) (hs : ∀ env x, foldedSetIterable iter env x = pure x := by intro _ _; rfl) :
    SX G c (.Assign [.Name x px] (.ListComp elt [⟨tg, iter, ifs, 0⟩] scope pos) spos) ρ n B := sx_ps fun X k => by
  obtain ⟨wi, pi, hw⟩ := h X k
  refine ⟨_, ps_setLc (i := i) (py := px) k.calm k.nd (by rw [k.N]; exact hx) (by rw [k.sc]; exact hl) (sw_true (by rw [k.sc]; exact hk) (by rw [k.sc]; exact hl) hln ha) pi (by rw [k.N, k.sc]; exact blkOk_by hok) (g := blkG X scope tg) (tt := blkTs X scope ifs) (te := blkE X scope elt) (fun s H C cl fp => ⟨fun pins s _ _ _ u _ I r h => h _ _ _ _ _ pins s u I r⟩) (fun s H C cl fp => ⟨fun pins s _ _ _ I h => h _ _ _ _ _ pins s I⟩) (fun s H C cl fp => ⟨fun pins s _ _ _ I h => h _ _ _ _ _ pins s I⟩) (hs _),
    fun L0 H0 σ L H s0 w en => ?_⟩
  exact lc_read (R := fun d n1 => B.nx (ρ.set i (some d)) n1) k hv w en (hw σ H0 L H w en) _ fun v H' ⟨d, L', n', s', w', i', nw, r⟩ =>
    ⟨L', _, n', s0.trans s', w', en.set (fun _ p => s0.live p) s' hx (.inl hl) i' nw, r⟩
end
end DL
/-! The data level: defs and their calls, built-ins, operators on data. -/
namespace DL
open PySem PySem.Spec L2

/-! ### defs -/
abbrev Sig := List D → Nat → (D → Nat → Prop) → Prop
/-- what a def promises of data: Φ of the arguments, the draws so far, and of what is wanted of the result -/
def spD (G : Wd) (Φ : Sig) : Sp := fun vs H Q _ => ∃ (src : Option Addr) (L : Hp) (n : Nat) (ds : List D) (R : D → Nat → Prop), Wl G src L H n ∧ IsAll G src L H vs ds ∧ Φ ds n R ∧ ∀ v H', EV G src L H R v H' → Q v H'
/-- a def of the module that keeps Φ -/
structure Sg (G : Wd) (x : Str) (k : Nat) (Φ : Sig) : Prop where
  ex : ∃ f, G.mg x = some (.ref f) ∧ PySem.W.keepIn G.K (.ref f) = true ∧ FnR G.P G.w G.K G.mg G.base CX0 k f (spD G Φ)
def rho0 (N : List Str) (ds : List D) : Rho := ds.map some ++ List.replicate (N.length - ds.length) none
section
variable {G : Wd} {x qual : Str} {st : Stmt} {f : Addr} {fd : FuncData} {N ps : List Str} {k : Nat} {Φ : Sig}
theorem paired_len {α β : Type} {F : α → β → Prop} : ∀ {l₁ : List α} {l₂ : List β}, Paired F l₁ l₂ → l₁.length = l₂.length := fun h => Paired.length h
theorem paired_at {α β : Type} {F : α → β → Prop} : ∀ {l₁ : List α} {l₂ : List β} {i : Nat} {b : β}, Paired F l₁ l₂ → l₂[i]? = some b → ∃ a, l₁[i]? = some a ∧ F a b
  | _, _, _, _, .nil, h => by simp at h
  | _, _, 0, _, .cons h _, e => by simp at e; subst e; exact ⟨_, rfl, h⟩
  | _, _, i + 1, b, .cons _ r, e => by
    obtain ⟨v, h1, h2⟩ := paired_at (i := i) (b := b) r (by simpa using e)
    exact ⟨v, by simpa using h1, h2⟩
/-- the slots at a def's entry -/
theorem en_start {c : Cxt} {src : Option Addr} {L H : Hp} {vs : List V} {ds : List D} (hc : c.src = src) (S : FnScope c.N ps c.sc) (hl : ds.length = ps.length) (hm : ∀ d ∈ ds, mine d = false) (i : IsAll G src L H vs ds) : En G c H L H (L2.start c.N vs) (rho0 c.N ds) := by
  have hv := paired_len i
  have hpl : ps.length ≤ c.N.length := by have := congrArg List.length S.pre; rw [List.length_take] at this; omega
  have lo : ∀ {j : Nat} {d : D}, (rho0 c.N ds)[j]? = some (some d) → ds[j]? = some d := fun {j d} h => by
    unfold rho0 at h
    by_cases hj : j < ds.length
    · rw [List.getElem?_append_left (by simpa using hj), List.getElem?_map] at h
      cases e : ds[j]? with
      | none => rw [e] at h; cases h
      | some a => rw [e] at h; cases h; rfl
    · rw [List.getElem?_append_right (by simpa using hj), List.getElem?_replicate] at h
      split at h <;> cases h
  refine ⟨?_, fun j d h => ?_, fun j d p h m _ => ?_, fun j k d e p hn h1 h2 m1 m2 r1 r2 => ?_⟩
  · unfold L2.start; rw [List.length_append, List.length_map, List.length_replicate]; omega
  · have hd := lo h
    obtain ⟨v, hvj, iv⟩ := paired_at i hd
    have hj : j < ds.length := (List.getElem?_eq_some_iff.mp hd).1
    have hp : (ps[j]'(by omega)) ∈ ps := List.getElem_mem _
    refine ⟨ps[j]'(by omega), v, ?_, ?_, ?_, by rw [hc]; exact iv⟩
    · have e : (c.N.take ps.length)[j]? = some (ps[j]'(by omega)) := by rw [S.pre]; exact List.getElem?_eq_getElem (by omega)
      rwa [List.getElem?_take_of_lt (by omega)] at e
    · exact (S.par _ hp).elim .inl fun q => .inr (.inl q)
    · unfold L2.start
      rw [List.getElem?_append_left (by rw [List.length_map]; omega), List.getElem?_map, hvj] <;> rfl
  · rw [hm d (List.mem_of_getElem? (lo h))] at m; cases m
  · rw [hm d (List.mem_of_getElem? (lo h1))] at m1; cases m1
theorem like_def {qual : Str} {f : Addr} {cdv : Value} {A : Around} {outer : List PySem.Env} {s : Shared} {H : Hp} {E : XK} {src : Option Addr} (S : FnScope N ps (defScope st)) (hr : Room k (A.deeper (PyProof.Rows.envOfC qual (defScope st) s.heap.objs.size f cdv))) :
    Like G ⟨N, defScope st, k, src, fun _ => true⟩ (cxOf CX0 G.P G.w G.K G.mg G.base N qual (defScope st) f cdv A outer s H E).nox := ⟨rfl, S.nd, rfl, rfl, rfl, rfl, rfl, rfl, rfl, hr, rfl, rfl⟩
theorem fn_okD (F : Fun G.K x qual st f fd) (S : FnScope N ps (defScope st)) (hΦ : ∀ ds n R, Φ ds n R → ds.length = ps.length ∧ ∀ d ∈ ds, mine d = false)
    (hb : ∀ src ds n R, Φ ds n R → SXs G ⟨N, defScope st, k, src, fun _ => true⟩ (defBody st) (rho0 N ds) n { nx := fun _ n' => R (.dat .none) n', rt := R }) : FnOk G.P G.w G.K G.mg G.base CX0 (k + 1) f fd ps (spD G Φ) := by
  refine F.ok S (fun vs H Q E h => ?_) (fun cdv A outer s H vs Q E hr h => ?_)
  · obtain ⟨src, L, n, ds, R, w, i, p, _⟩ := h
    rw [paired_len i, (hΦ ds n R p).1]
  · obtain ⟨src, L, n, ds, R, w, i, p, q⟩ := h
    obtain ⟨h1, h2⟩ := hΦ ds n R p
    have en := en_start (c := ⟨N, defScope st, k, src, fun _ => true⟩) rfl S h1 h2 i
    refine ⟨_, pss_wp _, sxs_wp (hb src ds n R p) (like_def S hr) (.refl _ _ _) w en (fun σ H' ⟨L', ρ', n', s', w', en', r⟩ => ?_) (fun v H' ⟨d, L', n', s', w', i', nw, r⟩ => q v H' ⟨d, L', n', s', w', i', nw, r⟩) (fun _ _ ⟨_, _, _, _, _, _, z⟩ => z.elim) fun _ _ ⟨_, _, _, _, _, _, z⟩ => z.elim⟩
    exact q .non H' ⟨.dat .none, L', n', s', w', .non, .no rfl, r⟩
theorem fn_def (F : Fun G.K x qual st f fd) (S : FnScope N ps (defScope st)) (bd : Binds G.K fd ps []) (hΦ : ∀ ds n R, Φ ds n R → ds.length = ps.length ∧ ∀ d ∈ ds, mine d = false)
    (hb : ∀ src ds n R, Φ ds n R → SXs G ⟨N, defScope st, k, src, fun _ => true⟩ (defBody st) (rho0 N ds) n { nx := fun _ n' => R (.dat .none) n', rt := R }) : FnR G.P G.w G.K G.mg G.base CX0 (k + 1) f (spD G Φ) := by
  have raw := (fn_okD F S hΦ hb).raw bd .nil
  exact raw.imp fun vs H Q E h => by rw [List.append_nil]; exact h
theorem sg_def (F : Fun G.K x qual st f fd) (S : FnScope N ps (defScope st)) (bd : Binds G.K fd ps []) (hx : G.mg x = some (.ref f)) (hΦ : ∀ ds n R, Φ ds n R → ds.length = ps.length ∧ ∀ d ∈ ds, mine d = false)
    (hb : ∀ src ds n R, Φ ds n R → SXs G ⟨N, defScope st, k, src, fun _ => true⟩ (defBody st) (rho0 N ds) n { nx := fun _ n' => R (.dat .none) n', rt := R }) : Sg G x (k + 1) Φ := ⟨f, hx, F.kp, fn_def F S bd hΦ hb⟩
theorem Sg.mono {j : Nat} (s : Sg G x k Φ) (h : k ≤ j) : Sg G x j Φ := let ⟨f, a, b, d⟩ := s.ex; ⟨f, a, b, d.mono h⟩
end

/-! ### calls -/
section
variable {G : Wd} {c : Cxt} {e a b o : Expr} {es : List Expr} {ρ : Rho} {n k j : Nat} {R : D → Nat → Prop} {RA : List D → Nat → Prop} {pos p apos : Pos} {x m : Str} {Φ : Sig} {id T : String}
theorem sp_of {src : Option Addr} {L H : Hp} {vs : List V} {ds : List D} {Q : VK} {E : XK} (w : Wl G src L H n) (i : IsAll G src L H vs ds) (h : Φ ds n R) (q : ∀ v H', EV G src L H R v H' → Q v H') : spD G Φ vs H Q E := ⟨src, L, n, ds, R, w, i, h, q⟩
theorem ex_call (S : Sg G x k Φ) (hk : k ≤ c.k) (hg : c.sc.names.lookup x = some .globalImplicit) (h : AX G c (e :: es) ρ n fun ds n1 => Φ ds n1 R) (hdb : (x == ("__debug__" : Str)) = false := by decide)
    (he : ∀ env, starEach (e :: es) env = (false, eval e env) :: starEach es env := by intro _; rfl) (hpl : ∀ env, (backTo pos (starEach es env)).any (·.1) = false := by intro _; rfl) : EX G c (.Call (.Name x p) (e :: es) [] pos) ρ n R := fun X lk pins s σ H0 L H I w en => by
  obtain ⟨f, hm, hkp, F⟩ := S.ex
  rw [← lk.prog, ← lk.w, ← lk.K, ← lk.mg, ← lk.base] at F
  refine wpAny_Call_Name_kw (ld_glob I (gl_of lk hg) (by rw [lk.mg]; exact hm) ?_ hdb)
  refine PySem.W.callWith_K (h₀ := X.base) I.ok.mod.kin (by rw [lk.K]; exact hkp) (thn ((pa_wp (X := X) (e :: es)).run pos pins s σ H _ I (ax_wp h lk w en fun vs H1 z => z)) fun us s1 ⟨vs, H1, I1, r, ds, L1, n1, s', w', i', q⟩ => ⟨I1.kIn, ?_⟩) (he _) (hpl _)
  exact wpAny_call (run_fnR F (lk.room.mono hk) pass0 I1 r (sp_of w' i' q fun v H' z => z.back s'))
/-- a call of a built-in value with data -/
def CB (G : Wd) (c : Cxt) (f : Value) (ds : List D) (n : Nat) (R : D → Nat → Prop) : Prop := ∀ X, Like G c X → ∃ r, CallR X f r ∧ ∀ L H vs, Wl G c.src L H n → IsAll G c.src L H vs ds → r vs H (EV G c.src L H R)
theorem callR_any {X : Cx} (f : Value) : CallR X f fun vs H Q => ∀ pins s σ us, Inv X pins σ H s → Vals vs us → wpAny (model X.prog X.w) X.A (call f us) (EP X pins σ Q) X.xe s := fun pins s σ H xs us Q I r h => h pins s σ us I r
theorem cb_go {X : Cx} {f : Value} {L H L1 H1 : Hp} {vs : List V} {ds : List D} (lk : Like G c X) (h : CB G c f ds n R) (s' : Step c.src L H L1 H1) (w' : Wl G c.src L1 H1 n) (i' : IsAll G c.src L1 H1 vs ds) :
    ∀ pins s σ us, Inv X pins σ H1 s → Vals vs us → wpAny (model X.prog X.w) X.A (call f us) (EP X pins σ (EV G c.src L H R)) X.xe s := fun pins s σ us I r => by
  obtain ⟨r2, hc, q⟩ := h X lk
  exact thn (hc pins s σ H1 vs us _ I r (q L1 H1 vs w' i')) fun u s'' ⟨v, H2, I2, rv, z⟩ => ⟨v, H2, I2, rv, z.back s'⟩
theorem ex_callB (id : String) (hm : G.mg x = none) (hv : bootBuiltins x = some (.builtin id)) (hg : c.sc.names.lookup x = some .globalImplicit) (h : AX G c (e :: es) ρ n fun ds n1 => CB G c (.builtin id) ds n1 R) (hn : x ≠ "__name__" := by decide) (hdb : (x == ("__debug__" : Str)) = false := by decide)
    (he : ∀ env, starEach (e :: es) env = (false, eval e env) :: starEach es env := by intro _; rfl) (hpl : ∀ env, (backTo pos (starEach es env)).any (·.1) = false := by intro _; rfl) : EX G c (.Call (.Name x p) (e :: es) [] pos) ρ n R := ex_pe fun X lk =>
  ⟨_, pe_callB (callR_any _) (gl_of lk hg) (by rw [lk.mg]; exact hm) hv (pa_wp _) hn hdb (he _) (hpl _), fun σ H0 L H w en => ax_wp h lk w en fun vs H1 ⟨ds, L1, n1, s', w', i', q⟩ => cb_go lk q s' w' i'⟩
theorem ex_callT (T : String) (hm : G.mg x = none) (hv : bootBuiltins x = some (.type T)) (hg : c.sc.names.lookup x = some .globalImplicit) (h : AX G c (e :: es) ρ n fun ds n1 => CB G c (.type T) ds n1 R) (hn : x ≠ "__name__" := by decide) (hdb : (x == ("__debug__" : Str)) = false := by decide)
    (he : ∀ env, starEach (e :: es) env = (false, eval e env) :: starEach es env := by intro _; rfl) (hpl : ∀ env, (backTo pos (starEach es env)).any (·.1) = false := by intro _; rfl) : EX G c (.Call (.Name x p) (e :: es) [] pos) ρ n R := ex_pe fun X lk =>
  ⟨_, pe_callTy (callR_any _) (gl_of lk hg) (by rw [lk.mg]; exact hm) hv (pa_wp _) hn hdb (he _) (hpl _), fun σ H0 L H w en => ax_wp h lk w en fun vs H1 ⟨ds, L1, n1, s', w', i', q⟩ => cb_go lk q s' w' i'⟩
end
end DL
/-! The data level: operators on data, built-ins on data. -/
namespace DL
open PySem PySem.Spec L2

section
variable {G : Wd} {c : Cxt} {n : Nat} {R : D → Nat → Prop}
abbrev dI (i : Int) : D := .dat (.int i)
abbrev dB (b : Bool) : D := .dat (.bool b)
abbrev dS (s : Str) : D := .dat (.str s)
abbrev dT (xs : List Dat) : D := .dat (.tuple xs)
abbrev dL (xs : List Dat) : D := .dat (.list xs)

/-! ### ints -/
theorem op_i0 {f : Value → Value → Sem Value} {g : Int → Int → V} {d : Int → Int → Dat} (ho : ∀ X : Cx, OpR X f (rI0 g)) (hg : ∀ K H i j, Dp K H (g i j) (d i j)) {i j : Int} (r : R (.dat (d i j)) n) : OP G c f (dI i) (dI j) n R := fun X _ =>
  ⟨_, ho X, fun L H x y w h1 h2 => by obtain rfl := dp_int h1; obtain rfl := dp_int h2; exact ⟨i, j, rfl, rfl, ev_dat w (hg _ _ i j) r⟩⟩
theorem op_i {f : Value → Value → Sem Value} {C : Int → Int → Prop} {g : Int → Int → V} {d : Int → Int → Dat} (ho : ∀ X : Cx, OpR X f (rI C g)) (hg : ∀ K H i j, Dp K H (g i j) (d i j)) {i j : Int} (hc : C i j) (r : R (.dat (d i j)) n) : OP G c f (dI i) (dI j) n R := fun X _ =>
  ⟨_, ho X, fun L H x y w h1 h2 => by obtain rfl := dp_int h1; obtain rfl := dp_int h2; exact ⟨i, j, rfl, rfl, hc, ev_dat w (hg _ _ i j) r⟩⟩
theorem o_add {i j : Int} (r : R (dI (i + j)) n) : OP G c (binaryOp .Add) (dI i) (dI j) n R := op_i0 (d := fun i j => .int (i + j)) (fun _ => op_add) (fun _ _ _ _ => .int _) r
theorem o_sub {i j : Int} (r : R (dI (i - j)) n) : OP G c (binaryOp .Sub) (dI i) (dI j) n R := op_i0 (d := fun i j => .int (i - j)) (fun _ => op_sub) (fun _ _ _ _ => .int _) r
theorem o_mul {i j : Int} (hc : (-(2 ^ 64) < i ∧ i < 2 ^ 64) ∨ (-(2 ^ 64) < j ∧ j < 2 ^ 64)) (r : R (dI (i * j)) n) : OP G c (binaryOp .Mult) (dI i) (dI j) n R := op_i (d := fun i j => .int (i * j)) (fun _ => op_mul) (fun _ _ _ _ => .int _) hc r
theorem o_mod {i j : Int} (hc : 0 < j) (r : R (dI (i % j)) n) : OP G c (binaryOp .Mod) (dI i) (dI j) n R := op_i (d := fun i j => .int (i % j)) (fun _ => op_mod) (fun _ _ _ _ => .int _) hc r
theorem o_pow {i j : Int} (hc : 0 ≤ j ∧ j ≤ 1000000 ∧ i.natAbs < 2 ^ 64) (r : R (dI (i ^ j.toNat)) n) : OP G c (binaryOp .Pow) (dI i) (dI j) n R := op_i (d := fun i j => .int (i ^ j.toNat)) (fun _ => op_pow) (fun _ _ _ _ => .int _) hc r
theorem o_fdiv {i j : Int} (hc : j ≠ 0 ∧ j.natAbs < 1073741824) (r : R (dI (i.fdiv j)) n) : OP G c (binaryOp .FloorDiv) (dI i) (dI j) n R := op_i (d := fun i j => .int (i.fdiv j)) (fun _ => op_fdivN) (fun _ _ _ _ => .int _) hc r
theorem o_lt {i j : Int} (r : R (dB (decide (i < j))) n) : OP G c (compareOp .Lt) (dI i) (dI j) n R := op_i0 (d := fun i j => .bool (decide (i < j))) (fun _ => op_lt) (fun _ _ _ _ => .bl _) r
theorem o_le {i j : Int} (r : R (dB (decide (i ≤ j))) n) : OP G c (compareOp .LtE) (dI i) (dI j) n R := op_i0 (d := fun i j => .bool (decide (i ≤ j))) (fun _ => op_le) (fun _ _ _ _ => .bl _) r
theorem o_gt {i j : Int} (r : R (dB (decide (i > j))) n) : OP G c (compareOp .Gt) (dI i) (dI j) n R := op_i0 (d := fun i j => .bool (decide (i > j))) (fun _ => op_gt) (fun _ _ _ _ => .bl _) r
theorem o_ge {i j : Int} (r : R (dB (decide (i ≥ j))) n) : OP G c (compareOp .GtE) (dI i) (dI j) n R := op_i0 (d := fun i j => .bool (decide (i ≥ j))) (fun _ => op_ge) (fun _ _ _ _ => .bl _) r

/-! ### == and != of data -/
theorem Like.units {X : Cx} (k : Like G c X) : X.A.units + 65 < cLine := by have := k.room.un; omega
theorem o_eq {d e : Dat} (h1 : SeqAt.shaped d = true) (h2 : SeqAt.shaped e = true) (r : R (dB (PyData.eqv d e)) n) : OP G c (compareOp .Eq) (.dat d) (.dat e) n R := fun X k =>
  ⟨_, op_eqD (by have := k.units; omega), fun L H x y w i1 i2 => ⟨d, e, by rw [k.K]; exact ex_dp w.sub i1, by rw [k.K]; exact ex_dp w.sub i2, h1, h2, ev_dat w (.bl _) r⟩⟩
theorem o_ne {d e : Dat} (h1 : SeqAt.shaped d = true) (h2 : SeqAt.shaped e = true) (r : R (dB (!PyData.eqv d e)) n) : OP G c (compareOp .NotEq) (.dat d) (.dat e) n R := fun X k =>
  ⟨_, op_neD (by have := k.units; omega), fun L H x y w i1 i2 => ⟨d, e, by rw [k.K]; exact ex_dp w.sub i1, by rw [k.K]; exact ex_dp w.sub i2, h1, h2, ev_dat w (.bl _) r⟩⟩
theorem o_eqI {i j : Int} (r : R (dB (decide (i = j))) n) : OP G c (compareOp .Eq) (dI i) (dI j) n R := fun X k =>
  ⟨_, op_eq, fun L H x y w h1 h2 => by
    obtain rfl := dp_int h1; obtain rfl := dp_int h2
    have e : decide (V.int i = V.int j) = decide (i = j) := decide_eq_decide.mpr ⟨fun z => by injection z, fun z => by rw [z]⟩
    exact ⟨rfl, by rw [e]; exact ev_dat w (.bl _) r⟩⟩
theorem o_neI {i j : Int} (r : R (dB (!decide (i = j))) n) : OP G c (compareOp .NotEq) (dI i) (dI j) n R := fun X k =>
  ⟨_, op_ne, fun L H x y w h1 h2 => by
    obtain rfl := dp_int h1; obtain rfl := dp_int h2
    have e : decide (V.int i = V.int j) = decide (i = j) := decide_eq_decide.mpr ⟨fun z => by injection z, fun z => by rw [z]⟩
    exact ⟨rfl, by rw [e]; exact ev_dat w (.bl _) r⟩⟩
theorem o_eqB {i j : Bool} (r : R (dB (decide (i = j))) n) : OP G c (compareOp .Eq) (dB i) (dB j) n R := fun X k =>
  ⟨_, op_eq, fun L H x y w h1 h2 => by
    obtain rfl := dp_bl h1; obtain rfl := dp_bl h2
    have e : decide (V.bl i = V.bl j) = decide (i = j) := decide_eq_decide.mpr ⟨fun z => by injection z, fun z => by rw [z]⟩
    exact ⟨rfl, by rw [e]; exact ev_dat w (.bl _) r⟩⟩
theorem o_neB {i j : Bool} (r : R (dB (!decide (i = j))) n) : OP G c (compareOp .NotEq) (dB i) (dB j) n R := fun X k =>
  ⟨_, op_ne, fun L H x y w h1 h2 => by
    obtain rfl := dp_bl h1; obtain rfl := dp_bl h2
    have e : decide (V.bl i = V.bl j) = decide (i = j) := decide_eq_decide.mpr ⟨fun z => by injection z, fun z => by rw [z]⟩
    exact ⟨rfl, by rw [e]; exact ev_dat w (.bl _) r⟩⟩
theorem o_eqS {i j : Str} (r : R (dB (decide (i = j))) n) : OP G c (compareOp .Eq) (dS i) (dS j) n R := fun X k =>
  ⟨_, op_eq, fun L H x y w h1 h2 => by
    obtain rfl := dp_str h1; obtain rfl := dp_str h2
    have e : decide (V.str i = V.str j) = decide (i = j) := decide_eq_decide.mpr ⟨fun z => by injection z, fun z => by rw [z]⟩
    exact ⟨rfl, by rw [e]; exact ev_dat w (.bl _) r⟩⟩
/-- is None, is not None -/
theorem dp_isN {K : PySem.W.Frag} {H : Hp} {v : V} {d : Dat} (h : Dp K H v d) : decide (v = .non) = (match d with | .none => true | _ => false) := by
  cases h <;> rfl

/-! ### + of tuples and lists -/
theorem o_addT {xs ys : List Dat} (hz : xs.length + ys.length ≤ 1000) (r : R (dT (xs ++ ys)) n) : OP G c (binaryOp .Add) (dT xs) (dT ys) n R := fun X k =>
  ⟨_, op_catA, fun L H x y w i1 i2 => by
    obtain ⟨a, vs, rfl, h1, r1⟩ := dp_tup i1
    obtain ⟨b, ws, rfl, h2, r2⟩ := dp_tup i2
    have l1 := dps_len r1
    have l2 := dps_len r2
    refine ⟨a, b, vs, ws, rfl, rfl, by rw [k.K]; exact ex_t w.sub h1, by rw [k.K]; exact ex_t w.sub h2, Nat.le_of_lt (small1000 (by omega)), fun e => ?_, fun _ e => ?_, fun _ _ p hp => ?_⟩
    · subst e
      have e2 : xs = [] := List.length_eq_zero_iff.mp (by rw [← l1]; rfl)
      subst e2
      exact ev_dat w i2 r
    · subst e
      have e2 : ys = [] := List.length_eq_zero_iff.mp (by rw [← l2]; rfl)
      subst e2
      rw [List.append_nil] at r
      exact ev_dat w i1 r
    · exact ev_tup w hp (dps_app r1 r2) r⟩
theorem Inv.listO {X : Cx} {pins : List (Addr × Obj)} {σ : L2.St} {H : Hp} {s : Shared} {a : Addr} {xs : List V} (I : Inv X pins σ H s) (h : SqL X.K H a xs) : ∃ (its : List Value) (n : Nat) (o : Obj), Vals xs its ∧ s.heap.get? a = some o ∧ o.cls = .type "list" ∧ o.dict = none ∧ o.data = .seq its.toArray n ∧ xs.length ≤ sizeLine := by
  obtain ⟨its, r, ⟨o, n, h1, h2, h3, h4⟩, hz⟩ := I.list h
  exact ⟨its, n, o, r, h1, h2, h3, h4, hz⟩
/-! ### in, not in -/
theorem o_inL {x : Dat} {xs : List Dat} (h1 : SeqAt.shaped x = true) (h2 : SeqAt.shaped (.list xs) = true) (r : R (dB (xs.any fun z => PyData.eqv z x)) n) : OP G c (compareOp .In) (.dat x) (dL xs) n R := fun X k =>
  ⟨_, op_inD k.units, fun L H a b w i1 i2 => ⟨x, xs, by rw [k.K]; exact ex_dp w.sub i1, by rw [k.K]; exact ex_dp w.sub i2, h1, h2, ev_dat w (.bl _) r⟩⟩
theorem o_niL {x : Dat} {xs : List Dat} (h1 : SeqAt.shaped x = true) (h2 : SeqAt.shaped (.list xs) = true) (r : R (dB (!xs.any fun z => PyData.eqv z x)) n) : OP G c (compareOp .NotIn) (.dat x) (dL xs) n R := fun X k =>
  ⟨_, op_notInD k.units, fun L H a b w i1 i2 => ⟨x, xs, by rw [k.K]; exact ex_dp w.sub i1, by rw [k.K]; exact ex_dp w.sub i2, h1, h2, ev_dat w (.bl _) r⟩⟩

/-! ### built-ins -/
theorem all1 {src : Option Addr} {L H : Hp} {vs : List V} {d : D} (h : IsAll G src L H vs [d]) : ∃ v, vs = [v] ∧ Is G src L H v d := by
  cases h with
  | cons a b => cases b; exact ⟨_, rfl, a⟩
theorem b_tupL {xs : List Dat} (r : R (dT xs) n) : CB G c (.type "tuple") [dL xs] n R := fun X k => ⟨_, call_tuple_of, fun L H vs w i => by
  obtain ⟨v, rfl, j⟩ := all1 i
  obtain ⟨a, ys, rfl, h1, r1⟩ := dp_lst j
  exact ⟨a, ys, rfl, .inl ⟨by rw [k.K]; exact ex_l w.sub h1, fun l hl => ev_tup w hl r1 r⟩⟩⟩
theorem b_tupT {xs : List Dat} (r : R (dT xs) n) : CB G c (.type "tuple") [dT xs] n R := fun X k => ⟨_, call_tuple_of, fun L H vs w i => by
  obtain ⟨v, rfl, j⟩ := all1 i
  obtain ⟨a, ys, rfl, h1, r1⟩ := dp_tup j
  exact ⟨a, ys, rfl, .inr ⟨by rw [k.K]; exact ex_t w.sub h1, ev_dat w j r⟩⟩⟩
theorem b_lstL {xs : List Dat} (r : R (dL xs) n) : CB G c (.type "list") [dL xs] n R := fun X k => ⟨_, call_list_of, fun L H vs w i => by
  obtain ⟨v, rfl, j⟩ := all1 i
  obtain ⟨a, ys, rfl, h1, r1⟩ := dp_lst j
  exact ⟨a, ys, rfl, .inl (by rw [k.K]; exact ex_l w.sub h1), fun l hl => ev_lst w hl r1 r⟩⟩
theorem b_len {xs : List Dat} {d : Dat} (h : d = .tuple xs ∨ d = .list xs) (r : R (dI xs.length) n) : CB G c (.builtin "len") [.dat d] n R := fun X k => ⟨_, call_len_seq, fun L H vs w i => by
  obtain ⟨v, rfl, j⟩ := all1 i
  rcases h with rfl | rfl
  · obtain ⟨a, ys, rfl, h1, r1⟩ := dp_tup j
    exact ⟨a, ys, rfl, .inr (by rw [k.K]; exact ex_t w.sub h1), by rw [dps_len r1]; exact ev_dat w (.int _) r⟩
  · obtain ⟨a, ys, rfl, h1, r1⟩ := dp_lst j
    exact ⟨a, ys, rfl, .inl (by rw [k.K]; exact ex_l w.sub h1), by rw [dps_len r1]; exact ev_dat w (.int _) r⟩⟩
theorem b_all {bs : List Bool} (r : R (dB (bs.all id)) n) : CB G c (.builtin "all") [dL (bs.map PyData.bool)] n R := fun X k => ⟨_, cr_all k.calm, fun L H vs w i => by
  obtain ⟨v, rfl, j⟩ := all1 i
  obtain ⟨a, ys, rfl, h1, r1⟩ := dp_lst j
  rw [dps_bls r1] at h1
  exact ⟨a, bs, rfl, by rw [k.K]; exact ex_l w.sub h1, ev_dat w (.bl _) r⟩⟩
theorem b_any {bs : List Bool} (r : R (dB (bs.any id)) n) : CB G c (.builtin "any") [dL (bs.map PyData.bool)] n R := fun X k => ⟨_, cr_any k.calm, fun L H vs w i => by
  obtain ⟨v, rfl, j⟩ := all1 i
  obtain ⟨a, ys, rfl, h1, r1⟩ := dp_lst j
  rw [dps_bls r1] at h1
  exact ⟨a, bs, rfl, by rw [k.K]; exact ex_l w.sub h1, ev_dat w (.bl _) r⟩⟩
theorem b_intI {i : Int} (r : R (dI i) n) : CB G c (.type "int") [dI i] n R := fun X k => ⟨_, call_int1, fun L H vs w h => by
  obtain ⟨v, rfl, j⟩ := all1 h
  obtain rfl := dp_int j
  exact .inl ⟨i, rfl, ev_dat w (.int _) r⟩⟩
theorem b_intB {b : Bool} (r : R (dI (if b then 1 else 0)) n) : CB G c (.type "int") [dB b] n R := fun X k => ⟨_, call_int1, fun L H vs w h => by
  obtain ⟨v, rfl, j⟩ := all1 h
  obtain rfl := dp_bl j
  exact .inr ⟨b, rfl, ev_dat w (.int _) r⟩⟩
/-- the type's name -/
def tyD : Dat → String
  | .none => "NoneType"
  | .bool _ => "bool"
  | .int _ => "int"
  | .str _ => "str"
  | .list _ => "list"
  | .tuple _ => "tuple"
  | .dict _ => "dict"
theorem tyx_of {K : PySem.W.Frag} {H : Hp} {v : V} {d : Dat} (h : Dp K H v d) : TyX K H v (.type (tyD d)) := by
  cases h with
  | non => exact .base .non
  | bl b => exact .base (.bl b)
  | int i => exact .base (.int i)
  | str x => exact .base (.str x)
  | lst h r =>
    rcases h with (h | ⟨o, h⟩) | ⟨o, its, m, h1, h2, _⟩
    · exact .base (.lst h)
    · exact .base (.frz h)
    · exact .kList h1 h2
  | tup h r =>
    rcases h with (h | ⟨o, h⟩) | ⟨o, its, m, h1, h2, _⟩
    · exact .base (.tup h)
    · exact .fTuple h
    · exact .kTuple h1 h2
theorem ex_isi {e : Expr} {ρ : Rho} {T : Str} {S : String} {pos p p2 : Pos} (hm : G.mg "isinstance" = none) (hg : c.sc.names.lookup ("isinstance" : Str) = some .globalImplicit) (hm2 : G.mg T = none) (hg2 : c.sc.names.lookup T = some .globalImplicit) (hT : bootBuiltins T = some (.type S))
    (h : EX G c e ρ n fun d n1 => ∃ x b, d = .dat x ∧ kitB (tyD x) S = some b ∧ R (dB b) n1) (hn : T ≠ "__name__" := by decide) (hdb : (T == ("__debug__" : Str)) = false := by decide)
    (he : ∀ env, starEach [e, .Name T p2] env = (false, eval e env) :: starEach [.Name T p2] env := by intro _; rfl) : EX G c (.Call (.Name "isinstance" p) [e, .Name T p2] [] pos) ρ n R := ex_pe fun X k =>
  ⟨_, pe_callB call_isi (gl_of k hg) (by rw [k.mg]; exact hm) (by decide +kernel) (pa_cons (pe_wp e) (pa_cons (pe_bltn (v := .ty S) (gl_of k hg2) (by rw [k.mg]; exact hm2) hT rfl hn hdb) pa_nil rfl) (he _)) (by decide) (by decide) (he _) (by intros; rfl),
    fun σ H0 L H w en => ex_wp h k w en fun v H1 ⟨d, L1, n1, s1, w1, i1, _, x, b, e1, hb, r⟩ => by
      subst e1
      exact ⟨v, .ty S, _, _, b, rfl, .ty S, by rw [k.K]; exact tyx_of (ex_dp w1.sub i1), kit_ty hb, ⟨.dat (.bool b), L1, n1, s1, w1, .bl b, .no rfl, r⟩⟩⟩
end
end DL
/-! The data level: places, slices, repetitions, in, methods of lists, star arguments. -/
namespace DL
open PySem PySem.Spec L2
section
variable {G : Wd} {c : Cxt} {a b e : Expr} {es : List Expr} {ρ : Rho} {n : Nat} {R : D → Nat → Prop} {RA : List D → Nat → Prop} {pos p2 apos cpos p : Pos}
/-! ### a[i] -/
theorem atI_dat {K : PySem.W.Frag} {H : Hp} {vs : List V} {xs : List Dat} {i : Int} {x : Dat} (h : DpAll K H vs xs) (h0 : 0 ≤ i) (hx : xs[i.toNat]? = some x) : ∃ v, atI vs i = some v ∧ Dp K H v x := by
  obtain ⟨v, h1, h2⟩ := dps_get h hx
  have := atI_nat h1
  rw [Int.toNat_of_nonneg h0] at this
  exact ⟨v, this, h2⟩
theorem ex_ix (h : EX G c a ρ n fun d1 n1 => EX G c b ρ n1 fun d2 n2 => ∃ xs i x, (d1 = dT xs ∨ d1 = dL xs) ∧ d2 = dI i ∧ 0 ≤ i ∧ xs[i.toNat]? = some x ∧ R (.dat x) n2) (hs : PlainIx b := by intro _ _; rfl) : EX G c (.Subscript a b pos) ρ n R := ex_pe fun X k => by
  refine ⟨_, pe_ix (IxR.or L2.ix_list L2.ix_tup) (pe_wp a) (pe_wp b) hs, fun σ H0 L H w en => ?_⟩
  refine ex_two (R2 := fun d1 d2 n2 => ∃ xs i x, (d1 = dT xs ∨ d1 = dL xs) ∧ d2 = dI i ∧ 0 ≤ i ∧ xs[i.toNat]? = some x ∧ R (.dat x) n2) k w en h fun u v d1 d2 L' H' n' s' w' i1 i2 _ _ ⟨xs, i, x, e1, e2, h0, hx, r⟩ => ?_
  subst e2
  obtain rfl := dp_int i2
  rcases e1 with rfl | rfl
  · obtain ⟨q, vs, rfl, h1, r1⟩ := dp_tup i1
    obtain ⟨y, hy, hd⟩ := atI_dat r1 h0 hx
    exact .inr ⟨q, vs, i, y, rfl, rfl, by rw [k.K]; exact ex_t w'.sub h1, hy, (ev_dat w' hd r).back s'⟩
  · obtain ⟨q, vs, rfl, h1, r1⟩ := dp_lst i1
    obtain ⟨y, hy, hd⟩ := atI_dat r1 h0 hx
    exact .inl ⟨q, vs, i, y, rfl, rfl, by rw [k.K]; exact ex_l w'.sub h1, hy, (ev_dat w' hd r).back s'⟩

/-! ### a[lo:hi] -/
/-- a part of a slice: left out, or an int -/
def PX (G : Wd) (c : Cxt) (o : Option Expr) (ρ : Rho) (n : Nat) (R : Option Int → Nat → Prop) : Prop := match o with
  | none => R none n
  | some e => EX G c e ρ n fun d n1 => ∃ i, d = dI i ∧ R (some i) n1
theorem px_none {R : Option Int → Nat → Prop} (h : R none n) : PX G c none ρ n R := h
theorem px_some {R : Option Int → Nat → Prop} (h : EX G c e ρ n fun d n1 => ∃ i, d = dI i ∧ R (some i) n1) : PX G c (some e) ρ n R := h
def wpO (X : Cx) (o : Option Expr) : TO := fun σ H Q => ∀ pins s, Inv X pins σ H s → wpAny (model X.prog X.w) X.A (evalPart o X.env) (fun u s' => ∃ r H', Inv X pins σ H' s' ∧ IsPart u r ∧ Q r H') X.xe s
theorem po_wp {X : Cx} (o : Option Expr) : PO X o (wpO X o) := ⟨fun pins s _ _ _ I h => h pins s I⟩
theorem px_wp {X : Cx} {o : Option Expr} {R : Option Int → Nat → Prop} {σ : L2.St} {H0 L H : Hp} {Q : Option Int → Hp → Prop} (h : PX G c o ρ n R) (k : Like G c X) (w : Wl G c.src L H n) (en : En G c H0 L H σ ρ) (q : ∀ r L' H' n', Step c.src L H L' H' → Wl G c.src L' H' n' → R r n' → Q r H') : wpO X o σ H Q := fun pins s I => by
  cases o with
  | none => exact po_none.run pins s σ H _ I (q none L H n (.refl _ _ _) w h)
  | some e => exact (po_some (pe_wp e)).run pins s σ H _ I (ex_wp h k w en fun v H' ⟨d, L', n', s', w', i', _, i, e1, r⟩ => by subst e1; exact ⟨i, dp_int i', q _ _ _ _ s' w' r⟩)
/-- the items of xs[lo:hi] -/
def cutD (xs : List Dat) (lo hi : Option Int) : List Dat := (xs.drop (HT.sIx xs.length 0 lo)).take (HT.sIx xs.length xs.length hi - HT.sIx xs.length 0 lo)
theorem cut_dps {K : PySem.W.Frag} {H : Hp} {vs : List V} {xs : List Dat} (h : DpAll K H vs xs) (lo hi : Option Int) : DpAll K H (cutV vs lo hi) (cutD xs lo hi) := by
  unfold cutV cutD
  rw [dps_len h]
  exact dps_take _ (dps_drop _ h)
theorem cutD_hi (xs : List Dat) {k : Int} (h : 0 ≤ k) : cutD xs none (some k) = xs.take k.toNat := by
  obtain ⟨j, rfl⟩ := Int.eq_ofNat_of_zero_le h
  unfold cutD
  rw [HT.sIx_none, HT.sIx_nat, List.drop_zero, Nat.sub_zero, Int.toNat_natCast]
  by_cases q : j ≤ xs.length
  · rw [Nat.min_eq_left q]
  · rw [Nat.min_eq_right (by omega), List.take_of_length_le (Nat.le_refl _), List.take_of_length_le (by omega)]
theorem cutD_lo (xs : List Dat) {k : Int} (h : 0 ≤ k) : cutD xs (some k) none = xs.drop k.toNat := by
  obtain ⟨j, rfl⟩ := Int.eq_ofNat_of_zero_le h
  unfold cutD
  rw [HT.sIx_none, HT.sIx_nat, Int.toNat_natCast]
  by_cases q : j ≤ xs.length
  · rw [Nat.min_eq_left q, List.take_of_length_le (by rw [List.length_drop]; omega)]
  · rw [Nat.min_eq_right (by omega), List.drop_of_length_le (Nat.le_refl _), List.drop_of_length_le (show xs.length ≤ j by omega), List.take_nil]
theorem ex_sl {lo hi : Option Expr} (h : EX G c a ρ n fun d n1 => PX G c lo ρ n1 fun l n2 => PX G c hi ρ n2 fun u n3 => (∃ xs, d = dT xs ∧ R (dT (cutD xs l u)) n3) ∨ ∃ xs, d = dL xs ∧ (R (dL (cutD xs l u)) n3 ∨ R (.own (cutD xs l u)) n3)) : EX G c (.Subscript a (.Slice lo hi none p2) pos) ρ n R := ex_pe fun X k => by
  refine ⟨_, pe_slice (SlR.or sl_list sl_tupA) (pe_wp a) (po_wp lo) (po_wp hi), fun σ H0 L H w en => ?_⟩
  refine ex_wp h k w en fun v H1 ⟨d, L1, n1, s1, w1, i1, _, r1⟩ => px_wp r1 k w1 (en.go s1) fun l L2 H2 n2 s2 w2 r2 => px_wp r2 k w2 ((en.go s1).go s2) fun u L3 H3 n3 s3 w3 r3 => ?_
  have s' := (s1.trans s2).trans s3
  have i3 := i1.go (s2.trans s3)
  rcases r3 with ⟨xs, rfl, r⟩ | ⟨xs, rfl, r⟩
  · obtain ⟨q, vs, rfl, h1, hr⟩ := dp_tup i3
    refine .inr ⟨q, vs, rfl, by rw [k.K]; exact ex_t w3.sub h1, fun z => ?_, fun _ p hp => (ev_tup w3 hp (cut_dps hr l u) r).back s'⟩
    have e : cutD xs l u = xs := by
      unfold cutD
      rw [← dps_len hr, z.1, z.2, List.drop_zero, Nat.sub_zero, dps_len hr, List.take_of_length_le (Nat.le_refl _)]
    rw [e] at r
    exact (ev_dat w3 i3 r).back s'
  · obtain ⟨q, vs, rfl, h1, hr⟩ := dp_lst i3
    refine .inl ⟨q, vs, rfl, by rw [k.K]; exact ex_l w3.sub h1, fun p hp => ?_⟩
    rcases r with r | r
    · exact (ev_lst w3 hp (cut_dps hr l u) r).back s'
    · exact (ev_own w3 hp (cut_dps hr l u) r).back s'

/-! ### repetitions, lists joined -/
theorem rep_dps {K : PySem.W.Frag} {H : Hp} {vs : List V} {xs : List Dat} (h : DpAll K H vs xs) : ∀ m : Nat, DpAll K H (List.replicate m vs).flatten (List.replicate m xs).flatten
  | 0 => .nil
  | m + 1 => by
    rw [List.replicate_succ, List.replicate_succ, List.flatten_cons, List.flatten_cons]
    exact dps_app h (rep_dps h m)
theorem flat_len {α : Type} (xs : List α) : ∀ m : Nat, ((List.replicate m xs).flatten).length = m * xs.length
  | 0 => by simp
  | m + 1 => by rw [List.replicate_succ, List.flatten_cons, List.length_append, flat_len xs m, Nat.add_mul, Nat.one_mul, Nat.add_comm]
/-- [x] * k, a list that was just made -/
theorem o_repO {x : Dat} {k : Int} (hk : 0 ≤ k ∧ k ≤ 1000) (r : R (dL (List.replicate k.toNat x)) n) : OP G c (binaryOp .Mult) (.own [x]) (dI k) n R := fun X lk =>
  ⟨_, op_rep, fun L H u v w i1 i2 => by
    obtain ⟨q, vs, rfl, l0, ns, h1, hr⟩ := i1
    obtain rfl := dp_int i2
    have hl := dps_len hr
    rw [List.length_singleton] at hl
    refine ⟨q, k, vs, rfl, rfl, h1, by omega, by omega, by rw [hl]; exact Nat.le_of_lt (small1000 (by omega)), fun p hp => ?_⟩
    have e : (List.replicate k.toNat [x]).flatten = List.replicate k.toNat x := by
      generalize k.toNat = m
      induction m with
      | zero => rfl
      | succ m ih => rw [List.replicate_succ, List.replicate_succ, List.flatten_cons, ih] <;> rfl
    have z := rep_dps hr k.toNat
    rw [e] at z
    exact ev_lst w hp z r⟩
theorem o_catO {xs ys : List Dat} (hz : xs.length + ys.length ≤ 1000) (r : R (dL (xs ++ ys)) n) : OP G c (binaryOp .Add) (.own xs) (.own ys) n R := fun X lk =>
  ⟨_, op_cat, fun L H u v w i1 i2 => by
    obtain ⟨q, vs, rfl, _, _, h1, hr⟩ := i1
    obtain ⟨q2, ws, rfl, _, _, h2, hr2⟩ := i2
    exact ⟨q, q2, vs, ws, rfl, rfl, h1, h2, by rw [dps_len hr, dps_len hr2]; exact Nat.le_of_lt (small1000 hz), fun p hp => ev_lst w hp (dps_app hr hr2) r⟩⟩

/-! ### in a tuple, in the keys of a dict -/
theorem o_inT {x : Dat} {xs : List Dat} (h1 : SeqAt.shaped x = true) (h2 : SeqAt.shaped (.tuple xs) = true) (r : R (dB (xs.any fun z => PyData.eqv z x)) n) : OP G c (compareOp .In) (.dat x) (dT xs) n R := fun X k =>
  ⟨fun u v H Q => u = u ∧ Dp X.K H u x ∧ Dp X.K H v (.tuple xs) ∧ Q (.bl (xs.any fun z => PyData.eqv z x)) H, fun pins s σ H x' y' v u Q I rx ry h => by
    obtain ⟨_, hd, he, q⟩ := h
    obtain ⟨as, r1⟩ := Dp.reads I x x' v hd rx
    obtain ⟨bs, r2⟩ := Dp.reads I (.tuple xs) y' u he ry
    exact SeqAt.in_tuple_reads r2 r1 (by have := SeqAt.canLay_of_shaped h2; simpa [PyData.canLay0] using this) (SeqAt.canLay_of_shaped h1) (PyProof.Rows.room_in_shaped h1 k.units) ⟨.bl _, H, I, rfl, q⟩,
   fun L H u v w i1 i2 => ⟨rfl, by rw [k.K]; exact ex_dp w.sub i1, by rw [k.K]; exact ex_dp w.sub i2, ev_dat w (.bl _) r⟩⟩
theorem o_niT {x : Dat} {xs : List Dat} (h1 : SeqAt.shaped x = true) (h2 : SeqAt.shaped (.tuple xs) = true) (r : R (dB (!xs.any fun z => PyData.eqv z x)) n) : OP G c (compareOp .NotIn) (.dat x) (dT xs) n R := fun X k =>
  ⟨fun u v H Q => u = u ∧ Dp X.K H u x ∧ Dp X.K H v (.tuple xs) ∧ Q (.bl (!xs.any fun z => PyData.eqv z x)) H, fun pins s σ H x' y' v u Q I rx ry h => by
    obtain ⟨_, hd, he, q⟩ := h
    obtain ⟨as, r1⟩ := Dp.reads I x x' v hd rx
    obtain ⟨bs, r2⟩ := Dp.reads I (.tuple xs) y' u he ry
    exact SeqAt.notIn_tuple_reads r2 r1 (by have := SeqAt.canLay_of_shaped h2; simpa [PyData.canLay0] using this) (SeqAt.canLay_of_shaped h1) (PyProof.Rows.room_in_shaped h1 k.units) ⟨.bl _, H, I, rfl, q⟩,
   fun L H u v w i1 i2 => ⟨rfl, by rw [k.K]; exact ex_dp w.sub i1, by rw [k.K]; exact ex_dp w.sub i2, ev_dat w (.bl _) r⟩⟩
theorem keys_at {X : Cx} {H : Hp} {a b : Addr} {Ls : List (Addr × List Int)} {ks : List (List Int)} {k : List Int} {pins : List (Addr × Obj)} {σ : L2.St} {s : Shared} (I : Inv X pins σ H s) (h : H a = some (HS.KeyO X.prog X.w a Ls)) (hL : ∀ p ∈ Ls, SqT X.K H p.1 (p.2.map V.int)) (hk : ∀ k, k ∈ Ls.map (·.2) ↔ k ∈ ks) (hb : SqT X.K H b (k.map V.int)) :
    (a == sysModules) = false ∧ (TK X.prog X.w).is s.heap k b ∧ ∃ xs, s.heap.DictOfH (TK X.prog X.w) a xs ∧ (atKey xs k).isSome = decide (k ∈ ks) := by
  obtain ⟨h1, h2⟩ := HS.d_in I h hL
  exact ⟨h1, I.isT hb, _, h2, by rw [HS.at_ent]; exact decide_eq_decide.mpr (hk k)⟩
def rKey (K : PySem.W.Frag) (P : Program) (w : World) (f : Bool → Bool) : R2 := fun u v H Q => ∃ (b a : Addr) (Ls : List (Addr × List Int)) (k : List Int) (ks : List (List Int)), u = .ref b ∧ v = .ref a ∧ SqT K H b (k.map V.int) ∧ H a = some (HS.KeyO P w a Ls) ∧ (∀ p ∈ Ls, SqT K H p.1 (p.2.map V.int)) ∧ (∀ k, k ∈ Ls.map (·.2) ↔ k ∈ ks) ∧ Q (.bl (f (decide (k ∈ ks)))) H
theorem rkey_of {X : Cx} {L H : Hp} {f : Bool → Bool} {k : List Int} {ks : List (List Int)} {u v : V} (lk : Like G c X) (w : Wl G c.src L H n) (i1 : Is G c.src L H u (.dat (iD k))) (i2 : Is G c.src L H v (.keys ks)) (r : R (dB (f (decide (k ∈ ks)))) n) : rKey X.K X.prog X.w f u v H (EV G c.src L H R) := by
  obtain ⟨b, rfl, hb⟩ := dp_iD i1
  obtain ⟨a, Ls, rfl, ha, hL, hk⟩ := i2
  exact ⟨b, a, Ls, k, ks, rfl, rfl, by rw [lk.K]; exact ex_t w.sub hb, by rw [lk.prog, lk.w]; exact w.sub _ _ ha, fun p hp => by rw [lk.K]; exact ex_t w.sub (hL p hp), hk, ev_dat w (.bl _) r⟩
theorem o_inK {k : List Int} {ks : List (List Int)} (r : R (dB (decide (k ∈ ks))) n) : OP G c (compareOp .In) (.dat (iD k)) (.keys ks) n R := fun X lk =>
  ⟨rKey X.K X.prog X.w id, fun pins s σ H x' y' v u Q I rx ry h => by
    obtain ⟨b, a, Ls, k, ks, rfl, rfl, hb, ha, hL, hk, q⟩ := h
    cases rx
    cases ry
    obtain ⟨hd, hkey, xs, dd, e⟩ := keys_at I ha hL hk hb
    refine wpAny_in_heap (tupleKind_room_in1 (by have := lk.units; omega)) hkey hd dd ?_
    rw [e]
    exact ⟨.bl _, H, I.tok _, rfl, q⟩,
   fun L H u v w i1 i2 => rkey_of lk w i1 i2 r⟩
theorem o_niK {k : List Int} {ks : List (List Int)} (r : R (dB (!decide (k ∈ ks))) n) : OP G c (compareOp .NotIn) (.dat (iD k)) (.keys ks) n R := fun X lk =>
  ⟨rKey X.K X.prog X.w not, fun pins s σ H x' y' v u Q I rx ry h => by
    obtain ⟨b, a, Ls, k, ks, rfl, rfl, hb, ha, hL, hk, q⟩ := h
    cases rx
    cases ry
    obtain ⟨hd, hkey, xs, dd, e⟩ := keys_at I ha hL hk hb
    refine PyProof.Rows.wpAny_notIn_heap (tupleKind_room_in1 (by have := lk.units; omega)) hkey hd dd ?_
    rw [e]
    exact ⟨.bl _, H, I.tok _, rfl, q⟩,
   fun L H u v w i1 i2 => rkey_of lk w i1 i2 r⟩

/-! ### methods of lists -/
/-- the method of a list on a slot of one's own -/
theorem own_at {X : Cx} {σ : L2.St} {H0 L H : Hp} {i : Nat} {x : Str} {ds : List Dat} (k : Like G c X) (en : En G c H0 L H σ ρ) (hx : At c.N i x) (h : ρ[i]? = some (some (.own ds))) (hd : (x == ("__debug__" : Str)) = false) (hcd : (x == ("__classdict__" : Str)) = false) :
    PE X (.Name x p) (tVar i) ∧ ∃ q xs, σ[i]? = some (some (.ref q)) ∧ L q = none ∧ c.src ≠ some q ∧ H q = some (.lst xs) ∧ DpAll G.K L xs ds ∧ H0 q = none := by
  obtain ⟨y, v, h1, h2, h3, h4⟩ := en.at_ i _ h
  have e : x = y := Option.some.inj (hx.get.symm.trans h1)
  subst e
  obtain ⟨q, xs, rfl, a1, a2, a3, a4⟩ := h4
  exact ⟨pe_var (by rw [k.N]; exact h1) (by rw [k.sc]; exact h2) hd hcd, q, xs, h3, a1, a2, a3, a4, en.own i _ q h rfl h3⟩
theorem stay_at {src : Option Addr} {L H L' H' : Hp} {q : Addr} {o : HO} (s : Step src L H L' H') (l : L q = none) (h : H q = some o) (ns : src ≠ some q) : L' q = none ∧ H' q = some o := ⟨(by
  cases z : L' q with
  | none => rfl
  | some u => (have z2 := s.frsh q l (by rw [z]; simp); rw [h] at z2; cases z2)), s.keep q o h ns⟩
theorem sx_append {i : Nat} {x : Str} {ds : List Dat} {B : Bx} {sp : Pos} (hx : At c.N i x) (hi : ρ[i]? = some (some (.own ds))) (h : EX G c e ρ n fun d n1 => ∃ y, d = .dat y ∧ ds.length ≤ 1000000 ∧ B.nx (ρ.set i (some (.own (ds ++ [y])))) n1) (hd : (x == ("__debug__" : Str)) = false := by decide) (hcd : (x == ("__classdict__" : Str)) = false := by decide)
    (hline : (apos.endLine == cpos.line) = true := by rfl) (hs : ∀ env, starEach [e] env = [(false, eval e env)] := by intro _; rfl) : SX G c (.Expr (.Call (.Attribute (.Name x p) "append" apos) [e] [] cpos) sp) ρ n B := sx_ps fun X k => by
  refine ⟨tDrop (tBM X.K "list" rAppend (wpE X (.Name x p)) (wpA X [e])), ps_expr (pe_bm PySem.F.plainAttrs_list PySem.F.slot_list_append PySem.F.type_list_append mt_append (pe_wp _) (pa_wp _) rfl (by rw [show backTo cpos (starEach [e] X.env) = backTo cpos [(false, eval e X.env)] from congrArg _ (hs _)]; rfl) hline (hs _) rfl) rfl, fun L0 H0 σ L H s0 w en => ?_⟩
  obtain ⟨pv, q, xs, hσ, lq, nq, hq, hdq, h0⟩ := own_at (p := p) k en hx hi hd hcd
  refine fun pins s I => pv.run pins s σ H _ I ⟨.ref q, hσ, .inl ⟨rfl, xs, SqL.of hq⟩, ?_⟩
  have ha : AX G c [e] ρ n fun dds n1 => ∃ y, dds = [.dat y] ∧ ds.length ≤ 1000000 ∧ B.nx (ρ.set i (some (.own (ds ++ [y])))) n1 := ax_cons (ex_mono h fun d n1 ⟨y, e1, r⟩ => ax_nil ⟨y, by rw [e1], r⟩) hs
  refine ax_wp ha k w en fun vs H1 ⟨dds, L1, n1, s1, w1, i1, y, e1, hz, r1⟩ => ?_
  subst e1
  obtain ⟨v, rfl, iv⟩ := all1 i1
  obtain ⟨l1, h1⟩ := stay_at s1 lq hq nq
  have d1 := ex_dps s1.grow hdq
  refine ⟨q, xs, v, rfl, rfl, h1, by rw [dps_len d1]; exact Nat.lt_of_le_of_lt hz (by decide), L1, _, n1, (s0.trans s1).wrote h0 h1, w1.wrote l1 nq, (en.go s1).write (d' := .own (ds ++ [y])) hi rfl hσ ⟨q, _, rfl, l1, nq, upd_same, dps_app d1 (.cons iv .nil)⟩ rfl, r1⟩
theorem sx_extend {i : Nat} {x : Str} {ds : List Dat} {B : Bx} {sp : Pos} (hx : At c.N i x) (hi : ρ[i]? = some (some (.own ds))) (h : EX G c e ρ n fun d n1 => ∃ ys, d = .own ys ∧ ds.length + ys.length ≤ 1000000 ∧ B.nx (ρ.set i (some (.own (ds ++ ys)))) n1) (hd : (x == ("__debug__" : Str)) = false := by decide) (hcd : (x == ("__classdict__" : Str)) = false := by decide)
    (hline : (apos.endLine == cpos.line) = true := by rfl) (hs : ∀ env, starEach [e] env = [(false, eval e env)] := by intro _; rfl) : SX G c (.Expr (.Call (.Attribute (.Name x p) "extend" apos) [e] [] cpos) sp) ρ n B := sx_ps fun X k => by
  refine ⟨tDrop (tBM X.K "list" _ (wpE X (.Name x p)) (tCons (wpE X e) tNil)), ps_expr (pe_bm PySem.F.plainAttrs_list PySem.F.slot_list_extend PySem.F.type_list_extend mt_extend (pe_wp _) (pa_cons (pe_wp e) pa_nil (hs _)) rfl (by rw [show backTo cpos (starEach [e] X.env) = backTo cpos [(false, eval e X.env)] from congrArg _ (hs _)]; rfl) hline (hs _) rfl) rfl, fun L0 H0 σ L H s0 w en => ?_⟩
  obtain ⟨pv, q, xs, hσ, lq, nq, hq, hdq, h0⟩ := own_at (p := p) k en hx hi hd hcd
  refine fun pins s I => pv.run pins s σ H _ I ⟨.ref q, hσ, .inl ⟨rfl, xs, SqL.of hq⟩, ?_⟩
  refine ex_wp h k w en fun vs H1 ⟨d, L1, n1, s1, w1, i1, nw, ys, e1, hz, r1⟩ => ?_
  subst e1
  obtain ⟨b, zs, rfl, lb, nb, hb, hdb⟩ := i1
  obtain ⟨l1, h1⟩ := stay_at s1 lq hq nq
  have d1 := ex_dps s1.grow hdq
  refine ⟨q, b, xs, zs, rfl, rfl, h1, hb, by rw [dps_len d1, dps_len hdb]; exact Nat.le_trans hz (by decide), L1, _, n1, (s0.trans s1).wrote h0 h1, w1.wrote l1 nq, (en.go s1).write (d' := .own (ds ++ ys)) hi rfl hσ ⟨q, _, rfl, l1, nq, upd_same, dps_app d1 hdb⟩ rfl, r1⟩
/-! ### a dict of one's own, ints to True -/
theorem dic_val (ks : List Int) (j : Int) : (valV (ks.map fun k => ((Sum.inl k : Key), V.bl true)) (Sum.inl j)).isSome = decide (j ∈ ks) := by
  induction ks with
  | nil => rfl
  | cons k r ih =>
    rw [List.map_cons]
    by_cases e : k = j
    · subst e
      rw [valV_pos rfl]
      simp
    · rw [valV_neg (fun z => e (Sum.inl.inj z)), ih]
      simp [Ne.symm e]
theorem dic_at {X : Cx} {σ : L2.St} {H0 L H : Hp} {i : Nat} {x : Str} {ks : List Int} (k : Like G c X) (en : En G c H0 L H σ ρ) (hx : At c.N i x) (h : ρ[i]? = some (some (.dic ks))) (hd : (x == ("__debug__" : Str)) = false) (hcd : (x == ("__classdict__" : Str)) = false) :
    PE X (.Name x p) (tVar i) ∧ ∃ q, σ[i]? = some (some (.ref q)) ∧ L q = none ∧ c.src ≠ some q ∧ H q = some (.dK (ks.map fun k => ((Sum.inl k : Key), V.bl true))) ∧ H0 q = none := by
  obtain ⟨y, v, h1, h2, h3, h4⟩ := en.at_ i _ h
  have e : x = y := Option.some.inj (hx.get.symm.trans h1)
  subst e
  obtain ⟨q, rfl, a1, a2, a3⟩ := h4
  exact ⟨pe_var (by rw [k.N]; exact h1) (by rw [k.sc]; exact h2) hd hcd, q, h3, a1, a2, a3, en.own i _ q h rfl h3⟩
theorem tx_niD {i : Nat} {x : Str} {ks : List Int} {RT : Bool → Nat → Prop} (hx : At c.N i x) (hi : ρ[i]? = some (some (.dic ks))) (h : EX G c e ρ n fun d n1 => ∃ j, d = dI j ∧ RT (!decide (j ∈ ks)) n1) (hd : (x == ("__debug__" : Str)) = false := by decide) (hcd : (x == ("__classdict__" : Str)) = false := by decide)
    (hb : behindInMarks .NotIn (.Name x p) = false := by rfl) : TX G c (.Compare e [.NotIn] [.Name x p] pos) ρ n RT := tx_pt fun X k => by
  refine ⟨tB (tDNotIn (wpE X e) (wpE X (.Name x p))), pt_cmp (pc_dnotin (by have := k.units; omega) (pe_wp e) (pe_wp _)) hb, fun σ H0 L H w en => ?_⟩
  refine ex_wp h k w en fun v H1 ⟨d, L1, n1, s1, w1, i1, _, j, e1, r⟩ => ?_
  subst e1
  obtain rfl := dp_int i1
  obtain ⟨pv, q, hσ, lq, nq, hq, h0⟩ := dic_at (p := p) k (en.go s1) hx hi hd hcd
  refine fun pins s I => pv.run pins s σ H1 _ I ⟨.ref q, hσ, q, _, rfl, DGet.k (k := Sum.inl j) hq, _, rfl, ?_⟩
  rw [dic_val]
  exact ⟨L1, n1, s1, w1, r⟩
theorem ex_dic (r : R (.dic []) n) : EX G c (.Dict [] [] pos) ρ n R := ex_pe fun X k => ⟨_, pe_dnewK, fun σ H0 L H w en q hq => ⟨.dic [], L, n, .up _ hq, w.up _ hq, ⟨q, rfl, w.none_of hq, w.nsrc hq, upd_same⟩, fun _ p e => by cases e; exact hq, r⟩⟩
theorem sx_dset {i : Nat} {x : Str} {ks : List Int} {B : Bx} {jj : Nat} {q1 q2 : Pos} (hx : At c.N i x) (hi : ρ[i]? = some (some (.dic ks))) (h : EX G c e ρ n fun d n1 => ∃ j, d = dI j ∧ j ∉ ks ∧ ks.length ≤ 1000 ∧ B.nx (ρ.set i (some (.dic (ks ++ [j])))) n1) (hd : (x == ("__debug__" : Str)) = false := by decide) (hcd : (x == ("__classdict__" : Str)) = false := by decide)
    (hs : NoSl e := by intro _ _; rfl) : SX G c (.Assign [.Subscript (.Name x p) e q1] (.Constant (.bool true) jj q2) pos) ρ n B := sx_ps fun X k => by
  refine ⟨sDPut (wpE X (.Name x p)) (wpE X e) (tC (.bl true)), ps_dput (by have := k.units; omega) (pe_wp _) (pe_wp e) pe_bl (by first | exact hs | rfl), fun L0 H0 σ L H s0 w en => ?_⟩
  obtain ⟨pv, q, hσ, lq, nq, hq, h0⟩ := dic_at (p := p) k en hx hi hd hcd
  refine fun pins s I => pv.run pins s σ H _ I ⟨.ref q, hσ, ?_⟩
  refine ex_wp h k w en fun v H1 ⟨d, L1, n1, s1, w1, i1, _, j, e1, hj, hz, r⟩ => ?_
  subst e1
  obtain rfl := dp_int i1
  obtain ⟨l1, h1⟩ := stay_at s1 lq hq nq
  have hn : valV (ks.map fun k => ((Sum.inl k : Key), V.bl true)) (Sum.inl j) = none := by
    have z := dic_val ks j
    rw [decide_eq_false hj] at z
    cases e : valV (ks.map fun k => ((Sum.inl k : Key), V.bl true)) (Sum.inl j) with
    | none => rfl
    | some u => rw [e] at z; cases z
  have ep : putK (ks.map fun k => ((Sum.inl k : Key), V.bl true)) (Sum.inl j) (V.bl true) = (ks ++ [j]).map fun k => ((Sum.inl k : Key), V.bl true) := by rw [putK_new _ hn, List.map_append] <;> rfl
  refine ⟨q, _, rfl, DPut.k (k := Sum.inl j) h1 (by rw [List.length_map]; exact small1000 hz), L1, _, n1, (s0.trans s1).wrote h0 h1, w1.wrote l1 nq, (en.go s1).write (d' := .dic (ks ++ [j])) hi rfl hσ ⟨q, rfl, l1, nq, by rw [ep]; exact upd_same⟩ rfl, r⟩

/-! ### a tuple whose object is known -/
theorem b_tupN {xs : List Dat} (r : R (.ntup xs) n) : CB G c (.type "tuple") [dL xs] n R := fun X k =>
  ⟨fun vs H Q => ∃ q ys, vs = [.ref q] ∧ SqL X.K H q ys ∧ ∀ l o, H l = none → o.dict = none → Q (.ref l) (upd H l (.frz o (.tup ys))), fun pins s σ H vs us Q I r h => by
    obtain ⟨q, ys, rfl, hq, h⟩ := h
    obtain ⟨u, rfl, rx⟩ := vals1 r
    cases rx
    obtain ⟨its, r', pl, hz⟩ := I.list hq
    have hlen := r'.length
    refine call_tuple_list pl.isList (fun h' kp => ?_) (by simp only [List.size_toArray] <;> omega)
    have I1 : Inv X pins σ H { s with heap := h' } := I.kept (t' := s.toks) kp
    have I2 : Inv X pins σ (upd H h'.objs.size (.frz { cls := .type "tuple", data := .seq its.toArray } (.tup ys))) { s with heap := h'.push { cls := .type "tuple", data := .seq its.toArray } } :=
      I1.laid (t' := s.toks) (fun b o e => Heap.get?_push_of_some _ e) (Nat.le_refl _) ⟨Heap.get?_push_size _ rfl, hz, its, r', PyProof.Rows.IsTup.new _ _⟩
    exact ⟨.ref h'.objs.size, _, I2, rfl, h _ _ (I1.hok.fresh (Nat.le_refl _)) rfl⟩,
   fun L H vs w i => by
    obtain ⟨v, rfl, j⟩ := all1 i
    obtain ⟨a, ys, rfl, h1, r1⟩ := dp_lst j
    refine ⟨a, ys, rfl, by rw [k.K]; exact ex_l w.sub h1, fun l o hl ho => ⟨.ntup xs, upd L l (.frz o (.tup ys)), n, .newB w _ hl, w.both _ hl, ⟨l, o, ys, rfl, upd_same, ho, ex_dps (same_new (w.none_of hl)) r1⟩, .no rfl, r⟩⟩⟩
theorem ex_indexN {o : Expr} (h : EX G c o ρ n fun d n1 => ∃ ys : List Str, d = .ntup (ys.map PyData.str) ∧ EX G c e ρ n1 fun d2 n2 => ∃ (z : Str) (j : Nat), d2 = dS z ∧ ys[j]? = some z ∧ (∀ m, m < j → ys[m]? ≠ some z) ∧ R (dI j) n2)
    (hbase : ∀ env, attributeBase o "index" env (eval o env) = eval o env := by intro _; rfl) (hline : (apos.endLine == cpos.line) = true := by rfl) (hs : ∀ env, starEach [e] env = [(false, eval e env)] := by intro _; rfl) : EX G c (.Call (.Attribute o "index" apos) [e] [] cpos) ρ n R := ex_pe fun X k => by
  refine ⟨fun σ H Q => wpE X o σ H fun x H1 => ∃ a ob xs, x = .ref a ∧ H1 a = some (.frz ob (.tup xs)) ∧ ob.dict = none ∧ wpE X e σ H1 fun y H2 => ∃ p, ∃ ys : List Str, ∃ z j, x = .ref p ∧ [y] = [.str z] ∧ SqT X.K H2 p (ys.map V.str) ∧ ys[j]? = some z ∧ (∀ m, m < j → ys[m]? ≠ some z) ∧ Q (.int (j : Nat)) H2, ⟨fun pins s σ H Q I hh => ?_⟩, fun σ H0 L H w en => ?_⟩
  · refine wpAny_Call_method1_late (hbase _) hline (by rw [hs]; rfl) (thn ((pe_wp (X := X) o).run pins s σ H _ I hh) fun v s1 ⟨x, H1, I1, r1, a, ob, xs, e1, h1, hd, q1⟩ => ?_)
    subst e1
    cases r1
    obtain ⟨g1, _, its, rv, hT⟩ := I1.hok a _ h1
    refine ⟨"tuple", _, PySem.F.plainAttrs_tuple, PySem.F.slot_tuple_index, PySem.F.type_tuple_index, hT.typeIs, fun a' e' => ?_, ?_⟩
    · cases e'; exact ⟨ob, g1, hd⟩
    · refine Calls.callWith_builtin rfl (Calls.evalArgs_plain ?_)
      have hA := (pa_cons (pe_wp (X := X) e) pa_nil (hs _)).run cpos pins s1 σ H1 (fun xs H2 => ∃ y, xs = [y] ∧ ∃ p, ∃ ys : List Str, ∃ z j, V.ref a = .ref p ∧ [y] = [.str z] ∧ SqT X.K H2 p (ys.map V.str) ∧ ys[j]? = some z ∧ (∀ m, m < j → ys[m]? ≠ some z) ∧ Q (.int (j : Nat)) H2) I1 (fun pins s I => thn (q1 pins s I) fun u s' ⟨v, H', I', r', z⟩ => ⟨v, H', I', r', v, rfl, z⟩)
      rw [hs] at hA
      exact thn hA fun us s2 ⟨vs, H2, I2, r2, y, e3, q2⟩ => by
        subst e3
        exact mt_tup_index pins s2 σ H2 (.ref a) [y] (.ref a) us Q I2 rfl r2 q2
  · refine ex_wp h k w en fun v H1 ⟨d, L1, n1, s1, w1, i1, _, ys, e1, r1⟩ => ?_
    subst e1
    obtain ⟨a, ob, xs, rfl, h1, h2, h3⟩ := i1
    refine ⟨a, ob, xs, rfl, w1.sub _ _ h1, h2, ex_wp r1 k w1 (en.go s1) fun u H2 ⟨d2, L2, n2, s2, w2, i2, _, z, j, e2, g1, g2, r2⟩ => ?_⟩
    subst e2
    obtain rfl := dp_str i2
    have ht : SqT X.K H2 a xs := .inl (.inr ⟨ob, w2.sub _ _ (s2.grow _ _ h1)⟩)
    rw [dps_strs h3] at ht
    exact ⟨a, ys, z, j, rfl, rfl, ht, g1, g2, (ev_dat w2 (.int _) r2).back (s1.trans s2)⟩
/-! ### star arguments -/
theorem isall_app {src : Option Addr} {L H : Hp} : ∀ {vs ws : List V} {ds es : List D}, IsAll G src L H vs ds → IsAll G src L H ws es → IsAll G src L H (vs ++ ws) (ds ++ es)
  | _, _, _, _, .nil, s => s
  | _, _, _, _, .cons r t, s => .cons r (isall_app t s)
theorem ax_star (h : EX G c e ρ n fun d n1 => ∃ xs, (d = dT xs ∨ d = dL xs) ∧ AX G c es ρ n1 fun ds n2 => RA (xs.map D.dat ++ ds) n2) (hs : ∀ env, starEach (.Starred e p :: es) env = (true, eval e env) :: starEach es env := by intro _; rfl) : AX G c (.Starred e p :: es) ρ n RA := ax_pa fun X k =>
  ⟨_, StX.pa_star (pe_wp e) (pa_wp es) (hs _), fun σ H0 L H w en => ex_wp h k w en fun v H' ⟨d, L', n', s', w', i, _, xs, hd, r⟩ => by
    have conv : ∀ {L : Hp} {H : Hp} {vs : List V} {xs : List Dat}, DpAll G.K L vs xs → IsAll G c.src L H vs (xs.map D.dat) := by
      intro L H vs xs h
      induction xs generalizing vs with
      | nil => cases h; exact .nil
      | cons x xs ih => cases h with | cons a b => exact .cons a (ih b)
    rcases hd with rfl | rfl
    · obtain ⟨q, vs, rfl, h1, hr⟩ := dp_tup i
      exact ⟨q, vs, rfl, .inl (by rw [k.K]; exact ex_t w'.sub h1), ax_wp r k w' (en.go s') fun ws H2 ⟨ds, L2, n2, s2, w2, i2, r2⟩ => ⟨_, L2, n2, s'.trans s2, w2, isall_app (conv (ex_dps s2.grow hr)) i2, r2⟩⟩
    · obtain ⟨q, vs, rfl, h1, hr⟩ := dp_lst i
      exact ⟨q, vs, rfl, .inr (by rw [k.K]; exact ex_l w'.sub h1), ax_wp r k w' (en.go s') fun ws H2 ⟨ds, L2, n2, s2, w2, i2, r2⟩ => ⟨_, L2, n2, s'.trans s2, w2, isall_app (conv (ex_dps s2.grow hr)) i2, r2⟩⟩⟩
theorem ex_callS {x : Str} {Φ : Sig} {k : Nat} (S : Sg G x k Φ) (hk : k ≤ c.k) (hg : c.sc.names.lookup x = some .globalImplicit) (h : AX G c (e :: es) ρ n fun ds n1 => Φ ds n1 R) (hdb : (x == ("__debug__" : Str)) = false := by decide)
    (he : ∀ env, starEach (e :: es) env = (false, eval e env) :: starEach es env := by intro _; rfl) (hst : ∀ env, (backTo pos (starEach es env)).any (·.1) = true := by intro _; rfl) : EX G c (.Call (.Name x p) (e :: es) [] pos) ρ n R := ex_pe fun X lk => by
  obtain ⟨f, hm, hkp, F⟩ := S.ex
  rw [← lk.prog, ← lk.w, ← lk.K, ← lk.mg, ← lk.base] at F
  exact ⟨_, StX.pe_callS2 F (lk.room.mono hk) (by rw [lk.K]; exact hkp) (gl_of lk hg) (by rw [lk.mg]; exact hm) pass0 (pa_wp _) hdb (he _) (hst _), fun σ H0 L H w en => ax_wp h lk w en fun vs H1 ⟨ds, L1, n1, s', w', i', q⟩ => sp_of w' i' q fun v H' z => z.back s'⟩
end
end DL
/-! zip(a, b, strict=True) of two tuples of one length. -/
namespace ZS
open PySem PySem.Spec L2
open PySem.Sem (wp)

abbrev ZRec (h : Heap) (z TI TO : Addr) (f : Value) : Prop := h.get? z = some { cls := .type "zip", dict := none, data := .fields #[f, .bool false, .bool true, .ref TI, .ref TO], slots := #[] }

section
variable {prog : Program} {w : World} {A : Around} {E : Value → Shared → Prop} {s : Shared}
theorem noe_item {p q : Addr} {i : Nat} {zs : Array Value} {v : Value} {Q : Option Value → Shared → Prop} (hp : s.heap.IsTupleIter p q i) (hq : s.heap.IsTuple q zs) (hv : zs[i]? = some v)
    (k : ∀ h', h'.IsTupleIter p q (i + 1) → Heap.SameBut p s.heap h' → Q (some v) { s with heap := h' }) : wpAny (model prog w) A (Builtin.SmallTypes.nextOrEnd (.ref p)) Q E s := by
  unfold Builtin.SmallTypes.nextOrEnd
  exact wpAny_bind (wpAny_attempt (RZ.nextOf_tuple_item hp hq hv fun h' a b => wpAny_pure (k h' a b)))
theorem noe_end {p q : Addr} {i : Nat} {zs : Array Value} {Q : Option Value → Shared → Prop} (hh : A.handled = none) (hp : s.heap.IsTupleIter p q i) (hq : s.heap.IsTuple q zs) (hv : zs[i]? = none)
    (k : ∀ h', Heap.ExtBut p s.heap h' → Q none { s with heap := h' }) : wpAny (model prog w) A (Builtin.SmallTypes.nextOrEnd (.ref p)) Q E s := by
  unfold Builtin.SmallTypes.nextOrEnd
  refine wpAny_bind (wpAny_attempt (RZ.nextOf_tuple_end hh hp hq hv fun h' e a b => ?_))
  obtain ⟨o, ho, hc⟩ := b
  exact wpAny_bind (wpAny_isInstance (T := "StopIteration") (b := true) ⟨o, ho, hc⟩ isSubtype_stop (wpAny_pure (k h' a)))

theorem step_item {z TI TO p1 p2 q1 q2 : Addr} {k1 k2 : Nat} {xs ys : Array Value} {x y a b : Value} {Q : Value → Shared → Prop} (D : ZipApart z TI TO p1 p2 q1 q2)
    (hz : ZRec s.heap z TI TO .none) (hI : IsPair s.heap TI (.ref p1) (.ref p2)) (hO : IsPair s.heap TO a b)
    (h1 : s.heap.IsTupleIter p1 q1 k1) (h2 : s.heap.IsTupleIter p2 q2 k2) (t1 : s.heap.IsTuple q1 xs) (t2 : s.heap.IsTuple q2 ys) (hx : xs[k1]? = some x) (hy : ys[k2]? = some y)
    (k : ∀ h', ZRec h' z TI TO (rawInt s.heap.objs.size) → IsPair h' TO x y → h'.IsTupleIter p1 q1 (k1 + 1) → h'.IsTupleIter p2 q2 (k2 + 1) → IsPair h' s.heap.objs.size x y → h'.objs.size = s.heap.objs.size + 1 →
      (∀ c o, c ≠ z → c ≠ TO → c ≠ p1 → c ≠ p2 → s.heap.get? c = some o → h'.get? c = some o) → Q (.ref s.heap.objs.size) { s with heap := h' }) :
    wpAny (model prog w) A (Builtin.«zip.__next__» ⟨[.ref z], []⟩) (fun fin s' => ∃ v, fin = .done (.ret v) ∧ Q v s') E s := by
  have E2 {h h' : Heap} {c : Addr} (n : c ≠ z) (q : Heap.SameBut z h h') {o : Obj} (g : h.get? c = some o) : h'.get? c = some o := q.extBut _ _ n g
  show wpAny _ _ (field (.ref z) 2 >>= _) _ _ _
  refine wpAny_bind (wpAny_field hz rfl (x := .bool true) rfl ?_)
  show wpAny _ _ (field (.ref z) 3 >>= _) _ _ _
  refine wpAny_bind (wpAny_field hz rfl (x := .ref TI) rfl (wpAny_bind (wpAny_seqItems hI rfl ?_)))
  show wpAny _ _ (Builtin.SmallTypes.ownedTupleIsFree (.ref z) >>= _) _ _ _
  refine wpAny_bind ?_
  unfold Builtin.SmallTypes.ownedTupleIsFree
  refine wpAny_bind (wpAny_field hz rfl (x := .none) rfl (wpAny_pure ?_))
  simp only [if_true]
  refine wpAny_bind (wpAny_rule (wpAny_bind (wpAny_field hz rfl (x := .ref TO) rfl (wpAny_bind (wpAny_setField_rec hz (by simp) fun g1 z1 e1 => ?_)))))
  replace z1 : ZRec g1 z TI TO .ellipsis := z1
  refine wpAny_bind ?_
  simp only [List.zipIdx_cons, List.zipIdx_nil, List.forIn_cons, List.forIn_nil]
  refine wpAny_bind (wpAny_bind (wpAny_onRaise ?_))
  show wpAny _ _ (Builtin.SmallTypes.nextOrEnd (.ref p1)) _ _ _
  refine noe_item (h1.extBut e1.extBut D.i1z) (t1.extBut e1.extBut D.l1z) hx fun g2 i2 e2 => ?_
  have O2 : IsPair g2 TO a b := e2.extBut _ _ D.TOi1 (e1.extBut _ _ D.TOz hO)
  refine wpAny_bind (wpAny_seqItems O2 rfl (wpAny_bind (wpAny_updateSeq_pair O2 fun g3 O3 e3 => ?_)))
  replace O3 : IsPair g3 TO x b := O3
  refine wpAny_bind (wpAny_letGo (wpAny_pure ?_))
  refine wpAny_bind (wpAny_bind (wpAny_onRaise ?_))
  show wpAny _ _ (Builtin.SmallTypes.nextOrEnd (.ref p2)) _ _ _
  refine noe_item (((h2.extBut e1.extBut D.i2z).extBut e2.extBut D.i12.symm).extBut e3.extBut D.TOi2.symm) (((t2.extBut e1.extBut D.l2z).extBut e2.extBut D.l2i1).extBut e3.extBut D.l2TO) hy fun g4 i4 e4 => ?_
  have O4 : IsPair g4 TO x b := e4.extBut _ _ D.TOi2 O3
  refine wpAny_bind (wpAny_seqItems O4 rfl (wpAny_bind (wpAny_updateSeq_pair O4 fun g5 O5 e5 => ?_)))
  replace O5 : IsPair g5 TO x y := O5
  refine wpAny_bind (wpAny_letGo (wpAny_pure (wpAny_pure ?_)))
  refine wpAny_bind (wpAny_seqItems O5 rfl (wpAny_bind (wpAny_newTuple ?_)))
  have hsz : g5.objs.size = s.heap.objs.size := by rw [e5.1, e4.1, e3.1, e2.1, e1.1]
  have z5 : ZRec g5 z TI TO .ellipsis := e5.extBut _ _ D.TOz.symm (e4.extBut _ _ D.i2z.symm (e3.extBut _ _ D.TOz.symm (e2.extBut _ _ D.i1z.symm z1)))
  have k5 : ∀ c o, c ≠ z → c ≠ TO → c ≠ p1 → c ≠ p2 → s.heap.get? c = some o → g5.get? c = some o := fun c o c1 c2 c3 c4 e => e5.extBut _ _ c2 (e4.extBut _ _ c4 (e3.extBut _ _ c2 (e2.extBut _ _ c3 (e1.extBut _ _ c1 e))))
  have i5 : g5.IsTupleIter p1 q1 (k1 + 1) := ((i2.extBut e3.extBut D.TOi1.symm).extBut e4.extBut D.i12).extBut e5.extBut D.TOi1.symm
  have j5 : g5.IsTupleIter p2 q2 (k2 + 1) := i4.extBut e5.extBut D.TOi2.symm
  have lz : z < g5.objs.size := Heap.lt_size z5
  show wpAny _ _ (Builtin.SmallTypes.ownedTupleHandOut (.ref z) (.ref g5.objs.size) >>= _) _ _ _
  refine wpAny_bind ?_
  unfold Builtin.SmallTypes.ownedTupleHandOut
  have z6 : ZRec (g5.push { cls := .type "tuple", data := .seq #[x, y] }) z TI TO .ellipsis := Heap.get?_push_of_some _ z5
  refine wpAny_bind (wpAny_setField_rec z6 (by simp) fun g7 z7 e7 => ?_)
  replace z7 : ZRec g7 z TI TO (rawInt g5.objs.size) := z7
  refine wpAny_setField_rec z7 (by simp) fun g8 z8 e8 => ?_
  replace z8 : ZRec g8 z TI TO (rawInt g5.objs.size) := z8
  have up : ∀ c o, c ≠ z → g5.get? c = some o → g8.get? c = some o := fun c o c1 e => e8.extBut _ _ c1 (e7.extBut _ _ c1 (Heap.get?_push_of_some _ e))
  have T8 : IsPair g8 g5.objs.size x y := e8.extBut _ _ (Nat.ne_of_gt lz) (e7.extBut _ _ (Nat.ne_of_gt lz) (Heap.get?_push_size _ rfl))
  have s8 : g8.objs.size = g5.objs.size + 1 := by rw [e8.1, e7.1, Heap.size_push]
  rw [hsz] at z8 T8 s8
  refine wpAny_pure ⟨_, rfl, ?_⟩
  show Q (.ref g5.objs.size) _
  rw [hsz]
  exact k g8 z8 (up _ _ D.TOz O5) (i5.at fun o e => up _ o D.i1z e) (j5.at fun o e => up _ o D.i2z e) T8 s8 fun c o c1 c2 c3 c4 e => up c o c1 (k5 c o c1 c2 c3 c4 e)
theorem step_end {z TI TO p1 p2 q1 q2 : Addr} {k1 k2 : Nat} {xs ys : Array Value} {a b : Value} {Q : Fin → Shared → Prop} (hh : A.handled = none) (D : ZipApart z TI TO p1 p2 q1 q2)
    (hz : ZRec s.heap z TI TO .none) (hI : IsPair s.heap TI (.ref p1) (.ref p2)) (hO : IsPair s.heap TO a b)
    (h1 : s.heap.IsTupleIter p1 q1 k1) (h2 : s.heap.IsTupleIter p2 q2 k2) (t1 : s.heap.IsTuple q1 xs) (t2 : s.heap.IsTuple q2 ys) (hx : xs[k1]? = none) (hy : ys[k2]? = none)
    (k : ∀ h' e, (∀ c o, c ≠ z → c ≠ TO → c ≠ p1 → c ≠ p2 → s.heap.get? c = some o → h'.get? c = some o) → (∃ o, h'.get? e = some o ∧ o.cls = .type "StopIteration") → E (.ref e) { s with heap := h' }) :
    wpAny (model prog w) A (Builtin.«zip.__next__» ⟨[.ref z], []⟩) Q E s := by
  show wpAny _ _ (field (.ref z) 2 >>= _) _ _ _
  refine wpAny_bind (wpAny_field hz rfl (x := .bool true) rfl ?_)
  show wpAny _ _ (field (.ref z) 3 >>= _) _ _ _
  refine wpAny_bind (wpAny_field hz rfl (x := .ref TI) rfl (wpAny_bind (wpAny_seqItems hI rfl ?_)))
  show wpAny _ _ (Builtin.SmallTypes.ownedTupleIsFree (.ref z) >>= _) _ _ _
  refine wpAny_bind ?_
  unfold Builtin.SmallTypes.ownedTupleIsFree
  refine wpAny_bind (wpAny_field hz rfl (x := .none) rfl (wpAny_pure ?_))
  simp only [if_true]
  refine wpAny_bind (wpAny_rule (wpAny_bind (wpAny_field hz rfl (x := .ref TO) rfl (wpAny_bind (wpAny_setField_rec hz (by simp) fun g1 z1 e1 => ?_)))))
  replace z1 : ZRec g1 z TI TO .ellipsis := z1
  refine wpAny_bind ?_
  simp only [List.zipIdx_cons, List.zipIdx_nil, List.forIn_cons, List.forIn_nil]
  refine wpAny_bind (wpAny_bind (wpAny_onRaise ?_))
  show wpAny _ _ (Builtin.SmallTypes.nextOrEnd (.ref p1)) _ _ _
  refine noe_end hh (h1.extBut e1.extBut D.i1z) (t1.extBut e1.extBut D.l1z) hx fun g2 e2 => ?_
  have z2 : ZRec g2 z TI TO .ellipsis := e2 _ _ D.i1z.symm z1
  have j2 : g2.IsTupleIter p2 q2 k2 := (h2.extBut e1.extBut D.i2z).extBut e2 D.i12.symm
  have u2 : g2.IsTuple q2 ys := (t2.extBut e1.extBut D.l2z).extBut e2 D.l2i1
  refine wpAny_bind (wpAny_setField_rec z2 (by simp) fun g3 z3 e3 => ?_)
  refine wpAny_bind ?_
  show wpAny _ _ (forIn [(Value.ref p2, 1)] PUnit.unit _ >>= _) _ _ _
  refine wpAny_bind ?_
  simp only [List.forIn_cons, List.forIn_nil]
  show wpAny _ _ ((Builtin.SmallTypes.nextOrEnd (.ref p2) >>= _) >>= _) _ _ _
  refine wpAny_bind (wpAny_bind (noe_end hh ((j2.extBut e3.extBut D.i2z)) (u2.extBut e3.extBut D.l2z) hy fun g4 e4 => ?_))
  refine wpAny_pure (wpAny_pure (wpAny_bind (wpAny_rule ?_)))
  show wpAny _ _ (newExc (.type "StopIteration") [] >>= _) _ _ _
  refine wpAny_bind ?_
  simp only [newExc, newTuple]
  refine wpAny_bind (wpAny_newObj_type ?_ (by size_fits))
  refine wpAny_bind (m := firstArgMember _ _) (wpAny_of_eq (a := Value.none) (by first | rfl | (simp only [firstArgMember]; rfl)) ?_)
  refine wpAny_newObj_type ?_ (by size_fits)
  simp only [raiseNew]
  refine wpAny_bind (wpAny_handled ?_)
  first | rw [show A.in1.handled = none from hh] | rw [hh]
  refine wpAny_bind (wpAny_pure (wpAny_throw (k _ _ (fun c o c1 c2 c3 c4 g => ?_) ⟨_, Heap.get?_push_size _ rfl, rfl⟩)))
  exact Heap.get?_push_of_some _ (Heap.get?_push_of_some _ (e4 _ _ c4 (e3.extBut _ _ c1 (e2 _ _ c3 (e1.extBut _ _ c1 g)))))

theorem nx_item {z TI TO p1 p2 q1 q2 : Addr} {k1 k2 : Nat} {xs ys : Array Value} {x y a b : Value} {Q : Option Value → Shared → Prop} (D : ZipApart z TI TO p1 p2 q1 q2)
    (hz : ZRec s.heap z TI TO .none) (hI : IsPair s.heap TI (.ref p1) (.ref p2)) (hO : IsPair s.heap TO a b)
    (h1 : s.heap.IsTupleIter p1 q1 k1) (h2 : s.heap.IsTupleIter p2 q2 k2) (t1 : s.heap.IsTuple q1 xs) (t2 : s.heap.IsTuple q2 ys) (hx : xs[k1]? = some x) (hy : ys[k2]? = some y)
    (k : ∀ h', ZRec h' z TI TO (rawInt s.heap.objs.size) → IsPair h' TO x y → h'.IsTupleIter p1 q1 (k1 + 1) → h'.IsTupleIter p2 q2 (k2 + 1) → IsPair h' s.heap.objs.size x y → h'.objs.size = s.heap.objs.size + 1 →
      (∀ c o, c ≠ z → c ≠ TO → c ≠ p1 → c ≠ p2 → s.heap.get? c = some o → h'.get? c = some o) → Q (some (.ref s.heap.objs.size)) { s with heap := h' }) : wpAny (model prog w) A (pyNext (.ref z)) Q E s := by
  have hT : s.TypeIs (.ref z) "zip" := ⟨_, hz, rfl⟩
  unfold pyNext
  refine wpAny_bind (wpAny_attempt (wpAny_callSpecial?_slot (name := Str.ofString "__next__") hT F.slot_zip_next ?_))
  exact wpAny_call_entry F.slot_zip_next hT F.entry_zip_next (step_item D hz hI hO h1 h2 t1 t2 hx hy fun h' a1 a2 a3 a4 a5 a6 a7 => wpAny_pure (k h' a1 a2 a3 a4 a5 a6 a7)) (F.args_zip_next_1 _)
theorem nx_end {z TI TO p1 p2 q1 q2 : Addr} {k1 k2 : Nat} {xs ys : Array Value} {a b : Value} {Q : Option Value → Shared → Prop} (hh : A.handled = none) (D : ZipApart z TI TO p1 p2 q1 q2)
    (hz : ZRec s.heap z TI TO .none) (hI : IsPair s.heap TI (.ref p1) (.ref p2)) (hO : IsPair s.heap TO a b)
    (h1 : s.heap.IsTupleIter p1 q1 k1) (h2 : s.heap.IsTupleIter p2 q2 k2) (t1 : s.heap.IsTuple q1 xs) (t2 : s.heap.IsTuple q2 ys) (hx : xs[k1]? = none) (hy : ys[k2]? = none)
    (k : ∀ h', (∀ c o, c ≠ z → c ≠ TO → c ≠ p1 → c ≠ p2 → s.heap.get? c = some o → h'.get? c = some o) → Q none { s with heap := h' }) : wpAny (model prog w) A (pyNext (.ref z)) Q E s := by
  have hT : s.TypeIs (.ref z) "zip" := ⟨_, hz, rfl⟩
  unfold pyNext
  refine wpAny_bind (wpAny_attempt (wpAny_callSpecial?_slot (name := Str.ofString "__next__") hT F.slot_zip_next ?_))
  refine wpAny_call_entry F.slot_zip_next hT F.entry_zip_next (step_end hh D hz hI hO h1 h2 t1 t2 hx hy fun h' e a1 a2 => ?_) (F.args_zip_next_1 _)
  obtain ⟨o, ho, hc⟩ := a2
  exact wpAny_bind (wpAny_isInstance (T := "StopIteration") (b := true) ⟨o, ho, hc⟩ isSubtype_stop (wpAny_pure (k _ a1)))
theorem nx_self {z TI TO : Addr} {f : Value} {Q : Value → Shared → Prop} (hz : ZRec s.heap z TI TO f) (h : Q (.ref z) s) : wpAny (model prog w) A (pyIter (.ref z)) Q E s := by
  have hT : s.TypeIs (.ref z) "zip" := ⟨_, hz, rfl⟩
  refine wpAny_pyIter_slot hT F.slot_zip_iter (wpAny_call_entry F.slot_zip_iter hT F.entry_zip_iter ?_ (F.args_zip_iter_1 _))
  show wpAny _ _ (ret (.ref z)) _ _ s
  exact wpAny_pure ⟨_, rfl, "zip", _, hT, F.slot_zip_next.lookup, h⟩
theorem nx_go {elts : List Expr} {m : Nat} {pos : Pos} {z TI TO T : Addr} {Q : Unit → Shared → Prop} (hz : ZRec s.heap z TI TO (rawInt T)) (hQ : ∀ h', ZRec h' z TI TO .none → Heap.SameBut z s.heap h' → Q () { s with heap := h' }) :
    wpAny (model prog w) A (letOwnedTupleGo (.Tuple elts m pos) (.ref z) (.ref T)) Q E s := by
  unfold letOwnedTupleGo
  refine wpAny_bind (wpAny_load hz ?_)
  show wpAny _ _ (if (["enumerate", "zip", "dict_itemiterator", "dict_reverseitemiterator", "odict_iterator", "itertools.zip_longest", "itertools.pairwise"].contains "zip" && (#[rawInt T, .bool false, .bool true, .ref TI, .ref TO] : Array Value)[0]? == some (rawInt T)) = true then _ else _) Q E s
  rw [if_pos (by simp)]
  refine wpAny_bind (wpAny_rule ?_)
  show wpAny _ _ (setField (.ref z) 0 .none) Q E s
  exact wpAny_setField_rec hz (by simp) fun h' a b => hQ h' a b
end

/-! ### its making -/
abbrev m1 (h : Heap) (a : Addr) : Heap := h.push { cls := .type "tuple_iterator", data := .fields #[.ref a, .int 0 0] }
abbrev m2 (h : Heap) (a b : Addr) : Heap := m1 (m1 h a) b
abbrev m3 (h : Heap) (a b : Addr) : Heap := (m2 h a b).push { cls := .type "tuple", data := .seq #[.ref h.objs.size, .ref (m1 h a).objs.size] }
abbrev m4 (h : Heap) (a b : Addr) : Heap := (m3 h a b).push { cls := .type "tuple", data := .seq #[.none, .none] }
abbrev m5 (h : Heap) (a b : Addr) : Heap := (m4 h a b).push { cls := .type "zip", data := .fields #[.none, .bool false, .bool true, .ref (m2 h a b).objs.size, .ref (m3 h a b).objs.size] }
theorem tc_zipS (a b : Value) : checkTypeCall "zip" ⟨[a, b], [(Str.ofString "strict", .bool true)]⟩ = pure () := by kernel_rfl
theorem nc_zipS (a b : Value) : checkBuiltinCall "zip.__new__" ⟨[.type "zip", a, b], [(Str.ofString "strict", .bool true)]⟩ = pure () := by kernel_rfl
theorem ai_zipS (o a b : Value) : argsOk "object.__init__" ⟨[o, a, b], [(Str.ofString "strict", .bool true)]⟩ := by unfold argsOk; kernel_rfl
theorem meets_zipS (l1 l2 : Addr) (xs ys : Array Value) :
    Meets (Builtin.«zip.__new__» ⟨[.type "zip", .ref l1, .ref l2], [(Str.ofString "strict", .bool true)]⟩) (fun _ R s => s.heap.IsTuple l1 xs ∧ s.heap.IsTuple l2 ys ∧
      R (.ok (.ret (.ref (m4 s.heap l1 l2).objs.size))) { s with heap := m5 s.heap l1 l2 }) :=
  .of_wp fun prog w A R s h => by
    obtain ⟨hp, g, d, tk, os⟩ := s; obtain ⟨a1, a2, h⟩ := h
    have hsub := sub_zip
    have b1 : Heap.IsTuple (Shared.heap ⟨hp, g, d, tk, os⟩) l1 xs := a1
    have b2 : Heap.IsTuple (Shared.heap ⟨hp.push { cls := .type "tuple_iterator", data := .fields #[.ref l1, .int 0 0] }, g, d, tk, os⟩) l2 ys := Heap.IsTuple.push a2 _
    have e1 : (Str.ofString "strict" != ("strict" : Str)) = false := by decide +kernel
    wp_walk using wpAny_pyIter_tuple b1, wpAny_pyIter_tuple b2
    exact ⟨_, rfl, h⟩
section
variable {prog : Program} {w : World} {A : Around} {E : Value → Shared → Prop} {s : Shared}
theorem call_zipS {l1 l2 : Addr} {xs ys : Array Value} {Q : Value → Shared → Prop} (t1 : s.heap.IsTuple l1 xs) (t2 : s.heap.IsTuple l2 ys)
    (k : ∀ h', ZRec h' (s.heap.objs.size + 4) (s.heap.objs.size + 2) (s.heap.objs.size + 3) .none → IsPair h' (s.heap.objs.size + 2) (.ref s.heap.objs.size) (.ref (s.heap.objs.size + 1)) →
      IsPair h' (s.heap.objs.size + 3) .none .none → h'.IsTupleIter s.heap.objs.size l1 0 → h'.IsTupleIter (s.heap.objs.size + 1) l2 0 →
      (∀ c o, s.heap.get? c = some o → h'.get? c = some o) → Q (.ref (s.heap.objs.size + 4)) { s with heap := h' }) :
    wpAny (model prog w) A (call (.type "zip") [.ref l1, .ref l2] [(Str.ofString "strict", .bool true)]) Q E s := by
  refine callType_newKw F.called_zip (by decide) (tc_zipS _ _) (nc_zipS _ _) (fun o => ai_zipS o _ _) F.entry_zip_new (meets_zipS l1 l2 xs ys) ⟨t1, t2, ?_⟩
  have z1 : (m1 s.heap l1).objs.size = s.heap.objs.size + 1 := Heap.size_push ..
  have z2 : (m2 s.heap l1 l2).objs.size = s.heap.objs.size + 2 := by rw [Heap.size_push, z1]
  have z3 : (m3 s.heap l1 l2).objs.size = s.heap.objs.size + 3 := by rw [Heap.size_push, z2]
  have z4 : (m4 s.heap l1 l2).objs.size = s.heap.objs.size + 4 := by rw [Heap.size_push, z3]
  have up {h : Heap} {o o' : Obj} {c : Addr} (g : h.get? c = some o) : (h.push o').get? c = some o := Heap.get?_push_of_some _ g
  have g5 : (m5 s.heap l1 l2).get? (m4 s.heap l1 l2).objs.size = some _ := Heap.get?_push_size _ rfl
  have g4 : (m5 s.heap l1 l2).get? (m3 s.heap l1 l2).objs.size = some _ := up (Heap.get?_push_size _ rfl)
  have g3 : (m5 s.heap l1 l2).get? (m2 s.heap l1 l2).objs.size = some _ := up (up (Heap.get?_push_size _ rfl))
  have g2 : (m5 s.heap l1 l2).get? (m1 s.heap l1).objs.size = some _ := up (up (up (Heap.get?_push_size _ rfl)))
  have g1 : (m5 s.heap l1 l2).get? s.heap.objs.size = some _ := up (up (up (up (Heap.get?_push_size _ rfl))))
  show _ ∧ _
  rw [z2, z3, z4] at g5
  rw [z1, z2] at g3
  rw [z3] at g4
  rw [z1] at g2
  rw [z4]
  exact ⟨⟨_, g5, rfl⟩, k _ g5 g3 g4 ⟨_, g1, rfl, rfl⟩ ⟨_, g2, rfl, rfl⟩ fun c o x => up (up (up (up (up x))))⟩
end

/-! ### it is walked -/
def ItS (K : PySem.W.Frag) (a b : Addr) : It :=
  ⟨(RZ.ItzT K a b).go, (RZ.ItzT K a b).yld, fun i H => ∃ xs ys : List V, SqT K H a xs ∧ SqT K H b ys ∧ xs.length ≤ i ∧ ys.length ≤ i⟩
theorem mem5 {z a b p q c : Addr} (h : c ∈ [z, a, b, p, q]) : c = z ∨ c = a ∨ c = b ∨ c = p ∨ c = q := by simpa using h
theorem turnS {P : Program} {w : World} {K : PySem.W.Frag} {elts : List Expr} {kk : Nat} {tpos : Pos} {a b z TI TO i1 i2 : Addr} (D : ZipApart z TI TO i1 i2 a b) :
    Turn P w K (.Tuple elts kk tpos) (ItS K a b) [z, TI, TO, i1, i2] z (fun i h => ZRec h z TI TO .none ∧ IsPair h TI (.ref i1) (.ref i2) ∧ (∃ x y, IsPair h TO x y) ∧ h.IsTupleIter i1 a i ∧ h.IsTupleIter i2 b i) where
  mem := by simp
  obj := fun i h ⟨hz, hTI, ⟨x, y, hTO⟩, ⟨o1, e1, _, d1⟩, ⟨o2, e2, _, d2⟩⟩ c hc => by
    rcases mem5 hc with rfl | rfl | rfl | rfl | rfl
    · exact ⟨_, hz, fun v q => nomatch q⟩
    · exact ⟨_, hTI, fun v q => nomatch q⟩
    · exact ⟨_, hTO, fun v q => nomatch q⟩
    · exact ⟨o1, e1, fun v q => by rw [d1] at q; cases q⟩
    · exact ⟨o2, e2, fun v q => by rw [d2] at q; cases q⟩
  keep := fun i h h' ⟨hz, hTI, ⟨x, y, hTO⟩, h1, h2⟩ k =>
    ⟨k z (by simp) _ hz, k TI (by simp) _ hTI, ⟨x, y, k TO (by simp) _ hTO⟩, h1.at fun o q => k i1 (by simp) o q, h2.at fun o q => k i2 (by simp) o q⟩
  item := by
    intro X hP hw hK hc i pins s σ H E I hf ⟨hz, hTI, ⟨x0, y0, hTO⟩, h1, h2⟩ hg
    subst hP hw hK
    obtain ⟨xs, ys, x, y, hqx, hqy, hx, hy⟩ := hg
    obtain ⟨u1, rv, p, _⟩ := I.tuple hqx
    obtain ⟨u2, rv2, p2, _⟩ := I.tuple hqy
    obtain ⟨u, hu, ru⟩ := rv.get hx
    obtain ⟨v, hv, rv⟩ := rv2.get hy
    have zl : z < s.heap.objs.size := Heap.lt_size hz
    refine nx_item D hz hTI hTO h1 h2 p p2 (x := u) (y := v) (by simpa using hu) (by simpa using hv) fun h' z' TO' h1' h2' hT hsz hk => ⟨_, rfl, nx_go (s := { s with heap := h' }) z' fun h'' z'' sb => ?_⟩
    have T2 : h''.get? s.heap.objs.size = some { cls := .type "tuple", data := .seq #[u, v] } := (sb.2 _ (Nat.ne_of_gt zl)).trans hT
    have new : ObjOk X.prog X.w (upd H s.heap.objs.size (.tup [x, y])) h'' s.heap.objs.size (.tup [x, y]) :=
      ⟨by show 2 ≤ sizeLine; decide, [u, v], .cons ru (.cons rv .nil), ⟨_, T2, rfl, _, rfl⟩⟩
    have I1 : Inv X pins σ (upd H s.heap.objs.size (.tup [x, y])) { s with heap := h'' } :=
      I.turnedNew (t' := s.toks) (ch := [z, TI, TO, i1, i2]) (fun c o hb q => (sb.2 c (fun q' => hb (by simp [q']))).trans (hk c o (fun q' => hb (by simp [q'])) (fun q' => hb (by simp [q'])) (fun q' => hb (by simp [q'])) (fun q' => hb (by simp [q'])) q)) hf (Nat.le_refl _) new
    refine ⟨.ref s.heap.objs.size, _, I1, rfl, ⟨_, x, y, rfl, I.hok.fresh (Nat.le_refl _), rfl, fun l hl => by rw [I.tuple_inj hl hqx]; exact hx, fun l hl => by rw [I.tuple_inj hl hqy]; exact hy⟩,
      ⟨z'', (sb.2 _ D.TIz).trans (hk _ _ D.TIz D.TITO D.TIi1 D.TIi2 hTI), ⟨u, v, (sb.2 _ D.TOz).trans TO'⟩, h1'.at fun o q => (sb.2 _ D.i1z).trans q, h2'.at fun o q => (sb.2 _ D.i2z).trans q⟩, fun c hcm => ?_⟩
    have lt : c < s.heap.objs.size := by
      rcases mem5 hcm with rfl | rfl | rfl | rfl | rfl
      · exact zl
      · exact Heap.lt_size hTI
      · exact Heap.lt_size hTO
      · obtain ⟨_, e1, _⟩ := h1; exact Heap.lt_size e1
      · obtain ⟨_, e2, _⟩ := h2; exact Heap.lt_size e2
    rw [upd_ne (Nat.ne_of_lt lt)]
    exact (hf c hcm).1
  done := by
    intro X hP hw hK hc i pins s σ H E I hf ⟨hz, hTI, ⟨x0, y0, hTO⟩, h1, h2⟩ hg
    subst hP hw hK
    obtain ⟨xs, ys, hqx, hqy, e1, e2⟩ := hg
    obtain ⟨u1, rv, p, _⟩ := I.tuple hqx
    obtain ⟨u2, rv2, p2, _⟩ := I.tuple hqy
    have l1 := rv.length
    have l2 := rv2.length
    exact nx_end (I.ok.hd hc) D hz hTI hTO h1 h2 p p2 (by simp; omega) (by simp; omega) fun h' hk => ⟨rfl, I.turnedL (t' := s.toks) (ch := [z, TI, TO, i1, i2]) (fun c o hb q =>
      hk c o (fun q' => hb (by simp [q'])) (fun q' => hb (by simp [q'])) (fun q' => hb (by simp [q'])) (fun q' => hb (by simp [q'])) q) hf⟩
  self := fun A i s Q E st h => nx_self st.1 h

theorem walkS {K : PySem.W.Frag} {a b : Addr} {xs ys : List V} (h : xs.length = ys.length) : Walk (ItS K a b) xs.length (fun H => SqT K H a xs ∧ SqT K H b ys) (YPair (fun i => xs[i]?) (fun i => ys[i]?)) :=
  ⟨fun i _ hi q => ⟨xs, ys, xs[i], ys[i], q.1, q.2, by simp [hi], by simp⟩, fun _ q => ⟨xs, ys, q.1, q.2, Nat.le_refl _, by omega⟩,
    fun i H v H' hi q ⟨T, x, y, e1, e2, e3, e4, e5⟩ => ⟨T, x, y, e1, e2, e3, e4 xs q.1, e5 ys q.2⟩⟩
theorem walkZ {K : PySem.W.Frag} {a b : Addr} {xs ys : List V} : Walk (RZ.ItzT K a b) (min xs.length ys.length) (fun H => SqT K H a xs ∧ SqT K H b ys) (YPair (fun i => xs[i]?) (fun i => ys[i]?)) :=
  ⟨fun i _ hi q => ⟨xs, ys, xs[i], ys[i], q.1, q.2, by simp, by simp⟩, fun _ q => ⟨xs, ys, q.1, q.2, by omega⟩,
    fun i H v H' hi q ⟨T, x, y, e1, e2, e3, e4, e5⟩ => ⟨T, x, y, e1, e2, e3, e4 xs q.1, e5 ys q.2⟩⟩
def iZipS (K : PySem.W.Frag) (ta : TA) : TI := fun σ H R => ta σ H fun vs H1 => ∃ a b xs ys, vs = [.ref a, .ref b] ∧ SqT K H1 a xs ∧ SqT K H1 b ys ∧ R (ItS K a b) H1
theorem callWith_ty_kw {M : Model} {A : Around} {E : Value → Shared → Prop} {s : Shared} {pos : Pos} {T : String} {args : List (Bool × Sem Value)} {keywords : List (Option Str × Sem Value)} {Q : Value → Shared → Prop}
    (hplain : args.any (·.1) = false) (hkw : keywords.any (·.1.isNone) = false)
    (h : wpAny M A (evalArgs (.type T) true args keywords) (fun a s₁ => wpAny M A (call (.type T) a.pos a.kw) Q E s₁) E s) : wpAny M A (callWith pos (.type T) [] args keywords) Q E s := by
  unfold callWith
  refine wpAny_bind (wpAny_holding (wpAny_mono h (fun a s₁ h₁ => wpAny_bind (wpAny_standAt ?_)) fun _ _ x => x))
  simp only [hplain, hkw, Bool.or_false]
  refine wpAny_bind (wpAny_pure ?_)
  exact wpAny_bind (wpAny_mono h₁ (fun r s₂ hr => wpAny_bind (wpAny_holding (wpAny_point (wpAny_pure hr)))) fun _ _ x => x)
theorem pi_zipS {X : Cx} {e e2 : Expr} {ta : TA} {p pos tpos kp cp : Pos} {elts : List Expr} {kk j : Nat} (hg : Gl X "zip") (hm : X.mg "zip" = none) (ha : PA X [e, e2] ta)
    (hs : starEach [e, e2] X.env = (false, eval e X.env) :: starEach [e2] X.env := by rfl) (hpl : (backTo pos (starEach [e2] X.env)).any (·.1) = false := by rfl) :
    PI X (.Tuple elts kk tpos) (.Call (.Name "zip" p) [e, e2] [⟨some "strict", .Constant (.bool true) j cp, kp⟩] pos) (iZipS X.K ta) := by
  refine ⟨fun pins s σ H R I h => ?_⟩
  refine wpAny_Call_Name_kw (ld_blt I hg hm PyProof.Rows.boot_zip ?_)
  refine callWith_ty_kw (by rw [hs]; show (false || (backTo pos (starEach [e2] X.env)).any (·.1)) = false; rw [hpl]; rfl) rfl ?_
  have hh := ha.run pos pins s σ H _ I h
  rw [hs] at hh ⊢
  refine PyProof.Rows.evalArgs_kwB (f := .type "zip") (x := eval e X.env) rfl (thn hh fun us s1 ⟨vs, H1, I1, r1, q1⟩ => thn ((pk_cons (nm := some "strict") (kpos := kp) (pe_bl (X := X) (b := true) (j := j) (pos := cp)) pk_nil).run pos pins s1 σ H1 (fun zs H2 => zs = [.bl true] ∧ H2 = H1) I1 ⟨rfl, rfl⟩) fun ws s2 ⟨zs, H2, I2, r2, e3, e4⟩ => ?_)
  subst e3 e4
  obtain ⟨a, b, xs, ys, ex, hqx, hqy, q⟩ := q1
  subst ex
  obtain ⟨w1, rfl, rw1⟩ := vals1 r2
  cases rw1
  cases r1 with
  | cons r rr =>
    cases rr with
    | cons r' rr =>
      cases rr
      cases r
      cases r'
      have fr : ∀ c, c ∈ [s2.heap.objs.size + 4, s2.heap.objs.size + 2, s2.heap.objs.size + 3, s2.heap.objs.size, s2.heap.objs.size + 1] → FpOk X pins H2 c := fun c hcm => by
        have le : s2.heap.objs.size ≤ c := by
          rcases mem5 hcm with rfl | rfl | rfl | rfl | rfl
          · exact Nat.le_add_right _ _
          · exact Nat.le_add_right _ _
          · exact Nat.le_add_right _ _
          · exact Nat.le_refl _
          · exact Nat.le_add_right _ _
        exact I2.fpOk le (I2.hok.fresh le)
      obtain ⟨u1, rv, p1, _⟩ := I2.tuple hqx
      obtain ⟨u2, rv2, p2, _⟩ := I2.tuple hqy
      obtain ⟨o1, ho1, _⟩ := id p1
      obtain ⟨o2, ho2, _⟩ := id p2
      refine call_zipS (show s2.heap.IsTuple a u1.toArray from p1) (show s2.heap.IsTuple b u2.toArray from p2) fun h' hz hTI hTO h1 h2 hk => nx_self hz ?_
      have I3 : Inv X pins σ H2 { s2 with heap := h' } := I2.kept (t' := s2.toks) hk
      exact ⟨s2.heap.objs.size + 4, _, _, _, H2, rfl, I3, turnS (PySem.W.ktu_apart s2.heap.objs.size a b (Heap.lt_size ho1) (Heap.lt_size ho2)), ⟨hz, hTI, ⟨_, _, hTO⟩, h1, h2⟩, fr, q⟩
end ZS
/-! enumerate(t), t a tuple. -/
namespace ZS
open PySem PySem.Spec L2
open PySem.Sem (wp)
theorem meets_enumT (l : Addr) (items : Array Value) :
    Meets (Builtin.«enumerate.__new__» ⟨[.type "enumerate", .ref l], []⟩) (fun _ R s => s.heap.IsTuple l items ∧
      R (.ok (.ret (.ref (m1 s.heap l).objs.size))) { s with heap := (m1 s.heap l).push { cls := .type "enumerate", data := .fields #[.none, .bool false, .ref s.heap.objs.size, rawInt 0, .none, .none] } }) :=
  .of_wp fun prog w A R s h => by
    obtain ⟨hp, g, d, tk, os⟩ := s; obtain ⟨h1, h⟩ := h
    have hsub := sub_enumerate
    have b1 : Heap.IsTuple (Shared.heap ⟨hp, g, d, tk, os⟩) l items := h1
    wp_walk using wpAny_pyIter_tuple b1
    refine wpAny_stack_any fun st => wpAny_pure ?_
    split
    · rename_i c _ _ _ _ _
      cases (c == Value.type "enumerate")
      · wp_walk using wpAny_pyIter_tuple b1
        exact ⟨_, rfl, h⟩
      · wp_walk using wpAny_pyIter_tuple b1
        exact ⟨_, rfl, h⟩
    · wp_walk using wpAny_pyIter_tuple b1
      exact ⟨_, rfl, h⟩
section
variable {prog : Program} {w : World} {A : Around} {E : Value → Shared → Prop} {s : Shared}
theorem call_enumT {l : Addr} {items : Array Value} {Q : Value → Shared → Prop} (t : s.heap.IsTuple l items)
    (k : ∀ h', IsEnum h' (s.heap.objs.size + 1) s.heap.objs.size 0 .none → h'.IsTupleIter s.heap.objs.size l 0 → (∀ b o, s.heap.get? b = some o → h'.get? b = some o) → Q (.ref (s.heap.objs.size + 1)) { s with heap := h' }) :
    wpAny (model prog w) A (call (.type "enumerate") [.ref l]) Q E s := by
  refine callType_new F.called_enumerate (by decide) (F.typeCall_enumerate_1 _) (F.newCall_enumerate_1 _) (fun obj => F.args_object_init_2 obj _) F.entry_enumerate_new (meets_enumT l items) ⟨t, ?_⟩
  have hz : (m1 s.heap l).objs.size = s.heap.objs.size + 1 := Heap.size_push ..
  show _ ∧ _
  rw [hz]
  have he : IsEnum ((m1 s.heap l).push { cls := .type "enumerate", data := .fields #[.none, .bool false, .ref s.heap.objs.size, rawInt 0, .none, .none] }) (s.heap.objs.size + 1) s.heap.objs.size 0 .none := by
    have := Heap.get?_push_size (m1 s.heap l) (o := { cls := .type "enumerate", data := .fields #[.none, .bool false, .ref s.heap.objs.size, rawInt 0, .none, .none] }) rfl
    rw [hz] at this; exact this
  exact ⟨⟨_, he, rfl⟩, k _ he ⟨_, Heap.get?_push_of_some _ (Heap.get?_push_size _ rfl), rfl, rfl⟩ fun b o x => Heap.get?_push_of_some _ (Heap.get?_push_of_some _ x)⟩
end
/-- the tuple at a, each item in a new pair behind its place -/
def ItE (K : PySem.W.Frag) (a : Addr) : It :=
  ⟨fun i H => ∃ (xs : List V) (x : V), SqT K H a xs ∧ xs[i]? = some x, fun i H v H' => ∃ T x, v = .ref T ∧ H T = none ∧ H' = upd H T (.tup [.int (i : Nat), x]) ∧ ∀ xs, SqT K H a xs → xs[i]? = some x, fun i H => ∃ xs : List V, SqT K H a xs ∧ xs.length = i⟩
theorem turnE {P : Program} {w : World} {K : PySem.W.Frag} {elts : List Expr} {kk : Nat} {tpos : Pos} (a e it : Addr) (hei : e ≠ it) (hea : e ≠ a) (hia : a ≠ it) :
    Turn P w K (.Tuple elts kk tpos) (ItE K a) [e, it] e (fun i h => (∃ old, IsEnum h e it ((i : Nat) : Int) old) ∧ h.IsTupleIter it a i) where
  mem := by simp
  obj := fun i h ⟨⟨old, he⟩, ⟨o, ho, hc, hd⟩⟩ b hb => by
    have e' : b = e ∨ b = it := by simpa using hb
    rcases e' with z | z
    · rw [z]; exact ⟨_, he, fun v q => nomatch q⟩
    · rw [z]; exact ⟨o, ho, fun v q => by rw [hd] at q; cases q⟩
  keep := fun i h h' ⟨⟨old, he⟩, hi⟩ k => ⟨⟨old, k e (by simp) _ he⟩, hi.at fun o q => k it (by simp) o q⟩
  item := by
    intro X hP hw hK hc i pins s σ H E I hf ⟨⟨old, he⟩, hit⟩ hg
    subst hP hw hK
    obtain ⟨xs, x, hq, hx⟩ := hg
    obtain ⟨its, rv, p, hz⟩ := I.tuple hq
    obtain ⟨u, hu, ru⟩ := rv.get hx
    have hel : e < s.heap.objs.size := Heap.lt_size he
    have hil : it < s.heap.objs.size := by obtain ⟨_, q, _⟩ := hit; exact Heap.lt_size q
    have hlt : i < its.toArray.size := by have := (List.getElem?_eq_some_iff.mp hu).1; simpa using this
    refine wpAny_pyNext_enum_itemD (Draws.tuple (A := X.A.in1) (show X.A.in1.handled = none from I.ok.hd hc) it a hia its.toArray) he ⟨hit, p⟩ hlt hei (by simp [hei, hea]) fun y h' tk hy ho st' hT hsz hk => ?_
    have ey : y = u := by
      have : its.toArray[i]? = some u := by simpa using hu
      rw [this] at hy; exact (Option.some.inj hy).symm
    subst ey
    refine ⟨_, rfl, wpAny_letOwnedTupleGo_enum (s := { s with heap := h', toks := tk + 1 }) ho fun h'' he' sb => ?_⟩
    have hT2 : h''.get? s.heap.objs.size = some { cls := .type "tuple", data := .seq #[.int i tk, y] } := (sb.2 _ (Nat.ne_of_gt hel)).trans hT
    have new : ObjOk X.prog X.w (upd H s.heap.objs.size (.tup [.int (i : Nat), x])) h'' s.heap.objs.size (.tup [.int (i : Nat), x]) :=
      ⟨by show 2 ≤ sizeLine; decide, [.int i tk, y], .cons ⟨_, rfl⟩ (.cons ru .nil), ⟨_, hT2, rfl, _, rfl⟩⟩
    have I1 : Inv X pins σ (upd H s.heap.objs.size (.tup [.int (i : Nat), x])) { s with heap := h'', toks := tk + 1 } :=
      I.turnedNew (ch := [e, it]) (fun b ob hb q => (sb.2 b (fun z => hb (by simp [z]))).trans (hk b ob (fun z => hb (by simp [z])) (fun z => hb (by simp [z])) q)) hf (Nat.le_refl _) new
    refine ⟨.ref s.heap.objs.size, _, I1, rfl, ⟨_, x, rfl, I.hok.fresh (Nat.le_refl _), rfl, fun ys hy => by rw [I.tuple_inj hy hq]; exact hx⟩, ⟨⟨y, ?_⟩, st'.1.at fun o q => (sb.2 it (Ne.symm hei)).trans q⟩, fun b hb => ?_⟩
    · have e1 : ((i + 1 : Nat) : Int) = (i : Int) + 1 := by omega
      rw [e1]; exact he'
    · have hb' : b < s.heap.objs.size := by
        have e' : b = e ∨ b = it := by simpa using hb
        rcases e' with z | z
        · rw [z]; exact hel
        · rw [z]; exact hil
      rw [upd_ne (Nat.ne_of_lt hb')]
      exact (hf b hb).1
  done := by
    intro X hP hw hK hc i pins s σ H E I hf ⟨⟨old, he⟩, hit⟩ hg
    subst hP hw hK
    obtain ⟨xs, hq, hx⟩ := hg
    obtain ⟨its, rv, p, hz⟩ := I.tuple hq
    obtain ⟨f0, f1, f2, f3, f4, f5⟩ := hf it (by simp)
    have hl : i = its.toArray.size := by rw [← hx, rv.length]; simp
    subst hl
    exact wpAny_pyNext_enum_endD (Draws.tuple (A := X.A.in1) (show X.A.in1.handled = none from I.ok.hd hc) it a hia its.toArray) he ⟨hit, p⟩ fun h' eb => ⟨rfl, I.turned (t' := s.toks) (fun b o hb q => eb b o hb q) f0 f1 f3 f4 f5⟩
  self := fun A i s Q E ⟨⟨_, he⟩, _⟩ h => wpAny_pyIter_enum he h
theorem walkE {K : PySem.W.Frag} {a : Addr} {xs : List V} : Walk (ItE K a) xs.length (fun H => SqT K H a xs) (YPair (fun i => some (.int (i : Nat))) (fun i => xs[i]?)) :=
  ⟨fun i _ hi q => ⟨xs, xs[i], q, by simp [hi]⟩, fun _ q => ⟨xs, q, rfl⟩, fun i H v H' hi q ⟨T, x, e1, e2, e3, e4⟩ => ⟨T, _, x, e1, e2, e3, rfl, e4 xs q⟩⟩
def iEnumT (K : PySem.W.Frag) (ta : TA) : TI := fun σ H R => ta σ H fun vs H1 => ∃ a xs, vs = [.ref a] ∧ SqT K H1 a xs ∧ R (ItE K a) H1
theorem pi_enumT {X : Cx} {e : Expr} {ta : TA} {p pos tpos : Pos} {elts : List Expr} {kk : Nat} (hg : Gl X "enumerate") (hm : X.mg "enumerate" = none) (ha : PA X [e] ta) (hs : starEach [e] X.env = [(false, eval e X.env)] := by rfl) :
    PI X (.Tuple elts kk tpos) (.Call (.Name "enumerate" p) [e] [] pos) (iEnumT X.K ta) := by
  refine ⟨fun pins s σ H R I h => ?_⟩
  refine wpAny_Call_Name_kw (ld_blt I hg hm PyProof.Rows.boot_enumerate (PyProof.Rows.callWith_type1 (thn (ha.run pos pins s σ H _ I h) fun us s1 ⟨vs, H1, I1, r1, q1⟩ => ?_) hs rfl))
  obtain ⟨a, xs, ex, hq, q⟩ := q1
  subst ex
  obtain ⟨v1, rfl, rx⟩ := vals1 r1
  cases rx
  obtain ⟨its, rv, p', hz⟩ := I1.tuple hq
  obtain ⟨oa, hoa, _⟩ := id p'
  have la : a < s1.heap.objs.size := Heap.lt_size hoa
  refine call_enumT (show s1.heap.IsTuple a its.toArray from p') fun h' he hit hk => wpAny_pyIter_enum he ?_
  have I2 : Inv X pins σ H1 { s1 with heap := h' } := I1.kept (t' := s1.toks) hk
  refine ⟨s1.heap.objs.size + 1, [s1.heap.objs.size + 1, s1.heap.objs.size], _, _, H1, rfl, I2, turnE a (s1.heap.objs.size + 1) s1.heap.objs.size (Nat.succ_ne_self _) (Nat.ne_of_gt (Nat.lt_succ_of_lt la)) (Nat.ne_of_lt la), ⟨⟨.none, he⟩, hit⟩, fun b hb => ?_, q⟩
  have e' : b = s1.heap.objs.size + 1 ∨ b = s1.heap.objs.size := by simpa using hb
  have hle : s1.heap.objs.size ≤ b := by
    rcases e' with z | z
    · rw [z]; exact Nat.le_add_right _ _
    · rw [z]; exact Nat.le_refl _
  exact I1.fpOk hle (I1.hok.fresh hle)
end ZS
/-! The data level: zip, enumerate. -/
namespace DL
open PySem PySem.Spec L2
def zipD (xs ys : List Dat) : List Dat := List.zipWith (fun x y => PyData.tuple [x, y]) xs ys
def enumD (xs : List Dat) : List Dat := xs.mapIdx fun i x => PyData.tuple [.int (i : Nat), x]
theorem zipD_len (xs ys : List Dat) : (zipD xs ys).length = min xs.length ys.length := List.length_zipWith
theorem enumD_len (xs : List Dat) : (enumD xs).length = xs.length := List.length_mapIdx
section
variable {G : Wd} {c : Cxt} {tg e a b : Expr} {es : List Expr} {ρ : Rho} {n : Nat} {R : List Dat → Nat → Prop} {pos p tpos kp cp : Pos} {elts : List Expr} {kk j : Nat}
theorem two_dps {src : Option Addr} {L H : Hp} {vs : List V} {xs ys : List Dat} (i : IsAll G src L H vs [dT xs, dT ys]) : ∃ p q as bs, vs = [.ref p, .ref q] ∧ SqT G.K L p as ∧ SqT G.K L q bs ∧ DpAll G.K L as xs ∧ DpAll G.K L bs ys := by
  cases i with
  | cons u r =>
    obtain ⟨v, rfl, j⟩ := all1 r
    obtain ⟨p, as, rfl, h1, h2⟩ := dp_tup u
    obtain ⟨q, bs, rfl, h3, h4⟩ := dp_tup j
    exact ⟨p, q, as, bs, rfl, h1, h3, h2, h4⟩
theorem zip_pairs {L : Hp} {as bs : List V} {xs ys : List Dat} (h2 : DpAll G.K L as xs) (h4 : DpAll G.K L bs ys) (i : Nat) (x y : V) (e1 : as[i]? = some x) (e2 : bs[i]? = some y) : ∃ d e, (zipD xs ys)[i]? = some (.tuple [d, e]) ∧ Dp G.K L x d ∧ Dp G.K L y e := by
  obtain ⟨d, a1, a2⟩ := dps_at h2 e1
  obtain ⟨e, b1, b2⟩ := dps_at h4 e2
  exact ⟨d, e, by unfold zipD; rw [List.getElem?_zipWith, a1, b1], a2, b2⟩
theorem ix_zip (hg : c.sc.names.lookup ("zip" : Str) = some .globalImplicit) (hm : G.mg "zip" = none) (h : AX G c [a, b] ρ n fun ds n1 => ∃ xs ys, ds = [dT xs, dT ys] ∧ R (zipD xs ys) n1)
    (hs : ∀ env, starEach [a, b] env = (false, eval a env) :: starEach [b] env := by intro _; rfl) (hpl : ∀ env, (backTo pos (starEach [b] env)).any (·.1) = false := by intro _; rfl) : IX G c (.Tuple elts kk tpos) (.Call (.Name "zip" p) [a, b] [] pos) ρ n R := fun X k =>
  ⟨_, RZ.pi_zipA (gl_of k hg) (by rw [k.mg]; exact hm) (pa_wp [a, b]) (hs _) (hpl _), fun σ H0 L H w en Q q => ax_wp h k w en fun vs H1 ⟨ds, L1, n1, s1, w1, i1, xs, ys, e1, r⟩ => by
    subst e1
    obtain ⟨p, q', as, bs, rfl, h1, h3, h2, h4⟩ := two_dps i1
    refine ⟨p, q', as, bs, rfl, .inr ⟨by rw [k.K]; exact ex_t w1.sub h1, by rw [k.K]; exact ex_t w1.sub h3, q _ _ L1 n1 (zipD xs ys) s1 w1 ?_ r⟩⟩
    rw [k.K]
    exact runs_pair ZS.walkZ (fun H s => ⟨ex_t s h1, ex_t s h3⟩) (by rw [zipD_len, dps_len h2, dps_len h4]) fun i x y _ => zip_pairs h2 h4 i x y⟩
theorem ix_zipS (hg : c.sc.names.lookup ("zip" : Str) = some .globalImplicit) (hm : G.mg "zip" = none) (h : AX G c [a, b] ρ n fun ds n1 => ∃ xs ys, ds = [dT xs, dT ys] ∧ xs.length = ys.length ∧ R (zipD xs ys) n1)
    (hs : ∀ env, starEach [a, b] env = (false, eval a env) :: starEach [b] env := by intro _; rfl) (hpl : ∀ env, (backTo pos (starEach [b] env)).any (·.1) = false := by intro _; rfl) : IX G c (.Tuple elts kk tpos) (.Call (.Name "zip" p) [a, b] [⟨some "strict", .Constant (.bool true) j cp, kp⟩] pos) ρ n R := fun X k =>
  ⟨_, ZS.pi_zipS (gl_of k hg) (by rw [k.mg]; exact hm) (pa_wp [a, b]) (hs _) (hpl _), fun σ H0 L H w en Q q => ax_wp h k w en fun vs H1 ⟨ds, L1, n1, s1, w1, i1, xs, ys, e1, hl, r⟩ => by
    subst e1
    obtain ⟨p, q', as, bs, rfl, h1, h3, h2, h4⟩ := two_dps i1
    refine ⟨p, q', as, bs, rfl, by rw [k.K]; exact ex_t w1.sub h1, by rw [k.K]; exact ex_t w1.sub h3, q _ _ L1 n1 (zipD xs ys) s1 w1 ?_ r⟩
    rw [k.K]
    have l1 := dps_len h2
    have l2 := dps_len h4
    exact runs_pair (ZS.walkS (by omega)) (fun H s => ⟨ex_t s h1, ex_t s h3⟩) (by rw [zipD_len]; omega) fun i x y _ => zip_pairs h2 h4 i x y⟩
theorem ix_enum (hg : c.sc.names.lookup ("enumerate" : Str) = some .globalImplicit) (hm : G.mg "enumerate" = none) (h : EX G c e ρ n fun d n1 => ∃ xs, d = dT xs ∧ R (enumD xs) n1)
    (hs : ∀ env, starEach [e] env = [(false, eval e env)] := by intro _; rfl) : IX G c (.Tuple elts kk tpos) (.Call (.Name "enumerate" p) [e] [] pos) ρ n R := fun X k =>
  ⟨_, ZS.pi_enumT (gl_of k hg) (by rw [k.mg]; exact hm) (pa_cons (pe_wp e) pa_nil (hs _)) (hs _), fun σ H0 L H w en Q q => ex_wp h k w en fun v H1 ⟨d, L1, n1, s1, w1, i1, _, xs, e1, r⟩ => by
    subst e1
    obtain ⟨p, as, rfl, h1, h2⟩ := dp_tup i1
    refine ⟨p, as, rfl, by rw [k.K]; exact ex_t w1.sub h1, q _ _ L1 n1 (enumD xs) s1 w1 ?_ r⟩
    rw [k.K]
    refine runs_pair ZS.walkE (fun H s => ex_t s h1) (by rw [enumD_len, dps_len h2]) fun i x y _ e1 e2 => ?_
    cases e1
    obtain ⟨d, a1, a2⟩ := dps_at h2 e2
    exact ⟨.int (i : Nat), d, by unfold enumD; rw [List.getElem?_mapIdx, a1] <;> rfl, .int _, a2⟩⟩
end
end DL
/-! The data level: a, b, *r = t. -/
namespace DL
open PySem PySem.Spec L2
section
variable {X : Cx} {pos sp : Pos} {es : List Expr} {t : Expr} {k : Nat}
theorem pgs_last {g : TG} (h : PG X t g) : PGs X [.Starred t sp] (gCons g gNil) := by
  refine ⟨fun pins s σ H vs us Q I r hh => ?_⟩
  obtain ⟨v, vr, e1, hh⟩ := hh
  subst e1
  cases r with
  | cons r rr =>
    show wpAny _ _ (assignInOrder [assign t X.env] _) _ _ _
    refine PyProof.Rows.assignInOrder_cons (thn (h.run pins s σ H _ _ _ I r hh) fun _ s1 ⟨σ1, H1, I1, e2, q1⟩ => ?_)
    subst e2
    cases rr
    exact PyProof.Rows.assignInOrder_nil ⟨σ1, H1, I1, q1⟩
/-- a, b, *r = a tuple -/
def gStar (K : PySem.W.Frag) (u : TGs) : TG := fun v σ H Q => ∃ a x y r, v = .ref a ∧ SqT K H a (x :: y :: r) ∧ r.length ≤ 900 ∧ ∀ p, H p = none → u [x, y, .ref p] σ (upd H p (.lst r)) Q
theorem pg_star {u : TGs} (hc : X.calm = true) (h : PGs X es u) (hn : (assignEach es X.env).length = 3) (hst : (assignEach es X.env).findIdx? (·.1) = some 2) : PG X (.Tuple es k pos) (gStar X.K u) := by
  refine ⟨fun pins s σ H v w Q I r hw => ?_⟩
  obtain ⟨a, x, y, xr, e1, hq, hz, hw⟩ := hw
  subst e1
  cases r
  obtain ⟨its, rv, ht, _⟩ := I.tuple hq
  have hlen : its.length = xr.length + 2 := by rw [← rv.length]; rfl
  obtain ⟨oa, hoa, _⟩ := id ht
  have ne : a ≠ s.heap.objs.size := Nat.ne_of_lt (Heap.lt_size hoa)
  rw [PyProof.Rows.assign_Tuple]
  refine wpAny_bind (wpAny_standAt ?_)
  unfold unpack
  rw [hn, hst]
  refine wpAny_bind (wpAny_holding ?_)
  unfold unpackItems
  refine wpAny_bind ?_
  unfold notIterableAtAll
  refine wpAny_bind (wpAny_specialOf ht.typeIs PyProof.Rows.slot_tuple_iter.lookup (wpAny_pure ?_))
  simp only [Bool.false_eq_true, if_false]
  refine wpAny_bind (wpAny_holding (PyProof.Rows.iter_tuple ht ?_))
  refine wpAny_bind (wpAny_holding (PyProof.Rows.draw_tuple ne 2 0 _ _ ⟨_, Heap.get?_push_size _ rfl, rfl, rfl⟩ (ht.push _) (by simp [hlen]) fun g1 i1 e1 => ?_))
  have t1 : PyProof.Rows.IsTup g1 a its.toArray := (ht.push _).extBut e1.extBut ne
  rw [Nat.zero_add] at i1
  obtain ⟨oi, hoi, _⟩ := id i1
  obtain ⟨ol, hol, _⟩ := id t1
  rw [List.drop_zero]
  have fl : (its.toArray.toList.take 2).length = 2 := by simp [hlen]
  rw [if_neg (show ¬ ((its.toArray.toList.take 2).length < 2) by rw [fl]; omega)]
  refine wpAny_bind (wpAny_holding (PySem.W.kun_collect (s := { s with heap := g1 }) (T := "tuple_iterator") (.inr (.inr (.inr rfl))) (Walks.tuple (A := X.A.in1) (show X.A.in1.handled = none from I.ok.hd hc) s.heap.objs.size a ne its.toArray) (fun j u st => st.1.typeIs) (k := 2) (by simp [hlen]) ⟨i1, t1⟩ (Heap.lt_size hoi) (Heap.lt_size hol) (fun g2 tk hk => ?_) (by have z : xr.length ≤ 900 := hz; simp only [List.size_toArray, hlen]; exact Nat.le_of_lt (small1000 (by omega)))))
  have rl : (its.toArray.toList.drop 2).length = xr.length := by simp [hlen]
  show wpAny _ _ (if (its.toArray.toList.drop 2).length < 3 - 1 - 2 then _ else _) _ _ _
  rw [if_neg (by omega)]
  have ek : (its.toArray.toList.drop 2).take ((its.toArray.toList.drop 2).length - 0) = its.drop 2 := by rw [Nat.sub_zero, List.take_of_length_le (Nat.le_refl _)]
  show wpAny _ _ (newList ((its.toArray.toList.drop 2).take ((its.toArray.toList.drop 2).length - 0)) >>= fun d => pure (its.toArray.toList.take 2 ++ [d] ++ (its.toArray.toList.drop 2).drop ((its.toArray.toList.drop 2).length - 0))) _ _ _
  rw [ek]
  have zz : xr.length ≤ 900 := hz
  have hz2 : (its.drop 2).length ≤ sizeLine := by
    have : (its.drop 2).length = xr.length := by simpa using rl
    rw [this]; exact Nat.le_of_lt (small1000 (by omega))
  refine wpAny_bind (wpAny_newList (wpAny_pure ?_) hz2)
  have I1 : Inv X pins σ H { s with heap := g2, toks := tk } := I.kept fun b o e => hk b o (Nat.ne_of_lt (Heap.lt_size e)) (e1.extBut b o (Nat.ne_of_lt (Heap.lt_size e)) (Heap.get?_push_of_some _ e))
  have hfree : H g2.objs.size = none := I1.hok.fresh (Nat.le_refl _)
  cases rv with
  | @cons _ u _ us rx rv =>
    cases rv with
    | @cons _ u2 _ us2 ry rv =>
      have I2 : Inv X pins σ (upd H g2.objs.size (.lst xr)) { s with heap := g2.push { cls := .type "list", data := .seq us2.toArray }, toks := tk } :=
        I1.laid (t' := tk) (fun b o e => Heap.get?_push_of_some _ e) (Nat.le_refl _) ⟨Nat.le_of_lt (small1000 (by omega)), us2, _, rv, Heap.get?_push_size _ rfl⟩
      show wpAny _ _ (assignInOrder _ (List.take 2 (u :: u2 :: us2) ++ [Value.ref g2.objs.size] ++ List.drop (us2.length - 0) us2)) _ _ _
      rw [Nat.sub_zero, List.drop_length]
      exact h.run pins _ σ _ [x, y, .ref g2.objs.size] [u, u2, .ref g2.objs.size] Q I2 (.cons rx (.cons ry (.cons rfl .nil))) (hw _ hfree)
end
section
variable {G : Wd} {c : Cxt} {e : Expr} {ρ : Rho} {n : Nat}
theorem sx_star (i j k : Nat) {x y z : Str} {B : Bx} {pos px py pz ps pt : Pos} {kt : Nat} (hij : i ≠ j) (hjk : j ≠ k) (hik : i ≠ k) (hx : c.N[i]? = some x) (hy : c.N[j]? = some y) (hz : c.N[k]? = some z) (lx : c.sc.names.lookup x = some .local) (ly : c.sc.names.lookup y = some .local) (lz : c.sc.names.lookup z = some .local)
    (h : EX G c e ρ n fun d n1 => ∃ a b r, d = dT (a :: b :: r) ∧ r.length ≤ 900 ∧ B.nx (((ρ.set i (some (.dat a))).set j (some (.dat b))).set k (some (dL r))) n1)
    (hs : ∀ env, swapsWithSole [.Tuple [.Name x px, .Name y py, .Starred (.Name z pz) ps] kt pt] e pos.line env = pure false := by intro _; rfl)
    (hw : ∀ env, swappedStores [.Tuple [.Name x px, .Name y py, .Starred (.Name z pz) ps] kt pt] e env = pure none := by intro _; first | rfl | (simp [swappedStores] <;> rfl)) : SX G c (.Assign [.Tuple [.Name x px, .Name y py, .Starred (.Name z pz) ps] kt pt] e pos) ρ n B := sx_ps fun X lk => by
  have g1 := pg_name (X := X) (i := i) (x := x) (pos := px) lk.nd (by rw [lk.N]; exact hx) (by rw [lk.sc]; exact .inl lx) (by rw [lk.sc]; exact .inr lx)
  have g2 := pg_name (X := X) (i := j) (x := y) (pos := py) lk.nd (by rw [lk.N]; exact hy) (by rw [lk.sc]; exact .inl ly) (by rw [lk.sc]; exact .inr ly)
  have g3 := pg_name (X := X) (i := k) (x := z) (pos := pz) lk.nd (by rw [lk.N]; exact hz) (by rw [lk.sc]; exact .inl lz) (by rw [lk.sc]; exact .inr lz)
  refine ⟨_, ps_asg (pe_wp e) (pg_star (k := kt) (pos := pt) lk.calm (pgs_cons g1 (pgs_cons g2 (pgs_last (sp := ps) g3))) rfl rfl) (hs _) (hw _), fun L0 H0 σ L H s w en => ?_⟩
  refine ex_wp h lk w en fun v H1 ⟨d, L1, n1, s1, w1, i1, _, a, b, r, e1, hl, q⟩ => ?_
  subst e1
  obtain ⟨p, xs, rfl, h1, h2⟩ := dp_tup i1
  cases h2 with
  | @cons u us _ _ ha h2 =>
    cases h2 with
    | @cons u2 us2 _ _ hb h2 =>
      refine ⟨p, u, u2, us2, rfl, by rw [lk.K]; exact ex_t w1.sub h1, by rw [dps_len h2]; exact hl, fun D hD => ?_⟩
      refine ⟨_, _, rfl, _, _, rfl, _, _, rfl, rfl, ?_⟩
      have s2 := s1.trans (Step.newB w1 (.lst us2) hD)
      have w2 := w1.both (.lst us2) hD
      have en2 := (en.go s1).go (Step.newB w1 (.lst us2) hD)
      have gr : Same L1 (upd L1 D (.lst us2)) := same_new (w1.none_of hD)
      have e1 := en2.set (d := .dat a) (fun m => nomatch m) (.refl c.src _ _) hx (.inl lx) (ex_dp gr ha) (.no rfl)
      have e2 := e1.set (d := .dat b) (fun m => nomatch m) (.refl c.src _ _) hy (.inl ly) (ex_dp gr hb) (.no rfl)
      have e3 := e2.set (d := dL r) (fun m => nomatch m) (.refl c.src _ _) hz (.inl lz) (Dp.lst (SqL.of upd_same) (ex_dps gr h2)) (.no rfl)
      exact ⟨_, _, n1, s.trans s2, w2, e3, q⟩
end
end DL
/-! Sets and sorted lists of tuples of any ints; set(t) of a tuple t. -/
namespace HS
open PySem PySem.Spec PyProof.Rows L2 PySem.W
def le (p q : List Int) : Bool := decide (p ≤ q)
def srt (ks : List (List Int)) : List (List Int) := ks.mergeSort le
abbrev iP (k : List Int) : PyData := .tuple (k.map PyData.int)
theorem le_iP : dataLe false iP = le := by
  funext p q
  show (!dataLt (.tuple (q.map .int)) (.tuple (p.map .int))) = _
  rw [dataLt_tuple]
  show (!rowLt (q.map .int) (p.map .int)) = _
  rw [dataLt_ints]
  unfold le
  by_cases h : q < p
  · simp [h, show ¬ p ≤ q from fun r => List.not_lt.mpr r h]
  · simp [h, List.not_lt.mp h]
theorem alike_iP (ks : List (List Int)) : AllAlike (ks.map iP) := AllAlike.of fun b b' => by
  show alike (.tuple (b.map .int)) (.tuple (b'.map .int)) = true
  simpa [alike] using alike_ints b b'
theorem sortable_iP {ks : List (List Int)} (h : ∀ k ∈ ks, k ≠ []) : Sortable (ks.map iP) := .inl fun d hd => by
  obtain ⟨k, hk, rfl⟩ := List.mem_map.mp hd
  cases k with
  | nil => exact absurd rfl (h _ hk)
  | cons x r => exact ⟨_, _, rfl⟩
theorem depth_iP (k : List Int) : (iP k).depth ≤ 1 := by
  show PyData.depth (.tuple (k.map .int)) ≤ 1
  simp [PyData.depth, depth_ints]
theorem reads_ints {h : Heap} : ∀ {k : List Int} {us : List Value}, IntsAre us k → ReadsAll h us (k.map .int) []
  | _, _, .nil => .nil
  | _, _, .cons i t r => .cons (as := []) (bs := []) (.int i t) (reads_ints r)
theorem reads_tup {h : Heap} {v : Value} {k : List Int} (x : TS.TupInts h v k) : Reads h v (iP k) [] := by
  obtain ⟨b, items, rfl, ⟨o, ho, hc, n, hd⟩, hi⟩ := x
  exact .tuple ho hc hd (reads_ints hi)
/-- what a value stands for, by the abstract heap -/
abbrev Tu (F : Addr → List Int → Prop) (v : Value) (k : List Int) : Prop := ∃ b, v = .ref b ∧ F b k
theorem each_back {F : Addr → List Int → Prop} : ∀ {vs : List Value} {ks : List (List Int)}, EachIs (Tu F) vs ks → ∃ as : List Addr, Vals (as.map V.ref) vs ∧ Paired F as ks
  | _, _, .nil => ⟨[], .nil, .nil⟩
  | _, _, .cons h r => by
    obtain ⟨b, rfl, hb⟩ := h
    obtain ⟨as, h1, h2⟩ := each_back r
    exact ⟨b :: as, .cons rfl h1, .cons hb h2⟩
theorem each_of {F : Addr → List Int → Prop} : ∀ {as : List Addr} {us : List Value} {ks : List (List Int)}, Vals (as.map V.ref) us → Paired F as ks → EachIs (Tu F) us ks
  | [], _, _, .nil, .nil => .nil
  | a :: as, _, _, .cons h1 r1, .cons h2 r2 => .cons ⟨a, h1, h2⟩ (each_of r1 r2)
theorem each_map {α β γ : Type} {R : α → γ → Prop} {S : α → γ → Prop} (h : ∀ a c, R a c → S a c) : ∀ {l : List α} {m : List γ}, EachIs R l m → EachIs S l m
  | _, _, .nil => .nil
  | _, _, .cons a r => .cons (h _ _ a) (each_map (β := β) h r)
section
variable {X : Cx}
/-- sorted(list) of tuples of ints -/
def rSrtL (K : PySem.W.Frag) : List V → Hp → VK → Prop := fun vs H Q => ∃ (F : Addr → List Int → Prop) (a : Addr) (as : List Addr) (ks : List (List Int)), vs = [.ref a] ∧ SqL K H a (as.map V.ref) ∧ Paired F as ks ∧ (∀ a k, F a k → SqT K H a (k.map V.int)) ∧ (∀ k ∈ ks, k ≠ []) ∧ ks.length ≤ 1000 ∧
  ∀ (bs : List Addr) (p : Addr), H p = none → Paired F bs (srt ks) → Q (.ref p) (upd H p (.lst (bs.map V.ref)))
theorem cr_srtL (hu : X.A.units + 64 < cLine) : CallR X (.builtin "sorted") (rSrtL X.K) := fun pins s σ H vs us Q I r h => by
  obtain ⟨F, a, as, ks, rfl, hl, hp, hF, hne, hz, q⟩ := h
  rw [Vals.ref1 r]
  obtain ⟨its, rv, pl, _⟩ := I.list hl
  have e := each_of rv hp
  have er : EachIs (fun v b => ∃ as, Reads s.heap v (iP b) as) its ks := each_map (β := Unit) (fun v k ⟨b, e1, hb⟩ => ⟨[], by rw [e1]; exact reads_tup (tupI_raw I (hF _ _ hb))⟩) e
  have zl : ks.length ≤ sizeLine := Nat.le_of_lt (small1000 hz)
  refine sorted_data (enc := iP) pl.isList e er (alike_iP ks) (sortable_iP hne) zl (fun b _ => by have := depth_iP b; omega) fun out ho eo => ?_
  rw [le_iP] at eo
  obtain ⟨bs, h1, h2⟩ := each_back eo
  obtain ⟨c, hc⟩ := sortedAll_at s.heap its out.toArray
  have hlen : (bs.map V.ref).length ≤ sizeLine := by rw [h1.length, ho]; exact zl
  exact ⟨.ref _, upd H (s.heap.objs.size + 1) (.lst (bs.map V.ref)), I.laid (t' := s.toks) (fun _ _ => sortedAll_old) (Nat.le_succ _) ⟨hlen, out, c, h1, hc⟩, rfl, q _ _ (I.hok.fresh (Nat.le_succ _)) h2⟩
end

/-! ### sorted(set) -/
section
variable {P : Program} {w : World} {A : Around} {E : Value → Shared → Prop} {s : Shared}
theorem each_refs (h : Heap) : ∀ (L : List (Addr × List Int)), (∀ q ∈ L, TS.TupInts h (.ref q.1) q.2) → EachIs (fun v k => TS.TupInts h v k) (L.map fun q => Value.ref q.1) (L.map (·.2))
  | [], _ => .nil
  | q :: L, x => .cons (x q List.mem_cons_self) (each_refs h L fun r hr => x r (List.mem_cons_of_mem _ hr))
theorem each_mem2 {α β : Type} {R : α → β → Prop} : ∀ {l : List α} {m : List β}, EachIs R l m → EachIs (fun a b => R a b ∧ a ∈ l) l m
  | _, _, .nil => .nil
  | _, _, .cons h r => .cons ⟨h, List.mem_cons_self⟩ (each_map (β := Unit) (fun _ _ q => ⟨q.1, List.mem_cons_of_mem _ q.2⟩) (each_mem2 r))
theorem sorted_set {a : Addr} {L : List (Addr × List Int)} {es : Array (Int × Value)} {ep : Nat} {t : SetTable} {Q : Value → Shared → Prop} (R : SetTR P w s.heap a L es ep t) (hh : A.handled = none) (hu : A.units + 64 < cLine)
    (hne : ∀ p ∈ L, p.2 ≠ [])
    (hQ : ∀ s' p (out : List Value) (c : Nat) (ks : List (List Int)), (∀ b o, s.heap.get? b = some o → s'.heap.get? b = some o) → s'.gens = s.gens → s'.os = s.os → s.heap.objs.size ≤ p →
      s'.heap.get? p = some (seqObj "list" out.toArray c) → ks.Perm (L.map (·.2)) → EachIs (fun v k => ∃ q ∈ L, v = .ref q.1 ∧ k = q.2) out (srt ks) → Q (.ref p) s') :
    wpAny (model P w) A (call (.builtin "sorted") [.ref a]) Q E s := by
  obtain ⟨o, ho, hex, hd⟩ := R.ob
  have hsz := R.size
  have hfew := R.few
  refine Calls.call_function_entry kind_sorted plain_sorted entry_sorted (args_sorted1 _) ?_
  unfold Builtin.«sorted»
  refine wpAny_bind (m := checkCount "sorted" 1 1 _) (wpAny_pure ?_)
  refine wpAny_bind (collect_set (A := A.in1) hh ⟨o, ho, hex.1, hd⟩ R.fits (by unfold scanBound; omega) R.tab.ris R.led fun s1 vs k1 hz g1 o1 pm => ?_)
  have hes : es.toList.map (·.2) = L.map fun q => Value.ref q.1 := by
    rw [R.rows]
    unfold L2.rowsOf
    rw [List.map_map] <;> rfl
  rw [hes] at pm
  -- the values as keys, in the order met
  have ord : ∀ us : List Value, (∀ v ∈ us, ∃ q ∈ L, v = Value.ref q.1) → ∃ M : List (Addr × List Int), us = M.map (fun q => Value.ref q.1) ∧ ∀ q ∈ M, q ∈ L := by
    intro us
    induction us with
    | nil => intro _; exact ⟨[], rfl, fun q hq => (by cases hq)⟩
    | cons v us ih =>
      intro hv
      obtain ⟨q, hq, e⟩ := hv v List.mem_cons_self
      obtain ⟨M, e1, hs⟩ := ih fun u hu => hv u (List.mem_cons_of_mem _ hu)
      refine ⟨q :: M, by rw [List.map_cons, e, e1], fun r hr => ?_⟩
      rcases List.mem_cons.mp hr with z | z
      · rw [z]; exact hq
      · exact hs r z
  have one : ∀ q ∈ L, ∀ r ∈ L, q.1 = r.1 → q = r := fun q hq r hr e => by
    have a1 := R.tup q hq
    have a2 := R.tup r hr
    rw [e] at a1
    exact Prod.ext e (a1.inj a2)
  obtain ⟨M, eM, sM⟩ := ord vs fun v hv => by
    obtain ⟨q, hq, e⟩ := List.mem_map.mp (pm.mem_iff.mp hv)
    exact ⟨q, hq, e.symm⟩
  have pmM : M.Perm L := by
    have nL : L.Nodup := nodup_of_map R.nd
    have nref : (L.map fun q => Value.ref q.1).Nodup := by
      refine List.pairwise_map.mpr (List.Pairwise.imp_of_mem (fun {q r} hq hr hn e => ?_) nL)
      injection e with e
      exact hn (one q hq r hr e)
    rw [eM] at pm
    have n1 : M.Nodup := nodup_of_map (pm.nodup_iff.mpr nref)
    refine (List.perm_ext_iff_of_nodup n1 nL).mpr fun q => ⟨sM q, fun hq => ?_⟩
    obtain ⟨r, hr, e⟩ := List.mem_map.mp (pm.mem_iff.mpr (List.mem_map.mpr ⟨q, hq, rfl⟩))
    injection e with e
    rw [← one r (sM r hr) q hq e]
    exact hr
  have hvl : vs.length < 64 := by rw [pm.length_eq, List.length_map]; exact hfew
  refine wpAny_bind (wpAny_newList ?_ (by rw [sizeLine_eq]; omega))
  have hoL : (s1.heap.push (seqObj "list" vs.toArray 0)).get? s1.heap.objs.size = some (seqObj "list" vs.toArray 0) := Heap.get?_push_size _ rfl
  have tk : ∀ q ∈ M, TS.TupInts (s1.heap.push (seqObj "list" vs.toArray 0)) (.ref q.1) q.2 := fun q hq => tupInts_of (P := P) (w := w) (isT_keep (R.tup q (sM q hq)) fun b u e => Heap.get?_push_of_some _ (k1 b u e))
  have e0 : EachIs (fun v k => TS.TupInts (s1.heap.push (seqObj "list" vs.toArray 0)) v k) vs (M.map (·.2)) := by rw [eM]; rw [eM] at tk; exact each_refs _ M tk
  have e1 : EachIs (fun v k => ∃ q ∈ L, v = Value.ref q.1 ∧ k = q.2) vs (M.map (·.2)) := by
    rw [eM]
    clear e0 tk hoL hvl pmM pm eM
    induction M with
    | nil => exact .nil
    | cons q M ih => exact .cons ⟨q, sM q List.mem_cons_self, rfl, rfl⟩ (ih fun r hr => sM r (List.mem_cons_of_mem _ hr))
  have er : EachIs (fun v b => ∃ as, Reads (s1.heap.push (seqObj "list" vs.toArray 0)) v (iP b) as ∧ s1.heap.objs.size ∉ as) vs (M.map (·.2)) := each_map (β := Unit) (fun v k x => ⟨[], reads_tup x, by simp⟩) e0
  have hn2 : ∀ k ∈ M.map (·.2), k ≠ [] := fun k hk => by
    obtain ⟨q, hq, rfl⟩ := List.mem_map.mp hk
    exact hne q (sM q hq)
  have lM : (M.map (·.2)).length ≤ sizeLine := by rw [List.length_map, pmM.length_eq, sizeLine_eq]; omega
  refine wpAny_bind (wpAny_holding (list_sort_data (s := { s1 with heap := s1.heap.push (seqObj "list" vs.toArray 0) }) (enc := iP) hoL e1 er (alike_iP _) (sortable_iP hn2) lM (fun b _ => by have := depth_iP b; show A.units + 1 + 1 + (iP b).depth < cLine; omega) fun out lo eo => ?_))
  rw [le_iP] at eo
  obtain ⟨c, hc⟩ := sortedHeap_at (vs := vs) (out := out.toArray) hoL
  have pk : (M.map (·.2)).Perm (L.map (·.2)) := pmM.map _
  have eo2 : EachIs (fun v k => ∃ q ∈ L, v = Value.ref q.1 ∧ k = q.2) out (srt (M.map (·.2))) := eo
  refine wpAny_pure ⟨_, rfl, hQ _ s1.heap.objs.size out c _ (fun b u e => ?_) g1 o1 hz hc pk eo2⟩
  have q := k1 b u e
  have hlt := Heap.lt_size q
  show (sortedHeap (s1.heap.push (seqObj "list" vs.toArray 0)) s1.heap.objs.size vs out.toArray).get? b = some u
  rw [sortedHeap_old (Nat.ne_of_lt hlt) (by rw [size_push']; exact Nat.lt_succ_of_lt hlt)]
  exact Heap.get?_push_of_some _ q
end
section
variable {X : Cx}
def rSrtS (K : PySem.W.Frag) (P : Program) (w : World) : List V → Hp → VK → Prop := fun vs H Q => ∃ (F : Addr → List Int → Prop) (a : Addr) (L : List (Addr × List Int)), vs = [.ref a] ∧ H a = some (SetTO P w a L) ∧ (∀ p ∈ L, F p.1 p.2) ∧ (∀ p ∈ L, SqT K H p.1 (p.2.map V.int)) ∧ (∀ p ∈ L, p.2 ≠ []) ∧
  ∀ (ks : List (List Int)) (bs : List Addr) (p : Addr), H p = none → ks.Nodup → ks.length < 64 → (∀ k, k ∈ ks ↔ k ∈ L.map (·.2)) → Paired F bs (srt ks) → Q (.ref p) (upd H p (.lst (bs.map V.ref)))
theorem cr_srtS (hc : X.calm = true) (hu : X.A.units + 64 < cLine) : CallR X (.builtin "sorted") (rSrtS X.K X.prog X.w) := fun pins s σ H vs us Q I r h => by
  obtain ⟨F, a, L, rfl, ha, hF, hk, hne, q⟩ := h
  have R0 : SetT0 X.prog X.w s.heap a L := (I.hok a _ ha).1
  obtain ⟨es, ep, t, R⟩ := R0.full fun p hp => I.isT (hk p hp)
  rw [Vals.ref1 r]
  refine sorted_set R (I.ok.hd hc) hu hne fun s' p out c ks k g o hp hg pm ee => ?_
  have ee2 : EachIs (Tu F) out (srt ks) := each_map (β := Unit) (fun v k ⟨q, hq, e1, e2⟩ => ⟨q.1, e1, by rw [e2]; exact hF q hq⟩) ee
  obtain ⟨bs, h1, h2⟩ := each_back ee2
  have hlen : (bs.map V.ref).length ≤ sizeLine := by
    have l1 : bs.length = (srt ks).length := h2.length
    rw [List.length_map, l1]
    unfold srt
    rw [List.length_mergeSort, pm.length_eq, List.length_map, sizeLine_eq]
    have := R.few
    omega
  have hn : H p = none := I.hok.fresh hp
  have J : Inv X pins σ (upd H p (.lst (bs.map V.ref))) { s with heap := s'.heap, gens := s'.gens, drawn := s'.drawn, toks := s'.toks } :=
    I.call (ch := []) (Un.laid k hp hn) (I.hok.laid k hp ⟨hlen, out, c, h1, hg⟩) (by rw [g]; exact I.bare) (fun _ z => nomatch z)
  have e : s' = { s with heap := s'.heap, gens := s'.gens, drawn := s'.drawn, toks := s'.toks } := by
    cases s'
    cases s
    cases o
    rfl
  rw [e]
  exact ⟨.ref p, _, J, rfl, q ks bs p hn (pm.nodup_iff.mpr R.nd) (by rw [pm.length_eq, List.length_map]; exact R.few) (fun k => pm.mem_iff) h2⟩
end
end HS
/-! set(t), t a tuple of tuples of ints. -/
namespace HS
open PySem PySem.Spec PyProof.Rows L2
section
variable {P : Program} {w : World} {A : Around} {E : Value → Shared → Prop} {s : Shared}
abbrev fresh0 (w : World) : Obj := { cls := .type "set", dict := none, data := .set #[] 0 (.fresh 0 0 (!w.params.followText "set-order")) }
theorem call_setT {l : Addr} {items : Array Value} (ks : List (Addr × List Int)) {Q : Value → Shared → Prop} (hh : A.handled = none) (hl : s.heap.IsTuple l items) (hit : items.toList = ks.map fun p => Value.ref p.1)
    (hk : ∀ p ∈ ks, IsT P w s.heap p.2 p.1) (hfew : ks.length < 64) (hu : A.units + 3 < cLine)
    (h : ∀ (h' : Heap) (tk : Nat) L es ep t, SetTR P w h' s.heap.objs.size L es ep t → Got ks ks.length L → (∀ b o, s.heap.get? b = some o → h'.get? b = some o) → Q (.ref s.heap.objs.size) { s with heap := h', toks := tk }) :
    wpAny (model P w) A (call (.type "set") [.ref l]) Q E s := by
  have hisz : items.size = ks.length := by rw [← Array.length_toList, hit, List.length_map]
  obtain ⟨c, tl, hmro⟩ := F.called_set.mro
  have hmade := F.called_set.made
  have hsub := F.called_set.sub
  refine wpAny_call (codeAny_of_tree ?_)
  show wpAny _ _ (callAny (.type "set") _) _ _ _
  refine wpAny_pure ⟨Code.quiet_builtin _ (by decide +kernel), codeAny_builtin F.entry_type_call ?_⟩
  rw [Around.under_plain (weight_type_call_type "set" [.ref l] []) rfl]
  have h1 := F.called_set.notType
  have h2 := F.called_set.canCreate
  have hct := F.typeCall_set_1 (.ref l)
  repeat (any_goals (first | assumption | wp_step))
  refine codeAny_mono (code_set_led1 (.ref l) (E := E) (Q₁ := fun obj s₁ => obj = .ref s.heap.objs.size ∧ s₁ = { s with heap := s.heap.push (fresh0 w) }) ⟨rfl, rfl⟩) fun r s₁ hr => ?_
  cases r with
  | error e => exact hr
  | ok fl =>
    cases fl with
    | ret obj =>
      obtain ⟨rfl, rfl⟩ := hr
      have hS : (s.heap.push (fresh0 w)).get? s.heap.objs.size = some (fresh0 w) := Heap.get?_push_size _ rfl
      have hT : Shared.TypeIs { s with heap := s.heap.push (fresh0 w) } (.ref s.heap.objs.size) "set" := ⟨_, hS, rfl⟩
      have hli := F.called_set.init.lookup
      have hbi := F.called_set.init.bind (.ref s.heap.objs.size)
      repeat (any_goals (first | assumption | wp_step))
      refine codeAny_mono (codeAny_call_builtin (R := wants (fun r s₂ => r = .none ∧ ∃ h' tk L es ep t, s₂ = { s with heap := h', toks := tk } ∧ SetTR P w h' s.heap.objs.size L es ep t ∧ Got ks ks.length L ∧
          (∀ b o, s.heap.get? b = some o → h'.get? b = some o)) E) F.called_set.init.plain F.entry_set_init (check_set_init_1 hT ?_)) fun r₂ s₂ hr₂ => ?_
      · obtain ⟨ol, hol, hcl, nl, hdl⟩ := hl
        obtain ⟨ocls, odict, odata, oslots⟩ := ol
        simp only at hcl hdl
        subst hcl; subst hdl
        have hol' : (s.heap.push (fresh0 w)).get? l = some { cls := .type "tuple", dict := odict, data := .seq items nl, slots := oslots } := Heap.get?_push_of_some _ hol
        have hsls : isSubtype (.type "tuple") (.type "set") = pure false := by rw [isSubtype_type]; kernel_rfl
        have hslf : isSubtype (.type "tuple") (.type "frozenset") = pure false := by rw [isSubtype_type]; kernel_rfl
        have hne : (Value.type "tuple" == Value.type "dict") = false := by decide
        have hl1 : (s.heap.push (fresh0 w)).IsTuple l items := ⟨_, hol', rfl, nl, rfl⟩
        unfold Builtin.«set.__init__» noKeywords Builtin.Frozenset.updateFrom
        generalize hPI : pyIter = PI
        wp_walk
        subst hPI
        refine wpAny_pyIter_tuple hl1 ?_
        refine wpAny_bind (wpAny_runValue ?_)
        have hlS : l < s.heap.objs.size := Heap.lt_size hol
        have hh3 : A.in1.in1.in1.handled = none := by simp [hh]
        have hz1 : (s.heap.push (fresh0 w)).objs.size = s.heap.objs.size + 1 := Heap.size_push ..
        have hneI : l ≠ (s.heap.push (fresh0 w)).objs.size := by rw [hz1]; exact Nat.ne_of_lt (Nat.lt_succ_of_lt hlS)
        have hSf : s.heap.objs.size ∉ [(s.heap.push (fresh0 w)).objs.size, l] := by
          rw [hz1]; simp only [List.mem_cons, List.mem_singleton, List.not_mem_nil, or_false, not_or]
          exact ⟨Nat.ne_of_lt (Nat.lt_succ_self _), Nat.ne_of_gt hlS⟩
        have hval : ∀ (i : Nat) (v : Value), items[i]? = some v → ∃ p, ks[i]? = some p ∧ v = .ref p.1 := fun i v hv => by
          rw [← Array.getElem?_toList, hit, List.getElem?_map] at hv
          cases hq : ks[i]? with
          | none => rw [hq] at hv; cases hv
          | some p => rw [hq] at hv; exact ⟨p, rfl, (Option.some.inj hv).symm⟩
        have none_of : ∀ b, s.heap.objs.size ≤ b → s.heap.get? b = none := fun b hb => by
          cases q : s.heap.get? b with
          | none => rfl
          | some o => exact absurd (Nat.lt_of_lt_of_le (Heap.lt_size q) hb) (Nat.lt_irrefl _)
        refine set_update_tups ((Walks.tuple hh3 _ l hneI items).toS) s.heap.objs.size
          hSf ks hisz hfew hval s.heap hk (none_of _ (Nat.le_refl _)) (fun b hb => none_of b (by rw [List.mem_singleton.mp hb, hz1]; exact Nat.le_succ _)) hu (items.size - 0) 0 _ (by omega) (Nat.zero_le _)
          ⟨⟨_, Heap.get?_push_size _ rfl, rfl, rfl⟩, (hl1.push _)⟩ (fun b o e => Heap.get?_push_of_some _ (Heap.get?_push_of_some _ e)) ?hS0 ?hR
        case hS0 =>
          have hget : ((s.heap.push (fresh0 w)).push { cls := .type "tuple_iterator", data := .fields #[.ref l, .int 0 0] }).get? s.heap.objs.size = some (fresh0 w) := Heap.get?_push_of_some _ hS
          exact ⟨[], #[], 0, _, setTR_fresh hget, Got.zero ks⟩
        case hR =>
          intro s' L es ep t hm hS' g' hkp
          obtain ⟨h', g2, d', tk', os'⟩ := s'
          have eg : g2 = s.gens := hm.gens
          have ed : d' = s.drawn := hm.drawn
          have eo : os' = s.os := hm.os
          subst eg; subst ed; subst eo
          show wpAny _ _ _ _ _ _
          refine wpAny_pure ?_
          show wpAny _ _ (ret Value.none) _ _ _
          rw [hisz] at g'
          exact wpAny_pure ⟨rfl, h', tk', L, es, ep, t, rfl, hS', g', hkp⟩
      · cases r₂ with
        | error e => exact hr₂
        | ok fl₂ =>
          cases fl₂ with
          | ret r =>
            obtain ⟨rfl, h', tk, L, es, ep, t, rfl, hS', g', hk'⟩ := hr₂
            repeat (any_goals (first | assumption | wp_step))
            exact h _ _ _ _ _ _ hS' g' hk'
          | _ => exact hr₂.elim
    | _ => exact hr.elim
end
section
variable {X : Cx}
/-- set of a list or of a tuple -/
def rSetLT (K : PySem.W.Frag) (P : Program) (w : World) : List V → Hp → VK → Prop := fun xs H Q => ∃ (l : Addr) (ks : List (Addr × List Int)), xs = [V.ref l] ∧ (SqL K H l (ks.map fun p => V.ref p.1) ∨ SqT K H l (ks.map fun p => V.ref p.1)) ∧ (∀ p ∈ ks, SqT K H p.1 (p.2.map V.int)) ∧ ks.length < 64 ∧
  ∀ a L, H a = none → (∀ p ∈ L, p ∈ ks) → (∀ p ∈ ks, p.2 ∈ L.map (·.2)) → Q (.ref a) (upd H a (SetTO P w a L))
theorem cr_set (hc : X.calm = true) (hu : X.A.units + 64 < cLine) : CallR X (.type "set") (rSetLT X.K X.prog X.w) := fun pins s σ H xs us Q I r h => by
  obtain ⟨l, ks, rfl, hl | hl, hk, hf, q⟩ := h
  · exact cr_setOfT hc hu pins s σ H _ us Q I r ⟨l, ks, rfl, hl, hk, hf, q⟩
  · rw [Vals.ref1 r]
    obtain ⟨its, rv, pl, hz⟩ := I.tuple hl
    have hn : H s.heap.objs.size = none := I.hok.fresh (Nat.le_refl _)
    refine call_setT (P := X.prog) (w := X.w) ks (I.ok.hd hc) (show s.heap.IsTuple l its.toArray from pl) (by simpa using refs_of_vals rv) (fun p hp => I.isT (hk p hp)) hf (by omega) fun h' tk L es ep t R g k => ?_
    refine ⟨.ref s.heap.objs.size, upd H s.heap.objs.size (SetTO X.prog X.w s.heap.objs.size L), I.laid (t' := tk) k (Nat.le_refl _) (setTO_new R.t0), rfl, q _ L hn (fun p hp => ?_) fun p hp => ?_⟩
    · exact List.mem_of_mem_take (g.sub p hp)
    · exact g.all p (by rw [List.take_length]; exact hp)
end
end HS
/-! {e for a in t for b in u}: a set of tuples of ints by two clauses without tests. -/
namespace HS
open PySem PySem.Spec PyProof.Rows L2
section
variable {P : Program} {w : World} {A : Around} {E : Value → Shared → Prop} {s : Shared}
theorem setT_add {a x : Addr} {k : List Int} {L : List (Addr × List Int)} {es : Array (Int × Value)} {ep : Nat} {t : SetTable} {Q : Value → Shared → Prop} (R : SetTR P w s.heap a L es ep t) (hx : IsT P w s.heap k x) (hu : A.units + 3 < cLine) (few : L.length + 1 < 64)
    (hQ : ∀ h' tk L' es' ep' t', Heap.SameBut a s.heap h' → SetTR P w h' a L' es' ep' t' → (k ∈ L.map (·.2) → L' = L) → (k ∉ L.map (·.2) → L'.Perm ((x, k) :: L)) → Q .none { s with heap := h', toks := tk }) :
    wpAny (model P w) A (call (.builtin "set.add") [.ref a, .ref x]) Q E s := by
  obtain ⟨o, ho, hex, hd⟩ := R.ob
  have hT : s.TypeIs (.ref a) "set" := ⟨o, ho, hex.1⟩
  refine wpAny_call_entry F.slot_set_add hT F.entry_set_add ?_ (F.args_set_add_2 _ _)
  unfold Builtin.«set.add» Builtin.Frozenset.oneOther
  simp only [List.isEmpty_nil, bind_assoc]
  unfold Builtin.Frozenset.addrOf setAdd
  refine wpAny_bind (wpAny_pure ?_)
  try dsimp only
  refine wpAny_bind (wpAny_pure ?_)
  try dsimp only
  refine wpAny_bind (wpAny_holding ?_)
  refine wpAny_bind (wpAny_pyHash_tuple (by show A.units + 1 < cLine; omega) hx ?_)
  refine add_at (s := { s with toks := s.toks + (k.length + 1) }) R hx (by show A.units + 1 < cLine; omega) few fun b h' L' es' ep' t' sb R' c1 c2 => ?_
  show wpAny _ _ (ret Value.none) _ _ _
  exact wpAny_pure ⟨_, rfl, hQ h' _ L' es' ep' t' sb R' c1 c2⟩
end
section
variable {X : Cx} {pins : List (Addr × Obj)} {σ : L2.St} {H : Hp} {s : Shared}
/-- set.add of a tuple of ints -/
theorem sadd_ok {E : Value → Shared → Prop} {D b : Addr} {k : List Int} {L : List (Addr × List Int)} {v : Value} {Q : Value → Shared → Prop} (I : Inv X pins σ H s) (hu : X.A.units + 64 < cLine) (hD : H D = some (SetTO X.prog X.w D L)) (hL : ∀ p ∈ L, SqT X.K H p.1 (p.2.map V.int)) (hb : SqT X.K H b (k.map V.int)) (r : RelV (.ref b) v) (few : L.length + 1 < 64)
    (h : ∀ s' L', (k ∈ L.map (·.2) → L' = L) → (k ∉ L.map (·.2) → L'.Perm ((b, k) :: L)) → Inv X pins σ (upd H D (SetTO X.prog X.w D L')) s' → Q .none s') : wpAny (model X.prog X.w) X.A (call (.builtin "set.add") [.ref D, v]) Q E s := by
  have R0 : SetT0 X.prog X.w s.heap D L := (I.hok D _ hD).1
  obtain ⟨es, ep, t, R⟩ := R0.full fun p hp => I.isT (hL p hp)
  cases r
  refine setT_add R (I.isT hb) (by omega) few fun h' tk L' es' ep' t' sb R' c1 c2 => ?_
  obtain ⟨o, ho, _⟩ := R'.ob
  exact h _ L' c1 c2 (I.write (e := D) (t' := tk) (by rw [hD]; trivial) (.inl rfl) (fun b u hb hu => (sb.2 b hb).trans hu) ⟨o, ho⟩ (setTO_new R'.t0))
end

/-! ### the loops -/
section
variable {prog : Program} {w : World} {A : Around} {R : Result → Shared → Prop} {s : Shared} {elt t0 i0 t1 i1 : Expr} {scope : Scope} {pos : Pos} {it acc : Value} {env : Env}
abbrev cmp2 (elt t0 i0 t1 i1 : Expr) (scope : Scope) (pos : Pos) : Expr := .SetComp elt [⟨t0, i0, [], 0⟩, ⟨t1, i1, [], 0⟩] scope pos
abbrev fl (prog : Program) (w : World) (A : Around) (env : Env) (R : Result → Shared → Prop) : Value → Shared → Prop := notedBy (model prog w) A env fun e s' => R (.error e) s'
theorem turn_out : compTurn (cmp2 elt t0 i0 t1 i1 scope pos) 0 it acc env = (do
      standAt i0.pos
      match ← pyNext it with
      | none => pure (.done .next)
      | some v =>
        letOwnedTupleGo t0 it v
        assign t0 env v
        let x ← eval i1 env
        standAt i1.pos
        let x ← foldedSetIterable i1 env x
        let _ ← runOwn (.compStart (cmp2 elt t0 i0 t1 i1 scope pos) 1 (← holding [x] (pyIter x)) acc env) env
        again (.compLoop (cmp2 elt t0 i0 t1 i1 scope pos) 0 it acc env)) := by rfl
theorem turn_in : compTurn (cmp2 elt t0 i0 t1 i1 scope pos) 1 it acc env = (do
      standAt i1.pos
      match ← pyNext it with
      | none => pure (.done .next)
      | some v =>
        letOwnedTupleGo t1 it v
        assign t1 env v
        (do let v ← eval elt env; standAt elt.pos; let _ ← call (.builtin "set.add") [acc, v])
        again (.compLoop (cmp2 elt t0 i0 t1 i1 scope pos) 1 it acc env)) := by rfl
theorem loop_out (hs : ∀ x, foldedSetIterable i1 env x = pure x) (I : Nat → Shared → Prop)
    (turn : ∀ n s, I n s → wpAny (model prog w) A (pyNext it) (fun r s₁ => match r with
      | none => R (.ok .next) s₁
      | some v => wpAny (model prog w) A (letOwnedTupleGo t0 it v) (fun _ s₂ => wpAny (model prog w) A (assign t0 env v) (fun _ s₃ => wpAny (model prog w) A (eval i1 env) (fun x s₄ => wpAny (model prog w) A (pyIter x) (fun it1 s₅ =>
              codeAny (model prog w) A (.compStart (cmp2 elt t0 i0 t1 i1 scope pos) 1 it1 acc env) (fun r s' => match r with
                | .ok _ => ∃ m, m < n ∧ I m s'
                | .error _ => False) s₅) (fl prog w A env R) s₄) (fl prog w A env R) s₃) (fl prog w A env R) s₂) (fl prog w A env R) s₁) (fl prog w A env R) s)
    (n : Nat) (h : I n s) : codeAny (model prog w) A (.compLoop (cmp2 elt t0 i0 t1 i1 scope pos) 0 it acc env) R s := by
  refine codeAny_loop rfl I (fun n s hI => ?_) n h
  show wpAny _ A ((compTurn (cmp2 elt t0 i0 t1 i1 scope pos) 0 it acc env).onRaise (fun x => do noteFrame x env; theTreesLotGoes x)) _ _ s
  refine wpAny_noted ?_
  rw [turn_out]
  refine wpAny_bind (wpAny_standAt (wpAny_bind (wpAny_mono (turn n s hI) (fun r s₁ h₁ => ?_) fun _ _ z => z)))
  cases r with
  | none => exact wpAny_pure h₁
  | some v =>
    refine wpAny_bind (wpAny_mono h₁ (fun _ s₂ h₂ => wpAny_bind (wpAny_mono h₂ (fun _ s₃ h₃ => wpAny_bind (wpAny_mono h₃ (fun x s₄ h₄ => ?_) fun _ _ z => z)) fun _ _ z => z)) fun _ _ z => z)
    refine wpAny_bind (wpAny_standAt (wpAny_bind (wpAny_of_eq (hs x) (wpAny_bind (wpAny_holding (wpAny_mono h₄ (fun it1 s₅ h₅ => ?_) fun _ _ z => z))))))
    refine wpAny_bind (wpAny_runOwn ?_)
    rw [Around.mark_none]
    refine codeAny_mono h₅ fun r s' hr => ?_
    cases r with
    | ok f =>
      first
        | exact wpAny_pure ⟨rfl, hr⟩
        | exact wpAny_bind (wpAny_pure (wpAny_pure ⟨rfl, hr⟩))
    | error e => exact hr.elim
theorem loop_in (I : Nat → Shared → Prop)
    (turn : ∀ n s, I n s → wpAny (model prog w) A (pyNext it) (fun r s₁ => match r with
      | none => R (.ok .next) s₁
      | some v => wpAny (model prog w) A (letOwnedTupleGo t1 it v) (fun _ s₂ => wpAny (model prog w) A (assign t1 env v) (fun _ s₃ => wpAny (model prog w) A (eval elt env) (fun x s₄ =>
              wpAny (model prog w) A (call (.builtin "set.add") [acc, x]) (fun _ s₅ => ∃ m, m < n ∧ I m s₅) (fl prog w A env R) s₄) (fl prog w A env R) s₃) (fl prog w A env R) s₂) (fl prog w A env R) s₁) (fl prog w A env R) s)
    (n : Nat) (h : I n s) : codeAny (model prog w) A (.compLoop (cmp2 elt t0 i0 t1 i1 scope pos) 1 it acc env) R s := by
  refine codeAny_loop rfl I (fun n s hI => ?_) n h
  show wpAny _ A ((compTurn (cmp2 elt t0 i0 t1 i1 scope pos) 1 it acc env).onRaise (fun x => do noteFrame x env; theTreesLotGoes x)) _ _ s
  refine wpAny_noted ?_
  rw [turn_in]
  refine wpAny_bind (wpAny_standAt (wpAny_bind (wpAny_mono (turn n s hI) (fun r s₁ h₁ => ?_) fun _ _ z => z)))
  cases r with
  | none => exact wpAny_pure h₁
  | some v =>
    refine wpAny_bind (wpAny_mono h₁ (fun _ s₂ h₂ => wpAny_bind (wpAny_mono h₂ (fun _ s₃ h₃ => ?_) fun _ _ z => z)) fun _ _ z => z)
    exact wpAny_bind (wpAny_bind (wpAny_mono h₃ (fun x s₄ h₄ => wpAny_bind (wpAny_standAt (wpAny_bind (wpAny_mono h₄ (fun _ s₅ h₅ => wpAny_pure (wpAny_pure ⟨rfl, h₅⟩)) fun _ _ z => z)))) fun _ _ z => z))
theorem start_in (h0 : codeAny (model prog w) A (.compLoop (cmp2 elt t0 i0 t1 i1 scope pos) 1 it acc env) R s)
    (h : wpAny (model prog w) A (pyIter it) (fun it' s' => codeAny (model prog w) A (.compLoop (cmp2 elt t0 i0 t1 i1 scope pos) 1 it' acc env) R s') (fl prog w A env R) s) :
    codeAny (model prog w) A (.compStart (cmp2 elt t0 i0 t1 i1 scope pos) 1 it acc env) R s := by
  refine codeAny_of_tree ?_
  show wpAny _ _ ((compStart (cmp2 elt t0 i0 t1 i1 scope pos) 1 it acc env).onRaise (fun x => do noteFrame x env; standAt theWindowsPlace)) _ _ s
  refine wpAny_notedAt ?_
  unfold compStart
  show wpAny _ _ (ask >>= _) _ _ s
  refine wpAny_bind (wpAny_askSetting (wpAny_ite ?_))
  split
  · first
      | exact wpAny_bind (wpAny_pure (wpAny_pure (And.intro rfl h0)))
      | exact wpAny_pure (And.intro rfl h0)
  · first
      | exact wpAny_bind (wpAny_rule (wpAny_bind (wpAny_standAt (wpAny_bind (wpAny_mono h (fun it' s' z => wpAny_pure (And.intro rfl z)) fun _ _ z => z)))))
      | (refine wpAny_bind (wpAny_rule ?_); show wpAny _ _ (standAt i1.pos >>= _) _ _ s; exact wpAny_bind (wpAny_standAt (wpAny_bind (wpAny_mono h (fun it' s' z => wpAny_pure (And.intro rfl z)) fun _ _ z => z))))
theorem start_out (h0 : codeAny (model prog w) A (.compLoop (cmp2 elt t0 i0 t1 i1 scope pos) 0 it acc env) R s)
    (h : wpAny (model prog w) A (pyIter it) (fun it' s' => codeAny (model prog w) A (.compLoop (cmp2 elt t0 i0 t1 i1 scope pos) 0 it' acc env) R s') (fl prog w A env R) s) :
    codeAny (model prog w) A (.compStart (cmp2 elt t0 i0 t1 i1 scope pos) 0 it acc env) R s := by
  refine codeAny_of_tree ?_
  show wpAny _ _ ((compStart (cmp2 elt t0 i0 t1 i1 scope pos) 0 it acc env).onRaise (fun x => do noteFrame x env; standAt theWindowsPlace)) _ _ s
  refine wpAny_notedAt ?_
  unfold compStart
  show wpAny _ _ (ask >>= _) _ _ s
  refine wpAny_bind (wpAny_askSetting (wpAny_ite ?_))
  split
  · first
      | exact wpAny_bind (wpAny_pure (wpAny_pure (And.intro rfl h0)))
      | exact wpAny_pure (And.intro rfl h0)
  · first
      | exact wpAny_bind (wpAny_rule (wpAny_bind (wpAny_standAt (wpAny_bind (wpAny_mono h (fun it' s' z => wpAny_pure (And.intro rfl z)) fun _ _ z => z)))))
      | (refine wpAny_bind (wpAny_rule ?_); show wpAny _ _ (standAt i0.pos >>= _) _ _ s; exact wpAny_bind (wpAny_standAt (wpAny_bind (wpAny_mono h (fun it' s' z => wpAny_pure (And.intro rfl z)) fun _ _ z => z))))
end

/-! ### the whole -/
section
variable {X : Cx}
/-- behind the first clause's store the second's loop, from which Nx is reached; what set.add leaves -/
def tSc2 (P : Program) (w : World) (K : PySem.W.Frag) (wi : TI) (g : TG) (wi1 : TI) (g1 : TG) (te : TE) (vs vs1 : List Nat) : TE := fun σ H Q => wi σ H fun J H1 => ∀ D, H1 D = none → ∃ W : Nat → Nat → Hp → Prop, (∃ m, W 0 m (upd H1 D (SetTO P w D []))) ∧ ∀ i m H, W i m H →
  (J.stop i H ∧ Q (.ref D) H) ∨ (J.go i H ∧ ∃ Nx : Hp → Prop, (∀ H', Nx H' → ∃ m', m' < m ∧ W (i + 1) m' H') ∧ ∀ x H', J.yld i H x H' → g x (wipe σ vs) H' fun σ2 H2 => wipe σ2 vs = wipe σ vs ∧
    wi1 σ2 H2 fun J1 H4 => ∃ W1 : Nat → Nat → Hp → Prop, (∃ m, W1 0 m H4) ∧ ∀ j k H, W1 j k H →
      (J1.stop j H ∧ Nx H) ∨ (J1.go j H ∧ ∃ Nx1 : Hp → Prop, (∀ H', Nx1 H' → ∃ k', k' < k ∧ W1 (j + 1) k' H') ∧ ∀ x H', J1.yld j H x H' → g1 x (wipe σ2 vs1) H' fun σ3 H5 => wipe σ3 vs1 = wipe σ2 vs1 ∧
        te σ3 H5 fun y H7 => ∃ L b z, H7 D = some (SetTO P w D L) ∧ y = .ref b ∧ SqT K H7 b (z.map V.int) ∧ (∀ p ∈ L, SqT K H7 p.1 (p.2.map V.int)) ∧ L.length + 1 < 64 ∧
          ∀ L', (z ∈ L.map (·.2) → L' = L) → (z ∉ L.map (·.2) → L'.Perm ((b, z) :: L)) → Nx1 (upd H7 D (SetTO P w D L'))))
theorem new_set {P : Program} {w : World} {A : Around} {E : Value → Shared → Prop} {s : Shared} {Q : Value → Shared → Prop} (h : Q (.ref s.heap.objs.size) { s with heap := s.heap.push (fresh0 w) }) : wpAny (model P w) A (newSet (.type "set")) Q E s := by
  unfold newSet setsByText
  refine wpAny_bind (wpAny_bind (wpAny_askSetting (wpAny_pure ?_)))
  dsimp only
  simp only [newObj]
  exact wpAny_bind (wpAny_alloc (wpAny_pure h))
theorem sc2_core {pins : List (Addr × Obj)} {s : Shared} {σ : L2.St} {H : Hp} {Q : VK} {elt tg iter tg1 iter1 : Expr} {scope : Scope} {own : List (Str × Nat)} {vs1 : List Nat} {pos pos' : Pos} {wi wi1 : TI} {g g1 : TG} {te : TE} {use : Option (Value → Sem Unit)} {Qf : Value → Shared → Prop}
    (hu : X.A.units + 64 < cLine) (hc : X.calm = true) (hN : X.N.Nodup) (I : Inv X pins σ H s) (hi : PI X tg iter wi) (ok : BlkOk X.N X.env.scope scope own) (hv : ∀ i ∈ vs1, i ∈ own.map (·.2))
    (hg : ∀ (s : Shared) (H : Hp) (C : Addr) (cl : List (Str × Addr)) (fp : List Addr), PG (X.blk s H scope (compEnvC scope cl C X.env) fp) tg g)
    (he : ∀ (s : Shared) (H : Hp) (C : Addr) (cl : List (Str × Addr)) (fp : List Addr), PE (X.blk s H scope (compEnvC scope cl C X.env) fp) elt te) (hs : ∀ x, foldedSetIterable iter X.env x = pure x)
    (hi1 : ∀ (s : Shared) (H : Hp) (C : Addr) (cl : List (Str × Addr)) (fp : List Addr), PI (X.blk s H scope (compEnvC scope cl C X.env) fp) tg1 iter1 wi1)
    (hg1 : ∀ (s : Shared) (H : Hp) (C : Addr) (cl : List (Str × Addr)) (fp : List Addr), PG (X.blk s H scope (compEnvC scope cl C X.env) fp) tg1 g1)
    (hs1 : ∀ env x, foldedSetIterable iter1 env x = pure x) (h : tSc2 X.prog X.w X.K wi g wi1 g1 te (own.map (·.2)) vs1 σ H Q)
    (hRR : ∀ D C s' m H', Inv X pins σ H' s' → Q (.ref D) H' → s'.heap.Ns C m → FpOk X pins H' C → compPost (model X.prog X.w) X.A X.xe use Qf (.ref D) C (.ok .next) s') :
    wpAny (model X.prog X.w) X.A (comprehension (cmp2 elt tg iter tg1 iter1 scope pos) scope X.env pos' (newSet (.type "set")) false (eval iter X.env) use) Qf X.xe s := by
  have hfree : ∀ y ∈ scope.names, y.2 = .free → ∃ c, X.env.cells.lookup y.1 = some c := fun y hy e => (ok.free y hy e).elim (fun k => I.ok.has _ (.inl k)) fun k => I.ok.has _ (.inr k)
  refine wpAny_comprehension_free (use := use) rfl hs (closure_ok hfree) ok.kind (fun y hy e => by rw [ok.uniq y hy, e])
    (thn (hi.run pins s σ H _ I h) fun xv s1 hx => thn hx fun itv s2 ⟨it, fp, tn, J, H2, e, I2, T, st2, f2, q⟩ => ?_)
  subst e
  refine new_set (newEnv_comp ?_)
  generalize hD : s2.heap.objs.size = D
  have hDn : H2 D = none := I2.hok.fresh (Nat.le_of_eq hD)
  obtain ⟨W, ⟨m0, w0⟩, turn⟩ := q D hDn
  generalize hs3 : ({ s2 with heap := s2.heap.push (fresh0 X.w) } : Shared) = s3
  have h3 : s3.heap = s2.heap.push (fresh0 X.w) := by rw [← hs3]
  have I3 : Inv X pins σ (upd H2 D (SetTO X.prog X.w D [])) s3 := by
    rw [← hs3]
    refine I2.laid (t' := s2.toks) (fun b o e => Heap.get?_push_of_some _ e) (Nat.le_of_eq hD) (setTO_new (setTR_fresh ?_).t0)
    rw [← hD]
    exact Heap.get?_push_size _ rfl
  have sz : ∀ b ∈ fp, b < s2.heap.objs.size := fun b hb => (let ⟨o, e, _⟩ := T.obj _ _ st2 b hb; Heap.lt_size e)
  have f3 : ∀ b ∈ fp, FpOk X pins (upd H2 D (SetTO X.prog X.w D [])) b ∧ b < s3.heap.objs.size := fun b hb => by
    have lt := sz b hb
    refine ⟨⟨?_, (f2 b hb).2⟩, by rw [h3, Heap.size_push]; exact Nat.lt_succ_of_lt lt⟩
    rw [upd_ne (by rw [← hD]; exact Nat.ne_of_lt lt)]
    exact (f2 b hb).1
  have st3 : tn 0 s3.heap := T.keep _ _ _ st2 fun b _ o e => by rw [h3]; exact Heap.get?_push_of_some _ e
  have I4 := block_start I3 ok hN f3
  have pg := hg s3 (upd H2 D (SetTO X.prog X.w D [])) s3.heap.objs.size (cellsFrom (s3.heap.objs.size + 1) scope.names (cloFrom X.env.cells scope.names [])) fp
  have pe := he s3 (upd H2 D (SetTO X.prog X.w D [])) s3.heap.objs.size (cellsFrom (s3.heap.objs.size + 1) scope.names (cloFrom X.env.cells scope.names [])) fp
  have pi1 := hi1 s3 (upd H2 D (SetTO X.prog X.w D [])) s3.heap.objs.size (cellsFrom (s3.heap.objs.size + 1) scope.names (cloFrom X.env.cells scope.names [])) fp
  have pg1 := hg1 s3 (upd H2 D (SetTO X.prog X.w D [])) s3.heap.objs.size (cellsFrom (s3.heap.objs.size + 1) scope.names (cloFrom X.env.cells scope.names [])) fp
  show codeAny _ _ (.compStart (cmp2 elt tg iter tg1 iter1 scope pos) 0 (.ref it) (.ref D) (compEnvC scope (cellsFrom (s3.heap.objs.size + 1) scope.names (cloFrom X.env.cells scope.names [])) s3.heap.objs.size X.env)) (compPost (model X.prog X.w) X.A X.xe use Qf (.ref D) s3.heap.objs.size) { s3 with heap := pushCells (s3.heap.push { cls := .type "dict", data := .dict #[] }) scope.names }
  have nfp : ∀ b ∈ fp, (upd H2 D (SetTO X.prog X.w D [])) b = none := fun b hb => (f3 b hb).1.1
  generalize hce : compEnvC scope (cellsFrom (s3.heap.objs.size + 1) scope.names (cloFrom X.env.cells scope.names [])) s3.heap.objs.size X.env = ce at I4 pg pe pi1 pg1 ⊢
  have cL : ce.locals = s3.heap.objs.size := by subst hce; rfl
  generalize hH3 : upd H2 D (SetTO X.prog X.w D []) = H3 at I3 I4 pg pe pi1 pg1 w0 nfp f3
  generalize hs4 : ({ s3 with heap := pushCells (s3.heap.push { cls := .type "dict", data := .dict #[] }) scope.names } : Shared) = s4 at I4 ⊢
  have st4 : tn 0 s4.heap := T.keep _ _ _ st3 fun b _ o e => by rw [← hs4]; exact pushCells_keeps _ _ _ _ (Heap.get?_push_of_some _ e)
  let B : Cx := X.blk s3 H3 scope ce fp
  have stat : ∀ {σ' : L2.St} {H' : Hp} {s' : Shared}, Inv B [] σ' H' s' → (∀ b ∈ fp, H' b = none) → ∀ b ∈ fp, FpOk B [] H' b := fun {σ' H' s'} I' hn b hb =>
    ⟨hn b hb, (I'.ok.exf b hb).1, I'.ok.exfs b hb, .inl hb, fun x c e => (I'.ok.exf b hb).2 x c e, fun p hp => absurd (show p ∈ ([] : List (Addr × Obj)) ++ [] from hp) (by simp)⟩
  have loop : codeAny (model X.prog X.w) X.A (.compLoop (cmp2 elt tg iter tg1 iter1 scope pos) 0 (.ref it) (.ref D) ce) (compPost (model X.prog X.w) X.A X.xe use Qf (.ref D) s3.heap.objs.size) s4 := by
    refine loop_out (hs1 ce) (fun n s' => ∃ i H', Inv B [] (wipe σ (own.map (·.2))) H' s' ∧ tn i s'.heap ∧ (∀ b ∈ fp, H' b = none) ∧ W i n H') ?_ m0 ⟨0, H3, I4, st4, nfp, w0⟩
    rintro n s5 ⟨i, H5, I5, st5, n5, w5⟩
    rcases turn i n H5 w5 with ⟨stop, qq⟩ | ⟨go, Nx, hNx, step⟩
    · refine thnF (T.done B rfl rfl rfl hc i [] s5 _ H5 (fun _ _ => False) I5 (stat I5 n5) st5 stop) fun r s6 ⟨hr, I6⟩ => ?_
      subst hr
      have I7 : Inv X pins σ H5 s6 := I3.call' (ch := fp) I6.os I6.base I6.hok I6.bare fun b hb => ⟨(f3 b hb).1.2.2.2.1, (f3 b hb).1.2.1, (f3 b hb).1.2.2.2.2.1, (f3 b hb).1.2.2.2.2.2⟩
      have nC : H5 s3.heap.objs.size = none := by
        have z : H5 ce.locals = none := I6.free
        rw [cL] at z
        exact z
      obtain ⟨m, hn, _⟩ := I6.loc
      have hn : s6.heap.Ns ce.locals m := hn
      rw [cL] at hn
      exact hRR D s3.heap.objs.size s6 m H5 I7 qq hn (I3.fpOk (Nat.le_refl _) nC)
    · refine thnF (T.item B rfl rfl rfl hc i [] s5 _ H5 (fun _ _ => False) I5 (stat I5 n5) st5 go) fun r s6 ⟨u, hr, h6⟩ => ?_
      subst hr
      refine thnF h6 fun _ s7 ⟨x, H7, I7, r7, y7, st7, n7⟩ => ?_
      have I7' := I7.pinned (stat I7 n7) (T.obj _ _ st7)
      refine thnF (pg.run _ s7 _ H7 x u _ I7' r7 (step x H7 y7)) fun _ s8 ⟨σ8, H8, I8, hw8, q8⟩ => ?_
      have fin : ∀ {σ9 : L2.St} {s' : Shared} {H' : Hp}, Inv B ([] ++ pinsAt fp s7.heap) σ9 H' s' → (wipe σ (own.map (·.2))).length = σ9.length → (∀ (j : Nat) v, (wipe σ (own.map (·.2)))[j]? = some (some v) → σ9[j]? = some (some v)) → Nx H' →
          ∃ m, m < n ∧ ∃ i H', Inv B [] (wipe σ (own.map (·.2))) H' s' ∧ tn i s'.heap ∧ (∀ b ∈ fp, H' b = none) ∧ W i m H' := fun {σ9 s' H'} I' hl hk nx => by
        obtain ⟨m', hm, w'⟩ := hNx H' nx
        have pin' : ∀ b ∈ fp, ∀ o, s7.heap.get? b = some o → s'.heap.get? b = some o ∧ H' b = none := fun b hb o e =>
          let z := I'.pin (b, o) (List.mem_append_right _ (List.mem_append_right _ (mem_pinsAt hb e)))
          ⟨z.1, z.2.1⟩
        refine ⟨m', hm, i + 1, H', (I'.unpinned (pins := [])).weak hl hk, T.keep _ _ _ st7 fun b hb o e => (pin' b hb o e).1, fun b hb => ?_, w'⟩
        obtain ⟨o, e, _⟩ := T.obj _ _ st7 b hb
        exact (pin' b hb o e).2
      have hl8 : (wipe σ (own.map (·.2))).length = σ8.length := by rw [← hw8, wipe_length]
      have hk9 : ∀ (j : Nat) v, (wipe σ (own.map (·.2)))[j]? = some (some v) → (wipe σ8 vs1)[j]? = some (some v) := fun j v e => by
        rw [← hw8] at e
        obtain ⟨e1, e2⟩ := wipe_some e
        rw [wipe_out fun z => e2 (hv j z)]
        exact e1
      refine thnF (pi1.run _ s8 σ8 H8 _ I8 q8) fun xv s10 hx => thnF hx fun itv s11 ⟨it1, fp1, tn1, J1, H11, e1, I11, T1, st11, f11, W1, ⟨m1, w1⟩, turn1⟩ => ?_
      subst e1
      have stat1 : ∀ {H' : Hp}, (∀ b ∈ fp1, H' b = none) → ∀ b ∈ fp1, FpOk B ([] ++ pinsAt fp s7.heap) H' b := fun hn b hb => ⟨hn b hb, (f11 b hb).2⟩
      have loop1 : codeAny (model X.prog X.w) X.A (.compLoop (cmp2 elt tg iter tg1 iter1 scope pos) 1 (.ref it1) (.ref D) ce)
          (fun r s' => match r with
            | .ok _ => ∃ m, m < n ∧ ∃ i H', Inv B [] (wipe σ (own.map (·.2))) H' s' ∧ tn i s'.heap ∧ (∀ b ∈ fp, H' b = none) ∧ W i m H'
            | .error _ => False) s11 := by
        refine loop_in (fun k s' => ∃ j H', Inv B ([] ++ pinsAt fp s7.heap) (wipe σ8 vs1) H' s' ∧ tn1 j s'.heap ∧ (∀ b ∈ fp1, H' b = none) ∧ W1 j k H') ?_ m1 ⟨0, H11, I11.weak (wipe_length _ _) (fun j v e => (wipe_some e).1), st11, fun b hb => (f11 b hb).1, w1⟩
        rintro k s12 ⟨j, H12, I12, st12, n12, w12⟩
        rcases turn1 j k H12 w12 with ⟨stop1, nx1⟩ | ⟨go1, Nx1, hNx1, step1⟩
        · refine thnF (T1.done B rfl rfl rfl hc j _ s12 (wipe σ8 vs1) H12 (fun _ _ => False) I12 (stat1 n12) st12 stop1) fun r s13 ⟨hr, I13⟩ => ?_
          subst hr
          exact fin I13 (hl8.trans (wipe_length σ8 vs1).symm) hk9 nx1
        · refine thnF (T1.item B rfl rfl rfl hc j _ s12 (wipe σ8 vs1) H12 (fun _ _ => False) I12 (stat1 n12) st12 go1) fun r s13 ⟨u1, hr, h13⟩ => ?_
          subst hr
          refine thnF h13 fun _ s14 ⟨x1, H14, I14, r14, y14, st14, n14⟩ => ?_
          have I14' := I14.pinned (stat1 n14) (T1.obj _ _ st14)
          refine thnF (pg1.run _ s14 (wipe σ8 vs1) H14 x1 u1 _ I14' r14 (step1 x1 H14 y14)) fun _ s15 ⟨σ15, H15, I15, hw15, q15⟩ => ?_
          refine thnF (pe.run _ s15 σ15 H15 _ I15 q15) fun z s17 ⟨yv, H17, I17, r17, L, b, zk, hD17, ey, hb, hL, few, nx⟩ => ?_
          subst ey
          refine sadd_ok (X := B) I17 hu hD17 hL hb r17 few fun s18 L' c1 c2 I18 => ?_
          obtain ⟨m', hm, w'⟩ := hNx1 _ (nx L' c1 c2)
          have pin' : ∀ b ∈ fp1, ∀ o, s14.heap.get? b = some o → s18.heap.get? b = some o ∧ (upd H17 D (SetTO X.prog X.w D L')) b = none := fun b hb o e =>
            let z := I18.pin (b, o) (List.mem_append_right _ (List.mem_append_right _ (mem_pinsAt hb e)))
            ⟨z.1, z.2.1⟩
          refine ⟨m', hm, j + 1, _, I18.unpinned.weak (by rw [← hw15, wipe_length]) (fun j v e => by rw [← hw15] at e; exact (wipe_some e).1), T1.keep _ _ _ st14 fun b hb o e => (pin' b hb o e).1, fun b hb => ?_, w'⟩
          obtain ⟨o, e, _⟩ := T1.obj _ _ st14 b hb
          exact (pin' b hb o e).2
      exact start_in loop1 (T1.self X.A 0 _ _ _ st11 loop1)
  exact start_out loop (T.self X.A 0 _ _ _ st4 loop)
theorem pe_sc2 {elt tg iter tg1 iter1 : Expr} {scope : Scope} {own : List (Str × Nat)} {vs1 : List Nat} {pos : Pos} {wi wi1 : TI} {g g1 : TG} {te : TE} (hu : X.A.units + 64 < cLine) (hc : X.calm = true) (hN : X.N.Nodup) (hi : PI X tg iter wi) (ok : BlkOk X.N X.env.scope scope own) (hv : ∀ i ∈ vs1, i ∈ own.map (·.2))
    (hg : ∀ (s : Shared) (H : Hp) (C : Addr) (cl : List (Str × Addr)) (fp : List Addr), PG (X.blk s H scope (compEnvC scope cl C X.env) fp) tg g)
    (hi1 : ∀ (s : Shared) (H : Hp) (C : Addr) (cl : List (Str × Addr)) (fp : List Addr), PI (X.blk s H scope (compEnvC scope cl C X.env) fp) tg1 iter1 wi1)
    (hg1 : ∀ (s : Shared) (H : Hp) (C : Addr) (cl : List (Str × Addr)) (fp : List Addr), PG (X.blk s H scope (compEnvC scope cl C X.env) fp) tg1 g1)
    (he : ∀ (s : Shared) (H : Hp) (C : Addr) (cl : List (Str × Addr)) (fp : List Addr), PE (X.blk s H scope (compEnvC scope cl C X.env) fp) elt te) (hs : ∀ x, foldedSetIterable iter X.env x = pure x) (hs1 : ∀ env x, foldedSetIterable iter1 env x = pure x) :
    PE X (cmp2 elt tg iter tg1 iter1 scope pos) (tSc2 X.prog X.w X.K wi g wi1 g1 te (own.map (·.2)) vs1) := by
  refine ⟨fun pins s σ H Q I h => ?_⟩
  rw [arm_eval_SetComp]
  refine sc2_core hu hc hN I hi ok hv hg he hs hi1 hg1 hs1 h fun D C s' m H' I' q hn f => ⟨m, hn, fun h'' sb => ?_⟩
  obtain ⟨f0, f1, f2, f3, f4, f5⟩ := f
  exact ⟨.ref D, H', I'.turned (t' := s'.toks) (fun b o hb e => (sb.2 b hb).trans e) f0 f1 f3 f4 f5, rfl, q⟩
end
end HS
/-! The data level: sets and sorted lists of tuples of ints. -/
namespace DL
open PySem PySem.Spec L2 HS
section
variable {α : Type}
theorem nodup_len [DecidableEq α] : ∀ (l U : List α), l.Nodup → (∀ x ∈ l, x ∈ U) → l.length ≤ U.length
  | [], _, _, _ => Nat.zero_le _
  | x :: l, U, h, s => by
    obtain ⟨h1, h2⟩ := List.nodup_cons.mp h
    have hx := s x List.mem_cons_self
    have q := nodup_len l (U.erase x) h2 fun y hy => by
      have ne : y ≠ x := fun z => h1 (by rw [← z]; exact hy)
      exact (List.mem_erase_of_ne ne).mpr (s y (List.mem_cons_of_mem _ hy))
    rw [List.length_erase_of_mem hx] at q
    have := List.length_pos_of_mem hx
    rw [List.length_cons]
    omega
end
section
variable {G : Wd} {c : Cxt} {H0 L H : Hp} {σ : L2.St} {ρ : Rho}
theorem En.ext (en : En G c H0 L H σ ρ) {D : Addr} {φ φ' : Heap → Prop} (hD : H D = some (.ext φ)) : En G c H0 L (upd H D (.ext φ')) σ ρ := by
  refine ⟨en.len, fun i d h => ?_, en.own, en.apart⟩
  obtain ⟨x, v, h1, h2, h3, h4⟩ := en.at_ i d h
  refine ⟨x, v, h1, h2, h3, ?_⟩
  have ne : ∀ {q : Addr} {o : HO}, H q = some o → (∀ φ, o ≠ .ext φ) → q ≠ D := fun {q o} e n z => by
    subst z; rw [hD] at e; cases e; exact n _ rfl
  cases d with
  | own ds => obtain ⟨q, xs, f1, f2, f3, f4, f5⟩ := h4; exact ⟨q, xs, f1, f2, f3, by rw [upd_ne (ne f4 fun _ z => nomatch z)]; exact f4, f5⟩
  | dic ks => obtain ⟨q, f1, f2, f3, f4⟩ := h4; exact ⟨q, f1, f2, f3, by rw [upd_ne (ne f4 fun _ z => nomatch z)]; exact f4⟩
  | fresh fa fx => obtain ⟨f1, f2, f3, f4⟩ := h4; exact ⟨f1, f2, f3, by rw [upd_ne (ne f4 fun _ z => nomatch z)]; exact f4⟩
  | dat _ => exact h4
  | src => exact h4
  | keys _ => exact h4
  | set _ => exact h4
  | obj _ => exact h4
  | ntup _ => exact h4
theorem En.wipe (en : En G c H0 L H σ ρ) {vs : List Nat} (h : ∀ i ∈ vs, ∀ d, ρ[i]? ≠ some (some d)) : En G c H0 L H (L2.wipe σ vs) ρ := by
  have out : ∀ {i : Nat} {d : D}, ρ[i]? = some (some d) → (L2.wipe σ vs)[i]? = σ[i]? := fun {i d} e => wipe_get fun m => h i m d e
  refine ⟨by rw [wipe_length]; exact en.len, fun i d e => ?_, fun i d p e m q => ?_, fun i j d e p hn h1 h2 m1 m2 r1 r2 => ?_⟩
  · obtain ⟨x, v, h1, h2, h3, h4⟩ := en.at_ i d e
    exact ⟨x, v, h1, h2, by rw [out e]; exact h3, h4⟩
  · rw [out e] at q; exact en.own i d p e m q
  · rw [out h1] at r1
    rw [out h2] at r2
    exact en.apart i j d e p hn h1 h2 m1 m2 r1 r2
end
def wpI (X : Cx) (tg iter : Expr) : TI := fun σ H R => ∀ pins s, Inv X pins σ H s → wpAny (model X.prog X.w) X.A (eval iter X.env) (fun v s1 => wpAny (model X.prog X.w) X.A (pyIter v) (PIE X pins σ tg R) X.xe s1) X.xe s
def blkI (X : Cx) (scope : Scope) (tg iter : Expr) : TI := fun σ H R => ∀ s0 H0 C cl fp, wpI (X.blk s0 H0 scope (compEnvC scope cl C X.env) fp) tg iter σ H R

section
variable {G : Wd} {c : Cxt} {ρ : Rho} {n : Nat} {R : D → Nat → Prop} {elt tg iter tg1 iter1 : Expr} {scope : Scope} {pos : Pos}
theorem ex_sc2 (own : List (Str × Nat)) (vs1 : List Nat) (vis : List Bool) (f : List Int → List Int → List Int) (hok : blkC c.N c.sc scope own = true) (hv : visOk c.N (relS scope c.sc) own vis = true) (hv1 : ∀ i ∈ vs1, i ∈ own.map (·.2))
    (h : IX G c tg iter ρ n fun ds n1 => ∃ (as bs U : List (List Int)), ds = as.map iD ∧ U.length ≤ 62 ∧ (∀ a ∈ as, ∀ b ∈ bs, f a b ∈ U) ∧
      (∀ a ∈ as, BX G (c.blk scope) (own.map (·.2)) tg (iD a) (maskR vis ρ) fun ρ2 => (∀ i ∈ vs1, ∀ d, ρ2[i]? ≠ some (some d)) ∧ IX G (c.blk scope) tg1 iter1 ρ2 n1 fun es n2 => n2 = n1 ∧ es = bs.map iD ∧
        ∀ b ∈ bs, BX G (c.blk scope) vs1 tg1 (iD b) ρ2 fun ρ3 => EX G (c.blk scope) elt ρ3 n1 fun d n3 => n3 = n1 ∧ d = .dat (iD (f a b))) ∧
      R (.set (as.flatMap fun a => bs.map (f a))) n1)
    (hs : ∀ env x, foldedSetIterable iter env x = pure x := by intro _ _; rfl) (hs1 : ∀ env x, foldedSetIterable iter1 env x = pure x := by intro _ _; rfl) : EX G c (.SetComp elt [⟨tg, iter, [], 0⟩, ⟨tg1, iter1, [], 0⟩] scope pos) ρ n R := ex_pe fun X k => by
  obtain ⟨wi, pi, hw⟩ := h X k
  refine ⟨_, pe_sc2 (g := blkG X scope tg) (wi1 := blkI X scope tg1 iter1) (g1 := blkG X scope tg1) (te := blkE X scope elt) (vs1 := vs1) (by have := k.units; omega) k.calm k.nd pi (by rw [k.N, k.sc]; exact blkOk_by hok) hv1
    (fun s H C cl fp => ⟨fun pins s _ _ _ u _ I r h => h _ _ _ _ _ pins s u I r⟩) (fun s H C cl fp => ⟨fun pins s σ H R I h => h _ _ _ _ _ pins s I⟩) (fun s H C cl fp => ⟨fun pins s _ _ _ u _ I r h => h _ _ _ _ _ pins s u I r⟩) (fun s H C cl fp => ⟨fun pins s _ _ _ I h => h _ _ _ _ _ pins s I⟩) (hs _) hs1, fun σ H0 L H w en => ?_⟩
  refine hw σ H0 L H w en _ fun J H1 L1 n1 ds s1 w1 ru ⟨as, bs, U, e1, hU, hin, turn, r⟩ D hD => ?_
  subst e1
  obtain ⟨Gd, Y, W, hG, hY⟩ := ru.ex
  rw [k.prog, k.w, k.K]
  have nsD := w1.nsrc hD
  have stay : ∀ {La Ha Lb Hb : Hp}, Step c.src La Ha Lb Hb → La D = none → ∀ {o}, Ha D = some o → Lb D = none ∧ Hb D = some o := fun {La Ha Lb Hb} q l {o} h => stay_at q l h nsD
  -- what stands at D
  let At_ (L' H' : Hp) (ks : List (List Int)) : Prop := ∃ Ls, H' D = some (SetTO G.P G.w D Ls) ∧ (∀ p ∈ Ls, SqT G.K L' p.1 (p.2.map V.int)) ∧ (Ls.map (·.2)).Nodup ∧ ∀ z, z ∈ Ls.map (·.2) ↔ z ∈ ks
  have hlen : (as.map iD).length = as.length := List.length_map ..
  refine ⟨fun i m H' => m = as.length - i ∧ i ≤ as.length ∧ ∃ L', Step c.src L H L' H' ∧ Wl G c.src L' H' n1 ∧ En G c H0 L' H' σ ρ ∧ Same L1 L' ∧ L' D = none ∧ At_ L' H' ((as.take i).flatMap fun a => bs.map (f a)), ⟨_, rfl, Nat.zero_le _, L1, s1.trans (.up _ hD), w1.up _ hD, (en.go s1).go (.up _ hD), fun _ _ z => z, w1.none_of hD, [], upd_same, by simp, by simp, by simp⟩, ?_⟩
  rintro i m Ha ⟨rfl, hi, L', s', w', en', sm, lD, Ls, aD, tD, nd, mem⟩
  have gd := hG Ha (sm.trans w'.sub)
  by_cases hlt : i < as.length
  case neg =>
    have e : i = as.length := by omega
    subst e
    rw [List.take_length] at mem
    refine .inl ⟨by have := W.stops Ha gd; rwa [hlen] at this, ?_⟩
    have h0 : H D = none := s1.live D hD
    have sl : Same L' (upd L' D (SetTO G.P G.w D Ls)) := same_new lD
    refine ⟨.set _, upd L' D (SetTO G.P G.w D Ls), n1, ⟨s'.keep, s'.live, s'.grow.trans sl, fun a l q => ?_⟩, ⟨fun a o q => ?_, fun q eq => ?_, w'.few⟩, ⟨D, Ls, rfl, upd_same, fun p hp => ex_t sl (tD p hp), mem⟩, .no rfl, r⟩
    · by_cases z : a = D
      · rw [z]; exact h0
      · rw [upd_ne z] at q; exact s'.frsh a l q
    · by_cases z : a = D
      · subst z; rw [upd_same] at q; rw [← q]; exact aD
      · rw [upd_ne z] at q; exact w'.sub a o q
    · obtain ⟨q1, sc, nums, cc, r, t, q2, q3, q4⟩ := w'.src q eq
      exact ⟨by rw [upd_ne (fun z => nsD (by rw [← z]; exact eq))]; exact q1, sc, nums, cc, r, t, q2, ex_l sl q3, q4⟩
  have hltd : i < (as.map iD).length := by rw [hlen]; exact hlt
  have ha : as[i] ∈ as := List.getElem_mem _
  refine .inr ⟨W.goes i Ha hltd gd, fun H' => ∃ L', Step c.src L H L' H' ∧ Wl G c.src L' H' n1 ∧ En G c H0 L' H' σ ρ ∧ Same L1 L' ∧ L' D = none ∧ At_ L' H' ((as.take (i + 1)).flatMap fun a => bs.map (f a)), fun H' q => ⟨_, by omega, rfl, hlt, q⟩, fun x Hb y => ?_⟩
  obtain ⟨L2, d, a1, a2, a3, a4, a5, a6⟩ := hY i Ha x Hb L' sm w'.sub hltd (W.yields i Ha x Hb hltd gd y)
  rw [List.getElem?_map, List.getElem?_eq_getElem hlt] at a5
  have ed : iD as[i] = d := Option.some.inj a5
  subst ed
  have st := Step.of (src := c.src) a1 a2 a4
  have w2 : Wl G c.src L2 Hb n1 := w'.go a1 a2 a3 a4
  have b2 := stay st lD aD
  intro sx HX C cl fp pins s u Iv rr
  refine wpAny_mono (turn as[i] ha _ (k.blk scope sx HX C cl fp) H0 L2 Hb _ x w2.sub a6 ((en'.go st).blk hv) pins s u Iv rr) (fun _ sh ⟨σ2, H2, I2, e1, ew, ρ2, en2, hno, q⟩ => ?_) fun _ _ z => z
  subst e1
  refine ⟨σ2, H2, I2, by rw [ew, wipe_idem], ?_⟩
  intro sx HX C cl fp pins s Iv
  obtain ⟨wi1, pi1, hw1⟩ := q _ (k.blk scope sx HX C cl fp)
  refine pi1.run pins s σ2 H2 _ Iv (hw1 σ2 H0 L2 H2 w2 en2 _ fun J1 H4 L4 n4 es s4 w4 ru4 ⟨en4, ees, turn1⟩ => ?_)
  subst en4 ees
  obtain ⟨Gd1, Y1, W1, hG1, hY1⟩ := ru4.ex
  have b4 := stay s4 b2.1 b2.2
  have hlen1 : (bs.map iD).length = bs.length := List.length_map ..
  have t4 := ((s'.trans st).trans s4)
  refine ⟨fun j m H' => m = bs.length - j ∧ j ≤ bs.length ∧ ∃ L', Step c.src L H L' H' ∧ Wl G c.src L' H' n4 ∧ En G c H0 L' H' σ ρ ∧ En G (c.blk scope) H0 L' H' σ2 ρ2 ∧ Same L1 L' ∧ Same L4 L' ∧ L' D = none ∧ At_ L' H' (((as.take i).flatMap fun a => bs.map (f a)) ++ (bs.take j).map (f as[i])),
    ⟨_, rfl, Nat.zero_le _, L4, t4, w4, (en'.go st).go s4, en2.go s4, sm.trans (a2.trans s4.grow), fun _ _ z => z, b4.1, Ls, b4.2, fun p hp => ex_t (a2.trans s4.grow) (tD p hp), nd, fun z => by rw [List.take_zero, List.map_nil, List.append_nil]; exact mem z⟩, ?_⟩
  rintro j m Hc ⟨rfl, hj, L5, s5, w5, en5, enb5, sm5, sm45, lD5, Ls5, aD5, tD5, nd5, mem5⟩
  have gd1 := hG1 Hc (sm45.trans w5.sub)
  by_cases hltj : j < bs.length
  case neg =>
    have e : j = bs.length := by omega
    subst e
    refine .inl ⟨by have := W1.stops Hc gd1; rwa [hlen1] at this, L5, s5, w5, en5, sm5, lD5, Ls5, aD5, tD5, nd5, fun z => ?_⟩
    rw [mem5 z, List.take_length, List.take_add_one, List.getElem?_eq_getElem hlt, List.flatMap_append]
    simp
  have hltjd : j < (bs.map iD).length := by rw [hlen1]; exact hltj
  have hb : bs[j] ∈ bs := List.getElem_mem _
  refine .inr ⟨W1.goes j Hc hltjd gd1, fun H' => ∃ L', Step c.src L H L' H' ∧ Wl G c.src L' H' n4 ∧ En G c H0 L' H' σ ρ ∧ En G (c.blk scope) H0 L' H' σ2 ρ2 ∧ Same L1 L' ∧ Same L4 L' ∧ L' D = none ∧ At_ L' H' (((as.take i).flatMap fun a => bs.map (f a)) ++ (bs.take (j + 1)).map (f as[i])), fun H' q => ⟨_, by omega, rfl, hltj, q⟩, fun x1 Hd y1 => ?_⟩
  obtain ⟨L6, d1, c1, c2, c3, c4, c5, c6⟩ := hY1 j Hc x1 Hd L5 sm45 w5.sub hltjd (W1.yields j Hc x1 Hd hltjd gd1 y1)
  rw [List.getElem?_map, List.getElem?_eq_getElem hltj] at c5
  have ed1 : iD bs[j] = d1 := Option.some.inj c5
  subst ed1
  have st6 := Step.of (src := c.src) c1 c2 c4
  have w6 : Wl G c.src L6 Hd n4 := w5.go c1 c2 c3 c4
  have b6 := stay st6 lD5 aD5
  intro sx HX C cl fp pins s u Iv rr
  refine wpAny_mono (turn1 bs[j] hb _ (k.blk scope sx HX C cl fp) H0 L6 Hd _ x1 w6.sub c6 ((enb5.go st6).wipe hno) pins s u Iv rr) (fun _ sh ⟨σ3, H3, I3, e1, ew3, ρ3, en3, q3⟩ => ?_) fun _ _ z => z
  subst e1
  refine ⟨σ3, H3, I3, by rw [ew3, wipe_idem], ?_⟩
  intro sx HX C cl fp
  refine ex_wp q3 (k.blk scope sx HX C cl fp) w6 en3 fun v H7 ⟨dy, L7, n7, s7, w7, i7, _, en7, edy⟩ => ?_
  subst en7 edy
  obtain ⟨b, rfl, hbt⟩ := dp_iD i7
  have b7 := stay s7 b6.1 b6.2
  have tD7 : ∀ p ∈ Ls5, SqT G.K L7 p.1 (p.2.map V.int) := fun p hp => ex_t (c2.trans s7.grow) (tD5 p hp)
  have few : Ls5.length ≤ 62 := by
    have q := nodup_len (Ls5.map (·.2)) U nd5 fun z hz => by
      rcases List.mem_append.mp ((mem5 z).mp hz) with h | h
      · obtain ⟨a, ha, hz⟩ := List.mem_flatMap.mp h
        obtain ⟨b, hb, rfl⟩ := List.mem_map.mp hz
        exact hin a (List.mem_of_mem_take ha) b hb
      · obtain ⟨b, hb, rfl⟩ := List.mem_map.mp h
        exact hin _ ha b (List.mem_of_mem_take hb)
    rw [List.length_map] at q
    omega
  refine ⟨Ls5, b, f as[i] bs[j], b7.2, rfl, ex_t w7.sub hbt, fun p hp => ex_t w7.sub (tD7 p hp), by omega, fun L' k1 k2 => ?_⟩
  have so := (s5.trans st6).trans s7
  have nextS : ∀ z, z ∈ ((as.take i).flatMap fun a => bs.map (f a)) ++ (bs.take (j + 1)).map (f as[i]) ↔ z ∈ Ls5.map (·.2) ∨ z = f as[i] bs[j] := fun z => by
    rw [mem5 z, List.take_add_one, List.getElem?_eq_getElem hltj, List.map_append]
    simp only [List.mem_append, Option.toList_some, List.map_cons, List.map_nil, List.mem_singleton, or_assoc]
  refine ⟨L7, so.wrote (s1.live D hD) b7.2, w7.wrote b7.1 nsD, (en5.go (st6.trans s7)).ext b7.2, (enb5.go (st6.trans s7)).ext b7.2, sm5.trans (c2.trans s7.grow), sm45.trans (c2.trans s7.grow), b7.1, L', upd_same, ?_⟩
  by_cases hm : f as[i] bs[j] ∈ Ls5.map (·.2)
  · rw [k1 hm]
    refine ⟨tD7, nd5, fun z => ?_⟩
    rw [nextS z]
    exact ⟨.inl, fun o => o.elim id fun e => by rw [e]; exact hm⟩
  · have pm := k2 hm
    refine ⟨fun p hp => ?_, ?_, fun z => ?_⟩
    · rcases List.mem_cons.mp (pm.mem_iff.mp hp) with z | z
      · rw [z]; exact hbt
      · exact tD7 p z
    · rw [(pm.map (·.2)).nodup_iff, List.map_cons, List.nodup_cons]
      exact ⟨hm, nd5⟩
    · rw [nextS z, (pm.map (·.2)).mem_iff, List.map_cons, List.mem_cons]
      exact Or.comm
end
end DL
/-! The data level: set(..), sorted(..) of tuples of ints; the one sorted list of a set's keys. -/
namespace DL
open PySem PySem.Spec L2 HS

/-! ### one list of a set's keys -/
def ddp : List (List Int) → List (List Int)
  | [] => []
  | x :: r => if x ∈ r then ddp r else x :: ddp r
def can (ks : List (List Int)) : List (List Int) := srt (ddp ks)
theorem mem_ddp {x : List Int} : ∀ {l : List (List Int)}, x ∈ ddp l ↔ x ∈ l
  | [] => Iff.rfl
  | y :: r => by
    unfold ddp
    split
    · rename_i h
      rw [mem_ddp, List.mem_cons]
      exact ⟨.inr, fun o => o.elim (fun e => by rw [e]; exact h) id⟩
    · rw [List.mem_cons, List.mem_cons, mem_ddp]
theorem nodup_ddp : ∀ (l : List (List Int)), (ddp l).Nodup
  | [] => List.Pairwise.nil
  | y :: r => by
    unfold ddp
    split
    · exact nodup_ddp r
    · rename_i h
      exact List.nodup_cons.mpr ⟨fun m => h (mem_ddp.mp m), nodup_ddp r⟩
theorem le_iff {a b : List Int} : le a b = true ↔ a ≤ b := by unfold le; exact decide_eq_true_iff
theorem srt_perm (l : List (List Int)) : (srt l).Perm l := List.mergeSort_perm l le
theorem srt_asc (l : List (List Int)) : (srt l).Pairwise (fun a b => a ≤ b) :=
  (List.pairwise_mergeSort (le := le) (fun a b c h1 h2 => le_iff.mpr (List.le_trans (le_iff.mp h1) (le_iff.mp h2))) (fun a b => by
    rw [Bool.or_eq_true, le_iff, le_iff]; exact List.le_total a b) l).imp fun {a b} h => le_iff.mp h
theorem asc_one {a b : List (List Int)} (h1 : a.Pairwise (fun x y => x ≤ y)) (h2 : b.Pairwise (fun x y => x ≤ y)) (p : a.Perm b) : a = b :=
  List.Perm.eq_of_pairwise (le := fun x y : List Int => x ≤ y) (fun x y _ _ u v => List.le_antisymm u v) h1 h2 p
theorem mem_can {x : List Int} {l : List (List Int)} : x ∈ can l ↔ x ∈ l := by unfold can; rw [(srt_perm _).mem_iff, mem_ddp]
theorem nodup_can (l : List (List Int)) : (can l).Nodup := (srt_perm _).nodup_iff.mpr (nodup_ddp l)
theorem asc_can (l : List (List Int)) : (can l).Pairwise (fun x y => x < y) := by
  have h := srt_asc (ddp l)
  have n := nodup_can l
  refine (h.and n).imp fun {a b} ⟨u, v⟩ => ?_
  by_cases q : a < b
  · exact q
  · exact absurd (List.le_antisymm u (List.not_lt.mp q)) v
theorem perm_mem {a b : List (List Int)} (h1 : a.Nodup) (h2 : b.Nodup) (m : ∀ x, x ∈ a ↔ x ∈ b) : a.Perm b := (List.perm_ext_iff_of_nodup h1 h2).mpr m
theorem srt_can {ks l : List (List Int)} (h : ks.Nodup) (m : ∀ x, x ∈ ks ↔ x ∈ l) : srt ks = can l :=
  asc_one (srt_asc _) (srt_asc _) (((srt_perm _).trans (perm_mem h (nodup_ddp l) fun x => by rw [m, mem_ddp])).trans (srt_perm _).symm)
theorem asc_le {a : List (List Int)} (h : a.Pairwise (fun x y => x < y)) : a.Pairwise (fun x y => x ≤ y) := h.imp fun {x y} q => by
  rcases List.le_total x y with z | z
  · exact z
  · exact absurd q (List.not_lt.mpr z)
theorem asc_nodup {a : List (List Int)} (h : a.Pairwise (fun x y => x < y)) : a.Nodup := h.imp fun {x y} q e => by subst e; exact List.lt_irrefl _ q
theorem can_of {a l : List (List Int)} (h : a.Pairwise (fun x y => x < y)) (m : ∀ x, x ∈ a ↔ x ∈ l) : can l = a :=
  asc_one (srt_asc _) (asc_le h) ((srt_perm _).trans (perm_mem (nodup_ddp l) (asc_nodup h) fun x => by rw [mem_ddp, m]))
theorem can_self {a : List (List Int)} (h : a.Pairwise (fun x y => x < y)) : can a = a := can_of h fun _ => Iff.rfl
theorem can_ext {a b : List (List Int)} (m : ∀ x, x ∈ a ↔ x ∈ b) : can a = can b := (can_of (asc_can b) fun x => by rw [mem_can, m])
theorem srt_self {a : List (List Int)} (h : a.Pairwise (fun x y => x ≤ y)) : srt a = a := asc_one (srt_asc _) h (srt_perm _)
theorem can_len (l : List (List Int)) : (can l).length ≤ l.length := nodup_len _ _ (nodup_can l) fun x h => mem_can.mp h

/-! ### the built-ins -/
section
variable {G : Wd} {c : Cxt} {n : Nat} {R : D → Nat → Prop}
theorem dps_iD {K : PySem.W.Frag} {H : Hp} : ∀ {ks : List (List Int)} {vs : List V}, DpAll K H vs (ks.map iD) → ∃ as : List Addr, vs = as.map V.ref ∧ Paired (fun a k => SqT K H a (k.map V.int)) as ks
  | [], _, .nil => ⟨[], rfl, .nil⟩
  | k :: ks, _, .cons h r => by
    obtain ⟨a, rfl, ha⟩ := dp_iD h
    obtain ⟨as, rfl, q⟩ := dps_iD r
    exact ⟨a :: as, rfl, .cons ha q⟩
theorem iD_dps {K : PySem.W.Frag} {H : Hp} : ∀ {ks : List (List Int)} {as : List Addr}, Paired (fun a k => SqT K H a (k.map V.int)) as ks → DpAll K H (as.map V.ref) (ks.map iD)
  | [], _, .nil => .nil
  | k :: ks, _, .cons h r => .cons (iD_dp h) (iD_dps r)
theorem zipP : ∀ {as : List Addr} {ks : List (List Int)} {F : Addr → List Int → Prop}, Paired F as ks → ∃ ps : List (Addr × List Int), as = ps.map (·.1) ∧ ks = ps.map (·.2) ∧ ∀ p ∈ ps, F p.1 p.2
  | _, _, _, .nil => ⟨[], rfl, rfl, fun p h => nomatch h⟩
  | _, _, _, .cons (a := a) (b := k) h r => by
    obtain ⟨ps, e1, e2, q⟩ := zipP r
    exact ⟨(a, k) :: ps, by rw [e1]; rfl, by rw [e2]; rfl, fun p hp => (List.mem_cons.mp hp).elim (fun e => by rw [e]; exact h) (q p)⟩
theorem b_set {ks : List (List Int)} {d : Dat} (hd : d = .list (ks.map iD) ∨ d = .tuple (ks.map iD)) (hz : ks.length < 64) (r : R (.set ks) n) : CB G c (.type "set") [.dat d] n R := fun X k => ⟨_, cr_set k.calm (by have := k.units; omega), fun L H vs w i => by
  obtain ⟨v, rfl, j⟩ := all1 i
  have go : ∀ {l : Addr} {ys : List V}, DpAll G.K L ys (ks.map iD) → (SqL X.K H l ys ∨ SqT X.K H l ys) → rSetLT X.K X.prog X.w [.ref l] H (EV G c.src L H R) := fun {l ys} hr h1 => by
    obtain ⟨as, rfl, q⟩ := dps_iD hr
    obtain ⟨ps, rfl, rfl, hp⟩ := zipP q
    rw [List.map_map] at h1
    refine ⟨l, ps, rfl, h1, fun p hp2 => by rw [k.K]; exact ex_t w.sub (hp p hp2), by simpa using hz, fun a Ls ha h2 h3 => ?_⟩
    rw [k.prog, k.w]
    refine ⟨.set (ps.map (·.2)), upd L a (SetTO G.P G.w a Ls), n, .newB w _ ha, w.both _ ha, ⟨a, Ls, rfl, upd_same, fun p hp2 => ex_t (same_new (w.none_of ha)) (hp p (h2 p hp2)), fun z => ⟨fun m => ?_, fun m => ?_⟩⟩, .no rfl, r⟩
    · obtain ⟨p, hp, rfl⟩ := List.mem_map.mp m
      exact List.mem_map.mpr ⟨p, h2 p hp, rfl⟩
    · obtain ⟨p, hp, rfl⟩ := List.mem_map.mp m
      exact h3 p hp
  rcases hd with rfl | rfl
  · obtain ⟨l, ys, rfl, h1, hr⟩ := dp_lst j
    exact go hr (.inl (by rw [k.K]; exact ex_l w.sub h1))
  · obtain ⟨l, ys, rfl, h1, hr⟩ := dp_tup j
    exact go hr (.inr (by rw [k.K]; exact ex_t w.sub h1))⟩
theorem b_srtS {ks : List (List Int)} (hne : ∀ k ∈ ks, k ≠ []) (r : R (dL ((can ks).map iD)) n) : CB G c (.builtin "sorted") [.set ks] n R := fun X k => ⟨_, cr_srtS k.calm (by have := k.units; omega), fun L H vs w i => by
  obtain ⟨v, rfl, a, Ls, rfl, h1, h2, h3⟩ := all1 i
  refine ⟨fun a z => SqT G.K L a (z.map V.int), a, Ls, rfl, by rw [k.prog, k.w]; exact w.sub _ _ h1, h2, fun p hp => by rw [k.K]; exact ex_t w.sub (h2 p hp), fun p hp => hne _ ((h3 _).mp (List.mem_map.mpr ⟨p, hp, rfl⟩)), fun ks' bs p hp nd few mem pr => ?_⟩
  rw [srt_can (l := ks) nd fun x => by rw [mem x, h3 x]] at pr
  exact ev_lst w hp (iD_dps pr) r⟩
theorem b_srtL {ks : List (List Int)} (hne : ∀ k ∈ ks, k ≠ []) (hz : ks.length ≤ 1000) (r : R (dL ((srt ks).map iD)) n) : CB G c (.builtin "sorted") [dL (ks.map iD)] n R := fun X k => ⟨_, cr_srtL (by have := k.units; omega), fun L H vs w i => by
  obtain ⟨v, rfl, j⟩ := all1 i
  obtain ⟨l, ys, rfl, h1, hr⟩ := dp_lst j
  obtain ⟨as, rfl, q⟩ := dps_iD hr
  exact ⟨fun a z => SqT G.K L a (z.map V.int), l, as, ks, rfl, by rw [k.K]; exact ex_l w.sub h1, q, fun a z h => by rw [k.K]; exact ex_t w.sub h, hne, hz, fun bs p hp pr => ev_lst w hp (iD_dps pr) r⟩⟩
end
end DL
/-! The data level: {k: True for k in t}. -/
namespace DL
open PySem PySem.Spec L2 HS
section
variable {G : Wd} {c : Cxt} {ρ : Rho} {n : Nat} {R : D → Nat → Prop} {kx tg iter : Expr} {scope : Scope} {pos vp : Pos} {vj : Nat}
theorem ex_dcT (own : List (Str × Nat)) (vis : List Bool) (hok : blkC c.N c.sc scope own = true) (hv : visOk c.N (relS scope c.sc) own vis = true)
    (h : IX G c tg iter ρ n fun ds n1 => ∃ ks : List (List Int), ds = ks.map iD ∧ ks.length ≤ 1000 ∧ (∀ k ∈ ks, BX G (c.blk scope) (own.map (·.2)) tg (iD k) (maskR vis ρ) fun ρ2 => EX G (c.blk scope) kx ρ2 n1 fun d n2 => n2 = n1 ∧ d = .dat (iD k)) ∧ R (.keys ks) n1)
    (hs : ∀ env x, foldedSetIterable iter env x = pure x := by intro _ _; rfl) : EX G c (.DictComp kx (.Constant (.bool true) vj vp) [⟨tg, iter, [], 0⟩] scope pos) ρ n R := ex_pe fun X k => by
  obtain ⟨wi, pi, hw⟩ := h X k
  refine ⟨_, pe_dcT (g := blkG X scope tg) (tk := blkE X scope kx) (tv := tC (.bl true)) (by have := k.units; omega) k.calm k.nd pi (by rw [k.N, k.sc]; exact blkOk_by hok)
    (fun s H C cl fp => ⟨fun pins s _ _ _ u _ I r h => h _ _ _ _ _ pins s u I r⟩) (fun s H C cl fp => ⟨fun pins s _ _ _ I h => h _ _ _ _ _ pins s I⟩) (fun s H C cl fp => pe_bl) (hs _), fun σ H0 L H w en => ?_⟩
  refine hw σ H0 L H w en _ fun J H1 L1 n1 ds s1 w1 ru ⟨ks, e1, hz, turn, r⟩ D hD => ?_
  subst e1
  obtain ⟨Gd, Y, W, hG, hY⟩ := ru.ex
  rw [k.prog, k.w, k.K]
  have nsD := w1.nsrc hD
  have stay : ∀ {La Ha Lb Hb : Hp}, Step c.src La Ha Lb Hb → La D = none → ∀ {o}, Ha D = some o → Lb D = none ∧ Hb D = some o := fun {La Ha Lb Hb} q l {o} h => stay_at q l h nsD
  let At_ (L' H' : Hp) (zs : List (List Int)) : Prop := ∃ Ls, H' D = some (KeyO G.P G.w D Ls) ∧ (∀ p ∈ Ls, SqT G.K L' p.1 (p.2.map V.int)) ∧ Ls.length ≤ zs.length ∧ ∀ z, z ∈ Ls.map (·.2) ↔ z ∈ zs
  have hlen : (ks.map iD).length = ks.length := List.length_map ..
  refine ⟨fun i m H' => m = ks.length - i ∧ i ≤ ks.length ∧ ∃ L', Step c.src L H L' H' ∧ Wl G c.src L' H' n1 ∧ En G c H0 L' H' σ ρ ∧ Same L1 L' ∧ L' D = none ∧ At_ L' H' (ks.take i), ⟨_, rfl, Nat.zero_le _, L1, s1.trans (.up _ hD), w1.up _ hD, (en.go s1).go (.up _ hD), fun _ _ z => z, w1.none_of hD, [], upd_same, by simp, by simp, by simp⟩, ?_⟩
  rintro i m Ha ⟨rfl, hi, L', s', w', en', sm, lD, Ls, aD, tD, zD, mem⟩
  have gd := hG Ha (sm.trans w'.sub)
  by_cases hlt : i < ks.length
  case neg =>
    have e : i = ks.length := by omega
    subst e
    rw [List.take_length] at mem
    refine .inl ⟨by have := W.stops Ha gd; rwa [hlen] at this, ?_⟩
    have h0 : H D = none := s1.live D hD
    have sl : Same L' (upd L' D (KeyO G.P G.w D Ls)) := same_new lD
    refine ⟨.keys _, upd L' D (KeyO G.P G.w D Ls), n1, ⟨s'.keep, s'.live, s'.grow.trans sl, fun a l q => ?_⟩, ⟨fun a o q => ?_, fun q eq => ?_, w'.few⟩, ⟨D, Ls, rfl, upd_same, fun p hp => ex_t sl (tD p hp), mem⟩, .no rfl, r⟩
    · by_cases z : a = D
      · rw [z]; exact h0
      · rw [upd_ne z] at q; exact s'.frsh a l q
    · by_cases z : a = D
      · subst z; rw [upd_same] at q; rw [← q]; exact aD
      · rw [upd_ne z] at q; exact w'.sub a o q
    · obtain ⟨q1, sc, nums, cc, r, t, q2, q3, q4⟩ := w'.src q eq
      exact ⟨by rw [upd_ne (fun z => nsD (by rw [← z]; exact eq))]; exact q1, sc, nums, cc, r, t, q2, ex_l sl q3, q4⟩
  have hltd : i < (ks.map iD).length := by rw [hlen]; exact hlt
  have ha : ks[i] ∈ ks := List.getElem_mem _
  refine .inr ⟨W.goes i Ha hltd gd, fun H' => ∃ L', Step c.src L H L' H' ∧ Wl G c.src L' H' n1 ∧ En G c H0 L' H' σ ρ ∧ Same L1 L' ∧ L' D = none ∧ At_ L' H' (ks.take (i + 1)), fun H' q => ⟨_, by omega, rfl, hlt, q⟩, fun x Hb y => ?_⟩
  obtain ⟨L2, d, a1, a2, a3, a4, a5, a6⟩ := hY i Ha x Hb L' sm w'.sub hltd (W.yields i Ha x Hb hltd gd y)
  rw [List.getElem?_map, List.getElem?_eq_getElem hlt] at a5
  have ed : iD ks[i] = d := Option.some.inj a5
  subst ed
  have st := Step.of (src := c.src) a1 a2 a4
  have w2 : Wl G c.src L2 Hb n1 := w'.go a1 a2 a3 a4
  have b2 := stay st lD aD
  intro sx HX C cl fp pins s u Iv rr
  refine wpAny_mono (turn ks[i] ha _ (k.blk scope sx HX C cl fp) H0 L2 Hb _ x w2.sub a6 ((en'.go st).blk hv) pins s u Iv rr) (fun _ sh ⟨σ2, H2, I2, e1, ew, ρ2, en2, q⟩ => ?_) fun _ _ z => z
  subst e1
  refine ⟨σ2, H2, I2, by rw [ew, wipe_idem], ?_⟩
  intro sx HX C cl fp
  refine ex_wp q (k.blk scope sx HX C cl fp) w2 en2 fun v H3 ⟨dy, L3, n3, s3, w3, i3, _, en3, edy⟩ => ?_
  subst en3 edy
  obtain ⟨b, rfl, hbt⟩ := dp_iD i3
  have b3 := stay s3 b2.1 b2.2
  have tD3 : ∀ p ∈ Ls, SqT G.K L3 p.1 (p.2.map V.int) := fun p hp => ex_t (a2.trans s3.grow) (tD p hp)
  have zt : (ks.take i).length ≤ 1000 := by rw [List.length_take]; omega
  have lens : (ks.take (i + 1)).length = (ks.take i).length + 1 := by rw [List.take_add_one, List.getElem?_eq_getElem hlt, List.length_append] <;> rfl
  have nextS : ∀ z, z ∈ ks.take (i + 1) ↔ z ∈ Ls.map (·.2) ∨ z = ks[i] := fun z => by
    rw [mem z, List.take_add_one, List.getElem?_eq_getElem hlt, List.mem_append]
    simp
  refine ⟨Ls, b, ks[i], rfl, rfl, b3.2, ex_t w3.sub hbt, fun p hp => ex_t w3.sub (tD3 p hp), by omega, fun L4 k1 k2 => ?_⟩
  have so := (s'.trans st).trans s3
  refine ⟨L3, so.wrote (s1.live D hD) b3.2, w3.wrote b3.1 nsD, (en'.go (st.trans s3)).ext b3.2, sm.trans (a2.trans s3.grow), b3.1, L4, upd_same, ?_⟩
  by_cases hm : ks[i] ∈ Ls.map (·.2)
  · rw [k1 hm]
    refine ⟨tD3, by omega, fun z => ?_⟩
    rw [nextS z]
    exact ⟨.inl, fun o => o.elim id fun e => by rw [e]; exact hm⟩
  · rw [k2 hm]
    refine ⟨fun p hp => ?_, by rw [List.length_append, List.length_singleton]; omega, fun z => ?_⟩
    · rcases List.mem_append.mp hp with z | z
      · exact tD3 p z
      · rw [List.mem_singleton.mp z]; exact hbt
    · rw [nextS z, List.map_append, List.mem_append]
      simp
end
end DL
/-! dict([(k, True), ..]) with keys that are tuples of ints. -/
namespace HS
open PySem PySem.Spec PyProof.Rows L2 MeetsSeq
theorem stored_step (Ls : List (Addr × List Int)) (q : Addr × List Int) : ∃ L' : List (Addr × List Int), storedH (Ls.map entB) q.2 q.1 (.bool true) = L'.map entB ∧ (∀ x ∈ L', x ∈ Ls ∨ x = q) ∧ ∀ k, k ∈ L'.map (·.2) ↔ k ∈ Ls.map (·.2) ∨ k = q.2 := by
  by_cases h : q.2 ∈ Ls.map (·.2)
  · exact ⟨Ls, stored_same h, fun x hx => .inl hx, fun k => ⟨.inl, fun o => o.elim id fun e => by rw [e]; exact h⟩⟩
  · refine ⟨Ls ++ [(q.1, q.2)], stored_more h, fun x hx => ?_, fun k => ?_⟩
    · rcases List.mem_append.mp hx with z | z
      · exact .inl z
      · exact .inr (List.mem_singleton.mp z)
    · rw [List.map_append, List.mem_append]; simp
theorem stored_all : ∀ (qs Ls : List (Addr × List Int)), ∃ L' : List (Addr × List Int), storedAllH (Ls.map entB) (qs.map entB) = L'.map entB ∧ (∀ x ∈ L', x ∈ Ls ∨ x ∈ qs) ∧ ∀ k, k ∈ L'.map (·.2) ↔ k ∈ Ls.map (·.2) ∨ k ∈ qs.map (·.2)
  | [], Ls => ⟨Ls, rfl, fun x hx => .inl hx, fun k => ⟨.inl, fun o => o.elim id fun z => nomatch z⟩⟩
  | q :: qs, Ls => by
    obtain ⟨L1, e1, a1, b1⟩ := stored_step Ls q
    obtain ⟨L2, e2, a2, b2⟩ := stored_all qs L1
    refine ⟨L2, ?_, fun x hx => ?_, fun k => ?_⟩
    · show storedAllH (storedH (Ls.map entB) q.2 q.1 (.bool true)) (qs.map entB) = _
      rw [e1, e2]
    · rcases a2 x hx with z | z
      · rcases a1 x z with z | z
        · exact .inl z
        · exact .inr (by rw [z]; exact List.mem_cons_self)
      · exact .inr (List.mem_cons_of_mem _ z)
    · rw [b2, b1, List.map_cons, List.mem_cons, or_assoc]
section
variable {X : Cx}
def rDictP (K : PySem.W.Frag) (P : Program) (w : World) : List V → Hp → VK → Prop := fun vs H Q => ∃ (a : Addr) (ps : List (Addr × Addr × List Int)), vs = [V.ref a] ∧ SqL K H a (ps.map fun p => V.ref p.1) ∧ (∀ p ∈ ps, SqT K H p.1 [.ref p.2.1, .bl true] ∧ SqT K H p.2.1 (p.2.2.map V.int)) ∧ ps.length ≤ 1000 ∧
  ∀ D Ls, H D = none → (∀ q ∈ Ls, q ∈ ps.map (·.2)) → (∀ k, k ∈ Ls.map (·.2) ↔ k ∈ (ps.map (·.2)).map (·.2)) → Q (.ref D) (upd H D (KeyO P w D Ls))
theorem cr_dictP (hc : X.calm = true) (hu : X.A.units + 64 < cLine) : CallR X (.type "dict") (rDictP X.K X.prog X.w) := fun pins s σ H vs us Q I r h => by
  obtain ⟨a, ps, rfl, hl, hp, hz, q⟩ := h
  rw [Vals.ref1 r]
  obtain ⟨its, n, o, rv, ho, hcl, hdi, hda, _⟩ := DL.Inv.listO I hl
  have eits : its = ps.map fun p => Value.ref p.1 := refs_of_vals (ks := ps.map fun p => (p.1, p.2.2)) (by rw [List.map_map]; exact rv) |>.trans (by rw [List.map_map]; rfl)
  let qs : List (Value × Value) := ps.map fun p => (Value.ref p.2.1, Value.bool true)
  let Ts : Nat → Addr := fun j => ((ps[j]?).map (·.1)).getD 0
  have hlen : qs.length = ps.length := List.length_map ..
  have pi : PairItems s.heap its.toArray Ts qs := by
    refine ⟨by rw [hlen, eits]; simp, fun j k v hj => ?_⟩
    show its.toArray[j]? = some (.ref (Ts j)) ∧ PairAt s.heap (Ts j) k v
    have hj2 : (ps[j]?).map (fun p => (Value.ref p.2.1, Value.bool true)) = some (k, v) := by rw [← List.getElem?_map]; exact hj
    cases e : ps[j]? with
    | none => rw [e] at hj2; cases hj2
    | some p =>
      rw [e] at hj2
      cases hj2
      have eT : Ts j = p.1 := by show ((ps[j]?).map (·.1)).getD 0 = p.1; rw [e] <;> rfl
      rw [eT]
      refine ⟨by rw [eits]; simp [e], .inl ?_⟩
      obtain ⟨us2, r2, ⟨ob, h1, h2, m, h3⟩, _⟩ := I.tuple (hp p (List.mem_of_getElem? e)).1
      obtain ⟨u1, u2, rfl, ra, rb⟩ := vals2 r2
      cases ra
      cases rb
      exact ⟨ob, h1, h2, m, h3⟩
  have ok : (fun h => PlainSeq "list" h a its.toArray ∧ PairItems h its.toArray Ts qs) s.heap := ⟨⟨o, n, ho, hcl, hdi, hda⟩, pi⟩
  have hn : H s.heap.objs.size = none := I.hok.fresh (Nat.le_refl _)
  obtain ⟨Ls, eL, sub, mem⟩ := stored_all (ps.map (·.2)) []
  refine call_dict_pairsH (knd := TK X.prog X.w) (ps := (ps.map (·.2)).map entB) (PairArg.list a its.toArray Ts qs) (I.ok.hd hc) (by show X.A.units + 1 + 1 < cLine; omega) ok ⟨by simp [hlen], fun i key v hr => ?_⟩ (fun h' hk x hx => ?_) (by rw [hlen]; exact Nat.le_of_lt (small1000 hz)) fun h' tk hd hk => ?_
  · have hr2 : (ps[i]?).map (fun p => (Value.ref p.2.1, Value.bool true)) = some (key, v) := by rw [← List.getElem?_map]; exact hr
    cases e : ps[i]? with
    | none => rw [e] at hr2; cases hr2
    | some p =>
      rw [e] at hr2
      cases hr2
      exact ⟨p.2.2, p.2.1, by simp [e], rfl⟩
  · obtain ⟨y, hy, rfl⟩ := List.mem_map.mp hx
    obtain ⟨p, hpm, rfl⟩ := List.mem_map.mp hy
    exact isT_keep (I.isT (hp p hpm).2) fun c ob e => hk c ob (Nat.ne_of_lt (Heap.lt_size e)) (by simp) e
  · have kp : ∀ b ob, s.heap.get? b = some ob → h'.get? b = some ob := fun b ob e => hk b ob (by simp) e
    rw [show storedAllH [] ((ps.map (·.2)).map entB) = Ls.map entB from eL] at hd
    have hbig := I.big
    refine ⟨.ref s.heap.objs.size, upd H s.heap.objs.size (KeyO X.prog X.w s.heap.objs.size Ls), I.laid (t' := tk) kp (Nat.le_refl _) (keyO_new (.of hd (beq_eq_false_iff_ne.mpr (Ne.symm (Nat.ne_of_lt hbig))))), rfl, q _ Ls hn (fun x hx => (sub x hx).elim (fun z => nomatch z) id) fun k => ?_⟩
    rw [mem k]
    simp
end
end HS
namespace DL
open PySem PySem.Spec L2 HS
section
variable {G : Wd} {c : Cxt} {n : Nat} {R : D → Nat → Prop}
abbrev prD (k : List Int) : Dat := .tuple [iD k, .bool true]
theorem dps_pr {K : PySem.W.Frag} {H : Hp} : ∀ {ks : List (List Int)} {vs : List V}, DpAll K H vs (ks.map prD) → ∃ ps : List (Addr × Addr × List Int), vs = ps.map (fun p => V.ref p.1) ∧ ks = ps.map (·.2.2) ∧ ∀ p ∈ ps, SqT K H p.1 [.ref p.2.1, .bl true] ∧ SqT K H p.2.1 (p.2.2.map V.int)
  | [], _, .nil => ⟨[], rfl, rfl, fun p h => nomatch h⟩
  | k :: ks, _, .cons h r => by
    obtain ⟨a, xs, rfl, h1, h2⟩ := dp_tup h
    cases h2 with
    | cons u h2 =>
      cases h2 with
      | cons v h2 =>
        cases h2
        obtain ⟨b, rfl, hb⟩ := dp_iD u
        obtain rfl := dp_bl v
        obtain ⟨ps, e1, e2, q⟩ := dps_pr r
        exact ⟨(a, b, k) :: ps, by rw [e1]; rfl, by rw [e2]; rfl, fun p hp => (List.mem_cons.mp hp).elim (fun e => by rw [e]; exact ⟨h1, hb⟩) (q p)⟩
theorem b_dictP {ks : List (List Int)} (hz : ks.length ≤ 1000) (r : R (.keys ks) n) : CB G c (.type "dict") [dL (ks.map prD)] n R := fun X k => ⟨_, cr_dictP k.calm (by have := k.units; omega), fun L H vs w i => by
  obtain ⟨v, rfl, j⟩ := all1 i
  obtain ⟨l, ys, rfl, h1, hr⟩ := dp_lst j
  obtain ⟨ps, rfl, rfl, hp⟩ := dps_pr hr
  refine ⟨l, ps, rfl, by rw [k.K]; exact ex_l w.sub h1, fun p hm => by rw [k.K]; exact ⟨ex_t w.sub (hp p hm).1, ex_t w.sub (hp p hm).2⟩, by simpa using hz, fun D Ls hD h2 h3 => ?_⟩
  rw [k.prog, k.w]
  refine ⟨.keys _, upd L D (KeyO G.P G.w D Ls), n, .newB w _ hD, w.both _ hD, ⟨D, Ls, rfl, upd_same, fun q hq => ?_, fun z => by rw [h3 z, List.map_map]; rfl⟩, .no rfl, r⟩
  obtain ⟨p, hm, rfl⟩ := List.mem_map.mp (h2 q hq)
  exact ex_t (same_new (w.none_of hD)) (hp p hm).2⟩
end
end DL
/-! for and if within a generator def's body. -/
namespace GF
open PySem PySem.Spec PyProof.Rows L2
section
variable {X : Cx} {body orelse : List Stmt} {test tg iter : Expr} {pos : Pos}
def tGIf (tc : TT) (tb to : TGn) : TGn := fun D ys σ H => tc σ H fun b H1 => if b = true then tb D ys σ H1 else to D ys σ H1
theorem gs_if {tc : TT} {tb to : TGn} (hc : PT X test tc) (hb : GSs X body tb) (ho : GSs X orelse to) : GS X (.If test body orelse pos) (tGIf tc tb to) := by
  refine ⟨fun A S ip R n ys s₀ c fs K J gd lv s σ H D g hn k hI ht => ?_⟩
  show Seg _ _ _ _ _ _ _ (((do standAt pos; if ← isTrue test X.env (eval test X.env) then execs body X.env else execs orelse X.env) : Sem Flow).wrap K J gd lv) _ _
  refine seg_bind_wrap (wpAny_standAt ?_)
  obtain ⟨acc, cc, r, I⟩ := hI
  refine seg_bind_wrap ?_
  rw [g.over]
  refine wpAny_mono (hc.run _ s σ H _ I ht) (fun b s' ⟨H2, I2, q2⟩ => ?_) fun x s' hx => k.exc n s₀ x s' hx
  cases b with
  | true => exact hb.run A S ip R n ys s₀ c fs K J gd lv s' σ H2 D g hn k ⟨acc, cc, r, I2⟩ q2
  | false => exact ho.run A S ip R n ys s₀ c fs K J gd lv s' σ H2 D g hn k ⟨acc, cc, r, I2⟩ q2

/-! ### for -/
theorem seg_For {A : Around} {R : GenEnd} {Y : Protocol} {n : Nat} {s₀ s : Shared} {c : Code} {fs : List Frame} {env : Env} {K : Flow → Sem PySem.Fin} {J : Value → Sem PySem.Fin} {gd : Bool → Bool} {lv : List Value → List Value} {M : Model}
    (hs : ∀ x, foldedSetIterable iter env x = pure x)
    (h : wpAny M (A.over c fs) (eval iter env) (fun x s₁ => wpAny M (A.over c fs) (pyIter x) (fun it s₂ => ∀ p, Seg M A R Y n s₀ (.forLoop tg it body [] env) (M.den (.forLoop tg it body [] env))
      (.ret (fun r => ((match r with | .ok f => (.pure f : Sem Flow) | .error e => .raise e).onRaise (cameBack env)).wrap K J gd lv) none (gd false) (lv []) c p [] :: fs) s₂) (fun x s' => Seg M A R Y n s₀ c (J x) fs s') s₁) (fun x s' => Seg M A R Y n s₀ c (J x) fs s') s) :
    Seg M A R Y n s₀ c ((exec (.For tg iter body [] pos) env).wrap K J gd lv) fs s := by
  rw [exec_For]
  refine seg_bind_wrap (wpAny_standAt ?_)
  refine seg_bind_wrap (wpAny_mono h (fun x s₁ h₁ => ?_) fun _ _ z => z)
  refine seg_bind_wrap (wpAny_of_eq (hs x) ?_)
  refine seg_bind_wrap (wpAny_standAt ?_)
  refine seg_bind_wrap (wpAny_holding (wpAny_mono h₁ (fun it s₂ h₂ => ?_) fun _ _ z => z))
  exact seg_call h₂
end
section
variable {prog : Program} {w : World} {A : Around} {R : GenEnd} {Y : Protocol} {n : Nat} {s₀ : Shared} {fs : List Frame} {s : Shared} {env : Env} {tg : Expr} {body : List Stmt} {it : Value}
abbrev note (env : Env) (e : Value) : Sem PySem.Fin := (do noteFrame e env; theTreesLotGoes e : Sem Unit).wrap (fun _ => .raise e) .raise id id
abbrev FL (tg : Expr) (it : Value) (body : List Stmt) (env : Env) : Code := .forLoop tg it body [] env
theorem note_eq (e : Value) : (do noteFrame e env; theTreesLotGoes e : Sem Unit).bind (fun _ => (.raise e : Sem PySem.Fin)) = note env e := by rw [Sem.bind_eq_wrap]
theorem seg_forLoop
    (h : wpAny (model prog w) (A.over (FL tg it body env) fs) (pyNext it) (fun r s₁ => match r with
        | none => Seg (model prog w) A R Y n s₀ (.block [] env) (.pure (.done .next)) fs s₁
        | some v => wpAny (model prog w) (A.over (FL tg it body env) fs) (letOwnedTupleGo tg it v) (fun _ s₂ => wpAny (model prog w) (A.over (FL tg it body env) fs) (assign tg env v) (fun _ s₃ =>
            Seg (model prog w) A R Y n s₀ (FL tg it body env) ((execs body env).wrap (fun f => match f with
              | .next | .cont => .pure (.again (FL tg it body env))
              | .brk => .pure (.done .next)
              | .ret v => .pure (.done (.ret v))) (note env) id id) fs s₃) (fun x s' => Seg (model prog w) A R Y n s₀ (FL tg it body env) (note env x) fs s') s₂) (fun x s' => Seg (model prog w) A R Y n s₀ (FL tg it body env) (note env x) fs s') s₁)
      (fun x s' => Seg (model prog w) A R Y n s₀ (FL tg it body env) (note env x) fs s') s) :
    Seg (model prog w) A R Y n s₀ (FL tg it body env) ((model prog w).den (FL tg it body env)) fs s := by
  show Seg _ A R Y n s₀ _ ((forTurn tg it body [] env).onRaise (fun x => do noteFrame x env; theTreesLotGoes x)) fs s
  rw [Sem.onRaise_eq_wrap]
  have en : (fun x => (do noteFrame x env; theTreesLotGoes x : Sem Unit).bind fun _ => (Sem.raise x : Sem PySem.Fin)) = note env := funext fun e => note_eq e
  show Seg _ A R Y n s₀ _ ((forTurn tg it body [] env).wrap .pure (fun x => (do noteFrame x env; theTreesLotGoes x : Sem Unit).bind fun _ => (Sem.raise x : Sem PySem.Fin)) id id) fs s
  rw [en]
  unfold forTurn
  refine seg_bind_wrap (wpAny_standAt ?_)
  refine seg_bind_wrap (wpAny_onRaise (wpAny_mono h (fun r s₁ h₁ => ?_) fun x s' hx => wpAny_standAt hx))
  cases r with
  | none => exact seg_again rfl h₁
  | some v =>
    refine seg_bind_wrap (wpAny_mono h₁ (fun _ s₂ h₂ => ?_) fun _ _ z => z)
    refine seg_bind_wrap (wpAny_mono h₂ (fun _ s₃ h₃ => ?_) fun _ _ z => z)
    rw [Sem.bind_eq_wrap', Sem.wrap_wrap]
    refine Eq.mpr (congrArg (fun t => Seg (model prog w) A R Y n s₀ (FL tg it body env) t fs s₃) ?_) h₃
    exact Sem.wrap_congr (execs body env) _ _ (fun f => by cases f <;> rfl) (fun e => rfl)
end
section
variable {X : Cx} {body : List Stmt} {tg iter : Expr} {pos : Pos}
/-- a for: what is out so far goes along -/
def tGFor (wi : TI) (g : TG) (tb : TGn) : TGn := fun D ys σ H => wi σ H fun J H1 => ∃ W : Nat → Nat → List V → L2.St → Hp → Prop, (∃ m, W 0 m ys σ H1) ∧ ∀ i m ys σ H, W i m ys σ H →
  (J.stop i H ∧ D.nx ys σ H) ∨ (J.go i H ∧ ∃ N : List V → L2.St → Hp → Prop, (∀ ys' σ' H', N ys' σ' H' → ∃ m', m' < m ∧ W (i + 1) m' ys' σ' H') ∧ ∀ x H', J.yld i H x H' → g x σ H' fun σ2 H2 => tb { D with nx := N, ct := N, bk := D.nx } ys σ2 H2)
theorem gs_for {wi : TI} {g : TG} {tb : TGn} (hp : PassesOwn (model X.prog X.w) X.A X.env X.xe) (hc : X.calm = true) (hi : PI X tg iter wi) (hg : PG X tg g) (hb : GSs X body tb)
    (hs : ∀ x, foldedSetIterable iter X.env x = pure x := by intro _; rfl) : GS X (.For tg iter body [] pos) (tGFor wi g tb) := by
  refine ⟨fun A S ip R n ys s₀ c fs K J gd lv s σ H D gc hn k hI ht => ?_⟩
  obtain ⟨acc0, cc0, r0, I0⟩ := hI
  refine seg_For hs ?_
  rw [gc.over]
  refine wpAny_mono (hi.run _ s σ H _ I0 ht) (fun v s1 h1 => wpAny_mono h1 (fun itv s2 h2 => ?_) fun x s' hx => k.exc n s₀ x s' hx) fun x s' hx => k.exc n s₀ x s' hx
  obtain ⟨it, fp, tn, J2, H2, e, I2, T, st2, f2, W, ⟨m0, w0⟩, turn⟩ := h2
  subst e
  intro p
  have gl := fun (kk : Result → Sem PySem.Fin) => gc_loop (k := kk) (c' := FL tg (.ref it) body X.env) (l := lv []) (kp := []) (p := p) gc rfl rfl
  have stat : ∀ {H' : Hp} {acc : Array Value} {cc : Nat}, (∀ b ∈ fp, H' b = none) → ∀ b ∈ fp, FpOk X ((S, lstObj acc cc) :: ip) H' b := fun {H' acc cc} hn b hb => by
    obtain ⟨_, f1, f3, f4, f5, f6⟩ := f2 b hb
    refine ⟨hn b hb, f1, f3, f4, f5, fun q hq => ?_⟩
    rcases List.mem_append.mp hq with z | z
    · exact f6 q (List.mem_append_left _ z)
    · rcases List.mem_cons.mp z with z | z
      · rw [z]; exact f6 (S, lstObj acc0 cc0) (List.mem_append_right _ List.mem_cons_self)
      · exact f6 q (List.mem_append_right _ (List.mem_cons_of_mem _ z))
  have loop : ∀ (m i n : Nat) (ys : List V) (s₀ s : Shared) (σ : L2.St) (H : Hp), n + ys.length = sizeLine → W i m ys σ H → GI X S ip ys σ H s → tn i s.heap → (∀ b ∈ fp, H b = none) →
      Seg (model X.prog X.w) A R (GY X S) n s₀ (FL tg (.ref it) body X.env) ((model X.prog X.w).den (FL tg (.ref it) body X.env))
        (.ret (fun r => ((match r with | .ok f => (.pure f : Sem Flow) | .error e => .raise e).onRaise (cameBack X.env)).wrap K J gd lv) none (gd false) (lv []) c p [] :: fs) s := by
    intro m
    induction m using Nat.strongRecOn with
    | ind m ih =>
      intro i n ys s₀ s σ H hn w hI st fr
      have ee : ∀ (n : Nat) (s₀ : Shared) (x : Value) (s' : Shared), X.xe x s' → Seg (model X.prog X.w) A R (GY X S) n s₀ (FL tg (.ref it) body X.env) (note X.env x)
          (.ret (fun r => ((match r with | .ok f => (.pure f : Sem Flow) | .error e => .raise e).onRaise (cameBack X.env)).wrap K J gd lv) none (gd false) (lv []) c p [] :: fs) s' := fun n s₀ x s' hx => by
        refine seg_wrap ?_
        rw [(gl _).over]
        refine wpAny_bind (wpAny_mono (hp x s' hx) (fun _ s'' hcb => wpAny_theTreesLotGoes ?_) fun y s'' hcb => ?_)
        · exact seg_leaf (.error x) (seg_cameBack gc k hcb)
        · exact seg_leaf (.error y) (seg_cameBack gc k hcb)
      obtain ⟨acc, cc, r, I⟩ := hI
      refine seg_forLoop ?_
      rw [(gl _).over]
      rcases turn i m ys σ H w with ⟨stop, qn⟩ | ⟨go, N, hN, step⟩
      · refine wpAny_mono (T.done X rfl rfl rfl hc i _ s σ H X.xe I (stat fr) st stop) (fun r2 s4 ⟨hr, I4⟩ => ?_) fun x s' hx => ee n s₀ x s' hx
        subst hr
        exact seg_leaf (.ok .next) (k.ok n ys s₀ s4 .next hn ⟨σ, H, ⟨acc, cc, r, I4⟩, qn⟩)
      · refine wpAny_mono (T.item X rfl rfl rfl hc i _ s σ H X.xe I (stat fr) st go) (fun r2 s4 ⟨u, hr, h4⟩ => ?_) fun x s' hx => ee n s₀ x s' hx
        subst hr
        refine wpAny_mono h4 (fun _ s5 ⟨x, H5, I5, r5, y5, st5, fr5⟩ => ?_) fun x s' hx => ee n s₀ x s' hx
        have I5' := I5.pinned (stat fr5) (T.obj _ _ st5)
        refine wpAny_mono (hg.run _ s5 σ H5 x u _ I5' r5 (step x H5 y5)) (fun _ s6 ⟨σ6, H6, I6, q6⟩ => ?_) fun x s' hx => ee n s₀ x s' hx
        have ipS : ∀ q ∈ ip ++ pinsAt fp s5.heap, q.1 ≠ S := fun q hq => by
          rcases List.mem_append.mp hq with z | z
          · exact gc.ip q z
          · exact fun e => (stat (acc := acc) (cc := cc) fr5 q.1 (of_pinsAt z).1).2.2.2.2.2 (S, lstObj acc cc) (List.mem_append_right _ List.mem_cons_self) e.symm
        have un : ∀ {ys' : List V} {σ' : L2.St} {H' : Hp} {s' : Shared}, GI X S (ip ++ pinsAt fp s5.heap) ys' σ' H' s' → GI X S ip ys' σ' H' s' ∧ tn (i + 1) s'.heap ∧ ∀ b ∈ fp, H' b = none := fun {ys' σ' H' s'} ⟨acc', cc', r', I'⟩ => by
          have I' : Inv X (((S, lstObj acc' cc') :: ip) ++ pinsAt fp s5.heap) σ' H' s' := I'
          have pin' : ∀ b ∈ fp, ∀ o, s5.heap.get? b = some o → s'.heap.get? b = some o ∧ H' b = none := fun b hb o e =>
            let z := I'.pin (b, o) (List.mem_append_right _ (List.mem_append_right _ (mem_pinsAt hb e)))
            ⟨z.1, z.2.1⟩
          refine ⟨⟨acc', cc', r', I'.unpinned⟩, T.keep _ _ _ st5 fun b hb o e => (pin' b hb o e).1, fun b hb => ?_⟩
          obtain ⟨o, e, _⟩ := T.obj _ _ st5 b hb
          exact (pin' b hb o e).2
        refine hb.run A S (ip ++ pinsAt fp s5.heap) R n ys s₀ _ _ _ _ id id s6 σ6 H6 { D with nx := N, ct := N, bk := D.nx } { (gl _) with ip := ipS } hn ⟨fun n' ys' s₀' s7 f hn' hs => ?_, fun n' s₀' x s7 hx => ee n' s₀' x s7 hx⟩ ⟨acc, cc, r, I6⟩ q6
        cases f with
        | next =>
          obtain ⟨σ7, H7, I7, n7⟩ := hs
          obtain ⟨m', hm, w7⟩ := hN ys' σ7 H7 n7
          obtain ⟨g7, t7, f7⟩ := un I7
          exact seg_again rfl (ih m' hm (i + 1) n' ys' s₀' s7 σ7 H7 hn' w7 g7 t7 f7)
        | cont =>
          obtain ⟨σ7, H7, I7, n7⟩ := hs
          obtain ⟨m', hm, w7⟩ := hN ys' σ7 H7 n7
          obtain ⟨g7, t7, f7⟩ := un I7
          exact seg_again rfl (ih m' hm (i + 1) n' ys' s₀' s7 σ7 H7 hn' w7 g7 t7 f7)
        | brk =>
          obtain ⟨σ7, H7, I7, q7⟩ := hs
          exact seg_leaf (.ok .next) (k.ok n' ys' s₀' s7 .next hn' ⟨σ7, H7, (un I7).1, q7⟩)
        | ret u =>
          obtain ⟨v7, σ7, H7, I7, r7, q7⟩ := hs
          exact seg_leaf (.ok (.ret u)) (k.ok n' ys' s₀' s7 (.ret u) hn' ⟨v7, σ7, H7, (un I7).1, r7, q7⟩)
  exact loop m0 0 n ys s₀ s2 σ H2 hn w0 ⟨acc0, cc0, r0, I2⟩ st2 fun b hb => (f2 b hb).1
end
end GF
/-! tuple(g), g a generator that a call has made. -/
namespace GF
open PySem PySem.Spec PyProof.Rows L2
open AutoSeq1 (wpAny_loadPart')
section
variable {P : Program} {w : World} {outer : List Env} {H : Hp} {sc s : Shared} {ex : List Addr} {Q : List V → Hp → Prop} {EX : XK} {A : Around} {k : Nat} {u : Value} {E : Value → Shared → Prop}
theorem collect_new {Q' : List Value → Shared → Prop} (hd0 : A.handled = none) (hdp : A.depth + 3 * k + 10 < recursionLimit) (hun : A.units + 16 * k + 210 < cLine) (hfr : A.frames = some outer) (h : GMade P w k outer H sc ex Q EX u s)
    (hQ : ∀ S s' acc c H' ys, s.heap.objs.size ≤ S → s'.heap.get? S = some (lstObj acc c) → Vals ys acc.toList → ys.length ≤ sizeLine → s'.os = sc.os → AllBare s'.gens → Un (frs outer) ex H H' sc.heap s'.heap → HOk P w H' s'.heap → H' S = none → Q ys H' → Q' acc.toList s')
    (hexc : ∀ e s' g, CX P w outer H sc EX e s' → NotStop (model P w) e s'.heap ∧ E e (s'.setGen g .finished)) : wpAny (model P w) A (collect u) Q' E s := by
  obtain ⟨a, g, c, rfl, ha1, ha2, hg, hgs, hos, hb, hl, hkp, wake⟩ := h
  have hSa : s.heap.objs.size ≠ a := Nat.ne_of_gt ha2
  have hcl : cStatics < s.heap.objs.size := let ⟨_, hn, _⟩ := hl; hn.lt
  have hSc : s.heap.objs.size ≠ cStatics := Nat.ne_of_gt hcl
  unfold collect
  refine wpAny_bind (wpAny_runValue (codeAny_builtin F.entry_proto_collect ?_))
  rw [Around.under_plainId F.plain_proto_collect _]
  show wpAny _ A.in1 (newList [] >>= fun l => again (.builtin "list.__iadd__" ⟨[l, .ref a], []⟩)) _ _ s
  refine wpAny_bind (wpAny_newObj_type ?_)
  refine wpAny_pure ⟨plainId_quiet F.plain_list_iadd _, codeAny_builtin F.entry_list_iadd ?_⟩
  rw [Around.under_plainId F.plain_list_iadd _]
  show wpAny _ A.in1 (Builtin.List.listExtendWith (.ref s.heap.objs.size) (.ref a) (.ref s.heap.objs.size)) _ _ _
  unfold Builtin.List.listExtendWith
  have hS1 : (s.heap.push { cls := .type "list", data := .seq ([] : List Value).toArray }).get? s.heap.objs.size = some { cls := .type "list", data := .seq ([] : List Value).toArray } := Heap.get?_push_size _ rfl
  have k1 : ∀ b o, s.heap.get? b = some o → (s.heap.push { cls := .type "list", data := .seq ([] : List Value).toArray }).get? b = some o := fun b o e => Heap.get?_push_of_some _ e
  have up : ∀ (h : Heap) (f : Obj → Obj), (∀ b o, s.heap.get? b = some o → h.get? b = some o) → ∀ b o, s.heap.get? b = some o → (h.update s.heap.objs.size f).get? b = some o := fun h f q b o e =>
    (Heap.get?_update_other _ _ (Ne.symm (Nat.ne_of_lt (Heap.lt_size e)))).trans (q b o e)
  have gty : ∀ {h : Heap}, (∀ b o, s.heap.get? b = some o → h.get? b = some o) → h.IsGen a g := fun {h} q => hg.keeps q
  refine wpAny_bind (wpAny_typeOf (Heap.IsGen.typeIs (s := { s with heap := _ }) (gty k1)) ?_)
  have h1 : Builtin.List.listSameRef (.ref s.heap.objs.size) (.ref a) = false := by simp [Builtin.List.listSameRef, hSa]
  have h2 : (Value.type "generator" == Value.type "list") = false := by decide
  have h3 : (Value.type "generator" == Value.type "tuple") = false := by decide
  simp only [h1, h2, h3, Bool.or_false, Bool.false_eq_true, if_false]
  refine wpAny_bind (wpAny_pyIter_gen (s := { s with heap := _ }) (gty k1) ?_)
  refine wpAny_bind (wpAny_holding ?_)
  unfold Builtin.List.listLengthHint
  refine wpAny_bind (wpAny_specialOf (Heap.IsGen.typeIs (s := { s with heap := _ }) (gty k1)) F.gen_no_len ?_)
  show wpAny _ A.in1 (specialOf (Value.ref a) (Str.ofString "__length_hint__") >>= _) _ _ _
  refine wpAny_bind (wpAny_specialOf (Heap.IsGen.typeIs (s := { s with heap := _ }) (gty k1)) F.gen_no_hint ?_)
  refine wpAny_pure ?_
  show wpAny _ A.in1 (rule "list.extend.makes-room" >>= fun _ => Builtin.List.listTouch (.ref s.heap.objs.size) >>= fun _ =>
    again (.builtin "list.extend.loop" ⟨[.ref s.heap.objs.size, .ref a, .ref s.heap.objs.size], []⟩)) _ _ _
  refine wpAny_bind (wpAny_rule ?_)
  refine wpAny_bind ?_
  show wpAny _ A.in1 (updateSeq s.heap.objs.size (·.push .none) >>= fun _ => updateSeq s.heap.objs.size (·.pop)) _ _ _
  refine wpAny_bind (wpAny_updateSeq hS1 rfl ?_)
  have hS2 := Heap.get?_update_self (Obj.mapSeq (·.push Value.none)) hS1 rfl
  refine wpAny_updateSeq (hz := by seq_fits) hS2 rfl ?_
  have hS3 := Heap.get?_update_self (Obj.mapSeq (·.pop)) hS2 rfl
  have k3 := up _ (Obj.mapSeq (·.pop)) (up _ (Obj.mapSeq (·.push Value.none)) k1)
  refine wpAny_pure ⟨plainId_quiet F.plain_extend_loop _, ?_⟩
  refine drain (P := P) (w := w) (outer := outer) (H := H) (sc := sc) (ex := ex) (Q := Q) (EX := EX) (A := A) (g := g) (res := .ref s.heap.objs.size) hd0 (by omega) hSa hSc
    (fun s' acc c H' ys q1 q2 q3 q4 q5 q6 q7 q8 q9 => ?_) (fun e s' hc => hexc e s' g hc)
    sizeLine _ (gty k3) (hl.keeps k3) ⟨_, hgs, rfl, ?_⟩
  · show wpAny _ _ _ _ _ _
    refine wpAny_bind (wpAny_load q1 ?_)
    exact wpAny_pure (hQ _ s' acc c H' ys (Nat.le_refl _) q1 q2 q3 q4 q5 q6 q7 q8 q9)
  · refine wake _ _ _ ⟨hd0, ?_, ?_⟩ hfr (Nat.le_refl _) k3 ⟨_, hS3⟩ hos (allBare_setGen (s := { s with heap := _ }) hb rfl)
    · show A.depth + 3 * k + 5 < _
      omega
    · show A.units + 1 + 1 + 16 * k + 200 < _
      omega
theorem call_tuple_new {Q' : Value → Shared → Prop} (hr : Room (k + 3) A) (hfr : A.frames = some outer) (h : GMade P w k outer H sc ex Q EX u s)
    (hQ : ∀ S (s' : Shared) acc c H' ys tk, s.heap.objs.size ≤ S → s'.heap.get? S = some (lstObj acc c) → Vals ys acc.toList → ys.length ≤ sizeLine → s'.os = sc.os → AllBare s'.gens → Un (frs outer) ex H H' sc.heap s'.heap → HOk P w H' s'.heap → H' S = none → Q ys H' →
      Q' (.ref s'.heap.objs.size) { s' with heap := s'.heap.push { cls := .type "tuple", data := .seq acc }, toks := tk })
    (hexc : ∀ e s' g, CX P w outer H sc EX e s' → NotStop (model P w) e s'.heap ∧ E e (s'.setGen g .finished)) : wpAny (model P w) A (call (.type "tuple") [u]) Q' E s := by
  obtain ⟨a, g, c, rfl, ha1, ha2, hg, r⟩ := id h
  have hTI : s.TypeIs (.ref a) "generator" := hg.typeIs
  refine callType_codes (Q₁ := fun obj s₁ => s₁.TypeIs obj "tuple" ∧ Q' obj s₁) F.called_tuple (F.typeCall_tuple_1 _) F.entry_object_init ?_ fun obj s₁ h₁ =>
    ⟨h₁.1, F.args_object_init_2 obj _, object_init_meets F.called_tuple.init.lookup F.called_tuple.made (by decide) P w A.in1 _ s₁ ⟨h₁.1, rfl, h₁.2⟩⟩
  refine codeAny_of_tree ?_
  show wpAny _ A.in1.in1 (do checkBuiltinCall "tuple.__new__" ⟨[.type "tuple", .ref a], []⟩; again (.builtin "tuple.__new__" ⟨[.type "tuple", .ref a], []⟩)) _ _ s
  refine wpAny_bind (wpAny_of_eq (F.newCall_tuple_1 _) (wpAny_pure ⟨plainId_quiet F.plain_tuple_new _, codeAny_builtin F.entry_tuple_new ?_⟩))
  rw [Around.under_plainId F.plain_tuple_new _]
  have hsub := sub_tuple_self
  have hinit := init_tuple_lookup
  have hmh := madeHere_tuple
  have col : ∀ {A' : Around} {Q2 : List Value → Shared → Prop} {E2 : Value → Shared → Prop}, A'.handled = none → A'.depth + 3 * k + 10 < recursionLimit → A'.units + 16 * k + 210 < cLine → A'.frames = some outer →
      (∀ S s' acc c H' ys, s.heap.objs.size ≤ S → s'.heap.get? S = some (lstObj acc c) → Vals ys acc.toList → ys.length ≤ sizeLine → s'.os = sc.os → AllBare s'.gens → Un (frs outer) ex H H' sc.heap s'.heap → HOk P w H' s'.heap → H' S = none → Q ys H' → Q2 acc.toList s') →
      (∀ e s' g, CX P w outer H sc EX e s' → NotStop (model P w) e s'.heap ∧ E2 e (s'.setGen g .finished)) → wpAny (model P w) A' (collect (.ref a)) Q2 E2 s := fun {A' Q2 E2} z1 z2 z3 z4 z5 z6 => collect_new z1 z2 z3 z4 h z5 z6
  have hdp := hr.dp
  have hun := hr.un
  wp_walk using wpAny_typeOf hTI, col (A' := A.in1.in1) hr.hd (by show A.depth + 3 * k + 10 < _; omega) (by show A.units + 1 + 1 + 16 * k + 210 < _; omega) hfr
  all_goals first | exact hexc | skip
  intro S s' acc c H' ys q1 q2 q3 q4 q5 q6 q7 q8 q9 q10
  show wpAny _ _ (Builtin.Tuple.tupleExact acc.toList.toArray >>= fun v => ret v) _ _ _
  unfold Builtin.Tuple.tupleExact
  have lz : acc.toList.length ≤ sizeLine := by rw [← q3.length]; exact q4
  refine wpAny_bind (wpAny_newObj_type ?_ (by show acc.toList.toArray.size ≤ sizeLine; rw [List.size_toArray]; exact lz))
  refine wpAny_pure ?_
  rw [show acc.toList.toArray = acc by simp]
  exact ⟨⟨_, Heap.get?_push_size _ rfl, rfl⟩, hQ S s' acc c H' ys _ q1 q2 q3 q4 q5 q6 q7 q8 q9 q10⟩
end
section
variable {X : Cx} {k : Nat} {p pos : Pos}
def tTupG (tg : TGen) : TE := fun σ H Q => tg σ H fun out H2 => ∀ S T, H2 S = none → T ≠ S → H2 T = none → Q (.ref T) (upd (upd H2 S (.lst out)) T (.tup out))
/-- tuple(g) -/
theorem pe_tupG {e : Expr} {tg : TGen} {E : XK} {nm : Str} (h : PGen X k e tg E) (hx : Passes (CX X.prog X.w) X E) (hns : NoStop X.K E) (hr : Room (k + 3) X.A) (hg : Gl X nm) (hmg : X.mg nm = none) (hv : bootBuiltins nm = some (.type "tuple")) (hnm : nm ≠ "__name__" := by decide) (hdb : (nm == ("__debug__" : Str)) = false := by decide)
    (he : starEach [e] X.env = (false, eval e X.env) :: starEach [] X.env := by rfl) : PE X (.Call (.Name nm p) [e] [] pos) (tTupG tg) := by
  refine ⟨fun pins s σ H Q I hq => ?_⟩
  refine wpAny_Call_Name_kw (ld_blt I hg hmg hv ?_ hnm hdb)
  refine PyProof.Rows.callWith_type1 ?_ he rfl
  rw [he]
  show wpAny _ _ (spliced ((false, eval e X.env) :: backTo pos (starEach [] X.env))) _ _ s
  refine Calls.spliced_cons (thn (h.run pins s σ H _ I hq) fun u s1 ⟨H1, sc, ex, I1, hex, hG⟩ => ?_)
  refine Calls.spliced_nil ?_
  have hsz : sc.heap.objs.size ≤ s1.heap.objs.size := by
    obtain ⟨a, g, c, _, h1, h2, _⟩ := hG
    exact Nat.le_trans h1 (Nat.le_of_lt h2)
  refine call_tuple_new hr I1.ok.frames hG (fun S s' acc c H' ys tk q0 q1 q2 hl q3 q4 q5 q6 q7 q8 => ?_) fun e s' g hc => ?_
  · have J := I1.drained (Nat.le_trans hsz q0) hl q1 q2 hex q3 q4 q5 q6 q7
    have lS : S < s'.heap.objs.size := Heap.lt_size q1
    have nT : (upd H' S (.lst ys)) s'.heap.objs.size = none := J.hok.fresh (Nat.le_refl _)
    have nT2 : H' s'.heap.objs.size = none := by rwa [upd_ne (Ne.symm (Nat.ne_of_lt lS))] at nT
    have J2 : Inv X pins σ (upd (upd H' S (.lst ys)) s'.heap.objs.size (.tup ys)) { s' with heap := s'.heap.push { cls := .type "tuple", data := .seq acc }, toks := tk } :=
      J.laid (t' := tk) (fun b o e => Heap.get?_push_of_some _ e) (Nat.le_refl _) ⟨hl, acc.toList, q2, ⟨_, Heap.get?_push_size _ rfl, rfl, 0, rfl⟩⟩
    exact ⟨.ref s'.heap.objs.size, _, J2, rfl, q8 S _ q7 (Ne.symm (Nat.ne_of_lt lS)) nT2⟩
  · have kin : X.K.In s'.heap := by
      obtain ⟨a, B, H', cls, d, _, fl, _, ub, _⟩ := id hc
      refine I1.ok.mod.kin.keeps fun b o eb => fl.1 b o (ub.keep b o (I1.bs b o eb).1 (I1.bs b o eb).2 fun hm => ?_)
      rcases List.mem_cons.mp (I1.stkSub b hm) with z | z
      · have h1 := Heap.lt_size eb
        have h2 := Nat.le_trans I1.ok.bsz I1.ok.above
        rw [z] at h1
        exact absurd (Nat.lt_of_lt_of_le h1 h2) (Nat.lt_irrefl _)
      · exact I1.ok.nofr eb z
    refine ⟨notStop_of hns kin hc, hx pins σ H1 sc e _ I1 ?_⟩
    obtain ⟨a, B, H', cls, d, z1, fl, z2, ub, z3, z4, z5, z6⟩ := hc
    exact ⟨a, B, H', cls, d, z1, fl, z2, ub, z3, z4, allBare_setGen z5 rfl, z6⟩
end
end GF
/-! The data level: a generator def of one loop that hands out what passes a test; tuple(g(..)). -/
namespace DL
open PySem PySem.Spec L2 GF
/-! ### any wish about exceptions -/
section
variable {X : Cx} {e : Expr} {tg iter : Expr} {sts : List Stmt}
theorem pi_nox {wi : TI} (h : PI X.nox tg iter wi) : PI X tg iter wi := ⟨fun pins s σ H R I hw =>
  wpAny_mono (h.run pins s σ H R (I.wish _) hw) (fun v s1 q => wpAny_mono q (fun it s2 ⟨a, fp, tn, J, H', e1, I', r⟩ => ⟨a, fp, tn, J, H', e1, I'.unwish, r⟩) fun _ _ z => False.elim z) fun _ _ z => False.elim z⟩
theorem pg_nox {g : TG} (h : PG X.nox tg g) : PG X tg g := ⟨fun pins s σ H v u Q I r hw =>
  wpAny_mono (h.run pins s σ H v u Q (I.wish _) r hw) (fun _ _ ⟨σ', H', I', q⟩ => ⟨σ', H', I'.unwish, q⟩) fun _ _ z => False.elim z⟩
end
/-! ### the def -/
abbrev SigG := List D → Nat → List Dat → Prop
def spG (G : Wd) (Φ : SigG) : SpG := fun vs H cont _ => ∃ (src : Option Addr) (L : Hp) (n : Nat) (ds : List D) (out : List Dat), Wl G src L H n ∧ IsAll G src L H vs ds ∧ Φ ds n out ∧
  ∀ ys H' L', Step src L H L' H' → Wl G src L' H' n → DpAll G.K L' ys out → cont ys H'
structure Sgg (G : Wd) (x : Str) (k : Nat) (ps : List Str) (Φ : SigG) : Prop where
  ex : ∃ f fd, G.mg x = some (.ref f) ∧ PySem.W.keepIn G.K (.ref f) = true ∧ Binds G.K fd ps [] ∧ GFn G.P G.w G.K G.mg G.base k f fd ps (spG G Φ)
theorem Sgg.mono_room {G : Wd} {x : Str} {k : Nat} {ps : List Str} {Φ : SigG} (s : Sgg G x k ps Φ) : Sgg G x k ps Φ := s
section
variable {G : Wd} {x qual : Str} {st : Stmt} {f : Addr} {fd : FuncData} {N ps : List Str} {k : Nat} {Φ : SigG}
theorem en_startG {c : Cxt} {src : Option Addr} {L H : Hp} {vs : List V} {ds : List D} {sc : Scope} (hc : c.src = src) (hs : c.sc = sc) (S : GScope c.N ps sc) (hl : ds.length = ps.length) (hm : ∀ d ∈ ds, mine d = false) (i : IsAll G src L H vs ds) : En G c H L H (L2.start c.N vs) (rho0 c.N ds) := by
  have hv := paired_len i
  have hpl : ps.length ≤ c.N.length := by have := congrArg List.length S.pre; rw [List.length_take] at this; omega
  have lo : ∀ {j : Nat} {d : D}, (rho0 c.N ds)[j]? = some (some d) → ds[j]? = some d := fun {j d} h => by
    unfold rho0 at h
    by_cases hj : j < ds.length
    · rw [List.getElem?_append_left (by simpa using hj), List.getElem?_map] at h
      cases e : ds[j]? with
      | none => rw [e] at h; cases h
      | some a => rw [e] at h; cases h; rfl
    · rw [List.getElem?_append_right (by simpa using hj), List.getElem?_replicate] at h
      split at h <;> cases h
  refine ⟨?_, fun j d h => ?_, fun j d p h m _ => ?_, fun j k d e p hn h1 h2 m1 m2 r1 r2 => ?_⟩
  · unfold L2.start; rw [List.length_append, List.length_map, List.length_replicate]; omega
  · have hd := lo h
    obtain ⟨v, hvj, iv⟩ := paired_at i hd
    have hj : j < ds.length := (List.getElem?_eq_some_iff.mp hd).1
    have hp : (ps[j]'(by omega)) ∈ ps := List.getElem_mem _
    refine ⟨ps[j]'(by omega), v, ?_, ?_, ?_, by rw [hc]; exact iv⟩
    · have e : (c.N.take ps.length)[j]? = some (ps[j]'(by omega)) := by rw [S.pre]; exact List.getElem?_eq_getElem (by omega)
      rwa [List.getElem?_take_of_lt (by omega)] at e
    · rw [hs]; exact (S.par _ hp).elim .inl fun q => .inr (.inl q)
    · unfold L2.start
      rw [List.getElem?_append_left (by rw [List.length_map]; omega), List.getElem?_map, hvj] <;> rfl
  · rw [hm d (List.mem_of_getElem? (lo h))] at m; cases m
  · rw [hm d (List.mem_of_getElem? (lo h1))] at m1; cases m1
theorem ps_nox {X : Cx} {st : Stmt} {t : TS} (h : PS X.nox st t) : PS X st t := ⟨fun pins s σ H D I hw =>
  wpAny_mono (h.run pins s σ H D (I.wish _) hw) (fun _ _ q => q.unwish) fun _ _ z => False.elim z⟩
/-- what the loop asks behind the statements ahead of it -/
def GenNx (G : Wd) (c : Cxt) (vs : List Nat) (tg iter test e : Expr) (n : Nat) (out : List Dat) (ρ1 : Rho) (n1 : Nat) : Prop :=
  n1 = n ∧ IX G c tg iter ρ1 n fun xs n2 => n2 = n ∧ ∃ (p : Dat → Bool) (I : Rho → Prop), out = xs.filter p ∧ I ρ1 ∧ ∀ x ∈ xs, ∀ ρ2, I ρ2 → BX G c vs tg x ρ2 fun ρ3 => I ρ3 ∧ TX G c test ρ3 n fun b n3 => n3 = n ∧ b = p x ∧ (b = true → EX G c e ρ3 n fun d n4 => n4 = n ∧ d = .dat x)
theorem gen_def {s1 s2 : Stmt} {tg iter test e : Expr} {yp ep ip fp : Pos} (F : Fun G.K x qual st f fd) (S : GScope N ps (defScope st)) (bd : Binds G.K fd ps []) (hx : G.mg x = some (.ref f)) (hb : defBody st = [s1, s2, .For tg iter [.If test [.Expr (.Yield (some e) yp) ep] [] ip] [] fp])
    (vs : List Nat) (hΦ : ∀ ds n out, Φ ds n out → ds.length = ps.length ∧ (∀ d ∈ ds, mine d = false) ∧ out.length ≤ 1000)
    (h : ∀ src ds n out, Φ ds n out → SX G ⟨N, defScope st, k, src, fun _ => true⟩ s1 (rho0 N ds) n { rt := fun _ _ => False, nx := fun ρ1 n1 => SX G ⟨N, defScope st, k, src, fun _ => true⟩ s2 ρ1 n1 { rt := fun _ _ => False, nx := GenNx G ⟨N, defScope st, k, src, fun _ => true⟩ vs tg iter test e n out } })
    (hs : ∀ env z, foldedSetIterable iter env z = pure z := by intro _ _; rfl) : Sgg G x (k + 1) ps Φ := by
  obtain ⟨oc, od, kV, doc, pm, an, cdv, ct, osl, rfl, lk, hcd⟩ := F.ex
  refine ⟨f, _, hx, F.kp, bd, gfn_of lk hcd S (fun vs H Q E h => ?_) fun A outer s H us Q E pn hr hsp => ?_⟩
  · obtain ⟨src, L, n, ds, out, w, i, p, _⟩ := h
    rw [paired_len i, (hΦ ds n out p).1]
  obtain ⟨src, L, n, ds, out, w, i, p, q⟩ := hsp
  obtain ⟨h1, h2, h3⟩ := hΦ ds n out p
  let c : Cxt := ⟨N, defScope st, k, src, fun _ => true⟩
  let X : Cx := gcxOf G.P G.w G.K G.mg G.base N qual (defScope st) f cdv A outer s H E pn
  have lkX : Like G c X.nox := ⟨rfl, S.nd, rfl, rfl, rfl, rfl, rfl, rfl, rfl, hr, rfl, rfl⟩
  have en := en_startG (c := c) rfl rfl S h1 h2 i
  have hp : PassesOwn (model X.prog X.w) X.A X.env X.xe := owns_gcx
  rw [hb]
  refine ⟨_, gss_cons (gs_ps (ps_nox (X := X) (ps_wp s1))) (gss_cons (gs_ps (ps_nox (X := X) (ps_wp s2))) (gss_cons (gs_for hp rfl (pi_nox (X := X) (wi := wpI X.nox tg iter) ⟨fun pins s σ H R I h => h pins s I⟩) (pg_nox (X := X) (pg_wp tg)) (gss_cons (gs_if (PT.nox (X := X) (pt_wp test)) (gss_cons (gs_yield (PE.nox (X := X) (pe_wp e)) S.co (by show (X.env.scope.kind == .module && _) = false; rw [show X.env.scope.kind = .function from S.kind]; rfl)) gss_nil) gss_nil) gss_nil) (hs _)) gss_nil)), ?_⟩
  refine sx_wp (h src ds n out p) lkX (.refl _ _ _) w en (fun σ1 H1 ⟨L1, ρ1, n1, t1, w1, en1, z1⟩ => ?_) (fun _ _ ⟨_, _, _, _, _, _, _, z⟩ => z.elim) (fun _ _ ⟨_, _, _, _, _, _, z⟩ => z.elim) fun _ _ ⟨_, _, _, _, _, _, z⟩ => z.elim
  refine sx_wp z1 lkX t1 w1 en1 (fun σ2 H2 ⟨L2, ρ2, n2, t2, w2, en2, z2⟩ => ?_) (fun _ _ ⟨_, _, _, _, _, _, _, z⟩ => z.elim) (fun _ _ ⟨_, _, _, _, _, _, z⟩ => z.elim) fun _ _ ⟨_, _, _, _, _, _, z⟩ => z.elim
  obtain ⟨e2, z2⟩ := z2
  subst e2
  obtain ⟨wi, pi, hw⟩ := z2 X.nox lkX
  intro pins sh Iv
  refine pi.run pins sh σ2 H2 _ Iv (hw σ2 H L2 H2 w2 en2 _ fun J H3 L3 n3 xs t3 w3 ru ⟨e3, pr, I, eo, i0, turn⟩ => ?_)
  subst e3 eo
  obtain ⟨Gd, Y, W, hG, hY⟩ := ru.ex
  have tt := t2.trans t3
  refine ⟨fun i m ys σ' H' => m = xs.length - i ∧ i ≤ xs.length ∧ ∃ L' ρ', Step src L H L' H' ∧ Wl G src L' H' n3 ∧ En G c H L' H' σ' ρ' ∧ Same L3 L' ∧ I ρ' ∧ DpAll G.K L' ys ((xs.take i).filter pr), ⟨_, rfl, Nat.zero_le _, L3, ρ2, tt, w3, en2.go t3, fun _ _ z => z, i0, .nil⟩, ?_⟩
  rintro i m ys σ' Ha ⟨rfl, hi, L', ρ', s', w', en', sm, hI, dy⟩
  have gd := hG Ha (sm.trans w'.sub)
  by_cases hlt : i < xs.length
  case neg =>
    have e : i = xs.length := by omega
    subst e
    rw [List.take_length] at dy
    exact .inl ⟨W.stops Ha gd, q ys Ha L' s' w' dy⟩
  refine .inr ⟨W.goes i Ha hlt gd, fun ys' σ'' H'' => ∃ L' ρ', Step src L H L' H'' ∧ Wl G src L' H'' n3 ∧ En G c H L' H'' σ'' ρ' ∧ Same L3 L' ∧ I ρ' ∧ DpAll G.K L' ys' ((xs.take (i + 1)).filter pr), fun ys' σ'' H'' z => ⟨_, by omega, rfl, hlt, z⟩, fun x Hb y => ?_⟩
  obtain ⟨L4, d, a1, a2, a3, a4, a5, a6⟩ := hY i Ha x Hb L' sm w'.sub hlt (W.yields i Ha x Hb hlt gd y)
  have st := Step.of (src := src) a1 a2 a4
  have w4 : Wl G src L4 Hb n3 := w'.go a1 a2 a3 a4
  have hd : d ∈ xs := List.mem_of_getElem? a5
  have nxt : ∀ b, b = pr d → (xs.take (i + 1)).filter pr = (xs.take i).filter pr ++ (if b = true then [d] else []) := fun b eb => by
    rw [List.take_add_one, a5, List.filter_append]
    congr 1
    rw [eb]
    cases hb : pr d <;> simp [hb]
  refine fun pins s u Iv r => thn (turn d hd ρ' hI X.nox lkX H L4 Hb σ' x w4.sub a6 (en'.go st) pins s u Iv r) fun _ sh ⟨σ5, H5, I5, e5, _, ρ5, en5, hI5, ht⟩ => ?_
  subst e5
  refine ⟨σ5, H5, I5, ?_⟩
  refine tx_wp ht lkX w4 en5 fun b H6 ⟨L6, n6, t6, w6, e6, eb, he⟩ => ?_
  subst e6
  cases b with
  | false =>
    refine ⟨L6, ρ5, (s'.trans st).trans t6, w6, en5.go t6, sm.trans (a2.trans t6.grow), hI5, ?_⟩
    rw [nxt false eb]
    simpa using ex_dps (a2.trans t6.grow) dy
  | true =>
    have ly : ys.length < sizeLine := by
      have l1 := dps_len dy
      have l2 : ((xs.take i).filter pr).length ≤ (xs.filter pr).length := (List.Sublist.filter pr (List.take_sublist i xs)).length_le
      exact Nat.lt_of_le_of_lt (by omega) (small1000 (Nat.le_refl 1000))
    refine ⟨ly, ex_wp (he rfl) lkX w6 (en5.go t6) fun v H7 ⟨dd, L7, n7, t7, w7, i7, _, e7, ed⟩ => ?_⟩
    subst e7 ed
    refine ⟨L7, ρ5, ((s'.trans st).trans t6).trans t7, w7, (en5.go t6).go t7, sm.trans ((a2.trans t6.grow).trans t7.grow), hI5, ?_⟩
    rw [nxt true eb]
    exact dps_app (ex_dps ((a2.trans t6.grow).trans t7.grow) dy) (.cons i7 .nil)
end
section
variable {G : Wd} {c : Cxt} {e : Expr} {es : List Expr} {ρ : Rho} {n k : Nat} {R : D → Nat → Prop} {pos pos2 p p2 : Pos} {x : Str} {ps : List Str} {Φ : SigG}
/-- tuple(g(..)) -/
theorem ex_tupGen (hmT : G.mg "tuple" = none) (S : Sgg G x k ps Φ) (hk : k + 3 ≤ c.k) (hgT : c.sc.names.lookup ("tuple" : Str) = some .globalImplicit) (hg : c.sc.names.lookup x = some .globalImplicit) (h : AX G c (e :: es) ρ n fun ds n1 => ∃ out, Φ ds n1 out ∧ out.length ≤ 1000 ∧ R (dT out) n1) (hdb : (x == ("__debug__" : Str)) = false := by decide)
    (he : ∀ env, starEach (e :: es) env = (false, eval e env) :: starEach es env := by intro _; rfl) (hpl : ∀ env, (backTo pos (starEach es env)).any (·.1) = false := by intro _; rfl) : EX G c (.Call (.Name "tuple" p2) [.Call (.Name x p) (e :: es) [] pos] [] pos2) ρ n R := ex_pe fun X lk => by
  obtain ⟨f, fd, hm, hkp, bd, F⟩ := S.ex
  rw [← lk.K] at bd hkp
  rw [← lk.prog, ← lk.w, ← lk.K, ← lk.mg, ← lk.base] at F
  have hx : Passes (CX X.prog X.w) X E0 := fun pins σ H s e s' I ⟨_, _, _, _, _, _, _, _, _, _, _, _, z⟩ => z.elim
  refine ⟨_, pe_tupG (p := p2) (pos := pos2) (pgen_call (p := p) (dvs := []) (E := E0) F (lk.room.mono (by omega)) (gl_of lk hg) (by rw [lk.mg]; exact hm) hkp bd .nil (pa_wp (e :: es)) hdb (he _) (hpl _)) hx (fun _ _ _ z => z.elim) (lk.room.mono hk) (gl_of lk hgT) (by rw [lk.mg]; exact hmT) rfl, fun σ H0 L H w en => ?_⟩
  refine ax_wp h lk w en fun us H1 ⟨ds, L1, n1, s1, w1, i1, out, ph, hz, r⟩ => ?_
  refine ⟨c.src, L1, n1, ds, out, w1, by rw [List.append_nil]; exact i1, ph, fun ys H' L' s2 w2 dy S T hS hTS hT => ?_⟩
  have s3 := s1.trans s2
  have w3 := w2.up (.lst ys) hS
  have hT2 : (upd H' S (.lst ys)) T = none := by rw [upd_ne hTS]; exact hT
  exact (ev_tup w3 hT2 dy r).back (s3.trans (.up _ hS))
end
end DL
/-! The data level: x = [e for a in s for b in t]. -/
namespace DL
open PySem PySem.Spec L2
def noMine (ρ : Rho) : Bool := ρ.all fun o => match o with | some d => !mine d | none => true
theorem noMine_at {ρ : Rho} (h : noMine ρ = true) {i : Nat} {d : D} (e : ρ[i]? = some (some d)) : mine d = false := by
  unfold noMine at h
  have q := List.all_eq_true.mp h _ (List.mem_of_getElem? e)
  simpa using q
section
variable {G : Wd} {c : Cxt} {H0 L H : Hp} {σ : L2.St} {ρ : Rho}
theorem En.app (en : En G c H0 L H σ ρ) {D : Addr} {acc acc' : List V} (hne : ∀ (j : Nat) (e : DL.D) (q : Addr), ρ[j]? = some (some e) → mine e = true → σ[j]? = some (some (V.ref q)) → q ≠ D) : En G c H0 L (upd H D (.lst acc')) σ ρ := by
  refine ⟨en.len, fun i d h => ?_, en.own, en.apart⟩
  obtain ⟨x, v, h1, h2, h3, h4⟩ := en.at_ i d h
  refine ⟨x, v, h1, h2, h3, ?_⟩
  cases d with
  | own ds => obtain ⟨q, xs, rfl, f2, f3, f4, f5⟩ := h4; exact ⟨q, xs, rfl, f2, f3, by rw [upd_ne (hne i _ q h rfl h3)]; exact f4, f5⟩
  | dic ks => obtain ⟨q, rfl, f2, f3, f4⟩ := h4; exact ⟨q, rfl, f2, f3, by rw [upd_ne (hne i _ q h rfl h3)]; exact f4⟩
  | fresh fa fx => obtain ⟨rfl, f2, f3, f4⟩ := h4; exact ⟨rfl, f2, f3, by rw [upd_ne (hne i _ fa h rfl h3)]; exact f4⟩
  | dat _ => exact h4
  | src => exact h4
  | keys _ => exact h4
  | set _ => exact h4
  | obj _ => exact h4
  | ntup _ => exact h4
theorem En.apartD (en : En G c H0 L H σ ρ) {D : Addr} (hD : H D = none) : ∀ (j : Nat) (e : DL.D) (q : Addr), ρ[j]? = some (some e) → mine e = true → σ[j]? = some (some (V.ref q)) → q ≠ D := fun j e q h m hs z => by
  subst z
  obtain ⟨_, u, _, _, h3, h4⟩ := en.at_ j e h
  rw [hs] at h3
  have hu : V.ref q = u := Option.some.inj (Option.some.inj h3)
  obtain ⟨p', o, f1, f2⟩ := is_mine h4 m
  rw [← hu] at f1
  injection f1 with f1
  rw [← f1, hD] at f2
  cases f2
end
section
variable {G : Wd} {c : Cxt} {ρ : Rho} {n : Nat} {R : D → Nat → Prop} {elt tg iter tg1 iter1 : Expr} {scope : Scope} {pos : Pos}
def Cl2 (G : Wd) (c : Cxt) (scope : Scope) (vs vs1 : List Nat) (tg elt tg1 iter1 : Expr) (ρ : Rho) (R : D → Nat → Prop) : List Dat → Nat → Prop := fun ds n1 => ∃ fs : Dat → List Dat, (ds.flatMap fs).length ≤ 1000 ∧
  (∀ d ∈ ds, BX G (c.blk scope) vs tg d ρ fun ρ2 => noMine ρ2 = true ∧ (∀ i ∈ vs1, ∀ d, ρ2[i]? ≠ some (some d)) ∧ IX G (c.blk scope) tg1 iter1 ρ2 n1 fun es n2 => n2 = n1 ∧ ∃ g : Dat → Dat, fs d = es.map g ∧
    ∀ e ∈ es, BX G (c.blk scope) vs1 tg1 e ρ2 fun ρ3 => EX G (c.blk scope) elt ρ3 n1 fun y n3 => n3 = n1 ∧ y = .dat (g e)) ∧ R (dL (ds.flatMap fs)) n1
theorem flat_take {α β : Type} (fs : α → List β) (ds : List α) {i : Nat} (h : i < ds.length) : (ds.take (i + 1)).flatMap fs = (ds.take i).flatMap fs ++ fs ds[i] := by
  rw [List.take_add_one, List.getElem?_eq_getElem h, List.flatMap_append]
  simp
theorem flat_le {α β : Type} (fs : α → List β) (ds : List α) (i : Nat) : ((ds.take i).flatMap fs).length ≤ (ds.flatMap fs).length := by
  have e : ds.flatMap fs = (ds.take i).flatMap fs ++ (ds.drop i).flatMap fs := by rw [← List.flatMap_append, List.take_append_drop]
  rw [e, List.length_append]
  omega
theorem lc2_read {X : Cx} {wi : TI} {σ : L2.St} {H0 L H : Hp} {own : List (Str × Nat)} {vis : List Bool} {vs1 : List Nat} (k : Like G c X) (hv : visOk c.N (relS scope c.sc) own vis = true) (w : Wl G c.src L H n) (en : En G c H0 L H σ ρ)
    (hw : ∀ Q : It → Hp → Prop, (∀ J H' L' n' ds, Step c.src L H L' H' → Wl G c.src L' H' n' → Runs G J L' ds → Cl2 G c scope (own.map (·.2)) vs1 tg elt tg1 iter1 (maskR vis ρ) R ds n' → Q J H') → wi σ H Q) :
    ∀ Qv : VK, (∀ v H', EV G c.src L H R v H' → Qv v H') → tLc2 wi (blkG X scope tg) tYes (blkI X scope tg1 iter1) (blkG X scope tg1) tYes (blkE X scope elt) (own.map (·.2)) vs1 σ H Qv := fun Qv hq => by
  refine hw _ fun J H1 L1 n1 ds s1 w1 ru ⟨fs, hz, turn, r⟩ D hD => ?_
  obtain ⟨Gd, Y, W, hG, hY⟩ := ru.ex
  have nsD := w1.nsrc hD
  have stay : ∀ {La Ha Lb Hb : Hp}, Step c.src La Ha Lb Hb → La D = none → ∀ {o}, Ha D = some o → Lb D = none ∧ Hb D = some o := fun {La Ha Lb Hb} q l {o} h => stay_at q l h nsD
  have hap := en.apartD (s1.live D hD)
  let At_ (L' H' : Hp) (outs : List Dat) : Prop := ∃ acc, H' D = some (.lst acc) ∧ DpAll G.K L' acc outs
  refine ⟨fun i m H' => m = ds.length - i ∧ i ≤ ds.length ∧ ∃ L', Step c.src L H L' H' ∧ Wl G c.src L' H' n1 ∧ En G c H0 L' H' σ ρ ∧ Same L1 L' ∧ L' D = none ∧ At_ L' H' ((ds.take i).flatMap fs), ⟨_, rfl, Nat.zero_le _, L1, s1.trans (.up _ hD), w1.up _ hD, (en.go s1).go (.up _ hD), fun _ _ z => z, w1.none_of hD, [], upd_same, .nil⟩, ?_⟩
  rintro i m Ha ⟨rfl, hi, L', s', w', en', sm, lD, acc, aD, da⟩
  have gd := hG Ha (sm.trans w'.sub)
  by_cases hlt : i < ds.length
  case neg =>
    have e : i = ds.length := by omega
    subst e
    rw [List.take_length] at da
    refine .inl ⟨W.stops Ha gd, ?_⟩
    have h0 : H D = none := s1.live D hD
    have sl : Same L' (upd L' D (.lst acc)) := same_new lD
    refine hq _ _ ⟨dL _, upd L' D (.lst acc), n1, ⟨s'.keep, s'.live, s'.grow.trans sl, fun a l q => ?_⟩, ⟨fun a o q => ?_, fun q eq => ?_, w'.few⟩, Dp.lst (SqL.of upd_same) (ex_dps sl da), .no rfl, r⟩
    · by_cases z : a = D
      · rw [z]; exact h0
      · rw [upd_ne z] at q; exact s'.frsh a l q
    · by_cases z : a = D
      · subst z; rw [upd_same] at q; rw [← q]; exact aD
      · rw [upd_ne z] at q; exact w'.sub a o q
    · obtain ⟨q1, sc, nums, cc, r, t, q2, q3, q4⟩ := w'.src q eq
      exact ⟨by rw [upd_ne (fun z => nsD (by rw [← z]; exact eq))]; exact q1, sc, nums, cc, r, t, q2, ex_l sl q3, q4⟩
  have hd : ds[i] ∈ ds := List.getElem_mem _
  refine .inr ⟨W.goes i Ha hlt gd, fun H' => ∃ L', Step c.src L H L' H' ∧ Wl G c.src L' H' n1 ∧ En G c H0 L' H' σ ρ ∧ Same L1 L' ∧ L' D = none ∧ At_ L' H' ((ds.take (i + 1)).flatMap fs), fun H' q => ⟨_, by omega, rfl, hlt, q⟩, fun x Hb y => ?_⟩
  obtain ⟨L2, d, a1, a2, a3, a4, a5, a6⟩ := hY i Ha x Hb L' sm w'.sub hlt (W.yields i Ha x Hb hlt gd y)
  rw [List.getElem?_eq_getElem hlt] at a5
  have ed : ds[i] = d := Option.some.inj a5
  subst ed
  have st := Step.of (src := c.src) a1 a2 a4
  have w2 : Wl G c.src L2 Hb n1 := w'.go a1 a2 a3 a4
  have b2 := stay st lD aD
  intro sx HX C cl fp pins s u Iv rr
  refine wpAny_mono (turn ds[i] hd _ (k.blk scope sx HX C cl fp) H0 L2 Hb _ x w2.sub a6 ((en'.go st).blk hv) pins s u Iv rr) (fun _ sh ⟨σ2, H2, I2, e1, ew, ρ2, en2, hnm, hno, q⟩ => ?_) fun _ _ z => z
  subst e1
  refine ⟨σ2, H2, I2, by rw [ew, wipe_idem], ?_⟩
  simp only [tYes, if_true]
  intro sx HX C cl fp pins s Iv
  obtain ⟨wi1, pi1, hw1⟩ := q _ (k.blk scope sx HX C cl fp)
  refine pi1.run pins s σ2 H2 _ Iv (hw1 σ2 H0 L2 H2 w2 en2 _ fun J1 H4 L4 n4 es s4 w4 ru4 ⟨en4, g, efs, turn1⟩ => ?_)
  subst en4
  obtain ⟨Gd1, Y1, W1, hG1, hY1⟩ := ru4.ex
  have b4 := stay s4 b2.1 b2.2
  have t4 := ((s'.trans st).trans s4)
  have fl := flat_take fs ds hlt
  rw [efs] at fl
  have fle := flat_le fs ds (i + 1)
  rw [fl, List.length_append, List.length_map] at fle
  refine ⟨fun j m H' => m = es.length - j ∧ j ≤ es.length ∧ ∃ L', Step c.src L H L' H' ∧ Wl G c.src L' H' n4 ∧ En G c H0 L' H' σ ρ ∧ En G (c.blk scope) H0 L' H' σ2 ρ2 ∧ Same L1 L' ∧ Same L4 L' ∧ L' D = none ∧ At_ L' H' ((ds.take i).flatMap fs ++ (es.take j).map g),
    ⟨_, rfl, Nat.zero_le _, L4, t4, w4, (en'.go st).go s4, en2.go s4, sm.trans (a2.trans s4.grow), fun _ _ z => z, b4.1, acc, b4.2, by rw [List.take_zero, List.map_nil, List.append_nil]; exact ex_dps (a2.trans s4.grow) da⟩, ?_⟩
  rintro j m Hc ⟨rfl, hj, L5, s5, w5, en5, enb5, sm5, sm45, lD5, acc5, aD5, da5⟩
  have gd1 := hG1 Hc (sm45.trans w5.sub)
  by_cases hltj : j < es.length
  case neg =>
    have e : j = es.length := by omega
    subst e
    refine .inl ⟨W1.stops Hc gd1, L5, s5, w5, en5, sm5, lD5, acc5, aD5, ?_⟩
    rw [List.take_length] at da5
    rw [fl]
    exact da5
  have hb : es[j] ∈ es := List.getElem_mem _
  refine .inr ⟨W1.goes j Hc hltj gd1, fun H' => ∃ L', Step c.src L H L' H' ∧ Wl G c.src L' H' n4 ∧ En G c H0 L' H' σ ρ ∧ En G (c.blk scope) H0 L' H' σ2 ρ2 ∧ Same L1 L' ∧ Same L4 L' ∧ L' D = none ∧ At_ L' H' ((ds.take i).flatMap fs ++ (es.take (j + 1)).map g), fun H' q => ⟨_, by omega, rfl, hltj, q⟩, fun x1 Hd y1 => ?_⟩
  obtain ⟨L6, d1, c1, c2, c3, c4, c5, c6⟩ := hY1 j Hc x1 Hd L5 sm45 w5.sub hltj (W1.yields j Hc x1 Hd hltj gd1 y1)
  rw [List.getElem?_eq_getElem hltj] at c5
  have ed1 : es[j] = d1 := Option.some.inj c5
  subst ed1
  have st6 := Step.of (src := c.src) c1 c2 c4
  have w6 : Wl G c.src L6 Hd n4 := w5.go c1 c2 c3 c4
  have b6 := stay st6 lD5 aD5
  intro sx HX C cl fp pins s u Iv rr
  refine wpAny_mono (turn1 es[j] hb _ (k.blk scope sx HX C cl fp) H0 L6 Hd _ x1 w6.sub c6 ((enb5.go st6).wipe hno) pins s u Iv rr) (fun _ sh ⟨σ3, H3, I3, e1, ew3, ρ3, en3, q3⟩ => ?_) fun _ _ z => z
  subst e1
  refine ⟨σ3, H3, I3, by rw [ew3, wipe_idem], ?_⟩
  intro sx HX C cl fp
  refine ex_wp q3 (k.blk scope sx HX C cl fp) w6 en3 fun v H7 ⟨dy, L7, n7, s7, w7, i7, _, en7, edy⟩ => ?_
  subst en7 edy
  have b7 := stay s7 b6.1 b6.2
  have d7 := ex_dps (c2.trans s7.grow) da5
  have tk : (es.take (j + 1)).map g = (es.take j).map g ++ [g es[j]] := by rw [List.take_add_one, List.getElem?_eq_getElem hltj, List.map_append] <;> rfl
  have lz : acc5.length < sizeLine := by
    rw [dps_len d7, List.length_append, List.length_map, List.length_take]
    exact Nat.lt_of_le_of_lt (by omega) (small1000 (Nat.le_refl 1000))
  refine ⟨acc5, b7.2, lz, ?_⟩
  have so := (s5.trans st6).trans s7
  have ap2 : ∀ (j : Nat) (e : DL.D) (q : Addr), ρ2[j]? = some (some e) → mine e = true → σ2[j]? = some (some (V.ref q)) → q ≠ D := fun j e q h m => by rw [noMine_at hnm h] at m; cases m
  refine ⟨L7, so.wrote (s1.live D hD) b7.2, w7.wrote b7.1 nsD, (en5.go (st6.trans s7)).app (acc := acc5) hap, (enb5.go (st6.trans s7)).app (acc := acc5) ap2, sm5.trans (c2.trans s7.grow), sm45.trans (c2.trans s7.grow), b7.1, acc5 ++ [v], upd_same, ?_⟩
  rw [tk, ← List.append_assoc]
  exact dps_app d7 (.cons i7 .nil)
theorem sx_asgLc2 (i : Nat) {x : Str} {B : Bx} {px spos : Pos} (own : List (Str × Nat)) (vs1 : List Nat) (vis : List Bool) (hx : c.N[i]? = some x) (hl : c.sc.names.lookup x = some .local) (hk : c.sc.kind = .function) (hok : blkC c.N c.sc scope own = true) (hv : visOk c.N (relS scope c.sc) own vis = true) (hv1 : ∀ i ∈ vs1, i ∈ own.map (·.2)) (hln : (px.line == pos.line) = true)
    (ha : (scope.names.any fun (n, k) => n == x && (k == .local || k == .cell)) = false) (h : IX G c tg iter ρ n (Cl2 G c scope (own.map (·.2)) vs1 tg elt tg1 iter1 (maskR vis ρ) fun d n1 => B.nx (ρ.set i (some d)) n1)) (hs : ∀ env x, foldedSetIterable iter env x = pure x := by intro _ _; rfl) (hs1 : ∀ env x, foldedSetIterable iter1 env x = pure x := by intro _ _; rfl) :
    SX G c (.Assign [.Name x px] (.ListComp elt [⟨tg, iter, [], 0⟩, ⟨tg1, iter1, [], 0⟩] scope pos) spos) ρ n B := sx_ps fun X k => by
  obtain ⟨wi, pi, hw⟩ := h X k
  refine ⟨_, ps_setLc2 (i := i) (py := px) (vs1 := vs1) k.calm k.nd (by rw [k.N]; exact hx) (by rw [k.sc]; exact hl) (sw_true (by rw [k.sc]; exact hk) (by rw [k.sc]; exact hl) hln ha) pi (by rw [k.N, k.sc]; exact blkOk_by hok) hv1 (g := blkG X scope tg) (tt := tYes) (wi1 := blkI X scope tg1 iter1) (g1 := blkG X scope tg1) (tt1 := tYes) (te := blkE X scope elt)
    (fun s H C cl fp => ⟨fun pins s _ _ _ u _ I r h => h _ _ _ _ _ pins s u I r⟩) (fun s H C cl fp => pts_nil) (fun s H C cl fp => ⟨fun pins s σ H R I h => h _ _ _ _ _ pins s I⟩) (fun s H C cl fp => ⟨fun pins s _ _ _ u _ I r h => h _ _ _ _ _ pins s u I r⟩) (fun s H C cl fp => pts_nil) (fun s H C cl fp => ⟨fun pins s _ _ _ I h => h _ _ _ _ _ pins s I⟩) (hs _) hs1, fun L0 H0 σ L H s0 w en => ?_⟩
  exact lc2_read (R := fun d n1 => B.nx (ρ.set i (some d)) n1) k hv w en (hw σ H0 L H w en) _ fun v H' ⟨d, L', n', s', w', i', nw, r⟩ =>
    ⟨L', _, n', s0.trans s', w', en.set (fun _ p => s0.live p) s' hx (.inl hl) i' nw, r⟩
end
end DL
/-! The data level: the instances of Sums. -/
namespace DL
open PySem PySem.Spec L2
/-- what holds of the class -/
structure Kf (G : Wd) : Prop where
  cls : Cls G.K G.C
  no : NoAttr G.K G.C "own_sums"
  mg : G.mg "Sums" = some (.ref G.C)
  first : PySem.W.selfFirst G.K G.C = true
/-- a method that keeps Φ -/
structure Mg (G : Wd) (m : Str) (k : Nat) (Φ : Sig) : Prop where
  ex : ∃ f, Meth G.K G.C m f ∧ FnR G.P G.w G.K G.mg G.base CX0 k f (spD G Φ)
/-- a property -/
structure Pg (G : Wd) (m : Str) (k : Nat) (Φ : Sig) : Prop where
  ex : ∃ p f fd, PropOf G.K G.C m p f ∧ Binds G.K fd ["self"] [] ∧ FnOk G.P G.w G.K G.mg G.base CX0 k f fd ["self"] (spD G Φ)
abbrev SigI := List D → Nat → (List (List Int) → Nat → Prop) → Prop
def spI (G : Wd) (Φ : SigI) : Sp := fun vs H Q _ => ∃ (src : Option Addr) (L H0 : Hp) (n : Nat) (a dx : Addr) (ws : List V) (ds : List D) (R : List (List Int) → Nat → Prop), vs = .ref a :: ws ∧ H0 a = none ∧ H0 dx = none ∧ dx ≠ a ∧ H = upd (upd H0 dx (.own a)) a (.ins G.C dx []) ∧
  Wl G src L H0 n ∧ IsAll G src L H0 ws ds ∧ Φ ds n R ∧ ∀ H' L' n' x ks, Step src L H0 L' H' → Wl G src L' H' n' → L' a = none → H' a = some (.ins G.C dx [(("own_sums" : Str), x)]) → Dp G.K L' x (sD ks) → R ks n' → Q .non H'
structure Ini (G : Wd) (k : Nat) (Φ : SigI) : Prop where
  ex : ∃ f, Mk G.K G.C f ∧ FnR G.P G.w G.K G.mg G.base CX0 k f (spI G Φ)
theorem cmp_back {P : Value → Shared → Prop} {z : V} {v : Value} {s' : Shared} (r : RelV z v) (h : P v s') : PySem.W.CmpBack P v s' := by
  cases z with
  | non => cases (show v = Value.none from r); exact h
  | bl b => cases (show v = Value.bool b from r); exact h
  | int i => obtain ⟨t, e⟩ := (show ∃ t, v = Value.int i t from r); subst e; exact h
  | str x => obtain ⟨t, e⟩ := (show ∃ t, v = Value.str x t from r); subst e; exact h
  | byt b => obtain ⟨t, e⟩ := (show ∃ t, v = Value.bytes b t from r); subst e; exact h
  | flt b => obtain ⟨t, e⟩ := (show ∃ t, v = Value.float b t from r); subst e; exact h
  | ref a => cases (show v = Value.ref a from r); exact h
  | ty n => cases (show v = Value.type n from r); exact h
theorem freeze {G : Wd} {src : Option Addr} {L H0 L' H' : Hp} {n : Nat} {a : Addr} {o : HO} (s : Step src L H0 L' H') (w : Wl G src L' H' n) (h0 : H0 a = none) (l : L' a = none) (ns : src ≠ some a) (ha : H' a = some o) : Step src L H0 (upd L' a o) H' ∧ Wl G src (upd L' a o) H' n := by
  have sl : Same L' (upd L' a o) := same_new l
  refine ⟨⟨s.keep, s.live, s.grow.trans sl, fun b h q => ?_⟩, ⟨fun b u q => ?_, fun q eq => ?_, w.few⟩⟩
  · by_cases z : b = a
    · rw [z]; exact h0
    · rw [upd_ne z] at q; exact s.frsh b h q
  · by_cases z : b = a
    · subst z; rw [upd_same] at q; rw [← q]; exact ha
    · rw [upd_ne z] at q; exact w.sub b u q
  · obtain ⟨q1, sc, nums, cc, r, t, q2, q3, q4⟩ := w.src q eq
    exact ⟨by rw [upd_ne (fun z => ns (by rw [← z]; exact eq))]; exact q1, sc, nums, cc, r, t, q2, ex_l sl q3, q4⟩
section
variable {G : Wd} {c : Cxt} {o e : Expr} {es : List Expr} {ρ : Rho} {n k : Nat} {R : D → Nat → Prop} {pos apos p : Pos} {m : Str} {Φ : Sig}
/-- o.own_sums -/
theorem ex_fld (T : Kf G) (h : EX G c o ρ n fun d n1 => ∃ ks, d = .obj ks ∧ R (.dat (sD ks)) n1) (hb : ∀ env, attributeBase o "own_sums" env (eval o env) = eval o env := by intro _; rfl) : EX G c (.Attribute o "own_sums" pos) ρ n R := ex_pe fun X lk =>
  ⟨_, pe_fld (pe_wp o) (hb _), fun σ H0 L H w en => ex_wp h lk w en fun v H1 ⟨d, L1, n1, s1, w1, i1, _, ks, e1, r⟩ => by
    subst e1
    obtain ⟨a, dx, x, rfl, h1, h2⟩ := i1
    exact ⟨a, G.C, dx, _, x, rfl, w1.sub _ _ h1, by rw [lk.K]; exact T.cls, by rw [lk.K]; exact T.no, rfl, (ev_dat w1 h2 r).back s1⟩⟩
/-- o.m(e, ..) -/
theorem ex_meth (T : Kf G) (M : Mg G m k Φ) (hk : k ≤ c.k) (hm : (m == ("own_sums" : Str)) = false) (pl : Sem Bool) (h : EX G c o ρ n fun d n1 => ∃ ks, d = .obj ks ∧ AX G c (e :: es) ρ n1 fun ds n2 => Φ (.obj ks :: ds) n2 R)
    (hst : ∀ env, starEach (e :: es) env = (false, eval e env) :: starEach es env := by intro _; rfl) (hpl : ∀ env, (backTo pos (starEach es env)).any (·.1) = false := by intro _; rfl)
    (ht : ∀ env, eval (.Call (.Attribute o m apos) (e :: es) [] pos) env = (do
      let ov ← eval o env
      standAt apos.atName
      let (f, first) ← holding [ov] (getMethod ov m pl)
      callWith pos f first (backTo pos (starEach (e :: es) env)) (backToKw pos (keywordEach [] env))) := by intro _; rfl) : EX G c (.Call (.Attribute o m apos) (e :: es) [] pos) ρ n R := ex_pe fun X lk => by
  obtain ⟨f, hmt, F⟩ := M.ex
  rw [← lk.prog, ← lk.w, ← lk.K, ← lk.mg, ← lk.base] at F
  rw [← lk.K] at hmt
  refine ⟨_, pe_methR (pl := pl) (pe_wp o) (by rw [lk.K]; exact T.cls) hmt F (lk.room.mono hk) pass0 (pa_wp _) (hst _) (hpl _) (ht _), fun σ H0 L H w en => ?_⟩
  refine ex_wp h lk w en fun v H1 ⟨d, L1, n1, s1, w1, i1, _, ks, e1, r⟩ => ?_
  subst e1
  obtain ⟨a, dx, x, rfl, h1, h2⟩ := id i1
  refine ⟨a, dx, _, rfl, w1.sub _ _ h1, by rw [List.lookup_cons, hm]; rfl, ax_wp r lk w1 (en.go s1) fun vs H2 ⟨ds, L2, n2, s2, w2, i2, q⟩ => ?_⟩
  exact sp_of w2 (.cons (i1.go s2) i2) q fun v H' z => z.back (s1.trans s2)
/-- o.form -/
theorem ex_prop (T : Kf G) (M : Pg G m k Φ) (hk : k + 1 ≤ c.k) (h : EX G c o ρ n fun d n1 => ∃ ks, d = .obj ks ∧ Φ [.obj ks] n1 R) (hb : ∀ env, attributeBase o m env (eval o env) = eval o env := by intro _; rfl) : EX G c (.Attribute o m pos) ρ n R := ex_pe fun X lk => by
  obtain ⟨p, f, fd, hp, bd, F⟩ := M.ex
  rw [← lk.prog, ← lk.w, ← lk.K, ← lk.mg, ← lk.base] at F
  rw [← lk.K] at hp bd
  refine ⟨_, pe_prop (dvs := []) (E := E0) (pe_wp o) (by rw [lk.K]; exact T.cls) hp F (lk.room.mono hk) bd .nil (fun _ _ _ _ _ _ _ h => h.elim) (hb _), fun σ H0 L H w en => ?_⟩
  refine ex_wp h lk w en fun v H1 ⟨d, L1, n1, s1, w1, i1, _, ks, e1, r⟩ => ?_
  subst e1
  obtain ⟨a, dx, x, rfl, h1, h2⟩ := id i1
  exact ⟨a, dx, _, rfl, w1.sub _ _ h1, sp_of w1 (.cons i1 .nil) r fun v H' z => z.back s1⟩
/-- Sums(e) -/
theorem ex_make {Φ : SigI} (T : Kf G) (M : Ini G k Φ) (hk : k + 1 ≤ c.k) (hg : c.sc.names.lookup ("Sums" : Str) = some .globalImplicit) (h : AX G c (e :: es) ρ n fun ds n1 => Φ ds n1 fun ks n2 => R (.obj ks) n2)
    (he : ∀ env, starEach (e :: es) env = (false, eval e env) :: starEach es env := by intro _; rfl) (hpl : ∀ env, (backTo pos (starEach es env)).any (·.1) = false := by intro _; rfl) : EX G c (.Call (.Name "Sums" p) (e :: es) [] pos) ρ n R := ex_pe fun X lk => by
  obtain ⟨f, mk, F⟩ := M.ex
  rw [← lk.prog, ← lk.w, ← lk.K, ← lk.mg, ← lk.base] at F
  rw [← lk.K] at mk
  refine ⟨_, StX.pe_makeR (E := E0) mk F (lk.room.mono hk) (gl_of lk hg) (by rw [lk.mg]; exact T.mg) pass0 (pa_wp _) (by decide) (he _) (hpl _), fun σ H0 L H w en => ?_⟩
  refine ax_wp h lk w en fun vs H1 ⟨ds, L1, n1, s1, w1, i1, q⟩ => fun a dx ha hdx hne => ?_
  refine ⟨c.src, L1, H1, n1, a, dx, vs, ds, _, rfl, ha, hdx, hne, rfl, w1, i1, q, fun H' L' n' x ks s2 w2 la h2 hx r => ⟨rfl, ?_⟩⟩
  obtain ⟨s3, w3⟩ := freeze s2 w2 ha la (w1.nsrc ha) h2
  exact ⟨.obj ks, upd L' a _, n', s1.trans s3, w3, ⟨a, dx, x, rfl, upd_same, ex_dp (same_new la) hx⟩, .no rfl, r⟩
/-- a + b by the own __add__ -/
theorem o_addO {k1 k2 : List (List Int)} (T : Kf G) (M : Mg G "__add__" k Φ) (hk : k ≤ c.k) (h : Φ [.obj k1, .obj k2] n R) : OP G c (binaryOp .Add) (.obj k1) (.obj k2) n R := fun X lk => by
  obtain ⟨f, hmt, F⟩ := M.ex
  rw [← lk.prog, ← lk.w, ← lk.K, ← lk.mg, ← lk.base] at F
  rw [← lk.K] at hmt
  refine ⟨fun x y H Q => ∃ a b dx dy fs gs, x = .ref a ∧ y = .ref b ∧ H a = some (.ins G.C dx fs) ∧ H b = some (.ins G.C dy gs) ∧ spD G Φ [x, y] H Q E0, fun pins s σ H x y u v Q I rx ry hh => ?_, fun L H x y w i1 i2 => ?_⟩
  · obtain ⟨a, b, dx, dy, fs, gs, rfl, rfl, ea, eb, sp⟩ := hh
    obtain rfl : u = Value.ref a := rx
    obtain rfl : v = Value.ref b := ry
    obtain ⟨mA, O, _, _, _, _⟩ := ins_get I.hok ea
    obtain ⟨od, J, _⟩ := O.look
    obtain ⟨mB, O2, _, _, _, _⟩ := ins_get I.hok eb
    obtain ⟨od2, J2, _⟩ := O2.look
    obtain ⟨m0, hn0, _⟩ := I.loc
    have F0 : PyProof.Rows.Fr X.base X.env.locals s.heap m0 := ⟨hn0, I.bk, Nat.le_trans I.ok.bsz I.ok.above⟩
    refine PySem.W.binop_K F0 I.ok.mod.kin J J2.type (by rw [lk.K]; exact T.first) hmt.at_ hmt.fn ?_
    refine wpAny_mono (wpAny_call (codeAny_mono (run_fnR (vs := [V.ref a, V.ref b]) (us := [Value.ref a, Value.ref b]) F (lk.room.mono hk) pass0 I (.cons rfl (.cons rfl .nil)) sp) fun r s' q => ?_)) (fun z s' q => q) fun _ _ e => e
    cases r with
    | error e => exact q
    | ok fl =>
      cases fl with
      | ret z =>
        obtain ⟨v', H', I', rv, q⟩ := q
        exact cmp_back rv ⟨v', H', I', rv, q⟩
      | next => exact q
      | brk => exact q
      | cont => exact q
  · obtain ⟨a, dx, x1, rfl, h1, h2⟩ := id i1
    obtain ⟨b, dy, x2, rfl, h3, h4⟩ := id i2
    exact ⟨a, b, dx, dy, _, _, rfl, rfl, w.sub _ _ h1, w.sub _ _ h3, sp_of w (.cons i1 (.cons i2 .nil)) h fun v H' z => z⟩
end
section
variable {G : Wd} {qual : Str} {st : Stmt} {f : Addr} {fd : FuncData} {N ps : List Str} {k : Nat} {Φ : SigI} {s1 s2 : Stmt} {e : Expr} {p1 p2 p3 : Pos} {self : Str}
def IniNx (G : Wd) (c : Cxt) (a dx : Addr) (e : Expr) (R : List (List Int) → Nat → Prop) (ρ2 : Rho) (n2 : Nat) : Prop :=
  ρ2[0]? = some (some (.fresh a dx)) ∧ EX G c e ρ2 n2 fun d n3 => ∃ ks, d = .dat (sD ks) ∧ R ks n3
theorem ini_def (T : Kf G) (F : Fun G.K "__init__" qual st f fd) (S : FnScope N (self :: ps) (defScope st)) (bd : Binds G.K fd (self :: ps) []) (M : Mk G.K G.C f) (hbd : defBody st = [s1, s2, .Assign [.Attribute (.Name self p1) "own_sums" p2] e p3])
    (hself : N[0]? = some self) (hΦ : ∀ ds n R, Φ ds n R → ds.length = ps.length ∧ ∀ d ∈ ds, mine d = false)
    (hb : ∀ src a dx ds n R, Φ ds n R → SX G ⟨N, defScope st, k, src, fun _ => true⟩ s1 (rho0 N (.fresh a dx :: ds)) n { rt := fun _ _ => False, nx := fun ρ1 n1 => SX G ⟨N, defScope st, k, src, fun _ => true⟩ s2 ρ1 n1 { rt := fun _ _ => False, nx := IniNx G ⟨N, defScope st, k, src, fun _ => true⟩ a dx e R } })
    (hs : ∀ env, swapsWith e (some (.Attribute (.Name self p1) "own_sums" p2)) p3.line env = pure false := by intro _; rfl) (hdb : (self == ("__debug__" : Str)) = false := by decide) (hcd : (self == ("__classdict__" : Str)) = false := by decide) : Ini G (k + 1) Φ := by
  refine ⟨f, M, ?_⟩
  have ok : FnOk G.P G.w G.K G.mg G.base CX0 (k + 1) f fd (self :: ps) (spI G Φ) := by
    refine F.ok S (fun vs H Q E h => ?_) (fun cdv A outer s H vs Q E hr h => ?_)
    · obtain ⟨src, L, H0, n, a, dx, ws, ds, R, rfl, _, _, _, _, _, i, p, _⟩ := h
      rw [List.length_cons, List.length_cons, paired_len i, (hΦ ds n R p).1]
    obtain ⟨src, L, H0, n, a, dx, ws, ds, R, rfl, h0, hdx, hne, rfl, w0, i, p, q⟩ := h
    obtain ⟨h1, h2⟩ := hΦ ds n R p
    let c : Cxt := ⟨N, defScope st, k, src, fun _ => true⟩
    have ha1 : (upd H0 dx (.own a)) a = none := by rw [upd_ne (Ne.symm hne)]; exact h0
    have t0 : Step src L H0 L (upd (upd H0 dx (.own a)) a (.ins G.C dx [])) := (Step.up (.own a) hdx).trans (Step.up (.ins G.C dx []) ha1)
    have w1 : Wl G src L (upd (upd H0 dx (.own a)) a (.ins G.C dx [])) n := (w0.up (.own a) hdx).up (.ins G.C dx []) ha1
    generalize hH : upd (upd H0 dx (.own a)) a (.ins G.C dx []) = H at t0 w1
    have hHa : H a = some (.ins G.C dx []) := by rw [← hH]; exact upd_same
    have lk := like_def (G := G) (qual := qual) (f := f) (cdv := cdv) (outer := outer) (s := s) (H := H) (E := E) (src := src) S hr
    -- the slots at the entry
    have lo : ∀ {j : Nat} {d : D}, (rho0 N (.fresh a dx :: ds))[j]? = some (some d) → (DL.D.fresh a dx :: ds)[j]? = some d := fun {j d} h => by
      unfold rho0 at h
      by_cases hj : j < (DL.D.fresh a dx :: ds).length
      · rw [List.getElem?_append_left (by simpa using hj), List.getElem?_map] at h
        cases e : (DL.D.fresh a dx :: ds)[j]? with
        | none => rw [e] at h; cases h
        | some a => rw [e] at h; cases h; rfl
      · rw [List.getElem?_append_right (by simpa using hj), List.getElem?_replicate] at h
        split at h <;> cases h
    have hpl : ps.length + 1 ≤ N.length := by have := congrArg List.length S.pre; rw [List.length_take, List.length_cons] at this; omega
    have hv := paired_len i
    have i1 : IsAll G src L H (.ref a :: ws) (.fresh a dx :: ds) := .cons ⟨rfl, w0.none_of h0, w0.nsrc h0, hHa⟩ (Paired.go i t0)
    have onlyz : ∀ {j : Nat} {d : D}, (DL.D.fresh a dx :: ds)[j]? = some d → mine d = true → j = 0 := fun {j d} h m => by
      cases j with
      | zero => rfl
      | succ j => rw [List.getElem?_cons_succ] at h; rw [h2 d (List.mem_of_getElem? h)] at m; cases m
    have st0 : ∀ j, (L2.start N (.ref a :: ws))[j]? = if j < (V.ref a :: ws).length then ((V.ref a :: ws)[j]?).map some else (L2.start N (.ref a :: ws))[j]? := fun j => by
      split
      · rename_i hj
        unfold L2.start
        rw [List.getElem?_append_left (by rw [List.length_map]; exact hj), List.getElem?_map]
      · rfl
    have en : En G c H0 L H (L2.start N (.ref a :: ws)) (rho0 N (.fresh a dx :: ds)) := by
      refine ⟨?_, fun j d h => ?_, fun j d p h m r => ?_, fun j k d e p hn h1 h2 m1 m2 r1 r2 => absurd ((onlyz (lo h1) m1).trans (onlyz (lo h2) m2).symm) hn⟩
      · unfold L2.start
        rw [List.length_append, List.length_map, List.length_replicate, List.length_cons]
        show _ = N.length
        omega
      · have hd := lo h
        obtain ⟨v, hvj, iv⟩ := paired_at i1 hd
        have hj : j < (V.ref a :: ws).length := (List.getElem?_eq_some_iff.mp hvj).1
        have hj2 : j < (self :: ps).length := by rw [List.length_cons] at hj ⊢; omega
        refine ⟨(self :: ps)[j], v, ?_, ?_, ?_, iv⟩
        · have e : (N.take (self :: ps).length)[j]? = some (self :: ps)[j] := by rw [S.pre]; exact List.getElem?_eq_getElem hj2
          rwa [List.getElem?_take_of_lt hj2] at e
        · exact (S.par _ (List.getElem_mem _)).elim .inl fun q => .inr (.inl q)
        · rw [st0, if_pos hj, hvj] <;> rfl
      · have z := onlyz (lo h) m
        subst z
        rw [st0, if_pos (by simp)] at r
        cases r
        exact h0
    have hb' := hb src a dx ds n R p
    refine ⟨_, by rw [hbd]; exact pss_cons (ps_wp s1) (pss_cons (ps_wp s2) (pss_cons (ps_fld (pe_wp (.Name self p1)) (pe_wp e) (hs _)) pss_nil)), ?_⟩
    refine sx_wp hb' lk t0 w1 en (fun σ1 H1 ⟨L1, ρ1, n1, t1, w1, en1, z1⟩ => ?_) (fun _ _ ⟨_, _, _, _, _, _, _, z⟩ => z.elim) (fun _ _ ⟨_, _, _, _, _, _, z⟩ => z.elim) fun _ _ ⟨_, _, _, _, _, _, z⟩ => z.elim
    refine sx_wp z1 lk t1 w1 en1 (fun σ2 H2 ⟨L2, ρ2, n2, t2, w2, en2, z2, z3⟩ => ?_) (fun _ _ ⟨_, _, _, _, _, _, _, z⟩ => z.elim) (fun _ _ ⟨_, _, _, _, _, _, z⟩ => z.elim) fun _ _ ⟨_, _, _, _, _, _, z⟩ => z.elim
    refine ex_wp z3 lk w2 en2 fun v H3 ⟨d, L3, n3, t3, w3, i3, _, ks, ed, r⟩ => ?_
    subst ed
    obtain ⟨y, u, e1, e2, e3, e4⟩ := en2.at_ 0 _ z2
    obtain ⟨rfl, l2, ns2, a2⟩ := e4
    obtain ⟨l3, a3⟩ := stay_at t3 l2 a2 ns2
    have pv : PE _ (.Name self p1) (tVar 0) := pe_var (X := (cxOf CX0 G.P G.w G.K G.mg G.base N qual (defScope st) f cdv A outer s H E).nox) (pos := p1) hself (by
      have e5 : N[0]? = some y := e1
      rw [hself] at e5
      cases e5
      exact e2) hdb hcd
    refine fun pins sh I => pv.run pins sh σ2 H3 _ I ⟨.ref a, e3, ?_⟩
    refine ⟨a, G.C, dx, [], rfl, a3, T.cls, T.no, Nat.zero_lt_succ _, ?_⟩
    have tt := t2.trans t3
    exact q (upd H3 a (.ins G.C dx [(("own_sums" : Str), v)])) L3 n3 v ks (tt.wrote h0 a3) (w3.wrote l3 ns2) l3 upd_same i3 r
  have raw := ok.raw bd .nil
  exact raw.imp fun vs H Q E h => by rw [List.append_nil]; exact h
end
end DL
/-! t * 0, t * 1. -/
namespace HS
open PySem PySem.Spec PyProof.Rows L2
open AutoSeq1 (wpAny_loadPart')
theorem mul_none (l : Addr) (items : Array Value) (n : Nat) (dd : Option Addr) (sl : Array (Option Value)) (u : Tok) (c1 : items.isEmpty = false) :
    Meets (Builtin.«tuple.__mul__» ⟨[.ref l, .int 0 u], []⟩) (fun _ R s => s.heap.get? l = some { cls := .type "tuple", dict := dd, data := .seq items n, slots := sl } ∧
      R (.ok (.ret (Value.ref s.heap.objs.size))) { s with heap := s.heap.push { cls := Value.type "tuple", data := Data.seq #[] }, toks := s.toks }) :=
  .of_wp fun prog w A R s h => by
    obtain ⟨hp, g, d, tk, os⟩ := s
    obtain ⟨hl, h⟩ := h
    have f1 := AutoSeq1.idx_int
    have c2 : (items.isEmpty || (0 : Int) == 1) = false := by rw [c1]; rfl
    wp_walk using wpAny_loadPart' hl
    repeat (first
      | (refine wpAny_ite_false (decide_eq_false (by rw [c2]; exact Bool.false_ne_true)) ?_; wp_walk using wpAny_loadPart' hl))
    exact ⟨_, rfl, h⟩
theorem mul_one (l : Addr) (items : Array Value) (n : Nat) (sl : Array (Option Value)) (u : Tok) (dd : Option Addr) :
    Meets (Builtin.«tuple.__mul__» ⟨[.ref l, .int 1 u], []⟩) (fun _ R s => s.heap.get? l = some { cls := .type "tuple", dict := dd, data := .seq items n, slots := sl } ∧
      R (.ok (.ret (Value.ref l))) s) :=
  .of_wp fun prog w A R s h => by
    obtain ⟨hp, g, d, tk, os⟩ := s
    obtain ⟨hl, h⟩ := h
    have f1 := AutoSeq1.idx_int
    have c2 : (items.isEmpty || (1 : Int) == 1) = true := by simp
    wp_walk using wpAny_loadPart' hl
    exact ⟨_, rfl, h⟩
section
variable {X : Cx}
def rRepA (K : PySem.W.Frag) : R2 := fun x y H Q => ∃ l k xs, x = .ref l ∧ y = .int k ∧ SqT K H l xs ∧ xs ≠ [] ∧ 0 ≤ k ∧ k ≤ 1000 ∧ xs.length ≤ 1000 ∧ (k = 1 → Q (.ref l) H) ∧ (k ≠ 1 → ∀ p, H p = none → Q (.ref p) (upd H p (.tup (List.replicate k.toNat xs).flatten)))
theorem op_repA : OpR X (binaryOp .Mult) (rRepA X.K) := fun pins s σ H x y v u Q I rx ry h => by
  obtain ⟨l, k, xs, rfl, rfl, hT, hne, h1, h2, hz, q1, q2⟩ := h
  by_cases hk : 2 ≤ k
  · exact op_repT pins s σ H _ _ v u Q I rx ry ⟨l, k, xs, rfl, rfl, hT, hne, hk, h2, hz, q2 (by omega)⟩
  cases rx
  obtain ⟨t, rfl⟩ := ry
  obtain ⟨its, r, ⟨⟨cls, dd, data, sl⟩, ho, hc, n, hd⟩, hs⟩ := I.tuple hT
  simp only at hc hd
  subst hc hd
  have hi : its.toArray.isEmpty = false := by
    cases its with
    | nil => exact absurd (List.eq_nil_of_length_eq_zero r.length) hne
    | cons a b => rfl
  have hk2 : k = 0 ∨ k = 1 := by omega
  rcases hk2 with rfl | rfl
  · refine wpAny_binaryOp_repeat_ref (T := "tuple") (U := "int") (by decide) ⟨_, ho, rfl⟩ (fun s' => typeIs_int s' 0 t) noFill_tuple_mul F.fills_int_mul F.slot_int_rmul repeat_tuple F.slot_int_index.lookup
      (call_meets F.slot_int_rmul (typeIs_int s 0 t) F.entry_int_rmul (F.args_int_rmul_2 _ _) (int_rmul_tuple 0 t l its.toArray n dd sl)
        ⟨ho, rfl, ⟨_, ho, rfl⟩, call_meets F.slot_tuple_mul ⟨_, ho, rfl⟩ F.entry_tuple_mul (F.args_tuple_mul_2 _ _) (mul_none l its.toArray n dd sl t hi) ⟨ho, ?_⟩⟩)
    exact ⟨.ref s.heap.objs.size, _, I.laid (t' := s.toks) (o := .tup []) (fun b ob q => Heap.get?_push_of_some _ q) (Nat.le_refl _) ⟨Nat.zero_le _, [], .nil, IsTup.new _ _⟩, rfl, q2 (by omega) _ (I.hok.fresh (Nat.le_refl _))⟩
  · refine wpAny_binaryOp_repeat_ref (T := "tuple") (U := "int") (by decide) ⟨_, ho, rfl⟩ (fun s' => typeIs_int s' 1 t) noFill_tuple_mul F.fills_int_mul F.slot_int_rmul repeat_tuple F.slot_int_index.lookup
      (call_meets F.slot_int_rmul (typeIs_int s 1 t) F.entry_int_rmul (F.args_int_rmul_2 _ _) (int_rmul_tuple 1 t l its.toArray n dd sl)
        ⟨ho, rfl, ⟨_, ho, rfl⟩, call_meets F.slot_tuple_mul ⟨_, ho, rfl⟩ F.entry_tuple_mul (F.args_tuple_mul_2 _ _) (mul_one l its.toArray n sl t dd) ⟨ho, ?_⟩⟩)
    exact ⟨.ref l, H, I, rfl, q1 rfl⟩
end
end HS
/-! The data level: small rules. -/
namespace DL
open PySem PySem.Spec L2
section
variable {G : Wd} {c : Cxt} {a b d e o : Expr} {es : List Expr} {ρ : Rho} {n : Nat} {R : D → Nat → Prop} {RT : Bool → Nat → Prop} {pos p p2 p3 apos cpos : Pos}
/-! ### defs with a star parameter -/
theorem sg_star {x qual pv : Str} {st : Stmt} {f : Addr} {fd : FuncData} {N ps : List Str} {k : Nat} {Φ : Sig} (F : Fun G.K x qual st f fd) (S : FnScope N (ps ++ [pv]) (defScope st)) (hx : G.mg x = some (.ref f))
    (hbind : ∀ (kV doc pm : Value) (an : Option Addr) (cdv ct : Value) (us rest : List Value), us.length = ps.length → bindArgs (PySem.W.fnOf x qual (defArgs st) (defBody st) (defScope st) .none kV doc pm an cdv ct) ⟨us ++ rest, []⟩ = (newTuple rest >>= fun t => pure (ps.zip us ++ [(pv, t)])))
    (hΦ : ∀ ds n R, Φ ds n R → ∃ (ws : List D) (rest : List Dat), ds = ws ++ rest.map D.dat ∧ ws.length = ps.length ∧ (∀ d ∈ ws, mine d = false) ∧ rest.length ≤ 1000)
    (hb : ∀ (src : Option Addr) (ws : List D) (rest : List Dat) n R, ws.length = ps.length → Φ (ws ++ rest.map D.dat) n R → SXs G ⟨N, defScope st, k, src, fun _ => true⟩ (defBody st) (rho0 N (ws ++ [dT rest])) n { nx := fun _ n' => R (.dat .none) n', rt := R }) : Sg G x (k + 1) Φ := by
  obtain ⟨oc, od, kV, doc, pm, an, cdv, ct, osl, rfl, lk, hcd⟩ := F.ex
  have FR := StX.fn_star (P := G.P) (w := G.w) (mg := G.mg) (base := G.base) (CX := CX0) (k := k) (sp := spD G fun ds n R => ∃ (ws : List D) (rest : List Dat), ds = ws ++ [dT rest] ∧ ws.length = ps.length ∧ (∀ d ∈ ws, mine d = false) ∧ Φ (ws ++ rest.map D.dat) n R) lk hcd S StX.cxUp_none (fun us rest hl => hbind kV doc pm an cdv ct us rest hl) (fun A outer s H vs Q E hr h => ?_)
  · refine ⟨f, hx, F.kp, FR.imp fun vs H Q E h => ?_⟩
    obtain ⟨src, L, n, ds, R, w, i, ph, q⟩ := h
    obtain ⟨ws, rest, rfl, hl, hm, hz⟩ := hΦ ds n R ph
    have split : ∀ {ws : List D} {rest : List Dat} {vs : List V}, IsAll G src L H vs (ws ++ rest.map D.dat) → ∃ v1 v2, vs = v1 ++ v2 ∧ IsAll G src L H v1 ws ∧ DpAll G.K L v2 rest := by
      intro ws
      induction ws with
      | nil =>
        intro rest vs i
        refine ⟨[], vs, rfl, .nil, ?_⟩
        rw [List.nil_append] at i
        clear ph q hz
        induction rest generalizing vs with
        | nil => cases i; exact .nil
        | cons r rest ih => cases i with | cons a b => exact .cons a (ih b)
      | cons d ws ih =>
        intro rest vs i
        cases i with
        | cons a b =>
          obtain ⟨v1, v2, rfl, h1, h2⟩ := ih b
          exact ⟨_ :: v1, v2, rfl, .cons a h1, h2⟩
    obtain ⟨v1, v2, rfl, i1, i2⟩ := split i
    have l2 := dps_len i2
    refine ⟨v1, v2, rfl, by rw [paired_len i1, hl], by rw [l2]; exact Nat.le_of_lt (small1000 hz), fun p hp => ?_⟩
    have st := Step.newB w (.tup v2) hp
    refine ⟨src, upd L p (.tup v2), n, ws ++ [dT rest], R, w.both _ hp, isall_app (Paired.go i1 st) (.cons (Dp.tup (SqT.of upd_same) (ex_dps (same_new (w.none_of hp)) i2)) .nil), ⟨ws, rest, rfl, hl, hm, ph⟩, fun v H' z => q v H' (z.back st)⟩
  · obtain ⟨src, L, n, ds, R, w, i, ⟨ws, rest, rfl, hl, hm, ph⟩, q⟩ := h
    have en := en_start (c := ⟨N, defScope st, k, src, fun _ => true⟩) rfl S (by rw [List.length_append, List.length_append, hl] <;> rfl) (fun d hd => (List.mem_append.mp hd).elim (hm d) fun z => by rw [List.mem_singleton.mp z] <;> rfl) i
    refine ⟨_, (pss_wp (X := (cxOf CX0 G.P G.w G.K G.mg G.base N qual (defScope st) f cdv A outer s H E).nox) (defBody st)).nox, sxs_wp (hb src ws rest n R hl ph) (like_def S hr) (.refl _ _ _) w en (fun σ H' ⟨L', ρ', n', s', w', en', r⟩ => ?_) (fun v H' ⟨d, L', n', s', w', i', nw, r⟩ => q v H' ⟨d, L', n', s', w', i', nw, r⟩) (fun _ _ ⟨_, _, _, _, _, _, z⟩ => z.elim) fun _ _ ⟨_, _, _, _, _, _, z⟩ => z.elim⟩
    exact q .non H' ⟨.dat .none, L', n', s', w', .non, .no rfl, r⟩

/-! ### a op b op' c, of ints -/
theorem ex_chain {op op' : CmpOp} (h : EX G c a ρ n fun d1 n1 => EX G c b ρ n1 fun d2 n2 => OP G c (compareOp op) d1 d2 n2 (asB fun k n3 => if k = true then EX G c d ρ n3 fun d3 n4 => OP G c (compareOp op') d2 d3 n4 R else R (dB false) n3))
    (hm : ∀ X : Cx, Like G c X → lastMarks [op, op'] [b, d] = false := by intro _ _; with_unfolding_all rfl) : EX G c (.Compare a [op, op'] [b, d] pos) ρ n R := ex_pe fun X k => by
  refine ⟨_, pe_chain (r := fun x y H Q => ∀ pins s σ v u, Inv X pins σ H s → RelV x v → RelV y u → wpAny (model X.prog X.w) X.A (compareOp op v u) (EP X pins σ Q) X.xe s) (r' := fun x y H Q => ∀ pins s σ v u, Inv X pins σ H s → RelV x v → RelV y u → wpAny (model X.prog X.w) X.A (compareOp op' v u) (EP X pins σ Q) X.xe s)
    (fun pins s σ H x y v u Q I rx ry q => q pins s σ v u I rx ry) (fun pins s σ H x y v u Q I rx ry q => q pins s σ v u I rx ry) (pe_wp a) (pe_wp b) (pe_wp d) (hm X k), fun σ H0 L H w en => ?_⟩
  refine ex_wp h k w en fun x H1 ⟨d1, L1, n1, s1, w1, i1, nw1, r1⟩ => ex_wp r1 k w1 (en.go s1) fun y H2 ⟨d2, L2, n2, s2, w2, i2, nw2, r2⟩ => ?_
  obtain ⟨r, ho, q⟩ := r2 X k
  refine fun pins s σ' v u I rx ry => thn (ho pins s σ' H2 x y v u _ I rx ry (q L2 H2 x y w2 (i1.go s2) i2)) fun z s'' ⟨v', H3, I3, r3, dd, L3, n3, s3, w3, i3, _, kk, e3, q3⟩ => ⟨v', H3, I3, r3, ?_⟩
  subst e3
  refine ⟨kk, dp_bl i3, ?_⟩
  have st := (s1.trans s2).trans s3
  cases kk with
  | false => exact ⟨dB false, L3, n3, st, w3, .bl false, .no rfl, q3⟩
  | true =>
    refine ex_wp q3 k w3 (en.go st) fun w' H4 ⟨d3, L4, n4, s4, w4, i4, nw4, r4⟩ => ?_
    obtain ⟨r', ho', q'⟩ := r4 X k
    exact fun pins s σ'' v u I rx ry => thn (ho' pins s σ'' H4 y w' v u _ I rx ry (q' L4 H4 y w' w4 (i2.go (s3.trans s4)) i4)) fun z s'' ⟨v', H5, I5, r5, z5⟩ => ⟨v', H5, I5, r5, z5.back (st.trans s4)⟩

/-! ### small operators -/
theorem ex_neg {i : Int} {j : Nat} (r : R (dI (-i)) n) : EX G c (.UnaryOp .USub (.Constant (.int i) j p) pos) ρ n R := ex_pe fun X k => ⟨_, pe_un un_neg pe_int, fun _ _ _ _ w _ => ⟨i, rfl, ev_dat w (.int _) r⟩⟩
def isNone : Dat → Bool
  | .none => true
  | _ => false
theorem dp_none {K : PySem.W.Frag} {H : Hp} {v : V} {d : Dat} (h : Dp K H v d) : decide (v = .non) = isNone d := by cases h <;> rfl
theorem tx_notN {j : Nat} (h : EX G c a ρ n fun d n1 => ∃ x, d = .dat x ∧ RT (!isNone x) n1) : TX G c (.Compare a [.IsNot] [.Constant .none j p] pos) ρ n RT := tx_pt fun X k =>
  ⟨_, pt_cmp (pc_notN (pe_wp a)), fun σ H0 L H w en => ex_wp h k w en fun v H1 ⟨d, L1, n1, s1, w1, i1, _, x, e1, r⟩ => by
    subst e1
    exact ⟨_, rfl, L1, n1, s1, w1, by rw [dp_none i1]; exact r⟩⟩
theorem o_mulT {xs : List Dat} {k : Int} (hne : xs ≠ []) (h0 : 0 ≤ k) (h1 : k ≤ 1000) (hz : xs.length ≤ 1000) (r : R (dT (List.replicate k.toNat xs).flatten) n) : OP G c (binaryOp .Mult) (dT xs) (dI k) n R := fun X lk =>
  ⟨_, HS.op_repA, fun L H u v w i1 i2 => by
    obtain ⟨q, vs, rfl, h2, hr⟩ := dp_tup i1
    obtain rfl := dp_int i2
    refine ⟨q, k, vs, rfl, rfl, by rw [lk.K]; exact ex_t w.sub h2, fun e => hne ?_, h0, h1, by rw [dps_len hr]; exact hz, fun e => ?_, fun _ p hp => ev_tup w hp (rep_dps hr k.toNat) r⟩
    · subst e
      exact List.length_eq_zero_iff.mp (by rw [← dps_len hr] <;> rfl)
    · subst e
      have e1 : (List.replicate (1 : Int).toNat xs).flatten = xs := by simp
      rw [e1] at r
      exact ev_dat w i1 r⟩
/-- < of tuples of ints -/
theorem o_ltT {x y : List Int} (r : R (dB (HT.lexLt x y)) n) : OP G c (compareOp .Lt) (.dat (iD x)) (.dat (iD y)) n R := fun X lk =>
  ⟨_, op_ltT (by have := lk.units; omega), fun L H u v w i1 i2 => by
    obtain ⟨p, rfl, h1⟩ := dp_iD i1
    obtain ⟨q, rfl, h2⟩ := dp_iD i2
    exact ⟨p, q, x, y, rfl, rfl, by rw [lk.K]; exact ex_t w.sub h1, by rw [lk.K]; exact ex_t w.sub h2, ev_dat w (.bl _) r⟩⟩
/-- l.index(x), the items and x shaped data -/
theorem ex_indexL (h : EX G c o ρ n fun d n1 => ∃ ys : List Str, d = dL (ys.map PyData.str) ∧ SeqAt.shaped (.list (ys.map PyData.str)) = true ∧ EX G c e ρ n1 fun d2 n2 => ∃ (z : Str) (j : Nat), d2 = dS z ∧ SeqAt.shaped (.str z) = true ∧ ys[j]? = some z ∧ (∀ m, m < j → ys[m]? ≠ some z) ∧ R (dI j) n2)
    (hbase : ∀ env, attributeBase o "index" env (eval o env) = eval o env := by intro _; rfl) (hline : (apos.endLine == cpos.line) = true := by rfl) (hs : ∀ env, starEach [e] env = [(false, eval e env)] := by intro _; rfl) : EX G c (.Call (.Attribute o "index" apos) [e] [] cpos) ρ n R := ex_pe fun X k => by
  refine ⟨_, pe_bm PySem.F.plainAttrs_list PySem.F.slot_list_index PySem.F.type_list_index (mt_indexD (by have := k.units; omega)) (pe_wp o) (pa_cons (pe_wp e) pa_nil (hs _)) (hbase _) (by rw [show backTo cpos (starEach [e] X.env) = backTo cpos [(false, eval e X.env)] from congrArg _ (hs _)]; rfl) hline (hs _) rfl, fun σ H0 L H w en => ?_⟩
  refine ex_wp h k w en fun v H1 ⟨d, L1, n1, s1, w1, i1, _, ys, e1, sh, r1⟩ => ?_
  subst e1
  obtain ⟨p, vs, rfl, h1, h2⟩ := dp_lst i1
  refine ⟨.inl ⟨rfl, vs, by rw [k.K]; exact ex_l w1.sub h1⟩, ?_⟩
  refine ex_wp r1 k w1 (en.go s1) fun u H2 ⟨d2, L2, n2, s2, w2, i2, _, z, j, e2, sz, g1, g2, r2⟩ => ?_
  subst e2
  refine ⟨p, u, .str z, ys.map PyData.str, j, .str z, rfl, rfl, by rw [k.K]; exact ex_dp (s2.grow.trans w2.sub) i1, by rw [k.K]; exact ex_dp w2.sub i2, sh, sz, by rw [List.getElem?_map, g1]; rfl, by simp [PyData.eqv], fun m z' hm hz => ?_, (ev_dat w2 (.int _) r2).back (s1.trans s2)⟩
  rw [List.getElem?_map] at hz
  cases hq : ys[m]? with
  | none => rw [hq] at hz; cases hz
  | some y =>
    rw [hq] at hz
    cases hz
    have ne : y ≠ z := fun e => g2 m hm (by rw [hq, e])
    simpa [PyData.eqv] using ne
/-- list(range(a)) -/
theorem ex_listRange (hgl : c.sc.names.lookup ("list" : Str) = some .globalImplicit) (hml : G.mg "list" = none) (hg : c.sc.names.lookup ("range" : Str) = some .globalImplicit) (hm : G.mg "range" = none) (h : EX G c a ρ n fun d n1 => ∃ m : Int, d = dI m ∧ 0 ≤ m ∧ m ≤ 1000 ∧ R (.own (rngD 0 m.toNat)) n1)
    (hs : ∀ env, starEach [a] env = (false, eval a env) :: starEach [] env := by intro _; rfl) (hs2 : ∀ env, starEach [.Call (.Name "range" p2) [a] [] p3] env = (false, eval (.Call (.Name "range" p2) [a] [] p3) env) :: starEach [] env := by intro _; rfl) : EX G c (.Call (.Name "list" p) [.Call (.Name "range" p2) [a] [] p3] [] pos) ρ n R := ex_pe fun X k => by
  refine ⟨_, pe_listRg k.calm (gl_of k hgl) (by rw [k.mg]; exact hml) (prg_1 (gl_of k hg) (by rw [k.mg]; exact hm) (pe_wp a) (hs _)) (hs2 _), fun σ H0 L H w en => ?_⟩
  refine ex_wp h k w en fun v H1 ⟨d, L1, n1, s1, w1, i1, _, m, e1, h0, hz, r⟩ => ?_
  subst e1
  obtain rfl := dp_int i1
  refine ⟨m, rfl, ?_⟩
  refine ⟨RgOk.of_le (Int.le_refl 0) (by omega) (by omega) h0, fun q hq => ?_⟩
  have e : rgV 0 m = (List.range m.toNat).map fun i => V.int (0 + (i : Nat)) := by unfold rgV; rw [Int.sub_zero]
  rw [e]
  have dd : DpAll G.K L1 ((List.range m.toNat).map fun i => V.int (0 + (i : Nat))) (rngD 0 m.toNat) := by
    unfold rngD
    generalize List.range m.toNat = l
    induction l with
    | nil => exact .nil
    | cons x l ih => exact .cons (.int _) ih
  exact (ev_own w1 hq dd r).back s1
/-! ### targets of several names -/
theorem sx_asgT (vs : List Nat) {ts : List Expr} {kt : Nat} {pt : Pos} {B : Bx} (h : EX G c e ρ n fun d n1 => ∃ x, d = .dat x ∧ BX G c vs (.Tuple ts kt pt) x ρ fun ρ' => B.nx ρ' n1)
    (hs : ∀ env, swapsWithSole [.Tuple ts kt pt] e pos.line env = pure false := by intro _; rfl) (hw : ∀ env, swappedStores [.Tuple ts kt pt] e env = pure none := by intro _; first | rfl | (simp [swappedStores] <;> rfl)) (h1 : ∀ env, (assignEach [.Tuple ts kt pt] env).map (·.2) = [assign (.Tuple ts kt pt) env] := by intro _; rfl) : SX G c (.Assign [.Tuple ts kt pt] e pos) ρ n B := sx_ps fun X k =>
  ⟨_, ps_asg (pe_wp e) (pg_wp _) (hs _) (hw _) (h1 _), fun L0 H0 σ L H s w en => ex_wp h k w en fun v H' ⟨d, L', n', s', w', i', _, x, e1, b⟩ => by
    subst e1
    exact fun pins st u I ru => wpAny_mono (b X k H0 L' H' σ v w'.sub i' (en.go s') pins st u I ru) (fun _ s2 ⟨σ2, H2, I2, e2, _, ρ2, en2, q⟩ => by
      subst e2
      exact ⟨σ2, H2, I2, L', ρ2, n', s.trans s', w', en2, q⟩) fun _ _ z => z⟩
end
end DL
/-! The text by places: the defs, their slots. Printed by gen_text.py. -/
namespace DL
open PySem PySem.Spec L2
def top (i : Nat) : Stmt := PySem.Challenge.pw_ownrights_k40_whole_families.main.body.getD i (.Pass ⟨0, 0, 0, 0⟩)
abbrev t_hand_names : Stmt := top 8
abbrev N_hand_names : List Str := ["store", "own"]
theorem sc_hand_names : FnScope N_hand_names ["store"] (defScope t_hand_names) := ⟨rfl, rfl, rfl, by decide +kernel, rfl, by decide +kernel, by decide +kernel⟩
abbrev t_require_hands : Stmt := top 9
abbrev N_require_hands : List Str := ["store", "hands", "names", "hand", "name"]
theorem sc_require_hands : FnScope N_require_hands ["store", "hands"] (defScope t_require_hands) := ⟨rfl, rfl, rfl, by decide +kernel, rfl, by decide +kernel, by decide +kernel⟩
abbrev t_added : Stmt := top 11
abbrev N_added : List Str := ["one", "others", "found", "other", "here", "there"]
theorem sc_added : FnScope N_added ["one", "others"] (defScope t_added) := ⟨rfl, rfl, rfl, by decide +kernel, rfl, by decide +kernel, by decide +kernel⟩
abbrev t_is_integer : Stmt := top 13
abbrev N_is_integer : List Str := ["thing"]
theorem sc_is_integer : FnScope N_is_integer ["thing"] (defScope t_is_integer) := ⟨rfl, rfl, rfl, by decide +kernel, rfl, by decide +kernel, by decide +kernel⟩
abbrev t_is_ascending : Stmt := top 14
abbrev N_is_ascending : List Str := ["some", "one", "other"]
theorem sc_is_ascending : FnScope N_is_ascending ["some"] (defScope t_is_ascending) := ⟨rfl, rfl, rfl, by decide +kernel, rfl, by decide +kernel, by decide +kernel⟩
abbrev t_are_integers : Stmt := top 15
abbrev N_are_integers : List Str := ["thing", "one"]
theorem sc_are_integers : FnScope N_are_integers ["thing"] (defScope t_are_integers) := ⟨rfl, rfl, rfl, by decide +kernel, rfl, by decide +kernel, by decide +kernel⟩
abbrev t_is_sum : Stmt := top 16
abbrev N_is_sum : List Str := ["thing", "many"]
theorem sc_is_sum : FnScope N_is_sum ["thing", "many"] (defScope t_is_sum) := ⟨rfl, rfl, rfl, by decide +kernel, rfl, by decide +kernel, by decide +kernel⟩
abbrev t_is_sums : Stmt := top 17
abbrev N_is_sums : List Str := ["thing", "many", "one"]
theorem sc_is_sums : FnScope N_is_sums ["thing", "many"] (defScope t_is_sums) := ⟨rfl, rfl, rfl, by decide +kernel, rfl, by decide +kernel, by decide +kernel⟩
abbrev t_names_of : Stmt := top 19
abbrev N_names_of : List Str := ["items", "own"]
theorem sc_names_of : FnScope N_names_of ["items"] (defScope t_names_of) := ⟨rfl, rfl, rfl, by decide +kernel, rfl, by decide +kernel, by decide +kernel⟩
abbrev t_value_in : Stmt := top 21
abbrev N_value_in : List Str := ["items", "state", "count", "word", "first", "rest", "one", "other"]
theorem sc_value_in : FnScope N_value_in ["items", "state", "count"] (defScope t_value_in) := ⟨rfl, rfl, rfl, by decide +kernel, rfl, by decide +kernel, by decide +kernel⟩
abbrev t_holds_in : Stmt := top 22
abbrev N_holds_in : List Str := ["items", "state", "condition", "word", "first", "rest", "one", "other"]
theorem sc_holds_in : FnScope N_holds_in ["items", "state", "condition"] (defScope t_holds_in) := ⟨rfl, rfl, rfl, by decide +kernel, rfl, by decide +kernel, by decide +kernel⟩
abbrev t_is_good : Stmt := top 24
abbrev N_is_good : List Str := ["store", "thing", "items", "rules", "hands", "item", "low", "high", "own", "rule"]
theorem sc_is_good : FnScope N_is_good ["store", "thing"] (defScope t_is_good) := ⟨rfl, rfl, rfl, by decide +kernel, rfl, by decide +kernel, by decide +kernel⟩
abbrev t_good_states : Stmt := top 25
abbrev N_good_states : List Str := ["store", "found", "item", "low", "high", "state", "own"]
abbrev t_less : Stmt := top 27
abbrev N_less : List Str := ["one", "other", "here", "there"]
theorem sc_less : FnScope N_less ["one", "other"] (defScope t_less) := ⟨rfl, rfl, rfl, by decide +kernel, rfl, by decide +kernel, by decide +kernel⟩
abbrev t_all_sums : Stmt := top 28
abbrev N_all_sums : List Str := ["first", "others", "found", "other", "one", "two"]
theorem sc_all_sums : FnScope N_all_sums ["first", "others"] (defScope t_all_sums) := ⟨rfl, rfl, rfl, by decide +kernel, rfl, by decide +kernel, by decide +kernel⟩
abbrev t_rest_set : Stmt := top 29
abbrev N_rest_set : List Str := ["some", "target", "known", "found", "goal", "more", "own", "one"]
theorem sc_rest_set : FnScope N_rest_set ["some", "target"] (defScope t_rest_set) := ⟨rfl, rfl, rfl, by decide +kernel, rfl, by decide +kernel, by decide +kernel⟩
abbrev t_require_sums : Stmt := top 30
abbrev N_require_sums : List Str := ["condition", "word", "at"]
theorem sc_require_sums : FnScope N_require_sums ["condition", "word", "at"] (defScope t_require_sums) := ⟨rfl, rfl, rfl, by decide +kernel, rfl, by decide +kernel, by decide +kernel⟩
abbrev t_is_nonempty_sum : Stmt := top 31
abbrev N_is_nonempty_sum : List Str := ["thing"]
theorem sc_is_nonempty_sum : FnScope N_is_nonempty_sum ["thing"] (defScope t_is_nonempty_sum) := ⟨rfl, rfl, rfl, by decide +kernel, rfl, by decide +kernel, by decide +kernel⟩
abbrev t_Sums___init__ : Stmt := inClass (top 32) 0
abbrev N_Sums___init__ : List Str := ["self", "sums", "k", "one"]
theorem sc_Sums___init__ : FnScope N_Sums___init__ ["self", "sums"] (defScope t_Sums___init__) := ⟨rfl, rfl, rfl, by decide +kernel, rfl, by decide +kernel, by decide +kernel⟩
abbrev t_Sums_form : Stmt := inClass (top 32) 1
abbrev N_Sums_form : List Str := ["self"]
theorem sc_Sums_form : FnScope N_Sums_form ["self"] (defScope t_Sums_form) := ⟨rfl, rfl, rfl, by decide +kernel, rfl, by decide +kernel, by decide +kernel⟩
abbrev t_Sums_need_alike : Stmt := inClass (top 32) 2
abbrev N_Sums_need_alike : List Str := ["self", "other"]
theorem sc_Sums_need_alike : FnScope N_Sums_need_alike ["self", "other"] (defScope t_Sums_need_alike) := ⟨rfl, rfl, rfl, by decide +kernel, rfl, by decide +kernel, by decide +kernel⟩
abbrev t_Sums_within : Stmt := inClass (top 32) 6
abbrev N_Sums_within : List Str := ["self", "b", "one"]
theorem sc_Sums_within : FnScope N_Sums_within ["self", "b"] (defScope t_Sums_within) := ⟨rfl, rfl, rfl, by decide +kernel, rfl, by decide +kernel, by decide +kernel⟩
abbrev t_Sums___add__ : Stmt := inClass (top 32) 7
abbrev N_Sums___add__ : List Str := ["self", "other"]
theorem sc_Sums___add__ : FnScope N_Sums___add__ ["self", "other"] (defScope t_Sums___add__) := ⟨rfl, rfl, rfl, by decide +kernel, rfl, by decide +kernel, by decide +kernel⟩
abbrev t_Sums_shifted : Stmt := inClass (top 32) 11
abbrev N_Sums_shifted : List Str := ["self", "one"]
theorem sc_Sums_shifted : FnScope N_Sums_shifted ["self", "one"] (defScope t_Sums_shifted) := ⟨rfl, rfl, rfl, by decide +kernel, rfl, by decide +kernel, by decide +kernel⟩
abbrev t_Sums_rest_in : Stmt := inClass (top 32) 12
abbrev N_Sums_rest_in : List Str := ["self", "b"]
theorem sc_Sums_rest_in : FnScope N_Sums_rest_in ["self", "b"] (defScope t_Sums_rest_in) := ⟨rfl, rfl, rfl, by decide +kernel, rfl, by decide +kernel, by decide +kernel⟩
abbrev t_require_family : Stmt := top 34
abbrev N_require_family : List Str := ["condition", "word", "at"]
theorem sc_require_family : FnScope N_require_family ["condition", "word", "at"] (defScope t_require_family) := ⟨rfl, rfl, rfl, by decide +kernel, rfl, by decide +kernel, by decide +kernel⟩
abbrev t_is_right : Stmt := top 35
abbrev N_is_right : List Str := ["store", "thing"]
theorem sc_is_right : FnScope N_is_right ["store", "thing"] (defScope t_is_right) := ⟨rfl, rfl, rfl, by decide +kernel, rfl, by decide +kernel, by decide +kernel⟩
abbrev t_need_family : Stmt := top 36
abbrev N_need_family : List Str := ["store", "family", "k", "right"]
theorem sc_need_family : FnScope N_need_family ["store", "family"] (defScope t_need_family) := ⟨rfl, rfl, rfl, by decide +kernel, rfl, by decide +kernel, by decide +kernel⟩
abbrev t_goods_of : Stmt := top 37
abbrev N_goods_of : List Str := ["store"]
theorem sc_goods_of : FnScope N_goods_of ["store"] (defScope t_goods_of) := ⟨rfl, rfl, rfl, by decide +kernel, rfl, by decide +kernel, by decide +kernel⟩
abbrev t_reached_states : Stmt := top 38
abbrev N_reached_states : List Str := ["start", "rights"]
theorem sc_reached_states : FnScope N_reached_states ["start", "rights"] (defScope t_reached_states) := ⟨rfl, rfl, rfl, by decide +kernel, rfl, by decide +kernel, by decide +kernel⟩
abbrev t_rest_beside : Stmt := top 39
abbrev N_rest_beside : List Str := ["store", "start", "family", "k", "others", "j", "right"]
theorem sc_rest_beside : FnScope N_rest_beside ["store", "start", "family", "k"] (defScope t_rest_beside) := ⟨rfl, rfl, rfl, by decide +kernel, rfl, by decide +kernel, by decide +kernel⟩
abbrev t_all_good : Stmt := top 40
abbrev N_all_good : List Str := ["store", "start", "family", "goods", "state"]
theorem sc_all_good : FnScope N_all_good ["store", "start", "family"] (defScope t_all_good) := ⟨rfl, rfl, rfl, by decide +kernel, rfl, by decide +kernel, by decide +kernel⟩
abbrev t_is_safe : Stmt := top 41
abbrev N_is_safe : List Str := ["store", "start", "family"]
theorem sc_is_safe : FnScope N_is_safe ["store", "start", "family"] (defScope t_is_safe) := ⟨rfl, rfl, rfl, by decide +kernel, rfl, by decide +kernel, by decide +kernel⟩
abbrev t_whole_states : Stmt := top 42
abbrev N_whole_states : List Str := ["store", "start", "family"]
theorem sc_whole_states : FnScope N_whole_states ["store", "start", "family"] (defScope t_whole_states) := ⟨rfl, rfl, rfl, by decide +kernel, rfl, by decide +kernel, by decide +kernel⟩
abbrev t_rest_of : Stmt := top 43
abbrev N_rest_of : List Str := ["store", "start", "family", "hand"]
theorem sc_rest_of : FnScope N_rest_of ["store", "start", "family", "hand"] (defScope t_rest_of) := ⟨rfl, rfl, rfl, by decide +kernel, rfl, by decide +kernel, by decide +kernel⟩
abbrev t_is_greatest : Stmt := top 44
abbrev N_is_greatest : List Str := ["store", "start", "family", "k", "right"]
theorem sc_is_greatest : FnScope N_is_greatest ["store", "start", "family"] (defScope t_is_greatest) := ⟨rfl, rfl, rfl, by decide +kernel, rfl, by decide +kernel, by decide +kernel⟩
abbrev t_grown : Stmt := top 45
abbrev N_grown : List Str := ["store", "start", "family", "hands", "names", "order", "done", "found", "k", "hand"]
theorem sc_grown : FnScope N_grown ["store", "start", "family", "hands"] (defScope t_grown) := ⟨rfl, rfl, rfl, by decide +kernel, rfl, by decide +kernel, by decide +kernel⟩
abbrev t_law_source : Stmt := top 47
abbrev N_law_source : List Str := ["_law_script"]
theorem sc_law_source : FnScope N_law_source ["_law_script"] (defScope t_law_source) := ⟨rfl, rfl, rfl, by decide +kernel, rfl, by decide +kernel, by decide +kernel⟩
abbrev t_law_draw : Stmt := top 48
abbrev N_law_draw : List Str := ["_law_source_here", "_law_bound", "_law_turn", "_law_digit", "_law_at", "_law_cell", "_law_mixed"]
theorem sc_law_draw : FnScope N_law_draw ["_law_source_here", "_law_bound"] (defScope t_law_draw) := ⟨rfl, rfl, rfl, by decide +kernel, rfl, by decide +kernel, by decide +kernel⟩
abbrev t_law_any : Stmt := top 49
abbrev N_law_any : List Str := ["_law_source_here", "_law_some"]
theorem sc_law_any : FnScope N_law_any ["_law_source_here", "_law_some"] (defScope t_law_any) := ⟨rfl, rfl, rfl, by decide +kernel, rfl, by decide +kernel, by decide +kernel⟩
abbrev t_law_plus : Stmt := top 50
abbrev N_law_plus : List Str := ["_law_early", "_law_late", "_law_k"]
theorem sc_law_plus : FnScope N_law_plus ["_law_early", "_law_late"] (defScope t_law_plus) := ⟨rfl, rfl, rfl, by decide +kernel, rfl, by decide +kernel, by decide +kernel⟩
abbrev t_law_minus : Stmt := top 51
abbrev N_law_minus : List Str := ["_law_early", "_law_late", "_law_k"]
theorem sc_law_minus : FnScope N_law_minus ["_law_early", "_law_late"] (defScope t_law_minus) := ⟨rfl, rfl, rfl, by decide +kernel, rfl, by decide +kernel, by decide +kernel⟩
abbrev t_law_joined : Stmt := top 52
abbrev N_law_joined : List Str := ["_law_lots_here", "_law_many", "_law_found", "_law_lot_here", "_law_longer", "_law_early", "_law_late"]
theorem sc_law_joined : FnScope N_law_joined ["_law_lots_here", "_law_many"] (defScope t_law_joined) := ⟨rfl, rfl, rfl, by decide +kernel, rfl, by decide +kernel, by decide +kernel⟩
abbrev t_law_left : Stmt := top 53
abbrev N_law_left : List Str := ["_law_lot_here", "_law_goal", "_law_found", "_law_spots", "_law_spot", "_law_free", "_law_early"]
theorem sc_law_left : FnScope N_law_left ["_law_lot_here", "_law_goal"] (defScope t_law_left) := ⟨rfl, rfl, rfl, by decide +kernel, rfl, by decide +kernel, by decide +kernel⟩
abbrev t_law_lot : Stmt := top 54
abbrev N_law_lot : List Str := ["_law_source_here", "_law_many", "_law_most", "_law_found", "_law_lap", "_law_k"]
theorem sc_law_lot : FnScope N_law_lot ["_law_source_here", "_law_many", "_law_most"] (defScope t_law_lot) := ⟨rfl, rfl, rfl, by decide +kernel, rfl, by decide +kernel, by decide +kernel⟩
abbrev t_law_worth_of : Stmt := top 55
abbrev N_law_worth_of : List Str := ["_law_items", "_law_spot", "_law_item", "_law_left_here", "_law_right", "_law_row"]
theorem sc_law_worth_of : FnScope N_law_worth_of ["_law_items", "_law_spot", "_law_item"] (defScope t_law_worth_of) := ⟨rfl, rfl, rfl, by decide +kernel, rfl, by decide +kernel, by decide +kernel⟩
abbrev t_law_goods : Stmt := top 56
abbrev N_law_goods : List Str := ["_law_shop_here", "_law_items", "_law_laws_now", "_law_folk", "_law_found", "_law_name", "_law_low", "_law_high", "_law_longer", "_law_early", "_law_good", "_law_spot", "_law_number", "_law_item"]
theorem sc_law_goods : FnScope N_law_goods ["_law_shop_here"] (defScope t_law_goods) := ⟨rfl, rfl, rfl, by decide +kernel, rfl, by decide +kernel, by decide +kernel⟩
abbrev t_law_shop : Stmt := top 57
abbrev N_law_shop : List Str := ["_law_source_here", "_law_way", "_law_low", "_law_one", "_law_many", "_law_items", "_law_some", "_law_folk", "_law_name"]
theorem sc_law_shop : FnScope N_law_shop ["_law_source_here"] (defScope t_law_shop) := ⟨rfl, rfl, rfl, by decide +kernel, rfl, by decide +kernel, by decide +kernel⟩
abbrev t_law_zero : Stmt := top 58
abbrev N_law_zero : List Str := ["_law_shop_here"]
theorem sc_law_zero : FnScope N_law_zero ["_law_shop_here"] (defScope t_law_zero) := ⟨rfl, rfl, rfl, by decide +kernel, rfl, by decide +kernel, by decide +kernel⟩
abbrev t_law_begin : Stmt := top 59
abbrev N_law_begin : List Str := ["_law_source_here", "_law_shop_here", "_law_goods_here", "_law_row"]
theorem sc_law_begin : FnScope N_law_begin ["_law_source_here", "_law_shop_here"] (defScope t_law_begin) := ⟨rfl, rfl, rfl, by decide +kernel, rfl, by decide +kernel, by decide +kernel⟩
abbrev t_law_lots : Stmt := top 60
abbrev N_law_lots : List Str := ["_law_source_here", "_law_shop_here", "_law_who"]
theorem sc_law_lots : FnScope N_law_lots ["_law_source_here", "_law_shop_here"] (defScope t_law_lots) := ⟨rfl, rfl, rfl, by decide +kernel, rfl, by decide +kernel, by decide +kernel⟩
abbrev t_law_beside : Stmt := top 61
abbrev N_law_beside : List Str := ["_law_shop_here", "_law_begin_here", "_law_lots_here", "_law_k", "_law_free", "_law_goods_here"]
theorem sc_law_beside : FnScope N_law_beside ["_law_shop_here", "_law_begin_here", "_law_lots_here", "_law_k"] (defScope t_law_beside) := ⟨rfl, rfl, rfl, by decide +kernel, rfl, by decide +kernel, by decide +kernel⟩
abbrev t_law_safe : Stmt := top 62
abbrev N_law_safe : List Str := ["_law_source_here", "_law_shop_here", "_law_goods_here", "_law_begin_here", "_law_lots_here", "_law_k", "_law_free", "_law_own", "_law_who", "_law_spot"]
theorem sc_law_safe : FnScope N_law_safe ["_law_source_here", "_law_shop_here"] (defScope t_law_safe) := ⟨rfl, rfl, rfl, by decide +kernel, rfl, by decide +kernel, by decide +kernel⟩
abbrev t_law_are_rests_right : Stmt := top 63
abbrev N_law_are_rests_right : List Str := ["_law_shop_here", "_law_begin_here", "_law_lots_here", "_law_folk", "_law_safe_here", "_law_bad", "_law_goods_here", "_law_k", "_law_rest", "_law_free", "_law_j", "_law_wide", "_law_row", "_law_spot"]
theorem sc_law_are_rests_right : FnScope N_law_are_rests_right ["_law_shop_here", "_law_begin_here", "_law_lots_here"] (defScope t_law_are_rests_right) := ⟨rfl, rfl, rfl, by decide +kernel, rfl, by decide +kernel, by decide +kernel⟩
abbrev t_law_is_shifted_right : Stmt := top 64
abbrev N_law_is_shifted_right : List Str := ["_law_source_here", "_law_shop_here", "_law_begin_here", "_law_lots_here", "_law_by", "_law_k", "_law_moved", "_law_back"]
theorem sc_law_is_shifted_right : FnScope N_law_is_shifted_right ["_law_source_here", "_law_shop_here", "_law_begin_here", "_law_lots_here"] (defScope t_law_is_shifted_right) := ⟨rfl, rfl, rfl, by decide +kernel, rfl, by decide +kernel, by decide +kernel⟩
abbrev t_law_is_grown_right : Stmt := top 65
abbrev N_law_is_grown_right : List Str := ["_law_source_here", "_law_shop_here", "_law_begin_here", "_law_lots_here", "_law_folk", "_law_who", "_law_later", "_law_wide", "_law_parted", "_law_row", "_law_k", "_law_lot_here"]
theorem sc_law_is_grown_right : FnScope N_law_is_grown_right ["_law_source_here", "_law_shop_here", "_law_begin_here", "_law_lots_here"] (defScope t_law_is_grown_right) := ⟨rfl, rfl, rfl, by decide +kernel, rfl, by decide +kernel, by decide +kernel⟩
abbrev t_law : Stmt := top 66
abbrev N_law : List Str := ["_law_script", "_law_source_here", "_law_lap", "_law_shop_here", "_law_some", "_law_pair", "_law_begin_here", "_law_lots_here"]
theorem sc_law : FnScope N_law ["_law_script"] (defScope t_law) := ⟨rfl, rfl, rfl, by decide +kernel, rfl, by decide +kernel, by decide +kernel⟩
end DL
/-! The data level: the source of draws. -/
namespace DL
open PySem PySem.Spec L2
theorem Step.srcW {src : Option Addr} {L H : Hp} {p : Addr} {u o : HO} (hs : src = some p) (h : H p = some u) : Step src L H L (upd H p o) :=
  ⟨fun a x e ns => by rw [upd_ne (fun z => ns (by rw [z]; exact hs))]; exact e, fun a e => by
    by_cases q : a = p
    · rw [q, upd_same] at e; cases e
    · rw [upd_ne q] at e; exact e, fun _ _ e => e, fun _ h q => absurd h q⟩
section
variable {G : Wd} {c : Cxt} {e : Expr} {ρ : Rho} {n : Nat} {R : D → Nat → Prop} {pos p1 p2 q1 q2 : Pos} {x : Str} {i j : Nat}
theorem src_at {X : Cx} {σ : L2.St} {H0 L H : Hp} (k : Like G c X) (en : En G c H0 L H σ ρ) (hx : At c.N i x) (h : ρ[i]? = some (some .src)) (hd : (x == ("__debug__" : Str)) = false) (hcd : (x == ("__classdict__" : Str)) = false) :
    PE X (.Name x p1) (tVar i) ∧ ∃ q, c.src = some q ∧ σ[i]? = some (some (.ref q)) := by
  obtain ⟨y, v, h1, h2, h3, h4⟩ := en.at_ i _ h
  have e : x = y := Option.some.inj (hx.get.symm.trans h1)
  subst e
  obtain ⟨q, hq, rfl⟩ := h4
  exact ⟨pe_var (by rw [k.N]; exact h1) (by rw [k.sc]; exact h2) hd hcd, q, hq, h3⟩
/-- s[1], s[2], s[3] -/
theorem ex_srcI {k : Int} {kt : Nat} (hx : At c.N i x) (hi : ρ[i]? = some (some .src)) (hk : k = 1 ∨ k = 2 ∨ k = 3) (r : ∀ v : Int, 0 ≤ v → (k = 3 → v ≤ n) → R (dI v) n) (hd : (x == ("__debug__" : Str)) = false := by decide) (hcd : (x == ("__classdict__" : Str)) = false := by decide) (hs : PlainIx (.Constant (.int k) kt p2) := by intro _ _; rfl) :
    EX G c (.Subscript (.Name x p1) (.Constant (.int k) kt p2) pos) ρ n R := ex_pe fun X lk => by
  refine ⟨_, pe_ix (X := X) L2.ix_list (pe_wp (.Name x p1)) pe_int hs, fun σ H0 L H w en => ?_⟩
  obtain ⟨pv, q, hq, hσ⟩ := src_at (p1 := p1) lk en hx hi hd hcd
  obtain ⟨hl, sc, ns, cc, rr, t, h1, h2, h3, h4, h5, h6, h7⟩ := w.src q hq
  refine fun pins s I => pv.run pins s σ H _ I ⟨.ref q, hσ, ?_⟩
  rcases hk with rfl | rfl | rfl
  · exact ⟨q, _, 1, .int cc, rfl, rfl, SqL.of h1, rfl, ev_dat w (.int _) (r cc h3 fun z => absurd z (by decide))⟩
  · exact ⟨q, _, 2, .int rr, rfl, rfl, SqL.of h1, rfl, ev_dat w (.int _) (r rr h4 fun z => absurd z (by decide))⟩
  · exact ⟨q, _, 3, .int t, rfl, rfl, SqL.of h1, rfl, ev_dat w (.int _) (r t h5 fun _ => h6)⟩
/-- s[0] -/
theorem ex_src0 {kt : Nat} (hx : At c.N i x) (hi : ρ[i]? = some (some .src)) (r : R (dL (G.ns.map PyData.int)) n) (hd : (x == ("__debug__" : Str)) = false := by decide) (hcd : (x == ("__classdict__" : Str)) = false := by decide) (hs : PlainIx (.Constant (.int 0) kt p2) := by intro _ _; rfl) :
    EX G c (.Subscript (.Name x p1) (.Constant (.int 0) kt p2) pos) ρ n R := ex_pe fun X lk => by
  refine ⟨_, pe_ix (X := X) L2.ix_list (pe_wp (.Name x p1)) pe_int hs, fun σ H0 L H w en => ?_⟩
  obtain ⟨pv, q, hq, hσ⟩ := src_at (p1 := p1) lk en hx hi hd hcd
  obtain ⟨hl, sc, ns, cc, rr, t, h1, h2, h3, h4, h5, h6, rfl⟩ := w.src q hq
  refine fun pins s I => pv.run pins s σ H _ I ⟨.ref q, hσ, ?_⟩
  exact ⟨q, _, 0, .ref sc, rfl, rfl, SqL.of h1, rfl, ev_dat w (.lst h2 (ints_dps _)) r⟩
/-- s[1] = e, s[2] = e, s[3] = e -/
theorem sx_srcSet {k : Int} {kt : Nat} {B : Bx} (hx : At c.N i x) (hi : ρ[i]? = some (some .src)) (hk : k = 1 ∨ k = 2 ∨ k = 3) (h : EX G c e ρ n fun d n1 => ∃ v : Int, d = dI v ∧ 0 ≤ v ∧ ∃ n2, n1 ≤ n2 ∧ n2 ≤ 100000 ∧ (k = 3 → v ≤ n2) ∧ B.nx ρ n2)
    (hd : (x == ("__debug__" : Str)) = false := by decide) (hcd : (x == ("__classdict__" : Str)) = false := by decide)
    (hs : ∀ env, swapsWithSole [.Subscript (.Name x p1) (.Constant (.int k) kt p2) q1] e pos.line env = pure false := by intro _; rfl) (hw : ∀ env, swappedStores [.Subscript (.Name x p1) (.Constant (.int k) kt p2) q1] e env = pure none := by intro _; first | rfl | (simp [swappedStores] <;> rfl))
    (h1 : ∀ env, (assignEach [.Subscript (.Name x p1) (.Constant (.int k) kt p2) q1] env).map (·.2) = [assign (.Subscript (.Name x p1) (.Constant (.int k) kt p2) q1) env] := by intro _; rfl)
    (ha : ∀ env v, assign (.Subscript (.Name x p1) (.Constant (.int k) kt p2) q1) env v = (do
      let ov ← holding [v] (eval (.Name x p1) env)
      let iv ← holding [v, ov] (eval (.Constant (.int k) kt p2) env)
      standAt q1
      holding [v, ov, iv] (setItem ov iv v)
      release [v, ov, iv] []) := by intro _ _; rfl) : SX G c (.Assign [.Subscript (.Name x p1) (.Constant (.int k) kt p2) q1] e pos) ρ n B := sx_ps fun X lk => by
  refine ⟨_, ps_asg (pe_wp e) (pg_sub (pe_wp (.Name x p1)) pe_int set_list (ha _)) (hs _) (hw _) (h1 _), fun L0 H0 σ L H s0 w en => ?_⟩
  refine ex_wp h lk w en fun v H1 ⟨d, L1, n1, s1, w1, i1, _, z, e1, hz, n2, hn, hn2, h3, nx⟩ => ?_
  subst e1
  obtain rfl := dp_int i1
  have en1 := en.go s1
  obtain ⟨pv, q, hq, hσ⟩ := src_at (p1 := p1) lk en1 hx hi hd hcd
  obtain ⟨hl, sc, ns, cc, rr, t, g1, g2, g3, g4, g5, g6, g7⟩ := w1.src q hq
  refine fun pins s I => pv.run pins s σ H1 _ I ⟨.ref q, hσ, ?_⟩
  have fin : ∀ (cc' rr' t' : Int), 0 ≤ cc' → 0 ≤ rr' → 0 ≤ t' → t' ≤ n2 → NX G c L0 H0 B.nx σ (upd H1 q (.lst [.ref sc, .int cc', .int rr', .int t'])) := fun cc' rr' t' a1 a2 a3 a4 => by
    have st := Step.srcW (L := L1) (o := .lst [.ref sc, .int cc', .int rr', .int t']) hq g1
    refine ⟨L1, ρ, n2, (s0.trans s1).trans st, ⟨fun a u e => ?_, fun q' eq => ?_, hn2⟩, en1.go st, nx⟩
    · rw [upd_ne (ne_of_none e hl)]; exact w1.sub a u e
    · have eqq : q = q' := Option.some.inj (hq.symm.trans eq)
      subst eqq
      exact ⟨hl, sc, ns, cc', rr', t', upd_same, g2, a1, a2, a3, a4, g7⟩
  have tn : t ≤ (n2 : Int) := by omega
  rcases hk with rfl | rfl | rfl
  · exact ⟨q, _, 1, 1, rfl, rfl, g1, rfl, fin z rr t hz g4 g5 tn⟩
  · exact ⟨q, _, 2, 2, rfl, rfl, g1, rfl, fin cc z t g3 hz g5 tn⟩
  · exact ⟨q, _, 3, 3, rfl, rfl, g1, rfl, fin cc rr z g3 g4 hz (h3 rfl)⟩
end
end DL
/-! The data level: comprehensions that map and filter; the built-in names. -/
namespace DL
open PySem PySem.Spec L2
section
variable {G : Wd} {c : Cxt} {scope : Scope} {vs : List Nat} {tg elt t : Expr} {ρ : Rho} {R : D → Nat → Prop} {ds : List Dat} {n : Nat}
theorem cl_map (f : Dat → Dat) (hz : ds.length ≤ 1000000) (h : ∀ d ∈ ds, BX G (c.blk scope) vs tg d ρ fun ρ2 => EX G (c.blk scope) elt ρ2 n fun y n2 => n2 = n ∧ y = .dat (f d)) (r : R (dL (ds.map f)) n ∨ R (.own (ds.map f)) n) : Cl G c scope vs tg elt [] ρ R ds n :=
  ⟨hz, fun i out n1 => n1 = n ∧ out = (ds.take i).map f, ⟨rfl, rfl⟩, fun i d out n2 hd _ ⟨e1, e2⟩ X k H0 L H σ v sl dv en pins s u I rv => by
    subst e1 e2
    have hm : d ∈ ds := List.mem_of_getElem? hd
    refine wpAny_mono (h d hm X k H0 L H σ v sl dv en pins s u I rv) (fun _ s' ⟨σ', H', I', e1, e2, ρ', en', q⟩ => ⟨σ', H', I', e1, e2, ρ', en', txs_nil ?_⟩) fun _ _ z => z
    refine if_pos (rfl : true = true) |>.mpr (ex_mono q fun y n4 ⟨e3, e4⟩ => ⟨f d, e4, e3, ?_⟩)
    rw [List.take_add_one, hd, List.map_append] <;> rfl, fun out n2 ⟨e1, e2⟩ => by
    subst e1 e2
    rw [List.take_length]
    exact r⟩
theorem cl_filt (p : Dat → Bool) (f : Dat → Dat) (hz : ds.length ≤ 1000000) (h : ∀ d ∈ ds, BX G (c.blk scope) vs tg d ρ fun ρ2 => TX G (c.blk scope) t ρ2 n fun b n2 => n2 = n ∧ b = p d ∧ (b = true → EX G (c.blk scope) elt ρ2 n fun y n3 => n3 = n ∧ y = .dat (f d))) (r : R (dL ((ds.filter p).map f)) n ∨ R (.own ((ds.filter p).map f)) n) : Cl G c scope vs tg elt [t] ρ R ds n :=
  ⟨hz, fun i out n1 => n1 = n ∧ out = ((ds.take i).filter p).map f, ⟨rfl, rfl⟩, fun i d out n2 hd _ ⟨e1, e2⟩ X k H0 L H σ v sl dv en pins s u I rv => by
    subst e1 e2
    have hm : d ∈ ds := List.mem_of_getElem? hd
    have nxt : (ds.take (i + 1)).filter p = (ds.take i).filter p ++ (if p d = true then [d] else []) := by
      rw [List.take_add_one, hd, List.filter_append]
      congr 1
      cases hb : p d <;> simp [hb]
    refine wpAny_mono (h d hm X k H0 L H σ v sl dv en pins s u I rv) (fun _ s' ⟨σ', H', I', e1, e2, ρ', en', q⟩ => ⟨σ', H', I', e1, e2, ρ', en', txs_one ?_⟩) fun _ _ z => z
    refine fun X k wh ew pins s σ H0 L H I w en => thn (q X k wh ew pins s σ H0 L H I w en) fun b s' ⟨H', I', L', n', s1, w1, e3, e4, e5⟩ => ⟨H', I', L', n', s1, w1, ?_⟩
    subst e3
    cases b with
    | true =>
      refine if_pos (rfl : true = true) |>.mpr (ex_mono (e5 rfl) fun y n4 ⟨e6, e7⟩ => ⟨f d, e7, e6, ?_⟩)
      rw [nxt, ← e4, if_pos rfl, List.map_append] <;> rfl
    | false =>
      refine if_neg (Bool.false_ne_true) |>.mpr ⟨rfl, ?_⟩
      rw [nxt, ← e4, if_neg Bool.false_ne_true, List.append_nil], fun out n2 ⟨e1, e2⟩ => by
    subst e1 e2
    rw [List.take_length]
    exact r⟩
end
/-- the built-in names are the built-ins -/
structure Tp (G : Wd) : Prop where
  tuple : G.mg "tuple" = none
  list : G.mg "list" = none
  len : G.mg "len" = none
  all : G.mg "all" = none
  any : G.mg "any" = none
  isinstance : G.mg "isinstance" = none
  int : G.mg "int" = none
  bool : G.mg "bool" = none
  range : G.mg "range" = none
  zip : G.mg "zip" = none
  enumerate : G.mg "enumerate" = none
  sorted : G.mg "sorted" = none
  set : G.mg "set" = none
  dict : G.mg "dict" = none
theorem iteB {b : Bool} {A B : Prop} (h1 : b = true → A) (h2 : b = false → B) : if b = true then A else B := by
  cases b with
  | true => exact h1 rfl
  | false => exact h2 rfl
def isInt : Dat → Bool
  | .int _ => true
  | _ => false
def isIB : Dat → Bool
  | .int _ => true
  | .bool _ => true
  | _ => false
def isBl : Dat → Bool
  | .bool _ => true
  | _ => false
def isTup : Dat → Bool
  | .tuple _ => true
  | _ => false
theorem kit_int (x : Dat) : kitB (tyD x) "int" = some (isIB x) := by
  cases x with
  | none => show kitB "NoneType" "int" = some false; decide +kernel
  | bool _ => show kitB "bool" "int" = some true; decide +kernel
  | int _ => show kitB "int" "int" = some true; decide +kernel
  | str _ => show kitB "str" "int" = some false; decide +kernel
  | list _ => show kitB "list" "int" = some false; decide +kernel
  | tuple _ => show kitB "tuple" "int" = some false; decide +kernel
  | dict _ => show kitB "dict" "int" = some false; decide +kernel
theorem kit_bool (x : Dat) : kitB (tyD x) "bool" = some (isBl x) := by
  cases x with
  | none => show kitB "NoneType" "bool" = some false; decide +kernel
  | bool _ => show kitB "bool" "bool" = some true; decide +kernel
  | int _ => show kitB "int" "bool" = some false; decide +kernel
  | str _ => show kitB "str" "bool" = some false; decide +kernel
  | list _ => show kitB "list" "bool" = some false; decide +kernel
  | tuple _ => show kitB "tuple" "bool" = some false; decide +kernel
  | dict _ => show kitB "dict" "bool" = some false; decide +kernel
theorem kit_tuple (x : Dat) : kitB (tyD x) "tuple" = some (isTup x) := by
  cases x with
  | none => show kitB "NoneType" "tuple" = some false; decide +kernel
  | bool _ => show kitB "bool" "tuple" = some false; decide +kernel
  | int _ => show kitB "int" "tuple" = some false; decide +kernel
  | str _ => show kitB "str" "tuple" = some false; decide +kernel
  | list _ => show kitB "list" "tuple" = some false; decide +kernel
  | tuple _ => show kitB "tuple" "tuple" = some true; decide +kernel
  | dict _ => show kitB "dict" "tuple" = some false; decide +kernel
end DL
/-! The defs: kinds, names, adding. -/
namespace DL
open PySem PySem.Spec L2
section
variable {G : Wd} {f : Addr} {fd : FuncData}
theorem noM1 {x : Dat} : ∀ d ∈ [D.dat x], mine d = false := fun d h => by rw [List.mem_singleton.mp h] <;> rfl
theorem noM2 {x y : Dat} : ∀ d ∈ [D.dat x, D.dat y], mine d = false := fun d h => by
  rcases List.mem_cons.mp h with e | h
  · rw [e] <;> rfl
  · rw [List.mem_singleton.mp h] <;> rfl
def f_is_integer : Sig := fun ds n R => ∃ x, ds = [.dat x] ∧ R (dB (isInt x)) n
theorem ok_is_integer (T : Tp G) (F : Fun G.K "is_integer" "is_integer" t_is_integer f fd) (bd : Binds G.K fd ["thing"] []) (hx : G.mg "is_integer" = some (.ref f)) : Sg G "is_integer" 1 f_is_integer :=
  sg_def F sc_is_integer bd hx (fun ds n R ⟨x, e, _⟩ => by subst e; exact ⟨rfl, noM1⟩) fun src ds n R ⟨x, e, r⟩ => by
    subst e
    refine sxs_one (sx_ret (ex_and (ex_isi T.isinstance rfl T.int rfl rfl (ex_var 0 rfl rfl rfl ⟨x, _, rfl, kit_int x, _, rfl, ?_⟩))))
    refine iteB (fun h => ?_) (fun h => ?_)
    · refine ex_one (ex_not (ex_isi T.isinstance rfl T.bool rfl rfl (ex_var 0 rfl rfl rfl ⟨x, _, rfl, kit_bool x, _, rfl, ?_⟩)))
      have e : (!isBl x) = isInt x := by cases x <;> first | rfl | cases h
      show R (.dat (.bool (!isBl x))) n
      rw [e]; exact r
    · have e : isInt x = false := by cases x <;> first | rfl | cases h
      rw [e] at r; exact r

def intsB : Dat → Bool
  | .tuple xs => xs.all isInt
  | _ => false
def f_are : Sig := fun ds n R => ∃ x, ds = [.dat x] ∧ (∀ xs, x = .tuple xs → xs.length ≤ 1000) ∧ R (dB (intsB x)) n
theorem all_bool (xs : List Dat) (p : Dat → Bool) : (xs.map p).all id = xs.all p := by rw [List.all_map]; rfl
theorem ok_are (T : Tp G) (I : Sg G "is_integer" 1 f_is_integer) (F : Fun G.K "are_integers" "are_integers" t_are_integers f fd) (bd : Binds G.K fd ["thing"] []) (hx : G.mg "are_integers" = some (.ref f)) : Sg G "are_integers" 2 f_are :=
  sg_def F sc_are_integers bd hx (fun ds n R ⟨x, e, _⟩ => by subst e; exact ⟨rfl, noM1⟩) fun src ds n R ⟨x, e, hz, r⟩ => by
    subst e
    refine sxs_one (sx_ret (ex_and (ex_isi T.isinstance rfl T.tuple rfl rfl (ex_var 0 rfl rfl rfl ⟨x, _, rfl, kit_tuple x, _, rfl, ?_⟩))))
    refine iteB (fun h => ?_) (fun h => ?_)
    · have hx2 : ∃ xs, x = .tuple xs := by cases x <;> first | exact ⟨_, rfl⟩ | cases h
      obtain ⟨xs, rfl⟩ := hx2
      have hz := hz xs rfl
      refine ex_one (ex_callB "all" T.all (by decide +kernel) rfl (ax_cons (ex_lc [("one", 1)] [false, false] (by dsimp only; decide +kernel) (by dsimp only; decide +kernel) (ix_tup (ex_var 0 rfl rfl rfl ⟨xs, rfl, ?_⟩))) ))
      refine cl_map (fun d => .bool (isInt d)) (by omega) (fun d hd => bx_name 1 rfl (.inl rfl) (.inr rfl) (by decide) (ex_call I (Nat.le_refl _) rfl (ax_cons (ex_var 1 rfl rfl rfl (ax_nil ⟨d, rfl, rfl, rfl⟩))))) (.inl (ax_nil ?_))
      have e : (xs.map fun d => PyData.bool (isInt d)) = (xs.map isInt).map PyData.bool := by rw [List.map_map]; rfl
      rw [e]
      refine b_all ?_
      rw [all_bool]
      exact r
    · have e : intsB x = false := by cases x <;> first | rfl | cases h
      rw [e] at r; exact r
end
end DL
/-! The defs: added, less, names. -/
namespace DL
open PySem PySem.Spec L2
def add (x y : List Int) : List Int := List.zipWith (· + ·) x y
def sub (x y : List Int) : List Int := List.zipWith (· - ·) x y
theorem zipD_ints (x y : List Int) : zipD (x.map PyData.int) (y.map PyData.int) = (List.zip x y).map fun p => PyData.tuple [.int p.1, .int p.2] := by
  unfold zipD
  induction x generalizing y with
  | nil => simp
  | cons a x ih =>
    cases y with
    | nil => simp
    | cons b y => simp [ih]
section
variable {G : Wd} {f : Addr} {fd : FuncData}
def f_added : Sig := fun ds n R => ∃ x y, ds = [.dat (iD x), .dat (iD y)] ∧ x.length ≤ 900 ∧ R (.dat (iD (add x y))) n
def plusD : Dat → Dat
  | .tuple [.int a, .int b] => .int (a + b)
  | d => d
def minusD : Dat → Dat
  | .tuple [.int a, .int b] => .int (a - b)
  | d => d
theorem plus_zip (x y : List Int) : (zipD (x.map PyData.int) (y.map PyData.int)).map plusD = (add x y).map PyData.int := by
  rw [zipD_ints, List.map_map]
  unfold add
  induction x generalizing y with
  | nil => simp
  | cons a x ih =>
    cases y with
    | nil => simp
    | cons b y => simp only [List.zip_cons_cons, List.map_cons, List.zipWith_cons_cons, ih]; rfl
theorem minus_zip (x y : List Int) : (zipD (x.map PyData.int) (y.map PyData.int)).map minusD = (sub x y).map PyData.int := by
  rw [zipD_ints, List.map_map]
  unfold sub
  induction x generalizing y with
  | nil => simp
  | cons a x ih =>
    cases y with
    | nil => simp
    | cons b y => simp only [List.zip_cons_cons, List.map_cons, List.zipWith_cons_cons, ih]; rfl
theorem ok_added (T : Tp G) (F : Fun G.K "added" "added" t_added f fd) (hx : G.mg "added" = some (.ref f))
    (hbind : ∀ (kV doc pm : Value) (an : Option Addr) (cdv ct : Value) (us rest : List Value), us.length = 1 → bindArgs (PySem.W.fnOf "added" "added" (defArgs t_added) (defBody t_added) (defScope t_added) .none kV doc pm an cdv ct) ⟨us ++ rest, []⟩ = (newTuple rest >>= fun t => pure ((["one"] : List Str).zip us ++ [(("others" : Str), t)]))) : Sg G "added" 1 f_added :=
  sg_star (ps := ["one"]) F sc_added hx hbind (fun ds n R ⟨x, y, e, hz, _⟩ => by subst e; exact ⟨[.dat (iD x)], [iD y], rfl, rfl, noM1, by simp⟩) fun src ws rest n R hl ⟨x, y, e, hz, r⟩ => by
    have e1 : ws = [.dat (iD x)] ∧ rest = [iD y] := by
      match ws, hl with
      | [w], _ =>
        match rest, e with
        | [z], e => simpa using e
    obtain ⟨rfl, rfl⟩ := e1
    refine sxs_cons (sx_asg 2 rfl (.inl rfl) (.inl rfl) (ex_var 0 rfl rfl rfl ?_))
    refine sxs_cons (sx_for [3] (ix_tup (ex_var 1 rfl rfl rfl ⟨_, rfl, ?_⟩)))
    refine ⟨fun i ρ m => m = n ∧ ρ = (if i = 0 then [some (.dat (iD x)), some (dT [iD y]), some (.dat (iD x)), none, none, none] else [some (.dat (iD x)), some (dT [iD y]), some (.dat (iD (add x y))), some (.dat (iD y)), none, none]), ⟨rfl, rfl⟩, fun i d ρ2 n2 hd ⟨e1, e2⟩ => ?_, fun ρ2 n2 ⟨e1, e2⟩ => ?_⟩
    · subst e1 e2
      match i, hd with
      | 0, hd =>
        cases hd
        refine bx_name 3 rfl (.inl rfl) (.inl rfl) (by decide) ?_
        refine sxs_one (sx_asg 2 rfl (.inl rfl) (.inl rfl) (ex_callT "tuple" T.tuple (by decide +kernel) rfl (ax_cons (ex_lc [("here", 4), ("there", 5)] [false, false, false, false, false, false] (by dsimp only; decide +kernel) (by dsimp only; decide +kernel) (ix_zip rfl T.zip (ax_cons (ex_var 2 rfl rfl rfl (ax_cons (ex_var 3 rfl rfl rfl (ax_nil ⟨x.map PyData.int, y.map PyData.int, rfl, ?_⟩))))))))))
        refine cl_map plusD (by rw [zipD_len, List.length_map]; omega) (fun d hd => ?_) (.inl (ax_nil ?_))
        · rw [zipD_ints] at hd
          obtain ⟨p, hp, rfl⟩ := List.mem_map.mp hd
          exact bx_tup ⟨_, rfl, bxs_cons (bx_name 4 rfl (.inl rfl) (.inr rfl) (by decide) (bxs_cons (bx_name 5 rfl (.inl rfl) (.inr rfl) (by decide) (bxs_nil (ex_bin (ex_var 4 rfl rfl rfl (ex_var 5 rfl rfl rfl (o_add ⟨rfl, rfl⟩)))))))), rfl⟩
        · rw [plus_zip]
          exact b_tupL ⟨rfl, rfl⟩
    · subst e1 e2
      exact sxs_one (sx_ret (ex_var 2 rfl rfl rfl r))

def f_less : Sig := fun ds n R => ∃ x y, ds = [.dat (iD x), .dat (iD y)] ∧ x.length = y.length ∧ x.length ≤ 900 ∧ R (.dat (iD (sub x y))) n
theorem ok_less (T : Tp G) (F : Fun G.K "less" "less" t_less f fd) (bd : Binds G.K fd ["one", "other"] []) (hx : G.mg "less" = some (.ref f)) : Sg G "less" 1 f_less :=
  sg_def F sc_less bd hx (fun ds n R ⟨x, y, e, _⟩ => by subst e; exact ⟨rfl, noM2⟩) fun src ds n R ⟨x, y, e, hl, hz, r⟩ => by
    subst e
    refine sxs_one (sx_ret (ex_callT "tuple" T.tuple (by decide +kernel) rfl (ax_cons (ex_lc [("here", 2), ("there", 3)] [false, false, false, false] (by dsimp only; decide +kernel) (by dsimp only; decide +kernel) (ix_zipS rfl T.zip (ax_cons (ex_var 0 rfl rfl rfl (ax_cons (ex_var 1 rfl rfl rfl (ax_nil ⟨x.map PyData.int, y.map PyData.int, rfl, by rw [List.length_map, List.length_map]; exact hl, ?_⟩))))))))))
    refine cl_map minusD (by rw [zipD_len, List.length_map]; omega) (fun d hd => ?_) (.inl (ax_nil ?_))
    · rw [zipD_ints] at hd
      obtain ⟨p, hp, rfl⟩ := List.mem_map.mp hd
      exact bx_tup ⟨_, rfl, bxs_cons (bx_name 2 rfl (.inl rfl) (.inr rfl) (by decide) (bxs_cons (bx_name 3 rfl (.inl rfl) (.inr rfl) (by decide) (bxs_nil (ex_bin (ex_var 2 rfl rfl rfl (ex_var 3 rfl rfl rfl (o_sub ⟨rfl, rfl⟩)))))))), rfl⟩
    · rw [minus_zip]
      exact b_tupL r

/-! ### names of rows -/
abbrev row (s : Str) (r : List Dat) : Dat := .tuple (.str s :: r)
def headS : Dat → Dat
  | .tuple (x :: _) => x
  | d => d
theorem heads (rs : List (Str × List Dat)) : (rs.map fun p => row p.1 p.2).map headS = (rs.map (·.1)).map PyData.str := by rw [List.map_map, List.map_map]; rfl
/-- a store: its rows, its rules, its folk -/
structure Sto where
  items : List (Str × List Dat)
  rules : List Dat
  folk : List (Str × List Dat)
def shD (s : Sto) : Dat := .tuple [.tuple (s.items.map fun p => row p.1 p.2), .tuple s.rules, .tuple (s.folk.map fun p => row p.1 p.2)]
def f_hand_names : Sig := fun ds n R => ∃ s : Sto, ds = [.dat (shD s)] ∧ s.folk.length ≤ 900 ∧ R (.ntup ((s.folk.map (·.1)).map PyData.str)) n
theorem ok_hand_names (T : Tp G) (F : Fun G.K "hand_names" "hand_names" t_hand_names f fd) (bd : Binds G.K fd ["store"] []) (hx : G.mg "hand_names" = some (.ref f)) : Sg G "hand_names" 1 f_hand_names :=
  sg_def F sc_hand_names bd hx (fun ds n R ⟨s, e, _⟩ => by subst e; exact ⟨rfl, noM1⟩) fun src ds n R ⟨s, e, hz, r⟩ => by
    subst e
    refine sxs_one (sx_ret (ex_callT "tuple" T.tuple (by decide +kernel) rfl (ax_cons (ex_lc [("own", 1)] [false, false] (by dsimp only; decide +kernel) (by dsimp only; decide +kernel) (ix_tup (ex_ix (ex_var 0 rfl rfl rfl (ex_int ⟨_, 2, _, .inl rfl, rfl, by decide, rfl, _, rfl, ?_⟩))))))))
    refine cl_map headS (by rw [List.length_map]; omega) (fun d hd => ?_) (.inl (ax_nil ?_))
    · obtain ⟨p, hp, rfl⟩ := List.mem_map.mp hd
      exact bx_name 1 rfl (.inl rfl) (.inr rfl) (by decide) (ex_ix (ex_var 1 rfl rfl rfl (ex_int ⟨_, 0, _, .inl rfl, rfl, by decide, rfl, rfl, rfl⟩)))
    · rw [heads]
      exact b_tupN r
def f_names_of : Sig := fun ds n R => ∃ rs : List (Str × List Dat), ds = [dT (rs.map fun p => row p.1 p.2)] ∧ rs.length ≤ 900 ∧ R (dL ((rs.map (·.1)).map PyData.str)) n
theorem ok_names_of (T : Tp G) (F : Fun G.K "names_of" "names_of" t_names_of f fd) (bd : Binds G.K fd ["items"] []) (hx : G.mg "names_of" = some (.ref f)) : Sg G "names_of" 1 f_names_of :=
  sg_def F sc_names_of bd hx (fun ds n R ⟨s, e, _⟩ => by subst e; exact ⟨rfl, noM1⟩) fun src ds n R ⟨rs, e, hz, r⟩ => by
    subst e
    refine sxs_one (sx_ret (ex_lc [("own", 1)] [false, false] (by dsimp only; decide +kernel) (by dsimp only; decide +kernel) (ix_tup (ex_var 0 rfl rfl rfl ⟨_, rfl, ?_⟩))))
    refine cl_map headS (by rw [List.length_map]; omega) (fun d hd => ?_) (.inl ?_)
    · obtain ⟨p, hp, rfl⟩ := List.mem_map.mp hd
      exact bx_name 1 rfl (.inl rfl) (.inr rfl) (by decide) (ex_ix (ex_var 1 rfl rfl rfl (ex_int ⟨_, 0, _, .inl rfl, rfl, by decide, rfl, rfl, rfl⟩)))
    · rw [heads]
      exact r
end
end DL
/-! The defs: all_sums, rest_set, is_sum, is_ascending, is_sums. -/
namespace DL
open PySem PySem.Spec L2
def cross (f o : List (List Int)) : List (List Int) := f.flatMap fun a => o.map (add a)
def allS : List (List Int) → List (List (List Int)) → List (List Int)
  | f, [] => f
  | f, o :: os => allS (can (cross f o)) os
def OkA (m : Nat) : List (List Int) → List (List (List Int)) → Prop
  | f, [] => ∀ k ∈ f, k.length = m
  | f, o :: os => (∀ k ∈ f, k.length = m) ∧ (∀ k ∈ o, k.length = m) ∧ (can (cross f o)).length ≤ 62 ∧ OkA m (can (cross f o)) os
theorem OkA.len {m : Nat} {f : List (List Int)} : ∀ {os : List (List (List Int))}, OkA m f os → ∀ k ∈ f, k.length = m
  | [], h => h
  | _ :: _, h => h.1
theorem add_len {x y : List Int} {m : Nat} (hx : x.length = m) (hy : y.length = m) : (add x y).length = m := by unfold add; rw [List.length_zipWith, hx, hy, Nat.min_self]
theorem cross_len {m : Nat} {f o : List (List Int)} (hf : ∀ k ∈ f, k.length = m) (ho : ∀ k ∈ o, k.length = m) : ∀ k ∈ cross f o, k.length = m := fun k h => by
  obtain ⟨a, ha, h⟩ := List.mem_flatMap.mp h
  obtain ⟨b, hb, rfl⟩ := List.mem_map.mp h
  exact add_len (hf a ha) (ho b hb)
section
variable {G : Wd} {f : Addr} {fd : FuncData}
def f_all_sums : Sig := fun ds n R => ∃ (m : Nat) (s0 : List (List Int)) (os : List (List (List Int))), ds = .dat (sD s0) :: (os.map sD).map D.dat ∧ os.length ≤ 900 ∧ 1 ≤ m ∧ m ≤ 900 ∧ OkA m s0 os ∧ R (.dat (sD (allS s0 os))) n
theorem ok_all_sums (T : Tp G) (A : Sg G "added" 1 f_added) (F : Fun G.K "all_sums" "all_sums" t_all_sums f fd) (hx : G.mg "all_sums" = some (.ref f))
    (hbind : ∀ (kV doc pm : Value) (an : Option Addr) (cdv ct : Value) (us rest : List Value), us.length = 1 → bindArgs (PySem.W.fnOf "all_sums" "all_sums" (defArgs t_all_sums) (defBody t_all_sums) (defScope t_all_sums) .none kV doc pm an cdv ct) ⟨us ++ rest, []⟩ = (newTuple rest >>= fun t => pure ((["first"] : List Str).zip us ++ [(("others" : Str), t)]))) : Sg G "all_sums" 2 f_all_sums :=
  sg_star (ps := ["first"]) F sc_all_sums hx hbind (fun ds n R ⟨m, s0, os, e, hz, _⟩ => by subst e; exact ⟨[.dat (sD s0)], os.map sD, rfl, rfl, noM1, by rw [List.length_map]; omega⟩) fun src ws rest n R hl ⟨m, s0, os, e, hz, m1, m2, ok, r⟩ => by
    have e1 : ws = [.dat (sD s0)] ∧ rest = os.map sD := by
      match ws, hl with
      | [w], _ =>
        rw [List.singleton_append] at e
        injection e with e1 e2
        refine ⟨by rw [e1], ?_⟩
        have inj : ∀ {a b : List Dat}, a.map D.dat = b.map D.dat → a = b := by
          intro a
          induction a with
          | nil => intro b h; cases b <;> simp_all
          | cons x a ih =>
            intro b h
            cases b with
            | nil => simp at h
            | cons y b => simp only [List.map_cons, List.cons.injEq, D.dat.injEq] at h; rw [h.1, ih h.2]
        exact inj e2
    obtain ⟨rfl, rfl⟩ := e1
    refine sxs_cons (sx_asg 2 rfl (.inl rfl) (.inl rfl) (ex_var 0 rfl rfl rfl ?_))
    refine sxs_cons (sx_for [3] (ix_tup (ex_var 1 rfl rfl rfl ⟨_, rfl, ?_⟩)))
    refine ⟨fun i ρ k => k = n ∧ ∃ (g : List (List Int)) (o : Option D), OkA m g (os.drop i) ∧ allS g (os.drop i) = allS s0 os ∧ ρ = [some (.dat (sD s0)), some (dT (os.map sD)), some (.dat (sD g)), o, none, none], ⟨rfl, s0, none, ok, rfl, rfl⟩, fun i d ρ2 n2 hd ⟨e1, g, o, okg, eg, e2⟩ => ?_, fun ρ2 n2 ⟨e1, g, o, okg, eg, e2⟩ => ?_⟩
    · subst e1 e2
      rw [List.getElem?_map] at hd
      cases ho : os[i]? with
      | none => rw [ho] at hd; cases hd
      | some oi =>
        rw [ho] at hd
        cases hd
        have hlt : i < os.length := (List.getElem?_eq_some_iff.mp ho).1
        have hdr : os.drop i = oi :: os.drop (i + 1) := by
          rw [List.drop_eq_getElem_cons hlt]
          congr 1
          exact (List.getElem?_eq_some_iff.mp ho).2
        rw [hdr] at okg eg
        obtain ⟨k1, k2, k3, k4⟩ := okg
        refine bx_name 3 rfl (.inr rfl) (.inl rfl) (by decide) ?_
        refine sxs_one (sx_asg 2 rfl (.inl rfl) (.inl rfl) (ex_callT "tuple" T.tuple (by decide +kernel) rfl (ax_cons (ex_callB "sorted" T.sorted (by decide +kernel) rfl (ax_cons (ex_sc2 [("one", 4), ("two", 5)] [5] [false, false, false, true, false, false] add (by dsimp only; decide +kernel) (by dsimp only; decide +kernel) (by decide) (ix_tup (ex_var 2 rfl rfl rfl ⟨_, rfl, ?_⟩))))))))
        refine ⟨g, oi, can (cross g oi), rfl, k3, fun a ha b hb => mem_can.mpr (List.mem_flatMap.mpr ⟨a, ha, List.mem_map.mpr ⟨b, hb, rfl⟩⟩), fun a ha => ?_, ?_⟩
        · refine bx_name 4 rfl (.inl rfl) (.inr rfl) (by decide) ⟨fun i hi d hd => ?_, ix_tup (ex_var 3 rfl rfl rfl ⟨_, rfl, rfl, rfl, fun b hb => ?_⟩)⟩
          · rw [List.mem_singleton.mp hi] at hd; cases hd
          · exact bx_name 5 rfl (.inl rfl) (.inr rfl) (by decide) (ex_call A (Nat.le_refl _) rfl (ax_cons (ex_var 4 rfl rfl rfl (ax_cons (ex_var 5 rfl rfl rfl (ax_nil ⟨a, b, rfl, by rw [k1 a ha]; exact m2, rfl, rfl⟩))))))
        · refine ax_nil (b_srtS (fun k hk e => ?_) (ax_nil (b_tupL ⟨rfl, can (cross g oi), _, k4, eg, rfl⟩)))
          have := cross_len k1 k2 k hk
          rw [e] at this
          simp at this
          omega
    · subst e1 e2
      rw [List.length_map, List.drop_length] at eg
      have eg : g = allS s0 os := eg
      subst eg
      exact sxs_one (sx_ret (ex_var 2 rfl rfl rfl r))
end
end DL
/-! The defs: is_sum, is_ascending, is_sums, rest_set; shapes and equality of data. -/
namespace DL
open PySem PySem.Spec L2 HS
theorem lk {a b : Nat} (h : Nat.ble a b = true) : a ≤ b := Nat.le_of_ble_eq_true h
theorem ite1 {A B : Prop} (h : A) : if true = true then A else B := by rw [if_pos rfl]; exact h
theorem ite0 {A B : Prop} (h : B) : if false = true then A else B := by rw [if_neg Bool.false_ne_true]; exact h
section
variable {G : Wd} {c : Cxt} {ρ : Rho} {n : Nat}
/-- name = {k: v for ..}, the name shared with an inner block -/
theorem sx_asgC (i : Nat) {x : Str} {B : Bx} {kx vx : Expr} {gs : List Comprehension} {scope : Scope} {dp pos pos' : Pos} (hx : c.N[i]? = some x) (hl : c.sc.names.lookup x = some .cell) (hf : c.fn x = true ∨ c.sc.names.lookup x = some .local) (h : EX G c (.DictComp kx vx gs scope dp) ρ n fun d n1 => B.nx (ρ.set i (some d)) n1) : SX G c (.Assign [.Name x pos'] (.DictComp kx vx gs scope dp) pos) ρ n B := sx_ps fun X k => by
  have hs : swapsWith (.DictComp kx vx gs scope dp) (some (.Name x pos')) pos.line X.env = pure false := by
    have ky : X.env.kindOf x = some .cell := by show X.env.scope.names.lookup x = _; rw [k.sc]; exact hl
    unfold swapsWith
    simp only [ky, show (some NameKind.cell == some NameKind.local) = false from rfl, Bool.and_false, Bool.false_and]
  have hl2 : Loc c.sc x := .inr hl
  exact ⟨_, ps_asg (pe_wp (.DictComp kx vx gs scope dp)) (pg_wp _) hs (by first | rfl | (simp [swappedStores] <;> rfl)) rfl, fun L0 H0 σ L H s w en => ex_wp h k w en fun v H' ⟨d, L', n', s', w', i', nw, r⟩ pins st u I ru => by
    have g := pg_name (X := X) (i := i) (x := x) (pos := pos') k.nd (by rw [k.N]; exact hx) (by rw [k.sc]; exact hl2) (by rw [k.fn, k.sc]; exact hf)
    exact g.run pins st σ H' v u _ I ru ⟨L', _, n', s.trans s', w', en.set (fun _ p => s.live p) s' hx (loc_vis hl2) i' nw, r⟩⟩
end
abbrev fD (F : List (List (List Int))) : Dat := .tuple (F.map sD)
theorem lay_ints : ∀ k : List Int, PyData.canLayAll0 (k.map PyData.int) = true
  | [] => rfl
  | a :: k => by rw [List.map_cons]; exact lay_ints k
theorem lay_all {xs : List Dat} (h : ∀ x ∈ xs, x.canLay0 = true) : PyData.canLayAll0 xs = true := by
  induction xs with
  | nil => rfl
  | cons x xs ih => unfold PyData.canLayAll0; rw [h x (List.mem_cons_self), ih fun y hy => h y (List.mem_cons_of_mem _ hy)]; rfl
theorem dep_all {xs : List Dat} {m : Nat} (h : ∀ x ∈ xs, x.depth ≤ m) : PyData.depthAll xs ≤ m := by
  induction xs with
  | nil => exact Nat.zero_le _
  | cons x xs ih =>
    have h1 := h x List.mem_cons_self
    have h2 := ih fun y hy => h y (List.mem_cons_of_mem _ hy)
    unfold PyData.depthAll
    omega
theorem lay_iD (k : List Int) : (iD k).canLay0 = true := lay_ints k
theorem dep_iD (k : List Int) : (iD k).depth ≤ 2 := by
  have h : PyData.depthAll (k.map PyData.int) ≤ 1 := dep_all fun x hx => by obtain ⟨i, _, rfl⟩ := List.mem_map.mp hx; exact Nat.zero_le _
  show PyData.depthAll _ + 1 ≤ 2
  omega
theorem lay_sD (k : List (List Int)) : (sD k).canLay0 = true := lay_all fun x hx => by obtain ⟨i, _, rfl⟩ := List.mem_map.mp hx; exact lay_iD i
theorem dep_sD (k : List (List Int)) : (sD k).depth ≤ 3 := by
  have h : PyData.depthAll (k.map iD) ≤ 2 := dep_all fun x hx => by obtain ⟨i, _, rfl⟩ := List.mem_map.mp hx; exact dep_iD i
  show PyData.depthAll _ + 1 ≤ 3
  omega
theorem lay_fD (k : List (List (List Int))) : (fD k).canLay0 = true := lay_all fun x hx => by obtain ⟨i, _, rfl⟩ := List.mem_map.mp hx; exact lay_sD i
theorem dep_fD (k : List (List (List Int))) : (fD k).depth ≤ 4 := by
  have h : PyData.depthAll (k.map sD) ≤ 3 := dep_all fun x hx => by obtain ⟨i, _, rfl⟩ := List.mem_map.mp hx; exact dep_sD i
  show PyData.depthAll _ + 1 ≤ 4
  omega
theorem shp {d : Dat} {m : Nat} (h1 : d.canLay0 = true) (h2 : d.depth ≤ m) (h3 : m ≤ 64 := by decide) : SeqAt.shaped d = true := by
  unfold SeqAt.shaped
  rw [h1, Bool.true_and]
  exact decide_eq_true (Nat.le_trans h2 h3)
theorem shp_iD (k : List Int) : SeqAt.shaped (iD k) = true := shp (lay_iD k) (dep_iD k)
theorem shp_sD (k : List (List Int)) : SeqAt.shaped (sD k) = true := shp (lay_sD k) (dep_sD k)
theorem shp_fD (k : List (List (List Int))) : SeqAt.shaped (fD k) = true := shp (lay_fD k) (dep_fD k)
theorem eqv_all {α : Type} [DecidableEq α] {g : α → Dat} (h : ∀ a b, PyData.eqv (g a) (g b) = decide (a = b)) : ∀ x y : List α, PyData.eqvAll (x.map g) (y.map g) = decide (x = y)
  | [], [] => rfl
  | [], _ :: _ => rfl
  | _ :: _, [] => rfl
  | a :: x, b :: y => by
    rw [List.map_cons, List.map_cons]
    unfold PyData.eqvAll
    rw [h, eqv_all h x y, ← Bool.decide_and]
    exact decide_eq_decide.mpr List.cons_eq_cons.symm
theorem eqv_int (a b : Int) : PyData.eqv (.int a) (.int b) = decide (a = b) := by
  unfold PyData.eqv
  first | rfl | (simp [PyData.asInt?]) | (simp)
theorem eqv_iD (a b : List Int) : PyData.eqv (iD a) (iD b) = decide (a = b) := eqv_all eqv_int a b
theorem eqv_sD (a b : List (List Int)) : PyData.eqv (sD a) (sD b) = decide (a = b) := eqv_all eqv_iD a b
theorem eqv_fD (a b : List (List (List Int))) : PyData.eqv (fD a) (fD b) = decide (a = b) := eqv_all eqv_sD a b
theorem any_iD (ks : List (List Int)) (x : List Int) : ((ks.map iD).any fun z => PyData.eqv z (iD x)) = decide (x ∈ ks) := by
  induction ks with
  | nil => simp
  | cons a ks ih =>
    rw [List.map_cons, List.any_cons, ih, eqv_iD, ← Bool.decide_or]
    refine decide_eq_decide.mpr ?_
    rw [List.mem_cons]
    exact or_congr_left eq_comm
theorem lexLt_lt : ∀ x y : List Int, HT.lexLt x y = decide (x < y)
  | [], [] => by simp [HT.lexLt]
  | [], _ :: _ => by simp [HT.lexLt]
  | _ :: _, [] => by simp [HT.lexLt]
  | a :: x, b :: y => by
    unfold HT.lexLt
    rw [lexLt_lt x y]
    by_cases h : a = b
    · rw [if_pos h]; subst h
      refine decide_eq_decide.mpr ?_
      rw [List.cons_lt_cons_iff]
      exact ⟨fun q => .inr ⟨rfl, q⟩, fun q => q.elim (fun q => absurd q (Int.lt_irrefl _)) (·.2)⟩
    · rw [if_neg h]
      refine decide_eq_decide.mpr ?_
      rw [List.cons_lt_cons_iff]
      exact ⟨.inl, fun q => q.elim id (fun q => absurd q.1 h)⟩
theorem intsB_iD (k : List Int) : intsB (iD k) = true := by
  show (k.map PyData.int).all isInt = true
  rw [List.all_map]
  exact List.all_eq_true.mpr fun _ _ => rfl
abbrev Asc (s : List (List Int)) : Prop := s.Pairwise (fun x y => x < y)
section
variable {G : Wd} {f : Addr} {fd : FuncData}
def f_is_sum : Sig := fun ds n R => ∃ (k : List Int) (m : Int), ds = [.dat (iD k), dI m] ∧ k.length ≤ 900 ∧ R (dB (decide ((k.length : Int) = m))) n
theorem ok_is_sum (T : Tp G) (A : Sg G "are_integers" 2 f_are) (F : Fun G.K "is_sum" "is_sum" t_is_sum f fd) (bd : Binds G.K fd ["thing", "many"] []) (hx : G.mg "is_sum" = some (.ref f)) : Sg G "is_sum" 3 f_is_sum :=
  sg_def F sc_is_sum bd hx (fun ds n R ⟨x, m, e, _⟩ => by subst e; exact ⟨rfl, noM2⟩) fun src ds n R ⟨x, m, e, hz, r⟩ => by
    subst e
    refine sxs_one (sx_ret (ex_and (ex_call A (lk rfl) rfl (ax_cons (ex_var 0 rfl rfl rfl (ax_nil ⟨iD x, rfl, fun xs e => ?_, _, rfl, ?_⟩))))))
    · injection e with e; subst e; rw [List.length_map]; omega
    · rw [intsB_iD]
      refine ite1 ?_
      refine ex_one (ex_cmp (ex_callB "len" T.len (by decide +kernel) rfl (ax_cons (ex_var 0 rfl rfl rfl (ax_nil (b_len (.inl rfl) (ex_var 1 rfl rfl rfl (o_eqI ?_))))))))
      rw [List.length_map]
      exact r
def f_is_asc : Sig := fun ds n R => ∃ s, ds = [.dat (sD s)] ∧ s.length ≤ 900 ∧ Asc s ∧ R (dB true) n
theorem asc_zip {s : List (List Int)} (h : Asc s) {d : Dat} (hd : d ∈ zipD (s.map iD) ((s.map iD).drop 1)) : ∃ x y, d = .tuple [iD x, iD y] ∧ x < y := by
  induction s with
  | nil => cases hd
  | cons a s ih =>
    rw [List.map_cons, List.drop_succ_cons, List.drop_zero] at hd
    cases s with
    | nil => cases hd
    | cons b s =>
      rw [List.map_cons] at hd
      rcases List.mem_cons.mp hd with e | hd
      · exact ⟨a, b, e, (List.pairwise_cons.mp h).1 b List.mem_cons_self⟩
      · exact ih (List.pairwise_cons.mp h).2 hd
theorem ok_is_asc (T : Tp G) (F : Fun G.K "is_ascending" "is_ascending" t_is_ascending f fd) (bd : Binds G.K fd ["some"] []) (hx : G.mg "is_ascending" = some (.ref f)) : Sg G "is_ascending" 1 f_is_asc :=
  sg_def F sc_is_ascending bd hx (fun ds n R ⟨x, e, _⟩ => by subst e; exact ⟨rfl, noM1⟩) fun src ds n R ⟨s, e, hz, ha, r⟩ => by
    subst e
    refine sxs_one (sx_ret (ex_callB "all" T.all (by decide +kernel) rfl (ax_cons (ex_lc [("one", 1), ("other", 2)] [false, false, false] (by dsimp only; decide +kernel) (by dsimp only; decide +kernel) (ix_zip rfl T.zip (ax_cons (ex_var 0 rfl rfl rfl (ax_cons (ex_sl (ex_var 0 rfl rfl rfl (px_some (ex_int ⟨1, rfl, px_none (.inl ⟨_, rfl, ax_nil ⟨s.map iD, _, rfl, ?_⟩⟩)⟩))))))))))))
    rw [cutD_lo _ (by decide)]
    refine cl_map (fun _ => .bool true) (by rw [zipD_len, List.length_map]; omega) (fun d hd => ?_) (.inl (ax_nil ?_))
    · obtain ⟨x, y, rfl, hlt⟩ := asc_zip ha hd
      refine bx_tup ⟨_, rfl, bxs_cons (bx_name 1 rfl (.inl rfl) (.inr rfl) (by decide) (bxs_cons (bx_name 2 rfl (.inl rfl) (.inr rfl) (by decide) (bxs_nil (ex_cmp (ex_var 1 rfl rfl rfl (ex_var 2 rfl rfl rfl (o_ltT ⟨rfl, ?_⟩)))))))), rfl⟩
      rw [lexLt_lt, decide_eq_true hlt]
    · have e : ∀ xs : List Dat, (xs.map fun _ => PyData.bool true) = (xs.map fun _ => true).map PyData.bool := fun xs => by rw [List.map_map]; rfl
      rw [e]
      refine b_all ?_
      have e2 : ∀ xs : List Dat, (xs.map fun _ => true).all id = true := fun xs => by rw [List.all_map]; exact List.all_eq_true.mpr fun _ _ => rfl
      rw [e2]
      exact r
def f_is_sums : Sig := fun ds n R => ∃ (s : List (List Int)) (m : Nat), ds = [.dat (sD s), dI m] ∧ s.length ≤ 900 ∧ m ≤ 900 ∧ Asc s ∧ (∀ k ∈ s, k.length = m) ∧ R (dB true) n
theorem ok_is_sums (T : Tp G) (A : Sg G "is_sum" 3 f_is_sum) (B : Sg G "is_ascending" 1 f_is_asc) (F : Fun G.K "is_sums" "is_sums" t_is_sums f fd) (bd : Binds G.K fd ["thing", "many"] []) (hx : G.mg "is_sums" = some (.ref f)) : Sg G "is_sums" 4 f_is_sums :=
  sg_def F sc_is_sums bd hx (fun ds n R ⟨x, m, e, _⟩ => by subst e; exact ⟨rfl, noM2⟩) fun src ds n R ⟨s, m, e, hz, hm, ha, hl, r⟩ => by
    subst e
    refine sxs_one (sx_ret (ex_and (ex_isi T.isinstance rfl T.tuple rfl rfl (ex_var 0 rfl rfl rfl ⟨sD s, _, rfl, kit_tuple _, _, rfl, ?_⟩))))
    refine ite1 ?_
    refine ex_and (ex_callB "all" T.all (by decide +kernel) rfl (ax_cons (ex_lc [("one", 2)] [false, true, false] (by dsimp only; decide +kernel) (by dsimp only; decide +kernel) (ix_tup (ex_var 0 rfl rfl rfl ⟨_, rfl, ?_⟩)))))
    refine cl_map (fun _ => .bool true) (by rw [List.length_map]; omega) (fun d hd => ?_) (.inl (ax_nil ?_))
    · obtain ⟨k, hk, rfl⟩ := List.mem_map.mp hd
      refine bx_name 2 rfl (.inl rfl) (.inr rfl) (by decide) (ex_call A (Nat.le_refl _) rfl (ax_cons (ex_var 2 rfl rfl rfl (ax_cons (ex_var 1 rfl rfl rfl (ax_nil ⟨k, m, rfl, by rw [hl k hk]; exact hm, rfl, ?_⟩))))))
      rw [hl k hk, decide_eq_true rfl]
    · have e : ∀ xs : List Dat, (xs.map fun _ => PyData.bool true) = (xs.map fun _ => true).map PyData.bool := fun xs => by rw [List.map_map]; rfl
      rw [e]
      refine b_all ?_
      have e2 : ∀ xs : List Dat, (xs.map fun _ => true).all id = true := fun xs => by rw [List.all_map]; exact List.all_eq_true.mpr fun _ _ => rfl
      rw [e2]
      exact ⟨_, rfl, ex_one (ex_call B (lk rfl) rfl (ax_cons (ex_var 0 rfl rfl rfl (ax_nil ⟨s, rfl, hz, ha, r⟩))))⟩
def restL (a t : List (List Int)) : List (List Int) := srt ((t.map fun g => sub g (a.headD [])).filter fun m => a.all fun x => decide (add m x ∈ t))
def f_rest_set : Sig := fun ds n R => ∃ (a t : List (List Int)) (m : Nat), ds = [.dat (sD a), .dat (sD t)] ∧ a ≠ [] ∧ 1 ≤ m ∧ m ≤ 900 ∧ (∀ k ∈ a, k.length = m) ∧ (∀ k ∈ t, k.length = m) ∧ a.length ≤ 900 ∧ t.length ≤ 900 ∧ R (.dat (sD (restL a t))) n
theorem sub_len {x y : List Int} {m : Nat} (hx : x.length = m) (hy : y.length = m) : (sub x y).length = m := by unfold sub; rw [List.length_zipWith, hx, hy, Nat.min_self]
theorem ok_rest_set (T : Tp G) (A : Sg G "added" 1 f_added) (L : Sg G "less" 1 f_less) (F : Fun G.K "rest_set" "rest_set" t_rest_set f fd) (bd : Binds G.K fd ["some", "target"] []) (hx : G.mg "rest_set" = some (.ref f)) : Sg G "rest_set" 2 f_rest_set :=
  sg_def F sc_rest_set bd hx (fun ds n R ⟨x, m, _, e, _⟩ => by subst e; exact ⟨rfl, noM2⟩) fun src ds n R ⟨a, t, m, e, ne, m1, m2, ha, ht, za, zt, r⟩ => by
    subst e
    obtain ⟨a0, a', rfl⟩ : ∃ a0 a', a = a0 :: a' := by cases a with | nil => exact absurd rfl ne | cons x y => exact ⟨_, _, rfl⟩
    have l0 : a0.length = m := ha a0 List.mem_cons_self
    refine sxs_cons (sx_asgC 2 rfl rfl (.inl rfl) (ex_dcT [("own", 6)] [false, false, false, false, false, false, false, false] (by dsimp only; decide +kernel) (by dsimp only; decide +kernel) (ix_tup (ex_var 1 rfl rfl rfl ⟨_, rfl, t, rfl, by omega, fun k hk => bx_name 6 rfl (.inl rfl) (.inr rfl) (by decide) (ex_var 6 rfl rfl rfl ⟨rfl, rfl⟩), ?_⟩))))
    refine sxs_cons (sx_asg 3 rfl (.inl rfl) (.inl rfl) (ex_lstO (ax_nil ⟨[], rfl, by decide, ?_⟩)))
    refine sxs_cons (sx_for [4] (ix_tup (ex_var 1 rfl rfl rfl ⟨_, rfl, ?_⟩)))
    refine ⟨fun i ρ k => k = n ∧ ∃ (o1 o2 : Option D), ρ = [some (.dat (sD (a0 :: a'))), some (.dat (sD t)), some (.keys t), some (.own ((((t.take i).map fun g => sub g a0).filter fun m => (a0 :: a').all fun x => decide (add m x ∈ t)).map iD)), o1, o2, none, none], ⟨rfl, none, none, rfl⟩, fun i d ρ2 n2 hd ⟨e1, o1, o2, e2⟩ => ?_, fun ρ2 n2 ⟨e1, o1, o2, e2⟩ => ?_⟩
    · subst e1 e2
      rw [List.getElem?_map] at hd
      cases hg : t[i]? with
      | none => rw [hg] at hd; cases hd
      | some g =>
        rw [hg] at hd
        cases hd
        have hgm : g ∈ t := List.mem_of_getElem? hg
        have hlt : i < t.length := (List.getElem?_eq_some_iff.mp hg).1
        have etk : t.take (i + 1) = t.take i ++ [g] := by rw [List.take_add_one, hg]; rfl
        have lg : (sub g a0).length = m := sub_len (ht g hgm) l0
        refine bx_name 4 rfl (.inl rfl) (.inl rfl) (by decide) ?_
        refine sxs_cons (sx_asg 5 rfl (.inr rfl) (.inl rfl) (ex_call L (lk rfl) rfl (ax_cons (ex_var 4 rfl rfl rfl (ax_cons (ex_ix (ex_var 0 rfl rfl rfl (ex_int ⟨_, 0, iD a0, .inl rfl, rfl, by decide, rfl, ax_nil ⟨g, a0, rfl, by rw [ht g hgm, l0], by rw [ht g hgm]; exact m2, ?_⟩⟩))))))))
        refine sxs_one (sx_if (tx_val (ex_callB "all" T.all (by decide +kernel) rfl (ax_cons (ex_lc [("one", 7)] [false, false, true, false, false, true, false, false] (by dsimp only; decide +kernel) (by dsimp only; decide +kernel) (ix_tup (ex_var 0 rfl rfl rfl ⟨_, rfl, ?_⟩)))))))
        refine cl_map (fun d => match d with | .tuple xs => .bool (decide (add (sub g a0) (xs.map fun | .int i => i | _ => 0) ∈ t)) | d => d) (by rw [List.length_map]; omega) (fun d hd => ?_) (.inl (ax_nil ?_))
        · obtain ⟨k, hk, rfl⟩ := List.mem_map.mp hd
          refine bx_name 7 rfl (.inl rfl) (.inr rfl) (by decide) (ex_cmp (ex_call A (lk rfl) rfl (ax_cons (ex_var 5 rfl rfl rfl (ax_cons (ex_var 7 rfl rfl rfl (ax_nil ⟨sub g a0, k, rfl, by rw [lg]; exact m2, ex_var 2 rfl rfl rfl (o_inK ⟨rfl, ?_⟩)⟩)))))))
          show _ = D.dat (.bool (decide (add (sub g a0) ((k.map PyData.int).map fun | .int i => i | _ => 0) ∈ t)))
          rw [List.map_map, show k.map ((fun | PyData.int i => i | _ => 0) ∘ PyData.int) = k from by rw [show ((fun | PyData.int i => i | _ => 0) ∘ PyData.int) = (id : Int → Int) from rfl, List.map_id]]
        · rw [List.map_map, show ((a0 :: a').map ((fun d => match d with | .tuple xs => PyData.bool (decide (add (sub g a0) (xs.map fun | .int i => i | _ => 0) ∈ t)) | d => d) ∘ iD)) = ((a0 :: a').map fun x => decide (add (sub g a0) x ∈ t)).map PyData.bool from by
            rw [List.map_map]
            refine List.map_congr_left fun k _ => ?_
            show PyData.bool (decide (add (sub g a0) ((k.map PyData.int).map fun | .int i => i | _ => 0) ∈ t)) = _
            rw [List.map_map, show k.map ((fun | PyData.int i => i | _ => 0) ∘ PyData.int) = k from by rw [show ((fun | PyData.int i => i | _ => 0) ∘ PyData.int) = (id : Int → Int) from rfl, List.map_id]]
            rfl]
          refine b_all ⟨_, rfl, ?_⟩
          rw [List.all_map, show (id ∘ fun x => decide (add (sub g a0) x ∈ t)) = (fun x => decide (add (sub g a0) x ∈ t)) from rfl]
          refine iteB (fun hb => ?_) (fun hb => ?_)
          · refine sxs_one (sx_append (i := 3) (.s (.s (.s .z))) rfl (ex_var 5 rfl rfl rfl ⟨_, rfl, ?_, rfl, some (.dat (iD g)), some (.dat (iD (sub g a0))), ?_⟩))
            · rw [List.length_map]
              refine Nat.le_trans (List.length_filter_le _ _) ?_
              rw [List.length_map, List.length_take]
              omega
            · rw [etk, List.map_append, List.filter_append, List.map_append]
              simp only [List.map_cons, List.map_nil, List.filter_cons, List.filter_nil]
              rw [if_pos hb]
              rfl
          · refine sxs_nil ⟨rfl, some (.dat (iD g)), some (.dat (iD (sub g a0))), ?_⟩
            rw [etk, List.map_append, List.filter_append, List.map_append]
            simp only [List.map_cons, List.map_nil, List.filter_cons, List.filter_nil]
            rw [if_neg (by rw [hb]; decide), List.map_nil, List.append_nil]
            rfl
    · subst e1 e2
      rw [List.length_map, List.take_length]
      refine sxs_frz 3 rfl (sxs_one (sx_ret (ex_callT "tuple" T.tuple (by decide +kernel) rfl (ax_cons (ex_callB "sorted" T.sorted (by decide +kernel) rfl (ax_cons (ex_var 3 rfl rfl rfl (ax_nil (b_srtL (fun k hk e => ?_) ?_ (ax_nil (b_tupL r)))))))))))
      · obtain ⟨h1, _⟩ := List.mem_filter.mp hk
        obtain ⟨g, hg, rfl⟩ := List.mem_map.mp h1
        have := sub_len (ht g hg) l0
        rw [e] at this
        simp at this
        omega
      · refine Nat.le_trans (List.length_filter_le _ _) ?_
        rw [List.length_map]
        omega
end
end DL
/-! The defs: require_sums, is_nonempty_sum, the class Sums. -/
namespace DL
open PySem PySem.Spec L2 HS
section
variable {G : Wd} {c : Cxt} {ρ : Rho} {n : Nat} {R : D → Nat → Prop} {Φ : Sig} {k : Nat} {m : Str} {o e : Expr} {es : List Expr} {apos pos : Pos}
theorem ex_meth2 (T : Kf G) (M : Mg G m k Φ) (hk : k ≤ c.k) (hm : (m == ("own_sums" : Str)) = false) (h : EX G c o ρ n fun d n1 => ∃ ks, d = .obj ks ∧ AX G c (e :: es) ρ n1 fun ds n2 => Φ (.obj ks :: ds) n2 R)
    (hst : ∀ env, starEach (e :: es) env = (false, eval e env) :: starEach es env := by intro _; rfl) (hpl : ∀ env, (backTo pos (starEach es env)).any (·.1) = false := by intro _; rfl)
    (ht : ∀ env, eval (.Call (.Attribute o m apos) (e :: es) [] pos) env = (do
      let ov ← eval o env
      standAt apos.atName
      let (f, first) ← holding [ov] (getMethod ov m (do return (← importBound o env).getD true))
      callWith pos f first (backTo pos (starEach (e :: es) env)) (backToKw pos (keywordEach [] env))) := by intro _; rfl) : EX G c (.Call (.Attribute o m apos) (e :: es) [] pos) ρ n R := ex_pe fun X lk => by
  obtain ⟨f, hmt, F⟩ := M.ex
  rw [← lk.prog, ← lk.w, ← lk.K, ← lk.mg, ← lk.base] at F
  rw [← lk.K] at hmt
  refine ⟨_, pe_methR (pe_wp o) (by rw [lk.K]; exact T.cls) hmt F (lk.room.mono hk) pass0 (pa_wp _) (hst _) (hpl _) (ht _), fun σ H0 L H w en => ?_⟩
  refine ex_wp h lk w en fun v H1 ⟨d, L1, n1, s1, w1, i1, _, ks, e1, r⟩ => ?_
  subst e1
  obtain ⟨a, dx, x, rfl, h1, h2⟩ := id i1
  refine ⟨a, dx, _, rfl, w1.sub _ _ h1, by rw [List.lookup_cons, hm]; rfl, ax_wp r lk w1 (en.go s1) fun vs H2 ⟨ds, L2, n2, s2, w2, i2, q⟩ => ?_⟩
  exact sp_of w2 (.cons (i1.go s2) i2) q fun v H' z => z.back (s1.trans s2)
theorem sg_meth {x qual : Str} {st : Stmt} {f : Addr} {fd : FuncData} {N ps : List Str} (F : Fun G.K x qual st f fd) (S : FnScope N ps (defScope st)) (bd : Binds G.K fd ps []) (hx : Meth G.K G.C m f) (hΦ : ∀ ds n R, Φ ds n R → ds.length = ps.length ∧ ∀ d ∈ ds, mine d = false)
    (hb : ∀ src ds n R, Φ ds n R → SXs G ⟨N, defScope st, k, src, fun _ => true⟩ (defBody st) (rho0 N ds) n { nx := fun _ n' => R (.dat .none) n', rt := R }) : Mg G m (k + 1) Φ := ⟨f, hx, fn_def F S bd hΦ hb⟩
end
theorem noO1 {a : List (List Int)} : ∀ d ∈ [D.obj a], mine d = false := fun d h => by rw [List.mem_singleton.mp h] <;> rfl
theorem noO2 {a b : List (List Int)} : ∀ d ∈ [D.obj a, D.obj b], mine d = false := fun d h => by
  rcases List.mem_cons.mp h with e | h
  · rw [e] <;> rfl
  · rw [List.mem_singleton.mp h] <;> rfl
theorem noO3 {a : List (List Int)} {b : Dat} : ∀ d ∈ [D.obj a, D.dat b], mine d = false := fun d h => by
  rcases List.mem_cons.mp h with e | h
  · rw [e] <;> rfl
  · rw [List.mem_singleton.mp h] <;> rfl
theorem noM3 {x y z : Dat} : ∀ d ∈ [D.dat x, D.dat y, D.dat z], mine d = false := fun d h => by
  rcases List.mem_cons.mp h with e | h
  · rw [e] <;> rfl
  · exact noM2 d h
theorem noM4 {x y z u : Dat} : ∀ d ∈ [D.dat x, D.dat y, D.dat z, D.dat u], mine d = false := fun d h => by
  rcases List.mem_cons.mp h with e | h
  · rw [e] <;> rfl
  · exact noM3 d h
section
variable {G : Wd} {f : Addr} {fd : FuncData}
def f_req : Sig := fun ds n R => ∃ w a, ds = [dB true, .dat w, .dat a] ∧ R (.dat .none) n
theorem ok_req_sums (F : Fun G.K "require_sums" "require_sums" t_require_sums f fd) (bd : Binds G.K fd ["condition", "word", "at"] []) (hx : G.mg "require_sums" = some (.ref f)) : Sg G "require_sums" 1 f_req :=
  sg_def F sc_require_sums bd hx (fun ds n R ⟨w, a, e, _⟩ => by subst e; exact ⟨rfl, noM3⟩) fun src ds n R ⟨w, a, e, r⟩ => by
    subst e
    exact sxs_one (sx_if (tx_not (tx_val (ex_var 0 rfl rfl rfl ⟨true, rfl, ite0 (sxs_nil r)⟩))))
theorem ok_req_fam (F : Fun G.K "require_family" "require_family" t_require_family f fd) (bd : Binds G.K fd ["condition", "word", "at"] []) (hx : G.mg "require_family" = some (.ref f)) : Sg G "require_family" 1 f_req :=
  sg_def F sc_require_family bd hx (fun ds n R ⟨w, a, e, _⟩ => by subst e; exact ⟨rfl, noM3⟩) fun src ds n R ⟨w, a, e, r⟩ => by
    subst e
    exact sxs_one (sx_if (tx_not (tx_val (ex_var 0 rfl rfl rfl ⟨true, rfl, ite0 (sxs_nil r)⟩))))
def f_nonempty : Sig := fun ds n R => ∃ k, ds = [.dat (iD k)] ∧ k ≠ [] ∧ k.length ≤ 900 ∧ R (dB true) n
theorem ok_nonempty (T : Tp G) (A : Sg G "are_integers" 2 f_are) (F : Fun G.K "is_nonempty_sum" "is_nonempty_sum" t_is_nonempty_sum f fd) (bd : Binds G.K fd ["thing"] []) (hx : G.mg "is_nonempty_sum" = some (.ref f)) : Sg G "is_nonempty_sum" 3 f_nonempty :=
  sg_def F sc_is_nonempty_sum bd hx (fun ds n R ⟨w, e, _⟩ => by subst e; exact ⟨rfl, noM1⟩) fun src ds n R ⟨k, e, ne, hz, r⟩ => by
    subst e
    refine sxs_one (sx_ret (ex_and (ex_call A (lk rfl) rfl (ax_cons (ex_var 0 rfl rfl rfl (ax_nil ⟨iD k, rfl, fun xs e => ?_, _, rfl, ?_⟩))))))
    · injection e with e; subst e; rw [List.length_map]; omega
    · rw [intsB_iD]
      refine ite1 ?_
      refine ex_one (ex_cmp (ex_var 0 rfl rfl rfl (ex_tup (ax_nil ⟨[], rfl, by decide, o_ne (shp_iD k) (shp_iD []) ?_⟩))))
      have e := eqv_iD k []
      rw [decide_eq_false ne] at e
      rw [show PyData.tuple [] = iD [] from rfl, e]
      exact r
def f_init : SigI := fun ds n R => ∃ (ks : List (List Int)) (m : Nat), ds = [.dat (sD ks)] ∧ ks.length < 64 ∧ 1 ≤ m ∧ m ≤ 900 ∧ (∀ k ∈ ks, k.length = m) ∧ R (can ks) n
theorem ne_of_len {k : List Int} {m : Nat} (h : k.length = m) (m1 : 1 ≤ m) : k ≠ [] := fun e => by rw [e] at h; simp at h; omega
theorem all_true (xs : List Dat) : (xs.map fun _ => PyData.bool true) = (xs.map fun _ => true).map PyData.bool ∧ (xs.map fun _ => true).all id = true := ⟨by rw [List.map_map]; rfl, by rw [List.all_map]; exact List.all_eq_true.mpr fun _ _ => rfl⟩
theorem ok_init (T : Tp G) (C : Kf G) (A : Sg G "is_nonempty_sum" 3 f_nonempty) (Q : Sg G "require_sums" 1 f_req) (F : Fun G.K "__init__" "Sums.__init__" t_Sums___init__ f fd) (bd : Binds G.K fd ["self", "sums"] []) (M : Mk G.K G.C f) : Ini G 4 f_init :=
  ini_def C F sc_Sums___init__ bd M rfl rfl (fun ds n R ⟨ks, m, e, _⟩ => by subst e; exact ⟨rfl, noM1⟩) fun src a dx ds n R ⟨ks, m, e, hz, m1, m2, hl, r⟩ => by
    subst e
    refine sx_expr (ex_call Q (lk rfl) rfl (ax_cons (ex_and (ex_isi T.isinstance rfl T.tuple rfl rfl (ex_var 1 rfl rfl rfl ⟨sD ks, _, rfl, kit_tuple _, true, rfl, ite1 ?_⟩)))))
    refine ex_one (ex_callB "all" T.all (by decide +kernel) rfl (ax_cons (ex_lc [("one", 3)] [false, false, false, false] (by dsimp only; decide +kernel) (by dsimp only; decide +kernel) (ix_tup (ex_var 1 rfl rfl rfl ⟨_, rfl, ?_⟩)))))
    refine cl_map (fun _ => .bool true) (by rw [List.length_map]; omega) (fun d hd => ?_) (.inl (ax_nil ?_))
    · obtain ⟨k, hk, rfl⟩ := List.mem_map.mp hd
      exact bx_name 3 rfl (.inl rfl) (.inr rfl) (by decide) (ex_call A (lk rfl) rfl (ax_cons (ex_var 3 rfl rfl rfl (ax_nil ⟨k, rfl, ne_of_len (hl k hk) m1, by rw [hl k hk]; exact m2, rfl, rfl⟩))))
    · rw [(all_true _).1]
      refine b_all ?_
      rw [(all_true _).2]
      refine ax_cons (ex_str (ax_cons (ex_neg (ax_nil ⟨_, _, rfl, ?_⟩))))
      refine sx_for [2, 3] (ix_enum rfl T.enumerate (ex_var 1 rfl rfl rfl ⟨_, rfl, ?_⟩))
      refine ⟨fun i ρ k => k = n ∧ ∃ (o1 o2 : Option D), ρ = [some (.fresh a dx), some (.dat (sD ks)), o1, o2], ⟨rfl, none, none, rfl⟩, fun i d ρ2 n2 hd ⟨e1, o1, o2, e2⟩ => ?_, fun ρ2 n2 ⟨e1, o1, o2, e2⟩ => ?_⟩
      · subst e1 e2
        unfold enumD at hd
        rw [List.getElem?_mapIdx, List.getElem?_map] at hd
        cases hg : ks[i]? with
        | none => rw [hg] at hd; cases hd
        | some g =>
          rw [hg] at hd
          cases hd
          have hgm : g ∈ ks := List.mem_of_getElem? hg
          obtain ⟨k0, ks', rfl⟩ : ∃ a b, ks = a :: b := by cases ks with | nil => cases hgm | cons x y => exact ⟨_, _, rfl⟩
          refine bx_tup ⟨_, rfl, bxs_cons (bx_name 2 rfl (.inl rfl) (.inl rfl) (by decide) (bxs_cons (bx_name 3 rfl (.inl rfl) (.inl rfl) (by decide) (bxs_nil ?_)))), rfl⟩
          refine sxs_one (sx_expr (ex_call Q (lk rfl) rfl (ax_cons (ex_cmp (ex_callB "len" T.len (by decide +kernel) rfl (ax_cons (ex_var 3 rfl rfl rfl (ax_nil (b_len (.inl rfl) ?_)))))))))
          refine ex_callB "len" T.len (by decide +kernel) rfl (ax_cons (ex_ix (ex_var 1 rfl rfl rfl (ex_int ⟨_, 0, iD k0, .inl rfl, rfl, by decide, rfl, ax_nil (b_len (.inl rfl) (o_eqI ?_))⟩))))
          rw [List.length_map, List.length_map, hl g hgm, hl k0 List.mem_cons_self, decide_eq_true rfl]
          exact ax_cons (ex_str (ax_cons (ex_var 2 rfl rfl rfl (ax_nil ⟨_, _, rfl, rfl, some _, some _, rfl⟩))))
      · subst e1 e2
        refine ⟨rfl, ex_callT "tuple" T.tuple (by decide +kernel) rfl (ax_cons (ex_callB "sorted" T.sorted (by decide +kernel) rfl (ax_cons (ex_callT "set" T.set (by decide +kernel) rfl (ax_cons (ex_var 1 rfl rfl rfl (ax_nil (b_set (.inr rfl) hz (ax_nil (b_srtS (fun k hk => ne_of_len (hl k hk) m1) (ax_nil (b_tupL ⟨_, rfl, r⟩))))))))))))⟩
def f_form : Sig := fun ds n R => ∃ a, ds = [.obj a] ∧ R (.dat (sD a)) n
theorem ok_form (C : Kf G) {p : Addr} (F : Fun G.K "form" "Sums.form" t_Sums_form f fd) (bd : Binds G.K fd ["self"] []) (M : PropOf G.K G.C "form" p f) : Pg G "form" 1 f_form :=
  ⟨p, f, fd, M, bd, fn_okD (k := 0) F sc_Sums_form (fun ds n R ⟨a, e, _⟩ => by subst e; exact ⟨rfl, noO1⟩) fun src ds n R ⟨a, e, r⟩ => by
    subst e
    exact sxs_one (sx_ret (ex_fld C (ex_var 0 rfl rfl rfl ⟨a, rfl, r⟩)))⟩
def f_alike : Sig := fun ds n R => ∃ (a b : List (List Int)) (m : Nat), ds = [.obj a, .obj b] ∧ (∀ k ∈ a, k.length = m) ∧ (∀ k ∈ b, k.length = m) ∧ R (.dat .none) n
theorem ok_alike (T : Tp G) (C : Kf G) (Q : Sg G "require_sums" 1 f_req) (F : Fun G.K "need_alike" "Sums.need_alike" t_Sums_need_alike f fd) (bd : Binds G.K fd ["self", "other"] []) (M : Meth G.K G.C "need_alike" f) : Mg G "need_alike" 2 f_alike :=
  sg_meth F sc_Sums_need_alike bd M (fun ds n R ⟨a, b, m, e, _⟩ => by subst e; exact ⟨rfl, noO2⟩) fun src ds n R ⟨a, b, m, e, ha, hb, r⟩ => by
    subst e
    refine sxs_one (sx_if (tw_and (tx_cmp (ex_fld C (ex_var 0 rfl rfl rfl ⟨a, rfl, ex_tup (ax_nil ⟨[], rfl, by decide, o_ne (shp_sD a) (shp_sD []) ⟨_, rfl, ?_⟩⟩)⟩)))).tx)
    rw [show PyData.tuple [] = sD [] from rfl, eqv_sD]
    refine iteB (fun h1 => ?_) fun h1 => ite0 (sxs_nil r)
    refine tw_and1 (tx_cmp (ex_fld C (ex_var 1 rfl rfl rfl ⟨b, rfl, ex_tup (ax_nil ⟨[], rfl, by decide, o_ne (shp_sD b) (shp_sD []) ⟨_, rfl, ?_⟩⟩)⟩)))
    rw [show PyData.tuple [] = sD [] from rfl, eqv_sD]
    refine iteB (fun h2 => ?_) fun h2 => sxs_nil r
    obtain ⟨a0, a', rfl⟩ : ∃ x y, a = x :: y := by cases a with | nil => simp at h1 | cons x y => exact ⟨_, _, rfl⟩
    obtain ⟨b0, b', rfl⟩ : ∃ x y, b = x :: y := by cases b with | nil => simp at h2 | cons x y => exact ⟨_, _, rfl⟩
    refine sxs_one (sx_expr (ex_call Q (lk rfl) rfl (ax_cons (ex_cmp (ex_callB "len" T.len (by decide +kernel) rfl (ax_cons (ex_ix (ex_fld C (ex_var 0 rfl rfl rfl ⟨_, rfl, ex_int ⟨_, 0, iD a0, .inl rfl, rfl, by decide, rfl, ax_nil (b_len (.inl rfl) ?_)⟩⟩)))))))))
    refine ex_callB "len" T.len (by decide +kernel) rfl (ax_cons (ex_ix (ex_fld C (ex_var 1 rfl rfl rfl ⟨_, rfl, ex_int ⟨_, 0, iD b0, .inl rfl, rfl, by decide, rfl, ax_nil (b_len (.inl rfl) (o_eqI ?_))⟩⟩))))
    rw [List.length_map, List.length_map, ha a0 List.mem_cons_self, hb b0 List.mem_cons_self, decide_eq_true rfl]
    exact ax_cons (ex_str (ax_cons (ex_neg (ax_nil ⟨_, _, rfl, r⟩))))
def f_within : Sig := fun ds n R => ∃ (a b : List (List Int)) (m : Nat), ds = [.obj a, .obj b] ∧ a.length ≤ 900 ∧ (∀ k ∈ a, k.length = m) ∧ (∀ k ∈ b, k.length = m) ∧ R (dB (a.all fun x => decide (x ∈ b))) n
def unI : Dat → List Int
  | .tuple xs => xs.map fun | .int i => i | _ => 0
  | _ => []
theorem unI_iD (k : List Int) : unI (iD k) = k := by
  show (k.map PyData.int).map _ = k
  rw [List.map_map]
  exact List.map_id k
theorem unI_map (ks : List (List Int)) : (ks.map iD).map unI = ks := by
  rw [List.map_map]
  refine (List.map_congr_left fun k _ => ?_).trans (List.map_id ks)
  exact unI_iD k
theorem all_un (ks : List (List Int)) (p : List Int → Bool) : ((ks.map iD).map fun d => PyData.bool (p (unI d))) = (ks.map p).map PyData.bool := by
  rw [List.map_map, List.map_map]
  refine List.map_congr_left fun k _ => ?_
  show PyData.bool (p (unI (iD k))) = PyData.bool (p k)
  rw [unI_iD]
theorem all_id {α : Type} (ks : List α) (p : α → Bool) : (ks.map p).all id = ks.all p := by rw [List.all_map]; rfl
theorem ok_within (T : Tp G) (C : Kf G) (A : Mg G "need_alike" 2 f_alike) (F : Fun G.K "within" "Sums.within" t_Sums_within f fd) (bd : Binds G.K fd ["self", "b"] []) (M : Meth G.K G.C "within" f) : Mg G "within" 3 f_within :=
  sg_meth F sc_Sums_within bd M (fun ds n R ⟨a, b, m, e, _⟩ => by subst e; exact ⟨rfl, noO2⟩) fun src ds n R ⟨a, b, m, e, hz, ha, hb, r⟩ => by
    subst e
    refine sxs_cons (sx_expr (ex_meth2 C A (lk rfl) rfl (ex_var 0 rfl rfl rfl ⟨a, rfl, ax_cons (ex_var 1 rfl rfl rfl (ax_nil ⟨a, b, m, rfl, ha, hb, ?_⟩))⟩)))
    refine sxs_one (sx_ret (ex_callB "all" T.all (by decide +kernel) rfl (ax_cons (ex_lc [("one", 2)] [false, true, false] (by dsimp only; decide +kernel) (by dsimp only; decide +kernel) (ix_tup (ex_fld C (ex_var 0 rfl rfl rfl ⟨a, rfl, _, rfl, ?_⟩)))))))
    refine cl_map (fun d => .bool (decide (unI d ∈ b))) (by rw [List.length_map]; omega) (fun d hd => ?_) (.inl (ax_nil ?_))
    · obtain ⟨k, hk, rfl⟩ := List.mem_map.mp hd
      refine bx_name 2 rfl (.inl rfl) (.inr rfl) (by decide) (ex_cmp (ex_var 2 rfl rfl rfl (ex_fld C (ex_var 1 rfl rfl rfl ⟨b, rfl, o_inT (shp_iD k) (shp_sD b) ⟨rfl, ?_⟩⟩))))
      rw [any_iD, unI_iD]
    · rw [all_un a fun x => decide (x ∈ b)]
      refine b_all ?_
      rw [all_id]
      exact r
def f_plus : Sig := fun ds n R => ∃ (a b : List (List Int)) (m : Nat), ds = [.obj a, .obj b] ∧ 1 ≤ m ∧ m ≤ 900 ∧ (∀ k ∈ a, k.length = m) ∧ (∀ k ∈ b, k.length = m) ∧ (can (cross a b)).length ≤ 62 ∧ R (.obj (can (cross a b))) n
theorem can_can (l : List (List Int)) : can (can l) = can l := can_self (asc_can l)
theorem ok_plus (T : Tp G) (C : Kf G) (A : Mg G "need_alike" 2 f_alike) (S : Sg G "all_sums" 2 f_all_sums) (I : Ini G 4 f_init) (F : Fun G.K "__add__" "Sums.__add__" t_Sums___add__ f fd) (bd : Binds G.K fd ["self", "other"] []) (M : Meth G.K G.C "__add__" f) : Mg G "__add__" 6 f_plus :=
  sg_meth F sc_Sums___add__ bd M (fun ds n R ⟨a, b, m, e, _⟩ => by subst e; exact ⟨rfl, noO2⟩) fun src ds n R ⟨a, b, m, e, m1, m2, ha, hb, hz, r⟩ => by
    subst e
    refine sxs_cons (sx_expr (ex_meth2 C A (lk rfl) rfl (ex_var 0 rfl rfl rfl ⟨a, rfl, ax_cons (ex_var 1 rfl rfl rfl (ax_nil ⟨a, b, m, rfl, ha, hb, ?_⟩))⟩)))
    have hc : ∀ k ∈ can (cross a b), k.length = m := fun k hk => cross_len ha hb k (mem_can.mp hk)
    refine sxs_one (sx_ret (ex_make C I (lk rfl) rfl (ax_cons (ex_call S (lk rfl) rfl (ax_cons (ex_fld C (ex_var 0 rfl rfl rfl ⟨a, rfl, ax_cons (ex_fld C (ex_var 1 rfl rfl rfl ⟨b, rfl, ax_nil ⟨m, a, [b], rfl, lk rfl, m1, m2, ⟨ha, hb, hz, hc⟩, ax_nil ⟨can (cross a b), m, rfl, by omega, m1, m2, hc, ?_⟩⟩⟩))⟩)))))))
    rw [can_can]
    exact r
def f_shift : Sig := fun ds n R => ∃ (a : List (List Int)) (k : List Int) (m : Nat), ds = [.obj a, .dat (iD k)] ∧ 1 ≤ m ∧ m ≤ 900 ∧ a ≠ [] ∧ (∀ k ∈ a, k.length = m) ∧ k.length = m ∧ (can (cross [k] a)).length ≤ 62 ∧ R (.obj (can (cross [k] a))) n
theorem ok_shift (T : Tp G) (C : Kf G) (Q : Sg G "require_sums" 1 f_req) (A : Sg G "is_nonempty_sum" 3 f_nonempty) (S : Sg G "all_sums" 2 f_all_sums) (I : Ini G 4 f_init) (F : Fun G.K "shifted" "Sums.shifted" t_Sums_shifted f fd) (bd : Binds G.K fd ["self", "one"] []) (M : Meth G.K G.C "shifted" f) : Mg G "shifted" 6 f_shift :=
  sg_meth F sc_Sums_shifted bd M (fun ds n R ⟨a, b, m, e, _⟩ => by subst e; exact ⟨rfl, noO3⟩) fun src ds n R ⟨a, k, m, e, m1, m2, ne, ha, hk, hz, r⟩ => by
    subst e
    obtain ⟨a0, a', rfl⟩ : ∃ x y, a = x :: y := by cases a with | nil => exact absurd rfl ne | cons x y => exact ⟨_, _, rfl⟩
    refine sxs_cons (sx_expr (ex_call Q (lk rfl) rfl (ax_cons (ex_call A (lk rfl) rfl (ax_cons (ex_var 1 rfl rfl rfl (ax_nil ⟨k, rfl, ne_of_len hk m1, by rw [hk]; exact m2, ax_cons (ex_str (ax_cons (ex_neg (ax_nil ⟨_, _, rfl, ?_⟩))))⟩)))))))
    refine sxs_cons (sx_expr (ex_call Q (lk rfl) rfl (ax_cons (ex_or (ex_cmp (ex_fld C (ex_var 0 rfl rfl rfl ⟨_, rfl, ex_tup (ax_nil ⟨[], rfl, by decide, o_eq (shp_sD _) (shp_sD []) ⟨_, rfl, ?_⟩⟩)⟩)))))))
    rw [show PyData.tuple [] = sD [] from rfl, eqv_sD, decide_eq_false ne]
    refine ite0 (ex_one (ex_cmp (ex_callB "len" T.len (by decide +kernel) rfl (ax_cons (ex_var 1 rfl rfl rfl (ax_nil (b_len (.inl rfl) ?_)))))))
    refine ex_callB "len" T.len (by decide +kernel) rfl (ax_cons (ex_ix (ex_fld C (ex_var 0 rfl rfl rfl ⟨_, rfl, ex_int ⟨_, 0, iD a0, .inl rfl, rfl, by decide, rfl, ax_nil (b_len (.inl rfl) (o_eqI ?_))⟩⟩))))
    rw [List.length_map, List.length_map, ha a0 List.mem_cons_self, hk, decide_eq_true rfl]
    refine ax_cons (ex_str (ax_cons (ex_neg (ax_nil ⟨_, _, rfl, ?_⟩))))
    have h1 : ∀ x ∈ [k], x.length = m := fun x hx => by rw [List.mem_singleton.mp hx]; exact hk
    have hc : ∀ x ∈ can (cross [k] (a0 :: a')), x.length = m := fun x hx => cross_len h1 ha x (mem_can.mp hx)
    refine sxs_one (sx_ret (ex_make C I (lk rfl) rfl (ax_cons (ex_call S (lk rfl) rfl (ax_cons (ex_tup (ax_cons (ex_var 1 rfl rfl rfl (ax_nil ⟨[iD k], rfl, lk rfl, ax_cons (ex_fld C (ex_var 0 rfl rfl rfl ⟨_, rfl, ax_nil ⟨m, [k], [a0 :: a'], rfl, lk rfl, m1, m2, ⟨h1, ha, hz, hc⟩, ax_nil ⟨can (cross [k] (a0 :: a')), m, rfl, by omega, m1, m2, hc, ?_⟩⟩⟩))⟩)))))))))
    rw [can_can]
    exact r
def f_rest_in : Sig := fun ds n R => ∃ (a b : List (List Int)) (m : Nat), ds = [.obj a, .obj b] ∧ 1 ≤ m ∧ m ≤ 900 ∧ a ≠ [] ∧ (∀ k ∈ a, k.length = m) ∧ (∀ k ∈ b, k.length = m) ∧ a.length ≤ 900 ∧ b.length ≤ 63 ∧ R (.obj (can (restL a b))) n
theorem rest_len {a b : List (List Int)} {m : Nat} (ne : a ≠ []) (ha : ∀ k ∈ a, k.length = m) (hb : ∀ k ∈ b, k.length = m) : (∀ k ∈ restL a b, k.length = m) ∧ (restL a b).length ≤ b.length := by
  obtain ⟨a0, a', rfl⟩ : ∃ x y, a = x :: y := by cases a with | nil => exact absurd rfl ne | cons x y => exact ⟨_, _, rfl⟩
  refine ⟨fun k hk => ?_, ?_⟩
  · unfold restL at hk
    rw [(srt_perm _).mem_iff] at hk
    obtain ⟨h1, _⟩ := List.mem_filter.mp hk
    obtain ⟨g, hg, rfl⟩ := List.mem_map.mp h1
    exact sub_len (hb g hg) (ha a0 List.mem_cons_self)
  · unfold restL
    rw [(srt_perm _).length_eq]
    refine Nat.le_trans (List.length_filter_le _ _) ?_
    rw [List.length_map]
    exact Nat.le_refl _
theorem ok_rest_in (T : Tp G) (C : Kf G) (Q : Sg G "require_sums" 1 f_req) (A : Mg G "need_alike" 2 f_alike) (S : Sg G "rest_set" 2 f_rest_set) (I : Ini G 4 f_init) (F : Fun G.K "rest_in" "Sums.rest_in" t_Sums_rest_in f fd) (bd : Binds G.K fd ["self", "b"] []) (M : Meth G.K G.C "rest_in" f) : Mg G "rest_in" 6 f_rest_in :=
  sg_meth F sc_Sums_rest_in bd M (fun ds n R ⟨a, b, m, e, _⟩ => by subst e; exact ⟨rfl, noO2⟩) fun src ds n R ⟨a, b, m, e, m1, m2, ne, ha, hb, za, zb, r⟩ => by
    subst e
    refine sxs_cons (sx_expr (ex_call Q (lk rfl) rfl (ax_cons (ex_cmp (ex_fld C (ex_var 0 rfl rfl rfl ⟨_, rfl, ex_tup (ax_nil ⟨[], rfl, by decide, o_ne (shp_sD _) (shp_sD []) ?_⟩)⟩))))))
    rw [show PyData.tuple [] = sD [] from rfl, eqv_sD, decide_eq_false ne]
    refine ax_cons (ex_str (ax_cons (ex_neg (ax_nil ⟨_, _, rfl, ?_⟩))))
    refine sxs_cons (sx_expr (ex_meth2 C A (lk rfl) rfl (ex_var 0 rfl rfl rfl ⟨a, rfl, ax_cons (ex_var 1 rfl rfl rfl (ax_nil ⟨a, b, m, rfl, ha, hb, ?_⟩))⟩)))
    obtain ⟨r1, r2⟩ := rest_len ne ha hb
    exact sxs_one (sx_ret (ex_make C I (lk rfl) rfl (ax_cons (ex_call S (lk rfl) rfl (ax_cons (ex_fld C (ex_var 0 rfl rfl rfl ⟨a, rfl, ax_cons (ex_fld C (ex_var 1 rfl rfl rfl ⟨b, rfl, ax_nil ⟨a, b, m, rfl, ne, m1, m2, ha, hb, za, by omega, ax_nil ⟨restL a b, m, rfl, by omega, m1, m2, r1, r⟩⟩⟩))⟩)))))))
end
end DL
/-! The defs: value_in, holds_in, the law's own reading of a rule. -/
namespace DL
open PySem PySem.Spec L2 HS
theorem sw_par {x y : Str} {px py pt pt2 : Pos} {kt k2 : Nat} {a b : Expr} (hxy : (x == y) = false) (hl : (py.line == px.line) = true) (hst : ([a, b].any fun | .Starred .. => true | _ => false) = false) (hf : [a, b].all (foldedForSure 8) = false) (hc : [a, b].all (constantsAlone 8) = false) :
    ∀ env : Env, env.scope.kind = .function → env.scope.names.lookup x = some .local → env.scope.names.lookup y = some .local → swappedStores [.Tuple [.Name x px, .Name y py] kt pt] (.Tuple [a, b] k2 pt2) env = pure (some [x, y]) := fun env h1 h2 h3 => by
  have kx : env.kindOf x = some .local := h2
  have ky : env.kindOf y = some .local := h3
  have hb : env.blockKind = .function := by unfold Env.blockKind; rw [h1]; rfl
  have ed : ([x, y] : List Str).eraseDups = [x, y] := by
    have hne : (y == x) = false := by rw [Bool.eq_false_iff] at hxy ⊢; intro e; exact hxy (by rw [eq_of_beq e]; exact beq_self_eq_true _)
    simp [List.eraseDups_cons, hne]
  unfold swappedStores
  simp only [Expr.pos, List.head?_cons, Option.map_some, Option.getD_some, List.filterMap_cons, List.filterMap_nil, kx, ky, hl, beq_self_eq_true, Bool.and_true, Bool.and_self, if_true, hb]
  refine (if_neg (fun h => Bool.false_ne_true h)).trans ((if_neg (fun e => Bool.false_ne_true (hst.symm.trans e))).trans ((if_neg ?_).trans ((if_neg (by rw [hf]; decide)).trans ((if_neg (by rw [hc]; decide)).trans rfl))))
  rw [ed]
  exact fun h => Bool.false_ne_true h

inductive Ex where
  | lit (i : Int)
  | it (s : Str)
  | plus (a b : Ex)
  | times (a b : Ex)
inductive Co where
  | lt (a b : Ex)
  | eq (a b : Ex)
  | no (c : Co)
def Ex.dat : Ex → Dat
  | .lit i => .int i
  | .it s => .tuple [.str "item", .str s]
  | .plus a b => .tuple [.str "+", a.dat, b.dat]
  | .times a b => .tuple [.str "*", a.dat, b.dat]
def Co.dat : Co → Dat
  | .lt a b => .tuple [.str "<", a.dat, b.dat]
  | .eq a b => .tuple [.str "=", a.dat, b.dat]
  | .no c => .tuple [.str "not", c.dat]
def Ex.val (ns : List Str) (st : List Int) : Ex → Int
  | .lit i => i
  | .it s => st.getD (ns.idxOf s) 0
  | .plus a b => a.val ns st + b.val ns st
  | .times a b => a.val ns st * b.val ns st
def Co.val (ns : List Str) (st : List Int) : Co → Bool
  | .lt a b => decide (a.val ns st < b.val ns st)
  | .eq a b => decide (a.val ns st = b.val ns st)
  | .no c => !c.val ns st
def Ex.dep : Ex → Nat
  | .lit _ => 0
  | .it _ => 0
  | .plus a b => 1 + max a.dep b.dep
  | .times a b => 1 + max a.dep b.dep
def Co.dep : Co → Nat
  | .lt a b => 1 + max a.dep b.dep
  | .eq a b => 1 + max a.dep b.dep
  | .no c => 1 + c.dep
/-- what is asked of an expression at a state: its words are known, its factors are small -/
def Ex.Ok (ns : List Str) (st : List Int) : Ex → Prop
  | .lit _ => True
  | .it s => ∃ j, ns[j]? = some s ∧ (∀ m, m < j → ns[m]? ≠ some s) ∧ j < st.length ∧ SeqAt.shaped (.str s) = true
  | .plus a b => a.Ok ns st ∧ b.Ok ns st
  | .times a b => a.Ok ns st ∧ b.Ok ns st ∧ -(2 ^ 64) < a.val ns st ∧ a.val ns st < 2 ^ 64
def Co.Ok (ns : List Str) (st : List Int) : Co → Prop
  | .lt a b => a.Ok ns st ∧ b.Ok ns st
  | .eq a b => a.Ok ns st ∧ b.Ok ns st
  | .no c => c.Ok ns st
theorem ix_of {ns : List Str} {s : Str} : ∀ {j : Nat}, ns[j]? = some s → (∀ m, m < j → ns[m]? ≠ some s) → ns.idxOf s = j := by
  induction ns with
  | nil => intro j h; simp at h
  | cons a ns ih =>
    intro j h g
    cases j with
    | zero =>
      have e : a = s := by simpa using h
      subst e
      exact List.idxOf_cons_self
    | succ j =>
      have hne : a ≠ s := fun e => g 0 (Nat.succ_pos _) (by rw [e]; rfl)
      rw [List.idxOf_cons]
      have hb : (a == s) = false := by simpa using hne
      rw [hb]
      simp only [cond_false]
      rw [ih (j := j) (by simpa using h) fun m hm => by
        have := g (m + 1) (Nat.succ_lt_succ hm)
        simpa using this]
section
variable {G : Wd} {f : Addr} {fd : FuncData}
abbrev IsItems (xs : List Dat) (ns : List Str) : Prop := ∃ rs : List (Str × List Dat), xs = rs.map (fun p => row p.1 p.2) ∧ rs.length ≤ 900 ∧ ns = rs.map (·.1) ∧ SeqAt.shaped (.list (ns.map PyData.str)) = true
def f_value (d : Nat) : Sig := fun ds n R => ∃ (xs : List Dat) (ns : List Str) (st : List Int) (e : Ex), ds = [dT xs, .dat (iD st), .dat e.dat] ∧ IsItems xs ns ∧ e.dep ≤ d ∧ e.Ok ns st ∧ R (dI (e.val ns st)) n
theorem value_step (T : Tp G) (A : Sg G "is_integer" 1 f_is_integer) (B : Sg G "names_of" 1 f_names_of) (F : Fun G.K "value_in" "value_in" t_value_in f fd) (bd : Binds G.K fd ["items", "state", "count"] []) (hx : G.mg "value_in" = some (.ref f)) (d : Nat) (IH : ∀ d', d = d' + 1 → Sg G "value_in" (2 + d') (f_value d')) : Sg G "value_in" (1 + d + 1) (f_value d) :=
  sg_def F sc_value_in bd hx (fun ds n R ⟨xs, ns, st, e, h, _⟩ => by subst h; exact ⟨rfl, noM3⟩) fun src ds n R ⟨xs, ns, st, e, h, ⟨rs, hr, hrl, hns, hsh⟩, hd, ho, r⟩ => by
    subst h
    refine sxs_cons (sx_if (tx_val (ex_call A (Nat.le_add_right _ _) rfl (ax_cons (ex_var 2 rfl rfl rfl (ax_nil ⟨e.dat, rfl, _, rfl, ?_⟩))))))
    have both : ∀ (w : Str) (a b : Ex), 1 + max a.dep b.dep ≤ d → a.Ok ns st → b.Ok ns st → (w == ("item" : Str)) = false → e.dat = .tuple [.str w, a.dat, b.dat] →
        (∀ ρ, ρ[6]? = some (some (dI (a.val ns st))) → ρ[7]? = some (some (dI (b.val ns st))) → ρ[3]? = some (some (dS w)) → SXs G ⟨N_value_in, defScope t_value_in, 1 + d, src, fun _ => true⟩ ((defBody t_value_in).drop 4) ρ n { nx := fun _ n' => R (.dat .none) n', rt := R }) →
        SXs G ⟨N_value_in, defScope t_value_in, 1 + d, src, fun _ => true⟩ ((defBody t_value_in).drop 1) (rho0 N_value_in [dT xs, .dat (iD st), .dat e.dat]) n { nx := fun _ n' => R (.dat .none) n', rt := R } := fun w a b hm oa ob hw he rest => by
      obtain ⟨d', rfl⟩ : ∃ d', d = d' + 1 := ⟨d - 1, by omega⟩
      have I := IH d' rfl
      rw [he]
      refine sxs_cons (sx_star 3 4 5 (by decide) (by decide) (by decide) rfl rfl rfl rfl rfl rfl (ex_var 2 rfl rfl rfl ⟨_, _, _, rfl, lk rfl, ?_⟩))
      refine sxs_cons (sx_if (tx_cmp (ex_var 3 rfl rfl rfl (ex_str (o_eqS ⟨_, rfl, ?_⟩)))))
      rw [decide_eq_false (fun e => by rw [e, beq_self_eq_true] at hw; cases hw)]
      refine ite0 (sxs_nil ?_)
      refine sxs_cons (sx_par 6 7 (by decide) rfl rfl rfl rfl (ex_call I (by show 2 + d' ≤ 1 + (d' + 1); omega) rfl (ax_cons (ex_var 0 rfl rfl rfl (ax_cons (ex_var 1 rfl rfl rfl (ax_cons (ex_var 4 rfl rfl rfl (ax_nil ⟨xs, ns, st, a, rfl, ⟨rs, hr, hrl, hns, hsh⟩, by omega, oa, ?_⟩)))))))) (hw := sw_par rfl rfl rfl rfl rfl) (hk := rfl))
      refine ex_call I (by show 2 + d' ≤ 1 + (d' + 1); omega) rfl (ax_cons (ex_var 0 rfl rfl rfl (ax_cons (ex_var 1 rfl rfl rfl (ax_cons (ex_ix (ex_var 5 rfl rfl rfl (ex_int ⟨_, 0, b.dat, .inr rfl, rfl, by decide, rfl, ax_nil ⟨xs, ns, st, b, rfl, ⟨rs, hr, hrl, hns, hsh⟩, by omega, ob, .inl rfl, ?_⟩⟩))))))))
      exact rest _ rfl rfl rfl
    cases e with
    | lit i => exact ite1 (sxs_one (sx_ret (ex_var 2 rfl rfl rfl r)))
    | it s =>
      refine ite0 (sxs_nil ?_)
      obtain ⟨j, h1, h2, h3, h4⟩ := ho
      refine sxs_cons (sx_star 3 4 5 (by decide) (by decide) (by decide) rfl rfl rfl rfl rfl rfl (ex_var 2 rfl rfl rfl ⟨_, _, _, rfl, lk rfl, ?_⟩))
      refine sxs_cons (sx_if (tx_cmp (ex_var 3 rfl rfl rfl (ex_str (o_eqS ⟨_, rfl, ?_⟩)))))
      rw [decide_eq_true rfl]
      refine ite1 (sxs_one (sx_ret (ex_ix (ex_var 1 rfl rfl rfl (ex_indexL (ex_call B (Nat.le_add_right _ _) rfl (ax_cons (ex_var 0 rfl rfl rfl (ax_nil ⟨rs, by rw [hr], hrl, ns, by rw [hns], hsh, ex_var 4 rfl rfl rfl ⟨s, j, rfl, h4, h1, h2, st.map PyData.int, j, .int (st.getD j 0), .inl rfl, rfl, Int.natCast_nonneg _, ?_, ?_⟩⟩)))))))))
      · rw [Int.toNat_natCast, List.getElem?_map, List.getElem?_eq_getElem h3, List.getD_eq_getElem?_getD, List.getElem?_eq_getElem h3]
        rfl
      · have e := ix_of h1 h2
        unfold Ex.val at r
        rw [e] at r
        exact r
    | plus a b =>
      refine ite0 (sxs_nil (both "+" a b hd ho.1 ho.2 rfl rfl fun ρ h6 h7 h3 => ?_))
      refine sxs_cons (sx_if (tx_cmp (ex_var 3 rfl h3 rfl (ex_str (o_eqS ⟨_, rfl, ?_⟩)))))
      rw [decide_eq_true rfl]
      exact ite1 (sxs_one (sx_ret (ex_bin (ex_var 6 rfl h6 rfl (ex_var 7 rfl h7 rfl (o_add r))))))
    | times a b =>
      refine ite0 (sxs_nil (both "*" a b hd ho.1 ho.2.1 rfl rfl fun ρ h6 h7 h3 => ?_))
      refine sxs_cons (sx_if (tx_cmp (ex_var 3 rfl h3 rfl (ex_str (o_eqS ⟨_, rfl, ?_⟩)))))
      rw [decide_eq_false (by decide)]
      refine ite0 (sxs_nil (sxs_one (sx_ret (ex_if (tx_cmp (ex_var 3 rfl h3 rfl (ex_str (o_eqS ⟨_, rfl, ?_⟩))))))))
      rw [decide_eq_false (by decide)]
      exact ite0 (ex_bin (ex_var 6 rfl h6 rfl (ex_var 7 rfl h7 rfl (o_mul (.inl ho.2.2) r))))
end
end DL
/-! The defs: value_in, holds_in by depth; the law's own reading of a rule. -/
namespace DL
open PySem PySem.Spec L2 HS
section
variable {G : Wd} {f : Addr} {fd : FuncData}
theorem ok_value (T : Tp G) (A : Sg G "is_integer" 1 f_is_integer) (B : Sg G "names_of" 1 f_names_of) (F : Fun G.K "value_in" "value_in" t_value_in f fd) (bd : Binds G.K fd ["items", "state", "count"] []) (hx : G.mg "value_in" = some (.ref f)) : ∀ d, Sg G "value_in" (1 + d + 1) (f_value d)
  | 0 => value_step T A B F bd hx 0 fun d' h => by cases h
  | d + 1 => value_step T A B F bd hx (d + 1) fun d' h => by
    cases h
    have := ok_value T A B F bd hx d
    rw [show 1 + d + 1 = 2 + d by omega] at this
    exact this
def f_holds (d : Nat) : Sig := fun ds n R => ∃ (xs : List Dat) (ns : List Str) (st : List Int) (e : Co), ds = [dT xs, .dat (iD st), .dat e.dat] ∧ IsItems xs ns ∧ e.dep ≤ d ∧ e.Ok ns st ∧ R (dB (e.val ns st)) n
theorem holds_step (T : Tp G) (V : ∀ d, Sg G "value_in" (1 + d + 1) (f_value d)) (F : Fun G.K "holds_in" "holds_in" t_holds_in f fd) (bd : Binds G.K fd ["items", "state", "condition"] []) (hx : G.mg "holds_in" = some (.ref f)) (d : Nat) (IH : ∀ d', d = d' + 1 → Sg G "holds_in" (2 + d') (f_holds d')) : Sg G "holds_in" (1 + d + 1) (f_holds d) :=
  sg_def F sc_holds_in bd hx (fun ds n R ⟨xs, ns, st, e, h, _⟩ => by subst h; exact ⟨rfl, noM3⟩) fun src ds n R ⟨xs, ns, st, e, h, ⟨rs, hr, hrl, hns, hsh⟩, hd, ho, r⟩ => by
    subst h
    have both : ∀ (w : Str) (a b : Ex), 1 + max a.dep b.dep ≤ d → a.Ok ns st → b.Ok ns st → (w == ("not" : Str)) = false → (w == ("and" : Str)) = false → (w == ("or" : Str)) = false → e.dat = .tuple [.str w, a.dat, b.dat] →
        (∀ ρ, ρ[6]? = some (some (dI (a.val ns st))) → ρ[7]? = some (some (dI (b.val ns st))) → ρ[3]? = some (some (dS w)) → SXs G ⟨N_holds_in, defScope t_holds_in, 1 + d, src, fun _ => true⟩ ((defBody t_holds_in).drop 5) ρ n { nx := fun _ n' => R (.dat .none) n', rt := R }) →
        SXs G ⟨N_holds_in, defScope t_holds_in, 1 + d, src, fun _ => true⟩ (defBody t_holds_in) (rho0 N_holds_in [dT xs, .dat (iD st), .dat e.dat]) n { nx := fun _ n' => R (.dat .none) n', rt := R } := fun w a b hm oa ob w1 w2 w3 he rest => by
      obtain ⟨d', rfl⟩ : ∃ d', d = d' + 1 := ⟨d - 1, by omega⟩
      have I := V d'
      rw [he]
      refine sxs_cons (sx_star 3 4 5 (by decide) (by decide) (by decide) rfl rfl rfl rfl rfl rfl (ex_var 2 rfl rfl rfl ⟨_, _, _, rfl, lk rfl, ?_⟩))
      refine sxs_cons (sx_if (tx_cmp (ex_var 3 rfl rfl rfl (ex_str (o_eqS ⟨_, rfl, ?_⟩)))))
      rw [decide_eq_false (fun e => by rw [e, beq_self_eq_true] at w1; cases w1)]
      refine ite0 (sxs_nil ?_)
      refine sxs_cons (sx_if (tx_cmp (ex_var 3 rfl rfl rfl (ex_str (o_eqS ⟨_, rfl, ?_⟩)))))
      rw [decide_eq_false (fun e => by rw [e, beq_self_eq_true] at w2; cases w2)]
      refine ite0 (sxs_nil ?_)
      refine sxs_cons (sx_if (tx_cmp (ex_var 3 rfl rfl rfl (ex_str (o_eqS ⟨_, rfl, ?_⟩)))))
      rw [decide_eq_false (fun e => by rw [e, beq_self_eq_true] at w3; cases w3)]
      refine ite0 (sxs_nil ?_)
      refine sxs_cons (sx_par 6 7 (by decide) rfl rfl rfl rfl (ex_call I (by show 1 + d' + 1 ≤ 1 + (d' + 1); omega) rfl (ax_cons (ex_var 0 rfl rfl rfl (ax_cons (ex_var 1 rfl rfl rfl (ax_cons (ex_var 4 rfl rfl rfl (ax_nil ⟨xs, ns, st, a, rfl, ⟨rs, hr, hrl, hns, hsh⟩, by omega, oa, ?_⟩)))))))) (hw := sw_par rfl rfl rfl rfl rfl) (hk := rfl))
      refine ex_call I (by show 1 + d' + 1 ≤ 1 + (d' + 1); omega) rfl (ax_cons (ex_var 0 rfl rfl rfl (ax_cons (ex_var 1 rfl rfl rfl (ax_cons (ex_ix (ex_var 5 rfl rfl rfl (ex_int ⟨_, 0, b.dat, .inr rfl, rfl, by decide, rfl, ax_nil ⟨xs, ns, st, b, rfl, ⟨rs, hr, hrl, hns, hsh⟩, by omega, ob, .inl rfl, ?_⟩⟩))))))))
      exact rest _ rfl rfl rfl
    cases e with
    | no c =>
      obtain ⟨d', rfl⟩ : ∃ d', d = d' + 1 := ⟨d - 1, by unfold Co.dep at hd; omega⟩
      have I := IH d' rfl
      refine sxs_cons (sx_star 3 4 5 (by decide) (by decide) (by decide) rfl rfl rfl rfl rfl rfl (ex_var 2 rfl rfl rfl ⟨_, _, _, rfl, lk rfl, ?_⟩))
      refine sxs_cons (sx_if (tx_cmp (ex_var 3 rfl rfl rfl (ex_str (o_eqS ⟨_, rfl, ?_⟩)))))
      rw [decide_eq_true rfl]
      exact ite1 (sxs_one (sx_ret (ex_not (ex_call I (by show 2 + d' ≤ 1 + (d' + 1); omega) rfl (ax_cons (ex_var 0 rfl rfl rfl (ax_cons (ex_var 1 rfl rfl rfl (ax_cons (ex_var 4 rfl rfl rfl (ax_nil ⟨xs, ns, st, c, rfl, ⟨rs, hr, hrl, hns, hsh⟩, by unfold Co.dep at hd; omega, ho, _, rfl, r⟩)))))))))))
    | lt a b =>
      refine both "<" a b hd ho.1 ho.2 rfl rfl rfl rfl fun ρ h6 h7 h3 => ?_
      refine sxs_one (sx_ret (ex_if (tx_cmp (ex_var 3 rfl h3 rfl (ex_str (o_eqS ⟨_, rfl, ?_⟩))))))
      rw [decide_eq_false (by decide)]
      exact ite0 (ex_cmp (ex_var 6 rfl h6 rfl (ex_var 7 rfl h7 rfl (o_lt r))))
    | eq a b =>
      refine both "=" a b hd ho.1 ho.2 rfl rfl rfl rfl fun ρ h6 h7 h3 => ?_
      refine sxs_one (sx_ret (ex_if (tx_cmp (ex_var 3 rfl h3 rfl (ex_str (o_eqS ⟨_, rfl, ?_⟩))))))
      rw [decide_eq_true rfl]
      exact ite1 (ex_cmp (ex_var 6 rfl h6 rfl (ex_var 7 rfl h7 rfl (o_eqI r))))
theorem ok_holds (T : Tp G) (V : ∀ d, Sg G "value_in" (1 + d + 1) (f_value d)) (F : Fun G.K "holds_in" "holds_in" t_holds_in f fd) (bd : Binds G.K fd ["items", "state", "condition"] []) (hx : G.mg "holds_in" = some (.ref f)) : ∀ d, Sg G "holds_in" (1 + d + 1) (f_holds d)
  | 0 => holds_step T V F bd hx 0 fun d' h => by cases h
  | d + 1 => holds_step T V F bd hx (d + 1) fun d' h => by
    cases h
    have := ok_holds T V F bd hx d
    rw [show 1 + d + 1 = 2 + d by omega] at this
    exact this
def f_worth (d : Nat) : Sig := fun ds n R => ∃ (xs : List Dat) (ns : List Str) (st : List Int) (x : Dat), ds = [dT xs, .dat (iD st), .dat x] ∧ IsItems xs ns ∧ ((∃ e : Ex, x = e.dat ∧ e.dep ≤ d ∧ e.Ok ns st ∧ R (dI (e.val ns st)) n) ∨ ∃ c : Co, x = c.dat ∧ c.dep ≤ d ∧ c.Ok ns st ∧ R (dB (c.val ns st)) n)
theorem worth_step (T : Tp G) (F : Fun G.K "_law_worth_of" "_law_worth_of" t_law_worth_of f fd) (bd : Binds G.K fd ["_law_items", "_law_spot", "_law_item"] []) (hx : G.mg "_law_worth_of" = some (.ref f)) (d : Nat) (IH : ∀ d', d = d' + 1 → Sg G "_law_worth_of" (2 + d') (f_worth d')) : Sg G "_law_worth_of" (1 + d + 1) (f_worth d) :=
  sg_def F sc_law_worth_of bd hx (fun ds n R ⟨xs, ns, st, e, h, _⟩ => by subst h; exact ⟨rfl, noM3⟩) fun src ds n R ⟨xs, ns, st, x, h, ⟨rs, hr, hrl, hns, hsh⟩, h2⟩ => by
    subst h
    have first : isIB x = false → SXs G ⟨N_law_worth_of, defScope t_law_worth_of, 1 + d, src, fun _ => true⟩ ((defBody t_law_worth_of).drop 1) (rho0 N_law_worth_of [dT xs, .dat (iD st), .dat x]) n { nx := fun _ n' => R (.dat .none) n', rt := R } →
        SXs G ⟨N_law_worth_of, defScope t_law_worth_of, 1 + d, src, fun _ => true⟩ (defBody t_law_worth_of) (rho0 N_law_worth_of [dT xs, .dat (iD st), .dat x]) n { nx := fun _ n' => R (.dat .none) n', rt := R } := fun hq z =>
      sxs_cons (sx_if (tx_val (ex_isi T.isinstance rfl T.int rfl rfl (ex_var 2 rfl rfl rfl ⟨x, _, rfl, kit_int _, false, by rw [hq], ite0 (sxs_nil z)⟩))))
    have both : ∀ (w : Str) (a b : Ex), 1 + max a.dep b.dep ≤ d → a.Ok ns st → b.Ok ns st → (w == ("not" : Str)) = false → (w == ("item" : Str)) = false → x = .tuple [.str w, a.dat, b.dat] →
        (∀ ρ, ρ[3]? = some (some (dI (a.val ns st))) → ρ[4]? = some (some (dI (b.val ns st))) → ρ[2]? = some (some (.dat x)) → SXs G ⟨N_law_worth_of, defScope t_law_worth_of, 1 + d, src, fun _ => true⟩ ((defBody t_law_worth_of).drop 5) ρ n { nx := fun _ n' => R (.dat .none) n', rt := R }) →
        SXs G ⟨N_law_worth_of, defScope t_law_worth_of, 1 + d, src, fun _ => true⟩ (defBody t_law_worth_of) (rho0 N_law_worth_of [dT xs, .dat (iD st), .dat x]) n { nx := fun _ n' => R (.dat .none) n', rt := R } := fun w a b hm oa ob w1 w2 he rest => by
      obtain ⟨d', rfl⟩ : ∃ d', d = d' + 1 := ⟨d - 1, by omega⟩
      have I := IH d' rfl
      subst he
      refine first rfl ?_
      refine sxs_cons (sx_if (tx_cmp (ex_ix (ex_var 2 rfl rfl rfl (ex_int ⟨_, 0, .str w, .inl rfl, rfl, by decide, rfl, ex_str (o_eqS ⟨_, rfl, ?_⟩)⟩)))))
      rw [decide_eq_false (fun e => by rw [e, beq_self_eq_true] at w2; cases w2)]
      refine ite0 (sxs_nil ?_)
      refine sxs_cons (sx_asg 3 rfl (.inl rfl) (.inl rfl) (ex_call I (by show 2 + d' ≤ 1 + (d' + 1); omega) rfl (ax_cons (ex_var 0 rfl rfl rfl (ax_cons (ex_var 1 rfl rfl rfl (ax_cons (ex_ix (ex_var 2 rfl rfl rfl (ex_int ⟨_, 1, a.dat, .inl rfl, rfl, by decide, rfl, ax_nil ⟨xs, ns, st, _, rfl, ⟨rs, hr, hrl, hns, hsh⟩, .inl ⟨a, rfl, by omega, oa, ?_⟩⟩⟩))))))))))
      refine sxs_cons (sx_if (tx_cmp (ex_ix (ex_var 2 rfl rfl rfl (ex_int ⟨_, 0, .str w, .inl rfl, rfl, by decide, rfl, ex_str (o_eqS ⟨_, rfl, ?_⟩)⟩)))))
      rw [decide_eq_false (fun e => by rw [e, beq_self_eq_true] at w1; cases w1)]
      refine ite0 (sxs_nil ?_)
      refine sxs_cons (sx_asg 4 rfl (.inl rfl) (.inl rfl) (ex_call I (by show 2 + d' ≤ 1 + (d' + 1); omega) rfl (ax_cons (ex_var 0 rfl rfl rfl (ax_cons (ex_var 1 rfl rfl rfl (ax_cons (ex_ix (ex_var 2 rfl rfl rfl (ex_int ⟨_, 2, b.dat, .inl rfl, rfl, by decide, rfl, ax_nil ⟨xs, ns, st, _, rfl, ⟨rs, hr, hrl, hns, hsh⟩, .inl ⟨b, rfl, by omega, ob, ?_⟩⟩⟩))))))))))
      exact rest _ rfl rfl rfl
    rcases h2 with ⟨e, rfl, hd, ho, r⟩ | ⟨e, rfl, hd, ho, r⟩
    · cases e with
      | lit i => exact sxs_cons (sx_if (tx_val (ex_isi T.isinstance rfl T.int rfl rfl (ex_var 2 rfl rfl rfl ⟨_, _, rfl, kit_int _, true, rfl, ite1 (sxs_one (sx_ret (ex_var 2 rfl rfl rfl r)))⟩))))
      | it s =>
        obtain ⟨j, h1, h2, h3, h4⟩ := ho
        refine first rfl ?_
        refine sxs_cons (sx_if (tx_cmp (ex_ix (ex_var 2 rfl rfl rfl (ex_int ⟨_, 0, .str "item", .inl rfl, rfl, by decide, rfl, ex_str (o_eqS ⟨_, rfl, ?_⟩)⟩)))))
        rw [decide_eq_true rfl]
        refine ite1 (sxs_one (sx_ret (ex_ix (ex_var 1 rfl rfl rfl (ex_indexL (ex_lc [("_law_row", 5)] [false, false, false, false, false, false] (by dsimp only; decide +kernel) (by dsimp only; decide +kernel) (ix_tup (ex_var 0 rfl rfl rfl ⟨_, rfl, ?_⟩))))))))
        subst hr
        refine cl_map headS (by rw [List.length_map]; omega) (fun d hd => ?_) (.inl ⟨ns, by rw [hns, heads], hsh, ex_ix (ex_var 2 rfl rfl rfl (ex_int ⟨_, 1, .str s, .inl rfl, rfl, by decide, rfl, s, j, rfl, h4, h1, h2, st.map PyData.int, j, .int (st.getD j 0), .inl rfl, rfl, Int.natCast_nonneg _, ?_, ?_⟩))⟩)
        · obtain ⟨p, hp, rfl⟩ := List.mem_map.mp hd
          exact bx_name 5 rfl (.inl rfl) (.inr rfl) (by decide) (ex_ix (ex_var 5 rfl rfl rfl (ex_int ⟨_, 0, _, .inl rfl, rfl, by decide, rfl, rfl, rfl⟩)))
        · rw [Int.toNat_natCast, List.getElem?_map, List.getElem?_eq_getElem h3, List.getD_eq_getElem?_getD, List.getElem?_eq_getElem h3]
          rfl
        · have e := ix_of h1 h2
          unfold Ex.val at r
          rw [e] at r
          exact r
      | plus a b =>
        refine both "+" a b hd ho.1 ho.2 rfl rfl rfl fun ρ h3 h4 h2 => ?_
        refine sxs_cons (sx_if (tx_cmp (ex_ix (ex_var 2 rfl h2 rfl (ex_int ⟨_, 0, .str "+", .inl rfl, rfl, by decide, rfl, ex_tup (ax_cons (ex_str (ax_cons (ex_str (ax_nil ⟨_, rfl, lk rfl, o_inT (by decide +kernel) (by dsimp only; decide +kernel) ⟨_, rfl, ite0 (sxs_nil ?_)⟩⟩)))))⟩)))))
        refine sxs_one (sx_ret (ex_if (tx_cmp (ex_ix (ex_var 2 rfl h2 rfl (ex_int ⟨_, 0, .str "+", .inl rfl, rfl, by decide, rfl, ex_str (o_eqS ⟨_, rfl, ?_⟩)⟩))))))
        rw [decide_eq_true rfl]
        exact ite1 (ex_bin (ex_var 3 rfl h3 rfl (ex_var 4 rfl h4 rfl (o_add r))))
      | times a b =>
        refine both "*" a b hd ho.1 ho.2.1 rfl rfl rfl fun ρ h3 h4 h2 => ?_
        refine sxs_cons (sx_if (tx_cmp (ex_ix (ex_var 2 rfl h2 rfl (ex_int ⟨_, 0, .str "*", .inl rfl, rfl, by decide, rfl, ex_tup (ax_cons (ex_str (ax_cons (ex_str (ax_nil ⟨_, rfl, lk rfl, o_inT (by decide +kernel) (by dsimp only; decide +kernel) ⟨_, rfl, ite0 (sxs_nil ?_)⟩⟩)))))⟩)))))
        refine sxs_one (sx_ret (ex_if (tx_cmp (ex_ix (ex_var 2 rfl h2 rfl (ex_int ⟨_, 0, .str "*", .inl rfl, rfl, by decide, rfl, ex_str (o_eqS ⟨_, rfl, ?_⟩)⟩))))))
        rw [decide_eq_false (by decide)]
        exact ite0 (ex_bin (ex_var 3 rfl h3 rfl (ex_var 4 rfl h4 rfl (o_mul (.inl ho.2.2) r))))
    · cases e with
      | no c =>
        obtain ⟨d', rfl⟩ : ∃ d', d = d' + 1 := ⟨d - 1, by unfold Co.dep at hd; omega⟩
        have I := IH d' rfl
        refine first rfl ?_
        refine sxs_cons (sx_if (tx_cmp (ex_ix (ex_var 2 rfl rfl rfl (ex_int ⟨_, 0, .str "not", .inl rfl, rfl, by decide, rfl, ex_str (o_eqS ⟨_, rfl, ?_⟩)⟩)))))
        rw [decide_eq_false (by decide)]
        refine ite0 (sxs_nil ?_)
        refine sxs_cons (sx_asg 3 rfl (.inl rfl) (.inl rfl) (ex_call I (by show 2 + d' ≤ 1 + (d' + 1); omega) rfl (ax_cons (ex_var 0 rfl rfl rfl (ax_cons (ex_var 1 rfl rfl rfl (ax_cons (ex_ix (ex_var 2 rfl rfl rfl (ex_int ⟨_, 1, c.dat, .inl rfl, rfl, by decide, rfl, ax_nil ⟨xs, ns, st, _, rfl, ⟨rs, hr, hrl, hns, hsh⟩, .inr ⟨c, rfl, by unfold Co.dep at hd; omega, ho, ?_⟩⟩⟩))))))))))
        refine sxs_cons (sx_if (tx_cmp (ex_ix (ex_var 2 rfl rfl rfl (ex_int ⟨_, 0, .str "not", .inl rfl, rfl, by decide, rfl, ex_str (o_eqS ⟨_, rfl, ?_⟩)⟩)))))
        rw [decide_eq_true rfl]
        exact ite1 (sxs_one (sx_ret (ex_not (ex_var 3 rfl rfl rfl ⟨_, rfl, r⟩))))
      | lt a b =>
        refine both "<" a b hd ho.1 ho.2 rfl rfl rfl fun ρ h3 h4 h2 => ?_
        refine sxs_cons (sx_if (tx_cmp (ex_ix (ex_var 2 rfl h2 rfl (ex_int ⟨_, 0, .str "<", .inl rfl, rfl, by decide, rfl, ex_tup (ax_cons (ex_str (ax_cons (ex_str (ax_nil ⟨_, rfl, lk rfl, o_inT (by decide +kernel) (by dsimp only; decide +kernel) ⟨_, rfl, ite1 ?_⟩⟩)))))⟩)))))
        refine sxs_one (sx_ret (ex_if (tx_cmp (ex_ix (ex_var 2 rfl h2 rfl (ex_int ⟨_, 0, .str "<", .inl rfl, rfl, by decide, rfl, ex_str (o_eqS ⟨_, rfl, ?_⟩)⟩))))))
        rw [decide_eq_true rfl]
        exact ite1 (ex_cmp (ex_var 3 rfl h3 rfl (ex_var 4 rfl h4 rfl (o_lt r))))
      | eq a b =>
        refine both "=" a b hd ho.1 ho.2 rfl rfl rfl fun ρ h3 h4 h2 => ?_
        refine sxs_cons (sx_if (tx_cmp (ex_ix (ex_var 2 rfl h2 rfl (ex_int ⟨_, 0, .str "=", .inl rfl, rfl, by decide, rfl, ex_tup (ax_cons (ex_str (ax_cons (ex_str (ax_nil ⟨_, rfl, lk rfl, o_inT (by decide +kernel) (by dsimp only; decide +kernel) ⟨_, rfl, ite1 ?_⟩⟩)))))⟩)))))
        refine sxs_one (sx_ret (ex_if (tx_cmp (ex_ix (ex_var 2 rfl h2 rfl (ex_int ⟨_, 0, .str "=", .inl rfl, rfl, by decide, rfl, ex_str (o_eqS ⟨_, rfl, ?_⟩)⟩))))))
        rw [decide_eq_false (by decide)]
        exact ite0 (ex_cmp (ex_var 3 rfl h3 rfl (ex_var 4 rfl h4 rfl (o_eqI r))))
theorem ok_worth (T : Tp G) (F : Fun G.K "_law_worth_of" "_law_worth_of" t_law_worth_of f fd) (bd : Binds G.K fd ["_law_items", "_law_spot", "_law_item"] []) (hx : G.mg "_law_worth_of" = some (.ref f)) : ∀ d, Sg G "_law_worth_of" (1 + d + 1) (f_worth d)
  | 0 => worth_step T F bd hx 0 fun d' h => by cases h
  | d + 1 => worth_step T F bd hx (d + 1) fun d' h => by
    cases h
    have := ok_worth T F bd hx d
    rw [show 1 + d + 1 = 2 + d by omega] at this
    exact this
end
end DL
/-! The defs: is_good, good_states. -/
namespace DL
open PySem PySem.Spec L2 HS
structure Shop where
  items : List (Str × Int × Int)
  rules : List Co
  folk : List (Str × List Dat)
def Shop.names (s : Shop) : List Str := s.items.map (·.1)
abbrev itD (p : Str × Int × Int) : Dat := row p.1 [.int p.2.1, .int p.2.2]
def shopD (s : Shop) : Dat := .tuple [.tuple (s.items.map itD), .tuple (s.rules.map Co.dat), .tuple (s.folk.map fun p => row p.1 p.2)]
def inB (p : (Str × Int × Int) × Int) : Bool := decide (p.1.2.1 ≤ p.2) && decide (p.2 ≤ p.1.2.2)
def inBox (its : List (Str × Int × Int)) (st : List Int) : Bool := (List.zip its st).all inB
def goodB (s : Shop) (st : List Int) : Bool := decide (st.length = s.items.length) && (inBox s.items st && s.rules.all fun c => c.val s.names st)
def rngI (lo hi : Int) : List Int := (List.range (hi + 1 - lo).toNat).map fun i => lo + (i : Nat)
def stepB (acc : List (List Int)) (it : Str × Int × Int) : List (List Int) := acc.flatMap fun st => (rngI it.2.1 it.2.2).map fun v => st ++ [v]
def box (its : List (Str × Int × Int)) : List (List Int) := its.foldl stepB [[]]
def goods (s : Shop) : List (List Int) := (box s.items).filter (goodB s)
structure Shop.Ok (s : Shop) : Prop where
  i1 : 1 ≤ s.items.length
  i2 : s.items.length ≤ 900
  i10 : s.items.length ≤ 10
  sh : SeqAt.shaped (.list (s.names.map PyData.str)) = true
  r1 : s.rules.length ≤ 900
  dp : ∀ c ∈ s.rules, c.dep ≤ 4
  rk : ∀ st : List Int, st.length = s.items.length → inBox s.items st = true → ∀ c ∈ s.rules, c.Ok s.names st
  bx : ∀ i, (box (s.items.take i)).length ≤ 62
  b9 : (box s.items).length ≤ 9
  lo : ∀ p ∈ s.items, -1000 < p.2.1 ∧ p.2.1 < 1000 ∧ -1000 < p.2.2 ∧ p.2.2 < 1000
  f1 : 1 ≤ s.folk.length
  f2 : s.folk.length ≤ 10
theorem items_is {s : Shop} (h : s.Ok) : IsItems (s.items.map itD) s.names := ⟨s.items.map fun p => (p.1, [.int p.2.1, .int p.2.2]), by rw [List.map_map]; rfl, by rw [List.length_map]; exact h.i2, by unfold Shop.names; rw [List.map_map]; rfl, h.sh⟩
def pairB : Dat → Bool
  | .tuple [.tuple [_, .int lo, .int hi], .int v] => decide (lo ≤ v) && decide (v ≤ hi)
  | _ => false
theorem pair_zip (its : List (Str × Int × Int)) (st : List Int) : (zipD (its.map itD) (st.map PyData.int)).map (fun d => PyData.bool (pairB d)) = ((List.zip its st).map inB).map PyData.bool := by
  unfold zipD
  induction its generalizing st with
  | nil => simp
  | cons a its ih =>
    cases st with
    | nil => simp
    | cons b st => simp only [List.map_cons, List.zipWith_cons_cons, List.zip_cons_cons, ih]; rfl
theorem zip_mem {its : List (Str × Int × Int)} {st : List Int} {d : Dat} (h : d ∈ zipD (its.map itD) (st.map PyData.int)) : ∃ p v, d = .tuple [itD p, .int v] := by
  unfold zipD at h
  induction its generalizing st with
  | nil => simp at h
  | cons a its ih =>
    cases st with
    | nil => simp at h
    | cons b st =>
      rw [List.map_cons, List.map_cons, List.zipWith_cons_cons] at h
      rcases List.mem_cons.mp h with e | h
      · exact ⟨a, b, e⟩
      · exact ih h
theorem ex_inj : ∀ {a b : Ex}, a.dat = b.dat → a = b
  | .lit i, b, h => by cases b <;> simp [Ex.dat] at h <;> simp [h]
  | .it s, b, h => by
    cases b with
    | lit i => simp [Ex.dat] at h
    | it t => simp [Ex.dat] at h; rw [h]
    | plus x y => simp [Ex.dat] at h
    | times x y => simp [Ex.dat] at h
  | .plus x y, b, h => by
    cases b with
    | lit i => simp [Ex.dat] at h
    | it t => simp [Ex.dat] at h
    | plus u v => simp [Ex.dat] at h; rw [ex_inj h.1, ex_inj h.2]
    | times u v => simp [Ex.dat] at h; exact absurd h.1 (by decide)
  | .times x y, b, h => by
    cases b with
    | lit i => simp [Ex.dat] at h
    | it t => simp [Ex.dat] at h
    | plus u v => simp [Ex.dat] at h; exact absurd h.1 (by decide)
    | times u v => simp [Ex.dat] at h; rw [ex_inj h.1, ex_inj h.2]
theorem co_inj : ∀ {a b : Co}, a.dat = b.dat → a = b
  | .lt x y, b, h => by
    cases b with
    | lt u v => simp [Co.dat] at h; rw [ex_inj h.1, ex_inj h.2]
    | eq u v => simp [Co.dat] at h; exact absurd h.1 (by decide)
    | no c => simp [Co.dat] at h
  | .eq x y, b, h => by
    cases b with
    | lt u v => simp [Co.dat] at h; exact absurd h.1 (by decide)
    | eq u v => simp [Co.dat] at h; rw [ex_inj h.1, ex_inj h.2]
    | no c => simp [Co.dat] at h
  | .no c, b, h => by
    cases b with
    | lt u v => simp [Co.dat] at h
    | eq u v => simp [Co.dat] at h
    | no e => simp [Co.dat] at h; rw [co_inj h]
def coB (ns : List Str) (st : List Int) (rs : List Co) : List Bool := rs.map fun c => c.val ns st
section
variable {G : Wd} {f : Addr} {fd : FuncData}
def f_is_good : Sig := fun ds n R => ∃ (s : Shop) (st : List Int), ds = [.dat (shopD s), .dat (iD st)] ∧ s.Ok ∧ st.length ≤ 900 ∧ R (dB (goodB s st)) n
theorem ok_is_good (T : Tp G) (A : Sg G "is_sum" 3 f_is_sum) (V : ∀ d, Sg G "holds_in" (1 + d + 1) (f_holds d)) (F : Fun G.K "is_good" "is_good" t_is_good f fd) (bd : Binds G.K fd ["store", "thing"] []) (hx : G.mg "is_good" = some (.ref f)) : Sg G "is_good" 7 f_is_good :=
  sg_def F sc_is_good bd hx (fun ds n R ⟨s, st, h, _⟩ => by subst h; exact ⟨rfl, noM2⟩) fun src ds n R ⟨s, st, h, ok, hz, r⟩ => by
    subst h
    refine sxs_cons (sx_asgT [2, 3, 4] (ex_var 0 rfl rfl rfl ⟨_, rfl, bx_tup ⟨_, rfl, bxs_cons (bx_name 2 rfl (.inr rfl) (.inl rfl) (by decide) (bxs_cons (bx_name 3 rfl (.inl rfl) (.inl rfl) (by decide) (bxs_cons (bx_name 4 rfl (.inl rfl) (.inl rfl) (by decide) (bxs_nil ?_)))))), rfl⟩⟩))
    refine sxs_cons (sx_if (tx_not (tx_val (ex_call A (lk rfl) rfl (ax_cons (ex_var 1 rfl rfl rfl (ax_cons (ex_callB "len" T.len (by decide +kernel) rfl (ax_cons (ex_var 2 rfl rfl rfl (ax_nil (b_len (.inl rfl) (ax_nil ⟨st, _, rfl, hz, _, rfl, ?_⟩)))))))))))))
    have hl : decide ((st.length : Int) = ((s.items.map itD).length : Int)) = decide (st.length = s.items.length) := by rw [List.length_map]; exact decide_eq_decide.mpr Int.ofNat_inj
    rw [hl]
    by_cases h1 : st.length = s.items.length
    · rw [decide_eq_true h1]
      refine ite0 (sxs_nil ?_)
      refine sxs_cons (sx_if (tx_not (tx_val (ex_callB "all" T.all (by decide +kernel) rfl (ax_cons (ex_lc [("item", 5), ("low", 6), ("high", 7), ("own", 8)] [false, false, false, false, false, false, false, false, false, false] (by dsimp only; decide +kernel) (by dsimp only; decide +kernel) (ix_zipS rfl T.zip (ax_cons (ex_var 2 rfl rfl rfl (ax_cons (ex_var 1 rfl rfl rfl (ax_nil ⟨s.items.map itD, st.map PyData.int, rfl, by rw [List.length_map, List.length_map, h1], ?_⟩))))))))))))
      refine cl_map (fun d => .bool (pairB d)) (by rw [zipD_len, List.length_map, List.length_map]; have := ok.i2; omega) (fun d hd => ?_) (.inl (ax_nil ?_))
      · obtain ⟨p, v, rfl⟩ := zip_mem hd
        refine bx_tup ⟨_, rfl, bxs_cons (bx_tup ⟨_, rfl, bxs_cons (bx_name 5 rfl (.inl rfl) (.inr rfl) (by decide) (bxs_cons (bx_name 6 rfl (.inl rfl) (.inr rfl) (by decide) (bxs_cons (bx_name 7 rfl (.inl rfl) (.inr rfl) (by decide) (bxs_nil (bxs_cons (bx_name 8 rfl (.inl rfl) (.inr rfl) (by decide) (bxs_nil ?_))))))))), rfl⟩), rfl⟩
        refine ex_chain (ex_var 6 rfl rfl rfl (ex_var 8 rfl rfl rfl (o_le ⟨_, rfl, ?_⟩)))
        refine iteB (fun h => ex_var 7 rfl rfl rfl (o_le ⟨rfl, ?_⟩)) (fun h => ⟨rfl, ?_⟩)
        · show _ = D.dat (.bool (decide (p.2.1 ≤ v) && decide (v ≤ p.2.2)))
          rw [h, Bool.true_and]
        · show _ = D.dat (.bool (decide (p.2.1 ≤ v) && decide (v ≤ p.2.2)))
          rw [h, Bool.false_and]
      · rw [pair_zip]
        refine b_all ⟨_, rfl, ?_⟩
        rw [all_id]
        show (if (!inBox s.items st) = true then _ else _)
        cases h2 : inBox s.items st with
        | false =>
          refine ite1 (sxs_one (sx_ret (ex_bl ?_)))
          have e : goodB s st = false := by unfold goodB; rw [h2, Bool.false_and, Bool.and_false]
          rw [e] at r
          exact r
        | true =>
          refine ite0 (sxs_nil ?_)
          refine sxs_one (sx_ret (ex_callB "all" T.all (by decide +kernel) rfl (ax_cons (ex_lc [("rule", 9)] [false, true, true, false, false, false, false, false, false, false] (by dsimp only; decide +kernel) (by dsimp only; decide +kernel) (ix_tup (ex_var 3 rfl rfl rfl ⟨_, rfl, ?_⟩))))))
          have key : ∃ g : Dat → Dat, (∀ c ∈ s.rules, g c.dat = .bool (c.val s.names st)) := by
            classical
            refine ⟨fun d => if h : ∃ c ∈ s.rules, c.dat = d then .bool (h.choose.val s.names st) else d, fun c hc => ?_⟩
            have hh : ∃ c' ∈ s.rules, c'.dat = c.dat := ⟨c, hc, rfl⟩
            show (if h : ∃ c' ∈ s.rules, c'.dat = c.dat then PyData.bool (h.choose.val s.names st) else c.dat) = _
            rw [dif_pos hh]
            have e := co_inj hh.choose_spec.2
            rw [e]
          obtain ⟨g, hg⟩ := key
          refine cl_map g (by rw [List.length_map]; have := ok.r1; omega) (fun d hd => ?_) (.inl (ax_nil ?_))
          · obtain ⟨c, hc, rfl⟩ := List.mem_map.mp hd
            exact bx_name 9 rfl (.inl rfl) (.inr rfl) (by decide) (ex_call (V 4) (lk rfl) rfl (ax_cons (ex_var 2 rfl rfl rfl (ax_cons (ex_var 1 rfl rfl rfl (ax_cons (ex_var 9 rfl rfl rfl (ax_nil ⟨_, _, st, c, rfl, items_is ok, ok.dp c hc, ok.rk st h1 h2 c hc, rfl, by rw [hg c hc]⟩))))))))
          · have e : (s.rules.map Co.dat).map g = (s.rules.map fun c => c.val s.names st).map PyData.bool := by
              rw [List.map_map, List.map_map]
              exact List.map_congr_left fun c hc => hg c hc
            rw [e]
            refine b_all ?_
            rw [all_id]
            have e2 : goodB s st = s.rules.all fun c => c.val s.names st := by unfold goodB; rw [h2, decide_eq_true h1, Bool.true_and, Bool.true_and]
            rw [e2] at r
            exact r
    · rw [decide_eq_false h1]
      refine ite1 (sxs_one (sx_ret (ex_bl ?_)))
      have e : goodB s st = false := by unfold goodB; rw [decide_eq_false h1, Bool.false_and]
      rw [e] at r
      exact r
end
end DL
/-! The defs: good_states, goods_of. -/
namespace DL
open PySem PySem.Spec L2 HS
theorem gs_good_states : GScope N_good_states ["store"] (defScope t_good_states) := ⟨rfl, rfl, rfl, by decide +kernel, rfl, by decide +kernel, by decide +kernel⟩
theorem box_take {its : List (Str × Int × Int)} {i : Nat} {p : Str × Int × Int} (h : its[i]? = some p) : box (its.take (i + 1)) = stepB (box (its.take i)) p := by
  unfold box
  rw [List.take_add_one, h, List.foldl_append]
  rfl
theorem rng_dat (lo hi : Int) : (rngD lo (hi + 1 - lo).toNat) = (rngI lo hi).map PyData.int := by unfold rngD rngI; rw [List.map_map]; rfl
theorem box_len : ∀ (its : List (Str × Int × Int)), ∀ st ∈ box its, st.length = its.length := by
  intro its
  have h : ∀ (its : List (Str × Int × Int)) (acc : List (List Int)) (m : Nat), (∀ st ∈ acc, st.length = m) → ∀ st ∈ its.foldl stepB acc, st.length = m + its.length := by
    intro its
    induction its with
    | nil => intro acc m h st hs; simpa using h st hs
    | cons p its ih =>
      intro acc m h st hs
      rw [List.foldl_cons] at hs
      have := ih (stepB acc p) (m + 1) (fun x hx => by
        unfold stepB at hx
        obtain ⟨a, ha, hx⟩ := List.mem_flatMap.mp hx
        obtain ⟨v, hv, rfl⟩ := List.mem_map.mp hx
        rw [List.length_append, h a ha]
        rfl) st hs
      rw [this, List.length_cons]
      omega
  intro st hs
  have := h its [[]] 0 (fun x hx => by rw [List.mem_singleton.mp hx]; rfl) st hs
  rw [this, Nat.zero_add]
theorem box_le {s : Shop} (ok : s.Ok) : (box s.items).length ≤ 62 := by
  have := ok.bx s.items.length
  rwa [List.take_length] at this
theorem goods_le {s : Shop} (ok : s.Ok) : (goods s).length ≤ 62 := Nat.le_trans (List.length_filter_le _ _) (box_le ok)
section
variable {G : Wd} {f : Addr} {fd : FuncData}
def f_good_states : SigG := fun ds n out => ∃ s : Shop, ds = [.dat (shopD s)] ∧ s.Ok ∧ out = (goods s).map iD
theorem ok_good_states (T : Tp G) (A : Sg G "is_good" 7 f_is_good) (F : Fun G.K "good_states" "good_states" t_good_states f fd) (bd : Binds G.K fd ["store"] []) (hx : G.mg "good_states" = some (.ref f)) : Sgg G "good_states" 8 ["store"] f_good_states :=
  gen_def F gs_good_states bd hx rfl [5] (fun ds n out ⟨s, h, ok, e⟩ => by subst h; subst e; exact ⟨rfl, noM1, by rw [List.length_map]; have := goods_le ok; omega⟩) fun src ds n out ⟨s, h, ok, e⟩ => by
    subst h
    subst e
    refine sx_asg 1 rfl (.inl rfl) (.inl rfl) (ex_lst (ax_cons (ex_tup (ax_nil ⟨[], rfl, by decide, ax_nil ⟨_, rfl, lk rfl, ?_⟩⟩))))
    refine sx_for [2, 3, 4] (ix_tup (ex_ix (ex_var 0 rfl rfl rfl (ex_int ⟨_, 0, _, .inl rfl, rfl, by decide, rfl, s.items.map itD, rfl, ?_⟩))))
    refine ⟨fun i ρ k => k = n ∧ ∃ (o1 o2 o3 : Option D), ρ = [some (.dat (shopD s)), some (dL ((box (s.items.take i)).map iD)), o1, o2, o3, none, none], ⟨rfl, none, none, none, rfl⟩, fun i d ρ2 n2 hd ⟨e1, o1, o2, o3, e2⟩ => ?_, fun ρ2 n2 ⟨e1, o1, o2, o3, e2⟩ => ?_⟩
    · subst e1 e2
      rw [List.getElem?_map] at hd
      cases hg : s.items[i]? with
      | none => rw [hg] at hd; cases hd
      | some p =>
        rw [hg] at hd
        cases hd
        have hp : p ∈ s.items := List.mem_of_getElem? hg
        obtain ⟨l1, l2, l3, l4⟩ := ok.lo p hp
        have hb := ok.bx (i + 1)
        rw [box_take hg] at hb
        refine bx_tup ⟨_, rfl, bxs_cons (bx_name 2 rfl (.inl rfl) (.inl rfl) (by decide) (bxs_cons (bx_name 3 rfl (.inr rfl) (.inl rfl) (by decide) (bxs_cons (bx_name 4 rfl (.inr rfl) (.inl rfl) (by decide) (bxs_nil ?_)))))), rfl⟩
        refine sxs_one (sx_asgLc2 1 [("state", 5), ("own", 6)] [6] [false, false, false, true, true, false, false] rfl rfl rfl (by dsimp only; decide +kernel) (by dsimp only; decide +kernel) (by decide) rfl rfl (ix_list (ex_var 1 rfl rfl rfl ⟨_, rfl, ?_⟩)))
        have e1 : (fun d => ((rngI p.2.1 p.2.2).map PyData.int).map fun v => iD (unI d ++ unI (.tuple [v]))) ∘ iD = fun st => ((rngI p.2.1 p.2.2).map fun v => st ++ [v]).map iD := by
          funext st
          show ((rngI p.2.1 p.2.2).map PyData.int).map (fun v => iD (unI (iD st) ++ unI (.tuple [v]))) = _
          rw [unI_iD, List.map_map, List.map_map]
          rfl
        have e2 : ((box (s.items.take i)).map iD).flatMap (fun d => ((rngI p.2.1 p.2.2).map PyData.int).map fun v => iD (unI d ++ unI (.tuple [v]))) = (stepB (box (s.items.take i)) p).map iD := by
          unfold stepB
          rw [List.flatMap_map, List.map_flatMap]
          exact congrArg (fun f => (box (s.items.take i)).flatMap f) e1
        refine ⟨fun d => ((rngI p.2.1 p.2.2).map PyData.int).map fun v => iD (unI d ++ unI (.tuple [v])), ?_, fun d hd => ?_, ?_⟩
        · rw [e2, List.length_map]
          omega
        · obtain ⟨st, hst, rfl⟩ := List.mem_map.mp hd
          refine bx_name 5 rfl (.inl rfl) (.inr rfl) (by decide) ⟨rfl, fun i hi d hd => (by rw [List.mem_singleton.mp hi] at hd; cases hd), ?_⟩
          refine ix_range2 rfl T.range (ex_var 3 rfl rfl rfl (ex_bin (ex_var 4 rfl rfl rfl (ex_int (o_add ⟨p.2.1, p.2.2 + 1, rfl, rfl, by omega, by omega, by omega, by omega, rfl, fun v => iD (unI (iD st) ++ unI (.tuple [v])), by rw [← rng_dat], fun e he => ?_⟩)))))
          rw [rng_dat] at he
          obtain ⟨v, hv, rfl⟩ := List.mem_map.mp he
          refine bx_name 6 rfl (.inl rfl) (.inr rfl) (by decide) (ex_tup (ax_star (ex_var 5 rfl rfl rfl ⟨_, .inl rfl, ax_cons (ex_var 6 rfl rfl rfl (ax_nil ⟨st.map PyData.int ++ [.int v], ?_, ?_, rfl, ?_⟩))⟩)))
          · have h : ∀ l : List Dat, datAll (l.map D.dat ++ [dI v]) = some (l ++ [.int v]) := by
              intro l
              induction l with
              | nil => rfl
              | cons a l ih => rw [List.map_cons, List.cons_append]; unfold datAll; rw [ih]; rfl
            exact h _
          · rw [List.length_append, List.length_map, box_len _ st hst, List.length_take]
            have := ok.i2
            show min i s.items.length + 1 ≤ 1000
            omega
          · show D.dat (.tuple (st.map PyData.int ++ [PyData.int v])) = D.dat (iD (unI (iD st) ++ [v]))
            rw [unI_iD]
            unfold iD
            rw [List.map_append]
            rfl
        · rw [e2]
          refine ⟨rfl, some (.dat (.str p.1)), some (.dat (.int p.2.1)), some (.dat (.int p.2.2)), ?_⟩
          rw [box_take hg]
          rfl
    · subst e1 e2
      rw [List.length_map, List.take_length]
      refine ⟨rfl, ix_list (ex_var 1 rfl rfl rfl ⟨_, rfl, rfl, fun d => goodB s (unI d), fun ρ => ∃ o, ρ = [some (.dat (shopD s)), some (dL ((box s.items).map iD)), o1, o2, o3, o, none], ?_, ⟨none, rfl⟩, fun x hx ρ2 ⟨o, e⟩ => ?_⟩)⟩
      · rw [List.filter_map]
        unfold goods
        congr 1
        refine List.filter_congr fun st _ => ?_
        show goodB s st = goodB s (unI (iD st))
        rw [unI_iD]
      · subst e
        obtain ⟨st, hst, rfl⟩ := List.mem_map.mp hx
        refine bx_name 5 rfl (.inl rfl) (.inl rfl) (by decide) ⟨⟨_, rfl⟩, ?_⟩
        refine tx_val (ex_call A (lk rfl) rfl (ax_cons (ex_var 0 rfl rfl rfl (ax_cons (ex_var 5 rfl rfl rfl (ax_nil ⟨s, st, rfl, ok, by rw [box_len _ st hst]; exact ok.i2, _, rfl, rfl, by show _ = goodB s (unI (iD st)); rw [unI_iD], fun _ => ex_var 5 rfl rfl rfl ⟨rfl, rfl⟩⟩))))))
def f_goods_of : Sig := fun ds n R => ∃ s : Shop, ds = [.dat (shopD s)] ∧ s.Ok ∧ R (.dat (sD (goods s))) n
theorem ok_goods_of (T : Tp G) (A : Sgg G "good_states" 8 ["store"] f_good_states) (F : Fun G.K "goods_of" "goods_of" t_goods_of f fd) (bd : Binds G.K fd ["store"] []) (hx : G.mg "goods_of" = some (.ref f)) : Sg G "goods_of" 12 f_goods_of :=
  sg_def F sc_goods_of bd hx (fun ds n R ⟨s, h, _⟩ => by subst h; exact ⟨rfl, noM1⟩) fun src ds n R ⟨s, h, ok, r⟩ => by
    subst h
    exact sxs_one (sx_ret (ex_tupGen T.tuple A (lk rfl) rfl rfl (ax_cons (ex_var 0 rfl rfl rfl (ax_nil ⟨_, ⟨s, rfl, ok, rfl⟩, by rw [List.length_map]; have := goods_le ok; omega, r⟩)))))
end
end DL
/-! The defs of families: need_family, reached_states, rest_beside, is_safe, whole_states, rest_of, is_greatest. -/
namespace DL
open PySem PySem.Spec L2 HS
abbrev Fml := List (List (List Int))
def Shop.m (s : Shop) : Nat := s.items.length
def Shop.sto (s : Shop) : Sto := ⟨s.items.map fun p => (p.1, [.int p.2.1, .int p.2.2]), s.rules.map Co.dat, s.folk⟩
theorem sto_dat (s : Shop) : shD s.sto = shopD s := by unfold shD shopD Shop.sto; rw [List.map_map]; rfl
def Shop.hands (s : Shop) : List Str := s.folk.map (·.1)
structure Fam (s : Shop) (F : Fml) : Prop where
  len : F.length = s.folk.length
  ok : ∀ l ∈ F, l ≠ [] ∧ Asc l ∧ l.length ≤ 900 ∧ ∀ k ∈ l, k.length = s.m
def reach (st : List Int) (F : Fml) : List (List Int) := allS [st] F
def safeB (s : Shop) (st : List Int) (F : Fml) : Bool := (reach st F).all fun x => decide (x ∈ goods s)
def restB (s : Shop) (st : List Int) (F : Fml) (k : Nat) : List (List Int) := restL (reach st (F.eraseIdx k)) (goods s)
def greatB (s : Shop) (st : List Int) (F : Fml) : Bool := safeB s st F && ((List.range F.length).all fun k => decide (restB s st F k = F.getD k []))
theorem goods_len {s : Shop} : ∀ x ∈ goods s, x.length = s.m := fun x h => box_len _ x (List.mem_filter.mp h).1
theorem OkA.out {m : Nat} : ∀ {os : Fml} {f : List (List Int)}, OkA m f os → (∀ k ∈ allS f os, k.length = m) ∧ (allS f os).length ≤ max f.length 62
  | [], f, h => ⟨h, Nat.le_max_left _ _⟩
  | o :: os, f, h => by
    obtain ⟨h1, h2, h3, h4⟩ := h
    obtain ⟨a, b⟩ := OkA.out h4
    refine ⟨a, ?_⟩
    have : (allS f (o :: os)).length ≤ max (can (cross f o)).length 62 := b
    omega
theorem allS_ne : ∀ {os : Fml} {f : List (List Int)}, f ≠ [] → (∀ o ∈ os, o ≠ []) → allS f os ≠ []
  | [], f, h, _ => h
  | o :: os, f, h, g => by
    refine allS_ne (f := can (cross f o)) (fun e => ?_) fun x hx => g x (List.mem_cons_of_mem _ hx)
    obtain ⟨a, ha⟩ := List.exists_mem_of_ne_nil f h
    obtain ⟨b, hb⟩ := List.exists_mem_of_ne_nil o (g o List.mem_cons_self)
    have : add a b ∈ can (cross f o) := mem_can.mpr (List.mem_flatMap.mpr ⟨a, ha, List.mem_map.mpr ⟨b, hb, rfl⟩⟩)
    rw [e] at this
    cases this
/-- all that a call about a family asks -/
structure Tame (s : Shop) (st : List Int) (F : Fml) : Prop where
  ok : s.Ok
  sl : st.length = s.m
  fam : Fam s F
  all : OkA s.m [st] F
  ers : ∀ k, OkA s.m [st] (F.eraseIdx k)
theorem Tame.flen {s : Shop} {st : List Int} {F : Fml} (t : Tame s st F) : F.length ≤ 10 := by rw [t.fam.len]; exact t.ok.f2
theorem Tame.ers_ne {s : Shop} {st : List Int} {F : Fml} (t : Tame s st F) (k : Nat) : reach st (F.eraseIdx k) ≠ [] := allS_ne (List.cons_ne_nil _ _) fun o h => (t.fam.ok o (List.mem_of_mem_eraseIdx h)).1
section
variable {G : Wd} {f : Addr} {fd : FuncData}
def f_is_right : Sig := fun ds n R => ∃ (s : Shop) (l : List (List Int)), ds = [.dat (shopD s), .dat (sD l)] ∧ s.Ok ∧ l ≠ [] ∧ Asc l ∧ l.length ≤ 900 ∧ (∀ k ∈ l, k.length = s.m) ∧ R (dB true) n
theorem ok_is_right (T : Tp G) (A : Sg G "is_sums" 4 f_is_sums) (F : Fun G.K "is_right" "is_right" t_is_right f fd) (bd : Binds G.K fd ["store", "thing"] []) (hx : G.mg "is_right" = some (.ref f)) : Sg G "is_right" 5 f_is_right :=
  sg_def F sc_is_right bd hx (fun ds n R ⟨s, l, h, _⟩ => by subst h; exact ⟨rfl, noM2⟩) fun src ds n R ⟨s, l, h, ok, ne, ha, hz, hl, r⟩ => by
    subst h
    have e : ((s.items.map itD).length : Int) = (s.m : Int) := by rw [List.length_map]; rfl
    refine sxs_one (sx_ret (ex_and (ex_call A (lk rfl) rfl (ax_cons (ex_var 1 rfl rfl rfl (ax_cons (ex_callB "len" T.len (by decide +kernel) rfl (ax_cons (ex_ix (ex_var 0 rfl rfl rfl (ex_int ⟨_, 0, _, .inl rfl, rfl, by decide, rfl, ax_nil (b_len (.inl rfl) (ax_nil ⟨l, s.m, by rw [e], hz, ok.i2, ha, hl, true, rfl, ite1 ?_⟩))⟩)))))))))))
    refine ex_one (ex_cmp (ex_var 1 rfl rfl rfl (ex_tup (ax_nil ⟨[], rfl, by decide, o_ne (shp_sD l) (shp_sD []) ?_⟩))))
    rw [show PyData.tuple [] = sD [] from rfl, eqv_sD, decide_eq_false ne]
    exact r
def f_need_family : Sig := fun ds n R => ∃ (s : Shop) (F : Fml), ds = [.dat (shopD s), .dat (fD F)] ∧ s.Ok ∧ Fam s F ∧ R (.dat .none) n
theorem ok_need_family (T : Tp G) (Q : Sg G "require_family" 1 f_req) (A : Sg G "is_right" 5 f_is_right) (F : Fun G.K "need_family" "need_family" t_need_family f fd) (bd : Binds G.K fd ["store", "family"] []) (hx : G.mg "need_family" = some (.ref f)) : Sg G "need_family" 6 f_need_family :=
  sg_def F sc_need_family bd hx (fun ds n R ⟨s, l, h, _⟩ => by subst h; exact ⟨rfl, noM2⟩) fun src ds n R ⟨s, Fm, h, ok, fam, r⟩ => by
    subst h
    refine sxs_cons (sx_expr (ex_call Q (lk rfl) rfl (ax_cons (ex_and (ex_isi T.isinstance rfl T.tuple rfl rfl (ex_var 1 rfl rfl rfl ⟨fD Fm, _, rfl, kit_tuple _, true, rfl, ite1 ?_⟩))))))
    refine ex_one (ex_cmp (ex_callB "len" T.len (by decide +kernel) rfl (ax_cons (ex_var 1 rfl rfl rfl (ax_nil (b_len (.inl rfl) ?_))))))
    refine ex_callB "len" T.len (by decide +kernel) rfl (ax_cons (ex_ix (ex_var 0 rfl rfl rfl (ex_int ⟨_, 2, _, .inl rfl, rfl, by decide, rfl, ax_nil (b_len (.inl rfl) (o_eqI ?_))⟩))))
    rw [List.length_map, List.length_map, fam.len, decide_eq_true rfl]
    refine ax_cons (ex_str (ax_cons (ex_neg (ax_nil ⟨_, _, rfl, ?_⟩))))
    refine sxs_one (sx_for [2, 3] (ix_enum rfl T.enumerate (ex_var 1 rfl rfl rfl ⟨_, rfl, ?_⟩)))
    refine ⟨fun i ρ k => k = n ∧ ∃ (o1 o2 : Option D), ρ = [some (.dat (shopD s)), some (.dat (fD Fm)), o1, o2], ⟨rfl, none, none, rfl⟩, fun i d ρ2 n2 hd ⟨e1, o1, o2, e2⟩ => ?_, fun ρ2 n2 ⟨e1, o1, o2, e2⟩ => ?_⟩
    · subst e1 e2
      unfold enumD at hd
      rw [List.getElem?_mapIdx, List.getElem?_map] at hd
      cases hg : Fm[i]? with
      | none => rw [hg] at hd; cases hd
      | some g =>
        rw [hg] at hd
        cases hd
        obtain ⟨q1, q2, q3, q4⟩ := fam.ok g (List.mem_of_getElem? hg)
        refine bx_tup ⟨_, rfl, bxs_cons (bx_name 2 rfl (.inl rfl) (.inl rfl) (by decide) (bxs_cons (bx_name 3 rfl (.inl rfl) (.inl rfl) (by decide) (bxs_nil ?_)))), rfl⟩
        exact sxs_one (sx_expr (ex_call Q (lk rfl) rfl (ax_cons (ex_call A (lk rfl) rfl (ax_cons (ex_var 0 rfl rfl rfl (ax_cons (ex_var 3 rfl rfl rfl (ax_nil ⟨s, g, rfl, ok, q1, q2, q3, q4, ax_cons (ex_str (ax_cons (ex_var 2 rfl rfl rfl (ax_nil ⟨_, _, rfl, rfl, some _, some _, rfl⟩))))⟩)))))))))
    · subst e1 e2
      exact r
def f_reached : Sig := fun ds n R => ∃ (m : Nat) (st : List Int) (os : Fml) (d : D), ds = [.dat (iD st), d] ∧ (d = dT (os.map sD) ∨ d = dL (os.map sD)) ∧ 1 ≤ m ∧ m ≤ 900 ∧ os.length ≤ 900 ∧ OkA m [st] os ∧ R (.dat (sD (reach st os))) n
theorem ok_reached (T : Tp G) (A : Sg G "all_sums" 2 f_all_sums) (F : Fun G.K "reached_states" "reached_states" t_reached_states f fd) (bd : Binds G.K fd ["start", "rights"] []) (hx : G.mg "reached_states" = some (.ref f)) : Sg G "reached_states" 3 f_reached :=
  sg_def F sc_reached_states bd hx (fun ds n R ⟨m, st, os, d, h, h2, _⟩ => by subst h; rcases h2 with rfl | rfl <;> exact ⟨rfl, noM2⟩) fun src ds n R ⟨m, st, os, d, h, h2, m1, m2, hz, ok, r⟩ => by
    subst h
    have hd : mine d = false := by rcases h2 with rfl | rfl <;> rfl
    refine sxs_one (sx_ret (ex_callS A (lk rfl) rfl (ax_cons (ex_tup (ax_cons (ex_var 0 rfl rfl rfl (ax_nil ⟨[iD st], rfl, lk rfl, ax_star (ex_var 1 rfl rfl hd ⟨os.map sD, h2, ax_nil ⟨m, [st], os, by rw [List.append_nil]; rfl, hz, m1, m2, ok, r⟩⟩)⟩)))))))
theorem len_ix {α : Type} (l : List α) (i : Nat) : (l.eraseIdx i).length ≤ l.length := by rw [List.length_eraseIdx]; split <;> omega
def f_rest_beside : Sig := fun ds n R => ∃ (s : Shop) (st : List Int) (F : Fml) (k : Nat), ds = [.dat (shopD s), .dat (iD st), .dat (fD F), dI k] ∧ Tame s st F ∧ R (.dat (sD (restB s st F k))) n
theorem enum_map {α : Type} (g : α → Dat) (l : List α) : enumD (l.map g) = l.mapIdx fun i x => PyData.tuple [.int ((i : Nat) : Int), g x] := by
  unfold enumD
  apply List.ext_getElem?
  intro i
  rw [List.getElem?_mapIdx, List.getElem?_mapIdx, List.getElem?_map, Option.map_map]
  rfl
theorem filt_ix {α : Type} (g : α → Dat) (l : List α) (k : Nat) : ∀ b : Nat, ((l.mapIdx fun i x => PyData.tuple [.int ((b + i : Nat) : Int), g x]).filter fun d => match d with | .tuple (.int j :: _) => !decide (j = ((b + k : Nat) : Int)) | _ => false).map (fun d => match d with | .tuple [_, x] => x | d => d) = (l.eraseIdx k).map g := by
  induction l generalizing k with
  | nil => intro b; rfl
  | cons a l ih =>
    intro b
    rw [List.mapIdx_cons]
    have sh : (l.mapIdx fun i x => PyData.tuple [.int ((b + (i + 1) : Nat) : Int), g x]) = l.mapIdx fun i x => PyData.tuple [.int ((b + 1 + i : Nat) : Int), g x] := by
      congr 1
      funext i x
      rw [show b + (i + 1) = b + 1 + i by omega]
    rw [sh]
    cases k with
    | zero =>
      rw [List.filter_cons_of_neg (by simp)]
      have all : ∀ (l : List α) (c : Nat), b < c → ((l.mapIdx fun i x => PyData.tuple [.int ((c + i : Nat) : Int), g x]).filter fun d => match d with | .tuple (.int j :: _) => !decide (j = ((b + 0 : Nat) : Int)) | _ => false).map (fun d => match d with | .tuple [_, x] => x | d => d) = l.map g := by
        intro l
        induction l with
        | nil => intro c _; rfl
        | cons y l ih2 =>
          intro c hc
          rw [List.mapIdx_cons]
          have sh : (l.mapIdx fun i x => PyData.tuple [.int ((c + (i + 1) : Nat) : Int), g x]) = l.mapIdx fun i x => PyData.tuple [.int ((c + 1 + i : Nat) : Int), g x] := by
            congr 1
            funext i x
            rw [show c + (i + 1) = c + 1 + i by omega]
          rw [sh, List.filter_cons_of_pos (by simp; omega), List.map_cons, List.map_cons, ih2 (c + 1) (by omega)]
      rw [all l (b + 1) (by omega)]
      rfl
    | succ k =>
      rw [List.filter_cons_of_pos (by simp; omega), List.map_cons, List.eraseIdx_cons_succ, List.map_cons]
      have := ih k (b + 1)
      rw [show b + 1 + k = b + (k + 1) by omega] at this
      rw [this]
theorem ok_rest_beside (T : Tp G) (A : Sg G "rest_set" 2 f_rest_set) (B : Sg G "reached_states" 3 f_reached) (C : Sg G "goods_of" 12 f_goods_of) (F : Fun G.K "rest_beside" "rest_beside" t_rest_beside f fd) (bd : Binds G.K fd ["store", "start", "family", "k"] []) (hx : G.mg "rest_beside" = some (.ref f)) : Sg G "rest_beside" 13 f_rest_beside :=
  sg_def F sc_rest_beside bd hx (fun ds n R ⟨s, st, Fm, k, h, _⟩ => by subst h; exact ⟨rfl, noM4⟩) fun src ds n R ⟨s, st, Fm, k, h, t, r⟩ => by
    subst h
    refine sxs_cons (sx_asgLc 4 [("j", 5), ("right", 6)] [false, false, false, true, false, false, false] rfl rfl rfl (by dsimp only; decide +kernel) (by dsimp only; decide +kernel) rfl rfl (ix_enum rfl T.enumerate (ex_var 2 rfl rfl rfl ⟨_, rfl, ?_⟩)))
    refine cl_filt (fun d => match d with | .tuple (.int j :: _) => !decide (j = ((0 + k : Nat) : Int)) | _ => false) (fun d => match d with | .tuple [_, x] => x | d => d) (by rw [enumD_len, List.length_map]; have := t.flen; omega) (fun d hd => ?_) (.inl ?_)
    · obtain ⟨i, hi⟩ := List.mem_iff_getElem?.mp hd
      unfold enumD at hi
      rw [List.getElem?_mapIdx, List.getElem?_map] at hi
      cases hg : Fm[i]? with
      | none => rw [hg] at hi; cases hi
      | some g =>
        rw [hg] at hi
        cases hi
        refine bx_tup ⟨_, rfl, bxs_cons (bx_name 5 rfl (.inl rfl) (.inr rfl) (by decide) (bxs_cons (bx_name 6 rfl (.inl rfl) (.inr rfl) (by decide) (bxs_nil (tx_cmp (ex_var 5 rfl rfl rfl (ex_var 3 rfl rfl rfl (o_neI ⟨_, rfl, rfl, ?_, fun _ => ex_var 6 rfl rfl rfl ⟨rfl, rfl⟩⟩)))))))), rfl⟩
        show (!decide (((i : Nat) : Int) = (k : Int))) = !decide (((i : Nat) : Int) = ((0 + k : Nat) : Int))
        rw [Nat.zero_add]
    · have e : ((enumD (Fm.map sD)).filter (fun d => match d with | .tuple (.int j :: _) => !decide (j = ((0 + k : Nat) : Int)) | _ => false)).map (fun d => match d with | .tuple [_, x] => x | d => d) = (Fm.eraseIdx k).map sD := by
        rw [← filt_ix sD Fm k 0, enum_map]
        congr 2
        congr 1
        funext i x
        rw [Nat.zero_add]
      rw [e]
      obtain ⟨o1, o2⟩ := (t.ers k).out
      have hz := len_ix Fm k
      have fz := t.flen
      refine sxs_one (sx_ret (ex_call A (lk rfl) rfl (ax_cons (ex_call B (lk rfl) rfl (ax_cons (ex_var 1 rfl rfl rfl (ax_cons (ex_var 4 rfl rfl rfl (ax_nil ⟨s.m, st, Fm.eraseIdx k, _, rfl, .inr rfl, t.ok.i1, t.ok.i2, by omega, t.ers k, ?_⟩)))))))))
      refine ax_cons (ex_call C (lk rfl) rfl (ax_cons (ex_var 0 rfl rfl rfl (ax_nil ⟨s, rfl, t.ok, ax_nil ⟨reach st (Fm.eraseIdx k), goods s, s.m, rfl, t.ers_ne k, t.ok.i1, t.ok.i2, o1, goods_len, ?_, ?_, r⟩⟩))))
      · have : (reach st (Fm.eraseIdx k)).length ≤ max 1 62 := o2
        omega
      · have := goods_le t.ok
        omega
end
end DL
/-! The mathematics of families: no program in sight. -/
namespace DL
open PySem PySem.Spec L2 HS
theorem add_comm' (x y : List Int) : add x y = add y x := by
  unfold add
  induction x generalizing y with
  | nil => cases y <;> rfl
  | cons a x ih =>
    cases y with
    | nil => rfl
    | cons b y => rw [List.zipWith_cons_cons, List.zipWith_cons_cons, ih, Int.add_comm]
theorem add_assoc' (x y z : List Int) : add (add x y) z = add x (add y z) := by
  unfold add
  induction x generalizing y z with
  | nil => simp
  | cons a x ih =>
    cases y with
    | nil => simp
    | cons b y =>
      cases z with
      | nil => simp
      | cons c z => simp only [List.zipWith_cons_cons, ih, Int.add_assoc]
theorem add_right' (x y z : List Int) : add (add x y) z = add (add x z) y := by rw [add_assoc', add_comm' y z, ← add_assoc']
theorem sub_add {x y : List Int} {m : Nat} (hx : x.length = m) (hy : y.length = m) : sub (add x y) y = x := by
  unfold sub add
  induction x generalizing y m with
  | nil => cases y <;> simp
  | cons a x ih =>
    cases y with
    | nil => subst hx; simp at hy
    | cons b y =>
      simp only [List.zipWith_cons_cons, Int.add_sub_cancel]
      rw [ih (m := x.length) rfl (by simp at hx hy; omega)]
theorem add_sub {x y : List Int} {m : Nat} (hx : x.length = m) (hy : y.length = m) : add (sub x y) y = x := by
  unfold sub add
  induction x generalizing y m with
  | nil => cases y <;> simp
  | cons a x ih =>
    cases y with
    | nil => subst hx; simp at hy
    | cons b y =>
      simp only [List.zipWith_cons_cons, Int.sub_add_cancel]
      rw [ih (m := x.length) rfl (by simp at hx hy; omega)]
theorem add_inj {x y z : List Int} {m : Nat} (hx : x.length = m) (hy : y.length = m) (hz : z.length = m) (h : add x z = add y z) : x = y := by
  rw [← sub_add hx hz, ← sub_add hy hz, h]
/-- from a to x by one sum of each set -/
def Pk : Fml → List Int → List Int → Prop
  | [], a, x => x = a
  | o :: os, a, x => ∃ b ∈ o, Pk os (add a b) x
theorem mem_cross {f o : List (List Int)} {x : List Int} : x ∈ cross f o ↔ ∃ a ∈ f, ∃ b ∈ o, x = add a b := by
  unfold cross
  rw [List.mem_flatMap]
  constructor
  · rintro ⟨a, ha, h⟩
    obtain ⟨b, hb, rfl⟩ := List.mem_map.mp h
    exact ⟨a, ha, b, hb, rfl⟩
  · rintro ⟨a, ha, b, hb, rfl⟩
    exact ⟨a, ha, List.mem_map.mpr ⟨b, hb, rfl⟩⟩
theorem mem_allS : ∀ {os : Fml} {f : List (List Int)} {x : List Int}, x ∈ allS f os ↔ ∃ a ∈ f, Pk os a x
  | [], f, x => ⟨fun h => ⟨x, h, rfl⟩, fun ⟨a, ha, e⟩ => by cases e; exact ha⟩
  | o :: os, f, x => by
    show x ∈ allS (can (cross f o)) os ↔ _
    rw [mem_allS]
    constructor
    · rintro ⟨y, hy, p⟩
      obtain ⟨a, ha, b, hb, rfl⟩ := mem_cross.mp (mem_can.mp hy)
      exact ⟨a, ha, b, hb, p⟩
    · rintro ⟨a, ha, b, hb, p⟩
      exact ⟨add a b, mem_can.mpr (mem_cross.mpr ⟨a, ha, b, hb, rfl⟩), p⟩
theorem mem_reach {st x : List Int} {F : Fml} : x ∈ reach st F ↔ Pk F st x := by
  unfold reach
  rw [mem_allS]
  constructor
  · rintro ⟨a, ha, p⟩; rw [List.mem_singleton.mp ha] at p; exact p
  · intro p; exact ⟨st, List.mem_singleton.mpr rfl, p⟩
theorem pk_add : ∀ {os : Fml} {a b x : List Int}, Pk os (add a b) x ↔ ∃ y, Pk os a y ∧ x = add y b
  | [], a, b, x => ⟨fun h => ⟨a, rfl, h⟩, fun ⟨y, h, e⟩ => by cases h; exact e⟩
  | o :: os, a, b, x => by
    constructor
    · rintro ⟨c, hc, p⟩
      rw [add_right'] at p
      obtain ⟨y, q, e⟩ := pk_add.mp p
      exact ⟨y, ⟨c, hc, q⟩, e⟩
    · rintro ⟨y, ⟨c, hc, q⟩, e⟩
      refine ⟨c, hc, ?_⟩
      rw [add_right']
      exact pk_add.mpr ⟨y, q, e⟩
theorem pk_ers : ∀ {os : Fml} {k : Nat} {a x : List Int}, k < os.length → (Pk os a x ↔ ∃ y, Pk (os.eraseIdx k) a y ∧ ∃ r ∈ os.getD k [], x = add y r)
  | [], k, a, x, h => by simp at h
  | o :: os, 0, a, x, _ => by
    show (∃ b ∈ o, Pk os (add a b) x) ↔ ∃ y, Pk os a y ∧ ∃ r ∈ o, x = add y r
    constructor
    · rintro ⟨b, hb, p⟩
      obtain ⟨y, q, e⟩ := pk_add.mp p
      exact ⟨y, q, b, hb, e⟩
    · rintro ⟨y, q, b, hb, e⟩
      exact ⟨b, hb, pk_add.mpr ⟨y, q, e⟩⟩
  | o :: os, k + 1, a, x, h => by
    have ih := fun a => pk_ers (os := os) (k := k) (a := a) (x := x) (by simpa using h)
    show (∃ b ∈ o, Pk os (add a b) x) ↔ ∃ y, (∃ b ∈ o, Pk (os.eraseIdx k) (add a b) y) ∧ ∃ r ∈ os.getD k [], x = add y r
    constructor
    · rintro ⟨b, hb, p⟩
      obtain ⟨y, q, r, hr, e⟩ := (ih (add a b)).mp p
      exact ⟨y, ⟨b, hb, q⟩, r, hr, e⟩
    · rintro ⟨y, ⟨b, hb, q⟩, r, hr, e⟩
      exact ⟨b, hb, (ih (add a b)).mpr ⟨y, q, r, hr, e⟩⟩
theorem pk_len {m : Nat} : ∀ {os : Fml} {a x : List Int}, a.length = m → (∀ o ∈ os, ∀ k ∈ o, k.length = m) → Pk os a x → x.length = m
  | [], a, x, h, _, e => by cases e; exact h
  | o :: os, a, x, h, g, ⟨b, hb, p⟩ => pk_len (add_len h (g o List.mem_cons_self b hb)) (fun o' h' => g o' (List.mem_cons_of_mem _ h')) p
theorem pk_mono : ∀ {os ps : Fml} {a x : List Int}, os.length = ps.length → (∀ k, ∀ y ∈ os.getD k [], y ∈ ps.getD k []) → Pk os a x → Pk ps a x
  | [], [], a, x, _, _, p => p
  | [], _ :: _, a, x, h, _, _ => by simp at h
  | _ :: _, [], a, x, h, _, _ => by simp at h
  | o :: os, q :: ps, a, x, h, g, ⟨b, hb, p⟩ => ⟨b, g 0 b hb, pk_mono (by simpa using h) (fun k => g (k + 1)) p⟩
theorem pk_ex : ∀ {os : Fml} (a : List Int), (∀ o ∈ os, o ≠ []) → ∃ x, Pk os a x
  | [], a, _ => ⟨a, rfl⟩
  | o :: os, a, g => by
    obtain ⟨b, hb⟩ := List.exists_mem_of_ne_nil o (g o List.mem_cons_self)
    obtain ⟨x, p⟩ := pk_ex (add a b) fun o' h' => g o' (List.mem_cons_of_mem _ h')
    exact ⟨x, b, hb, p⟩
theorem asc_eq {a b : List (List Int)} (ha : Asc a) (hb : Asc b) (m : ∀ x, x ∈ a ↔ x ∈ b) : a = b := by rw [← can_self ha, ← can_self hb]; exact can_ext m
theorem allS_asc : ∀ {os : Fml} {f : List (List Int)}, Asc f → Asc (allS f os)
  | [], f, h => h
  | o :: os, f, h => by
    show Asc (allS (can (cross f o)) os)
    exact allS_asc (asc_can _)
theorem reach_asc (st : List Int) (F : Fml) : Asc (reach st F) := allS_asc (List.pairwise_singleton _ _)
/-! ### the box has each state once -/
theorem nodup_map {α β : Type} {l : List α} {f : α → β} (h : l.Nodup) (inj : ∀ a ∈ l, ∀ b ∈ l, f a = f b → a = b) : (l.map f).Nodup := by
  refine List.pairwise_map.mpr (List.Pairwise.imp_of_mem (fun {a b} ha hb hne e => hne (inj a ha b hb e)) h)
theorem nodup_rng (lo hi : Int) : (rngI lo hi).Nodup := by
  unfold rngI
  exact nodup_map List.nodup_range fun i _ j _ e => by omega
theorem stepB_nodup {acc : List (List Int)} {m : Nat} (h : acc.Nodup) (hl : ∀ x ∈ acc, x.length = m) (p : Str × Int × Int) : (stepB acc p).Nodup := by
  unfold stepB
  induction acc with
  | nil => exact List.nodup_nil
  | cons a acc ih =>
    rw [List.flatMap_cons, List.nodup_append]
    refine ⟨?_, ih (List.nodup_cons.mp h).2 fun x hx => hl x (List.mem_cons_of_mem _ hx), ?_⟩
    · exact nodup_map (nodup_rng _ _) fun i _ j _ e => by simpa using e
    · intro x hx y hy e
      subst e
      obtain ⟨v, _, rfl⟩ := List.mem_map.mp hx
      obtain ⟨b, hb, hy⟩ := List.mem_flatMap.mp hy
      obtain ⟨w, _, e⟩ := List.mem_map.mp hy
      have : b = a := by
        have l1 := hl a List.mem_cons_self
        have l2 := hl b (List.mem_cons_of_mem _ hb)
        exact (List.append_inj e (by rw [l1, l2])).1
      subst this
      exact (List.nodup_cons.mp h).1 hb
theorem box_nodup (its : List (Str × Int × Int)) : (box its).Nodup := by
  have h : ∀ (its : List (Str × Int × Int)) (acc : List (List Int)) (m : Nat), acc.Nodup → (∀ x ∈ acc, x.length = m) → (its.foldl stepB acc).Nodup := by
    intro its
    induction its with
    | nil => intro acc m h _; exact h
    | cons p its ih =>
      intro acc m h hl
      rw [List.foldl_cons]
      refine ih _ (m + 1) (stepB_nodup h hl p) fun x hx => ?_
      unfold stepB at hx
      obtain ⟨a, ha, hx⟩ := List.mem_flatMap.mp hx
      obtain ⟨v, _, rfl⟩ := List.mem_map.mp hx
      rw [List.length_append, hl a ha]
      rfl
  exact h its [[]] 0 (List.nodup_cons.mpr ⟨List.not_mem_nil, List.nodup_nil⟩) fun x hx => by rw [List.mem_singleton.mp hx]; rfl
theorem goods_nodup (s : Shop) : (goods s).Nodup := (box_nodup _).filter _
theorem mem_rng {lo hi v : Int} : v ∈ rngI lo hi ↔ lo ≤ v ∧ v ≤ hi := by
  unfold rngI
  rw [List.mem_map]
  constructor
  · rintro ⟨i, hi, rfl⟩
    rw [List.mem_range] at hi
    omega
  · rintro ⟨h1, h2⟩
    exact ⟨(v - lo).toNat, by rw [List.mem_range]; omega, by omega⟩
theorem mem_box {its : List (Str × Int × Int)} {x : List Int} : x ∈ box its ↔ x.length = its.length ∧ inBox its x = true := by
  have h : ∀ (its : List (Str × Int × Int)) (acc : List (List Int)), x ∈ its.foldl stepB acc ↔ ∃ a ∈ acc, ∃ y : List Int, x = a ++ y ∧ y.length = its.length ∧ inBox its y = true := by
    intro its
    induction its with
    | nil =>
      intro acc
      constructor
      · intro h; exact ⟨x, h, [], by simp, rfl, rfl⟩
      · rintro ⟨a, ha, y, e, hy, _⟩
        have : y = [] := by simpa using hy
        subst this
        rw [List.append_nil] at e
        rw [e]
        exact ha
    | cons p its ih =>
      intro acc
      rw [List.foldl_cons, ih]
      constructor
      · rintro ⟨b, hb, y, e, hy, hi⟩
        unfold stepB at hb
        obtain ⟨a, ha, hb⟩ := List.mem_flatMap.mp hb
        obtain ⟨v, hv, rfl⟩ := List.mem_map.mp hb
        obtain ⟨v1, v2⟩ := mem_rng.mp hv
        refine ⟨a, ha, v :: y, by rw [e, List.append_assoc]; rfl, by rw [List.length_cons, List.length_cons, hy], ?_⟩
        unfold inBox at hi ⊢
        rw [List.zip_cons_cons, List.all_cons, hi, Bool.and_true]
        unfold inB
        rw [decide_eq_true v1, decide_eq_true v2]
        rfl
      · rintro ⟨a, ha, y, e, hy, hi⟩
        cases y with
        | nil => simp at hy
        | cons v y =>
          unfold inBox at hi
          rw [List.zip_cons_cons, List.all_cons, Bool.and_eq_true] at hi
          obtain ⟨h1, h2⟩ := hi
          unfold inB at h1
          rw [Bool.and_eq_true] at h1
          refine ⟨a ++ [v], List.mem_flatMap.mpr ⟨a, ha, List.mem_map.mpr ⟨v, mem_rng.mpr ⟨of_decide_eq_true h1.1, of_decide_eq_true h1.2⟩, rfl⟩⟩, y, by rw [e, List.append_assoc]; rfl, by simpa using hy, h2⟩
  unfold box
  rw [h]
  constructor
  · rintro ⟨a, ha, y, e, hy, hi⟩
    rw [List.mem_singleton.mp ha, List.nil_append] at e
    subst e
    exact ⟨hy, hi⟩
  · rintro ⟨hy, hi⟩
    exact ⟨[], List.mem_singleton.mpr rfl, x, rfl, hy, hi⟩
theorem mem_goods {s : Shop} {x : List Int} : x ∈ goods s ↔ goodB s x = true := by
  unfold goods
  rw [List.mem_filter]
  refine ⟨(·.2), fun h => ⟨?_, h⟩⟩
  have h' := h
  unfold goodB at h'
  rw [Bool.and_eq_true, Bool.and_eq_true] at h'
  exact mem_box.mpr ⟨of_decide_eq_true h'.1, h'.2.1⟩
end DL
/-! The mathematics of rests. -/
namespace DL
open PySem PySem.Spec L2 HS
theorem mem_restL {A T : List (List Int)} {m : Nat} (ne : A ≠ []) (hA : ∀ k ∈ A, k.length = m) (hT : ∀ k ∈ T, k.length = m) {r : List Int} : r ∈ restL A T ↔ r.length = m ∧ ∀ a ∈ A, add r a ∈ T := by
  obtain ⟨a0, A', rfl⟩ : ∃ x y, A = x :: y := by cases A with | nil => exact absurd rfl ne | cons x y => exact ⟨_, _, rfl⟩
  unfold restL
  rw [(srt_perm _).mem_iff, List.mem_filter, List.mem_map]
  show (∃ g ∈ T, sub g a0 = r) ∧ _ ↔ _
  have l0 := hA a0 List.mem_cons_self
  constructor
  · rintro ⟨⟨g, hg, rfl⟩, h⟩
    exact ⟨sub_len (hT g hg) l0, fun a ha => of_decide_eq_true (List.all_eq_true.mp h a ha)⟩
  · rintro ⟨hl, h⟩
    exact ⟨⟨add r a0, h a0 List.mem_cons_self, sub_add hl l0⟩, List.all_eq_true.mpr fun a ha => decide_eq_true (h a ha)⟩
theorem restL_asc {A T : List (List Int)} {m : Nat} (ne : A ≠ []) (hA : ∀ k ∈ A, k.length = m) (hT : ∀ k ∈ T, k.length = m) (nd : T.Nodup) : Asc (restL A T) := by
  obtain ⟨a0, A', rfl⟩ : ∃ x y, A = x :: y := by cases A with | nil => exact absurd rfl ne | cons x y => exact ⟨_, _, rfl⟩
  have l0 := hA a0 List.mem_cons_self
  have h : ((T.map fun g => sub g a0).filter fun m => (a0 :: A').all fun x => decide (add m x ∈ T)).Nodup := by
    refine List.Pairwise.filter _ (nodup_map nd fun a ha b hb e => ?_)
    rw [← add_sub (hT a ha) l0, ← add_sub (hT b hb) l0, e]
  have e : restL (a0 :: A') T = can ((T.map fun g => sub g a0).filter fun m => (a0 :: A').all fun x => decide (add m x ∈ T)) := by
    unfold restL
    exact srt_can h fun _ => Iff.rfl
  rw [e]
  exact asc_can _
/-- a family that fits the store -/
structure Fit (s : Shop) (st : List Int) (F : Fml) : Prop where
  ok : s.Ok
  sl : st.length = s.m
  fam : Fam s F
theorem Fit.lens {s : Shop} {st : List Int} {F : Fml} (t : Fit s st F) : ∀ o ∈ F, ∀ k ∈ o, k.length = s.m := fun o h => (t.fam.ok o h).2.2.2
theorem Fit.nes {s : Shop} {st : List Int} {F : Fml} (t : Fit s st F) : ∀ o ∈ F, o ≠ [] := fun o h => (t.fam.ok o h).1
theorem Fit.elens {s : Shop} {st : List Int} {F : Fml} (t : Fit s st F) (k : Nat) : ∀ o ∈ F.eraseIdx k, ∀ k ∈ o, k.length = s.m := fun o h => t.lens o (List.mem_of_mem_eraseIdx h)
theorem Fit.rl {s : Shop} {st : List Int} {F : Fml} (t : Fit s st F) (k : Nat) : ∀ x ∈ reach st (F.eraseIdx k), x.length = s.m := fun x h => pk_len t.sl (t.elens k) (mem_reach.mp h)
theorem Fit.rne {s : Shop} {st : List Int} {F : Fml} (t : Fit s st F) (k : Nat) : reach st (F.eraseIdx k) ≠ [] := fun e => by
  obtain ⟨x, p⟩ := pk_ex st fun o h => t.nes o (List.mem_of_mem_eraseIdx h)
  have := mem_reach.mpr p
  rw [e] at this
  cases this
theorem Tame.fit {s : Shop} {st : List Int} {F : Fml} (t : Tame s st F) : Fit s st F := ⟨t.ok, t.sl, t.fam⟩
theorem Fit.mem_rest {s : Shop} {st : List Int} {F : Fml} (t : Fit s st F) {k : Nat} {r : List Int} : r ∈ restB s st F k ↔ r.length = s.m ∧ ∀ y, Pk (F.eraseIdx k) st y → add y r ∈ goods s := by
  unfold restB
  rw [mem_restL (t.rne k) (t.rl k) goods_len]
  refine and_congr_right fun _ => ⟨fun h y p => ?_, fun h a ha => ?_⟩
  · rw [add_comm']; exact h y (mem_reach.mpr p)
  · rw [add_comm']; exact h a (mem_reach.mp ha)
theorem Fit.rest_asc {s : Shop} {st : List Int} {F : Fml} (t : Fit s st F) (k : Nat) : Asc (restB s st F k) := restL_asc (t.rne k) (t.rl k) goods_len (goods_nodup s)
theorem Fit.rest_le {s : Shop} {st : List Int} {F : Fml} (t : Fit s st F) (k : Nat) : (restB s st F k).length ≤ (goods s).length := (restL_le (reach st (F.eraseIdx k)) (goods s))
where
  restL_le (a b : List (List Int)) : (restL a b).length ≤ b.length := by
    unfold restL
    rw [(srt_perm _).length_eq]
    refine Nat.le_trans (List.length_filter_le _ _) ?_
    rw [List.length_map]
    exact Nat.le_refl _
theorem Fit.rest_lens {s : Shop} {st : List Int} {F : Fml} (t : Fit s st F) (k : Nat) : ∀ x ∈ restB s st F k, x.length = s.m := fun x h => (t.mem_rest.mp h).1
theorem safe_iff {s : Shop} {st : List Int} {F : Fml} : safeB s st F = true ↔ ∀ x, Pk F st x → x ∈ goods s := by
  unfold safeB
  rw [List.all_eq_true]
  exact ⟨fun h x p => of_decide_eq_true (h x (mem_reach.mpr p)), fun h x p => decide_eq_true (h x (mem_reach.mp p))⟩
theorem getD_mem {F : Fml} {k : Nat} (h : k < F.length) : F.getD k [] ∈ F := by
  rw [List.getD_eq_getElem?_getD, List.getElem?_eq_getElem h]
  exact List.getElem_mem h
/-- safe: each hand's set lies in its rest, at any one hand -/
theorem Fit.safe_rest {s : Shop} {st : List Int} {F : Fml} (t : Fit s st F) {k : Nat} (hk : k < F.length) : safeB s st F = true ↔ ∀ r ∈ F.getD k [], r ∈ restB s st F k := by
  rw [safe_iff]
  constructor
  · intro h r hr
    exact t.mem_rest.mpr ⟨t.lens _ (getD_mem hk) r hr, fun y p => h _ ((pk_ers hk).mpr ⟨y, p, r, hr, rfl⟩)⟩
  · intro h x p
    obtain ⟨y, q, r, hr, e⟩ := (pk_ers hk).mp p
    rw [e]
    exact (t.mem_rest.mp (h r hr)).2 y q
theorem ers_set (F : Fml) (k : Nat) (l : List (List Int)) : (F.set k l).eraseIdx k = F.eraseIdx k := by
  induction F generalizing k with
  | nil => rfl
  | cons a F ih =>
    cases k with
    | zero => rfl
    | succ k => rw [List.set_cons_succ, List.eraseIdx_cons_succ, List.eraseIdx_cons_succ, ih]
theorem getD_set (F : Fml) {k j : Nat} (l : List (List Int)) (h : k < F.length) : (F.set k l).getD j [] = if k = j then l else F.getD j [] := by
  rw [List.getD_eq_getElem?_getD, List.getElem?_set, List.getD_eq_getElem?_getD]
  by_cases e : k = j
  · rw [if_pos e, if_pos e, if_pos h]; rfl
  · rw [if_neg e, if_neg e]
theorem Fam.set {s : Shop} {F : Fml} (h : Fam s F) {k : Nat} {l : List (List Int)} (q : l ≠ [] ∧ Asc l ∧ l.length ≤ 900 ∧ ∀ x ∈ l, x.length = s.m) : Fam s (F.set k l) := by
  refine ⟨by rw [List.length_set]; exact h.len, fun o ho => ?_⟩
  rcases List.mem_or_eq_of_mem_set ho with ho | rfl
  · exact h.ok o ho
  · exact q
theorem rest_set_self {s : Shop} {st : List Int} (F : Fml) (k : Nat) (l : List (List Int)) : restB s st (F.set k l) k = restB s st F k := by unfold restB; rw [ers_set]
/-- the family widened by a hand's rest is safe -/
theorem Fit.widen {s : Shop} {st : List Int} {F : Fml} (t : Fit s st F) {k : Nat} (hk : k < F.length) (ne : restB s st F k ≠ []) : Fit s st (F.set k (restB s st F k)) ∧ safeB s st (F.set k (restB s st F k)) = true := by
  have h2 := t.rest_le k
  have h3 := goods_le t.ok
  have ft : Fit s st (F.set k (restB s st F k)) := ⟨t.ok, t.sl, t.fam.set ⟨ne, t.rest_asc k, by omega, t.rest_lens k⟩⟩
  refine ⟨ft, (ft.safe_rest (k := k) (by rw [List.length_set]; exact hk)).mpr fun r hr => ?_⟩
  rw [getD_set F _ hk, if_pos rfl] at hr
  rw [rest_set_self]
  exact hr
theorem Fit.sub_safe {s : Shop} {st : List Int} {F F' : Fml} (t : Fit s st F) (h : safeB s st F = true) (hl : F'.length = F.length) (hs : ∀ k, ∀ y ∈ F'.getD k [], y ∈ F.getD k []) : safeB s st F' = true :=
  safe_iff.mpr fun x p => safe_iff.mp h x (pk_mono hl hs p)
/-! ### sizes -/
theorem cross_grow {f o : List (List Int)} {m : Nat} (nf : f.Nodup) (ne : o ≠ []) (hf : ∀ k ∈ f, k.length = m) (ho : ∀ k ∈ o, k.length = m) : f.length ≤ (can (cross f o)).length := by
  obtain ⟨b, hb⟩ := List.exists_mem_of_ne_nil o ne
  have h : (f.map fun a => add a b).Nodup := nodup_map nf fun x hx y hy e => add_inj (hf x hx) (hf y hy) (ho b hb) e
  have := nodup_len _ (can (cross f o)) h fun x hx => by
    obtain ⟨a, ha, rfl⟩ := List.mem_map.mp hx
    exact mem_can.mpr (mem_cross.mpr ⟨a, ha, b, hb, rfl⟩)
  rwa [List.length_map] at this
theorem allS_grow : ∀ {os : Fml} {f : List (List Int)} {m : Nat}, f.Nodup → (∀ o ∈ os, o ≠ []) → (∀ k ∈ f, k.length = m) → (∀ o ∈ os, ∀ k ∈ o, k.length = m) → f.length ≤ (allS f os).length
  | [], f, m, _, _, _, _ => Nat.le_refl _
  | o :: os, f, m, nf, ne, hf, ho => by
    have h1 := cross_grow nf (ne o List.mem_cons_self) hf (ho o List.mem_cons_self)
    have h2 := allS_grow (os := os) (m := m) (nodup_can (cross f o)) (fun x hx => ne x (List.mem_cons_of_mem _ hx)) (fun k hk => cross_len hf (ho o List.mem_cons_self) k (mem_can.mp hk)) fun x hx => ho x (List.mem_cons_of_mem _ hx)
    exact Nat.le_trans h1 h2
theorem allS_nodup : ∀ {os : Fml} {f : List (List Int)}, f.Nodup → (allS f os).Nodup
  | [], f, h => h
  | o :: os, f, h => by
    show (allS (can (cross f o)) os).Nodup
    exact allS_nodup (nodup_can _)
theorem okA_of : ∀ {os : Fml} {f : List (List Int)} {m : Nat}, f.Nodup → (∀ o ∈ os, o ≠ []) → (∀ k ∈ f, k.length = m) → (∀ o ∈ os, ∀ k ∈ o, k.length = m) → (allS f os).length ≤ 62 → OkA m f os
  | [], f, m, _, _, hf, _, _ => hf
  | o :: os, f, m, nf, ne, hf, ho, hz => by
    have ho1 := ho o List.mem_cons_self
    have hc : ∀ k ∈ can (cross f o), k.length = m := fun k hk => cross_len hf ho1 k (mem_can.mp hk)
    have hz' : (allS (can (cross f o)) os).length ≤ 62 := hz
    have ne' := fun x hx => ne x (List.mem_cons_of_mem o hx)
    have ho' := fun x hx => ho x (List.mem_cons_of_mem o hx)
    exact ⟨hf, ho1, Nat.le_trans (allS_grow (nodup_can _) ne' hc ho') hz', okA_of (nodup_can _) ne' hc ho' hz'⟩
theorem nodup_one (a : List Int) : [a].Nodup := List.nodup_cons.mpr ⟨List.not_mem_nil, List.nodup_nil⟩
theorem Fit.safe_size {s : Shop} {st : List Int} {F : Fml} (t : Fit s st F) (h : safeB s st F = true) : (reach st F).length ≤ (goods s).length :=
  nodup_len _ _ (allS_nodup (nodup_one st)) fun x hx => safe_iff.mp h x (mem_reach.mp hx)
theorem Fit.safe_size2 {s : Shop} {st : List Int} {F : Fml} (t : Fit s st F) (h : safeB s st F = true) (k : Nat) : (reach st (F.eraseIdx k)).length ≤ (goods s).length := by
  by_cases hk : k < F.length
  · obtain ⟨r, hr⟩ := List.exists_mem_of_ne_nil _ (t.nes _ (getD_mem hk))
    have hrl := t.lens _ (getD_mem hk) r hr
    have nd : ((reach st (F.eraseIdx k)).map fun y => add y r).Nodup := nodup_map (allS_nodup (nodup_one st)) fun x hx y hy e => add_inj (t.rl k x hx) (t.rl k y hy) hrl e
    have := nodup_len _ (goods s) nd fun x hx => by
      obtain ⟨y, hy, rfl⟩ := List.mem_map.mp hx
      exact safe_iff.mp h _ ((pk_ers hk).mpr ⟨y, mem_reach.mp hy, r, hr, rfl⟩)
    rwa [List.length_map] at this
  · rw [List.eraseIdx_of_length_le (by omega)]
    exact t.safe_size h
theorem Fit.tame {s : Shop} {st : List Int} {F : Fml} (t : Fit s st F) (h : safeB s st F = true) : Tame s st F := by
  have hg := goods_le t.ok
  have l1 : ∀ k ∈ [st], k.length = s.m := fun k hk => by rw [List.mem_singleton.mp hk]; exact t.sl
  refine ⟨t.ok, t.sl, t.fam, okA_of (nodup_one st) t.nes l1 t.lens ?_, fun k => okA_of (nodup_one st) (fun o ho => t.nes o (List.mem_of_mem_eraseIdx ho)) l1 (t.elens k) ?_⟩
  · have := t.safe_size h
    unfold reach at this
    omega
  · have := t.safe_size2 h k
    unfold reach at this
    omega
theorem cross_count (f o : List (List Int)) : (cross f o).length = f.length * o.length := by
  unfold cross
  induction f with
  | nil => simp
  | cons a f ih => rw [List.flatMap_cons, List.length_append, List.length_map, ih, List.length_cons, Nat.succ_mul, Nat.add_comm]
theorem okA_small : ∀ {os : Fml} {f : List (List Int)} {m : Nat}, (∀ k ∈ f, k.length = m) → (∀ o ∈ os, ∀ k ∈ o, k.length = m) → (∀ o ∈ os, o.length ≤ 2) → f.length * 2 ^ os.length ≤ 62 → OkA m f os
  | [], f, m, hf, _, _, _ => hf
  | o :: os, f, m, hf, ho, h2, hz => by
    have ho1 := ho o List.mem_cons_self
    have o2 := h2 o List.mem_cons_self
    have hc : ∀ k ∈ can (cross f o), k.length = m := fun k hk => cross_len hf ho1 k (mem_can.mp hk)
    have le : (can (cross f o)).length ≤ f.length * 2 := by
      refine Nat.le_trans (can_len _) ?_
      rw [cross_count]
      exact Nat.mul_le_mul_left _ o2
    have le2 : (can (cross f o)).length * 2 ^ os.length ≤ 62 := by
      refine Nat.le_trans (Nat.mul_le_mul_right _ le) ?_
      rw [List.length_cons, Nat.pow_succ, Nat.mul_comm (2 ^ os.length) 2, ← Nat.mul_assoc] at hz
      exact hz
    have p : 1 ≤ 2 ^ os.length := Nat.one_le_two_pow
    refine ⟨hf, ho1, ?_, okA_small hc (fun x hx => ho x (List.mem_cons_of_mem _ hx)) (fun x hx => h2 x (List.mem_cons_of_mem _ hx)) le2⟩
    exact Nat.le_trans (Nat.le_mul_of_pos_right _ p) le2
theorem Fit.tame2 {s : Shop} {st : List Int} {F : Fml} (t : Fit s st F) (h2 : ∀ o ∈ F, o.length ≤ 2) (h3 : F.length ≤ 3) : Tame s st F := by
  have l1 : ∀ k ∈ [st], k.length = s.m := fun k hk => by rw [List.mem_singleton.mp hk]; exact t.sl
  have pw : ∀ n, n ≤ 3 → [st].length * 2 ^ n ≤ 62 := fun n hn => by
    match n, hn with
    | 0, _ => exact lk rfl
    | 1, _ => exact lk rfl
    | 2, _ => exact lk rfl
    | 3, _ => exact lk rfl
  refine ⟨t.ok, t.sl, t.fam, okA_small l1 t.lens h2 (pw _ h3), fun k => okA_small l1 (t.elens k) (fun o ho => h2 o (List.mem_of_mem_eraseIdx ho)) (pw _ ?_)⟩
  exact Nat.le_trans (len_ix F k) h3
end DL
/-! The mathematics of grown families, of shifts, of the law's own families. -/
namespace DL
open PySem PySem.Spec L2 HS
def growL (s : Shop) (st : List Int) : List Nat → List Nat → Fml → Fml
  | [], _, F => F
  | k :: ks, dn, F => if k ∈ dn then growL s st ks dn F else growL s st ks (dn ++ [k]) (F.set k (restB s st F k))
structure Safe (s : Shop) (st : List Int) (F : Fml) : Prop where
  fit : Fit s st F
  safe : safeB s st F = true
theorem Safe.tame {s : Shop} {st : List Int} {F : Fml} (t : Safe s st F) : Tame s st F := t.fit.tame t.safe
theorem Safe.rest_ne {s : Shop} {st : List Int} {F : Fml} (t : Safe s st F) {k : Nat} (hk : k < F.length) : restB s st F k ≠ [] := fun e => by
  obtain ⟨r, hr⟩ := List.exists_mem_of_ne_nil _ (t.fit.nes _ (getD_mem hk))
  have := (t.fit.safe_rest hk).mp t.safe r hr
  rw [e] at this
  cases this
theorem Safe.step {s : Shop} {st : List Int} {F : Fml} (t : Safe s st F) {k : Nat} (hk : k < F.length) : Safe s st (F.set k (restB s st F k)) :=
  let ⟨a, b⟩ := t.fit.widen hk (t.rest_ne hk)
  ⟨a, b⟩
theorem Safe.step_sub {s : Shop} {st : List Int} {F : Fml} (t : Safe s st F) {k : Nat} (hk : k < F.length) : ∀ j, ∀ y ∈ F.getD j [], y ∈ (F.set k (restB s st F k)).getD j [] := fun j y hy => by
  rw [getD_set F _ hk]
  by_cases e : k = j
  · rw [if_pos e]; subst e; exact (t.fit.safe_rest hk).mp t.safe y hy
  · rw [if_neg e]; exact hy
theorem getD_ers (F : Fml) (k j : Nat) : (F.eraseIdx k).getD j [] = if j < k then F.getD j [] else F.getD (j + 1) [] := by
  rw [List.getD_eq_getElem?_getD, List.getElem?_eraseIdx, List.getD_eq_getElem?_getD, List.getD_eq_getElem?_getD]
  split <;> rfl
theorem rest_anti {s : Shop} {st : List Int} {F F' : Fml} (t : Fit s st F) (t' : Fit s st F') (hl : F.length = F'.length) (hs : ∀ k, ∀ y ∈ F.getD k [], y ∈ F'.getD k []) (k : Nat) : ∀ r ∈ restB s st F' k, r ∈ restB s st F k := fun r hr => by
  obtain ⟨h1, h2⟩ := t'.mem_rest.mp hr
  refine t.mem_rest.mpr ⟨h1, fun y p => h2 y (pk_mono (by rw [List.length_eraseIdx, List.length_eraseIdx, hl]) (fun j => ?_) p)⟩
  rw [getD_ers, getD_ers]
  split
  · exact hs j
  · exact hs (j + 1)
theorem grow_len (s : Shop) (st : List Int) : ∀ (ks dn : List Nat) (F : Fml), (growL s st ks dn F).length = F.length
  | [], _, F => rfl
  | k :: ks, dn, F => by
    unfold growL
    split
    · exact grow_len s st ks dn F
    · rw [grow_len s st ks, List.length_set]
theorem grow_all {s : Shop} {st : List Int} : ∀ (ks dn : List Nat) (F : Fml), Safe s st F → (∀ k ∈ ks, k < F.length) → (∀ j ∈ dn, ∀ r ∈ restB s st F j, r ∈ F.getD j []) →
    Safe s st (growL s st ks dn F) ∧ (∀ j, ∀ y ∈ F.getD j [], y ∈ (growL s st ks dn F).getD j []) ∧ (∀ j ∈ dn, (growL s st ks dn F).getD j [] = F.getD j []) ∧
    (∀ j, j ∈ dn ∨ j ∈ ks → ∀ r ∈ restB s st (growL s st ks dn F) j, r ∈ (growL s st ks dn F).getD j [])
  | [], dn, F, t, _, g => ⟨t, fun _ _ h => h, fun _ _ => rfl, fun j h => h.elim (g j) (fun h => by cases h)⟩
  | k :: ks, dn, F, t, hk, g => by
    unfold growL
    by_cases e : k ∈ dn
    · rw [if_pos e]
      obtain ⟨a, b, c, d⟩ := grow_all ks dn F t (fun j hj => hk j (List.mem_cons_of_mem _ hj)) g
      refine ⟨a, b, c, fun j h => d j ?_⟩
      rcases h with h | h
      · exact .inl h
      · rcases List.mem_cons.mp h with rfl | h
        · exact .inl e
        · exact .inr h
    · rw [if_neg e]
      have k0 := hk k List.mem_cons_self
      have t2 := t.step k0
      obtain ⟨a, b, c, d⟩ := grow_all ks (dn ++ [k]) (F.set k (restB s st F k)) t2 (fun j hj => by rw [List.length_set]; exact hk j (List.mem_cons_of_mem _ hj)) (fun j hj r hr => by
        rw [getD_set F _ k0]
        by_cases ej : k = j
        · subst ej
          rw [if_pos rfl]
          rw [rest_set_self] at hr
          exact hr
        · rw [if_neg ej]
          rcases List.mem_append.mp hj with hj | hj
          · exact g j hj r (rest_anti t.fit t2.fit (by rw [List.length_set]) (t.step_sub k0) j r hr)
          · exact absurd (List.mem_singleton.mp hj).symm ej)
      refine ⟨a, fun j y hy => b j y (t.step_sub k0 j y hy), fun j hj => ?_, fun j h => d j ?_⟩
      · rw [c j (List.mem_append.mpr (.inl hj)), getD_set F _ k0, if_neg fun ej => e (by rw [ej]; exact hj)]
      · rcases h with h | h
        · exact .inl (List.mem_append.mpr (.inl h))
        · rcases List.mem_cons.mp h with rfl | h
          · exact .inl (List.mem_append.mpr (.inr (List.mem_singleton.mpr rfl)))
          · exact .inr h
theorem Safe.great {s : Shop} {st : List Int} {F : Fml} (t : Safe s st F) (h : ∀ j, j < F.length → ∀ r ∈ restB s st F j, r ∈ F.getD j []) : greatB s st F = true := by
  unfold greatB
  rw [t.safe, Bool.true_and]
  refine List.all_eq_true.mpr fun k hk => decide_eq_true ?_
  have hk := List.mem_range.mp hk
  exact asc_eq (t.fit.rest_asc k) (t.fit.fam.ok _ (getD_mem hk)).2.1 fun x => ⟨h k hk x, (t.fit.safe_rest hk).mp t.safe x⟩
theorem set_same (F : Fml) (k : Nat) : F.set k (F.getD k []) = F := by
  apply List.ext_getElem?
  intro j
  rw [List.getElem?_set, List.getD_eq_getElem?_getD]
  by_cases e : k = j
  · rw [if_pos e]
    subst e
    by_cases h : k < F.length
    · rw [if_pos h, List.getElem?_eq_getElem h]; rfl
    · rw [if_neg h, List.getElem?_eq_none (by omega)]
  · rw [if_neg e]
theorem great_fix {s : Shop} {st : List Int} {F : Fml} (h : greatB s st F = true) : ∀ (ks dn : List Nat), (∀ k ∈ ks, k < F.length) → growL s st ks dn F = F
  | [], dn, _ => rfl
  | k :: ks, dn, hk => by
    unfold growL
    have ih := fun dn => great_fix h ks dn fun j hj => hk j (List.mem_cons_of_mem _ hj)
    split
    · exact ih dn
    · have e : restB s st F k = F.getD k [] := by
        unfold greatB at h
        rw [Bool.and_eq_true] at h
        exact of_decide_eq_true (List.all_eq_true.mp h.2 k (List.mem_range.mpr (hk k List.mem_cons_self)))
      rw [e, set_same]
      exact ih _
theorem great_safe {s : Shop} {st : List Int} {F : Fml} (h : greatB s st F = true) : safeB s st F = true := by
  unfold greatB at h
  rw [Bool.and_eq_true] at h
  exact h.1
/-- grown by an order that names each hand -/
theorem Safe.grown {s : Shop} {st : List Int} {F : Fml} (t : Safe s st F) {ks : List Nat} (h1 : ∀ k ∈ ks, k < F.length) (h2 : ∀ k, k < F.length → k ∈ ks) :
    Safe s st (growL s st ks [] F) ∧ greatB s st (growL s st ks [] F) = true ∧ ∀ j, ∀ y ∈ F.getD j [], y ∈ (growL s st ks [] F).getD j [] := by
  obtain ⟨a, b, _, d⟩ := grow_all ks [] F t h1 fun j hj => by cases hj
  refine ⟨a, a.great fun j hj => d j (.inr (h2 j ?_)), b⟩
  rw [grow_len] at hj
  exact hj
theorem Safe.grown0 {s : Shop} {st : List Int} {F : Fml} (t : Safe s st F) {ks : List Nat} (h1 : ∀ k ∈ ks, k < F.length) (h0 : 0 < F.length) : (growL s st (0 :: ks) [] F).getD 0 [] = restB s st F 0 := by
  unfold growL
  rw [if_neg List.not_mem_nil]
  have t2 := t.step h0
  obtain ⟨_, _, c, _⟩ := grow_all ks ([] ++ [0]) (F.set 0 (restB s st F 0)) t2 (fun j hj => by rw [List.length_set]; exact h1 j hj) (fun j hj r hr => by
    have hj : j = 0 := by simpa using hj
    subst hj
    rw [getD_set F _ h0, if_pos rfl]
    rw [rest_set_self] at hr
    exact hr)
  rw [c 0 (by simp), getD_set F _ h0, if_pos rfl]
/-! ### the law's families -/
structure LF (s : Shop) (st : List Int) (F : Fml) : Prop where
  fit : Fit s st F
  l3 : F.length ≤ 3
  k : (∀ o ∈ F, o.length ≤ 2) ∨ safeB s st F = true
theorem LF.tame {s : Shop} {st : List Int} {F : Fml} (t : LF s st F) : Tame s st F := t.k.elim (fun h => t.fit.tame2 h t.l3) t.fit.tame
theorem Safe.lf {s : Shop} {st : List Int} {F : Fml} (t : Safe s st F) (h : F.length ≤ 3) : LF s st F := ⟨t.fit, h, .inr t.safe⟩
/-! ### a sum moved from the beginning into a set -/
def shiftF (F : Fml) (k : Nat) (b : List Int) : Fml := F.set k (can (cross [b] (F.getD k [])))
theorem shift_reach {s : Shop} {st b : List Int} {F : Fml} (t : Fit s st F) {k : Nat} (hk : k < F.length) (hb : b.length = s.m) : reach (sub st b) (shiftF F k b) = reach st F := by
  refine asc_eq (reach_asc _ _) (reach_asc _ _) fun x => ?_
  rw [mem_reach, mem_reach]
  have e1 : ∀ {x}, Pk F st x ↔ _ := fun {x} => pk_ers (os := F) (a := st) (x := x) hk
  have e2 : ∀ {x}, Pk (shiftF F k b) (sub st b) x ↔ _ := fun {x} => pk_ers (os := shiftF F k b) (k := k) (a := sub st b) (x := x) (by unfold shiftF; rw [List.length_set]; exact hk)
  rw [e1, e2]
  unfold shiftF
  rw [ers_set, getD_set F _ hk, if_pos rfl]
  have e3 : ∀ z, Pk (F.eraseIdx k) st z ↔ ∃ y, Pk (F.eraseIdx k) (sub st b) y ∧ z = add y b := fun z => by
    have := pk_add (os := F.eraseIdx k) (a := sub st b) (b := b) (x := z)
    rw [add_sub t.sl hb] at this
    exact this
  constructor
  · rintro ⟨y, p, r, hr, rfl⟩
    obtain ⟨b', hb', r', hr', rfl⟩ := mem_cross.mp (mem_can.mp hr)
    rw [List.mem_singleton.mp hb', ← add_assoc']
    exact ⟨add y b, (e3 _).mpr ⟨y, p, rfl⟩, r', hr', rfl⟩
  · rintro ⟨z, p, r, hr, rfl⟩
    obtain ⟨y, q, rfl⟩ := (e3 z).mp p
    exact ⟨y, q, add b r, mem_can.mpr (mem_cross.mpr ⟨b, List.mem_singleton.mpr rfl, r, hr, rfl⟩), by rw [add_assoc']⟩
theorem shift_safe {s : Shop} {st b : List Int} {F : Fml} (t : Fit s st F) {k : Nat} (hk : k < F.length) (hb : b.length = s.m) : safeB s (sub st b) (shiftF F k b) = safeB s st F := by unfold safeB; rw [shift_reach t hk hb]
theorem LF.shift {s : Shop} {st b : List Int} {F : Fml} (t : LF s st F) {k : Nat} (hk : k < F.length) (hb : b.length = s.m) : LF s (sub st b) (shiftF F k b) := by
  have hm := getD_mem hk
  obtain ⟨q1, q2, q3, q4⟩ := t.fit.fam.ok _ hm
  have hl : (can (cross [b] (F.getD k []))).length ≤ (F.getD k []).length := by
    refine Nat.le_trans (can_len _) ?_
    rw [cross_count]
    exact Nat.le_of_eq (Nat.one_mul _)
  have h1 : ∀ x ∈ [b], x.length = s.m := fun x hx => by rw [List.mem_singleton.mp hx]; exact hb
  refine ⟨⟨t.fit.ok, sub_len t.fit.sl hb, t.fit.fam.set ⟨fun e => ?_, asc_can _, by omega, fun x hx => cross_len h1 q4 x (mem_can.mp hx)⟩⟩, by unfold shiftF; rw [List.length_set]; exact t.l3, ?_⟩
  · obtain ⟨r, hr⟩ := List.exists_mem_of_ne_nil _ q1
    have : add b r ∈ can (cross [b] (F.getD k [])) := mem_can.mpr (mem_cross.mpr ⟨b, List.mem_singleton.mpr rfl, r, hr, rfl⟩)
    rw [e] at this
    cases this
  · rcases t.k with h | h
    · refine .inl fun o ho => ?_
      rcases List.mem_or_eq_of_mem_set ho with ho | rfl
      · exact h o ho
      · have := h _ hm
        omega
    · exact .inr (by rw [shift_safe t.fit hk hb]; exact h)
/-! ### the law's own rest -/
def zerosI (m : Nat) : List Int := List.replicate m 0
theorem zero_add' {x : List Int} {m : Nat} (h : x.length = m) : add (zerosI m) x = x := by
  subst h
  unfold add zerosI
  induction x with
  | nil => rfl
  | cons a x ih => rw [List.length_cons, List.replicate_succ, List.zipWith_cons_cons, ih, Int.zero_add]
theorem pk_app : ∀ {os : Fml} {a b x : List Int}, Pk (os ++ [[b]]) a x ↔ ∃ y, Pk os a y ∧ x = add y b
  | [], a, b, x => by
    show (∃ c ∈ [b], x = add a c) ↔ ∃ y, y = a ∧ x = add y b
    constructor
    · rintro ⟨c, hc, e⟩; rw [List.mem_singleton.mp hc] at e; exact ⟨a, rfl, e⟩
    · rintro ⟨y, rfl, e⟩; exact ⟨b, List.mem_singleton.mpr rfl, e⟩
  | o :: os, a, b, x => by
    show (∃ c ∈ o, Pk (os ++ [[b]]) (add a c) x) ↔ ∃ y, (∃ c ∈ o, Pk os (add a c) y) ∧ x = add y b
    constructor
    · rintro ⟨c, hc, p⟩
      obtain ⟨y, q, e⟩ := pk_app.mp p
      exact ⟨y, ⟨c, hc, q⟩, e⟩
    · rintro ⟨y, ⟨c, hc, q⟩, e⟩
      exact ⟨c, hc, pk_app.mpr ⟨y, q, e⟩⟩
theorem beside_reach {st : List Int} {m : Nat} (h : st.length = m) (E : Fml) : allS [zerosI m] (E ++ [[st]]) = reach st E := by
  refine asc_eq (allS_asc (List.pairwise_singleton _ _)) (reach_asc _ _) fun x => ?_
  rw [mem_allS, mem_reach]
  have := pk_add (os := E) (a := zerosI m) (b := st) (x := x)
  rw [zero_add' h] at this
  rw [this]
  constructor
  · rintro ⟨a, ha, p⟩; rw [List.mem_singleton.mp ha] at p; exact pk_app.mp p
  · intro p; exact ⟨_, List.mem_singleton.mpr rfl, pk_app.mpr p⟩
/-- the rest by way of the sets -/
theorem can_rest {A T : List (List Int)} {m : Nat} (ne : A ≠ []) (hA : ∀ k ∈ A, k.length = m) (hT : ∀ k ∈ T, k.length = m) (nd : T.Nodup) : can (restL A (can T)) = restL A T := by
  refine can_of (restL_asc ne hA hT nd) fun x => ?_
  rw [mem_restL ne hA hT, mem_restL ne hA fun k hk => hT k (mem_can.mp hk)]
  exact and_congr_right fun _ => ⟨fun h a ha => mem_can.mpr (h a ha), fun h a ha => mem_can.mp (h a ha)⟩
end DL
/-! The defs: all_good, is_safe, whole_states, require_hands, rest_of, is_greatest. -/
namespace DL
open PySem PySem.Spec L2 HS
def strB (g : Str) : Dat → Dat
  | .str x => .bool (decide (x = g))
  | d => d
def pairR (s : Shop) (st : List Int) (F : Fml) : Dat → Dat
  | .tuple [.int k, x] => .bool (PyData.eqv (sD (restB s st F k.toNat)) x)
  | d => d
section
variable {G : Wd} {f : Addr} {fd : FuncData}
def f_all_good : Sig := fun ds n R => ∃ (s : Shop) (st : List Int) (F : Fml), ds = [.dat (shopD s), .dat (iD st), .dat (fD F)] ∧ Tame s st F ∧ R (dB (safeB s st F)) n
theorem Tame.rl {s : Shop} {st : List Int} {F : Fml} (t : Tame s st F) : (reach st F).length ≤ 62 := by
  have : (reach st F).length ≤ max 1 62 := t.all.out.2
  omega
theorem ok_all_good (T : Tp G) (B : Sg G "reached_states" 3 f_reached) (C : Sg G "goods_of" 12 f_goods_of) (F : Fun G.K "all_good" "all_good" t_all_good f fd) (bd : Binds G.K fd ["store", "start", "family"] []) (hx : G.mg "all_good" = some (.ref f)) : Sg G "all_good" 13 f_all_good :=
  sg_def F sc_all_good bd hx (fun ds n R ⟨s, st, Fm, h, _⟩ => by subst h; exact ⟨rfl, noM3⟩) fun src ds n R ⟨s, st, Fm, h, t, r⟩ => by
    subst h
    refine sxs_cons (sx_asgC 3 rfl rfl (.inl rfl) (ex_dcT [("state", 4)] [false, false, false, false, false] (by dsimp only; decide +kernel) (by dsimp only; decide +kernel) (ix_tup (ex_call C (lk rfl) rfl (ax_cons (ex_var 0 rfl rfl rfl (ax_nil ⟨s, rfl, t.ok, _, rfl, goods s, rfl, by have := goods_le t.ok; omega, fun k hk => bx_name 4 rfl (.inl rfl) (.inr rfl) (by decide) (ex_var 4 rfl rfl rfl ⟨rfl, rfl⟩), ?_⟩)))))))
    refine sxs_one (sx_ret (ex_callB "all" T.all (by decide +kernel) rfl (ax_cons (ex_lc [("state", 4)] [false, false, false, true, false] (by dsimp only; decide +kernel) (by dsimp only; decide +kernel) (ix_tup (ex_call B (lk rfl) rfl (ax_cons (ex_var 1 rfl rfl rfl (ax_cons (ex_var 2 rfl rfl rfl (ax_nil ⟨s.m, st, Fm, _, rfl, .inl rfl, t.ok.i1, t.ok.i2, by have := t.flen; omega, t.all, _, rfl, ?_⟩)))))))))))
    refine cl_map (fun d => .bool (decide (unI d ∈ goods s))) (by rw [List.length_map]; have := t.rl; omega) (fun d hd => ?_) (.inl (ax_nil ?_))
    · obtain ⟨k, hk, rfl⟩ := List.mem_map.mp hd
      refine bx_name 4 rfl (.inl rfl) (.inr rfl) (by decide) (ex_cmp (ex_var 4 rfl rfl rfl (ex_var 3 rfl rfl rfl (o_inK ⟨rfl, ?_⟩))))
      rw [unI_iD]
    · rw [all_un (reach st Fm) fun x => decide (x ∈ goods s)]
      refine b_all ?_
      rw [all_id]
      exact r
theorem ok_is_safe (A : Sg G "need_family" 6 f_need_family) (B : Sg G "all_good" 13 f_all_good) (F : Fun G.K "is_safe" "is_safe" t_is_safe f fd) (bd : Binds G.K fd ["store", "start", "family"] []) (hx : G.mg "is_safe" = some (.ref f)) : Sg G "is_safe" 14 f_all_good :=
  sg_def F sc_is_safe bd hx (fun ds n R ⟨s, st, Fm, h, _⟩ => by subst h; exact ⟨rfl, noM3⟩) fun src ds n R ⟨s, st, Fm, h, t, r⟩ => by
    subst h
    refine sxs_cons (sx_expr (ex_call A (lk rfl) rfl (ax_cons (ex_var 0 rfl rfl rfl (ax_cons (ex_var 2 rfl rfl rfl (ax_nil ⟨s, Fm, rfl, t.ok, t.fam, ?_⟩)))))))
    exact sxs_one (sx_ret (ex_call B (lk rfl) rfl (ax_cons (ex_var 0 rfl rfl rfl (ax_cons (ex_var 1 rfl rfl rfl (ax_cons (ex_var 2 rfl rfl rfl (ax_nil ⟨s, st, Fm, rfl, t, r⟩)))))))))
def f_whole : Sig := fun ds n R => ∃ (s : Shop) (st : List Int) (F : Fml), ds = [.dat (shopD s), .dat (iD st), .dat (fD F)] ∧ Tame s st F ∧ R (.dat (sD (reach st F))) n
theorem ok_whole (A : Sg G "need_family" 6 f_need_family) (B : Sg G "reached_states" 3 f_reached) (F : Fun G.K "whole_states" "whole_states" t_whole_states f fd) (bd : Binds G.K fd ["store", "start", "family"] []) (hx : G.mg "whole_states" = some (.ref f)) : Sg G "whole_states" 7 f_whole :=
  sg_def F sc_whole_states bd hx (fun ds n R ⟨s, st, Fm, h, _⟩ => by subst h; exact ⟨rfl, noM3⟩) fun src ds n R ⟨s, st, Fm, h, t, r⟩ => by
    subst h
    refine sxs_cons (sx_expr (ex_call A (lk rfl) rfl (ax_cons (ex_var 0 rfl rfl rfl (ax_cons (ex_var 2 rfl rfl rfl (ax_nil ⟨s, Fm, rfl, t.ok, t.fam, ?_⟩)))))))
    exact sxs_one (sx_ret (ex_call B (lk rfl) rfl (ax_cons (ex_var 1 rfl rfl rfl (ax_cons (ex_var 2 rfl rfl rfl (ax_nil ⟨s.m, st, Fm, _, rfl, .inl rfl, t.ok.i1, t.ok.i2, by have := t.flen; omega, t.all, r⟩)))))))
def f_req_hands : Sig := fun ds n R => ∃ (s : Shop) (hs : List Str), ds = .dat (shopD s) :: (hs.map PyData.str).map D.dat ∧ s.Ok ∧ hs.length ≤ 900 ∧ (∀ h ∈ hs, h ∈ s.hands) ∧ R (.dat .none) n
theorem dat_inj : ∀ {a b : List Dat}, a.map D.dat = b.map D.dat → a = b := by
  intro a
  induction a with
  | nil => intro b h; cases b <;> simp_all
  | cons x a ih =>
    intro b h
    cases b with
    | nil => simp at h
    | cons y b => simp only [List.map_cons, List.cons.injEq, D.dat.injEq] at h; rw [h.1, ih h.2]
theorem ok_req_hands (T : Tp G) (A : Sg G "hand_names" 1 f_hand_names) (F : Fun G.K "require_hands" "require_hands" t_require_hands f fd) (hx : G.mg "require_hands" = some (.ref f))
    (hbind : ∀ (kV doc pm : Value) (an : Option Addr) (cdv ct : Value) (us rest : List Value), us.length = 1 → bindArgs (PySem.W.fnOf "require_hands" "require_hands" (defArgs t_require_hands) (defBody t_require_hands) (defScope t_require_hands) .none kV doc pm an cdv ct) ⟨us ++ rest, []⟩ = (newTuple rest >>= fun t => pure ((["store"] : List Str).zip us ++ [(("hands" : Str), t)]))) : Sg G "require_hands" 2 f_req_hands :=
  sg_star (ps := ["store"]) F sc_require_hands hx hbind (fun ds n R ⟨s, hs, e, ok, hz, _⟩ => by subst e; exact ⟨[.dat (shopD s)], hs.map PyData.str, rfl, rfl, noM1, by rw [List.length_map]; omega⟩) fun src ws rest n R hl ⟨s, hs, e, ok, hz, hm, r⟩ => by
    have e1 : ws = [.dat (shopD s)] ∧ rest = hs.map PyData.str := by
      match ws, hl with
      | [w], _ =>
        rw [List.singleton_append] at e
        injection e with e1 e2
        exact ⟨by rw [e1], dat_inj e2⟩
    obtain ⟨rfl, rfl⟩ := e1
    refine sxs_cons (sx_asg 2 rfl (.inl rfl) (.inl rfl) (ex_call A (lk rfl) rfl (ax_cons (ex_var 0 rfl rfl rfl (ax_nil ⟨s.sto, by rw [sto_dat], by have := ok.f2; show s.folk.length ≤ 900; omega, ?_⟩)))))
    refine sxs_one (sx_for [3] (ix_tup (ex_var 1 rfl rfl rfl ⟨_, rfl, ?_⟩)))
    refine ⟨fun i ρ k => k = n ∧ ∃ (o : Option D), ρ = [some (.dat (shopD s)), some (dT (hs.map PyData.str)), some (.ntup (s.hands.map PyData.str)), o, none], ⟨rfl, none, rfl⟩, fun i d ρ2 n2 hd ⟨e1, o, e2⟩ => ?_, fun ρ2 n2 ⟨e1, o, e2⟩ => ?_⟩
    · subst e1 e2
      rw [List.getElem?_map] at hd
      cases hg : hs[i]? with
      | none => rw [hg] at hd; cases hd
      | some g =>
        rw [hg] at hd
        cases hd
        refine bx_name 3 rfl (.inr rfl) (.inl rfl) (by decide) ?_
        refine sxs_one (sx_if (tx_not (tx_val (ex_callB "any" T.any (by decide +kernel) rfl (ax_cons (ex_lc [("name", 4)] [false, false, false, true, false] (by dsimp only; decide +kernel) (by dsimp only; decide +kernel) (ix_tup (ex_weak (ex_var 2 rfl rfl rfl ⟨_, rfl, _, rfl, ?_⟩)))))))))
        refine cl_map (strB g) (by rw [List.length_map]; have := ok.f2; show (s.folk.map (·.1)).length ≤ _; rw [List.length_map]; omega) (fun d hd => ?_) (.inl (ax_nil ?_))
        · obtain ⟨x, hx, rfl⟩ := List.mem_map.mp hd
          exact bx_name 4 rfl (.inl rfl) (.inr rfl) (by decide) (ex_cmp (ex_var 4 rfl rfl rfl (ex_var 3 rfl rfl rfl (o_eqS ⟨rfl, rfl⟩))))
        · have e : (s.hands.map PyData.str).map (strB g) = (s.hands.map fun x => decide (x = g)).map PyData.bool := by rw [List.map_map, List.map_map]; rfl
          rw [e]
          refine b_any ⟨_, rfl, ?_⟩
          have e2 : (s.hands.map fun x => decide (x = g)).any id = true := by
            rw [List.any_map]
            exact List.any_eq_true.mpr ⟨g, hm g (List.mem_of_getElem? hg), by simp⟩
          rw [e2]
          exact ite0 (sxs_nil ⟨rfl, some (dS g), rfl⟩)
    · subst e1 e2
      exact r
abbrev AtHand (s : Shop) (h : Str) (k : Nat) : Prop := s.hands[k]? = some h ∧ ∀ m, m < k → s.hands[m]? ≠ some h
def f_rest_of : Sig := fun ds n R => ∃ (s : Shop) (st : List Int) (F : Fml) (h : Str) (k : Nat), ds = [.dat (shopD s), .dat (iD st), .dat (fD F), dS h] ∧ Tame s st F ∧ AtHand s h k ∧ R (.dat (sD (restB s st F k))) n
theorem ok_rest_of (A : Sg G "hand_names" 1 f_hand_names) (H : Sg G "require_hands" 2 f_req_hands) (N : Sg G "need_family" 6 f_need_family) (B : Sg G "rest_beside" 13 f_rest_beside) (F : Fun G.K "rest_of" "rest_of" t_rest_of f fd) (bd : Binds G.K fd ["store", "start", "family", "hand"] []) (hx : G.mg "rest_of" = some (.ref f)) : Sg G "rest_of" 14 f_rest_of :=
  sg_def F sc_rest_of bd hx (fun ds n R ⟨s, st, Fm, h, k, e, _⟩ => by subst e; exact ⟨rfl, noM4⟩) fun src ds n R ⟨s, st, Fm, h, k, e, t, ah, r⟩ => by
    subst e
    refine sxs_cons (sx_expr (ex_call H (lk rfl) rfl (ax_cons (ex_var 0 rfl rfl rfl (ax_cons (ex_var 3 rfl rfl rfl (ax_nil ⟨s, [h], rfl, t.ok, lk rfl, fun x hx => by rw [List.mem_singleton.mp hx]; exact List.mem_of_getElem? ah.1, ?_⟩)))))))
    refine sxs_cons (sx_expr (ex_call N (lk rfl) rfl (ax_cons (ex_var 0 rfl rfl rfl (ax_cons (ex_var 2 rfl rfl rfl (ax_nil ⟨s, Fm, rfl, t.ok, t.fam, ?_⟩)))))))
    refine sxs_one (sx_ret (ex_call B (lk rfl) rfl (ax_cons (ex_var 0 rfl rfl rfl (ax_cons (ex_var 1 rfl rfl rfl (ax_cons (ex_var 2 rfl rfl rfl (ax_cons (ex_indexN (ex_call A (lk rfl) rfl (ax_cons (ex_var 0 rfl rfl rfl (ax_nil ⟨s.sto, by rw [sto_dat], by have := t.ok.f2; show s.folk.length ≤ 900; omega, s.hands, rfl, ex_var 3 rfl rfl rfl ⟨h, k, rfl, ah.1, ah.2, ax_nil ⟨s, st, Fm, k, rfl, t, r⟩⟩⟩))))))))))))))
def f_is_great : Sig := fun ds n R => ∃ (s : Shop) (st : List Int) (F : Fml), ds = [.dat (shopD s), .dat (iD st), .dat (fD F)] ∧ Tame s st F ∧ R (dB (greatB s st F)) n
theorem ok_is_great (T : Tp G) (A : Sg G "is_safe" 14 f_all_good) (B : Sg G "rest_beside" 13 f_rest_beside) (F : Fun G.K "is_greatest" "is_greatest" t_is_greatest f fd) (bd : Binds G.K fd ["store", "start", "family"] []) (hx : G.mg "is_greatest" = some (.ref f)) : Sg G "is_greatest" 15 f_is_great :=
  sg_def F sc_is_greatest bd hx (fun ds n R ⟨s, st, Fm, e, _⟩ => by subst e; exact ⟨rfl, noM3⟩) fun src ds n R ⟨s, st, Fm, e, t, r⟩ => by
    subst e
    refine sxs_cons (sx_if (tx_not (tx_val (ex_call A (lk rfl) rfl (ax_cons (ex_var 0 rfl rfl rfl (ax_cons (ex_var 1 rfl rfl rfl (ax_cons (ex_var 2 rfl rfl rfl (ax_nil ⟨s, st, Fm, rfl, t, _, rfl, ?_⟩)))))))))))
    cases hb : safeB s st Fm with
    | false =>
      refine ite1 (sxs_one (sx_ret (ex_bl ?_)))
      have e : greatB s st Fm = false := by unfold greatB; rw [hb, Bool.false_and]
      rw [e] at r
      exact r
    | true =>
      refine ite0 (sxs_nil ?_)
      refine sxs_one (sx_ret (ex_callB "all" T.all (by decide +kernel) rfl (ax_cons (ex_lc [("k", 3), ("right", 4)] [true, true, true, false, false] (by dsimp only; decide +kernel) (by dsimp only; decide +kernel) (ix_enum rfl T.enumerate (ex_var 2 rfl rfl rfl ⟨_, rfl, ?_⟩))))))
      refine cl_map (pairR s st Fm) (by rw [enumD_len, List.length_map]; have := t.flen; omega) (fun d hd => ?_) (.inl (ax_nil ?_))
      · obtain ⟨i, hi⟩ := List.mem_iff_getElem?.mp hd
        unfold enumD at hi
        rw [List.getElem?_mapIdx, List.getElem?_map] at hi
        cases hg : Fm[i]? with
        | none => rw [hg] at hi; cases hi
        | some g =>
          rw [hg] at hi
          cases hi
          refine bx_tup ⟨_, rfl, bxs_cons (bx_name 3 rfl (.inl rfl) (.inr rfl) (by decide) (bxs_cons (bx_name 4 rfl (.inl rfl) (.inr rfl) (by decide) (bxs_nil ?_)))), rfl⟩
          exact ex_cmp (ex_call B (lk rfl) rfl (ax_cons (ex_var 0 rfl rfl rfl (ax_cons (ex_var 1 rfl rfl rfl (ax_cons (ex_var 2 rfl rfl rfl (ax_cons (ex_var 3 rfl rfl rfl (ax_nil ⟨s, st, Fm, i, rfl, t, ex_var 4 rfl rfl rfl (o_eq (shp_sD _) (shp_sD g) ⟨rfl, rfl⟩)⟩))))))))))
      · have e : (enumD (Fm.map sD)).map (pairR s st Fm) = ((List.range Fm.length).map fun k => decide (restB s st Fm k = Fm.getD k [])).map PyData.bool := by
          rw [enum_map]
          apply List.ext_getElem?
          intro i
          rw [List.getElem?_map, List.getElem?_map, List.getElem?_map, List.getElem?_mapIdx]
          by_cases hi : i < Fm.length
          · rw [List.getElem?_range hi, List.getElem?_eq_getElem hi]
            show some (PyData.bool (PyData.eqv (sD (restB s st Fm i)) (sD Fm[i]))) = some (PyData.bool (decide (restB s st Fm i = Fm.getD i [])))
            rw [eqv_sD, List.getD_eq_getElem?_getD, List.getElem?_eq_getElem hi]
            rfl
          · rw [List.getElem?_eq_none (by omega), List.getElem?_eq_none (by rw [List.length_range]; omega)]
            rfl
        rw [e]
        refine b_all ?_
        rw [all_id]
        have e : greatB s st Fm = (List.range Fm.length).all fun k => decide (restB s st Fm k = Fm.getD k []) := by unfold greatB; rw [hb, Bool.true_and]
        rw [e] at r
        exact r
end
end DL
/-! The def grown. -/
namespace DL
open PySem PySem.Spec L2 HS
def idxD (hs : List Str) : Dat → Dat
  | .str h => .int (hs.idxOf h : Nat)
  | d => d
theorem at_hand {s : Shop} {h : Str} (hm : h ∈ s.hands) : AtHand s h (s.hands.idxOf h) := by
  unfold AtHand
  generalize s.hands = l at hm ⊢
  induction l with
  | nil => cases hm
  | cons a l ih =>
    by_cases e : a = h
    · subst e
      rw [List.idxOf_cons_self]
      exact ⟨rfl, fun m hm => by omega⟩
    · have hl : h ∈ l := by
        rcases List.mem_cons.mp hm with q | q
        · exact absurd q.symm e
        · exact q
      obtain ⟨a1, a2⟩ := ih hl
      rw [List.idxOf_cons, show (a == h) = false by simpa using e]
      simp only [cond_false]
      refine ⟨by simpa using a1, fun m hm => ?_⟩
      cases m with
      | zero => simpa using e
      | succ m => simpa using a2 m (by omega)
theorem hand_lt {s : Shop} {h : Str} (hm : h ∈ s.hands) : s.hands.idxOf h < s.folk.length := by
  have := List.idxOf_lt_length_of_mem hm
  unfold Shop.hands at this
  rwa [List.length_map] at this
def orderL (s : Shop) (hs : List Str) : List Nat := hs.map (fun h => s.hands.idxOf h) ++ List.range s.folk.length
theorem set_cut (F : Fml) (k : Nat) (l : List (List Int)) (h : k < F.length) : ((F.set k l).map sD) = cutD (F.map sD) none (some (k : Int)) ++ [sD l] ++ cutD (F.map sD) (some ((k : Int) + 1)) none := by
  rw [cutD_hi _ (Int.natCast_nonneg _), cutD_lo _ (by omega), Int.toNat_natCast, show ((k : Int) + 1).toNat = k + 1 by omega, List.set_eq_take_append_cons_drop, if_pos h, ← List.map_take, ← List.map_drop]
  rw [List.map_append, List.map_cons, List.append_assoc]
  rfl
theorem grow_cons (s : Shop) (st : List Int) (k : Nat) (ks dn : List Nat) (F : Fml) : growL s st (k :: ks) dn F = if k ∈ dn then growL s st ks dn F else growL s st ks (dn ++ [k]) (F.set k (restB s st F k)) := rfl
theorem mem_cast (dn : List Nat) (k : Nat) : ((k : Int) ∈ dn.map fun (x : Nat) => (x : Int)) ↔ k ∈ dn := by
  rw [List.mem_map]
  constructor
  · rintro ⟨j, hj, e⟩
    have : j = k := by omega
    rwa [← this]
  · intro h
    exact ⟨k, h, rfl⟩
section
variable {G : Wd} {f : Addr} {fd : FuncData}
def f_grown : Sig := fun ds n R => ∃ (s : Shop) (st : List Int) (F : Fml) (hs : List Str), ds = [.dat (shopD s), .dat (iD st), .dat (fD F)] ++ (hs.map PyData.str).map D.dat ∧ hs.length ≤ 900 ∧ Safe s st F ∧ (∀ h ∈ hs, h ∈ s.hands) ∧ R (.dat (fD (growL s st (orderL s hs) [] F))) n
theorem ok_grown (T : Tp G) (A : Sg G "hand_names" 1 f_hand_names) (H : Sg G "require_hands" 2 f_req_hands) (Q : Sg G "require_family" 1 f_req) (S : Sg G "is_safe" 14 f_all_good) (B : Sg G "rest_beside" 13 f_rest_beside) (F : Fun G.K "grown" "grown" t_grown f fd) (hx : G.mg "grown" = some (.ref f))
    (hbind : ∀ (kV doc pm : Value) (an : Option Addr) (cdv ct : Value) (us rest : List Value), us.length = 3 → bindArgs (PySem.W.fnOf "grown" "grown" (defArgs t_grown) (defBody t_grown) (defScope t_grown) .none kV doc pm an cdv ct) ⟨us ++ rest, []⟩ = (newTuple rest >>= fun t => pure ((["store", "start", "family"] : List Str).zip us ++ [(("hands" : Str), t)]))) : Sg G "grown" 15 f_grown :=
  sg_star (ps := ["store", "start", "family"]) F sc_grown hx hbind (fun ds n R ⟨s, st, Fm, hs, e, hz, _⟩ => by subst e; exact ⟨_, hs.map PyData.str, rfl, rfl, noM3, by rw [List.length_map]; omega⟩) fun src ws rest n R hl ⟨s, st, Fm, hs, e, hz, t, hm, r⟩ => by
    have e1 : ws = [.dat (shopD s), .dat (iD st), .dat (fD Fm)] ∧ rest = hs.map PyData.str := by
      match ws, hl with
      | [a, b, c], _ =>
        injection e with e1 e
        injection e with e2 e
        injection e with e3 e
        exact ⟨by rw [e1, e2, e3], dat_inj e⟩
    obtain ⟨rfl, rfl⟩ := e1
    have ok := t.fit.ok
    have f2 := ok.f2
    have fl := t.fit.fam.len
    refine sxs_cons (sx_expr (ex_callS H (lk rfl) rfl (ax_cons (ex_var 0 rfl rfl rfl (ax_star (ex_var 3 rfl rfl rfl ⟨_, .inl rfl, ax_nil ⟨s, hs, by rw [List.append_nil], ok, hz, hm, ?_⟩⟩))))))
    refine sxs_cons (sx_expr (ex_call Q (lk rfl) rfl (ax_cons (ex_call S (lk rfl) rfl (ax_cons (ex_var 0 rfl rfl rfl (ax_cons (ex_var 1 rfl rfl rfl (ax_cons (ex_var 2 rfl rfl rfl (ax_nil ⟨s, st, Fm, rfl, t.tame, ?_⟩)))))))))))
    rw [t.safe]
    refine ax_cons (ex_str (ax_cons (ex_neg (ax_nil ⟨_, _, rfl, ?_⟩))))
    refine sxs_cons (sx_asg 4 rfl (.inr rfl) (.inl rfl) (ex_call A (lk rfl) rfl (ax_cons (ex_var 0 rfl rfl rfl (ax_nil ⟨s.sto, by rw [sto_dat], by show s.folk.length ≤ 900; omega, ?_⟩)))))
    refine sxs_cons (sx_asg 5 rfl (.inl rfl) (.inl rfl) (ex_bin (ex_lc [("hand", 9)] [false, false, false, false, true, false, false, false, false, false] (by dsimp only; decide +kernel) (by dsimp only; decide +kernel) (ix_tup (ex_var 3 rfl rfl rfl ⟨_, rfl, ?_⟩)))))
    refine cl_map (idxD s.hands) (by rw [List.length_map]; omega) (fun d hd => ?_) (.inr ?_)
    · obtain ⟨h, hh, rfl⟩ := List.mem_map.mp hd
      have ah := at_hand (hm h hh)
      exact bx_name 9 rfl (.inl rfl) (.inr rfl) (by decide) (ex_indexN (ex_var 4 rfl rfl rfl ⟨s.hands, rfl, ex_var 9 rfl rfl rfl ⟨h, s.hands.idxOf h, rfl, ah.1, ah.2, rfl, rfl⟩⟩))
    refine ex_listRange rfl T.list rfl T.range (ex_callB "len" T.len (by decide +kernel) rfl (ax_cons (ex_weak (ex_var 4 rfl rfl rfl ⟨_, rfl, ax_nil (b_len (.inl rfl) ⟨_, rfl, Int.natCast_nonneg _, ?_, o_catO ?_ ?_⟩)⟩))))
    · rw [List.length_map]; show (((s.folk.map (·.1)).length : Nat) : Int) ≤ 1000; rw [List.length_map]; omega
    · rw [List.length_map, List.length_map, rngD_len, Int.toNat_natCast, List.length_map]; show hs.length + (s.folk.map (·.1)).length ≤ 1000; rw [List.length_map]; omega
    have eo : ((hs.map PyData.str).map (idxD s.hands) ++ rngD 0 ((((s.sto.folk.map fun x => x.1).map PyData.str).length : Nat) : Int).toNat) = (orderL s hs).map fun k => PyData.int (k : Nat) := by
      unfold orderL rngD
      rw [List.map_append, List.map_map, List.map_map, Int.toNat_natCast, List.length_map]
      rw [List.map_map]
      congr 1
      refine List.map_congr_left fun i _ => ?_
      rw [Int.zero_add]
    show SXs _ _ _ _ _ _
    rw [eo]
    refine sxs_cons (sx_par 6 7 (by decide) rfl rfl rfl rfl (ex_dic (ex_var 2 rfl rfl rfl ⟨.inr rfl, ?_⟩)) (hw := sw_par rfl rfl rfl rfl rfl) (hk := rfl))
    have ol : (orderL s hs).length ≤ 910 := by unfold orderL; rw [List.length_append, List.length_map, List.length_range]; omega
    have olt : ∀ k ∈ orderL s hs, k < Fm.length := fun k hk => by
      rw [fl]
      rcases List.mem_append.mp hk with hk | hk
      · obtain ⟨h, hh, rfl⟩ := List.mem_map.mp hk
        exact hand_lt (hm h hh)
      · exact List.mem_range.mp hk
    refine sxs_cons (sx_for [8] (ix_list (ex_var 5 rfl rfl rfl ⟨_, rfl, ?_⟩)))
    refine ⟨fun i ρ k => k = n ∧ ∃ (dn : List Nat) (Fi : Fml) (o : Option D), dn.length ≤ i ∧ Fi.length = Fm.length ∧ Safe s st Fi ∧ growL s st ((orderL s hs).drop i) dn Fi = growL s st (orderL s hs) [] Fm ∧ ρ = [some (.dat (shopD s)), some (.dat (iD st)), some (.dat (fD Fm)), some (dT (hs.map PyData.str)), some (.ntup (s.hands.map PyData.str)), some (dL ((orderL s hs).map fun k => PyData.int (k : Nat))), some (.dic (dn.map fun (x : Nat) => (x : Int))), some (.dat (fD Fi)), o, none], ⟨rfl, [], Fm, none, Nat.le_refl _, rfl, t, rfl, rfl⟩, fun i d ρ2 n2 hd ⟨e1, dn, Fi, o, d1, d2, ts, eg, e2⟩ => ?_, fun ρ2 n2 ⟨e1, dn, Fi, o, d1, d2, ts, eg, e2⟩ => ?_⟩
    · subst e1 e2
      rw [List.getElem?_map] at hd
      cases ho : (orderL s hs)[i]? with
      | none => rw [ho] at hd; cases hd
      | some k =>
        rw [ho] at hd
        cases hd
        have hlt : i < (orderL s hs).length := (List.getElem?_eq_some_iff.mp ho).1
        have hdr : (orderL s hs).drop i = k :: (orderL s hs).drop (i + 1) := by
          rw [List.drop_eq_getElem_cons hlt]
          congr 1
          exact (List.getElem?_eq_some_iff.mp ho).2
        have hk : k < Fi.length := by rw [d2]; exact olt k (List.mem_of_getElem? ho)
        rw [hdr] at eg
        rw [grow_cons] at eg
        refine bx_name 8 rfl (.inl rfl) (.inl rfl) (by decide) ?_
        refine sxs_one (sx_if (tx_niD (i := 6) (.s (.s (.s (.s (.s (.s .z)))))) rfl (ex_var 8 rfl rfl rfl ⟨_, rfl, ?_⟩)))
        by_cases hin : k ∈ dn
        · rw [decide_eq_true ((mem_cast dn k).mpr hin)]
          rw [if_pos hin] at eg
          exact ite0 (sxs_nil ⟨rfl, dn, Fi, some (dI k), by omega, d2, ts, eg, rfl⟩)
        · have nin : ¬ ((k : Int) ∈ dn.map fun (x : Nat) => (x : Int)) := fun h => hin ((mem_cast dn k).mp h)
          rw [decide_eq_false nin]
          rw [if_neg hin] at eg
          refine ite1 (sxs_cons (sx_dset (i := 6) (.s (.s (.s (.s (.s (.s .z)))))) rfl (ex_var 8 rfl rfl rfl ⟨_, rfl, nin, by rw [List.length_map]; omega, ?_⟩)))
          refine sxs_one (sx_asg 7 rfl (.inl rfl) (.inl rfl) (ex_bin (ex_bin (ex_sl (ex_var 7 rfl rfl rfl (px_none (px_some (ex_var 8 rfl rfl rfl ⟨_, rfl, .inl ⟨_, rfl, ?_⟩⟩))))))))
          refine ex_tup (ax_cons (ex_call B (lk rfl) rfl (ax_cons (ex_var 0 rfl rfl rfl (ax_cons (ex_var 1 rfl rfl rfl (ax_cons (ex_var 7 rfl rfl rfl (ax_cons (ex_var 8 rfl rfl rfl (ax_nil ⟨s, st, Fi, k, rfl, ts.tame, ax_nil ⟨[sD (restB s st Fi k)], rfl, lk rfl, o_addT ?_ ?_⟩⟩)))))))))))
          · unfold cutD
            rw [List.length_take, List.length_drop, List.length_map, d2]
            show _ + 1 ≤ 1000
            omega
          refine ex_sl (ex_var 7 rfl rfl rfl (px_some (ex_bin (ex_var 8 rfl rfl rfl (ex_int (o_add ⟨_, rfl, px_none (.inl ⟨_, rfl, o_addT ?_ ?_⟩)⟩))))))
          · rw [List.length_append]
            unfold cutD
            rw [List.length_take, List.length_drop, List.length_take, List.length_drop, List.length_map, d2]
            show _ + 1 + _ ≤ 1000
            omega
          · refine ⟨rfl, dn ++ [k], Fi.set k (restB s st Fi k), some (dI k), by rw [List.length_append, List.length_singleton]; omega, by rw [List.length_set]; exact d2, ts.step hk, eg, ?_⟩
            rw [← set_cut Fi k _ hk, List.map_append]
            rfl
    · subst e1 e2
      rw [List.length_map, List.drop_length] at eg
      have eg : Fi = growL s st (orderL s hs) [] Fm := eg
      rw [← eg] at r
      exact sxs_one (sx_ret (ex_var 7 rfl rfl rfl r))
end
end DL
/-! The law's defs: draw, any, plus, minus, zero. -/
namespace DL
open PySem PySem.Spec L2 HS
theorem shp_ints (xs : List Int) : SeqAt.shaped (.list (xs.map PyData.int)) = true := shp (m := 2) (lay_ints xs) (dep_iD xs)
section
variable {G : Wd} {f : Addr} {fd : FuncData}
def f_draw : Sig := fun ds n R => ∃ b : Int, ds = [.src, dI b] ∧ 0 < b ∧ b < 1073741824 ∧ n + 1 ≤ 100000 ∧ ∀ r : Int, 0 ≤ r → r < b → R (dI r) (n + 1)
theorem noS1 {x : Dat} : ∀ d ∈ [D.src, D.dat x], mine d = false := fun d h => by
  rcases List.mem_cons.mp h with e | h
  · rw [e] <;> rfl
  · exact noM1 d h
theorem noS2 {x y : Dat} : ∀ d ∈ [D.src, D.dat x, D.dat y], mine d = false := fun d h => by
  rcases List.mem_cons.mp h with e | h
  · rw [e] <;> rfl
  · exact noM2 d h
theorem noS3 {x y z : Dat} : ∀ d ∈ [D.src, D.dat x, D.dat y, D.dat z], mine d = false := fun d h => by
  rcases List.mem_cons.mp h with e | h
  · rw [e] <;> rfl
  · exact noM3 d h
theorem ok_draw (T : Tp G) (F : Fun G.K "_law_draw" "_law_draw" t_law_draw f fd) (bd : Binds G.K fd ["_law_source_here", "_law_bound"] []) (hx : G.mg "_law_draw" = some (.ref f)) : Sg G "_law_draw" 1 f_draw :=
  sg_def F sc_law_draw bd hx (fun ds n R ⟨b, e, _⟩ => by subst e; exact ⟨rfl, noS1⟩) fun src ds n R ⟨b, e, b0, b1, hn, r⟩ => by
    subst e
    have bn : b ≠ 0 ∧ b.natAbs < 1073741824 := ⟨by omega, by omega⟩
    have md : ∀ x : Int, 0 ≤ x % b ∧ x % b < b := fun x => ⟨Int.emod_nonneg _ bn.1, Int.emod_lt_of_pos _ b0⟩
    have fin : ∀ x : Int, R (dI (x % b)) (n + 1) := fun x => r _ (md x).1 (md x).2
    refine sxs_cons (sx_asg 2 rfl (.inl rfl) (.inl rfl) (ex_bin (ex_srcI (i := 0) .z rfl (.inr (.inr rfl)) fun t t0 t1 => ex_int (o_add ?_))))
    have tn : t + 1 ≤ 100000 := by have := t1 rfl; omega
    refine sxs_cons (sx_srcSet (i := 0) .z rfl (.inr (.inr rfl)) (ex_var 2 rfl rfl rfl ⟨t + 1, rfl, by omega, n + 1, by omega, hn, fun _ => by have := t1 rfl; omega, ?_⟩))
    refine sxs_cons (sx_if (tx_cmp (ex_srcI (i := 0) .z rfl (.inr (.inl rfl)) fun v v0 _ => ex_int (o_gt ⟨_, rfl, ?_⟩))))
    refine iteB (fun _ => ?_) fun _ => sxs_nil ?_
    · refine sxs_cons (sx_asg 3 rfl (.inl rfl) (.inl rfl) (ex_bin (ex_callT "int" T.int (by decide +kernel) rfl (ax_cons (ex_srcI (i := 0) .z rfl (.inr (.inl rfl)) fun w w0 _ => ax_nil (b_intI (ex_var 1 rfl rfl rfl (o_mod b0 ?_))))))))
      refine sxs_cons (sx_srcSet (i := 0) .z rfl (.inr (.inl rfl)) (ex_bin (ex_srcI (i := 0) .z rfl (.inr (.inl rfl)) fun u u0 _ => ex_var 1 rfl rfl rfl (o_fdiv bn ⟨_, rfl, Int.fdiv_nonneg u0 (Int.le_of_lt b0), n + 1, Nat.le_refl _, hn, fun h => by omega, ?_⟩))))
      exact sxs_one (sx_ret (ex_var 3 rfl rfl rfl (fin w)))
    refine sxs_cons (sx_asg 4 rfl (.inl rfl) (.inl rfl) (ex_srcI (i := 0) .z rfl (.inl rfl) fun p p0 _ => ?_))
    refine sxs_cons (sx_srcSet (i := 0) .z rfl (.inl rfl) (ex_bin (ex_var 4 rfl rfl rfl (ex_int (o_add ⟨_, rfl, by omega, n + 1, Nat.le_refl _, hn, fun h => by omega, ?_⟩)))))
    have key : ∀ cell : Int, SXs G ⟨N_law_draw, defScope t_law_draw, 0, src, fun _ => true⟩ ((defBody t_law_draw).drop 6) [some .src, some (dI b), some (dI (t + 1)), none, some (dI p), some (dI cell), none] (n + 1) { nx := fun _ n' => R (.dat .none) n', rt := R } := fun cell => by
      have tail : SXs G ⟨N_law_draw, defScope t_law_draw, 0, src, fun _ => true⟩ ((defBody t_law_draw).drop 7) [some .src, some (dI b), some (dI (t + 1)), none, some (dI p), some (dI cell), none] (n + 1) { nx := fun _ n' => R (.dat .none) n', rt := R } := by
        have c0 := Int.emod_nonneg cell (b := 1000333) (by decide)
        have c1 := Int.emod_lt_of_pos cell (b := 1000333) (by decide)
        refine sxs_cons (sx_asg 6 rfl (.inl rfl) (.inl rfl) (ex_bin (ex_callT "int" T.int (by decide +kernel) rfl (ax_cons (ex_bin (ex_bin (ex_bin (ex_bin (ex_callT "int" T.int (by decide +kernel) rfl (ax_cons (ex_var 5 rfl rfl rfl (ax_nil (b_intI (ex_int (o_mod (by decide) ?_)))))))))))))))
        refine ex_bin (ex_int (ex_var 2 rfl rfl rfl (o_mul (.inl (by decide)) (o_add (ex_int (o_add (ex_int (o_pow ⟨by decide, by decide, by omega⟩ (ax_nil (b_intI (ex_int (o_mod (by decide) ?_))))))))))))
        generalize hq : (cell % 1000333 + 8731 * (t + 1) + 107) ^ (3 : Int).toNat % 2147483647 = q
        have q0 : 0 ≤ q := by rw [← hq]; exact Int.emod_nonneg _ (by decide)
        have q1 : q < 2147483647 := by rw [← hq]; exact Int.emod_lt_of_pos _ (by decide)
        refine sxs_one (sx_ret (ex_bin (ex_callT "int" T.int (by decide +kernel) rfl (ax_cons (ex_bin (ex_bin (ex_callT "int" T.int (by decide +kernel) rfl (ax_cons (ex_bin (ex_bin (ex_var 6 rfl rfl rfl ?_)))))))))))
        exact ex_bin (ex_int (ex_var 2 rfl rfl rfl (o_mul (.inl (by decide)) (o_add (ex_int (o_pow ⟨by decide, by decide, by omega⟩ (ax_nil (b_intI (ex_int (o_mod (by decide) (ex_int (o_fdiv (by decide) (ax_nil (b_intI (ex_var 1 rfl rfl rfl (o_mod b0 (fin _)))))))))))))))))
      refine sxs_cons (sx_if ((tw_and (tx_cmp (ex_var 5 rfl rfl rfl (ex_bin (ex_int (ex_int (o_pow (by decide) (o_ge ⟨_, rfl, ?_⟩)))))))).tx))
      refine iteB (fun hc => ?_) fun _ => ite0 (sxs_nil tail)
      have hc := of_decide_eq_true hc
      refine tw_and1 (tx_cmp (ex_var 4 rfl rfl rfl (ex_callB "len" T.len (by decide +kernel) rfl (ax_cons (ex_src0 (i := 0) .z rfl (ax_nil (b_len (.inr rfl) (o_lt ⟨_, rfl, ?_⟩))))))))
      refine iteB (fun _ => ?_) fun _ => sxs_nil tail
      refine sxs_cons (sx_srcSet (i := 0) .z rfl (.inr (.inl rfl)) (ex_bin (ex_var 5 rfl rfl rfl (ex_var 1 rfl rfl rfl (o_fdiv bn ⟨_, rfl, Int.fdiv_nonneg ?_ (Int.le_of_lt b0), n + 1, Nat.le_refl _, hn, fun h => by omega, ?_⟩)))))
      · exact Int.le_trans (by decide) hc
      exact sxs_one (sx_ret (ex_bin (ex_callT "int" T.int (by decide +kernel) rfl (ax_cons (ex_var 5 rfl rfl rfl (ax_nil (b_intI (ex_var 1 rfl rfl rfl (o_mod b0 (fin _))))))))))
    refine sxs_cons (sx_asg 5 rfl (.inl rfl) (.inl rfl) (ex_if (tx_cmp (ex_src0 (i := 0) .z rfl (ex_lst (ax_nil ⟨[], rfl, by decide, o_ne (shp_ints _) (shp_ints []) ⟨_, rfl, ?_⟩⟩))))))
    refine iteB (fun hne => ?_) fun _ => ex_int (key 40)
    have ne : G.ns ≠ [] := fun e => by rw [e] at hne; cases hne
    have lp : 0 < G.ns.length := List.length_pos_iff.mpr ne
    refine ex_ix (ex_src0 (i := 0) .z rfl (ex_bin (ex_callT "int" T.int (by decide +kernel) rfl (ax_cons (ex_var 4 rfl rfl rfl (ax_nil (b_intI ?_)))))))
    refine ex_callB "len" T.len (by decide +kernel) rfl (ax_cons (ex_src0 (i := 0) .z rfl (ax_nil (b_len (.inr rfl) (o_mod (by rw [List.length_map]; omega) ?_)))))
    have m0 : 0 ≤ p % (((G.ns.map PyData.int).length : Nat) : Int) := Int.emod_nonneg _ (by rw [List.length_map]; omega)
    have m1 : p % (((G.ns.map PyData.int).length : Nat) : Int) < (((G.ns.map PyData.int).length : Nat) : Int) := Int.emod_lt_of_pos _ (by rw [List.length_map]; omega)
    generalize p % (((G.ns.map PyData.int).length : Nat) : Int) = w at m0 m1
    have hw : w.toNat < G.ns.length := by rw [List.length_map] at m1; omega
    exact ⟨_, w, .int G.ns[w.toNat], .inr rfl, rfl, m0, by rw [List.getElem?_map, List.getElem?_eq_getElem hw]; rfl, key _⟩
def f_any : Sig := fun ds n R => ∃ (xs : List Dat) (d : D), ds = [.src, d] ∧ (d = dT xs ∨ d = dL xs) ∧ xs ≠ [] ∧ xs.length ≤ 1000 ∧ n + 1 ≤ 100000 ∧ ∀ x ∈ xs, R (.dat x) (n + 1)
theorem ok_any (T : Tp G) (A : Sg G "_law_draw" 1 f_draw) (F : Fun G.K "_law_any" "_law_any" t_law_any f fd) (bd : Binds G.K fd ["_law_source_here", "_law_some"] []) (hx : G.mg "_law_any" = some (.ref f)) : Sg G "_law_any" 2 f_any :=
  sg_def F sc_law_any bd hx (fun ds n R ⟨xs, d, e, h, _⟩ => by subst e; rcases h with rfl | rfl <;> exact ⟨rfl, noS1⟩) fun src ds n R ⟨xs, d, e, h, ne, hz, hn, r⟩ => by
    subst e
    have hd : mine d = false := by rcases h with rfl | rfl <;> rfl
    have lp : 0 < xs.length := List.length_pos_iff.mpr ne
    obtain ⟨x, rfl, hx⟩ : ∃ x, d = .dat x ∧ (x = .tuple xs ∨ x = .list xs) := by rcases h with rfl | rfl; exact ⟨_, rfl, .inl rfl⟩; exact ⟨_, rfl, .inr rfl⟩
    refine sxs_one (sx_ret (ex_ix (ex_var 1 rfl rfl hd (ex_call A (lk rfl) rfl (ax_cons (ex_var 0 rfl rfl rfl (ax_cons (ex_callB "len" T.len (by decide +kernel) rfl (ax_cons (ex_var 1 rfl rfl hd (ax_nil (b_len hx (ax_nil ⟨_, rfl, by omega, by omega, hn, fun i i0 i1 => ?_⟩)))))))))))))
    have hi : i.toNat < xs.length := by omega
    exact ⟨xs, i, xs[i.toNat], h, rfl, i0, List.getElem?_eq_getElem hi, r _ (List.getElem_mem hi)⟩
def plusAt (x y : List Int) : Dat → Dat
  | .int k => .int (x.getD k.toNat 0 + y.getD k.toNat 0)
  | d => d
def minusAt (x y : List Int) : Dat → Dat
  | .int k => .int (x.getD k.toNat 0 - y.getD k.toNat 0)
  | d => d
theorem plus_all {x y : List Int} (h : x.length = y.length) : (rngD 0 x.length).map (plusAt x y) = (add x y).map PyData.int := by
  unfold rngD add
  apply List.ext_getElem?
  intro i
  rw [List.map_map, List.getElem?_map, List.getElem?_map, List.getElem?_zipWith]
  by_cases hi : i < x.length
  · rw [List.getElem?_range hi, List.getElem?_eq_getElem hi, List.getElem?_eq_getElem (by omega)]
    show some (PyData.int (x.getD (0 + (i : Int)).toNat 0 + y.getD (0 + (i : Int)).toNat 0)) = some (PyData.int (x[i] + y[i]))
    rw [Int.zero_add, Int.toNat_natCast, List.getD_eq_getElem?_getD, List.getD_eq_getElem?_getD, List.getElem?_eq_getElem hi, List.getElem?_eq_getElem (by omega)]
    rfl
  · rw [List.getElem?_eq_none (by rw [List.length_range]; omega), List.getElem?_eq_none (by omega)]
    rfl
theorem minus_all {x y : List Int} (h : x.length = y.length) : (rngD 0 x.length).map (minusAt x y) = (sub x y).map PyData.int := by
  unfold rngD sub
  apply List.ext_getElem?
  intro i
  rw [List.map_map, List.getElem?_map, List.getElem?_map, List.getElem?_zipWith]
  by_cases hi : i < x.length
  · rw [List.getElem?_range hi, List.getElem?_eq_getElem hi, List.getElem?_eq_getElem (by omega)]
    show some (PyData.int (x.getD (0 + (i : Int)).toNat 0 - y.getD (0 + (i : Int)).toNat 0)) = some (PyData.int (x[i] - y[i]))
    rw [Int.zero_add, Int.toNat_natCast, List.getD_eq_getElem?_getD, List.getD_eq_getElem?_getD, List.getElem?_eq_getElem hi, List.getElem?_eq_getElem (by omega)]
    rfl
  · rw [List.getElem?_eq_none (by rw [List.length_range]; omega), List.getElem?_eq_none (by omega)]
    rfl
theorem rng_mem {m : Nat} {d : Dat} (h : d ∈ rngD 0 m) : ∃ i : Nat, i < m ∧ d = .int (i : Int) := by
  unfold rngD at h
  obtain ⟨i, hi, rfl⟩ := List.mem_map.mp h
  exact ⟨i, List.mem_range.mp hi, by rw [Int.zero_add]⟩
def f_plus2 : Sig := fun ds n R => ∃ (x y : List Int), ds = [.dat (iD x), .dat (iD y)] ∧ x.length = y.length ∧ x.length ≤ 900 ∧ R (.dat (iD (add x y))) n
theorem ok_plus2 (T : Tp G) (F : Fun G.K "_law_plus" "_law_plus" t_law_plus f fd) (bd : Binds G.K fd ["_law_early", "_law_late"] []) (hx : G.mg "_law_plus" = some (.ref f)) : Sg G "_law_plus" 1 f_plus2 :=
  sg_def F sc_law_plus bd hx (fun ds n R ⟨x, y, e, _⟩ => by subst e; exact ⟨rfl, noM2⟩) fun src ds n R ⟨x, y, e, hl, hz, r⟩ => by
    subst e
    refine sxs_one (sx_ret (ex_callT "tuple" T.tuple (by decide +kernel) rfl (ax_cons (ex_lc [("_law_k", 2)] [true, true, false] (by dsimp only; decide +kernel) (by dsimp only; decide +kernel) (ix_range1 rfl T.range (ex_callB "len" T.len (by decide +kernel) rfl (ax_cons (ex_var 0 rfl rfl rfl (ax_nil (b_len (.inl rfl) ⟨_, rfl, by omega, by rw [List.length_map]; omega, ?_⟩))))))))))
    rw [Int.toNat_natCast, List.length_map]
    refine cl_map (plusAt x y) (by rw [rngD_len]; omega) (fun d hd => ?_) (.inl (ax_nil ?_))
    · obtain ⟨i, hi, rfl⟩ := rng_mem hd
      refine bx_name 2 rfl (.inl rfl) (.inr rfl) (by decide) (ex_bin (ex_ix (ex_var 0 rfl rfl rfl (ex_var 2 rfl rfl rfl ⟨_, i, .int (x.getD i 0), .inl rfl, rfl, Int.natCast_nonneg _, ?_, ex_ix (ex_var 1 rfl rfl rfl (ex_var 2 rfl rfl rfl ⟨_, i, .int (y.getD i 0), .inl rfl, rfl, Int.natCast_nonneg _, ?_, o_add ⟨rfl, ?_⟩⟩))⟩))))
      · rw [Int.toNat_natCast, List.getElem?_map, List.getElem?_eq_getElem hi, List.getD_eq_getElem?_getD, List.getElem?_eq_getElem hi]; rfl
      · rw [Int.toNat_natCast, List.getElem?_map, List.getElem?_eq_getElem (by omega), List.getD_eq_getElem?_getD, List.getElem?_eq_getElem (by omega)]; rfl
      · show _ = D.dat (.int (x.getD (i : Int).toNat 0 + y.getD (i : Int).toNat 0))
        rw [Int.toNat_natCast]
    · rw [plus_all hl]
      exact b_tupL r
theorem ok_minus2 (T : Tp G) (F : Fun G.K "_law_minus" "_law_minus" t_law_minus f fd) (bd : Binds G.K fd ["_law_early", "_law_late"] []) (hx : G.mg "_law_minus" = some (.ref f)) : Sg G "_law_minus" 1 f_less :=
  sg_def F sc_law_minus bd hx (fun ds n R ⟨x, y, e, _⟩ => by subst e; exact ⟨rfl, noM2⟩) fun src ds n R ⟨x, y, e, hl, hz, r⟩ => by
    subst e
    refine sxs_one (sx_ret (ex_callT "tuple" T.tuple (by decide +kernel) rfl (ax_cons (ex_lc [("_law_k", 2)] [true, true, false] (by dsimp only; decide +kernel) (by dsimp only; decide +kernel) (ix_range1 rfl T.range (ex_callB "len" T.len (by decide +kernel) rfl (ax_cons (ex_var 0 rfl rfl rfl (ax_nil (b_len (.inl rfl) ⟨_, rfl, by omega, by rw [List.length_map]; omega, ?_⟩))))))))))
    rw [Int.toNat_natCast, List.length_map]
    refine cl_map (minusAt x y) (by rw [rngD_len]; omega) (fun d hd => ?_) (.inl (ax_nil ?_))
    · obtain ⟨i, hi, rfl⟩ := rng_mem hd
      refine bx_name 2 rfl (.inl rfl) (.inr rfl) (by decide) (ex_bin (ex_ix (ex_var 0 rfl rfl rfl (ex_var 2 rfl rfl rfl ⟨_, i, .int (x.getD i 0), .inl rfl, rfl, Int.natCast_nonneg _, ?_, ex_ix (ex_var 1 rfl rfl rfl (ex_var 2 rfl rfl rfl ⟨_, i, .int (y.getD i 0), .inl rfl, rfl, Int.natCast_nonneg _, ?_, o_sub ⟨rfl, ?_⟩⟩))⟩))))
      · rw [Int.toNat_natCast, List.getElem?_map, List.getElem?_eq_getElem hi, List.getD_eq_getElem?_getD, List.getElem?_eq_getElem hi]; rfl
      · rw [Int.toNat_natCast, List.getElem?_map, List.getElem?_eq_getElem (by omega), List.getD_eq_getElem?_getD, List.getElem?_eq_getElem (by omega)]; rfl
      · show _ = D.dat (.int (x.getD (i : Int).toNat 0 - y.getD (i : Int).toNat 0))
        rw [Int.toNat_natCast]
    · rw [minus_all hl]
      exact b_tupL r
def f_zero : Sig := fun ds n R => ∃ s : Shop, ds = [.dat (shopD s)] ∧ s.Ok ∧ R (.dat (iD (zerosI s.m))) n
theorem ok_zero (T : Tp G) (F : Fun G.K "_law_zero" "_law_zero" t_law_zero f fd) (bd : Binds G.K fd ["_law_shop_here"] []) (hx : G.mg "_law_zero" = some (.ref f)) : Sg G "_law_zero" 1 f_zero :=
  sg_def F sc_law_zero bd hx (fun ds n R ⟨s, e, _⟩ => by subst e; exact ⟨rfl, noM1⟩) fun src ds n R ⟨s, e, ok, r⟩ => by
    subst e
    have i2 := ok.i2
    refine sxs_one (sx_ret (ex_bin (ex_tup (ax_cons (ex_int (ax_nil ⟨[.int 0], rfl, lk rfl, ?_⟩))))))
    refine ex_callB "len" T.len (by decide +kernel) rfl (ax_cons (ex_ix (ex_var 0 rfl rfl rfl (ex_int ⟨_, 0, _, .inl rfl, rfl, by decide, rfl, ax_nil (b_len (.inl rfl) (o_mulT (List.cons_ne_nil _ _) (Int.natCast_nonneg _) (by rw [List.length_map]; omega) (lk rfl) ?_))⟩))))
    rw [Int.toNat_natCast, List.length_map]
    have e : (List.replicate s.items.length [PyData.int 0]).flatten = (zerosI s.m).map PyData.int := by
      unfold zerosI
      rw [List.map_replicate]
      show (List.replicate s.items.length [PyData.int 0]).flatten = List.replicate s.items.length (PyData.int 0)
      induction s.items.length with
      | zero => rfl
      | succ n ih => rw [List.replicate_succ, List.flatten_cons, ih]; rfl
    rw [e]
    exact r
end
end DL
/-! x, y = a, b by way of a true tuple; the law's defs: joined, left. -/
namespace DL
open PySem PySem.Spec L2 HS
theorem sw_cel {x y : Str} {px py pt pt2 : Pos} {kt k2 : Nat} {a b : Expr} (hst : ([a, b].any fun | .Starred .. => true | _ => false) = false) :
    ∀ env : Env, env.scope.kind = .function → env.scope.names.lookup x = some .local → env.scope.names.lookup y = some .cell → swappedStores [.Tuple [.Name x px, .Name y py] kt pt] (.Tuple [a, b] k2 pt2) env = pure none := fun env h1 h2 h3 => by
  have kx : env.kindOf x = some .local := h2
  have ky : env.kindOf y = some .cell := h3
  have hb : env.blockKind = .function := by unfold Env.blockKind; rw [h1]; rfl
  unfold swappedStores
  simp only [Expr.pos, List.head?_cons, Option.map_some, Option.getD_some, List.filterMap_cons, List.filterMap_nil, kx, ky, beq_self_eq_true, Bool.and_true, Bool.and_self, if_true, hb]
  refine (if_neg (fun h => Bool.false_ne_true h)).trans ((if_neg (fun e => Bool.false_ne_true (hst.symm.trans e))).trans ((if_pos ?_).trans rfl))
  rfl
theorem sw_fold {x y : Str} {px py pt pt2 : Pos} {kt k2 : Nat} {a b : Expr} (hf : [a, b].all (foldedForSure 8) = true) :
    ∀ env : Env, swappedStores [.Tuple [.Name x px, .Name y py] kt pt] (.Tuple [a, b] k2 pt2) env = pure none := fun env => by
  unfold swappedStores
  simp only [hf, if_true]
  split
  · rfl
  · split
    · rfl
    · split <;> rfl
section
variable {G : Wd} {c : Cxt} {a b : Expr} {ρ : Rho} {n : Nat}
theorem sx_parC (i j : Nat) {x y : Str} {B : Bx} {pos px py pt pt2 : Pos} {kt k2 : Nat} (hij : i ≠ j) (hx : c.N[i]? = some x) (hy : c.N[j]? = some y) (lx : c.sc.names.lookup x = some .local) (ly : c.sc.names.lookup y = some .cell) (hf : c.fn y = true)
    (h : EX G c a ρ n fun d1 n1 => EX G c b ρ n1 fun d2 n2 => mine d2 = false ∧ B.nx ((ρ.set i (some d1)).set j (some d2)) n2)
    (hw : ∀ env : Env, env.scope.kind = .function → env.scope.names.lookup x = some .local → env.scope.names.lookup y = some .cell → swappedStores [.Tuple [.Name x px, .Name y py] kt pt] (.Tuple [a, b] k2 pt2) env = pure none) (hk : c.sc.kind = .function)
    (ha : ∀ env, starEach [a, b] env = (false, eval a env) :: starEach [b] env := by intro _; rfl) (hb : ∀ env, starEach [b] env = (false, eval b env) :: starEach [] env := by intro _; rfl)
    (hs : ∀ env, swapsWithSole [.Tuple [.Name x px, .Name y py] kt pt] (.Tuple [a, b] k2 pt2) pos.line env = pure false := by intro _; rfl) : SX G c (.Assign [.Tuple [.Name x px, .Name y py] kt pt] (.Tuple [a, b] k2 pt2) pos) ρ n B := sx_ps fun X lk => by
  have g1 := pg_name (X := X) (i := i) (x := x) (pos := px) lk.nd (by rw [lk.N]; exact hx) (by rw [lk.sc]; exact .inl lx) (by rw [lk.sc]; exact .inr lx)
  have g2 := pg_name (X := X) (i := j) (x := y) (pos := py) lk.nd (by rw [lk.N]; exact hy) (by rw [lk.sc]; exact .inr ly) (by rw [lk.fn]; exact .inl hf)
  refine ⟨_, ps_asg (pe_tup (x1 := k2) (pos := pt2) (pa_cons (pe_wp a) (pa_cons (pe_wp b) pa_nil (hb _)) (ha _))) (pg_tup (k := kt) (pos := pt) (n := 2) lk.calm (pgs_cons g1 (pgs_cons g2 pgs_nil)) rfl rfl) (hs _) (hw X.env (by rw [lk.sc]; exact hk) (by rw [lk.sc]; exact lx) (by rw [lk.sc]; exact ly)), fun L0 H0 σ L H s w en => ?_⟩
  refine ex_wp h lk w en fun v H1 ⟨d1, L1, n1, s1, w1, i1, nw1, r1⟩ => ex_wp r1 lk w1 (en.go s1) fun u H2 ⟨d2, L2, n2, s2, w2, i2, nw2, hm, r2⟩ => ?_
  refine ⟨lk2, fun p hp => ?_⟩
  refine ⟨p, [v, u], rfl, SqT.of upd_same, rfl, _, _, rfl, _, _, rfl, rfl, ?_⟩
  have s3 : Step c.src L2 H2 L2 (upd H2 p (.tup [v, u])) := Step.up _ hp
  have w3 := w2.up (.tup [v, u]) hp
  have e1 := en.set (fun _ p => s.live p) ((s1.trans s2).trans s3) hx (.inl lx) ((i1.go s2).go s3) nw1
  have e2 := e1.set (fun m => by rw [hm] at m; cases m) (.refl c.src _ _) hy (loc_vis (.inr ly)) (i2.go s3) (.no hm)
  exact ⟨L2, _, n2, ((s.trans s1).trans s2).trans s3, w3, e2, r2⟩
where
  lk2 {v u : V} : [v, u].length ≤ sizeLine := Nat.le_of_lt (small1000 (lk rfl))
end
def OkJ (m : Nat) : List (List Int) → Fml → Prop
  | f, [] => ∀ k ∈ f, k.length = m
  | f, o :: os => (∀ k ∈ f, k.length = m) ∧ (∀ k ∈ o, k.length = m) ∧ (cross f o).length ≤ 63 ∧ OkJ m (can (cross f o)) os
section
variable {G : Wd} {f : Addr} {fd : FuncData}
def f_joined : Sig := fun ds n R => ∃ (m : Nat) (os : Fml), ds = [.dat (fD os), dI m] ∧ 1 ≤ m ∧ m ≤ 900 ∧ OkJ m [zerosI m] os ∧ R (.dat (sD (allS [zerosI m] os))) n
theorem reps_ints (m : Nat) : List.replicate m (PyData.int 0) = (zerosI m).map PyData.int := by unfold zerosI; rw [List.map_replicate]
def addD (a : List Int) : Dat → Dat := fun d => iD (add a (unI d))
theorem addD_map (a : List Int) (o : List (List Int)) : (o.map iD).map (addD a) = (o.map (add a)).map iD := by
  rw [List.map_map, List.map_map]
  refine List.map_congr_left fun b _ => ?_
  show iD (add a (unI (iD b))) = iD (add a b)
  rw [unI_iD]
theorem OkJ.here {m : Nat} : ∀ {os : Fml} {f : List (List Int)}, OkJ m f os → ∀ k ∈ f, k.length = m
  | [], _, h => h
  | _ :: _, _, h => h.1
theorem cross_take {f o : List (List Int)} {j : Nat} {a : List Int} (h : f[j]? = some a) : cross (f.take (j + 1)) o = cross (f.take j) o ++ o.map (add a) := by
  unfold cross
  rw [List.take_add_one, h, List.flatMap_append]
  simp
theorem cross_le (f o : List (List Int)) (j : Nat) : (cross (f.take j) o).length ≤ (cross f o).length := by
  rw [cross_count, cross_count]
  exact Nat.mul_le_mul_right _ (by rw [List.length_take]; omega)
theorem ok_joined (T : Tp G) (P : Sg G "_law_plus" 1 f_plus2) (F : Fun G.K "_law_joined" "_law_joined" t_law_joined f fd) (bd : Binds G.K fd ["_law_lots_here", "_law_many"] []) (hx : G.mg "_law_joined" = some (.ref f)) : Sg G "_law_joined" 2 f_joined :=
  sg_def F sc_law_joined bd hx (fun ds n R ⟨m, os, e, _⟩ => by subst e; exact ⟨rfl, noM2⟩) fun src ds n R ⟨m, os, e, m1, m2, ok, r⟩ => by
    subst e
    refine sxs_cons (sx_asg 2 rfl (.inl rfl) (.inl rfl) (ex_lst (ax_cons (ex_callT "tuple" T.tuple (by decide +kernel) rfl (ax_cons (ex_bin (ex_lstO (ax_cons (ex_int (ax_nil ⟨[.int 0], rfl, lk rfl, ex_var 1 rfl rfl rfl (o_repO ⟨Int.natCast_nonneg _, by omega⟩ (ax_nil (b_tupL (ax_nil ⟨[iD (zerosI m)], ?_, lk rfl, ?_⟩))))⟩))))))))))
    · rw [Int.toNat_natCast, reps_ints]; rfl
    refine sxs_cons (sx_for [3] (ix_tup (ex_var 0 rfl rfl rfl ⟨_, rfl, ?_⟩)))
    refine ⟨fun i ρ k => k = n ∧ ∃ (g : List (List Int)) (o3 o4 o5 : Option D), OkJ m g (os.drop i) ∧ allS g (os.drop i) = allS [zerosI m] os ∧ ρ = [some (.dat (fD os)), some (dI m), some (dL (g.map iD)), o3, o4, o5, none], ⟨rfl, [zerosI m], none, none, none, ok, rfl, rfl⟩, fun i d ρ2 n2 hd ⟨e1, g, o3, o4, o5, okg, eg, e2⟩ => ?_, fun ρ2 n2 ⟨e1, g, o3, o4, o5, okg, eg, e2⟩ => ?_⟩
    · subst e1 e2
      rw [List.getElem?_map] at hd
      cases ho : os[i]? with
      | none => rw [ho] at hd; cases hd
      | some oi =>
        rw [ho] at hd
        cases hd
        have hlt : i < os.length := (List.getElem?_eq_some_iff.mp ho).1
        have hdr : os.drop i = oi :: os.drop (i + 1) := by
          rw [List.drop_eq_getElem_cons hlt]
          congr 1
          exact (List.getElem?_eq_some_iff.mp ho).2
        rw [hdr] at okg eg
        obtain ⟨k1, k2, k3, k4⟩ := okg
        refine bx_name 3 rfl (.inl rfl) (.inl rfl) (by decide) ?_
        refine sxs_cons (sx_asg 4 rfl (.inl rfl) (.inl rfl) (ex_lstO (ax_nil ⟨[], rfl, lk rfl, ?_⟩)))
        refine sxs_cons (sx_for [5] (ix_list (ex_var 2 rfl rfl rfl ⟨_, rfl, ?_⟩)))
        refine ⟨fun j ρ k => k = n2 ∧ ∃ (o5 : Option D), ρ = [some (.dat (fD os)), some (dI m), some (dL (g.map iD)), some (.dat (sD oi)), some (.own ((cross (g.take j) oi).map iD)), o5, none], ⟨rfl, o5, rfl⟩, fun j d ρ3 n3 hd ⟨e1, o5, e2⟩ => ?_, fun ρ3 n3 ⟨e1, o5, e2⟩ => ?_⟩
        · subst e1 e2
          rw [List.getElem?_map] at hd
          cases hg : g[j]? with
          | none => rw [hg] at hd; cases hd
          | some a =>
            rw [hg] at hd
            cases hd
            have la := k1 a (List.mem_of_getElem? hg)
            have cl := cross_le g oi j
            have cl2 := cross_le g oi (j + 1)
            rw [cross_take hg, List.length_append, List.length_map] at cl2
            refine bx_name 5 rfl (.inr rfl) (.inl rfl) (by decide) ?_
            refine sxs_one (sx_extend (i := 4) (.s (.s (.s (.s .z)))) rfl (ex_lc [("_law_late", 6)] [false, false, false, false, false, true, false] (by dsimp only; decide +kernel) (by dsimp only; decide +kernel) (ix_tup (ex_var 3 rfl rfl rfl ⟨_, rfl, ?_⟩))))
            refine cl_map (addD a) (by rw [List.length_map]; omega) (fun d hd => ?_) (.inr ⟨_, rfl, ?_, rfl, some (.dat (iD a)), ?_⟩)
            · obtain ⟨b, hb, rfl⟩ := List.mem_map.mp hd
              refine bx_name 6 rfl (.inl rfl) (.inr rfl) (by decide) (ex_call P (lk rfl) rfl (ax_cons (ex_var 5 rfl rfl rfl (ax_cons (ex_var 6 rfl rfl rfl (ax_nil ⟨a, b, rfl, by rw [la, k2 b hb], by rw [la]; exact m2, rfl, ?_⟩))))))
              show _ = D.dat (iD (add a (unI (iD b))))
              rw [unI_iD]
            · rw [List.length_map, List.length_map, List.length_map]; omega
            · rw [cross_take hg, addD_map, List.map_append]
              rfl
        · subst e1 e2
          rw [List.length_map, List.take_length]
          refine sxs_frz 4 rfl (sxs_one (sx_asg 2 rfl (.inl rfl) (.inl rfl) (ex_callB "sorted" T.sorted (by decide +kernel) rfl (ax_cons (ex_callT "set" T.set (by decide +kernel) rfl (ax_cons (ex_var 4 rfl rfl rfl (ax_nil (b_set (.inl rfl) (by omega) (ax_nil (b_srtS (fun k hk => ne_of_len (cross_len k1 k2 k hk) m1) ⟨rfl, can (cross g oi), some (.dat (sD oi)), some (dL ((cross g oi).map iD)), o5, k4, eg, rfl⟩)))))))))))
    · subst e1 e2
      rw [List.length_map, List.drop_length] at eg
      have eg : g = allS [zerosI m] os := eg
      subst eg
      exact sxs_one (sx_ret (ex_callT "tuple" T.tuple (by decide +kernel) rfl (ax_cons (ex_var 2 rfl rfl rfl (ax_nil (b_tupL r))))))
end
end DL
/-! The law's defs: left, lot, goods. -/
namespace DL
open PySem PySem.Spec L2 HS
theorem eqv_lst (a b : List (List Int)) : PyData.eqv (.list (a.map iD)) (.list (b.map iD)) = decide (a = b) := eqv_all eqv_iD a b
theorem shp_lst (a : List (List Int)) : SeqAt.shaped (.list (a.map iD)) = true := shp (m := 3) (lay_sD a) (dep_sD a)
def outP (fr : List Int) (t : List (List Int)) : Dat → Bool := fun d => !decide (add fr (unI d) ∈ t)
theorem out_filt (fr : List Int) (t a : List (List Int)) : ((a.map iD).filter (outP fr t)).map (fun d => d) = (a.filter fun x => !decide (add fr x ∈ t)).map iD := by
  rw [List.map_id', List.filter_map]
  congr 1
  refine List.filter_congr fun x _ => ?_
  show (!decide (add fr (unI (iD x)) ∈ t)) = _
  rw [unI_iD]
theorem none_out (fr : List Int) (t a : List (List Int)) : decide ((a.filter fun x => !decide (add fr x ∈ t)) = []) = a.all fun x => decide (add fr x ∈ t) := by
  induction a with
  | nil => rfl
  | cons x a ih =>
    rw [List.all_cons, ← ih, List.filter_cons]
    by_cases h : add fr x ∈ t
    · rw [decide_eq_true h]; simp
    · rw [decide_eq_false h]; simp
section
variable {G : Wd} {f : Addr} {fd : FuncData}
theorem ok_left (T : Tp G) (A : Sg G "_law_plus" 1 f_plus2) (L : Sg G "_law_minus" 1 f_less) (F : Fun G.K "_law_left" "_law_left" t_law_left f fd) (bd : Binds G.K fd ["_law_lot_here", "_law_goal"] []) (hx : G.mg "_law_left" = some (.ref f)) : Sg G "_law_left" 2 f_rest_set :=
  sg_def F sc_law_left bd hx (fun ds n R ⟨x, m, _, e, _⟩ => by subst e; exact ⟨rfl, noM2⟩) fun src ds n R ⟨a, t, m, e, ne, m1, m2, ha, ht, za, zt, r⟩ => by
    subst e
    obtain ⟨a0, a', rfl⟩ : ∃ a0 a', a = a0 :: a' := by cases a with | nil => exact absurd rfl ne | cons x y => exact ⟨_, _, rfl⟩
    have l0 : a0.length = m := ha a0 List.mem_cons_self
    refine sxs_cons (sx_parC 2 3 (by decide) rfl rfl rfl rfl rfl (ex_lstO (ax_nil ⟨[], rfl, lk rfl, ex_callT "dict" T.dict (by decide +kernel) rfl (ax_cons (ex_lc [("_law_spot", 4)] [false, false, false, false, false, false, false] (by dsimp only; decide +kernel) (by dsimp only; decide +kernel) (ix_tup (ex_var 1 rfl rfl rfl ⟨_, rfl, ?_⟩))))⟩)) (sw_cel rfl) rfl)
    refine cl_map (fun d => .tuple [d, .bool true]) (by rw [List.length_map]; omega) (fun d hd => bx_name 4 rfl (.inl rfl) (.inr rfl) (by decide) (ex_tup (ax_cons (ex_var 4 rfl rfl rfl (ax_cons (ex_bl (ax_nil ⟨[d, .bool true], rfl, lk rfl, rfl, rfl⟩))))))) (.inl (ax_nil ?_))
    have ep : (t.map iD).map (fun d => PyData.tuple [d, .bool true]) = t.map prD := by rw [List.map_map]; rfl
    rw [ep]
    refine b_dictP (by omega) ⟨rfl, ?_⟩
    refine sxs_cons (sx_for [4] (ix_tup (ex_var 1 rfl rfl rfl ⟨_, rfl, ?_⟩)))
    refine ⟨fun i ρ k => k = n ∧ ∃ (o1 o2 : Option D), ρ = [some (.dat (sD (a0 :: a'))), some (.dat (sD t)), some (.own ((((t.take i).map fun g => sub g a0).filter fun m => (a0 :: a').all fun x => decide (add m x ∈ t)).map iD)), some (.keys t), o1, o2, none], ⟨rfl, none, none, rfl⟩, fun i d ρ2 n2 hd ⟨e1, o1, o2, e2⟩ => ?_, fun ρ2 n2 ⟨e1, o1, o2, e2⟩ => ?_⟩
    · subst e1 e2
      rw [List.getElem?_map] at hd
      cases hg : t[i]? with
      | none => rw [hg] at hd; cases hd
      | some g =>
        rw [hg] at hd
        cases hd
        have hgm : g ∈ t := List.mem_of_getElem? hg
        have hlt : i < t.length := (List.getElem?_eq_some_iff.mp hg).1
        have etk : t.take (i + 1) = t.take i ++ [g] := by rw [List.take_add_one, hg]; rfl
        have lg : (sub g a0).length = m := sub_len (ht g hgm) l0
        refine bx_name 4 rfl (.inl rfl) (.inl rfl) (by decide) ?_
        refine sxs_cons (sx_asg 5 rfl (.inr rfl) (.inl rfl) (ex_call L (lk rfl) rfl (ax_cons (ex_var 4 rfl rfl rfl (ax_cons (ex_ix (ex_var 0 rfl rfl rfl (ex_int ⟨_, 0, iD a0, .inl rfl, rfl, by decide, rfl, ax_nil ⟨g, a0, rfl, by rw [ht g hgm, l0], by rw [ht g hgm]; exact m2, ?_⟩⟩))))))))
        refine sxs_one (sx_if (tx_cmp (ex_lc [("_law_early", 6)] [false, false, false, true, false, true, false] (by dsimp only; decide +kernel) (by dsimp only; decide +kernel) (ix_tup (ex_var 0 rfl rfl rfl ⟨_, rfl, ?_⟩)))))
        refine cl_filt (outP (sub g a0) t) (fun d => d) (by rw [List.length_map]; omega) (fun d hd => ?_) (.inl ?_)
        · obtain ⟨k, hk, rfl⟩ := List.mem_map.mp hd
          refine bx_name 6 rfl (.inl rfl) (.inr rfl) (by decide) (tx_cmp (ex_call A (lk rfl) rfl (ax_cons (ex_var 5 rfl rfl rfl (ax_cons (ex_var 6 rfl rfl rfl (ax_nil ⟨sub g a0, k, rfl, by rw [lg, ha k hk], by rw [lg]; exact m2, ex_var 3 rfl rfl rfl (o_niK ⟨_, rfl, rfl, ?_, fun _ => ex_var 6 rfl rfl rfl ⟨rfl, rfl⟩⟩)⟩)))))))
          show (!decide (add (sub g a0) k ∈ t)) = !decide (add (sub g a0) (unI (iD k)) ∈ t)
          rw [unI_iD]
        · rw [out_filt]
          refine ex_lst (ax_nil ⟨[], rfl, lk rfl, o_eq (shp_lst _) (shp_lst []) ⟨_, rfl, ?_⟩⟩)
          rw [show PyData.list [] = .list (([] : List (List Int)).map iD) from rfl, eqv_lst, none_out]
          refine iteB (fun hb => ?_) (fun hb => ?_)
          · refine sxs_one (sx_append (i := 2) (.s (.s .z)) rfl (ex_var 5 rfl rfl rfl ⟨_, rfl, ?_, rfl, some (.dat (iD g)), some (.dat (iD (sub g a0))), ?_⟩))
            · rw [List.length_map]
              refine Nat.le_trans (List.length_filter_le _ _) ?_
              rw [List.length_map, List.length_take]
              omega
            · rw [etk, List.map_append, List.filter_append, List.map_append]
              simp only [List.map_cons, List.map_nil, List.filter_cons, List.filter_nil]
              rw [if_pos hb]
              rfl
          · refine sxs_nil ⟨rfl, some (.dat (iD g)), some (.dat (iD (sub g a0))), ?_⟩
            rw [etk, List.map_append, List.filter_append, List.map_append]
            simp only [List.map_cons, List.map_nil, List.filter_cons, List.filter_nil]
            rw [if_neg (by rw [hb]; decide), List.map_nil, List.append_nil]
            rfl
    · subst e1 e2
      rw [List.length_map, List.take_length]
      refine sxs_frz 2 rfl (sxs_one (sx_ret (ex_callT "tuple" T.tuple (by decide +kernel) rfl (ax_cons (ex_callB "sorted" T.sorted (by decide +kernel) rfl (ax_cons (ex_var 2 rfl rfl rfl (ax_nil (b_srtL (fun k hk e => ?_) ?_ (ax_nil (b_tupL r)))))))))))
      · obtain ⟨h1, _⟩ := List.mem_filter.mp hk
        obtain ⟨g, hg, rfl⟩ := List.mem_map.mp h1
        have := sub_len (ht g hg) l0
        rw [e] at this
        simp at this
        omega
      · refine Nat.le_trans (List.length_filter_le _ _) ?_
        rw [List.length_map]
        omega
def f_lot : Sig := fun ds n R => ∃ (m : Nat) (most : Int), ds = [.src, dI m, dI most] ∧ 1 ≤ m ∧ m ≤ 10 ∧ 1 ≤ most ∧ most ≤ 2 ∧ n + 30 ≤ 100000 ∧ ∀ l, l ≠ [] → Asc l → (l.length : Int) ≤ most → (∀ k ∈ l, k.length = m) → ∀ n', n ≤ n' → n' ≤ n + 30 → R (.dat (sD l)) n'
theorem ok_lot (T : Tp G) (A : Sg G "_law_draw" 1 f_draw) (F : Fun G.K "_law_lot" "_law_lot" t_law_lot f fd) (bd : Binds G.K fd ["_law_source_here", "_law_many", "_law_most"] []) (hx : G.mg "_law_lot" = some (.ref f)) : Sg G "_law_lot" 2 f_lot :=
  sg_def F sc_law_lot bd hx (fun ds n R ⟨x, m, e, _⟩ => by subst e; exact ⟨rfl, noS2⟩) fun src ds n R ⟨m, most, e, m1, m2, q1, q2, hn, r⟩ => by
    subst e
    refine sxs_cons (sx_asg 3 rfl (.inl rfl) (.inl rfl) (ex_lstO (ax_nil ⟨[], rfl, lk rfl, ?_⟩)))
    refine sxs_cons (sx_for [4] (ix_range1 rfl T.range (ex_bin (ex_int (ex_call A (lk rfl) rfl (ax_cons (ex_var 0 rfl rfl rfl (ax_cons (ex_var 2 rfl rfl rfl (ax_nil ⟨most, rfl, by omega, by omega, by omega, fun q q0 q1 => o_add ⟨_, rfl, by omega, by omega, ?_⟩⟩))))))))))
    refine ⟨fun i ρ k => ∃ (ks : List (List Int)) (o : Option D), ks.length = i ∧ (∀ x ∈ ks, x.length = m) ∧ k = n + 1 + i * m ∧ ρ = [some .src, some (dI m), some (dI most), some (.own (ks.map iD)), o, none], ⟨[], none, rfl, fun x hx => (by cases hx), by omega, rfl⟩, fun i d ρ2 n2 hd ⟨ks, o, h1, h2, e1, e2⟩ => ?_, fun ρ2 n2 ⟨ks, o, h1, h2, e1, e2⟩ => ?_⟩
    · have hi : i < (1 + q).toNat := by
        have := (List.getElem?_eq_some_iff.mp hd).1
        rwa [rngD_len] at this
      have hi2 : i ≤ 1 := by omega
      have him : i * m ≤ m := by
        have := Nat.mul_le_mul_right m hi2
        omega
      subst e1 e2
      rw [rngD_get hi] at hd
      cases hd
      refine bx_name 4 rfl (.inl rfl) (.inl rfl) (by decide) ?_
      refine sxs_one (sx_append (i := 3) (.s (.s (.s .z))) rfl (ex_callT "tuple" T.tuple (by decide +kernel) rfl (ax_cons (ex_lc [("_law_k", 5)] [true, false, false, false, false, false] (by dsimp only; decide +kernel) (by dsimp only; decide +kernel) (ix_range1 rfl T.range (ex_var 1 rfl rfl rfl ⟨_, rfl, by omega, by omega, ?_⟩))))))
      rw [Int.toNat_natCast]
      refine ⟨by rw [rngD_len]; omega, fun j out n3 => ∃ k : List Int, out = k.map PyData.int ∧ k.length = j ∧ n3 = n + 1 + i * m + j, ⟨[], rfl, rfl, rfl⟩, fun j d out n3 hd _ ⟨k, e1, e2, e3⟩ => ?_, fun out n3 ⟨k, e1, e2, e3⟩ => .inl ?_⟩
      · have hj : j < m := by
          have := (List.getElem?_eq_some_iff.mp hd).1
          rwa [rngD_len] at this
        subst e3
        refine bx_name 5 rfl (.inl rfl) (.inr rfl) (by decide) (txs_nil (ite1 ?_))
        refine ex_bin (ex_call A (lk rfl) rfl (ax_cons (ex_var 0 rfl rfl rfl (ax_cons (ex_int (ax_nil ⟨5, rfl, by decide, by decide, by omega, fun v v0 v1 => ex_int (o_sub ⟨_, rfl, k ++ [v - 2], ?_, ?_, ?_⟩)⟩))))))
        · rw [e1, List.map_append]; rfl
        · rw [List.length_append, e2]; rfl
        · omega
      · subst e1
        rw [rngD_len] at e2 e3
        refine ax_nil (b_tupL ⟨_, rfl, by rw [List.length_map]; omega, ks ++ [k], some (dI (0 + (i : Nat))), ?_, ?_, ?_, ?_⟩)
        · rw [List.length_append, h1]; rfl
        · intro x hx
          rcases List.mem_append.mp hx with hx | hx
          · exact h2 x hx
          · rw [List.mem_singleton.mp hx]; exact e2
        · rw [e3, Nat.succ_mul]; omega
        · rw [List.map_append]; rfl
    · subst e2
      rw [rngD_len] at h1
      have hm2 : (1 + q).toNat * m ≤ 2 * m := Nat.mul_le_mul_right m (by omega)
      rw [rngD_len] at e1
      refine sxs_frz 3 rfl (sxs_one (sx_ret (ex_callT "tuple" T.tuple (by decide +kernel) rfl (ax_cons (ex_callB "sorted" T.sorted (by decide +kernel) rfl (ax_cons (ex_callT "set" T.set (by decide +kernel) rfl (ax_cons (ex_var 3 rfl rfl rfl (ax_nil (b_set (.inl rfl) (by omega) (ax_nil (b_srtS (fun k hk => ne_of_len (h2 k hk) m1) (ax_nil (b_tupL (r (can ks) ?_ (asc_can _) ?_ (fun k hk => h2 k (mem_can.mp hk)) n2 (by omega) (by omega)))))))))))))))))
      · intro e
        cases ks with
        | nil => simp at h1; omega
        | cons a ks =>
          have : a ∈ can (a :: ks) := mem_can.mpr List.mem_cons_self
          rw [e] at this
          cases this
      · have := can_len ks
        omega
end
end DL
/-! The law's defs: goods, begin, lots, beside. -/
namespace DL
open PySem PySem.Spec L2 HS
def appD (a : List Int) : Dat → Dat
  | .int v => iD (a ++ [v])
  | d => d
theorem appD_rng (a : List Int) (lo hi : Int) : (rngD lo (hi + 1 - lo).toNat).map (appD a) = ((rngI lo hi).map fun v => a ++ [v]).map iD := by
  rw [rng_dat, List.map_map, List.map_map]
  rfl
theorem stepB_take {acc : List (List Int)} {j : Nat} {a : List Int} (p : Str × Int × Int) (h : acc[j]? = some a) : stepB (acc.take (j + 1)) p = stepB (acc.take j) p ++ (rngI p.2.1 p.2.2).map fun v => a ++ [v] := by
  unfold stepB
  rw [List.take_add_one, h, List.flatMap_append]
  simp
theorem stepB_le (acc : List (List Int)) (j : Nat) (p : Str × Int × Int) : (stepB (acc.take j) p).length ≤ (stepB acc p).length := by
  unfold stepB
  rw [show acc.flatMap (fun st => (rngI p.2.1 p.2.2).map fun v => st ++ [v]) = (acc.take j ++ acc.drop j).flatMap (fun st => (rngI p.2.1 p.2.2).map fun v => st ++ [v]) by rw [List.take_append_drop], List.flatMap_append, List.length_append]
  omega
theorem co_fun (ns : List Str) (st : List Int) : ∃ g : Dat → Dat, ∀ c : Co, g c.dat = .bool (c.val ns st) := by
  classical
  refine ⟨fun d => if h : ∃ c : Co, c.dat = d then .bool (h.choose.val ns st) else d, fun c => ?_⟩
  have hh : ∃ c' : Co, c'.dat = c.dat := ⟨c, rfl⟩
  show (if h : ∃ c' : Co, c'.dat = c.dat then PyData.bool (h.choose.val ns st) else c.dat) = _
  rw [dif_pos hh]
  rw [co_inj hh.choose_spec]
theorem shp_bools (bs : List Bool) : SeqAt.shaped (.list (bs.map PyData.bool)) = true := shp (m := 2) (lay_all fun x hx => by obtain ⟨b, _, rfl⟩ := List.mem_map.mp hx; rfl) (by
  have h : PyData.depthAll (bs.map PyData.bool) ≤ 1 := dep_all fun x hx => by obtain ⟨i, _, rfl⟩ := List.mem_map.mp hx; exact Nat.zero_le _
  show PyData.depthAll _ + 1 ≤ 2
  omega)
theorem none_false (bs : List Bool) : (!(bs.map PyData.bool).any fun z => PyData.eqv z (.bool false)) = bs.all id := by
  induction bs with
  | nil => rfl
  | cons b bs ih =>
    rw [List.map_cons, List.any_cons, List.all_cons, ← ih, Bool.not_or]
    cases b <;> rfl
theorem goods_box (s : Shop) : goods s = (box s.items).filter fun st => s.rules.all fun c => c.val s.names st := by
  unfold goods
  refine List.filter_congr fun st hst => ?_
  obtain ⟨h1, h2⟩ := mem_box.mp hst
  unfold goodB
  rw [decide_eq_true h1, h2, Bool.true_and, Bool.true_and]
section
variable {G : Wd} {f : Addr} {fd : FuncData}
def f_lgoods : Sig := fun ds n R => ∃ s : Shop, ds = [.dat (shopD s)] ∧ s.Ok ∧ R (dL ((goods s).map iD)) n
theorem ok_lgoods (T : Tp G) (W : ∀ d, Sg G "_law_worth_of" (1 + d + 1) (f_worth d)) (F : Fun G.K "_law_goods" "_law_goods" t_law_goods f fd) (bd : Binds G.K fd ["_law_shop_here"] []) (hx : G.mg "_law_goods" = some (.ref f)) : Sg G "_law_goods" 7 f_lgoods :=
  sg_def F sc_law_goods bd hx (fun ds n R ⟨s, e, _⟩ => by subst e; exact ⟨rfl, noM1⟩) fun src ds n R ⟨s, e, ok, r⟩ => by
    subst e
    have i10 := ok.i10
    refine sxs_cons (sx_asgT [1, 2, 3] (ex_var 0 rfl rfl rfl ⟨_, rfl, bx_tup ⟨_, rfl, bxs_cons (bx_name 1 rfl (.inr rfl) (.inl rfl) (by decide) (bxs_cons (bx_name 2 rfl (.inl rfl) (.inl rfl) (by decide) (bxs_cons (bx_name 3 rfl (.inl rfl) (.inl rfl) (by decide) (bxs_nil ?_)))))), rfl⟩⟩))
    refine sxs_cons (sx_asg 4 rfl (.inl rfl) (.inl rfl) (ex_lst (ax_cons (ex_tup (ax_nil ⟨[], rfl, lk rfl, ax_nil ⟨[iD []], rfl, lk rfl, ?_⟩⟩)))))
    refine sxs_cons (sx_for [5, 6, 7] (ix_tup (ex_var 1 rfl rfl rfl ⟨_, rfl, ?_⟩)))
    refine ⟨fun i ρ k => k = n ∧ ∃ (o5 o6 o7 o8 o9 : Option D), ρ = [some (.dat (shopD s)), some (dT (s.items.map itD)), some (dT (s.rules.map Co.dat)), some (dT (s.folk.map fun p => row p.1 p.2)), some (dL ((box (s.items.take i)).map iD)), o5, o6, o7, o8, o9, none, none, none, none], ⟨rfl, none, none, none, none, none, rfl⟩, fun i d ρ2 n2 hd ⟨e1, o5, o6, o7, o8, o9, e2⟩ => ?_, fun ρ2 n2 ⟨e1, o5, o6, o7, o8, o9, e2⟩ => ?_⟩
    · subst e1 e2
      rw [List.getElem?_map] at hd
      cases hg : s.items[i]? with
      | none => rw [hg] at hd; cases hd
      | some p =>
        rw [hg] at hd
        cases hd
        have hp : p ∈ s.items := List.mem_of_getElem? hg
        obtain ⟨l1, l2, l3, l4⟩ := ok.lo p hp
        have hb := ok.bx (i + 1)
        rw [box_take hg] at hb
        refine bx_tup ⟨_, rfl, bxs_cons (bx_name 5 rfl (.inl rfl) (.inl rfl) (by decide) (bxs_cons (bx_name 6 rfl (.inl rfl) (.inl rfl) (by decide) (bxs_cons (bx_name 7 rfl (.inl rfl) (.inl rfl) (by decide) (bxs_nil ?_)))))), rfl⟩
        refine sxs_cons (sx_asg 8 rfl (.inl rfl) (.inl rfl) (ex_lstO (ax_nil ⟨[], rfl, lk rfl, ?_⟩)))
        refine sxs_cons (sx_for [9] (ix_list (ex_var 4 rfl rfl rfl ⟨_, rfl, ?_⟩)))
        refine ⟨fun j ρ k => k = n2 ∧ ∃ (o9 : Option D), ρ = [some (.dat (shopD s)), some (dT (s.items.map itD)), some (dT (s.rules.map Co.dat)), some (dT (s.folk.map fun p => row p.1 p.2)), some (dL ((box (s.items.take i)).map iD)), some (dS p.1), some (dI p.2.1), some (dI p.2.2), some (.own ((stepB ((box (s.items.take i)).take j) p).map iD)), o9, none, none, none, none], ⟨rfl, o9, rfl⟩, fun j d ρ3 n3 hd ⟨e1, o9, e2⟩ => ?_, fun ρ3 n3 ⟨e1, o9, e2⟩ => ?_⟩
        · subst e1 e2
          rw [List.getElem?_map] at hd
          cases ha : (box (s.items.take i))[j]? with
          | none => rw [ha] at hd; cases hd
          | some a =>
            rw [ha] at hd
            cases hd
            have la := box_len _ a (List.mem_of_getElem? ha)
            rw [List.length_take] at la
            have cl := stepB_le (box (s.items.take i)) j p
            have cl2 := stepB_le (box (s.items.take i)) (j + 1) p
            rw [stepB_take p ha, List.length_append, List.length_map] at cl2
            refine bx_name 9 rfl (.inr rfl) (.inl rfl) (by decide) ?_
            refine sxs_one (sx_extend (i := 8) (.s (.s (.s (.s (.s (.s (.s (.s .z)))))))) rfl (ex_lc [("_law_number", 12)] [false, false, false, false, false, false, false, false, false, true, false, false, false, false] (by dsimp only; decide +kernel) (by dsimp only; decide +kernel) (ix_range2 rfl T.range (ex_var 6 rfl rfl rfl (ex_bin (ex_var 7 rfl rfl rfl (ex_int (o_add ⟨p.2.1, p.2.2 + 1, rfl, rfl, by omega, by omega, by omega, by omega, ?_⟩))))))))
            refine cl_map (appD a) (by rw [rngD_len]; omega) (fun d hd => ?_) (.inr ⟨_, rfl, ?_, rfl, some (.dat (iD a)), ?_⟩)
            · rw [rng_dat] at hd
              obtain ⟨v, hv, rfl⟩ := List.mem_map.mp hd
              refine bx_name 12 rfl (.inl rfl) (.inr rfl) (by decide) (ex_bin (ex_var 9 rfl rfl rfl (ex_tup (ax_cons (ex_var 12 rfl rfl rfl (ax_nil ⟨[.int v], rfl, lk rfl, o_addT ?_ ⟨rfl, ?_⟩⟩))))))
              · rw [List.length_map]; show a.length + 1 ≤ 1000; omega
              · show D.dat (.tuple (a.map PyData.int ++ [.int v])) = D.dat (iD (a ++ [v]))
                unfold iD
                rw [List.map_append]
                rfl
            · rw [appD_rng, List.length_map, List.length_map, List.length_map]; omega
            · rw [stepB_take p ha, appD_rng, List.map_append]
              rfl
        · subst e1 e2
          rw [List.length_map, List.take_length]
          refine sxs_frz 8 rfl (sxs_one (sx_asg 4 rfl (.inl rfl) (.inl rfl) (ex_callT "list" T.list (by decide +kernel) rfl (ax_cons (ex_var 8 rfl rfl rfl (ax_nil (b_lstL ⟨rfl, some (dS p.1), some (dI p.2.1), some (dI p.2.2), some (dL ((stepB (box (s.items.take i)) p).map iD)), o9, ?_⟩)))))))
          rw [box_take hg]
          rfl
    · subst e1 e2
      rw [List.length_map, List.take_length]
      refine sxs_cons (sx_asg 10 rfl (.inl rfl) (.inl rfl) (ex_lstO (ax_nil ⟨[], rfl, lk rfl, ?_⟩)))
      refine sxs_cons (sx_for [11] (ix_list (ex_var 4 rfl rfl rfl ⟨_, rfl, ?_⟩)))
      refine ⟨fun i ρ k => k = n2 ∧ ∃ (o : Option D), ρ = [some (.dat (shopD s)), some (dT (s.items.map itD)), some (dT (s.rules.map Co.dat)), some (dT (s.folk.map fun p => row p.1 p.2)), some (dL ((box s.items).map iD)), o5, o6, o7, o8, o9, some (.own ((((box s.items).take i).filter fun st => s.rules.all fun c => c.val s.names st).map iD)), o, none, none], ⟨rfl, none, rfl⟩, fun i d ρ3 n3 hd ⟨e1, o, e2⟩ => ?_, fun ρ3 n3 ⟨e1, o, e2⟩ => ?_⟩
      · subst e1 e2
        rw [List.getElem?_map] at hd
        cases ha : (box s.items)[i]? with
        | none => rw [ha] at hd; cases hd
        | some a =>
          rw [ha] at hd
          cases hd
          have ham := List.mem_of_getElem? ha
          obtain ⟨b1, b2⟩ := mem_box.mp ham
          obtain ⟨g, hg⟩ := co_fun s.names a
          have etk : (box s.items).take (i + 1) = (box s.items).take i ++ [a] := by rw [List.take_add_one, ha]; rfl
          have hbl := box_le ok
          refine bx_name 11 rfl (.inr rfl) (.inl rfl) (by decide) ?_
          refine sxs_one (sx_if (tx_cmp (ex_bl (ex_lc [("_law_item", 13)] [false, true, false, false, false, false, false, false, false, false, false, true, false, false] (by dsimp only; decide +kernel) (by dsimp only; decide +kernel) (ix_tup (ex_var 2 rfl rfl rfl ⟨_, rfl, ?_⟩))))))
          refine cl_map g (by rw [List.length_map]; have := ok.r1; omega) (fun d hd => ?_) (.inl ?_)
          · obtain ⟨c, hc, rfl⟩ := List.mem_map.mp hd
            exact bx_name 13 rfl (.inl rfl) (.inr rfl) (by decide) (ex_call (W 4) (lk rfl) rfl (ax_cons (ex_var 1 rfl rfl rfl (ax_cons (ex_var 11 rfl rfl rfl (ax_cons (ex_var 13 rfl rfl rfl (ax_nil ⟨_, _, a, _, rfl, items_is ok, .inr ⟨c, rfl, ok.dp c hc, ok.rk a b1 b2 c hc, rfl, by rw [hg c]⟩⟩))))))))
          · have e : (s.rules.map Co.dat).map g = (s.rules.map fun c => c.val s.names a).map PyData.bool := by
              rw [List.map_map, List.map_map]
              exact List.map_congr_left fun c hc => hg c
            rw [e]
            refine o_niL rfl (shp_bools _) ⟨_, rfl, ?_⟩
            rw [none_false, all_id]
            refine iteB (fun hb => ?_) (fun hb => ?_)
            · refine sxs_one (sx_append (i := 10) (.s (.s (.s (.s (.s (.s (.s (.s (.s (.s .z)))))))))) rfl (ex_var 11 rfl rfl rfl ⟨_, rfl, ?_, rfl, some (.dat (iD a)), ?_⟩))
              · rw [List.length_map]
                refine Nat.le_trans (List.length_filter_le _ _) ?_
                rw [List.length_take]
                omega
              · rw [etk, List.filter_append, List.map_append]
                simp only [List.filter_cons, List.filter_nil]
                rw [if_pos hb]
                rfl
            · refine sxs_nil ⟨rfl, some (.dat (iD a)), ?_⟩
              rw [etk, List.filter_append, List.map_append]
              simp only [List.filter_cons, List.filter_nil]
              rw [if_neg (by rw [hb]; decide), List.map_nil, List.append_nil]
              rfl
      · subst e1 e2
        rw [List.length_map, List.take_length, ← goods_box]
        exact sxs_frz 10 rfl (sxs_one (sx_ret (ex_var 10 rfl rfl rfl r)))
end
end DL
/-! The law's defs: begin, lots, beside. -/
namespace DL
open PySem PySem.Spec L2 HS
section
variable {G : Wd} {f : Addr} {fd : FuncData}
def f_begin : Sig := fun ds n R => ∃ s : Shop, ds = [.src, .dat (shopD s)] ∧ s.Ok ∧ n + 30 ≤ 100000 ∧ ∀ st, st.length = s.m → ∀ n', n ≤ n' → n' ≤ n + 30 → R (.dat (iD st)) n'
theorem ok_begin (T : Tp G) (A : Sg G "_law_draw" 1 f_draw) (B : Sg G "_law_any" 2 f_any) (C : Sg G "_law_goods" 7 f_lgoods) (F : Fun G.K "_law_begin" "_law_begin" t_law_begin f fd) (bd : Binds G.K fd ["_law_source_here", "_law_shop_here"] []) (hx : G.mg "_law_begin" = some (.ref f)) : Sg G "_law_begin" 8 f_begin :=
  sg_def F sc_law_begin bd hx (fun ds n R ⟨s, e, _⟩ => by subst e; exact ⟨rfl, noS1⟩) fun src ds n R ⟨s, e, ok, hn, r⟩ => by
    subst e
    have i10 := ok.i10
    have gz := goods_le ok
    refine sxs_cons (sx_asg 2 rfl (.inl rfl) (.inl rfl) (ex_call C (lk rfl) rfl (ax_cons (ex_var 1 rfl rfl rfl (ax_nil ⟨s, rfl, ok, ?_⟩)))))
    have fin : ∀ q : Nat, q ≤ 1 → SXs G ⟨N_law_begin, defScope t_law_begin, 7, src, fun _ => true⟩ ((defBody t_law_begin).drop 2) [some .src, some (.dat (shopD s)), some (dL ((goods s).map iD)), none] (n + q) { nx := fun _ n' => R (.dat .none) n', rt := R } := fun q hq => by
      refine sxs_one (sx_ret (ex_callT "tuple" T.tuple (by decide +kernel) rfl (ax_cons (ex_lc [("_law_row", 3)] [true, false, false, false] (by dsimp only; decide +kernel) (by dsimp only; decide +kernel) (ix_tup (ex_ix (ex_var 1 rfl rfl rfl (ex_int ⟨_, 0, _, .inl rfl, rfl, by decide, rfl, s.items.map itD, rfl, ?_⟩))))))))
      refine ⟨by rw [List.length_map]; omega, fun j out n3 => ∃ k : List Int, out = k.map PyData.int ∧ k.length = j ∧ n3 = n + q + j, ⟨[], rfl, rfl, rfl⟩, fun j d out n3 hd _ ⟨k, e1, e2, e3⟩ => ?_, fun out n3 ⟨k, e1, e2, e3⟩ => .inl ?_⟩
      · have hj : j < s.items.length := by
          have := (List.getElem?_eq_some_iff.mp hd).1
          rwa [List.length_map] at this
        subst e3
        refine bx_name 3 rfl (.inl rfl) (.inr rfl) (by decide) (txs_nil (ite1 ?_))
        refine ex_bin (ex_call A (lk rfl) rfl (ax_cons (ex_var 0 rfl rfl rfl (ax_cons (ex_int (ax_nil ⟨9, rfl, by decide, by decide, by omega, fun v v0 v1 => ex_int (o_sub ⟨_, rfl, k ++ [v - 3], ?_, ?_, ?_⟩)⟩))))))
        · rw [e1, List.map_append]; rfl
        · rw [List.length_append, e2]; rfl
        · omega
      · subst e1
        rw [List.length_map] at e2 e3
        exact ax_nil (b_tupL (r k e2 n3 (by omega) (by omega)))
    refine sxs_cons (sx_if ((tw_and (tx_cmp (ex_var 2 rfl rfl rfl (ex_lst (ax_nil ⟨[], rfl, lk rfl, o_ne (shp_lst _) (shp_lst []) ⟨_, rfl, ?_⟩⟩))))).tx))
    rw [show PyData.list [] = .list (([] : List (List Int)).map iD) from rfl, eqv_lst]
    refine iteB (fun h1 => ?_) fun _ => ite0 (sxs_nil (fin 0 (by omega)))
    have ne : goods s ≠ [] := fun e => by rw [e] at h1; cases h1
    refine tw_and1 (tx_cmp (ex_call A (lk rfl) rfl (ax_cons (ex_var 0 rfl rfl rfl (ax_cons (ex_int (ax_nil ⟨4, rfl, by decide, by decide, by omega, fun v v0 v1 => ex_int (o_gt ⟨_, rfl, ?_⟩)⟩)))))))
    refine iteB (fun _ => ?_) fun _ => sxs_nil (fin 1 (by omega))
    refine sxs_one (sx_ret (ex_call B (lk rfl) rfl (ax_cons (ex_var 0 rfl rfl rfl (ax_cons (ex_var 2 rfl rfl rfl (ax_nil ⟨(goods s).map iD, _, rfl, .inr rfl, fun e => ne (List.map_eq_nil_iff.mp e), by rw [List.length_map]; omega, by omega, fun x hx => ?_⟩)))))))
    obtain ⟨st, hst, rfl⟩ := List.mem_map.mp hx
    exact r st (goods_len st hst) _ (by omega) (by omega)
def f_lots : Sig := fun ds n R => ∃ s : Shop, ds = [.src, .dat (shopD s)] ∧ s.Ok ∧ n + 300 ≤ 100000 ∧ ∀ F : Fml, Fam s F → (∀ o ∈ F, o.length ≤ 2) → ∀ n', n ≤ n' → n' ≤ n + 300 → R (.dat (fD F)) n'
theorem ok_lots (T : Tp G) (A : Sg G "_law_lot" 2 f_lot) (F : Fun G.K "_law_lots" "_law_lots" t_law_lots f fd) (bd : Binds G.K fd ["_law_source_here", "_law_shop_here"] []) (hx : G.mg "_law_lots" = some (.ref f)) : Sg G "_law_lots" 3 f_lots :=
  sg_def F sc_law_lots bd hx (fun ds n R ⟨s, e, _⟩ => by subst e; exact ⟨rfl, noS1⟩) fun src ds n R ⟨s, e, ok, hn, r⟩ => by
    subst e
    have i10 := ok.i10
    have f2 := ok.f2
    refine sxs_one (sx_ret (ex_callT "tuple" T.tuple (by decide +kernel) rfl (ax_cons (ex_lc [("_law_who", 2)] [true, true, false] (by dsimp only; decide +kernel) (by dsimp only; decide +kernel) (ix_tup (ex_ix (ex_var 1 rfl rfl rfl (ex_int ⟨_, 2, _, .inl rfl, rfl, by decide, rfl, s.folk.map (fun p => row p.1 p.2), rfl, ?_⟩))))))))
    refine ⟨by rw [List.length_map]; omega, fun j out n3 => ∃ F : Fml, out = F.map sD ∧ F.length = j ∧ (∀ l ∈ F, l ≠ [] ∧ Asc l ∧ l.length ≤ 2 ∧ ∀ k ∈ l, k.length = s.m) ∧ n ≤ n3 ∧ n3 ≤ n + 30 * j, ⟨[], rfl, rfl, fun l hl => (by cases hl), by omega, by omega⟩, fun j d out n3 hd _ ⟨Fm, e1, e2, e3, e4, e5⟩ => ?_, fun out n3 ⟨Fm, e1, e2, e3, e4, e5⟩ => .inl ?_⟩
    · have hj : j < s.folk.length := by
        have := (List.getElem?_eq_some_iff.mp hd).1
        rwa [List.length_map] at this
      refine bx_name 2 rfl (.inl rfl) (.inr rfl) (by decide) (txs_nil (ite1 ?_))
      refine ex_call A (lk rfl) rfl (ax_cons (ex_var 0 rfl rfl rfl (ax_cons (ex_callB "len" T.len (by decide +kernel) rfl (ax_cons (ex_ix (ex_var 1 rfl rfl rfl (ex_int ⟨_, 0, _, .inl rfl, rfl, by decide, rfl, ax_nil (b_len (.inl rfl) (ax_cons (ex_int (ax_nil ⟨s.m, 2, ?_, ok.i1, ok.i10, by decide, by decide, by omega, fun l q1 q2 q3 q4 n' n1 n2 => ⟨sD l, rfl, Fm ++ [l], ?_, ?_, fun l' hl => ?_, by omega, by omega⟩⟩))))⟩))))))))
      · rw [List.length_map]; rfl
      · rw [e1, List.map_append]; rfl
      · rw [List.length_append, e2]; rfl
      · rcases List.mem_append.mp hl with hl | hl
        · exact e3 l' hl
        · rw [List.mem_singleton.mp hl]; exact ⟨q1, q2, by omega, q4⟩
    · subst e1
      rw [List.length_map] at e2 e5
      exact ax_nil (b_tupL (r Fm ⟨e2, fun l hl => ⟨(e3 l hl).1, (e3 l hl).2.1, by have := (e3 l hl).2.2.1; omega, (e3 l hl).2.2.2⟩⟩ (fun o ho => (e3 o ho).2.2.1) n3 e4 (by omega)))
theorem okJ_of : ∀ {os : Fml} {f : List (List Int)} {m : Nat}, f.Nodup → (∀ o ∈ os, o ≠ []) → (∀ k ∈ f, k.length = m) → (∀ o ∈ os, ∀ k ∈ o, k.length = m) → (∀ o ∈ os, o.length ≤ 5) → (allS f os).length ≤ 9 → OkJ m f os
  | [], f, m, _, _, hf, _, _, _ => hf
  | o :: os, f, m, nf, ne, hf, ho, h5, hz => by
    have ho1 := ho o List.mem_cons_self
    have hc : ∀ k ∈ can (cross f o), k.length = m := fun k hk => cross_len hf ho1 k (mem_can.mp hk)
    have hz' : (allS (can (cross f o)) os).length ≤ 9 := hz
    have ne' := fun x hx => ne x (List.mem_cons_of_mem o hx)
    have ho' := fun x hx => ho x (List.mem_cons_of_mem o hx)
    have g1 := cross_grow nf (ne o List.mem_cons_self) hf ho1
    have g2 := allS_grow (nodup_can (cross f o)) ne' hc ho'
    have o5 := h5 o List.mem_cons_self
    have cz : (cross f o).length ≤ 9 * 5 := by
      rw [cross_count]
      exact Nat.mul_le_mul (by omega) o5
    exact ⟨hf, ho1, by omega, okJ_of (nodup_can _) ne' hc ho' (fun x hx => h5 x (List.mem_cons_of_mem o hx)) hz'⟩
theorem ers_cut (F : Fml) (k : Nat) (l : List (List Int)) : cutD (F.map sD) none (some (k : Int)) ++ cutD (F.map sD) (some ((k : Int) + 1)) none ++ [sD l] = (F.eraseIdx k ++ [l]).map sD := by
  rw [cutD_hi _ (Int.natCast_nonneg _), cutD_lo _ (by omega), Int.toNat_natCast, show ((k : Int) + 1).toNat = k + 1 by omega, List.eraseIdx_eq_take_drop_succ, List.map_append, List.map_append, List.map_take, List.map_drop]
  rfl
theorem cut_le (xs : List Dat) (a b : Option Int) : (cutD xs a b).length ≤ xs.length := by
  unfold cutD
  rw [List.length_take, List.length_drop]
  omega
def f_beside : Sig := fun ds n R => ∃ (s : Shop) (st : List Int) (F : Fml) (k : Nat), ds = [.dat (shopD s), .dat (iD st), .dat (fD F), dI k] ∧ Safe s st F ∧ (∀ o ∈ F, o.length ≤ 5) ∧ R (.dat (sD (restB s st F k))) n
theorem ok_beside (T : Tp G) (A : Sg G "_law_joined" 2 f_joined) (B : Sg G "_law_left" 2 f_rest_set) (C : Sg G "_law_goods" 7 f_lgoods) (F : Fun G.K "_law_beside" "_law_beside" t_law_beside f fd) (bd : Binds G.K fd ["_law_shop_here", "_law_begin_here", "_law_lots_here", "_law_k"] []) (hx : G.mg "_law_beside" = some (.ref f)) : Sg G "_law_beside" 8 f_beside :=
  sg_def F sc_law_beside bd hx (fun ds n R ⟨s, st, Fm, k, e, _⟩ => by subst e; exact ⟨rfl, noM4⟩) fun src ds n R ⟨s, st, Fm, k, e, t, h5, r⟩ => by
    subst e
    have ok := t.fit.ok
    have fl := t.tame.flen
    have g9 : (goods s).length ≤ 9 := Nat.le_trans (List.length_filter_le _ _) ok.b9
    have re := beside_reach t.fit.sl (Fm.eraseIdx k)
    have sz := t.fit.safe_size2 t.safe k
    have lz : (zerosI s.m).length = s.m := by unfold zerosI; rw [List.length_replicate]
    have mem : ∀ o ∈ Fm.eraseIdx k ++ [[st]], o ∈ Fm ∨ o = [st] := fun o ho => by
      rcases List.mem_append.mp ho with ho | ho
      · exact .inl (List.mem_of_mem_eraseIdx ho)
      · exact .inr (List.mem_singleton.mp ho)
    have oj : OkJ s.m [zerosI s.m] (Fm.eraseIdx k ++ [[st]]) := by
      refine okJ_of (nodup_one _) (fun o ho => ?_) (fun x hx => by rw [List.mem_singleton.mp hx]; exact lz) (fun o ho => ?_) (fun o ho => ?_) (by rw [re]; omega)
      · rcases mem o ho with h | rfl
        · exact t.fit.nes o h
        · exact List.cons_ne_nil _ _
      · rcases mem o ho with h | rfl
        · exact t.fit.lens o h
        · intro x hx; rw [List.mem_singleton.mp hx]; exact t.fit.sl
      · rcases mem o ho with h | rfl
        · exact h5 o h
        · exact lk rfl
    have c1 := cut_le (Fm.map sD) none (some (k : Int))
    have c2 := cut_le (Fm.map sD) (some ((k : Int) + 1)) none
    rw [List.length_map] at c1 c2
    refine sxs_cons (sx_asg 4 rfl (.inl rfl) (.inl rfl) (ex_call A (lk rfl) rfl (ax_cons (ex_bin (ex_bin (ex_sl (ex_var 2 rfl rfl rfl (px_none (px_some (ex_var 3 rfl rfl rfl ⟨_, rfl, .inl ⟨_, rfl, ?_⟩⟩))))))))))
    refine ex_sl (ex_var 2 rfl rfl rfl (px_some (ex_bin (ex_var 3 rfl rfl rfl (ex_int (o_add ⟨_, rfl, px_none (.inl ⟨_, rfl, o_addT (by omega) ?_⟩)⟩))))))
    refine ex_tup (ax_cons (ex_tup (ax_cons (ex_var 1 rfl rfl rfl (ax_nil ⟨[iD st], rfl, lk rfl, ax_nil ⟨[sD [st]], rfl, lk rfl, o_addT (by rw [List.length_append]; show _ + 1 ≤ 1000; omega) ?_⟩⟩)))))
    rw [ers_cut Fm k [st]]
    refine ax_cons (ex_callB "len" T.len (by decide +kernel) rfl (ax_cons (ex_ix (ex_var 0 rfl rfl rfl (ex_int ⟨_, 0, _, .inl rfl, rfl, by decide, rfl, ax_nil (b_len (.inl rfl) (ax_nil ⟨s.m, Fm.eraseIdx k ++ [[st]], ?_, ok.i1, ok.i2, oj, ?_⟩))⟩)))))
    · rw [List.length_map]; rfl
    rw [re]
    refine sxs_cons (sx_asg 5 rfl (.inl rfl) (.inl rfl) (ex_call C (lk rfl) rfl (ax_cons (ex_var 0 rfl rfl rfl (ax_nil ⟨s, rfl, ok, ?_⟩)))))
    have gne : goods s ≠ [] := fun e => by
      obtain ⟨x, p⟩ := pk_ex st t.fit.nes
      have := safe_iff.mp t.safe x p
      rw [e] at this
      cases this
    refine sxs_one (sx_ret (ex_if (tx_cmp (ex_var 5 rfl rfl rfl (ex_lst (ax_nil ⟨[], rfl, lk rfl, o_ne (shp_lst _) (shp_lst []) ⟨_, rfl, ?_⟩⟩))))))
    rw [show PyData.list [] = .list (([] : List (List Int)).map iD) from rfl, eqv_lst, decide_eq_false gne]
    refine ite1 (ex_call B (lk rfl) rfl (ax_cons (ex_var 4 rfl rfl rfl (ax_cons (ex_callT "tuple" T.tuple (by decide +kernel) rfl (ax_cons (ex_var 5 rfl rfl rfl (ax_nil (b_tupL (ax_nil ⟨reach st (Fm.eraseIdx k), goods s, s.m, rfl, t.fit.rne k, ok.i1, ok.i2, t.fit.rl k, goods_len, by omega, by omega, r⟩))))))))))
end
end DL
/-! The law's def safe. -/
namespace DL
open PySem PySem.Spec L2 HS
def zerosF (s : Shop) : Fml := List.replicate s.folk.length [zerosI s.m]
theorem zeros_len (m : Nat) : (zerosI m).length = m := by unfold zerosI; rw [List.length_replicate]
theorem add_zero' {x : List Int} {m : Nat} (h : x.length = m) : add x (zerosI m) = x := by rw [add_comm']; exact zero_add' h
theorem pk_zeros {m : Nat} : ∀ {j : Nat} {a x : List Int}, a.length = m → Pk (List.replicate j [zerosI m]) a x → x = a
  | 0, a, x, _, h => h
  | j + 1, a, x, ha, h => by
    obtain ⟨b, hb, p⟩ := (show ∃ b ∈ [zerosI m], Pk (List.replicate j [zerosI m]) (add a b) x from h)
    rw [List.mem_singleton.mp hb, add_zero' ha] at p
    exact pk_zeros ha p
theorem zeros_fam (s : Shop) : Fam s (zerosF s) := ⟨by unfold zerosF; rw [List.length_replicate], fun l hl => by
  rw [List.eq_of_mem_replicate hl]
  exact ⟨List.cons_ne_nil _ _, List.pairwise_singleton _ _, lk rfl, fun k hk => by rw [List.mem_singleton.mp hk]; exact zeros_len _⟩⟩
theorem zeros_safe {s : Shop} (ok : s.Ok) {st : List Int} (h : st ∈ goods s) : Safe s st (zerosF s) := ⟨⟨ok, goods_len st h, zeros_fam s⟩, safe_iff.mpr fun x p => by rw [pk_zeros (goods_len st h) p]; exact h⟩
def ownL (s : Shop) (fr : List (List Int)) : List (List Int) := can (fr.take 4 ++ [zerosI s.m])
theorem own_step {s : Shop} {st : List Int} {F : Fml} (t : Safe s st F) {k : Nat} (hk : k < F.length) (hz : zerosI s.m ∈ F.getD k []) {fr : List (List Int)} (hf : ∀ x ∈ fr, x ∈ restB s st F k) :
    Safe s st (F.set k (ownL s fr)) ∧ (ownL s fr).length ≤ 5 ∧ zerosI s.m ∈ ownL s fr := by
  have hr : ∀ x ∈ ownL s fr, x ∈ restB s st F k := fun x hx => by
    rcases List.mem_append.mp (mem_can.mp hx) with hx | hx
    · exact hf x (List.mem_of_mem_take hx)
    · rw [List.mem_singleton.mp hx]
      exact (t.fit.safe_rest hk).mp t.safe _ hz
  have hz2 : zerosI s.m ∈ ownL s fr := mem_can.mpr (List.mem_append.mpr (.inr (List.mem_singleton.mpr rfl)))
  have hl : (ownL s fr).length ≤ 5 := by
    refine Nat.le_trans (can_len _) ?_
    rw [List.length_append, List.length_take]
    show min 4 _ + 1 ≤ 5
    omega
  have t2 := t.step hk
  refine ⟨⟨⟨t.fit.ok, t.fit.sl, t.fit.fam.set ⟨fun e => (by rw [e] at hz2; cases hz2), asc_can _, by omega, fun x hx => t.fit.rest_lens k x (hr x hx)⟩⟩, t2.fit.sub_safe t2.safe (by rw [List.length_set, List.length_set]) fun j y hy => ?_⟩, hl, hz2⟩
  rw [getD_set F _ hk] at hy ⊢
  by_cases e : k = j
  · rw [if_pos e] at hy ⊢; exact hr y hy
  · rw [if_neg e] at hy ⊢; exact hy
theorem tx_case {s : Shop} {k : Nat} {F : Fml} {l : List (List Int)} (hk : k < F.length) (hl : zerosI s.m ∈ l) (h : ∀ j, j < F.length → zerosI s.m ∈ F.getD j []) : ∀ j, j < (F.set k l).length → zerosI s.m ∈ (F.set k l).getD j [] := fun j hj => by
  rw [List.length_set] at hj
  rw [getD_set F _ hk]
  by_cases e : k = j
  · rw [if_pos e]; exact hl
  · rw [if_neg e]; exact h j hj
section
variable {G : Wd} {f : Addr} {fd : FuncData}
def f_safe : Sig := fun ds n R => ∃ s : Shop, ds = [.src, .dat (shopD s)] ∧ s.Ok ∧ n + 100 ≤ 100000 ∧ (∀ n', n ≤ n' → n' ≤ n + 100 → R (.dat .none) n') ∧ ∀ st F, Safe s st F → ∀ n', n ≤ n' → n' ≤ n + 100 → R (dT [iD st, fD F]) n'
theorem ok_safe (T : Tp G) (A : Sg G "_law_draw" 1 f_draw) (N : Sg G "_law_any" 2 f_any) (Z : Sg G "_law_zero" 1 f_zero) (B : Sg G "_law_beside" 8 f_beside) (C : Sg G "_law_goods" 7 f_lgoods) (F : Fun G.K "_law_safe" "_law_safe" t_law_safe f fd) (bd : Binds G.K fd ["_law_source_here", "_law_shop_here"] []) (hx : G.mg "_law_safe" = some (.ref f)) : Sg G "_law_safe" 9 f_safe :=
  sg_def F sc_law_safe bd hx (fun ds n R ⟨s, e, _⟩ => by subst e; exact ⟨rfl, noS1⟩) fun src ds n R ⟨s, e, ok, hn, r0, r⟩ => by
    subst e
    have f2 := ok.f2
    have g9 : (goods s).length ≤ 9 := Nat.le_trans (List.length_filter_le _ _) ok.b9
    refine sxs_cons (sx_asg 2 rfl (.inl rfl) (.inl rfl) (ex_call C (lk rfl) rfl (ax_cons (ex_var 1 rfl rfl rfl (ax_nil ⟨s, rfl, ok, ?_⟩)))))
    refine sxs_cons (sx_if (tx_cmp (ex_var 2 rfl rfl rfl (ex_lst (ax_nil ⟨[], rfl, lk rfl, o_eq (shp_lst _) (shp_lst []) ⟨_, rfl, ?_⟩⟩)))))
    rw [show PyData.list [] = .list (([] : List (List Int)).map iD) from rfl, eqv_lst]
    refine iteB (fun _ => sxs_one (sx_ret (ex_non (r0 n (Nat.le_refl _) (by omega))))) fun h1 => sxs_nil ?_
    have gne : goods s ≠ [] := fun e => by rw [e] at h1; cases h1
    refine sxs_cons (sx_asg 3 rfl (.inl rfl) (.inl rfl) (ex_call N (lk rfl) rfl (ax_cons (ex_var 0 rfl rfl rfl (ax_cons (ex_var 2 rfl rfl rfl (ax_nil ⟨(goods s).map iD, _, rfl, .inr rfl, fun e => gne (List.map_eq_nil_iff.mp e), by rw [List.length_map]; omega, by omega, fun x hx => ?_⟩)))))))
    obtain ⟨st, hst, rfl⟩ := List.mem_map.mp hx
    refine sxs_cons (sx_asg 4 rfl (.inl rfl) (.inl rfl) (ex_callT "tuple" T.tuple (by decide +kernel) rfl (ax_cons (ex_lc [("_law_who", 8)] [false, true, false, false, false, false, false, false, false, false] (by dsimp only; decide +kernel) (by dsimp only; decide +kernel) (ix_tup (ex_ix (ex_var 1 rfl rfl rfl (ex_int ⟨_, 2, _, .inl rfl, rfl, by decide, rfl, s.folk.map (fun p => row p.1 p.2), rfl, ?_⟩))))))))
    refine cl_map (fun _ => sD [zerosI s.m]) (by rw [List.length_map]; omega) (fun d hd => bx_name 8 rfl (.inl rfl) (.inr rfl) (by decide) (ex_tup (ax_cons (ex_call Z (lk rfl) rfl (ax_cons (ex_var 1 rfl rfl rfl (ax_nil ⟨s, rfl, ok, ax_nil ⟨[iD (zerosI s.m)], rfl, lk rfl, rfl, rfl⟩⟩))))))) (.inl (ax_nil (b_tupL ?_)))
    have ez : (s.folk.map fun p => row p.1 p.2).map (fun _ => sD [zerosI s.m]) = (zerosF s).map sD := by
      unfold zerosF
      rw [List.map_replicate, List.map_map]
      show s.folk.map (fun _ => sD [zerosI s.m]) = _
      exact List.map_const' ..
    rw [ez]
    refine sxs_cons (sx_for [5] (ix_range1 rfl T.range (ex_callB "len" T.len (by decide +kernel) rfl (ax_cons (ex_var 4 rfl rfl rfl (ax_nil (b_len (.inl rfl) ⟨_, rfl, by omega, ?_, ?_⟩)))))))
    · rw [List.length_map]; unfold zerosF; rw [List.length_replicate]; omega
    rw [Int.toNat_natCast, List.length_map]
    have zl : (zerosF s).length = s.folk.length := by unfold zerosF; rw [List.length_replicate]
    rw [zl]
    refine ⟨fun i ρ k => ∃ (Fi : Fml) (o5 o6 o7 : Option D), n + 1 ≤ k ∧ k ≤ n + 1 + 9 * i ∧ Fi.length = s.folk.length ∧ Safe s st Fi ∧ (∀ o ∈ Fi, o.length ≤ 5) ∧ (∀ j, j < Fi.length → zerosI s.m ∈ Fi.getD j []) ∧ ρ = [some .src, some (.dat (shopD s)), some (dL ((goods s).map iD)), some (.dat (iD st)), some (.dat (fD Fi)), o5, o6, o7, none, none], ⟨zerosF s, none, none, none, Nat.le_refl _, by omega, zl, zeros_safe ok hst, fun o ho => by rw [List.eq_of_mem_replicate ho]; exact lk rfl, fun j hj => ?_, rfl⟩, fun i d ρ2 n2 hd ⟨Fi, o5, o6, o7, k1, k2, h1, h2, h3, h4, e2⟩ => ?_, fun ρ2 n2 ⟨Fi, o5, o6, o7, k1, k2, h1, h2, h3, h4, e2⟩ => ?_⟩
    · have := getD_mem hj
      rw [List.eq_of_mem_replicate this]
      exact List.mem_singleton.mpr rfl
    · subst e2
      have hi : i < s.folk.length := by
        have := (List.getElem?_eq_some_iff.mp hd).1
        rwa [rngD_len] at this
      rw [rngD_get hi] at hd
      cases hd
      have hk : i < Fi.length := by rw [h1]; exact hi
      have rl := h2.fit.rest_le i
      refine bx_name 5 rfl (.inl rfl) (.inl rfl) (by decide) ?_
      rw [Int.zero_add]
      refine sxs_cons (sx_asgLc 6 [("_law_spot", 9)] [true, false, false, false, false, false, false, false, false, false] rfl rfl rfl (by dsimp only; decide +kernel) (by dsimp only; decide +kernel) rfl rfl (ix_tup (ex_call B (lk rfl) rfl (ax_cons (ex_var 1 rfl rfl rfl (ax_cons (ex_var 3 rfl rfl rfl (ax_cons (ex_var 4 rfl rfl rfl (ax_cons (ex_var 5 rfl rfl rfl (ax_nil ⟨s, st, Fi, i, rfl, h2, h3, _, rfl, ?_⟩))))))))))))
      refine ⟨by rw [List.length_map]; omega, fun j out n3 => ∃ fr : List (List Int), out = fr.map iD ∧ fr.length ≤ j ∧ (∀ x ∈ fr, x ∈ restB s st Fi i) ∧ n3 = n2 + j, ⟨[], rfl, Nat.le_refl _, fun x hx => (by cases hx), rfl⟩, fun j d out n3 hd _ ⟨fr, e1, e2, e3, e4⟩ => ?_, fun out n3 ⟨fr, e1, e2, e3, e4⟩ => .inl ?_⟩
      · rw [List.getElem?_map] at hd
        cases hg : (restB s st Fi i)[j]? with
        | none => rw [hg] at hd; cases hd
        | some g =>
          rw [hg] at hd
          cases hd
          have hj : j < (restB s st Fi i).length := (List.getElem?_eq_some_iff.mp hg).1
          subst e1 e4
          refine bx_name 9 rfl (.inl rfl) (.inr rfl) (by decide) (txs_one (tx_cmp (ex_call A (lk rfl) rfl (ax_cons (ex_var 0 rfl rfl rfl (ax_cons (ex_int (ax_nil ⟨2, rfl, by decide, by decide, by omega, fun v v0 v1 => ex_int (o_eqI ⟨_, rfl, ?_⟩)⟩))))))))
          refine iteB (fun _ => ex_var 9 rfl rfl rfl ⟨_, rfl, fr ++ [g], ?_, ?_, fun x hx => ?_, by omega⟩) fun _ => ⟨fr, rfl, by omega, e3, by omega⟩
          · rw [List.map_append]; rfl
          · rw [List.length_append]; show fr.length + 1 ≤ j + 1; omega
          · rcases List.mem_append.mp hx with hx | hx
            · exact e3 x hx
            · rw [List.mem_singleton.mp hx]; exact List.mem_of_getElem? hg
      · subst e1
        rw [List.length_map] at e2 e4
        obtain ⟨s1, s2, s3⟩ := own_step h2 hk (h4 i hk) e3
        have ec : cutD (fr.map iD) none (some 4) ++ [iD (zerosI s.m)] = (fr.take 4 ++ [zerosI s.m]).map iD := by
          rw [cutD_hi _ (by decide), List.map_append, List.map_take]
          rfl
        have zz : (fr.take 4 ++ [zerosI s.m]).length ≤ 5 := by
          rw [List.length_append, List.length_take]
          show min 4 _ + 1 ≤ 5
          omega
        have cz := cut_le (fr.map iD) none (some 4)
        rw [List.length_map] at cz
        have hlen : ∀ x ∈ fr.take 4 ++ [zerosI s.m], x.length = s.m := fun x hx => by
          rcases List.mem_append.mp hx with hx | hx
          · exact h2.fit.rest_lens i x (e3 x (List.mem_of_mem_take hx))
          · rw [List.mem_singleton.mp hx]; exact zeros_len _
        refine sxs_cons (sx_asg 7 rfl (.inl rfl) (.inl rfl) (ex_callT "tuple" T.tuple (by decide +kernel) rfl (ax_cons (ex_callB "sorted" T.sorted (by decide +kernel) rfl (ax_cons (ex_callT "set" T.set (by decide +kernel) rfl (ax_cons (ex_bin (ex_sl (ex_var 6 rfl rfl rfl (px_none (px_some (ex_int ⟨4, rfl, .inr ⟨_, rfl, .inr ?_⟩⟩)))))))))))))
        refine ex_lstO (ax_cons (ex_call Z (lk rfl) rfl (ax_cons (ex_var 1 rfl rfl rfl (ax_nil ⟨s, rfl, ok, ax_nil ⟨[iD (zerosI s.m)], rfl, lk rfl, o_catO (by show _ + 1 ≤ 1000; omega) ?_⟩⟩)))))
        rw [ec]
        refine ax_nil (b_set (.inl rfl) (by omega) (ax_nil (b_srtS (fun k hk => ne_of_len (hlen k hk) ok.i1) (ax_nil (b_tupL ?_)))))
        have fl2 : Fi.length ≤ 10 := by omega
        refine sxs_one (sx_asg 4 rfl (.inl rfl) (.inl rfl) (ex_bin (ex_bin (ex_sl (ex_var 4 rfl rfl rfl (px_none (px_some (ex_var 5 rfl rfl rfl ⟨_, rfl, .inl ⟨_, rfl, ?_⟩⟩))))))))
        have c1 := cut_le (Fi.map sD) none (some (i : Int))
        have c2 := cut_le (Fi.map sD) (some ((i : Int) + 1)) none
        rw [List.length_map] at c1 c2
        refine ex_tup (ax_cons (ex_var 7 rfl rfl rfl (ax_nil ⟨[sD (ownL s fr)], rfl, lk rfl, o_addT (by show _ + 1 ≤ 1000; omega) ?_⟩)))
        refine ex_sl (ex_var 4 rfl rfl rfl (px_some (ex_bin (ex_var 5 rfl rfl rfl (ex_int (o_add ⟨_, rfl, px_none (.inl ⟨_, rfl, o_addT (by rw [List.length_append]; show _ + 1 + _ ≤ 1000; omega) ?_⟩)⟩))))))
        refine ⟨Fi.set i (ownL s fr), some (dI i), some (dL (fr.map iD)), some (.dat (sD (ownL s fr))), by omega, by omega, by rw [List.length_set]; exact h1, s1, fun o ho => ?_, tx_case hk s3 h4, ?_⟩
        · rcases List.mem_or_eq_of_mem_set ho with ho | rfl
          · exact h3 o ho
          · exact s2
        · rw [← set_cut Fi i _ hk]
          rfl
    · subst e2
      rw [rngD_len] at k2
      exact sxs_one (sx_ret (ex_tup (ax_cons (ex_var 3 rfl rfl rfl (ax_cons (ex_var 4 rfl rfl rfl (ax_nil ⟨[iD st, fD Fi], rfl, lk rfl, r st Fi h2 n2 (by omega) (by omega)⟩)))))))
end
end DL
/-! The law's def are_rests_right. -/
namespace DL
open PySem PySem.Spec L2 HS
theorem none_bad (l : List (List Int)) (p : List Int → Bool) : decide ((l.filter fun x => !p x) = []) = l.all p := by
  induction l with
  | nil => rfl
  | cons x l ih =>
    rw [List.all_cons, ← ih, List.filter_cons]
    cases h : p x <;> simp
theorem filt_un (l : List (List Int)) (p : List Int → Bool) : ((l.map iD).filter fun d => !p (unI d)).map (fun d => d) = (l.filter fun x => !p x).map iD := by
  rw [List.map_id', List.filter_map]
  congr 1
  refine List.filter_congr fun x _ => ?_
  show (!p (unI (iD x))) = _
  rw [unI_iD]
theorem safe_good (s : Shop) (st : List Int) (F : Fml) : safeB s st F = (reach st F).all (goodB s) := by
  unfold safeB
  congr 1
  funext x
  rw [Bool.eq_iff_iff, decide_eq_true_iff]
  exact mem_goods
def remF (F : Fml) (k j : Nat) : Fml := if j ≤ k then (F.drop j).eraseIdx (k - j) else F.drop j
theorem rem_skip {F : Fml} {k : Nat} (h : k < F.length) : remF F k k = remF F k (k + 1) := by
  unfold remF
  rw [if_pos (Nat.le_refl _), if_neg (by omega), Nat.sub_self, List.drop_eq_getElem_cons h]
  rfl
theorem rem_step {F : Fml} {k j : Nat} {o : List (List Int)} (h : F[j]? = some o) (hne : j ≠ k) : remF F k j = o :: remF F k (j + 1) := by
  have hlt := (List.getElem?_eq_some_iff.mp h).1
  have e : F[j] = o := (List.getElem?_eq_some_iff.mp h).2
  unfold remF
  rw [List.drop_eq_getElem_cons hlt, e]
  by_cases q : j ≤ k
  · rw [if_pos q, if_pos (by omega), show k - j = (k - (j + 1)) + 1 by omega, List.eraseIdx_cons_succ]
  · rw [if_neg q, if_neg (by omega)]
theorem rem_end (F : Fml) {k : Nat} (h : k < F.length) : remF F k F.length = [] := by
  unfold remF
  rw [if_neg (by omega), List.drop_length]
theorem LF.lot_le {s : Shop} {st : List Int} {F : Fml} (t : LF s st F) : ∀ o ∈ F, o.length ≤ 62 := fun o ho => by
  rcases t.k with h | h
  · have := h o ho; omega
  · obtain ⟨k, hk, e⟩ := List.mem_iff_getElem.mp ho
    have e2 : F.getD k [] = o := by rw [List.getD_eq_getElem?_getD, List.getElem?_eq_getElem hk]; exact e
    have := (t.fit.safe_rest hk).mp h
    rw [e2] at this
    have n1 := nodup_len o (restB s st F k) (asc_nodup (t.fit.fam.ok o ho).2.1) this
    have n2 := t.fit.rest_le k
    have n3 := goods_le t.fit.ok
    omega
theorem hand_at {s : Shop} (h : s.hands.Nodup) {k : Nat} (hk : k < s.folk.length) : ∃ x, s.hands[k]? = some x ∧ AtHand s x k := by
  have hl : k < s.hands.length := by unfold Shop.hands; rw [List.length_map]; exact hk
  refine ⟨s.hands[k], List.getElem?_eq_getElem hl, List.getElem?_eq_getElem hl, fun m hm e => ?_⟩
  have hml : m < s.hands.length := by omega
  rw [List.getElem?_eq_getElem hml] at e
  have := (List.pairwise_iff_getElem.mp h) m k hml hl hm
  exact this (Option.some.inj e)
theorem obj_one {x : List Int} : can [x] = [x] := can_self (List.pairwise_singleton _ _)
section
variable {G : Wd} {f : Addr} {fd : FuncData}
def f_rests : Sig := fun ds n R => ∃ (s : Shop) (st : List Int) (F : Fml), ds = [.dat (shopD s), .dat (iD st), .dat (fD F)] ∧ LF s st F ∧ s.hands.Nodup ∧ R (dB true) n
theorem ok_rests (T : Tp G) (C : Kf G) (I : Ini G 4 f_init) (P : Pg G "form" 1 f_form) (M1 : Mg G "__add__" 6 f_plus) (M2 : Mg G "rest_in" 6 f_rest_in) (A : Sg G "is_safe" 14 f_all_good) (W : Sg G "whole_states" 7 f_whole) (Gd : Sg G "is_good" 7 f_is_good) (Gs : Sgg G "good_states" 8 ["store"] f_good_states) (Ro : Sg G "rest_of" 14 f_rest_of) (Gr : Sg G "is_greatest" 15 f_is_great)
    (F : Fun G.K "_law_are_rests_right" "_law_are_rests_right" t_law_are_rests_right f fd) (bd : Binds G.K fd ["_law_shop_here", "_law_begin_here", "_law_lots_here"] []) (hx : G.mg "_law_are_rests_right" = some (.ref f)) : Sg G "_law_are_rests_right" 17 f_rests :=
  sg_def F sc_law_are_rests_right bd hx (fun ds n R ⟨s, st, Fm, e, _⟩ => by subst e; exact ⟨rfl, noM3⟩) fun src ds n R ⟨s, st, Fm, e, t, nd, r⟩ => by
    subst e
    have tm := t.tame
    have ok := tm.ok
    have f2 := ok.f2
    have fl := tm.fam.len
    have gz := goods_le ok
    refine sxs_cons (sx_par 3 4 (by decide) rfl rfl rfl rfl (ex_lc [("_law_row", 12)] [false, false, false, false, false, false, false, false, false, false, false, false, false, false] (by dsimp only; decide +kernel) (by dsimp only; decide +kernel) (ix_tup (ex_ix (ex_var 0 rfl rfl rfl (ex_int ⟨_, 2, _, .inl rfl, rfl, by decide, rfl, s.folk.map (fun p => row p.1 p.2), rfl, ?_⟩))))) (hw := sw_par rfl rfl rfl rfl rfl) (hk := rfl))
    refine cl_map headS (by rw [List.length_map]; omega) (fun d hd => ?_) (.inl ?_)
    · obtain ⟨p, hp, rfl⟩ := List.mem_map.mp hd
      exact bx_name 12 rfl (.inl rfl) (.inr rfl) (by decide) (ex_ix (ex_var 12 rfl rfl rfl (ex_int ⟨_, 0, _, .inl rfl, rfl, by decide, rfl, rfl, rfl⟩)))
    rw [heads]
    refine ex_call A (lk rfl) rfl (ax_cons (ex_var 0 rfl rfl rfl (ax_cons (ex_var 1 rfl rfl rfl (ax_cons (ex_var 2 rfl rfl rfl (ax_nil ⟨s, st, Fm, rfl, tm, .inl rfl, ?_⟩)))))))
    refine sxs_cons (sx_asgLc 5 [("_law_spot", 13)] [true, false, false, false, false, false, false, false, false, false, false, false, false, false] rfl rfl rfl (by dsimp only; decide +kernel) (by dsimp only; decide +kernel) rfl rfl (ix_tup (ex_call W (lk rfl) rfl (ax_cons (ex_var 0 rfl rfl rfl (ax_cons (ex_var 1 rfl rfl rfl (ax_cons (ex_var 2 rfl rfl rfl (ax_nil ⟨s, st, Fm, rfl, tm, _, rfl, ?_⟩))))))))))
    have rz := tm.rl
    refine cl_filt (fun d => !goodB s (unI d)) (fun d => d) (by rw [List.length_map]; omega) (fun d hd => ?_) (.inl ?_)
    · obtain ⟨x, hx, rfl⟩ := List.mem_map.mp hd
      have lx := tm.all.out.1 x hx
      refine bx_name 13 rfl (.inl rfl) (.inr rfl) (by decide) (tx_not (tx_val (ex_call Gd (lk rfl) rfl (ax_cons (ex_var 0 rfl rfl rfl (ax_cons (ex_var 13 rfl rfl rfl (ax_nil ⟨s, x, rfl, ok, by rw [lx]; exact ok.i2, _, rfl, rfl, ?_, fun _ => ex_var 13 rfl rfl rfl ⟨rfl, rfl⟩⟩))))))))
      show (!goodB s x) = !goodB s (unI (iD x))
      rw [unI_iD]
    rw [filt_un]
    refine sxs_cons (sx_if (tx_cmp (ex_var 4 rfl rfl rfl (ex_cmp (ex_var 5 rfl rfl rfl (ex_lst (ax_nil ⟨[], rfl, lk rfl, o_eq (shp_lst _) (shp_lst []) (o_neB ⟨_, rfl, ?_⟩)⟩)))))))
    rw [show PyData.list [] = .list (([] : List (List Int)).map iD) from rfl, eqv_lst, none_bad, ← safe_good, decide_eq_true rfl]
    refine ite0 (sxs_nil ?_)
    refine sxs_cons (sx_asg 6 rfl (.inl rfl) (.inl rfl) (ex_make C I (lk rfl) rfl (ax_cons (ex_tupGen T.tuple Gs (lk rfl) rfl rfl (ax_cons (ex_var 0 rfl rfl rfl (ax_nil ⟨_, ⟨s, rfl, ok, rfl⟩, by rw [List.length_map]; omega, ax_nil ⟨goods s, s.m, rfl, by omega, ok.i1, ok.i2, goods_len, ?_⟩⟩)))))))
    refine sxs_cons (sx_for [7] (ix_range1 rfl T.range (ex_callB "len" T.len (by decide +kernel) rfl (ax_cons (ex_var 2 rfl rfl rfl (ax_nil (b_len (.inl rfl) ⟨_, rfl, by omega, by rw [List.length_map]; omega, ?_⟩)))))))
    rw [Int.toNat_natCast, List.length_map]
    refine ⟨fun i ρ k => k = n ∧ ∃ (o7 o8 o9 o10 o11 : Option D), ρ = [some (.dat (shopD s)), some (.dat (iD st)), some (.dat (fD Fm)), some (dL ((s.folk.map (·.1)).map PyData.str)), some (dB (safeB s st Fm)), some (dL (((reach st Fm).filter fun x => !goodB s x).map iD)), some (.obj (can (goods s))), o7, o8, o9, o10, o11, none, none], ⟨rfl, none, none, none, none, none, rfl⟩, fun i d ρ2 n2 hd ⟨e1, o7, o8, o9, o10, o11, e2⟩ => ?_, fun ρ2 n2 ⟨e1, o7, o8, o9, o10, o11, e2⟩ => ?_⟩
    · subst e1 e2
      have hi : i < Fm.length := by
        have := (List.getElem?_eq_some_iff.mp hd).1
        rwa [rngD_len] at this
      rw [rngD_get hi] at hd
      cases hd
      obtain ⟨hx, hx1, hx2⟩ := hand_at nd (k := i) (by rw [← fl]; exact hi)
      have gi : Fm[i]? = some (Fm.getD i []) := by rw [List.getD_eq_getElem?_getD, List.getElem?_eq_getElem hi]; rfl
      have gim := getD_mem hi
      generalize hlot : Fm.getD i [] = lot at gi gim
      have lz := t.lot_le lot gim
      have rest_len := t.fit.rest_lens i
      have rest_le := t.fit.rest_le i
      refine bx_name 7 rfl (.inl rfl) (.inl rfl) (by decide) ?_
      rw [Int.zero_add]
      refine sxs_cons (sx_asg 8 rfl (.inr rfl) (.inl rfl) (ex_call Ro (lk rfl) rfl (ax_cons (ex_var 0 rfl rfl rfl (ax_cons (ex_var 1 rfl rfl rfl (ax_cons (ex_var 2 rfl rfl rfl (ax_cons (ex_ix (ex_var 3 rfl rfl rfl (ex_var 7 rfl rfl rfl ⟨_, i, .str hx, .inr rfl, rfl, Int.natCast_nonneg _, ?_, ax_nil ⟨s, st, Fm, hx, i, rfl, tm, hx2, ?_⟩⟩))))))))))))
      · rw [Int.toNat_natCast, List.getElem?_map]
        show Option.map PyData.str (s.hands[i]?) = _
        rw [hx1]
        rfl
      refine sxs_cons (sx_if (tx_cmp (ex_cmp (ex_lc [("_law_spot", 13)] [false, false, false, false, false, false, false, false, true, false, false, false, false, false] (by dsimp only; decide +kernel) (by dsimp only; decide +kernel) (ix_tup (ex_ix (ex_var 2 rfl rfl rfl (ex_var 7 rfl rfl rfl ⟨_, i, sD lot, .inl rfl, rfl, Int.natCast_nonneg _, ?_, lot.map iD, rfl, ?_⟩))))))))
      · rw [Int.toNat_natCast, List.getElem?_map, gi]; rfl
      refine cl_filt (fun d => !decide (unI d ∈ restB s st Fm i)) (fun d => d) (by rw [List.length_map]; omega) (fun d hd => ?_) (.inl ?_)
      · obtain ⟨x, hx, rfl⟩ := List.mem_map.mp hd
        refine bx_name 13 rfl (.inl rfl) (.inr rfl) (by decide) (tx_cmp (ex_var 13 rfl rfl rfl (ex_var 8 rfl rfl rfl (o_niT (shp_iD x) (shp_sD _) ⟨_, rfl, rfl, ?_, fun _ => ex_var 13 rfl rfl rfl ⟨rfl, rfl⟩⟩))))
        rw [any_iD]
        show (!decide (x ∈ restB s st Fm i)) = !decide (unI (iD x) ∈ restB s st Fm i)
        rw [unI_iD]
      rw [filt_un lot fun x => decide (x ∈ restB s st Fm i)]
      refine ex_lst (ax_nil ⟨[], rfl, lk rfl, o_eq (shp_lst _) (shp_lst []) (ex_var 4 rfl rfl rfl (o_neB ⟨_, rfl, ?_⟩))⟩)
      rw [show PyData.list [] = .list (([] : List (List Int)).map iD) from rfl, eqv_lst, none_bad]
      have es : (lot.all fun x => decide (x ∈ restB s st Fm i)) = safeB s st Fm := by
        rw [Bool.eq_iff_iff, t.fit.safe_rest hi, hlot, List.all_eq_true]
        exact ⟨fun h x hx => of_decide_eq_true (h x hx), fun h x hx => decide_eq_true (h x hx)⟩
      rw [es, decide_eq_true rfl]
      refine ite0 (sxs_nil ?_)
      refine sxs_cons (sx_asg 9 rfl (.inl rfl) (.inl rfl) (ex_make C I (lk rfl) rfl (ax_cons (ex_tup (ax_cons (ex_var 1 rfl rfl rfl (ax_nil ⟨[iD st], rfl, lk rfl, ax_nil ⟨[st], s.m, rfl, lk rfl, ok.i1, ok.i2, fun x hx => (by rw [List.mem_singleton.mp hx]; exact tm.sl), ?_⟩⟩)))))))
      rw [obj_one]
      refine sxs_cons (sx_for [10] (ix_range1 rfl T.range (ex_callB "len" T.len (by decide +kernel) rfl (ax_cons (ex_var 2 rfl rfl rfl (ax_nil (b_len (.inl rfl) ⟨_, rfl, by omega, by rw [List.length_map]; omega, ?_⟩)))))))
      rw [Int.toNat_natCast, List.length_map]
      refine ⟨fun j ρ k => k = n2 ∧ ∃ (g : List (List Int)) (o10 : Option D), OkA s.m g (remF Fm i j) ∧ allS g (remF Fm i j) = reach st (Fm.eraseIdx i) ∧ ρ = [some (.dat (shopD s)), some (.dat (iD st)), some (.dat (fD Fm)), some (dL ((s.folk.map (·.1)).map PyData.str)), some (dB (safeB s st Fm)), some (dL (((reach st Fm).filter fun x => !goodB s x).map iD)), some (.obj (can (goods s))), some (dI i), some (.dat (sD (restB s st Fm i))), some (.obj g), o10, o11, none, none], ⟨rfl, [st], o10, ?_, ?_, rfl⟩, fun j d ρ3 n3 hd ⟨e1, g, o10, k1, k2, e2⟩ => ?_, fun ρ3 n3 ⟨e1, g, o10, k1, k2, e2⟩ => ?_⟩
      · exact tm.ers i
      · rfl
      · subst e1 e2
        have hj : j < Fm.length := by
          have := (List.getElem?_eq_some_iff.mp hd).1
          rwa [rngD_len] at this
        rw [rngD_get hj] at hd
        cases hd
        refine bx_name 10 rfl (.inl rfl) (.inl rfl) (by decide) ?_
        rw [Int.zero_add]
        refine sxs_one (sx_asg 9 rfl (.inl rfl) (.inl rfl) (ex_if (tx_cmp (ex_var 10 rfl rfl rfl (ex_var 7 rfl rfl rfl (o_neI ⟨_, rfl, ?_⟩))))))
        by_cases ej : j = i
        · subst ej
          rw [decide_eq_true rfl]
          rw [rem_skip hj] at k1 k2
          exact ite0 (ex_var 9 rfl rfl rfl ⟨rfl, g, some (dI j), k1, k2, rfl⟩)
        · rw [decide_eq_false (fun e => ej (Int.ofNat_inj.mp e))]
          have gj : Fm[j]? = some Fm[j] := List.getElem?_eq_getElem hj
          have gm : Fm[j] ∈ Fm := List.getElem_mem hj
          have lj := t.lot_le _ gm
          obtain ⟨_, aj, _, mj⟩ := tm.fam.ok _ gm
          rw [rem_step gj ej] at k1 k2
          obtain ⟨x1, x2, x3, x4⟩ := k1
          refine ite1 (ex_bin (ex_var 9 rfl rfl rfl (ex_make C I (lk rfl) rfl (ax_cons (ex_ix (ex_var 2 rfl rfl rfl (ex_var 10 rfl rfl rfl ⟨_, j, sD Fm[j], .inl rfl, rfl, Int.natCast_nonneg _, ?_, ax_nil ⟨Fm[j], s.m, rfl, by omega, ok.i1, ok.i2, mj, ?_⟩⟩)))))))
          · rw [Int.toNat_natCast, List.getElem?_map, gj]; rfl
          rw [can_self aj]
          exact o_addO C M1 (lk rfl) ⟨g, Fm[j], s.m, rfl, ok.i1, ok.i2, x1, x2, x3, rfl, can (cross g Fm[j]), some (dI j), x4, k2, rfl⟩
      · subst e1 e2
        rw [rngD_len, rem_end Fm hi] at k2
        have k2 : g = reach st (Fm.eraseIdx i) := k2
        subst k2
        obtain ⟨q1, q2⟩ := (tm.ers i).out
        have q2 : (reach st (Fm.eraseIdx i)).length ≤ max 1 62 := q2
        have cg := can_len (goods s)
        refine sxs_cons (sx_if (tx_cmp (ex_prop C P (lk rfl) (ex_meth2 C M2 (lk rfl) rfl (ex_var 9 rfl rfl rfl ⟨_, rfl, ax_cons (ex_var 6 rfl rfl rfl (ax_nil ⟨reach st (Fm.eraseIdx i), can (goods s), s.m, rfl, ok.i1, ok.i2, tm.ers_ne i, q1, fun k hk => goods_len k (mem_can.mp hk), by omega, by omega, _, rfl, _, rfl, ex_var 8 rfl rfl rfl (o_ne (shp_sD _) (shp_sD _) ⟨_, rfl, ?_⟩)⟩))⟩)))))
        rw [eqv_sD, can_rest (tm.ers_ne i) q1 goods_len (goods_nodup s)]
        rw [show decide (restL (reach st (Fm.eraseIdx i)) (goods s) = restB s st Fm i) = true from decide_eq_true rfl]
        refine ite0 (sxs_nil ?_)
        have c1 := cut_le (Fm.map sD) none (some (i : Int))
        have c2 := cut_le (Fm.map sD) (some ((i : Int) + 1)) none
        rw [List.length_map] at c1 c2
        refine sxs_cons (sx_asg 11 rfl (.inl rfl) (.inl rfl) (ex_bin (ex_bin (ex_sl (ex_var 2 rfl rfl rfl (px_none (px_some (ex_var 7 rfl rfl rfl ⟨_, rfl, .inl ⟨_, rfl, ?_⟩⟩))))))))
        refine ex_tup (ax_cons (ex_var 8 rfl rfl rfl (ax_nil ⟨[sD (restB s st Fm i)], rfl, lk rfl, o_addT (by show _ + 1 ≤ 1000; omega) ?_⟩)))
        refine ex_sl (ex_var 2 rfl rfl rfl (px_some (ex_bin (ex_var 7 rfl rfl rfl (ex_int (o_add ⟨_, rfl, px_none (.inl ⟨_, rfl, o_addT (by rw [List.length_append]; show _ + 1 + _ ≤ 1000; omega) ?_⟩)⟩))))))
        rw [← set_cut Fm i _ hi]
        refine sxs_one (sx_if ((tw_and (tx_cmp (ex_var 8 rfl rfl rfl (ex_tup (ax_nil ⟨[], rfl, by decide, o_ne (shp_sD _) (shp_sD []) ⟨_, rfl, ?_⟩⟩))))).tx))
        rw [show PyData.tuple [] = sD [] from rfl, eqv_sD]
        refine iteB (fun h1 => ?_) fun _ => ite0 (sxs_nil ⟨rfl, some (dI i), some (.dat (sD (restB s st Fm i))), some (.obj (reach st (Fm.eraseIdx i))), o10, some (.dat (fD (Fm.set i (restB s st Fm i)))), rfl⟩)
        have rne : restB s st Fm i ≠ [] := fun e => by rw [e] at h1; simp at h1
        obtain ⟨w1, w2⟩ := t.fit.widen hi rne
        refine tw_and1 (tx_not (tx_val (ex_call A (lk rfl) rfl (ax_cons (ex_var 0 rfl rfl rfl (ax_cons (ex_var 1 rfl rfl rfl (ax_cons (ex_var 11 rfl rfl rfl (ax_nil ⟨s, st, Fm.set i (restB s st Fm i), rfl, w1.tame w2, _, rfl, ?_⟩))))))))))
        rw [w2]
        exact ite0 (sxs_nil ⟨rfl, some (dI i), some (.dat (sD (restB s st Fm i))), some (.obj (reach st (Fm.eraseIdx i))), o10, some (.dat (fD (Fm.set i (restB s st Fm i)))), rfl⟩)
    · subst e1 e2
      refine sxs_one (sx_ret (ex_or (ex_not (ex_call Gr (lk rfl) rfl (ax_cons (ex_var 0 rfl rfl rfl (ax_cons (ex_var 1 rfl rfl rfl (ax_cons (ex_var 2 rfl rfl rfl (ax_nil ⟨s, st, Fm, rfl, tm, _, rfl, _, rfl, ?_⟩)))))))))))
      cases hg : greatB s st Fm with
      | false => exact ite1 r
      | true =>
        refine ite0 (ex_one (ex_var 4 rfl rfl rfl ?_))
        rw [great_safe hg]
        exact r
end
end DL
/-! The law's defs is_shifted_right, is_grown_right. -/
namespace DL
open PySem PySem.Spec L2 HS
theorem noS4 {x y z : Dat} : ∀ d ∈ [D.src, D.dat x, D.dat y, D.dat z], mine d = false := noS3
def sufD (ks : Nat → Nat) (F : Fml) : Fml := F.mapIdx fun i l => l.drop (ks i)
section
variable {G : Wd} {f : Addr} {fd : FuncData}
def f_shifted : Sig := fun ds n R => ∃ (s : Shop) (st : List Int) (F : Fml), ds = [.src, .dat (shopD s), .dat (iD st), .dat (fD F)] ∧ LF s st F ∧ n + 40 ≤ 100000 ∧ ∀ n', n ≤ n' → n' ≤ n + 40 → R (dB true) n'
theorem ok_shifted (T : Tp G) (C : Kf G) (I : Ini G 4 f_init) (P : Pg G "form" 1 f_form) (M : Mg G "shifted" 6 f_shift) (L : Sg G "_law_lot" 2 f_lot) (D0 : Sg G "_law_draw" 1 f_draw) (Mi : Sg G "_law_minus" 1 f_less) (A : Sg G "is_safe" 14 f_all_good) (W : Sg G "whole_states" 7 f_whole)
    (F : Fun G.K "_law_is_shifted_right" "_law_is_shifted_right" t_law_is_shifted_right f fd) (bd : Binds G.K fd ["_law_source_here", "_law_shop_here", "_law_begin_here", "_law_lots_here"] []) (hx : G.mg "_law_is_shifted_right" = some (.ref f)) : Sg G "_law_is_shifted_right" 17 f_shifted :=
  sg_def F sc_law_is_shifted_right bd hx (fun ds n R ⟨s, st, Fm, e, _⟩ => by subst e; exact ⟨rfl, noS3⟩) fun src ds n R ⟨s, st, Fm, e, t, hn, r⟩ => by
    subst e
    have tm := t.tame
    have ok := tm.ok
    have f1 := ok.f1
    have f2 := ok.f2
    have fl := tm.fam.len
    refine sxs_cons (sx_par 4 5 (by decide) rfl rfl rfl rfl (ex_ix (ex_call L (lk rfl) rfl (ax_cons (ex_var 0 rfl rfl rfl (ax_cons (ex_callB "len" T.len (by decide +kernel) rfl (ax_cons (ex_ix (ex_var 1 rfl rfl rfl (ex_int ⟨_, 0, _, .inl rfl, rfl, by decide, rfl, ax_nil (b_len (.inl rfl) (ax_cons (ex_int (ax_nil ⟨s.m, 1, ?_, ok.i1, ok.i10, by decide, by decide, by omega, fun l q1 q2 q3 q4 n1 n2 n3 => ex_int ?_⟩))))⟩)))))))))) (hw := sw_par rfl rfl rfl rfl rfl) (hk := rfl))
    · rw [List.length_map]; rfl
    obtain ⟨b, l', rfl⟩ : ∃ x y, l = x :: y := by cases l with | nil => exact absurd rfl q1 | cons x y => exact ⟨_, _, rfl⟩
    have hb : b.length = s.m := q4 b List.mem_cons_self
    refine ⟨_, 0, iD b, .inl rfl, rfl, by decide, rfl, ?_⟩
    refine ex_call D0 (lk rfl) rfl (ax_cons (ex_var 0 rfl rfl rfl (ax_cons (ex_callB "len" T.len (by decide +kernel) rfl (ax_cons (ex_var 3 rfl rfl rfl (ax_nil (b_len (.inl rfl) (ax_nil ⟨_, rfl, ?_, ?_, by omega, fun v v0 v1 => ⟨.inl rfl, ?_⟩⟩)))))))))
    · rw [List.length_map]; omega
    · rw [List.length_map]; omega
    rw [List.length_map] at v1
    obtain ⟨k, rfl⟩ : ∃ k : Nat, v = (k : Int) := ⟨v.toNat, by omega⟩
    have hk : k < Fm.length := by omega
    have gk : Fm[k]? = some (Fm.getD k []) := by rw [List.getD_eq_getElem?_getD, List.getElem?_eq_getElem hk]; rfl
    have gm := getD_mem hk
    have lz := t.lot_le _ gm
    obtain ⟨ne, asc, _, lens⟩ := tm.fam.ok _ gm
    have t2 := t.shift hk hb
    have tm2 := t2.tame
    have cz : (can (cross [b] (Fm.getD k []))).length ≤ 62 := by
      refine Nat.le_trans (can_len _) ?_
      rw [cross_count]
      show 1 * _ ≤ 62
      omega
    have c1 := cut_le (Fm.map sD) none (some (k : Int))
    have c2 := cut_le (Fm.map sD) (some ((k : Int) + 1)) none
    rw [List.length_map] at c1 c2
    refine sxs_cons (sx_asg 6 rfl (.inl rfl) (.inl rfl) (ex_bin (ex_bin (ex_sl (ex_var 3 rfl rfl rfl (px_none (px_some (ex_var 5 rfl rfl rfl ⟨_, rfl, .inl ⟨_, rfl, ?_⟩⟩))))))))
    refine ex_tup (ax_cons (ex_prop C P (lk rfl) (ex_meth2 C M (lk rfl) rfl (ex_make C I (lk rfl) rfl (ax_cons (ex_ix (ex_var 3 rfl rfl rfl (ex_var 5 rfl rfl rfl ⟨_, k, sD (Fm.getD k []), .inl rfl, rfl, Int.natCast_nonneg _, ?_, ax_nil ⟨Fm.getD k [], s.m, rfl, by omega, ok.i1, ok.i2, lens, _, rfl, ?_⟩⟩))))))))
    · rw [Int.toNat_natCast, List.getElem?_map, gk]; rfl
    rw [can_self asc]
    refine ax_cons (ex_var 4 rfl rfl rfl (ax_nil ⟨Fm.getD k [], b, s.m, rfl, ok.i1, ok.i2, ne, lens, hb, cz, _, rfl, _, rfl, ax_nil ⟨[sD (can (cross [b] (Fm.getD k [])))], rfl, lk rfl, o_addT (by show _ + 1 ≤ 1000; omega) ?_⟩⟩))
    refine ex_sl (ex_var 3 rfl rfl rfl (px_some (ex_bin (ex_var 5 rfl rfl rfl (ex_int (o_add ⟨_, rfl, px_none (.inl ⟨_, rfl, o_addT (by rw [List.length_append]; show _ + 1 + _ ≤ 1000; omega) ?_⟩)⟩))))))
    rw [← set_cut Fm k _ hk]
    refine sxs_cons (sx_asg 7 rfl (.inl rfl) (.inl rfl) (ex_call Mi (lk rfl) rfl (ax_cons (ex_var 2 rfl rfl rfl (ax_cons (ex_var 4 rfl rfl rfl (ax_nil ⟨st, b, rfl, by rw [hb]; exact tm.sl, by rw [tm.sl]; exact ok.i2, ?_⟩)))))))
    refine sxs_cons (sx_if (tx_cmp (ex_call W (lk rfl) rfl (ax_cons (ex_var 1 rfl rfl rfl (ax_cons (ex_var 7 rfl rfl rfl (ax_cons (ex_var 6 rfl rfl rfl (ax_nil ⟨s, sub st b, shiftF Fm k b, rfl, tm2, ?_⟩))))))))))
    refine ex_call W (lk rfl) rfl (ax_cons (ex_var 1 rfl rfl rfl (ax_cons (ex_var 2 rfl rfl rfl (ax_cons (ex_var 3 rfl rfl rfl (ax_nil ⟨s, st, Fm, rfl, tm, o_ne (shp_sD _) (shp_sD _) ⟨_, rfl, ?_⟩⟩)))))))
    rw [eqv_sD, shift_reach t.fit hk hb, decide_eq_true rfl]
    refine ite0 (sxs_nil ?_)
    refine sxs_one (sx_ret (ex_cmp (ex_call A (lk rfl) rfl (ax_cons (ex_var 1 rfl rfl rfl (ax_cons (ex_var 7 rfl rfl rfl (ax_cons (ex_var 6 rfl rfl rfl (ax_nil ⟨s, sub st b, shiftF Fm k b, rfl, tm2, ?_⟩))))))))))
    refine ex_call A (lk rfl) rfl (ax_cons (ex_var 1 rfl rfl rfl (ax_cons (ex_var 2 rfl rfl rfl (ax_cons (ex_var 3 rfl rfl rfl (ax_nil ⟨s, st, Fm, rfl, tm, o_eqB ?_⟩)))))))
    rw [shift_safe t.fit hk hb, decide_eq_true rfl]
    exact r _ (by omega) (by omega)
end
end DL
/-! The law's def is_grown_right. -/
namespace DL
open PySem PySem.Spec L2 HS
theorem order_ok {s : Shop} {hs : List Str} (hm : ∀ h ∈ hs, h ∈ s.hands) : (∀ k ∈ orderL s hs, k < s.folk.length) ∧ ∀ k, k < s.folk.length → k ∈ orderL s hs := by
  refine ⟨fun k hk => ?_, fun k hk => List.mem_append.mpr (.inr (List.mem_range.mpr hk))⟩
  rcases List.mem_append.mp hk with hk | hk
  · obtain ⟨h, hh, rfl⟩ := List.mem_map.mp hk
    exact hand_lt (hm h hh)
  · exact List.mem_range.mp hk
theorem getD_snoc (Q : Fml) (l : List (List Int)) (i : Nat) : (Q ++ [l]).getD i [] = if i < Q.length then Q.getD i [] else if i = Q.length then l else [] := by
  rw [List.getD_eq_getElem?_getD]
  by_cases h : i < Q.length
  · rw [if_pos h, List.getElem?_append_left h, List.getD_eq_getElem?_getD]
  · rw [if_neg h, List.getElem?_append_right (by omega)]
    by_cases e : i = Q.length
    · rw [if_pos e, e, Nat.sub_self]; rfl
    · rw [if_neg e, List.getElem?_eq_none (by show 1 ≤ _; omega)]; rfl
structure Wide (s : Shop) (st : List Int) (F W : Fml) : Prop where
  safe : Safe s st W
  great : greatB s st W = true
  sub : ∀ j, ∀ y ∈ F.getD j [], y ∈ W.getD j []
  len : W.length = F.length
theorem Safe.wide {s : Shop} {st : List Int} {F : Fml} (t : Safe s st F) {hs : List Str} (hm : ∀ h ∈ hs, h ∈ s.hands) : Wide s st F (growL s st (orderL s hs) [] F) := by
  obtain ⟨o1, o2⟩ := order_ok hm
  have fl := t.fit.fam.len
  obtain ⟨a, b, c⟩ := t.grown (ks := orderL s hs) (fun k hk => by rw [fl]; exact o1 k hk) (fun k hk => o2 k (by rw [← fl]; exact hk))
  exact ⟨a, b, c, grow_len s st _ _ F⟩
theorem Wide.fix {s : Shop} {st : List Int} {F W : Fml} (w : Wide s st F W) : growL s st (orderL s []) [] W = W :=
  great_fix w.great _ _ fun k hk => by rw [w.safe.fit.fam.len]; exact (order_ok (s := s) (hs := []) fun h hh => by cases hh).1 k hk
theorem fam_at {s : Shop} {F : Fml} (h : Fam s F) {j : Nat} (hj : j < F.length) : F.getD j [] ≠ [] ∧ Asc (F.getD j []) ∧ (F.getD j []).length ≤ 900 ∧ ∀ k ∈ F.getD j [], k.length = s.m := h.ok _ (getD_mem hj)
theorem Wide.part {s : Shop} {st : List Int} {F W Q : Fml} (w : Wide s st F W) (hl : Q.length = W.length) (h : ∀ i, i < Q.length → Q.getD i [] ≠ [] ∧ (Q.getD i []).Sublist (W.getD i [])) : Safe s st Q := by
  have fw := w.safe.fit
  refine ⟨⟨fw.ok, fw.sl, ⟨by rw [hl]; exact fw.fam.len, fun o ho => ?_⟩⟩, fw.sub_safe w.safe.safe hl fun k y hy => ?_⟩
  · obtain ⟨i, hi, e⟩ := List.mem_iff_getElem.mp ho
    have e2 : Q.getD i [] = o := by rw [List.getD_eq_getElem?_getD, List.getElem?_eq_getElem hi]; exact e
    obtain ⟨h1, h2⟩ := h i hi
    rw [e2] at h1 h2
    obtain ⟨q1, q2, q3, q4⟩ := fam_at fw.fam (j := i) (by omega)
    exact ⟨h1, q2.sublist h2, Nat.le_trans h2.length_le q3, fun k hk => q4 k (h2.subset hk)⟩
  · by_cases hk : k < Q.length
    · exact (h k hk).2.subset hy
    · rw [List.getD_eq_getElem?_getD, List.getElem?_eq_none (by omega)] at hy
      cases hy
theorem Safe.len62 {s : Shop} {st : List Int} {F : Fml} (t : Safe s st F) {k : Nat} (hk : k < F.length) : (F.getD k []).length ≤ 62 := by
  have n1 := nodup_len _ (restB s st F k) (asc_nodup (fam_at t.fit.fam hk).2.1) ((t.fit.safe_rest hk).mp t.safe)
  have n2 := t.fit.rest_le k
  have n3 := goods_le t.fit.ok
  omega
theorem no_filt (xs : List Dat) : (xs.filter fun _ => false).map (fun d => d) = (([] : List (List Int)).map iD) := by
  rw [List.filter_eq_nil_iff.mpr fun a _ => by decide]
  rfl
section
variable {G : Wd} {f : Addr} {fd : FuncData}
def f_grownR : Sig := fun ds n R => ∃ (s : Shop) (st : List Int) (F : Fml), ds = [.src, .dat (shopD s), .dat (iD st), .dat (fD F)] ∧ Safe s st F ∧ s.hands.Nodup ∧ n + 40 ≤ 100000 ∧ ∀ n', n ≤ n' → n' ≤ n + 40 → R (dB true) n'
theorem ok_grownR (T : Tp G) (C : Kf G) (I : Ini G 4 f_init) (Mw : Mg G "within" 3 f_within) (D0 : Sg G "_law_draw" 1 f_draw) (An : Sg G "_law_any" 2 f_any) (A : Sg G "is_safe" 14 f_all_good) (Gn : Sg G "grown" 15 f_grown) (Gr : Sg G "is_greatest" 15 f_is_great) (Ro : Sg G "rest_of" 14 f_rest_of)
    (F : Fun G.K "_law_is_grown_right" "_law_is_grown_right" t_law_is_grown_right f fd) (bd : Binds G.K fd ["_law_source_here", "_law_shop_here", "_law_begin_here", "_law_lots_here"] []) (hx : G.mg "_law_is_grown_right" = some (.ref f)) : Sg G "_law_is_grown_right" 17 f_grownR :=
  sg_def F sc_law_is_grown_right bd hx (fun ds n R ⟨s, st, Fm, e, _⟩ => by subst e; exact ⟨rfl, noS3⟩) fun src ds n R ⟨s, st, Fm, e, t, nd, hn, r⟩ => by
    subst e
    have ok := t.fit.ok
    have f1 := ok.f1
    have f2 := ok.f2
    have fl := t.fit.fam.len
    have hl : s.hands.length = s.folk.length := by unfold Shop.hands; rw [List.length_map]
    refine sxs_cons (sx_asgLc 4 [("_law_row", 9)] [false, false, false, false, false, false, false, false, false, false, false, false] rfl rfl rfl (by dsimp only; decide +kernel) (by dsimp only; decide +kernel) rfl rfl (ix_tup (ex_ix (ex_var 1 rfl rfl rfl (ex_int ⟨_, 2, _, .inl rfl, rfl, by decide, rfl, s.folk.map (fun p => row p.1 p.2), rfl, ?_⟩)))))
    refine cl_map headS (by rw [List.length_map]; omega) (fun d hd => ?_) (.inl ?_)
    · obtain ⟨p, hp, rfl⟩ := List.mem_map.mp hd
      exact bx_name 9 rfl (.inl rfl) (.inr rfl) (by decide) (ex_ix (ex_var 9 rfl rfl rfl (ex_int ⟨_, 0, _, .inl rfl, rfl, by decide, rfl, rfl, rfl⟩)))
    rw [heads]
    have an : ∀ (xs : List Dat), xs = (s.folk.map (·.1)).map PyData.str → xs ≠ [] ∧ xs.length ≤ 1000 ∧ ∀ x ∈ xs, ∃ h ∈ s.hands, x = .str h := fun xs e => by
      subst e
      refine ⟨fun e => ?_, by rw [List.length_map, List.length_map]; omega, fun x hx => ?_⟩
      · have := congrArg List.length e
        rw [List.length_map, List.length_map] at this
        simp at this
        rw [this] at f1
        simp at f1
      · obtain ⟨h, hh, rfl⟩ := List.mem_map.mp hx
        exact ⟨h, hh, rfl⟩
    obtain ⟨an1, an2, an3⟩ := an _ rfl
    refine sxs_cons (sx_par 5 6 (by decide) rfl rfl rfl rfl (ex_call An (lk rfl) rfl (ax_cons (ex_var 0 rfl rfl rfl (ax_cons (ex_var 4 rfl rfl rfl (ax_nil ⟨_, _, rfl, .inr rfl, an1, an2, by omega, fun x hx => ?_⟩)))))) (hw := sw_par rfl rfl rfl rfl rfl) (hk := rfl))
    obtain ⟨h1, hh1, rfl⟩ := an3 x hx
    refine ex_call An (lk rfl) rfl (ax_cons (ex_var 0 rfl rfl rfl (ax_cons (ex_var 4 rfl rfl rfl (ax_nil ⟨_, _, rfl, .inr rfl, an1, an2, by omega, fun x hx => ⟨.inl rfl, ?_⟩⟩)))))
    obtain ⟨h2, hh2, rfl⟩ := an3 x hx
    have m0 : ∀ h ∈ ([] : List Str), h ∈ s.hands := fun h hh => by cases hh
    have m2 : ∀ h ∈ [h1, h2], h ∈ s.hands := fun h hh => by
      rcases List.mem_cons.mp hh with rfl | hh
      · exact hh1
      · rw [List.mem_singleton.mp hh]; exact hh2
    have w1 := t.wide m0
    have w2 := t.wide m2
    refine sxs_cons (sx_for [7] (ix_tup (ex_tup (ax_cons (ex_call Gn (lk rfl) rfl (ax_cons (ex_var 1 rfl rfl rfl (ax_cons (ex_var 2 rfl rfl rfl (ax_cons (ex_var 3 rfl rfl rfl (ax_nil ⟨s, st, Fm, [], rfl, lk rfl, t, m0, ?_⟩))))))))))))
    refine ax_cons (ex_call Gn (lk rfl) rfl (ax_cons (ex_var 1 rfl rfl rfl (ax_cons (ex_var 2 rfl rfl rfl (ax_cons (ex_var 3 rfl rfl rfl (ax_cons (ex_var 5 rfl rfl rfl (ax_cons (ex_var 6 rfl rfl rfl (ax_nil ⟨s, st, Fm, [h1, h2], rfl, lk rfl, t, m2, ax_nil ⟨[_, _], rfl, lk rfl, _, rfl, ?_⟩⟩))))))))))))
    refine ⟨fun i ρ k => n + 2 ≤ k ∧ k ≤ n + 2 + 10 * i ∧ ∃ (o7 o8 : Option D), ρ = [some .src, some (.dat (shopD s)), some (.dat (iD st)), some (.dat (fD Fm)), some (dL ((s.folk.map (·.1)).map PyData.str)), some (dS h1), some (dS h2), o7, o8, none, none, none], ⟨by omega, by omega, none, none, rfl⟩, fun i d ρ2 n2 hd ⟨k1, k2, o7, o8, e2⟩ => ?_, fun ρ2 n2 ⟨k1, k2, o7, o8, e2⟩ => ?_⟩
    · subst e2
      have hi : i < 2 := (List.getElem?_eq_some_iff.mp hd).1
      obtain ⟨W, rfl, w⟩ : ∃ W, d = fD W ∧ Wide s st Fm W := by
        match i, hd with
        | 0, hd => cases hd; exact ⟨_, rfl, w1⟩
        | 1, hd => cases hd; exact ⟨_, rfl, w2⟩
      have wl := w.len
      refine bx_name 7 rfl (.inr rfl) (.inl rfl) (by decide) ?_
      refine sxs_cons (sx_if ((tw_or (tx_not (tx_val (ex_call Gr (lk rfl) rfl (ax_cons (ex_var 1 rfl rfl rfl (ax_cons (ex_var 2 rfl rfl rfl (ax_cons (ex_var 7 rfl rfl rfl (ax_nil ⟨s, st, W, rfl, w.safe.tame, _, rfl, ?_⟩))))))))))).tx))
      rw [w.great]
      refine ite0 (tw_or1 (tx_cmp (ex_call Gn (lk rfl) rfl (ax_cons (ex_var 1 rfl rfl rfl (ax_cons (ex_var 2 rfl rfl rfl (ax_cons (ex_var 7 rfl rfl rfl (ax_nil ⟨s, st, W, [], rfl, lk rfl, w.safe, m0, ex_var 7 rfl rfl rfl (o_ne (shp_fD _) (shp_fD _) ⟨_, rfl, ?_⟩)⟩))))))))))
      rw [eqv_fD, w.fix, decide_eq_true rfl]
      refine ite0 (sxs_nil ?_)
      refine sxs_cons (sx_if (tx_cmp (ex_lc [("_law_k", 10)] [false, false, false, true, false, false, false, true, false, false, false, false] (by dsimp only; decide +kernel) (by dsimp only; decide +kernel) (ix_range1 rfl T.range (ex_callB "len" T.len (by decide +kernel) rfl (ax_cons (ex_var 3 rfl rfl rfl (ax_nil (b_len (.inl rfl) ⟨_, rfl, by omega, by rw [List.length_map]; omega, ?_⟩)))))))))
      rw [Int.toNat_natCast, List.length_map]
      refine cl_filt (fun _ => false) (fun d => d) (by rw [rngD_len]; omega) (fun d hd => ?_) (.inl ?_)
      · obtain ⟨k, hk, rfl⟩ := rng_mem hd
        have gk : Fm[k]? = some (Fm.getD k []) := by rw [List.getD_eq_getElem?_getD, List.getElem?_eq_getElem hk]; rfl
        have gw : W[k]? = some (W.getD k []) := by rw [List.getD_eq_getElem?_getD, List.getElem?_eq_getElem (by omega)]; rfl
        obtain ⟨_, a1, _, l1⟩ := fam_at t.fit.fam hk
        obtain ⟨_, a2, _, l2⟩ := fam_at w.safe.fit.fam (j := k) (by omega)
        have z1 := t.len62 hk
        have z2 := w.safe.len62 (k := k) (by omega)
        refine bx_name 10 rfl (.inl rfl) (.inr rfl) (by decide) (tx_not (tx_val (ex_meth2 C Mw (lk rfl) rfl (ex_make C I (lk rfl) rfl (ax_cons (ex_ix (ex_var 3 rfl rfl rfl (ex_var 10 rfl rfl rfl ⟨_, k, sD (Fm.getD k []), .inl rfl, rfl, Int.natCast_nonneg _, ?_, ax_nil ⟨Fm.getD k [], s.m, rfl, by omega, ok.i1, ok.i2, l1, _, rfl, ?_⟩⟩))))))))
        · rw [Int.toNat_natCast, List.getElem?_map, gk]; rfl
        refine ax_cons (ex_make C I (lk rfl) rfl (ax_cons (ex_ix (ex_var 7 rfl rfl rfl (ex_var 10 rfl rfl rfl ⟨_, k, sD (W.getD k []), .inl rfl, rfl, Int.natCast_nonneg _, ?_, ax_nil ⟨W.getD k [], s.m, rfl, by omega, ok.i1, ok.i2, l2, ax_nil ⟨can (Fm.getD k []), can (W.getD k []), s.m, rfl, ?_, fun x hx => l1 x (mem_can.mp hx), fun x hx => l2 x (mem_can.mp hx), ?_⟩⟩⟩)))))
        · rw [Int.toNat_natCast, List.getElem?_map, gw]; rfl
        · have := can_len (Fm.getD k []); omega
        · have e : ((can (Fm.getD k [])).all fun x => decide (x ∈ can (W.getD k []))) = true := List.all_eq_true.mpr fun x hx => decide_eq_true (mem_can.mpr (w.sub k x (mem_can.mp hx)))
          rw [e]
          exact ⟨_, rfl, rfl, rfl, fun h => by cases h⟩
      rw [no_filt]
      refine ex_lst (ax_nil ⟨[], rfl, lk rfl, o_ne (shp_lst []) (shp_lst []) ⟨_, rfl, ?_⟩⟩)
      rw [show PyData.list [] = .list (([] : List (List Int)).map iD) from rfl, eqv_lst, decide_eq_true rfl]
      refine ite0 (sxs_nil ?_)
      refine sxs_cons (sx_asg 8 rfl (.inl rfl) (.inl rfl) (ex_callT "tuple" T.tuple (by decide +kernel) rfl (ax_cons (ex_lc [("_law_lot_here", 11)] [true, false, false, false, false, false, false, false, false, false, false, false] (by dsimp only; decide +kernel) (by dsimp only; decide +kernel) (ix_tup (ex_var 7 rfl rfl rfl ⟨_, rfl, ?_⟩))))))
      refine ⟨by rw [List.length_map]; omega, fun j out n3 => ∃ Q : Fml, out = Q.map sD ∧ Q.length = j ∧ (∀ i, i < Q.length → Q.getD i [] ≠ [] ∧ (Q.getD i []).Sublist (W.getD i [])) ∧ n3 = n2 + j, ⟨[], rfl, rfl, fun i hi => (by simp at hi), rfl⟩, fun j d out n3 hd _ ⟨Q, e1, e2, e3, e4⟩ => ?_, fun out n3 ⟨Q, e1, e2, e3, e4⟩ => .inl ?_⟩
      · rw [List.getElem?_map] at hd
        cases hg : W[j]? with
        | none => rw [hg] at hd; cases hd
        | some l =>
          rw [hg] at hd
          cases hd
          have hj : j < W.length := (List.getElem?_eq_some_iff.mp hg).1
          have gl : W.getD j [] = l := by rw [List.getD_eq_getElem?_getD, hg]; rfl
          have lz := w.safe.len62 hj
          obtain ⟨lne, _, _, _⟩ := fam_at w.safe.fit.fam hj
          rw [gl] at lz lne
          have lp : 0 < l.length := List.length_pos_iff.mpr lne
          subst e4
          refine bx_name 11 rfl (.inl rfl) (.inr rfl) (by decide) (txs_nil (ite1 ?_))
          refine ex_sl (ex_var 11 rfl rfl rfl (px_some (ex_call D0 (lk rfl) rfl (ax_cons (ex_var 0 rfl rfl rfl (ax_cons (ex_callB "len" T.len (by decide +kernel) rfl (ax_cons (ex_var 11 rfl rfl rfl (ax_nil (b_len (.inl rfl) (ax_nil ⟨_, rfl, by rw [List.length_map]; omega, by rw [List.length_map]; omega, by omega, fun v v0 v1 => ⟨v, rfl, px_none (.inl ⟨_, rfl, sD (l.drop v.toNat), ?_, Q ++ [l.drop v.toNat], ?_, ?_, fun i hi => ?_, by omega⟩)⟩⟩))))))))))))
          · rw [cutD_lo _ v0, ← List.map_drop]; rfl
          · rw [e1, List.map_append]; rfl
          · rw [List.length_append, e2]; rfl
          · rw [List.length_map] at v1
            rw [getD_snoc]
            by_cases hq : i < Q.length
            · rw [if_pos hq]; exact e3 i hq
            · have hi2 : i = Q.length := by rw [List.length_append] at hi; simp at hi; omega
              rw [if_neg hq, if_pos hi2, hi2, e2, gl]
              refine ⟨fun e => ?_, List.drop_sublist _ _⟩
              have := congrArg List.length e
              rw [List.length_drop] at this
              simp at this
              omega
      · subst e1
        rw [List.length_map] at e2 e4
        have ps := w.part e2 e3
        refine ax_nil (b_tupL ?_)
        refine sxs_one (sx_if (tx_not (tx_val (ex_call A (lk rfl) rfl (ax_cons (ex_var 1 rfl rfl rfl (ax_cons (ex_var 2 rfl rfl rfl (ax_cons (ex_var 8 rfl rfl rfl (ax_nil ⟨s, st, Q, rfl, ps.tame, _, rfl, ?_⟩)))))))))))
        rw [ps.safe]
        exact ite0 (sxs_nil ⟨by omega, by omega, some (.dat (fD W)), some (.dat (fD Q)), rfl⟩)
    · subst e2
      have k2 : n2 ≤ n + 2 + 10 * 2 := k2
      have hF : 0 < Fm.length := by omega
      obtain ⟨hx, hx1, hx2⟩ := hand_at nd (k := 0) (by omega)
      have gw : (growL s st (orderL s []) [] Fm)[0]? = some ((growL s st (orderL s []) [] Fm).getD 0 []) := by
        rw [List.getD_eq_getElem?_getD, List.getElem?_eq_getElem (by rw [grow_len]; exact hF)]; rfl
      refine sxs_one (sx_ret (ex_cmp (ex_ix (ex_call Gn (lk rfl) rfl (ax_cons (ex_var 1 rfl rfl rfl (ax_cons (ex_var 2 rfl rfl rfl (ax_cons (ex_var 3 rfl rfl rfl (ax_nil ⟨s, st, Fm, [], rfl, lk rfl, t, m0, ex_int ⟨_, 0, sD ((growL s st (orderL s []) [] Fm).getD 0 []), .inl rfl, rfl, by decide, ?_, ?_⟩⟩)))))))))))
      · show ((growL s st (orderL s []) [] Fm).map sD)[0]? = _
        rw [List.getElem?_map, gw]; rfl
      refine ex_call Ro (lk rfl) rfl (ax_cons (ex_var 1 rfl rfl rfl (ax_cons (ex_var 2 rfl rfl rfl (ax_cons (ex_var 3 rfl rfl rfl (ax_cons (ex_ix (ex_var 4 rfl rfl rfl (ex_int ⟨_, 0, .str hx, .inr rfl, rfl, by decide, ?_, ax_nil ⟨s, st, Fm, hx, 0, rfl, t.tame, hx2, o_eq (shp_sD _) (shp_sD _) ?_⟩⟩))))))))))
      · show ((s.folk.map (·.1)).map PyData.str)[0]? = _
        rw [List.getElem?_map]
        show Option.map PyData.str (s.hands[0]?) = _
        rw [hx1]
        rfl
      have e0 : (growL s st (orderL s []) [] Fm).getD 0 [] = restB s st Fm 0 := by
        obtain ⟨q, hq⟩ : ∃ q, s.folk.length = q + 1 := ⟨s.folk.length - 1, by omega⟩
        have eo : orderL s [] = 0 :: (List.range q).map Nat.succ := by
          unfold orderL
          rw [hq, List.range_succ_eq_map]
          rfl
        rw [eo]
        refine t.grown0 (fun k hk => ?_) hF
        obtain ⟨j, hj, rfl⟩ := List.mem_map.mp hk
        have := List.mem_range.mp hj
        omega
      rw [eqv_sD, e0, decide_eq_true rfl]
      exact r n2 (by omega) (by omega)
end
end DL
/-! The law's shops: what holds of each. -/
namespace DL
open PySem PySem.Spec L2 HS
abbrev eC : Ex := .it "coins"
abbrev eK : Ex := .it "cards"
def items1 (low e : Int) : List (Str × Int × Int) := [("coins", low, low + 4 + e)]
def items2 (low : Int) : List (Str × Int × Int) := [("cards", 0, 2), ("coins", low, low + 2)]
def some1 (low : Int) : List (List Co) := [[], [.no (.eq eC (.lit (low + 2)))], [.no (.eq (.times eC eC) (.lit 1))], [.lt eC (.lit (low + 4))]]
def some2 (low : Int) : List (List Co) := [[.lt (.plus eC eK) (.lit (low + 4))], [.no (.eq eC eK)]]
theorem stepB_count (acc : List (List Int)) (p : Str × Int × Int) : (stepB acc p).length = acc.length * (p.2.2 + 1 - p.2.1).toNat := by
  unfold stepB
  induction acc with
  | nil => simp
  | cons a acc ih =>
    rw [List.flatMap_cons, List.length_append, ih, List.length_map]
    unfold rngI
    rw [List.length_map, List.length_range, List.length_cons, Nat.succ_mul, Nat.add_comm]
theorem box1 {low e : Int} (h0 : 0 ≤ e) (h1 : e < 5) : (box (items1 low e)).length ≤ 9 := by
  show (stepB [[]] ("coins", low, low + 4 + e)).length ≤ 9
  rw [stepB_count]
  show 1 * (low + 4 + e + 1 - low).toNat ≤ 9
  omega
theorem box2a : (stepB [[]] (("cards" : Str), (0 : Int), (2 : Int))).length = 3 := by rw [stepB_count]; rfl
theorem box2 (low : Int) : (box (items2 low)).length ≤ 9 := by
  show (stepB (stepB [[]] ("cards", 0, 2)) ("coins", low, low + 2)).length ≤ 9
  rw [stepB_count, box2a]
  show 3 * (low + 2 + 1 - low).toNat ≤ 9
  omega
theorem in1 {low e : Int} {st : List Int} (hl : st.length = 1) (h : inBox (items1 low e) st = true) : ∃ v, st = [v] ∧ low ≤ v ∧ v ≤ low + 4 + e := by
  match st, hl with
  | [v], _ =>
    refine ⟨v, rfl, ?_⟩
    have h' : (decide (low ≤ v) && decide (v ≤ low + 4 + e) && true) = true := h
    rw [Bool.and_true, Bool.and_eq_true] at h'
    exact ⟨of_decide_eq_true h'.1, of_decide_eq_true h'.2⟩
theorem in2 {low : Int} {st : List Int} (hl : st.length = 2) (h : inBox (items2 low) st = true) : ∃ c v, st = [c, v] ∧ low ≤ v ∧ v ≤ low + 2 := by
  match st, hl with
  | [c, v], _ =>
    refine ⟨c, v, rfl, ?_⟩
    have h' : (inB (("cards", 0, 2), c) && ((decide (low ≤ v) && decide (v ≤ low + 2)) && true)) = true := h
    rw [Bool.and_true, Bool.and_eq_true, Bool.and_eq_true] at h'
    exact ⟨of_decide_eq_true h'.2.1, of_decide_eq_true h'.2.2⟩
def ns1 : List Str := ["coins"]
def ns2 : List Str := ["cards", "coins"]
theorem shn1 : SeqAt.shaped (.list (ns1.map PyData.str)) = true := by decide +kernel
theorem shn2 : SeqAt.shaped (.list (ns2.map PyData.str)) = true := by decide +kernel
theorem okC1 (v : Int) : eC.Ok ns1 [v] := ⟨0, rfl, fun m hm => by omega, by show 0 < 1; decide, by decide +kernel⟩
theorem okC2 (c v : Int) : eC.Ok ns2 [c, v] := ⟨1, rfl, fun m hm e => by
  have : m = 0 := by omega
  subst this
  have e : (some ("cards" : Str)) = some "coins" := e
  exact absurd (Option.some.inj e) (by decide), by show 1 < 2; decide, by decide +kernel⟩
theorem okK2 (c v : Int) : eK.Ok ns2 [c, v] := ⟨0, rfl, fun m hm => by omega, by show 0 < 2; decide, by decide +kernel⟩
theorem valC1 (v : Int) : eC.val ns1 [v] = v := rfl
theorem valC2 (c v : Int) : eC.val ns2 [c, v] = v := rfl
theorem some1_ok {ns : List Str} {st : List Int} {low : Int} (h : eC.Ok ns st) (b1 : -(2 ^ 64) < eC.val ns st) (b2 : eC.val ns st < 2 ^ 64) : ∀ rs ∈ some1 low, ∀ c ∈ rs, c.Ok ns st := by
  intro rs hrs c hc
  unfold some1 at hrs
  simp only [List.mem_cons, List.not_mem_nil, or_false] at hrs
  rcases hrs with rfl | rfl | rfl | rfl
  · cases hc
  · rw [List.mem_singleton.mp hc]; exact ⟨h, trivial⟩
  · rw [List.mem_singleton.mp hc]; exact ⟨⟨h, h, b1, b2⟩, trivial⟩
  · rw [List.mem_singleton.mp hc]; exact ⟨h, trivial⟩
theorem some2_ok {ns : List Str} {st : List Int} {low : Int} (h : eC.Ok ns st) (h2 : eK.Ok ns st) : ∀ rs ∈ some2 low, ∀ c ∈ rs, c.Ok ns st := by
  intro rs hrs c hc
  unfold some2 at hrs
  simp only [List.mem_cons, List.not_mem_nil, or_false] at hrs
  rcases hrs with rfl | rfl
  · rw [List.mem_singleton.mp hc]; exact ⟨⟨h, h2⟩, trivial⟩
  · rw [List.mem_singleton.mp hc]; exact ⟨h, h2⟩
theorem some1_dep {low : Int} : ∀ rs ∈ some1 low, rs.length ≤ 900 ∧ ∀ c ∈ rs, c.dep ≤ 4 := by
  intro rs hrs
  unfold some1 at hrs
  simp only [List.mem_cons, List.not_mem_nil, or_false] at hrs
  rcases hrs with rfl | rfl | rfl | rfl
  · exact ⟨lk rfl, fun c hc => by cases hc⟩
  all_goals exact ⟨lk rfl, fun c hc => by rw [List.mem_singleton.mp hc]; exact lk rfl⟩
theorem some2_dep {low : Int} : ∀ rs ∈ some2 low, rs.length ≤ 900 ∧ ∀ c ∈ rs, c.dep ≤ 4 := by
  intro rs hrs
  unfold some2 at hrs
  simp only [List.mem_cons, List.not_mem_nil, or_false] at hrs
  rcases hrs with rfl | rfl
  all_goals exact ⟨lk rfl, fun c hc => by rw [List.mem_singleton.mp hc]; exact lk rfl⟩
theorem shop1_ok {low e : Int} {rs : List Co} {fk : List (Str × List Dat)} (l0 : -3 < low) (l1 : low ≤ 0) (e0 : 0 ≤ e) (e1 : e < 5) (hr : rs ∈ some1 low) (f1 : 1 ≤ fk.length) (f2 : fk.length ≤ 10) : Shop.Ok ⟨items1 low e, rs, fk⟩ := by
  have hd := some1_dep rs hr
  have hb := box1 (low := low) e0 e1
  refine ⟨lk rfl, lk rfl, lk rfl, by first | exact shn1 | exact shn2, hd.1, hd.2, fun st hl hi c hc => ?_, fun i => ?_, hb, fun p hp => ?_, f1, f2⟩
  · obtain ⟨v, rfl, v0, v1⟩ := in1 hl hi
    exact some1_ok (okC1 v) (by rw [valC1]; omega) (by rw [valC1]; omega) rs hr c hc
  · match i with
    | 0 => exact lk rfl
    | i + 1 =>
      have : (box ((items1 low e).take (i + 1))) = box (items1 low e) := by unfold items1; rw [List.take_succ_cons, List.take_nil]
      rw [this]
      omega
  · unfold items1 at hp
    rw [List.mem_singleton.mp hp]
    exact ⟨by show -1000 < low; omega, by show low < 1000; omega, by show -1000 < low + 4 + e; omega, by show low + 4 + e < 1000; omega⟩
theorem shop2_ok {low : Int} {rs : List Co} {fk : List (Str × List Dat)} (l0 : -3 < low) (l1 : low ≤ 0) (hr : rs ∈ some1 low ∨ rs ∈ some2 low) (f1 : 1 ≤ fk.length) (f2 : fk.length ≤ 10) : Shop.Ok ⟨items2 low, rs, fk⟩ := by
  have hd : rs.length ≤ 900 ∧ ∀ c ∈ rs, c.dep ≤ 4 := hr.elim (some1_dep rs) (some2_dep rs)
  have hb := box2 low
  refine ⟨lk rfl, lk rfl, lk rfl, by first | exact shn1 | exact shn2, hd.1, hd.2, fun st hl hi c hc => ?_, fun i => ?_, hb, fun p hp => ?_, f1, f2⟩
  · obtain ⟨k, v, rfl, v0, v1⟩ := in2 hl hi
    rcases hr with hr | hr
    · exact some1_ok (okC2 k v) (by rw [valC2]; omega) (by rw [valC2]; omega) rs hr c hc
    · exact some2_ok (okC2 k v) (okK2 k v) rs hr c hc
  · match i with
    | 0 => exact lk rfl
    | 1 =>
      show (stepB [[]] ("cards", 0, 2)).length ≤ 62
      rw [box2a]
      decide
    | i + 2 =>
      have : (box ((items2 low).take (i + 2))) = box (items2 low) := by unfold items2; rw [List.take_succ_cons, List.take_succ_cons, List.take_nil]
      rw [this]
      omega
  · unfold items2 at hp
    rcases List.mem_cons.mp hp with rfl | hp
    · exact ⟨by show (-1000 : Int) < 0; decide, by show (0 : Int) < 1000; decide, by show (-1000 : Int) < 2; decide, by show (2 : Int) < 1000; decide⟩
    · rw [List.mem_singleton.mp hp]
      exact ⟨by show -1000 < low; omega, by show low < 1000; omega, by show -1000 < low + 2; omega, by show low + 2 < 1000; omega⟩
end DL
/-! The law's def shop. -/
namespace DL
open PySem PySem.Spec L2 HS
def folkN : List Str := ["ann", "bob", "cid"]
abbrev rsD (rs : List Co) : Dat := .tuple (rs.map Co.dat)
section
variable {G : Wd} {f : Addr} {fd : FuncData}
def f_shop : Sig := fun ds n R => ds = [.src] ∧ n + 20 ≤ 100000 ∧ ∀ s : Shop, s.Ok → s.hands.Nodup → s.folk.length ≤ 3 → ∀ n', n ≤ n' → n' ≤ n + 20 → R (.dat (shopD s)) n'
theorem noSrc : ∀ d ∈ [D.src], mine d = false := fun d h => by rw [List.mem_singleton.mp h] <;> rfl
theorem shop_tail (T : Tp G) (D0 : Sg G "_law_draw" 1 f_draw) (An : Sg G "_law_any" 2 f_any) {src : Option Addr} {n : Nat} {R : D → Nat → Prop} (hn : n + 10 ≤ 100000) {its : List (Str × Int × Int)} {many : Int} {somes : List (List Co)} {o1 o2 o3 : Option D}
    (m1 : 1 ≤ many) (m2 : many ≤ 2) (ne : somes ≠ []) (sz : somes.length ≤ 10) (hok : ∀ rs ∈ somes, ∀ fk : List (Str × List Dat), 1 ≤ fk.length → fk.length ≤ 10 → Shop.Ok ⟨its, rs, fk⟩)
    (r : ∀ s : Shop, s.Ok → s.hands.Nodup → s.folk.length ≤ 3 → ∀ n', n ≤ n' → n' ≤ n + 10 → R (.dat (shopD s)) n') :
    SXs G ⟨N_law_shop, defScope t_law_shop, 2, src, fun _ => true⟩ ((defBody t_law_shop).drop 6) [some .src, o1, o2, o3, some (dI many), some (dT (its.map itD)), some (dL (somes.map rsD)), none, none] n { nx := fun _ n' => R (.dat .none) n', rt := R } := by
  refine sxs_cons (sx_asg 7 rfl (.inl rfl) (.inl rfl) (ex_lstO (ax_nil ⟨[], rfl, lk rfl, ?_⟩)))
  refine sxs_cons (sx_for [8] (ix_tup (ex_sl (ex_tup (ax_cons (ex_str (ax_cons (ex_str (ax_cons (ex_str (ax_nil ⟨folkN.map PyData.str, rfl, lk rfl, px_none (px_some (ex_bin (ex_int ?_)))⟩)))))))))))
  refine ex_callT "int" T.int (by decide +kernel) rfl (ax_cons (ex_cmp (ex_call D0 (lk rfl) rfl (ax_cons (ex_var 0 rfl rfl rfl (ax_cons (ex_int (ax_nil ⟨3, rfl, by decide, by decide, by omega, fun v v0 v1 => ex_int (o_eqI (ax_nil (b_intB (o_add ⟨_, rfl, .inl ⟨_, rfl, _, rfl, ?_⟩⟩))))⟩))))))))
  obtain ⟨u, hu, u2, u3⟩ : ∃ u : Nat, (2 + (if decide (v = 0) = true then 1 else 0) : Int) = (u : Int) ∧ 2 ≤ u ∧ u ≤ 3 := by
    by_cases h : v = 0
    · rw [decide_eq_true h]; exact ⟨3, rfl, by decide, by decide⟩
    · rw [decide_eq_false h]; exact ⟨2, rfl, by decide, by decide⟩
  rw [hu, cutD_hi _ (Int.natCast_nonneg _), Int.toNat_natCast]
  have nl : (folkN.take u).length = u := by rw [List.length_take]; show min u 3 = u; omega
  have el : ((folkN.map PyData.str).take u).length = u := by rw [← List.map_take, List.length_map, nl]
  refine ⟨fun i ρ k => n ≤ k ∧ k ≤ n + 1 + i ∧ ∃ (fk : List (Str × List Dat)) (o8 : Option D), fk.map (·.1) = (folkN.take u).take i ∧ ρ = [some .src, o1, o2, o3, some (dI many), some (dT (its.map itD)), some (dL (somes.map rsD)), some (.own (fk.map fun p => row p.1 p.2)), o8], ⟨by omega, by omega, [], none, rfl, rfl⟩, fun i d ρ2 n2 hd ⟨k1, k2, fk, o8, h1, e2⟩ => ?_, fun ρ2 n2 ⟨k1, k2, fk, o8, h1, e2⟩ => ?_⟩
  · subst e2
    have hi : i < u := by
      have := (List.getElem?_eq_some_iff.mp hd).1
      rwa [el] at this
    rw [← List.map_take, List.getElem?_map] at hd
    cases hg : (folkN.take u)[i]? with
    | none => rw [hg] at hd; cases hd
    | some g =>
      rw [hg] at hd
      cases hd
      have fz : fk.length ≤ 3 := by
        have := congrArg List.length h1
        rw [List.length_map, List.length_take, nl] at this
        omega
      refine bx_name 8 rfl (.inl rfl) (.inl rfl) (by decide) ?_
      refine sxs_one (sx_append (i := 7) (.s (.s (.s (.s (.s (.s (.s .z))))))) rfl (ex_tup (ax_cons (ex_var 8 rfl rfl rfl (ax_cons (ex_sl ?_))))))
      refine ex_tup (ax_cons (ex_tup (ax_cons (ex_str (ax_cons (ex_bin (ex_tup (ax_cons (ex_int (ax_nil ⟨[.int 1], rfl, lk rfl, ex_var 4 rfl rfl rfl (o_mulT (List.cons_ne_nil _ _) (by omega) (by omega) (lk rfl) (ax_nil ⟨[_, _], rfl, lk rfl, ?_⟩))⟩))))))))))
      refine ax_cons (ex_tup (ax_cons (ex_str (ax_cons (ex_bin (ex_tup (ax_cons (ex_neg (ax_nil ⟨[.int (-1)], rfl, lk rfl, ?_⟩)))))))))
      refine ex_bin (ex_tup (ax_cons (ex_int (ax_nil ⟨[.int 0], rfl, lk rfl, ex_bin (ex_var 4 rfl rfl rfl (ex_int (o_sub (o_mulT (List.cons_ne_nil _ _) (by omega) (by omega) (lk rfl) (o_addT ?_ (ax_nil ⟨[_, _], rfl, lk rfl, ax_nil ⟨[_, _], rfl, lk rfl, ?_⟩⟩))))))⟩))))
      · have e : ∀ j : Nat, (List.replicate j [PyData.int 0]).flatten.length = j := fun j => by rw [flat_len]; simp
        show 1 + (List.replicate (many - 1).toNat [PyData.int 0]).flatten.length ≤ 1000
        rw [e]
        omega
      · refine px_none (px_some (ex_call D0 (lk rfl) rfl (ax_cons (ex_var 0 rfl rfl rfl (ax_cons (ex_int (ax_nil ⟨3, rfl, by decide, by decide, by omega, fun w w0 w1 => ⟨w, rfl, .inl ⟨_, rfl, ax_nil ⟨[_, _], rfl, lk rfl, _, rfl, ?_, ?_⟩⟩⟩⟩)))))))
        · rw [List.length_map]; omega
        · refine ⟨by omega, by omega, fk ++ [(g, [.tuple (cutD [.tuple [.str "put", .tuple (List.replicate many.toNat [PyData.int 1]).flatten], .tuple [.str "take", .tuple ([PyData.int (-1)] ++ (List.replicate (many - 1).toNat [PyData.int 0]).flatten)]] none (some w))])], some (dS g), ?_, ?_⟩
          · rw [List.map_append, h1, List.take_add_one, hg]; rfl
          · rw [List.map_append]; rfl
  · subst e2
    rw [el] at k2 h1
    have h2 : fk.map (·.1) = folkN.take u := by rw [h1, List.take_take, Nat.min_self]
    have fl : fk.length = u := by have := congrArg List.length h2; rw [List.length_map, nl] at this; exact this
    have nd : (folkN.take u).Nodup := by
      match u, u2, u3 with
      | 2, _, _ => decide
      | 3, _, _ => decide
    refine sxs_frz 7 rfl (sxs_one (sx_ret (ex_tup (ax_cons (ex_var 5 rfl rfl rfl (ax_cons (ex_call An (lk rfl) rfl (ax_cons (ex_var 0 rfl rfl rfl (ax_cons (ex_var 6 rfl rfl rfl (ax_nil ⟨somes.map rsD, _, rfl, .inr rfl, fun e => ne (List.map_eq_nil_iff.mp e), by rw [List.length_map]; omega, by omega, fun x hx => ?_⟩))))))))))))
    obtain ⟨rs, hrs, rfl⟩ := List.mem_map.mp hx
    refine ax_cons (ex_callT "tuple" T.tuple (by decide +kernel) rfl (ax_cons (ex_var 7 rfl rfl rfl (ax_nil (b_tupL (ax_nil ⟨[_, _, _], rfl, lk rfl, ?_⟩))))))
    exact r ⟨its, rs, fk⟩ (hok rs hrs fk (by omega) (by omega)) (by show (fk.map (·.1)).Nodup; rw [h2]; exact nd) (by show fk.length ≤ 3; omega) _ (by omega) (by omega)
end
end DL
/-! Parts of the law's def shop: the lists of rules. -/
namespace DL
open PySem PySem.Spec L2 HS
section
variable {G : Wd} {c : Cxt} {ρ : Rho} {n : Nat} {R : D → Nat → Prop}
/-- a pair of data as a tuple -/
theorem ex_t1 {a : Expr} {x1 : Nat} {pos : Pos} (h : EX G c a ρ n fun d n1 => ∃ x, d = .dat x ∧ R (dT [x]) n1) (h1 : ∀ env, starEach [a] env = (false, eval a env) :: starEach [] env := by intro _; rfl) : EX G c (.Tuple [a] x1 pos) ρ n R :=
  ex_tup (ax_cons (ex_mono h fun d n ⟨x, e, r⟩ => ax_nil ⟨[x], by rw [e]; rfl, lk rfl, r⟩) h1)
theorem ex_t2 {a b : Expr} {x1 : Nat} {pos : Pos} (h : EX G c a ρ n fun d n1 => ∃ x, d = .dat x ∧ EX G c b ρ n1 fun d2 n2 => ∃ y, d2 = .dat y ∧ R (dT [x, y]) n2) (h1 : ∀ env, starEach [a, b] env = (false, eval a env) :: starEach [b] env := by intro _; rfl) (h2 : ∀ env, starEach [b] env = (false, eval b env) :: starEach [] env := by intro _; rfl) : EX G c (.Tuple [a, b] x1 pos) ρ n R :=
  ex_tup (ax_cons (ex_mono h fun d n ⟨x, e, h⟩ => ax_cons (ex_mono h fun d2 n ⟨y, e2, r⟩ => ax_nil ⟨[x, y], by rw [e, e2]; rfl, lk rfl, r⟩) h2) h1)
theorem ex_t3 {a b d : Expr} {x1 : Nat} {pos : Pos} (h : EX G c a ρ n fun d1 n1 => ∃ x, d1 = .dat x ∧ EX G c b ρ n1 fun d2 n2 => ∃ y, d2 = .dat y ∧ EX G c d ρ n2 fun d3 n3 => ∃ z, d3 = .dat z ∧ R (dT [x, y, z]) n3) (h1 : ∀ env, starEach [a, b, d] env = (false, eval a env) :: starEach [b, d] env := by intro _; rfl) (h2 : ∀ env, starEach [b, d] env = (false, eval b env) :: starEach [d] env := by intro _; rfl) (h3 : ∀ env, starEach [d] env = (false, eval d env) :: starEach [] env := by intro _; rfl) : EX G c (.Tuple [a, b, d] x1 pos) ρ n R :=
  ex_tup (ax_cons (ex_mono h fun d1 n ⟨x, e, h⟩ => ax_cons (ex_mono h fun d2 n ⟨y, e2, h⟩ => ax_cons (ex_mono h fun d3 n ⟨z, e3, r⟩ => ax_nil ⟨[x, y, z], by rw [e, e2, e3]; rfl, lk rfl, r⟩) h3) h2) h1)
theorem rule_no {x y : Dat} {a b : Expr} {w1 w2 : Str} {k1 k2 k3 k4 k5 : Nat} {p1 p2 p3 p4 p5 : Pos} (h1 : ∀ R, R (.dat x) n → EX G c a ρ n R) (h2 : ∀ R, R (.dat y) n → EX G c b ρ n R) (r : R (dT [.tuple [.str w1, .tuple [.str w2, x, y]]]) n)
    (ha : ∀ env, starEach [a, b] env = (false, eval a env) :: starEach [b] env) (hb : ∀ env, starEach [b] env = (false, eval b env) :: starEach [] env) :
    EX G c (.Tuple [.Tuple [.Constant (.str w1) k1 p1, .Tuple [.Constant (.str w2) k2 p2, a, b] k3 p3] k4 p4] k5 p5) ρ n R :=
  ex_t1 (ex_t2 (ex_str ⟨_, rfl, ex_t3 (ex_str ⟨_, rfl, h1 _ ⟨x, rfl, h2 _ ⟨y, rfl, _, rfl, _, rfl, r⟩⟩⟩) (by intro _; rfl) ha hb⟩))
theorem rule_lt {x y : Dat} {a b : Expr} {w2 : Str} {k2 k3 k4 : Nat} {p2 p3 p4 : Pos} (h1 : ∀ R, R (.dat x) n → EX G c a ρ n R) (h2 : ∀ R, R (.dat y) n → EX G c b ρ n R) (r : R (dT [.tuple [.str w2, x, y]]) n)
    (ha : ∀ env, starEach [a, b] env = (false, eval a env) :: starEach [b] env) (hb : ∀ env, starEach [b] env = (false, eval b env) :: starEach [] env) :
    EX G c (.Tuple [.Tuple [.Constant (.str w2) k2 p2, a, b] k3 p3] k4 p4) ρ n R :=
  ex_t1 (ex_t3 (ex_str ⟨_, rfl, h1 _ ⟨x, rfl, h2 _ ⟨y, rfl, _, rfl, r⟩⟩⟩) (by intro _; rfl) ha hb)
end
end DL
/-! The law's def shop, joined. -/
namespace DL
open PySem PySem.Spec L2 HS
section
variable {G : Wd} {f : Addr} {fd : FuncData}
theorem shop_vo {src : Option Addr} {ρ : Rho} {n : Nat} {p : Pos} {R : D → Nat → Prop} (h3 : ρ[3]? = some (some (.dat eC.dat))) (r : R (.dat eC.dat) n) : EX G ⟨N_law_shop, defScope t_law_shop, 2, src, fun _ => true⟩ (.Name "_law_one" p) ρ n R := ex_var 3 rfl h3 rfl r
theorem shop_low {src : Option Addr} {ρ : Rho} {n : Nat} {p : Pos} {low : Int} {R : D → Nat → Prop} (h2 : ρ[2]? = some (some (dI low))) (r : R (dI low) n) : EX G ⟨N_law_shop, defScope t_law_shop, 2, src, fun _ => true⟩ (.Name "_law_low" p) ρ n R := ex_var 2 rfl h2 rfl r
theorem shop_plus {src : Option Addr} {ρ : Rho} {n : Nat} {p p1 p2 : Pos} {low k : Int} {j : Nat} {R : D → Nat → Prop} (h2 : ρ[2]? = some (some (dI low))) (r : R (dI (low + k)) n) : EX G ⟨N_law_shop, defScope t_law_shop, 2, src, fun _ => true⟩ (.BinOp (.Name "_law_low" p) .Add (.Constant (.int k) j p2) p1) ρ n R := ex_bin (shop_low h2 (ex_int (o_add r)))
theorem shop_ck {c : Cxt} {ρ : Rho} {n : Nat} {p1 p2 p3 : Pos} {k1 k2 k3 : Nat} {R : D → Nat → Prop} (r : R (.dat eK.dat) n) : EX G c (.Tuple [.Constant (.str "item") k1 p1, .Constant (.str "cards") k2 p2] k3 p3) ρ n R := ex_t2 (ex_str ⟨_, rfl, ex_str ⟨_, rfl, r⟩⟩)
theorem shop_lst1 {src : Option Addr} {ρ : Rho} {n : Nat} {B : Bx} {low : Int} {st : Stmt} {sts : List Stmt} (e : (defBody t_law_shop).getD 4 (.Pass ⟨0, 0, 0, 0⟩) = st) (h3 : ρ[3]? = some (some (.dat eC.dat))) (h2 : ρ[2]? = some (some (dI low)))
    (rr : SXs G ⟨N_law_shop, defScope t_law_shop, 2, src, fun _ => true⟩ sts (ρ.set 6 (some (dL ((some1 low).map rsD)))) n B) : SXs G ⟨N_law_shop, defScope t_law_shop, 2, src, fun _ => true⟩ (st :: sts) ρ n B := by
  refine sxs_cons ?_
  subst e
  refine sx_asg 6 ?hx ?hl ?hf ?he ?hs
  case hx => rfl
  case hl => exact .inl rfl
  case hf => exact .inl rfl
  case hs => intro _; kernel_rfl
  refine ex_lst ?_
  refine ax_cons ?_
  refine ex_tup ?_
  refine ax_nil ⟨[], rfl, lk rfl, ?_⟩
  refine ax_cons ?_
  refine rule_no (x := eC.dat) (y := .int (low + 2)) ?h1 ?h2 ?r ?ha ?hb
  case h1 => exact fun R r => shop_vo h3 r
  case h2 => exact fun R r => shop_plus h2 r
  case ha => intro _; rfl
  case hb => intro _; rfl
  refine ax_cons ?_
  refine rule_no (x := .tuple [.str "*", eC.dat, eC.dat]) (y := .int 1) ?g1 ?g2 ?gr ?ga ?gb
  case g1 => exact fun R r => ex_t3 (ex_str ⟨_, rfl, shop_vo h3 ⟨_, rfl, shop_vo h3 ⟨_, rfl, r⟩⟩⟩)
  case g2 => exact fun R r => ex_int r
  case ga => intro _; rfl
  case gb => intro _; rfl
  refine ax_cons ?_
  refine rule_lt (x := eC.dat) (y := .int (low + 4)) ?i1 ?i2 ?ir ?ia ?ib
  case i1 => exact fun R r => shop_vo h3 r
  case i2 => exact fun R r => shop_plus h2 r
  case ia => intro _; rfl
  case ib => intro _; rfl
  exact ax_nil ⟨(some1 low).map rsD, rfl, lk rfl, rr⟩
abbrev ifBody : Stmt → List Stmt
  | .If _ b _ _ => b
  | _ => []
theorem shop_lst2 {src : Option Addr} {ρ : Rho} {n : Nat} {B : Bx} {low : Int} {st : Stmt} (e : (ifBody ((defBody t_law_shop).getD 5 (.Pass ⟨0, 0, 0, 0⟩))).headD (.Pass ⟨0, 0, 0, 0⟩) = st) (h3 : ρ[3]? = some (some (.dat eC.dat))) (h2 : ρ[2]? = some (some (dI low)))
    (rr : B.nx (ρ.set 6 (some (dL ((some2 low).map rsD)))) n) : SXs G ⟨N_law_shop, defScope t_law_shop, 2, src, fun _ => true⟩ [st] ρ n B := by
  refine sxs_one ?_
  subst e
  refine sx_asg 6 ?hx ?hl ?hf ?he ?hs
  case hx => rfl
  case hl => exact .inl rfl
  case hf => exact .inl rfl
  case hs => intro _; kernel_rfl
  refine ex_lst ?_
  refine ax_cons ?_
  refine rule_lt (x := .tuple [.str "+", eC.dat, eK.dat]) (y := .int (low + 4)) ?h1 ?h2 ?r ?ha ?hb
  case h1 => exact fun R r => ex_t3 (ex_str ⟨_, rfl, shop_vo h3 ⟨_, rfl, shop_ck ⟨_, rfl, r⟩⟩⟩)
  case h2 => exact fun R r => shop_plus h2 r
  case ha => intro _; rfl
  case hb => intro _; rfl
  refine ax_cons ?_
  refine rule_no (x := eC.dat) (y := eK.dat) ?g1 ?g2 ?gr ?ga ?gb
  case g1 => exact fun R r => shop_vo h3 r
  case g2 => exact fun R r => shop_ck r
  case ga => intro _; rfl
  case gb => intro _; rfl
  exact ax_nil ⟨(some2 low).map rsD, rfl, lk rfl, rr⟩
/-- a goal that is not looked into -/
structure Hid (p : Prop) : Prop where
  out : p
theorem shop_lst1H {src : Option Addr} {ρ : Rho} {n : Nat} {B : Bx} {low : Int} {st : Stmt} {sts : List Stmt} (e : (defBody t_law_shop).getD 4 (.Pass ⟨0, 0, 0, 0⟩) = st) (h3 : ρ[3]? = some (some (.dat eC.dat))) (h2 : ρ[2]? = some (some (dI low)))
    (rr : Hid (SXs G ⟨N_law_shop, defScope t_law_shop, 2, src, fun _ => true⟩ sts (ρ.set 6 (some (dL ((some1 low).map rsD)))) n B)) : Hid (SXs G ⟨N_law_shop, defScope t_law_shop, 2, src, fun _ => true⟩ (st :: sts) ρ n B) := ⟨shop_lst1 e h3 h2 rr.out⟩
theorem shop_lst2H {src : Option Addr} {ρ : Rho} {n : Nat} {B : Bx} {low : Int} {st : Stmt} (e : (ifBody ((defBody t_law_shop).getD 5 (.Pass ⟨0, 0, 0, 0⟩))).headD (.Pass ⟨0, 0, 0, 0⟩) = st) (h3 : ρ[3]? = some (some (.dat eC.dat))) (h2 : ρ[2]? = some (some (dI low)))
    (rr : Hid (B.nx (ρ.set 6 (some (dL ((some2 low).map rsD)))) n)) : Hid (SXs G ⟨N_law_shop, defScope t_law_shop, 2, src, fun _ => true⟩ [st] ρ n B) := ⟨shop_lst2 e h3 h2 rr.out⟩
end
end DL
/-! The law's def shop: its first half. -/
namespace DL
open PySem PySem.Spec L2 HS
section
variable {G : Wd} {f : Addr} {fd : FuncData}
theorem ok_shop (T : Tp G) (D0 : Sg G "_law_draw" 1 f_draw) (An : Sg G "_law_any" 2 f_any) (F : Fun G.K "_law_shop" "_law_shop" t_law_shop f fd) (bd : Binds G.K fd ["_law_source_here"] []) (hx : G.mg "_law_shop" = some (.ref f)) : Sg G "_law_shop" 3 f_shop :=
  sg_def F sc_law_shop bd hx (fun ds n R ⟨e, _⟩ => by subst e; exact ⟨rfl, noSrc⟩) fun src ds n R ⟨e, hn, r⟩ => by
    subst e
    refine sxs_cons (sx_par 1 2 (by decide) rfl rfl rfl rfl (ex_call D0 (lk rfl) rfl (ax_cons (ex_var 0 rfl rfl rfl (ax_cons (ex_int (ax_nil ⟨5, rfl, by decide, by decide, by omega, fun w w0 w1 => ex_bin (ex_int (ex_call D0 (lk rfl) rfl (ax_cons (ex_var 0 rfl rfl rfl (ax_cons (ex_int (ax_nil ⟨3, rfl, by decide, by decide, by omega, fun d d0 d1 => o_sub ⟨.inl rfl, ?_⟩⟩)))))))⟩)))))) (hw := sw_par rfl rfl rfl rfl rfl) (hk := rfl))
    obtain ⟨low, hl, l0, l1⟩ : ∃ low : Int, 0 - d = low ∧ -3 < low ∧ low ≤ 0 := ⟨_, rfl, by omega, by omega⟩
    rw [hl]
    refine sxs_cons (sx_asgT [3, 4] (ex_tup (ax_cons (ex_tup (ax_cons (ex_str (ax_cons (ex_str (ax_nil ⟨[.str "item", .str "coins"], rfl, lk rfl, ax_cons (ex_int (ax_nil ⟨[eC.dat, .int 1], rfl, lk rfl, _, rfl, bx_tup ⟨_, rfl, bxs_cons (bx_name 3 rfl (.inl rfl) (.inl rfl) (by decide) (bxs_cons (bx_name 4 rfl (.inl rfl) (.inl rfl) (by decide) (bxs_nil ?_)))), rfl⟩⟩))⟩)))))))) (hw := sw_fold rfl))
    refine sxs_cons (sx_asg 5 rfl (.inl rfl) (.inl rfl) (ex_tup (ax_cons (ex_tup (ax_cons (ex_str (ax_cons (ex_var 2 rfl rfl rfl (ax_cons (ex_bin (ex_bin (ex_var 2 rfl rfl rfl (ex_int (o_add ?_))))))))))))))
    refine ex_call D0 (lk rfl) rfl (ax_cons (ex_var 0 rfl rfl rfl (ax_cons (ex_int (ax_nil ⟨5, rfl, by decide, by decide, by omega, fun e e0 e1 => o_add (ax_nil ⟨[_, _, _], rfl, lk rfl, ax_nil ⟨[itD ("coins", low, low + 4 + e)], rfl, lk rfl, ?_⟩⟩)⟩)))))
    refine sxs_cons (sx_if (tx_cmp (ex_var 1 rfl rfl rfl (ex_int (o_gt ⟨_, rfl, ?_⟩)))))
    refine iteB (fun hw2 => ?_) fun hw2 => sxs_nil ?_
    · refine sxs_one (sx_par 5 4 (by decide) rfl rfl rfl rfl (ex_tup ?_) (hw := sw_par rfl rfl rfl rfl rfl) (hk := rfl))
      refine ax_cons ?_
      refine ex_tup ?_
      refine ax_cons (ex_str (ax_cons (ex_int (ax_cons (ex_int (ax_nil ⟨[_, _, _], rfl, lk rfl, ?_⟩))))))
      refine ax_cons ?_
      refine ex_tup ?_
      refine ax_cons (ex_str (ax_cons (ex_var 2 rfl rfl rfl (ax_cons (ex_bin (ex_var 2 rfl rfl rfl (ex_int (o_add (ax_nil ⟨[_, _, _], rfl, lk rfl, ?_⟩)))))))))
      refine ax_nil ⟨(items2 low).map itD, rfl, lk rfl, ?_⟩
      refine ex_int ⟨.inl rfl, ?_⟩
      refine Hid.out ?_
      dsimp only
      refine shop_lst1H (by kernel_rfl) rfl rfl ?_
      refine Hid.mk ?_
      refine sxs_cons (sx_if (tx_cmp (ex_var 1 rfl rfl rfl (ex_int (o_eqI ⟨_, rfl, ?_⟩)))))
      refine iteB (fun _ => ?_) fun _ => sxs_nil ?_
      · refine Hid.out ?_
        dsimp only
        refine shop_lst2H (by kernel_rfl) rfl rfl ?_
        refine Hid.mk ?_
        dsimp only
        exact shop_tail T D0 An (its := items2 low) (many := 2) (somes := some2 low) (by omega) (by decide) (by decide) (List.cons_ne_nil _ _) (lk rfl) (fun rs hrs fk f1 f2 => shop2_ok l0 l1 (.inr hrs) f1 f2) fun s q1 q2 q3 n' n1 n2 => r s q1 q2 q3 n' (by omega) (by omega)
      · exact shop_tail T D0 An (its := items2 low) (many := 2) (somes := some1 low) (by omega) (by decide) (by decide) (List.cons_ne_nil _ _) (lk rfl) (fun rs hrs fk f1 f2 => shop2_ok l0 l1 (.inl hrs) f1 f2) fun s q1 q2 q3 n' n1 n2 => r s q1 q2 q3 n' (by omega) (by omega)
    · refine Hid.out ?_
      dsimp only
      refine shop_lst1H (by kernel_rfl) rfl rfl ?_
      refine Hid.mk ?_
      refine sxs_cons (sx_if (tx_cmp (ex_var 1 rfl rfl rfl (ex_int (o_eqI ⟨_, rfl, ?_⟩)))))
      have nw : ¬ (w = 4) := fun e => by subst e; exact absurd hw2 (by decide)
      rw [decide_eq_false nw]
      refine ite0 (sxs_nil ?_)
      exact shop_tail T D0 An (its := items1 low e) (many := 1) (somes := some1 low) (by omega) (by decide) (by decide) (List.cons_ne_nil _ _) (lk rfl) (fun rs hrs fk f1 f2 => shop1_ok l0 l1 e0 e1 hrs f1 f2) fun s q1 q2 q3 n' n1 n2 => r s q1 q2 q3 n' (by omega) (by omega)
end
end DL
/-! The law's source; the law. -/
namespace DL
open PySem PySem.Spec L2 HS
section
variable {G : Wd} {f : Addr} {fd : FuncData}
def f_source : Sig := fun ds n R => ∃ ns : List Int, ds = [dL (ns.map PyData.int)] ∧ ns.length ≤ 63 ∧ R (.own [.list (ns.map PyData.int), .int 0, .int 0, .int 0]) n
theorem ok_source (F : Fun G.K "_law_source" "_law_source" t_law_source f fd) (bd : Binds G.K fd ["_law_script"] []) (hx : G.mg "_law_source" = some (.ref f)) : Sg G "_law_source" 1 f_source :=
  sg_def F sc_law_source bd hx (fun ds n R ⟨ns, e, _⟩ => by subst e; exact ⟨rfl, noM1⟩) fun src ds n R ⟨ns, e, hl, r⟩ => by
    subst e
    refine sxs_one (sx_ret (ex_lstO (ax_cons (ex_sl (ex_var 0 rfl rfl rfl (px_none (px_some (ex_int ⟨63, rfl, .inr ⟨_, rfl, .inl ?_⟩⟩))))))))
    rw [cutD_hi _ (by decide), List.take_of_length_le (by rw [List.length_map]; exact hl)]
    exact ax_cons (ex_int (ax_cons (ex_int (ax_cons (ex_int (ax_nil ⟨[_, _, _, _], rfl, lk rfl, r⟩))))))
/-- from here on the list in this slot is the source -/
theorem sxs_src {N : List Str} {sc : Scope} {k : Nat} {fn : Str → Bool} {sts : List Stmt} {ρ : Rho} {n : Nat} {R : D → Nat → Prop} {N0 : Rho → Nat → Prop} (i : Nat) (hi : ρ[i]? = some (some (.own [.list (G.ns.map PyData.int), .int 0, .int 0, .int 0])))
    (h : ∀ p, SXs G ⟨N, sc, k, some p, fn⟩ sts (ρ.set i (some .src)) n { nx := fun _ _ => False, rt := fun d n => (∃ x, d = .dat x) ∧ R d n }) : SXs G ⟨N, sc, k, none, fn⟩ sts ρ n { nx := N0, rt := R } := fun X lk L0 H0 pins s σ L H I sp w en => by
  obtain ⟨y, v, h1, h2, h3, p, xs, rfl, e2, _, e4, e5⟩ := en.at_ i _ hi
  have h0 : H0 p = none := en.own i _ p hi rfl h3
  have hl : i < ρ.length := (List.getElem?_eq_some_iff.mp hi).1
  have old : ∀ {j : Nat} {e : D}, i ≠ j → (ρ.set i (some .src))[j]? = some (some e) → ρ[j]? = some (some e) := fun {j e} hn q => by rwa [List.getElem?_set_ne hn] at q
  have new : ∀ {e : D}, (ρ.set i (some .src))[i]? = some (some e) → e = .src := fun {e} q => by
    rw [List.getElem?_set_self hl] at q; exact (Option.some.inj (Option.some.inj q)).symm
  have nm : ∀ {j : Nat} {e : D}, (ρ.set i (some .src))[j]? = some (some e) → mine e = true → i ≠ j := fun {j e} q m z => by
    subst z; rw [new q] at m; cases m
  have sa : SrcAt G.K G.ns L H p n := by
    cases e5 with
    | cons d1 r1 =>
      cases r1 with
      | cons d2 r2 =>
        cases r2 with
        | cons d3 r3 =>
          cases r3 with
          | cons d4 r4 =>
            cases r4
            obtain ⟨a, ys, rfl, g1, g2⟩ := dp_lst d1
            rw [dps_ints g2] at g1
            obtain rfl := dp_int d2
            obtain rfl := dp_int d3
            obtain rfl := dp_int d4
            exact ⟨a, G.ns, 0, 0, 0, e4, g1, Int.le_refl _, Int.le_refl _, Int.le_refl _, by omega, rfl⟩
  have lk2 : Like G ⟨N, sc, k, some p, fn⟩ X := ⟨lk.N, lk.nd, lk.sc, lk.prog, lk.w, lk.K, lk.mg, lk.base, lk.calm, lk.room, lk.fn, lk.xe⟩
  have sp2 : Step (some p) L0 H0 L H := ⟨fun a o q _ => sp.keep a o q (fun e => by cases e), sp.live, sp.grow, sp.frsh⟩
  have w2 : Wl G (some p) L H n := ⟨w.sub, fun q e => by cases e; exact ⟨e2, sa⟩, w.few⟩
  have en2 : En G ⟨N, sc, k, some p, fn⟩ H0 L H σ (ρ.set i (some .src)) := by
    refine ⟨en.len, fun j e q => ?_, fun j e q' q m r => en.own j e q' (old (nm q m) q) m r, fun j k e f q' hn q1 q2 m1 m2 r1 r2 => en.apart j k e f q' hn (old (nm q1 m1) q1) (old (nm q2 m2) q2) m1 m2 r1 r2⟩
    by_cases hj : i = j
    · subst hj
      rw [new q]
      exact ⟨y, .ref p, h1, h2, h3, p, rfl, rfl⟩
    · obtain ⟨y', u', g1, g2, g3, g4⟩ := en.at_ j e (old hj q)
      refine ⟨y', u', g1, g2, g3, ?_⟩
      have ne : ∀ {q : Addr}, u' = .ref q → mine e = true → (some p : Option Addr) ≠ some q := fun {q'} eu me z => by
        cases z
        exact en.apart i j _ e p hj hi (old hj q) rfl me h3 (by rw [g3, eu])
      cases e with
      | dat d => exact g4
      | src => obtain ⟨_, z, _⟩ := g4; cases z
      | own es => obtain ⟨q', zs, a1, a2, a3, a4, a5⟩ := g4; exact ⟨q', zs, a1, a2, ne a1 rfl, a4, a5⟩
      | dic ks => obtain ⟨q', a1, a2, a3, a4⟩ := g4; exact ⟨q', a1, a2, ne a1 rfl, a4⟩
      | fresh fa fx => obtain ⟨a1, a2, a3, a4⟩ := g4; exact ⟨a1, a2, ne a1 rfl, a4⟩
      | keys ks => exact g4
      | set ks => exact g4
      | ntup ds => exact g4
      | obj ks => exact g4
  refine thn (h p X lk2 L0 H0 pins s σ L H I sp2 w2 en2) fun fl s' z => sp_mono z (fun _ _ ⟨_, _, _, _, _, _, q⟩ => q.elim) (fun v H' ⟨d, L', n', s1, w1, i1, nw, ⟨x, ex⟩, r⟩ => ?_) (fun _ _ ⟨_, _, _, _, _, _, q⟩ => q.elim) fun _ _ ⟨_, _, _, _, _, _, q⟩ => q.elim
  subst ex
  exact ⟨.dat x, L', n', ⟨fun a o q _ => s1.keep a o q (fun e => by cases e; rw [h0] at q; cases q), s1.live, s1.grow, s1.frsh⟩, ⟨w1.sub, fun q e => (by cases e), w1.few⟩, i1, .no rfl, r⟩
abbrev forBody : Stmt → List Stmt
  | .For _ _ b _ _ => b
  | _ => []
abbrev lapBody : List Stmt := forBody ((defBody t_law).getD 1 (.Pass ⟨0, 0, 0, 0⟩))
abbrev pairD (p : List Int × Fml) : Dat := .tuple [iD p.1, fD p.2]
theorem lap_tail {s : Shop} {p : Addr} {n m : Nat} {x0 o2 o5 o6 o7 : Option D} {B : Bx} (Re : Sg G "_law_are_rests_right" 17 f_rests) (Sf : Sg G "_law_is_shifted_right" 17 f_shifted) (Gr : Sg G "_law_is_grown_right" 17 f_grownR) (A : Sg G "is_safe" 14 f_all_good) (nd : s.hands.Nodup)
    (ps : List (List Int × Fml)) (hp : ∀ q ∈ ps, LF s q.1 q.2) (hl : ps.length ≤ 2) (hn : n ≤ m) (hm : m + 160 ≤ 90000) (r : ∀ n' l o5 o6 o7, n' ≤ m + 160 → B.nx [x0, some .src, o2, some (.dat (shopD s)), l, o5, o6, o7] n') :
    SXs G ⟨N_law, defScope t_law, 17, some p, fun _ => true⟩ (lapBody.drop 4) [x0, some .src, o2, some (.dat (shopD s)), some (.own (ps.map pairD)), o5, o6, o7] n B := by
  refine sxs_frz 4 rfl (sxs_one (sx_for [6, 7] (ix_list (ex_var 4 rfl rfl rfl ⟨_, rfl, ?_⟩))))
  refine ⟨fun i ρ k => k ≤ n + 80 * i ∧ ∃ (o6 o7 : Option D), ρ = [x0, some .src, o2, some (.dat (shopD s)), some (dL (ps.map pairD)), o5, o6, o7], ⟨by omega, o6, o7, rfl⟩, fun i d ρ2 n2 hd ⟨k2, o6, o7, e2⟩ => ?_, fun ρ2 n2 ⟨k2, o6, o7, e2⟩ => ?_⟩
  · subst e2
    rw [List.getElem?_map] at hd
    cases hg : ps[i]? with
    | none => rw [hg] at hd; cases hd
    | some q =>
      rw [hg] at hd
      cases hd
      obtain ⟨st, F⟩ := q
      have t : LF s st F := hp _ (List.mem_of_getElem? hg)
      have hi : i < 2 := by have := (List.getElem?_eq_some_iff.mp hg).1; omega
      refine bx_tup ⟨_, rfl, bxs_cons (bx_name 6 rfl (.inl rfl) (.inl rfl) (by decide) (bxs_cons (bx_name 7 rfl (.inl rfl) (.inl rfl) (by decide) (bxs_nil ?_)))), rfl⟩
      refine sxs_cons (sx_if (tx_not (tx_val (ex_call Re (lk rfl) rfl (ax_cons (ex_var 3 rfl rfl rfl (ax_cons (ex_var 6 rfl rfl rfl (ax_cons (ex_var 7 rfl rfl rfl (ax_nil ⟨s, st, F, rfl, t, nd, true, rfl, ite0 (sxs_nil ?_)⟩)))))))))))
      refine sxs_cons (sx_if (tx_not (tx_val (ex_call Sf (lk rfl) rfl (ax_cons (ex_var 1 rfl rfl rfl (ax_cons (ex_var 3 rfl rfl rfl (ax_cons (ex_var 6 rfl rfl rfl (ax_cons (ex_var 7 rfl rfl rfl (ax_nil ⟨s, st, F, rfl, t, by omega, fun n3 a1 a2 => ⟨true, rfl, ite0 (sxs_nil ?_)⟩⟩)))))))))))))
      refine sxs_one (sx_if (tx_val (ex_call A (lk rfl) rfl (ax_cons (ex_var 3 rfl rfl rfl (ax_cons (ex_var 6 rfl rfl rfl (ax_cons (ex_var 7 rfl rfl rfl (ax_nil ⟨s, st, F, rfl, t.tame, _, rfl, ?_⟩))))))))))
      refine iteB (fun hs => ?_) fun _ => sxs_nil ⟨by omega, _, _, rfl⟩
      exact sxs_one (sx_if (tx_not (tx_val (ex_call Gr (lk rfl) rfl (ax_cons (ex_var 1 rfl rfl rfl (ax_cons (ex_var 3 rfl rfl rfl (ax_cons (ex_var 6 rfl rfl rfl (ax_cons (ex_var 7 rfl rfl rfl (ax_nil ⟨s, st, F, rfl, ⟨t.fit, hs⟩, nd, by omega, fun n4 b1 b2 => ⟨true, rfl, ite0 (sxs_nil ⟨by omega, _, _, rfl⟩)⟩⟩)))))))))))))
  · subst e2
    rw [List.length_map] at k2
    exact r _ _ _ _ _ (by omega)
theorem law_body (T : Tp G) (So : Sg G "_law_source" 1 f_source) (Sh : Sg G "_law_shop" 3 f_shop) (Be : Sg G "_law_begin" 8 f_begin) (Lo : Sg G "_law_lots" 3 f_lots) (Sa : Sg G "_law_safe" 9 f_safe) (Re : Sg G "_law_are_rests_right" 17 f_rests) (Sf : Sg G "_law_is_shifted_right" 17 f_shifted) (Gr : Sg G "_law_is_grown_right" 17 f_grownR) (A : Sg G "is_safe" 14 f_all_good) (hz : G.ns.length ≤ 63) :
    SXs G ⟨N_law, defScope t_law, 17, none, fun _ => true⟩ (defBody t_law) (rho0 N_law [dL (G.ns.map PyData.int)]) 0 { nx := fun _ _ => False, rt := fun d _ => d = dB true } := by
  refine sxs_cons (sx_asg 1 rfl (.inl rfl) (.inl rfl) (ex_call So (lk rfl) rfl (ax_cons (ex_var 0 rfl rfl rfl (ax_nil ⟨G.ns, rfl, hz, ?_⟩)))))
  refine sxs_src 1 rfl fun p => ?_
  refine sxs_cons (sx_for [2] (ix_range1 rfl T.range (ex_int ⟨4, rfl, by decide, by decide, ?_⟩)))
  refine ⟨fun i ρ k => k ≤ 1000 * i ∧ ∃ (o2 o3 o4 o5 o6 o7 : Option D), ρ = [some (dL (G.ns.map PyData.int)), some .src, o2, o3, o4, o5, o6, o7], ⟨by omega, none, none, none, none, none, none, rfl⟩, fun i d ρ2 n2 hd ⟨k2, o2, o3, o4, o5, o6, o7, e2⟩ => ?_, fun ρ2 n2 ⟨k2, o2, o3, o4, o5, o6, o7, e2⟩ => ?_⟩
  · subst e2
    have hi : i < 4 := (List.getElem?_eq_some_iff.mp hd).1
    have hd : (rngD 0 4)[i]? = some d := hd
    rw [rngD_get hi] at hd
    cases hd
    refine bx_name 2 rfl (.inl rfl) (.inl rfl) (by decide) ?_
    refine sxs_cons (sx_asg 3 rfl (.inl rfl) (.inl rfl) (ex_call Sh (lk rfl) rfl (ax_cons (ex_var 1 rfl rfl rfl (ax_nil ⟨rfl, by omega, fun s ok nd f3 n3 a1 a2 => ?_⟩)))))
    refine sxs_cons (sx_asg 4 rfl (.inl rfl) (.inl rfl) (ex_lstO (ax_cons (ex_tup (ax_cons (ex_call Be (lk rfl) rfl (ax_cons (ex_var 1 rfl rfl rfl (ax_cons (ex_var 3 rfl rfl rfl (ax_nil ⟨s, rfl, ok, by omega, fun st sl n4 b1 b2 => ?_⟩)))))))))))
    refine ax_cons (ex_call Lo (lk rfl) rfl (ax_cons (ex_var 1 rfl rfl rfl (ax_cons (ex_var 3 rfl rfl rfl (ax_nil ⟨s, rfl, ok, by omega, fun F fam f2 n5 c1 c2 => ax_nil ⟨[iD st, fD F], rfl, lk rfl, ax_nil ⟨[pairD (st, F)], rfl, lk rfl, ?_⟩⟩⟩))))))
    have t : LF s st F := ⟨⟨ok, sl, fam⟩, by rw [fam.len]; exact f3, .inl f2⟩
    refine sxs_cons (sx_asg 5 rfl (.inl rfl) (.inl rfl) (ex_call Sa (lk rfl) rfl (ax_cons (ex_var 1 rfl rfl rfl (ax_cons (ex_var 3 rfl rfl rfl (ax_nil ⟨s, rfl, ok, by omega, fun n6 d1 d2 => ?_, fun st2 F2 t2 n6 d1 d2 => ?_⟩)))))))
    · refine sxs_cons (sx_if (tx_notN (ex_var 5 rfl rfl rfl ⟨_, rfl, ite0 (sxs_nil ?_)⟩)))
      exact lap_tail (m := n6) Re Sf Gr A nd [(st, F)] (fun q hq => by rw [List.mem_singleton.mp hq]; exact t) (lk rfl) (Nat.le_refl _) (by omega) fun n' l o5 o6 o7 hn => ⟨by omega, _, _, _, _, _, _, rfl⟩
    · refine sxs_cons (sx_if (tx_notN (ex_var 5 rfl rfl rfl ⟨_, rfl, ite1 ?_⟩)))
      refine sxs_one (sx_append (i := 4) (.s (.s (.s (.s .z)))) rfl (ex_var 5 rfl rfl rfl ⟨_, rfl, lk rfl, ?_⟩))
      have t3 : LF s st2 F2 := t2.lf (by rw [t2.fit.fam.len]; exact f3)
      exact lap_tail (m := n6) Re Sf Gr A nd [(st, F), (st2, F2)] (fun q hq => by
        rcases List.mem_cons.mp hq with rfl | hq
        · exact t
        · rw [List.mem_singleton.mp hq]; exact t3) (lk rfl) (Nat.le_refl _) (by omega) fun n' l o5 o6 o7 hn => ⟨by omega, _, _, _, _, _, _, rfl⟩
  · subst e2
    exact sxs_one (sx_ret (ex_bl ⟨⟨_, rfl⟩, rfl⟩))
end
/-- the law, on a list of at most 63 ints -/
def spLaw (K : PySem.W.Frag) : Sp := fun vs H Q _ => ∃ (a : Addr) (ns : List Int), vs = [.ref a] ∧ SqL K H a (ns.map V.int) ∧ ns.length ≤ 63 ∧ ∀ H', Q (.bl true) H'
theorem ok_law {P : Program} {w : World} {K : PySem.W.Frag} {mg : Str → Option Value} {base : Heap} {C f : Addr} {fd : FuncData} (F : Fun K "law" "law" t_law f fd)
    (h : ∀ ns : List Int, ns.length ≤ 63 → SXs ⟨P, w, K, mg, base, C, ns⟩ ⟨N_law, defScope t_law, 17, none, fun _ => true⟩ (defBody t_law) (rho0 N_law [dL (ns.map PyData.int)]) 0 { nx := fun _ _ => False, rt := fun d _ => d = dB true }) :
    FnOk P w K mg base CX0 18 f fd ["_law_script"] (spLaw K) := by
  refine F.ok sc_law (fun vs H Q E h => ?_) (fun cdv A outer s H vs Q E hr h2 => ?_)
  · obtain ⟨a, ns, rfl, _⟩ := h
    rfl
  · obtain ⟨a, ns, rfl, hs, hl, q⟩ := h2
    have w0 : Wl ⟨P, w, K, mg, base, C, ns⟩ none H H 0 := ⟨fun _ _ z => z, fun p e => (by cases e), by decide⟩
    have i0 : IsAll ⟨P, w, K, mg, base, C, ns⟩ none H H [.ref a] [dL (ns.map PyData.int)] := .cons (Dp.lst hs (ints_dps ns)) .nil
    have en := en_start (G := ⟨P, w, K, mg, base, C, ns⟩) (c := ⟨N_law, defScope t_law, 17, none, fun _ => true⟩) rfl sc_law rfl noM1 i0
    refine ⟨_, pss_wp _, sxs_wp (h ns hl) (like_def sc_law hr) (.refl _ _ _) w0 en (fun σ H' ⟨_, _, _, _, _, _, z⟩ => z.elim) (fun v H' ⟨d, L', n', s', w', i', nw, r⟩ => ?_) (fun _ _ ⟨_, _, _, _, _, _, z⟩ => z.elim) fun _ _ ⟨_, _, _, _, _, _, z⟩ => z.elim⟩
    subst r
    rw [dp_bl i']
    exact q H'
end DL
/-! All defs joined. Printed by gen_end.py. -/
namespace DL
open PySem PySem.Spec L2 HS
structure DfAt (K : PySem.W.Frag) (mg : Str → Option Value) (x : Str) (st : Stmt) : Prop where
  ex : ∃ f fd, Fun K x x st f fd ∧ mg x = some (.ref f)
structure MtAt (K : PySem.W.Frag) (C : Addr) (m qual : Str) (st : Stmt) : Prop where
  ex : ∃ f fd, Fun K m qual st f fd ∧ Meth K C m f
structure IniAt (K : PySem.W.Frag) (C : Addr) : Prop where
  ex : ∃ f fd, Fun K "__init__" "Sums.__init__" t_Sums___init__ f fd ∧ Mk K C f
structure FormAt (K : PySem.W.Frag) (C : Addr) : Prop where
  ex : ∃ p f fd, Fun K "form" "Sums.form" t_Sums_form f fd ∧ PropOf K C "form" p f
theorem law_all {P : Program} {w : World} {K : PySem.W.Frag} {mg : Str → Option Value} {base : Heap} {C0 : Addr} {ns : List Int} (T : Tp ⟨P, w, K, mg, base, C0, ns⟩) (C : Kf ⟨P, w, K, mg, base, C0, ns⟩)
    (d_is_integer : DfAt K mg "is_integer" t_is_integer) (d_are : DfAt K mg "are_integers" t_are_integers) (d_added : DfAt K mg "added" t_added) (d_less : DfAt K mg "less" t_less) (d_hand_names : DfAt K mg "hand_names" t_hand_names) (d_names_of : DfAt K mg "names_of" t_names_of) (d_all_sums : DfAt K mg "all_sums" t_all_sums) (d_is_sum : DfAt K mg "is_sum" t_is_sum) (d_is_asc : DfAt K mg "is_ascending" t_is_ascending) (d_is_sums : DfAt K mg "is_sums" t_is_sums) (d_rest_set : DfAt K mg "rest_set" t_rest_set) (d_req_sums : DfAt K mg "require_sums" t_require_sums) (d_req_fam : DfAt K mg "require_family" t_require_family) (d_nonempty : DfAt K mg "is_nonempty_sum" t_is_nonempty_sum) (d_init : IniAt K C0) (d_form : FormAt K C0) (d_alike : MtAt K C0 "need_alike" "Sums.need_alike" t_Sums_need_alike) (d_within : MtAt K C0 "within" "Sums.within" t_Sums_within) (d_plus : MtAt K C0 "__add__" "Sums.__add__" t_Sums___add__) (d_shift : MtAt K C0 "shifted" "Sums.shifted" t_Sums_shifted) (d_rest_in : MtAt K C0 "rest_in" "Sums.rest_in" t_Sums_rest_in) (d_value : DfAt K mg "value_in" t_value_in) (d_holds : DfAt K mg "holds_in" t_holds_in) (d_worth : DfAt K mg "_law_worth_of" t_law_worth_of) (d_is_good : DfAt K mg "is_good" t_is_good) (d_good_states : DfAt K mg "good_states" t_good_states) (d_goods_of : DfAt K mg "goods_of" t_goods_of) (d_is_right : DfAt K mg "is_right" t_is_right) (d_need_family : DfAt K mg "need_family" t_need_family) (d_reached : DfAt K mg "reached_states" t_reached_states) (d_rest_beside : DfAt K mg "rest_beside" t_rest_beside) (d_all_good : DfAt K mg "all_good" t_all_good) (d_is_safe : DfAt K mg "is_safe" t_is_safe) (d_whole : DfAt K mg "whole_states" t_whole_states) (d_req_hands : DfAt K mg "require_hands" t_require_hands) (d_rest_of : DfAt K mg "rest_of" t_rest_of) (d_is_great : DfAt K mg "is_greatest" t_is_greatest) (d_grown : DfAt K mg "grown" t_grown) (d_draw : DfAt K mg "_law_draw" t_law_draw) (d_any : DfAt K mg "_law_any" t_law_any) (d_plus2 : DfAt K mg "_law_plus" t_law_plus) (d_minus2 : DfAt K mg "_law_minus" t_law_minus) (d_zero : DfAt K mg "_law_zero" t_law_zero) (d_joined : DfAt K mg "_law_joined" t_law_joined) (d_left : DfAt K mg "_law_left" t_law_left) (d_lot : DfAt K mg "_law_lot" t_law_lot) (d_lgoods : DfAt K mg "_law_goods" t_law_goods) (d_begin_ : DfAt K mg "_law_begin" t_law_begin) (d_lots : DfAt K mg "_law_lots" t_law_lots) (d_beside : DfAt K mg "_law_beside" t_law_beside) (d_safe : DfAt K mg "_law_safe" t_law_safe) (d_rests : DfAt K mg "_law_are_rests_right" t_law_are_rests_right) (d_shifted : DfAt K mg "_law_is_shifted_right" t_law_is_shifted_right) (d_grownR : DfAt K mg "_law_is_grown_right" t_law_is_grown_right) (d_shop : DfAt K mg "_law_shop" t_law_shop) (d_source : DfAt K mg "_law_source" t_law_source)
    (hz : ns.length ≤ 63) : SXs ⟨P, w, K, mg, base, C0, ns⟩ ⟨N_law, defScope t_law, 17, none, fun _ => true⟩ (defBody t_law) (rho0 N_law [dL (ns.map PyData.int)]) 0 { nx := fun _ _ => False, rt := fun d _ => d = dB true } := by
  obtain ⟨f, fd, F, M⟩ := d_is_integer.ex
  have s_is_integer := ok_is_integer (G := ⟨P, w, K, mg, base, C0, ns⟩) T F (F.binds (fun _ _ _ _ _ _ us hl => match us, hl with | [_], _ => rfl)) M
  obtain ⟨f, fd, F, M⟩ := d_are.ex
  have s_are := ok_are (G := ⟨P, w, K, mg, base, C0, ns⟩) T s_is_integer F (F.binds (fun _ _ _ _ _ _ us hl => match us, hl with | [_], _ => rfl)) M
  obtain ⟨f, fd, F, M⟩ := d_added.ex
  have s_added := ok_added (G := ⟨P, w, K, mg, base, C0, ns⟩) T F M (fun _ _ _ _ _ _ us rest hl => match us, rest, hl with | [_], [], _ => rfl | [_], _ :: _, _ => rfl)
  obtain ⟨f, fd, F, M⟩ := d_less.ex
  have s_less := ok_less (G := ⟨P, w, K, mg, base, C0, ns⟩) T F (F.binds (fun _ _ _ _ _ _ us hl => match us, hl with | [_, _], _ => rfl)) M
  obtain ⟨f, fd, F, M⟩ := d_hand_names.ex
  have s_hand_names := ok_hand_names (G := ⟨P, w, K, mg, base, C0, ns⟩) T F (F.binds (fun _ _ _ _ _ _ us hl => match us, hl with | [_], _ => rfl)) M
  obtain ⟨f, fd, F, M⟩ := d_names_of.ex
  have s_names_of := ok_names_of (G := ⟨P, w, K, mg, base, C0, ns⟩) T F (F.binds (fun _ _ _ _ _ _ us hl => match us, hl with | [_], _ => rfl)) M
  obtain ⟨f, fd, F, M⟩ := d_all_sums.ex
  have s_all_sums := ok_all_sums (G := ⟨P, w, K, mg, base, C0, ns⟩) T s_added F M (fun _ _ _ _ _ _ us rest hl => match us, rest, hl with | [_], [], _ => rfl | [_], _ :: _, _ => rfl)
  obtain ⟨f, fd, F, M⟩ := d_is_sum.ex
  have s_is_sum := ok_is_sum (G := ⟨P, w, K, mg, base, C0, ns⟩) T s_are F (F.binds (fun _ _ _ _ _ _ us hl => match us, hl with | [_, _], _ => rfl)) M
  obtain ⟨f, fd, F, M⟩ := d_is_asc.ex
  have s_is_asc := ok_is_asc (G := ⟨P, w, K, mg, base, C0, ns⟩) T F (F.binds (fun _ _ _ _ _ _ us hl => match us, hl with | [_], _ => rfl)) M
  obtain ⟨f, fd, F, M⟩ := d_is_sums.ex
  have s_is_sums := ok_is_sums (G := ⟨P, w, K, mg, base, C0, ns⟩) T s_is_sum s_is_asc F (F.binds (fun _ _ _ _ _ _ us hl => match us, hl with | [_, _], _ => rfl)) M
  obtain ⟨f, fd, F, M⟩ := d_rest_set.ex
  have s_rest_set := ok_rest_set (G := ⟨P, w, K, mg, base, C0, ns⟩) T s_added s_less F (F.binds (fun _ _ _ _ _ _ us hl => match us, hl with | [_, _], _ => rfl)) M
  obtain ⟨f, fd, F, M⟩ := d_req_sums.ex
  have s_req_sums := ok_req_sums (G := ⟨P, w, K, mg, base, C0, ns⟩)  F (F.binds (fun _ _ _ _ _ _ us hl => match us, hl with | [_, _, _], _ => rfl)) M
  obtain ⟨f, fd, F, M⟩ := d_req_fam.ex
  have s_req_fam := ok_req_fam (G := ⟨P, w, K, mg, base, C0, ns⟩)  F (F.binds (fun _ _ _ _ _ _ us hl => match us, hl with | [_, _, _], _ => rfl)) M
  obtain ⟨f, fd, F, M⟩ := d_nonempty.ex
  have s_nonempty := ok_nonempty (G := ⟨P, w, K, mg, base, C0, ns⟩) T s_are F (F.binds (fun _ _ _ _ _ _ us hl => match us, hl with | [_], _ => rfl)) M
  obtain ⟨f, fd, F, M⟩ := d_init.ex
  have s_init := ok_init (G := ⟨P, w, K, mg, base, C0, ns⟩) T C s_nonempty s_req_sums F (F.binds (fun _ _ _ _ _ _ us hl => match us, hl with | [_, _], _ => rfl)) M
  obtain ⟨p, f, fd, F, M⟩ := d_form.ex
  have s_form := ok_form (G := ⟨P, w, K, mg, base, C0, ns⟩) C F (F.binds (fun _ _ _ _ _ _ us hl => match us, hl with | [_], _ => rfl)) M
  obtain ⟨f, fd, F, M⟩ := d_alike.ex
  have s_alike := ok_alike (G := ⟨P, w, K, mg, base, C0, ns⟩) T C s_req_sums F (F.binds (fun _ _ _ _ _ _ us hl => match us, hl with | [_, _], _ => rfl)) M
  obtain ⟨f, fd, F, M⟩ := d_within.ex
  have s_within := ok_within (G := ⟨P, w, K, mg, base, C0, ns⟩) T C s_alike F (F.binds (fun _ _ _ _ _ _ us hl => match us, hl with | [_, _], _ => rfl)) M
  obtain ⟨f, fd, F, M⟩ := d_plus.ex
  have s_plus := ok_plus (G := ⟨P, w, K, mg, base, C0, ns⟩) T C s_alike s_all_sums s_init F (F.binds (fun _ _ _ _ _ _ us hl => match us, hl with | [_, _], _ => rfl)) M
  obtain ⟨f, fd, F, M⟩ := d_shift.ex
  have s_shift := ok_shift (G := ⟨P, w, K, mg, base, C0, ns⟩) T C s_req_sums s_nonempty s_all_sums s_init F (F.binds (fun _ _ _ _ _ _ us hl => match us, hl with | [_, _], _ => rfl)) M
  obtain ⟨f, fd, F, M⟩ := d_rest_in.ex
  have s_rest_in := ok_rest_in (G := ⟨P, w, K, mg, base, C0, ns⟩) T C s_req_sums s_alike s_rest_set s_init F (F.binds (fun _ _ _ _ _ _ us hl => match us, hl with | [_, _], _ => rfl)) M
  obtain ⟨f, fd, F, M⟩ := d_value.ex
  have s_value := ok_value (G := ⟨P, w, K, mg, base, C0, ns⟩) T s_is_integer s_names_of F (F.binds (fun _ _ _ _ _ _ us hl => match us, hl with | [_, _, _], _ => rfl)) M
  obtain ⟨f, fd, F, M⟩ := d_holds.ex
  have s_holds := ok_holds (G := ⟨P, w, K, mg, base, C0, ns⟩) T s_value F (F.binds (fun _ _ _ _ _ _ us hl => match us, hl with | [_, _, _], _ => rfl)) M
  obtain ⟨f, fd, F, M⟩ := d_worth.ex
  have s_worth := ok_worth (G := ⟨P, w, K, mg, base, C0, ns⟩) T F (F.binds (fun _ _ _ _ _ _ us hl => match us, hl with | [_, _, _], _ => rfl)) M
  obtain ⟨f, fd, F, M⟩ := d_is_good.ex
  have s_is_good := ok_is_good (G := ⟨P, w, K, mg, base, C0, ns⟩) T s_is_sum s_holds F (F.binds (fun _ _ _ _ _ _ us hl => match us, hl with | [_, _], _ => rfl)) M
  obtain ⟨f, fd, F, M⟩ := d_good_states.ex
  have s_good_states := ok_good_states (G := ⟨P, w, K, mg, base, C0, ns⟩) T s_is_good F (F.binds (fun _ _ _ _ _ _ us hl => match us, hl with | [_], _ => rfl)) M
  obtain ⟨f, fd, F, M⟩ := d_goods_of.ex
  have s_goods_of := ok_goods_of (G := ⟨P, w, K, mg, base, C0, ns⟩) T s_good_states F (F.binds (fun _ _ _ _ _ _ us hl => match us, hl with | [_], _ => rfl)) M
  obtain ⟨f, fd, F, M⟩ := d_is_right.ex
  have s_is_right := ok_is_right (G := ⟨P, w, K, mg, base, C0, ns⟩) T s_is_sums F (F.binds (fun _ _ _ _ _ _ us hl => match us, hl with | [_, _], _ => rfl)) M
  obtain ⟨f, fd, F, M⟩ := d_need_family.ex
  have s_need_family := ok_need_family (G := ⟨P, w, K, mg, base, C0, ns⟩) T s_req_fam s_is_right F (F.binds (fun _ _ _ _ _ _ us hl => match us, hl with | [_, _], _ => rfl)) M
  obtain ⟨f, fd, F, M⟩ := d_reached.ex
  have s_reached := ok_reached (G := ⟨P, w, K, mg, base, C0, ns⟩) T s_all_sums F (F.binds (fun _ _ _ _ _ _ us hl => match us, hl with | [_, _], _ => rfl)) M
  obtain ⟨f, fd, F, M⟩ := d_rest_beside.ex
  have s_rest_beside := ok_rest_beside (G := ⟨P, w, K, mg, base, C0, ns⟩) T s_rest_set s_reached s_goods_of F (F.binds (fun _ _ _ _ _ _ us hl => match us, hl with | [_, _, _, _], _ => rfl)) M
  obtain ⟨f, fd, F, M⟩ := d_all_good.ex
  have s_all_good := ok_all_good (G := ⟨P, w, K, mg, base, C0, ns⟩) T s_reached s_goods_of F (F.binds (fun _ _ _ _ _ _ us hl => match us, hl with | [_, _, _], _ => rfl)) M
  obtain ⟨f, fd, F, M⟩ := d_is_safe.ex
  have s_is_safe := ok_is_safe (G := ⟨P, w, K, mg, base, C0, ns⟩) s_need_family s_all_good F (F.binds (fun _ _ _ _ _ _ us hl => match us, hl with | [_, _, _], _ => rfl)) M
  obtain ⟨f, fd, F, M⟩ := d_whole.ex
  have s_whole := ok_whole (G := ⟨P, w, K, mg, base, C0, ns⟩) s_need_family s_reached F (F.binds (fun _ _ _ _ _ _ us hl => match us, hl with | [_, _, _], _ => rfl)) M
  obtain ⟨f, fd, F, M⟩ := d_req_hands.ex
  have s_req_hands := ok_req_hands (G := ⟨P, w, K, mg, base, C0, ns⟩) T s_hand_names F M (fun _ _ _ _ _ _ us rest hl => match us, rest, hl with | [_], [], _ => rfl | [_], _ :: _, _ => rfl)
  obtain ⟨f, fd, F, M⟩ := d_rest_of.ex
  have s_rest_of := ok_rest_of (G := ⟨P, w, K, mg, base, C0, ns⟩) s_hand_names s_req_hands s_need_family s_rest_beside F (F.binds (fun _ _ _ _ _ _ us hl => match us, hl with | [_, _, _, _], _ => rfl)) M
  obtain ⟨f, fd, F, M⟩ := d_is_great.ex
  have s_is_great := ok_is_great (G := ⟨P, w, K, mg, base, C0, ns⟩) T s_is_safe s_rest_beside F (F.binds (fun _ _ _ _ _ _ us hl => match us, hl with | [_, _, _], _ => rfl)) M
  obtain ⟨f, fd, F, M⟩ := d_grown.ex
  have s_grown := ok_grown (G := ⟨P, w, K, mg, base, C0, ns⟩) T s_hand_names s_req_hands s_req_fam s_is_safe s_rest_beside F M (fun _ _ _ _ _ _ us rest hl => match us, rest, hl with | [_, _, _], [], _ => rfl | [_, _, _], _ :: _, _ => rfl)
  obtain ⟨f, fd, F, M⟩ := d_draw.ex
  have s_draw := ok_draw (G := ⟨P, w, K, mg, base, C0, ns⟩) T F (F.binds (fun _ _ _ _ _ _ us hl => match us, hl with | [_, _], _ => rfl)) M
  obtain ⟨f, fd, F, M⟩ := d_any.ex
  have s_any := ok_any (G := ⟨P, w, K, mg, base, C0, ns⟩) T s_draw F (F.binds (fun _ _ _ _ _ _ us hl => match us, hl with | [_, _], _ => rfl)) M
  obtain ⟨f, fd, F, M⟩ := d_plus2.ex
  have s_plus2 := ok_plus2 (G := ⟨P, w, K, mg, base, C0, ns⟩) T F (F.binds (fun _ _ _ _ _ _ us hl => match us, hl with | [_, _], _ => rfl)) M
  obtain ⟨f, fd, F, M⟩ := d_minus2.ex
  have s_minus2 := ok_minus2 (G := ⟨P, w, K, mg, base, C0, ns⟩) T F (F.binds (fun _ _ _ _ _ _ us hl => match us, hl with | [_, _], _ => rfl)) M
  obtain ⟨f, fd, F, M⟩ := d_zero.ex
  have s_zero := ok_zero (G := ⟨P, w, K, mg, base, C0, ns⟩) T F (F.binds (fun _ _ _ _ _ _ us hl => match us, hl with | [_], _ => rfl)) M
  obtain ⟨f, fd, F, M⟩ := d_joined.ex
  have s_joined := ok_joined (G := ⟨P, w, K, mg, base, C0, ns⟩) T s_plus2 F (F.binds (fun _ _ _ _ _ _ us hl => match us, hl with | [_, _], _ => rfl)) M
  obtain ⟨f, fd, F, M⟩ := d_left.ex
  have s_left := ok_left (G := ⟨P, w, K, mg, base, C0, ns⟩) T s_plus2 s_minus2 F (F.binds (fun _ _ _ _ _ _ us hl => match us, hl with | [_, _], _ => rfl)) M
  obtain ⟨f, fd, F, M⟩ := d_lot.ex
  have s_lot := ok_lot (G := ⟨P, w, K, mg, base, C0, ns⟩) T s_draw F (F.binds (fun _ _ _ _ _ _ us hl => match us, hl with | [_, _, _], _ => rfl)) M
  obtain ⟨f, fd, F, M⟩ := d_lgoods.ex
  have s_lgoods := ok_lgoods (G := ⟨P, w, K, mg, base, C0, ns⟩) T s_worth F (F.binds (fun _ _ _ _ _ _ us hl => match us, hl with | [_], _ => rfl)) M
  obtain ⟨f, fd, F, M⟩ := d_begin_.ex
  have s_begin_ := ok_begin (G := ⟨P, w, K, mg, base, C0, ns⟩) T s_draw s_any s_lgoods F (F.binds (fun _ _ _ _ _ _ us hl => match us, hl with | [_, _], _ => rfl)) M
  obtain ⟨f, fd, F, M⟩ := d_lots.ex
  have s_lots := ok_lots (G := ⟨P, w, K, mg, base, C0, ns⟩) T s_lot F (F.binds (fun _ _ _ _ _ _ us hl => match us, hl with | [_, _], _ => rfl)) M
  obtain ⟨f, fd, F, M⟩ := d_beside.ex
  have s_beside := ok_beside (G := ⟨P, w, K, mg, base, C0, ns⟩) T s_joined s_left s_lgoods F (F.binds (fun _ _ _ _ _ _ us hl => match us, hl with | [_, _, _, _], _ => rfl)) M
  obtain ⟨f, fd, F, M⟩ := d_safe.ex
  have s_safe := ok_safe (G := ⟨P, w, K, mg, base, C0, ns⟩) T s_draw s_any s_zero s_beside s_lgoods F (F.binds (fun _ _ _ _ _ _ us hl => match us, hl with | [_, _], _ => rfl)) M
  obtain ⟨f, fd, F, M⟩ := d_rests.ex
  have s_rests := ok_rests (G := ⟨P, w, K, mg, base, C0, ns⟩) T C s_init s_form s_plus s_rest_in s_is_safe s_whole s_is_good s_good_states s_rest_of s_is_great F (F.binds (fun _ _ _ _ _ _ us hl => match us, hl with | [_, _, _], _ => rfl)) M
  obtain ⟨f, fd, F, M⟩ := d_shifted.ex
  have s_shifted := ok_shifted (G := ⟨P, w, K, mg, base, C0, ns⟩) T C s_init s_form s_shift s_lot s_draw s_minus2 s_is_safe s_whole F (F.binds (fun _ _ _ _ _ _ us hl => match us, hl with | [_, _, _, _], _ => rfl)) M
  obtain ⟨f, fd, F, M⟩ := d_grownR.ex
  have s_grownR := ok_grownR (G := ⟨P, w, K, mg, base, C0, ns⟩) T C s_init s_within s_draw s_any s_is_safe s_grown s_is_great s_rest_of F (F.binds (fun _ _ _ _ _ _ us hl => match us, hl with | [_, _, _, _], _ => rfl)) M
  obtain ⟨f, fd, F, M⟩ := d_shop.ex
  have s_shop := ok_shop (G := ⟨P, w, K, mg, base, C0, ns⟩) T s_draw s_any F (F.binds (fun _ _ _ _ _ _ us hl => match us, hl with | [_], _ => rfl)) M
  obtain ⟨f, fd, F, M⟩ := d_source.ex
  have s_source := ok_source (G := ⟨P, w, K, mg, base, C0, ns⟩)  F (F.binds (fun _ _ _ _ _ _ us hl => match us, hl with | [_], _ => rfl)) M
  exact law_body T s_source s_shop s_begin_ s_lots s_safe s_rests s_shifted s_grownR s_is_safe hz
theorem df_of {K : PySem.W.Frag} {h : Heap} {mg : Str → Option Value} (X : K.In h) (G : h.Ns mainGlobals mg) {x : Str} {st : Stmt} {f : Addr} {oc : Value} {od an : Option Addr} {osl : Array (Option Value)} {kV doc pm cdv ct : Value} (a : PySem.W.nsIn K mainGlobals x = some (some (.ref f)))
    (l : K.lookup f = some ⟨oc, od, .func (PySem.W.fnOf x x (defArgs st) (defBody st) (defScope st) .none kV doc pm an cdv ct), osl⟩) (c : PySem.W.codeIn K cdv x = true) (k : PySem.W.keepIn K (.ref f) = true) : DfAt K mg x st := ⟨_, _, fun_mk l c k, PySem.W.mg_of X G a⟩
theorem mt_of {K : PySem.W.Frag} {C : Addr} {m q : Str} {st : Stmt} {f : Addr} {oc : Value} {od an : Option Addr} {osl : Array (Option Value)} {kV doc pm cdv ct : Value} (a : PySem.W.findIn K (.ref C) m = some (some (.ref f))) (i : PySem.W.isFn K (.ref f) = true)
    (l : K.lookup f = some ⟨oc, od, .func (PySem.W.fnOf m q (defArgs st) (defBody st) (defScope st) .none kV doc pm an cdv ct), osl⟩) (c : PySem.W.codeIn K cdv q = true) (k : PySem.W.keepIn K (.ref f) = true) : MtAt K C m q st := ⟨_, _, fun_mk l c k, a, i, k⟩
theorem ini_of {K : PySem.W.Frag} {C : Addr} {f : Addr} {oc : Value} {od an : Option Addr} {osl : Array (Option Value)} {kV doc pm cdv ct : Value} (a : PySem.W.findIn K (.ref C) "__init__" = some (some (.ref f))) (i : PySem.W.isFn K (.ref f) = true)
    (l : K.lookup f = some ⟨oc, od, .func (PySem.W.fnOf "__init__" "Sums.__init__" (defArgs t_Sums___init__) (defBody t_Sums___init__) (defScope t_Sums___init__) .none kV doc pm an cdv ct), osl⟩) (c : PySem.W.codeIn K cdv "Sums.__init__" = true) (k : PySem.W.keepIn K (.ref f) = true)
    (mk : PySem.W.makesIn K C = true) (kc : PySem.W.keepIn K (.ref C) = true) : IniAt K C := ⟨_, _, fun_mk l c k, mk, a, i, kc⟩
theorem form_of {K : PySem.W.Frag} {C : Addr} {p f : Addr} {r : List Value} {oc : Value} {od an : Option Addr} {osl : Array (Option Value)} {kV doc pm cdv ct : Value} (a : PySem.W.findIn K (.ref C) "form" = some (some (.ref p))) (g : PySem.W.specialIn K (.ref p) "__get__" = some (some (.builtin "property.__get__"))) (t : PySem.W.takesIn K (.ref p) = some true) (e : PySem.W.recIn K p "property" = some (.ref f :: r))
    (l : K.lookup f = some ⟨oc, od, .func (PySem.W.fnOf "form" "Sums.form" (defArgs t_Sums_form) (defBody t_Sums_form) (defScope t_Sums_form) .none kV doc pm an cdv ct), osl⟩) (c : PySem.W.codeIn K cdv "Sums.form" = true) (k : PySem.W.keepIn K (.ref f) = true) : FormAt K C := ⟨_, _, _, fun_mk l c k, a, g, t, _, e⟩
structure TpK (K : PySem.W.Frag) : Prop where
  tuple_ : PySem.W.nsIn K mainGlobals "tuple" = some none
  list_ : PySem.W.nsIn K mainGlobals "list" = some none
  len_ : PySem.W.nsIn K mainGlobals "len" = some none
  all_ : PySem.W.nsIn K mainGlobals "all" = some none
  any_ : PySem.W.nsIn K mainGlobals "any" = some none
  isinstance_ : PySem.W.nsIn K mainGlobals "isinstance" = some none
  int_ : PySem.W.nsIn K mainGlobals "int" = some none
  bool_ : PySem.W.nsIn K mainGlobals "bool" = some none
  range_ : PySem.W.nsIn K mainGlobals "range" = some none
  zip_ : PySem.W.nsIn K mainGlobals "zip" = some none
  enumerate_ : PySem.W.nsIn K mainGlobals "enumerate" = some none
  sorted_ : PySem.W.nsIn K mainGlobals "sorted" = some none
  set_ : PySem.W.nsIn K mainGlobals "set" = some none
  dict_ : PySem.W.nsIn K mainGlobals "dict" = some none
structure KfK (K : PySem.W.Frag) (C : Addr) : Prop where
  cls : Cls K C
  no : NoAttr K C "own_sums"
  mg : PySem.W.nsIn K mainGlobals "Sums" = some (some (.ref C))
  first : PySem.W.selfFirst K C = true
theorem kf_of {K : PySem.W.Frag} {C : Addr} (m : PySem.W.nsIn K mainGlobals "Sums" = some (some (.ref C))) (pg : PySem.W.plainGet K C Str.empty = true) (hd : PySem.W.hasDictIn K C = true) (po : PySem.W.plainOver K C = true) (sa : PySem.W.findIn K (.ref C) "__setattr__" = some (some (.builtin "object.__setattr__")))
    (no : PySem.W.findIn K (.ref C) "own_sums" = some none) (f : PySem.W.selfFirst K C = true) : KfK K C := ⟨⟨pg, hd, po, sa⟩, no, m, f⟩
theorem all_mk {l : PySem.W.OpenLaw} {w : World} {K : PySem.W.Frag} {h : Heap} {mg : Str → Option Value} {fa C : Addr} (X : K.In h) (G : h.Ns mainGlobals mg) (hfa : mg "law" = some (.ref fa)) (tp : TpK K) (kf : KfK K C) (d_law : DfAt K mg "law" t_law)
    (d_is_integer : DfAt K mg "is_integer" t_is_integer) (d_are : DfAt K mg "are_integers" t_are_integers) (d_added : DfAt K mg "added" t_added) (d_less : DfAt K mg "less" t_less) (d_hand_names : DfAt K mg "hand_names" t_hand_names) (d_names_of : DfAt K mg "names_of" t_names_of) (d_all_sums : DfAt K mg "all_sums" t_all_sums) (d_is_sum : DfAt K mg "is_sum" t_is_sum) (d_is_asc : DfAt K mg "is_ascending" t_is_ascending) (d_is_sums : DfAt K mg "is_sums" t_is_sums) (d_rest_set : DfAt K mg "rest_set" t_rest_set) (d_req_sums : DfAt K mg "require_sums" t_require_sums) (d_req_fam : DfAt K mg "require_family" t_require_family) (d_nonempty : DfAt K mg "is_nonempty_sum" t_is_nonempty_sum) (d_init : IniAt K C) (d_form : FormAt K C) (d_alike : MtAt K C "need_alike" "Sums.need_alike" t_Sums_need_alike) (d_within : MtAt K C "within" "Sums.within" t_Sums_within) (d_plus : MtAt K C "__add__" "Sums.__add__" t_Sums___add__) (d_shift : MtAt K C "shifted" "Sums.shifted" t_Sums_shifted) (d_rest_in : MtAt K C "rest_in" "Sums.rest_in" t_Sums_rest_in) (d_value : DfAt K mg "value_in" t_value_in) (d_holds : DfAt K mg "holds_in" t_holds_in) (d_worth : DfAt K mg "_law_worth_of" t_law_worth_of) (d_is_good : DfAt K mg "is_good" t_is_good) (d_good_states : DfAt K mg "good_states" t_good_states) (d_goods_of : DfAt K mg "goods_of" t_goods_of) (d_is_right : DfAt K mg "is_right" t_is_right) (d_need_family : DfAt K mg "need_family" t_need_family) (d_reached : DfAt K mg "reached_states" t_reached_states) (d_rest_beside : DfAt K mg "rest_beside" t_rest_beside) (d_all_good : DfAt K mg "all_good" t_all_good) (d_is_safe : DfAt K mg "is_safe" t_is_safe) (d_whole : DfAt K mg "whole_states" t_whole_states) (d_req_hands : DfAt K mg "require_hands" t_require_hands) (d_rest_of : DfAt K mg "rest_of" t_rest_of) (d_is_great : DfAt K mg "is_greatest" t_is_greatest) (d_grown : DfAt K mg "grown" t_grown) (d_draw : DfAt K mg "_law_draw" t_law_draw) (d_any : DfAt K mg "_law_any" t_law_any) (d_plus2 : DfAt K mg "_law_plus" t_law_plus) (d_minus2 : DfAt K mg "_law_minus" t_law_minus) (d_zero : DfAt K mg "_law_zero" t_law_zero) (d_joined : DfAt K mg "_law_joined" t_law_joined) (d_left : DfAt K mg "_law_left" t_law_left) (d_lot : DfAt K mg "_law_lot" t_law_lot) (d_lgoods : DfAt K mg "_law_goods" t_law_goods) (d_begin_ : DfAt K mg "_law_begin" t_law_begin) (d_lots : DfAt K mg "_law_lots" t_law_lots) (d_beside : DfAt K mg "_law_beside" t_law_beside) (d_safe : DfAt K mg "_law_safe" t_law_safe) (d_rests : DfAt K mg "_law_are_rests_right" t_law_are_rests_right) (d_shifted : DfAt K mg "_law_is_shifted_right" t_law_is_shifted_right) (d_grownR : DfAt K mg "_law_is_grown_right" t_law_is_grown_right) (d_shop : DfAt K mg "_law_shop" t_law_shop) (d_source : DfAt K mg "_law_source" t_law_source) :
    ∃ fd : FuncData, (∀ (s : Shared) (v : Value), BindsTo s fd ⟨[v], []⟩ [("_law_script", v)]) ∧ ∀ base : Heap, K.In base → base.Ns mainGlobals mg → FnOk l.prog w K mg base CX0 18 fa fd ["_law_script"] (spLaw K) := by
  obtain ⟨f, fd, F, M⟩ := d_law.ex
  have e := hfa.symm.trans M
  cases e
  refine ⟨fd, ?_, fun base _ _ => ok_law (C := C) F fun ns hz => law_all ⟨PySem.W.mg_none_of X G tp.tuple_, PySem.W.mg_none_of X G tp.list_, PySem.W.mg_none_of X G tp.len_, PySem.W.mg_none_of X G tp.all_, PySem.W.mg_none_of X G tp.any_, PySem.W.mg_none_of X G tp.isinstance_, PySem.W.mg_none_of X G tp.int_, PySem.W.mg_none_of X G tp.bool_, PySem.W.mg_none_of X G tp.range_, PySem.W.mg_none_of X G tp.zip_, PySem.W.mg_none_of X G tp.enumerate_, PySem.W.mg_none_of X G tp.sorted_, PySem.W.mg_none_of X G tp.set_, PySem.W.mg_none_of X G tp.dict_⟩ ⟨kf.cls, kf.no, PySem.W.mg_of X G kf.mg, kf.first⟩ d_is_integer d_are d_added d_less d_hand_names d_names_of d_all_sums d_is_sum d_is_asc d_is_sums d_rest_set d_req_sums d_req_fam d_nonempty d_init d_form d_alike d_within d_plus d_shift d_rest_in d_value d_holds d_worth d_is_good d_good_states d_goods_of d_is_right d_need_family d_reached d_rest_beside d_all_good d_is_safe d_whole d_req_hands d_rest_of d_is_great d_grown d_draw d_any d_plus2 d_minus2 d_zero d_joined d_left d_lot d_lgoods d_begin_ d_lots d_beside d_safe d_rests d_shifted d_grownR d_shop d_source hz⟩
  obtain ⟨oc, od, kV, doc, pm, an, cdv, ct, osl, rfl, _⟩ := F.ex
  exact fun s v => .of_eq rfl
theorem walk {l : PySem.W.OpenLaw} {q : Program} {loose : List Str} {XP : (Str → Option Value) → Heap → Prop} {YP : World → Heap → Prop} {d : DefRec} {K : Params → PySem.W.Frag} (hn : l.most = some 63) (hdf : d.params.defaults = [])
    (hY : ∀ (w : World) (h : Heap), YP w h → (K w.params).In h)
    (F : ∀ (w : World) (mg : Str → Option Value) (fa : Addr) (h : Heap), (K w.params).In h → h.Ns mainGlobals mg → mg d.name = some (.ref fa) →
      ∃ fd : FuncData, (∀ (s : Shared) (u : Value), BindsTo s fd ⟨[u], []⟩ [("_law_script", u)]) ∧ ∀ base : Heap, (K w.params).In base → base.Ns mainGlobals mg → FnOk l.prog w (K w.params) mg base CX0 18 fa fd ["_law_script"] (spLaw (K w.params))) :
    PySem.W.WalkO q loose XP YP l.row.toRowW d [] (fun f vs => PySem.call f vs) :=
  L2.walk_of (n := 63) (k := 18) (x := "_law_script") (CX := fun _ => CX0) (sp := fun w => spLaw (K w.params)) hn (by decide) hdf ⟨rfl, by decide, by decide⟩ hY F (fun _ _ a ns hl _ hS => ⟨a, ns, rfl, hS, hl, fun _ => rfl⟩) fun _ _ _ _ _ z => z
end DL
open PySem PySem.W PyProof.Rows
set_option maxRecDepth 100000 in
set_option maxHeartbeats 0 in
theorem PySem.Challenge.cw_ownrights_k40_whole_families_holds : PySem.Challenge.rw_ownrights_k40_whole_families.Holds := by
  w_on; o_law; k_head; (case hw => w_witness2)
  k_fill
  refine DL.walk (l := PySem.Challenge.rw_ownrights_k40_whole_families) rfl rfl (fun w h Y => PySem.W.kIn_of Y) ?F
  case F =>
    intro w mg fa h KX G hmg
    refine' DL.all_mk KX G hmg ?d_tp ?d_kf ?d_law ?d_is_integer ?d_are ?d_added ?d_less ?d_hand_names ?d_names_of ?d_all_sums ?d_is_sum ?d_is_asc ?d_is_sums ?d_rest_set ?d_req_sums ?d_req_fam ?d_nonempty ?d_init ?d_form ?d_alike ?d_within ?d_plus ?d_shift ?d_rest_in ?d_value ?d_holds ?d_worth ?d_is_good ?d_good_states ?d_goods_of ?d_is_right ?d_need_family ?d_reached ?d_rest_beside ?d_all_good ?d_is_safe ?d_whole ?d_req_hands ?d_rest_of ?d_is_great ?d_grown ?d_draw ?d_any ?d_plus2 ?d_minus2 ?d_zero ?d_joined ?d_left ?d_lot ?d_lgoods ?d_begin_ ?d_lots ?d_beside ?d_safe ?d_rests ?d_shifted ?d_grownR ?d_shop ?d_source
    (case d_kf => refine' DL.kf_of ?x0 ?x1 ?x2 ?x3 ?x4 ?x5 ?x6; (case x0 => k_is); (case x1 => k_is); (case x2 => k_is); (case x3 => k_is); (case x4 => k_is); (case x5 => k_is); (case x6 => k_is))
    (case d_tp => refine' ⟨?_, ?_, ?_, ?_, ?_, ?_, ?_, ?_, ?_, ?_, ?_, ?_, ?_, ?_⟩ <;> k_is)
    (case d_law => refine' DL.df_of KX G ?x0 ?x1 ?x2 ?x3; (case x0 => k_is); (case x1 => k_is); (case x2 => k_is); (case x3 => k_is))
    (case d_is_integer => refine' DL.df_of KX G ?x0 ?x1 ?x2 ?x3; (case x0 => k_is); (case x1 => k_is); (case x2 => k_is); (case x3 => k_is))
    (case d_are => refine' DL.df_of KX G ?x0 ?x1 ?x2 ?x3; (case x0 => k_is); (case x1 => k_is); (case x2 => k_is); (case x3 => k_is))
    (case d_added => refine' DL.df_of KX G ?x0 ?x1 ?x2 ?x3; (case x0 => k_is); (case x1 => k_is); (case x2 => k_is); (case x3 => k_is))
    (case d_less => refine' DL.df_of KX G ?x0 ?x1 ?x2 ?x3; (case x0 => k_is); (case x1 => k_is); (case x2 => k_is); (case x3 => k_is))
    (case d_hand_names => refine' DL.df_of KX G ?x0 ?x1 ?x2 ?x3; (case x0 => k_is); (case x1 => k_is); (case x2 => k_is); (case x3 => k_is))
    (case d_names_of => refine' DL.df_of KX G ?x0 ?x1 ?x2 ?x3; (case x0 => k_is); (case x1 => k_is); (case x2 => k_is); (case x3 => k_is))
    (case d_all_sums => refine' DL.df_of KX G ?x0 ?x1 ?x2 ?x3; (case x0 => k_is); (case x1 => k_is); (case x2 => k_is); (case x3 => k_is))
    (case d_is_sum => refine' DL.df_of KX G ?x0 ?x1 ?x2 ?x3; (case x0 => k_is); (case x1 => k_is); (case x2 => k_is); (case x3 => k_is))
    (case d_is_asc => refine' DL.df_of KX G ?x0 ?x1 ?x2 ?x3; (case x0 => k_is); (case x1 => k_is); (case x2 => k_is); (case x3 => k_is))
    (case d_is_sums => refine' DL.df_of KX G ?x0 ?x1 ?x2 ?x3; (case x0 => k_is); (case x1 => k_is); (case x2 => k_is); (case x3 => k_is))
    (case d_rest_set => refine' DL.df_of KX G ?x0 ?x1 ?x2 ?x3; (case x0 => k_is); (case x1 => k_is); (case x2 => k_is); (case x3 => k_is))
    (case d_req_sums => refine' DL.df_of KX G ?x0 ?x1 ?x2 ?x3; (case x0 => k_is); (case x1 => k_is); (case x2 => k_is); (case x3 => k_is))
    (case d_req_fam => refine' DL.df_of KX G ?x0 ?x1 ?x2 ?x3; (case x0 => k_is); (case x1 => k_is); (case x2 => k_is); (case x3 => k_is))
    (case d_nonempty => refine' DL.df_of KX G ?x0 ?x1 ?x2 ?x3; (case x0 => k_is); (case x1 => k_is); (case x2 => k_is); (case x3 => k_is))
    (case d_init => refine' DL.ini_of ?x0 ?x1 ?x2 ?x3 ?x4 ?x5 ?x6; (case x0 => k_is); (case x1 => k_is); (case x2 => k_is); (case x3 => k_is); (case x4 => k_is); (case x5 => k_is); (case x6 => k_is))
    (case d_form => refine' DL.form_of ?x0 ?x1 ?x2 ?x3 ?x4 ?x5 ?x6; (case x0 => k_is); (case x1 => k_is); (case x2 => k_is); (case x3 => k_is); (case x4 => k_is); (case x5 => k_is); (case x6 => k_is))
    (case d_alike => refine' DL.mt_of ?x0 ?x1 ?x2 ?x3 ?x4; (case x0 => k_is); (case x1 => k_is); (case x2 => k_is); (case x3 => k_is); (case x4 => k_is))
    (case d_within => refine' DL.mt_of ?x0 ?x1 ?x2 ?x3 ?x4; (case x0 => k_is); (case x1 => k_is); (case x2 => k_is); (case x3 => k_is); (case x4 => k_is))
    (case d_plus => refine' DL.mt_of ?x0 ?x1 ?x2 ?x3 ?x4; (case x0 => k_is); (case x1 => k_is); (case x2 => k_is); (case x3 => k_is); (case x4 => k_is))
    (case d_shift => refine' DL.mt_of ?x0 ?x1 ?x2 ?x3 ?x4; (case x0 => k_is); (case x1 => k_is); (case x2 => k_is); (case x3 => k_is); (case x4 => k_is))
    (case d_rest_in => refine' DL.mt_of ?x0 ?x1 ?x2 ?x3 ?x4; (case x0 => k_is); (case x1 => k_is); (case x2 => k_is); (case x3 => k_is); (case x4 => k_is))
    (case d_value => refine' DL.df_of KX G ?x0 ?x1 ?x2 ?x3; (case x0 => k_is); (case x1 => k_is); (case x2 => k_is); (case x3 => k_is))
    (case d_holds => refine' DL.df_of KX G ?x0 ?x1 ?x2 ?x3; (case x0 => k_is); (case x1 => k_is); (case x2 => k_is); (case x3 => k_is))
    (case d_worth => refine' DL.df_of KX G ?x0 ?x1 ?x2 ?x3; (case x0 => k_is); (case x1 => k_is); (case x2 => k_is); (case x3 => k_is))
    (case d_is_good => refine' DL.df_of KX G ?x0 ?x1 ?x2 ?x3; (case x0 => k_is); (case x1 => k_is); (case x2 => k_is); (case x3 => k_is))
    (case d_good_states => refine' DL.df_of KX G ?x0 ?x1 ?x2 ?x3; (case x0 => k_is); (case x1 => k_is); (case x2 => k_is); (case x3 => k_is))
    (case d_goods_of => refine' DL.df_of KX G ?x0 ?x1 ?x2 ?x3; (case x0 => k_is); (case x1 => k_is); (case x2 => k_is); (case x3 => k_is))
    (case d_is_right => refine' DL.df_of KX G ?x0 ?x1 ?x2 ?x3; (case x0 => k_is); (case x1 => k_is); (case x2 => k_is); (case x3 => k_is))
    (case d_need_family => refine' DL.df_of KX G ?x0 ?x1 ?x2 ?x3; (case x0 => k_is); (case x1 => k_is); (case x2 => k_is); (case x3 => k_is))
    (case d_reached => refine' DL.df_of KX G ?x0 ?x1 ?x2 ?x3; (case x0 => k_is); (case x1 => k_is); (case x2 => k_is); (case x3 => k_is))
    (case d_rest_beside => refine' DL.df_of KX G ?x0 ?x1 ?x2 ?x3; (case x0 => k_is); (case x1 => k_is); (case x2 => k_is); (case x3 => k_is))
    (case d_all_good => refine' DL.df_of KX G ?x0 ?x1 ?x2 ?x3; (case x0 => k_is); (case x1 => k_is); (case x2 => k_is); (case x3 => k_is))
    (case d_is_safe => refine' DL.df_of KX G ?x0 ?x1 ?x2 ?x3; (case x0 => k_is); (case x1 => k_is); (case x2 => k_is); (case x3 => k_is))
    (case d_whole => refine' DL.df_of KX G ?x0 ?x1 ?x2 ?x3; (case x0 => k_is); (case x1 => k_is); (case x2 => k_is); (case x3 => k_is))
    (case d_req_hands => refine' DL.df_of KX G ?x0 ?x1 ?x2 ?x3; (case x0 => k_is); (case x1 => k_is); (case x2 => k_is); (case x3 => k_is))
    (case d_rest_of => refine' DL.df_of KX G ?x0 ?x1 ?x2 ?x3; (case x0 => k_is); (case x1 => k_is); (case x2 => k_is); (case x3 => k_is))
    (case d_is_great => refine' DL.df_of KX G ?x0 ?x1 ?x2 ?x3; (case x0 => k_is); (case x1 => k_is); (case x2 => k_is); (case x3 => k_is))
    (case d_grown => refine' DL.df_of KX G ?x0 ?x1 ?x2 ?x3; (case x0 => k_is); (case x1 => k_is); (case x2 => k_is); (case x3 => k_is))
    (case d_draw => refine' DL.df_of KX G ?x0 ?x1 ?x2 ?x3; (case x0 => k_is); (case x1 => k_is); (case x2 => k_is); (case x3 => k_is))
    (case d_any => refine' DL.df_of KX G ?x0 ?x1 ?x2 ?x3; (case x0 => k_is); (case x1 => k_is); (case x2 => k_is); (case x3 => k_is))
    (case d_plus2 => refine' DL.df_of KX G ?x0 ?x1 ?x2 ?x3; (case x0 => k_is); (case x1 => k_is); (case x2 => k_is); (case x3 => k_is))
    (case d_minus2 => refine' DL.df_of KX G ?x0 ?x1 ?x2 ?x3; (case x0 => k_is); (case x1 => k_is); (case x2 => k_is); (case x3 => k_is))
    (case d_zero => refine' DL.df_of KX G ?x0 ?x1 ?x2 ?x3; (case x0 => k_is); (case x1 => k_is); (case x2 => k_is); (case x3 => k_is))
    (case d_joined => refine' DL.df_of KX G ?x0 ?x1 ?x2 ?x3; (case x0 => k_is); (case x1 => k_is); (case x2 => k_is); (case x3 => k_is))
    (case d_left => refine' DL.df_of KX G ?x0 ?x1 ?x2 ?x3; (case x0 => k_is); (case x1 => k_is); (case x2 => k_is); (case x3 => k_is))
    (case d_lot => refine' DL.df_of KX G ?x0 ?x1 ?x2 ?x3; (case x0 => k_is); (case x1 => k_is); (case x2 => k_is); (case x3 => k_is))
    (case d_lgoods => refine' DL.df_of KX G ?x0 ?x1 ?x2 ?x3; (case x0 => k_is); (case x1 => k_is); (case x2 => k_is); (case x3 => k_is))
    (case d_begin_ => refine' DL.df_of KX G ?x0 ?x1 ?x2 ?x3; (case x0 => k_is); (case x1 => k_is); (case x2 => k_is); (case x3 => k_is))
    (case d_lots => refine' DL.df_of KX G ?x0 ?x1 ?x2 ?x3; (case x0 => k_is); (case x1 => k_is); (case x2 => k_is); (case x3 => k_is))
    (case d_beside => refine' DL.df_of KX G ?x0 ?x1 ?x2 ?x3; (case x0 => k_is); (case x1 => k_is); (case x2 => k_is); (case x3 => k_is))
    (case d_safe => refine' DL.df_of KX G ?x0 ?x1 ?x2 ?x3; (case x0 => k_is); (case x1 => k_is); (case x2 => k_is); (case x3 => k_is))
    (case d_rests => refine' DL.df_of KX G ?x0 ?x1 ?x2 ?x3; (case x0 => k_is); (case x1 => k_is); (case x2 => k_is); (case x3 => k_is))
    (case d_shifted => refine' DL.df_of KX G ?x0 ?x1 ?x2 ?x3; (case x0 => k_is); (case x1 => k_is); (case x2 => k_is); (case x3 => k_is))
    (case d_grownR => refine' DL.df_of KX G ?x0 ?x1 ?x2 ?x3; (case x0 => k_is); (case x1 => k_is); (case x2 => k_is); (case x3 => k_is))
    (case d_shop => refine' DL.df_of KX G ?x0 ?x1 ?x2 ?x3; (case x0 => k_is); (case x1 => k_is); (case x2 => k_is); (case x3 => k_is))
    (case d_source => refine' DL.df_of KX G ?x0 ?x1 ?x2 ?x3; (case x0 => k_is); (case x1 => k_is); (case x2 => k_is); (case x3 => k_is))
