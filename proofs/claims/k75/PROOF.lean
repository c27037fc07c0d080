import PyProof.Rows.All
import Wide.All
import OpenK.AllK
import Wide.FinOn
import HandS.ForMost
import HandS.DictComp
import HandS.More
import HandS.Slots
import HandS.Zip
import HandS.Walk
import HandS.TupAny
import HandS.Deep
import HandS.IsInst
import HandS.Defaults
import HandS.Codes
import HandS.Head0
import HandS.Head1
import HandS.Head2
import HandS.HeadEnd
import HandS.HeadHook1
import HandS.HeadHook2
import KE.KStateDown
import Lean
import HandS.SlotsVar
import HandS.EndBits
import KE.KOwnIter
import HandS.SlotsOwn
import HandS.IterNext
import HandS.IterVal
import KE.KItemsList
import KE.KDictZip
import PyProof.ZipIter
import HandS.Zip0
import HandS.Star
import HandS.OwnIter
import KE.SortData
import KE.DataCmp
import KE.DataMinMax
import HandS.Conv
import KE.KDictPairs
import PyProof.ListMulRoad
import PyProof.FactsAll.tuple_2
import HandS.TupMul
import HandS.Flow
import HandS.Words
import KE.KeyNested
import HandS.Set
import HandS.SetFor
import HandS.TupSets
import Wide.Seal
import PyProof.Rows.SortShell
import PyProof.Rows.SortKey
import PyProof.DictWalks
import PyProof.DictRoads
import PyProof.DictStraight
import PyProof.Rows.FactsN_isinstance
import HandS.Iter
import PyProof.Rows.SortWalk
import KE.SortCalls
import PySem.Challenge.RW_fewstamps_k75_whole_counters_are_apart
set_option Elab.async false
set_option linter.all false
set_option maxRecDepth 100000
set_option maxHeartbeats 4000000
/-! dict comprehensions whose keys are tuples of texts and whole numbers -/
namespace Fw
open PySem PySem.Spec PyProof.Rows L2
section
variable {X : Cx}
/-- D the new dict of tuple keys -/
def tDcT (wi : TI) (g : TG) (tt : TT) (tk tv : TE) (vs : List Nat) : TE := fun σ H Q => wi σ H fun J H1 => ∀ D, H1 D = none → ∃ W : Nat → Nat → Hp → Prop, (∃ m, W 0 m (upd H1 D (.dT []))) ∧ ∀ i m H, W i m H →
  (J.stop i H ∧ Q (.ref D) H) ∨ (J.go i H ∧ ∃ Nx : Hp → Prop, (∀ H', Nx H' → ∃ m', m' < m ∧ W (i + 1) m' H') ∧ ∀ x H', J.yld i H x H' → g x (wipe σ vs) H' fun σ2 H2 => wipe σ2 vs = wipe σ vs ∧ tt σ2 H2 fun b H3 =>
    if b = true then tk σ2 H3 fun y H4 => tv σ2 H4 fun z H5 => ∃ kvs k a, y = .ref a ∧ H5 a = some (.tup (k.map kV)) ∧ H5 D = some (.dT kvs) ∧ kvs.length < sizeLine ∧ Nx (upd H5 D (.dT (putK kvs k z))) else Nx H3)
/-- the store of one entry -/
theorem store_t {pins : List (Addr × Obj)} {σ : L2.St} {H : Hp} {s : Shared} {E : Value → Shared → Prop} {D a : Addr} {kvs : List (List Key × V)} {k : List Key} {v : V} {u r : Value} {Q : Unit → Shared → Prop} (hu : X.A.units + 1 < cLine) (I : L2.Inv X pins σ H s)
    (ea : H a = some (.tup (k.map kV))) (eD : H D = some (.dT kvs)) (hz : kvs.length < sizeLine) (ry : RelV (.ref a) u) (rv : RelV v r) (h : ∀ s', L2.Inv X pins σ (upd H D (.dT (putK kvs k v))) s' → Q () s') : wpAny (model X.prog X.w) X.A (dictSet D u r) Q E s := by
  obtain rfl : u = Value.ref a := ry
  obtain ⟨z, hd, xs, rel, dd⟩ := dt_of I.hok eD
  have small : xs.length ≤ sizeLine := by rw [← Paired.length rel]; exact z
  have few : (putK kvs k v).length ≤ sizeLine := by have := length_putK kvs k v; omega
  refine wpAny_dictSet_heap (knd := tupleKind (mixKind X.prog X.w)) (hsz := small) (show X.A.units < cLine from Nat.lt_of_succ_lt hu) (key_of I.hok ea) dd fun h' dd' hs => h _ ?_
  obtain ⟨q, es, ep, hq, h2, h3, h4, _, h5⟩ := dd'
  refine d_write I (by rw [eD]; exact True.intro) hs ⟨q, hq⟩ ⟨few, hd, _, (rel.put k ea rv).keeps fun c ys ec => ?_, q, es, ep, hq, h2, h3, h4, h5⟩
  rw [upd_ne (ne_of ec eD (fun z => nomatch z))]
  exact ec
theorem dct_core {pins : List (Addr × Obj)} {s : Shared} {σ : L2.St} {H : Hp} {Q : VK} {kx vx tg iter : Expr} {ifs : List Expr} {scope : Scope} {own : List (Str × Nat)} {pos pos' : Pos} {wi : TI} {g : TG} {tt : TT} {tk tv : TE} {Qf : Value → Shared → Prop}
    (hu : X.A.units + 1 < cLine) (hc : X.calm = true) (hN : X.N.Nodup) (I : L2.Inv X pins σ H s) (hi : PI X tg iter wi) (ok : BlkOk X.N X.env.scope scope own)
    (hg : ∀ (s : Shared) (H : Hp) (C : Addr) (cl : List (Str × Addr)) (fp : List Addr), PG (X.blk s H scope (compEnvC scope cl C X.env) fp) tg g) (ht : ∀ (s : Shared) (H : Hp) (C : Addr) (cl : List (Str × Addr)) (fp : List Addr), PTs (X.blk s H scope (compEnvC scope cl C X.env) fp) ifs tt)
    (hk : ∀ (s : Shared) (H : Hp) (C : Addr) (cl : List (Str × Addr)) (fp : List Addr), PE (X.blk s H scope (compEnvC scope cl C X.env) fp) kx tk)
    (he : ∀ (s : Shared) (H : Hp) (C : Addr) (cl : List (Str × Addr)) (fp : List Addr), PE (X.blk s H scope (compEnvC scope cl C X.env) fp) vx tv) (hs : ∀ x, foldedSetIterable iter X.env x = pure x)
    (h : tDcT wi g tt tk tv (own.map (·.2)) σ H Q)
    (done : ∀ D C s' m H', L2.Inv X pins σ H' s' → Q (.ref D) H' → s'.heap.Ns C m → FpOk X pins H' C → compPost (model X.prog X.w) X.A X.xe none Qf (.ref D) C (.ok .next) s') :
    wpAny (model X.prog X.w) X.A (comprehension (.DictComp kx vx [⟨tg, iter, ifs, 0⟩] scope pos) scope X.env pos' newDict false (eval iter X.env) none) Qf X.xe s := by
  have clos : ∀ y ∈ scope.names, y.2 = .free → ∃ c, X.env.cells.lookup y.1 = some c := fun y hy e => I.ok.has _ (ok.free y hy e)
  refine wpAny_comprehension_free (use := none) rfl hs (closure_ok clos) ok.kind (fun y hy e => by rw [ok.uniq y hy, e])
    (thn (hi.run pins s σ H _ I h) fun xv s1 hx => thn hx fun itv s2 ⟨it, fp, tn, J, H2, e, I2, T, st2, f2, q⟩ => ?_)
  subst e
  refine wpAny_newObj_type (newEnv_comp ?_)
  generalize hD : s2.heap.objs.size = D
  obtain ⟨W, ⟨m0, w0⟩, turn⟩ := q D (I2.hok.fresh (Nat.le_of_eq hD))
  generalize hs3 : ({ s2 with heap := s2.heap.push { cls := .type "dict", data := .dict #[] } } : Shared) = s3
  have h3 : s3.heap = s2.heap.push { cls := .type "dict", data := .dict #[] } := by rw [← hs3]
  have I3 : L2.Inv X pins σ (upd H2 D (.dT [])) s3 := by
    rw [← hs3]
    exact I2.laid (t' := s2.toks) (fun b o e => Heap.get?_push_of_some _ e) (Nat.le_of_eq hD) (by rw [← hD]; exact dt_empty s2.heap I2.big)
  have below : ∀ b ∈ fp, b < s2.heap.objs.size := fun b hb => (T.obj _ _ st2 b hb).elim fun o z => Heap.lt_size z.1
  have f3 : ∀ b ∈ fp, FpOk X pins (upd H2 D (.dT [])) b ∧ b < s3.heap.objs.size := fun b hb => ⟨⟨by rw [upd_ne (by rw [← hD]; exact Nat.ne_of_lt (below b hb))]; exact (f2 b hb).1, (f2 b hb).2⟩, by rw [h3, Heap.size_push]; exact Nat.lt_succ_of_lt (below b hb)⟩
  have I4 := block_start I3 ok hN f3
  generalize hcl : cellsFrom (s3.heap.objs.size + 1) scope.names (cloFrom X.env.cells scope.names []) = cl at I4
  have pg := hg s3 (upd H2 D (.dT [])) s3.heap.objs.size cl fp
  have pt := ht s3 (upd H2 D (.dT [])) s3.heap.objs.size cl fp
  have pk := hk s3 (upd H2 D (.dT [])) s3.heap.objs.size cl fp
  have pe := he s3 (upd H2 D (.dT [])) s3.heap.objs.size cl fp
  have f4 : ∀ b ∈ fp, (upd H2 D (.dT [])) b = none := fun b hb => (f3 b hb).1.1
  show codeAny _ _ (.compStart (.DictComp kx vx [⟨tg, iter, ifs, 0⟩] scope pos) 0 (.ref it) (.ref D) (compEnvC scope cl s3.heap.objs.size X.env)) (compPost (model X.prog X.w) X.A X.xe none Qf (.ref D) s3.heap.objs.size) { s3 with heap := pushCells (s3.heap.push { cls := .type "dict", data := .dict #[] }) scope.names }
  generalize hce : compEnvC scope cl s3.heap.objs.size X.env = ce at I4 pg pt pk pe ⊢
  have cL : ce.locals = s3.heap.objs.size := by rw [← hce]; rfl
  generalize hH3 : upd H2 D (.dT []) = H3 at I3 I4 pg pt pk pe w0 f4 f3
  generalize hs4 : ({ s3 with heap := pushCells (s3.heap.push { cls := .type "dict", data := .dict #[] }) scope.names } : Shared) = s4 at I4 ⊢
  have st4 : tn 0 s4.heap := T.keep _ _ _ st2 fun b _ o e => by
    rw [← hs4]
    refine pushCells_keeps _ _ _ _ (Heap.get?_push_of_some _ ?_)
    rw [h3]
    exact Heap.get?_push_of_some _ e
  have still : ∀ {σ' : L2.St} {H' : Hp} {s' : Shared}, L2.Inv (X.blk s3 H3 scope ce fp) [] σ' H' s' → (∀ b ∈ fp, H' b = none) → ∀ b ∈ fp, FpOk (X.blk s3 H3 scope ce fp) [] H' b := fun {σ' H' s'} J' hn b hb =>
    ⟨hn b hb, (J'.ok.exf b hb).1, J'.ok.exfs b hb, .inl hb, fun x c e => (J'.ok.exf b hb).2 x c e, fun p hp => nomatch (show p ∈ ([] : List (Addr × Obj)) ++ [] from hp)⟩
  have loop : codeAny (model X.prog X.w) X.A (.compLoop (.DictComp kx vx [⟨tg, iter, ifs, 0⟩] scope pos) 0 (.ref it) (.ref D) ce) (compPost (model X.prog X.w) X.A X.xe none Qf (.ref D) s3.heap.objs.size) s4 := by
    refine compLoop_anyD (fun n s' => ∃ i H', L2.Inv (X.blk s3 H3 scope ce fp) [] (wipe σ (own.map (·.2))) H' s' ∧ tn i s'.heap ∧ (∀ b ∈ fp, H' b = none) ∧ W i n H') ?_ m0 ⟨0, H3, I4, st4, f4, w0⟩
    rintro n s5 ⟨i, H5, I5, st5, n5, w5⟩
    rcases turn i n H5 w5 with ⟨stop, qq⟩ | ⟨go, Nx, hNx, step⟩
    · refine thnF (T.done (X.blk s3 H3 scope ce fp) rfl rfl rfl hc i [] s5 _ H5 (fun _ _ => False) I5 (still I5 n5) st5 stop) fun r s6 ⟨hr, I6⟩ => ?_
      subst hr
      have back : L2.Inv X pins σ H5 s6 := I3.call' (ch := fp) I6.os I6.base I6.hok I6.bare fun b hb => ⟨(f3 b hb).1.2.2.2.1, (f3 b hb).1.2.1, (f3 b hb).1.2.2.2.2.1, (f3 b hb).1.2.2.2.2.2⟩
      have nC : H5 s3.heap.objs.size = none := by rw [← cL]; exact I6.free
      obtain ⟨m, hn, _⟩ := I6.loc
      exact done D s3.heap.objs.size s6 m H5 back qq (by rw [← cL]; exact hn) (I3.fpOk (Nat.le_refl _) nC)
    · refine thnF (T.item (X.blk s3 H3 scope ce fp) rfl rfl rfl hc i [] s5 _ H5 (fun _ _ => False) I5 (still I5 n5) st5 go) fun r s6 ⟨u, hr, h6⟩ => ?_
      subst hr
      refine thnF h6 fun _ s7 ⟨x, H7, I7, r7, y7, st7, n7⟩ => ?_
      refine thnF (pg.run _ s7 _ H7 x u _ (I7.pinned (still I7 n7) (T.obj _ _ st7)) r7 (step x H7 y7)) fun _ s8 ⟨σ8, H8, I8, hw8, q8⟩ => ?_
      refine thnF (pt.run _ s8 σ8 H8 _ I8 q8) fun b s9 ⟨H9, I9, q9⟩ => ?_
      have fin : ∀ {s' : Shared} {H' : Hp}, L2.Inv (X.blk s3 H3 scope ce fp) ([] ++ pinsAt fp s7.heap) σ8 H' s' → Nx H' → ∃ m, m < n ∧ ∃ i H', L2.Inv (X.blk s3 H3 scope ce fp) [] (wipe σ (own.map (·.2))) H' s' ∧ tn i s'.heap ∧ (∀ b ∈ fp, H' b = none) ∧ W i m H' := fun {s' H'} J' nx => by
        obtain ⟨m', hm, w'⟩ := hNx H' nx
        have pinned : ∀ b ∈ fp, ∀ o, s7.heap.get? b = some o → s'.heap.get? b = some o ∧ H' b = none := fun b hb o e => by
          have z := J'.pin (b, o) (List.mem_append_right _ (List.mem_append_right _ (mem_pinsAt hb e)))
          exact ⟨z.1, z.2.1⟩
        refine ⟨m', hm, i + 1, H', (J'.unpinned (pins := [])).weak (by rw [← hw8, wipe_length]) (fun j v e => ?_), T.keep _ _ _ st7 fun b hb o e => (pinned b hb o e).1, fun b hb => ?_, w'⟩
        · rw [← hw8] at e
          exact (wipe_some e).1
        · obtain ⟨o, e, _⟩ := T.obj _ _ st7 b hb
          exact (pinned b hb o e).2
      cases b with
      | false =>
        rw [if_neg Bool.false_ne_true] at q9 ⊢
        exact fin I9 q9
      | true =>
        rw [if_pos rfl] at q9 ⊢
        refine thnF (pk.run _ s9 σ8 H9 _ I9 q9) fun z s10 ⟨yk, H10, I10, r10, q10⟩ => ?_
        refine thnF (pe.run _ s10 σ8 H10 _ I10 q10) fun z2 s11 ⟨yv, H11, I11, r11, kvs, k, a, ek, ea, eD, hz, nx⟩ => ?_
        subst ek
        exact store_t (X := X.blk s3 H3 scope ce fp) hu I11 ea eD hz r10 r11 fun s12 I12 => fin I12 nx
  exact codeAny_compStart_dict loop (T.self X.A 0 _ _ _ st4 loop)
theorem pe_dcT {kx vx tg iter : Expr} {ifs : List Expr} {scope : Scope} {own : List (Str × Nat)} {pos : Pos} {wi : TI} {g : TG} {tt : TT} {tk tv : TE} (hu : X.A.units + 1 < cLine) (hc : X.calm = true) (hN : X.N.Nodup) (hi : PI X tg iter wi) (ok : BlkOk X.N X.env.scope scope own)
    (hg : ∀ (s : Shared) (H : Hp) (C : Addr) (cl : List (Str × Addr)) (fp : List Addr), PG (X.blk s H scope (compEnvC scope cl C X.env) fp) tg g) (ht : ∀ (s : Shared) (H : Hp) (C : Addr) (cl : List (Str × Addr)) (fp : List Addr), PTs (X.blk s H scope (compEnvC scope cl C X.env) fp) ifs tt)
    (hk : ∀ (s : Shared) (H : Hp) (C : Addr) (cl : List (Str × Addr)) (fp : List Addr), PE (X.blk s H scope (compEnvC scope cl C X.env) fp) kx tk)
    (he : ∀ (s : Shared) (H : Hp) (C : Addr) (cl : List (Str × Addr)) (fp : List Addr), PE (X.blk s H scope (compEnvC scope cl C X.env) fp) vx tv) (hs : ∀ x, foldedSetIterable iter X.env x = pure x := by intro _; rfl) :
    PE X (.DictComp kx vx [⟨tg, iter, ifs, 0⟩] scope pos) (tDcT wi g tt tk tv (own.map (·.2))) := by
  refine ⟨fun pins s σ H Q I h => ?_⟩
  rw [arm_eval_DictComp]
  refine dct_core hu hc hN I hi ok hg ht hk he hs h fun D C s' m H' J q hn f => ⟨m, hn, fun h2 sb => ?_⟩
  obtain ⟨f0, f1, f2, f3, f4, f5⟩ := f
  exact ⟨.ref D, H', J.turned (t' := s'.toks) (fun b o hb e => (sb.2 b hb).trans e) f0 f1 f3 f4 f5, rfl, q⟩
end
end Fw
set_option Elab.async false
set_option linter.all false
set_option maxRecDepth 100000
set_option maxHeartbeats 4000000
/-! tracked data, what is known of a value -/
namespace Fw
open PySem PySem.Spec PyProof.Rows L2

/-! ### growing heaps -/
def Ex (H H' : Hp) : Prop := ∀ a o, H a = some o → H' a = some o
theorem Ex.refl (H : Hp) : Ex H H := fun _ _ h => h
theorem Ex.trans {H H1 H2 : Hp} (a : Ex H H1) (b : Ex H1 H2) : Ex H H2 := fun x o h => b x o (a x o h)
theorem Ex.new {H : Hp} {p : Addr} {o : HO} (h : H p = none) : Ex H (upd H p o) := fun a u e => by
  rw [upd_ne (ne_of_none e h)]
  exact e
/-- an object that stood not in H may change -/
theorem Ex.mut {H H' : Hp} {p : Addr} {o : HO} (e : Ex H H') (h : H p = none) : Ex H (upd H' p o) := fun a u ha => by
  rw [upd_ne (ne_of_none ha h)]
  exact e a u ha
theorem Ex.back {H H' : Hp} {p : Addr} (e : Ex H H') (h : H' p = none) : H p = none := by
  cases q : H p with
  | none => rfl
  | some o =>
    rw [e p o q] at h
    cases h

/-! ### tracked data -/
mutual
inductive Tk (H : Hp) : V → PyData → Prop
  | non : Tk H .non .none
  | bl (b : Bool) : Tk H (.bl b) (.bool b)
  | int (i : Int) : Tk H (.int i) (.int i)
  | str (x : Str) : Tk H (.str x) (.str x)
  | lst {a : Addr} {xs : List V} {ds : List PyData} : H a = some (.lst xs) → TkAll H xs ds → Tk H (.ref a) (.list ds)
  | tup {a : Addr} {xs : List V} {ds : List PyData} : H a = some (.tup xs) → TkAll H xs ds → Tk H (.ref a) (.tuple ds)
inductive TkAll (H : Hp) : List V → List PyData → Prop
  | nil : TkAll H [] []
  | cons {v : V} {vs : List V} {d : PyData} {ds : List PyData} : Tk H v d → TkAll H vs ds → TkAll H (v :: vs) (d :: ds)
end
mutual
theorem Tk.ex {H H' : Hp} (e : Ex H H') : ∀ (d : PyData) (v : V), Tk H v d → Tk H' v d
  | .none, _, h => by cases h; exact .non
  | .bool b, _, h => by cases h; exact .bl b
  | .int i, _, h => by cases h; exact .int i
  | .str x, _, h => by cases h; exact .str x
  | .list ds, _, h => by
    cases h with
    | lst h1 h2 => exact .lst (e _ _ h1) (TkAll.ex e ds _ h2)
  | .tuple ds, _, h => by
    cases h with
    | tup h1 h2 => exact .tup (e _ _ h1) (TkAll.ex e ds _ h2)
  | .dict _, _, h => by cases h
theorem TkAll.ex {H H' : Hp} (e : Ex H H') : ∀ (ds : List PyData) (vs : List V), TkAll H vs ds → TkAll H' vs ds
  | [], _, h => by cases h; exact .nil
  | d :: ds, _, h => by
    cases h with
    | cons h1 h2 => exact .cons (Tk.ex e d _ h1) (TkAll.ex e ds _ h2)
end
mutual
theorem Tk.dp {K : PySem.W.Frag} {H : Hp} : ∀ (d : PyData) (v : V), Tk H v d → Dp K H v d
  | .none, _, h => by cases h; exact .non
  | .bool b, _, h => by cases h; exact .bl b
  | .int i, _, h => by cases h; exact .int i
  | .str x, _, h => by cases h; exact .str x
  | .list ds, _, h => by
    cases h with
    | lst h1 h2 => exact .lst (SqL.of h1) (TkAll.dp ds _ h2)
  | .tuple ds, _, h => by
    cases h with
    | tup h1 h2 => exact .tup (SqT.of h1) (TkAll.dp ds _ h2)
  | .dict _, _, h => by cases h
theorem TkAll.dp {K : PySem.W.Frag} {H : Hp} : ∀ (ds : List PyData) (vs : List V), TkAll H vs ds → DpAll K H vs ds
  | [], _, h => by cases h; exact .nil
  | d :: ds, _, h => by
    cases h with
    | cons h1 h2 => exact .cons (Tk.dp d _ h1) (TkAll.dp ds _ h2)
end
theorem TkAll.length {H : Hp} : ∀ {vs : List V} {ds : List PyData}, TkAll H vs ds → vs.length = ds.length
  | _, _, .nil => rfl
  | _, _, .cons _ h => congrArg Nat.succ h.length
theorem TkAll.get {H : Hp} : ∀ {vs : List V} {ds : List PyData} {i : Nat} {v : V}, TkAll H vs ds → vs[i]? = some v → ∃ d, ds[i]? = some d ∧ Tk H v d
  | _, _, _, _, .nil, h => by simp at h
  | _, _, 0, _, .cons h _, e => by
    simp at e
    subst e
    exact ⟨_, rfl, h⟩
  | _, _, i + 1, v, .cons _ h, e => by
    obtain ⟨d, h1, h2⟩ := TkAll.get (i := i) (v := v) h (by simpa using e)
    exact ⟨d, by simpa using h1, h2⟩
theorem TkAll.at {H : Hp} {vs : List V} {ds : List PyData} {i : Nat} {d : PyData} (h : TkAll H vs ds) (e : ds[i]? = some d) : ∃ v, vs[i]? = some v ∧ Tk H v d := by
  have hl := h.length
  have hi : i < ds.length := (List.getElem?_eq_some_iff.mp e).1
  have hv : vs[i]? = some vs[i] := List.getElem?_eq_getElem (by omega)
  obtain ⟨d', h1, h2⟩ := h.get hv
  rw [e] at h1
  cases h1
  exact ⟨_, hv, h2⟩
theorem TkAll.append {H : Hp} : ∀ {vs ws : List V} {ds es : List PyData}, TkAll H vs ds → TkAll H ws es → TkAll H (vs ++ ws) (ds ++ es)
  | _, _, _, _, .nil, k => k
  | _, _, _, _, .cons h t, k => .cons h (TkAll.append t k)
theorem TkAll.take {H : Hp} : ∀ {vs : List V} {ds : List PyData} (n : Nat), TkAll H vs ds → TkAll H (vs.take n) (ds.take n)
  | _, _, 0, _ => .nil
  | _, _, _ + 1, .nil => .nil
  | _, _, n + 1, .cons h t => .cons h (TkAll.take n t)
theorem TkAll.drop {H : Hp} : ∀ {vs : List V} {ds : List PyData} (n : Nat), TkAll H vs ds → TkAll H (vs.drop n) (ds.drop n)
  | _, _, 0, h => h
  | _, _, _ + 1, .nil => .nil
  | _, _, n + 1, .cons _ t => TkAll.drop n t
theorem TkAll.of {H : Hp} : ∀ {vs : List V} {ds : List PyData}, vs.length = ds.length → (∀ (i : Nat) v d, vs[i]? = some v → ds[i]? = some d → Tk H v d) → TkAll H vs ds
  | [], [], _, _ => .nil
  | [], _ :: _, h, _ => by simp at h
  | _ :: _, [], h, _ => by simp at h
  | v :: vs, d :: ds, h, k => .cons (k 0 v d rfl rfl) (TkAll.of (by simpa using h) fun i v' d' h1 h2 => k (i + 1) v' d' (by simpa using h1) (by simpa using h2))
theorem Tk.int_inv {H : Hp} {v : V} {i : Int} (h : Tk H v (.int i)) : v = .int i := by cases h; rfl
theorem Tk.str_inv {H : Hp} {v : V} {x : Str} (h : Tk H v (.str x)) : v = .str x := by cases h; rfl
theorem Tk.bl_inv {H : Hp} {v : V} {b : Bool} (h : Tk H v (.bool b)) : v = .bl b := by cases h; rfl
theorem Tk.non_inv {H : Hp} {v : V} (h : Tk H v .none) : v = .non := by cases h; rfl
theorem Tk.tup_inv {H : Hp} {v : V} {ds : List PyData} (h : Tk H v (.tuple ds)) : ∃ a xs, v = .ref a ∧ H a = some (.tup xs) ∧ TkAll H xs ds := by
  cases h with
  | tup h1 h2 => exact ⟨_, _, rfl, h1, h2⟩
theorem Tk.lst_inv {H : Hp} {v : V} {ds : List PyData} (h : Tk H v (.list ds)) : ∃ a xs, v = .ref a ∧ H a = some (.lst xs) ∧ TkAll H xs ds := by
  cases h with
  | lst h1 h2 => exact ⟨_, _, rfl, h1, h2⟩
theorem TkAll.ints {H : Hp} : ∀ {vs : List V} {ns : List Int}, TkAll H vs (ns.map .int) → vs = ns.map V.int
  | _, [], h => by cases h; rfl
  | _, n :: ns, h => by
    cases h with
    | cons h1 h2 => rw [h1.int_inv, TkAll.ints h2]; rfl
theorem TkAll.bls {H : Hp} : ∀ {vs : List V} {ns : List Bool}, TkAll H vs (ns.map .bool) → vs = ns.map V.bl
  | _, [], h => by cases h; rfl
  | _, n :: ns, h => by
    cases h with
    | cons h1 h2 => rw [h1.bl_inv, TkAll.bls h2]; rfl
theorem TkAll.strs {H : Hp} : ∀ {vs : List V} {ns : List Str}, TkAll H vs (ns.map .str) → vs = ns.map V.str
  | _, [], h => by cases h; rfl
  | _, n :: ns, h => by
    cases h with
    | cons h1 h2 => rw [h1.str_inv, TkAll.strs h2]; rfl

/-! ### what is known of a value -/
structure Kn where
  p : V → Hp → Prop
  mono : ∀ {v : V} {H H' : Hp}, Ex H H' → p v H → p v H'
def kD (d : PyData) : Kn := ⟨fun v H => Tk H v d, fun e h => Tk.ex e _ _ h⟩
abbrev kI (i : Int) : Kn := kD (.int i)
abbrev kB (b : Bool) : Kn := kD (.bool b)
def kC (v : V) : Kn := ⟨fun x _ => x = v, fun _ h => h⟩
inductive AllK (H : Hp) : List Kn → List V → Prop
  | nil : AllK H [] []
  | cons {k : Kn} {ks : List Kn} {v : V} {vs : List V} : k.p v H → AllK H ks vs → AllK H (k :: ks) (v :: vs)
theorem AllK.ex {H H' : Hp} (e : Ex H H') : ∀ {ks : List Kn} {vs : List V}, AllK H ks vs → AllK H' ks vs
  | _, _, .nil => .nil
  | _, _, .cons h t => .cons (Kn.mono _ e h) (t.ex e)
theorem AllK.length {H : Hp} : ∀ {ks : List Kn} {vs : List V}, AllK H ks vs → ks.length = vs.length
  | _, _, .nil => rfl
  | _, _, .cons _ t => congrArg Nat.succ t.length
theorem AllK.at {H : Hp} : ∀ {ks : List Kn} {vs : List V} {i : Nat} {k : Kn}, AllK H ks vs → ks[i]? = some k → ∃ v, vs[i]? = some v ∧ k.p v H
  | _, _, _, _, .nil, h => by simp at h
  | _, _, 0, _, .cons h _, e => by
    simp at e
    subst e
    exact ⟨_, rfl, h⟩
  | _, _, i + 1, k, .cons _ h, e => by
    obtain ⟨d, h1, h2⟩ := AllK.at (i := i) (k := k) h (by simpa using e)
    exact ⟨d, by simpa using h1, h2⟩
theorem AllK.get {H : Hp} {ks : List Kn} {vs : List V} {i : Nat} {v : V} (h : AllK H ks vs) (e : vs[i]? = some v) : ∃ k, ks[i]? = some k ∧ k.p v H := by
  have hl := h.length
  have hi : i < vs.length := (List.getElem?_eq_some_iff.mp e).1
  have hv : ks[i]? = some ks[i] := List.getElem?_eq_getElem (by omega)
  obtain ⟨d', h1, h2⟩ := h.at hv
  rw [e] at h1
  cases h1
  exact ⟨_, hv, h2⟩
theorem AllK.append {H : Hp} : ∀ {ks ls : List Kn} {vs ws : List V}, AllK H ks vs → AllK H ls ws → AllK H (ks ++ ls) (vs ++ ws)
  | _, _, _, _, .nil, k => k
  | _, _, _, _, .cons h t, k => .cons h (AllK.append t k)
theorem AllK.data {H : Hp} : ∀ {ds : List PyData} {vs : List V}, AllK H (ds.map kD) vs ↔ TkAll H vs ds
  | [], vs => ⟨fun h => by cases h; exact .nil, fun h => by cases h; exact .nil⟩
  | d :: ds, vs => ⟨fun h => by
      cases h with
      | cons h1 h2 => exact .cons h1 (AllK.data.mp h2), fun h => by
      cases h with
      | cons h1 h2 => exact .cons h1 (AllK.data.mpr h2)⟩
/-- a tracked list, a tracked tuple of such -/
def kLst (ks : List Kn) : Kn := ⟨fun v H => ∃ a xs, v = .ref a ∧ H a = some (.lst xs) ∧ AllK H ks xs, fun e ⟨a, xs, h1, h2, h3⟩ => ⟨a, xs, h1, e _ _ h2, h3.ex e⟩⟩
def kTup (ks : List Kn) : Kn := ⟨fun v H => ∃ a xs, v = .ref a ∧ H a = some (.tup xs) ∧ AllK H ks xs, fun e ⟨a, xs, h1, h2, h3⟩ => ⟨a, xs, h1, e _ _ h2, h3.ex e⟩⟩
theorem kLst_data {ds : List PyData} {v : V} {H : Hp} : (kLst (ds.map kD)).p v H ↔ (kD (.list ds)).p v H :=
  ⟨fun ⟨a, xs, h1, h2, h3⟩ => by subst h1; exact Tk.lst h2 (AllK.data.mp h3), fun h => by
    obtain ⟨a, xs, h1, h2, h3⟩ := Tk.lst_inv h
    exact ⟨a, xs, h1, h2, AllK.data.mpr h3⟩⟩
theorem kTup_data {ds : List PyData} {v : V} {H : Hp} : (kTup (ds.map kD)).p v H ↔ (kD (.tuple ds)).p v H :=
  ⟨fun ⟨a, xs, h1, h2, h3⟩ => by subst h1; exact Tk.tup h2 (AllK.data.mp h3), fun h => by
    obtain ⟨a, xs, h1, h2, h3⟩ := Tk.tup_inv h
    exact ⟨a, xs, h1, h2, AllK.data.mpr h3⟩⟩
end Fw
set_option Elab.async false
set_option linter.all false
set_option maxRecDepth 100000
set_option maxHeartbeats 4000000
/-! readings by what is known: names by slot (Ga), changing objects (Mu), evaluations (Ev), statements (Go), promises (spF) -/
namespace Fw
open PySem PySem.Spec PyProof.Rows L2

/-! ### changing objects -/
structure Mu where
  fp : Addr → Prop
  p : Hp → Hp → Prop
  on : ∀ {B C : Hp} {a : Addr}, p B C → fp a → ∃ o, C a = some o
  mono : ∀ {B B' C C' : Hp}, Ex B B' → (∀ a, fp a → C' a = C a) → p B C → p B' C'
structure OkM (M : List Mu) (B C : Hp) : Prop where
  ex : Ex B C
  p : ∀ m ∈ M, m.p B C
  off : ∀ m ∈ M, ∀ a, m.fp a → B a = none
  dis : M.Pairwise fun m n => ∀ a, m.fp a → ¬ n.fp a
section
variable {M N : List Mu} {B B' C C' : Hp} {p : Addr} {o : HO}
theorem OkM.new (h : OkM M B C) (n : C p = none) : OkM M (upd B p o) (upd C p o) := by
  have hb := h.ex.back n
  have ne : ∀ m ∈ M, ∀ a, m.fp a → a ≠ p := fun m hm a ha => by
    obtain ⟨u, q⟩ := m.on (h.p m hm) ha
    exact ne_of_none q n
  refine ⟨fun a u q => ?_, fun m hm => m.mono (Ex.new hb) (fun a ha => upd_ne (ne m hm a ha)) (h.p m hm), fun m hm a ha => ?_, h.dis⟩
  · by_cases e : a = p
    · subst e
      rw [upd_same] at q ⊢
      exact q
    · rw [upd_ne e] at q ⊢
      exact h.ex a u q
  · rw [upd_ne (ne m hm a ha)]
    exact h.off m hm a ha
theorem OkM.perm (h : OkM M B C) (q : M.Perm N) : OkM N B C :=
  ⟨h.ex, fun m hm => h.p m (q.mem_iff.mpr hm), fun m hm => h.off m (q.mem_iff.mpr hm), (q.pairwise_iff fun {x y} k a h1 h2 => k a h2 h1).mp h.dis⟩
theorem OkM.tail {m : Mu} (h : OkM (m :: M) B C) : OkM M B C := ⟨h.ex, fun n hn => h.p n (List.mem_cons_of_mem _ hn), fun n hn => h.off n (List.mem_cons_of_mem _ hn), (List.pairwise_cons.mp h.dis).2⟩
theorem OkM.head {m : Mu} (h : OkM (m :: M) B C) : m.p B C := h.p m (List.mem_cons_self ..)
/-- a new changing object -/
theorem OkM.add {m : Mu} (h : OkM M B C) (ex : Ex B C') (keep : ∀ a o, C a = some o → C' a = some o) (hm : m.p B C') (hn : ∀ a, m.fp a → C a = none) : OkM (m :: M) B C' := by
  have st : ∀ n ∈ M, ∀ a, n.fp a → C' a = C a := fun n hn' a ha => by
    obtain ⟨u, q⟩ := n.on (h.p n hn') ha
    rw [q, keep a u q]
  refine ⟨ex, fun n hn' => ?_, fun n hn' a ha => ?_, List.pairwise_cons.mpr ⟨fun n hn' a ha hb => ?_, h.dis⟩⟩
  · rcases List.mem_cons.mp hn' with rfl | hn'
    · exact hm
    · exact n.mono (Ex.refl _) (st n hn') (h.p n hn')
  · rcases List.mem_cons.mp hn' with rfl | hn'
    · exact h.ex.back (hn a ha)
    · exact h.off n hn' a ha
  · obtain ⟨u, q⟩ := n.on (h.p n hn') hb
    rw [hn a ha] at q
    cases q
/-- the first one changes -/
theorem OkM.chg {m m' : Mu} (h : OkM (m :: M) B C) (ex : Ex B C') (st : ∀ a, ¬ m.fp a → C' a = C a) (hp : m'.p B C') (hf : ∀ a, m'.fp a → m.fp a ∨ C a = none) : OkM (m' :: M) B C' := by
  have hd := List.pairwise_cons.mp h.dis
  have nf : ∀ n ∈ M, ∀ a, n.fp a → ¬ m.fp a := fun n hn a ha hb => hd.1 n hn a hb ha
  refine ⟨ex, fun n hn' => ?_, fun n hn' a ha => ?_, List.pairwise_cons.mpr ⟨fun n hn' a ha hb => ?_, hd.2⟩⟩
  · rcases List.mem_cons.mp hn' with rfl | hn'
    · exact hp
    · exact n.mono (Ex.refl _) (fun a ha => st a (nf n hn' a ha)) (h.tail.p n hn')
  · rcases List.mem_cons.mp hn' with rfl | hn'
    · rcases hf a ha with z | z
      · exact h.off m (List.mem_cons_self ..) a z
      · exact h.ex.back z
    · exact h.tail.off n hn' a ha
  · rcases hf a ha with z | z
    · exact hd.1 n hn' a z hb
    · obtain ⟨u, q⟩ := n.on (h.tail.p n hn') hb
      rw [z] at q
      cases q
/-- the first one stands still from now on -/
theorem OkM.still {m : Mu} (h : OkM (m :: M) B C) (e0 : Ex B B') (e1 : Ex B' C) (hs : ∀ a o, B' a = some o → B a = none → m.fp a) : OkM M B' C := by
  have hd := List.pairwise_cons.mp h.dis
  refine ⟨e1, fun n hn => n.mono e0 (fun _ _ => rfl) (h.tail.p n hn), fun n hn a ha => ?_, hd.2⟩
  cases q : B' a with
  | none => rfl
  | some o => exact absurd ha (hd.1 n hn a (hs a o q (h.tail.off n hn a ha)))
end
/-- a list that is being made -/
def mLst (D : Addr) (ks : List Kn) : Mu where
  fp := fun a => a = D
  p := fun B C => ∃ xs, C D = some (.lst xs) ∧ AllK B ks xs
  on := fun ⟨_, h, _⟩ e => ⟨_, e ▸ h⟩
  mono := fun e st ⟨xs, h1, h2⟩ => ⟨xs, (st _ rfl).trans h1, h2.ex e⟩

/-! ### names by slot -/
abbrev Ga := List (Option Kn)
structure Sk (Γ : Ga) (B : Hp) (σ : L2.St) : Prop where
  len : Γ.length = σ.length
  at_ : ∀ (i : Nat) (k : Kn), Γ[i]? = some (some k) → ∃ v, σ[i]? = some (some v) ∧ k.p v B
theorem Sk.ex {Γ : Ga} {B B' : Hp} {σ : L2.St} (h : Sk Γ B σ) (e : Ex B B') : Sk Γ B' σ := ⟨h.len, fun i k q => by
  obtain ⟨v, h1, h2⟩ := h.at_ i k q
  exact ⟨v, h1, k.mono e h2⟩⟩
theorem Sk.set {Γ : Ga} {B : Hp} {σ : L2.St} {i : Nat} {k : Kn} {v : V} (h : Sk Γ B σ) (p : k.p v B) : Sk (Γ.set i (some k)) B (σ.set i (some v)) := by
  refine ⟨by rw [List.length_set, List.length_set, h.len], fun j k' q => ?_⟩
  by_cases e : i = j
  · subst e
    have hi : i < Γ.length := by
      have := (List.getElem?_eq_some_iff.mp q).1
      rwa [List.length_set] at this
    rw [List.getElem?_set_self hi] at q
    cases q
    exact ⟨v, List.getElem?_set_self (by rw [← h.len]; exact hi), p⟩
  · rw [List.getElem?_set_ne e] at q
    rw [List.getElem?_set_ne e]
    exact h.at_ j k' q
theorem Sk.unset {Γ : Ga} {B : Hp} {σ : L2.St} {i : Nat} (h : Sk Γ B σ) : Sk (Γ.set i none) B (σ.set i none) := by
  refine ⟨by rw [List.length_set, List.length_set, h.len], fun j k' q => ?_⟩
  by_cases e : i = j
  · subst e
    have hi : i < Γ.length := by
      have := (List.getElem?_eq_some_iff.mp q).1
      rwa [List.length_set] at this
    rw [List.getElem?_set_self hi] at q
    cases q
  · rw [List.getElem?_set_ne e] at q
    rw [List.getElem?_set_ne e]
    exact h.at_ j k' q
/-- less is known -/
def Less : Ga → Ga → Prop
  | [], [] => True
  | none :: a, _ :: b => Less a b
  | some k :: a, some l :: b => (∀ v H, l.p v H → k.p v H) ∧ Less a b
  | _, _ => False
theorem Less.len : ∀ {a b : Ga}, Less a b → a.length = b.length
  | [], [], _ => rfl
  | none :: a, _ :: b, h => congrArg Nat.succ (Less.len (a := a) (b := b) h)
  | some k :: a, some l :: b, h => congrArg Nat.succ (Less.len (a := a) (b := b) h.2)
  | [], _ :: _, h => h.elim
  | none :: _, [], h => h.elim
  | some _ :: _, [], h => h.elim
  | some _ :: _, none :: _, h => h.elim
theorem Less.at : ∀ {a b : Ga} {i : Nat} {k : Kn}, Less a b → a[i]? = some (some k) → ∃ l, b[i]? = some (some l) ∧ ∀ v H, l.p v H → k.p v H
  | [], [], _, _, _, h => by simp at h
  | none :: a, _ :: b, 0, _, _, h => by simp at h
  | none :: a, _ :: b, i + 1, k, h, e => by
    obtain ⟨l, h1, h2⟩ := Less.at (a := a) (b := b) (i := i) (k := k) h (by simpa using e)
    exact ⟨l, by simpa using h1, h2⟩
  | some k' :: a, some l :: b, 0, k, h, e => by
    simp at e
    subst e
    exact ⟨l, rfl, h.1⟩
  | some k' :: a, some l :: b, i + 1, k, h, e => by
    obtain ⟨l, h1, h2⟩ := Less.at (a := a) (b := b) (i := i) (k := k) h.2 (by simpa using e)
    exact ⟨l, by simpa using h1, h2⟩
  | [], _ :: _, _, _, h, _ => h.elim
  | none :: _, [], _, _, h, _ => h.elim
  | some _ :: _, [], _, _, h, _ => h.elim
  | some _ :: _, none :: _, _, _, h, _ => h.elim
theorem Sk.less {Γ Γ' : Ga} {B : Hp} {σ : L2.St} (h : Sk Γ B σ) (l : Less Γ' Γ) : Sk Γ' B σ := ⟨l.len.trans h.len, fun i k q => by
  obtain ⟨k', h1, h2⟩ := l.at q
  obtain ⟨v, h3, h4⟩ := h.at_ i k' h1
  exact ⟨v, h3, h2 v B h4⟩⟩
theorem Less.refl : ∀ Γ : Ga, Less Γ Γ
  | [] => True.intro
  | none :: a => Less.refl a
  | some _ :: a => ⟨fun _ _ z => z, Less.refl a⟩
def wipeG (Γ : Ga) : List Nat → Ga
  | [] => Γ
  | v :: vs => (wipeG Γ vs).set v none
theorem Sk.wipe {Γ : Ga} {B : Hp} {σ : L2.St} (h : Sk Γ B σ) : ∀ vs : List Nat, Sk (wipeG Γ vs) B (wipe σ vs)
  | [] => h
  | v :: vs => (Sk.wipe h vs).unset
theorem Sk.start {ks : List Kn} {vs : List V} {N : List Str} {B : Hp} (h : AllK B ks vs) : Sk (ks.map some ++ List.replicate (N.length - vs.length) none) B (L2.start N vs) := by
  unfold L2.start
  refine ⟨by simp [h.length], fun i k q => ?_⟩
  by_cases hi : i < ks.length
  · rw [List.getElem?_append_left (by simpa using hi), List.getElem?_map] at q
    rw [List.getElem?_append_left (by rw [List.length_map, ← h.length]; exact hi), List.getElem?_map]
    rw [List.getElem?_eq_getElem hi] at q
    cases q
    obtain ⟨v, h1, h2⟩ := h.at (List.getElem?_eq_getElem hi)
    exact ⟨v, by rw [h1]; rfl, h2⟩
  · rw [List.getElem?_append_right (by simpa using Nat.le_of_not_lt hi), List.getElem?_replicate] at q
    split at q
    · cases q
    · cases q

/-! ### evaluations -/
abbrev Wt (M : List Mu) (B : Hp) (k : Kn) (Q : VK) : Prop := ∀ (z : V) (B' C' : Hp), Ex B B' → OkM M B' C' → k.p z B' → Q z C'
def Ev (te : TE) (Γ : Ga) (M M' : List Mu) (k : Kn) : Prop := ∀ (F : List Mu) (σ : L2.St) (B C : Hp), Sk Γ B σ → OkM (M ++ F) B C → ∀ Q : VK, Wt (M' ++ F) B k Q → te σ C Q
/-- what comes is not known ahead -/
def EvG {α : Type} (te : TE) (Γ : Ga) (M : List Mu) (ρ : α → Kn) (μ : α → List Mu) : Prop := ∀ (F : List Mu) (σ : L2.St) (B C : Hp), Sk Γ B σ → OkM (M ++ F) B C → ∀ Q : VK, (∀ a, Wt (μ a ++ F) B (ρ a) Q) → te σ C Q
def EvT (tt : TT) (Γ : Ga) (M M' : List Mu) (b : Bool) : Prop := ∀ (F : List Mu) (σ : L2.St) (B C : Hp), Sk Γ B σ → OkM (M ++ F) B C → ∀ Q : Bool → Hp → Prop, (∀ B' C', Ex B B' → OkM (M' ++ F) B' C' → Q b C') → tt σ C Q
def EvA (ta : TA) (Γ : Ga) (M M' : List Mu) (ks : List Kn) : Prop := ∀ (F : List Mu) (σ : L2.St) (B C : Hp), Sk Γ B σ → OkM (M ++ F) B C → ∀ Q : List V → Hp → Prop, (∀ zs B' C', Ex B B' → OkM (M' ++ F) B' C' → AllK B' ks zs → Q zs C') → ta σ C Q
def EvO (to : TO) (Γ : Ga) (M M' : List Mu) (o : Option Int) : Prop := ∀ (F : List Mu) (σ : L2.St) (B C : Hp), Sk Γ B σ → OkM (M ++ F) B C → ∀ Q : Option Int → Hp → Prop, (∀ B' C', Ex B B' → OkM (M' ++ F) B' C' → Q o C') → to σ C Q
/-- operators, unary ones, built-ins, methods by what is known -/
def RK (r : R2) (M : List Mu) (kx ky kz : Kn) : Prop := ∀ x y (F : List Mu) B C, OkM (M ++ F) B C → kx.p x B → ky.p y B → ∀ Q : VK, Wt (M ++ F) B kz Q → r x y C Q
def UK (r : V → Hp → VK → Prop) (M : List Mu) (kx kz : Kn) : Prop := ∀ x (F : List Mu) B C, OkM (M ++ F) B C → kx.p x B → ∀ Q : VK, Wt (M ++ F) B kz Q → r x C Q
def CK (r : List V → Hp → VK → Prop) (M : List Mu) (ks : List Kn) (kz : Kn) : Prop := ∀ xs (F : List Mu) B C, OkM (M ++ F) B C → AllK B ks xs → ∀ Q : VK, Wt (M ++ F) B kz Q → r xs C Q
def MK (r : V → List V → Hp → VK → Prop) (M M' : List Mu) (kx : Kn) (ks : List Kn) (kz : Kn) : Prop := ∀ x xs (F : List Mu) B C, OkM (M ++ F) B C → kx.p x B → AllK B ks xs → ∀ Q : VK, Wt (M' ++ F) B kz Q → r x xs C Q
section
variable {Γ Γ1 : Ga} {M M1 M2 M3 : List Mu} {te ta tb : TE} {k kx ky kz : Kn} {tt tu : TT} {b c : Bool} {K : PySem.W.Frag}
theorem Ev.to (h : Ev te Γ M M1 k) (f : ∀ v H1, k.p v H1 → kx.p v H1) : Ev te Γ M M1 kx := fun F σ B C s o Q q => h F σ B C s o Q fun v B' C' e o' p => q v B' C' e o' (f v B' p)
theorem Ev.is {d d' : PyData} (h : Ev te Γ M M1 (kD d)) (e : d = d') : Ev te Γ M M1 (kD d') := e ▸ h
theorem ev_var {i : Nat} (h : Γ[i]? = some (some k)) : Ev (tVar i) Γ M M k := fun F σ B C s o Q q => by
  obtain ⟨v, h1, h2⟩ := s.at_ i k h
  exact ⟨v, h1, q v B C (Ex.refl B) o h2⟩
theorem ev_cv {v : V} (p : ∀ H1, k.p v H1) : Ev (tC v) Γ M M k := fun F σ B C s o Q q => q v B C (Ex.refl B) o (p B)
theorem ev_int {i : Int} : Ev (tC (.int i)) Γ M M (kI i) := ev_cv fun _ => .int i
theorem ev_bl {c : Bool} : Ev (tC (.bl c)) Γ M M (kB c) := ev_cv fun _ => .bl c
theorem ev_str {x : Str} : Ev (tC (.str x)) Γ M M (kD (.str x)) := ev_cv fun _ => .str x
theorem ev_non : Ev (tC .non) Γ M M (kD .none) := ev_cv fun _ => .non
theorem ev_c {v : V} : Ev (tC v) Γ M M (kC v) := ev_cv fun _ => rfl
theorem ev_op {r : R2} (ha : Ev ta Γ M M1 kx) (hb : Ev tb Γ M1 M2 ky) (hr : RK r M2 kx ky kz) : Ev (tOp r ta tb) Γ M M2 kz := fun F σ B C s o Q q =>
  ha F σ B C s o _ fun x B1 C1 e1 o1 px => hb F σ B1 C1 (s.ex e1) o1 _ fun y B2 C2 e2 o2 py => hr x y F B2 C2 o2 (kx.mono e2 px) py Q fun z B3 C3 e3 o3 pz => q z B3 C3 ((e1.trans e2).trans e3) o3 pz
theorem ev_un {r : V → Hp → VK → Prop} (ha : Ev ta Γ M M1 kx) (hr : UK r M1 kx kz) : Ev (tUn r ta) Γ M M1 kz := fun F σ B C s o Q q =>
  ha F σ B C s o _ fun x B1 C1 e1 o1 px => hr x F B1 C1 o1 px Q fun z B3 C3 e3 o3 pz => q z B3 C3 (e1.trans e3) o3 pz
theorem ev_if (h : EvT tt Γ M M1 b) (h1 : b = true → Ev ta Γ M1 M2 k) (h2 : b = false → Ev tb Γ M1 M2 k) : Ev (tIf tt ta tb) Γ M M2 k := fun F σ B C s o Q q => h F σ B C s o _ fun B1 C1 e1 o1 => by
  cases b with
  | true => exact h1 rfl F σ B1 C1 (s.ex e1) o1 Q fun v B2 C2 e2 o2 p => q v B2 C2 (e1.trans e2) o2 p
  | false => exact h2 rfl F σ B1 C1 (s.ex e1) o1 Q fun v B2 C2 e2 o2 p => q v B2 C2 (e1.trans e2) o2 p
/-! tests -/
theorem et_B (h : Ev te Γ M M1 (kB b)) : EvT (tB te) Γ M M1 b := fun F σ B C s o Q q => h F σ B C s o _ fun v B1 C1 e1 o1 p => ⟨b, p.bl_inv, q B1 C1 e1 o1⟩
theorem et_test (h : Ev te Γ M M1 (kB b)) : EvT (tTest te) Γ M M1 b := fun F σ B C s o Q q => h F σ B C s o _ fun v B1 C1 e1 o1 p => ⟨b, p.bl_inv, q B1 C1 e1 o1⟩
theorem et_and (h1 : EvT tt Γ M M b) (h2 : b = true → EvT tu Γ M M c) : EvT (tAnd tt tu) Γ M M (b && c) := fun F σ B C s o Q q => h1 F σ B C s o _ fun B1 C1 e1 o1 => by
  cases b with
  | true => exact h2 rfl F σ B1 C1 (s.ex e1) o1 Q fun B2 C2 e2 o2 => q B2 C2 (e1.trans e2) o2
  | false => exact q B1 C1 e1 o1
theorem et_or (h1 : EvT tt Γ M M b) (h2 : b = false → EvT tu Γ M M c) : EvT (tOr tt tu) Γ M M (b || c) := fun F σ B C s o Q q => h1 F σ B C s o _ fun B1 C1 e1 o1 => by
  cases b with
  | false => exact h2 rfl F σ B1 C1 (s.ex e1) o1 Q fun B2 C2 e2 o2 => q B2 C2 (e1.trans e2) o2
  | true => exact q B1 C1 e1 o1
theorem et_not (h : EvT tt Γ M M1 b) : EvT (tNot tt) Γ M M1 (!b) := fun F σ B C s o Q q => h F σ B C s o _ fun B1 C1 e1 o1 => q B1 C1 e1 o1
theorem EvT.is (h : EvT tt Γ M M1 b) (e : b = c) : EvT tt Γ M M1 c := e ▸ h
theorem ev_and (h1 : Ev ta Γ M M (kB b)) (h2 : b = true → Ev tb Γ M M (kB c)) : Ev (tAndV ta tb) Γ M M (kB (b && c)) := fun F σ B C s o Q q => h1 F σ B C s o _ fun x B1 C1 e1 o1 p => ⟨b, p.bl_inv, by
  cases b with
  | true => exact h2 rfl F σ B1 C1 (s.ex e1) o1 Q fun v B2 C2 e2 o2 p => q v B2 C2 (e1.trans e2) o2 p
  | false => exact q _ B1 C1 e1 o1 (.bl false)⟩
theorem ev_or (h1 : Ev ta Γ M M (kB b)) (h2 : b = false → Ev tb Γ M M (kB c)) : Ev (tOrV ta tb) Γ M M (kB (b || c)) := fun F σ B C s o Q q => h1 F σ B C s o _ fun x B1 C1 e1 o1 p => ⟨b, p.bl_inv, by
  cases b with
  | false => exact h2 rfl F σ B1 C1 (s.ex e1) o1 Q fun v B2 C2 e2 o2 p => q v B2 C2 (e1.trans e2) o2 p
  | true => exact q _ B1 C1 e1 o1 (.bl true)⟩
theorem ev_not (h1 : Ev ta Γ M M1 (kB b)) : Ev (tNotV ta) Γ M M1 (kB (!b)) := fun F σ B C s o Q q => h1 F σ B C s o _ fun x B1 C1 e1 o1 p => ⟨b, p.bl_inv, q _ B1 C1 e1 o1 (.bl _)⟩
theorem et_yes : EvT tYes Γ M M true := fun F σ B C s o Q q => q B C (Ex.refl B) o
/-! arguments, displays -/
theorem ea_nil : EvA tNil Γ M M [] := fun F σ B C s o Q q => q [] B C (Ex.refl B) o .nil
theorem ea_cons {t : TA} {ks : List Kn} (h : Ev te Γ M M1 k) (hr : EvA t Γ M1 M2 ks) : EvA (tCons te t) Γ M M2 (k :: ks) := fun F σ B C s o Q q =>
  h F σ B C s o _ fun x B1 C1 e1 o1 p => hr F σ B1 C1 (s.ex e1) o1 _ fun xs B2 C2 e2 o2 ps => q (x :: xs) B2 C2 (e1.trans e2) o2 (.cons (k.mono e2 p) ps)
theorem ea_one (h : Ev te Γ M M1 k) : EvA (tCons te tNil) Γ M M1 [k] := ea_cons h ea_nil
theorem ea_two (h : Ev ta Γ M M1 kx) (h2 : Ev tb Γ M1 M2 ky) : EvA (tCons ta (tCons tb tNil)) Γ M M2 [kx, ky] := ea_cons h (ea_one h2)
theorem ev_tup {t : TA} {ks : List Kn} (h : EvA t Γ M M1 ks) (hl : ks.length ≤ sizeLine := by first | decide | simp [sizeLine_eq]) : Ev (tTup t) Γ M M1 (kTup ks) := fun F σ B C s o Q q =>
  h F σ B C s o _ fun xs B1 C1 e1 o1 ps => ⟨by rw [← ps.length]; exact hl, fun p hp => q (.ref p) _ _ (e1.trans (Ex.new (o1.ex.back hp))) (o1.new hp) ⟨p, xs, rfl, upd_same, ps.ex (Ex.new (o1.ex.back hp))⟩⟩
theorem ev_lst {t : TA} {ks : List Kn} (h : EvA t Γ M M1 ks) (hl : ks.length ≤ sizeLine := by first | decide | simp [sizeLine_eq]) : Ev (tLst t) Γ M M1 (kLst ks) := fun F σ B C s o Q q =>
  h F σ B C s o _ fun xs B1 C1 e1 o1 ps => ⟨by rw [← ps.length]; exact hl, fun p hp => q (.ref p) _ _ (e1.trans (Ex.new (o1.ex.back hp))) (o1.new hp) ⟨p, xs, rfl, upd_same, ps.ex (Ex.new (o1.ex.back hp))⟩⟩
theorem ev_tup2D {d1 d2 : PyData} (h : Ev ta Γ M M1 (kD d1)) (h2 : Ev tb Γ M1 M2 (kD d2)) : Ev (tTup (tCons ta (tCons tb tNil))) Γ M M2 (kD (.tuple [d1, d2])) := (ev_tup (ea_two h h2)).to fun _ _ p => kTup_data (ds := [d1, d2]).mp p
theorem ev_lst0D : Ev (tLst tNil) Γ M M (kD (.list [])) := (ev_lst ea_nil).to fun _ _ p => kLst_data (ds := []).mp p
theorem ev_tup0D : Ev (tTup tNil) Γ M M (kD (.tuple [])) := (ev_tup ea_nil).to fun _ _ p => kTup_data (ds := []).mp p
theorem ev_lst1D {d1 : PyData} (h : Ev ta Γ M M1 (kD d1)) : Ev (tLst (tCons ta tNil)) Γ M M1 (kD (.list [d1])) := (ev_lst (ea_one h)).to fun _ _ p => kLst_data (ds := [d1]).mp p
theorem ev_lst2D {d1 d2 : PyData} (h : Ev ta Γ M M1 (kD d1)) (h2 : Ev tb Γ M1 M2 (kD d2)) : Ev (tLst (tCons ta (tCons tb tNil))) Γ M M2 (kD (.list [d1, d2])) := (ev_lst (ea_two h h2)).to fun _ _ p => kLst_data (ds := [d1, d2]).mp p
theorem ev_cb {r : List V → Hp → VK → Prop} {t : TA} {ks : List Kn} (h : EvA t Γ M M1 ks) (hr : CK r M1 ks kz) : Ev (tCB r t) Γ M M1 kz := fun F σ B C s o Q q =>
  h F σ B C s o _ fun xs B1 C1 e1 o1 ps => hr xs F B1 C1 o1 ps Q fun z B3 C3 e3 o3 pz => q z B3 C3 (e1.trans e3) o3 pz
/-! slices -/
theorem eo_none : EvO tNoPart Γ M M none := fun F σ B C s o Q q => q B C (Ex.refl B) o
theorem eo_some {i : Int} (h : Ev te Γ M M1 (kI i)) : EvO (tPart te) Γ M M1 (some i) := fun F σ B C s o Q q => h F σ B C s o _ fun v B1 C1 e1 o1 p => ⟨i, p.int_inv, q B1 C1 e1 o1⟩
theorem ev_slice {r : V → Option Int → Option Int → Hp → VK → Prop} {tl th : TO} {lo hi : Option Int} (h : Ev te Γ M M1 k) (h1 : EvO tl Γ M1 M2 lo) (h2 : EvO th Γ M2 M3 hi) (hr : UK (fun x H Q => r x lo hi H Q) M3 k kz) : Ev (L2.tSl r te tl th) Γ M M3 kz := fun F σ B C s o Q q =>
  h F σ B C s o _ fun x B1 C1 e1 o1 p => h1 F σ B1 C1 (s.ex e1) o1 _ fun B2 C2 e2 o2 => h2 F σ B2 C2 (s.ex (e1.trans e2)) o2 _ fun B3 C3 e3 o3 =>
    hr x F B3 C3 o3 (k.mono (e2.trans e3) p) Q fun z B4 C4 e4 o4 pz => q z B4 C4 (((e1.trans e2).trans e3).trans e4) o4 pz
/-! a method of a built-in -/
theorem ev_bm {T : String} {r : V → List V → Hp → VK → Prop} {t : TA} {ks : List Kn} (ho : Ev te Γ M M1 k) (ht : ∀ v F B C, OkM (M1 ++ F) B C → k.p v B → tyV K T v C) (h : EvA t Γ M1 M2 ks) (hr : MK r M2 M3 k ks kz) : Ev (tBM K T r te t) Γ M M3 kz := fun F σ B C s o Q q =>
  ho F σ B C s o _ fun x B1 C1 e1 o1 p => ⟨ht x F B1 C1 o1 p, h F σ B1 C1 (s.ex e1) o1 _ fun xs B2 C2 e2 o2 ps => hr x xs F B2 C2 o2 (k.mono e2 p) ps Q fun z B3 C3 e3 o3 pz => q z B3 C3 ((e1.trans e2).trans e3) o3 pz⟩
theorem ev_bm0 {T : String} {r : V → List V → Hp → VK → Prop} (ho : Ev te Γ M M1 k) (ht : ∀ v F B C, OkM (M1 ++ F) B C → k.p v B → tyV K T v C) (hr : MK r M1 M3 k [] kz) : Ev (tBM0 K T r te) Γ M M3 kz := fun F σ B C s o Q q =>
  ho F σ B C s o _ fun x B1 C1 e1 o1 p => ⟨ht x F B1 C1 o1 p, hr x [] F B1 C1 o1 p .nil Q fun z B3 C3 e3 o3 pz => q z B3 C3 (e1.trans e3) o3 pz⟩
/-! dicts read -/
theorem ev_dget (hd : Ev ta Γ M M1 kx) (hy : Ev tb Γ M1 M2 ky) (hr : ∀ x y F B C, OkM (M2 ++ F) B C → kx.p x B → ky.p y B → ∃ a v, x = .ref a ∧ DGet C a y (some v) ∧ kz.p v B) : Ev (tDGet ta tb) Γ M M2 kz := fun F σ B C s o Q q =>
  hd F σ B C s o _ fun x B1 C1 e1 o1 px => hy F σ B1 C1 (s.ex e1) o1 _ fun y B2 C2 e2 o2 py => by
    obtain ⟨a, v, h1, h2, h3⟩ := hr x y F B2 C2 o2 (kx.mono e2 px) py
    exact ⟨a, v, h1, h2, q v B2 C2 (e1.trans e2) o2 h3⟩
theorem ev_din (hy : Ev ta Γ M M1 ky) (hd : Ev tb Γ M1 M2 kx) (hr : ∀ x y F B C, OkM (M2 ++ F) B C → kx.p x B → ky.p y B → ∃ a o, x = .ref a ∧ DGet C a y o ∧ o.isSome = b) : Ev (tDIn ta tb) Γ M M2 (kB b) := fun F σ B C s o Q q =>
  hy F σ B C s o _ fun y B1 C1 e1 o1 py => hd F σ B1 C1 (s.ex e1) o1 _ fun x B2 C2 e2 o2 px => by
    obtain ⟨a, u, h1, h2, h3⟩ := hr x y F B2 C2 o2 px (ky.mono e2 py)
    exact ⟨a, u, h1, h2, by rw [h3]; exact q _ B2 C2 (e1.trans e2) o2 (.bl b)⟩
theorem ev_dnotin (hy : Ev ta Γ M M1 ky) (hd : Ev tb Γ M1 M2 kx) (hr : ∀ x y F B C, OkM (M2 ++ F) B C → kx.p x B → ky.p y B → ∃ a o, x = .ref a ∧ DGet C a y o ∧ o.isSome = b) : Ev (tDNotIn ta tb) Γ M M2 (kB (!b)) := fun F σ B C s o Q q =>
  hy F σ B C s o _ fun y B1 C1 e1 o1 py => hd F σ B1 C1 (s.ex e1) o1 _ fun x B2 C2 e2 o2 px => by
    obtain ⟨a, u, h1, h2, h3⟩ := hr x y F B2 C2 o2 px (ky.mono e2 py)
    exact ⟨a, u, h1, h2, by rw [h3]; exact q _ B2 C2 (e1.trans e2) o2 (.bl (!b))⟩
/-! not known ahead -/
theorem Ev.g (h : Ev te Γ M M1 k) : EvG (α := Unit) te Γ M (fun _ => k) (fun _ => M1) := fun F σ B C s o Q q => h F σ B C s o Q (q ())
/-- a new list, to be changed -/
theorem eg_lst {t : TA} {ks : List Kn} (h : EvA t Γ M M1 ks) (hl : ks.length ≤ sizeLine := by first | decide | simp [sizeLine_eq]) : EvG (α := Addr) (tLst t) Γ M (fun D => kC (.ref D)) (fun D => mLst D ks :: M1) := fun F σ B C s o Q q =>
  h F σ B C s o _ fun xs B1 C1 e1 o1 ps => ⟨by rw [← ps.length]; exact hl, fun p hp => q p (.ref p) _ _ e1 (o1.add (m := mLst p ks) (o1.ex.mut (o1.ex.back hp)) (fun a u z => by rw [upd_ne (ne_of_none z hp)]; exact z) ⟨xs, upd_same, ps⟩ fun a z => by rw [z]; exact hp) rfl⟩
end
/-- one of many -/
def kEx {α : Type} (κ : α → Kn) : Kn := ⟨fun v H => ∃ a, (κ a).p v H, fun e ⟨a, h⟩ => ⟨a, (κ a).mono e h⟩⟩
theorem EvG.ex {α : Type} {te : TE} {Γ : Ga} {M M1 : List Mu} {ρ : α → Kn} (h : EvG te Γ M ρ fun _ => M1) : Ev te Γ M M1 (kEx ρ) := fun F σ B C s o Q q => h F σ B C s o Q fun a v B' C' e o' p => q v B' C' e o' ⟨a, p⟩
theorem Ev.one {α : Type} {te : TE} {Γ : Ga} {M M1 : List Mu} {κ : α → Kn} (h : Ev te Γ M M1 (kEx κ)) : EvG te Γ M κ fun _ => M1 := fun F σ B C s o Q q => h F σ B C s o Q fun v B' C' e o' ⟨a, p⟩ => q a v B' C' e o' p

/-! ### what is walked -/
/-- from A on, while S stands, the walker J gives just things of which ks is known -/
structure GoesK (J : It) (A : Hp) (S : List Mu) (ks : List Kn) : Prop where
  go : ∀ N B C, (∀ m ∈ S, m ∈ N) → Ex A B → OkM N B C → ∀ i, i < ks.length → J.go i C
  stop : ∀ N B C, (∀ m ∈ S, m ∈ N) → Ex A B → OkM N B C → J.stop ks.length C
  yld : ∀ N B C, (∀ m ∈ S, m ∈ N) → Ex A B → OkM N B C → ∀ (i : Nat) (k : Kn) (x : V) (C' : Hp), ks[i]? = some k → J.yld i C x C' → ∃ B', Ex B B' ∧ OkM N B' C' ∧ k.p x B'
def EvI (wi : TI) (Γ : Ga) (M M' : List Mu) (S : List Mu) (ks : List Kn) : Prop := ∀ (F : List Mu) (σ : L2.St) (B C : Hp), Sk Γ B σ → OkM (M ++ F) B C → ∀ R : It → Hp → Prop, (∀ J B' C', Ex B B' → OkM (M' ++ F) B' C' → GoesK J B' S ks → R J C') → wi σ C R
section
variable {Γ : Ga} {M M1 : List Mu} {te ta tb : TE} {K : PySem.W.Frag} {ks : List Kn}
theorem goes_list {A : Hp} {a : Addr} {xs : List V} (h : A a = some (.lst xs)) (hk : AllK A ks xs) : GoesK (Itl K a) A [] ks := by
  have hl := hk.length
  refine ⟨fun N B C _ e o i hi => ⟨xs, xs[i]'(by omega), SqL.of (o.ex _ _ (e _ _ h)), List.getElem?_eq_getElem _⟩, fun N B C _ e o => ⟨xs, SqL.of (o.ex _ _ (e _ _ h)), by omega⟩, fun N B C _ e o i k y C' hi ⟨he, hy⟩ => ?_⟩
  subst he
  obtain ⟨v, hv, pv⟩ := hk.at hi
  have h1 := hy xs (SqL.of (o.ex _ _ (e _ _ h)))
  rw [hv] at h1
  cases h1
  exact ⟨B, Ex.refl B, o, k.mono e pv⟩
theorem goes_tup {A : Hp} {a : Addr} {xs : List V} (h : A a = some (.tup xs)) (hk : AllK A ks xs) : GoesK (Itt K a) A [] ks := by
  have hl := hk.length
  refine ⟨fun N B C _ e o i hi => ⟨xs, xs[i]'(by omega), SqT.of (o.ex _ _ (e _ _ h)), List.getElem?_eq_getElem _⟩, fun N B C _ e o => ⟨xs, SqT.of (o.ex _ _ (e _ _ h)), by omega⟩, fun N B C _ e o i k y C' hi ⟨he, hy⟩ => ?_⟩
  subst he
  obtain ⟨v, hv, pv⟩ := hk.at hi
  have h1 := hy xs (SqT.of (o.ex _ _ (e _ _ h)))
  rw [hv] at h1
  cases h1
  exact ⟨B, Ex.refl B, o, k.mono e pv⟩
/-- a list that may change later on, but not while it is walked -/
theorem goes_mut {A : Hp} {D : Addr} : GoesK (Itl K D) A [mLst D ks] ks := by
  refine ⟨fun N B C hs e o i hi => ?_, fun N B C hs e o => ?_, fun N B C hs e o i k y C' hi ⟨he, hy⟩ => ?_⟩ <;> obtain ⟨xs, h1, h2⟩ := o.p _ (hs _ (List.mem_cons_self ..)) <;> have hl := h2.length
  · exact ⟨xs, xs[i]'(by omega), SqL.of h1, List.getElem?_eq_getElem _⟩
  · exact ⟨xs, SqL.of h1, by omega⟩
  · subst he
    obtain ⟨v, hv, pv⟩ := h2.at hi
    have h3 := hy xs (SqL.of h1)
    rw [hv] at h3
    cases h3
    exact ⟨B, Ex.refl B, o, pv⟩
theorem goes_range {A : Hp} {n : Nat} : GoesK (Itr 0 n) A [] ((List.range n).map fun i : Nat => kI i) := by
  have hl : ((List.range n).map fun i : Nat => kI i).length = n := by simp
  refine ⟨fun N B C _ e o i hi => ?_, fun N B C _ e o => ?_, fun N B C _ e o i k y C' hk ⟨he, hy⟩ => ?_⟩
  · rw [hl] at hi
    exact hi
  · rw [hl]
    exact Nat.le_refl n
  · subst he
    have hi : i < n := by
      have := (List.getElem?_eq_some_iff.mp hk).1
      rwa [hl] at this
    rw [List.getElem?_map, List.getElem?_range hi] at hk
    cases hk
    refine ⟨B, Ex.refl B, o, ?_⟩
    rw [hy, Int.zero_add]
    exact .int _
theorem ei_list (h : Ev te Γ M M1 (kLst ks)) : EvI (iList K te) Γ M M1 [] ks := fun F σ B C s o R q =>
  h F σ B C s o _ fun x B1 C1 e1 o1 ⟨a, xs, h1, h2, h3⟩ => ⟨a, h1, ⟨xs, SqL.of (o1.ex _ _ h2)⟩, q _ B1 C1 e1 o1 (goes_list h2 h3)⟩
theorem ei_tup (h : Ev te Γ M M1 (kTup ks)) : EvI (iTup K te) Γ M M1 [] ks := fun F σ B C s o R q =>
  h F σ B C s o _ fun x B1 C1 e1 o1 ⟨a, xs, h1, h2, h3⟩ => ⟨a, h1, ⟨xs, SqT.of (o1.ex _ _ h2)⟩, q _ B1 C1 e1 o1 (goes_tup h2 h3)⟩
theorem ei_mut {D : Addr} (h : Ev te Γ M M1 (kC (.ref D))) (hm : mLst D ks ∈ M1) : EvI (iList K te) Γ M M1 [mLst D ks] ks := fun F σ B C s o R q =>
  h F σ B C s o _ fun x B1 C1 e1 o1 p => by
    obtain ⟨xs, h1, h2⟩ := o1.p _ (List.mem_append_left _ hm)
    exact ⟨D, p, ⟨xs, SqL.of h1⟩, q _ B1 C1 e1 o1 goes_mut⟩
theorem ei_listD {ds : List PyData} (h : Ev te Γ M M1 (kD (.list ds))) : EvI (iList K te) Γ M M1 [] (ds.map kD) := ei_list (h.to fun _ _ p => kLst_data.mpr p)
theorem ei_tupD {ds : List PyData} (h : Ev te Γ M M1 (kD (.tuple ds))) : EvI (iTup K te) Γ M M1 [] (ds.map kD) := ei_tup (h.to fun _ _ p => kTup_data.mpr p)
theorem ei_range {n : Nat} (h : Ev te Γ M M1 (kI n)) (hn : n ≤ 100000) : EvI (iRng1 (tCons te tNil)) Γ M M1 [] ((List.range n).map fun i : Nat => kI i) := fun F σ B C s o R q =>
  h F σ B C s o _ fun x B1 C1 e1 o1 p => ⟨n, by rw [p.int_inv], by omega, by omega, by
    have e2 : (n : Int).toNat = n := by omega
    rw [e2]
    exact q _ B1 C1 e1 o1 goes_range⟩
end

/-! ### targets -/
/-- x, of which k is known, is parted into the slots is -/
def Tg (g : TG) (k : Kn) (Γ Γ' : Ga) (is : List Nat) : Prop := ∀ (N : List Mu) x σ B C, Sk Γ B σ → OkM N B C → k.p x B → ∀ Q : L2.St → Hp → Prop, (∀ σ', Sk Γ' B σ' → (∀ j, j ∉ is → σ'[j]? = σ[j]?) → σ'.length = σ.length → Q σ' C) → g x σ C Q
def Tgs (g : TGs) (ks : List Kn) (Γ Γ' : Ga) (is : List Nat) : Prop := ∀ (N : List Mu) xs σ B C, Sk Γ B σ → OkM N B C → AllK B ks xs → ∀ Q : L2.St → Hp → Prop, (∀ σ', Sk Γ' B σ' → (∀ j, j ∉ is → σ'[j]? = σ[j]?) → σ'.length = σ.length → Q σ' C) → g xs σ C Q
section
variable {Γ Γ1 Γ2 : Ga} {k : Kn} {ks : List Kn} {K : PySem.W.Frag}
theorem tg_name {i : Nat} : Tg (gName i) k Γ (Γ.set i (some k)) [i] := fun N x σ B C s o p Q q => q _ (s.set p) (fun j hj => List.getElem?_set_ne fun e => hj (by rw [e]; exact List.mem_cons_self ..)) List.length_set
theorem tgs_nil : Tgs gNil [] Γ Γ [] := fun N xs σ B C s o p Q q => by
  cases p
  exact ⟨rfl, q σ s (fun _ _ => rfl) rfl⟩
theorem tgs_cons {g : TG} {u : TGs} {is js : List Nat} (h : Tg g k Γ Γ1 is) (hr : Tgs u ks Γ1 Γ2 js) : Tgs (gCons g u) (k :: ks) Γ Γ2 (is ++ js) := fun N xs σ B C s o p Q q => by
  cases p with
  | cons p ps => exact ⟨_, _, rfl, h N _ σ B C s o p _ fun σ1 s1 h1 l1 => hr N _ σ1 B C s1 o ps Q fun σ2 s2 h2 l2 => q σ2 s2 (fun j hj => (h2 j fun z => hj (List.mem_append_right _ z)).trans (h1 j fun z => hj (List.mem_append_left _ z))) (l2.trans l1)⟩
theorem tg_tup {n : Nat} {u : TGs} {is : List Nat} (h : Tgs u ks Γ Γ1 is) (hn : ks.length = n) : Tg (gTup K n u) (kTup ks) Γ Γ1 is := fun N x σ B C s o ⟨a, xs, h1, h2, h3⟩ Q q =>
  ⟨a, xs, h1, SqT.of (o.ex _ _ h2), by rw [← h3.length]; exact hn, h N xs σ B C s o h3 Q q⟩
theorem Tg.of {g : TG} {k' : Kn} {is : List Nat} (h : Tg g k Γ Γ1 is) (f : ∀ v H, k'.p v H → k.p v H) : Tg g k' Γ Γ1 is := fun N x σ B C s o p Q q => h N x σ B C s o (f x B p) Q q
theorem tg_two {i j : Nat} {k1 k2 : Kn} : Tg (gTup K 2 (gCons (gName i) (gCons (gName j) gNil))) (kTup [k1, k2]) Γ ((Γ.set i (some k1)).set j (some k2)) [i, j] := tg_tup (tgs_cons tg_name (tgs_cons tg_name tgs_nil)) rfl
theorem tg_twoD {i j : Nat} {d1 d2 : PyData} : Tg (gTup K 2 (gCons (gName i) (gCons (gName j) gNil))) (kD (.tuple [d1, d2])) Γ ((Γ.set i (some (kD d1))).set j (some (kD d2))) [i, j] := tg_two.of fun _ _ p => kTup_data (ds := [d1, d2]).mpr p
theorem tg_tri {i j l : Nat} {k1 k2 k3 : Kn} : Tg (gTup K 3 (gCons (gName i) (gCons (gName j) (gCons (gName l) gNil)))) (kTup [k1, k2, k3]) Γ (((Γ.set i (some k1)).set j (some k2)).set l (some k3)) [i, j, l] := tg_tup (tgs_cons tg_name (tgs_cons tg_name (tgs_cons tg_name tgs_nil))) rfl
theorem tg_triD {i j l : Nat} {d1 d2 d3 : PyData} : Tg (gTup K 3 (gCons (gName i) (gCons (gName j) (gCons (gName l) gNil)))) (kD (.tuple [d1, d2, d3])) Γ (((Γ.set i (some (kD d1))).set j (some (kD d2))).set l (some (kD d3))) [i, j, l] := tg_tri.of fun _ _ p => kTup_data (ds := [d1, d2, d3]).mpr p
end

/-! ### comprehensions -/
/-- one turn -/
def TurnK (g : TG) (tt : TT) (te : TE) (vs : List Nat) (Γ : Ga) (M : List Mu) (ki : Kn) (b : Bool) (k : Kn) : Prop :=
  ∃ Γ1 is, Tg g ki (wipeG Γ vs) Γ1 is ∧ (∀ i ∈ is, i ∈ vs) ∧ EvT tt Γ1 M M b ∧ (b = true → Ev te Γ1 M M k)
theorem wipe_at (σ : L2.St) (j : Nat) : ∀ vs : List Nat, (wipe σ vs)[j]? = if j ∈ vs ∧ j < σ.length then some none else σ[j]?
  | [] => by simp [wipe]
  | v :: vs => by
    unfold wipe
    by_cases e : v = j
    · subst e
      by_cases hl : v < σ.length
      · rw [List.getElem?_set_self (by rw [wipe_length]; exact hl), if_pos ⟨List.mem_cons_self .., hl⟩]
      · rw [if_neg fun z => hl z.2, List.getElem?_eq_none_iff.mpr (by rw [List.length_set, wipe_length]; omega), List.getElem?_eq_none_iff.mpr (by omega)]
    · rw [List.getElem?_set_ne e, wipe_at σ j vs]
      have : (j ∈ v :: vs) ↔ j ∈ vs := by simp [List.mem_cons, Ne.symm e]
      simp only [this]
theorem wipe_same {σ σ' : L2.St} {vs : List Nat} (h : ∀ j, j ∉ vs → σ'[j]? = (wipe σ vs)[j]?) (hl : σ'.length = (wipe σ vs).length) : wipe σ' vs = wipe σ vs := by
  apply List.ext_getElem?
  intro j
  rw [wipe_at, wipe_at]
  rw [wipe_length] at hl
  by_cases hj : j ∈ vs
  · by_cases h2 : j < σ.length
    · rw [if_pos ⟨hj, by omega⟩, if_pos ⟨hj, h2⟩]
    · rw [if_neg fun z => h2 (by omega), if_neg fun z => h2 z.2, List.getElem?_eq_none_iff.mpr (by omega), List.getElem?_eq_none_iff.mpr (by omega)]
  · rw [if_neg fun z => hj z.1, if_neg fun z => hj z.1, h j hj, wipe_at, if_neg fun z => hj z.1]
theorem take_next {α : Type} {l : List α} {i : Nat} {x : α} (h : l[i]? = some x) : l.take (i + 1) = l.take i ++ [x] := by
  rw [List.take_add_one, h]
  rfl
theorem ev_lc {α : Type} {wi : TI} {g : TG} {tt : TT} {te : TE} {vs : List Nat} {Γ : Ga} {M M1 S : List Mu} (l : List α) (ki : α → Kn) (b : α → Bool) (ke : α → Kn) (hi : EvI wi Γ M M1 S (l.map ki)) (hS : ∀ m ∈ S, m ∈ M1) (hl : l.length ≤ 50000)
    (turn : ∀ (i : Nat) (a : α), l[i]? = some a → TurnK g tt te vs Γ M1 (ki a) (b a) (ke a)) : Ev (tLc wi g tt te vs) Γ M M1 (kLst ((l.filter b).map ke)) := fun F σ B0 C0 sk o0 Q q =>
  hi F σ B0 C0 sk o0 _ fun J A C1 eA oA goes => fun D hD => by
    have hadd := oA.add (m := mLst D []) (C' := upd C1 D (.lst [])) (oA.ex.mut (oA.ex.back hD)) (fun a u z => by rw [upd_ne (ne_of_none z hD)]; exact z) ⟨[], upd_same, .nil⟩ fun a z => by rw [z]; exact hD
    have hlen : (l.map ki).length = l.length := by simp
    have sub : ∀ ks : List Kn, ∀ m ∈ S, m ∈ mLst D ks :: (M1 ++ F) := fun ks m hm => List.mem_cons_of_mem _ (List.mem_append_left _ (hS m hm))
    have perm : ∀ ks : List Kn, (mLst D ks :: (M1 ++ F)).Perm (M1 ++ (mLst D ks :: F)) := fun ks => List.perm_middle.symm
    refine ⟨fun i m C => m = l.length - i ∧ i ≤ l.length ∧ ∃ B, Ex A B ∧ OkM (mLst D (((l.take i).filter b).map ke) :: (M1 ++ F)) B C, ⟨l.length, by simp, Nat.zero_le _, A, Ex.refl A, hadd⟩, ?_⟩
    rintro i m C ⟨rfl, hil, B, eAB, ok⟩
    by_cases hlt : i < l.length
    · have hla : l[i]? = some l[i] := List.getElem?_eq_getElem hlt
      have hka : (l.map ki)[i]? = some (ki l[i]) := by rw [List.getElem?_map, hla]; rfl
      have htk : l.take (i + 1) = l.take i ++ [l[i]] := take_next hla
      refine .inr ⟨goes.go _ B C (sub _) eAB ok i (by omega), fun C' => i + 1 ≤ l.length ∧ ∃ B, Ex A B ∧ OkM (mLst D (((l.take (i + 1)).filter b).map ke) :: (M1 ++ F)) B C', fun C' h => ⟨l.length - (i + 1), by omega, rfl, h⟩, fun x C1 hy => ?_⟩
      obtain ⟨B1, e1, ok1, px⟩ := goes.yld _ B C (sub _) eAB ok i _ x C1 hka hy
      obtain ⟨Γ1, is, htg, hsub, htt, hte⟩ := turn i _ hla
      have sk1 : Sk (wipeG Γ vs) B1 (wipe σ vs) := (sk.ex ((eA.trans eAB).trans e1)).wipe vs
      refine htg _ x _ B1 C1 sk1 ok1 px _ fun σ2 sk2 hoff hlen2 => ⟨wipe_same (fun j hj => hoff j fun z => hj (hsub j z)) hlen2, ?_⟩
      refine htt (mLst D (((l.take i).filter b).map ke) :: F) σ2 B1 C1 sk2 (ok1.perm (perm _)) _ fun B2 C2 e2 ok2 => ?_
      by_cases hb : b l[i] = true
      · rw [if_pos hb]
        refine hte hb (mLst D (((l.take i).filter b).map ke) :: F) σ2 B2 C2 (sk2.ex e2) ok2 _ fun y B3 C3 e3 ok3 py => ?_
        have ok4 := ok3.perm (perm _).symm
        obtain ⟨acc, hacc, hall⟩ := ok4.head
        have z1 := hall.length
        have z2 := List.length_filter_le b (l.take i)
        rw [List.length_map] at z1
        rw [List.length_take] at z2
        refine ⟨acc, hacc, by rw [sizeLine_eq]; omega, hlt, B3, ((eAB.trans e1).trans e2).trans e3, ok4.chg (m' := mLst D (((l.take (i + 1)).filter b).map ke)) (ok4.ex.mut (ok4.off _ (List.mem_cons_self ..) D rfl)) (fun a ha => upd_ne ha) ⟨acc ++ [y], upd_same, ?_⟩ fun a ha => .inl ha⟩
        rw [htk, List.filter_append, List.map_append]
        refine hall.append ?_
        rw [List.filter_cons_of_pos hb]
        exact .cons py .nil
      · rw [if_neg hb]
        refine ⟨hlt, B2, (eAB.trans e1).trans e2, ?_⟩
        rw [htk, List.filter_append, List.map_append, List.filter_cons_of_neg hb]
        simpa using ok2.perm (perm _).symm
    · have ei : i = l.length := by omega
      subst ei
      rw [List.take_length] at ok
      obtain ⟨acc, hacc, hall⟩ := ok.head
      have hBD : B D = none := ok.off _ (List.mem_cons_self ..) D rfl
      refine .inl ⟨by have := goes.stop _ B C (sub _) eAB ok; rwa [hlen] at this, q _ (upd B D (.lst acc)) C ((eA.trans eAB).trans (Ex.new hBD)) (ok.still (Ex.new hBD) (fun a u z => ?_) fun a u z n => ?_) ⟨D, acc, rfl, upd_same, hall.ex (Ex.new hBD)⟩⟩
      · by_cases e : a = D
        · subst e
          rw [upd_same] at z
          cases z
          exact hacc
        · rw [upd_ne e] at z
          exact ok.ex a u z
      · by_cases e : a = D
        · exact e
        · rw [upd_ne e, n] at z
          cases z
/-- of data -/
theorem ev_lcD {α : Type} {wi : TI} {g : TG} {tt : TT} {te : TE} {vs : List Nat} {Γ : Ga} {M M1 S : List Mu} (l : List α) (ki : α → Kn) (b : α → Bool) (ke : α → PyData) (hi : EvI wi Γ M M1 S (l.map ki)) (hS : ∀ m ∈ S, m ∈ M1) (hl : l.length ≤ 50000)
    (turn : ∀ (i : Nat) (a : α), l[i]? = some a → TurnK g tt te vs Γ M1 (ki a) (b a) (kD (ke a))) : Ev (tLc wi g tt te vs) Γ M M1 (kD (.list ((l.filter b).map ke))) :=
  (ev_lc l ki b (fun a => kD (ke a)) hi hS hl turn).to fun v H p => kLst_data.mp (by rw [List.map_map]; exact p)
/-- without a test -/
theorem ev_lcA {α : Type} {wi : TI} {g : TG} {te : TE} {vs : List Nat} {Γ : Ga} {M M1 S : List Mu} (l : List α) (ki : α → Kn) (ke : α → PyData) (hi : EvI wi Γ M M1 S (l.map ki)) (hS : ∀ m ∈ S, m ∈ M1) (hl : l.length ≤ 50000)
    (turn : ∀ (i : Nat) (a : α), l[i]? = some a → TurnK g tYes te vs Γ M1 (ki a) true (kD (ke a))) : Ev (tLc wi g tYes te vs) Γ M M1 (kD (.list (l.map ke))) := by
  have := ev_lcD (tt := tYes) l ki (fun _ => true) ke hi hS hl turn
  rwa [List.filter_eq_self.mpr fun _ _ => rfl] at this
end Fw
set_option Elab.async false
set_option linter.all false
set_option maxRecDepth 100000
set_option maxHeartbeats 4000000
/-! statements by what is known; promises; calls -/
namespace Fw
open PySem PySem.Spec PyProof.Rows L2

/-! ### statements -/
/-- what is wanted behind: of a returned value, and at the end -/
structure Po where
  r : Kn
  Mr : List Mu
  nx : Ga → List Mu → Prop
structure PoOk (P : Po) (F : List Mu) (B : Hp) (D : Ends) : Prop where
  rt : Wt (P.Mr ++ F) B P.r D.rt
  nx : ∀ (Γ : Ga) (M : List Mu) (σ : L2.St) (B' C' : Hp), P.nx Γ M → Ex B B' → Sk Γ B' σ → OkM (M ++ F) B' C' → D.nx σ C'
def Go (P : Po) (t : TS) (Γ : Ga) (M : List Mu) : Prop := ∀ (F : List Mu) (σ : L2.St) (B C : Hp) (D : Ends), Sk Γ B σ → OkM (M ++ F) B C → PoOk P F B D → t D σ C
abbrev Po.to (P : Po) (nx : Ga → List Mu → Prop) : Po := ⟨P.r, P.Mr, nx⟩
/-- arguments of which something is not known ahead -/
def EvAG {α : Type} (ta : TA) (Γ : Ga) (M : List Mu) (ρ : α → List Kn) (μ : α → List Mu) : Prop := ∀ (F : List Mu) (σ : L2.St) (B C : Hp), Sk Γ B σ → OkM (M ++ F) B C → ∀ Q : List V → Hp → Prop, (∀ a zs B' C', Ex B B' → OkM (μ a ++ F) B' C' → AllK B' (ρ a) zs → Q zs C') → ta σ C Q
section
variable {P : Po} {Γ Γ1 : Ga} {M M1 M2 : List Mu} {te ta tb : TE} {k kx ky kz : Kn} {tt : TT} {b : Bool} {K : PySem.W.Frag} {t u rest : TS}
theorem PoOk.ex {F : List Mu} {B B' : Hp} {D : Ends} (h : PoOk P F B D) (e : Ex B B') : PoOk P F B' D := ⟨fun z B2 C2 e2 o p => h.rt z B2 C2 (e.trans e2) o p, fun Γ M σ B2 C2 hn e2 s o => h.nx Γ M σ B2 C2 hn (e.trans e2) s o⟩
theorem EvA.g {t : TA} {ks : List Kn} (h : EvA t Γ M M1 ks) : EvAG (α := Unit) t Γ M (fun _ => ks) (fun _ => M1) := fun F σ B C s o Q q => h F σ B C s o Q (q ())
theorem eag_cons {α : Type} {t : TA} {ρ : α → List Kn} {μ : α → List Mu} (h : Ev te Γ M M1 k) (hr : EvAG t Γ M1 ρ μ) : EvAG (tCons te t) Γ M (fun a => k :: ρ a) μ := fun F σ B C s o Q q =>
  h F σ B C s o _ fun x B1 C1 e1 o1 p => hr F σ B1 C1 (s.ex e1) o1 _ fun a xs B2 C2 e2 o2 ps => q a (x :: xs) B2 C2 (e1.trans e2) o2 (.cons (k.mono e2 p) ps)
theorem eag_new {α β : Type} {t : TA} {ρ : α → Kn} {μ : α → List Mu} {ρ2 : α → β → List Kn} {μ2 : α → β → List Mu} (h : EvG te Γ M ρ μ) (hr : ∀ a, EvAG t Γ (μ a) (ρ2 a) (μ2 a)) : EvAG (tCons te t) Γ M (fun p : α × β => ρ p.1 :: ρ2 p.1 p.2) (fun p => μ2 p.1 p.2) := fun F σ B C s o Q q =>
  h F σ B C s o _ fun a x B1 C1 e1 o1 p => hr a F σ B1 C1 (s.ex e1) o1 _ fun b xs B2 C2 e2 o2 ps => q (a, b) (x :: xs) B2 C2 (e1.trans e2) o2 (.cons ((ρ a).mono e2 p) ps)
theorem eg_tup {α : Type} {t : TA} {ρ : α → List Kn} {μ : α → List Mu} (h : EvAG t Γ M ρ μ) (n : Nat) (hl : ∀ a, (ρ a).length = n) (hn : n ≤ sizeLine := by first | decide | simp [sizeLine_eq]) : EvG (tTup t) Γ M (fun a => kTup (ρ a)) μ := fun F σ B C s o Q q =>
  h F σ B C s o _ fun a xs B1 C1 e1 o1 ps => ⟨by rw [← ps.length, hl]; exact hn, fun p hp => q a (.ref p) _ _ (e1.trans (Ex.new (o1.ex.back hp))) (o1.new hp) ⟨p, xs, rfl, upd_same, ps.ex (Ex.new (o1.ex.back hp))⟩⟩
/-! the rules -/
theorem go_nil (h : P.nx Γ M) : Go P tNext Γ M := fun F σ B C D s o q => q.nx Γ M σ B C h (Ex.refl B) s o
theorem go_less (h : Go P t Γ1 M) (l : Less Γ1 Γ) : Go P t Γ M := fun F σ B C D s o q => h F σ B C D (s.less l) o q
theorem go_perm (h : Go P t Γ M1) (l : M.Perm M1) : Go P t Γ M := fun F σ B C D s o q => h F σ B C D s (o.perm (l.append_right F)) q
theorem go_end {Γ' : Ga} {M' : List Mu} (h : P.nx Γ' M') (l : Less Γ' Γ) (m : M.Perm M') : Go P tNext Γ M := go_less (go_perm (go_nil h) m) l
theorem go_seq {nx : Ga → List Mu → Prop} (h : Go (P.to nx) t Γ M) (hr : ∀ Γ1 M1, nx Γ1 M1 → Go P rest Γ1 M1) : Go P (tSeq t rest) Γ M := fun F σ B C D s o q =>
  h F σ B C _ s o ⟨q.rt, fun Γ1 M1 σ1 B1 C1 hn e1 s1 o1 => hr Γ1 M1 hn F σ1 B1 C1 D s1 o1 (q.ex e1)⟩
/-- the first part ends in one way -/
theorem go_mid (Γ1 : Ga) (M1 : List Mu) (h : Go (P.to fun Γ' M' => Γ' = Γ1 ∧ M' = M1) t Γ M) (hr : Go P rest Γ1 M1) : Go P (tSeq t rest) Γ M := go_seq h fun Γ' M' ⟨e1, e2⟩ => by
  subst e1 e2
  exact hr
theorem go_asgG {α : Type} {g : TG} {is : List Nat} {ρ : α → Kn} {μ : α → List Mu} {Γs : α → Ga} (h : EvG te Γ M ρ μ) (hg : ∀ a, Tg g (ρ a) Γ (Γs a) is) (hr : ∀ a, Go P rest (Γs a) (μ a)) : Go P (tSeq (tAsg te g) rest) Γ M := fun F σ B C D s o q =>
  h F σ B C s o _ fun a x B1 C1 e1 o1 p => hg a _ x σ B1 C1 (s.ex e1) o1 p _ fun σ' s' _ _ => hr a F σ' B1 C1 D s' o1 (q.ex e1)
theorem go_setG {α : Type} {i : Nat} {ρ : α → Kn} {μ : α → List Mu} (h : EvG te Γ M ρ μ) (hr : ∀ a, Go P rest (Γ.set i (some (ρ a))) (μ a)) : Go P (tSeq (tAsg te (gName i)) rest) Γ M := go_asgG h (fun a => tg_name) hr
theorem go_asg {g : TG} {is : List Nat} (h : Ev te Γ M M1 k) (hg : Tg g k Γ Γ1 is) (hr : Go P rest Γ1 M1) : Go P (tSeq (tAsg te g) rest) Γ M := go_asgG h.g (fun _ => hg) fun _ => hr
theorem go_set {i : Nat} (h : Ev te Γ M M1 k) (hr : Go P rest (Γ.set i (some k)) M1) : Go P (tSeq (tAsg te (gName i)) rest) Γ M := go_asg h tg_name hr
theorem go_setEx {α : Type} {i : Nat} {κ : α → Kn} (h : Ev te Γ M M1 (kEx κ)) (hr : ∀ a, Go P rest (Γ.set i (some (κ a))) M1) : Go P (tSeq (tAsg te (gName i)) rest) Γ M := go_setG h.one hr
theorem go_newL {i : Nat} (hr : ∀ D, Go P rest (Γ.set i (some (kC (.ref D)))) (mLst D [] :: M)) : Go P (tSeq (tAsg (tLst tNil) (gName i)) rest) Γ M := go_setG (eg_lst ea_nil) hr
theorem go_parG {α : Type} {i j : Nat} {t : TA} {ρ1 ρ2 : α → Kn} {μ : α → List Mu} (h : EvAG t Γ M (fun a => [ρ1 a, ρ2 a]) μ) (hr : ∀ a, Go P rest ((Γ.set i (some (ρ1 a))).set j (some (ρ2 a))) (μ a)) : Go P (tSeq (tPar i j t) rest) Γ M := fun F σ B C D s o q =>
  h F σ B C s o _ fun a xs B1 C1 e1 o1 ps => by
    cases ps with
    | cons p1 ps =>
      cases ps with
      | cons p2 ps =>
        cases ps
        exact ⟨_, _, rfl, hr a F _ B1 C1 D (((s.ex e1).set p1).set p2) o1 (q.ex e1)⟩
theorem go_par {i j : Nat} {k1 k2 : Kn} {t : TA} (h : EvA t Γ M M1 [k1, k2]) (hr : Go P rest ((Γ.set i (some k1)).set j (some k2)) M1) : Go P (tSeq (tPar i j t) rest) Γ M := go_parG (α := Unit) (ρ1 := fun _ => k1) (ρ2 := fun _ => k2) (μ := fun _ => M1) h.g fun _ => hr
/-- a, b = (e, []) -/
theorem go_parL {i j : Nat} {k1 : Kn} (h : Ev te Γ M M1 k1) (hr : ∀ D, Go P rest ((Γ.set i (some k1)).set j (some (kC (.ref D)))) (mLst D [] :: M1)) : Go P (tSeq (tPar i j (tCons te (tCons (tLst tNil) tNil))) rest) Γ M :=
  go_parG (α := Addr × Unit) (ρ1 := fun _ => k1) (ρ2 := fun p => kC (.ref p.1)) (μ := fun p => mLst p.1 [] :: M1) (eag_cons h (eag_new (eg_lst ea_nil) fun D => (ea_nil (M := mLst D [] :: M1)).g)) fun p => hr p.1
theorem go_ret {nx : Ga → List Mu → Prop} {M' : List Mu} (h : Ev te Γ M M' k) : Go ⟨k, M', nx⟩ (tSeq (tRet te) rest) Γ M := fun F σ B C D s o q => h F σ B C s o _ fun z B' C' e o' p => q.rt z B' C' e o' p
theorem go_retTo (h : Ev te Γ M P.Mr k) (f : ∀ v B, k.p v B → P.r.p v B) : Go P (tSeq (tRet te) rest) Γ M := fun F σ B C D s o q => h F σ B C s o _ fun z B' C' e o' p => q.rt z B' C' e o' (f z B' p)
theorem go_drop (h : Ev te Γ M M1 k) (hr : Go P rest Γ M1) : Go P (tSeq (tDrop te) rest) Γ M := fun F σ B C D s o q => h F σ B C s o _ fun x B1 C1 e1 o1 _ => hr F σ B1 C1 D (s.ex e1) o1 (q.ex e1)
theorem go_dropG {α : Type} {ρ : α → Kn} {μ : α → List Mu} (h : EvG te Γ M ρ μ) (hr : ∀ a, Go P rest Γ (μ a)) : Go P (tSeq (tDrop te) rest) Γ M := fun F σ B C D s o q => h F σ B C s o _ fun a x B1 C1 e1 o1 _ => hr a F σ B1 C1 D (s.ex e1) o1 (q.ex e1)
theorem go_ifS (h : EvT tt Γ M M1 b) (h1 : b = true → Go P t Γ M1) (h2 : b = false → Go P u Γ M1) : Go P (tIfS tt t u) Γ M := fun F σ B C D s o q => h F σ B C s o _ fun B1 C1 e1 o1 => by
  cases b with
  | true => exact h1 rfl F σ B1 C1 D (s.ex e1) o1 (q.ex e1)
  | false => exact h2 rfl F σ B1 C1 D (s.ex e1) o1 (q.ex e1)
/-- if c: t; the rest, both ways to one end -/
theorem go_if (Γ1 : Ga) (M2 : List Mu) (h : EvT tt Γ M M1 b) (h1 : b = true → Go (P.to fun Γ' M' => Γ' = Γ1 ∧ M' = M2) t Γ M1) (h2 : b = false → Go (P.to fun Γ' M' => Γ' = Γ1 ∧ M' = M2) u Γ M1) (hr : Go P rest Γ1 M2) : Go P (tSeq (tIfS tt t u) rest) Γ M := go_mid Γ1 M2 (go_ifS h h1 h2) hr
/-- the test is false, there is no else -/
theorem go_skip (h : EvT tt Γ M M1 false) (hr : Go P rest Γ M1) : Go P (tSeq (tIfS tt t tNext) rest) Γ M := go_if Γ M1 h (fun z => nomatch z) (fun _ => go_nil ⟨rfl, rfl⟩) hr
theorem go_skipN (h : EvT tt Γ M M1 false) (hr : Go P rest Γ M1) : Go P (tSeq (tIfS tt tNever tNext) rest) Γ M := go_skip h hr
/-- a loop -/
theorem go_for {S : Type} {wi : TI} {g : TG} {N : List Mu} {ks : List Kn} (inv : Nat → S → Prop) (Γs : S → Ga) (Ms : S → List Mu) (s0 : S) (hi : EvI wi Γ M M1 N ks) (h0 : inv 0 s0) (hΓ : Less (Γs s0) Γ) (hM : M1.Perm (Ms s0)) (hN : ∀ i s, inv i s → ∀ m ∈ N, m ∈ Ms s)
    (turn : ∀ i s k, inv i s → ks[i]? = some k → ∃ Γ1 is, Tg g k (Γs s) Γ1 is ∧ Go (P.to fun Γ' M' => ∃ s', inv (i + 1) s' ∧ Less (Γs s') Γ' ∧ M'.Perm (Ms s')) t Γ1 (Ms s))
    (done : ∀ s, inv ks.length s → Go P rest (Γs s) (Ms s)) : Go P (tSeq (tFor wi g t) rest) Γ M := fun F σ B C D s o q =>
  hi F σ B C s o _ fun J A C1 eA oA goes => by
    refine ⟨fun i m σ C => m = ks.length - i ∧ i ≤ ks.length ∧ ∃ z B', inv i z ∧ Ex A B' ∧ Sk (Γs z) B' σ ∧ OkM (Ms z ++ F) B' C, ⟨ks.length, by simp, Nat.zero_le _, s0, A, h0, Ex.refl A, (s.ex eA).less hΓ, oA.perm (hM.append_right F)⟩, ?_⟩
    rintro i m σ C ⟨rfl, hil, z, B', hz, eAB, sk, ok⟩
    have sub : ∀ m ∈ N, m ∈ Ms z ++ F := fun m hm => List.mem_append_left _ (hN i z hz m hm)
    by_cases hlt : i < ks.length
    · have hk : ks[i]? = some ks[i] := List.getElem?_eq_getElem hlt
      refine .inr ⟨goes.go _ B' C sub eAB ok i hlt, fun σ' C' => i + 1 ≤ ks.length ∧ ∃ z B', inv (i + 1) z ∧ Ex A B' ∧ Sk (Γs z) B' σ' ∧ OkM (Ms z ++ F) B' C', fun σ' C' h => ⟨ks.length - (i + 1), by omega, rfl, h⟩, fun x C2 hy => ?_⟩
      obtain ⟨B2, e2, ok2, px⟩ := goes.yld _ B' C sub eAB ok i _ x C2 hk hy
      obtain ⟨Γ1, is, htg, hgo⟩ := turn i z _ hz hk
      refine htg _ x σ B2 C2 (sk.ex e2) ok2 px _ fun σ2 sk2 _ _ => ?_
      refine hgo F σ2 B2 C2 _ sk2 ok2 ⟨(q.ex ((eA.trans eAB).trans e2)).rt, fun Γ' M' σ3 B3 C3 ⟨z', hz', hl, hm⟩ e3 sk3 ok3 => ⟨hlt, z', B3, hz', (eAB.trans e2).trans e3, sk3.less hl, ok3.perm (hm.append_right F)⟩⟩
    · have ei : i = ks.length := by omega
      subst ei
      exact .inl ⟨goes.stop _ B' C sub eAB ok, done z hz F σ B' C D sk ok (q.ex (eA.trans eAB))⟩
/-- nothing is left open in a loop: the states by turn -/
theorem go_forN {wi : TI} {g : TG} {N : List Mu} {ks : List Kn} (Γs : Nat → Ga) (Ms : Nat → List Mu) (hi : EvI wi Γ M M1 N ks) (hΓ : Less (Γs 0) Γ) (hM : M1.Perm (Ms 0)) (hN : ∀ i, ∀ m ∈ N, m ∈ Ms i)
    (turn : ∀ i k, i < ks.length → ks[i]? = some k → ∃ Γ1 is, Tg g k (Γs i) Γ1 is ∧ Go (P.to fun Γ' M' => Less (Γs (i + 1)) Γ' ∧ M'.Perm (Ms (i + 1))) t Γ1 (Ms i))
    (done : Go P rest (Γs ks.length) (Ms ks.length)) : Go P (tSeq (tFor wi g t) rest) Γ M :=
  go_for (S := Nat) (fun i s => s = i) Γs Ms 0 hi rfl hΓ hM (fun i s _ => hN s) (fun i s k e hk => by
    subst e
    obtain ⟨Γ1, is, h1, h2⟩ := turn s k (List.getElem?_eq_some_iff.mp hk).1 hk
    refine ⟨Γ1, is, h1, fun F σ B C D sk ok q => h2 F σ B C D sk ok ⟨q.rt, fun Γ' M' σ' B' C' ⟨hl, hm⟩ e sk' ok' => q.nx Γ' M' σ' B' C' ⟨s + 1, rfl, hl, hm⟩ e sk' ok'⟩⟩) fun s e => by
    subst e
    exact done
/-- while -/
theorem go_while {S : Type} {tc : TT} (inv : S → Prop) (μ : S → Nat) (Γs : S → Ga) (Ms : S → List Mu) (s0 : S) (h0 : inv s0) (hΓ : Less (Γs s0) Γ) (hM : M.Perm (Ms s0))
    (turn : ∀ s, inv s → ∃ b, EvT tc (Γs s) (Ms s) (Ms s) b ∧ (b = true → Go (P.to fun Γ' M' => ∃ s', inv s' ∧ μ s' < μ s ∧ Less (Γs s') Γ' ∧ M'.Perm (Ms s')) t (Γs s) (Ms s)) ∧ (b = false → Go P rest (Γs s) (Ms s))) : Go P (tSeq (tWhile tc t) rest) Γ M := fun F σ B C D s o q => by
  refine ⟨fun m σ C => ∃ z B', inv z ∧ m = μ z ∧ Ex B B' ∧ Sk (Γs z) B' σ ∧ OkM (Ms z ++ F) B' C, ⟨_, s0, B, h0, rfl, Ex.refl B, s.less hΓ, o.perm (hM.append_right F)⟩, ?_⟩
  rintro m σ C ⟨z, B', hz, rfl, eB, sk, ok⟩
  obtain ⟨b, hb, h1, h2⟩ := turn z hz
  refine hb F σ B' C sk ok _ fun B1 C1 e1 o1 => ?_
  cases b with
  | true =>
    rw [if_pos rfl]
    refine ⟨fun σ' C' => ∃ z' B'', inv z' ∧ μ z' < μ z ∧ Ex B B'' ∧ Sk (Γs z') B'' σ' ∧ OkM (Ms z' ++ F) B'' C', fun σ' C' ⟨z', B'', a1, a2, a3, a4, a5⟩ => ⟨_, a2, z', B'', a1, rfl, a3, a4, a5⟩, ?_⟩
    exact h1 rfl F σ B1 C1 _ (sk.ex e1) o1 ⟨(q.ex (eB.trans e1)).rt, fun Γ' M' σ' B2 C2 ⟨z', hz', hl, hg, hm⟩ e2 s2 o2 => ⟨z', B2, hz', hl, (eB.trans e1).trans e2, s2.less hg, o2.perm (hm.append_right F)⟩⟩
  | false =>
    rw [if_neg Bool.false_ne_true]
    exact h2 rfl F σ B1 C1 D (sk.ex e1) o1 (q.ex (eB.trans e1))
/-- the first changing list stands still from now on -/
theorem go_still {i : Nat} {D : Addr} {ks : List Kn} (hΓ : Γ[i]? = some (some (kC (.ref D)))) (hr : Go P t (Γ.set i (some (kLst ks))) M) : Go P t Γ (mLst D ks :: M) := fun F σ B C E s o q => by
  obtain ⟨xs, h1, h2⟩ := o.head
  have hBD : B D = none := o.off _ (List.mem_cons_self ..) D rfl
  have e := Ex.new (o := .lst xs) hBD
  have o2 : OkM (M ++ F) (upd B D (.lst xs)) C := OkM.still o e (fun a u z => by
    by_cases w : a = D
    · subst w
      rw [upd_same] at z
      cases z
      exact h1
    · rw [upd_ne w] at z
      exact o.ex a u z) fun a u z n => by
    by_cases w : a = D
    · exact w
    · rw [upd_ne w, n] at z
      cases z
  obtain ⟨v, hv, pv⟩ := s.at_ i _ hΓ
  have s2 : Sk (Γ.set i (some (kLst ks))) (upd B D (.lst xs)) (σ.set i (some v)) := (s.ex e).set ⟨D, xs, pv, upd_same, h2.ex e⟩
  have es : σ.set i (some v) = σ := by
    apply List.ext_getElem?
    intro j
    by_cases hj : i = j
    · subst hj
      rw [List.getElem?_set_self (List.getElem?_eq_some_iff.mp hv).1, hv]
    · rw [List.getElem?_set_ne hj]
  rw [es] at s2
  exact hr F σ _ C E s2 o2 (q.ex e)
/-- known by another word -/
theorem go_word {i : Nat} {k k' : Kn} (hΓ : Γ[i]? = some (some k)) (f : ∀ v B, k.p v B → k'.p v B) (hr : Go P t (Γ.set i (some k')) M) : Go P t Γ M := fun F σ B C E s o q => by
  obtain ⟨v, hv, pv⟩ := s.at_ i _ hΓ
  have s2 : Sk (Γ.set i (some k')) B (σ.set i (some v)) := s.set (f v B pv)
  have es : σ.set i (some v) = σ := by
    apply List.ext_getElem?
    intro j
    by_cases hj : i = j
    · subst hj
      rw [List.getElem?_set_self (List.getElem?_eq_some_iff.mp hv).1, hv]
    · rw [List.getElem?_set_ne hj]
  rw [es] at s2
  exact hr F σ B C E s2 o q
/-- one of many, by cases -/
theorem go_case {α : Type} {i : Nat} {κ : α → Kn} (hΓ : Γ[i]? = some (some (kEx κ))) (hr : ∀ a, Go P t (Γ.set i (some (κ a))) M) : Go P t Γ M := fun F σ B C E s o q => by
  obtain ⟨v, hv, a, pv⟩ := s.at_ i _ hΓ
  have s2 : Sk (Γ.set i (some (κ a))) B (σ.set i (some v)) := s.set pv
  have es : σ.set i (some v) = σ := by
    apply List.ext_getElem?
    intro j
    by_cases hj : i = j
    · subst hj
      rw [List.getElem?_set_self (List.getElem?_eq_some_iff.mp hv).1, hv]
    · rw [List.getElem?_set_ne hj]
  rw [es] at s2
  exact hr a F σ B C E s2 o q
end

/-! ### promises -/
def spF {α : Type} (pre : α → Prop) (args : α → List Kn) (Mi Mo : α → List Mu) (res : α → Kn) : Sp := fun vs C Q _ => ∃ a F B, pre a ∧ AllK B (args a) vs ∧ OkM (Mi a ++ F) B C ∧ Wt (Mo a ++ F) B (res a) Q
/-- of a def that changes nothing -/
abbrev spP {α : Type} (pre : α → Prop) (args : α → List Kn) (res : α → Kn) : Sp := spF pre args (fun _ => []) (fun _ => []) res
section
variable {P : Program} {w : World} {K : PySem.W.Frag} {mg : Str → Option Value} {base : Heap} {α : Type} {pre : α → Prop} {args : α → List Kn} {Mi Mo : α → List Mu} {res : α → Kn}
theorem fn_r {x qual : Str} {params : Arguments} {body : List Stmt} {scope : Scope} {dvs : List V} {kws : List (Str × V)} {f : Addr} {fd : FuncData} {N ps : List Str} {k : Nat} {ds : List Value} (F : FunD K x qual params body scope dvs kws f fd) (S : FnScope N ps scope) (hb : Binds K fd ps ds) (hd : Vals [] ds)
    (hl : ∀ a, pre a → (args a).length = ps.length)
    (hbody : ∀ (cdv : Value) (A : Around) (outer : List Env) (s : Shared) (H : Hp) (E : XK), Room k (A.deeper (envOfC qual scope s.heap.objs.size f cdv)) →
      ∃ t, PSs (cxOf CX0 P w K mg base N qual scope f cdv A outer s H E).nox body t ∧ ∀ a, pre a → Go ⟨res a, Mo a, fun Γ' M' => M' = Mo a ∧ ∀ σ B, Sk Γ' B σ → (res a).p .non B⟩ t ((args a).map some ++ List.replicate (N.length - ps.length) none) (Mi a)) : FnR P w K mg base CX0 (k + 1) f (spF pre args Mi Mo res) := by
  have h1 : FnOk P w K mg base CX0 (k + 1) f fd ps (spF pre args Mi Mo res) := by
    refine F.ok S (fun vs H Q E ⟨a, _, _, hp, h, _⟩ => h.length.symm.trans (hl a hp)) fun cdv A outer s H vs Q E hr ⟨a, F', B, hp, hA, ho, hq⟩ => ?_
    obtain ⟨t, h2, h3⟩ := hbody cdv A outer s H E hr
    have e1 : vs.length = ps.length := hA.length.symm.trans (hl a hp)
    have sk := Sk.start (N := N) hA
    rw [e1] at sk
    exact ⟨t, PSs.nox h2, h3 a hp F' _ B H _ sk ho ⟨hq, fun Γ M σ B' C' ⟨hm, hn⟩ e sk o => hq .non B' C' e (hm ▸ o) (hn σ B' sk)⟩⟩
  exact (h1.raw hb hd).imp fun vs H Q E h => by
    rw [List.append_nil]
    exact h
variable {Γ : Ga} {M M1 : List Mu} {te ta : TE} {t : TA}
theorem ev_call (a : α) {E : XK} (h : EvA t Γ M (Mi a ++ M1) (args a)) (hp : pre a) : Ev (tCall (spF pre args Mi Mo res) [] E t) Γ M (Mo a ++ M1) (res a) := fun F σ B C s o Q q =>
  h F σ B C s o _ fun zs B1 C1 e1 o1 ps => ⟨a, M1 ++ F, B1, hp, by rw [List.append_nil]; exact ps, by rw [← List.append_assoc]; exact o1, fun z B2 C2 e2 o2 p => q z B2 C2 (e1.trans e2) (by rw [List.append_assoc]; exact o2) p⟩
/-- .. that changes nothing -/
theorem ev_fn (a : α) {E : XK} (h : EvA t Γ M M1 (args a)) (hp : pre a) : Ev (tCall (spP pre args res) [] E t) Γ M M1 (res a) := ev_call (Mi := fun _ => []) (Mo := fun _ => []) a h hp
theorem ev_meth (a : α) {E : XK} {Cl : Addr} {k : Kn} {ks : List Kn} {M2 : List Mu} (ho : Ev ta Γ M M2 k) (hi : ∀ v F B C, OkM (M2 ++ F) B C → k.p v B → ∃ a dx vs, v = .ref a ∧ SlX.Slt C a Cl dx vs) (h : EvA t Γ M2 (Mi a ++ M1) ks) (ha : args a = k :: ks) (hp : pre a) : Ev (SlX.tMethSl Cl (spF pre args Mi Mo res) E ta t) Γ M (Mo a ++ M1) (res a) := fun F σ B C s o Q q =>
  ho F σ B C s o _ fun x B1 C1 e1 o1 px => by
    obtain ⟨b, dx, vs, h1, h2⟩ := hi x F B1 C1 o1 px
    refine ⟨b, dx, vs, h1, h2, h F σ B1 C1 (s.ex e1) o1 _ fun zs B2 C2 e2 o2 ps => ⟨a, M1 ++ F, B2, hp, by rw [ha]; exact .cons (k.mono e2 px) ps, by rw [← List.append_assoc]; exact o2, fun z B3 C3 e3 o3 p => q z B3 C3 ((e1.trans e2).trans e3) (by rw [List.append_assoc]; exact o3) p⟩⟩
theorem ev_slot {f : Str} {k kz : Kn} (h : Ev te Γ M M1 k) (hs : ∀ v F B C, OkM (M1 ++ F) B C → k.p v B → ∃ a Cl dx p vs i u, v = .ref a ∧ SlX.Slt C a Cl dx vs ∧ SlX.SCls K Cl ∧ SlX.Slot1 K Cl f p i ∧ vs[i]? = some (some u) ∧ kz.p u B) : Ev (SlX.tSl K te f) Γ M M1 kz := fun F σ B C s o Q q =>
  h F σ B C s o _ fun x B1 C1 e1 o1 p => by
    obtain ⟨a, Cl, dx, pp, vs, i, u, h1, h2, h3, h4, h5, h6⟩ := hs x F B1 C1 o1 p
    exact ⟨a, Cl, dx, pp, vs, i, u, h1, h2, h3, h4, h5, q u B1 C1 e1 o1 h6⟩
end
theorem slt_ex {H H' : Hp} {a C dx : Addr} {vs : List (Option V)} (e : Ex H H') (h : SlX.Slt H a C dx vs) : SlX.Slt H' a C dx vs := by
  rcases h with ⟨h1, h2⟩ | ⟨h1, h2⟩
  · exact .inl ⟨e _ _ h1, h2⟩
  · exact .inr ⟨e _ _ h1, e _ _ h2⟩

theorem room65 {k : Nat} {A : Around} (r : Room k A) : A.units + 65 < cLine := by
  have := r.un
  omega
/-! ### calls by a raw promise -/
section
variable {X : Cx} {k j : Nat} {f C : Addr} {sp : Sp} {x m : Str} {p pos apos : Pos} {e o : Expr} {es : List Expr} {ta : TE} {t : TA}
theorem pe_g (F : FnR X.prog X.w X.K X.mg X.base CX0 k f sp) (hr : Room j X.A) (hk : k ≤ j) (hm : X.mg x = some (.ref f)) (kp : PySem.W.keepIn X.K (.ref f) = true) (ha : PA X (e :: es) t) (hg : Gl X x := by rfl)
    (hdb : (x == ("__debug__" : Str)) = false := by decide) (he : starEach (e :: es) X.env = (false, eval e X.env) :: starEach es X.env := by rfl) (hpl : (backTo pos (starEach es X.env)).any (·.1) = false := by rfl) :
    PE X (.Call (.Name x p) (e :: es) [] pos) (tCall sp [] E0 t) := by
  refine ⟨fun pins s σ H Q I h => ?_⟩
  refine wpAny_Call_Name_kw (ld_glob I hg hm ?_ hdb)
  refine PySem.W.callWith_K (h₀ := X.base) I.ok.mod.kin kp (thn (ha.run pos pins s σ H _ I h) fun us s1 ⟨vs, H1, I1, r, q⟩ => ⟨I1.kIn, ?_⟩) he hpl
  refine wpAny_call (run_fnR F (hr.mono hk) pass0 I1 r (E := E0) ?_)
  have q2 : sp (vs ++ []) H1 Q E0 := q
  rwa [List.append_nil] at q2
theorem pe_ms {Cl g : Addr} {pl : Sem Bool} (he : PE X o ta) (c : SlX.SCls X.K Cl) (hm : Meth X.K Cl m g) (F : FnR X.prog X.w X.K X.mg X.base CX0 k g sp) (hr : Room j X.A) (hk : k ≤ j) (ha : PA X (e :: es) t)
    (hst : starEach (e :: es) X.env = (false, eval e X.env) :: starEach es X.env := by rfl) (hpl : (backTo pos (starEach es X.env)).any (·.1) = false := by rfl)
    (ht : eval (.Call (.Attribute o m apos) (e :: es) [] pos) X.env = (do
      let ov ← eval o X.env
      standAt apos.atName
      let (f, first) ← holding [ov] (getMethod ov m pl)
      callWith pos f first (backTo pos (starEach (e :: es) X.env)) (backToKw pos (keywordEach [] X.env))) := by rfl) :
    PE X (.Call (.Attribute o m apos) (e :: es) [] pos) (SlX.tMethSl Cl sp E0 ta t) := SlX.pe_methSl he c hm F (hr.mono hk) pass0 ha hst hpl ht
theorem pe_ms0 {Cl g : Addr} {pl : Sem Bool} (he : PE X o ta) (c : SlX.SCls X.K Cl) (hm : Meth X.K Cl m g) (F : FnR X.prog X.w X.K X.mg X.base CX0 k g sp) (hr : Room j X.A) (hk : k ≤ j)
    (ht : eval (.Call (.Attribute o m apos) [] [] pos) X.env = (do
      let ov ← eval o X.env
      standAt apos.atName
      let (f, first) ← holding [ov] (getMethod ov m pl)
      callWith pos f first (backTo pos (starEach [] X.env)) (backToKw pos (keywordEach [] X.env))) := by rfl) :
    PE X (.Call (.Attribute o m apos) [] [] pos) (SlX.tMethSl Cl sp E0 ta tNil) := SlX.pe_methSl0 he c hm F (hr.mono hk) pass0 ht
/-- C(..): a new instance, then __init__ by its raw promise -/
theorem pe_mk (M : Mk X.K C f) (F : FnR X.prog X.w X.K X.mg X.base CX0 k f sp) (hr : Room j X.A) (hk : k + 1 ≤ j) (hm : X.mg x = some (.ref C)) (ha : PA X (e :: es) t) (hg : Gl X x := by rfl)
    (hdb : (x == ("__debug__" : Str)) = false := by decide) (he : starEach (e :: es) X.env = (false, eval e X.env) :: starEach es X.env := by rfl) (hpl : (backTo pos (starEach es X.env)).any (·.1) = false := by rfl) :
    PE X (.Call (.Name x p) (e :: es) [] pos) (tMake C sp [] E0 t) := by
  refine ⟨fun pins s σ H Q I h => ?_⟩
  refine wpAny_Call_Name_kw (ld_glob I hg hm ?_ hdb)
  refine PySem.W.callWith_K (h₀ := X.base) I.ok.mod.kin M.kp (thn (ha.run pos pins s σ H _ I h) fun us s1 ⟨vs, H1, I1, r, q⟩ => ⟨I1.kIn, ?_⟩) he hpl
  have hq := q (s1.heap.objs.size + 1) s1.heap.objs.size (I1.hok.fresh (Nat.le_succ _)) (I1.hok.fresh (Nat.le_refl _)) (Nat.ne_of_lt (Nat.lt_succ_self _))
  rw [List.append_nil] at hq
  have I2 := Inv.made (C := C) I1
  have r2 : Vals (V.ref (s1.heap.objs.size + 1) :: vs) (Value.ref (s1.heap.objs.size + 1) :: us) := .cons rfl r
  refine wpAny_call (make_map (f := f) I1.kIn M.makes M.init (beq_iff_eq.mp M.fn) (codeAny_mono (F _ X.stack _ _ (Value.ref (s1.heap.objs.size + 1) :: us) _ _ E0 ((hr.mono hk).make C us []) (I2.env0.make C us []) r2 hq) fun r s' hq' => ?_))
  cases r with
  | error e => exact (pass0 : Passes CX0 X E0) pins σ _ _ e s' I2 hq'
  | ok fl =>
    cases fl with
    | ret u =>
      obtain ⟨v, H', I3, rv, ev, q3⟩ := I2.after hq'
      subst ev
      exact ⟨rv, ⟨V.ref (s1.heap.objs.size + 1), H', I3, rfl, q3⟩⟩
    | next => exact False.elim hq'
    | brk => exact False.elim hq'
    | cont => exact False.elim hq'
end
/-! ### an instance that is being made -/
def mSl (Cl x dx : Addr) (ks : List (Option Kn)) : Mu where
  fp := fun a => a = x ∨ a = dx
  p := fun B C => dx ≠ x ∧ (∃ o, C dx = some o) ∧ ∃ vs, SlX.Slt C x Cl dx vs ∧ ∀ (i : Nat) (k : Kn), ks[i]? = some (some k) → ∃ u, vs[i]? = some (some u) ∧ k.p u B
  on := fun ⟨_, h1, vs, h2, _⟩ e => by
    rcases e with e | e
    · subst e
      rcases h2 with ⟨h, _⟩ | ⟨h, _⟩ <;> exact ⟨_, h⟩
    · subst e
      exact h1
  mono := fun e st ⟨ne, ⟨o, h1⟩, vs, h2, h3⟩ => ⟨ne, ⟨o, (st _ (.inr rfl)).trans h1⟩, vs, by
    rcases h2 with ⟨h, z⟩ | ⟨h, z⟩
    · exact .inl ⟨(st _ (.inl rfl)).trans h, z⟩
    · exact .inr ⟨(st _ (.inl rfl)).trans h, (st _ (.inr rfl)).trans z⟩, fun i k q => by
    obtain ⟨u, h4, h5⟩ := h3 i k q
    exact ⟨u, h4, k.mono e h5⟩⟩
/-- None, and something of the object -/
def kDone (k : Kn) (x : Addr) : Kn := ⟨fun v H => v = .non ∧ k.p (.ref x) H, fun e ⟨h1, h2⟩ => ⟨h1, k.mono e h2⟩⟩
/-- the promise of an __init__: a what is told, x and dx the new instance -/
abbrev spI {α : Type} (Cl : Addr) (pre : α → Prop) (args : α → List Kn) (ko : α → Kn) : Sp := spF (α := α × Addr × Addr) (fun p => pre p.1) (fun p => kC (.ref p.2.1) :: args p.1) (fun p => [mSl Cl p.2.1 p.2.2 []]) (fun _ => []) (fun p => kDone (ko p.1) p.2.1)
theorem ev_make {α : Type} {pre : α → Prop} {args : α → List Kn} {ko : α → Kn} {Γ : Ga} {M M1 : List Mu} {t : TA} {E : XK} {Cl : Addr} (a : α) (h : EvA t Γ M M1 (args a)) (hp : pre a) : Ev (tMake Cl (spI Cl pre args ko) [] E t) Γ M M1 (ko a) := fun F σ B C s o Q q =>
  h F σ B C s o _ fun zs B1 C1 e1 o1 ps => fun x dx hx hd ne => by
    have keep : ∀ b u, C1 b = some u → upd (upd C1 dx (.own x)) x (.ins Cl dx []) b = some u := fun b u z => by
      rw [upd_ne (ne_of_none z hx), upd_ne (ne_of_none z hd)]
      exact z
    have o2 : OkM (mSl Cl x dx [] :: (M1 ++ F)) B1 (upd (upd C1 dx (.own x)) x (.ins Cl dx [])) := o1.add (fun b u z => keep b u (o1.ex b u z)) keep ⟨ne, ⟨_, by rw [upd_ne ne, upd_same]⟩, [], .inl ⟨upd_same, rfl⟩, fun i k z => by simp at z⟩ fun b z => by
      rcases z with z | z <;> rw [z] <;> assumption
    refine ⟨(a, x, dx), M1 ++ F, B1, hp, by rw [List.append_nil]; exact .cons rfl ps, o2, fun z B2 C2 e2 o3 ⟨p1, p2⟩ => ⟨p1, q (.ref x) B2 C2 (e1.trans e2) o3 p2⟩⟩
end Fw
set_option Elab.async false
set_option linter.all false
set_option maxRecDepth 100000
set_option maxHeartbeats 4000000
/-! the text's defs, the facts of the module's names, of the classes -/
namespace Fw
open PySem PySem.Spec PyProof.Rows L2
def top (i : Nat) : Stmt := PySem.Challenge.pw_fewstamps_k75_whole_counters_are_apart.main.body.getD i (.Pass ⟨0, 0, 0, 0⟩)
/-- a global def of the text -/
def gD (x : Str) (i : Nat) (dfl : List He.Dv := []) : He.DefD := ⟨(x, none), x, x, defArgs (top i), defBody (top i), defScope (top i), dfl, []⟩
/-- a method -/
def mD (c m q : Str) (i j : Nat) : He.DefD := ⟨(c, some m), m, q, defArgs (inClass (top i) j), defBody (inClass (top i) j), defScope (inClass (top i) j), [], []⟩
def fn : List He.DefD := [
  gD "tupled" 6,
  mD "Order" "__init__" "Order.__init__" 8 1,
  mD "Order" "__iter__" "Order.__iter__" 8 2,
  mD "Order" "lead" "Order.lead" 8 3,
  mD "Order" "has" "Order.has" 8 6,
  mD "Order" "is_ahead" "Order.is_ahead" 8 7,
  mD "Order" "is_up_to" "Order.is_up_to" 8 9,
  gD "order_of" 9,
  gD "stamp_of" 11,
  gD "is_one_way" 15,
  gD "is_earlier" 16,
  gD "greatest" 17,
  gD "greater" 18,
  gD "first_out" 19,
  mD "Post" "__init__" "Post.__init__" 20 1,
  mD "Post" "__iter__" "Post.__iter__" 20 2,
  mD "Post" "has" "Post.has" 20 3,
  mD "Post" "stamp" "Post.stamp" 20 4,
  mD "Post" "noughts" "Post.noughts" 20 5,
  mD "Post" "up_to" "Post.up_to" 20 6,
  mD "Post" "known" "Post.known" 20 7,
  mD "Post" "ahead" "Post.ahead" 20 8,
  mD "Post" "sure" "Post.sure" 20 9,
  mD "Post" "must" "Post.must" 20 10,
  mD "Post" "before" "Post.before" 20 11,
  mD "Post" "news" "Post.news" 20 12,
  mD "Post" "is_brought" "Post.is_brought" 20 13,
  mD "Post" "late" "Post.late" 20 14,
  gD "post_of" 21,
  gD "check_order" 22,
  gD "has_surely" 23 [.bl false],
  gD "must_carry" 24 [.bl false],
  gD "news" 25,
  gD "late" 26 [.bl false],
  gD "totals" 27 [.bl false],
  gD "by_last" 28,
  gD "_law_box" 30,
  gD "_law_take" 31,
  gD "_law_of" 32,
  gD "_law_same" 33,
  gD "_law_names" 34,
  gD "_law_log" 35,
  gD "_law_events" 36,
  gD "_law_marked" 37,
  gD "_law_order" 38,
  gD "_law_counters" 39,
  gD "_law_calm" 40,
  gD "_law_scene" 41,
  gD "_law_calms" 42,
  gD "_law_told" 43,
  gD "_law_turned_to" 44,
  gD "_law_apart" 45,
  gD "_law_cut_right" 46,
  gD "_law_right" 47,
  gD "law" 48]
def gl0 : List Str := ["tupled", "Order", "order_of", "stamp_of", "is_one_way", "is_earlier", "greatest", "greater", "first_out", "Post", "post_of", "check_order", "has_surely", "must_carry", "news", "late", "totals", "by_last"]
def gl1 : List Str := ["_law_box", "_law_take", "_law_of", "_law_same", "_law_names", "_law_log", "_law_events", "_law_marked", "_law_order", "_law_counters", "_law_calm", "_law_scene", "_law_calms", "_law_told", "_law_turned_to"]
def gl2 : List Str := ["_law_apart", "_law_cut_right", "_law_right", "law"]
def fr : List Str := ["tuple", "isinstance", "list", "range", "len", "iter", "zip", "max", "enumerate", "any", "all", "int", "abs", "sorted", "set", "dict", "min", "bool", "str"]
def ms : List (Str × Str) := [("Order", "__iter__"), ("Order", "lead"), ("Order", "has"), ("Order", "is_ahead"), ("Order", "is_up_to"), ("Post", "__iter__"), ("Post", "has"), ("Post", "stamp"), ("Post", "noughts"), ("Post", "up_to"), ("Post", "known"), ("Post", "ahead"), ("Post", "sure"), ("Post", "must"), ("Post", "before"), ("Post", "news"), ("Post", "is_brought"), ("Post", "late")]
def fa : List He.Fa := gl0.map He.Fa.glo ++ (gl1.map He.Fa.glo ++ (gl2.map He.Fa.glo ++ (fr.map He.Fa.free ++ ([.int "SENT" 0, .int "COME" 1, .mkr "Order", .mkr "Post"] ++ ms.map fun p => He.Fa.meth p.1 p.2))))
/-- a class with slots, its slots by place -/
def slA (K : PySem.W.Frag) (C : Addr) (f : Str) : Addr := He.ma K C f
def slB (K : PySem.W.Frag) (C : Addr) (f : Str) (i : Nat) : Bool := decide (PySem.W.findIn K (.ref C) f = some (some (.ref (slA K C f)))) && (decide (PySem.W.specialIn K (.ref (slA K C f)) "__get__" = some (some (.builtin "member_descriptor.__get__"))) &&
  (decide (PySem.W.takesIn K (.ref (slA K C f)) = some true) && (decide (PySem.W.typeIn K (.ref (slA K C f)) = some (.type "member_descriptor")) && (decide (PySem.W.slotIn K (slA K C f) C = some i) && decide (i < 1000)))))
def scB (K : PySem.W.Frag) (C : Addr) : Bool := PySem.W.plainGet K C Str.empty && (PySem.W.isClsIn K C && (PySem.W.plainOver K C && decide (PySem.W.findIn K (.ref C) "__setattr__" = some (some (.builtin "object.__setattr__")))))
def ck (K : PySem.W.Frag) : Bool := scB K (He.ga K "Order") && (scB K (He.ga K "Post") && (slB K (He.ga K "Order") "own_events" 0 && (slB K (He.ga K "Order") "own_marked" 1 && (slB K (He.ga K "Order") "own_nexts" 2 && (slB K (He.ga K "Order") "own_past" 3 &&
  (slB K (He.ga K "Post") "own_messages" 0 && (slB K (He.ga K "Post") "own_order" 1 && slB K (He.ga K "Post") "own_rows" 2)))))))

/-! ### what the head tells -/
structure Tx (K : PySem.W.Frag) (mg : Str → Option Value) : Prop where
  ns : ∃ h : Heap, K.In h ∧ h.Ns mainGlobals mg
  says : He.SaysD fa fn K
  cks : ck K = true
section
variable {K : PySem.W.Frag}
theorem scB_ok {C : Addr} (h : scB K C = true) : SlX.SCls K C := by
  obtain ⟨h1, h⟩ := He.ba h
  obtain ⟨h2, h⟩ := He.ba h
  obtain ⟨h3, h4⟩ := He.ba h
  exact ⟨h1, h2, h3, of_decide_eq_true h4⟩
theorem slB_ok {C : Addr} {f : Str} {i : Nat} (h : slB K C f i = true) : SlX.Slot1 K C f (slA K C f) i := by
  obtain ⟨h1, h⟩ := He.ba h
  obtain ⟨h2, h⟩ := He.ba h
  obtain ⟨h3, h⟩ := He.ba h
  obtain ⟨h4, h⟩ := He.ba h
  obtain ⟨h5, h6⟩ := He.ba h
  exact ⟨of_decide_eq_true h1, of_decide_eq_true h2, of_decide_eq_true h3, of_decide_eq_true h4, of_decide_eq_true h5, of_decide_eq_true h6⟩
structure CkT (K : PySem.W.Frag) : Prop where
  o : SlX.SCls K (He.ga K "Order")
  p : SlX.SCls K (He.ga K "Post")
  o0 : SlX.Slot1 K (He.ga K "Order") "own_events" (slA K (He.ga K "Order") "own_events") 0
  o1 : SlX.Slot1 K (He.ga K "Order") "own_marked" (slA K (He.ga K "Order") "own_marked") 1
  o2 : SlX.Slot1 K (He.ga K "Order") "own_nexts" (slA K (He.ga K "Order") "own_nexts") 2
  o3 : SlX.Slot1 K (He.ga K "Order") "own_past" (slA K (He.ga K "Order") "own_past") 3
  p0 : SlX.Slot1 K (He.ga K "Post") "own_messages" (slA K (He.ga K "Post") "own_messages") 0
  p1 : SlX.Slot1 K (He.ga K "Post") "own_order" (slA K (He.ga K "Post") "own_order") 1
  p2 : SlX.Slot1 K (He.ga K "Post") "own_rows" (slA K (He.ga K "Post") "own_rows") 2
end
section
variable {K : PySem.W.Frag} {mg : Str → Option Value} (T : Tx K mg)
include T
theorem Tx.glo (i : Nat) {x : Str} (e : fa[i]? = some (.glo x) := by rfl) : mg x = some (.ref (He.ga K x)) := by
  obtain ⟨h, h1, h2⟩ := T.ns
  exact He.glo_ok h1 h2 (T.says.fact i e)
theorem Tx.free (i : Nat) {x : Str} (e : fa[i]? = some (.free x) := by rfl) : mg x = none := by
  obtain ⟨h, h1, h2⟩ := T.ns
  exact He.free_ok h1 h2 (T.says.fact i e)
theorem Tx.int (i : Nat) {x : Str} {n : Int} (e : fa[i]? = some (.int x n) := by rfl) : ∃ t, mg x = some (.int n t) := by
  obtain ⟨h, h1, h2⟩ := T.ns
  exact He.int_ok h1 h2 (T.says.fact i e)
theorem Tx.mkr (i : Nat) {x : Str} (e : fa[i]? = some (.mkr x) := by rfl) : Mk K (He.ga K x) (He.ma K (He.ga K x) "__init__") := He.mkr_ok (T.says.fact i e)
theorem Tx.mth (i : Nat) {x m : Str} (e : fa[i]? = some (.meth x m) := by rfl) : Meth K (He.ga K x) m (He.ma K (He.ga K x) m) := He.meth_ok (T.says.fact i e)
theorem Tx.kp (i : Nat) {d : He.DefD} (e : fn[i]? = some d := by rfl) : PySem.W.keepIn K (.ref (He.fAd K d.at_)) = true := by
  obtain ⟨fd, F⟩ := T.says.def_ i e
  exact F.kp
theorem Tx.ck : CkT K := by
  have h := T.cks
  unfold Fw.ck at h
  obtain ⟨h1, h⟩ := He.ba h
  obtain ⟨h2, h⟩ := He.ba h
  obtain ⟨h3, h⟩ := He.ba h
  obtain ⟨h4, h⟩ := He.ba h
  obtain ⟨h5, h⟩ := He.ba h
  obtain ⟨h6, h⟩ := He.ba h
  obtain ⟨h7, h⟩ := He.ba h
  obtain ⟨h8, h9⟩ := He.ba h
  exact ⟨scB_ok h1, scB_ok h2, slB_ok h3, slB_ok h4, slB_ok h5, slB_ok h6, slB_ok h7, slB_ok h8, slB_ok h9⟩
end
end Fw
set_option Elab.async false
set_option linter.all false
set_option maxRecDepth 100000
set_option maxHeartbeats 0
namespace Fw
open PySem PySem.Spec PyProof.Rows L2
abbrev AlF : Type := He.AlD × Bool
def obF (K : PySem.W.Frag) : AlF := (He.obsD fa fn K, ck K)
def obG (g : Addr → Option Obj) : AlF := obF (He.frG g (He.asD g 5))
def hk : PySem.W.Hook where
  α := AlF
  obs := fun s => obG s.heap.get?
  val := fun _ => (He.valD fn, true)
  says := fun _ h => ∃ K : PySem.W.Frag, K.In h ∧ He.SaysD fa fn K ∧ ck K = true
  of := fun _ _ e => ⟨_, He.frG_in, congrArg Prod.fst e, congrArg Prod.snd e⟩
  keeps := fun _ _ _ ⟨K, hK, c⟩ k => ⟨K, PySem.W.Frag.In.keeps hK k, c⟩
abbrev R : PySem.W.OpenRow := PySem.W.OpenLaw.row PySem.Challenge.rw_fewstamps_k75_whole_counters_are_apart
def ob (s : PySem.W.SharedT) : AlF := obG (HandSHeadRun.getT s)
theorem ob_eq (s : PySem.W.SharedT) : ob s = hk.obs s.abs := by
  have e : HandSHeadRun.getT s = s.abs.heap.get? := funext (HandSHeadRun.getT_eq s)
  show obG (HandSHeadRun.getT s) = obG s.abs.heap.get?
  rw [e]
def lo1 : List Str := ["_wall", "NoEvent", "NoMessage", "OutOfOrder", "tupled", "Order", "order_of", "stamp_of", "SENT", "COME", "is_one_way", "is_earlier", "greatest", "greater", "first_out", "Post", "post_of", "check_order", "has_surely", "must_carry", "news", "late", "totals", "by_last"]
def lo2 : List Str := ["_law_box", "_law_take", "_law_of", "_law_same", "_law_names", "_law_log", "_law_events", "_law_marked", "_law_order", "_law_counters", "_law_calm", "_law_scene", "_law_calms", "_law_told", "_law_turned_to", "_law_apart", "_law_cut_right", "_law_right"]
def lo : List Str := lo1 ++ lo2
theorem run (w : World) : HandSHeadRun.RunEq R (PySem.W.view R.prog [48]) hk ob 20000 lo w := by
  intro os
  kernel_rfl
end Fw
set_option Elab.async false
set_option linter.all false
set_option maxRecDepth 100000
set_option maxHeartbeats 4000000
/-! walks over an own object with slots whose __iter__ hands on iter(a list), iter(a tuple) -/
namespace Fw
open PySem PySem.Spec PyProof.Rows L2

/-! ### iter(t), t a tuple -/
def ItTO (t it : Addr) : HO := .ext fun h => h.get? it = some { cls := .type "tuple_iterator", data := .fields #[.ref t, .int 0 0] }
def rIterT (K : PySem.W.Frag) (n : Nat) : List V → Hp → VK → Prop := fun xs H Q => ∃ (l : Addr) (zs : List V), xs = [.ref l] ∧ SqT K H l zs ∧ ∀ it, H it = none → n ≤ it → Q (.ref it) (upd H it (ItTO l it))
theorem iter_tup {prog : Program} {w : World} {A : Around} {E : Value → Shared → Prop} {s : Shared} {t : Addr} {items : Array Value} {Q : Value → Shared → Prop} (ht : s.heap.IsTuple t items)
    (h : Q (.ref s.heap.objs.size) { s with heap := s.heap.push { cls := .type "tuple_iterator", data := .fields #[.ref t, .int 0 0] } }) : wpAny (model prog w) A (call (.builtin "iter") [.ref t]) Q E s := by
  refine Calls.call_function_entry (by decide +kernel) (by decide +kernel) PySem.W.kdk_entry_iter (PySem.W.kdk_args_iter _) ?_
  unfold Builtin.«iter»
  refine wpAny_bind (m := someArgs "iter" 1 2 _) (wpAny_of_eq (a := [Value.ref t]) (by first | rfl | kernel_rfl!) ?_)
  show wpAny _ _ (pyIter (.ref t) >>= _) _ _ _
  exact wpAny_bind (wpAny_pyIter_tuple ht (wpAny_pure ⟨_, rfl, h⟩))
theorem call_iterT {X : Cx} : CallR X (.builtin "iter") (rIterT X.K X.s_0.heap.objs.size) := by
  intro pins s σ H xs us Q I r ⟨l, zs, e, hq, q⟩
  subst e
  obtain ⟨u, rfl, ru⟩ := vals1 r
  cases ru
  obtain ⟨its, rv, pl, hz⟩ := I.tuple hq
  refine iter_tup pl ?_
  have ok : ∀ {h : Heap}, h.get? s.heap.objs.size = some { cls := .type "tuple_iterator", data := .fields #[.ref l, .int 0 0] } → ObjOk X.prog X.w (upd H s.heap.objs.size (ItTO l s.heap.objs.size)) h s.heap.objs.size (ItTO l s.heap.objs.size) := fun e => ⟨e, ⟨_, e⟩, fun _ _ q k => k _ q⟩
  exact ⟨.ref s.heap.objs.size, _, I.laid (t' := s.toks) (fun _ _ e => Heap.get?_push_of_some _ e) (Nat.le_refl _) (ok (Heap.get?_push_size _ rfl)), rfl, q _ (I.hok.fresh (Nat.le_refl _)) I.sz⟩

/-! ### what such an __iter__ does -/
/-- at the call: the place i of the instance holds the list (tuple) at l; the iterator that comes is young -/
def ItR (P : Program) (w : World) (K : PySem.W.Frag) (mg : Str → Option Value) (base : Heap) (k : Nat) (f C : Addr) (i : Nat) (sq : Hp → Addr → List V → Prop) (mk : Addr → Addr → HO) : Prop :=
  ∀ (A : Around) (outer : List Env) (s : Shared) (H : Hp) (a dx l : Addr) (vs : List (Option V)) (xs : List V), Room k A → Env0 P w K mg base A outer s H → SlX.Slt H a C dx vs → vs[i]? = some (some (.ref l)) → sq H l xs →
    codeAny (model P w) A (.call (.ref f) ⟨[.ref a], []⟩) (CR CX0 outer P w H s (fun v H' => ∃ it, v = .ref it ∧ s.heap.objs.size ≤ it ∧ H it = none ∧ H' = upd H it (mk l it)) E0) s
/-- a def's run, its reading chosen at the very call -/
theorem run_once {P : Program} {w : World} {K : PySem.W.Frag} {mg : Str → Option Value} {base : Heap} {x qual : Str} {params : Arguments} {body : List Stmt} {scope : Scope} {f : Addr} {fd : FuncData} {N ps : List Str} {k : Nat}
    (F : FunD K x qual params body scope [] [] f fd) (S : FnScope N ps scope) (hb : Binds K fd ps []) {A : Around} {outer : List Env} {s : Shared} {H : Hp} {us : List Value} {vs : List V} {Q : VK} (hr : Room (k + 1) A) (e0 : Env0 P w K mg base A outer s H) (r : Vals vs us) (hl : vs.length = ps.length)
    (h : ∀ cdv, ∃ t, PSs (cxOf CX0 P w K mg base N qual scope f cdv A outer s H E0) body t ∧ t { nx := fun _ H' => Q .non H', rt := Q } (start N vs) H) : codeAny (model P w) A (.call (.ref f) ⟨us, []⟩) (CR CX0 outer P w H s Q E0) s := by
  obtain ⟨oc, od, dV, kV, doc, pm, an, cdv, ct, osl, rfl, lk, hcd, _, _⟩ := F.ex
  have stays : ∀ b o, base.get? b = some o → s.heap.get? b = some o := fun b o e => (e0.bs b o e).1
  have KX : K.In s.heap := e0.mod.kin.keeps stays
  have hl2 : us.length = ps.length := by rw [← r.length]; exact hl
  have bnd := hb s us KX (by simpa using hl2)
  rw [List.append_nil] at bnd
  refine codeAny_call_function hr.depth (KX _ _ lk) rfl S.co S.gen rfl (PySem.W.codeRec_of KX hcd) (bnd _ _ _ _ ?_)
  refine wpAny_newFunctionEnv_cells S.kind (fun ⟨n, v⟩ hy => ?_) fun env he s1 inC => ?_
  · rcases S.par n (List.of_mem_zip hy).1 with q | q
    · exact .inl q
    · exact .inr ⟨q, PySem.W.cellsFrom_some _ _ _ (.inl q)⟩
  · subst he
    obtain ⟨t, ht, hq⟩ := h cdv
    have I := inv_start (CX := CX0) (E := E0) S hr.hd e0 hl r inC
    refine ⟨(e0.mod.nolimit.keeps stays).keeps inC.toInCall.keep, codeAny_func (wpAny_mono (ht.run [] s1 _ H _ I hq) (fun fl s' hs => ?_) fun _ _ z => z)⟩
    cases fl with
    | ret u =>
      obtain ⟨v, σ', H', J, rv, q⟩ := hs
      exact ⟨v, H', J.os, J.bare, J.base, J.hok, rv, q⟩
    | next =>
      obtain ⟨σ', H', J, q⟩ := hs
      exact ⟨.non, H', J.os, J.bare, J.base, J.hok, rfl, q⟩
    | brk =>
      obtain ⟨_, _, _, z⟩ := hs
      exact False.elim z
    | cont =>
      obtain ⟨_, _, _, z⟩ := hs
      exact False.elim z

/-! ### the walk -/
def iOwnL (K : PySem.W.Frag) (C : Addr) (i : Nat) (te : TE) : TI := fun σ H R => te σ H fun x H1 => ∃ a dx vs l, x = .ref a ∧ SlX.Slt H1 a C dx vs ∧ vs[i]? = some (some (.ref l)) ∧ (∃ xs, SqL K H1 l xs) ∧ R (Itl K l) H1
def iOwnT (K : PySem.W.Frag) (C : Addr) (i : Nat) (te : TE) : TI := fun σ H R => te σ H fun x H1 => ∃ a dx vs l, x = .ref a ∧ SlX.Slt H1 a C dx vs ∧ vs[i]? = some (some (.ref l)) ∧ (∃ xs, SqT K H1 l xs) ∧ R (Itt K l) H1
section
variable {X : Cx} {tg e : Expr} {te : TE} {C g : Addr} {i k j : Nat}
theorem pi_ownL (he : PE X e te) (hm : Meth X.K C "__iter__" g) (F : ItR X.prog X.w X.K X.mg X.base k g C i (SqL X.K) (fun l it => ItO l it 0)) (hr : Room j X.A) (hk : k ≤ j) : PI X tg e (iOwnL X.K C i te) := by
  refine ⟨fun pins s σ H R I h => ?_⟩
  refine thn (he.run pins s σ H _ I h) fun v s1 ⟨x, H1, I1, r1, a, dx, vs, l, ex, hs, hv, ⟨xs, hq⟩, q⟩ => ?_
  subst ex
  obtain rfl : v = Value.ref a := r1
  obtain ⟨sl, od, _, J, _⟩ := SlX.slt_inst I1 hs
  obtain ⟨m, Fr⟩ := I1.fr
  refine PySem.W.owit_iter Fr I1.ok.mod.kin J hm.at_ hm.fn (wpAny_call (codeAny_mono (F X.A X.stack s1 H1 a dx l vs xs (hr.mono hk) I1.env0 hs hv hq) fun r s' hq' => ?_))
  cases r with
  | error e => exact hq'.elim
  | ok fl =>
    cases fl with
    | ret u =>
      obtain ⟨v, H', os, bare, un, hok, rv, it, rfl, hy, hn, rfl⟩ := hq'
      obtain rfl : u = Value.ref it := rv
      have I2 : Inv X pins σ (upd H1 it (ItO l it 0)) s' := I1.call' (ch := []) os un hok bare (fun _ z => nomatch z)
      have hit : s'.heap.get? it = some (GNX.itObj l 0) := itO_get I2 upd_same
      have I3 := ItX.inv_drop I2 upd_same
      rw [ItX.dropH_upd hn] at I3
      have fp := ItX.inv_fp I2 (a := it) upd_same (Nat.le_trans I1.sz hy)
      rw [ItX.dropH_upd hn] at fp
      have hI : s'.heap.IsListIter it l 0 := ⟨_, hit, rfl, rfl⟩
      unfold PySem.W.OwitIt
      refine wpAny_specialOf hI.typeIs slot_listiter_next.lookup ?_
      exact ⟨it, [it], _, Itl X.K l, H1, rfl, I3, turn_list l it, hI, fun b hb => by
        obtain rfl : b = it := by simpa using hb
        exact fp, q⟩
    | next => exact hq'.elim
    | brk => exact hq'.elim
    | cont => exact hq'.elim
theorem pi_ownT (he : PE X e te) (hm : Meth X.K C "__iter__" g) (F : ItR X.prog X.w X.K X.mg X.base k g C i (SqT X.K) ItTO) (hr : Room j X.A) (hk : k ≤ j) : PI X tg e (iOwnT X.K C i te) := by
  refine ⟨fun pins s σ H R I h => ?_⟩
  refine thn (he.run pins s σ H _ I h) fun v s1 ⟨x, H1, I1, r1, a, dx, vs, l, ex, hs, hv, ⟨xs, hq⟩, q⟩ => ?_
  subst ex
  obtain rfl : v = Value.ref a := r1
  obtain ⟨sl, od, _, J, _⟩ := SlX.slt_inst I1 hs
  obtain ⟨m, Fr⟩ := I1.fr
  refine PySem.W.owit_iter Fr I1.ok.mod.kin J hm.at_ hm.fn (wpAny_call (codeAny_mono (F X.A X.stack s1 H1 a dx l vs xs (hr.mono hk) I1.env0 hs hv hq) fun r s' hq' => ?_))
  cases r with
  | error e => exact hq'.elim
  | ok fl =>
    cases fl with
    | ret u =>
      obtain ⟨v, H', os, bare, un, hok, rv, it, rfl, hy, hn, rfl⟩ := hq'
      obtain rfl : u = Value.ref it := rv
      have I2 : Inv X pins σ (upd H1 it (ItTO l it)) s' := I1.call' (ch := []) os un hok bare (fun _ z => nomatch z)
      have hit : s'.heap.get? it = some { cls := .type "tuple_iterator", data := .fields #[.ref l, .int 0 0] } := (I2.hok it _ upd_same).1
      have I3 := ItX.inv_drop I2 upd_same
      rw [ItX.dropH_upd hn] at I3
      have fp := ItX.inv_fp I2 (a := it) upd_same (Nat.le_trans I1.sz hy)
      rw [ItX.dropH_upd hn] at fp
      have hI : s'.heap.IsTupleIter it l 0 := ⟨_, hit, rfl, rfl⟩
      unfold PySem.W.OwitIt
      refine wpAny_specialOf hI.typeIs PySem.F.slot_tuple_iterator_next.lookup ?_
      exact ⟨it, [it], _, Itt X.K l, H1, rfl, I3, turn_tuple l it, hI, fun b hb => by
        obtain rfl : b = it := by simpa using hb
        exact fp, q⟩
    | next => exact hq'.elim
    | brk => exact hq'.elim
    | cont => exact hq'.elim
end

/-! ### Order.__iter__, Post.__iter__ -/
section
variable {P : Program} {w : World} {K : PySem.W.Frag} {mg : Str → Option Value} {base : Heap}
theorem r_Order_iter (T : Tx K mg) : ItR P w K mg base 1 (He.ma K (He.ga K "Order") "__iter__") (He.ga K "Order") 0 (SqL K) (fun l it => ItO l it 0) := by
  obtain ⟨fd, F⟩ := T.says.def_ 2 (d := mD "Order" "__iter__" "Order.__iter__" 8 2)
  intro A outer s H a dx l vs xs hr e0 hs hv hq
  refine run_once (N := ["self"]) (ps := ["self"]) (us := [.ref a]) (vs := [.ref a]) F ⟨rfl, rfl, rfl, by decide +kernel, rfl, by decide +kernel, by decide +kernel⟩ (F.bindsN fun _ _ _ _ _ _ us hl => match us, hl with | [_], _ => rfl) hr e0 (.cons rfl .nil) rfl fun cdv => ?_
  refine ⟨_, PSs.nox (pss_cons (ps_ret (pe_callB ItX.call_iterN (by rfl) (T.free 42) (by decide +kernel) (pa_cons (SlX.pe_sl (pv 0)) pa_nil))) pss_nil), ?_⟩
  refine ⟨_, rfl, a, _, dx, _, vs, 0, .ref l, rfl, hs, T.ck.o, T.ck.o0, hv, l, xs, rfl, hq, fun it hn hy => ⟨it, rfl, hy, hn, rfl⟩⟩
theorem r_Post_iter (T : Tx K mg) : ItR P w K mg base 1 (He.ma K (He.ga K "Post") "__iter__") (He.ga K "Post") 0 (SqT K) ItTO := by
  obtain ⟨fd, F⟩ := T.says.def_ 15 (d := mD "Post" "__iter__" "Post.__iter__" 20 2)
  intro A outer s H a dx l vs xs hr e0 hs hv hq
  refine run_once (N := ["self"]) (ps := ["self"]) (us := [.ref a]) (vs := [.ref a]) F ⟨rfl, rfl, rfl, by decide +kernel, rfl, by decide +kernel, by decide +kernel⟩ (F.bindsN fun _ _ _ _ _ _ us hl => match us, hl with | [_], _ => rfl) hr e0 (.cons rfl .nil) rfl fun cdv => ?_
  refine ⟨_, PSs.nox (pss_cons (ps_ret (pe_callB call_iterT (by rfl) (T.free 42) (by decide +kernel) (pa_cons (SlX.pe_sl (pv 0)) pa_nil))) pss_nil), ?_⟩
  refine ⟨_, rfl, a, _, dx, _, vs, 0, .ref l, rfl, hs, T.ck.p, T.ck.p0, hv, l, xs, rfl, hq, fun it hn hy => ⟨it, rfl, hy, hn, rfl⟩⟩
end
end Fw
set_option Elab.async false
set_option linter.all false
set_option maxRecDepth 100000
set_option maxHeartbeats 4000000
/-! zip of any number of tuples -/
namespace Fw
open PySem

abbrev zObj (f0 : Value) (f1 : Bool) (TI TO : Addr) : Obj := { cls := .type "zip", dict := none, data := .fields #[f0, .bool f1, .bool false, .ref TI, .ref TO], slots := #[] }
abbrev tObj (vs : Array Value) : Obj := { cls := .type "tuple", data := .seq vs }
/-- all but ex stands, nothing is new -/
structure Kp (ex : Addr → Prop) (h h' : Heap) : Prop where
  sz : h'.objs.size = h.objs.size
  k : ∀ c o, ¬ ex c → h.get? c = some o → h'.get? c = some o
theorem Kp.refl (ex : Addr → Prop) (h : Heap) : Kp ex h h := ⟨rfl, fun _ _ _ q => q⟩
theorem Kp.trans {ex : Addr → Prop} {h h1 h2 : Heap} (a : Kp ex h h1) (b : Kp ex h1 h2) : Kp ex h h2 := ⟨b.sz.trans a.sz, fun c o n q => b.k c o n (a.k c o n q)⟩
theorem Kp.of {ex : Addr → Prop} {a : Addr} {h h' : Heap} (s : Heap.SameBut a h h') (ha : ex a) : Kp ex h h' := ⟨s.1, fun c o n q => (s.2 c fun e => n (e ▸ ha)).trans q⟩
/-- the iterators its over the tuples ls, the first k of them one further than i -/
def ItsAt (h : Heap) (its ls : List Addr) (i k : Nat) : Prop := ∀ (j : Nat) (a l : Addr), its[j]? = some a → ls[j]? = some l → h.IsTupleIter a l (if j < k then i + 1 else i)
structure ZApart (z TI TO : Addr) (its ls : List Addr) : Prop where
  len : its.length = ls.length
  nd : its.Nodup
  zTI : z ≠ TI
  zTO : z ≠ TO
  TITO : TI ≠ TO
  zi : z ∉ its
  TIi : TI ∉ its
  TOi : TO ∉ its
  lz : ∀ l ∈ ls, l ≠ z ∧ l ≠ TO ∧ l ∉ its
section
variable {prog : Program} {w : World} {A : Around} {E : Value → Shared → Prop} {s : Shared} {z TI TO : Addr} {its ls : List Addr} {xss : List (List Value)} {i : Nat}
/-- the sources -/
def Srcs (h : Heap) (ls : List Addr) (xss : List (List Value)) : Prop := ∀ (j : Nat) (l : Addr) (xs : List Value), ls[j]? = some l → xss[j]? = some xs → h.IsTuple l xs.toArray
theorem Srcs.kp {ex : Addr → Prop} {h h' : Heap} (S : Srcs h ls xss) (k : Kp ex h h') (hn : ∀ l ∈ ls, ¬ ex l) : Srcs h' ls xss := fun j l xs h1 h2 => by
  obtain ⟨o, ho, hc, n, hd⟩ := S j l xs h1 h2
  exact ⟨o, k.k _ _ (hn l (List.mem_of_getElem? h1)) ho, hc, n, hd⟩
theorem iter_kp {ex : Addr → Prop} {h h' : Heap} {a l : Addr} {n : Nat} (t : h.IsTupleIter a l n) (k : Kp ex h h') (hn : ¬ ex a) : h'.IsTupleIter a l n := by
  obtain ⟨o, ho, hc, hd⟩ := t
  exact ⟨o, k.k _ _ hn ho, hc, hd⟩
/-- one draw: the k-th iterator goes on -/
theorem draw_one {k : Nat} {a l : Addr} {x : Value} {xs : List Value} {Q : Value → Shared → Prop} (D : ZApart z TI TO its ls) (hI : ItsAt s.heap its ls i k) (hS : Srcs s.heap ls xss) (ha : its[k]? = some a) (hl : ls[k]? = some l) (hxs : xss[k]? = some xs) (hx : xs[i]? = some x)
    (hQ : ∀ h', ItsAt h' its ls i (k + 1) → Heap.SameBut a s.heap h' → Q x { s with heap := h' }) : wpAny (model prog w) A (Builtin.SmallTypes.nextOf (.ref a)) Q E s := by
  have h1 := hI k a l ha hl
  rw [if_neg (Nat.lt_irrefl k)] at h1
  refine RZ.nextOf_tuple_item h1 (hS k l xs hl hxs) (by simpa using hx) fun h' h2 sb => hQ h' (fun j b m hb hm => ?_) sb
  by_cases e : j = k
  · subst e
    rw [ha] at hb
    rw [hl] at hm
    cases hb
    cases hm
    rw [if_pos (Nat.lt_succ_self j)]
    exact h2
  · have ne : b ≠ a := fun q => by
      subst q
      exact e ((List.getElem?_inj (List.getElem?_eq_some_iff.mp hb).1 D.nd).mp (hb.trans ha.symm))
    have h3 := hI j b m hb hm
    have e2 : (if j < k + 1 then i + 1 else i) = if j < k then i + 1 else i := by
      by_cases q : j < k
      · rw [if_pos q, if_pos (Nat.lt_succ_of_lt q)]
      · rw [if_neg q, if_neg (by omega)]
    rw [e2]
    obtain ⟨o, ho, hc, hd⟩ := h3
    exact ⟨o, (sb.2 _ ne).trans ho, hc, hd⟩
/-- what may change in a turn -/
def zEx (z TO : Addr) (its : List Addr) (c : Addr) : Prop := c = z ∨ c = TO ∨ c ∈ its
theorem next_fresh {f0 : Value} {f1 : Bool} {ws : Array Value} {xs : List Value} {Q : Value → Shared → Prop} (D : ZApart z TI TO its ls) (hne : its ≠ []) (hn : its.length ≤ 100000)
    (hfree : ∀ (P : Bool → Shared → Prop), P true s → wpAny (model prog w) A (Builtin.SmallTypes.ownedTupleIsFree (.ref z)) P E s)
    (hz : s.heap.get? z = some (zObj f0 f1 TI TO)) (hTI : s.heap.get? TI = some (tObj (its.map Value.ref).toArray)) (hTO : s.heap.get? TO = some (tObj ws)) (hw : ws.size = its.length)
    (hI : ItsAt s.heap its ls i 0) (hS : Srcs s.heap ls xss) (hxl : xss.length = its.length) (hx : xs.length = its.length) (hxs : ∀ (j : Nat) (ys : List Value), xss[j]? = some ys → ys[i]? = xs[j]?)
    (hQ : ∀ h' ws', h'.get? z = some (zObj (rawInt s.heap.objs.size) false TI TO) → h'.get? TO = some (tObj ws') → ws'.size = its.length → ItsAt h' its ls (i + 1) 0 → h'.get? s.heap.objs.size = some (tObj xs.toArray) → (∀ c o, ¬ zEx z TO its c → s.heap.get? c = some o → h'.get? c = some o) → Q (.ref s.heap.objs.size) { s with heap := h' }) :
    wpAny (model prog w) A (Builtin.«zip.__next__» ⟨[.ref z], []⟩) (fun fin s' => ∃ v, fin = .done (.ret v) ∧ Q v s') E s := by
  show wpAny _ _ (field (.ref z) 2 >>= _) _ _ _
  refine wpAny_bind (wpAny_field hz rfl (x := .bool false) rfl ?_)
  show wpAny _ _ (field (.ref z) 3 >>= _) _ _ _
  refine wpAny_bind (wpAny_field hz rfl (x := .ref TI) rfl ?_)
  refine wpAny_bind (wpAny_seqItems hTI rfl ?_)
  have hemp : ((its.map Value.ref).toArray).isEmpty = false := by
    cases its with
    | nil => exact absurd rfl hne
    | cons a r => rfl
  simp only [hemp, Bool.false_eq_true, if_false]
  show wpAny _ _ (Builtin.SmallTypes.ownedTupleIsFree (.ref z) >>= _) _ _ _
  refine wpAny_bind (hfree _ ?_)
  simp only [if_true]
  refine wpAny_bind (wpAny_rule ?_)
  refine wpAny_bind (wpAny_field hz rfl (x := .ref TO) rfl ?_)
  refine wpAny_bind (wpAny_setField_rec hz (by simp) fun h₁ hz₁ hs₁ => ?_)
  refine wpAny_bind ?_
  refine wpAny_forIn_list _ (fun rest b s' => b.1 = none ∧ ∃ k h', s' = { s with heap := h' } ∧ rest = ((its.map Value.ref).zipIdx).drop k ∧ k ≤ its.length ∧ Kp (zEx z TO its) s.heap h' ∧ h'.get? z = some (zObj .ellipsis f1 TI TO) ∧ ItsAt h' its ls i k ∧ ∃ us : Array Value, h'.get? TO = some (tObj us) ∧ us.size = its.length ∧ ∀ j, j < k → us[j]? = xs[j]?) _ ?_ ?_ _ _ ?_
  · rintro ⟨v, kk⟩ rest b s' ⟨hb, k, h2, e, er, hk, kp, hz2, hI2, us, hTO2, hsz, hus⟩
    subst e
    have hlt : k < its.length := by
      have h3 := congrArg List.length er
      simp only [List.length_cons, List.length_drop, List.length_zipIdx, List.length_map] at h3
      omega
    have hd : ((its.map Value.ref).zipIdx).drop k = (Value.ref its[k], k) :: ((its.map Value.ref).zipIdx).drop (k + 1) := by
      rw [List.drop_eq_getElem_cons (by simpa using hlt)]
      simp
    rw [hd] at er
    simp only [List.cons.injEq, Prod.mk.injEq] at er
    obtain ⟨⟨rfl, rfl⟩, rfl⟩ := er
    have hak : its[kk]? = some its[kk] := List.getElem?_eq_getElem hlt
    have hlk : ls[kk]? = some (ls[kk]'(by rw [← D.len]; exact hlt)) := List.getElem?_eq_getElem _
    have hxk : xss[kk]? = some (xss[kk]'(by omega)) := List.getElem?_eq_getElem _
    have hxx : xs[kk]? = some (xs[kk]'(by omega)) := List.getElem?_eq_getElem _
    have hS2 : Srcs h2 ls xss := hS.kp kp fun l hl q => by
      obtain ⟨q1, q2, q3⟩ := D.lz l hl
      rcases q with q | q | q
      · exact q1 q
      · exact q2 q
      · exact q3 q
    refine wpAny_bind (wpAny_onRaise ?_)
    show wpAny _ _ (Builtin.SmallTypes.nextOf (.ref its[kk]) >>= _) _ _ _
    refine wpAny_bind (draw_one (s := { s with heap := h2 }) D hI2 hS2 hak hlk hxk ((hxs kk _ hxk).trans hxx) fun h3 hI3 sb3 => wpAny_pure ?_)
    have mem : its[kk] ∈ its := List.getElem_mem hlt
    have hTO3 : h3.get? TO = some (tObj us) := (sb3.2 TO fun q => D.TOi (by rw [q]; exact mem)).trans hTO2
    refine wpAny_bind (wpAny_seqItems (s := { s with heap := h3 }) hTO3 rfl ?_)
    refine wpAny_bind (wpAny_updateSeq (s := { s with heap := h3 }) hTO3 rfl ?_ (by rw [hsz, sizeLine_eq]; omega) (by rw [Array.size_setIfInBounds, hsz, sizeLine_eq]; omega))
    refine wpAny_bind (wpAny_letGo (wpAny_pure ?_))
    have sb4 : Heap.SameBut TO h3 (h3.update TO (Obj.mapSeq fun x => x.setIfInBounds kk xs[kk])) := Heap.SameBut.update ..
    have hTO4 : (h3.update TO (Obj.mapSeq fun x => x.setIfInBounds kk xs[kk])).get? TO = some (tObj (us.setIfInBounds kk xs[kk])) := by
      rw [Heap.get?_update_self _ hTO3 rfl]
      simp [Obj.mapSeq]
    refine ⟨rfl, kk + 1, _, rfl, rfl, hlt, (kp.trans (Kp.of sb3 (.inr (.inr mem)))).trans (Kp.of sb4 (.inr (.inl rfl))), ?_, fun j a l h1 h2 => ?_, _, hTO4, ?_, fun j hj => ?_⟩
    · exact (sb4.2 _ D.zTO).trans ((sb3.2 z fun q => D.zi (by rw [q]; exact mem)).trans hz2)
    · obtain ⟨o, ho, hc, hd2⟩ := hI3 j a l h1 h2
      exact ⟨o, (sb4.2 _ fun q => D.TOi (q ▸ List.mem_of_getElem? h1)).trans ho, hc, hd2⟩
    · rw [Array.size_setIfInBounds]
      exact hsz
    · rw [Array.getElem?_setIfInBounds]
      by_cases q : kk = j
      · subst q
        rw [if_pos rfl, if_pos (by rw [hsz]; exact hlt), hxx]
      · rw [if_neg q]
        exact hus j (by omega)
  · rintro b s' ⟨hb, k, h2, e, er, hk, kp, hz2, hI2, us, hTO2, hsz, hus⟩
    subst e
    have hke : k = its.length := by
      have h3 := congrArg List.length er
      simp only [List.length_nil, List.length_drop, List.length_zipIdx, List.length_map] at h3
      omega
    subst hke
    have hux : us.toList = xs := by
      apply List.ext_getElem?
      intro j
      by_cases q : j < its.length
      · rw [← hus j q, Array.getElem?_toList]
      · rw [List.getElem?_eq_none_iff.mpr (by rw [Array.length_toList]; omega), List.getElem?_eq_none_iff.mpr (by omega)]
    rw [hb]
    refine wpAny_bind (wpAny_seqItems (s := { s with heap := h2 }) hTO2 rfl ?_)
    refine wpAny_bind (wpAny_newTuple ?_ (by rw [Array.length_toList, hsz, sizeLine_eq]; omega))
    have hzs := kp.sz
    show wpAny _ _ (Builtin.SmallTypes.ownedTupleHandOut (.ref z) (.ref h2.objs.size) >>= _) _ _ _
    refine wpAny_bind ?_
    unfold Builtin.SmallTypes.ownedTupleHandOut
    have hz3 : (h2.push { cls := .type "tuple", data := .seq us.toList.toArray }).get? z = some (zObj .ellipsis f1 TI TO) := Heap.get?_push_of_some _ hz2
    refine wpAny_bind (wpAny_setField_rec (s := { s with heap := h2.push { cls := .type "tuple", data := .seq us.toList.toArray } }) hz3 (by simp) fun h4 hz4 sb4 => ?_)
    refine wpAny_setField_rec (s := { s with heap := h4 }) hz4 (by simp) fun h5 hz5 sb5 => ?_
    have zlt : z < h2.objs.size := Heap.lt_size hz2
    have up : ∀ c o, c ≠ z → (h2.push { cls := .type "tuple", data := .seq us.toList.toArray }).get? c = some o → h5.get? c = some o := fun c o n q => (sb5.2 c n).trans ((sb4.2 c n).trans q)
    refine wpAny_pure ⟨_, rfl, ?_⟩
    show Q (.ref h2.objs.size) _
    rw [hzs]
    refine hQ h5 us ?_ (up _ _ (Ne.symm D.zTO) (Heap.get?_push_of_some _ hTO2)) hsz (fun j a l h6 h7 => ?_) ?_ fun c o n q => up c o (fun e => n (.inl e)) (Heap.get?_push_of_some _ (kp.k c o n q))
    · rw [← hzs]
      exact hz5
    · have h8 := hI2 j a l h6 h7
      rw [if_pos (List.getElem?_eq_some_iff.mp h6).1] at h8
      rw [if_neg (Nat.not_lt_zero j)]
      obtain ⟨o, ho, hc, hd2⟩ := h8
      exact ⟨o, up _ _ (fun e => D.zi (e ▸ List.mem_of_getElem? h6)) (Heap.get?_push_of_some _ ho), hc, hd2⟩
    · rw [← hzs, ← hux]
      exact up _ _ (Nat.ne_of_gt zlt) (Heap.get?_push_size _ rfl)
  · have kp1 : Kp (zEx z TO its) s.heap h₁ := Kp.of hs₁ (.inl rfl)
    refine ⟨rfl, 0, h₁, rfl, rfl, Nat.zero_le _, kp1, hz₁, fun j a l h1 h2 => ?_, ws, (hs₁.2 _ (Ne.symm D.zTO)).trans hTO, hw, fun j hj => absurd hj (Nat.not_lt_zero j)⟩
    obtain ⟨o, ho, hc, hd2⟩ := hI j a l h1 h2
    exact ⟨o, (hs₁.2 _ fun e => D.zi (e ▸ List.mem_of_getElem? h1)).trans ho, hc, hd2⟩
theorem next_held {f0 : Value} {f1 : Bool} {xs : List Value} {Q : Value → Shared → Prop} (D : ZApart z TI TO its ls) (hne : its ≠ []) (hn : its.length ≤ 100000)
    (hheld : ∀ (P : Bool → Shared → Prop), (∀ h', h'.get? z = some (zObj f0 true TI TO) → Heap.SameBut z s.heap h' → P false { s with heap := h' }) → wpAny (model prog w) A (Builtin.SmallTypes.ownedTupleIsFree (.ref z)) P E s)
    (hz : s.heap.get? z = some (zObj f0 f1 TI TO)) (hTI : s.heap.get? TI = some (tObj (its.map Value.ref).toArray))
    (hI : ItsAt s.heap its ls i 0) (hS : Srcs s.heap ls xss) (hxl : xss.length = its.length) (hx : xs.length = its.length) (hxs : ∀ (j : Nat) (ys : List Value), xss[j]? = some ys → ys[i]? = xs[j]?)
    (hQ : ∀ h', h'.get? z = some (zObj f0 true TI TO) → ItsAt h' its ls (i + 1) 0 → h'.get? s.heap.objs.size = some (tObj xs.toArray) → (∀ c o, ¬ (c = z ∨ c ∈ its) → s.heap.get? c = some o → h'.get? c = some o) → Q (.ref s.heap.objs.size) { s with heap := h' }) :
    wpAny (model prog w) A (Builtin.«zip.__next__» ⟨[.ref z], []⟩) (fun fin s' => ∃ v, fin = .done (.ret v) ∧ Q v s') E s := by
  show wpAny _ _ (field (.ref z) 2 >>= _) _ _ _
  refine wpAny_bind (wpAny_field hz rfl (x := .bool false) rfl ?_)
  show wpAny _ _ (field (.ref z) 3 >>= _) _ _ _
  refine wpAny_bind (wpAny_field hz rfl (x := .ref TI) rfl ?_)
  refine wpAny_bind (wpAny_seqItems hTI rfl ?_)
  have hemp : ((its.map Value.ref).toArray).isEmpty = false := by
    cases its with
    | nil => exact absurd rfl hne
    | cons a r => rfl
  simp only [hemp, Bool.false_eq_true, if_false]
  show wpAny _ _ (Builtin.SmallTypes.ownedTupleIsFree (.ref z) >>= _) _ _ _
  refine wpAny_bind (hheld _ fun h₁ hz₁ hs₁ => ?_)
  simp only [Bool.false_eq_true, if_false]
  refine wpAny_bind ?_
  rw [← Array.forIn_toList]
  refine wpAny_forIn_list _ (fun rest b s' => b.1 = none ∧ ∃ k h', s' = { s with heap := h' } ∧ rest = (its.map Value.ref).drop k ∧ k ≤ its.length ∧ Kp (fun c => c = z ∨ c ∈ its) s.heap h' ∧ h'.get? z = some (zObj f0 true TI TO) ∧ ItsAt h' its ls i k ∧ b.2 = (xs.take k).toArray) _ ?_ ?_ _ _ ?_
  · rintro v rest b s' ⟨hb, k, h2, e, er, hk, kp, hz2, hI2, hb2⟩
    subst e
    have hlt : k < its.length := by
      have h3 := congrArg List.length er
      simp only [List.length_cons, List.length_drop, List.length_map] at h3
      omega
    have hd : (its.map Value.ref).drop k = Value.ref its[k] :: (its.map Value.ref).drop (k + 1) := by
      rw [List.drop_eq_getElem_cons (by simpa using hlt)]
      simp
    rw [hd] at er
    simp only [List.cons.injEq] at er
    obtain ⟨rfl, rfl⟩ := er
    have hak : its[k]? = some its[k] := List.getElem?_eq_getElem hlt
    have hlk : ls[k]? = some (ls[k]'(by rw [← D.len]; exact hlt)) := List.getElem?_eq_getElem _
    have hxk : xss[k]? = some (xss[k]'(by omega)) := List.getElem?_eq_getElem _
    have hxx : xs[k]? = some (xs[k]'(by omega)) := List.getElem?_eq_getElem _
    have hS2 : Srcs h2 ls xss := hS.kp kp fun l hl q => by
      obtain ⟨q1, q2, q3⟩ := D.lz l hl
      rcases q with q | q
      · exact q1 q
      · exact q3 q
    refine wpAny_bind (wpAny_holding ?_)
    show wpAny _ _ (Builtin.SmallTypes.nextOf (.ref its[k]) >>= _) _ _ _
    refine wpAny_bind (draw_one (s := { s with heap := h2 }) D hI2 hS2 hak hlk hxk ((hxs k _ hxk).trans hxx) fun h3 hI3 sb3 => wpAny_pure (wpAny_pure ?_))
    have mem : its[k] ∈ its := List.getElem_mem hlt
    refine ⟨rfl, k + 1, h3, rfl, rfl, hlt, kp.trans (Kp.of sb3 (.inr mem)), (sb3.2 z fun q => D.zi (by rw [q]; exact mem)).trans hz2, hI3, ?_⟩
    show b.2.push xs[k] = _
    rw [hb2, List.take_add_one, hxx]
    simp
  · rintro b s' ⟨hb, k, h2, e, er, hk, kp, hz2, hI2, hb2⟩
    subst e
    have hke : k = its.length := by
      have h3 := congrArg List.length er
      simp only [List.length_nil, List.length_drop, List.length_map] at h3
      omega
    subst hke
    have hux : b.2.toList = xs := by
      rw [hb2, ← hx, List.take_length]
    rw [hb]
    refine wpAny_bind (wpAny_newTuple ?_ (by rw [hux, hx, sizeLine_eq]; omega))
    have hzs := kp.sz
    refine wpAny_pure ⟨_, rfl, ?_⟩
    show Q (.ref h2.objs.size) _
    rw [hux, hzs]
    refine hQ _ (Heap.get?_push_of_some _ hz2) (fun j a l h6 h7 => ?_) ?_ fun c o n q => Heap.get?_push_of_some _ (kp.k c o n q)
    · have h8 := hI2 j a l h6 h7
      rw [if_pos (List.getElem?_eq_some_iff.mp h6).1] at h8
      rw [if_neg (Nat.not_lt_zero j)]
      obtain ⟨o, ho, hc, hd2⟩ := h8
      exact ⟨o, Heap.get?_push_of_some _ ho, hc, hd2⟩
    · rw [← hzs]
      exact Heap.get?_push_size _ rfl
  · refine ⟨rfl, 0, h₁, rfl, by simp, Nat.zero_le _, Kp.of hs₁ (.inl rfl), hz₁, fun j a l h1 h2 => ?_, by simp⟩
    obtain ⟨o, ho, hc, hd2⟩ := hI j a l h1 h2
    exact ⟨o, (hs₁.2 _ fun e => D.zi (e ▸ List.mem_of_getElem? h1)).trans ho, hc, hd2⟩
/-- the end: the first source has no more -/
theorem next_over {f0 : Value} {f1 : Bool} {Q : PySem.Fin → Shared → Prop} (hh : A.handled = none) (D : ZApart z TI TO its ls) (hne : its ≠ [])
    (hfree : ∀ (P : Bool → Shared → Prop), (∀ b h' f, h'.get? z = some (zObj f0 f TI TO) → Heap.SameBut z s.heap h' → P b { s with heap := h' }) → wpAny (model prog w) A (Builtin.SmallTypes.ownedTupleIsFree (.ref z)) P E s)
    (hz : s.heap.get? z = some (zObj f0 f1 TI TO)) (hTI : s.heap.get? TI = some (tObj (its.map Value.ref).toArray)) (hI : ItsAt s.heap its ls i 0) (hS : Srcs s.heap ls xss) (hxl : xss.length = its.length) (hend : ∀ xs ∈ xss, xs[i]? = none)
    (hE : ∀ h' e, (∀ c o, ¬ zEx z TO its c → s.heap.get? c = some o → h'.get? c = some o) → (∃ o, h'.get? e = some o ∧ o.cls = .type "StopIteration") → E (.ref e) { s with heap := h' }) :
    wpAny (model prog w) A (Builtin.«zip.__next__» ⟨[.ref z], []⟩) Q E s := by
  show wpAny _ _ (field (.ref z) 2 >>= _) _ _ _
  refine wpAny_bind (wpAny_field hz rfl (x := .bool false) rfl ?_)
  show wpAny _ _ (field (.ref z) 3 >>= _) _ _ _
  refine wpAny_bind (wpAny_field hz rfl (x := .ref TI) rfl ?_)
  refine wpAny_bind (wpAny_seqItems hTI rfl ?_)
  obtain ⟨a, r, hits⟩ := List.exists_cons_of_ne_nil hne
  have hemp : ((its.map Value.ref).toArray).isEmpty = false := by rw [hits]; rfl
  simp only [hemp, Bool.false_eq_true, if_false]
  have ha : its[0]? = some a := by rw [hits]; rfl
  have hl : ls[0]? = some (ls[0]'(by rw [← D.len, hits]; exact Nat.succ_pos _)) := List.getElem?_eq_getElem _
  have hx : xss[0]? = some (xss[0]'(by rw [hxl, hits]; exact Nat.succ_pos _)) := List.getElem?_eq_getElem _
  have mem : a ∈ its := List.mem_of_getElem? ha
  show wpAny _ _ (Builtin.SmallTypes.ownedTupleIsFree (.ref z) >>= _) _ _ _
  refine wpAny_bind (hfree _ fun b h₀ f hz₀ hs₀ => ?_)
  have over : ∀ (h1 : Heap) (E' : Value → Shared → Prop) (Q' : Value → Shared → Prop), Kp (zEx z TO its) s.heap h1 → h1.get? a = s.heap.get? a → (∀ h' e, Heap.ExtBut a h1 h' → (∃ o, h'.get? e = some o ∧ o.cls = .type "StopIteration") → E' (.ref e) { s with heap := h' }) → wpAny (model prog w) A (Builtin.SmallTypes.nextOf (.ref a)) Q' E' { s with heap := h1 } := fun h1 E' Q' kp ea hE' => by
    have h3 := hI 0 a _ ha hl
    rw [if_neg (Nat.lt_irrefl 0)] at h3
    obtain ⟨o, ho, hc, hd⟩ := h3
    have hS1 : Srcs h1 ls xss := hS.kp kp fun l hl q => by
      obtain ⟨q1, q2, q3⟩ := D.lz l hl
      rcases q with q | q | q
      · exact q1 q
      · exact q2 q
      · exact q3 q
    exact RZ.nextOf_tuple_end (s := { s with heap := h1 }) hh ⟨o, ea.trans ho, hc, hd⟩ (hS1 0 _ _ hl hx) (by simpa using hend _ (List.mem_of_getElem? hx)) hE'
  have az : a ≠ z := fun e => D.zi (e ▸ mem)
  have kp0 : Kp (zEx z TO its) s.heap h₀ := Kp.of hs₀ (.inl rfl)
  cases b with
  | true =>
    simp only [if_true]
    refine wpAny_bind (wpAny_rule ?_)
    refine wpAny_bind (wpAny_field (s := { s with heap := h₀ }) hz₀ rfl (x := .ref TO) rfl ?_)
    refine wpAny_bind (wpAny_setField_rec (s := { s with heap := h₀ }) hz₀ (by simp) fun h₁ hz₁ hs₁ => ?_)
    refine wpAny_bind ?_
    simp only [hits, List.map_cons, List.zipIdx_cons, List.forIn_cons]
    refine wpAny_bind (wpAny_bind (wpAny_onRaise ?_))
    show wpAny _ _ (Builtin.SmallTypes.nextOf (.ref a) >>= _) _ _ _
    refine wpAny_bind (over h₁ _ _ (kp0.trans (Kp.of hs₁ (.inl rfl))) ((hs₁.2 a az).trans (hs₀.2 a az)) fun h2 e ex he => ?_)
    obtain ⟨oe, hoe, hce⟩ := he
    have hz₂ : h2.get? z = some (zObj .ellipsis f TI TO) := ex _ _ (Ne.symm az) hz₁
    have hez : e ≠ z := fun x => by
      rw [x, hz₂] at hoe
      cases hoe
      simp at hce
    refine wpAny_setField_rec (s := { s with heap := h2 }) hz₂ (by simp) fun h₃ _ hs₃ => hE h₃ e (fun c o n q => (hs₃.2 c fun e => n (.inl e)).trans (ex _ _ (fun e => n (.inr (.inr (e ▸ mem)))) ((kp0.trans (Kp.of hs₁ (.inl rfl))).k c o n q))) ⟨oe, (hs₃.2 _ hez).trans hoe, hce⟩
  | false =>
    simp only [Bool.false_eq_true, if_false]
    refine wpAny_bind ?_
    rw [← Array.forIn_toList]
    simp only [hits, List.map_cons, List.forIn_cons]
    refine wpAny_bind (wpAny_bind (wpAny_holding ?_))
    show wpAny _ _ (Builtin.SmallTypes.nextOf (.ref a) >>= _) _ _ _
    exact wpAny_bind (over h₀ _ _ kp0 (hs₀.2 a az) fun h2 e ex he => hE h2 e (fun c o n q => ex _ _ (fun e => n (.inr (.inr (e ▸ mem)))) (kp0.k c o n q)) he)
/-! ### zip( .. ) is made -/
theorem zipN_type (us : List Value) : checkTypeCall "zip" ⟨us, []⟩ = pure () := by kernel_rfl
theorem zipN_new (a : Value) (us : List Value) : checkBuiltinCall "zip.__new__" ⟨.type "zip" :: a :: us, []⟩ = pure () := by kernel_rfl
theorem zipN_init (o : Value) (us : List Value) : argsOk "object.__init__" ⟨o :: us, []⟩ := by
  unfold argsOk; rw [signature?_of (id := "object.__init__") (n := ['_', '_', 't', 'i', 'n', 'i', '_', '_']) (o := ['t', 'c', 'e', 'j', 'b', 'o']) (by kernel_rfl) F.owner_object]; kernel_rfl
theorem iterAll_n {Q : List Value → Shared → Prop} (hS : Srcs s.heap ls xss) (hx : xss.length = ls.length)
    (h : ∀ h', h'.objs.size = s.heap.objs.size + ls.length → (∀ c o, s.heap.get? c = some o → h'.get? c = some o) → (∀ (j : Nat) (l : Addr), ls[j]? = some l → h'.IsTupleIter (s.heap.objs.size + j) l 0) → Q ((List.range ls.length).map fun j => Value.ref (s.heap.objs.size + j)) { s with heap := h' }) :
    wpAny (model prog w) A (Builtin.SmallTypes.iterAll (ls.map Value.ref)) Q E s := by
  unfold Builtin.SmallTypes.iterAll
  refine wpAny_bind ?_
  refine wpAny_forIn_list _ (fun rest b s' => ∃ k h', s' = { s with heap := h' } ∧ rest = (ls.map Value.ref).drop k ∧ k ≤ ls.length ∧ b = ((List.range k).map fun j => Value.ref (s.heap.objs.size + j)).toArray ∧ h'.objs.size = s.heap.objs.size + k ∧ (∀ c o, s.heap.get? c = some o → h'.get? c = some o) ∧ ∀ (j : Nat) (l : Addr), j < k → ls[j]? = some l → h'.IsTupleIter (s.heap.objs.size + j) l 0) _ ?_ ?_ _ _ ?_
  · rintro v rest b s' ⟨k, h2, e, er, hk, hb, hsz, kp, hI⟩
    subst e
    have hlt : k < ls.length := by
      have h3 := congrArg List.length er
      simp only [List.length_cons, List.length_drop, List.length_map] at h3
      omega
    have hd : (ls.map Value.ref).drop k = Value.ref ls[k] :: (ls.map Value.ref).drop (k + 1) := by
      rw [List.drop_eq_getElem_cons (by simpa using hlt)]
      simp
    rw [hd] at er
    simp only [List.cons.injEq] at er
    obtain ⟨rfl, rfl⟩ := er
    have hlk : ls[k]? = some ls[k] := List.getElem?_eq_getElem hlt
    have hxk : xss[k]? = some (xss[k]'(by omega)) := List.getElem?_eq_getElem _
    obtain ⟨o, ho, hc, n, hd2⟩ := hS k _ _ hlk hxk
    refine wpAny_bind (wpAny_holding (wpAny_pyIter_tuple (s := { s with heap := h2 }) (items := (xss[k]'(by omega)).toArray) ⟨o, kp _ _ ho, hc, n, hd2⟩ (wpAny_pure ?_)))
    refine ⟨k + 1, _, rfl, rfl, hlt, ?_, ?_, fun c o q => Heap.get?_push_of_some _ (kp c o q), fun j l hj hl => ?_⟩
    · show b.push (Value.ref h2.objs.size) = _
      rw [hb, hsz, List.range_succ]
      simp
    · show (h2.push _).objs.size = _
      rw [Heap.size_push, hsz]
      omega
    · by_cases q : j = k
      · subst q
        rw [hlk] at hl
        cases hl
        rw [← hsz]
        exact ⟨_, Heap.get?_push_size _ rfl, rfl, rfl⟩
      · obtain ⟨o, ho, hc, hd⟩ := hI j l (by omega) hl
        exact ⟨o, Heap.get?_push_of_some _ ho, hc, hd⟩
  · rintro b s' ⟨k, h2, e, er, hk, hb, hsz, kp, hI⟩
    subst e
    have hke : k = ls.length := by
      have h3 := congrArg List.length er
      simp only [List.length_nil, List.length_drop, List.length_map] at h3
      omega
    subst hke
    refine wpAny_pure ?_
    rw [hb]
    exact h h2 hsz kp fun j l hl => hI j l (List.getElem?_eq_some_iff.mp hl).1 hl
  · exact ⟨0, s.heap, rfl, rfl, Nat.zero_le _, by simp, rfl, fun _ _ q => q, fun j l hj _ => absurd hj (Nat.not_lt_zero j)⟩
theorem meets_zipN (ls : List Addr) (xss : List (List Value)) (hx : xss.length = ls.length) (hn : ls.length ≤ 100000) :
    Meets (Builtin.«zip.__new__» ⟨.type "zip" :: ls.map Value.ref, []⟩) (fun _ R s => Srcs s.heap ls xss ∧
      ∀ h' its, its = (List.range ls.length).map (fun j => s.heap.objs.size + j) → h'.objs.size = s.heap.objs.size + ls.length + 3 → (∀ c o, s.heap.get? c = some o → h'.get? c = some o) → (∀ (j : Nat) (l : Addr), ls[j]? = some l → h'.IsTupleIter (s.heap.objs.size + j) l 0) →
        h'.get? (s.heap.objs.size + ls.length) = some (tObj (its.map Value.ref).toArray) → h'.get? (s.heap.objs.size + ls.length + 1) = some (tObj (its.map fun _ => Value.none).toArray) → h'.get? (s.heap.objs.size + ls.length + 2) = some (zObj .none false (s.heap.objs.size + ls.length) (s.heap.objs.size + ls.length + 1)) →
        R (.ok (.ret (.ref (s.heap.objs.size + ls.length + 2)))) { s with heap := h' }) :=
  .of_wp fun prog w A R s h => by
    obtain ⟨hS, h⟩ := h
    have hsub := sub_zip
    wp_walk using iterAll_n hS hx
    intro h' hsz kp hI
    have hlr : ∀ {α : Type} (f : Nat → α), ((List.range ls.length).map f).length = ls.length := fun f => by simp
    refine wpAny_bind (wpAny_newTuple ?_ (by rw [hlr, sizeLine_eq]; omega))
    refine wpAny_bind (wpAny_newTuple ?_ (by rw [List.length_map, hlr, sizeLine_eq]; omega))
    refine wpAny_bind ?_
    unfold Builtin.SmallTypes.newRecord
    refine wpAny_newObj_type ?_ (by simp [sizeOk, Builtin.SmallTypes.ownedTupleFields, sizeLine_eq])
    refine wpAny_pure ⟨_, rfl, ?_⟩
    dsimp only
    generalize e1 : h'.push { cls := Value.type "tuple", data := .seq ((List.range ls.length).map fun j => Value.ref (s.heap.objs.size + j)).toArray } = h1
    have s1 : h1.objs.size = s.heap.objs.size + ls.length + 1 := by rw [← e1, Heap.size_push, hsz]
    generalize e2 : h1.push { cls := Value.type "tuple", data := .seq (((List.range ls.length).map fun j => Value.ref (s.heap.objs.size + j)).map fun _ => Value.none).toArray } = h2
    have s2 : h2.objs.size = s.heap.objs.size + ls.length + 2 := by rw [← e2, Heap.size_push, s1]
    have k1 : ∀ c o, h'.get? c = some o → h1.get? c = some o := fun c o q => by rw [← e1]; exact Heap.get?_push_of_some _ q
    have k2 : ∀ c o, h1.get? c = some o → h2.get? c = some o := fun c o q => by rw [← e2]; exact Heap.get?_push_of_some _ q
    show R (.ok (.ret (.ref h2.objs.size))) { s with heap := h2.push _ }
    rw [s2]
    refine h _ _ rfl ?_ (fun c o q => Heap.get?_push_of_some _ (k2 c o (k1 c o (kp c o q)))) (fun j l hl => ?_) ?_ ?_ ?_
    · rw [Heap.size_push, s2]
    · obtain ⟨o, ho, hc, hd⟩ := hI j l hl
      exact ⟨o, Heap.get?_push_of_some _ (k2 _ _ (k1 _ _ ho)), hc, hd⟩
    · rw [← hsz, List.map_map]
      refine Heap.get?_push_of_some _ (k2 _ _ ?_)
      rw [← e1]
      exact Heap.get?_push_size _ rfl
    · rw [← s1]
      refine Heap.get?_push_of_some _ ?_
      rw [← e2, List.map_map, List.map_map]
      exact Heap.get?_push_size _ rfl
    · rw [← s2, ← s1, ← hsz]
      exact Heap.get?_push_size _ rfl
/-! ### turns -/
theorem free_none {f1 : Bool} {P : Bool → Shared → Prop} (hz : s.heap.get? z = some (zObj .none f1 TI TO)) (h : P true s) : wpAny (model prog w) A (Builtin.SmallTypes.ownedTupleIsFree (.ref z)) P E s := by
  unfold Builtin.SmallTypes.ownedTupleIsFree
  exact wpAny_bind (wpAny_field hz rfl (x := .none) rfl (wpAny_pure h))
theorem free_dead {f1 : Bool} {T : Addr} {P : Bool → Shared → Prop} (hz : s.heap.get? z = some (zObj (rawInt T) f1 TI TO)) (hT : s.heap.get? T = none) (h : P true s) : wpAny (model prog w) A (Builtin.SmallTypes.ownedTupleIsFree (.ref z)) P E s := by
  unfold Builtin.SmallTypes.ownedTupleIsFree
  refine wpAny_bind (wpAny_field hz rfl (x := rawInt T) rfl ?_)
  show wpAny _ _ (loadIfAlive ((T : Int).toNat) >>= _) _ _ _
  rw [Int.toNat_natCast]
  have ld : ∀ Q' : Option Obj → Shared → Prop, Q' none s → wpAny (model prog w) A (loadIfAlive T) Q' E s := fun Q' q => by
    have q' : Q' (s.heap.get? T) s := by rw [hT]; exact q
    exact fun _ _ _ => q'
  refine wpAny_bind (ld _ ?_)
  simp only [Option.isNone_none, if_true]
  exact wpAny_pure h
/-- a zip at its i-th turn -/
structure ZAt (h : Heap) (z TI TO : Addr) (its ls : List Addr) (i : Nat) : Prop where
  z : ∃ f0 f1, (f0 = .none ∨ ∃ T : Addr, f0 = rawInt T) ∧ h.get? z = some (zObj f0 f1 TI TO)
  TI : h.get? TI = some (tObj (its.map Value.ref).toArray)
  TO : ∃ ws : Array Value, h.get? TO = some (tObj ws) ∧ ws.size = its.length
  it : ItsAt h its ls i 0
theorem pyNextN_item {xs : List Value} {Q : Option Value → Shared → Prop} (D : ZApart z TI TO its ls) (hne : its ≠ []) (hn : its.length ≤ 100000) (Z : ZAt s.heap z TI TO its ls i) (hS : Srcs s.heap ls xss) (hxl : xss.length = its.length) (hx : xs.length = its.length) (hxs : ∀ (j : Nat) (ys : List Value), xss[j]? = some ys → ys[i]? = xs[j]?)
    (hQ : ∀ h', ZAt h' z TI TO its ls (i + 1) → h'.get? s.heap.objs.size = some (tObj xs.toArray) → (∀ c o, ¬ zEx z TO its c → s.heap.get? c = some o → h'.get? c = some o) → Q (some (.ref s.heap.objs.size)) { s with heap := h' }) : wpAny (model prog w) A (pyNext (.ref z)) Q E s := by
  obtain ⟨⟨f0, f1, hf, hz⟩, hTI, ⟨ws, hTO, hw⟩, hI⟩ := Z
  have hT : s.TypeIs (.ref z) "zip" := ⟨_, hz, rfl⟩
  have nTI : ¬ zEx z TO its TI := fun q => by
    rcases q with q | q | q
    · exact D.zTI q.symm
    · exact D.TITO q
    · exact D.TIi q
  unfold pyNext
  refine wpAny_bind (wpAny_attempt (wpAny_callSpecial?_slot (name := Str.ofString "__next__") hT F.slot_zip_next
    (wpAny_call_entry F.slot_zip_next hT F.entry_zip_next ?_ (F.args_zip_next_1 _))))
  rcases hf with rfl | ⟨T, rfl⟩
  · exact next_fresh D hne hn (fun P h => free_none hz h) hz hTI hTO hw hI hS hxl hx hxs fun h' ws' h1 h2 h3 h4 h5 h6 => wpAny_pure (hQ h' ⟨⟨_, _, .inr ⟨_, rfl⟩, h1⟩, h6 _ _ nTI hTI, ⟨ws', h2, h3⟩, h4⟩ h5 h6)
  · cases hTv : s.heap.get? T with
    | none => exact next_fresh D hne hn (fun P h => free_dead hz hTv h) hz hTI hTO hw hI hS hxl hx hxs fun h' ws' h1 h2 h3 h4 h5 h6 => wpAny_pure (hQ h' ⟨⟨_, _, .inr ⟨_, rfl⟩, h1⟩, h6 _ _ nTI hTI, ⟨ws', h2, h3⟩, h4⟩ h5 h6)
    | some oT => exact next_held D hne hn (fun P h => wpAny_tupleHeld_zip hz hTv h) hz hTI hI hS hxl hx hxs fun h' h1 h2 h3 h4 => wpAny_pure (hQ h' ⟨⟨_, _, .inr ⟨_, rfl⟩, h1⟩, h4 _ _ (fun q => nTI (q.elim .inl fun q => .inr (.inr q))) hTI, ⟨ws, h4 _ _ (fun q => q.elim (fun e => D.zTO e.symm) D.TOi) hTO, hw⟩, h2⟩ h3 fun c o n q => h4 c o (fun e => n (e.elim .inl fun e => .inr (.inr e))) q)
theorem pyNextN_over {Q : Option Value → Shared → Prop} (hh : A.handled = none) (D : ZApart z TI TO its ls) (hne : its ≠ []) (Z : ZAt s.heap z TI TO its ls i) (hS : Srcs s.heap ls xss) (hxl : xss.length = its.length) (hend : ∀ xs ∈ xss, xs[i]? = none)
    (hQ : ∀ h', (∀ c o, ¬ zEx z TO its c → s.heap.get? c = some o → h'.get? c = some o) → Q none { s with heap := h' }) : wpAny (model prog w) A (pyNext (.ref z)) Q E s := by
  obtain ⟨⟨f0, f1, hf, hz⟩, hTI, ⟨ws, hTO, hw⟩, hI⟩ := Z
  have hT : s.TypeIs (.ref z) "zip" := ⟨_, hz, rfl⟩
  unfold pyNext
  refine wpAny_bind (wpAny_attempt (wpAny_callSpecial?_slot (name := Str.ofString "__next__") hT F.slot_zip_next
    (wpAny_call_entry F.slot_zip_next hT F.entry_zip_next (next_over hh D hne (fun P h => ?_) hz hTI hI hS hxl hend fun h' e hk he => ?_) (F.args_zip_next_1 _))))
  · rcases hf with rfl | ⟨T, rfl⟩
    · exact free_none hz (h true s.heap f1 hz (Heap.SameBut.refl _ _))
    · cases hTv : s.heap.get? T with
      | none => exact free_dead hz hTv (h true s.heap f1 hz (Heap.SameBut.refl _ _))
      | some oT => exact wpAny_tupleHeld_zip hz hTv fun h' a b => h false h' true a b
  · obtain ⟨o, ho, hc⟩ := he
    refine wpAny_bind (wpAny_isInstance (T := "StopIteration") (b := true) ⟨o, ho, hc⟩ isSubtype_stop ?_)
    exact wpAny_pure (hQ _ hk)
theorem callZipN {Q : Value → Shared → Prop} (hne : ls ≠ []) (hS : Srcs s.heap ls xss) (hx : xss.length = ls.length) (hn : ls.length ≤ 100000)
    (h : ∀ h', ZAt h' (s.heap.objs.size + ls.length + 2) (s.heap.objs.size + ls.length) (s.heap.objs.size + ls.length + 1) ((List.range ls.length).map fun j => s.heap.objs.size + j) ls 0 → h'.objs.size = s.heap.objs.size + ls.length + 3 → (∀ c o, s.heap.get? c = some o → h'.get? c = some o) → Q (.ref (s.heap.objs.size + ls.length + 2)) { s with heap := h' }) :
    wpAny (model prog w) A (call (.type "zip") (ls.map Value.ref)) Q E s := by
  obtain ⟨a, r, e⟩ := List.exists_cons_of_ne_nil hne
  have eq : ls.map Value.ref = Value.ref a :: r.map Value.ref := by rw [e]; rfl
  refine callType_new F.called_zip (by decide) (zipN_type _) (by rw [eq]; exact zipN_new _ _) (fun obj => zipN_init obj _) F.entry_zip_new (meets_zipN ls xss hx hn) ⟨hS, fun h' its ei hsz kp hI h1 h2 h3 => ?_⟩
  subst ei
  refine ⟨⟨_, h3, rfl⟩, h h' ⟨⟨_, _, .inl rfl, h3⟩, h1, ⟨_, h2, by simp⟩, fun j a l hj hl => ?_⟩ hsz kp⟩
  rw [if_neg (Nat.not_lt_zero j)]
  rw [List.getElem?_map] at hj
  have hlt : j < ls.length := (List.getElem?_eq_some_iff.mp hl).1
  rw [List.getElem?_range hlt] at hj
  cases hj
  exact hI j l hl
theorem ne_nat {a b : Nat} (h : a < b ∨ b < a) : a ≠ b := by omega
theorem apartN (n : Nat) (hl : ∀ l ∈ ls, l < n) : ZApart (n + ls.length + 2) (n + ls.length) (n + ls.length + 1) ((List.range ls.length).map fun j => n + j) ls := by
  have lo : ∀ c : Nat, c ∈ (List.range ls.length).map (fun j => n + j) → n ≤ c ∧ c < n + ls.length := fun c hc => by
    obtain ⟨j, hj, rfl⟩ := List.mem_map.mp hc
    have := List.mem_range.mp hj
    exact ⟨Nat.le_add_right _ _, by omega⟩
  have hl' : ∀ l : Nat, l ∈ ls → l < n := hl
  refine ⟨by simp, ?_, ne_nat (by omega), ne_nat (by omega), ne_nat (by omega), fun q => ?_, fun q => ?_, fun q => ?_, fun l h => ⟨ne_nat (.inl ?_), ne_nat (.inl ?_), fun q => ?_⟩⟩
  · exact List.Pairwise.map _ (fun a b h e => h (Nat.add_left_cancel e)) List.nodup_range
  · exact absurd (lo _ q).2 (by omega)
  · exact absurd (lo _ q).2 (by omega)
  · exact absurd (lo _ q).2 (by omega)
  · exact Nat.lt_of_lt_of_le (hl' l h) (by omega)
  · exact Nat.lt_of_lt_of_le (hl' l h) (by omega)
  · exact absurd (hl' l h) (Nat.not_lt.mpr (lo _ q).1)
end
end Fw
set_option Elab.async false
set_option linter.all false
set_option maxRecDepth 100000
set_option maxHeartbeats 4000000
/-! zip( *rows ) walked by a name, rows a list of tuples of one length -/
namespace Fw
open PySem PySem.Spec PyProof.Rows L2

/-- the tuples ls, each of n items, side by side -/
def ItzN (K : PySem.W.Frag) (ls : List Addr) (n : Nat) : It :=
  ⟨fun i H => i < n ∧ ∀ l ∈ ls, ∃ xs, SqT K H l xs ∧ xs.length = n,
    fun i H v H' => ∃ T xs, v = .ref T ∧ H T = none ∧ H' = upd H T (.tup xs) ∧ xs.length = ls.length ∧ ∀ (j : Nat) (l : Addr) (ys : List V), ls[j]? = some l → SqT K H l ys → xs[j]? = ys[i]?,
    fun i H => n ≤ i ∧ ∀ l ∈ ls, ∃ xs, SqT K H l xs ∧ xs.length = n⟩
section
variable {X : Cx} {pins : List (Addr × Obj)} {σ : L2.St} {H : Hp} {s : Shared}
/-- the sources as they stand, by values and in the heap -/
theorem srcs_of {n : Nat} (I : L2.Inv X pins σ H s) : ∀ {ls : List Addr}, (∀ l ∈ ls, ∃ xs, SqT X.K H l xs ∧ xs.length = n) →
    ∃ (vss : List (List V)) (xss : List (List Value)), vss.length = ls.length ∧ xss.length = ls.length ∧ Srcs s.heap ls xss ∧ ∀ (j : Nat) (l : Addr), ls[j]? = some l → ∃ vs xs, vss[j]? = some vs ∧ xss[j]? = some xs ∧ SqT X.K H l vs ∧ vs.length = n ∧ Vals vs xs
  | [], _ => ⟨[], [], rfl, rfl, fun j l xs h => by simp at h, fun j l h => by simp at h⟩
  | l :: ls, h => by
    obtain ⟨vs, hq, hn⟩ := h l (List.mem_cons_self ..)
    obtain ⟨us, rv, p, _⟩ := I.tuple hq
    obtain ⟨vss, xss, h1, h2, h3, h4⟩ := srcs_of I (ls := ls) fun m hm => h m (List.mem_cons_of_mem _ hm)
    refine ⟨vs :: vss, us :: xss, by simp [h1], by simp [h2], fun j m xs hj hx => ?_, fun j m hj => ?_⟩
    · cases j with
      | zero =>
        simp at hj hx
        subst hj hx
        exact p
      | succ j => exact h3 j m xs (by simpa using hj) (by simpa using hx)
    · cases j with
      | zero =>
        simp at hj
        subst hj
        exact ⟨vs, us, rfl, rfl, hq, hn, rv⟩
      | succ j =>
        obtain ⟨a, b, c1, c2, c3⟩ := h4 j m (by simpa using hj)
        exact ⟨a, b, by simpa using c1, by simpa using c2, c3⟩
end
theorem col_of {n i : Nat} {vss : List (List V)} {xss : List (List Value)} (hi : i < n) (hl : vss.length = xss.length) (h : ∀ (j : Nat) vs xs, vss[j]? = some vs → xss[j]? = some xs → vs.length = n ∧ Vals vs xs) :
    ∃ (col : List V) (cov : List Value), col.length = vss.length ∧ cov.length = xss.length ∧ Vals col cov ∧ (∀ (j : Nat) vs, vss[j]? = some vs → vs[i]? = col[j]?) ∧ ∀ (j : Nat) xs, xss[j]? = some xs → xs[i]? = cov[j]? := by
  induction vss generalizing xss with
  | nil =>
    cases xss with
    | nil => exact ⟨[], [], rfl, rfl, .nil, fun j vs h => by simp at h, fun j vs h => by simp at h⟩
    | cons a r => simp at hl
  | cons vs vss ih =>
    cases xss with
    | nil => simp at hl
    | cons xs xss =>
      obtain ⟨h1, h2⟩ := h 0 vs xs rfl rfl
      obtain ⟨col, cov, a1, a2, a3, a4, a5⟩ := ih (xss := xss) (by simpa using hl) fun j a b ha hb => h (j + 1) a b (by simpa using ha) (by simpa using hb)
      have hv : vs[i]? = some (vs[i]'(by omega)) := List.getElem?_eq_getElem _
      obtain ⟨u, hu, ru⟩ := h2.get hv
      refine ⟨vs[i]'(by omega) :: col, u :: cov, by simp [a1], by simp [a2], .cons ru a3, fun j b hb => ?_, fun j b hb => ?_⟩
      · cases j with
        | zero =>
          simp at hb
          subst hb
          simpa using hv
        | succ j => simpa using a4 j b (by simpa using hb)
      · cases j with
        | zero =>
          simp at hb
          subst hb
          simpa using hu
        | succ j => simpa using a5 j b (by simpa using hb)
theorem turn_zipN {P : Program} {w : World} {K : PySem.W.Frag} {x : Str} {tp : Pos} {z TI TO : Addr} {its ls : List Addr} {n : Nat} (D : ZApart z TI TO its ls) (hne : its ≠ []) (hn : its.length ≤ 100000) : Turn P w K (.Name x tp) (ItzN K ls n) (z :: TI :: TO :: its) z (fun i h => ZAt h z TI TO its ls i) where
  mem := List.mem_cons_self ..
  obj := fun i h Z c hc => by
    obtain ⟨⟨f0, f1, _, hz⟩, hTI, ⟨ws, hTO, _⟩, hI⟩ := Z
    rcases List.mem_cons.mp hc with rfl | hc
    · exact ⟨_, hz, fun v q => nomatch q⟩
    rcases List.mem_cons.mp hc with rfl | hc
    · exact ⟨_, hTI, fun v q => nomatch q⟩
    rcases List.mem_cons.mp hc with rfl | hc
    · exact ⟨_, hTO, fun v q => nomatch q⟩
    · obtain ⟨j, hj, e⟩ := List.getElem_of_mem hc
      have h1 : its[j]? = some c := by rw [List.getElem?_eq_getElem hj, e]
      have h2 : ls[j]? = some (ls[j]'(by rw [← D.len]; exact hj)) := List.getElem?_eq_getElem _
      obtain ⟨o, ho, _, hd⟩ := hI j c _ h1 h2
      exact ⟨o, ho, fun v q => by rw [hd] at q; cases q⟩
  keep := fun i h h' Z k => by
    obtain ⟨⟨f0, f1, hf, hz⟩, hTI, ⟨ws, hTO, hw⟩, hI⟩ := Z
    refine ⟨⟨f0, f1, hf, k z (by simp) _ hz⟩, k TI (by simp) _ hTI, ⟨ws, k TO (by simp) _ hTO, hw⟩, fun j a l ha hl => ?_⟩
    obtain ⟨o, ho, hc, hd⟩ := hI j a l ha hl
    exact ⟨o, k a (List.mem_cons_of_mem _ (List.mem_cons_of_mem _ (List.mem_cons_of_mem _ (List.mem_of_getElem? ha)))) _ ho, hc, hd⟩
  item := by
    intro X hP hw hK hc i pins s σ H E I hf Z hg
    subst hP hw hK
    obtain ⟨hi, hsrc⟩ := hg
    obtain ⟨vss, xss, l1, l2, hS, hall⟩ := srcs_of I hsrc
    have same : ∀ (j : Nat) vs xs, vss[j]? = some vs → xss[j]? = some xs → vs.length = n ∧ Vals vs xs := fun j vs xs h1 h2 => by
      have hj : j < ls.length := by rw [← l1]; exact (List.getElem?_eq_some_iff.mp h1).1
      obtain ⟨a, b, c1, c2, _, c4, c5⟩ := hall j _ (List.getElem?_eq_getElem hj)
      rw [h1] at c1
      rw [h2] at c2
      cases c1
      cases c2
      exact ⟨c4, c5⟩
    obtain ⟨col, cov, a1, a2, a3, a4, a5⟩ := col_of hi (l1.trans l2.symm) same
    have hnone : ∀ c ∈ (z :: TI :: TO :: its), H c = none := fun c hc => (hf c hc).1
    have ent : ∀ c, ¬ c ∈ (z :: TI :: TO :: its) → ¬ zEx z TO its c := fun c hc q => by
      rcases q with q | q | q
      · exact hc (by simp [q])
      · exact hc (by simp [q])
      · exact hc (List.mem_cons_of_mem _ (List.mem_cons_of_mem _ (List.mem_cons_of_mem _ q)))
    have old : ∀ c ∈ (z :: TI :: TO :: its), c < s.heap.objs.size := fun c hc => by
      obtain ⟨⟨f0, f1, _, hz⟩, hTI, ⟨ws, hTO, _⟩, hI⟩ := Z
      rcases List.mem_cons.mp hc with rfl | hc
      · exact Heap.lt_size hz
      rcases List.mem_cons.mp hc with rfl | hc
      · exact Heap.lt_size hTI
      rcases List.mem_cons.mp hc with rfl | hc
      · exact Heap.lt_size hTO
      · obtain ⟨j, hj, e⟩ := List.getElem_of_mem hc
        have h1 : its[j]? = some c := by rw [List.getElem?_eq_getElem hj, e]
        obtain ⟨o, ho, _, hd⟩ := hI j c _ h1 (List.getElem?_eq_getElem (by rw [← D.len]; exact hj))
        exact Heap.lt_size ho
    refine pyNextN_item D hne hn Z hS (by rw [l2, D.len]) (xs := cov) (by rw [a2, l2, D.len]) (fun j ys h => a5 j ys h) fun h' Z' hT hk => ?_
    have new : ObjOk X.prog X.w (upd H s.heap.objs.size (.tup col)) h' s.heap.objs.size (.tup col) :=
      ⟨by rw [a1, l1, ← D.len, sizeLine_eq]; omega, cov, a3, ⟨_, hT, rfl, _, rfl⟩⟩
    have I1 : L2.Inv X pins σ (upd H s.heap.objs.size (.tup col)) { s with heap := h' } := I.turnedNew (t' := s.toks) (ch := z :: TI :: TO :: its) (fun c o hb q => hk c o (ent c hb) q) hf (Nat.le_refl _) new
    refine ⟨_, rfl, ?_⟩
    show wpAny _ _ (pure ()) _ _ _
    refine wpAny_pure ⟨.ref s.heap.objs.size, _, I1, rfl, ⟨_, col, rfl, I.hok.fresh (Nat.le_refl _), rfl, a1.trans l1, fun j l ys hl hq => ?_⟩, Z', fun c hc => ?_⟩
    · obtain ⟨vs, xs, b1, b2, b3, b4, b5⟩ := hall j l hl
      rw [I.tuple_inj hq b3]
      exact (a4 j vs b1).symm
    · rw [upd_ne (Nat.ne_of_lt (old c hc))]
      exact hnone c hc
  done := by
    intro X hP hw hK hc i pins s σ H E I hf Z hg
    subst hP hw hK
    obtain ⟨hi, hsrc⟩ := hg
    obtain ⟨vss, xss, l1, l2, hS, hall⟩ := srcs_of I hsrc
    have ent : ∀ c, ¬ c ∈ (z :: TI :: TO :: its) → ¬ zEx z TO its c := fun c hc q => by
      rcases q with q | q | q
      · exact hc (by simp [q])
      · exact hc (by simp [q])
      · exact hc (List.mem_cons_of_mem _ (List.mem_cons_of_mem _ (List.mem_cons_of_mem _ q)))
    refine pyNextN_over (I.ok.hd hc) D hne Z hS (by rw [l2, D.len]) (fun xs hx => ?_) fun h' hk => ⟨rfl, I.turnedL (t' := s.toks) (ch := z :: TI :: TO :: its) (fun c o hb q => hk c o (ent c hb) q) hf⟩
    obtain ⟨j, hj, e⟩ := List.getElem_of_mem hx
    obtain ⟨vs, ys, b1, b2, b3, b4, b5⟩ := hall j _ (List.getElem?_eq_getElem (by rw [← l2]; exact hj))
    rw [List.getElem?_eq_getElem hj, e] at b2
    cases b2
    exact List.getElem?_eq_none_iff.mpr (by rw [← b5.length]; omega)
  self := fun A i s Q E Z h => by
    obtain ⟨⟨f0, f1, _, hz⟩, _, _, _⟩ := Z
    have hT : s.TypeIs (.ref z) "zip" := ⟨_, hz, rfl⟩
    refine wpAny_pyIter_slot hT F.slot_zip_iter (wpAny_call_entry F.slot_zip_iter hT F.entry_zip_iter ?_ (F.args_zip_iter_1 _))
    show wpAny _ _ (ret (.ref z)) _ _ s
    exact wpAny_pure ⟨_, rfl, "zip", _, hT, F.slot_zip_next.lookup, h⟩
def iZipN (K : PySem.W.Frag) (te : TE) : TI := fun σ H R => te σ H fun v H1 => ∃ a ls n, v = .ref a ∧ SqL K H1 a (ls.map V.ref) ∧ ls ≠ [] ∧ ls.length ≤ 100000 ∧ (∀ l ∈ ls, ∃ xs, SqT K H1 l xs ∧ xs.length = n) ∧ R (ItzN K ls n) H1
theorem vals_refs : ∀ {ls : List Addr} {us : List Value}, Vals (ls.map V.ref) us → us = ls.map Value.ref
  | [], _, .nil => rfl
  | l :: ls, _, .cons r t => by
    rw [vals_refs t]
    cases r
    rfl
theorem pi_zipN {X : Cx} {e : Expr} {te : TE} {x : Str} {p p2 pos tp : Pos} (hg : Gl X "zip") (hm : X.mg "zip" = none) (he : PE X e te) : PI X (.Name x tp) (.Call (.Name "zip" p) [.Starred e p2] [] pos) (iZipN X.K te) := by
  refine ⟨fun pins s σ H R I h => ?_⟩
  refine Call_ (ld_blt I hg hm PyProof.Rows.boot_zip ?_)
  refine PySem.W.ks_call (first := []) (P := fun _ => True) rfl (fun h _ => ⟨.machine, .inr (.inl rfl), .of_pure rfl⟩) (PySem.W.ks_lone (thn (he.run pins s σ H _ I h) fun v s1 ⟨y, H1, I1, r1, a, ls, n, ey, hq, hne, hn, hsrc, q⟩ => ?_))
  subst ey
  cases r1
  refine StX.star_lst I1 hq fun us s2 I2 rv => ⟨True.intro, ?_⟩
  have eu := vals_refs rv
  subst eu
  obtain ⟨vss, xss, l1, l2, hS, hall⟩ := srcs_of I2 hsrc
  show wpAny _ _ (call (.type "zip") (ls.map Value.ref)) _ _ _
  refine callZipN hne hS l2 hn fun h' Z hsz hk => ?_
  have lt : ∀ l ∈ ls, l < s2.heap.objs.size := fun l hl => by
    obtain ⟨xs, hx, _⟩ := hsrc l hl
    obtain ⟨us, _, p, _⟩ := I2.tuple hx
    obtain ⟨o, ho, _⟩ := p
    exact Heap.lt_size ho
  have D := apartN s2.heap.objs.size lt
  have T := turn_zipN (P := X.prog) (w := X.w) (K := X.K) (x := x) (tp := tp) (n := n) D (by simpa using hne) (by simpa using hn)
  refine T.self X.A 0 { s2 with heap := h' } _ _ Z ?_
  have I3 : L2.Inv X pins σ H1 { s2 with heap := h' } := I2.kept (t' := s2.toks) hk
  refine ⟨_, _, _, _, H1, rfl, I3, T, Z, fun c hc => ?_, q⟩
  have hle : s2.heap.objs.size ≤ c := by
    rcases List.mem_cons.mp hc with rfl | hc
    · exact Nat.le_trans (Nat.le_add_right _ _) (Nat.le_add_right _ _)
    rcases List.mem_cons.mp hc with rfl | hc
    · exact Nat.le_add_right _ _
    rcases List.mem_cons.mp hc with rfl | hc
    · exact Nat.le_trans (Nat.le_add_right _ _) (Nat.le_add_right _ _)
    · obtain ⟨j, _, rfl⟩ := List.mem_map.mp hc
      exact Nat.le_add_right _ _
  exact I2.fpOk hle (I2.hok.fresh hle)

/-! ### by what is known -/
/-- rows of one length, as columns -/
theorem ei_zipN {α β : Type} {K : PySem.W.Frag} {te : TE} {Γ : Ga} {M M1 : List Mu} (rs : List α) (cs : List β) (f : α → β → PyData) (h : Ev te Γ M M1 (kD (.list (rs.map fun r => .tuple (cs.map fun c => f r c))))) (hne : rs ≠ []) (hn : rs.length ≤ 100000) : EvI (iZipN K te) Γ M M1 [] ((cs.map fun c => PyData.tuple (rs.map fun r => f r c)).map kD) := fun F σ B C s o R q =>
  h F σ B C s o _ fun v B1 C1 e1 o1 p => by
    obtain ⟨a, xs, rfl, h1, h2⟩ := Tk.lst_inv p
    have rows : ∀ (xs : List V) (rs : List α), TkAll B1 xs (rs.map fun r => PyData.tuple (cs.map fun c => f r c)) → ∃ ls : List Addr, xs = ls.map V.ref ∧ ls.length = rs.length ∧ ∀ (j : Nat) (l : Addr) (r : α), ls[j]? = some l → rs[j]? = some r → ∃ ys, B1 l = some (.tup ys) ∧ TkAll B1 ys (cs.map fun c => f r c) := by
      intro xs rs
      induction rs generalizing xs with
      | nil => intro t; cases t; exact ⟨[], rfl, rfl, fun j l r h => by simp at h⟩
      | cons r rs ih =>
        intro t
        cases t with
        | cons t1 t2 =>
          obtain ⟨ls, rfl, hl, hall⟩ := ih _ t2
          obtain ⟨l, ys, rfl, hy, ht⟩ := Tk.tup_inv t1
          refine ⟨l :: ls, rfl, by simp [hl], fun j m r' hj hr => ?_⟩
          cases j with
          | zero =>
            simp at hj hr
            subst hj hr
            exact ⟨ys, hy, ht⟩
          | succ j => exact hall j m r' (by simpa using hj) (by simpa using hr)
    obtain ⟨ls, rfl, hl, hall⟩ := rows xs rs h2
    have src : ∀ B C, Ex B1 B → Ex B C → ∀ l ∈ ls, ∃ xs, SqT K C l xs ∧ xs.length = cs.length := fun B C e e' l hm => by
      obtain ⟨j, hj, el⟩ := List.getElem_of_mem hm
      have h3 : ls[j]? = some l := by rw [List.getElem?_eq_getElem hj, el]
      obtain ⟨ys, hy, ht⟩ := hall j l _ h3 (List.getElem?_eq_getElem (by omega))
      exact ⟨ys, SqT.of (e' _ _ (e _ _ hy)), by rw [ht.length, List.length_map]⟩
    refine ⟨a, ls, cs.length, rfl, SqL.of (o1.ex _ _ h1), fun z => hne (by rw [z] at hl; exact List.length_eq_zero_iff.mp hl.symm), by omega, src B1 C1 (Ex.refl B1) o1.ex, q _ B1 C1 e1 o1 ⟨fun N B C _ e o i hi => ⟨by simpa using hi, src B C e o.ex⟩, fun N B C _ e o => ⟨by simp, src B C e o.ex⟩, fun N B C _ e o i k x C' hk hy => ?_⟩⟩
    obtain ⟨T, col, rfl, hT, rfl, hcl, hcol⟩ := hy
    have hi : i < cs.length := by
      have := (List.getElem?_eq_some_iff.mp hk).1
      simpa using this
    have ek : k = kD (PyData.tuple (rs.map fun r => f r cs[i])) := by
      rw [List.getElem?_map, List.getElem?_map, List.getElem?_eq_getElem hi] at hk
      exact (Option.some.inj hk).symm
    subst ek
    have en := Ex.new (o := HO.tup col) (o.ex.back hT)
    refine ⟨upd B T (.tup col), en, o.new hT, .tup upd_same (TkAll.ex en _ _ (TkAll.of (by rw [hcl, hl, List.length_map]) fun j v d hj hd => ?_))⟩
    rw [List.getElem?_map] at hd
    have hjr : j < rs.length := by
      rw [← hl, ← hcl]
      exact (List.getElem?_eq_some_iff.mp hj).1
    rw [List.getElem?_eq_getElem hjr] at hd
    cases hd
    have hjl : ls[j]? = some (ls[j]'(by omega)) := List.getElem?_eq_getElem _
    obtain ⟨ys, hy, ht⟩ := hall j _ _ hjl (List.getElem?_eq_getElem hjr)
    have h5 := hcol j _ ys hjl (SqT.of (o.ex _ _ (e _ _ hy)))
    rw [hj] at h5
    obtain ⟨d, hd2, hv⟩ := (TkAll.ex e _ _ ht).get h5.symm
    rw [List.getElem?_map, List.getElem?_eq_getElem hi] at hd2
    cases hd2
    exact hv
end Fw
set_option Elab.async false
set_option linter.all false
set_option maxRecDepth 100000
set_option maxHeartbeats 4000000
/-! list(zip(a, b)), a and b tuples of one length -/
namespace Fw
open PySem PySem.Spec PyProof.Rows L2

/-- from H on: the list at q holds the tuples Ts, all of them new; the j-th is told by pr -/
structure LzH (H H' : Hp) (qa : Addr) (Ts : List Addr) (pr : Nat → List V → Prop) : Prop where
  q : H' qa = some (.lst (Ts.map V.ref))
  t : ∀ (j : Nat) (T : Addr), Ts[j]? = some T → ∃ ys, H' T = some (.tup ys) ∧ pr j ys
  new : ∀ T ∈ Ts, H T = none ∧ T ≠ qa
  old : ∀ b, b ≠ qa → b ∉ Ts → H' b = H b
theorem zip_nolen : typeLookup (.type "zip") "__len__" = pure none := by rw [typeLookup_type, builtinLookup_eq_fast]; kernel_rfl
theorem zip_nohint : typeLookup (.type "zip") "__length_hint__" = pure none := by rw [typeLookup_type, builtinLookup_eq_fast]; kernel_rfl
section
variable {X : Cx} {pins : List (Addr × Obj)} {σ : L2.St} {H : Hp} {s : Shared} {z TI TO q : Addr} {its ls : List Addr} {n : Nat} {A1 : Around} {Rs : Result → Shared → Prop}
theorem lz_loop (hh : A1.in1.handled = none) (D : ZApart z TI TO its ls) (hne : its ≠ []) (hn : its.length ≤ 100000) (hn2 : n ≤ 100000) (hq0 : H q = none) (qfp : q ∉ z :: TI :: TO :: its) (hsrc : ∀ l ∈ ls, ∃ xs, SqT X.K H l xs ∧ xs.length = n)
    (hdone : ∀ Ts H' s, L2.Inv X pins σ H' s → Ts.length = n → LzH H H' q Ts (fun j ys => ∀ (k : Nat) (l : Addr) (xs : List V), ls[k]? = some l → SqT X.K H l xs → ys.length = ls.length ∧ ys[k]? = xs[j]?) → Rs (.ok (.ret .none)) s) :
    ∀ (m i : Nat) (Ts : List Addr) (H' : Hp) (s : Shared), m + i = n → Ts.length = i → L2.Inv X pins σ H' s → ZAt s.heap z TI TO its ls i → (∀ b ∈ z :: TI :: TO :: its, FpOk X pins H' b) →
      LzH H H' q Ts (fun j ys => ∀ (k : Nat) (l : Addr) (xs : List V), ls[k]? = some l → SqT X.K H l xs → ys.length = ls.length ∧ ys[k]? = xs[j]?) → codeAny (model X.prog X.w) A1 (.builtin "list.extend.loop" ⟨[.ref q, .ref z, .none], []⟩) Rs s := by
  have keepS : ∀ H' Ts, LzH H H' q Ts (fun j ys => ∀ (k : Nat) (l : Addr) (xs : List V), ls[k]? = some l → SqT X.K H l xs → ys.length = ls.length ∧ ys[k]? = xs[j]?) → ∀ b xs, SqT X.K H b xs → SqT X.K H' b xs := fun H' Ts hz b xs h => by
    have st : ∀ c o, H c = some o → H' c = some o := fun c o e => by
      rw [hz.old c (fun e2 => by rw [e2, hq0] at e; cases e) fun hm => by
        have := (hz.new c hm).1
        rw [e] at this
        cases this]
      exact e
    rcases h with (h | ⟨o, h⟩) | h
    · exact .inl (.inl (st _ _ h))
    · exact .inl (.inr ⟨o, st _ _ h⟩)
    · exact .inr h
  intro m
  induction m with
  | zero =>
    intro i Ts H' s hm hl I Z hf hz
    refine codeAny_builtin PySem.F.entry_extend_loop ?_
    rw [Around.under_plainId PySem.F.plain_extend_loop _]
    show wpAny _ A1.in1 (pyNext (.ref z) >>= _) _ _ s
    have src' : ∀ l ∈ ls, ∃ xs, SqT X.K H' l xs ∧ xs.length = n := fun l hl => by
      obtain ⟨xs, h1, h2⟩ := hsrc l hl
      exact ⟨xs, keepS H' Ts hz l xs h1, h2⟩
    obtain ⟨vss, xss, l1, l2, hS, hall⟩ := srcs_of I src'
    have ent : ∀ c, ¬ c ∈ (z :: TI :: TO :: its) → ¬ zEx z TO its c := fun c hc q => by
      rcases q with q | q | q
      · exact hc (by simp [q])
      · exact hc (by simp [q])
      · exact hc (List.mem_cons_of_mem _ (List.mem_cons_of_mem _ (List.mem_cons_of_mem _ q)))
    refine wpAny_bind (pyNextN_over hh D hne Z hS (by rw [l2, D.len]) (fun xs hx => ?_) fun h' hk => ?_)
    · obtain ⟨j, hj, e⟩ := List.getElem_of_mem hx
      obtain ⟨vs, ys, b1, b2, b3, b4, b5⟩ := hall j _ (List.getElem?_eq_getElem (by rw [← l2]; exact hj))
      rw [List.getElem?_eq_getElem hj, e] at b2
      cases b2
      exact List.getElem?_eq_none_iff.mpr (by rw [← b5.length]; omega)
    · exact wpAny_pure (hdone Ts H' _ (I.turnedL (t' := s.toks) (ch := z :: TI :: TO :: its) (fun c o hb q => hk c o (ent c hb) q) hf) (by omega) hz)
  | succ m ih =>
    intro i Ts H' s hm hl I Z hf hz
    refine codeAny_builtin PySem.F.entry_extend_loop ?_
    rw [Around.under_plainId PySem.F.plain_extend_loop _]
    show wpAny _ A1.in1 (pyNext (.ref z) >>= _) _ _ s
    have src' : ∀ l ∈ ls, ∃ xs, SqT X.K H' l xs ∧ xs.length = n := fun l hl => by
      obtain ⟨xs, h1, h2⟩ := hsrc l hl
      exact ⟨xs, keepS H' Ts hz l xs h1, h2⟩
    obtain ⟨vss, xss, l1, l2, hS, hall⟩ := srcs_of I src'
    have same : ∀ (j : Nat) vs xs, vss[j]? = some vs → xss[j]? = some xs → vs.length = n ∧ Vals vs xs := fun j vs xs h1 h2 => by
      have hj : j < ls.length := by rw [← l1]; exact (List.getElem?_eq_some_iff.mp h1).1
      obtain ⟨a, b, c1, c2, _, c4, c5⟩ := hall j _ (List.getElem?_eq_getElem hj)
      rw [h1] at c1
      rw [h2] at c2
      cases c1
      cases c2
      exact ⟨c4, c5⟩
    obtain ⟨col, cov, a1, a2, a3, a4, a5⟩ := col_of (i := i) (by omega) (l1.trans l2.symm) same
    have ent : ∀ c, ¬ c ∈ (z :: TI :: TO :: its) → ¬ zEx z TO its c := fun c hc q => by
      rcases q with q | q | q
      · exact hc (by simp [q])
      · exact hc (by simp [q])
      · exact hc (List.mem_cons_of_mem _ (List.mem_cons_of_mem _ (List.mem_cons_of_mem _ q)))
    have old : ∀ c ∈ (z :: TI :: TO :: its), c < s.heap.objs.size := fun c hc => by
      obtain ⟨o, ho, _⟩ := (turn_zipN (P := X.prog) (w := X.w) (K := X.K) (x := Str.empty) (tp := ⟨0, 0, 0, 0⟩) (n := n) D hne hn).obj i s.heap Z c hc
      exact Heap.lt_size ho
    refine wpAny_bind (pyNextN_item D hne hn Z hS (by rw [l2, D.len]) (xs := cov) (by rw [a2, l2, D.len]) (fun j ys h => a5 j ys h) fun h' Z' hT hk => ?_)
    have new : ObjOk X.prog X.w (upd H' s.heap.objs.size (.tup col)) h' s.heap.objs.size (.tup col) :=
      ⟨by rw [a1, l1, ← D.len, sizeLine_eq]; omega, cov, a3, ⟨_, hT, rfl, _, rfl⟩⟩
    have fresh : H' s.heap.objs.size = none := I.hok.fresh (Nat.le_refl _)
    have I1 : L2.Inv X pins σ (upd H' s.heap.objs.size (.tup col)) { s with heap := h' } := I.turnedNew (t' := s.toks) (ch := z :: TI :: TO :: its) (fun c o hb q => hk c o (ent c hb) q) hf (Nat.le_refl _) new
    have qT : q ≠ s.heap.objs.size := ne_of_none hz.q fresh
    show wpAny _ A1.in1 (updateSeq q (·.push (.ref s.heap.objs.size)) >>= _) _ _ _
    obtain ⟨zz, its2, k, r2, hl2, e⟩ := I1.lstM (l := q) (xs := Ts.map V.ref) (by rw [upd_ne qT]; exact hz.q)
    refine wpAny_bind (wpAny_updateSeq e rfl (wpAny_pure ⟨plainId_quiet PySem.F.plain_extend_loop _, ?_⟩) (by rw [List.size_toArray]; omega) (by show (its2.toArray.push _).size ≤ sizeLine + 1; rw [Array.size_push, List.size_toArray]; omega))
    have I2 := I1.lset (its' := its2 ++ [.ref s.heap.objs.size]) (ys := Ts.map V.ref ++ [.ref s.heap.objs.size]) (f := (·.push (Value.ref s.heap.objs.size))) (t' := s.toks) (by rw [upd_ne qT]; exact hz.q) e (by simp) (r2.append (show Vals [V.ref s.heap.objs.size] [Value.ref s.heap.objs.size] from .cons rfl .nil)) (by rw [List.length_append, List.length_map, List.length_singleton, sizeLine_eq]; omega)
    have Tnew : s.heap.objs.size ∉ Ts := fun hmem => by
      obtain ⟨j, hj, ej⟩ := List.getElem_of_mem hmem
      obtain ⟨ys, h1, _⟩ := hz.t j _ (by rw [List.getElem?_eq_getElem hj, ej])
      rw [fresh] at h1
      cases h1
    have Hnone : H s.heap.objs.size = none := by
      rw [← hz.old _ (Ne.symm qT) Tnew]
      exact fresh
    refine ih (i + 1) (Ts ++ [s.heap.objs.size]) _ _ (by omega) (by simp [hl]) I2 ?_ (fun b hb => ?_) ⟨?_, fun j T hj => ?_, fun T hT2 => ?_, fun b hb hm2 => ?_⟩
    · have sb : Heap.SameBut q h' (h'.update q (Obj.mapSeq (·.push (Value.ref s.heap.objs.size)))) := Heap.SameBut.update ..
      exact (turn_zipN (P := X.prog) (w := X.w) (K := X.K) (x := Str.empty) (tp := ⟨0, 0, 0, 0⟩) (n := n) D hne hn).keep (i + 1) h' _ Z' fun b hb o ho => (sb.2 b fun e2 => qfp (e2 ▸ hb)).trans ho
    · obtain ⟨f0, f1⟩ := hf b hb
      refine ⟨?_, f1⟩
      rw [upd_ne (fun e2 : b = q => qfp (by rw [← e2]; exact hb)), upd_ne (Nat.ne_of_lt (old b hb))]
      exact f0
    · rw [upd_same, List.map_append]
      rfl
    · by_cases hlt : j < Ts.length
      · rw [List.getElem?_append_left hlt] at hj
        obtain ⟨ys, h1, h2⟩ := hz.t j T hj
        refine ⟨ys, ?_, h2⟩
        rw [upd_ne (hz.new T (List.mem_of_getElem? hj)).2, upd_ne (ne_of_none h1 fresh)]
        exact h1
      · rw [List.getElem?_append_right (Nat.le_of_not_lt hlt)] at hj
        have h0 : j - Ts.length = 0 := by
          have := (List.getElem?_eq_some_iff.mp hj).1
          simp only [List.length_singleton] at this
          omega
        rw [h0] at hj
        simp at hj
        subst hj
        refine ⟨col, ?_, fun k l xs hk2 hx => ⟨a1.trans l1, ?_⟩⟩
        · rw [upd_ne (Ne.symm qT), upd_same]
        · have ej : j = i := by omega
          obtain ⟨vs, ys, b1, b2, b3, b4, b5⟩ := hall k l hk2
          rw [ej, I.tuple_inj (keepS H' Ts hz l xs hx) b3]
          exact (a4 k vs b1).symm
    · rcases List.mem_append.mp hT2 with h | h
      · exact hz.new T h
      · simp at h
        subst h
        exact ⟨Hnone, Ne.symm qT⟩
    · have h1 : b ≠ s.heap.objs.size := fun e2 => hm2 (List.mem_append_right _ (by simp [e2]))
      rw [upd_ne hb, upd_ne h1]
      exact hz.old b hb fun h => hm2 (List.mem_append_left _ h)
/-- the reading -/
def tLz (K : PySem.W.Frag) (ta : TA) : TE := fun σ H Q => ta σ H fun vs H1 => ∃ ls n, vs = ls.map V.ref ∧ ls ≠ [] ∧ ls.length ≤ 1000 ∧ n ≤ 100000 ∧ (∀ l ∈ ls, ∃ xs, SqT K H1 l xs ∧ xs.length = n) ∧
  ∀ q Ts H2, H1 q = none → Ts.length = n → LzH H1 H2 q Ts (fun j ys => ∀ (k : Nat) (l : Addr) (xs : List V), ls[k]? = some l → SqT K H1 l xs → ys.length = ls.length ∧ ys[k]? = xs[j]?) → Q (.ref q) H2
theorem pe_lz {a b : Expr} {ta : TA} {p1 p2 q1 q2 : Pos} (hc : X.calm = true) (hg : Gl X "list") (hm : X.mg "list" = none) (hg2 : Gl X "zip") (hm2 : X.mg "zip" = none) (ha : PA X [a, b] ta)
    (hs0 : starEach [.Call (.Name "zip" p2) [a, b] [] q2] X.env = (false, eval (.Call (.Name "zip" p2) [a, b] [] q2) X.env) :: starEach [] X.env := by rfl) (hs : starEach [a, b] X.env = (false, eval a X.env) :: starEach [b] X.env := by rfl) (hpl : (backTo q2 (starEach [b] X.env)).any (·.1) = false := by rfl) :
    PE X (.Call (.Name "list" p1) [.Call (.Name "zip" p2) [a, b] [] q2] [] q1) (tLz X.K ta) := by
  refine ⟨fun pins s σ H Q I h => ?_⟩
  refine Call_ (ld_blt I hg hm PyProof.Rows.boot_list (PyProof.Rows.callWith_type1 ?_ hs0 rfl))
  rw [hs0]
  show wpAny _ _ (spliced ((false, eval (.Call (.Name "zip" p2) [a, b] [] q2) X.env) :: backTo q1 (starEach [] X.env))) _ _ s
  refine Calls.spliced_cons (Call_ (ld_blt I hg2 hm2 PyProof.Rows.boot_zip (PyProof.Rows.callWith_type1 (thn (ha.run q2 pins s σ H _ I h) fun us s1 ⟨vs, H1, I1, r1, ls, n, ev, hne, hn, hn2, hsrc, q⟩ => ?_) hs hpl)))
  subst ev
  have eu := vals_refs r1
  subst eu
  obtain ⟨vss, xss, l1, l2, hS, hall⟩ := srcs_of I1 hsrc
  refine callZipN hne hS l2 (by omega) fun h' Z hsz hk => Calls.spliced_nil ?_
  have lt : ∀ l ∈ ls, l < s1.heap.objs.size := fun l hl => by
    obtain ⟨xs, hx, _⟩ := hsrc l hl
    obtain ⟨us, _, p, _⟩ := I1.tuple hx
    obtain ⟨o, ho, _⟩ := p
    exact Heap.lt_size ho
  have D := apartN s1.heap.objs.size lt
  have hne2 : ((List.range ls.length).map fun j => s1.heap.objs.size + j) ≠ [] := by simpa using hne
  have hn3 : ((List.range ls.length).map fun j => s1.heap.objs.size + j).length ≤ 100000 := by simp; omega
  have I3 : L2.Inv X pins σ H1 { s1 with heap := h' } := I1.kept (t' := s1.toks) hk
  have hle : ∀ c ∈ (s1.heap.objs.size + ls.length + 2) :: (s1.heap.objs.size + ls.length) :: (s1.heap.objs.size + ls.length + 1) :: ((List.range ls.length).map fun j => s1.heap.objs.size + j), s1.heap.objs.size ≤ c ∧ c < h'.objs.size := fun c hc => by
    refine ⟨?_, ?_⟩
    · rcases List.mem_cons.mp hc with rfl | hc
      · exact Nat.le_trans (Nat.le_add_right _ _) (Nat.le_add_right _ _)
      rcases List.mem_cons.mp hc with rfl | hc
      · exact Nat.le_add_right _ _
      rcases List.mem_cons.mp hc with rfl | hc
      · exact Nat.le_trans (Nat.le_add_right _ _) (Nat.le_add_right _ _)
      · obtain ⟨j, _, rfl⟩ := List.mem_map.mp hc
        exact Nat.le_add_right _ _
    · obtain ⟨o, ho, _⟩ := (turn_zipN (P := X.prog) (w := X.w) (K := X.K) (x := Str.empty) (tp := ⟨0, 0, 0, 0⟩) (n := n) D hne2 hn3).obj 0 h' Z c hc
      exact Heap.lt_size ho
  have fp : ∀ c ∈ (s1.heap.objs.size + ls.length + 2) :: (s1.heap.objs.size + ls.length) :: (s1.heap.objs.size + ls.length + 1) :: ((List.range ls.length).map fun j => s1.heap.objs.size + j), FpOk X pins H1 c := fun c hc => I1.fpOk (hle c hc).1 (I1.hok.fresh (hle c hc).1)
  generalize hz : s1.heap.objs.size + ls.length + 2 = z at Z D hle fp ⊢
  generalize hTI : s1.heap.objs.size + ls.length = TI at Z D hle fp
  generalize hTO : TI + 1 = TO at Z D hle fp
  generalize hits : (List.range ls.length).map (fun j => s1.heap.objs.size + j) = its at Z D hle fp hne2 hn3
  generalize hs4 : ({ s1 with heap := h' } : Shared) = s4 at I3 ⊢
  have h4 : s4.heap = h' := by rw [← hs4]
  rw [← h4] at Z hle
  -- list( z )
  refine callType_codes (Q₁ := fun obj s₁ => obj = .ref s4.heap.objs.size ∧ s₁ = { s4 with heap := s4.heap.push { cls := .type "list", data := .seq #[] } }) PySem.F.called_list (PySem.F.typeCall_list_1 _) PySem.F.entry_list_init
    (code_list_new _ ⟨rfl, rfl⟩) fun obj s₁ h₁ => ?_
  obtain ⟨rfl, rfl⟩ := h₁
  have hSq : (s4.heap.push { cls := .type "list", data := .seq #[] }).get? s4.heap.objs.size = some { cls := .type "list", data := .seq #[] } := Heap.get?_push_size _ rfl
  refine ⟨⟨_, hSq, rfl⟩, PySem.F.args_list_init_2 _ _, ?_⟩
  have fr : H1 s4.heap.objs.size = none := I3.hok.fresh (Nat.le_refl _)
  have I5 : L2.Inv X pins σ (upd H1 s4.heap.objs.size (.lst [])) { s4 with heap := s4.heap.push { cls := .type "list", data := .seq #[] } } := I3.lnew (its := []) (t' := s4.toks) .nil (Nat.zero_le _)
  show wpAny _ _ (do let old ← Builtin.List.listItems (.ref s4.heap.objs.size); Builtin.List.listUpdate (.ref s4.heap.objs.size) (fun _ => #[]); letGo old.toList.reverse; Builtin.List.listExtendWith (.ref s4.heap.objs.size) (.ref z) .none) _ _ _
  refine wpAny_bind ?_
  unfold Builtin.List.listItems
  refine wpAny_bind (wpAny_seqItems hSq rfl (wpAny_pure ?_))
  show wpAny _ _ (updateSeq s4.heap.objs.size (fun _ => #[]) >>= fun _ => letGo (#[] : Array Value).toList.reverse >>= fun _ => Builtin.List.listExtendWith (.ref s4.heap.objs.size) (.ref z) .none) _ _ _
  refine wpAny_bind (wpAny_updateSeq hSq rfl ?_)
  have I6 := I5.lset (f := fun _ => #[]) (its := []) (its' := []) (ys := []) (t' := s4.toks) upd_same hSq rfl .nil (Nat.zero_le _)
  rw [upd_upd] at I6
  refine wpAny_bind (wpAny_letGo ?_)
  have qfp : s4.heap.objs.size ∉ z :: TI :: TO :: its := fun hm => Nat.lt_irrefl _ (hle _ hm).2
  have T := turn_zipN (P := X.prog) (w := X.w) (K := X.K) (x := Str.empty) (tp := ⟨0, 0, 0, 0⟩) (n := n) D hne2 hn3
  generalize hq : s4.heap.objs.size = qa at *
  have hb6 : Heap.SameBut qa (s4.heap.push { cls := .type "list", data := .seq #[] }) ((s4.heap.push { cls := .type "list", data := .seq #[] }).update qa (Obj.mapSeq fun _ => #[])) := Heap.SameBut.update ..
  have Z6 : ZAt ((s4.heap.push { cls := .type "list", data := .seq #[] }).update qa (Obj.mapSeq fun _ => #[])) z TI TO its ls 0 := T.keep 0 _ _ Z fun b hb o ho => (hb6.2 b fun e2 => qfp (e2 ▸ hb)).trans (Heap.get?_push_of_some _ ho)
  generalize hs6 : ({ s4 with heap := (s4.heap.push { cls := .type "list", data := .seq #[] }).update qa (Obj.mapSeq fun _ => #[]) } : Shared) = s6 at I6 ⊢
  have h6 : (s4.heap.push { cls := .type "list", data := .seq #[] }).update qa (Obj.mapSeq fun _ => #[]) = s6.heap := by rw [← hs6]
  rw [h6] at Z6
  have hzq : qa ≠ z := fun e2 => qfp (e2 ▸ List.mem_cons_self ..)
  have hTz : s6.TypeIs (.ref z) "zip" := by
    obtain ⟨⟨f0, f1, _, hz6⟩, _, _, _⟩ := Z6
    exact ⟨_, hz6, rfl⟩
  unfold Builtin.List.listExtendWith
  refine wpAny_bind (wpAny_typeOf hTz ?_)
  have e1 : Builtin.List.listSameRef (.ref qa) (.ref z) = false := by simp [Builtin.List.listSameRef, hzq]
  have e2 : (Value.type "zip" == Value.type "list") = false := by decide
  have e3 : (Value.type "zip" == Value.type "tuple") = false := by decide
  simp only [e1, e2, e3, Bool.or_false, Bool.false_eq_true, if_false]
  refine wpAny_bind (T.self _ 0 s6 _ _ Z6 ?_)
  refine wpAny_bind (wpAny_holding ?_)
  unfold Builtin.List.listLengthHint
  refine wpAny_bind (wpAny_specialOf hTz zip_nolen ?_)
  show wpAny _ _ (specialOf (Value.ref z) (Str.ofString "__length_hint__") >>= _) _ _ _
  refine wpAny_bind (wpAny_specialOf hTz zip_nohint ?_)
  refine wpAny_pure ?_
  have hh : X.A.in1.in1.handled = none := I.ok.hd hc
  have src6 : ∀ l ∈ ls, ∃ xs, SqT X.K H1 l xs ∧ xs.length = n := hsrc
  have fin : ∀ s' H', L2.Inv X pins σ H' s' → ZAt s'.heap z TI TO its ls 0 → H' = upd H1 qa (.lst []) → codeAny (model X.prog X.w) X.A.in1 (.builtin "list.extend.loop" ⟨[.ref qa, .ref z, .none], []⟩) (wants (fun r s₂ => r = .none ∧ EP X pins σ Q (.ref qa) s₂) X.xe) s' := fun s' H' I' Z' eH => by
    subst eH
    refine lz_loop (Rs := wants (fun r s₂ => r = .none ∧ EP X pins σ Q (.ref qa) s₂) X.xe) (H := H1) hh D hne2 hn3 hn2 fr qfp src6 (fun Ts H' s' I' hl hz => ⟨rfl, .ref qa, H', I', rfl, q qa Ts H' fr hl hz⟩) n 0 [] _ s' (by omega) rfl I' Z' (fun b hb => ?_) ⟨upd_same, fun j T h => by simp at h, fun T h => by simp at h, fun b hb _ => upd_ne hb⟩
    obtain ⟨f0, f1⟩ := fp b hb
    exact ⟨by rw [upd_ne (fun e2 : b = qa => qfp (by rw [← e2]; exact hb))]; exact f0, f1⟩
  show wpAny _ _ (rule "list.extend.makes-room" >>= fun _ => Builtin.List.listTouch (.ref qa) >>= fun _ =>
    again (.builtin "list.extend.loop" ⟨[.ref qa, .ref z, .none], []⟩)) _ _ _
  refine wpAny_bind (wpAny_rule ?_)
  refine wpAny_bind ?_
  show wpAny _ _ (updateSeq qa (·.push .none) >>= fun _ => updateSeq qa (·.pop)) _ _ _
  obtain ⟨zz7, its7, k7, r7, hl7, e7⟩ := I6.lstM upd_same
  cases r7
  refine wpAny_bind (wpAny_updateSeq e7 rfl ?_)
  have I8 := I6.lset (f := (·.push Value.none)) (its' := [Value.none]) (ys := [.non]) (t' := s6.toks) upd_same e7 (by simp) (.cons rfl .nil) (by rw [List.length_singleton, sizeLine_eq]; decide)
  obtain ⟨zz9, its9, k9, r9, hl9, e9⟩ := I8.lstM upd_same
  obtain ⟨u9, rfl, ru9⟩ := r9.one
  refine wpAny_updateSeq e9 rfl ?_ (by show 1 ≤ sizeLine; rw [sizeLine_eq]; decide) (by show 0 ≤ sizeLine + 1; exact Nat.zero_le _)
  have I10 := I8.lset (f := (·.pop)) (its := [u9]) (its' := []) (ys := []) (t' := s6.toks) upd_same e9 (by rfl) .nil (Nat.zero_le _)
  rw [upd_upd, upd_upd] at I10
  refine wpAny_pure ⟨plainId_quiet PySem.F.plain_extend_loop _, fin _ _ I10 ?_ rfl⟩
  refine T.keep 0 _ _ Z6 fun b hb o ho => ?_
  have nb : b ≠ qa := fun e2 => qfp (e2 ▸ hb)
  exact ((Heap.SameBut.update ..).2 b nb).trans (((Heap.SameBut.update ..).2 b nb).trans ho)
end
end Fw
set_option Elab.async false
set_option linter.all false
set_option maxHeartbeats 2000000
/-! plain mathematics of the law: logs, orders, stamps, entries; no program in sight -/
namespace Fw
open PySem PySem.W

/-! ### events and messages as data -/
/-- a name: a text that may stand in data -/
abbrev Nm := {x : Str // PyData.strOk x = true}
abbrev Et := Nm × Nat
abbrev Mg := Et × Et
def encE (e : Et) : PyData := .tuple [.str e.1.1, .int (e.2 : Nat)]
def encM (m : Mg) : PyData := .tuple [encE m.1, encE m.2]
def ltE (a b : Et) : Bool := dataLt (encE a) (encE b)
def ltM (a b : Mg) : Bool := dataLt (encM a) (encM b)

theorem eqv_encE (a b : Et) : PyData.eqv (encE a) (encE b) = decide (a = b) := by
  obtain ⟨⟨x, hx⟩, i⟩ := a
  obtain ⟨⟨y, hy⟩, j⟩ := b
  have h : PyData.eqv (encE (⟨x, hx⟩, i)) (encE (⟨y, hy⟩, j)) = (x == y && ((i : Int) == (j : Int) && true)) := by simp [encE, PyData.eqv, PyData.eqvAll]
  rw [h]
  by_cases h1 : x = y
  · by_cases h2 : i = j
    · simp [h1, h2]
    · have h3 : ¬ ((i : Int) = (j : Int)) := fun e => h2 (by omega)
      simp [h1, h2]
      exact h3
  · simp [h1]
theorem eqv_encM (a b : Mg) : PyData.eqv (encM a) (encM b) = decide (a = b) := by
  obtain ⟨x, i⟩ := a
  obtain ⟨y, j⟩ := b
  have h : PyData.eqv (encM (x, i)) (encM (y, j)) = (PyData.eqv (encE x) (encE y) && (PyData.eqv (encE i) (encE j) && true)) := by simp [encM, PyData.eqv, PyData.eqvAll]
  rw [h, eqv_encE, eqv_encE]
  by_cases h1 : x = y <;> by_cases h2 : i = j <;> simp [h1, h2]
theorem alike_encE (a b : Et) : alike (encE a) (encE b) = true := by simp [encE, alike, alikeAll]
theorem alike_encM (a b : Mg) : alike (encM a) (encM b) = true := by
  have h := alike_encE a.1 b.1
  have h2 := alike_encE a.2 b.2
  show (alike (encE a.1) (encE b.1) && (alike (encE a.2) (encE b.2) && true)) = true
  rw [h, h2] <;> rfl
theorem dataLt_irrefl (d : PyData) : dataLt d d = false := PyProof.Rows.lex_irrefl _
theorem ltE_irrefl (a : Et) : ltE a a = false := dataLt_irrefl _
theorem ltE_eq (a b : Et) : ltE a b = if a.1 = b.1 then decide (a.2 < b.2) else dataLt (.str a.1.1) (.str b.1.1) := by
  unfold ltE encE
  rw [dataLt_pair (by simp [alike]) (by simp [alike])]
  by_cases h : a.1 = b.1
  · have e1 : PyData.eqv (.str a.1.1) (.str b.1.1) = true := by simp [PyData.eqv, h]
    rw [if_pos e1, if_pos h, dataLt_int]
    by_cases h2 : a.2 = b.2
    · have e2 : PyData.eqv (.int (a.2 : Nat)) (.int (b.2 : Nat)) = true := by simp [PyData.eqv, h2]
      rw [if_pos e2]
      simp [h2]
    · have e2 : ¬ PyData.eqv (.int (a.2 : Nat)) (.int (b.2 : Nat)) = true := by
        simp only [PyData.eqv, beq_iff_eq]
        omega
      rw [if_neg e2]
      by_cases h3 : a.2 < b.2
      · have h4 : ((a.2 : Nat) : Int) < ((b.2 : Nat) : Int) := by omega
        simp [h3]
      · simp [h3]
  · have e1 : ¬ PyData.eqv (.str a.1.1) (.str b.1.1) = true := by
      have h2 : ¬ a.1.1 = b.1.1 := fun z => h (Subtype.ext z)
      simp [PyData.eqv, h2]
    rw [if_neg e1, if_neg h]
theorem ltM_eq (a b : Mg) : ltM a b = if a.1 = b.1 then (if a.2 = b.2 then false else ltE a.2 b.2) else ltE a.1 b.1 := by
  unfold ltM encM
  rw [dataLt_pair (alike_encE _ _) (alike_encE _ _), eqv_encE, eqv_encE]
  simp only [decide_eq_true_eq]
  rfl

/-! ### what is next, what is ahead -/
inductive Reach (R : Et → Et → Prop) : Et → Et → Prop
  | one {a b : Et} : R a b → Reach R a b
  | more {a b c : Et} : Reach R a b → R b c → Reach R a c
theorem Reach.trans {R : Et → Et → Prop} {a b c : Et} (h : Reach R a b) (k : Reach R b c) : Reach R a c := by
  induction k with
  | one r => exact .more h r
  | more _ r ih => exact .more ih r
/-- next behind, by the numbers of one machine and by the messages -/
def Nx (evs : List Et) (ms : List Mg) (a b : Et) : Prop := (b = (a.1, a.2 + 1) ∧ b ∈ evs) ∨ (a, b) ∈ ms
/-- up tells for the events of evs what is one or ahead of it -/
def UpOk (evs : List Et) (ms : List Mg) (up : Et → Et → Bool) : Prop := ∀ o e, e ∈ evs → (up o e = true ↔ o = e ∨ Reach (Nx evs ms) o e)
section
variable {evs : List Et} {ms : List Mg} {up : Et → Et → Bool}
theorem UpOk.trans (u : UpOk evs ms up) {a b c : Et} (hb : b ∈ evs) (hc : c ∈ evs) (h : up a b = true) (k : up b c = true) : up a c = true := by
  have h1 := (u a b hb).mp h
  have h2 := (u b c hc).mp k
  refine (u a c hc).mpr ?_
  rcases h1 with rfl | h1
  · exact h2
  · rcases h2 with rfl | h2
    · exact .inr h1
    · exact .inr (h1.trans h2)
theorem UpOk.refl (u : UpOk evs ms up) {a : Et} (ha : a ∈ evs) : up a a = true := (u a a ha).mpr (.inl rfl)
/-- on one machine -/
theorem UpOk.machine (u : UpOk evs ms up) {x : Nm} {i j : Nat} (hall : ∀ k, k ≤ j → (x, k) ∈ evs) (h : i ≤ j) : up (x, i) (x, j) = true := by
  induction j with
  | zero =>
    have e : i = 0 := by omega
    rw [e]
    exact u.refl (hall 0 (Nat.le_refl _))
  | succ j ih =>
    rcases Nat.lt_or_ge j i with h1 | h1
    · have e : i = j + 1 := by omega
      rw [e]
      exact u.refl (hall _ (Nat.le_refl _))
    · have h2 := ih (fun k hk => hall k (Nat.le_succ_of_le hk)) h1
      refine u.trans (hall j (Nat.le_succ _)) (hall _ (Nat.le_refl _)) h2 ((u _ _ (hall _ (Nat.le_refl _))).mpr (.inr (.one (.inl ⟨rfl, hall _ (Nat.le_refl _)⟩))))
end

/-! ### stamps -/
def vmax (l : List Nat) : Nat := l.foldr max 0
theorem le_vmax {l : List Nat} {x : Nat} (h : x ∈ l) : x ≤ vmax l := by
  induction l with
  | nil => cases h
  | cons a r ih =>
    show x ≤ max a (vmax r)
    rcases List.mem_cons.mp h with rfl | h
    · exact Nat.le_max_left _ _
    · exact Nat.le_trans (ih h) (Nat.le_max_right _ _)
theorem vmax_le {l : List Nat} {b : Nat} (h : ∀ x ∈ l, x ≤ b) : vmax l ≤ b := by
  induction l with
  | nil => exact Nat.zero_le _
  | cons a r ih => exact Nat.max_le.mpr ⟨h a List.mem_cons_self, ih fun x hx => h x (List.mem_cons_of_mem _ hx)⟩
theorem vmax_mem {l : List Nat} (h : l ≠ []) : vmax l ∈ l := by
  induction l with
  | nil => exact absurd rfl h
  | cons a r ih =>
    show max a (vmax r) ∈ a :: r
    rcases Nat.le_total a (vmax r) with h1 | h1
    · rw [Nat.max_eq_right h1]
      by_cases hr : r = []
      · subst hr
        have e : a = 0 := Nat.le_zero.mp h1
        show vmax [] ∈ _
        rw [e]
        exact List.mem_cons_self
      · exact List.mem_cons_of_mem _ (ih hr)
    · rw [Nat.max_eq_left h1]
      exact List.mem_cons_self
theorem vmax_eq {l : List Nat} {m : Nat} (hm : m ∈ l) (h : ∀ x ∈ l, x ≤ m) : vmax l = m := Nat.le_antisymm (vmax_le h) (le_vmax hm)
theorem vmax_cons (a : Nat) (l : List Nat) : vmax (a :: l) = max a (vmax l) := rfl
theorem vmax_append (a b : List Nat) : vmax (a ++ b) = max (vmax a) (vmax b) := by
  induction a with
  | nil => show vmax b = max 0 (vmax b); omega
  | cons x r ih => show max x (vmax (r ++ b)) = max (max x (vmax r)) (vmax b); rw [ih, Nat.max_assoc]

abbrev Row := List Et
section
variable (evs : List Et) (ms : List Mg) (up : Et → Et → Bool)
/-- one number of a stamp -/
def st (r : Row) (e : Et) : Nat := (r.filter fun o => up o e).length
def upTo (e : Et) : List Et := evs.filter fun o => up o e
def known (x : Nm) (e : Et) (r : Row) : Nat := vmax (0 :: (((upTo evs up e).filter fun o => decide (o.1 = x)).map fun o => st up r o))
def oneWay (o m : Mg) : Bool := decide (o.1.1 = m.1.1 ∧ o.2.1 = m.2.1)
def isEarlier (o m : Mg) : Bool := oneWay o m && ltM o m
def ahead (m : Mg) : List Mg := ms.filter fun o => isEarlier o m
def sureN (m : Mg) (io : Bool) (r : Row) : Nat := vmax (known evs up m.2.1 m.1 r :: (if io then (ahead ms m).map fun o => st up r o.1 else []))
/-- an entry that is there if the first is greater -/
def gtO (a b : Nat) : Option Nat := if b < a then some a else none
def mustO (m : Mg) (io : Bool) (r : Row) : Option Nat := gtO (st up r m.1) (sureN evs ms up m io r)
def beforeN (e : Et) (r : Row) : Nat := if e.2 = 0 then 0 else st up r (e.1, e.2 - 1)
def newsN (e : Et) (r : Row) : Nat := vmax (0 :: ((ms.filter fun m => decide (m.2 = e)).map fun m => st up r m.1))
def newsO (e : Et) (r : Row) : Option Nat := gtO (newsN ms up e r) (beforeN up e r)
def broughtB (m : Mg) (n : Nat) (r : Row) : Bool := (ms.filter fun o => ltM o m && decide (o.2 = m.2)).any fun o => decide (st up r o.1 = n)
def lateO (m : Mg) (io : Bool) (r : Row) : Option Nat := (mustO evs ms up m io r).bind fun n => if newsO ms up m.2 r ≠ some n ∨ broughtB ms up m n r = true then some n else none
def lastO (m : Mg) (r : Row) : Option Nat := gtO (st up r m.1) (vmax (0 :: (ahead ms m).map fun o => st up r o.1))
def carriedN (io : Bool) (r : Row) : Nat := (ms.filter fun m => (mustO evs ms up m io r).isSome).length
def freshN (r : Row) : Nat := (evs.filter fun e => (newsO ms up e r).isSome).length
end
/-- the entries of all counters -/
def ents (f : Row → Option Nat) (C : List Row) : List (Nat × Nat) := C.zipIdx.filterMap fun p => (f p.1).map fun n => (p.2, n)
theorem mem_ents {f : Row → Option Nat} {C : List Row} {k n : Nat} : (k, n) ∈ ents f C ↔ ∃ r, C[k]? = some r ∧ f r = some n := by
  unfold ents
  rw [List.mem_filterMap]
  constructor
  · rintro ⟨⟨r, i⟩, h, e⟩
    cases hf : f r with
    | none => simp [hf] at e
    | some m =>
      simp only [hf, Option.map_some, Option.some.injEq, Prod.mk.injEq] at e
      obtain ⟨rfl, rfl⟩ := e
      exact ⟨r, by simpa using List.mem_zipIdx_iff_getElem?.mp h, hf⟩
  · rintro ⟨r, h, e⟩
    exact ⟨(r, k), List.mem_zipIdx_iff_getElem?.mpr (by simpa using h), by simp [e]⟩
theorem ents_keys (f : Row → Option Nat) (C : List Row) : ((ents f C).map (·.1)).Nodup := by
  have key : ∀ (C : List Row) (i : Nat), (((C.zipIdx i).filterMap fun p => (f p.1).map fun n => (p.2, n)).map (·.1)).Nodup ∧ ∀ k ∈ ((C.zipIdx i).filterMap fun p => (f p.1).map fun n => (p.2, n)).map (·.1), i ≤ k := by
    intro C
    induction C with
    | nil => intro i; simp
    | cons r C ih =>
      intro i
      obtain ⟨h1, h2⟩ := ih (i + 1)
      rw [List.zipIdx_cons, List.filterMap_cons]
      cases hf : f r with
      | none =>
        simp only [hf, Option.map_none]
        exact ⟨h1, fun k hk => Nat.le_of_succ_le (h2 k hk)⟩
      | some n =>
        simp only [hf, Option.map_some, List.map_cons]
        refine ⟨List.nodup_cons.mpr ⟨fun hm => ?_, h1⟩, fun k hk => ?_⟩
        · exact absurd (h2 _ hm) (by show ¬ i + 1 ≤ i; omega)
        · rcases List.mem_cons.mp hk with rfl | hk
          · exact Nat.le_refl _
          · exact Nat.le_of_succ_le (h2 k hk)
  exact (key C 0).1

/-! ### the cut: a row in two -/
section
variable {evs : List Et} {ms : List Mg} {up : Et → Et → Bool}
/-- a row: each of its events is up to each later one -/
def Chain (up : Et → Et → Bool) (r : Row) : Prop := r.Pairwise fun a b => up a b = true
theorem st_append (a b : Row) (e : Et) : st up (a ++ b) e = st up a e + st up b e := by
  unfold st
  rw [List.filter_append, List.length_append]
theorem st_le (r : Row) (e : Et) : st up r e ≤ r.length := List.length_filter_le _ _
theorem st_mono (u : UpOk evs ms up) {r : Row} (hr : ∀ a ∈ r, a ∈ evs) {o e : Et} (ho : o ∈ evs) (he : e ∈ evs) (h : up o e = true) : st up r o ≤ st up r e := by
  unfold st
  have key : ∀ l : Row, (∀ a ∈ l, a ∈ evs) → (l.filter fun x => up x o).length ≤ (l.filter fun x => up x e).length := by
    intro l
    induction l with
    | nil => intro _; exact Nat.le_refl _
    | cons a l ih =>
      intro hl
      have ih := ih fun x hx => hl x (List.mem_cons_of_mem _ hx)
      by_cases h1 : up a o = true
      · have h2 := u.trans ho he h1 h
        rw [List.filter_cons_of_pos (p := fun x => up x o) h1, List.filter_cons_of_pos (p := fun x => up x e) h2]
        exact Nat.succ_le_succ ih
      · rw [List.filter_cons_of_neg (p := fun x => up x o) h1]
        by_cases h2 : up a e = true
        · rw [List.filter_cons_of_pos (p := fun x => up x e) h2]
          exact Nat.le_succ_of_le ih
        · rw [List.filter_cons_of_neg (p := fun x => up x e) h2]
          exact ih
  exact key r hr
/-- the second part is begun only where the first one is full -/
theorem st_full (u : UpOk evs ms up) {a b : Row} (hc : Chain up (a ++ b)) (hr : ∀ x ∈ a ++ b, x ∈ evs) {e : Et} (he : e ∈ evs) (h : st up b e ≠ 0) : st up a e = a.length := by
  unfold st at h ⊢
  obtain ⟨y, hy⟩ := List.exists_mem_of_length_pos (Nat.pos_of_ne_zero h)
  obtain ⟨hy1, hy2⟩ := List.mem_filter.mp hy
  have hy3 : y ∈ evs := hr y (List.mem_append_right _ hy1)
  have e1 : (a.filter fun o => up o e) = a := List.filter_eq_self.mpr fun x hx => u.trans hy3 he ((List.pairwise_append.mp hc).2.2 x hx y hy1) hy2
  rw [e1]
/-- two parts that grow one behind the other: the greatest sums are the sums of the greatest -/
theorem vmax_sum {α : Type} (p q : α → Nat) (full : Nat) (hp : ∀ x, p x ≤ full) : ∀ l : List α, (∀ x ∈ l, q x ≠ 0 → p x = full) → vmax (l.map fun x => p x + q x) = vmax (l.map p) + vmax (l.map q)
  | [], _ => rfl
  | x :: l, h => by
    have ih := vmax_sum p q full hp l fun y hy => h y (List.mem_cons_of_mem _ hy)
    have hx := h x List.mem_cons_self
    have hx2 := hp x
    have h2 : vmax (l.map p) ≤ full := vmax_le fun z hz => by
      obtain ⟨y, _, rfl⟩ := List.mem_map.mp hz
      exact hp y
    have h3 : vmax (l.map q) ≠ 0 → vmax (l.map p) = full := fun hz => by
      by_cases hl : l = []
      · subst hl
        exact absurd rfl hz
      · obtain ⟨y, hy, e⟩ := List.mem_map.mp (vmax_mem (l := l.map q) (by simpa using hl))
        have hq : q y ≠ 0 := by rw [e]; exact hz
        have h4 := h y (List.mem_cons_of_mem _ hy) hq
        exact Nat.le_antisymm h2 (by rw [← h4]; exact le_vmax (List.mem_map.mpr ⟨y, hy, rfl⟩))
    rw [List.map_cons, List.map_cons, List.map_cons, vmax_cons, vmax_cons, vmax_cons, ih]
    by_cases hq : q x = 0
    · by_cases hz : vmax (l.map q) = 0
      · omega
      · have := h3 hz
        omega
    · have := hx hq
      by_cases hz : vmax (l.map q) = 0
      · omega
      · have := h3 hz
        omega

/-- all vectors that has_surely takes the greatest of, as functions of a row -/
def sureL (evs : List Et) (ms : List Mg) (up : Et → Et → Bool) (m : Mg) (io : Bool) : List Et := ((upTo evs up m.1).filter fun o => decide (o.1 = m.2.1)) ++ (if io then (ahead ms m).map fun o => o.1 else [])
theorem sureN_eq (m : Mg) (io : Bool) (r : Row) : sureN evs ms up m io r = vmax ((sureL evs ms up m io).map fun o => st up r o) := by
  unfold sureN sureL known
  rw [vmax_cons, vmax_cons, Nat.zero_max, List.map_append, vmax_append]
  cases io with
  | false => rfl
  | true =>
    simp only [if_true]
    rw [List.map_map]
    rfl
/-- what is earlier on the same way was sent by an event that is up to the sending one -/
theorem earlier_up (u : UpOk evs ms up) (hdown : ∀ x i j, (x, j) ∈ evs → i ≤ j → (x, i) ∈ evs) {o m : Mg} (hm : m.1 ∈ evs) (h : isEarlier o m = true) : up o.1 m.1 = true := by
  unfold isEarlier oneWay at h
  rw [Bool.and_eq_true, decide_eq_true_eq] at h
  obtain ⟨⟨h1, _⟩, h2⟩ := h
  have hle : o.1.2 ≤ m.1.2 := by
    rw [ltM_eq] at h2
    by_cases e : o.1 = m.1
    · rw [e]; exact Nat.le_refl _
    · rw [if_neg e, ltE_eq, if_pos h1, decide_eq_true_eq] at h2
      exact Nat.le_of_lt h2
  have e1 : o.1 = (m.1.1, o.1.2) := by rw [← h1]
  have e2 : m.1 = (m.1.1, m.1.2) := rfl
  rw [e1, e2]
  exact u.machine (fun k hk => hdown _ _ _ hm hk) hle
theorem sureL_mem (u : UpOk evs ms up) (hdown : ∀ x i j, (x, j) ∈ evs → i ≤ j → (x, i) ∈ evs) (hms : ∀ m ∈ ms, m.1 ∈ evs) {m : Mg} {io : Bool} (hm : m.1 ∈ evs) {o : Et} (h : o ∈ sureL evs ms up m io) : o ∈ evs ∧ up o m.1 = true := by
  unfold sureL at h
  rcases List.mem_append.mp h with h | h
  · have h1 := (List.mem_filter.mp h).1
    have h2 := List.mem_filter.mp h1
    exact ⟨h2.1, h2.2⟩
  · cases io with
    | false => cases h
    | true =>
      simp only [if_true] at h
      obtain ⟨o', h1, rfl⟩ := List.mem_map.mp h
      obtain ⟨h2, h3⟩ := List.mem_filter.mp h1
      exact ⟨hms _ h2, earlier_up u hdown hm h3⟩
theorem sure_le (u : UpOk evs ms up) (hdown : ∀ x i j, (x, j) ∈ evs → i ≤ j → (x, i) ∈ evs) (hms : ∀ m ∈ ms, m.1 ∈ evs) {m : Mg} {io : Bool} (hm : m.1 ∈ evs) {r : Row} (hr : ∀ a ∈ r, a ∈ evs) : sureN evs ms up m io r ≤ st up r m.1 := by
  rw [sureN_eq]
  refine vmax_le fun x hx => ?_
  obtain ⟨o, ho, rfl⟩ := List.mem_map.mp hx
  obtain ⟨h1, h2⟩ := sureL_mem u hdown hms hm ho
  exact st_mono u hr h1 hm h2
theorem sure_cut (u : UpOk evs ms up) (hdown : ∀ x i j, (x, j) ∈ evs → i ≤ j → (x, i) ∈ evs) (hms : ∀ m ∈ ms, m.1 ∈ evs) {m : Mg} {io : Bool} (hm : m.1 ∈ evs) {a b : Row} (hc : Chain up (a ++ b)) (hr : ∀ x ∈ a ++ b, x ∈ evs) :
    sureN evs ms up m io (a ++ b) = sureN evs ms up m io a + sureN evs ms up m io b := by
  rw [sureN_eq, sureN_eq, sureN_eq]
  have e : ((sureL evs ms up m io).map fun o => st up (a ++ b) o) = (sureL evs ms up m io).map fun o => st up a o + st up b o := List.map_congr_left fun o _ => st_append a b o
  rw [e]
  exact vmax_sum (fun o => st up a o) (fun o => st up b o) a.length (fun o => st_le a o) _ fun o ho hz => st_full u hc hr (sureL_mem u hdown hms hm ho).1 hz
/-- THE CUT: what the law asks of the two parts -/
theorem cut_law (u : UpOk evs ms up) (hdown : ∀ x i j, (x, j) ∈ evs → i ≤ j → (x, i) ∈ evs) (hms : ∀ m ∈ ms, m.1 ∈ evs) {m : Mg} {io : Bool} (hm : m.1 ∈ evs) {a b : Row} (hc : Chain up (a ++ b)) (hr : ∀ x ∈ a ++ b, x ∈ evs) :
    ((mustO evs ms up m io (a ++ b)).isNone = ((mustO evs ms up m io a).isNone && (mustO evs ms up m io b).isNone)) ∧
    ∀ n, mustO evs ms up m io (a ++ b) = some n → n = (mustO evs ms up m io a).getD (sureN evs ms up m io a) + (mustO evs ms up m io b).getD (sureN evs ms up m io b) := by
  have h1 := sure_cut u hdown hms (io := io) hm hc hr
  have h2 := st_append (up := up) a b m.1
  have h3 := sure_le u hdown hms (io := io) hm (r := a) fun x hx => hr x (List.mem_append_left _ hx)
  have h4 := sure_le u hdown hms (io := io) hm (r := b) fun x hx => hr x (List.mem_append_right _ hx)
  unfold mustO gtO
  rw [h1, h2]
  generalize st up a m.1 = p at *
  generalize st up b m.1 = q at *
  generalize sureN evs ms up m io a = k at *
  generalize sureN evs ms up m io b = l at *
  by_cases c1 : k < p <;> by_cases c2 : l < q <;> by_cases c3 : k + l < p + q <;> simp [c1, c2, c3] <;> omega
end
end Fw
set_option Elab.async false
set_option linter.all false
set_option maxRecDepth 100000
set_option maxHeartbeats 4000000
/-! rules of the hand layer's kind: <, >, <= on data, in on tuples of data, sorted of data, max of a tuple -/
namespace Fw
open PySem PySem.Spec PyProof.Rows L2
section
variable {X : Cx}
/-- d < e of alike data -/
def rLtD (K : PySem.W.Frag) : R2 := fun x y H Q => ∃ d e, Dp K H x d ∧ Dp K H y e ∧ PySem.W.alike d e = true ∧ d ≠ .none ∧ d.depth ≤ 64 ∧ Q (.bl (PySem.W.dataLt d e)) H
def rGtD (K : PySem.W.Frag) : R2 := fun x y H Q => ∃ d e, Dp K H x d ∧ Dp K H y e ∧ PySem.W.alike d e = true ∧ d ≠ .none ∧ d.depth ≤ 64 ∧ Q (.bl (PySem.W.dataLt e d)) H
def rLeD (K : PySem.W.Frag) : R2 := fun x y H Q => ∃ d e, Dp K H x d ∧ Dp K H y e ∧ PySem.W.alike d e = true ∧ d ≠ .none ∧ d.depth ≤ 64 ∧ Q (.bl (!PySem.W.dataLt e d)) H
theorem room64 {A : Around} {d e : PyData} (hu : A.units + 64 < cLine) (h : d.depth ≤ 64) : A.units + min d.depth e.depth < cLine := by
  have := Nat.min_le_left d.depth e.depth
  omega
theorem op_ltD (hu : X.A.units + 64 < cLine) : OpR X (compareOp .Lt) (rLtD X.K) := by
  intro pins s σ H x y v u Q I rx ry ⟨d, e, hd, he, h1, h2, h3, q⟩
  obtain ⟨as, r1⟩ := Dp.reads I d x v hd rx
  obtain ⟨bs, r2⟩ := Dp.reads I e y u he ry
  exact PySem.W.lt_data r1 r2 h1 h2 (room64 hu h3) ⟨.bl _, H, I, rfl, q⟩
theorem op_gtD (hu : X.A.units + 64 < cLine) : OpR X (compareOp .Gt) (rGtD X.K) := by
  intro pins s σ H x y v u Q I rx ry ⟨d, e, hd, he, h1, h2, h3, q⟩
  obtain ⟨as, r1⟩ := Dp.reads I d x v hd rx
  obtain ⟨bs, r2⟩ := Dp.reads I e y u he ry
  exact PySem.W.gt_data r1 r2 h1 h2 (room64 hu h3) ⟨.bl _, H, I, rfl, q⟩
theorem op_leD (hu : X.A.units + 64 < cLine) : OpR X (compareOp .LtE) (rLeD X.K) := by
  intro pins s σ H x y v u Q I rx ry ⟨d, e, hd, he, h1, h2, h3, q⟩
  obtain ⟨as, r1⟩ := Dp.reads I d x v hd rx
  obtain ⟨bs, r2⟩ := Dp.reads I e y u he ry
  exact PySem.W.le_data r1 r2 h1 h2 (room64 hu h3) ⟨.bl _, H, I, rfl, q⟩
/-- x in t, t a tuple of data -/
def rInDT (K : PySem.W.Frag) : R2 := fun x y H Q => ∃ d ds, Dp K H x d ∧ Dp K H y (.tuple ds) ∧ SeqAt.shaped d = true ∧ SeqAt.shaped (.tuple ds) = true ∧ Q (.bl (ds.any fun z => PyData.eqv z d)) H
def rNotInDT (K : PySem.W.Frag) : R2 := fun x y H Q => ∃ d ds, Dp K H x d ∧ Dp K H y (.tuple ds) ∧ SeqAt.shaped d = true ∧ SeqAt.shaped (.tuple ds) = true ∧ Q (.bl (!ds.any fun z => PyData.eqv z d)) H
theorem op_inDT (hu : X.A.units + 65 < cLine) : OpR X (compareOp .In) (rInDT X.K) := by
  intro pins s σ H x y v u Q I rx ry ⟨d, ds, hd, he, sd, se, q⟩
  obtain ⟨as, r1⟩ := Dp.reads I d x v hd rx
  obtain ⟨bs, r2⟩ := Dp.reads I (.tuple ds) y u he ry
  exact SeqAt.in_tuple_reads r2 r1 (SeqAt.canLay_of_shaped se) (SeqAt.canLay_of_shaped sd) (room_in_shaped sd hu) ⟨.bl _, H, I, rfl, q⟩
theorem op_notInDT (hu : X.A.units + 65 < cLine) : OpR X (compareOp .NotIn) (rNotInDT X.K) := by
  intro pins s σ H x y v u Q I rx ry ⟨d, ds, hd, he, sd, se, q⟩
  obtain ⟨as, r1⟩ := Dp.reads I d x v hd rx
  obtain ⟨bs, r2⟩ := Dp.reads I (.tuple ds) y u he ry
  exact SeqAt.notIn_tuple_reads r2 r1 (SeqAt.canLay_of_shaped se) (SeqAt.canLay_of_shaped sd) (room_in_shaped sd hu) ⟨.bl _, H, I, rfl, q⟩
/-- max of a tuple of whole numbers -/
def rMaxT (K : PySem.W.Frag) : List V → Hp → VK → Prop := fun vs H Q => ∃ (a : Addr) (n : Int) (ns : List Int), vs = [V.ref a] ∧ SqT K H a ((n :: ns).map V.int) ∧ Q (.int (ns.foldl max n)) H
theorem ints_reads {h : Heap} : ∀ {ns : List Int} {us : List Value}, Vals (ns.map V.int) us → ∃ as, ReadsAll h us (ns.map PyData.int) as
  | [], _, .nil => ⟨_, .nil⟩
  | n :: ns, _, .cons r t => by
    obtain ⟨as, h1⟩ := ints_reads (h := h) t
    obtain ⟨tk, rfl⟩ := r
    exact ⟨_, .cons (Reads.int n tk) h1⟩
theorem alike_ints (ns : List Int) : PySem.W.AlikeAll (ns.map PyData.int) := by
  refine ⟨fun d hd e he => ?_, fun d hd => ?_⟩
  · obtain ⟨i, _, rfl⟩ := List.mem_map.mp hd
    obtain ⟨j, _, rfl⟩ := List.mem_map.mp he
    rfl
  · obtain ⟨i, _, rfl⟩ := List.mem_map.mp hd
    exact fun z => nomatch z
theorem depth_ints : ∀ ns : List Int, PyData.depthAll (ns.map PyData.int) = 0
  | [] => rfl
  | n :: ns => by
    show max 0 (PyData.depthAll (ns.map PyData.int)) = 0
    rw [depth_ints ns]
    rfl
theorem cr_maxT (hc : X.calm = true) (hu : X.A.units + 64 < cLine) : CallR X (.builtin "max") (rMaxT X.K) := by
  intro pins s σ H vs us Q I r ⟨a, n, ns, e, hs, q⟩
  subst e
  obtain ⟨its, rv, hl, hz⟩ := I.tuple hs
  rw [Vals.ref1 r]
  obtain ⟨as, hr⟩ := ints_reads (h := s.heap) (ns := n :: ns) rv
  refine PySem.W.max_tuple_data (x := .int n) (xs := ns.map PyData.int) (I.ok.hd hc) hl (by simpa using hr) (alike_ints (n :: ns)) (by
    have e := depth_ints (n :: ns)
    rw [List.map_cons] at e
    rw [e]
    omega) fun i v h' tk bs hv hr2 hk => ?_
  rw [PySem.W.maxD_ints] at hr2
  cases hr2
  exact ⟨.int _, H, I.kept hk, ⟨_, rfl⟩, q⟩
/-- sorted of a list of alike data: the values with what they read as -/
def rSortD (K : PySem.W.Frag) : List V → Hp → VK → Prop := fun vs H Q => ∃ (a : Addr) (bs : List (V × PyData)), vs = [V.ref a] ∧ SqL K H a (bs.map (·.1)) ∧ (∀ b ∈ bs, Dp K H b.1 b.2) ∧ PySem.W.AllAlike (bs.map (·.2)) ∧ PySem.W.Sortable (bs.map (·.2)) ∧ (∀ b ∈ bs, b.2.depth ≤ 50) ∧
  ∀ p, H p = none → Q (.ref p) (upd H p (.lst ((bs.mergeSort (PySem.W.dataLe false (·.2))).map (·.1))))
theorem vals_each : ∀ {bs : List (V × PyData)} {us : List Value}, PySem.W.EachIs (fun (u : Value) (b : V × PyData) => RelV b.1 u) us bs → Vals (bs.map (·.1)) us
  | _, _, .nil => .nil
  | _, _, .cons r t => .cons r (vals_each t)
theorem each_vals : ∀ {bs : List (V × PyData)} {us : List Value}, Vals (bs.map (·.1)) us → PySem.W.EachIs (fun (u : Value) (b : V × PyData) => RelV b.1 u) us bs
  | [], _, .nil => .nil
  | _ :: _, _, .cons r t => .cons r (each_vals t)
theorem each_and {α β : Type} {R S : α → β → Prop} : ∀ {as : List α} {bs : List β}, PySem.W.EachIs R as bs → (∀ a b, b ∈ bs → R a b → S a b) → PySem.W.EachIs S as bs
  | _, _, .nil, _ => .nil
  | _, _, .cons r t, f => .cons (f _ _ (List.mem_cons_self ..) r) (each_and t fun a b hb => f a b (List.mem_cons_of_mem _ hb))
theorem cr_sortedD (hu : X.A.units + 64 < cLine) : CallR X (.builtin "sorted") (rSortD X.K) := by
  intro pins s σ H vs us Q I r ⟨a, bs, e, hs, hd, h1, h2, h3, q⟩
  subst e
  obtain ⟨its, rv, hl, hz⟩ := I.list hs
  rw [Vals.ref1 r]
  have e1 := each_vals rv
  have e2 : PySem.W.EachIs (fun (v : Value) (b : V × PyData) => ∃ as, Reads s.heap v b.2 as) its bs := each_and e1 fun u b hb ru => Dp.reads I b.2 b.1 u (hd b hb) ru
  have hz' : bs.length ≤ sizeLine := by rwa [List.length_map] at hz
  refine PySem.W.sorted_data (enc := fun b : V × PyData => b.2) (vs := its) hl.isList e1 e2 h1 h2 hz' (fun b hb => ?_) fun out ho eo => ?_
  · have := h3 b hb
    omega
  · obtain ⟨ep, he'⟩ := PyProof.Rows.sortedAll_at s.heap its out.toArray
    have hv := vals_each eo
    exact ⟨.ref _, upd H (s.heap.objs.size + 1) (.lst _), I.laid (t' := s.toks) (fun _ _ => PyProof.Rows.sortedAll_old) (Nat.le_succ _) ⟨by rw [List.length_map, List.length_mergeSort]; exact hz', out, ep, hv, he'⟩, rfl, q _ (I.hok.fresh (Nat.le_succ _))⟩
/-- for x in e, e a list or a tuple -/
def iSeq (K : PySem.W.Frag) (tl : TE) : TI := fun σ H R => tl σ H fun x H1 => ∃ a, x = .ref a ∧ (((∃ xs, SqL K H1 a xs) ∧ R (Itl K a) H1) ∨ ((∃ xs, SqT K H1 a xs) ∧ R (Itt K a) H1))
theorem pi_seq {tg l : Expr} {tl : TE} (hl : PE X l tl) : PI X tg l (iSeq X.K tl) := by
  refine ⟨fun pins s σ H R I h => thn (hl.run pins s σ H _ I h) fun v s1 ⟨x, H1, I1, r1, a, e, q⟩ => ?_⟩
  subst e
  cases r1
  have young : ∀ b ∈ [s1.heap.objs.size], FpOk X pins H1 b := fun b hb => by
    obtain rfl : b = s1.heap.objs.size := by simpa using hb
    exact I1.fpOk (Nat.le_refl _) (I1.hok.fresh (Nat.le_refl _))
  rcases q with ⟨⟨xs, hq⟩, q⟩ | ⟨⟨xs, hq⟩, q⟩
  · obtain ⟨its, rv, p, hz⟩ := I1.list hq
    exact wpAny_pyIter_list p.isList ⟨_, _, _, _, H1, rfl, I1.kept (t' := s1.toks) fun _ _ e => Heap.get?_push_of_some _ e, turn_list a s1.heap.objs.size, ⟨_, Heap.get?_push_size _ rfl, rfl, rfl⟩, young, q⟩
  · obtain ⟨its, rv, p, hz⟩ := I1.tuple hq
    exact wpAny_pyIter_tuple (show s1.heap.IsTuple a its.toArray from p) ⟨_, _, _, _, H1, rfl, I1.kept (t' := s1.toks) fun _ _ e => Heap.get?_push_of_some _ e, turn_tuple a s1.heap.objs.size, ⟨_, Heap.get?_push_size _ rfl, rfl, rfl⟩, young, q⟩
end
end Fw
set_option Elab.async false
set_option linter.all false
set_option maxRecDepth 100000
set_option maxHeartbeats 4000000
/-! operators, built-ins, methods by what is known -/
namespace Fw
open PySem PySem.Spec PyProof.Rows L2

/-! ### shapes of data -/
def Sh (n : Nat) (d : PyData) : Prop := d.canLay0 = true ∧ d.depth ≤ n
theorem Sh.mono {n m : Nat} {d : PyData} (h : Sh n d) (l : n ≤ m) : Sh m d := ⟨h.1, Nat.le_trans h.2 l⟩
theorem canLayAll_of : ∀ {ds : List PyData}, (∀ d ∈ ds, d.canLay0 = true) → PyData.canLayAll0 ds = true
  | [], _ => rfl
  | d :: ds, h => by
    show (d.canLay0 && PyData.canLayAll0 ds) = true
    rw [h d (List.mem_cons_self ..), canLayAll_of fun e he => h e (List.mem_cons_of_mem _ he)]
    rfl
theorem depthAll_of {n : Nat} : ∀ {ds : List PyData}, (∀ d ∈ ds, d.depth ≤ n) → PyData.depthAll ds ≤ n
  | [], _ => Nat.zero_le _
  | d :: ds, h => Nat.max_le.mpr ⟨h d (List.mem_cons_self ..), depthAll_of fun e he => h e (List.mem_cons_of_mem _ he)⟩
theorem Sh.tup {n : Nat} {ds : List PyData} (h : ∀ d ∈ ds, Sh n d) : Sh (n + 1) (.tuple ds) := ⟨canLayAll_of fun d hd => (h d hd).1, Nat.succ_le_succ (depthAll_of fun d hd => (h d hd).2)⟩
theorem Sh.lst {n : Nat} {ds : List PyData} (h : ∀ d ∈ ds, Sh n d) : Sh (n + 1) (.list ds) := ⟨canLayAll_of fun d hd => (h d hd).1, Nat.succ_le_succ (depthAll_of fun d hd => (h d hd).2)⟩
theorem Sh.int (i : Int) : Sh 0 (.int i) := ⟨rfl, Nat.le_refl _⟩
theorem Sh.bl (i : Bool) : Sh 0 (.bool i) := ⟨rfl, Nat.le_refl _⟩
theorem Sh.non : Sh 0 .none := ⟨rfl, Nat.le_refl _⟩
theorem Sh.str {x : Str} (h : PyData.strOk x = true) : Sh 0 (.str x) := ⟨h, Nat.le_refl _⟩
theorem Sh.nm (x : Nm) : Sh 0 (.str x.1) := Sh.str x.2
theorem Sh.tup2 {n : Nat} {a b : PyData} (h : Sh n a) (k : Sh n b) : Sh (n + 1) (.tuple [a, b]) := Sh.tup fun d hd => by
  rcases List.mem_cons.mp hd with rfl | hd
  · exact h
  · rcases List.mem_cons.mp hd with rfl | hd
    · exact k
    · cases hd
theorem Sh.ev (e : Et) : Sh 1 (encE e) := Sh.tup2 (Sh.nm e.1) (Sh.int _)
theorem Sh.mg (m : Mg) : Sh 2 (encM m) := Sh.tup2 (Sh.ev m.1) (Sh.ev m.2)
theorem Sh.tups {α : Type} {n : Nat} {f : α → PyData} {l : List α} (h : ∀ a, Sh n (f a)) : Sh (n + 1) (.tuple (l.map f)) := Sh.tup fun d hd => by
  obtain ⟨a, _, rfl⟩ := List.mem_map.mp hd
  exact h a
theorem Sh.lsts {α : Type} {n : Nat} {f : α → PyData} {l : List α} (h : ∀ a, Sh n (f a)) : Sh (n + 1) (.list (l.map f)) := Sh.lst fun d hd => by
  obtain ⟨a, _, rfl⟩ := List.mem_map.mp hd
  exact h a
theorem Sh.shaped {n : Nat} {d : PyData} (h : Sh n d) (l : n ≤ 64 := by decide) : SeqAt.shaped d = true := by
  unfold SeqAt.shaped
  rw [h.1, decide_eq_true (Nat.le_trans h.2 l)]
  rfl

def isNonD : PyData → Bool
  | .none => true
  | _ => false
section
variable {Γ : Ga} {M M1 M2 M3 : List Mu} {K : PySem.W.Frag} {k kx ky kz : Kn}
/-! ### data compared -/
theorem rk_eqD {d e : PyData} {b : Bool} (hd : SeqAt.shaped d = true) (he : SeqAt.shaped e = true) (hb : PyData.eqv d e = b) : RK (rEqD K) M (kD d) (kD e) (kB b) := fun x y F B C o px py Q q =>
  ⟨d, e, (Tk.ex o.ex d x px).dp, (Tk.ex o.ex e y py).dp, hd, he, q _ B C (Ex.refl B) o (hb ▸ .bl _)⟩
theorem rk_neD {d e : PyData} {b : Bool} (hd : SeqAt.shaped d = true) (he : SeqAt.shaped e = true) (hb : (!PyData.eqv d e) = b) : RK (rNeD K) M (kD d) (kD e) (kB b) := fun x y F B C o px py Q q =>
  ⟨d, e, (Tk.ex o.ex d x px).dp, (Tk.ex o.ex e y py).dp, hd, he, q _ B C (Ex.refl B) o (hb ▸ .bl _)⟩
theorem eqv_int (i j : Int) : PyData.eqv (.int i) (.int j) = decide (i = j) := by simp [PyData.eqv]; rfl
theorem eqv_str (i j : Str) : PyData.eqv (.str i) (.str j) = decide (i = j) := by simp [PyData.eqv]; rfl
theorem eqv_bl (i j : Bool) : PyData.eqv (.bool i) (.bool j) = decide (i = j) := by
  cases i <;> cases j <;> rfl
theorem rk_ltD {d e : PyData} {b : Bool} (h : PySem.W.alike d e = true) (hn : d ≠ .none) (hd : d.depth ≤ 64) (hb : PySem.W.dataLt d e = b) : RK (rLtD K) M (kD d) (kD e) (kB b) := fun x y F B C o px py Q q =>
  ⟨d, e, (Tk.ex o.ex d x px).dp, (Tk.ex o.ex e y py).dp, h, hn, hd, q _ B C (Ex.refl B) o (hb ▸ .bl _)⟩
theorem rk_gtD {d e : PyData} {b : Bool} (h : PySem.W.alike d e = true) (hn : d ≠ .none) (hd : d.depth ≤ 64) (hb : PySem.W.dataLt e d = b) : RK (rGtD K) M (kD d) (kD e) (kB b) := fun x y F B C o px py Q q =>
  ⟨d, e, (Tk.ex o.ex d x px).dp, (Tk.ex o.ex e y py).dp, h, hn, hd, q _ B C (Ex.refl B) o (hb ▸ .bl _)⟩
theorem rk_leD {d e : PyData} {b : Bool} (h : PySem.W.alike d e = true) (hn : d ≠ .none) (hd : d.depth ≤ 64) (hb : (!PySem.W.dataLt e d) = b) : RK (rLeD K) M (kD d) (kD e) (kB b) := fun x y F B C o px py Q q =>
  ⟨d, e, (Tk.ex o.ex d x px).dp, (Tk.ex o.ex e y py).dp, h, hn, hd, q _ B C (Ex.refl B) o (hb ▸ .bl _)⟩
theorem rk_ltE {a b : Et} : RK (rLtD K) M (kD (encE a)) (kD (encE b)) (kB (ltE a b)) := rk_ltD (alike_encE a b) (fun z => nomatch z) (Nat.le_trans (Sh.ev a).2 (by decide)) rfl
theorem rk_gtE {a b : Et} : RK (rGtD K) M (kD (encE a)) (kD (encE b)) (kB (ltE b a)) := rk_gtD (alike_encE a b) (fun z => nomatch z) (Nat.le_trans (Sh.ev a).2 (by decide)) rfl
theorem rk_leE {a b : Et} : RK (rLeD K) M (kD (encE a)) (kD (encE b)) (kB (!ltE b a)) := rk_leD (alike_encE a b) (fun z => nomatch z) (Nat.le_trans (Sh.ev a).2 (by decide)) rfl
theorem rk_ltM {a b : Mg} : RK (rLtD K) M (kD (encM a)) (kD (encM b)) (kB (ltM a b)) := rk_ltD (alike_encM a b) (fun z => nomatch z) (Nat.le_trans (Sh.mg a).2 (by decide)) rfl
theorem rk_eqE {a b : Et} : RK (rEqD K) M (kD (encE a)) (kD (encE b)) (kB (decide (a = b))) := rk_eqD (Sh.ev a).shaped (Sh.ev b).shaped (eqv_encE a b)
theorem rk_neE {a b : Et} : RK (rNeD K) M (kD (encE a)) (kD (encE b)) (kB (!decide (a = b))) := rk_neD (Sh.ev a).shaped (Sh.ev b).shaped (by rw [eqv_encE])
theorem rk_eqI {a b : Int} : RK (rEqD K) M (kI a) (kI b) (kB (decide (a = b))) := rk_eqD (Sh.int a).shaped (Sh.int b).shaped (eqv_int a b)
theorem rk_neI {a b : Int} : RK (rNeD K) M (kI a) (kI b) (kB (!decide (a = b))) := rk_neD (Sh.int a).shaped (Sh.int b).shaped (by rw [eqv_int])
theorem rk_eqN {a b : Nm} : RK (rEqD K) M (kD (.str a.1)) (kD (.str b.1)) (kB (decide (a = b))) := rk_eqD (Sh.nm a).shaped (Sh.nm b).shaped (by
  rw [eqv_str]
  exact decide_eq_decide.mpr ⟨fun z => Subtype.ext z, fun z => by rw [z]⟩)
theorem rk_neN {a b : Nm} : RK (rNeD K) M (kD (.str a.1)) (kD (.str b.1)) (kB (!decide (a = b))) := rk_neD (Sh.nm a).shaped (Sh.nm b).shaped (by
  rw [eqv_str]
  exact congrArg not (decide_eq_decide.mpr ⟨fun z => Subtype.ext z, fun z => by rw [z]⟩))
/-! in -/
theorem rk_inDT {d : PyData} {ds : List PyData} {b : Bool} (hd : SeqAt.shaped d = true) (he : SeqAt.shaped (.tuple ds) = true) (hb : (ds.any fun z => PyData.eqv z d) = b) : RK (rInDT K) M (kD d) (kD (.tuple ds)) (kB b) := fun x y F B C o px py Q q =>
  ⟨d, ds, (Tk.ex o.ex _ x px).dp, (Tk.ex o.ex _ y py).dp, hd, he, q _ B C (Ex.refl B) o (hb ▸ .bl _)⟩
theorem rk_notInDT {d : PyData} {ds : List PyData} {b : Bool} (hd : SeqAt.shaped d = true) (he : SeqAt.shaped (.tuple ds) = true) (hb : (!ds.any fun z => PyData.eqv z d) = b) : RK (rNotInDT K) M (kD d) (kD (.tuple ds)) (kB b) := fun x y F B C o px py Q q =>
  ⟨d, ds, (Tk.ex o.ex _ x px).dp, (Tk.ex o.ex _ y py).dp, hd, he, q _ B C (Ex.refl B) o (hb ▸ .bl _)⟩
theorem rk_inD {d : PyData} {ds : List PyData} {b : Bool} (hd : SeqAt.shaped d = true) (he : SeqAt.shaped (.list ds) = true) (hb : (ds.any fun z => PyData.eqv z d) = b) : RK (rInD K) M (kD d) (kD (.list ds)) (kB b) := fun x y F B C o px py Q q =>
  ⟨d, ds, (Tk.ex o.ex _ x px).dp, (Tk.ex o.ex _ y py).dp, hd, he, q _ B C (Ex.refl B) o (hb ▸ .bl _)⟩
theorem rk_notInD {d : PyData} {ds : List PyData} {b : Bool} (hd : SeqAt.shaped d = true) (he : SeqAt.shaped (.list ds) = true) (hb : (!ds.any fun z => PyData.eqv z d) = b) : RK (rNotInD K) M (kD d) (kD (.list ds)) (kB b) := fun x y F B C o px py Q q =>
  ⟨d, ds, (Tk.ex o.ex _ x px).dp, (Tk.ex o.ex _ y py).dp, hd, he, q _ B C (Ex.refl B) o (hb ▸ .bl _)⟩
/-! None -/
theorem non_of {H : Hp} {v : V} {d : PyData} (p : Tk H v d) : decide (v = .non) = isNonD d := by
  cases p <;> first | rfl | exact decide_eq_false (fun z => nomatch z)
theorem rk_isN {d : PyData} : RK (fun x y H Q => y = .non ∧ Q (.bl (decide (x = .non))) H) M (kD d) (kD .none) (kB (isNonD d)) := fun x y F B C o px py Q q =>
  ⟨py.non_inv, by
    rw [non_of px]
    exact q _ B C (Ex.refl B) o (.bl _)⟩
theorem rk_notN {d : PyData} : RK (fun x y H Q => y = .non ∧ Q (.bl (!decide (x = .non))) H) M (kD d) (kD .none) (kB (!isNonD d)) := fun x y F B C o px py Q q =>
  ⟨py.non_inv, by
    rw [non_of px]
    exact q _ B C (Ex.refl B) o (.bl _)⟩
/-! whole numbers -/
theorem rk_I0 {g : Int → Int → V} {i j : Int} {d : PyData} (hg : ∀ H, Tk H (g i j) d) : RK (rI0 g) M (kI i) (kI j) (kD d) := fun x y F B C o px py Q q => ⟨i, j, px.int_inv, py.int_inv, q _ B C (Ex.refl B) o (hg B)⟩
theorem rk_I {c : Int → Int → Prop} {g : Int → Int → V} {i j : Int} {d : PyData} (hc : c i j) (hg : ∀ H, Tk H (g i j) d) : RK (rI c g) M (kI i) (kI j) (kD d) := fun x y F B C o px py Q q => ⟨i, j, px.int_inv, py.int_inv, hc, q _ B C (Ex.refl B) o (hg B)⟩
theorem rk_add {i j : Int} : RK (rI0 fun i j => .int (i + j)) M (kI i) (kI j) (kI (i + j)) := rk_I0 fun _ => .int _
theorem rk_sub {i j : Int} : RK (rI0 fun i j => .int (i - j)) M (kI i) (kI j) (kI (i - j)) := rk_I0 fun _ => .int _
theorem rk_lt {i j : Int} : RK (rI0 fun i j => .bl (decide (i < j))) M (kI i) (kI j) (kB (decide (i < j))) := rk_I0 fun _ => .bl _
theorem rk_gt {i j : Int} : RK (rI0 fun i j => .bl (decide (j < i))) M (kI i) (kI j) (kB (decide (j < i))) := rk_I0 fun _ => .bl _
/-! ### places -/
theorem rk_ixT {ds : List PyData} {n : Nat} {i : Int} {d : PyData} (h : ds[n]? = some d) (hi : i = (n : Int) := by rfl) : RK (rIxT K) M (kD (.tuple ds)) (kI i) (kD d) := fun x y F B C o px py Q q => by
  obtain ⟨a, xs, rfl, h1, h2⟩ := px.tup_inv
  obtain ⟨v, hv, pv⟩ := h2.at h
  exact ⟨a, xs, i, v, rfl, py.int_inv, SqT.of (o.ex _ _ h1), by rw [hi]; exact atI_nat hv, q _ B C (Ex.refl B) o pv⟩
theorem rk_ixTk {ks : List Kn} {n : Nat} {i : Int} (h : ks[n]? = some k) (hi : i = (n : Int) := by rfl) : RK (rIxT K) M (kTup ks) (kI i) k := fun x y F B C o ⟨a, xs, e, h1, h2⟩ py Q q => by
  obtain ⟨v, hv, pv⟩ := h2.at h
  exact ⟨a, xs, i, v, e, py.int_inv, SqT.of (o.ex _ _ h1), by rw [hi]; exact atI_nat hv, q _ B C (Ex.refl B) o pv⟩
theorem rk_ixL {ds : List PyData} {n : Nat} {i : Int} {d : PyData} (h : ds[n]? = some d) (hi : i = (n : Int) := by rfl) : RK (rIxL K) M (kD (.list ds)) (kI i) (kD d) := fun x y F B C o px py Q q => by
  obtain ⟨a, xs, rfl, h1, h2⟩ := px.lst_inv
  obtain ⟨v, hv, pv⟩ := h2.at h
  exact ⟨a, xs, i, v, rfl, py.int_inv, SqL.of (o.ex _ _ h1), by rw [hi]; exact atI_nat hv, q _ B C (Ex.refl B) o pv⟩
theorem rk_ixLk {ks : List Kn} {n : Nat} {i : Int} (h : ks[n]? = some k) (hi : i = (n : Int) := by rfl) : RK (rIxL K) M (kLst ks) (kI i) k := fun x y F B C o ⟨a, xs, e, h1, h2⟩ py Q q => by
  obtain ⟨v, hv, pv⟩ := h2.at h
  exact ⟨a, xs, i, v, e, py.int_inv, SqL.of (o.ex _ _ h1), by rw [hi]; exact atI_nat hv, q _ B C (Ex.refl B) o pv⟩
/-- of a changing list -/
theorem rk_ixM {D : Addr} {ks : List Kn} {n : Nat} {i : Int} (hm : mLst D ks ∈ M) (h : ks[n]? = some k) (hi : i = (n : Int) := by rfl) : RK (rIxL K) M (kC (.ref D)) (kI i) k := fun x y F B C o px py Q q => by
  obtain ⟨xs, h1, h2⟩ := o.p _ (List.mem_append_left _ hm)
  obtain ⟨v, hv, pv⟩ := h2.at h
  exact ⟨D, xs, i, v, px, py.int_inv, SqL.of h1, by rw [hi]; exact atI_nat hv, q _ B C (Ex.refl B) o pv⟩
/-! ### built-ins -/
abbrev rLenS (K : PySem.W.Frag) : List V → Hp → VK → Prop := fun xs H Q => ∃ p ys, xs = [.ref p] ∧ (SqL K H p ys ∨ SqT K H p ys) ∧ Q (.int ys.length) H
theorem allK1 {B : Hp} {xs : List V} (h : AllK B [k] xs) : ∃ v, xs = [v] ∧ k.p v B := by
  cases h with
  | cons p h =>
    cases h
    exact ⟨_, rfl, p⟩
theorem allK2 {B : Hp} {xs : List V} (h : AllK B [kx, ky] xs) : ∃ v w, xs = [v, w] ∧ kx.p v B ∧ ky.p w B := by
  cases h with
  | cons p h =>
    obtain ⟨w, rfl, pw⟩ := allK1 h
    exact ⟨_, w, rfl, p, pw⟩
theorem ck_lenLk {ks : List Kn} : CK (rLenS K) M [kLst ks] (kI ks.length) := fun xs F B C o ps Q q => by
  obtain ⟨v, rfl, a, ys, rfl, h1, h2⟩ := allK1 ps
  exact ⟨a, ys, rfl, .inl (SqL.of (o.ex _ _ h1)), by rw [← h2.length]; exact q _ B C (Ex.refl B) o (.int _)⟩
theorem ck_lenL {ds : List PyData} : CK (rLenS K) M [kD (.list ds)] (kI ds.length) := fun xs F B C o ps Q q => by
  obtain ⟨v, rfl, pv⟩ := allK1 ps
  obtain ⟨a, ys, rfl, h1, h2⟩ := pv.lst_inv
  exact ⟨a, ys, rfl, .inl (SqL.of (o.ex _ _ h1)), by rw [h2.length]; exact q _ B C (Ex.refl B) o (.int _)⟩
theorem ck_lenT {ds : List PyData} : CK (rLenS K) M [kD (.tuple ds)] (kI ds.length) := fun xs F B C o ps Q q => by
  obtain ⟨v, rfl, pv⟩ := allK1 ps
  obtain ⟨a, ys, rfl, h1, h2⟩ := pv.tup_inv
  exact ⟨a, ys, rfl, .inr (SqT.of (o.ex _ _ h1)), by rw [h2.length]; exact q _ B C (Ex.refl B) o (.int _)⟩
theorem ck_lenM {D : Addr} {ks : List Kn} (hm : mLst D ks ∈ M) : CK (rLenS K) M [kC (.ref D)] (kI ks.length) := fun xs F B C o ps Q q => by
  obtain ⟨v, rfl, pv⟩ := allK1 ps
  obtain ⟨ys, h1, h2⟩ := o.p _ (List.mem_append_left _ hm)
  exact ⟨D, ys, congrArg (fun z => [z]) pv, .inl (SqL.of h1), by rw [← h2.length]; exact q _ B C (Ex.refl B) o (.int _)⟩
abbrev rTupOf (K : PySem.W.Frag) : List V → Hp → VK → Prop := fun xs H Q => ∃ p ys, xs = [.ref p] ∧ ((SqL K H p ys ∧ ∀ l, H l = none → Q (.ref l) (upd H l (.tup ys))) ∨ (SqT K H p ys ∧ Q (.ref p) H))
theorem ck_tupOfk {ks : List Kn} : CK (rTupOf K) M [kLst ks] (kTup ks) := fun xs F B C o ps Q q => by
  obtain ⟨v, rfl, a, ys, rfl, h1, h2⟩ := allK1 ps
  exact ⟨a, ys, rfl, .inl ⟨SqL.of (o.ex _ _ h1), fun l hl => q _ _ _ (Ex.new (o.ex.back hl)) (o.new hl) ⟨l, ys, rfl, upd_same, h2.ex (Ex.new (o.ex.back hl))⟩⟩⟩
theorem ck_tupOf {ds : List PyData} : CK (rTupOf K) M [kD (.list ds)] (kD (.tuple ds)) := fun xs F B C o ps Q q => by
  refine ck_tupOfk (ks := ds.map kD) xs F B C o ?_ Q fun z B' C' e o' p => q z B' C' e o' (kTup_data.mp p)
  obtain ⟨v, rfl, pv⟩ := allK1 ps
  exact .cons (kLst_data.mpr pv) .nil
theorem ck_tupOfT {ds : List PyData} : CK (rTupOf K) M [kD (.tuple ds)] (kD (.tuple ds)) := fun xs F B C o ps Q q => by
  obtain ⟨v, rfl, pv⟩ := allK1 ps
  obtain ⟨a, ys, rfl, h1, h2⟩ := pv.tup_inv
  exact ⟨a, ys, rfl, .inr ⟨SqT.of (o.ex _ _ h1), q _ B C (Ex.refl B) o pv⟩⟩
abbrev rLstOf (K : PySem.W.Frag) : List V → Hp → VK → Prop := fun xs H Q => ∃ p ys, xs = [.ref p] ∧ (SqL K H p ys ∨ SqT K H p ys) ∧ ∀ l, H l = none → Q (.ref l) (upd H l (.lst ys))
theorem ck_lstOf {ds : List PyData} : CK (rLstOf K) M [kD (.list ds)] (kD (.list ds)) := fun xs F B C o ps Q q => by
  obtain ⟨v, rfl, pv⟩ := allK1 ps
  obtain ⟨a, ys, rfl, h1, h2⟩ := pv.lst_inv
  exact ⟨a, ys, rfl, .inl (SqL.of (o.ex _ _ h1)), fun l hl => q _ _ _ (Ex.new (o.ex.back hl)) (o.new hl) (.lst upd_same (TkAll.ex (Ex.new (o.ex.back hl)) _ _ h2))⟩
theorem ck_all {bs : List Bool} : CK (rAll K) M [kD (.list (bs.map .bool))] (kB (bs.all id)) := fun xs F B C o ps Q q => by
  obtain ⟨v, rfl, pv⟩ := allK1 ps
  obtain ⟨a, ys, rfl, h1, h2⟩ := pv.lst_inv
  rw [h2.bls] at h1
  exact ⟨a, bs, rfl, SqL.of (o.ex _ _ h1), q _ B C (Ex.refl B) o (.bl _)⟩
theorem ck_any {bs : List Bool} : CK (rAny K) M [kD (.list (bs.map .bool))] (kB (bs.any id)) := fun xs F B C o ps Q q => by
  obtain ⟨v, rfl, pv⟩ := allK1 ps
  obtain ⟨a, ys, rfl, h1, h2⟩ := pv.lst_inv
  rw [h2.bls] at h1
  exact ⟨a, bs, rfl, SqL.of (o.ex _ _ h1), q _ B C (Ex.refl B) o (.bl _)⟩
/-! lists added -/
theorem rk_cat {a b : List PyData} (hl : a.length + b.length ≤ 100000) : RK rCat M (kD (.list a)) (kD (.list b)) (kD (.list (a ++ b))) := fun x y F B C o px py Q q => by
  obtain ⟨p, xs, rfl, h1, h2⟩ := px.lst_inv
  obtain ⟨r, ys, rfl, h3, h4⟩ := py.lst_inv
  exact ⟨p, r, xs, ys, rfl, rfl, o.ex _ _ h1, o.ex _ _ h3, by rw [h2.length, h4.length, sizeLine_eq]; omega, fun l hl => q _ _ _ (Ex.new (o.ex.back hl)) (o.new hl) (.lst upd_same ((TkAll.ex (Ex.new (o.ex.back hl)) _ _ h2).append (TkAll.ex (Ex.new (o.ex.back hl)) _ _ h4)))⟩
theorem rk_catA {a b : List PyData} (hl : a.length + b.length ≤ 100000) : RK (rCatA K) M (kD (.tuple a)) (kD (.tuple b)) (kD (.tuple (a ++ b))) := fun x y F B C o px py Q q => by
  obtain ⟨p, xs, rfl, h1, h2⟩ := px.tup_inv
  obtain ⟨r, ys, rfl, h3, h4⟩ := py.tup_inv
  refine ⟨p, r, xs, ys, rfl, rfl, SqT.of (o.ex _ _ h1), SqT.of (o.ex _ _ h3), by rw [h2.length, h4.length, sizeLine_eq]; omega, fun e => ?_, fun e1 e2 => ?_, fun _ _ l hl => q _ _ _ (Ex.new (o.ex.back hl)) (o.new hl) (.tup upd_same ((TkAll.ex (Ex.new (o.ex.back hl)) _ _ h2).append (TkAll.ex (Ex.new (o.ex.back hl)) _ _ h4)))⟩
  · subst e
    cases h2
    exact q _ B C (Ex.refl B) o py
  · subst e2
    cases h4
    rw [List.append_nil] at q
    exact q _ B C (Ex.refl B) o px
/-! ### methods of lists that are being made -/
theorem ty_mut {D : Addr} {ks : List Kn} (hm : mLst D ks ∈ M) : ∀ v F B C, OkM (M ++ F) B C → (kC (.ref D)).p v B → tyV K "list" v C := fun v F B C o p => by
  obtain ⟨xs, h1, h2⟩ := o.p _ (List.mem_append_left _ hm)
  cases (show v = .ref D from p)
  exact .inl ⟨rfl, xs, SqL.of h1⟩
theorem ev_append {te ta : TE} {D : Addr} {ks : List Kn} (ho : Ev ta Γ M1 (mLst D ks :: M) (kC (.ref D))) (h : Ev te Γ (mLst D ks :: M) (mLst D ks :: M2) k) (hl : ks.length ≤ 100000) : Ev (tBM K "list" rAppend ta (tCons te tNil)) Γ M1 (mLst D (ks ++ [k]) :: M2) (kD .none) :=
  ev_bm ho (ty_mut (List.mem_cons_self ..)) (ea_one h) fun x xs F B C o px ps Q q => by
    obtain ⟨v, rfl, pv⟩ := allK1 ps
    obtain ⟨zs, h1, h2⟩ := OkM.head (M := M2 ++ F) o
    refine ⟨D, zs, v, px, rfl, h1, by rw [← h2.length, sizeLine_eq]; omega, q _ B _ (Ex.refl B) ?_ .non⟩
    exact OkM.chg (m := mLst D ks) (m' := mLst D (ks ++ [k])) (M := M2 ++ F) o (o.ex.mut (o.off _ (List.mem_cons_self ..) D rfl)) (fun a ha => upd_ne ha) ⟨zs ++ [v], upd_same, h2.append (.cons pv .nil)⟩ fun a ha => .inl ha
theorem allK_drop {B : Hp} : ∀ {ks : List Kn} {xs : List V}, AllK B ks xs → AllK B ks.dropLast xs.dropLast
  | _, _, .nil => .nil
  | _, _, .cons h .nil => .nil
  | _, _, .cons h (.cons h2 t) => .cons h (allK_drop (.cons h2 t))
theorem allK_erase {B : Hp} : ∀ {ks : List Kn} {xs : List V} (n : Nat), AllK B ks xs → AllK B (ks.eraseIdx n) (xs.eraseIdx n)
  | _, _, _, .nil => .nil
  | _, _, 0, .cons h t => t
  | _, _, n + 1, .cons h t => .cons h (allK_erase n t)
theorem ev_pop {ta : TE} {D : Addr} {ks : List Kn} (ho : Ev ta Γ M1 (mLst D ks :: M) (kC (.ref D))) (h : ks[ks.length - 1]? = some k) : Ev (tBM0 K "list" rPop ta) Γ M1 (mLst D ks.dropLast :: M) k :=
  ev_bm0 ho (ty_mut (List.mem_cons_self ..)) fun x xs F B C o px ps Q q => by
    cases ps
    obtain ⟨zs, h1, h2⟩ := OkM.head (M := M ++ F) o
    obtain ⟨v, hv, pv⟩ := h2.at h
    refine ⟨D, zs, v, px, rfl, h1, by rw [← h2.length]; exact hv, q _ B _ (Ex.refl B) ?_ pv⟩
    exact OkM.chg (m := mLst D ks) (m' := mLst D ks.dropLast) (M := M ++ F) o (o.ex.mut (o.off _ (List.mem_cons_self ..) D rfl)) (fun a ha => upd_ne ha) ⟨zs.dropLast, upd_same, allK_drop h2⟩ fun a ha => .inl ha
theorem ev_extend {te ta : TE} {D : Addr} {ks : List Kn} {ds : List PyData} (ho : Ev ta Γ M1 (mLst D ks :: M) (kC (.ref D))) (h : Ev te Γ (mLst D ks :: M) (mLst D ks :: M2) (kD (.list ds))) (hl : ks.length + ds.length ≤ 100000) : Ev (tBM K "list" rExtend ta (tCons te tNil)) Γ M1 (mLst D (ks ++ ds.map kD) :: M2) (kD .none) :=
  ev_bm ho (ty_mut (List.mem_cons_self ..)) (ea_one h) fun x xs F B C o px ps Q q => by
    obtain ⟨v, rfl, pv⟩ := allK1 ps
    obtain ⟨b, ys, rfl, h3, h4⟩ := pv.lst_inv
    obtain ⟨zs, h1, h2⟩ := OkM.head (M := M2 ++ F) o
    refine ⟨D, b, zs, ys, px, rfl, h1, o.ex _ _ h3, by rw [← h2.length, h4.length, sizeLine_eq]; omega, q _ B _ (Ex.refl B) ?_ .non⟩
    exact OkM.chg (m := mLst D ks) (m' := mLst D (ks ++ ds.map kD)) (M := M2 ++ F) o (o.ex.mut (o.off _ (List.mem_cons_self ..) D rfl)) (fun a ha => upd_ne ha) ⟨zs ++ ys, upd_same, h2.append (AllK.data.mpr h4)⟩ fun a ha => .inl ha
end
end Fw
set_option Elab.async false
set_option linter.all false
set_option maxRecDepth 100000
set_option maxHeartbeats 4000000
/-! the rules once more, the text's part K named: within a comprehension's block a reading must not hang on the block -/
namespace Fw
open PySem PySem.Spec PyProof.Rows L2
section
variable {X : Cx} (K : PySem.W.Frag)
theorem k_len (h : X.K = K := by rfl) : CallR X (.builtin "len") (rLenS K) := by subst h; exact call_len_seq
theorem k_tup (h : X.K = K := by rfl) : CallR X (.type "tuple") (rTupOf K) := by subst h; exact call_tuple_of
theorem k_lst (h : X.K = K := by rfl) : CallR X (.type "list") (rLstOf K) := by subst h; exact call_list_of
theorem k_all (hc : X.calm = true) (h : X.K = K := by rfl) : CallR X (.builtin "all") (rAll K) := by subst h; exact cr_all hc
theorem k_any (hc : X.calm = true) (h : X.K = K := by rfl) : CallR X (.builtin "any") (rAny K) := by subst h; exact cr_any hc
theorem k_isi (h : X.K = K := by rfl) : CallR X (.builtin "isinstance") (rIsi K) := by subst h; exact call_isi
theorem k_isi2 (h : X.K = K := by rfl) : CallR X (.builtin "isinstance") (rIsiT K) := by subst h; exact call_isiT
theorem k_max (hc : X.calm = true) (hu : X.A.units + 64 < cLine) (h : X.K = K := by rfl) : CallR X (.builtin "max") (rMaxT K) := by subst h; exact cr_maxT hc hu
theorem k_sort (hu : X.A.units + 64 < cLine) (h : X.K = K := by rfl) : CallR X (.builtin "sorted") (rSortD K) := by subst h; exact cr_sortedD hu
theorem k_eq (hu : X.A.units + 64 < cLine) (h : X.K = K := by rfl) : OpR X (compareOp .Eq) (rEqD K) := by subst h; exact op_eqD hu
theorem k_ne (hu : X.A.units + 64 < cLine) (h : X.K = K := by rfl) : OpR X (compareOp .NotEq) (rNeD K) := by subst h; exact op_neD hu
theorem k_lt (hu : X.A.units + 64 < cLine) (h : X.K = K := by rfl) : OpR X (compareOp .Lt) (rLtD K) := by subst h; exact op_ltD hu
theorem k_gt (hu : X.A.units + 64 < cLine) (h : X.K = K := by rfl) : OpR X (compareOp .Gt) (rGtD K) := by subst h; exact op_gtD hu
theorem k_le (hu : X.A.units + 64 < cLine) (h : X.K = K := by rfl) : OpR X (compareOp .LtE) (rLeD K) := by subst h; exact op_leD hu
theorem k_in (hu : X.A.units + 65 < cLine) (h : X.K = K := by rfl) : OpR X (compareOp .In) (rInD K) := by subst h; exact op_inD hu
theorem k_nin (hu : X.A.units + 65 < cLine) (h : X.K = K := by rfl) : OpR X (compareOp .NotIn) (rNotInD K) := by subst h; exact op_notInD hu
theorem k_inT (hu : X.A.units + 65 < cLine) (h : X.K = K := by rfl) : OpR X (compareOp .In) (rInDT K) := by subst h; exact op_inDT hu
theorem k_ninT (hu : X.A.units + 65 < cLine) (h : X.K = K := by rfl) : OpR X (compareOp .NotIn) (rNotInDT K) := by subst h; exact op_notInDT hu
theorem k_ixT (h : X.K = K := by rfl) : IxR X (rIxT K) := by subst h; exact ix_tup
theorem k_ixL (h : X.K = K := by rfl) : IxR X (rIxL K) := by subst h; exact ix_list
theorem k_slT (h : X.K = K := by rfl) : SlR X (rSlA K) := by subst h; exact sl_tupA
theorem k_slL (h : X.K = K := by rfl) : SlR X (rSlL K) := by subst h; exact sl_list
theorem k_catT (h : X.K = K := by rfl) : OpR X (binaryOp .Add) (rCatA K) := by subst h; exact op_catA
variable {e a b o tg : Expr} {te ta tb : TE} {t : TA} {f : Str} {pos p1 p2 q1 q2 : Pos}
theorem k_sl (he : PE X e te) (hb : attributeBase e f X.env (eval e X.env) = eval e X.env := by rfl) (h : X.K = K := by rfl) : PE X (.Attribute e f pos) (SlX.tSl K te f) := by subst h; exact SlX.pe_sl he hb
theorem k_iL (he : PE X e te) (h : X.K = K := by rfl) : PI X tg e (iList K te) := by subst h; exact pi_list he
theorem k_iT (he : PE X e te) (h : X.K = K := by rfl) : PI X tg e (iTup K te) := by subst h; exact pi_tup he
theorem k_iS (he : PE X e te) (h : X.K = K := by rfl) : PI X tg e (iSeq K te) := by subst h; exact pi_seq he
theorem k_iZN {x : Str} {p p2 pos tp : Pos} (hg : Gl X "zip") (hm : X.mg "zip" = none) (he : PE X e te) (h : X.K = K := by rfl) : PI X (.Name x tp) (.Call (.Name "zip" p) [.Starred e p2] [] pos) (iZipN K te) := by subst h; exact pi_zipN hg hm he
theorem k_gT {es : List Expr} {k : Nat} {u : TGs} {n : Nat} (hc : X.calm = true) (hu : PGs X es u) (hn : (assignEach es X.env).length = n := by rfl) (hst : (assignEach es X.env).findIdx? (·.1) = none := by rfl) (h : X.K = K := by rfl) : PG X (.Tuple es k pos) (gTup K n u) := by
  subst h
  exact pg_tup hc hu hn hst
end
end Fw
set_option Elab.async false
set_option linter.all false
set_option maxRecDepth 100000
set_option maxHeartbeats 4000000
/-! logs, orders, posts: as data, as objects -/
namespace Fw
open PySem PySem.Spec PyProof.Rows L2

/-! ### logs as data -/
abbrev Ma := Nm × Nat × List Nat
def encMa (p : Ma) : PyData := .tuple [.str p.1.1, .int (p.2.1 : Nat), .tuple (p.2.2.map fun i : Nat => PyData.int i)]
structure Lg where
  ma : List Ma
  ms : List Mg
def Lg.evs (L : Lg) : List Et := L.ma.flatMap fun p => (List.range p.2.1).map fun i => (p.1, i)
def Lg.marked (L : Lg) : List Et := L.ma.flatMap fun p => p.2.2.map fun i => (p.1, i)
def encLg (L : Lg) : PyData := .tuple [.tuple (L.ma.map encMa), .tuple (L.ms.map encM)]
structure LgOk (L : Lg) : Prop where
  nd : (L.ma.map (·.1)).Nodup
  ms : ∀ m ∈ L.ms, m.1 ∈ L.evs ∧ m.2 ∈ L.evs
  le : L.evs.length ≤ 100
  lm : L.ms.length ≤ 100
  la : L.ma.length ≤ 10
  mm : ∀ e ∈ L.marked, e ∈ L.evs
  lk : L.marked.length ≤ 100
theorem Lg.mem {L : Lg} {e : Et} : e ∈ L.evs ↔ ∃ p ∈ L.ma, p.1 = e.1 ∧ e.2 < p.2.1 := by
  unfold Lg.evs
  rw [List.mem_flatMap]
  constructor
  · rintro ⟨p, hp, h⟩
    obtain ⟨i, hi, rfl⟩ := List.mem_map.mp h
    exact ⟨p, hp, rfl, List.mem_range.mp hi⟩
  · rintro ⟨p, hp, h1, h2⟩
    refine ⟨p, hp, List.mem_map.mpr ⟨e.2, List.mem_range.mpr h2, ?_⟩⟩
    rw [h1]
theorem Lg.down {L : Lg} (x : Nm) (i j : Nat) (h : (x, j) ∈ L.evs) (l : i ≤ j) : (x, i) ∈ L.evs := by
  obtain ⟨p, hp, h1, h2⟩ := Lg.mem.mp h
  exact Lg.mem.mpr ⟨p, hp, h1, Nat.lt_of_le_of_lt l h2⟩
/-- ahead of, up to -/
noncomputable def ah (L : Lg) (o e : Et) : Bool := @decide (Reach (Nx L.evs L.ms) o e) (Classical.propDecidable _)
theorem ah_iff {L : Lg} {o e : Et} : ah L o e = true ↔ Reach (Nx L.evs L.ms) o e := by
  unfold ah
  exact @decide_eq_true_iff _ (Classical.propDecidable _)
noncomputable def up (L : Lg) (o e : Et) : Bool := decide (o = e) || ah L o e
theorem up_ok (L : Lg) : UpOk L.evs L.ms (up L) := fun o e _ => by
  unfold up
  rw [Bool.or_eq_true, decide_eq_true_eq, ah_iff]
abbrev Rows := List Row
def encRow (r : Row) : PyData := .tuple (r.map encE)
def encRows (C : Rows) : PyData := .tuple (C.map encRow)
structure RwOk (L : Lg) (C : Rows) : Prop where
  n : C.length ≤ 10
  l : ∀ r ∈ C, r.length ≤ 100
  e : ∀ r ∈ C, ∀ x ∈ r, x ∈ L.evs
/-- a vector, entries, as data -/
def vecD (C : Rows) (f : Row → Nat) : PyData := .tuple (C.map fun r => PyData.int (f r : Nat))
def encN (p : Nat × Nat) : PyData := .tuple [.int (p.1 : Nat), .int (p.2 : Nat)]
def entD (C : Rows) (f : Row → Option Nat) : PyData := .tuple ((ents f C).map encN)
theorem Sh.row (r : Row) : Sh 2 (encRow r) := Sh.tups Sh.ev
theorem Sh.vec (C : Rows) (f : Row → Nat) : Sh 1 (vecD C f) := Sh.tups fun _ => Sh.int _
theorem Sh.ent (p : Nat × Nat) : Sh 1 (encN p) := Sh.tup2 (Sh.int _) (Sh.int _)
theorem Sh.ents (C : Rows) (f : Row → Option Nat) : Sh 2 (entD C f) := Sh.tups Sh.ent
theorem eqv_encN (a b : Nat × Nat) : PyData.eqv (encN a) (encN b) = decide (a = b) := by
  obtain ⟨x, i⟩ := a
  obtain ⟨y, j⟩ := b
  have h : PyData.eqv (encN (x, i)) (encN (y, j)) = ((x : Int) == (y : Int) && ((i : Int) == (j : Int) && true)) := by simp [encN, PyData.eqv, PyData.eqvAll]
  rw [h]
  by_cases h1 : x = y
  · subst h1
    by_cases h2 : i = j
    · subst h2
      simp
    · have h3 : ((i : Int) == (j : Int)) = false := by
        rw [beq_eq_false_iff_ne]
        omega
      rw [h3]
      simp [h2]
  · have h3 : ((x : Int) == (y : Int)) = false := by
      rw [beq_eq_false_iff_ne]
      omega
    rw [h3]
    simp [h1]

/-! ### keys -/
def keyE (e : Et) : List Key := [Sum.inr e.1.1, Sum.inl (e.2 : Int)]
theorem keyE_inj {a b : Et} (h : keyE a = keyE b) : a = b := by
  obtain ⟨⟨x, hx⟩, i⟩ := a
  obtain ⟨⟨y, hy⟩, j⟩ := b
  simp only [keyE, List.cons.injEq, Sum.inr.injEq, Sum.inl.injEq, and_true] at h
  obtain ⟨h1, h2⟩ := h
  have h3 : i = j := by omega
  subst h1 h3
  rfl
theorem tk_key {H : Hp} {v : V} {e : Et} (h : Tk H v (encE e)) : ∃ a, v = .ref a ∧ H a = some (.tup ((keyE e).map kV)) := by
  obtain ⟨a, xs, rfl, h1, h2⟩ := Tk.tup_inv h
  cases h2 with
  | cons p1 h2 =>
    cases h2 with
    | cons p2 h2 =>
      cases h2
      rw [p1.str_inv, p2.int_inv] at h1
      exact ⟨a, rfl, h1⟩

/-! ### dicts by event, as far as they are known -/
def kAny : Kn := ⟨fun _ _ => True, fun _ _ => True.intro⟩
def OptK (o : Option V) (k : Option Kn) (B : Hp) : Prop := match o, k with
  | some v, some k => k.p v B
  | none, none => True
  | _, _ => False
theorem OptK.ex {o : Option V} {k : Option Kn} {B B' : Hp} (e : Ex B B') (h : OptK o k B) : OptK o k B' := by
  cases o <;> cases k <;> first | exact h.elim | exact True.intro | exact Kn.mono _ e h
theorem OptK.some {o : Option V} {k : Kn} {B : Hp} (h : OptK o (some k) B) : ∃ v, o = some v ∧ k.p v B := by
  cases o with
  | none => exact h.elim
  | some v => exact ⟨v, rfl, h⟩
theorem OptK.is {o : Option V} {k : Option Kn} {B : Hp} (h : OptK o k B) : o.isSome = k.isSome := by
  cases o <;> cases k <;> first | exact h.elim | rfl
/-- what the dict kvs tells -/
def DtK (kvs : List (List Key × V)) (f : Et → Option Kn) (B : Hp) : Prop := ∀ e, OptK (valV kvs (keyE e)) (f e) B
theorem DtK.ex {kvs : List (List Key × V)} {f : Et → Option Kn} {B B' : Hp} (e : Ex B B') (h : DtK kvs f B) : DtK kvs f B' := fun x => (h x).ex e
def kDT (f : Et → Option Kn) : Kn := ⟨fun v H => ∃ a kvs, v = .ref a ∧ H a = some (.dT kvs) ∧ DtK kvs f H, fun e ⟨a, kvs, h1, h2, h3⟩ => ⟨a, kvs, h1, e _ _ h2, h3.ex e⟩⟩
/-- a set of events, as a dict -/
def kST (S : Et → Bool) : Kn := kDT fun e => if S e then some kAny else none
section
variable {Γ : Ga} {M M1 M2 : List Mu} {ta tb : TE} {K : PySem.W.Frag} {k kz : Kn} {f : Et → Option Kn} {e : Et}
theorem ev_dgetT (hd : Ev ta Γ M M1 (kDT f)) (hy : Ev tb Γ M1 M2 (kD (encE e))) (h : f e = some kz) : Ev (tDGet ta tb) Γ M M2 kz := ev_dget hd hy fun x y F B C o ⟨a, kvs, h1, h2, h3⟩ py => by
  obtain ⟨b, rfl, h4⟩ := tk_key py
  have h5 := h3 e
  rw [h] at h5
  obtain ⟨v, h6, h7⟩ := h5.some
  exact ⟨a, v, h1, by rw [← h6]; exact DGet.t (o.ex _ _ h2) (o.ex _ _ h4), h7⟩
theorem ev_dinT {b : Bool} (hy : Ev ta Γ M M1 (kD (encE e))) (hd : Ev tb Γ M1 M2 (kDT f)) (h : (f e).isSome = b) : Ev (tDIn ta tb) Γ M M2 (kB b) := ev_din hy hd fun x y F B C o ⟨a, kvs, h1, h2, h3⟩ py => by
  obtain ⟨c, rfl, h4⟩ := tk_key py
  exact ⟨a, _, h1, DGet.t (o.ex _ _ h2) (o.ex _ _ h4), (h3 e).is.trans h⟩

/-! ### instances with slots -/
def kSlI (Cl : Addr) (ks : List (Option Kn)) : Kn := ⟨fun v H => ∃ a dx vs, v = .ref a ∧ SlX.Slt H a Cl dx vs ∧ ∀ (i : Nat) (k : Kn), ks[i]? = some (some k) → ∃ u, vs[i]? = some (some u) ∧ k.p u H, fun e ⟨a, dx, vs, h1, h2, h3⟩ => ⟨a, dx, vs, h1, slt_ex e h2, fun i k q => by
  obtain ⟨u, h4, h5⟩ := h3 i k q
  exact ⟨u, h4, k.mono e h5⟩⟩⟩
theorem slI_is {Cl : Addr} {ks : List (Option Kn)} : ∀ v F B C, OkM (M ++ F) B C → (kSlI Cl ks).p v B → ∃ a dx vs, v = .ref a ∧ SlX.Slt C a Cl dx vs := fun v F B C o ⟨a, dx, vs, h1, h2, _⟩ => ⟨a, dx, vs, h1, slt_ex o.ex h2⟩
theorem ev_slotI {Cl p : Addr} {ks : List (Option Kn)} {x : Str} {i : Nat} (h : Ev ta Γ M M1 (kSlI Cl ks)) (c : SlX.SCls K Cl) (s1 : SlX.Slot1 K Cl x p i) (hk : ks[i]? = some (some kz)) : Ev (SlX.tSl K ta x) Γ M M1 kz := ev_slot h fun v F B C o ⟨a, dx, vs, h1, h2, h3⟩ => by
  obtain ⟨u, h4, h5⟩ := h3 i kz hk
  exact ⟨a, Cl, dx, p, vs, i, u, h1, slt_ex o.ex h2, c, s1, h4, h5⟩
theorem ei_ownL {Cl : Addr} {ks : List (Option Kn)} {i : Nat} {ds : List PyData} (h : Ev ta Γ M M1 (kSlI Cl ks)) (hk : ks[i]? = some (some (kD (.list ds)))) : EvI (iOwnL K Cl i ta) Γ M M1 [] (ds.map kD) := fun F σ B C s o R q =>
  h F σ B C s o _ fun x B1 C1 e1 o1 ⟨a, dx, vs, h1, h2, h3⟩ => by
    obtain ⟨u, h4, h5⟩ := h3 i _ hk
    obtain ⟨l, xs, rfl, h6, h7⟩ := Tk.lst_inv h5
    exact ⟨a, dx, vs, l, h1, slt_ex o1.ex h2, h4, ⟨xs, SqL.of (o1.ex _ _ h6)⟩, q _ B1 C1 e1 o1 (goes_list h6 (AllK.data.mpr h7))⟩
theorem ei_ownT {Cl : Addr} {ks : List (Option Kn)} {i : Nat} {ds : List PyData} (h : Ev ta Γ M M1 (kSlI Cl ks)) (hk : ks[i]? = some (some (kD (.tuple ds)))) : EvI (iOwnT K Cl i ta) Γ M M1 [] (ds.map kD) := fun F σ B C s o R q =>
  h F σ B C s o _ fun x B1 C1 e1 o1 ⟨a, dx, vs, h1, h2, h3⟩ => by
    obtain ⟨u, h4, h5⟩ := h3 i _ hk
    obtain ⟨l, xs, rfl, h6, h7⟩ := Tk.tup_inv h5
    exact ⟨a, dx, vs, l, h1, slt_ex o1.ex h2, h4, ⟨xs, SqT.of (o1.ex _ _ h6)⟩, q _ B1 C1 e1 o1 (goes_tup h6 (AllK.data.mpr h7))⟩
end
noncomputable def kPast (L : Lg) : Kn := kDT fun e => if e ∈ L.evs then some (kST fun o => ah L o e) else none
noncomputable def kOrd (K : PySem.W.Frag) (L : Lg) : Kn := kSlI (He.ga K "Order") [some (kD (.list (L.evs.map encE))), none, none, some (kPast L)]
noncomputable def kPost (K : PySem.W.Frag) (L : Lg) (C : Rows) : Kn := kSlI (He.ga K "Post") [some (kD (.tuple (L.ms.map encM))), some (kOrd K L), some (kD (encRows C))]

/-! ### tupled -/
mutual
def tpl : PyData → PyData
  | .list ds => .tuple (tplAll ds)
  | .tuple ds => .tuple (tplAll ds)
  | d => d
def tplAll : List PyData → List PyData
  | [] => []
  | d :: ds => tpl d :: tplAll ds
end
mutual
/-- no dicts, no long lists -/
def fit : PyData → Bool
  | .list ds => decide (ds.length ≤ 50000) && fitAll ds
  | .tuple ds => decide (ds.length ≤ 50000) && fitAll ds
  | .dict _ => false
  | _ => true
def fitAll : List PyData → Bool
  | [] => true
  | d :: ds => fit d && fitAll ds
end
theorem tplAll_eq : ∀ ds : List PyData, tplAll ds = ds.map tpl
  | [] => rfl
  | d :: ds => by rw [List.map_cons, ← tplAll_eq ds]; rfl
theorem fitAll_mem : ∀ {ds : List PyData}, fitAll ds = true → ∀ d ∈ ds, fit d = true
  | [], _, _, h => by cases h
  | d :: ds, h, e, he => by
    have h2 := Bool.and_eq_true_iff.mp (show (fit d && fitAll ds) = true from h)
    rcases List.mem_cons.mp he with rfl | he
    · exact h2.1
    · exact fitAll_mem h2.2 e he
theorem fitAll_of : ∀ {ds : List PyData}, (∀ d ∈ ds, fit d = true) → fitAll ds = true
  | [], _ => rfl
  | d :: ds, h => by
    show (fit d && fitAll ds) = true
    rw [h d (List.mem_cons_self ..), fitAll_of fun e he => h e (List.mem_cons_of_mem _ he)]
    rfl
/-- tuples of flat things are fixed -/
def Fx (d : PyData) : Prop := tpl d = d ∧ fit d = true
theorem Fx.int (i : Int) : Fx (.int i) := ⟨by simp [tpl], by simp [fit]⟩
theorem Fx.str (i : Str) : Fx (.str i) := ⟨by simp [tpl], by simp [fit]⟩
theorem Fx.tup {ds : List PyData} (h : ∀ d ∈ ds, Fx d) (hl : ds.length ≤ 50000) : Fx (.tuple ds) := by
  refine ⟨?_, ?_⟩
  · show tpl (.tuple ds) = _
    simp only [tpl]
    rw [tplAll_eq, List.map_congr_left (g := id) fun d hd => (h d hd).1, List.map_id]
  · show fit (.tuple ds) = true
    simp only [fit]
    rw [fitAll_of fun d hd => (h d hd).2, decide_eq_true hl]
    rfl
theorem Fx.tup2 {a b : PyData} (h : Fx a) (k : Fx b) : Fx (.tuple [a, b]) := Fx.tup (fun d hd => by
  rcases List.mem_cons.mp hd with rfl | hd
  · exact h
  · rcases List.mem_cons.mp hd with rfl | hd
    · exact k
    · cases hd) (by show 2 ≤ 50000; decide)
theorem Fx.ev (e : Et) : Fx (encE e) := Fx.tup2 (Fx.str _) (Fx.int _)
theorem Fx.mg (m : Mg) : Fx (encM m) := Fx.tup2 (Fx.ev _) (Fx.ev _)
theorem Fx.tups {α : Type} {f : α → PyData} {l : List α} (h : ∀ a ∈ l, Fx (f a)) (hl : l.length ≤ 50000) : Fx (.tuple (l.map f)) := Fx.tup (fun d hd => by
  obtain ⟨a, ha, rfl⟩ := List.mem_map.mp hd
  exact h a ha) (by rw [List.length_map]; exact hl)
theorem mem_len {α β : Type} {f : α → List β} : ∀ {l : List α} {a : α}, a ∈ l → (f a).length ≤ (l.flatMap f).length
  | b :: l, a, h => by
    rw [List.flatMap_cons, List.length_append]
    rcases List.mem_cons.mp h with rfl | h
    · omega
    · have := mem_len (f := f) h
      omega
theorem Fx.ma {L : Lg} (ok : LgOk L) {p : Ma} (hp : p ∈ L.ma) : Fx (encMa p) := by
  have h1 : (p.2.2.map fun i => (p.1, i)).length ≤ L.marked.length := mem_len (f := fun p : Ma => p.2.2.map fun i => (p.1, i)) hp
  have h2 := ok.lk
  rw [List.length_map] at h1
  refine Fx.tup (fun d hd => ?_) (by show 3 ≤ 50000; decide)
  rcases List.mem_cons.mp hd with rfl | hd
  · exact Fx.str _
  · rcases List.mem_cons.mp hd with rfl | hd
    · exact Fx.int _
    · rcases List.mem_cons.mp hd with rfl | hd
      · exact Fx.tups (fun _ _ => Fx.int _) (by omega)
      · cases hd
theorem Fx.lg {L : Lg} (ok : LgOk L) : Fx (encLg L) := Fx.tup2 (Fx.tups (fun p hp => Fx.ma ok hp) (by have := ok.la; omega)) (Fx.tups (fun m _ => Fx.mg m) (by have := ok.lm; omega))
theorem Fx.rows {L : Lg} {C : Rows} (ok : RwOk L C) : Fx (encRows C) := Fx.tups (fun r hr => Fx.tups (fun e _ => Fx.ev e) (by have := ok.l r hr; omega)) (by have := ok.n; omega)
theorem Sh.ma (p : Ma) : Sh 2 (encMa p) := Sh.tup fun d hd => by
  rcases List.mem_cons.mp hd with rfl | hd
  · exact (Sh.nm _).mono (by decide)
  · rcases List.mem_cons.mp hd with rfl | hd
    · exact (Sh.int _).mono (by decide)
    · rcases List.mem_cons.mp hd with rfl | hd
      · exact Sh.tups fun _ => Sh.int _
      · cases hd
theorem Sh.lg (L : Lg) : Sh 4 (encLg L) := Sh.tup2 (Sh.tups Sh.ma) ((Sh.tups Sh.mg).mono (by decide))
theorem Sh.rows (C : Rows) : Sh 3 (encRows C) := Sh.tups Sh.row
end Fw
set_option Elab.async false
set_option linter.all false
set_option maxRecDepth 100000
set_option maxHeartbeats 4000000
/-! further operators by what is known -/
namespace Fw
open PySem PySem.Spec PyProof.Rows L2
/-- the heap has grown, and something more is known of the new part -/
theorem OkM.grow {M : List Mu} {B B' C C' : Hp} (h : OkM M B C) (e0 : Ex B B') (ek : Ex B' C') (e1 : Ex C C') (nw : ∀ a o, B' a = some o → B a = none → C a = none) : OkM M B' C' := by
  refine ⟨ek, fun m hm => m.mono e0 (fun a ha => ?_) (h.p m hm), fun m hm a ha => ?_, h.dis⟩
  · obtain ⟨u, q⟩ := m.on (h.p m hm) ha
    rw [q, e1 a u q]
  · cases q : B' a with
    | none => rfl
    | some o =>
      obtain ⟨u, q2⟩ := m.on (h.p m hm) ha
      have := nw a o q (h.off m hm a ha)
      rw [q2] at this
      cases this
section
variable {Γ : Ga} {M M1 M2 : List Mu} {K : PySem.W.Frag} {ta : TA} {te : TE}
theorem ev_lz {β : Type} (cs : List β) (f g : β → PyData) (h : EvA ta Γ M M1 [kD (.tuple (cs.map f)), kD (.tuple (cs.map g))]) (hl : cs.length ≤ 100000) : Ev (tLz K ta) Γ M M1 (kD (.list (cs.map fun c => .tuple [f c, g c]))) := fun F σ B C s o Q q =>
  h F σ B C s o _ fun vs B1 C1 e1 o1 ps => by
    obtain ⟨v, w, rfl, pv, pw⟩ := allK2 ps
    obtain ⟨a, xs, rfl, h1, h2⟩ := Tk.tup_inv pv
    obtain ⟨b, ys, rfl, h3, h4⟩ := Tk.tup_inv pw
    have lx : xs.length = cs.length := by rw [h2.length, List.length_map]
    have ly : ys.length = cs.length := by rw [h4.length, List.length_map]
    have sa : SqT K C1 a xs := SqT.of (o1.ex _ _ h1)
    have sb : SqT K C1 b ys := SqT.of (o1.ex _ _ h3)
    refine ⟨[a, b], cs.length, rfl, by simp, by simp, hl, fun l hm => ?_, fun qa Ts C2 hq hlen hz => ?_⟩
    · rcases List.mem_cons.mp hm with rfl | hm
      · exact ⟨xs, sa, lx⟩
      · rcases List.mem_cons.mp hm with rfl | hm
        · exact ⟨ys, sb, ly⟩
        · cases hm
    · have old : Ex C1 C2 := fun c u hc => by
        rw [hz.old c (fun e => by rw [e, hq] at hc; cases hc) fun hm => by
          have := (hz.new c hm).1
          rw [hc] at this
          cases this]
        exact hc
      let B2 : Hp := fun c => if c = qa ∨ c ∈ Ts then C2 c else B1 c
      have b2 : ∀ c, (c = qa ∨ c ∈ Ts) → B2 c = C2 c := fun c hc => if_pos hc
      have b3 : ∀ c, ¬ (c = qa ∨ c ∈ Ts) → B2 c = B1 c := fun c hc => if_neg hc
      have nw : ∀ c, (c = qa ∨ c ∈ Ts) → C1 c = none := fun c hc => by
        rcases hc with rfl | hc
        · exact hq
        · exact (hz.new c hc).1
      have e12 : Ex B1 B2 := fun c u hc => by
        by_cases hm : c = qa ∨ c ∈ Ts
        · have := o1.ex c u hc
          rw [nw c hm] at this
          cases this
        · rw [b3 c hm]
          exact hc
      have e22 : Ex B2 C2 := fun c u hc => by
        by_cases hm : c = qa ∨ c ∈ Ts
        · rw [b2 c hm] at hc
          exact hc
        · rw [b3 c hm] at hc
          exact old c u (o1.ex c u hc)
      refine q _ B2 C2 (e1.trans e12) (o1.grow e12 e22 old fun c u hc hn => ?_) ?_
      · by_cases hm : c = qa ∨ c ∈ Ts
        · exact nw c hm
        · rw [b3 c hm, hn] at hc
          cases hc
      · refine .lst (by rw [b2 qa (.inl rfl)]; exact hz.q) (TkAll.of (by rw [List.length_map, List.length_map]; exact hlen) fun j v d hv hd => ?_)
        rw [List.getElem?_map] at hv hd
        have hj : j < cs.length := by
          cases e : cs[j]? with
          | none =>
            rw [e] at hd
            cases hd
          | some c => exact (List.getElem?_eq_some_iff.mp e).1
        rw [List.getElem?_eq_getElem (by omega : j < Ts.length)] at hv
        rw [List.getElem?_eq_getElem hj] at hd
        cases hv
        cases hd
        obtain ⟨us, hu, hp⟩ := hz.t j _ (List.getElem?_eq_getElem (by omega : j < Ts.length))
        obtain ⟨l1, c1⟩ := hp 0 a xs rfl sa
        obtain ⟨_, c2⟩ := hp 1 b ys rfl sb
        have hx : xs[j]? = some (xs[j]'(by omega)) := List.getElem?_eq_getElem _
        have hy : ys[j]? = some (ys[j]'(by omega)) := List.getElem?_eq_getElem _
        rw [hx] at c1
        rw [hy] at c2
        have eu : us = [xs[j]'(by omega), ys[j]'(by omega)] := by
          match us, l1, c1, c2 with
          | [u1, u2], _, c1, c2 =>
            simp at c1 c2
            rw [c1, c2]
        rw [eu] at hu
        obtain ⟨d1, g1, t1⟩ := h2.get hx
        obtain ⟨d2, g2, t2⟩ := h4.get hy
        rw [List.getElem?_map, List.getElem?_eq_getElem hj] at g1 g2
        cases g1
        cases g2
        exact .tup (by rw [b2 _ (.inr (List.getElem_mem _))]; exact hu) (.cons (Tk.ex e12 _ _ t1) (.cons (Tk.ex e12 _ _ t2) .nil))
/-- enumerate of a known list -/
theorem ei_enum {ks : List Kn} (h : Ev te Γ M M1 (kLst ks)) : EvI (iEnum K (tCons te tNil)) Γ M M1 [] (ks.zipIdx.map fun p => kTup [kI p.2, p.1]) := fun F σ B C s o R q =>
  h F σ B C s o _ fun v B1 C1 e1 o1 ⟨a, xs, ev, h1, h2⟩ => by
    refine ⟨a, xs, by rw [ev], SqL.of (o1.ex _ _ h1), q _ B1 C1 e1 o1 ?_⟩
    have hl := h2.length
    refine ⟨fun N B C _ e o i hi => ⟨xs, xs[i]'(by simp at hi; omega), SqL.of (o.ex _ _ (e _ _ h1)), List.getElem?_eq_getElem _⟩, fun N B C _ e o => ⟨xs, SqL.of (o.ex _ _ (e _ _ h1)), by simp; omega⟩, fun N B C _ e o i k x C' hk hy => ?_⟩
    obtain ⟨T, y, rfl, hT, rfl, hall⟩ := hy
    rw [List.getElem?_map, List.getElem?_zipIdx] at hk
    cases hki : ks[i]? with
    | none =>
      rw [hki] at hk
      cases hk
    | some k0 =>
      rw [hki] at hk
      cases hk
      obtain ⟨v, hv, pv⟩ := h2.at hki
      have h3 := hall xs (SqL.of (o.ex _ _ (e _ _ h1)))
      rw [hv] at h3
      cases h3
      have en := Ex.new (o := HO.tup [.int (i : Nat), y]) (o.ex.back hT)
      refine ⟨upd B T (.tup [.int (i : Nat), y]), en, o.new hT, T, _, rfl, upd_same, .cons ?_ (.cons (k0.mono (e.trans en) pv) .nil)⟩
      have : (0 : Nat) + i = i := Nat.zero_add i
      simp only [Nat.zero_add]
      exact .int _
theorem ei_enumD {ds : List PyData} (h : Ev te Γ M M1 (kD (.list ds))) : EvI (iEnum K (tCons te tNil)) Γ M M1 [] ((ds.zipIdx.map fun p => PyData.tuple [.int (p.2 : Nat), p.1]).map kD) := fun F σ B C s o R q => by
  have h2 := ei_enum (K := K) (ks := ds.map kD) (h.to fun _ _ p => kLst_data.mpr p) F σ B C s o R
  refine h2 fun J B' C' e o' g => q J B' C' e o' ?_
  have hl : (((ds.map kD).zipIdx).map fun p => kTup [kI p.2, p.1]).length = ((ds.zipIdx.map fun p => PyData.tuple [.int (p.2 : Nat), p.1]).map kD).length := by simp
  refine ⟨fun N B C a b c i hi => g.go N B C a b c i (by rw [hl]; exact hi), fun N B C a b c => by rw [← hl]; exact g.stop N B C a b c, fun N B C a b c i k x C'' hk hy => ?_⟩
  have hi : i < ds.length := by
    have := (List.getElem?_eq_some_iff.mp hk).1
    simpa using this
  have hk2 : (((ds.map kD).zipIdx).map fun p => kTup [kI p.2, p.1])[i]? = some (kTup [kI (i : Nat), kD ds[i]]) := by
    rw [List.getElem?_map, List.getElem?_zipIdx, List.getElem?_map, List.getElem?_eq_getElem hi]
    simp
  have ek : k = kD (.tuple [.int (i : Nat), ds[i]]) := by
    rw [List.getElem?_map, List.getElem?_map, List.getElem?_zipIdx, List.getElem?_eq_getElem hi] at hk
    simp at hk
    exact hk.symm
  subst ek
  obtain ⟨B2, e2, o2, p2⟩ := g.yld N B C a b c i _ x C'' hk2 hy
  exact ⟨B2, e2, o2, kTup_data (ds := [.int (i : Nat), ds[i]]).mp p2⟩
/-- max of a tuple -/
theorem ck_maxT {n : Int} {ns : List Int} : CK (rMaxT K) M [kD (.tuple ((n :: ns).map .int))] (kI (ns.foldl max n)) := fun xs F B C o ps Q q => by
  obtain ⟨v, rfl, pv⟩ := allK1 ps
  obtain ⟨a, ys, rfl, h1, h2⟩ := pv.tup_inv
  rw [h2.ints] at h1
  exact ⟨a, n, ns, rfl, SqT.of (o.ex _ _ h1), q _ B C (Ex.refl B) o (.int _)⟩
/-! isinstance -/
def tyD : PyData → String
  | .none => "NoneType"
  | .bool _ => "bool"
  | .int _ => "int"
  | .str _ => "str"
  | .list _ => "list"
  | .tuple _ => "tuple"
  | .dict _ => "dict"
theorem tk_ty {H C : Hp} {v : V} {d : PyData} (p : Tk H v d) (e : Ex H C) : TyX K C v (.type (tyD d)) := by
  cases p with
  | non => exact .base .non
  | bl b => exact .base (.bl b)
  | int i => exact .base (.int i)
  | str x => exact .base (.str x)
  | lst h _ => exact .base (.lst (e _ _ h))
  | tup h _ => exact .base (.tup (e _ _ h))
theorem ck_isi {d : PyData} {T : String} {b : Bool} (hk : PySem.W.kitOne K (.type (tyD d)) (.type T) = some b) : CK (rIsi K) M [kD d, kC (.ty T)] (kB b) := fun xs F B C o ps Q q => by
  obtain ⟨v, w, rfl, pv, pw⟩ := allK2 ps
  cases (show w = .ty T from pw)
  exact ⟨v, .ty T, _, _, b, rfl, .ty T, tk_ty pv o.ex, hk, q _ B C (Ex.refl B) o (.bl b)⟩
theorem ck_isi2 {d : PyData} {T U : String} {b : Bool} (hk : PySem.W.kitAny K (.type (tyD d)) [.type T, .type U] = some b) : CK (rIsiT K) M [kD d, kTup [kC (.ty T), kC (.ty U)]] (kB b) := fun xs F B C o ps Q q => by
  obtain ⟨v, w, rfl, pv, a, ys, rfl, h1, h2⟩ := allK2 ps
  cases h2 with
  | cons p1 h2 =>
    cases h2 with
    | cons p2 h2 =>
      cases h2
      rename_i v1 v2
      cases (show v1 = .ty T from p1)
      cases (show v2 = .ty U from p2)
      exact ⟨v, a, _, _, _, b, rfl, o.ex _ _ h1, .cons (.ty T) (.cons (.ty U) .nil), tk_ty pv o.ex, hk, q _ B C (Ex.refl B) o (.bl b)⟩
end
end Fw
set_option Elab.async false
set_option linter.all false
set_option maxRecDepth 100000
set_option maxHeartbeats 4000000
/-! objects that change: instances, dicts of objects; two clauses in a comprehension -/
namespace Fw
open PySem PySem.Spec PyProof.Rows L2

/-! ### [e for a in l for b in m(a)] -/
theorem ev_lc2 {α β : Type} {wi wi1 : TI} {g g1 : TG} {te : TE} {vs vs1 : List Nat} {Γ : Ga} {M M1 S : List Mu} (l : List α) (m : α → List β) (ki : α → Kn) (kj : α → β → Kn) (ke : α → β → Kn) (hi : EvI wi Γ M M1 S (l.map ki)) (hS : ∀ m ∈ S, m ∈ M1) (hl : (l.flatMap m).length ≤ 50000)
    (turn : ∀ (i : Nat) (a : α), l[i]? = some a → ∃ Γ1 is, Tg g (ki a) (wipeG Γ vs) Γ1 is ∧ (∀ i ∈ is, i ∈ vs) ∧ EvI wi1 Γ1 M1 M1 [] ((m a).map (kj a)) ∧ ∀ (j : Nat) (b : β), (m a)[j]? = some b → ∃ Γ2 js, Tg g1 (kj a b) (wipeG Γ1 vs1) Γ2 js ∧ (∀ i ∈ js, i ∈ vs1) ∧ Ev te Γ2 M1 M1 (ke a b)) :
    Ev (tLc2 wi g tYes wi1 g1 tYes te vs vs1) Γ M M1 (kLst (l.flatMap fun a => (m a).map (ke a))) := fun F σ B0 C0 sk o0 Q q =>
  hi F σ B0 C0 sk o0 _ fun J A C1 eA oA goes => fun D hD => by
    have hadd := oA.add (m := mLst D []) (C' := upd C1 D (.lst [])) (oA.ex.mut (oA.ex.back hD)) (fun a u z => by rw [upd_ne (ne_of_none z hD)]; exact z) ⟨[], upd_same, .nil⟩ fun a z => by rw [z]; exact hD
    have hlen : (l.map ki).length = l.length := by simp
    have sub : ∀ ks : List Kn, ∀ m ∈ S, m ∈ mLst D ks :: (M1 ++ F) := fun ks m hm => List.mem_cons_of_mem _ (List.mem_append_left _ (hS m hm))
    have perm : ∀ ks : List Kn, (mLst D ks :: (M1 ++ F)).Perm (M1 ++ (mLst D ks :: F)) := fun ks => List.perm_middle.symm
    let done : Nat → List Kn := fun i => (l.take i).flatMap fun a => (m a).map (ke a)
    have dlen : ∀ i, (done i).length ≤ 50000 := fun i => by
      have h1 : (done i).length = ((l.take i).flatMap m).length := by
        simp only [done]
        induction l.take i with
        | nil => rfl
        | cons a r ih => simp only [List.flatMap_cons, List.length_append, List.length_map, ih]
      have h2 : ((l.take i).flatMap m).length ≤ (l.flatMap m).length := by
        have e : l.flatMap m = (l.take i).flatMap m ++ (l.drop i).flatMap m := by rw [← List.flatMap_append, List.take_append_drop]
        rw [e, List.length_append]
        omega
      omega
    refine ⟨fun i n C => n = l.length - i ∧ i ≤ l.length ∧ ∃ B, Ex A B ∧ OkM (mLst D (done i) :: (M1 ++ F)) B C, ⟨l.length, by simp, Nat.zero_le _, A, Ex.refl A, hadd⟩, ?_⟩
    rintro i n C ⟨rfl, hil, B, eAB, ok⟩
    by_cases hlt : i < l.length
    · have hla : l[i]? = some l[i] := List.getElem?_eq_getElem hlt
      have hka : (l.map ki)[i]? = some (ki l[i]) := by rw [List.getElem?_map, hla]; rfl
      have htk : l.take (i + 1) = l.take i ++ [l[i]] := take_next hla
      have hdn : done (i + 1) = done i ++ (m l[i]).map (ke l[i]) := by
        simp only [done, htk, List.flatMap_append, List.flatMap_cons, List.flatMap_nil, List.append_nil]
      refine .inr ⟨goes.go _ B C (sub _) eAB ok i (by omega), fun C' => i + 1 ≤ l.length ∧ ∃ B, Ex A B ∧ OkM (mLst D (done (i + 1)) :: (M1 ++ F)) B C', fun C' h => ⟨l.length - (i + 1), by omega, rfl, h⟩, fun x C1 hy => ?_⟩
      obtain ⟨B1, e1, ok1, px⟩ := goes.yld _ B C (sub _) eAB ok i _ x C1 hka hy
      obtain ⟨Γ1, is, htg, hsub, hi1, hin⟩ := turn i _ hla
      have sk1 : Sk (wipeG Γ vs) B1 (wipe σ vs) := (sk.ex ((eA.trans eAB).trans e1)).wipe vs
      refine htg _ x _ B1 C1 sk1 ok1 px _ fun σ2 sk2 hoff hlen2 => ⟨wipe_same (fun j hj => hoff j fun z => hj (hsub j z)) hlen2, ?_⟩
      unfold tYes
      simp only [if_true]
      refine hi1 (mLst D (done i) :: F) σ2 B1 C1 sk2 (ok1.perm (perm _)) _ fun J1 B2 C2 e2 ok2 goes1 => ?_
      refine ⟨fun j n C => n = (m l[i]).length - j ∧ j ≤ (m l[i]).length ∧ ∃ B, Ex B2 B ∧ OkM (M1 ++ (mLst D (done i ++ ((m l[i]).take j).map (ke l[i])) :: F)) B C, ⟨_, rfl, Nat.zero_le _, B2, Ex.refl B2, by simpa using ok2⟩, ?_⟩
      rintro j n C3 ⟨rfl, hjl, B3, e3, ok3⟩
      have hlen1 : ((m l[i]).map (kj l[i])).length = (m l[i]).length := by simp
      by_cases hjt : j < (m l[i]).length
      · have hmb : (m l[i])[j]? = some (m l[i])[j] := List.getElem?_eq_getElem hjt
        have hkb : ((m l[i]).map (kj l[i]))[j]? = some (kj l[i] (m l[i])[j]) := by rw [List.getElem?_map, hmb]; rfl
        refine .inr ⟨goes1.go _ B3 C3 (fun _ z => nomatch z) e3 ok3 j (by omega), fun C' => j + 1 ≤ (m l[i]).length ∧ ∃ B, Ex B2 B ∧ OkM (M1 ++ (mLst D (done i ++ ((m l[i]).take (j + 1)).map (ke l[i])) :: F)) B C', fun C' h => ⟨(m l[i]).length - (j + 1), by omega, rfl, h⟩, fun y C4 hy2 => ?_⟩
        obtain ⟨B4, e4, ok4, py⟩ := goes1.yld _ B3 C3 (fun _ z => nomatch z) e3 ok3 j _ y C4 hkb hy2
        obtain ⟨Γ2, js, htg2, hsub2, hte⟩ := hin j _ hmb
        have sk3 : Sk (wipeG Γ1 vs1) B4 (wipe σ2 vs1) := (sk2.ex ((e2.trans e3).trans e4)).wipe vs1
        refine htg2 _ y _ B4 C4 sk3 ok4 py _ fun σ3 sk4 hoff2 hlen3 => ⟨wipe_same (fun j hj => hoff2 j fun z => hj (hsub2 j z)) hlen3, ?_⟩
        simp only [if_true]
        refine hte (mLst D (done i ++ ((m l[i]).take j).map (ke l[i])) :: F) σ3 B4 C4 sk4 ok4 _ fun z B5 C5 e5 ok5 pz => ?_
        have ok6 := ok5.perm (perm _).symm
        obtain ⟨acc, hacc, hall⟩ := ok6.head
        have z1 := hall.length
        have z2 := dlen (i + 1)
        rw [hdn] at z2
        simp only [List.length_append, List.length_map, List.length_take] at z1 z2
        refine ⟨acc, hacc, by rw [sizeLine_eq]; omega, hjt, B5, (e3.trans e4).trans e5, OkM.perm ?_ (perm _)⟩
        refine ok6.chg (m' := mLst D (done i ++ ((m l[i]).take (j + 1)).map (ke l[i]))) (ok6.ex.mut (ok6.off _ (List.mem_cons_self ..) D rfl)) (fun a ha => upd_ne ha) ⟨acc ++ [z], upd_same, ?_⟩ fun a ha => .inl ha
        rw [take_next hmb, List.map_append, ← List.append_assoc]
        exact hall.append (.cons pz .nil)
      · have ej : j = (m l[i]).length := by omega
        subst ej
        refine .inl ⟨by have := goes1.stop _ B3 C3 (fun _ z => nomatch z) e3 ok3; rwa [hlen1] at this, hlt, B3, ((eAB.trans e1).trans e2).trans e3, ?_⟩
        rw [hdn]
        rw [List.take_length] at ok3
        exact ok3.perm (perm _).symm
    · have ei : i = l.length := by omega
      subst ei
      have hdn : done l.length = l.flatMap fun a => (m a).map (ke a) := by simp only [done, List.take_length]
      rw [hdn] at ok
      obtain ⟨acc, hacc, hall⟩ := ok.head
      have hBD : B D = none := ok.off _ (List.mem_cons_self ..) D rfl
      refine .inl ⟨by have := goes.stop _ B C (sub _) eAB ok; rwa [hlen] at this, q _ (upd B D (.lst acc)) C ((eA.trans eAB).trans (Ex.new hBD)) (ok.still (Ex.new hBD) (fun a u z => ?_) fun a u z n => ?_) ⟨D, acc, rfl, upd_same, hall.ex (Ex.new hBD)⟩⟩
      · by_cases e : a = D
        · subst e
          rw [upd_same] at z
          cases z
          exact hacc
        · rw [upd_ne e] at z
          exact ok.ex a u z
      · by_cases e : a = D
        · exact e
        · rw [upd_ne e, n] at z
          cases z
theorem ev_lc2D {α β : Type} {wi wi1 : TI} {g g1 : TG} {te : TE} {vs vs1 : List Nat} {Γ : Ga} {M M1 S : List Mu} (l : List α) (m : α → List β) (ki : α → Kn) (kj : α → β → Kn) (ke : α → β → PyData) (hi : EvI wi Γ M M1 S (l.map ki)) (hS : ∀ m ∈ S, m ∈ M1) (hl : (l.flatMap m).length ≤ 50000)
    (turn : ∀ (i : Nat) (a : α), l[i]? = some a → ∃ Γ1 is, Tg g (ki a) (wipeG Γ vs) Γ1 is ∧ (∀ i ∈ is, i ∈ vs) ∧ EvI wi1 Γ1 M1 M1 [] ((m a).map (kj a)) ∧ ∀ (j : Nat) (b : β), (m a)[j]? = some b → ∃ Γ2 js, Tg g1 (kj a b) (wipeG Γ1 vs1) Γ2 js ∧ (∀ i ∈ js, i ∈ vs1) ∧ Ev te Γ2 M1 M1 (kD (ke a b))) :
    Ev (tLc2 wi g tYes wi1 g1 tYes te vs vs1) Γ M M1 (kD (.list (l.flatMap fun a => (m a).map (ke a)))) :=
  (ev_lc2 l m ki kj (fun a b => kD (ke a b)) hi hS hl turn).to fun v H p => kLst_data.mp (by
    rw [List.map_flatMap]
    simpa [List.map_map, Function.comp_def] using p)

/-! ### contents -/
structure Ct where
  p : HO → Hp → Prop
  mono : ∀ {o : HO} {B B' : Hp}, Ex B B' → p o B → p o B'
def cLst (ks : List Kn) : Ct := ⟨fun o B => ∃ xs, o = .lst xs ∧ AllK B ks xs, fun e ⟨xs, h1, h2⟩ => ⟨xs, h1, h2.ex e⟩⟩
/-- a dict whose keys are the events of S, at most n of them -/
def cSet (S : Et → Bool) (n : Nat) : Ct := ⟨fun o _ => ∃ kvs, o = .dT kvs ∧ kvs.length ≤ n ∧ ∀ e, (valV kvs (keyE e)).isSome = S e, fun _ h => h⟩
def mOb (a : Addr) (c : Ct) : Mu where
  fp := fun b => b = a
  p := fun B C => ∃ o, C a = some o ∧ c.p o B
  on := fun ⟨o, h, _⟩ e => ⟨o, e ▸ h⟩
  mono := fun e st ⟨o, h1, h2⟩ => ⟨o, (st _ rfl).trans h1, c.mono e h2⟩
/-- a dict at D from events to the objects As, each with its content; at most n entries -/
def mDM (D : Addr) (As : Et → Option Addr) (c : Et → Ct) (n : Nat) : Mu where
  fp := fun b => b = D ∨ ∃ e, As e = some b
  p := fun B C => (∃ kvs, C D = some (.dT kvs) ∧ kvs.length ≤ n ∧ ∀ e, valV kvs (keyE e) = (As e).map V.ref) ∧ (∀ e a, As e = some a → ∃ o, C a = some o ∧ (c e).p o B) ∧ (∀ e e' a, As e = some a → As e' = some a → e = e') ∧ ∀ e a, As e = some a → a ≠ D
  on := fun ⟨⟨kvs, h1, _, _⟩, h2, _⟩ e => by
    rcases e with rfl | ⟨e, h⟩
    · exact ⟨_, h1⟩
    · obtain ⟨o, h3, _⟩ := h2 e _ h
      exact ⟨o, h3⟩
  mono := fun ex st ⟨⟨kvs, h1, hn, h2⟩, h3, h4, h5⟩ => ⟨⟨kvs, (st _ (.inl rfl)).trans h1, hn, h2⟩, fun e a h => by
    obtain ⟨o, h6, h7⟩ := h3 e a h
    exact ⟨o, (st _ (.inr ⟨e, h⟩)).trans h6, (c e).mono ex h7⟩, h4, h5⟩
abbrev cL (f : Et → List Kn) : Et → Ct := fun e => cLst (f e)
section
variable {Γ Γ1 : Ga} {M M1 M2 M3 : List Mu} {K : PySem.W.Frag} {te ta tb : TE} {k kz : Kn} {D : Addr} {As : Et → Option Addr} {c : Et → Ct} {n : Nat}
theorem Ev.perm (h : Ev te Γ M M1 k) (p : M1.Perm M2) : Ev te Γ M M2 k := fun F σ B C s o Q q => h F σ B C s o Q fun z B' C' e o' pz => q z B' C' e (o'.perm (p.append_right F)) pz
theorem Ev.permI (h : Ev te Γ M M1 k) (p : M2.Perm M) : Ev te Γ M2 M1 k := fun F σ B C s o Q q => h F σ B C s (o.perm (p.append_right F)) Q q
/-- one of its objects changes -/
theorem OkM.dm {F : List Mu} {B C : Hp} {e : Et} {a : Addr} {o : HO} {c' : Et → Ct} (h : OkM (mDM D As c n :: F) B C) (ha : As e = some a) (ho : (c' e).p o B) (hc : ∀ x, x ≠ e → c' x = c x) : OkM (mDM D As c' n :: F) B (upd C a o) := by
  obtain ⟨⟨kvs, h1, hn, h2⟩, h3, h4, h5⟩ := h.head
  have off : B a = none := h.off _ (List.mem_cons_self ..) a (.inr ⟨e, ha⟩)
  refine h.chg (m' := mDM D As c' n) (h.ex.mut off) (fun b hb => upd_ne fun z => hb (.inr ⟨e, by rw [z]; exact ha⟩)) ⟨⟨kvs, by rw [upd_ne (Ne.symm (h5 e a ha))]; exact h1, hn, h2⟩, fun x b hx => ?_, h4, h5⟩ fun b hb => .inl hb
  by_cases q : x = e
  · subst q
    rw [ha] at hx
    cases hx
    exact ⟨o, upd_same, ho⟩
  · obtain ⟨u, h6, h7⟩ := h3 x b hx
    refine ⟨u, ?_, by rw [hc x q]; exact h7⟩
    rw [upd_ne fun z => q (h4 x e a (by rw [hx, z]) ha)]
    exact h6
/-- read -/
theorem ev_dgetM (hm : mDM D As c n ∈ M2) {e : Et} {a : Addr} (hd : Ev ta Γ M M1 (kC (.ref D))) (hy : Ev tb Γ M1 M2 (kD (encE e))) (ha : As e = some a) : Ev (tDGet ta tb) Γ M M2 (kC (.ref a)) := ev_dget hd hy fun x y F B C o px py => by
  obtain ⟨⟨kvs, h1, _, h2⟩, _⟩ := o.p _ (List.mem_append_left _ hm)
  obtain ⟨b, rfl, h4⟩ := tk_key py
  refine ⟨D, .ref a, px, ?_, rfl⟩
  have e1 : valV kvs (keyE e) = some (.ref a) := by rw [h2 e, ha]; rfl
  rw [← e1]
  exact DGet.t h1 (o.ex _ _ h4)
theorem ev_dinM {b : Bool} (hm : mDM D As c n ∈ M2) {e : Et} (hy : Ev ta Γ M M1 (kD (encE e))) (hd : Ev tb Γ M1 M2 (kC (.ref D))) (hb : (As e).isSome = b) : Ev (tDIn ta tb) Γ M M2 (kB b) := ev_din hy hd fun x y F B C o px py => by
  obtain ⟨⟨kvs, h1, _, h2⟩, _⟩ := o.p _ (List.mem_append_left _ hm)
  obtain ⟨d, rfl, h4⟩ := tk_key py
  exact ⟨D, _, px, DGet.t h1 (o.ex _ _ h4), by rw [h2 e, Option.isSome_map]; exact hb⟩
/-- a member asked of one of its sets -/
theorem ev_dninS {S : Et → Et → Bool} {n2 : Nat} {e o : Et} {a : Addr} (hm : mDM D As (fun e => cSet (S e) n2) n ∈ M2) (hy : Ev ta Γ M M1 (kD (encE o))) (hd : Ev tb Γ M1 M2 (kC (.ref a))) (ha : As e = some a) : Ev (tDNotIn ta tb) Γ M M2 (kB (!S e o)) := ev_dnotin hy hd fun x y F B C ok px py => by
  obtain ⟨_, h3, _⟩ := ok.p _ (List.mem_append_left _ hm)
  obtain ⟨u, h4, kvs, rfl, _, h5⟩ := h3 e a ha
  obtain ⟨d, rfl, h6⟩ := tk_key py
  exact ⟨a, _, px, DGet.t h4 (ok.ex _ _ h6), h5 o⟩
/-! lists of it -/
theorem ty_dm {f : Et → List Kn} {e : Et} {a : Addr} (hm : mDM D As (cL f) n ∈ M) (ha : As e = some a) : ∀ v F B C, OkM (M ++ F) B C → (kC (.ref a)).p v B → tyV K "list" v C := fun v F B C o p => by
  obtain ⟨_, h3, _⟩ := o.p _ (List.mem_append_left _ hm)
  obtain ⟨u, h4, xs, rfl, h5⟩ := h3 e a ha
  cases (show v = .ref a from p)
  exact .inl ⟨rfl, xs, SqL.of h4⟩
theorem ev_appendM {e : Et} {a : Addr} {f : Et → List Kn} (ho : Ev ta Γ M M1 (kC (.ref a))) (h : Ev te Γ M1 M2 k) (hm : mDM D As (cL f) n ∈ M1) (hp : M2.Perm (mDM D As (cL f) n :: M3)) (ha : As e = some a) (hl : (f e).length ≤ 100000) : Ev (tBM K "list" rAppend ta (tCons te tNil)) Γ M (mDM D As (cL fun x => if x = e then f e ++ [k] else f x) n :: M3) (kD .none) :=
  ev_bm ho (ty_dm hm ha) (ea_one h) fun x xs F B C o px ps Q q => by
    obtain ⟨v, rfl, pv⟩ := allK1 ps
    have o2 : OkM (mDM D As (cL f) n :: (M3 ++ F)) B C := o.perm (hp.append_right F)
    obtain ⟨u, h4, zs, rfl, h5⟩ := o2.head.2.1 e a ha
    refine ⟨a, zs, v, px, rfl, h4, by rw [← h5.length, sizeLine_eq]; omega, q _ B _ (Ex.refl B) ?_ .non⟩
    refine OkM.dm o2 ha (o := .lst (zs ++ [v])) ⟨zs ++ [v], rfl, ?_⟩ fun x hx => ?_
    · simp only [if_true]
      exact h5.append (.cons pv .nil)
    · show cLst (if x = e then f e ++ [k] else f x) = cLst (f x)
      rw [if_neg hx]
theorem ev_extendM {D0 : Addr} {ks : List Kn} {e : Et} {a : Addr} {f : Et → List Kn} (ho : Ev ta Γ M (mLst D0 ks :: M1) (kC (.ref D0))) (h : Ev te Γ (mLst D0 ks :: M1) (mLst D0 ks :: M2) (kC (.ref a))) (hm : mDM D As (cL f) n ∈ M2) (ha : As e = some a) (hl : ks.length + (f e).length ≤ 100000) : Ev (tBM K "list" rExtend ta (tCons te tNil)) Γ M (mLst D0 (ks ++ f e) :: M2) (kD .none) :=
  ev_bm ho (ty_mut (List.mem_cons_self ..)) (ea_one h) fun x xs F B C o px ps Q q => by
    obtain ⟨v, rfl, pv⟩ := allK1 ps
    obtain ⟨zs, h1, h2⟩ := OkM.head (M := M2 ++ F) o
    obtain ⟨u, h4, ys, rfl, h5⟩ := (o.p _ (List.mem_append_left _ (List.mem_cons_of_mem _ hm))).2.1 e a ha
    cases (show v = .ref a from pv)
    refine ⟨D0, a, zs, ys, px, rfl, h1, h4, by rw [← h2.length, ← h5.length, sizeLine_eq]; omega, q _ B _ (Ex.refl B) ?_ .non⟩
    exact OkM.chg (m := mLst D0 ks) (m' := mLst D0 (ks ++ f e)) (M := M2 ++ F) o (o.ex.mut (o.off _ (List.mem_cons_self ..) D0 rfl)) (fun a ha => upd_ne ha) ⟨zs ++ ys, upd_same, h2.append h5⟩ fun a ha => .inl ha
/-- list(..) of one of its lists -/
theorem eg_lstOfM {e : Et} {a : Addr} {f : Et → List Kn} (h : Ev te Γ M M1 (kC (.ref a))) (hm : mDM D As (cL f) n ∈ M1) (ha : As e = some a) : EvG (α := Addr) (tCB (rLstOf K) (tCons te tNil)) Γ M (fun W => kC (.ref W)) (fun W => mLst W (f e) :: M1) := fun F σ B C s o Q q =>
  ea_one h F σ B C s o _ fun xs B1 C1 e1 o1 ps => by
    obtain ⟨v, rfl, pv⟩ := allK1 ps
    obtain ⟨u, h4, ys, rfl, h5⟩ := (o1.p _ (List.mem_append_left _ hm)).2.1 e a ha
    cases (show v = .ref a from pv)
    exact ⟨a, ys, rfl, .inl (SqL.of h4), fun l hl => q l (.ref l) B1 _ e1 (o1.add (m := mLst l (f e)) (o1.ex.mut (o1.ex.back hl)) (fun a u z => by rw [upd_ne (ne_of_none z hl)]; exact z) ⟨ys, upd_same, h5⟩ fun a z => by rw [z]; exact hl) rfl⟩
/-- a member put into one of its sets -/
theorem go_dputS {P : Po} {rest : TS} {tv : TE} {S : Et → Et → Bool} {n2 : Nat} {e o : Et} {a : Addr} (hv : Ev tv Γ M M1 k) (hd : Ev ta Γ M1 M2 (kC (.ref a))) (hy : Ev tb Γ M2 M3 (kD (encE o))) {M4 : List Mu} (hp : M3.Perm (mDM D As (fun e => cSet (S e) n2) n :: M4)) (ha : As e = some a) (hl : n2 ≤ 100000)
    (hr : Go P rest Γ (mDM D As (fun x => cSet (fun y => decide (x = e ∧ y = o) || S x y) (n2 + 1)) n :: M4)) : Go P (tSeq (sDPut ta tb tv) rest) Γ M := fun F σ B C E s ok q =>
  hv F σ B C s ok _ fun v B1 C1 e1 o1 pv => hd F σ B1 C1 (s.ex e1) o1 _ fun x B2 C2 e2 o2 px => hy F σ B2 C2 (s.ex (e1.trans e2)) o2 _ fun y B3 C3 e3 o3 py => by
    have o4 : OkM (mDM D As (fun e => cSet (S e) n2) n :: (M4 ++ F)) B3 C3 := o3.perm (hp.append_right F)
    obtain ⟨u, h4, kvs, rfl, hn, h5⟩ := o4.head.2.1 e a ha
    obtain ⟨b, rfl, h6⟩ := tk_key py
    cases (show x = .ref a from px)
    refine ⟨a, _, rfl, DPut.t h4 (o4.ex _ _ h6) (by rw [sizeLine_eq]; omega), hr F σ B3 _ E (s.ex ((e1.trans e2).trans e3)) ?_ (q.ex ((e1.trans e2).trans e3))⟩
    have o5 : OkM (mDM D As (fun e => cSet (S e) (n2 + 1)) n :: (M4 ++ F)) B3 C3 := o4.chg (m' := mDM D As (fun e => cSet (S e) (n2 + 1)) n) o4.ex (fun _ _ => rfl) ⟨o4.head.1, fun x b hx => by
      obtain ⟨u, z1, ws, z2, z3, z4⟩ := o4.head.2.1 x b hx
      exact ⟨u, z1, ws, z2, by omega, z4⟩, o4.head.2.2⟩ fun b hb => .inl hb
    refine OkM.dm o5 ha (o := .dT (putK kvs (keyE o) v)) ⟨_, rfl, by have := length_putK kvs (keyE o) v; omega, fun z => ?_⟩ fun x hx => ?_
    · rw [valV_put]
      by_cases hz : z = o
      · subst hz
        simp
      · rw [if_neg fun w => hz (keyE_inj w), h5]
        simp [hz]
    · show cSet _ _ = cSet _ _
      congr 1
      funext y
      simp [hx]
/-! new ones -/
theorem eg_lstOb : EvG (α := Addr) (tLst tNil) Γ M (fun a => kC (.ref a)) (fun a => mOb a (cLst []) :: M) := fun F σ B C s o Q q =>
  ea_nil F σ B C s o _ fun xs B1 C1 e1 o1 ps => ⟨by rw [← ps.length]; simp, fun l hl => q l (.ref l) B1 _ e1 (o1.add (m := mOb l (cLst [])) (o1.ex.mut (o1.ex.back hl)) (fun a u z => by rw [upd_ne (ne_of_none z hl)]; exact z) ⟨_, upd_same, xs, rfl, ps⟩ fun a z => by rw [z]; exact hl) rfl⟩
theorem eg_dctOb : EvG (α := Addr) tDNewT Γ M (fun a => kC (.ref a)) (fun a => mOb a (cSet (fun _ => false) 0) :: M) := fun F σ B C s o Q q => fun l hl =>
  q l (.ref l) B _ (Ex.refl B) (o.add (m := mOb l (cSet (fun _ => false) 0)) (o.ex.mut (o.ex.back hl)) (fun a u z => by rw [upd_ne (ne_of_none z hl)]; exact z) ⟨_, upd_same, [], rfl, Nat.le_refl _, fun e => rfl⟩ fun a z => by rw [z]; exact hl) rfl
/-- {event: new for event in l} -/
theorem eg_dcT {S : List Mu} {wi : TI} {g : TG} {tk tv : TE} {vs : List Nat} (l : List Et) (c0 : Ct) (hi : EvI wi Γ M M1 S (l.map fun e => kD (encE e))) (hS : ∀ m ∈ S, m ∈ M1) (hl : l.length ≤ 50000) (nd : l.Nodup)
    (turn : ∀ e ∈ l, ∃ Γ1 is, Tg g (kD (encE e)) (wipeG Γ vs) Γ1 is ∧ (∀ i ∈ is, i ∈ vs) ∧ Ev tk Γ1 M1 M1 (kD (encE e)) ∧ EvG (α := Addr) tv Γ1 M1 (fun a => kC (.ref a)) (fun a => mOb a c0 :: M1)) :
    EvG (α := Addr × { As : Et → Option Addr // ∀ e, (As e).isSome = decide (e ∈ l) }) (tDcT wi g tYes tk tv vs) Γ M (fun p => kC (.ref p.1)) (fun p => mDM p.1 p.2.1 (fun _ => c0) l.length :: M1) := fun F σ B0 C0 sk o0 Q q =>
  hi F σ B0 C0 sk o0 _ fun J A C1 eA oA goes => fun D hD => by
    have hadd : OkM (mDM D (fun _ => none) (fun _ => c0) 0 :: (M1 ++ F)) A (upd C1 D (.dT [])) := oA.add (oA.ex.mut (oA.ex.back hD)) (fun a u z => by rw [upd_ne (ne_of_none z hD)]; exact z) ⟨⟨[], upd_same, Nat.le_refl _, fun e => rfl⟩, (fun e a z => by cases z), (fun e e' a z => by cases z), fun e a z => by cases z⟩ fun a z => by
      rcases z with z | ⟨e, z⟩
      · rw [z]; exact hD
      · cases z
    have hlen : (l.map fun e => kD (encE e)).length = l.length := by simp
    have sub : ∀ m0 : Mu, ∀ m ∈ S, m ∈ m0 :: (M1 ++ F) := fun m0 m hm => List.mem_cons_of_mem _ (List.mem_append_left _ (hS m hm))
    have perm : ∀ m0 : Mu, (m0 :: (M1 ++ F)).Perm (M1 ++ (m0 :: F)) := fun m0 => List.perm_middle.symm
    refine ⟨fun i n C => n = l.length - i ∧ i ≤ l.length ∧ ∃ B As, Ex A B ∧ (∀ e, (As e).isSome = decide (e ∈ l.take i)) ∧ OkM (mDM D As (fun _ => c0) i :: (M1 ++ F)) B C, ⟨l.length, by simp, Nat.zero_le _, A, fun _ => none, Ex.refl A, fun e => by simp, hadd⟩, ?_⟩
    rintro i n C ⟨rfl, hil, B, As, eAB, hAs, ok⟩
    by_cases hlt : i < l.length
    · have hla : l[i]? = some l[i] := List.getElem?_eq_getElem hlt
      have hka : (l.map fun e => kD (encE e))[i]? = some (kD (encE l[i])) := by rw [List.getElem?_map, hla]; rfl
      refine .inr ⟨goes.go _ B C (sub _) eAB ok i (by omega), fun C' => i + 1 ≤ l.length ∧ ∃ B As, Ex A B ∧ (∀ e, (As e).isSome = decide (e ∈ l.take (i + 1))) ∧ OkM (mDM D As (fun _ => c0) (i + 1) :: (M1 ++ F)) B C', fun C' h => ⟨l.length - (i + 1), by omega, rfl, h⟩, fun x C1 hy => ?_⟩
      obtain ⟨B1, e1, ok1, px⟩ := goes.yld _ B C (sub _) eAB ok i _ x C1 hka hy
      obtain ⟨Γ1, is, htg, hsub, htk, htv⟩ := turn l[i] (List.getElem_mem hlt)
      have sk1 : Sk (wipeG Γ vs) B1 (wipe σ vs) := (sk.ex ((eA.trans eAB).trans e1)).wipe vs
      refine htg _ x _ B1 C1 sk1 ok1 px _ fun σ2 sk2 hoff hlen2 => ⟨wipe_same (fun j hj => hoff j fun z => hj (hsub j z)) hlen2, ?_⟩
      simp only [if_true]
      refine htk (mDM D As (fun _ => c0) i :: F) σ2 B1 C1 sk2 (ok1.perm (perm _)) _ fun y B2 C2 e2 ok2 py => ?_
      refine htv (mDM D As (fun _ => c0) i :: F) σ2 B2 C2 (sk2.ex e2) ok2 _ fun a z B3 C3 e3 ok3 pz => ?_
      have ok4 : OkM (mOb a c0 :: mDM D As (fun _ => c0) i :: (M1 ++ F)) B3 C3 := ok3.perm ((perm _).symm.cons (mOb a c0))
      obtain ⟨b, rfl, h6⟩ := tk_key py
      cases (show z = .ref a from pz)
      have h7 := ok4.tail.head
      obtain ⟨⟨kvs, h1, hn, h2⟩, h3, h4, h5⟩ := h7
      obtain ⟨o, h8, h9⟩ := ok4.head
      have dis := List.pairwise_cons.mp ok4.dis
      have dis2 := List.pairwise_cons.mp dis.2
      have anD : a ≠ D := fun z => dis.1 _ (List.mem_cons_self ..) a rfl (.inl z)
      have hBD : B3 D = none := ok4.tail.off _ (List.mem_cons_self ..) D (.inl rfl)
      have hBa : B3 a = none := ok4.off _ (List.mem_cons_self ..) a rfl
      have hnew : l[i] ∉ l.take i := fun hm => by
        obtain ⟨j, hj, e⟩ := List.getElem_of_mem hm
        rw [List.getElem_take] at e
        have hj2 : j < i := by
          rw [List.length_take] at hj
          omega
        exact absurd ((List.getElem_inj nd).mp e) (by omega)
      have hnone : As l[i] = none := by
        have := hAs l[i]
        rw [decide_eq_false hnew] at this
        exact Option.isSome_eq_false_iff.mp this |> Option.isNone_iff_eq_none.mp
      have hno : ∀ e, As e ≠ some a := fun e z => dis.1 _ (List.mem_cons_self ..) a rfl (.inr ⟨e, z⟩)
      refine ⟨kvs, keyE l[i], b, rfl, ok4.ex _ _ (e3 _ _ h6), h1, by rw [sizeLine_eq]; omega, hlt, B3, fun e => if e = l[i] then some a else As e, ((eAB.trans e1).trans e2).trans e3, fun e => ?_, ?_⟩
      · rw [take_next hla]
        have hm : (e ∈ l.take i ++ [l[i]]) ↔ (e ∈ l.take i ∨ e = l[i]) := by rw [List.mem_append, List.mem_singleton]
        show (if e = l[i] then some a else As e).isSome = _
        by_cases he : e = l[i]
        · rw [if_pos he, decide_eq_true (hm.mpr (.inr he))]
          rfl
        · rw [if_neg he, hAs]
          exact decide_eq_decide.mpr ⟨fun z => hm.mpr (.inl z), fun z => (hm.mp z).resolve_right he⟩
      · have fpe : ∀ z, (mDM D (fun e => if e = l[i] then some a else As e) (fun _ => c0) (i + 1)).fp z → (mDM D As (fun _ => c0) i).fp z ∨ z = a := fun z hz => by
          rcases hz with hz | ⟨e, hz⟩
          · exact .inl (.inl hz)
          · by_cases he : e = l[i]
            · simp only [if_pos he, Option.some.injEq] at hz
              exact .inr hz.symm
            · simp only [if_neg he] at hz
              exact .inl (.inr ⟨e, hz⟩)
        refine ⟨ok4.ex.mut hBD, fun m hm => ?_, fun m hm z hz => ?_, List.pairwise_cons.mpr ⟨fun m hm z hz hw => ?_, dis2.2⟩⟩
        · rcases List.mem_cons.mp hm with rfl | hm
          · refine ⟨⟨putK kvs (keyE l[i]) (.ref a), upd_same, by have := length_putK kvs (keyE l[i]) (.ref a); omega, fun e => ?_⟩, fun e x hx => ?_, fun e e' x hx hx' => ?_, fun e x hx => ?_⟩
            · rw [valV_put, h2]
              by_cases he : e = l[i]
              · subst he
                simp
              · rw [if_neg fun w => he (keyE_inj w)]
                simp only [if_neg he]
            · by_cases he : e = l[i]
              · simp only [if_pos he, Option.some.injEq] at hx
                subst hx
                exact ⟨o, by rw [upd_ne anD]; exact h8, h9⟩
              · simp only [if_neg he] at hx
                obtain ⟨u, z1, z2⟩ := h3 e x hx
                exact ⟨u, by rw [upd_ne (h5 e x hx)]; exact z1, z2⟩
            · by_cases he : e = l[i]
              · by_cases he' : e' = l[i]
                · rw [he, he']
                · simp only [if_pos he, if_neg he', Option.some.injEq] at hx hx'
                  subst hx
                  exact absurd hx' (hno e')
              · by_cases he' : e' = l[i]
                · simp only [if_neg he, if_pos he', Option.some.injEq] at hx hx'
                  subst hx'
                  exact absurd hx (hno e)
                · simp only [if_neg he, if_neg he'] at hx hx'
                  exact h4 e e' x hx hx'
            · by_cases he : e = l[i]
              · simp only [if_pos he, Option.some.injEq] at hx
                subst hx
                exact anD
              · simp only [if_neg he] at hx
                exact h5 e x hx
          · refine m.mono (Ex.refl _) (fun z hz => ?_) (ok4.tail.tail.p m hm)
            exact upd_ne fun w => dis2.1 m hm z (.inl w) hz
        · rcases List.mem_cons.mp hm with rfl | hm
          · rcases fpe z hz with hz | hz
            · exact ok4.tail.off _ (List.mem_cons_self ..) z hz
            · rw [hz]; exact hBa
          · exact ok4.tail.tail.off m hm z hz
        · rcases fpe z hz with hz | hz
          · exact dis2.1 m hm z hz hw
          · exact dis.1 m (List.mem_cons_of_mem _ hm) z hz hw
    · have ei : i = l.length := by omega
      subst ei
      refine .inl ⟨by have := goes.stop _ B C (sub _) eAB ok; rwa [hlen] at this, q ⟨D, As, fun e => ?_⟩ _ B C (eA.trans eAB) ok rfl⟩
      rw [hAs, List.take_length]
end

/-! ### an instance that is being made -/
def ksPut (i : Nat) (k : Kn) (ks : List (Option Kn)) : List (Option Kn) := (ks ++ List.replicate (i + 1 - ks.length) none).set i (some k)
section
variable {Γ Γ1 : Ga} {M M1 M2 M3 : List Mu} {K : PySem.W.Frag} {te ta tb : TE} {k kz : Kn} {Cl x dx : Addr} {ks : List (Option Kn)}
theorem mSl_is (hm : mSl Cl x dx ks ∈ M) : ∀ v F B C, OkM (M ++ F) B C → (kC (.ref x)).p v B → ∃ a dx vs, v = .ref a ∧ SlX.Slt C a Cl dx vs := fun v F B C o p => by
  obtain ⟨_, _, vs, h, _⟩ := o.p _ (List.mem_append_left _ hm)
  exact ⟨x, dx, vs, p, h⟩
theorem ev_slotM {f : Str} {p : Addr} {i : Nat} (h : Ev ta Γ M M1 (kC (.ref x))) (hm : mSl Cl x dx ks ∈ M1) (c : SlX.SCls K Cl) (s1 : SlX.Slot1 K Cl f p i) (hk : ks[i]? = some (some kz)) : Ev (SlX.tSl K ta f) Γ M M1 kz := ev_slot h fun v F B C o pv => by
  obtain ⟨_, _, vs, h2, h3⟩ := o.p _ (List.mem_append_left _ hm)
  obtain ⟨u, h4, h5⟩ := h3 i kz hk
  exact ⟨x, Cl, dx, p, vs, i, u, pv, h2, c, s1, h4, h5⟩
theorem go_slG {α : Type} {ρ : α → Kn} {μ : α → List Mu} {P : Po} {rest : TS} {tv : TE} {f : Str} {p : Addr} {i : Nat} (hv : EvG tv Γ M ρ μ) (hx : ∀ a, Ev ta Γ (μ a) (μ a) (kC (.ref x))) (Ms : α → List Mu) (hp : ∀ a, (μ a).Perm (mSl Cl x dx ks :: Ms a)) (c : SlX.SCls K Cl) (s1 : SlX.Slot1 K Cl f p i)
    (hr : ∀ a, Go P rest Γ (mSl Cl x dx (ksPut i (ρ a) ks) :: Ms a)) : Go P (tSeq (SlX.sSl K ta tv f) rest) Γ M := fun F σ B C E s ok q =>
  hv F σ B C s ok _ fun a v B1 C1 e1 o1 pv => hx a F σ B1 C1 (s.ex e1) o1 _ fun y B2 C2 e2 o2 py => by
    have o3 : OkM (mSl Cl x dx ks :: (Ms a ++ F)) B2 C2 := o2.perm ((hp a).append_right F)
    obtain ⟨ne, ⟨o, h1⟩, vs, h2, h3⟩ := o3.head
    refine ⟨x, Cl, dx, p, vs, i, py, h2, c, s1, hr a F σ B2 _ E (s.ex (e1.trans e2)) ?_ (q.ex (e1.trans e2))⟩
    have offx : B2 x = none := o3.off _ (List.mem_cons_self ..) x (.inl rfl)
    have offd : B2 dx = none := o3.off _ (List.mem_cons_self ..) dx (.inr rfl)
    refine o3.chg (m' := mSl Cl x dx (ksPut i (ρ a) ks)) ((o3.ex.mut offd).mut offx) (fun b hb => SlX.slH_ne (fun z => hb (.inl z)) fun z => hb (.inr z)) ⟨ne, ⟨_, by unfold SlX.slH; rw [upd_ne ne, upd_same]⟩, _, SlX.slH_slt ne, fun j kj hj => ?_⟩ fun b hb => .inl hb
    by_cases hji : j = i
    · subst hji
      unfold ksPut at hj
      rw [List.getElem?_set_self (by rw [List.length_append, List.length_replicate]; omega)] at hj
      cases hj
      exact ⟨v, SlX.putS_get j v vs, (ρ a).mono e2 pv⟩
    · unfold ksPut at hj
      rw [List.getElem?_set_ne (Ne.symm hji)] at hj
      have hj2 : ks[j]? = some (some kj) := by
        by_cases hl : j < ks.length
        · rwa [List.getElem?_append_left hl] at hj
        · rw [List.getElem?_append_right (by omega), List.getElem?_replicate] at hj
          split at hj <;> cases hj
      obtain ⟨u, h4, h5⟩ := h3 j kj hj2
      exact ⟨u, (SlX.putS_ne hji).mpr h4, h5⟩
/-- all of these stand still from now on -/
theorem go_freeze {P : Po} {t : TS} (M0 : List Mu) {i : Nat} {k' : Kn} (hΓ : Γ[i]? = some (some k)) (hk : ∀ v B C B', (∀ m ∈ M0, m.p B C) → k.p v B → Ex B B' → Ex B' C → (∀ m ∈ M0, ∀ a, m.fp a → B' a = C a) → k'.p v B') (hr : Go P t (Γ.set i (some k')) M) : Go P t Γ (M0 ++ M) := fun F σ B C E s o q => by
  classical
  let B' : Hp := fun a => if ∃ m ∈ M0, m.fp a then C a else B a
  have off : ∀ m ∈ M0, ∀ a, m.fp a → B a = none := fun m hm a ha => o.off m (List.mem_append_left _ (List.mem_append_left _ hm)) a ha
  have e0 : Ex B B' := fun a u z => by
    show (if ∃ m ∈ M0, m.fp a then C a else B a) = some u
    rw [if_neg]
    · exact z
    · rintro ⟨m, hm, ha⟩
      rw [off m hm a ha] at z
      cases z
  have e1 : Ex B' C := fun a u z => by
    by_cases h : ∃ m ∈ M0, m.fp a
    · have z2 : (if ∃ m ∈ M0, m.fp a then C a else B a) = some u := z
      rwa [if_pos h] at z2
    · have z2 : (if ∃ m ∈ M0, m.fp a then C a else B a) = some u := z
      rw [if_neg h] at z2
      exact o.ex a u z2
  have fpB : ∀ m ∈ M0, ∀ a, m.fp a → B' a = C a := fun m hm a ha => if_pos ⟨m, hm, ha⟩
  have o1 : OkM (M0 ++ (M ++ F)) B C := by rw [← List.append_assoc]; exact o
  have pw := List.pairwise_append.mp o1.dis
  have o2 : OkM (M ++ F) B' C := ⟨e1, fun n hn => n.mono e0 (fun _ _ => rfl) (o1.p n (List.mem_append_right _ hn)), fun n hn a ha => by
    show (if ∃ m ∈ M0, m.fp a then C a else B a) = none
    rw [if_neg]
    · exact o1.off n (List.mem_append_right _ hn) a ha
    · rintro ⟨m, hm, hf⟩
      exact pw.2.2 m hm n hn a hf ha, pw.2.1⟩
  obtain ⟨v, hv, pv⟩ := s.at_ i _ hΓ
  have s2 : Sk (Γ.set i (some k')) B' (σ.set i (some v)) := (s.ex e0).set (hk v B C B' (fun m hm => o1.p m (List.mem_append_left _ hm)) pv e0 e1 fpB)
  have es : σ.set i (some v) = σ := by
    apply List.ext_getElem?
    intro j
    by_cases hj : i = j
    · subst hj
      rw [List.getElem?_set_self (List.getElem?_eq_some_iff.mp hv).1, hv]
    · rw [List.getElem?_set_ne hj]
  rw [es] at s2
  exact hr F σ _ C E s2 o2 (q.ex e0)
end
end Fw
set_option Elab.async false
set_option linter.all false
set_option maxRecDepth 100000
set_option maxHeartbeats 4000000
/-! rules for the law's own defs: numbers, the box of draws, lists that change, promises with a new object -/
namespace Fw
open PySem PySem.Spec PyProof.Rows L2
section
variable {Γ Γ1 : Ga} {M M1 M2 M3 M4 : List Mu} {K : PySem.W.Frag} {te ta tb : TE} {k kx ky kz : Kn} {D : Addr} {ks : List Kn}
/-! ### numbers -/
theorem rk_Ic {C : Int → Int → Prop} {g : Int → Int → V} {i j : Int} {d : PyData} (hc : C i j) (h : ∀ B, Tk B (g i j) d) : RK (rI C g) M (kI i) (kI j) (kD d) := fun x y F B C o px py Q q => ⟨i, j, px.int_inv, py.int_inv, hc, q _ B C (Ex.refl B) o (h B)⟩
theorem rk_mul {i j : Int} (h : CMul i j) : RK (rI CMul fun i j => .int (i * j)) M (kI i) (kI j) (kI (i * j)) := rk_Ic h fun _ => .int _
theorem rk_mod {i j : Int} (h : 0 < j) : RK (rI (fun _ j => 0 < j) fun i j => .int (i % j)) M (kI i) (kI j) (kI (i % j)) := rk_Ic h fun _ => .int _
theorem rk_fdiv {i j : Int} (h : CDiv i j) : RK (rI CDiv fun i j => .int (i / j)) M (kI i) (kI j) (kI (i / j)) := rk_Ic h fun _ => .int _
theorem rk_pow {i j : Int} (h : CPow i j) : RK (rI CPow fun i j => .int (i ^ j.toNat)) M (kI i) (kI j) (kI (i ^ j.toNat)) := rk_Ic h fun _ => .int _
theorem rk_le {i j : Int} : RK (rI0 fun i j => .bl (decide (i ≤ j))) M (kI i) (kI j) (kB (decide (i ≤ j))) := rk_I0 fun _ => .bl _
theorem rk_ge {i j : Int} : RK (rI0 fun i j => .bl (decide (j ≤ i))) M (kI i) (kI j) (kB (decide (j ≤ i))) := rk_I0 fun _ => .bl _
theorem ck_int1 {i : Int} : CK (fun xs H Q => (∃ i, xs = [.int i] ∧ Q (.int i) H) ∨ ∃ k, xs = [.bl k] ∧ Q (.int (if k then 1 else 0)) H) M [kI i] (kI i) := fun xs F B C o ps Q q => by
  obtain ⟨v, rfl, pv⟩ := allK1 ps
  exact .inl ⟨i, by rw [pv.int_inv], q _ B C (Ex.refl B) o (.int i)⟩
theorem ck_intB {b : Bool} : CK (fun xs H Q => (∃ i, xs = [.int i] ∧ Q (.int i) H) ∨ ∃ k, xs = [.bl k] ∧ Q (.int (if k then 1 else 0)) H) M [kB b] (kI (if b then 1 else 0)) := fun xs F B C o ps Q q => by
  obtain ⟨v, rfl, pv⟩ := allK1 ps
  exact .inr ⟨b, by rw [pv.bl_inv], q _ B C (Ex.refl B) o (.int _)⟩
theorem ck_abs {i : Int} : CK (fun xs H Q => ∃ i, xs = [.int i] ∧ Q (.int (if i < 0 then -i else i)) H) M [kI i] (kI (if i < 0 then -i else i)) := fun xs F B C o ps Q q => by
  obtain ⟨v, rfl, pv⟩ := allK1 ps
  exact ⟨i, by rw [pv.int_inv], q _ B C (Ex.refl B) o (.int _)⟩
/-- a number below -/
def kLt (b : Nat) : Kn := kEx fun i : Fin b => kI (i.1 : Nat)
theorem kLt_of {i : Int} {b : Nat} (h0 : 0 ≤ i) (h : i < b) {v : V} {H : Hp} (p : (kI i).p v H) : (kLt b).p v H := by
  refine ⟨⟨i.toNat, by omega⟩, ?_⟩
  show Tk H v (.int (i.toNat : Nat))
  rw [Int.toNat_of_nonneg h0]
  exact p

/-! ### lists that change -/
theorem AllK.set {B : Hp} : ∀ {ks : List Kn} {xs : List V} {k : Kn} {x : V} (j : Nat), AllK B ks xs → k.p x B → AllK B (ks.set j k) (xs.set j x)
  | _, _, _, _, _, .nil, _ => .nil
  | _, _, _, _, 0, .cons _ t, p => .cons p t
  | _, _, _, _, j + 1, .cons h t, p => .cons h (AllK.set j t p)
theorem go_setM {P : Po} {rest : TS} {i : Int} (j : Nat) (h : Ev te Γ M M1 k) (ho : Ev ta Γ M1 M2 (kC (.ref D))) (hi : Ev tb Γ M2 M3 (kI i)) (hp : M3.Perm (mLst D ks :: M4)) (hj : j < ks.length) (hr : Go P rest Γ (mLst D (ks.set j k) :: M4)) (e : i = (j : Int) := by rfl) : Go P (tSeq (tAsg te (gSub ta tb rSetL)) rest) Γ M := fun F σ B C E s o q =>
  h F σ B C s o _ fun v B1 C1 e1 o1 pv => ho F σ B1 C1 (s.ex e1) o1 _ fun x B2 C2 e2 o2 px => hi F σ B2 C2 (s.ex (e1.trans e2)) o2 _ fun y B3 C3 e3 o3 py => by
    have o4 : OkM (mLst D ks :: (M4 ++ F)) B3 C3 := o3.perm (hp.append_right F)
    obtain ⟨xs, h1, h2⟩ := o4.head
    have hl := h2.length
    refine ⟨D, xs, i, j, px, py.int_inv, h1, ?_, hr F σ B3 _ E (s.ex ((e1.trans e2).trans e3)) ?_ (q.ex ((e1.trans e2).trans e3))⟩
    · subst e
      unfold ixN
      rw [if_pos (by omega), if_pos (by omega)]
      rfl
    · exact o4.chg (m' := mLst D (ks.set j k)) (o4.ex.mut (o4.off _ (List.mem_cons_self ..) D rfl)) (fun a ha => upd_ne ha) ⟨xs.set j v, upd_same, h2.set j (k.mono (e2.trans e3) pv)⟩ fun a ha => .inl ha
theorem ev_popAt {ta tb : TE} {i : Int} (j : Nat) (ho : Ev ta Γ M (mLst D ks :: M1) (kC (.ref D))) (hi : Ev tb Γ (mLst D ks :: M1) (mLst D ks :: M2) (kI i)) (h : ks[j]? = some k) (hl : ks.length ≤ 100000) (e : i = (j : Int) := by rfl) : Ev (tBM K "list" rPopAt ta (tCons tb tNil)) Γ M (mLst D (ks.eraseIdx j) :: M2) k :=
  ev_bm ho (ty_mut (List.mem_cons_self ..)) (ea_one hi) fun x xs F B C o px ps Q q => by
    obtain ⟨v, rfl, pv⟩ := allK1 ps
    obtain ⟨zs, h1, h2⟩ := OkM.head (M := M2 ++ F) o
    obtain ⟨y, hy, py⟩ := h2.at h
    have hjl := (List.getElem?_eq_some_iff.mp h).1
    have hl2 := h2.length
    subst e
    refine ⟨D, zs, (j : Int), j, y, px, by rw [pv.int_inv], h1, by omega, by omega, ?_, hy, q _ B _ (Ex.refl B) ?_ py⟩
    · have : ixN zs.length (j : Int) = some j := by
        unfold ixN
        rw [if_pos (by omega), if_pos (by omega)]
        rfl
      exact (ixN_seq this).1
    · exact OkM.chg (m := mLst D ks) (m' := mLst D (ks.eraseIdx j)) (M := M2 ++ F) o (o.ex.mut (o.off _ (List.mem_cons_self ..) D rfl)) (fun a ha => upd_ne ha) ⟨zs.eraseIdx j, upd_same, allK_erase j h2⟩ fun a ha => .inl ha
theorem eg_popAt {ta tb : TE} (ho : Ev ta Γ M M1 (kC (.ref D))) (hm : mLst D ks ∈ M1) (hi : Ev tb Γ M1 M2 (kLt ks.length)) (hp : M2.Perm (mLst D ks :: M3)) (hl : ks.length ≤ 100000) : EvG (α := Fin ks.length) (tBM K "list" rPopAt ta (tCons tb tNil)) Γ M (fun j => ks[j]) (fun j => mLst D (ks.eraseIdx j) :: M3) := fun F σ B C s o Q q =>
  ho F σ B C s o _ fun x B1 C1 e1 o1 px => ⟨ty_mut hm x F B1 C1 o1 px, ea_one hi F σ B1 C1 (s.ex e1) o1 _ fun xs B2 C2 e2 o2 ps => by
    obtain ⟨v, rfl, j, pv⟩ := allK1 ps
    have o3 : OkM (mLst D ks :: (M3 ++ F)) B2 C2 := o2.perm (hp.append_right F)
    obtain ⟨zs, h1, h2⟩ := o3.head
    have hjl := j.2
    obtain ⟨y, hy, py⟩ := h2.at (List.getElem?_eq_getElem hjl)
    have hl2 := h2.length
    refine ⟨D, zs, (j.1 : Nat), j.1, y, px, by rw [(show Tk B2 v (.int (j.1 : Nat)) from pv).int_inv], h1, by omega, by omega, ?_, hy, q j _ B2 _ (e1.trans e2) ?_ py⟩
    · have : ixN zs.length ((j.1 : Nat) : Int) = some j.1 := by
        unfold ixN
        rw [if_pos (by omega), if_pos (by omega)]
        rfl
      exact (ixN_seq this).1
    · exact o3.chg (m' := mLst D (ks.eraseIdx j.1)) (o3.ex.mut (o3.off _ (List.mem_cons_self ..) D rfl)) (fun a ha => upd_ne ha) ⟨zs.eraseIdx j.1, upd_same, allK_erase j.1 h2⟩ fun a ha => .inl ha⟩
theorem eg_append {α : Type} {ta te : TE} {ρ : α → Kn} {μ : α → List Mu} (μ2 : α → List Mu) (ho : Ev ta Γ M M1 (kC (.ref D))) (hm : mLst D ks ∈ M1) (h : EvG te Γ M1 ρ μ) (hp : ∀ a, (μ a).Perm (mLst D ks :: μ2 a)) (hl : ks.length ≤ 100000) : EvG (tBM K "list" rAppend ta (tCons te tNil)) Γ M (fun _ => kD .none) (fun a => mLst D (ks ++ [ρ a]) :: μ2 a) := fun F σ B C s o Q q =>
  ho F σ B C s o _ fun x B1 C1 e1 o1 px => ⟨ty_mut hm x F B1 C1 o1 px, h F σ B1 C1 (s.ex e1) o1 _ fun a v B2 C2 e2 o2 pv => by
    have o3 : OkM (mLst D ks :: (μ2 a ++ F)) B2 C2 := o2.perm ((hp a).append_right F)
    obtain ⟨zs, h1, h2⟩ := o3.head
    refine ⟨D, zs, v, px, rfl, h1, by rw [← h2.length, sizeLine_eq]; omega, q a _ B2 _ (e1.trans e2) ?_ .non⟩
    exact o3.chg (m' := mLst D (ks ++ [ρ a])) (o3.ex.mut (o3.off _ (List.mem_cons_self ..) D rfl)) (fun a ha => upd_ne ha) ⟨zs ++ [v], upd_same, h2.append (.cons pv .nil)⟩ fun a ha => .inl ha⟩
/-- forgotten -/
theorem Ev.drop {m : Mu} (h : Ev te Γ M (m :: M1) k) : Ev te Γ M M1 k := fun F σ B C s o Q q => h F σ B C s o Q fun z B' C' e o' p => q z B' C' e (OkM.tail (M := M1 ++ F) o') p
theorem go_forget {P : Po} {t : TS} {m : Mu} (h : Go P t Γ M) : Go P t Γ (m :: M) := fun F σ B C E s o q => h F σ B C E s (OkM.tail (M := M ++ F) o) q

/-! ### the box of draws -/
structure BxOk (n : Nat) (big seed cnt : Int) : Prop where
  b : 0 ≤ big
  s0 : 0 ≤ seed
  s1 : seed < 2147483563
  c0 : 0 ≤ cnt
  c1 : cnt ≤ n
def mBox (D : Addr) (n : Nat) : Mu where
  fp := fun a => a = D
  p := fun B C => ∃ big seed cnt : Int, C D = some (.lst [.int big, .int seed, .int cnt]) ∧ BxOk n big seed cnt
  on := fun ⟨_, _, _, h, _⟩ e => ⟨_, e ▸ h⟩
  mono := fun _ st ⟨b, s, c, h1, h2⟩ => ⟨b, s, c, (st _ rfl).trans h1, h2⟩
theorem go_open {P : Po} {t : TS} {n : Nat} (h : ∀ big seed cnt, BxOk n big seed cnt → Go P t Γ (mLst D [kI big, kI seed, kI cnt] :: M)) : Go P t Γ (mBox D n :: M) := fun F σ B C E s o q => by
  obtain ⟨b, sd, c, h1, h2⟩ := OkM.head (M := M ++ F) o
  exact h b sd c h2 F σ B C E s (OkM.chg (m := mBox D n) (m' := mLst D [kI b, kI sd, kI c]) (M := M ++ F) o o.ex (fun _ _ => rfl) ⟨_, h1, .cons (.int b) (.cons (.int sd) (.cons (.int c) .nil))⟩ fun a ha => .inl ha) q
theorem box_of {n : Nat} {big seed cnt : Int} {F : List Mu} {B C : Hp} (o : OkM (mLst D [kI big, kI seed, kI cnt] :: F) B C) (h : BxOk n big seed cnt) : OkM (mBox D n :: F) B C := by
  obtain ⟨xs, h1, h2⟩ := o.head
  have e : xs = [.int big, .int seed, .int cnt] := by
    cases h2 with
    | cons p1 h2 =>
      cases h2 with
      | cons p2 h2 =>
        cases h2 with
        | cons p3 h2 =>
          cases h2
          rw [p1.int_inv, p2.int_inv, p3.int_inv]
  subst e
  exact o.chg (m' := mBox D n) o.ex (fun _ _ => rfl) ⟨_, _, _, h1, h⟩ fun a ha => .inl ha
theorem ev_close {n : Nat} {big seed cnt : Int} (h : Ev te Γ M (mLst D [kI big, kI seed, kI cnt] :: M1) k) (hb : BxOk n big seed cnt) : Ev te Γ M (mBox D n :: M1) k := fun F σ B C s o Q q => h F σ B C s o Q fun z B' C' e o' p => q z B' C' e (box_of (F := M1 ++ F) o' hb) p
theorem eg_box {n : Nat} {big seed cnt : Int} (h : EvG te Γ M (fun D : Addr => kC (.ref D)) fun D => mLst D [kI big, kI seed, kI cnt] :: M1) (hb : BxOk n big seed cnt) : EvG te Γ M (fun D : Addr => kC (.ref D)) (fun D => mBox D n :: M1) := fun F σ B C s o Q q => h F σ B C s o Q fun D z B' C' e o' p => q D z B' C' e (box_of (F := M1 ++ F) o' hb) p
theorem box_le {n m : Nat} (h : n ≤ m) {F : List Mu} {B C : Hp} (o : OkM (mBox D n :: F) B C) : OkM (mBox D m :: F) B C := by
  obtain ⟨b, s, c, h1, h2⟩ := o.head
  exact o.chg (m' := mBox D m) o.ex (fun _ _ => rfl) ⟨b, s, c, h1, h2.b, h2.s0, h2.s1, h2.c0, by have := h2.c1; omega⟩ fun a ha => .inl ha
theorem go_box {P : Po} {t : TS} {n : Nat} (m : Nat) (hn : n ≤ m) (h : Go P t Γ (mBox D m :: M)) : Go P t Γ (mBox D n :: M) := fun F σ B C E s o q => h F σ B C E s (box_le (F := M ++ F) hn o) q
theorem Ev.box {n m : Nat} (h : Ev te Γ M (mBox D n :: M1) k) (hn : n ≤ m) : Ev te Γ M (mBox D m :: M1) k := fun F σ B C s o Q q => h F σ B C s o Q fun z B' C' e o' p => q z B' C' e (box_le (F := M1 ++ F) hn o') p
/-! ### indexing by a number not known -/
theorem rk_ixLt {ds : List PyData} : RK (rIxL K) M (kD (.list ds)) (kLt ds.length) (kEx fun i : Fin ds.length => kD ds[i]) := fun x y F B C o px ⟨i, pi⟩ Q q => by
  refine rk_ixL (K := K) (M := M) (n := i.1) (List.getElem?_eq_getElem i.2) rfl x y F B C o px pi Q fun z B' C' e o' p => q z B' C' e o' ⟨i, p⟩
/-! ### promises with something new -/
def spG {α β : Type} (pre : α → Prop) (args : α → List Kn) (Mi : α → List Mu) (Mo : α → β → List Mu) (res : α → β → Kn) : Sp := fun vs C Q _ => ∃ a F B, pre a ∧ AllK B (args a) vs ∧ OkM (Mi a ++ F) B C ∧ ∀ b, Wt (Mo a b ++ F) B (res a b) Q
def GoR {β : Type} (ρ : β → Kn) (μ : β → List Mu) (t : TS) (Γ : Ga) (M : List Mu) : Prop := ∀ (F : List Mu) (σ : L2.St) (B C : Hp) (D : Ends), Sk Γ B σ → OkM (M ++ F) B C → (∀ b, Wt (μ b ++ F) B (ρ b) D.rt) → t D σ C
theorem gor_set {β : Type} {ρ : β → Kn} {μ : β → List Mu} {rest : TS} {i : Nat} (h : Ev te Γ M M1 k) (hr : GoR ρ μ rest (Γ.set i (some k)) M1) : GoR ρ μ (tSeq (tAsg te (gName i)) rest) Γ M := fun F σ B C D s o q =>
  h F σ B C s o _ fun x B1 C1 e1 o1 p => hr F _ B1 C1 D ((s.ex e1).set p) o1 fun b z B2 C2 e2 o2 pz => q b z B2 C2 (e1.trans e2) o2 pz
theorem gor_ret {β : Type} {ρ : β → Kn} {μ : β → List Mu} {rest : TS} (h : EvG te Γ M ρ μ) : GoR ρ μ (tSeq (tRet te) rest) Γ M := fun F σ B C D s o q => h F σ B C s o _ q
end
section
variable {P : Program} {w : World} {K : PySem.W.Frag} {mg : Str → Option Value} {base : Heap} {α β : Type} {pre : α → Prop} {args : α → List Kn} {Mi : α → List Mu} {Mo : α → β → List Mu} {res : α → β → Kn}
theorem fn_rG {x qual : Str} {params : Arguments} {body : List Stmt} {scope : Scope} {dvs : List V} {kws : List (Str × V)} {f : Addr} {fd : FuncData} {N ps : List Str} {k : Nat} {ds : List Value} (F : FunD K x qual params body scope dvs kws f fd) (S : FnScope N ps scope) (hb : Binds K fd ps ds) (hd : Vals [] ds)
    (hl : ∀ a, pre a → (args a).length = ps.length)
    (hbody : ∀ (cdv : Value) (A : Around) (outer : List Env) (s : Shared) (H : Hp) (E : XK), Room k (A.deeper (envOfC qual scope s.heap.objs.size f cdv)) →
      ∃ t, PSs (cxOf CX0 P w K mg base N qual scope f cdv A outer s H E).nox body t ∧ ∀ a, pre a → GoR (res a) (Mo a) t ((args a).map some ++ List.replicate (N.length - ps.length) none) (Mi a)) : FnR P w K mg base CX0 (k + 1) f (spG pre args Mi Mo res) := by
  have h1 : FnOk P w K mg base CX0 (k + 1) f fd ps (spG pre args Mi Mo res) := by
    refine F.ok S (fun vs H Q E ⟨a, _, _, hp, h, _⟩ => h.length.symm.trans (hl a hp)) fun cdv A outer s H vs Q E hr ⟨a, F', B, hp, hA, ho, hq⟩ => ?_
    obtain ⟨t, h2, h3⟩ := hbody cdv A outer s H E hr
    have e1 : vs.length = ps.length := hA.length.symm.trans (hl a hp)
    have sk := Sk.start (N := N) hA
    rw [e1] at sk
    exact ⟨t, PSs.nox h2, h3 a hp F' _ B H _ sk ho hq⟩
  exact (h1.raw hb hd).imp fun vs H Q E h => by
    rw [List.append_nil]
    exact h
variable {Γ : Ga} {M M1 : List Mu} {t : TA}
theorem ev_callG (a : α) {E : XK} (h : EvA t Γ M (Mi a ++ M1) (args a)) (hp : pre a) : EvG (tCall (spG pre args Mi Mo res) [] E t) Γ M (res a) (fun b => Mo a b ++ M1) := fun F σ B C s o Q q =>
  h F σ B C s o _ fun zs B1 C1 e1 o1 ps => ⟨a, M1 ++ F, B1, hp, by rw [List.append_nil]; exact ps, by rw [← List.append_assoc]; exact o1, fun b z B2 C2 e2 o2 p => q b z B2 C2 (e1.trans e2) (by rw [List.append_assoc]; exact o2) p⟩
end
/-! ### sorted -/
section
variable {K : PySem.W.Frag} {M : List Mu}
theorem tk_pairs {B : Hp} : ∀ {xs : List V} {ds : List PyData}, TkAll B xs ds → ∃ bs : List (V × PyData), bs.map (·.1) = xs ∧ bs.map (·.2) = ds ∧ ∀ b ∈ bs, Tk B b.1 b.2
  | _, _, .nil => ⟨[], rfl, rfl, fun b h => by cases h⟩
  | _, _, .cons (v := v) (d := d) h t => by
    obtain ⟨bs, h1, h2, h3⟩ := tk_pairs t
    refine ⟨(v, d) :: bs, by rw [List.map_cons, h1], by rw [List.map_cons, h2], fun b hb => ?_⟩
    rcases List.mem_cons.mp hb with rfl | hb
    · exact h
    · exact h3 b hb
theorem pairs_tk {B : Hp} : ∀ {bs : List (V × PyData)}, (∀ b ∈ bs, Tk B b.1 b.2) → TkAll B (bs.map (·.1)) (bs.map (·.2))
  | [], _ => .nil
  | b :: bs, h => .cons (h b (List.mem_cons_self ..)) (pairs_tk fun c hc => h c (List.mem_cons_of_mem _ hc))
theorem ck_sortD {ds : List PyData} (h1 : PySem.W.AllAlike ds) (h2 : PySem.W.Sortable ds) (h3 : ∀ d ∈ ds, d.depth ≤ 50) : CK (rSortD K) M [kD (.list ds)] (kD (.list (ds.mergeSort (PySem.W.dataLe false id)))) := fun xs F B C o ps Q q => by
  obtain ⟨v, rfl, pv⟩ := allK1 ps
  obtain ⟨a, ys, rfl, h4, h5⟩ := pv.lst_inv
  obtain ⟨bs, e1, e2, h6⟩ := tk_pairs h5
  subst e1 e2
  have hm : (bs.map (·.2)).mergeSort (PySem.W.dataLe false id) = (bs.mergeSort (PySem.W.dataLe false (·.2))).map (·.2) := by
    rw [List.map_mergeSort]
    intro a _ b _
    rfl
  refine ⟨a, bs, rfl, SqL.of (o.ex _ _ h4), fun b hb => (Tk.ex o.ex _ _ (h6 b hb)).dp, h1, h2, fun b hb => h3 _ (List.mem_map.mpr ⟨b, hb, rfl⟩), fun p hp => q _ _ _ (Ex.new (o.ex.back hp)) (o.new hp) (.lst upd_same ?_)⟩
  rw [hm]
  exact pairs_tk fun b hb => Tk.ex (Ex.new (o.ex.back hp)) _ _ (h6 b ((List.mergeSort_perm _ _).mem_iff.mp hb))
theorem sort_enc {α : Type} (enc : α → PyData) (l : List α) : (l.map enc).mergeSort (PySem.W.dataLe false id) = (l.mergeSort (PySem.W.dataLe false enc)).map enc := by
  rw [List.map_mergeSort]
  intro a _ b _
  rfl
end
end Fw
set_option Elab.async false
set_option linter.all false
set_option maxRecDepth 100000
set_option maxHeartbeats 4000000
/-! dict(..) of a tuple of pairs; of a list of pairs whose keys are tuples -/
namespace Fw
open PySem PySem.Spec PyProof.Rows L2
section
variable {X : Cx}
theorem pairs_tup {pins : List (Addr × Obj)} {σ : L2.St} {H : Hp} {s : Shared} (I : L2.Inv X pins σ H s) : ∀ {ps : List Addr} {kvs : List (Key × V)}, Paired (fun p kv => SqT X.K H p [kV kv.1, kv.2]) ps kvs →
    ∃ (prs : List (Key × Value)) (vps : List (Value × Value)), KV kvs prs ∧ prs.length = ps.length ∧ vps.length = ps.length ∧ ∀ (j : Nat) (k v : Value), vps[j]? = some (k, v) → ∃ (b : Addr) (κ : Key), ps[j]? = some b ∧ s.heap.IsTuple b #[k, v] ∧ prs[j]? = some (κ, v) ∧ (mixKind X.prog X.w).is κ k = true
  | _, _, .nil => ⟨[], [], .nil, rfl, rfl, fun j k v e => by simp at e⟩
  | _, _, .cons (a := p) (b := kv) h t => by
    obtain ⟨prs, vps, r, hl, hl2, hp⟩ := pairs_tup I t
    obtain ⟨its, rv, ht, _⟩ := I.tuple h
    obtain ⟨u, y, ei, ru, ry⟩ := vals2 rv
    subst ei
    refine ⟨(kv.1, y) :: prs, (u, y) :: vps, .cons ⟨rfl, ry⟩ r, by rw [List.length_cons, List.length_cons, hl], by rw [List.length_cons, List.length_cons, hl2], fun j k v e => ?_⟩
    cases j with
    | zero =>
      have e' : (u, y) = (k, v) := Option.some.inj e
      cases e'
      exact ⟨p, kv.1, rfl, ht, rfl, kV_is (P := X.prog) (w := X.w) ru⟩
    | succ j =>
      obtain ⟨b, κ, e1, e2, e3, e4⟩ := hp j k v (by simpa using e)
      exact ⟨b, κ, by simpa using e1, e2, by simpa using e3, e4⟩
def rDictT (K : PySem.W.Frag) : List V → Hp → VK → Prop := fun xs H Q => ∃ (a : Addr) (ps : List Addr) (kvs : List (Key × V)), xs = [.ref a] ∧ (∃ o, H a = some (.frz o (.tup (ps.map V.ref))) ∧ o.cls = .type "tuple" ∧ o.dict = none) ∧ Paired (fun p kv => SqT K H p [kV kv.1, kv.2]) ps kvs ∧ ∀ p, H p = none → Q (.ref p) (upd H p (.dK (mergeK [] kvs)))
theorem cr_dictT (hcalm : X.calm = true) : CallR X (.type "dict") (rDictT X.K) := by
  intro pins s σ H xs us Q I r q
  obtain ⟨a, ps, kvs, ex, hq, hp, q⟩ := q
  subst ex
  obtain ⟨u, eu, rx⟩ := vals1 r
  subst eu
  cases rx
  obtain ⟨o0, hq, hcls, hdict⟩ := hq
  obtain ⟨ho0, hz, its, rv, pl0⟩ := I.hok a _ hq
  have ei := refs_at rv
  subst ei
  rw [List.length_map] at hz
  have pl : PlainSeq "tuple" s.heap a (ps.map Value.ref).toArray := by
    obtain ⟨o1, h1, _, n, h3⟩ := pl0
    rw [ho0] at h1
    cases h1
    exact ⟨o0, n, ho0, hcls, hdict, h3⟩
  obtain ⟨prs, vps, rel, hl, hl2, hpr⟩ := pairs_tup I hp
  refine PySem.call_dict_pairs (knd := mixKind X.prog X.w) (kvs := prs) (PySem.PairArg.tuple a (ps.map Value.ref).toArray (fun j => ps.getD j 0) vps) (I.ok.hd hcalm) ⟨pl, by simp [hl2], fun j k v e => ?_⟩ ⟨by rw [hl, hl2], fun j k v e => ?_⟩ (by rw [hl2]; exact hz) fun h' tk hd' k => ?_
  · obtain ⟨b, κ, e1, e2, e3, e4⟩ := hpr j k v e
    refine ⟨by simp [e1], ?_⟩
    have e5 : ps.getD j 0 = b := by simp [List.getD, e1]
    show PairAt s.heap (ps.getD j 0) k v
    rw [e5]
    exact .inl e2
  · obtain ⟨b, κ, e1, e2, e3, e4⟩ := hpr j k v e
    exact ⟨κ, e3, e4⟩
  · have hm : (s.heap.objs.size == sysModules) = false := beq_eq_false_iff_ne.mpr (Nat.ne_of_gt I.big)
    have hlen : (mergeK [] kvs).length ≤ sizeLine := by
      refine Nat.le_trans (length_mergeK kvs []) ?_
      rw [List.length_nil, Nat.zero_add, rel.length, hl]
      exact hz
    exact ⟨.ref s.heap.objs.size, upd H s.heap.objs.size (.dK (mergeK [] kvs)), I.laid (t' := tk) (fun b o e => k b o (by simp) e) (Nat.le_refl _) (show ObjOk X.prog X.w _ _ _ (.dK (mergeK [] kvs)) from ⟨hlen, hm, merged [] prs, KV.merge rel .nil, hd'⟩), rfl, q _ (I.hok.fresh (Nat.le_refl _))⟩
/-! ### tuple keys -/
def mergeT (kvs more : List (List Key × V)) : List (List Key × V) := more.foldl (fun acc kv => putK acc kv.1 kv.2) kvs
theorem KT.all {H : Hp} : ∀ {more : List (List Key × V)} {ts : List (List Key × Addr × Value)} {kvs : List (List Key × V)} {xs : List (List Key × Addr × Value)}, KT H more ts → KT H kvs xs → KT H (mergeT kvs more) (PySem.storedAllH xs ts)
  | _, _, _, _, .nil, r => r
  | _, _, kvs, xs, .cons (a := p) (b := q) h t, r => by
    obtain ⟨h1, h2, h3⟩ := h
    have := KT.all t (r.put q.1 (b := q.2.1) (y := p.2) (u := q.2.2) (by rw [← h1]; exact h2) h3)
    rw [← h1] at this
    unfold mergeT PySem.storedAllH
    rw [List.foldl_cons, List.foldl_cons, ← h1]
    exact this
theorem pairs_tupT {pins : List (Addr × Obj)} {σ : L2.St} {H : Hp} {s : Shared} (I : L2.Inv X pins σ H s) : ∀ {ps : List Addr} {kvs : List (List Key × V)}, Paired (fun p kv => ∃ b, SqT X.K H p [.ref b, kv.2] ∧ H b = some (.tup (kv.1.map kV))) ps kvs →
    ∃ (ts : List (List Key × Addr × Value)) (vps : List (Value × Value)), KT H kvs ts ∧ ts.length = ps.length ∧ vps.length = ps.length ∧ ∀ (j : Nat) (k v : Value), vps[j]? = some (k, v) → ∃ (b : Addr) (κ : List Key) (c : Addr), ps[j]? = some b ∧ s.heap.IsTuple b #[k, v] ∧ ts[j]? = some (κ, c, v) ∧ k = .ref c
  | _, _, .nil => ⟨[], [], .nil, rfl, rfl, fun j k v e => by simp at e⟩
  | _, _, .cons (a := p) (b := kv) h t => by
    obtain ⟨ts, vps, r, hl, hl2, hp⟩ := pairs_tupT I t
    obtain ⟨c, h, hc⟩ := h
    obtain ⟨its, rv, ht, _⟩ := I.tuple h
    obtain ⟨u, y, ei, ru, ry⟩ := vals2 rv
    subst ei
    have eu : u = .ref c := ru
    refine ⟨(kv.1, c, y) :: ts, (u, y) :: vps, .cons ⟨rfl, hc, ry⟩ r, by rw [List.length_cons, List.length_cons, hl], by rw [List.length_cons, List.length_cons, hl2], fun j k v e => ?_⟩
    cases j with
    | zero =>
      have e' : (u, y) = (k, v) := Option.some.inj e
      cases e'
      exact ⟨p, kv.1, c, rfl, ht, rfl, eu⟩
    | succ j =>
      obtain ⟨b, κ, c', e1, e2, e3, e4⟩ := hp j k v (by simpa using e)
      exact ⟨b, κ, c', by simpa using e1, e2, by simpa using e3, e4⟩
def rDictTL (K : PySem.W.Frag) : List V → Hp → VK → Prop := fun xs H Q => ∃ (a : Addr) (ps : List Addr) (kvs : List (List Key × V)), xs = [.ref a] ∧ SqL K H a (ps.map V.ref) ∧ Paired (fun p kv => ∃ b, SqT K H p [.ref b, kv.2] ∧ H b = some (.tup (kv.1.map kV))) ps kvs ∧ ∀ p, H p = none → Q (.ref p) (upd H p (.dT (mergeT [] kvs)))
theorem length_mergeT : ∀ (more kvs : List (List Key × V)), (mergeT kvs more).length ≤ kvs.length + more.length
  | [], kvs => Nat.le_refl _
  | p :: more, kvs => by
    have h1 := length_mergeT more (putK kvs p.1 p.2)
    have h2 := length_putK kvs p.1 p.2
    have h3 : mergeT kvs (p :: more) = mergeT (putK kvs p.1 p.2) more := rfl
    rw [h3, List.length_cons]
    omega
theorem cr_dictTL (hcalm : X.calm = true) (hu : X.A.units + 64 < cLine) : CallR X (.type "dict") (rDictTL X.K) := by
  intro pins s σ H xs us Q I r q
  obtain ⟨a, ps, kvs, ex, hq, hp, q⟩ := q
  subst ex
  obtain ⟨u, eu, rx⟩ := vals1 r
  subst eu
  cases rx
  obtain ⟨its, rv, pl, hz⟩ := I.list hq
  have ei := refs_at rv
  subst ei
  rw [List.length_map] at hz
  obtain ⟨ts, vps, rel, hl, hl2, hpr⟩ := pairs_tupT I hp
  refine PySem.call_dict_pairsH (knd := tupleKind (mixKind X.prog X.w)) (ps := ts) (PySem.PairArg.list a (ps.map Value.ref).toArray (fun j => ps.getD j 0) vps) (I.ok.hd hcalm) ?_ ⟨pl, by simp [hl2], fun j k v e => ?_⟩ ⟨by rw [hl, hl2], fun j k v e => ?_⟩ (fun h' hk x hx => ?_) (by rw [hl2]; exact hz) fun h' tk hd' k => ?_
  · show X.A.in1.in1.units < cLine
    have e : X.A.in1.in1.units ≤ X.A.units + 10 := by
      simp only [Around.in1, Around.units]
      omega
    omega
  · obtain ⟨b, κ, c, e1, e2, e3, e4⟩ := hpr j k v e
    refine ⟨by simp [e1], ?_⟩
    have e5 : ps.getD j 0 = b := by simp [List.getD, e1]
    show PairAt s.heap (ps.getD j 0) k v
    rw [e5]
    exact .inl e2
  · obtain ⟨b, κ, c, e1, e2, e3, e4⟩ := hpr j k v e
    exact ⟨κ, c, e3, e4⟩
  · have key : ∀ {kvs : List (List Key × V)} {ts : List (List Key × Addr × Value)}, KT H kvs ts → ∀ x ∈ ts, H x.2.1 = some (.tup (x.1.map kV)) := fun r => by
      induction r with
      | nil => intro x hx; cases hx
      | cons h t ih =>
        intro x hx
        rcases List.mem_cons.mp hx with rfl | hx
        · rw [← h.1]; exact h.2.1
        · exact ih x hx
    obtain ⟨o, items, n, h1, h2⟩ := key_of (P := X.prog) (w := X.w) I.hok (key rel x hx)
    exact ⟨o, items, n, hk _ _ (Nat.ne_of_lt (Heap.lt_size h1)) (by simp) h1, h2⟩
  · have hm : (s.heap.objs.size == sysModules) = false := beq_eq_false_iff_ne.mpr (Nat.ne_of_gt I.big)
    have hlen : (mergeT [] kvs).length ≤ sizeLine := by
      refine Nat.le_trans (length_mergeT kvs []) ?_
      rw [List.length_nil, Nat.zero_add, rel.length, hl]
      exact hz
    obtain ⟨o, es, ep, h1, h2, h3, h4, _, h5⟩ := hd'
    have hfr : H s.heap.objs.size = none := I.hok.fresh (Nat.le_refl _)
    exact ⟨.ref s.heap.objs.size, upd H s.heap.objs.size (.dT (mergeT [] kvs)), I.laid (t' := tk) (fun b o e => k b o (by simp) e) (Nat.le_refl _) (show ObjOk X.prog X.w _ _ _ (.dT (mergeT [] kvs)) from ⟨hlen, hm, storedAllH [] ts, (KT.all rel .nil).keeps (fun b ys e => by rw [upd_ne (ne_of_none e hfr)]; exact e), o, es, ep, h1, h2, h3, h4, h5⟩), rfl, q _ hfr⟩
/-! ### tuples known to be bare -/
def rTupX (K : PySem.W.Frag) : List V → Hp → VK → Prop := fun xs H Q => ∃ p ys, xs = [.ref p] ∧ SqL K H p ys ∧ ∀ l, H l = none → ∀ o : Obj, o.cls = .type "tuple" → o.dict = none → Q (.ref l) (upd H l (.frz o (.tup ys)))
theorem cr_tupX : CallR X (.type "tuple") (rTupX X.K) := by
  intro pins s σ H xs us Q I r h
  obtain ⟨p, ys, rfl, hq, q⟩ := h
  obtain ⟨u, rfl, rx⟩ := vals1 r
  cases rx
  obtain ⟨its, r', pl, hz⟩ := I.list hq
  have hlen := r'.length
  refine call_tuple_list pl.isList (fun h' kp => ?_) (by simp only [List.size_toArray] <;> omega)
  have I1 : L2.Inv X pins σ H { s with heap := h' } := I.kept (t' := s.toks) kp
  have I2 : L2.Inv X pins σ (upd H h'.objs.size (.frz { cls := .type "tuple", data := .seq its.toArray } (.tup ys))) { s with heap := h'.push { cls := .type "tuple", data := .seq its.toArray } } :=
    I1.laid (t' := s.toks) (fun b o e => Heap.get?_push_of_some _ e) (Nat.le_refl _) (show ObjOk X.prog X.w _ _ _ (.frz { cls := .type "tuple", data := .seq its.toArray } (.tup ys)) from ⟨Heap.get?_push_size _ rfl, hz, its, r', IsTup.new _ _⟩)
  exact ⟨.ref h'.objs.size, _, I2, rfl, q _ (I1.hok.fresh (Nat.le_refl _)) _ rfl rfl⟩
end
end Fw
set_option Elab.async false
set_option linter.all false
set_option maxRecDepth 100000
set_option maxHeartbeats 4000000
/-! a tuple times any number that is not negative -/
namespace Fw
open PySem PySem.Spec PyProof.Rows L2
theorem mul_one (l : Addr) (items : Array Value) (n : Nat) (dd : Option Addr) (sl : Array (Option Value)) (u : Tok) :
    Meets (Builtin.«tuple.__mul__» ⟨[.ref l, .int 1 u], []⟩) (fun _ R s => s.heap.get? l = some { cls := .type "tuple", dict := dd, data := .seq items n, slots := sl } ∧ R (.ok (.ret (.ref l))) s) :=
  .of_wp fun prog w A R s h => by
    obtain ⟨hp, g, d, tk, os⟩ := s
    obtain ⟨hl, h⟩ := h
    have f1 := AutoSeq1.idx_int
    have c1 : (items.isEmpty || (1 : Int) == 1) = true := by simp
    wp_walk using wpAny_loadPart' hl
    repeat (first
      | (refine wpAny_ite_false (decide_eq_false (by decide)) ?_; wp_walk using wpAny_loadPart' hl)
      | (refine wpAny_ite_true (decide_eq_true c1) ?_; wp_walk using wpAny_loadPart' hl))
    all_goals first
      | exact ⟨_, rfl, h⟩
      | trace_state
theorem mul_nil (l : Addr) (items : Array Value) (n : Nat) (dd : Option Addr) (sl : Array (Option Value)) (u : Tok) (c : items.isEmpty = false) :
    Meets (Builtin.«tuple.__mul__» ⟨[.ref l, .int 0 u], []⟩) (fun _ R s => s.heap.get? l = some { cls := .type "tuple", dict := dd, data := .seq items n, slots := sl } ∧ R (.ok (.ret (.ref s.heap.objs.size))) { s with heap := s.heap.push { cls := .type "tuple", data := .seq #[] }, toks := s.toks }) :=
  .of_wp fun prog w A R s h => by
    obtain ⟨hp, g, d, tk, os⟩ := s
    obtain ⟨hl, h⟩ := h
    have f1 := AutoSeq1.idx_int
    have c1 : (items.isEmpty || (0 : Int) == 1) = false := by rw [c]; rfl
    have c2 : (decide ((0 : Int) ≤ 0) || items.isEmpty) = true := by simp
    wp_walk using wpAny_loadPart' hl
    repeat (first
      | (refine wpAny_ite_false (decide_eq_false (by decide)) ?_; wp_walk using wpAny_loadPart' hl)
      | (refine wpAny_ite_false (decide_eq_false (by rw [c1]; exact Bool.false_ne_true)) ?_; wp_walk using wpAny_loadPart' hl)
      | (refine wpAny_ite_true (decide_eq_true c2) ?_; wp_walk using wpAny_loadPart' hl))
    all_goals first
      | exact ⟨_, rfl, h⟩
      | trace_state
def rRepA (K : PySem.W.Frag) : R2 := fun x y H Q => ∃ l k xs, x = .ref l ∧ y = .int k ∧ SqT K H l xs ∧ xs ≠ [] ∧ 0 ≤ k ∧ k ≤ 1000 ∧ xs.length ≤ 1000 ∧ (k = 1 → Q (.ref l) H) ∧ (k ≠ 1 → ∀ p, H p = none → Q (.ref p) (upd H p (.tup (List.replicate k.toNat xs).flatten)))
theorem op_repA {X : Cx} : OpR X (binaryOp .Mult) (rRepA X.K) := by
  intro pins s σ H x y v u Q I rx ry ⟨l, k, xs, ex, ey, hT, hne, h0, h1, hz, q1, q2⟩
  subst ex ey
  by_cases big : 2 ≤ k
  · exact op_repT pins s σ H _ _ v u Q I rx ry ⟨l, k, xs, rfl, rfl, hT, hne, big, h1, hz, q2 (by omega)⟩
  · cases rx
    obtain ⟨t, rfl⟩ := ry
    obtain ⟨its, r, ⟨⟨cls, dd, data, sl⟩, ho, hc, n, hd⟩, hs⟩ := I.tuple hT
    simp only at hc hd
    subst hc hd
    have hn : its ≠ [] := fun e => hne (by
      have hl := r.length
      rw [e] at hl
      exact List.eq_nil_of_length_eq_zero hl)
    have he : its.toArray.isEmpty = false := by
      cases its with
      | nil => exact absurd rfl hn
      | cons a b => rfl
    by_cases one : k = 1
    · subst one
      exact wpAny_binaryOp_repeat_ref (T := "tuple") (U := "int") (by decide) ⟨_, ho, rfl⟩ (fun s' => typeIs_int s' 1 t) noFill_tuple_mul F.fills_int_mul F.slot_int_rmul repeat_tuple F.slot_int_index.lookup
        (call_meets F.slot_int_rmul (typeIs_int s 1 t) F.entry_int_rmul (F.args_int_rmul_2 _ _) (int_rmul_tuple 1 t l its.toArray n dd sl)
          ⟨ho, rfl, ⟨_, ho, rfl⟩, call_meets F.slot_tuple_mul ⟨_, ho, rfl⟩ F.entry_tuple_mul (F.args_tuple_mul_2 _ _) (mul_one l its.toArray n dd sl t) ⟨ho, .ref l, H, I, rfl, q1 rfl⟩⟩)
    · have zero : k = 0 := by omega
      subst zero
      refine wpAny_binaryOp_repeat_ref (T := "tuple") (U := "int") (by decide) ⟨_, ho, rfl⟩ (fun s' => typeIs_int s' 0 t) noFill_tuple_mul F.fills_int_mul F.slot_int_rmul repeat_tuple F.slot_int_index.lookup
        (call_meets F.slot_int_rmul (typeIs_int s 0 t) F.entry_int_rmul (F.args_int_rmul_2 _ _) (int_rmul_tuple 0 t l its.toArray n dd sl)
          ⟨ho, rfl, ⟨_, ho, rfl⟩, call_meets F.slot_tuple_mul ⟨_, ho, rfl⟩ F.entry_tuple_mul (F.args_tuple_mul_2 _ _) (mul_nil l its.toArray n dd sl t he) ⟨ho, ?_⟩⟩)
      refine ⟨.ref s.heap.objs.size, _, I.laid (t' := s.toks) (o := .tup []) (fun b ob q => Heap.get?_push_of_some _ q) (Nat.le_refl _) ⟨Nat.zero_le _, [], .nil, IsTup.new _ _⟩, rfl, q2 (by decide) _ (I.hok.fresh (Nat.le_refl _))⟩
theorem k_repT {X : Cx} (K : PySem.W.Frag) (h : X.K = K := by rfl) : OpR X (binaryOp .Mult) (rRepA K) := by subst h; exact op_repA
end Fw
set_option Elab.async false
set_option linter.all false
set_option maxRecDepth 100000
set_option maxHeartbeats 4000000
/-! the walk: tupled, carry's small defs, Order's readers -/
namespace Fw
open PySem PySem.Spec PyProof.Rows L2
section
variable {P : Program} {w : World} {K : PySem.W.Frag} {mg : Str → Option Value} {base : Heap}

/-! ### is_one_way, is_earlier -/
abbrev spOneWay : Sp := spP (fun _ : Mg × Mg => True) (fun p => [kD (encM p.1), kD (encM p.2)]) (fun p => kB (oneWay p.1 p.2))
theorem eqv_names (a b c d : Nm) : PyData.eqv (.tuple [.str a.1, .str b.1]) (.tuple [.str c.1, .str d.1]) = decide (a = c ∧ b = d) := by
  have h : PyData.eqv (.tuple [.str a.1, .str b.1]) (.tuple [.str c.1, .str d.1]) = (a.1 == c.1 && (b.1 == d.1 && true)) := by simp [PyData.eqv, PyData.eqvAll]
  rw [h]
  by_cases h1 : a = c <;> by_cases h2 : b = d <;> simp [h1, h2, Subtype.ext_iff]
  · intro z
    exact absurd (Subtype.ext z) h2
  · intro z
    exact absurd (Subtype.ext z) h1
  · intro z
    exact absurd (Subtype.ext z) h1
theorem r_is_one_way (T : Tx K mg) : FnR P w K mg base CX0 1 (He.ga K "is_one_way") spOneWay := by
  obtain ⟨fd, F⟩ := T.says.def_ 9 (d := (gD "is_one_way" 15))
  have nd : (["one", "other"] : List Str).Nodup := by decide +kernel
  refine fn_r (N := ["one", "other"]) (ps := ["one", "other"]) F ⟨rfl, rfl, rfl, nd, rfl, by decide +kernel, by decide +kernel⟩ (F.bindsN fun _ _ _ _ _ _ us hl => match us, hl with | [_, _], _ => rfl) .nil (fun _ _ => rfl) fun cdv A outer s H E hr => ?_
  have hu := hu_of hr
  have hu64 := hr.units
  have hu65 := room65 hr
  refine ⟨_, (pss_cons (ps_ret (pe_cmpR (k_eq K hu64) (pe_tup (pa_cons (pe_ix (k_ixT K) (pe_ix (k_ixT K) (pv 0) (pe_glob (v := .int 0) (by rfl) (T.int 56 (n := 0)).choose_spec ⟨_, rfl⟩) (fun _ _ => rfl)) pe_int (fun _ _ => rfl)) (pa_cons (pe_ix (k_ixT K) (pe_ix (k_ixT K) (pv 0) (pe_glob (v := .int 1) (by rfl) (T.int 57 (n := 1)).choose_spec ⟨_, rfl⟩) (fun _ _ => rfl)) pe_int (fun _ _ => rfl)) pa_nil))) (pe_tup (pa_cons (pe_ix (k_ixT K) (pe_ix (k_ixT K) (pv 1) (pe_glob (v := .int 0) (by rfl) (T.int 56 (n := 0)).choose_spec ⟨_, rfl⟩) (fun _ _ => rfl)) pe_int (fun _ _ => rfl)) (pa_cons (pe_ix (k_ixT K) (pe_ix (k_ixT K) (pv 1) (pe_glob (v := .int 1) (by rfl) (T.int 57 (n := 1)).choose_spec ⟨_, rfl⟩) (fun _ _ => rfl)) pe_int (fun _ _ => rfl)) pa_nil))) (nomark _)))
      pss_nil), fun a hp => ?_⟩
  obtain ⟨o, m⟩ := a
  exact go_ret (ev_op
    (ev_tup2D (ev_op (ev_op (ev_var rfl) ev_int (rk_ixT (n := 0) rfl)) ev_int (rk_ixT (n := 0) rfl)) (ev_op (ev_op (ev_var rfl) ev_int (rk_ixT (n := 1) rfl)) ev_int (rk_ixT (n := 0) rfl)))
    (ev_tup2D (ev_op (ev_op (ev_var rfl) ev_int (rk_ixT (n := 0) rfl)) ev_int (rk_ixT (n := 0) rfl)) (ev_op (ev_op (ev_var rfl) ev_int (rk_ixT (n := 1) rfl)) ev_int (rk_ixT (n := 0) rfl)))
    (rk_eqD (Sh.tup2 (Sh.nm _) (Sh.nm _)).shaped (Sh.tup2 (Sh.nm _) (Sh.nm _)).shaped (eqv_names _ _ _ _)))
abbrev spEarlier : Sp := spP (fun _ : Mg × Mg => True) (fun p => [kD (encM p.1), kD (encM p.2)]) (fun p => kB (isEarlier p.1 p.2))
theorem r_is_earlier (T : Tx K mg) : FnR P w K mg base CX0 2 (He.ga K "is_earlier") spEarlier := by
  obtain ⟨fd, F⟩ := T.says.def_ 10 (d := (gD "is_earlier" 16))
  have nd : (["one", "other"] : List Str).Nodup := by decide +kernel
  refine fn_r (N := ["one", "other"]) (ps := ["one", "other"]) F ⟨rfl, rfl, rfl, nd, rfl, by decide +kernel, by decide +kernel⟩ (F.bindsN fun _ _ _ _ _ _ us hl => match us, hl with | [_, _], _ => rfl) .nil (fun _ _ => rfl) fun cdv A outer s H E hr => ?_
  have hu := hu_of hr
  have hu64 := hr.units
  have hu65 := room65 hr
  refine ⟨_, (pss_cons (ps_ret (pe_and (pe_g (r_is_one_way T) hr (by decide) (T.glo 4) (T.kp 9 (d := (gD "is_one_way" 15))) (pa_cons (pv 0) (pa_cons (pv 1) pa_nil))) (pe_one (pe_cmpR (k_lt K hu64) (pv 0) (pv 1) (nomark _)))))
      pss_nil), fun a hp => ?_⟩
  obtain ⟨o, m⟩ := a
  exact go_ret (ev_and (ev_fn (o, m) (ea_two (ev_var rfl) (ev_var rfl)) trivial) fun _ => ev_op (ev_var rfl) (ev_var rfl) rk_ltM)

/-! ### Order.has, is_ahead, is_up_to -/
noncomputable abbrev spHas (K : PySem.W.Frag) : Sp := spP (fun _ : Lg × Et => True) (fun p => [kOrd K p.1, kD (encE p.2)]) (fun p => kB (decide (p.2 ∈ p.1.evs)))
theorem r_Order_has (T : Tx K mg) : FnR P w K mg base CX0 1 (He.ma K (He.ga K "Order") "has") (spHas K) := by
  obtain ⟨fd, F⟩ := T.says.def_ 4 (d := (mD "Order" "has" "Order.has" 8 6))
  have nd : (["self", "event"] : List Str).Nodup := by decide +kernel
  refine fn_r (N := ["self", "event"]) (ps := ["self", "event"]) F ⟨rfl, rfl, rfl, nd, rfl, by decide +kernel, by decide +kernel⟩ (F.bindsN fun _ _ _ _ _ _ us hl => match us, hl with | [_, _], _ => rfl) .nil (fun _ _ => rfl) fun cdv A outer s H E hr => ?_
  have hu := hu_of hr
  have hu64 := hr.units
  have hu65 := room65 hr
  refine ⟨_, (pss_cons (ps_ret (pe_cmp (pc_din hu (pv 1) (k_sl K (pv 0)))))
      pss_nil), fun a hp => ?_⟩
  obtain ⟨L, e⟩ := a
  refine go_ret (ev_dinT (ev_var rfl) (ev_slotI (ev_var rfl) T.ck.o T.ck.o3 rfl) ?_)
  by_cases h : e ∈ L.evs <;> simp [h]
noncomputable abbrev spAhead (K : PySem.W.Frag) : Sp := spP (fun p : Lg × Et × Et => p.2.2 ∈ p.1.evs) (fun p => [kOrd K p.1, kD (encE p.2.1), kD (encE p.2.2)]) (fun p => kB (ah p.1 p.2.1 p.2.2))
theorem r_Order_is_ahead (T : Tx K mg) : FnR P w K mg base CX0 1 (He.ma K (He.ga K "Order") "is_ahead") (spAhead K) := by
  obtain ⟨fd, F⟩ := T.says.def_ 5 (d := (mD "Order" "is_ahead" "Order.is_ahead" 8 7))
  have nd : (["self", "one", "other"] : List Str).Nodup := by decide +kernel
  refine fn_r (N := ["self", "one", "other"]) (ps := ["self", "one", "other"]) F ⟨rfl, rfl, rfl, nd, rfl, by decide +kernel, by decide +kernel⟩ (F.bindsN fun _ _ _ _ _ _ us hl => match us, hl with | [_, _, _], _ => rfl) .nil (fun _ _ => rfl) fun cdv A outer s H E hr => ?_
  have hu := hu_of hr
  have hu64 := hr.units
  have hu65 := room65 hr
  refine ⟨_, (pss_cons (ps_ret (pe_cmp (pc_din hu (pv 1) (pe_dget hu (k_sl K (pv 0)) (pv 2) (fun _ _ => rfl)))))
      pss_nil), fun a hp => ?_⟩
  obtain ⟨L, o, e⟩ := a
  refine go_ret (ev_dinT (ev_var rfl) (ev_dgetT (kz := kST fun o => ah L o e) (ev_slotI (ev_var rfl) T.ck.o T.ck.o3 rfl) (ev_var rfl) (if_pos hp)) ?_)
  by_cases h : ah L o e = true <;> simp [h]
noncomputable abbrev spUpTo (K : PySem.W.Frag) : Sp := spP (fun p : Lg × Et × Et => p.2.2 ∈ p.1.evs) (fun p => [kOrd K p.1, kD (encE p.2.1), kD (encE p.2.2)]) (fun p => kB (up p.1 p.2.1 p.2.2))
theorem r_Order_is_up_to (T : Tx K mg) : FnR P w K mg base CX0 2 (He.ma K (He.ga K "Order") "is_up_to") (spUpTo K) := by
  obtain ⟨fd, F⟩ := T.says.def_ 6 (d := (mD "Order" "is_up_to" "Order.is_up_to" 8 9))
  have nd : (["self", "one", "other"] : List Str).Nodup := by decide +kernel
  refine fn_r (N := ["self", "one", "other"]) (ps := ["self", "one", "other"]) F ⟨rfl, rfl, rfl, nd, rfl, by decide +kernel, by decide +kernel⟩ (F.bindsN fun _ _ _ _ _ _ us hl => match us, hl with | [_, _, _], _ => rfl) .nil (fun _ _ => rfl) fun cdv A outer s H E hr => ?_
  have hu := hu_of hr
  have hu64 := hr.units
  have hu65 := room65 hr
  refine ⟨_, (pss_cons (ps_ret (pe_or (pe_cmpR (k_eq K hu64) (pv 1) (pv 2) (nomark _)) (pe_one (pe_ms (pv 0) T.ck.o (T.mth 63) (r_Order_is_ahead T) hr (by decide) (pa_cons (pv 1) (pa_cons (pv 2) pa_nil))))))
      pss_nil), fun a hp => ?_⟩
  obtain ⟨L, o, e⟩ := a
  exact go_ret (ev_or (ev_op (ev_var rfl) (ev_var rfl) rk_eqE) fun _ => ev_meth (Mi := fun _ => []) (Mo := fun _ => []) (L, o, e) (ev_var rfl) slI_is (ea_two (ev_var rfl) (ev_var rfl)) rfl hp)
end
end Fw
set_option Elab.async false
set_option linter.all false
set_option maxRecDepth 100000
set_option maxHeartbeats 4000000
/-! tuples known to be bare: entries -/
namespace Fw
open PySem PySem.Spec PyProof.Rows L2
theorem k_tupX {X : Cx} (K : PySem.W.Frag) (h : X.K = K := by rfl) : CallR X (.type "tuple") (rTupX K) := by subst h; exact cr_tupX
def kX (ds : List PyData) : Kn := ⟨fun v H => ∃ (a : Addr) (o : Obj) (xs : List V), v = .ref a ∧ H a = some (.frz o (.tup xs)) ∧ o.cls = .type "tuple" ∧ o.dict = none ∧ TkAll H xs ds, fun e ⟨a, o, xs, h1, h2, h3, h4, h5⟩ => ⟨a, o, xs, h1, e _ _ h2, h3, h4, TkAll.ex e _ _ h5⟩⟩
/-- a tuple that can be read -/
def kR (ds : List PyData) : Kn := ⟨fun v H => ∃ (a : Addr) (xs : List V), v = .ref a ∧ Rd H a (.tup xs) ∧ TkAll H xs ds, fun e ⟨a, xs, h1, h2, h3⟩ => ⟨a, xs, h1, h2.elim (fun z => .inl (e _ _ z)) fun ⟨o, z⟩ => .inr ⟨o, e _ _ z⟩, TkAll.ex e _ _ h3⟩⟩
theorem kR_X {ds : List PyData} {v : V} {H : Hp} (p : (kX ds).p v H) : (kR ds).p v H := by
  obtain ⟨a, o, xs, h1, h2, _, _, h5⟩ := p
  exact ⟨a, xs, h1, .inr ⟨o, h2⟩, h5⟩
theorem kR_D {ds : List PyData} {v : V} {H : Hp} (p : (kD (.tuple ds)).p v H) : (kR ds).p v H := by
  obtain ⟨a, xs, h1, h2, h3⟩ := p.tup_inv
  exact ⟨a, xs, h1, .inl h2, h3⟩
theorem Rd.ex {H H' : Hp} {a : Addr} {u : HO} (e : Ex H H') (h : Rd H a u) : Rd H' a u := h.elim (fun z => .inl (e _ _ z)) fun ⟨o, z⟩ => .inr ⟨o, e _ _ z⟩
section
variable {Γ : Ga} {M M1 : List Mu} {te : TE} {K : PySem.W.Frag}
theorem ck_tupX {ds : List PyData} : CK (rTupX K) M [kD (.list ds)] (kX ds) := fun xs F B C o ps Q q => by
  obtain ⟨v, rfl, pv⟩ := allK1 ps
  obtain ⟨a, ys, rfl, h1, h2⟩ := pv.lst_inv
  exact ⟨a, ys, rfl, SqL.of (o.ex _ _ h1), fun l hl ob hc hd => q _ _ _ (Ex.new (o.ex.back hl)) (o.new hl) ⟨l, ob, ys, rfl, upd_same, hc, hd, TkAll.ex (Ex.new (o.ex.back hl)) _ _ h2⟩⟩
theorem goes_rd {ks : List Kn} {A : Hp} {a : Addr} {xs : List V} (h : Rd A a (.tup xs)) (hk : AllK A ks xs) : GoesK (Itt K a) A [] ks := by
  have hl := hk.length
  have sq : ∀ B C, Ex A B → Ex B C → SqT K C a xs := fun B C e1 e2 => .inl (Rd.ex (e1.trans e2) h)
  refine ⟨fun N B C _ e o i hi => ⟨xs, xs[i]'(by omega), sq B C e o.ex, List.getElem?_eq_getElem _⟩, fun N B C _ e o => ⟨xs, sq B C e o.ex, by omega⟩, fun N B C _ e o i k y C' hi ⟨he, hy⟩ => ?_⟩
  subst he
  obtain ⟨v, hv, pv⟩ := hk.at hi
  have h1 := hy xs (sq B _ e o.ex)
  rw [hv] at h1
  cases h1
  exact ⟨B, Ex.refl B, o, k.mono e pv⟩
theorem ei_tupR {ds : List PyData} (h : Ev te Γ M M1 (kR ds)) : EvI (iTup K te) Γ M M1 [] (ds.map kD) := fun F σ B C s o R q =>
  h F σ B C s o _ fun x B1 C1 e1 o1 ⟨a, xs, h1, h2, h3⟩ => ⟨a, h1, ⟨xs, .inl (Rd.ex o1.ex h2)⟩, q _ B1 C1 e1 o1 (goes_rd h2 (AllK.data.mpr h3))⟩
theorem ei_tupRE {α : Type} {l : List α} {f : α → PyData} (h : Ev te Γ M M1 (kR (l.map f))) : EvI (iTup K te) Γ M M1 [] (l.map fun a => kD (f a)) := by
  have h2 := ei_tupR (K := K) h
  rw [List.map_map] at h2
  exact h2
theorem rk_notInR {d : PyData} {ds : List PyData} {b : Bool} (h1 : SeqAt.shaped d = true) (h2 : SeqAt.shaped (.tuple ds) = true) (hb : (!ds.any fun z => PyData.eqv z d) = b) : RK (rNotInDT K) M (kD d) (kR ds) (kB b) := fun x y F B C o px ⟨a, xs, e, h3, h4⟩ Q q => by
  subst e
  refine ⟨d, ds, (Tk.ex o.ex _ _ px).dp, .tup (.inl (Rd.ex o.ex h3)) (TkAll.ex o.ex _ _ h4).dp, h1, h2, ?_⟩
  rw [hb]
  exact q _ B C (Ex.refl B) o (.bl b)
end
abbrev entX (C : Rows) (f : Row → Option Nat) : Kn := kX ((ents f C).map encN)
end Fw
set_option Elab.async false
set_option linter.all false
set_option maxRecDepth 100000
set_option maxHeartbeats 4000000
/-! the walk: tupled, greatest, greater, stamp_of, first_out -/
namespace Fw
open PySem PySem.Spec PyProof.Rows L2
/-! ### what is walked, data by its enc -/
section
variable {Γ : Ga} {M M1 S : List Mu} {te : TE} {K : PySem.W.Frag} {wi : TI}
theorem ei_map {α β : Type} {l : List α} {f : α → β} {g : β → Kn} (h : EvI wi Γ M M1 S ((l.map f).map g)) : EvI wi Γ M M1 S (l.map fun a => g (f a)) := by
  rw [List.map_map] at h
  exact h
theorem ei_tupE {α : Type} {l : List α} {f : α → PyData} (h : Ev te Γ M M1 (kD (.tuple (l.map f)))) : EvI (iTup K te) Γ M M1 [] (l.map fun a => kD (f a)) := ei_map (ei_tupD h)
theorem ei_lstE {α : Type} {l : List α} {f : α → PyData} (h : Ev te Γ M M1 (kD (.list (l.map f)))) : EvI (iList K te) Γ M M1 [] (l.map fun a => kD (f a)) := ei_map (ei_listD h)
theorem ei_seqL {ds : List PyData} (h : Ev te Γ M M1 (kD (.list ds))) : EvI (iSeq K te) Γ M M1 [] (ds.map kD) := fun F σ B C s o R q =>
  ei_listD (K := K) h F σ B C s o R q |> fun z => h F σ B C s o _ fun x B1 C1 e1 o1 p => by
    obtain ⟨a, xs, rfl, h1, h2⟩ := Tk.lst_inv p
    exact ⟨a, rfl, .inl ⟨⟨xs, SqL.of (o1.ex _ _ h1)⟩, q _ B1 C1 e1 o1 (goes_list h1 (AllK.data.mpr h2))⟩⟩
theorem ei_seqT {ds : List PyData} (h : Ev te Γ M M1 (kD (.tuple ds))) : EvI (iSeq K te) Γ M M1 [] (ds.map kD) := fun F σ B C s o R q =>
  h F σ B C s o _ fun x B1 C1 e1 o1 p => by
    obtain ⟨a, xs, rfl, h1, h2⟩ := Tk.tup_inv p
    exact ⟨a, rfl, .inr ⟨⟨xs, SqT.of (o1.ex _ _ h1)⟩, q _ B1 C1 e1 o1 (goes_tup h1 (AllK.data.mpr h2))⟩⟩
end
theorem sub_nil {M : List Mu} : ∀ m ∈ ([] : List Mu), m ∈ M := fun _ h => nomatch h
theorem in_one {α : Type} {a : α} : ∀ i ∈ [a], i ∈ [a] := fun _ h => h
section
variable {P : Program} {w : World} {K : PySem.W.Frag} {mg : Str → Option Value} {base : Heap}

/-! ### tupled -/
abbrev spTupled (n : Nat) : Sp := spP (fun d : PyData => d.depth < n ∧ fit d = true) (fun d => [kD d]) (fun d => kD (tpl d))
theorem kit_or {T U V : String} {b c : Bool} (h : kitB T U = some b) (k : kitB T V = some c) : PySem.W.kitAny K (.type T) [.type U, .type V] = some (b || c) := by
  refine kitAny_cons (kit_ty h) (fun e => ?_) (fun e => by rw [e]; rfl)
  subst e
  exact kitAny_cons (kit_ty k) (fun e => by rw [e]; rfl) (fun e => by rw [e]; rfl)
def isSeqD : PyData → Bool
  | .list _ => true
  | .tuple _ => true
  | _ => false
theorem kit_LT (d : PyData) : PySem.W.kitAny K (.type (tyD d)) [.type "list", .type "tuple"] = some (isSeqD d) := by
  cases d with
  | none => exact kit_or (T := "NoneType") (b := false) (c := false) (by decide +kernel) (by decide +kernel)
  | bool b => exact kit_or (T := "bool") (b := false) (c := false) (by decide +kernel) (by decide +kernel)
  | int i => exact kit_or (T := "int") (b := false) (c := false) (by decide +kernel) (by decide +kernel)
  | str x => exact kit_or (T := "str") (b := false) (c := false) (by decide +kernel) (by decide +kernel)
  | list ds => exact kit_or (T := "list") (b := true) (c := false) (by decide +kernel) (by decide +kernel)
  | tuple ds => exact kit_or (T := "tuple") (b := false) (c := true) (by decide +kernel) (by decide +kernel)
  | dict kvs => exact kit_or (T := "dict") (b := false) (c := false) (by decide +kernel) (by decide +kernel)
theorem depth_mem {ds : List PyData} {n : Nat} (h : PyData.depthAll ds < n) : ∀ d ∈ ds, d.depth < n := fun d hd => by
  induction ds with
  | nil => cases hd
  | cons e ds ih =>
    have h2 : max e.depth (PyData.depthAll ds) < n := h
    rcases List.mem_cons.mp hd with rfl | hd
    · exact Nat.lt_of_le_of_lt (Nat.le_max_left _ _) h2
    · exact ih (Nat.lt_of_le_of_lt (Nat.le_max_right _ _) h2) hd
theorem r_tupledN (T : Tx K mg) : ∀ n, FnR P w K mg base CX0 n (He.ga K "tupled") (spTupled n)
  | 0 => fun A outer s H us vs Q E hr e0 r ⟨a, _, _, h, _⟩ => absurd h.1 (Nat.not_lt_zero _)
  | n + 1 => by
    have ih := r_tupledN T n
    obtain ⟨fd, F⟩ := T.says.def_ 0 (d := (gD "tupled" 6))
    have nd : (["thing", "part"] : List Str).Nodup := by decide +kernel
    refine fn_r (N := ["thing", "part"]) (ps := ["thing"]) F ⟨rfl, rfl, rfl, nd, rfl, by decide +kernel, by decide +kernel⟩ (F.bindsN fun _ _ _ _ _ _ us hl => match us, hl with | [_], _ => rfl) .nil (fun _ _ => rfl) fun cdv A outer s H E hr => ?_
    have hu := hu_of hr
    have hu64 := hr.units
    have hu65 := room65 hr
    refine ⟨_, (pss_cons (ps_ret (pe_ifExp (pt_val (pe_callB (k_isi2 K) (by rfl) (T.free 38) (by decide +kernel) (pa_cons (pv 0) (pa_cons (pe_tup (pa_cons (pe_bltn (by rfl) (T.free 39) (by decide +kernel) (v := .ty "list") rfl) (pa_cons (pe_bltn (by rfl) (T.free 37) (by decide +kernel) (v := .ty "tuple") rfl) pa_nil))) pa_nil)))) (pe_callTy (k_tup K) (by rfl) (T.free 37) (by decide +kernel) (pa_cons (pe_lc (own := [("part", 1)]) rfl nd (k_iS K (pv 0)) (blkOk_by (own := [("part", 1)]) (N := ["thing", "part"]) (sc := defScope (top 6)) (by decide +kernel)) (fun _ _ _ _ _ => (pg_name (i := 1) nd rfl (Or.inl rfl))) (fun _ _ _ _ _ => pts_nil) (fun _ _ _ _ _ => (pe_g ih hr (Nat.le_refl _) (T.glo 0) (T.kp 0 (d := (gD "tupled" 6))) (pa_cons (pv 1) pa_nil)))) pa_nil)) (pv 0)))
        pss_nil), fun a hp => ?_⟩
    have hc : ∀ ds : List PyData, PyData.depthAll ds < n → fitAll ds = true → ds.length ≤ 50000 → ∀ Γ1 : Ga, ∀ Γ : Ga, Γ = [some (kD a), none] → ∀ i d, ds[i]? = some d → TurnK (gName 1) tYes (tCall (spTupled n) [] E0 (tCons (tVar 1) tNil)) [1] Γ [] (kD d) true (kD (tpl d)) := fun ds h1 h2 h3 Γ1 Γ e i d hd => by
      subst e
      exact ⟨_, [1], tg_name, in_one, et_yes, fun _ => ev_fn d (ea_one (ev_var rfl)) ⟨depth_mem h1 d (List.mem_of_getElem? hd), fitAll_mem h2 d (List.mem_of_getElem? hd)⟩⟩
    refine go_ret (ev_if (et_B (ev_cb (ea_two (ev_var rfl) (ev_tup (ea_two ev_c ev_c))) (ck_isi2 (kit_LT a)))) (fun hb => ?_) (fun hb => ?_))
    · cases a with
      | list ds =>
        have h2 := Bool.and_eq_true_iff.mp (show (decide (ds.length ≤ 50000) && fitAll ds) = true by have := hp.2; simpa only [fit] using this)
        have h1 : PyData.depthAll ds < n := Nat.lt_of_succ_lt_succ (show PyData.depthAll ds + 1 < n + 1 from hp.1)
        refine (ev_cb (ea_one (ev_lcA ds kD tpl (ei_seqL (ev_var rfl)) sub_nil (of_decide_eq_true h2.1) (hc ds h1 h2.2 (of_decide_eq_true h2.1) [] _ rfl))) ck_tupOf).is ?_
        simp only [tpl, tplAll_eq]
      | tuple ds =>
        have h2 := Bool.and_eq_true_iff.mp (show (decide (ds.length ≤ 50000) && fitAll ds) = true by have := hp.2; simpa only [fit] using this)
        have h1 : PyData.depthAll ds < n := Nat.lt_of_succ_lt_succ (show PyData.depthAll ds + 1 < n + 1 from hp.1)
        refine (ev_cb (ea_one (ev_lcA ds kD tpl (ei_seqT (ev_var rfl)) sub_nil (of_decide_eq_true h2.1) (hc ds h1 h2.2 (of_decide_eq_true h2.1) [] _ rfl))) ck_tupOf).is ?_
        simp only [tpl, tplAll_eq]
      | _ => cases hb
    · refine (ev_var (k := kD a) rfl).is ?_
      cases a with
      | list ds => exact absurd (show true = false from hb) (by decide)
      | tuple ds => exact absurd (show true = false from hb) (by decide)
      | _ => simp only [tpl]
abbrev spTup : Sp := spTupled 6
theorem ev_tpl {Γ : Ga} {M M1 : List Mu} {t : TA} {d : PyData} {E : XK} (h : EvA t Γ M M1 [kD d]) (fx : Fx d) (hd : d.depth < 6) : Ev (tCall spTup [] E t) Γ M M1 (kD d) := by
  have h2 : Ev (tCall spTup [] E t) Γ M M1 (kD (tpl d)) := ev_fn (args := fun d : PyData => [kD d]) (res := fun d => kD (tpl d)) d h ⟨hd, fx.2⟩
  rwa [fx.1] at h2
theorem r_tupled (T : Tx K mg) : FnR P w K mg base CX0 6 (He.ga K "tupled") spTup := r_tupledN T 6
/-! ### greatest -/
theorem foldl_cast (r : Row) : ∀ (fr : List (Row → Nat)) (n : Nat), (fr.map fun f => ((f r : Nat) : Int)).foldl max (n : Int) = ((vmax (n :: fr.map fun f => f r) : Nat) : Int)
  | [], n => by simp [vmax]
  | f :: fr, n => by
    rw [List.map_cons, List.map_cons, List.foldl_cons]
    have e : max ((n : Nat) : Int) ((f r : Nat) : Int) = ((max n (f r) : Nat) : Int) := by omega
    rw [e, foldl_cast r fr]
    congr 1
    rw [vmax_cons, vmax_cons, vmax_cons]
    omega
abbrev spGreatest : Sp := spP (fun p : Rows × (Row → Nat) × List (Row → Nat) => p.1.length ≤ 10 ∧ p.2.2.length ≤ 50000) (fun p => [kD (.list ((p.2.1 :: p.2.2).map fun f => vecD p.1 f))]) (fun p => kD (vecD p.1 fun r => vmax ((p.2.1 :: p.2.2).map fun f => f r)))
theorem r_greatest (T : Tx K mg) : FnR P w K mg base CX0 1 (He.ga K "greatest") spGreatest := by
  obtain ⟨fd, F⟩ := T.says.def_ 11 (d := (gD "greatest" 17))
  have nd : (["rows", "numbers"] : List Str).Nodup := by decide +kernel
  refine fn_r (N := ["rows", "numbers"]) (ps := ["rows"]) F ⟨rfl, rfl, rfl, nd, rfl, by decide +kernel, by decide +kernel⟩ (F.bindsN fun _ _ _ _ _ _ us hl => match us, hl with | [_], _ => rfl) .nil (fun _ _ => rfl) fun cdv A outer s H E hr => ?_
  have hu := hu_of hr
  have hu64 := hr.units
  have hu65 := room65 hr
  refine ⟨_, (pss_cons (ps_ret (pe_callTy (k_tup K) (by rfl) (T.free 37) (by decide +kernel) (pa_cons (pe_lc (own := [("numbers", 1)]) rfl nd (k_iZN K (by rfl) (T.free 43) (pv 0)) (blkOk_by (own := [("numbers", 1)]) (N := ["rows", "numbers"]) (sc := defScope (top 17)) (by decide +kernel)) (fun _ _ _ _ _ => (pg_name (i := 1) nd rfl (Or.inl rfl))) (fun _ _ _ _ _ => pts_nil) (fun _ _ _ _ _ => (pe_callB (k_max K rfl hu64) (by rfl) (T.free 44) (by decide +kernel) (pa_cons (pv 1) pa_nil)))) pa_nil)))
      pss_nil), fun a hp => ?_⟩
  obtain ⟨C, f0, fr⟩ := a
  obtain ⟨h1, h2⟩ := hp
  have h2 : fr.length ≤ 50000 := h2
  refine go_ret (ev_cb (ea_one (ev_lcA (α := Row) C (fun c => kD (PyData.tuple ((f0 :: fr).map fun f => PyData.int (f c : Nat)))) (fun c => PyData.int (vmax ((f0 :: fr).map fun f => f c) : Nat)) (ei_map (ei_zipN (f0 :: fr) C (fun f c => PyData.int (f c : Nat)) (ev_var rfl) (by simp) (by simp; omega))) sub_nil (by show C.length ≤ 50000; have : C.length ≤ 10 := h1; omega) fun i c hc => ?_)) ck_tupOf)
  refine ⟨_, [1], tg_name, in_one, et_yes, fun _ => ?_⟩
  have e : PyData.tuple ((f0 :: fr).map fun f => PyData.int (f c : Nat)) = .tuple ((((f0 c : Nat) : Int) :: fr.map fun f => ((f c : Nat) : Int)).map .int) := by simp
  have h := ev_cb (Γ := _) (M := []) (M1 := []) (r := rMaxT K) (ea_one ((ev_var (i := 1) (Γ := (wipeG [some (kD (PyData.list ((f0 :: fr).map fun f => vecD C f))), none] [1]).set 1 (some (kD (PyData.tuple ((f0 :: fr).map fun f => PyData.int (f c : Nat)))))) rfl).is e)) ck_maxT
  rw [foldl_cast] at h
  exact h

/-! ### greater -/
theorem ents_filter (C : Rows) (f g : Row → Nat) : (C.zipIdx.filter fun p => decide ((g p.1 : Int) < (f p.1 : Int))).map (fun p => encN (p.2, f p.1)) = (ents (fun r => gtO (f r) (g r)) C).map encN := by
  unfold ents
  induction C.zipIdx with
  | nil => rfl
  | cons p l ih =>
    rw [List.filterMap_cons]
    by_cases h : g p.1 < f p.1
    · rw [List.filter_cons_of_pos (by simpa using h)]
      simp only [gtO, if_pos h, Option.map_some, List.map_cons]
      rw [ih]
      simp only [gtO]
    · rw [List.filter_cons_of_neg (by simpa using h)]
      simp only [gtO, if_neg h, Option.map_none]
      rw [ih]
      simp only [gtO]
abbrev spGreater : Sp := spP (fun p : Rows × (Row → Nat) × (Row → Nat) => p.1.length ≤ 10) (fun p => [kD (vecD p.1 p.2.1), kD (vecD p.1 p.2.2)]) (fun p => entX p.1 fun r => gtO (p.2.1 r) (p.2.2 r))
theorem r_greater (T : Tx K mg) : FnR P w K mg base CX0 1 (He.ga K "greater") spGreater := by
  obtain ⟨fd, F⟩ := T.says.def_ 12 (d := (gD "greater" 18))
  have nd : (["numbers", "others", "both", "counter", "number", "other"] : List Str).Nodup := by decide +kernel
  refine fn_r (N := ["numbers", "others", "both", "counter", "number", "other"]) (ps := ["numbers", "others"]) F ⟨rfl, rfl, rfl, nd, rfl, by decide +kernel, by decide +kernel⟩ (F.bindsN fun _ _ _ _ _ _ us hl => match us, hl with | [_, _], _ => rfl) .nil (fun _ _ => rfl) fun cdv A outer s H E hr => ?_
  have hu := hu_of hr
  have hu64 := hr.units
  have hu65 := room65 hr
  refine ⟨_, (pss_cons (ps_set (i := 2) nd rfl (Or.inl rfl) (pe_lz rfl (by rfl) (T.free 39) (by rfl) (T.free 43) (pa_cons (pv 0) (pa_cons (pv 1) pa_nil))))
      (pss_cons (ps_ret (pe_callTy (k_tupX K) (by rfl) (T.free 37) (by decide +kernel) (pa_cons (pe_lc (own := [("counter", 3), ("number", 4), ("other", 5)]) rfl nd (pi_enum (by rfl) (T.free 45) (pa_cons (pv 2) pa_nil)) (blkOk_by (own := [("counter", 3), ("number", 4), ("other", 5)]) (N := ["numbers", "others", "both", "counter", "number", "other"]) (sc := defScope (top 18)) (by decide +kernel)) (fun _ _ _ _ _ => (k_gT K (n := 2) rfl (pgs_cons (pg_name (i := 3) nd rfl (Or.inl rfl)) (pgs_cons (k_gT K (n := 2) rfl (pgs_cons (pg_name (i := 4) nd rfl (Or.inl rfl)) (pgs_cons (pg_name (i := 5) nd rfl (Or.inl rfl)) pgs_nil))) pgs_nil)))) (fun _ _ _ _ _ => (pts_one (pt_cmpR op_gt (pv 4) (pv 5) (nomark _)))) (fun _ _ _ _ _ => (pe_tup (pa_cons (pv 3) (pa_cons (pv 4) pa_nil))))) pa_nil)))
      pss_nil)), fun a hp => ?_⟩
  obtain ⟨C, f, g⟩ := a
  have h1 : C.length ≤ 10 := hp
  refine go_set (ev_lz C (fun r => PyData.int (f r : Nat)) (fun r => PyData.int (g r : Nat)) (ea_two (ev_var rfl) (ev_var rfl)) (by omega)) ?_
  refine go_ret (ev_cb (ea_one ((ev_lcD (α := Row × Nat) C.zipIdx (fun p => kD (.tuple [.int (p.2 : Nat), .tuple [.int (f p.1 : Nat), .int (g p.1 : Nat)]])) (fun p => decide ((g p.1 : Int) < (f p.1 : Int))) (fun p => encN (p.2, f p.1)) ?_ sub_nil (by simp; omega) fun i p hp => ?_).is (d' := .list ((ents (fun r => gtO (f r) (g r)) C).map encN)) (by rw [ents_filter]))) ck_tupX)
  · have h := ei_enumD (K := K) (Γ := [some (kD (vecD C f)), some (kD (vecD C g)), some (kD (.list (C.map fun c => .tuple [.int (f c : Nat), .int (g c : Nat)]))), none, none, none]) (M := []) (M1 := []) (te := tVar 2) (ev_var rfl)
    rw [List.zipIdx_map, List.map_map, List.map_map] at h
    exact h
  · refine ⟨_, [3, 4, 5], tg_tup (tgs_cons tg_name (tgs_cons (tg_tup (tgs_cons tg_name (tgs_cons tg_name tgs_nil)) rfl) tgs_nil)) rfl |>.of fun v H q => ?_, fun j hj => by simpa using hj, et_test (ev_op (ev_var rfl) (ev_var rfl) rk_gt), fun _ => ev_tup2D (ev_var rfl) (ev_var rfl)⟩
    obtain ⟨a, xs, e1, e2, e3⟩ := kTup_data (ds := [PyData.int (p.2 : Nat), .tuple [.int (f p.1 : Nat), .int (g p.1 : Nat)]]).mpr q
    refine ⟨a, xs, e1, e2, ?_⟩
    cases e3 with
    | cons q1 e3 =>
      cases e3 with
      | cons q2 e3 =>
        cases e3
        exact .cons q1 (.cons (kTup_data (ds := [PyData.int (f p.1 : Nat), .int (g p.1 : Nat)]).mpr q2) .nil)

/-! ### stamp_of -/
noncomputable abbrev spStampOf (K : PySem.W.Frag) : Sp := spP (fun p : Lg × Rows × Et => LgOk p.1 ∧ RwOk p.1 p.2.1 ∧ p.2.2 ∈ p.1.evs) (fun p => [kOrd K p.1, kD (encRows p.2.1), kD (encE p.2.2)]) (fun p => kD (vecD p.2.1 fun r => st (up p.1) r p.2.2))
def retE : Stmt → Expr
  | .Return (some e) _ => e
  | _ => .Constant .none 0 ⟨0, 0, 0, 0⟩
def arg0 : Expr → Expr
  | .Call _ (a :: _) _ _ => a
  | e => e
def lcScope : Expr → Scope
  | .ListComp _ _ s _ => s
  | _ => defScope (top 0)
/-- a block's scope, as it stands while it runs -/
def inSc (sc blk : Scope) : Scope := relabel blk (envOfC Str.empty sc 0 0 .none)
def scStamp : Scope := inSc (defScope (top 11)) (lcScope (arg0 (retE ((defBody (top 11)).getD 0 (.Pass ⟨0, 0, 0, 0⟩)))))
theorem r_stamp_of (T : Tx K mg) : FnR P w K mg base CX0 3 (He.ga K "stamp_of") (spStampOf K) := by
  obtain ⟨fd, F⟩ := T.says.def_ 8 (d := (gD "stamp_of" 11))
  have nd : (["order", "counters", "event", "row", "one"] : List Str).Nodup := by decide +kernel
  refine fn_r (N := ["order", "counters", "event", "row", "one"]) (ps := ["order", "counters", "event"]) F ⟨rfl, rfl, rfl, nd, rfl, by decide +kernel, by decide +kernel⟩ (F.bindsN fun _ _ _ _ _ _ us hl => match us, hl with | [_, _, _], _ => rfl) .nil (fun _ _ => rfl) fun cdv A outer s H E hr => ?_
  have hu := hu_of hr
  have hu64 := hr.units
  have hu65 := room65 hr
  refine ⟨_, (pss_cons (ps_ret (pe_callTy (k_tup K) (by rfl) (T.free 37) (by decide +kernel) (pa_cons (pe_lc (own := [("row", 3)]) rfl nd (k_iT K (pv 1)) (blkOk_by (own := [("row", 3)]) (N := ["order", "counters", "event", "row", "one"]) (sc := defScope (top 11)) (by decide +kernel)) (fun _ _ _ _ _ => (pg_name (i := 3) nd rfl (Or.inl rfl))) (fun _ _ _ _ _ => pts_nil) (fun _ _ _ _ _ => (pe_callB (k_len K) (by rfl) (T.free 41) (by decide +kernel) (pa_cons (pe_lc (own := [("one", 4)]) rfl nd (k_iT K (pv 3)) (blkOk_by (own := [("one", 4)]) (N := ["order", "counters", "event", "row", "one"]) (sc := scStamp) (by decide +kernel)) (fun _ _ _ _ _ => (pg_name (i := 4) nd rfl (Or.inl rfl))) (fun _ _ _ _ _ => (pts_one (pt_val (pe_ms (pv 0) T.ck.o (T.mth 64) (r_Order_is_up_to T) hr (by decide) (pa_cons (pv 4) (pa_cons (pv 2) pa_nil)))))) (fun _ _ _ _ _ => (pv 4))) pa_nil)))) pa_nil)))
      pss_nil), fun a hp => ?_⟩
  obtain ⟨L, C, e⟩ := a
  obtain ⟨ok, rw1, he⟩ := hp
  refine go_ret (ev_cb (ea_one (ev_lcA (α := Row) C (fun r => kD (encRow r)) (fun r => PyData.int (st (up L) r e : Nat)) (ei_tupE (ev_var rfl)) sub_nil (by have := rw1.n; show C.length ≤ 50000; have : C.length ≤ 10 := this; omega) fun i r hr => ?_)) ck_tupOf)
  have hr' : r ∈ C := List.mem_of_getElem? hr
  refine ⟨_, [3], tg_name, in_one, et_yes, fun _ => ?_⟩
  refine (ev_cb (ea_one (ev_lcD (α := Et) r (fun o => kD (encE o)) (fun o => up L o e) encE (ei_tupE (ev_var rfl)) sub_nil (by have : r.length ≤ 100 := rw1.l r hr'; omega) fun j o ho => ?_)) ck_lenL).is ?_
  · exact ⟨_, [4], tg_name, in_one, et_B (ev_meth (Mi := fun _ => []) (Mo := fun _ => []) (L, o, e) (ev_var rfl) slI_is (ea_two (ev_var rfl) (ev_var rfl)) rfl he), fun _ => ev_var rfl⟩
  · rw [List.length_map]
    rfl

/-! ### first_out -/
/-- messages of one way are sent and come in one order -/
def InOrd (L : Lg) : Prop := ∀ o ∈ L.ms, ∀ m ∈ L.ms, oneWay o m = true → ltE o.1 m.1 = true → ltE m.2 o.2 = false
abbrev spFirstOut : Sp := spP (fun L : Lg => LgOk L ∧ InOrd L) (fun L => [kD (encLg L)]) (fun _ => kD .none)
theorem r_first_out (T : Tx K mg) : FnR P w K mg base CX0 7 (He.ga K "first_out") spFirstOut := by
  obtain ⟨fd, F⟩ := T.says.def_ 13 (d := (gD "first_out" 19))
  have nd : (["log", "messages", "one", "other"] : List Str).Nodup := by decide +kernel
  refine fn_r (N := ["log", "messages", "one", "other"]) (ps := ["log"]) F ⟨rfl, rfl, rfl, nd, rfl, by decide +kernel, by decide +kernel⟩ (F.bindsN fun _ _ _ _ _ _ us hl => match us, hl with | [_], _ => rfl) .nil (fun _ _ => rfl) fun cdv A outer s H E hr => ?_
  have hu := hu_of hr
  have hu64 := hr.units
  have hu65 := room65 hr
  refine ⟨_, (pss_cons (ps_set (i := 1) nd rfl (Or.inl rfl) (pe_ix (k_ixT K) (pe_g (r_tupled T) hr (by decide) (T.glo 0) (T.kp 0 (d := (gD "tupled" 6))) (pa_cons (pv 0) pa_nil)) pe_int (fun _ _ => rfl)))
      (pss_cons (ps_for PassesOwn.never rfl (k_iT K (pv 1)) (pg_name (i := 2) nd rfl (Or.inl rfl)) (pss_cons (ps_for PassesOwn.never rfl (k_iT K (pv 1)) (pg_name (i := 3) nd rfl (Or.inl rfl)) (pss_cons (ps_if (PW.pt (pw_and (pt_val (pe_g (r_is_one_way T) hr (by decide) (T.glo 4) (T.kp 9 (d := (gD "is_one_way" 15))) (pa_cons (pv 2) (pa_cons (pv 3) pa_nil)))) (pw_and (pt_cmpR (k_lt K hu64) (pe_ix (k_ixT K) (pv 2) (pe_glob (v := .int 0) (by rfl) (T.int 56 (n := 0)).choose_spec ⟨_, rfl⟩) (fun _ _ => rfl)) (pe_ix (k_ixT K) (pv 3) (pe_glob (v := .int 0) (by rfl) (T.int 56 (n := 0)).choose_spec ⟨_, rfl⟩) (fun _ _ => rfl)) (nomark _)) (pw_and1 (pt_cmpR (k_gt K hu64) (pe_ix (k_ixT K) (pv 2) (pe_glob (v := .int 1) (by rfl) (T.int 57 (n := 1)).choose_spec ⟨_, rfl⟩) (fun _ _ => rfl)) (pe_ix (k_ixT K) (pv 3) (pe_glob (v := .int 1) (by rfl) (T.int 57 (n := 1)).choose_spec ⟨_, rfl⟩) (fun _ _ => rfl)) (nomark _)))))) (pss_cons (ps_ret (pe_tup (pa_cons (pv 2) (pa_cons (pv 3) pa_nil))))
      pss_nil) pss_nil)
      pss_nil))
      pss_nil))
      (pss_cons (ps_ret pe_non)
      pss_nil))), fun a hp => ?_⟩
  obtain ⟨ok, io⟩ := hp
  have fx := Fx.lg ok
  refine go_set (ev_op (ev_tpl (ea_one (ev_var rfl)) fx (Nat.lt_of_le_of_lt (Sh.lg a).2 (by decide))) ev_int (rk_ixT (n := 1) rfl)) ?_
  have pick : ∀ {i : Nat} {k : Kn}, (a.ms.map fun m => kD (encM m))[i]? = some k → ∃ o ∈ a.ms, k = kD (encM o) := fun {i k} hk => by
    obtain ⟨o, ho, e⟩ := List.mem_map.mp (List.mem_of_getElem? hk)
    exact ⟨o, ho, e.symm⟩
  refine go_forN (fun _ => [some (kD (encLg a)), some (kD (.tuple (a.ms.map encM))), none, none]) (fun _ => []) (ei_tupE (f := encM) (l := a.ms) (ev_var rfl)) ⟨fun _ _ z => z, fun _ _ z => z, trivial⟩ (.refl _) (fun _ => sub_nil) (fun i k hi hk => ?_) (go_ret ev_non)
  obtain ⟨o, ho, rfl⟩ := pick hk
  refine ⟨_, _, tg_name, ?_⟩
  refine go_forN (fun _ => [some (kD (encLg a)), some (kD (.tuple (a.ms.map encM))), some (kD (encM o)), none]) (fun _ => []) (ei_tupE (f := encM) (l := a.ms) (ev_var rfl)) ⟨fun _ _ z => z, fun _ _ z => z, fun _ _ z => z, trivial⟩ (.refl _) (fun _ => sub_nil) (fun j k hj hk => ?_) (go_nil ⟨⟨fun _ _ z => z, fun _ _ z => z, trivial⟩, .refl _⟩)
  obtain ⟨m, hm, rfl⟩ := pick hk
  refine ⟨_, _, tg_name, ?_⟩
  refine go_skip ((et_and (et_B (ev_fn (o, m) (ea_two (ev_var rfl) (ev_var rfl)) trivial)) fun _ => et_and (et_test (ev_op (ev_op (ev_var rfl) ev_int (rk_ixT (n := 0) rfl)) (ev_op (ev_var rfl) ev_int (rk_ixT (n := 0) rfl)) rk_ltE)) fun _ => et_test (ev_op (ev_op (ev_var rfl) ev_int (rk_ixT (n := 1) rfl)) (ev_op (ev_var rfl) ev_int (rk_ixT (n := 1) rfl)) rk_gtE)).is ?_) (go_nil ⟨⟨fun _ _ z => z, fun _ _ z => z, fun _ _ z => z, trivial⟩, .refl _⟩)
  cases h1 : oneWay o m with
  | false => rfl
  | true =>
    cases h2 : ltE o.1 m.1 with
    | false => rfl
    | true => exact io o ho m hm h1 h2
end
end Fw
set_option Elab.async false
set_option linter.all false
set_option maxRecDepth 100000
set_option maxHeartbeats 4000000
/-! the walk: the methods of Post -/
namespace Fw
open PySem PySem.Spec PyProof.Rows L2
section
variable {X : Cx} {j : Nat} {tg e : Expr} {te : TE} {mg : Str → Option Value}
theorem k_iO (K : PySem.W.Frag) (T : Tx K mg) (hr : Room j X.A) (hk : 1 ≤ j) (he : PE X e te) (h : X.K = K := by rfl) (hm : X.mg = mg := by rfl) : PI X tg e (iOwnL K (He.ga K "Order") 0 te) := by
  subst h hm
  exact pi_ownL he (T.mth 60) (r_Order_iter T) hr hk
theorem k_iP (K : PySem.W.Frag) (T : Tx K mg) (hr : Room j X.A) (hk : 1 ≤ j) (he : PE X e te) (h : X.K = K := by rfl) (hm : X.mg = mg := by rfl) : PI X tg e (iOwnT K (He.ga K "Post") 0 te) := by
  subst h hm
  exact pi_ownT he (T.mth 65) (r_Post_iter T) hr hk
end
theorem rk_rep {K : PySem.W.Frag} {M : List Mu} {n : Nat} (hn : n ≤ 1000) : RK (rRepA K) M (kD (.tuple [.int 0])) (kI n) (kD (.tuple (List.replicate n (.int 0)))) := fun x y F B C o px py Q q => by
  obtain ⟨a, xs, rfl, h1, h2⟩ := px.tup_inv
  have ex : xs = [.int 0] := h2.ints (ns := [0])
  subst ex
  refine ⟨a, n, _, rfl, py.int_inv, SqT.of (o.ex _ _ h1), by simp, by omega, by omega, by simp, fun e => ?_, fun _ p hp => ?_⟩
  · have e1 : n = 1 := by omega
    subst e1
    exact q _ B C (Ex.refl B) o px
  · refine q _ _ _ (Ex.new (o.ex.back hp)) (o.new hp) (.tup upd_same (TkAll.of ?_ fun i v d hv hd => ?_))
    · simp
    · have hd2 : d = .int 0 := by
        have := List.mem_of_getElem? hd
        exact List.eq_of_mem_replicate this
      have hv2 : v = .int 0 := by
        have := List.mem_of_getElem? hv
        obtain ⟨l, hl, hm⟩ := List.mem_flatten.mp this
        rw [List.eq_of_mem_replicate hl] at hm
        simpa using hm
      subst hd2 hv2
      exact .int 0
def PsOk (L : Lg) (C : Rows) : Prop := LgOk L ∧ RwOk L C
section
variable {P : Program} {w : World} {K : PySem.W.Frag} {mg : Str → Option Value} {base : Heap}
theorem any_eqv {α : Type} [DecidableEq α] {f : α → PyData} (hf : ∀ a b, PyData.eqv (f a) (f b) = decide (a = b)) (l : List α) (a : α) : ((l.map f).any fun z => PyData.eqv z (f a)) = decide (a ∈ l) := by
  induction l with
  | nil => simp
  | cons b l ih =>
    rw [List.map_cons, List.any_cons, ih, hf]
    by_cases h : b = a
    · subst h
      simp
    · have h2 : ¬ a = b := fun e => h e.symm
      simp [h, h2]
theorem ev_greatest {Γ : Ga} {M M1 : List Mu} {t : TA} {E : XK} {ds : List PyData} (C : Rows) (f0 : Row → Nat) (fr : List (Row → Nat)) {g : Row → Nat} (h : EvA t Γ M M1 [kD (.list ds)]) (hd : ds = (f0 :: fr).map fun f => vecD C f) (h1 : C.length ≤ 10) (h2 : fr.length ≤ 50000) (hg : g = fun r => vmax ((f0 :: fr).map fun f => f r)) : Ev (tCall spGreatest [] E t) Γ M M1 (kD (vecD C g)) := by
  subst hd hg
  exact ev_fn (pre := fun p : Rows × (Row → Nat) × List (Row → Nat) => p.1.length ≤ 10 ∧ p.2.2.length ≤ 50000) (args := fun p : Rows × (Row → Nat) × List (Row → Nat) => [kD (.list ((p.2.1 :: p.2.2).map fun f => vecD p.1 f))]) (res := fun p => kD (vecD p.1 fun r => vmax ((p.2.1 :: p.2.2).map fun f => f r))) (C, f0, fr) h ⟨h1, h2⟩
theorem ev_greater {Γ : Ga} {M M1 : List Mu} {t : TA} {E : XK} (C : Rows) {f g : Row → Nat} (h : EvA t Γ M M1 [kD (vecD C f), kD (vecD C g)]) (h1 : C.length ≤ 10) : Ev (tCall spGreater [] E t) Γ M M1 (entX C fun r => gtO (f r) (g r)) :=
  ev_fn (pre := fun p : Rows × (Row → Nat) × (Row → Nat) => p.1.length ≤ 10) (args := fun p : Rows × (Row → Nat) × (Row → Nat) => [kD (vecD p.1 p.2.1), kD (vecD p.1 p.2.2)]) (res := fun p => entX p.1 fun r => gtO (p.2.1 r) (p.2.2 r)) (C, f, g) h h1
noncomputable abbrev spPHas (K : PySem.W.Frag) : Sp := spP (fun p : Lg × Rows × Mg => PsOk p.1 p.2.1) (fun p => [kPost K p.1 p.2.1, kD (encM p.2.2)]) (fun p => kB (decide (p.2.2 ∈ p.1.ms)))
theorem r_Post_has (T : Tx K mg) : FnR P w K mg base CX0 1 (He.ma K (He.ga K "Post") "has") (spPHas K) := by
  obtain ⟨fd, F⟩ := T.says.def_ 16 (d := (mD "Post" "has" "Post.has" 20 3))
  have nd : (["self", "message"] : List Str).Nodup := by decide +kernel
  refine fn_r (N := ["self", "message"]) (ps := ["self", "message"]) F ⟨rfl, rfl, rfl, nd, rfl, by decide +kernel, by decide +kernel⟩ (F.bindsN fun _ _ _ _ _ _ us hl => match us, hl with | [_, _], _ => rfl) .nil (fun _ _ => rfl) fun cdv A outer s H E hr => ?_
  have hu := hu_of hr
  have hu64 := hr.units
  have hu65 := room65 hr
  refine ⟨_, (pss_cons (ps_ret (pe_cmpR (k_inT K hu65) (pv 1) (k_sl K (pv 0)) rfl))
      pss_nil), fun a hp => ?_⟩
  obtain ⟨L, C, m⟩ := a
  exact go_ret (ev_op (ev_var rfl) (ev_slotI (ev_var rfl) T.ck.p T.ck.p0 rfl) (rk_inDT (Sh.mg m).shaped (Sh.tups Sh.mg).shaped ((any_eqv eqv_encM L.ms m).trans (decide_eq_decide.mpr Iff.rfl))))
noncomputable abbrev spStamp (K : PySem.W.Frag) : Sp := spP (fun p : Lg × Rows × Et => PsOk p.1 p.2.1 ∧ p.2.2 ∈ p.1.evs) (fun p => [kPost K p.1 p.2.1, kD (encE p.2.2)]) (fun p => kD (vecD p.2.1 fun r => st (up p.1) r p.2.2))
theorem r_Post_stamp (T : Tx K mg) : FnR P w K mg base CX0 4 (He.ma K (He.ga K "Post") "stamp") (spStamp K) := by
  obtain ⟨fd, F⟩ := T.says.def_ 17 (d := (mD "Post" "stamp" "Post.stamp" 20 4))
  have nd : (["self", "event"] : List Str).Nodup := by decide +kernel
  refine fn_r (N := ["self", "event"]) (ps := ["self", "event"]) F ⟨rfl, rfl, rfl, nd, rfl, by decide +kernel, by decide +kernel⟩ (F.bindsN fun _ _ _ _ _ _ us hl => match us, hl with | [_, _], _ => rfl) .nil (fun _ _ => rfl) fun cdv A outer s H E hr => ?_
  have hu := hu_of hr
  have hu64 := hr.units
  have hu65 := room65 hr
  refine ⟨_, (pss_cons (ps_ret (pe_g (r_stamp_of T) hr (by decide) (T.glo 3) (T.kp 8 (d := (gD "stamp_of" 11))) (pa_cons (k_sl K (pv 0)) (pa_cons (k_sl K (pv 0)) (pa_cons (pv 1) pa_nil)))))
      pss_nil), fun a hp => ?_⟩
  obtain ⟨L, C, e⟩ := a
  exact go_ret (ev_fn (L, C, e) (ea_cons (ev_slotI (ev_var rfl) T.ck.p T.ck.p1 rfl) (ea_two (ev_slotI (ev_var rfl) T.ck.p T.ck.p2 rfl) (ev_var rfl))) ⟨hp.1.1, hp.1.2, hp.2⟩)
noncomputable abbrev spNoughts (K : PySem.W.Frag) : Sp := spP (fun p : Lg × Rows => PsOk p.1 p.2) (fun p => [kPost K p.1 p.2]) (fun p => kD (vecD p.2 fun _ => 0))
theorem r_Post_noughts (T : Tx K mg) : FnR P w K mg base CX0 1 (He.ma K (He.ga K "Post") "noughts") (spNoughts K) := by
  obtain ⟨fd, F⟩ := T.says.def_ 18 (d := (mD "Post" "noughts" "Post.noughts" 20 5))
  have nd : (["self"] : List Str).Nodup := by decide +kernel
  refine fn_r (N := ["self"]) (ps := ["self"]) F ⟨rfl, rfl, rfl, nd, rfl, by decide +kernel, by decide +kernel⟩ (F.bindsN fun _ _ _ _ _ _ us hl => match us, hl with | [_], _ => rfl) .nil (fun _ _ => rfl) fun cdv A outer s H E hr => ?_
  have hu := hu_of hr
  have hu64 := hr.units
  have hu65 := room65 hr
  refine ⟨_, (pss_cons (ps_ret (pe_op (k_repT K) (pe_tup (pa_cons pe_int pa_nil)) (pe_callB (k_len K) (by rfl) (T.free 41) (by decide +kernel) (pa_cons (k_sl K (pv 0)) pa_nil))))
      pss_nil), fun a hp => ?_⟩
  obtain ⟨L, C⟩ := a
  have h1 : C.length ≤ 10 := hp.2.n
  have e1 : (C.map encRow).length = C.length := by simp
  refine go_ret ((ev_op (ev_tup (ea_one ev_int) |>.to fun _ _ q => kTup_data (ds := [.int 0]).mp q) (ev_cb (ea_one (ev_slotI (ev_var rfl) T.ck.p T.ck.p2 rfl)) ck_lenT) (rk_rep (by rw [e1]; omega))).is ?_)
  rw [e1]
  simp only [vecD, List.map_const']
  rfl
noncomputable abbrev spPUp (K : PySem.W.Frag) : Sp := spP (fun p : Lg × Rows × Et => PsOk p.1 p.2.1 ∧ p.2.2 ∈ p.1.evs) (fun p => [kPost K p.1 p.2.1, kD (encE p.2.2)]) (fun p => kD (.list ((upTo p.1.evs (up p.1) p.2.2).map encE)))
theorem r_Post_up_to (T : Tx K mg) : FnR P w K mg base CX0 3 (He.ma K (He.ga K "Post") "up_to") (spPUp K) := by
  obtain ⟨fd, F⟩ := T.says.def_ 19 (d := (mD "Post" "up_to" "Post.up_to" 20 6))
  have nd : (["self", "event", "other"] : List Str).Nodup := by decide +kernel
  refine fn_r (N := ["self", "event", "other"]) (ps := ["self", "event"]) F ⟨rfl, rfl, rfl, nd, rfl, by decide +kernel, by decide +kernel⟩ (F.bindsN fun _ _ _ _ _ _ us hl => match us, hl with | [_, _], _ => rfl) .nil (fun _ _ => rfl) fun cdv A outer s H E hr => ?_
  have hu := hu_of hr
  have hu64 := hr.units
  have hu65 := room65 hr
  refine ⟨_, (pss_cons (ps_ret (pe_lc (own := [("other", 2)]) rfl nd (k_iO K T hr (by decide) (k_sl K (pv 0))) (blkOk_by (own := [("other", 2)]) (N := ["self", "event", "other"]) (sc := defScope (inClass (top 20) 6)) (by decide +kernel)) (fun _ _ _ _ _ => (pg_name (i := 2) nd rfl (Or.inl rfl))) (fun _ _ _ _ _ => (pts_one (pt_val (pe_ms (k_sl K (pv 0)) T.ck.o (T.mth 64) (r_Order_is_up_to T) hr (by decide) (pa_cons (pv 2) (pa_cons (pv 1) pa_nil)))))) (fun _ _ _ _ _ => (pv 2))))
      pss_nil), fun a hp => ?_⟩
  obtain ⟨L, C, e⟩ := a
  refine go_ret (ev_lcD (α := Et) L.evs (fun o => kD (encE o)) (fun o => up L o e) encE (ei_map (ei_ownL (ev_slotI (ev_var rfl) T.ck.p T.ck.p1 rfl) rfl)) sub_nil (by have : L.evs.length ≤ 100 := hp.1.1.le; omega) fun i o ho => ?_)
  exact ⟨_, [2], tg_name, in_one, et_B (ev_meth (Mi := fun _ => []) (Mo := fun _ => []) (L, o, e) (ev_slotI (ev_var rfl) T.ck.p T.ck.p1 rfl) slI_is (ea_two (ev_var rfl) (ev_var rfl)) rfl hp.2), fun _ => ev_var rfl⟩
noncomputable abbrev spKnown (K : PySem.W.Frag) : Sp := spP (fun p : Lg × Rows × Nm × Et => PsOk p.1 p.2.1 ∧ p.2.2.2 ∈ p.1.evs) (fun p => [kPost K p.1 p.2.1, kD (.str p.2.2.1.1), kD (encE p.2.2.2)]) (fun p => kD (vecD p.2.1 fun r => known p.1.evs (up p.1) p.2.2.1 p.2.2.2 r))
theorem r_Post_known (T : Tx K mg) : FnR P w K mg base CX0 5 (He.ma K (He.ga K "Post") "known") (spKnown K) := by
  obtain ⟨fd, F⟩ := T.says.def_ 20 (d := (mD "Post" "known" "Post.known" 20 7))
  have nd : (["self", "name", "event", "other"] : List Str).Nodup := by decide +kernel
  refine fn_r (N := ["self", "name", "event", "other"]) (ps := ["self", "name", "event"]) F ⟨rfl, rfl, rfl, nd, rfl, by decide +kernel, by decide +kernel⟩ (F.bindsN fun _ _ _ _ _ _ us hl => match us, hl with | [_, _, _], _ => rfl) .nil (fun _ _ => rfl) fun cdv A outer s H E hr => ?_
  have hu := hu_of hr
  have hu64 := hr.units
  have hu65 := room65 hr
  refine ⟨_, (pss_cons (ps_ret (pe_g (r_greatest T) hr (by decide) (T.glo 6) (T.kp 11 (d := (gD "greatest" 17))) (pa_cons (pe_op op_cat (pe_lst (pa_cons (pe_ms0 (pv 0) T.ck.p (T.mth 68) (r_Post_noughts T) hr (by decide)) pa_nil)) (pe_lc (own := [("other", 3)]) rfl nd (k_iL K (pe_ms (pv 0) T.ck.p (T.mth 69) (r_Post_up_to T) hr (by decide) (pa_cons (pv 2) pa_nil))) (blkOk_by (own := [("other", 3)]) (N := ["self", "name", "event", "other"]) (sc := defScope (inClass (top 20) 7)) (by decide +kernel)) (fun _ _ _ _ _ => (pg_name (i := 3) nd rfl (Or.inl rfl))) (fun _ _ _ _ _ => (pts_one (pt_cmpR (k_eq K hu64) (pe_ix (k_ixT K) (pv 3) pe_int (fun _ _ => rfl)) (pv 1) (nomark _)))) (fun _ _ _ _ _ => (pe_ms (pv 0) T.ck.p (T.mth 67) (r_Post_stamp T) hr (by decide) (pa_cons (pv 3) pa_nil))))) pa_nil)))
      pss_nil), fun a hp => ?_⟩
  obtain ⟨L, C, x, e⟩ := a
  have hle : L.evs.length ≤ 100 := hp.1.1.le
  have hue : (upTo L.evs (up L) e).length ≤ 100 := Nat.le_trans (List.length_filter_le _ _) hle
  have hlf := List.length_filter_le (fun o : Et => decide (o.1 = x)) (upTo L.evs (up L) e)
  refine go_ret (ev_greatest C (fun _ => 0) (((upTo L.evs (up L) e).filter fun o => decide (o.1 = x)).map fun o r => st (up L) r o) (ea_one (ev_op (ev_lst1D (ev_meth (Mi := fun _ => []) (Mo := fun _ => []) (L, C) (ev_var rfl) slI_is ea_nil rfl hp.1))
    (ev_lcD (α := Et) (upTo L.evs (up L) e) (fun o => kD (encE o)) (fun o => decide (o.1 = x)) (fun o => vecD C fun r => st (up L) r o) (ei_lstE (ev_meth (Mi := fun _ => []) (Mo := fun _ => []) (L, C, e) (ev_var rfl) slI_is (ea_one (ev_var rfl)) rfl hp)) sub_nil (by omega) fun i o ho => ?_) (rk_cat (by simp; omega)))) (by simp [List.map_map, Function.comp_def]) (by have : C.length ≤ 10 := hp.1.2.n; exact this) (by simp; omega) ?_)
  · have hoe : o ∈ L.evs := (List.mem_filter.mp (List.mem_of_getElem? ho)).1
    exact ⟨_, [3], tg_name, in_one, et_test (ev_op (ev_op (ev_var rfl) ev_int (rk_ixT (n := 0) rfl)) (ev_var rfl) rk_eqN), fun _ => ev_meth (Mi := fun _ => []) (Mo := fun _ => []) (L, C, o) (ev_var rfl) slI_is (ea_one (ev_var rfl)) rfl ⟨hp.1, hoe⟩⟩
  · funext r
    unfold known
    rw [List.map_cons, List.map_map]
    rfl
noncomputable abbrev spPAhead (K : PySem.W.Frag) : Sp := spP (fun p : Lg × Rows × Mg => PsOk p.1 p.2.1) (fun p => [kPost K p.1 p.2.1, kD (encM p.2.2)]) (fun p => kD (.list ((ahead p.1.ms p.2.2).map encM)))
theorem r_Post_ahead (T : Tx K mg) : FnR P w K mg base CX0 3 (He.ma K (He.ga K "Post") "ahead") (spPAhead K) := by
  obtain ⟨fd, F⟩ := T.says.def_ 21 (d := (mD "Post" "ahead" "Post.ahead" 20 8))
  have nd : (["self", "message", "other"] : List Str).Nodup := by decide +kernel
  refine fn_r (N := ["self", "message", "other"]) (ps := ["self", "message"]) F ⟨rfl, rfl, rfl, nd, rfl, by decide +kernel, by decide +kernel⟩ (F.bindsN fun _ _ _ _ _ _ us hl => match us, hl with | [_, _], _ => rfl) .nil (fun _ _ => rfl) fun cdv A outer s H E hr => ?_
  have hu := hu_of hr
  have hu64 := hr.units
  have hu65 := room65 hr
  refine ⟨_, (pss_cons (ps_ret (pe_lc (own := [("other", 2)]) rfl nd (k_iP K T hr (by decide) (pv 0)) (blkOk_by (own := [("other", 2)]) (N := ["self", "message", "other"]) (sc := defScope (inClass (top 20) 8)) (by decide +kernel)) (fun _ _ _ _ _ => (pg_name (i := 2) nd rfl (Or.inl rfl))) (fun _ _ _ _ _ => (pts_one (pt_val (pe_g (r_is_earlier T) hr (by decide) (T.glo 5) (T.kp 10 (d := (gD "is_earlier" 16))) (pa_cons (pv 2) (pa_cons (pv 1) pa_nil)))))) (fun _ _ _ _ _ => (pv 2))))
      pss_nil), fun a hp => ?_⟩
  obtain ⟨L, C, m⟩ := a
  refine go_ret (ev_lcD (α := Mg) L.ms (fun o => kD (encM o)) (fun o => isEarlier o m) encM (ei_map (ei_ownT (ev_var rfl) rfl)) sub_nil (by have : L.ms.length ≤ 100 := hp.1.lm; omega) fun i o ho => ?_)
  exact ⟨_, [2], tg_name, in_one, et_B (ev_fn (o, m) (ea_two (ev_var rfl) (ev_var rfl)) trivial), fun _ => ev_var rfl⟩
noncomputable abbrev spSure (K : PySem.W.Frag) : Sp := spP (fun p : Lg × Rows × Mg × Bool => PsOk p.1 p.2.1 ∧ p.2.2.1 ∈ p.1.ms) (fun p => [kPost K p.1 p.2.1, kD (encM p.2.2.1), kB p.2.2.2]) (fun p => kD (vecD p.2.1 fun r => sureN p.1.evs p.1.ms (up p.1) p.2.2.1 p.2.2.2 r))
theorem r_Post_sure (T : Tx K mg) : FnR P w K mg base CX0 6 (He.ma K (He.ga K "Post") "sure") (spSure K) := by
  obtain ⟨fd, F⟩ := T.says.def_ 22 (d := (mD "Post" "sure" "Post.sure" 20 9))
  have nd : (["self", "message", "in_order", "rows", "other"] : List Str).Nodup := by decide +kernel
  refine fn_r (N := ["self", "message", "in_order", "rows", "other"]) (ps := ["self", "message", "in_order"]) F ⟨rfl, rfl, rfl, nd, rfl, by decide +kernel, by decide +kernel⟩ (F.bindsN fun _ _ _ _ _ _ us hl => match us, hl with | [_, _, _], _ => rfl) .nil (fun _ _ => rfl) fun cdv A outer s H E hr => ?_
  have hu := hu_of hr
  have hu64 := hr.units
  have hu65 := room65 hr
  refine ⟨_, (pss_cons (ps_set (i := 3) nd rfl (Or.inl rfl) (pe_lst (pa_cons (pe_ms (pv 0) T.ck.p (T.mth 70) (r_Post_known T) hr (by decide) (pa_cons (pe_ix (k_ixT K) (pe_ix (k_ixT K) (pv 1) (pe_glob (v := .int 1) (by rfl) (T.int 57 (n := 1)).choose_spec ⟨_, rfl⟩) (fun _ _ => rfl)) pe_int (fun _ _ => rfl)) (pa_cons (pe_ix (k_ixT K) (pv 1) (pe_glob (v := .int 0) (by rfl) (T.int 56 (n := 0)).choose_spec ⟨_, rfl⟩) (fun _ _ => rfl)) pa_nil))) pa_nil)))
      (pss_cons (ps_if (pt_val (pv 2)) (pss_cons (ps_expr (pe_bm PySem.F.plainAttrs_list PySem.F.slot_list_extend PySem.F.type_list_extend mt_extend (pv 3) (pa_cons (pe_lc (own := [("other", 4)]) rfl nd (k_iL K (pe_ms (pv 0) T.ck.p (T.mth 71) (r_Post_ahead T) hr (by decide) (pa_cons (pv 1) pa_nil))) (blkOk_by (own := [("other", 4)]) (N := ["self", "message", "in_order", "rows", "other"]) (sc := defScope (inClass (top 20) 9)) (by decide +kernel)) (fun _ _ _ _ _ => (pg_name (i := 4) nd rfl (Or.inl rfl))) (fun _ _ _ _ _ => pts_nil) (fun _ _ _ _ _ => (pe_ms (pv 0) T.ck.p (T.mth 67) (r_Post_stamp T) hr (by decide) (pa_cons (pe_ix (k_ixT K) (pv 4) (pe_glob (v := .int 0) (by rfl) (T.int 56 (n := 0)).choose_spec ⟨_, rfl⟩) (fun _ _ => rfl)) pa_nil)))) pa_nil)))
      pss_nil) pss_nil)
      (pss_cons (ps_ret (pe_g (r_greatest T) hr (by decide) (T.glo 6) (T.kp 11 (d := (gD "greatest" 17))) (pa_cons (pv 3) pa_nil)))
      pss_nil))), fun a hp => ?_⟩
  obtain ⟨L, C, m, io⟩ := a
  have hm : m.1 ∈ L.evs ∧ m.2 ∈ L.evs := hp.1.1.ms m hp.2
  have hah : (ahead L.ms m).length ≤ 100 := Nat.le_trans (List.length_filter_le _ _) hp.1.1.lm
  have hC : C.length ≤ 10 := hp.1.2.n
  refine go_setG (eg_lst (ea_one (ev_meth (Mi := fun _ => []) (Mo := fun _ => []) (M1 := []) (L, C, m.2.1, m.1) (ev_var rfl) slI_is (ea_two (ev_op (ev_op (ev_var rfl) ev_int (rk_ixT (n := 1) rfl)) ev_int (rk_ixT (n := 0) rfl)) (ev_op (ev_var rfl) ev_int (rk_ixT (n := 0) rfl))) rfl ⟨hp.1, hm.1⟩))) fun D => ?_
  refine go_if [some (kPost K L C), some (kD (encM m)), some (kB io), some (kC (.ref D)), none] [mLst D ((vecD C (known L.evs (up L) m.2.1 m.1) :: (if io then (ahead L.ms m).map fun o => vecD C fun r => st (up L) r o.1 else [])).map kD)] (et_B (ev_var rfl)) (fun e => ?_) (fun e => ?_) ?_
  · have e : io = true := e
    subst e
    refine go_drop (ev_extend (ks := [kD (vecD C (known L.evs (up L) m.2.1 m.1))]) (M2 := []) (ds := (ahead L.ms m).map fun o => vecD C fun r => st (up L) r o.1) (ev_var rfl) (ev_lcA (α := Mg) (ahead L.ms m) (fun o => kD (encM o)) (fun o => vecD C fun r => st (up L) r o.1) (ei_lstE (ev_meth (Mi := fun _ => []) (Mo := fun _ => []) (L, C, m) (ev_var rfl) slI_is (ea_one (ev_var rfl)) rfl hp.1)) sub_nil (by omega) fun i o ho => ?_) (by simp; omega)) (go_nil ⟨rfl, rfl⟩)
    have hoe := (hp.1.1.ms o (List.mem_filter.mp (List.mem_of_getElem? ho)).1).1
    exact ⟨_, [4], tg_name, in_one, et_yes, fun _ => ev_meth (Mi := fun _ => []) (Mo := fun _ => []) (L, C, o.1) (ev_var rfl) slI_is (ea_one (ev_op (ev_var rfl) ev_int (rk_ixT (n := 0) rfl))) rfl ⟨hp.1, hoe⟩⟩
  · have e : io = false := e
    subst e
    exact go_nil ⟨rfl, rfl⟩
  · refine go_still (i := 3) rfl (go_ret (ev_greatest C (known L.evs (up L) m.2.1 m.1) (if io then (ahead L.ms m).map fun o r => st (up L) r o.1 else []) (ea_one ((ev_var rfl).to fun _ _ q => kLst_data.mp q)) ?_ hC ?_ ?_))
    · cases io <;> simp [List.map_map, Function.comp_def]
    · cases io <;> simp <;> omega
    · funext r
      unfold sureN
      cases io <;> simp [List.map_map, Function.comp_def]
noncomputable abbrev spMust (K : PySem.W.Frag) : Sp := spP (fun p : Lg × Rows × Mg × Bool => PsOk p.1 p.2.1 ∧ p.2.2.1 ∈ p.1.ms) (fun p => [kPost K p.1 p.2.1, kD (encM p.2.2.1), kB p.2.2.2]) (fun p => entX p.2.1 fun r => mustO p.1.evs p.1.ms (up p.1) p.2.2.1 p.2.2.2 r)
theorem r_Post_must (T : Tx K mg) : FnR P w K mg base CX0 7 (He.ma K (He.ga K "Post") "must") (spMust K) := by
  obtain ⟨fd, F⟩ := T.says.def_ 23 (d := (mD "Post" "must" "Post.must" 20 10))
  have nd : (["self", "message", "in_order"] : List Str).Nodup := by decide +kernel
  refine fn_r (N := ["self", "message", "in_order"]) (ps := ["self", "message", "in_order"]) F ⟨rfl, rfl, rfl, nd, rfl, by decide +kernel, by decide +kernel⟩ (F.bindsN fun _ _ _ _ _ _ us hl => match us, hl with | [_, _, _], _ => rfl) .nil (fun _ _ => rfl) fun cdv A outer s H E hr => ?_
  have hu := hu_of hr
  have hu64 := hr.units
  have hu65 := room65 hr
  refine ⟨_, (pss_cons (ps_ret (pe_g (r_greater T) hr (by decide) (T.glo 7) (T.kp 12 (d := (gD "greater" 18))) (pa_cons (pe_ms (pv 0) T.ck.p (T.mth 67) (r_Post_stamp T) hr (by decide) (pa_cons (pe_ix (k_ixT K) (pv 1) (pe_glob (v := .int 0) (by rfl) (T.int 56 (n := 0)).choose_spec ⟨_, rfl⟩) (fun _ _ => rfl)) pa_nil)) (pa_cons (pe_ms (pv 0) T.ck.p (T.mth 72) (r_Post_sure T) hr (by decide) (pa_cons (pv 1) (pa_cons (pv 2) pa_nil))) pa_nil))))
      pss_nil), fun a hp => ?_⟩
  obtain ⟨L, C, m, io⟩ := a
  have hm : m.1 ∈ L.evs ∧ m.2 ∈ L.evs := hp.1.1.ms m hp.2
  exact go_ret (ev_greater C (ea_two (ev_meth (Mi := fun _ => []) (Mo := fun _ => []) (M1 := []) (L, C, m.1) (ev_var rfl) slI_is (ea_one (ev_op (ev_var rfl) ev_int (rk_ixT (n := 0) rfl))) rfl ⟨hp.1, hm.1⟩) (ev_meth (Mi := fun _ => []) (Mo := fun _ => []) (L, C, m, io) (ev_var rfl) slI_is (ea_two (ev_var rfl) (ev_var rfl)) rfl hp)) hp.1.2.n)
noncomputable abbrev spBefore (K : PySem.W.Frag) : Sp := spP (fun p : Lg × Rows × Et => PsOk p.1 p.2.1 ∧ p.2.2 ∈ p.1.evs) (fun p => [kPost K p.1 p.2.1, kD (encE p.2.2)]) (fun p => kD (vecD p.2.1 fun r => beforeN (up p.1) p.2.2 r))
theorem r_Post_before (T : Tx K mg) : FnR P w K mg base CX0 5 (He.ma K (He.ga K "Post") "before") (spBefore K) := by
  obtain ⟨fd, F⟩ := T.says.def_ 24 (d := (mD "Post" "before" "Post.before" 20 11))
  have nd : (["self", "event"] : List Str).Nodup := by decide +kernel
  refine fn_r (N := ["self", "event"]) (ps := ["self", "event"]) F ⟨rfl, rfl, rfl, nd, rfl, by decide +kernel, by decide +kernel⟩ (F.bindsN fun _ _ _ _ _ _ us hl => match us, hl with | [_, _], _ => rfl) .nil (fun _ _ => rfl) fun cdv A outer s H E hr => ?_
  have hu := hu_of hr
  have hu64 := hr.units
  have hu65 := room65 hr
  refine ⟨_, (pss_cons (ps_ret (pe_ifExp (pt_cmpR (k_eq K hu64) (pe_ix (k_ixT K) (pv 1) pe_int (fun _ _ => rfl)) pe_int (nomark _)) (pe_ms0 (pv 0) T.ck.p (T.mth 68) (r_Post_noughts T) hr (by decide)) (pe_ms (pv 0) T.ck.p (T.mth 67) (r_Post_stamp T) hr (by decide) (pa_cons (pe_tup (pa_cons (pe_ix (k_ixT K) (pv 1) pe_int (fun _ _ => rfl)) (pa_cons (pe_op op_sub (pe_ix (k_ixT K) (pv 1) pe_int (fun _ _ => rfl)) pe_int) pa_nil))) pa_nil))))
      pss_nil), fun a hp => ?_⟩
  obtain ⟨L, C, x, i⟩ := a
  refine go_ret (ev_if (et_test (ev_op (ev_op (ev_var rfl) ev_int (rk_ixT (n := 1) rfl)) ev_int rk_eqI)) (fun h => ?_) fun h => ?_)
  · have h0 : i = 0 := by
      have h2 : ((i : Nat) : Int) = 0 := of_decide_eq_true h
      omega
    subst h0
    refine (ev_meth (Mi := fun _ => []) (Mo := fun _ => []) (res := fun p : Lg × Rows => kD (vecD p.2 fun _ => 0)) (L, C) (ev_var rfl) slI_is ea_nil rfl hp.1).to fun _ _ z => ?_
    have e : (fun r => beforeN (up L) (x, 0) r) = fun _ => 0 := by funext r; simp [beforeN]
    rw [e]
    exact z
  · have h0 : i ≠ 0 := fun e => by
      have := of_decide_eq_false h
      exact this (by subst e; rfl)
    have e1 : ((i : Nat) : Int) - 1 = ((i - 1 : Nat) : Int) := by omega
    refine (ev_meth (Mi := fun _ => []) (Mo := fun _ => []) (res := fun p : Lg × Rows × Et => kD (vecD p.2.1 fun r => st (up p.1) r p.2.2)) (L, C, (x, i - 1)) (ev_var rfl) slI_is (ea_one ((ev_tup2D (ev_op (ev_var rfl) ev_int (rk_ixT (n := 0) rfl)) (ev_op (ev_op (ev_var rfl) ev_int (rk_ixT (n := 1) rfl)) ev_int rk_sub)).is (by rw [e1]; rfl))) rfl ⟨hp.1, Lg.down x (i - 1) i hp.2 (Nat.sub_le _ _)⟩).to fun _ _ z => ?_
    have e : (fun r => beforeN (up L) (x, i) r) = fun r => st (up L) r (x, i - 1) := by funext r; simp [beforeN, h0]
    rw [e]
    exact z
end
end Fw
set_option Elab.async false
set_option linter.all false
set_option maxRecDepth 100000
set_option maxHeartbeats 4000000
/-! the walk: news, is_brought, late -/
namespace Fw
open PySem PySem.Spec PyProof.Rows L2
section
variable {P : Program} {w : World} {K : PySem.W.Frag} {mg : Str → Option Value} {base : Heap}
noncomputable abbrev spNews (K : PySem.W.Frag) : Sp := spP (fun p : Lg × Rows × Et => PsOk p.1 p.2.1 ∧ p.2.2 ∈ p.1.evs) (fun p => [kPost K p.1 p.2.1, kD (encE p.2.2)]) (fun p => entX p.2.1 fun r => newsO p.1.ms (up p.1) p.2.2 r)
theorem r_Post_news (T : Tx K mg) : FnR P w K mg base CX0 6 (He.ma K (He.ga K "Post") "news") (spNews K) := by
  obtain ⟨fd, F⟩ := T.says.def_ 25 (d := (mD "Post" "news" "Post.news" 20 12))
  have nd : (["self", "event", "rows", "message"] : List Str).Nodup := by decide +kernel
  refine fn_r (N := ["self", "event", "rows", "message"]) (ps := ["self", "event"]) F ⟨rfl, rfl, rfl, nd, rfl, by decide +kernel, by decide +kernel⟩ (F.bindsN fun _ _ _ _ _ _ us hl => match us, hl with | [_, _], _ => rfl) .nil (fun _ _ => rfl) fun cdv A outer s H E hr => ?_
  have hu := hu_of hr
  have hu64 := hr.units
  have hu65 := room65 hr
  refine ⟨_, (pss_cons (ps_setLc (i := 2) (own := [("message", 3)]) rfl nd rfl rfl (sw_true rfl rfl rfl (by decide +kernel)) (k_iP K T hr (by decide) (pv 0)) (blkOk_by (own := [("message", 3)]) (N := ["self", "event", "rows", "message"]) (sc := defScope (inClass (top 20) 12)) (by decide +kernel)) (fun _ _ _ _ _ => (pg_name (i := 3) nd rfl (Or.inl rfl))) (fun _ _ _ _ _ => (pts_one (pt_cmpR (k_eq K hu64) (pe_ix (k_ixT K) (pv 3) (pe_glob (v := .int 1) (by rfl) (T.int 57 (n := 1)).choose_spec ⟨_, rfl⟩) (fun _ _ => rfl)) (pv 1) (nomark _)))) (fun _ _ _ _ _ => (pe_ms (pv 0) T.ck.p (T.mth 67) (r_Post_stamp T) hr (by decide) (pa_cons (pe_ix (k_ixT K) (pv 3) (pe_glob (v := .int 0) (by rfl) (T.int 56 (n := 0)).choose_spec ⟨_, rfl⟩) (fun _ _ => rfl)) pa_nil))))
      (pss_cons (ps_ret (pe_g (r_greater T) hr (by decide) (T.glo 7) (T.kp 12 (d := (gD "greater" 18))) (pa_cons (pe_g (r_greatest T) hr (by decide) (T.glo 6) (T.kp 11 (d := (gD "greatest" 17))) (pa_cons (pe_op op_cat (pe_lst (pa_cons (pe_ms0 (pv 0) T.ck.p (T.mth 68) (r_Post_noughts T) hr (by decide)) pa_nil)) (pv 2)) pa_nil)) (pa_cons (pe_ms (pv 0) T.ck.p (T.mth 74) (r_Post_before T) hr (by decide) (pa_cons (pv 1) pa_nil)) pa_nil))))
      pss_nil)), fun a hp => ?_⟩
  obtain ⟨L, C, e⟩ := a
  have hm : L.ms.length ≤ 100 := hp.1.1.lm
  have hlf := List.length_filter_le (fun m : Mg => decide (m.2 = e)) L.ms
  refine go_set (ev_lcD (α := Mg) L.ms (fun m => kD (encM m)) (fun m => decide (m.2 = e)) (fun m => vecD C fun r => st (up L) r m.1) (ei_map (ei_ownT (ev_var rfl) rfl)) sub_nil (by omega) fun i m hm => ?_) ?_
  · have hme := (hp.1.1.ms m (List.mem_of_getElem? hm)).1
    exact ⟨_, [3], tg_name, in_one, et_test (ev_op (ev_op (ev_var rfl) ev_int (rk_ixT (n := 1) rfl)) (ev_var rfl) rk_eqE), fun _ => ev_meth (Mi := fun _ => []) (Mo := fun _ => []) (L, C, m.1) (ev_var rfl) slI_is (ea_one (ev_op (ev_var rfl) ev_int (rk_ixT (n := 0) rfl))) rfl ⟨hp.1, hme⟩⟩
  · refine go_ret (ev_greater C (ea_two (ev_greatest C (fun _ => 0) ((L.ms.filter fun m => decide (m.2 = e)).map fun m r => st (up L) r m.1) (g := newsN L.ms (up L) e) (ea_one (ev_op (ev_lst1D (ev_meth (Mi := fun _ => []) (Mo := fun _ => []) (L, C) (ev_var rfl) slI_is ea_nil rfl hp.1)) (ev_var rfl) (rk_cat (by simp; omega)))) (by simp [List.map_map, Function.comp_def]) hp.1.2.n (by simp; omega) ?_)
      (ev_meth (Mi := fun _ => []) (Mo := fun _ => []) (M1 := []) (L, C, e) (ev_var rfl) slI_is (ea_one (ev_var rfl)) rfl hp)) hp.1.2.n)
    funext r
    unfold newsN
    rw [List.map_cons, List.map_map]
    rfl
noncomputable abbrev spBrought (K : PySem.W.Frag) : Sp := spP (fun p : Lg × Rows × Mg × Nat × Nat × Row => PsOk p.1 p.2.1 ∧ p.2.1[p.2.2.2.1]? = some p.2.2.2.2.2) (fun p => [kPost K p.1 p.2.1, kD (encN (p.2.2.2.1, p.2.2.2.2.1)), kD (encM p.2.2.1)]) (fun p => kB (broughtB p.1.ms (up p.1) p.2.2.1 p.2.2.2.2.1 p.2.2.2.2.2))
theorem r_Post_is_brought (T : Tx K mg) : FnR P w K mg base CX0 5 (He.ma K (He.ga K "Post") "is_brought") (spBrought K) := by
  obtain ⟨fd, F⟩ := T.says.def_ 26 (d := (mD "Post" "is_brought" "Post.is_brought" 20 13))
  have nd : (["self", "entry", "message", "some", "other"] : List Str).Nodup := by decide +kernel
  refine fn_r (N := ["self", "entry", "message", "some", "other"]) (ps := ["self", "entry", "message"]) F ⟨rfl, rfl, rfl, nd, rfl, by decide +kernel, by decide +kernel⟩ (F.bindsN fun _ _ _ _ _ _ us hl => match us, hl with | [_, _, _], _ => rfl) .nil (fun _ _ => rfl) fun cdv A outer s H E hr => ?_
  have hu := hu_of hr
  have hu64 := hr.units
  have hu65 := room65 hr
  refine ⟨_, (pss_cons (ps_setLc (i := 3) (own := [("other", 4)]) rfl nd rfl rfl (sw_true rfl rfl rfl (by decide +kernel)) (k_iP K T hr (by decide) (pv 0)) (blkOk_by (own := [("other", 4)]) (N := ["self", "entry", "message", "some", "other"]) (sc := defScope (inClass (top 20) 13)) (by decide +kernel)) (fun _ _ _ _ _ => (pg_name (i := 4) nd rfl (Or.inl rfl))) (fun _ _ _ _ _ => (pts_one (PW.pt (pw_and (pt_cmpR (k_lt K hu64) (pv 4) (pv 2) (nomark _)) (pw_and1 (pt_cmpR (k_eq K hu64) (pe_ix (k_ixT K) (pv 4) (pe_glob (v := .int 1) (by rfl) (T.int 57 (n := 1)).choose_spec ⟨_, rfl⟩) (fun _ _ => rfl)) (pe_ix (k_ixT K) (pv 2) (pe_glob (v := .int 1) (by rfl) (T.int 57 (n := 1)).choose_spec ⟨_, rfl⟩) (fun _ _ => rfl)) (nomark _))))))) (fun _ _ _ _ _ => (pv 4)))
      (pss_cons (ps_ret (pe_callB (k_any K rfl) (by rfl) (T.free 46) (by decide +kernel) (pa_cons (pe_lc (own := [("other", 4)]) rfl nd (k_iL K (pv 3)) (blkOk_by (own := [("other", 4)]) (N := ["self", "entry", "message", "some", "other"]) (sc := defScope (inClass (top 20) 13)) (by decide +kernel)) (fun _ _ _ _ _ => (pg_name (i := 4) nd rfl (Or.inl rfl))) (fun _ _ _ _ _ => pts_nil) (fun _ _ _ _ _ => (pe_cmpR (k_eq K hu64) (pe_ix (k_ixT K) (pe_ms (pv 0) T.ck.p (T.mth 67) (r_Post_stamp T) hr (by decide) (pa_cons (pe_ix (k_ixT K) (pv 4) (pe_glob (v := .int 0) (by rfl) (T.int 56 (n := 0)).choose_spec ⟨_, rfl⟩) (fun _ _ => rfl)) pa_nil)) (pe_ix (k_ixT K) (pv 1) pe_int (fun _ _ => rfl)) (fun _ _ => rfl)) (pe_ix (k_ixT K) (pv 1) pe_int (fun _ _ => rfl)) (nomark _)))) pa_nil)))
      pss_nil)), fun a hp => ?_⟩
  obtain ⟨L, C, m, k, n, r⟩ := a
  obtain ⟨ps, hr⟩ := hp
  have hm : L.ms.length ≤ 100 := ps.1.lm
  have hlf := List.length_filter_le (fun o : Mg => ltM o m && decide (o.2 = m.2)) L.ms
  refine go_set (ev_lcD (α := Mg) L.ms (fun m => kD (encM m)) (fun o => ltM o m && decide (o.2 = m.2)) encM (ei_map (ei_ownT (ev_var rfl) rfl)) sub_nil (by omega) fun i o ho => ?_) ?_
  · exact ⟨_, [4], tg_name, in_one, et_and (et_test (ev_op (ev_var rfl) (ev_var rfl) rk_ltM)) (fun _ => et_test (ev_op (ev_op (ev_var rfl) ev_int (rk_ixT (n := 1) rfl)) (ev_op (ev_var rfl) ev_int (rk_ixT (n := 1) rfl)) rk_eqE)), fun _ => ev_var rfl⟩
  · refine go_ret ((ev_cb (ea_one ((ev_lcA (α := Mg) (L.ms.filter fun o => ltM o m && decide (o.2 = m.2)) (fun o => kD (encM o)) (fun o => PyData.bool (decide (((st (up L) r o.1 : Nat) : Int) = (n : Int)))) (ei_lstE (ev_var rfl)) sub_nil (by omega) fun i o ho => ?_).is (d' := .list (((L.ms.filter fun o => ltM o m && decide (o.2 = m.2)).map fun o => decide (((st (up L) r o.1 : Nat) : Int) = (n : Int))).map .bool)) (by rw [List.map_map]; rfl))) ck_any).is ?_)
    · have hoe := (ps.1.ms o (List.mem_filter.mp (List.mem_of_getElem? ho)).1).1
      refine ⟨_, [4], tg_name, in_one, et_yes, fun _ => ev_op (ev_op (ev_meth (Mi := fun _ => []) (Mo := fun _ => []) (res := fun p : Lg × Rows × Et => kD (vecD p.2.1 fun r => st (up p.1) r p.2.2)) (L, C, o.1) (ev_var rfl) slI_is (ea_one (ev_op (ev_var rfl) ev_int (rk_ixT (n := 0) rfl))) rfl ⟨ps, hoe⟩) (ev_op (ev_var rfl) ev_int (rk_ixT (n := 0) (d := .int (k : Nat)) rfl)) (rk_ixT (n := k) (d := .int (st (up L) r o.1 : Nat)) ?_)) (ev_op (ev_var rfl) ev_int (rk_ixT (n := 1) (d := .int (n : Nat)) rfl)) rk_eqI⟩
      show (C.map fun r => PyData.int (st (up L) r o.1 : Nat))[k]? = _
      rw [List.getElem?_map, hr]
      rfl
    · unfold broughtB
      rw [List.any_map]
      congr 1
      congr 1
      funext o
      simp only [Function.comp_def, id]
      exact decide_eq_decide.mpr ⟨fun z => by omega, fun z => by omega⟩
/-! ### late -/
/-- entries kept by what is asked of their row and number -/
def keepB (C : Rows) (p : Row → Nat → Bool) (q : Nat × Nat) : Bool := match C[q.1]? with
  | some r => p r q.2
  | none => false
theorem ents_keep (C : Rows) (f : Row → Option Nat) (p : Row → Nat → Bool) : (ents f C).filter (keepB C p) = ents (fun r => (f r).bind fun n => if p r n = true then some n else none) C := by
  have key : ∀ (D : Rows) (i : Nat), (∀ j, D[j]? = C[i + j]?) → (((D.zipIdx i).filterMap fun q => (f q.1).map fun n => (q.2, n)).filter (keepB C p)) = (D.zipIdx i).filterMap fun q => ((f q.1).bind fun n => if p q.1 n = true then some n else none).map fun n => (q.2, n) := by
    intro D
    induction D with
    | nil => intro i _; rfl
    | cons r D ih =>
      intro i h
      have h0 : C[i]? = some r := by
        have := h 0
        simpa using this.symm
      have ih := ih (i + 1) fun j => by
        have := h (j + 1)
        rw [show i + (j + 1) = i + 1 + j by omega] at this
        simpa using this
      rw [List.zipIdx_cons, List.filterMap_cons, List.filterMap_cons]
      cases hf : f r with
      | none => simpa [hf] using ih
      | some n =>
        simp only [hf, Option.map_some, Option.bind_some]
        cases hg : p r n with
        | false =>
          rw [List.filter_cons_of_neg (by simp [keepB, h0, hg])]
          simpa using ih
        | true =>
          rw [List.filter_cons_of_pos (by simp [keepB, h0, hg])]
          simp [ih]
  exact key C 0 fun j => by simp
theorem ents_len (C : Rows) (f : Row → Option Nat) : (ents f C).length ≤ C.length := by
  unfold ents
  refine Nat.le_trans (List.length_filterMap_le _ _) ?_
  simp
noncomputable abbrev spLate (K : PySem.W.Frag) : Sp := spP (fun p : Lg × Rows × Mg × Bool => PsOk p.1 p.2.1 ∧ p.2.2.1 ∈ p.1.ms) (fun p => [kPost K p.1 p.2.1, kD (encM p.2.2.1), kB p.2.2.2]) (fun p => kD (entD p.2.1 fun r => lateO p.1.evs p.1.ms (up p.1) p.2.2.1 p.2.2.2 r))
theorem r_Post_late (T : Tx K mg) : FnR P w K mg base CX0 8 (He.ma K (He.ga K "Post") "late") (spLate K) := by
  obtain ⟨fd, F⟩ := T.says.def_ 27 (d := (mD "Post" "late" "Post.late" 20 14))
  have nd : (["self", "message", "in_order", "fresh", "some", "entry"] : List Str).Nodup := by decide +kernel
  refine fn_r (N := ["self", "message", "in_order", "fresh", "some", "entry"]) (ps := ["self", "message", "in_order"]) F ⟨rfl, rfl, rfl, nd, rfl, by decide +kernel, by decide +kernel⟩ (F.bindsN fun _ _ _ _ _ _ us hl => match us, hl with | [_, _, _], _ => rfl) .nil (fun _ _ => rfl) fun cdv A outer s H E hr => ?_
  have hu := hu_of hr
  have hu64 := hr.units
  have hu65 := room65 hr
  refine ⟨_, (pss_cons (ps_set (i := 3) nd rfl (Or.inr rfl) (pe_ms (pv 0) T.ck.p (T.mth 75) (r_Post_news T) hr (by decide) (pa_cons (pe_ix (k_ixT K) (pv 1) (pe_glob (v := .int 1) (by rfl) (T.int 57 (n := 1)).choose_spec ⟨_, rfl⟩) (fun _ _ => rfl)) pa_nil)))
      (pss_cons (ps_set (i := 4) nd rfl (Or.inl rfl) (pe_ms (pv 0) T.ck.p (T.mth 73) (r_Post_must T) hr (by decide) (pa_cons (pv 1) (pa_cons (pv 2) pa_nil))))
      (pss_cons (ps_ret (pe_callTy (k_tup K) (by rfl) (T.free 37) (by decide +kernel) (pa_cons (pe_lc (own := [("entry", 5)]) rfl nd (k_iT K (pv 4)) (blkOk_by (own := [("entry", 5)]) (N := ["self", "message", "in_order", "fresh", "some", "entry"]) (sc := defScope (inClass (top 20) 14)) (by decide +kernel)) (fun _ _ _ _ _ => (pg_name (i := 5) nd rfl (Or.inl rfl))) (fun _ _ _ _ _ => (pts_one (PW.pt (pw_or (pt_cmpR (k_ninT K hu65) (pv 5) (pv 3) rfl) (pw_or1 (pt_val (pe_ms (pv 0) T.ck.p (T.mth 76) (r_Post_is_brought T) hr (by decide) (pa_cons (pv 5) (pa_cons (pv 1) pa_nil))))))))) (fun _ _ _ _ _ => (pv 5))) pa_nil)))
      pss_nil))), fun a hp => ?_⟩
  obtain ⟨L, C, m, io⟩ := a
  have hm : m.1 ∈ L.evs ∧ m.2 ∈ L.evs := hp.1.1.ms m hp.2
  have hC : C.length ≤ 10 := hp.1.2.n
  have hl := ents_len C fun r => mustO L.evs L.ms (up L) m io r
  refine go_set (ev_meth (Mi := fun _ => []) (Mo := fun _ => []) (M1 := []) (res := fun p : Lg × Rows × Et => entX p.2.1 fun r => newsO p.1.ms (up p.1) p.2.2 r) (L, C, m.2) (ev_var rfl) slI_is (ea_one (ev_op (ev_var rfl) ev_int (rk_ixT (n := 1) rfl))) rfl ⟨hp.1, hm.2⟩) ?_
  refine go_set (ev_meth (Mi := fun _ => []) (Mo := fun _ => []) (M1 := []) (res := fun p : Lg × Rows × Mg × Bool => entX p.2.1 fun r => mustO p.1.evs p.1.ms (up p.1) p.2.2.1 p.2.2.2 r) (L, C, m, io) (ev_var rfl) slI_is (ea_two (ev_var rfl) (ev_var rfl)) rfl hp) ?_
  refine go_ret ((ev_cb (ea_one (ev_lcD (α := Nat × Nat) (ents (fun r => mustO L.evs L.ms (up L) m io r) C) (fun q => kD (encN q)) (keepB C fun r n => !decide (newsO L.ms (up L) m.2 r = some n) || broughtB L.ms (up L) m n r) encN (ei_tupRE ((ev_var rfl).to fun _ _ z => kR_X z)) sub_nil (by omega) fun i q hq => ?_)) ck_tupOf).is ?_)
  · obtain ⟨k, n⟩ := q
    obtain ⟨r, hr, hf⟩ := mem_ents.mp (List.mem_of_getElem? hq)
    refine ⟨_, [5], tg_name, in_one, (et_or (et_test (ev_op (ev_var rfl) ((ev_var rfl).to fun _ _ z => kR_X z) (rk_notInR (Sh.ent (k, n)).shaped (Sh.ents C _).shaped rfl))) fun _ => et_B (ev_meth (Mi := fun _ => []) (Mo := fun _ => []) (res := fun p : Lg × Rows × Mg × Nat × Nat × Row => kB (broughtB p.1.ms (up p.1) p.2.2.1 p.2.2.2.2.1 p.2.2.2.2.2)) (L, C, m, k, n, r) (ev_var rfl) slI_is (ea_two (ev_var rfl) (ev_var rfl)) rfl ⟨hp.1, hr⟩)).is ?_, fun _ => ev_var rfl⟩
    unfold keepB
    simp only [hr]
    rw [any_eqv eqv_encN]
    congr 2
    exact decide_eq_decide.mpr ⟨fun z => by
      obtain ⟨r2, h1, h2⟩ := mem_ents.mp z
      rw [hr] at h1
      cases h1
      exact h2, fun z => mem_ents.mpr ⟨r, hr, z⟩⟩
  · rw [ents_keep]
    unfold entD lateO
    congr 3
    funext r
    congr 1
    funext n
    by_cases h1 : newsO L.ms (up L) m.2 r = some n <;> by_cases h2 : broughtB L.ms (up L) m n r = true <;> simp [h1, h2]
end
end Fw
set_option Elab.async false
set_option linter.all false
set_option maxRecDepth 100000
set_option maxHeartbeats 4000000
set_option Elab.async false
/-! the walk: Order.lead -/
namespace Fw
open PySem PySem.Spec PyProof.Rows L2
/-! ### plain -/
theorem filter_le_of {α : Type} {p q : α → Bool} (h : ∀ x, p x = true → q x = true) : ∀ l : List α, (l.filter p).length ≤ (l.filter q).length
  | [] => Nat.le_refl _
  | a :: l => by
    have ih := filter_le_of h l
    by_cases h1 : p a = true
    · rw [List.filter_cons_of_pos h1, List.filter_cons_of_pos (h a h1)]
      exact Nat.succ_le_succ ih
    · rw [List.filter_cons_of_neg h1]
      by_cases h2 : q a = true
      · rw [List.filter_cons_of_pos h2]
        exact Nat.le_succ_of_le ih
      · rw [List.filter_cons_of_neg h2]
        exact ih
theorem filter_lt_of {α : Type} {p q : α → Bool} (h : ∀ x, p x = true → q x = true) {a : α} (h1 : q a = true) (h2 : p a = false) : ∀ {l : List α}, a ∈ l → (l.filter p).length < (l.filter q).length
  | b :: l, hm => by
    rcases List.mem_cons.mp hm with rfl | hm
    · rw [List.filter_cons_of_neg (by rw [h2]; exact Bool.false_ne_true), List.filter_cons_of_pos h1]
      exact Nat.lt_succ_of_le (filter_le_of h l)
    · have ih := filter_lt_of h h1 h2 hm
      by_cases h3 : p b = true
      · rw [List.filter_cons_of_pos h3, List.filter_cons_of_pos (h b h3)]
        exact Nat.succ_lt_succ ih
      · rw [List.filter_cons_of_neg h3]
        by_cases h4 : q b = true
        · rw [List.filter_cons_of_pos h4]
          exact Nat.lt_succ_of_lt ih
        · rw [List.filter_cons_of_neg h4]
          exact ih
/-- behind by the lists f -/
noncomputable def rea (f : Et → List Et) (e y : Et) : Bool := @decide (Reach (fun a b => b ∈ f a) e y) (Classical.propDecidable _)
theorem rea_iff {f : Et → List Et} {e y : Et} : rea f e y = true ↔ Reach (fun a b => b ∈ f a) e y := by
  unfold rea
  exact @decide_eq_true_iff _ (Classical.propDecidable _)
theorem rea_of {f : Et → List Et} {e : Et} {V : Et → Bool} (sound : ∀ y, V y = true → Reach (fun a b => b ∈ f a) e y) (c1 : ∀ b ∈ f e, V b = true) (c2 : ∀ a b, V a = true → b ∈ f a → V b = true) (y : Et) : V y = rea f e y := by
  have h : V y = true ↔ rea f e y = true := by
    rw [rea_iff]
    refine ⟨sound y, fun h => ?_⟩
    induction h with
    | one r => exact c1 _ r
    | more _ r ih => exact c2 _ _ ih r
  cases h1 : V y <;> cases h2 : rea f e y <;> simp [h1, h2] at h ⊢
/-- one turn's state -/
structure LdI (evs : List Et) (f : Et → List Et) (e : Et) (W : List Et) (V : Et → Bool) (k : Nat) : Prop where
  w : ∀ y ∈ W, y ∈ evs
  ws : ∀ y ∈ W, Reach (fun a b => b ∈ f a) e y
  vs : ∀ y, V y = true → Reach (fun a b => b ∈ f a) e y
  c1 : ∀ b ∈ f e, V b = true ∨ b ∈ W
  c2 : ∀ a b, V a = true → b ∈ f a → V b = true ∨ b ∈ W
  k : k + (evs.filter fun y => !V y).length ≤ evs.length
  m : 201 * (evs.filter fun y => !V y).length + W.length ≤ 201 * evs.length + 200
theorem LdI.skip {evs : List Et} {f : Et → List Et} {e h : Et} {W : List Et} {V : Et → Bool} {k : Nat} (i : LdI evs f e (W ++ [h]) V k) (hv : V h = true) : LdI evs f e W V k := by
  refine ⟨fun y hy => i.w y (List.mem_append_left _ hy), fun y hy => i.ws y (List.mem_append_left _ hy), i.vs, fun b hb => ?_, fun a b ha hb => ?_, i.k, ?_⟩
  · rcases i.c1 b hb with z | z
    · exact .inl z
    · rcases List.mem_append.mp z with z | z
      · exact .inr z
      · rw [List.mem_singleton.mp z]; exact .inl hv
  · rcases i.c2 a b ha hb with z | z
    · exact .inl z
    · rcases List.mem_append.mp z with z | z
      · exact .inr z
      · rw [List.mem_singleton.mp z]; exact .inl hv
  · have := i.m
    rw [List.length_append] at this
    omega
theorem LdI.mark {evs : List Et} {f : Et → List Et} {e h : Et} {W : List Et} {V : Et → Bool} {k : Nat} (i : LdI evs f e (W ++ [h]) V k) (hv : V h = false) (hf : ∀ y ∈ evs, ∀ b ∈ f y, b ∈ evs) (hl : ∀ y, (f y).length ≤ 200) :
    LdI evs f e (W ++ f h) (fun y => decide (y = h) || V y) (k + 1) ∧ 201 * (evs.filter fun y => !(decide (y = h) || V y)).length + (W ++ f h).length < 201 * (evs.filter fun y => !V y).length + (W ++ [h]).length := by
  have hin : h ∈ evs := i.w h (List.mem_append_right _ (List.mem_singleton_self h))
  have hrh := i.ws h (List.mem_append_right _ (List.mem_singleton_self h))
  have hlt : (evs.filter fun y => !(decide (y = h) || V y)).length < (evs.filter fun y => !V y).length := by
    refine filter_lt_of (a := h) (fun y hy => ?_) (by rw [hv]; rfl) (by simp) hin
    simp at hy ⊢
    exact hy.2
  have hfl := hl h
  have hk := i.k
  have hm := i.m
  rw [List.length_append, List.length_singleton] at hm
  have vin : ∀ b, (decide (b = h) || V b) = true ↔ b = h ∨ V b = true := fun b => by simp
  refine ⟨⟨fun y hy => ?_, fun y hy => ?_, fun y hy => ?_, fun b hb => ?_, fun a b ha hb => ?_, by omega, by rw [List.length_append]; omega⟩, by rw [List.length_append, List.length_append, List.length_singleton]; omega⟩
  · rcases List.mem_append.mp hy with z | z
    · exact i.w y (List.mem_append_left _ z)
    · exact hf h hin y z
  · rcases List.mem_append.mp hy with z | z
    · exact i.ws y (List.mem_append_left _ z)
    · exact .more hrh z
  · rcases (vin y).mp hy with z | z
    · rw [z]; exact hrh
    · exact i.vs y z
  · rcases i.c1 b hb with z | z
    · exact .inl ((vin b).mpr (.inr z))
    · rcases List.mem_append.mp z with z | z
      · exact .inr (List.mem_append_left _ z)
      · exact .inl ((vin b).mpr (.inl (List.mem_singleton.mp z)))
  · rcases (vin a).mp ha with z | z
    · subst z
      exact .inr (List.mem_append_right _ hb)
    · rcases i.c2 a b z hb with z | z
      · exact .inl ((vin b).mpr (.inr z))
      · rcases List.mem_append.mp z with z | z
        · exact .inr (List.mem_append_left _ z)
        · exact .inl ((vin b).mpr (.inl (List.mem_singleton.mp z)))
theorem LdI.start {evs : List Et} {f : Et → List Et} {e : Et} (he : e ∈ evs) (hf : ∀ y ∈ evs, ∀ b ∈ f y, b ∈ evs) (hl : ∀ y, (f y).length ≤ 200) : LdI evs f e (f e) (fun _ => false) 0 := by
  have hfl := hl e
  have h2 : (evs.filter fun _ : Et => !false).length ≤ evs.length := List.length_filter_le _ _
  exact ⟨hf e he, fun y hy => .one hy, fun y hy => (by cases hy), fun b hb => .inr hb, fun a b ha => (by cases ha), by omega, by omega⟩
theorem LdI.fin {evs : List Et} {f : Et → List Et} {e : Et} {V : Et → Bool} {k : Nat} (i : LdI evs f e [] V k) (y : Et) : V y = rea f e y :=
  rea_of i.vs (fun b hb => (i.c1 b hb).resolve_right (by simp)) (fun a b ha hb => (i.c2 a b ha hb).resolve_right (by simp)) y

/-! ### the walk -/
theorem go_weak {P : Po} {t : TS} {Γ : Ga} {M : List Mu} {m m' : Mu} (hf : ∀ a, m'.fp a → m.fp a) (hp : ∀ B C, m.p B C → m'.p B C) (hr : Go P t Γ (m' :: M)) : Go P t Γ (m :: M) := fun F σ B C E s o q =>
  hr F σ B C E s (OkM.chg (M := M ++ F) o o.ex (fun _ _ => rfl) (hp B C o.head) fun a ha => .inl (hf a ha)) q
structure LdA where
  x : Addr
  dx : Addr
  D : Addr
  P : Addr
  As : Et → Option Addr
  Bs : Et → Option Addr
  f : Et → List Et
  S : Et → Et → Bool
  n : Nat
  evs : List Et
  mkd : PyData
  e : Et
abbrev kE (l : List Et) : List Kn := l.map fun o => kD (encE o)
def LdA.ks (a : LdA) : List (Option Kn) := [some (kD (.list (a.evs.map encE))), some (kD a.mkd), some (kC (.ref a.D)), some (kC (.ref a.P))]
def LdA.M (K : PySem.W.Frag) (a : LdA) (S : Et → Et → Bool) (n : Nat) : List Mu := [mDM a.P a.Bs (fun y => cSet (S y) n) a.evs.length, mSl (He.ga K "Order") a.x a.dx a.ks, mDM a.D a.As (cL fun y => kE (a.f y)) a.evs.length]
structure LdA.Ok (a : LdA) : Prop where
  e : a.e ∈ a.evs
  as : ∀ y, (a.As y).isSome = decide (y ∈ a.evs)
  bs : ∀ y, (a.Bs y).isSome = decide (y ∈ a.evs)
  f : ∀ y ∈ a.evs, ∀ b ∈ a.f y, b ∈ a.evs
  l : ∀ y, (a.f y).length ≤ 200
  n : a.n ≤ 20000
  ne : a.evs.length ≤ 100
  s : ∀ y, a.S y a.e = false
noncomputable def LdA.S' (a : LdA) : Et → Et → Bool := fun y o => (decide (o = a.e) && rea a.f a.e y) || a.S y o
noncomputable abbrev spLead (K : PySem.W.Frag) : Sp := spF (fun a : LdA => a.Ok) (fun a => [kC (.ref a.x), kD (encE a.e)]) (fun a => a.M K a.S a.n) (fun a => a.M K a.S' (a.n + 100)) (fun _ => kD .none)
theorem isS {o : Option Addr} (h : o.isSome = true) : ∃ a, o = some a := Option.isSome_iff_exists.mp h
section
variable {P : Program} {w : World} {K : PySem.W.Frag} {mg : Str → Option Value} {base : Heap}
theorem r_Order_lead (T : Tx K mg) : FnR P w K mg base CX0 1 (He.ma K (He.ga K "Order") "lead") (spLead K) := by
  obtain ⟨fd, F⟩ := T.says.def_ 3 (d := (mD "Order" "lead" "Order.lead" 8 3))
  have nd : (["self", "event", "waiting", "here"] : List Str).Nodup := by decide +kernel
  refine fn_r (N := ["self", "event", "waiting", "here"]) (ps := ["self", "event"]) F ⟨rfl, rfl, rfl, nd, rfl, by decide +kernel, by decide +kernel⟩ (F.bindsN fun _ _ _ _ _ _ us hl => match us, hl with | [_, _], _ => rfl) .nil (fun _ _ => rfl) fun cdv A outer s H E hr => ?_
  have hu := hu_of hr
  have hu64 := hr.units
  have hu65 := room65 hr
  refine ⟨_, (pss_cons (ps_set (i := 2) nd rfl (Or.inl rfl) (pe_callTy (k_lst K) (by rfl) (T.free 39) (by decide +kernel) (pa_cons (pe_dget hu (k_sl K (pv 0)) (pv 1) (fun _ _ => rfl)) pa_nil)))
      (pss_cons (ps_while PassesOwn.never (pt_cmpR op_gt (pe_callB (k_len K) (by rfl) (T.free 41) (by decide +kernel) (pa_cons (pv 2) pa_nil)) pe_int (nomark _)) (pss_cons (ps_set (i := 3) nd rfl (Or.inl rfl) (pe_bm0 PySem.F.plainAttrs_list PySem.F.slot_list_pop PySem.F.type_list_pop mt_pop (pv 2)))
      (pss_cons (ps_if (pt_cmp (pc_dnotin hu (pv 1) (pe_dget hu (k_sl K (pv 0)) (pv 3) (fun _ _ => rfl)))) (pss_cons (ps_dput hu (pe_dget hu (k_sl K (pv 0)) (pv 3) (fun _ _ => rfl)) (pv 1) pe_bl rfl)
      (pss_cons (ps_expr (pe_bm PySem.F.plainAttrs_list PySem.F.slot_list_extend PySem.F.type_list_extend mt_extend (pv 2) (pa_cons (pe_dget hu (k_sl K (pv 0)) (pv 3) (fun _ _ => rfl)) pa_nil)))
      pss_nil)) pss_nil)
      pss_nil)))
      pss_nil)), fun a hp => ?_⟩
  have hAs : ∀ y ∈ a.evs, ∃ b, a.As y = some b := fun y hy => isS (by rw [hp.as, decide_eq_true hy])
  have hBs : ∀ y ∈ a.evs, ∃ b, a.Bs y = some b := fun y hy => isS (by rw [hp.bs, decide_eq_true hy])
  obtain ⟨ae, hae⟩ := hAs a.e hp.e
  have mD : ∀ S n, mDM a.D a.As (cL fun y => kE (a.f y)) a.evs.length ∈ a.M K S n := fun S n => by simp [LdA.M]
  have mS : ∀ S n, mSl (He.ga K "Order") a.x a.dx a.ks ∈ a.M K S n := fun S n => by simp [LdA.M]
  have mP : ∀ S n, mDM a.P a.Bs (fun y => cSet (S y) n) a.evs.length ∈ a.M K S n := fun S n => by simp [LdA.M]
  refine go_setG (eg_lstOfM (ev_dgetM (mD _ _) (ev_slotM (ev_var rfl) (mS _ _) T.ck.o T.ck.o2 rfl) (ev_var rfl) hae) (mD _ _) hae) fun Wa => ?_
  let SV : (Et → Bool) → Et → Et → Bool := fun V y o => (decide (o = a.e) && V y) || a.S y o
  refine go_while (S := List Et × (Et → Bool) × Nat) (fun s => LdI a.evs a.f a.e s.1 s.2.1 s.2.2) (fun s => 201 * (a.evs.filter fun y => !s.2.1 y).length + s.1.length) (fun _ => [some (kC (.ref a.x)), some (kD (encE a.e)), some (kC (.ref Wa)), none]) (fun s => mLst Wa (kE s.1) :: a.M K (SV s.2.1) (a.n + s.2.2)) (a.f a.e, fun _ => false, 0) (LdI.start hp.e hp.f hp.l) (Less.refl _) ?_ fun s hs => ?_
  · have e : SV (fun _ => false) = a.S := by funext y o; simp [SV]
    show List.Perm _ (mLst Wa (kE (a.f a.e)) :: a.M K (SV fun _ => false) (a.n + 0))
    rw [e]
    exact List.Perm.refl _
  obtain ⟨W, V, k⟩ := s
  have hs : LdI a.evs a.f a.e W V k := hs
  refine ⟨_, et_test (ev_op (ev_cb (ea_one (ev_var rfl)) (ck_lenM (ks := kE W) (List.mem_cons_self ..))) ev_int rk_gt), fun hb => ?_, fun hb => ?_⟩
  · have hW : W ≠ [] := fun z => by subst z; simp at hb
    obtain ⟨W', h, rfl⟩ : ∃ W' h, W = W' ++ [h] := ⟨W.dropLast, W.getLast hW, (List.dropLast_concat_getLast hW).symm⟩
    have hin : h ∈ a.evs := hs.w h (List.mem_append_right _ (List.mem_singleton_self h))
    obtain ⟨ah, hah⟩ := hAs h hin
    obtain ⟨bh, hbh⟩ := hBs h hin
    have hdl : (kE (W' ++ [h])).dropLast = kE W' := by simp [kE]
    refine go_set (ev_pop (ks := kE (W' ++ [h])) (k := kD (encE h)) (ev_var rfl) (by simp [kE])) ?_
    rw [hdl]
    refine go_seq (go_ifS (et_test (ev_dninS (S := SV V) (n2 := a.n + k) (List.mem_cons_of_mem _ (mP _ _)) (ev_var rfl) (ev_dgetM (List.mem_cons_of_mem _ (mP _ _)) (ev_slotM (ev_var rfl) (List.mem_cons_of_mem _ (mS _ _)) T.ck.o T.ck.o3 rfl) (ev_var rfl) hbh) hbh)) (fun h1 => ?_) fun h1 => ?_) fun _ _ z => go_nil z
    · have hv : V h = false := by
        have := hp.s h
        simp [SV, this] at h1
        exact h1
      obtain ⟨i1, i2⟩ := hs.mark hv hp.f hp.l
      have hk := i1.k
      have hm := i1.m
      have hn := hp.n
      have hne := hp.ne
      refine go_dputS (M4 := mLst Wa (kE W') :: mSl (He.ga K "Order") a.x a.dx a.ks :: mDM a.D a.As (cL fun y => kE (a.f y)) a.evs.length :: []) ev_bl (ev_dgetM (List.mem_cons_of_mem _ (mP _ _)) (ev_slotM (ev_var rfl) (List.mem_cons_of_mem _ (mS _ _)) T.ck.o T.ck.o3 rfl) (ev_var rfl) hbh) (ev_var rfl) (List.Perm.swap _ _ _) hbh (by omega) ?_
      refine go_perm (M1 := mLst Wa (kE W') :: a.M K (SV fun y => decide (y = h) || V y) (a.n + (k + 1))) (go_drop (ev_extendM (ev_var rfl) (ev_dgetM (List.mem_cons_of_mem _ (mD _ _)) (ev_slotM (ev_var rfl) (List.mem_cons_of_mem _ (mS _ _)) T.ck.o T.ck.o2 rfl) (ev_var rfl) hah) (mD _ _) hah ?_) (go_nil ⟨(W' ++ a.f h, _, k + 1), i1, i2, ⟨fun _ _ z => z, fun _ _ z => z, fun _ _ z => z, True.intro⟩, ?_⟩)) ?_
      · simp only [kE, List.length_map]
        rw [List.length_append] at hm
        omega
      · simp only [kE, List.map_append]
        exact List.Perm.refl _
      · have e : (fun x => cSet (fun y => decide (x = h ∧ y = a.e) || SV V x y) (a.n + k + 1)) = fun x => cSet (SV (fun y => decide (y = h) || V y) x) (a.n + (k + 1)) := by
          funext x
          congr 1
          funext y
          by_cases e1 : x = h <;> by_cases e2 : y = a.e <;> simp [SV, e1, e2]
        rw [e]
        exact List.Perm.swap _ _ _
    · have hv : V h = true := by
        have := hp.s h
        simp [SV, this] at h1
        exact h1
      exact go_nil ⟨(W', V, k), hs.skip hv, by simp, ⟨fun _ _ z => z, fun _ _ z => z, fun _ _ z => z, True.intro⟩, List.Perm.refl _⟩
  · have hW : W = [] := by
      cases W with
      | nil => rfl
      | cons b W => simp at hb
    subst hW
    have e : SV V = a.S' := by
      funext y o
      simp only [SV, LdA.S']
      rw [hs.fin y]
    have hk := hs.k
    have hne := hp.ne
    rw [e]
    refine go_freeze [mLst Wa (kE [])] (i := 0) (k' := kC (.ref a.x)) rfl (fun v B C B' _ p _ _ _ => p) ?_
    refine go_weak (m' := mDM a.P a.Bs (fun y => cSet (a.S' y) (a.n + 100)) a.evs.length) (fun _ z => z) (fun B C ⟨h1, h2, h3⟩ => ⟨h1, fun x b hx => ?_, h3⟩) (go_nil ⟨rfl, fun _ _ _ => .non⟩)
    obtain ⟨u, z1, ws, z2, z3, z4⟩ := h2 x b hx
    exact ⟨u, z1, ws, z2, by show ws.length ≤ a.n + 100; have z3 : ws.length ≤ a.n + k := z3; omega, z4⟩
end
end Fw
set_option Elab.async false
set_option linter.all false
set_option maxRecDepth 100000
set_option maxHeartbeats 4000000
set_option Elab.async false
/-! the walk: Order.__init__ -/
namespace Fw
open PySem PySem.Spec PyProof.Rows L2
theorem Lg.evs_nodup {L : Lg} (h : LgOk L) : L.evs.Nodup := by
  unfold Lg.evs
  have hnd := h.nd
  generalize L.ma = l at hnd
  induction l with
  | nil => exact List.nodup_nil
  | cons p l ih =>
    rw [List.map_cons, List.nodup_cons] at hnd
    rw [List.flatMap_cons]
    refine List.nodup_append.mpr ⟨?_, ih hnd.2, fun a ha b hb e => ?_⟩
    · exact List.Pairwise.map _ (fun a b hab h => hab (congrArg Prod.snd h)) List.nodup_range
    · subst e
      obtain ⟨i, _, rfl⟩ := List.mem_map.mp ha
      obtain ⟨q, hq, hb⟩ := List.mem_flatMap.mp hb
      obtain ⟨j, _, e⟩ := List.mem_map.mp hb
      exact hnd.1 (List.mem_map.mpr ⟨q, hq, (Prod.mk.inj e).1⟩)
theorem Lg.ma_le {L : Lg} (h : LgOk L) {p : Ma} (hp : p ∈ L.ma) : p.2.1 ≤ 100 := by
  refine Nat.le_trans ?_ h.le
  unfold Lg.evs
  generalize L.ma = l at hp
  induction l with
  | nil => cases hp
  | cons q l ih =>
    rw [List.flatMap_cons, List.length_append, List.length_map, List.length_range]
    rcases List.mem_cons.mp hp with rfl | hp
    · omega
    · exact Nat.le_trans (ih hp) (Nat.le_add_left _ _)
theorem evs_data (L : Lg) : (L.ma.flatMap fun p => (List.range p.2.1).map fun i => encE (p.1, i)) = L.evs.map encE := by
  unfold Lg.evs
  rw [List.map_flatMap]
  congr 1
  funext p
  rw [List.map_map]
  rfl
theorem marked_data (L : Lg) : (L.ma.flatMap fun p => p.2.2.map fun i => encE (p.1, i)) = L.marked.map encE := by
  unfold Lg.marked
  rw [List.map_flatMap]
  congr 1
  funext p
  rw [List.map_map]
  rfl
theorem fm_len {α β γ : Type} {m : α → List β} {f : α → β → γ} : ∀ l : List α, (l.flatMap fun a => (m a).map (f a)).length = (l.flatMap m).length
  | [] => rfl
  | a :: l => by
    rw [List.flatMap_cons, List.flatMap_cons, List.length_append, List.length_append, List.length_map, fm_len l]
abbrev succE (e : Et) : Et := (e.1, e.2 + 1)
theorem mem_take_succ {α : Type} {l : List α} {i : Nat} {a e : α} (h : l[i]? = some a) : e ∈ l.take (i + 1) ↔ e ∈ l.take i ∨ e = a := by
  rw [take_next h, List.mem_append, List.mem_singleton]
/-- the lists of what is next -/
structure NxA (L : Lg) (i : Nat) (f : Et → List Et) : Prop where
  m : ∀ e o, o ∈ f e ↔ (e ∈ L.evs.take i ∧ o = succE e ∧ o ∈ L.evs)
  l : ∀ e, (f e).length ≤ i
structure NxB (L : Lg) (i : Nat) (f : Et → List Et) : Prop where
  m : ∀ e o, o ∈ f e ↔ ((e ∈ L.evs ∧ o = succE e ∧ o ∈ L.evs) ∨ (e, o) ∈ L.ms.take i)
  l : ∀ e, (f e).length ≤ 100 + i
def addE (f : Et → List Et) (e o : Et) : Et → List Et := fun y => if y = e then f e ++ [o] else f y
theorem kE_add {f : Et → List Et} {e o : Et} : (fun x => if x = e then kE (f e) ++ [kD (encE o)] else kE (f x)) = fun x => kE (addE f e o x) := by
  funext x
  unfold addE
  by_cases h : x = e
  · rw [if_pos h, if_pos h]
    simp [kE]
  · rw [if_neg h, if_neg h]
theorem mem_add {f : Et → List Et} {e o y z : Et} : z ∈ addE f e o y ↔ z ∈ f y ∨ (y = e ∧ z = o) := by
  unfold addE
  by_cases h : y = e
  · subst h
    simp
  · simp [h]
theorem len_add {f : Et → List Et} {e o y : Et} {n : Nat} (h : ∀ y, (f y).length ≤ n) : (addE f e o y).length ≤ n + 1 := by
  unfold addE
  by_cases hy : y = e
  · rw [if_pos hy, List.length_append]
    exact Nat.succ_le_succ (h e)
  · rw [if_neg hy]
    exact Nat.le_succ_of_le (h y)
theorem NxB.nx {L : Lg} (ok : LgOk L) {f : Et → List Et} (h : NxB L L.ms.length f) (a b : Et) : b ∈ f a ↔ Nx L.evs L.ms a b := by
  rw [h.m, List.take_length]
  unfold Nx
  constructor
  · rintro (⟨_, h2, h3⟩ | h1)
    · exact .inl ⟨h2, h3⟩
    · exact .inr h1
  · rintro (⟨h1, h2⟩ | h1)
    · exact .inl ⟨Lg.down a.1 a.2 (a.2 + 1) (by subst h1; exact h2) (Nat.le_succ _), h1, h2⟩
    · exact .inr h1
theorem NxB.rea {L : Lg} (ok : LgOk L) {f : Et → List Et} (h : NxB L L.ms.length f) (o e : Et) : rea f o e = ah L o e := by
  have e1 : (fun a b => b ∈ f a) = Nx L.evs L.ms := by
    funext a b
    exact propext (h.nx ok a b)
  unfold Fw.rea ah
  rw [e1]
theorem nx_in {L : Lg} (ok : LgOk L) {a b : Et} (h : Nx L.evs L.ms a b) : a ∈ L.evs ∧ b ∈ L.evs := by
  rcases h with ⟨h1, h2⟩ | h1
  · exact ⟨Lg.down a.1 a.2 (a.2 + 1) (by subst h1; exact h2) (Nat.le_succ _), h2⟩
  · exact ok.ms _ h1
theorem ah_in {L : Lg} (ok : LgOk L) {o e : Et} (h : ah L o e = true) : o ∈ L.evs ∧ e ∈ L.evs := by
  have key : ∀ b, Reach (Nx L.evs L.ms) o b → o ∈ L.evs ∧ b ∈ L.evs := fun b h => by
    induction h with
    | one r => exact nx_in ok r
    | more _ r ih => exact ⟨ih.1, (nx_in ok r).2⟩
  exact key e (ah_iff.mp h)
/-- of that what is known of an address -/
def kAt (x : Addr) (k : Kn) : Kn := ⟨fun v H => v = .ref x ∧ k.p v H, fun e ⟨h1, h2⟩ => ⟨h1, k.mono e h2⟩⟩
section
variable {P : Program} {w : World} {K : PySem.W.Frag} {mg : Str → Option Value} {base : Heap}
noncomputable abbrev spOrd (K : PySem.W.Frag) : Sp := spI (He.ga K "Order") LgOk (fun L => [kD (encLg L)]) (fun L => kOrd K L)
theorem r_Order___init__ (T : Tx K mg) : FnR P w K mg base CX0 7 (He.ma K (He.ga K "Order") "__init__") (spOrd K) := by
  obtain ⟨fd, F⟩ := T.says.def_ 1 (d := (mD "Order" "__init__" "Order.__init__" 8 1))
  have nd : (["self", "log", "machines", "messages", "name", "number", "sent", "come", "event", "many", "marks"] : List Str).Nodup := by decide +kernel
  refine fn_r (N := ["self", "log", "machines", "messages", "name", "number", "sent", "come", "event", "many", "marks"]) (ps := ["self", "log"]) F ⟨rfl, rfl, rfl, nd, rfl, by decide +kernel, by decide +kernel⟩ (F.bindsN fun _ _ _ _ _ _ us hl => match us, hl with | [_, _], _ => rfl) .nil (fun _ _ => rfl) fun cdv A outer s H E hr => ?_
  have hu := hu_of hr
  have hu64 := hr.units
  have hu65 := room65 hr
  refine ⟨_, (pss_cons (ps_asg (pe_g (r_tupled T) hr (by decide) (T.glo 0) (T.kp 0 (d := (gD "tupled" 6))) (pa_cons (pv 1) pa_nil)) (k_gT K (n := 2) rfl (pgs_cons (pg_name (i := 2) nd rfl (Or.inl rfl)) (pgs_cons (pg_name (i := 3) nd rfl (Or.inl rfl)) pgs_nil))))
      (pss_cons (SlX.ps_sl (pv 0) (pe_lc2 (own := [("name", 4), ("many", 9), ("marks", 10), ("number", 5)]) (vs1 := [5]) rfl nd (k_iT K (pv 2)) (blkOk_by (own := [("name", 4), ("many", 9), ("marks", 10), ("number", 5)]) (N := ["self", "log", "machines", "messages", "name", "number", "sent", "come", "event", "many", "marks"]) (sc := defScope (inClass (top 8) 1)) (by decide +kernel)) (by decide) (fun _ _ _ _ _ => (k_gT K (n := 3) rfl (pgs_cons (pg_name (i := 4) nd rfl (Or.inl rfl)) (pgs_cons (pg_name (i := 9) nd rfl (Or.inl rfl)) (pgs_cons (pg_name (i := 10) nd rfl (Or.inl rfl)) pgs_nil))))) (fun _ _ _ _ _ => pts_nil) (fun _ _ _ _ _ => (pi_range1 (by rfl) (T.free 40) (pa_cons (pv 9) pa_nil))) (fun _ _ _ _ _ => (pg_name (i := 5) nd rfl (Or.inl rfl))) (fun _ _ _ _ _ => pts_nil) (fun _ _ _ _ _ => (pe_tup (pa_cons (pv 4) (pa_cons (pv 5) pa_nil))))))
      (pss_cons (SlX.ps_sl (pv 0) (pe_lc2 (own := [("name", 4), ("many", 9), ("marks", 10), ("number", 5)]) (vs1 := [5]) rfl nd (k_iT K (pv 2)) (blkOk_by (own := [("name", 4), ("many", 9), ("marks", 10), ("number", 5)]) (N := ["self", "log", "machines", "messages", "name", "number", "sent", "come", "event", "many", "marks"]) (sc := defScope (inClass (top 8) 1)) (by decide +kernel)) (by decide) (fun _ _ _ _ _ => (k_gT K (n := 3) rfl (pgs_cons (pg_name (i := 4) nd rfl (Or.inl rfl)) (pgs_cons (pg_name (i := 9) nd rfl (Or.inl rfl)) (pgs_cons (pg_name (i := 10) nd rfl (Or.inl rfl)) pgs_nil))))) (fun _ _ _ _ _ => pts_nil) (fun _ _ _ _ _ => (k_iT K (pv 10))) (fun _ _ _ _ _ => (pg_name (i := 5) nd rfl (Or.inl rfl))) (fun _ _ _ _ _ => pts_nil) (fun _ _ _ _ _ => (pe_tup (pa_cons (pv 4) (pa_cons (pv 5) pa_nil))))))
      (pss_cons (SlX.ps_sl (pv 0) (pe_dcT hu (own := [("event", 8)]) rfl nd (k_iL K (k_sl K (pv 0))) (blkOk_by (own := [("event", 8)]) (N := ["self", "log", "machines", "messages", "name", "number", "sent", "come", "event", "many", "marks"]) (sc := defScope (inClass (top 8) 1)) (by decide +kernel)) (fun _ _ _ _ _ => (pg_name (i := 8) nd rfl (Or.inl rfl))) (fun _ _ _ _ _ => pts_nil) (fun _ _ _ _ _ => (pv 8)) (fun _ _ _ _ _ => (pe_lst pa_nil))))
      (pss_cons (ps_for PassesOwn.never rfl (k_iL K (pe_callTy (k_lst K) (by rfl) (T.free 39) (by decide +kernel) (pa_cons (k_sl K (pv 0)) pa_nil))) (k_gT K (n := 2) rfl (pgs_cons (pg_name (i := 4) nd rfl (Or.inl rfl)) (pgs_cons (pg_name (i := 5) nd rfl (Or.inl rfl)) pgs_nil))) (pss_cons (ps_if (pt_cmp (pc_din hu (pe_tup (pa_cons (pv 4) (pa_cons (pe_op op_add (pv 5) pe_int) pa_nil))) (k_sl K (pv 0)))) (pss_cons (ps_expr (pe_bm PySem.F.plainAttrs_list PySem.F.slot_list_append PySem.F.type_list_append mt_append (pe_dget hu (k_sl K (pv 0)) (pe_tup (pa_cons (pv 4) (pa_cons (pv 5) pa_nil))) (fun _ _ => rfl)) (pa_cons (pe_tup (pa_cons (pv 4) (pa_cons (pe_op op_add (pv 5) pe_int) pa_nil))) pa_nil)))
      pss_nil) pss_nil)
      pss_nil))
      (pss_cons (ps_for PassesOwn.never rfl (k_iT K (pv 3)) (k_gT K (n := 2) rfl (pgs_cons (pg_name (i := 6) nd rfl (Or.inl rfl)) (pgs_cons (pg_name (i := 7) nd rfl (Or.inl rfl)) pgs_nil))) (pss_cons (ps_expr (pe_bm PySem.F.plainAttrs_list PySem.F.slot_list_append PySem.F.type_list_append mt_append (pe_dget hu (k_sl K (pv 0)) (pv 6) (fun _ _ => rfl)) (pa_cons (pv 7) pa_nil)))
      pss_nil))
      (pss_cons (SlX.ps_sl (pv 0) (pe_dcT hu (own := [("event", 8)]) rfl nd (k_iL K (k_sl K (pv 0))) (blkOk_by (own := [("event", 8)]) (N := ["self", "log", "machines", "messages", "name", "number", "sent", "come", "event", "many", "marks"]) (sc := defScope (inClass (top 8) 1)) (by decide +kernel)) (fun _ _ _ _ _ => (pg_name (i := 8) nd rfl (Or.inl rfl))) (fun _ _ _ _ _ => pts_nil) (fun _ _ _ _ _ => (pv 8)) (fun _ _ _ _ _ => (pe_dnewT))))
      (pss_cons (ps_for PassesOwn.never rfl (k_iL K (k_sl K (pv 0))) (pg_name (i := 8) nd rfl (Or.inl rfl)) (pss_cons (ps_expr (pe_ms (pv 0) T.ck.o (T.mth 61) (r_Order_lead T) hr (by decide) (pa_cons (pv 8) pa_nil)))
      pss_nil))
      pss_nil)))))))), fun a hp => ?_⟩
  obtain ⟨L, x, dx⟩ := a
  have ok : LgOk L := hp
  have hle := ok.le
  have hlm := ok.lm
  have hla := ok.la
  have hlk := ok.lk
  have hnd := Lg.evs_nodup ok
  refine go_asg (ev_tpl (d := encLg L) (ea_one (ev_var rfl)) (Fx.lg ok) (Nat.lt_of_le_of_lt (Sh.lg L).2 (by decide))) tg_twoD ?_
  refine go_slG (x := x) (dx := dx) (ks := []) (Cl := He.ga K "Order") (ρ := fun _ : Unit => kD (.list (L.evs.map encE))) (μ := fun _ => [mSl (He.ga K "Order") x dx []]) (Ms := fun _ => []) ((ev_lc2D L.ma (fun p => List.range p.2.1) (fun p => kD (encMa p)) (fun p i => kI (i : Nat)) (fun p i => encE (p.1, i)) (ei_tupE (ev_var rfl)) sub_nil ?_ fun i p hp => ?_).is (by rw [evs_data])).g (fun _ => ev_var rfl) (fun _ => .refl _) T.ck.o T.ck.o0 fun _ => ?_
  · rw [← fm_len (f := fun (p : Ma) (i : Nat) => (p.1, i))]
    show L.evs.length ≤ 50000
    omega
  · have := Lg.ma_le ok (List.mem_of_getElem? hp)
    exact ⟨_, [4, 9, 10], tg_triD, by decide, ei_range (ev_var rfl) (by omega), fun j i hi => ⟨_, [5], tg_name, in_one, ev_tup2D (ev_var rfl) (ev_var rfl)⟩⟩
  refine go_slG (x := x) (dx := dx) (ks := _) (Cl := He.ga K "Order") (ρ := fun _ : Unit => kD (.list (L.marked.map encE))) (μ := fun _ => [mSl (He.ga K "Order") x dx [some (kD (.list (L.evs.map encE)))]]) (Ms := fun _ => []) ((ev_lc2D L.ma (fun p => p.2.2) (fun p => kD (encMa p)) (fun p i => kI (i : Nat)) (fun p i => encE (p.1, i)) (ei_tupE (ev_var rfl)) sub_nil ?_ fun i p hp => ?_).is (by rw [marked_data])).g (fun _ => ev_var rfl) (fun _ => .refl _) T.ck.o T.ck.o1 fun _ => ?_
  · rw [← fm_len (f := fun (p : Ma) (i : Nat) => (p.1, i))]
    show L.marked.length ≤ 50000
    omega
  · exact ⟨_, [4, 9, 10], tg_triD, by decide, ei_tupE (ev_var rfl), fun j i hi => ⟨_, [5], tg_name, in_one, ev_tup2D (ev_var rfl) (ev_var rfl)⟩⟩
  refine go_slG (x := x) (dx := dx) (ks := [some (kD (.list (L.evs.map encE))), some (kD (.list (L.marked.map encE)))]) (Cl := He.ga K "Order") (Ms := fun p => [mDM p.1 p.2.1 (fun _ => cLst []) L.evs.length]) (eg_dcT L.evs (cLst []) (ei_lstE (ev_slotM (ev_var rfl) (List.mem_cons_self ..) T.ck.o T.ck.o0 rfl)) sub_nil (by omega) hnd fun e he => ⟨_, [8], tg_name, in_one, ev_var rfl, eg_lstOb⟩) (fun _ => ev_var rfl) (fun _ => .swap _ _ _) T.ck.o T.ck.o2 fun p => ?_
  obtain ⟨D, As, hAs⟩ := p
  have hA : ∀ y ∈ L.evs, ∃ b, As y = some b := fun y hy => isS (by rw [hAs, decide_eq_true hy])
  refine go_perm (M1 := [mDM D As (cL fun y => kE ((fun _ => [] : Et → List Et) y)) L.evs.length, mSl (He.ga K "Order") x dx [some (kD (.list (L.evs.map encE))), some (kD (.list (L.marked.map encE))), some (kC (.ref D))]]) ?_ (.swap _ _ _)
  refine go_for (S := Et → List Et) (NxA L) (fun _ => [some (kC (.ref x)), some (kD (encLg L)), some (kD (.tuple (L.ma.map encMa))), some (kD (.tuple (L.ms.map encM))), none, none, none, none, none, none, none]) (fun f => [mDM D As (cL fun y => kE (f y)) L.evs.length, mSl (He.ga K "Order") x dx [some (kD (.list (L.evs.map encE))), some (kD (.list (L.marked.map encE))), some (kC (.ref D))]]) (fun _ => []) (ei_lstE (ev_cb (ea_one (ev_slotM (ev_var rfl) (List.mem_cons_of_mem _ (List.mem_cons_self ..)) T.ck.o T.ck.o0 rfl)) ck_lstOf)) ⟨fun e o => by simp, fun e => by simp⟩ (Less.refl _) (.refl _) (fun _ _ _ => sub_nil) (fun i f k hf hk => ?_) fun f hf => ?_
  · rw [List.getElem?_map] at hk
    obtain ⟨e, he, rfl⟩ := Option.map_eq_some_iff.mp hk
    have hin : e ∈ L.evs := List.mem_of_getElem? he
    have hi : i < L.evs.length := (List.getElem?_eq_some_iff.mp he).1
    obtain ⟨b, hb⟩ := hA e hin
    refine ⟨_, [4, 5], tg_twoD, go_seq (go_ifS (et_test (ev_dinM (e := succE e) (List.mem_cons_self ..) (ev_tup2D (ev_var rfl) (ev_op (ev_var rfl) ev_int rk_add)) (ev_slotM (ev_var rfl) (List.mem_cons_of_mem _ (List.mem_cons_self ..)) T.ck.o T.ck.o2 rfl) (hAs _))) (fun h1 => ?_) fun h1 => ?_) fun _ _ z => go_nil z⟩
    · have h1 := of_decide_eq_true h1
      have hl := hf.l e
      refine go_drop (ev_appendM (f := fun y => kE (f y)) (k := kD (encE (succE e))) (e := e) (ev_dgetM (List.mem_cons_self ..) (ev_slotM (ev_var rfl) (List.mem_cons_of_mem _ (List.mem_cons_self ..)) T.ck.o T.ck.o2 rfl) (ev_tup2D (ev_var rfl) (ev_var rfl)) hb) (ev_tup2D (ev_var rfl) (ev_op (ev_var rfl) ev_int rk_add)) (List.mem_cons_self ..) (.refl _) hb (by simp only [kE, List.length_map]; omega)) (go_nil ⟨addE f e (succE e), ⟨fun y o => ?_, fun y => len_add hf.l⟩, ⟨fun _ _ z => z, fun _ _ z => z, fun _ _ z => z, fun _ _ z => z, True.intro⟩, ?_⟩)
      · rw [mem_add, hf.m, mem_take_succ he]
        constructor
        · rintro (⟨h2, h3, h4⟩ | ⟨rfl, rfl⟩)
          · exact ⟨.inl h2, h3, h4⟩
          · exact ⟨.inr rfl, rfl, h1⟩
        · rintro ⟨h2 | rfl, h3, h4⟩
          · exact .inl ⟨h2, h3, h4⟩
          · exact .inr ⟨rfl, h3⟩
      · rw [kE_add]
    · have h1 := of_decide_eq_false h1
      refine go_nil ⟨f, ⟨fun y o => ?_, fun y => Nat.le_succ_of_le (hf.l y)⟩, ⟨fun _ _ z => z, fun _ _ z => z, fun _ _ z => z, fun _ _ z => z, True.intro⟩, .refl _⟩
      rw [hf.m, mem_take_succ he]
      constructor
      · rintro ⟨h2, h3, h4⟩
        exact ⟨.inl h2, h3, h4⟩
      · rintro ⟨h2 | rfl, h3, h4⟩
        · exact ⟨h2, h3, h4⟩
        · subst h3
          exact absurd h4 h1
  rw [List.length_map] at hf
  refine go_for (S := Et → List Et) (NxB L) (fun _ => [some (kC (.ref x)), some (kD (encLg L)), some (kD (.tuple (L.ma.map encMa))), some (kD (.tuple (L.ms.map encM))), none, none, none, none, none, none, none]) (fun f => [mDM D As (cL fun y => kE (f y)) L.evs.length, mSl (He.ga K "Order") x dx [some (kD (.list (L.evs.map encE))), some (kD (.list (L.marked.map encE))), some (kC (.ref D))]]) f (ei_tupE (ev_var rfl)) ⟨fun e o => ?_, fun e => ?_⟩ (Less.refl _) (.refl _) (fun _ _ _ => sub_nil) (fun i f k hf hk => ?_) fun f hf => ?_
  · rw [hf.m, List.take_length]
    simp
  · have := hf.l e
    omega
  · rw [List.getElem?_map] at hk
    obtain ⟨m, hm, rfl⟩ := Option.map_eq_some_iff.mp hk
    have hin := ok.ms m (List.mem_of_getElem? hm)
    have hi : i < L.ms.length := (List.getElem?_eq_some_iff.mp hm).1
    obtain ⟨b, hb⟩ := hA m.1 hin.1
    have hl := hf.l m.1
    refine ⟨_, [6, 7], tg_twoD, go_drop (ev_appendM (f := fun y => kE (f y)) (k := kD (encE m.2)) (e := m.1) (ev_dgetM (List.mem_cons_self ..) (ev_slotM (ev_var rfl) (List.mem_cons_of_mem _ (List.mem_cons_self ..)) T.ck.o T.ck.o2 rfl) (ev_var rfl) hb) (ev_var rfl) (List.mem_cons_self ..) (.refl _) hb (by simp only [kE, List.length_map]; omega)) (go_nil ⟨addE f m.1 m.2, ⟨fun y o => ?_, fun y => len_add hf.l⟩, ⟨fun _ _ z => z, fun _ _ z => z, fun _ _ z => z, fun _ _ z => z, True.intro⟩, ?_⟩)⟩
    · rw [mem_add, hf.m, mem_take_succ hm]
      constructor
      · rintro ((h2 | h2) | ⟨rfl, rfl⟩)
        · exact .inl h2
        · exact .inr (.inl h2)
        · exact .inr (.inr rfl)
      · rintro (h2 | h2 | h2)
        · exact .inl (.inl h2)
        · exact .inl (.inr h2)
        · subst h2
          exact .inr ⟨rfl, rfl⟩
    · rw [kE_add]
  rw [List.length_map] at hf
  refine go_slG (x := x) (dx := dx) (ks := [some (kD (.list (L.evs.map encE))), some (kD (.list (L.marked.map encE))), some (kC (.ref D))]) (Cl := He.ga K "Order") (Ms := fun p => [mDM p.1 p.2.1 (fun _ => cSet (fun _ => false) 0) L.evs.length, mDM D As (cL fun y => kE (f y)) L.evs.length]) (eg_dcT L.evs (cSet (fun _ => false) 0) (ei_lstE (ev_slotM (ev_var rfl) (List.mem_cons_of_mem _ (List.mem_cons_self ..)) T.ck.o T.ck.o0 rfl)) sub_nil (by omega) hnd fun e he => ⟨_, [8], tg_name, in_one, ev_var rfl, eg_dctOb⟩) (fun _ => ev_var rfl) (fun _ => ((List.Perm.swap _ _ _).cons _).trans (.swap _ _ _)) T.ck.o T.ck.o3 fun p => ?_
  obtain ⟨Q, Bs, hBs⟩ := p
  have hB : ∀ y ∈ L.evs, ∃ b, Bs y = some b := fun y hy => isS (by rw [hBs, decide_eq_true hy])
  let Si : Nat → Et → Et → Bool := fun i y o => decide (o ∈ L.evs.take i) && ah L o y
  let ld : Nat → Et → LdA := fun i e => ⟨x, dx, D, Q, As, Bs, f, Si i, 100 * i, L.evs, .list (L.marked.map encE), e⟩
  let e0 : Et := (⟨Str.empty, by decide +kernel⟩, 0)
  refine go_forN (fun _ => [some (kC (.ref x)), some (kD (encLg L)), some (kD (.tuple (L.ma.map encMa))), some (kD (.tuple (L.ms.map encM))), none, none, none, none, none, none, none]) (fun i => (ld i e0).M K (Si i) (100 * i)) (ei_lstE (ev_slotM (ev_var rfl) (List.mem_cons_self ..) T.ck.o T.ck.o0 rfl)) (Less.refl _) ?_ (fun _ => sub_nil) (fun i k hi hk => ?_) ?_
  · have e1 : Si 0 = fun _ _ => false := by funext y o; simp [Si]
    show List.Perm _ ((ld 0 e0).M K (Si 0) 0)
    rw [e1]
    exact .swap _ _ _
  · rw [List.getElem?_map] at hk
    obtain ⟨e, he, rfl⟩ := Option.map_eq_some_iff.mp hk
    have hin : e ∈ L.evs := List.mem_of_getElem? he
    have hi : i < L.evs.length := (List.getElem?_eq_some_iff.mp he).1
    have hnew : e ∉ L.evs.take i := fun hm => by
      obtain ⟨j, hj, e2⟩ := List.getElem_of_mem hm
      rw [List.getElem_take] at e2
      rw [List.length_take] at hj
      have e3 := (List.getElem?_eq_some_iff.mp he).2
      have := (List.getElem_inj hnd).mp (e2.trans e3.symm)
      omega
    refine ⟨_, [8], tg_name, go_drop (ev_meth (M1 := []) (Mi := fun a : LdA => a.M K a.S a.n) (Mo := fun a : LdA => a.M K a.S' (a.n + 100)) (res := fun _ => kD .none) (ld i e) (ev_var rfl) (mSl_is (dx := dx) (ks := (ld i e).ks) (by simp [LdA.M, ld, LdA.ks])) (ea_one (ev_var rfl)) rfl ⟨hin, hAs, hBs, fun y hy b hb => ?_, fun y => ?_, by show 100 * i ≤ 20000; omega, hle, fun y => ?_⟩) (go_nil ⟨⟨fun _ _ z => z, fun _ _ z => z, fun _ _ z => z, fun _ _ z => z, True.intro⟩, ?_⟩)⟩
    · exact (nx_in ok ((hf.nx ok y b).mp hb)).2
    · have := hf.l y
      show (f y).length ≤ 200
      omega
    · show (decide (e ∈ L.evs.take i) && _) = false
      rw [decide_eq_false hnew]
      rfl
    · have e1 : (ld i e).S' = Si (i + 1) := by
        funext y o
        show ((decide (o = e) && rea f e y) || (decide (o ∈ L.evs.take i) && ah L o y)) = (decide (o ∈ L.evs.take (i + 1)) && ah L o y)
        rw [hf.rea ok]
        have h2 := mem_take_succ (e := o) he
        by_cases h3 : o = e
        · subst h3
          simp [h2]
        · by_cases h4 : o ∈ L.evs.take i <;> simp [h2, h3, h4]
      rw [e1]
      exact .refl _
  rw [List.length_map]
  refine go_freeze ((ld L.evs.length e0).M K (Si L.evs.length) (100 * L.evs.length)) (M := []) (i := 0) (k' := kAt x (kOrd K L)) rfl (fun v B C B' hm pv e1 e2 hB' => ?_) (go_nil ⟨rfl, fun σ B sk => ?_⟩)
  · have hP := hm (mDM Q Bs (fun y => cSet (Si L.evs.length y) (100 * L.evs.length)) L.evs.length) (by simp [LdA.M, ld])
    have bP := hB' (mDM Q Bs (fun y => cSet (Si L.evs.length y) (100 * L.evs.length)) L.evs.length) (by simp [LdA.M, ld])
    have hS := hm (mSl (He.ga K "Order") x dx (ld L.evs.length e0).ks) (by simp [LdA.M, ld, LdA.ks])
    have bS := hB' (mSl (He.ga K "Order") x dx (ld L.evs.length e0).ks) (by simp [LdA.M, ld, LdA.ks])
    obtain ⟨ne, _, vs, h1, h2⟩ := hS
    obtain ⟨⟨kvs, h3, _, h4⟩, h5, _, _⟩ := hP
    refine ⟨pv, x, dx, vs, pv, ?_, fun i k hk => ?_⟩
    · rcases h1 with ⟨h, z⟩ | ⟨h, z⟩
      · exact .inl ⟨(bS x (.inl rfl)).trans h, z⟩
      · exact .inr ⟨(bS x (.inl rfl)).trans h, (bS dx (.inr rfl)).trans z⟩
    · match i, hk with
      | 0, hk =>
        cases hk
        obtain ⟨u, h6, h7⟩ := h2 0 (kD (.list (L.evs.map encE))) rfl
        exact ⟨u, h6, Kn.mono _ e1 h7⟩
      | 1, hk => cases hk
      | 2, hk => cases hk
      | 3, hk =>
        cases hk
        obtain ⟨u, h6, h7⟩ := h2 3 (kC (.ref Q)) rfl
        refine ⟨u, h6, Q, kvs, h7, (bP Q (.inl rfl)).trans h3, fun e => ?_⟩
        rw [h4]
        show OptK (Option.map V.ref (Bs e)) (if e ∈ L.evs then some (kST fun o => ah L o e) else none) B'
        by_cases he : e ∈ L.evs
        · obtain ⟨b, hb⟩ := hB e he
          obtain ⟨o, h8, ws, rfl, _, h9⟩ := h5 e b hb
          rw [if_pos he, hb]
          refine ⟨b, ws, rfl, (bP b (.inr ⟨e, hb⟩)).trans h8, fun o => ?_⟩
          have h10 := h9 o
          have h11 : Si L.evs.length e o = ah L o e := by
            show (decide (o ∈ L.evs.take L.evs.length) && ah L o e) = _
            rw [List.take_length]
            cases h12 : ah L o e with
            | false => simp
            | true => simp [(ah_in ok h12).1]
          rw [h11] at h10
          cases h12 : ah L o e with
          | true =>
            rw [h12] at h10
            obtain ⟨u2, h13⟩ := Option.isSome_iff_exists.mp h10
            simp only [h12, if_true, h13]
            exact True.intro
          | false =>
            rw [h12] at h10
            have h13 : valV ws (keyE o) = none := by
              cases hv : valV ws (keyE o) with
              | none => rfl
              | some u => rw [hv] at h10; cases h10
            simp only [h12, h13]
            exact True.intro
        · have hn : Bs e = none := by
            have := hBs e
            rw [decide_eq_false he] at this
            cases hv : Bs e with
            | none => rfl
            | some u => rw [hv] at this; cases this
          rw [if_neg he, hn]
          exact True.intro
      | i + 4, hk => cases hk
  · obtain ⟨v, _, h1, h2⟩ := sk.at_ 0 _ rfl
    refine ⟨rfl, ?_⟩
    rw [← h1]
    exact h2
end
end Fw
set_option Elab.async false
set_option linter.all false
set_option maxRecDepth 100000
set_option maxHeartbeats 4000000
set_option Elab.async false
/-! the walk: the box of draws, draws, names -/
namespace Fw
open PySem PySem.Spec PyProof.Rows L2
section
variable {P : Program} {w : World} {K : PySem.W.Frag} {mg : Str → Option Value} {base : Heap}
theorem mul01 (b : Bool) : -(2 ^ 64) < (if b then (1 : Int) else 0) ∧ (if b then (1 : Int) else 0) < 2 ^ 64 := by cases b <;> decide
/-- a list of numbers that can be read: the script -/
def kSq (K : PySem.W.Frag) (ns : List Int) : Kn := ⟨fun v H => ∃ a, v = .ref a ∧ SqL K H a (ns.map V.int), fun e ⟨a, h1, h2⟩ => ⟨a, h1, h2.elim (fun z => .inl (Rd.ex e z)) .inr⟩⟩
theorem sq_ex {K : PySem.W.Frag} {H H' : Hp} {a : Addr} {xs : List V} (e : Ex H H') (h : SqL K H a xs) : SqL K H' a xs := h.elim (fun z => .inl (Rd.ex e z)) .inr
theorem ck_lenQ {M : List Mu} {ns : List Int} : CK (rLenS K) M [kSq K ns] (kI ns.length) := fun xs F B C o ps Q q => by
  obtain ⟨v, rfl, a, rfl, h⟩ := allK1 ps
  exact ⟨a, _, rfl, .inl (sq_ex o.ex h), by rw [List.length_map]; exact q _ B C (Ex.refl B) o (.int _)⟩
theorem rk_ixQ {M : List Mu} {ns : List Int} {n : Nat} {i : Int} {j : Int} (h : ns[n]? = some j) (hi : i = (n : Int) := by rfl) : RK (rIxL K) M (kSq K ns) (kI i) (kI j) := fun x y F B C o ⟨a, e, h1⟩ py Q q => by
  subst e
  exact ⟨a, _, i, .int j, rfl, py.int_inv, sq_ex o.ex h1, by rw [hi]; exact atI_nat (by rw [List.getElem?_map, h]; rfl), q _ B C (Ex.refl B) o (.int _)⟩
abbrev spBox (K : PySem.W.Frag) : Sp := spG (β := Addr) (fun p : List Int × Nat => p.2 ≤ 1000) (fun p => [kSq K p.1, kI p.2]) (fun _ => []) (fun _ D => [mBox D 0]) (fun _ D => kC (.ref D))
theorem r__law_box (T : Tx K mg) : FnR P w K mg base CX0 1 (He.ga K "_law_box") (spBox K) := by
  obtain ⟨fd, F⟩ := T.says.def_ 36 (d := (gD "_law_box" 30))
  have nd : (["_law_script", "_law_k", "_law_cell", "_law_seed"] : List Str).Nodup := by decide +kernel
  refine fn_rG (N := ["_law_script", "_law_k", "_law_cell", "_law_seed"]) (ps := ["_law_script", "_law_k"]) F ⟨rfl, rfl, rfl, nd, rfl, by decide +kernel, by decide +kernel⟩ (F.bindsN fun _ _ _ _ _ _ us hl => match us, hl with | [_, _], _ => rfl) .nil (fun _ _ => rfl) fun cdv A outer s H E hr => ?_
  have hu := hu_of hr
  have hu64 := hr.units
  have hu65 := room65 hr
  refine ⟨_, (pss_cons (ps_set (i := 2) nd rfl (Or.inl rfl) (pe_ifExp (pt_cmpR op_lt (pv 1) (pe_callB (k_len K) (by rfl) (T.free 41) (by decide +kernel) (pa_cons (pv 0) pa_nil)) (nomark _)) (pe_ix (k_ixL K) (pv 0) (pv 1) (fun _ _ => rfl)) pe_int))
      (pss_cons (ps_set (i := 3) nd rfl (Or.inl rfl) (pe_op op_mod (pe_callTy call_int1 (by rfl) (T.free 48) (by decide +kernel) (pa_cons (pe_op op_mul (pe_op op_add (pe_op op_add (pe_op op_mod (pe_callTy call_int1 (by rfl) (T.free 48) (by decide +kernel) (pa_cons (pv 2) pa_nil)) pe_int) (pe_op op_mul pe_int (pv 1))) pe_int) pe_int) pa_nil)) pe_int))
      (pss_cons (ps_ret (pe_lst (pa_cons (pe_op op_mul (pe_callB call_abs (by rfl) (T.free 49) (by decide +kernel) (pa_cons (pv 2) pa_nil)) (pe_callTy call_int1 (by rfl) (T.free 48) (by decide +kernel) (pa_cons (pe_cmpR op_ge (pe_callB call_abs (by rfl) (T.free 49) (by decide +kernel) (pa_cons (pv 2) pa_nil)) (pe_op op_pow pe_int pe_int) (nomark _)) pa_nil))) (pa_cons (pv 3) (pa_cons pe_int pa_nil)))))
      pss_nil))), fun a hp => ?_⟩
  obtain ⟨ns, k⟩ := a
  have hk : k ≤ 1000 := hp
  have hcell : ∃ c : Int, Ev (tIf (tTest (tOp (rI0 fun i j => .bl (decide (i < j))) (tVar 1) (tCB (rLenS K) (tCons (tVar 0) tNil)))) (tOp (rIxL K) (tVar 0) (tVar 1)) (tC (.int 0))) [some (kSq K ns), some (kI k), none, none] [] [] (kI c) := by
    by_cases h : k < ns.length
    · refine ⟨ns[k], ev_if (b := true) ((et_test (ev_op (ev_var rfl) (ev_cb (ea_one (ev_var rfl)) ck_lenQ) rk_lt)).is ?_) (fun _ => ev_op (ev_var rfl) (ev_var rfl) (rk_ixQ (n := k) (List.getElem?_eq_getElem h))) fun z => by cases z⟩
      simp; omega
    · refine ⟨0, ev_if (b := false) ((et_test (ev_op (ev_var rfl) (ev_cb (ea_one (ev_var rfl)) ck_lenQ) rk_lt)).is ?_) (fun z => by cases z) fun _ => ev_int⟩
      simp; omega
  obtain ⟨c, hcell⟩ := hcell
  refine gor_set hcell ?_
  refine gor_set (ev_op (ev_cb (ea_one (ev_op (ev_op (ev_op (ev_op (ev_cb (ea_one (ev_var rfl)) ck_int1) ev_int (rk_mod (by decide))) (ev_op ev_int (ev_var rfl) (rk_mul (.inl (by decide)))) rk_add) ev_int rk_add) ev_int (rk_mul (.inr (by decide))))) ck_int1) ev_int (rk_mod (by decide))) ?_
  have hb : ∀ c : Int, 0 ≤ (if c < 0 then -c else c) * (if decide ((10 : Int) ^ (18 : Int).toNat ≤ if c < 0 then -c else c) then 1 else 0) := fun c => by
    refine Int.mul_nonneg ?_ ?_
    · split <;> omega
    · split <;> omega
  have hs : ∀ x : Int, 0 ≤ x % 2147483563 ∧ x % 2147483563 < 2147483563 := fun x => by omega
  exact gor_ret (eg_box (eg_lst (ea_cons (ev_op (ev_cb (ea_one (ev_var rfl)) ck_abs) (ev_cb (ea_one (ev_op (ev_cb (ea_one (ev_var rfl)) ck_abs) (ev_op ev_int ev_int (rk_pow ⟨by decide, by decide, by decide⟩)) rk_ge)) ck_intB) (rk_mul (.inr (mul01 _)))) (ea_two (ev_var rfl) ev_int))) ⟨hb _, (hs _).1, (hs _).2, Int.le_refl _, Int.le_refl _⟩)
abbrev TakeA : Type := Addr × Nat × Nat
def TakeOk (p : TakeA) : Prop := 1 ≤ p.2.2 ∧ p.2.2 ≤ 1000 ∧ p.2.1 ≤ 100000
abbrev spTake : Sp := spF (fun p : TakeA => TakeOk p) (fun p => [kC (.ref p.1), kI p.2.2]) (fun p => [mBox p.1 p.2.1]) (fun p => [mBox p.1 (p.2.1 + 1)]) (fun p => kLt p.2.2)
theorem r__law_take (T : Tx K mg) : FnR P w K mg base CX0 1 (He.ga K "_law_take") spTake := by
  obtain ⟨fd, F⟩ := T.says.def_ 37 (d := (gD "_law_take" 31))
  have nd : (["_law_box_here", "_law_below", "_law_found", "_law_once", "_law_odd"] : List Str).Nodup := by decide +kernel
  refine fn_r (N := ["_law_box_here", "_law_below", "_law_found", "_law_once", "_law_odd"]) (ps := ["_law_box_here", "_law_below"]) F ⟨rfl, rfl, rfl, nd, rfl, by decide +kernel, by decide +kernel⟩ (F.bindsN fun _ _ _ _ _ _ us hl => match us, hl with | [_, _], _ => rfl) .nil (fun _ _ => rfl) fun cdv A outer s H E hr => ?_
  have hu := hu_of hr
  have hu64 := hr.units
  have hu65 := room65 hr
  refine ⟨_, (pss_cons (ps_if (pt_cmpR op_gt (pe_ix (k_ixL K) (pv 0) pe_int (fun _ _ => rfl)) pe_int (nomark _)) (pss_cons (ps_set (i := 2) nd rfl (Or.inl rfl) (pe_op op_mod (pe_callTy call_int1 (by rfl) (T.free 48) (by decide +kernel) (pa_cons (pe_ix (k_ixL K) (pv 0) pe_int (fun _ _ => rfl)) pa_nil)) (pv 1)))
      (pss_cons (ps_asg (pe_op op_fdiv (pe_ix (k_ixL K) (pv 0) pe_int (fun _ _ => rfl)) (pv 1)) (pg_sub (pv 0) pe_int set_list))
      (pss_cons (ps_ret (pv 2))
      pss_nil))) pss_nil)
      (pss_cons (ps_asg (pe_op op_add (pe_ix (k_ixL K) (pv 0) pe_int (fun _ _ => rfl)) pe_int) (pg_sub (pv 0) pe_int set_list))
      (pss_cons (ps_set (i := 3) nd rfl (Or.inl rfl) (pe_op op_mod (pe_callTy call_int1 (by rfl) (T.free 48) (by decide +kernel) (pa_cons (pe_op op_pow (pe_op op_add (pe_ix (k_ixL K) (pv 0) pe_int (fun _ _ => rfl)) (pe_op op_mul pe_int (pe_ix (k_ixL K) (pv 0) pe_int (fun _ _ => rfl)))) pe_int) pa_nil)) pe_int))
      (pss_cons (ps_set (i := 4) nd rfl (Or.inl rfl) (pe_op op_add (pe_op op_mod (pe_callTy call_int1 (by rfl) (T.free 48) (by decide +kernel) (pa_cons (pv 3) pa_nil)) pe_int) pe_int))
      (pss_cons (ps_ret (pe_op op_mod (pe_callTy call_int1 (by rfl) (T.free 48) (by decide +kernel) (pa_cons (pe_op op_fdiv (pe_op op_mod (pe_callTy call_int1 (by rfl) (T.free 48) (by decide +kernel) (pa_cons (pe_op op_add (pe_op op_mul (pv 3) (pv 4)) (pe_op op_mul (pe_ix (k_ixL K) (pv 0) pe_int (fun _ _ => rfl)) pe_int)) pa_nil)) pe_int) pe_int) pa_nil)) (pv 1)))
      pss_nil))))), fun a hp => ?_⟩
  obtain ⟨D, n, b⟩ := a
  obtain ⟨hb1, hb2, hn⟩ : 1 ≤ b ∧ b ≤ 1000 ∧ n ≤ 100000 := hp
  refine go_open fun big seed cnt ok => ?_
  have hbi : (0 : Int) < (b : Int) := by omega
  have hbj : (b : Int) < 1073741824 := by omega
  refine go_seq (nx := fun Γ' M' => Γ' = [some (kC (.ref D)), some (kI b), none, none, none] ∧ M' = [mLst D [kI big, kI seed, kI cnt]]) (go_ifS (et_test (ev_op (ev_op (ev_var rfl) ev_int (rk_ixM (List.mem_cons_self ..) (n := 0) rfl)) ev_int rk_gt)) (fun h => ?_) fun _ => go_nil ⟨rfl, rfl⟩) fun Γ' M' ⟨e1, e2⟩ => ?_
  · refine go_set (ev_op (ev_cb (ea_one (ev_op (ev_var rfl) ev_int (rk_ixM (List.mem_cons_self ..) (n := 0) rfl))) ck_int1) (ev_var rfl) (rk_mod hbi)) ?_
    refine go_setM (M4 := []) (ks := [kI big, kI seed, kI cnt]) 0 (ev_op (ev_op (ev_var rfl) ev_int (rk_ixM (List.mem_cons_self ..) (n := 0) rfl)) (ev_var rfl) (rk_fdiv ⟨hbi, hbj⟩)) (ev_var rfl) ev_int (.refl _) (by simp) ?_
    refine go_retTo (ev_close (ev_var rfl) ⟨Int.ediv_nonneg ok.b (by omega), ok.s0, ok.s1, ok.c0, by have h9 : cnt ≤ (n : Int) := ok.c1; show cnt ≤ ((n + 1 : Nat) : Int); omega⟩) fun v B p => kLt_of (Int.emod_nonneg _ (by omega)) (Int.emod_lt_of_pos _ hbi) p
  · subst e1 e2
    have hc0 := ok.c0
    have hc1 : cnt ≤ (n : Int) := ok.c1
    have hs0 := ok.s0
    have hs1 := ok.s1
    refine go_setM (M4 := []) (ks := [kI big, kI seed, kI cnt]) 2 (ev_op (ev_op (ev_var rfl) ev_int (rk_ixM (List.mem_cons_self ..) (n := 2) rfl)) ev_int rk_add) (ev_var rfl) ev_int (.refl _) (by simp) ?_
    have m3 : mLst D [kI big, kI seed, kI (cnt + 1)] ∈ [mLst D [kI big, kI seed, kI (cnt + 1)]] := List.mem_cons_self ..
    have hpw : (seed + 52919 * (cnt + 1)).natAbs < 2 ^ 64 := by omega
    have hcn : cnt + 1 ≤ ((n + 1 : Nat) : Int) := by omega
    have hcz : 0 ≤ cnt + 1 := by omega
    refine go_set (ev_op (ev_cb (ea_one (ev_op (ev_op (ev_op (ev_var rfl) ev_int (rk_ixM m3 (n := 1) rfl)) (ev_op ev_int (ev_op (ev_var rfl) ev_int (rk_ixM m3 (n := 2) rfl)) (rk_mul (.inl (by decide)))) rk_add) ev_int (rk_pow ⟨by decide, by decide, hpw⟩))) ck_int1) ev_int (rk_mod (by decide))) ?_
    refine go_set (ev_op (ev_op (ev_cb (ea_one (ev_var rfl)) ck_int1) ev_int (rk_mod (by decide))) ev_int rk_add) ?_
    generalize hx : (seed + 52919 * (cnt + 1)) ^ (3 : Int).toNat % 2147483549 = x
    have hx1 : 0 ≤ x ∧ x < 2147483549 := by rw [← hx]; exact ⟨Int.emod_nonneg _ (by decide), Int.emod_lt_of_pos _ (by decide)⟩
    refine go_retTo (ev_close (ev_op (ev_cb (ea_one (ev_op (ev_op (ev_cb (ea_one (ev_op (ev_op (ev_var rfl) (ev_var rfl) (rk_mul (.inl ?_))) (ev_op (ev_op (ev_var rfl) ev_int (rk_ixM m3 (n := 2) rfl)) ev_int (rk_mul (.inr (by decide)))) rk_add)) ck_int1) ev_int (rk_mod (by decide))) ev_int (rk_fdiv ⟨by decide, by decide⟩))) ck_int1) (ev_var rfl) (rk_mod hbi)) ⟨ok.b, ok.s0, ok.s1, hcz, hcn⟩) fun v B p => kLt_of (Int.emod_nonneg _ (by omega)) (Int.emod_lt_of_pos _ hbi) p
    omega
abbrev spOf : Sp := spF (fun p : Addr × Nat × List PyData => p.2.2 ≠ [] ∧ p.2.2.length ≤ 1000 ∧ p.2.1 ≤ 100000) (fun p => [kC (.ref p.1), kD (.list p.2.2)]) (fun p => [mBox p.1 p.2.1]) (fun p => [mBox p.1 (p.2.1 + 1)]) (fun p => kEx fun i : Fin p.2.2.length => kD p.2.2[i])
theorem ev_take {Γ : Ga} {M M1 : List Mu} {t : TA} {E : XK} (D : Addr) (n b : Nat) (h : EvA t Γ M (mBox D n :: M1) [kC (.ref D), kI b]) (h1 : 1 ≤ b) (h2 : b ≤ 1000) (h3 : n ≤ 100000) : Ev (tCall spTake [] E t) Γ M (mBox D (n + 1) :: M1) (kLt b) := ev_call (Mi := fun p : TakeA => [mBox p.1 p.2.1]) (Mo := fun p => [mBox p.1 (p.2.1 + 1)]) (args := fun p => [kC (.ref p.1), kI p.2.2]) (res := fun p => kLt p.2.2) (D, n, b) h ⟨h1, h2, h3⟩
theorem r__law_of (T : Tx K mg) : FnR P w K mg base CX0 2 (He.ga K "_law_of") spOf := by
  obtain ⟨fd, F⟩ := T.says.def_ 38 (d := (gD "_law_of" 32))
  have nd : (["_law_box_here", "_law_some"] : List Str).Nodup := by decide +kernel
  refine fn_r (N := ["_law_box_here", "_law_some"]) (ps := ["_law_box_here", "_law_some"]) F ⟨rfl, rfl, rfl, nd, rfl, by decide +kernel, by decide +kernel⟩ (F.bindsN fun _ _ _ _ _ _ us hl => match us, hl with | [_, _], _ => rfl) .nil (fun _ _ => rfl) fun cdv A outer s H E hr => ?_
  have hu := hu_of hr
  have hu64 := hr.units
  have hu65 := room65 hr
  refine ⟨_, (pss_cons (ps_ret (pe_ix (k_ixL K) (pv 1) (pe_g (r__law_take T) hr (by decide) (T.glo 19) (T.kp 37 (d := (gD "_law_take" 31))) (pa_cons (pv 0) (pa_cons (pe_callB (k_len K) (by rfl) (T.free 41) (by decide +kernel) (pa_cons (pv 1) pa_nil)) pa_nil))) (fun _ _ => rfl)))
      pss_nil), fun a hp => ?_⟩
  obtain ⟨D, n, ds⟩ := a
  obtain ⟨h1, h2, h3⟩ : ds ≠ [] ∧ ds.length ≤ 1000 ∧ n ≤ 100000 := hp
  have h4 : 1 ≤ ds.length := List.length_pos_iff.mpr h1
  exact go_ret (ev_op (ev_var rfl) (ev_take (M1 := []) D n ds.length (ea_two (ev_var rfl) (ev_cb (ea_one (ev_var rfl)) ck_lenL)) h4 h2 h3) rk_ixLt)
theorem ev_of {α : Type} {Γ : Ga} {M M1 : List Mu} {t : TA} {E : XK} (enc : α → PyData) (l : List α) (D : Addr) (n : Nat) (h : EvA t Γ M (mBox D n :: M1) [kC (.ref D), kD (.list (l.map enc))]) (h1 : l ≠ []) (h2 : l.length ≤ 1000) (h3 : n ≤ 100000) : Ev (tCall spOf [] E t) Γ M (mBox D (n + 1) :: M1) (kEx fun i : Fin l.length => kD (enc l[i])) := by
  refine (ev_call (Mi := fun p : Addr × Nat × List PyData => [mBox p.1 p.2.1]) (Mo := fun p => [mBox p.1 (p.2.1 + 1)]) (args := fun p => [kC (.ref p.1), kD (.list p.2.2)]) (res := fun p => kEx fun i : Fin p.2.2.length => kD p.2.2[i]) (D, n, l.map enc) h ⟨by simpa using h1, by simpa using h2, h3⟩).to fun v H ⟨i, p⟩ => ⟨⟨i.1, by have := i.2; simpa using this⟩, ?_⟩
  have e : (l.map enc)[i] = enc (l[i.1]'(by have := i.2; simpa using this)) := by simp
  have p : (kD (l.map enc)[i]).p v H := p
  rw [e] at p
  exact p
end
end Fw
set_option Elab.async false
set_option linter.all false
set_option maxRecDepth 100000
set_option maxHeartbeats 4000000
set_option Elab.async false
/-! the walk: names -/
namespace Fw
open PySem PySem.Spec PyProof.Rows L2
theorem erase_perm {α : Type} {l : List α} {i : Nat} (h : i < l.length) : (l[i] :: l.eraseIdx i).Perm l := by
  rw [List.eraseIdx_eq_take_drop_succ]
  have e : l = l.take i ++ l[i] :: l.drop (i + 1) := by rw [← List.drop_eq_getElem_cons h, List.take_append_drop]
  have p := (List.perm_middle (a := l[i]) (l₁ := l.take i) (l₂ := l.drop (i + 1))).symm
  rw [← e] at p
  exact p
theorem map_erase {α β : Type} {f : α → β} {l : List α} {i : Nat} : (l.map f).eraseIdx i = (l.eraseIdx i).map f := by
  simp [List.eraseIdx_eq_take_drop_succ, List.map_take, List.map_drop]
section
variable {P : Program} {w : World} {K : PySem.W.Frag} {mg : Str → Option Value} {base : Heap}
abbrev encS (x : Nm) : PyData := .str x.1
abbrev kS (l : List Nm) : List Kn := l.map fun x => kD (encS x)
def pool0 : List Nm := [⟨"a", by decide +kernel⟩, ⟨"b", by decide +kernel⟩, ⟨"c", by decide +kernel⟩, ⟨"ab", by decide +kernel⟩, ⟨"z", by decide +kernel⟩, ⟨"m", by decide +kernel⟩, ⟨"zz", by decide +kernel⟩]
theorem pool0_nodup : pool0.Nodup := by decide +kernel
theorem alike_S (l : List Nm) : PySem.W.AllAlike (l.map encS) := fun d hd d' hd' => by
  obtain ⟨x, _, rfl⟩ := List.mem_map.mp hd
  obtain ⟨y, _, rfl⟩ := List.mem_map.mp hd'
  simp [PySem.W.alike]
theorem sortable_S (l : List Nm) : PySem.W.Sortable (l.map encS) := PySem.W.Sortable.others fun b => ⟨(fun z => nomatch z), (fun xs z => nomatch z)⟩
def NsOk (folk : Nat) (ns : List Nm) : Prop := ns.Nodup ∧ ns.length = folk
abbrev spNames : Sp := spF (fun p : Addr × Nat × Nat => 1 ≤ p.2.2 ∧ p.2.2 ≤ 6 ∧ p.2.1 ≤ 90000) (fun p => [kC (.ref p.1), kI p.2.2]) (fun p => [mBox p.1 p.2.1]) (fun p => [mBox p.1 (p.2.1 + p.2.2)]) (fun p => kEx fun r : { ns : List Nm // NsOk p.2.2 ns } => kD (.list (r.1.map encS)))
theorem r__law_names (T : Tx K mg) : FnR P w K mg base CX0 2 (He.ga K "_law_names") spNames := by
  obtain ⟨fd, F⟩ := T.says.def_ 40 (d := (gD "_law_names" 34))
  have nd : (["_law_box_here", "_law_folk", "_law_pool", "_law_found", "_law_turn"] : List Str).Nodup := by decide +kernel
  refine fn_r (N := ["_law_box_here", "_law_folk", "_law_pool", "_law_found", "_law_turn"]) (ps := ["_law_box_here", "_law_folk"]) F ⟨rfl, rfl, rfl, nd, rfl, by decide +kernel, by decide +kernel⟩ (F.bindsN fun _ _ _ _ _ _ us hl => match us, hl with | [_, _], _ => rfl) .nil (fun _ _ => rfl) fun cdv A outer s H E hr => ?_
  have hu := hu_of hr
  have hu64 := hr.units
  have hu65 := room65 hr
  refine ⟨_, (pss_cons (ps_par (i := 2) (j := 3) rfl nd rfl rfl (by decide) rfl rfl (pa_cons (pe_lst (pa_cons pe_str (pa_cons pe_str (pa_cons pe_str (pa_cons pe_str (pa_cons pe_str (pa_cons pe_str (pa_cons pe_str pa_nil)))))))) (pa_cons (pe_lst pa_nil) pa_nil)) rfl)
      (pss_cons (ps_for PassesOwn.never rfl (pi_range1 (by rfl) (T.free 40) (pa_cons (pv 1) pa_nil)) (pg_name (i := 4) nd rfl (Or.inl rfl)) (pss_cons (ps_expr (pe_bm PySem.F.plainAttrs_list PySem.F.slot_list_append PySem.F.type_list_append mt_append (pv 3) (pa_cons (pe_bm PySem.F.plainAttrs_list PySem.F.slot_list_pop PySem.F.type_list_pop mt_popAt (pv 2) (pa_cons (pe_g (r__law_take T) hr (by decide) (T.glo 19) (T.kp 37 (d := (gD "_law_take" 31))) (pa_cons (pv 0) (pa_cons (pe_callB (k_len K) (by rfl) (T.free 41) (by decide +kernel) (pa_cons (pv 2) pa_nil)) pa_nil))) pa_nil)) pa_nil)))
      pss_nil))
      (pss_cons (ps_ret (pe_callB (k_sort K hu64) (by rfl) (T.free 50) (by decide +kernel) (pa_cons (pv 3) pa_nil)))
      pss_nil))), fun a hp => ?_⟩
  obtain ⟨D, n, folk⟩ := a
  obtain ⟨hf0, hf, hn⟩ : 1 ≤ folk ∧ folk ≤ 6 ∧ n ≤ 90000 := hp
  refine go_parG (α := Addr × Addr × Unit) (ρ1 := fun p => kC (.ref p.1)) (ρ2 := fun p => kC (.ref p.2.1)) (μ := fun p => [mLst p.2.1 [], mLst p.1 (kS pool0), mBox D n]) (eag_new (eg_lst (ks := kS pool0) (ea_cons ev_str (ea_cons ev_str (ea_cons ev_str (ea_cons ev_str (ea_cons ev_str (ea_two ev_str ev_str))))))) fun P => eag_new (eg_lst ea_nil) fun F => (ea_nil (M := [mLst F [], mLst P (kS pool0), mBox D n])).g) fun p => ?_
  obtain ⟨P, F, _⟩ := p
  refine go_for (S := List Nm × List Nm) (fun i s => (s.2 ++ s.1).Perm pool0 ∧ s.2.length = i) (fun _ => [some (kC (.ref D)), some (kI folk), some (kC (.ref P)), some (kC (.ref F)), none]) (fun s => [mLst F (kS s.2), mLst P (kS s.1), mBox D (n + s.2.length)]) (pool0, []) (ei_range (ev_var rfl) (show folk ≤ 100000 by omega)) ⟨.refl _, rfl⟩ (Less.refl _) (.refl _) (fun _ _ _ => sub_nil) (fun i s k hs hk => ?_) fun s hs => ?_
  · have hi := (List.getElem?_eq_some_iff.mp hk).1
    rw [List.length_map, List.length_range] at hi
    have hi : i < folk := hi
    rw [List.getElem?_map, List.getElem?_range hi] at hk
    cases hk
    obtain ⟨p, f⟩ := s
    obtain ⟨hs1, hs2⟩ : (f ++ p).Perm pool0 ∧ f.length = i := hs
    have hl := hs1.length_eq
    rw [List.length_append] at hl
    have hl0 : pool0.length = 7 := rfl
    have hfl : (kS f).length = f.length := by simp
    have hpos : 1 ≤ p.length := by omega
    have hpl : (kS p).length = p.length := by simp
    refine ⟨_, [4], tg_name, go_dropG (eg_append (ks := kS f) (D := F) (fun j : Fin (kS p).length => [mLst P ((kS p).eraseIdx j.1), mBox D (n + f.length + 1)]) (ev_var rfl) (List.mem_cons_self ..) (eg_popAt (D := P) (ks := kS p) (M3 := [mLst F (kS f), mBox D (n + f.length + 1)]) (ev_var rfl) (by simp) ((Ev.permI (ev_take (M1 := [mLst F (kS f), mLst P (kS p)]) D (n + f.length) (kS p).length (ea_two (ev_var rfl) (ev_cb (ea_one (ev_var rfl)) (ck_lenM (by simp)))) (by omega) (by omega) (by omega)) ?_).perm ?_) (.refl _) (by omega)) (fun j => .swap _ _ _) (by omega)) fun j => go_nil ⟨(p.eraseIdx j.1, f ++ [p[j.1]'(by have := j.2; omega)]), ⟨?_, by simp; omega⟩, ⟨fun _ _ z => z, fun _ _ z => z, fun _ _ z => z, fun _ _ z => z, True.intro⟩, ?_⟩⟩
    · exact (List.perm_append_comm (l₁ := [mLst F (kS f), mLst P (kS p)]) (l₂ := [mBox D (n + f.length)]))
    · exact (List.perm_append_comm (l₁ := [mBox D (n + f.length + 1)]) (l₂ := [mLst F (kS f), mLst P (kS p)])).trans (.swap _ _ _)
    · have hj : j.1 < p.length := by have := j.2; omega
      refine List.Perm.trans ?_ hs1
      rw [List.append_assoc]
      refine List.Perm.append_left f ?_
      exact erase_perm hj
    · have e1 : (kS p).eraseIdx j.1 = kS (p.eraseIdx j.1) := map_erase
      have e2 : (f ++ [p[j.1]'(by have := j.2; omega)]).length = f.length + 1 := by simp
      rw [e1]
      show List.Perm _ [mLst F (kS (f ++ [p[j.1]'(by have := j.2; omega)])), mLst P (kS (p.eraseIdx j.1)), mBox D (n + (f ++ [p[j.1]'(by have := j.2; omega)]).length)]
      rw [e2]
      simp only [kS, List.map_append, List.map_cons, List.map_nil, List.getElem_map, Nat.add_assoc, Fin.getElem_fin]
      exact .refl _
  · obtain ⟨p, f⟩ := s
    obtain ⟨hs1, hs2⟩ : (f ++ p).Perm pool0 ∧ f.length = _ := hs
    rw [List.length_map, List.length_range] at hs2
    have hs2 : f.length = folk := hs2
    subst hs2
    have hfn : f.Nodup := (List.nodup_append.mp (hs1.nodup_iff.mpr pool0_nodup)).1
    have ef : (kS f) = (f.map encS).map kD := by rw [List.map_map]; rfl
    refine go_still (i := 3) rfl (go_forget (go_retTo (ev_cb (ea_one ((ev_var rfl).to fun v H q => ?_)) (ck_sortD (ds := f.map encS) (alike_S f) (sortable_S f) fun d hd => ?_)) fun v B q => ?_))
    · rw [ef] at q
      exact kLst_data.mp q
    · obtain ⟨x, _, rfl⟩ := List.mem_map.mp hd
      exact Nat.zero_le _
    · rw [sort_enc] at q
      exact ⟨⟨f.mergeSort _, ((List.mergeSort_perm _ _).nodup_iff.mpr hfn), List.length_mergeSort _⟩, q⟩
end
end Fw
set_option Elab.async false
set_option linter.all false
set_option maxRecDepth 100000
set_option maxHeartbeats 4000000
set_option Elab.async false
/-! the walk: events, marked ones, calm logs -/
namespace Fw
open PySem PySem.Spec PyProof.Rows L2
def evsOf (l : List Ma) : List Et := l.flatMap fun p => (List.range p.2.1).map fun i => (p.1, i)
def mksOf (l : List Ma) : List Et := l.flatMap fun p => p.2.2.map fun i => (p.1, i)
theorem fm_take {α β : Type} {l : List α} {f : α → List β} {i : Nat} {a : α} (h : l[i]? = some a) : (l.take (i + 1)).flatMap f = (l.take i).flatMap f ++ f a := by
  rw [take_next h, List.flatMap_append, List.flatMap_cons, List.flatMap_nil, List.append_nil]
theorem fm_len_take {α β : Type} (l : List α) (f : α → List β) (i : Nat) : ((l.take i).flatMap f).length ≤ (l.flatMap f).length := by
  have e : l.flatMap f = (l.take i).flatMap f ++ (l.drop i).flatMap f := by rw [← List.flatMap_append, List.take_append_drop]
  rw [e, List.length_append]
  omega
section
variable {P : Program} {w : World} {K : PySem.W.Frag} {mg : Str → Option Value} {base : Heap}
abbrev spEvents : Sp := spP LgOk (fun L => [kD (encLg L)]) (fun L => kD (.list (L.evs.map encE)))
theorem r__law_events (T : Tx K mg) : FnR P w K mg base CX0 1 (He.ga K "_law_events") spEvents := by
  obtain ⟨fd, F⟩ := T.says.def_ 42 (d := (gD "_law_events" 36))
  have nd : (["_law_log_so", "_law_found", "_law_machine", "_law_number"] : List Str).Nodup := by decide +kernel
  refine fn_r (N := ["_law_log_so", "_law_found", "_law_machine", "_law_number"]) (ps := ["_law_log_so"]) F ⟨rfl, rfl, rfl, nd, rfl, by decide +kernel, by decide +kernel⟩ (F.bindsN fun _ _ _ _ _ _ us hl => match us, hl with | [_], _ => rfl) .nil (fun _ _ => rfl) fun cdv A outer s H E hr => ?_
  have hu := hu_of hr
  have hu64 := hr.units
  have hu65 := room65 hr
  refine ⟨_, (pss_cons (ps_set (i := 1) nd rfl (Or.inl rfl) (pe_lst pa_nil))
      (pss_cons (ps_for PassesOwn.never rfl (k_iT K (pe_ix (k_ixT K) (pv 0) pe_int (fun _ _ => rfl))) (pg_name (i := 2) nd rfl (Or.inr rfl)) (pss_cons (ps_set (i := 1) nd rfl (Or.inl rfl) (pe_op op_cat (pv 1) (pe_lc (own := [("_law_number", 3)]) rfl nd (pi_range1 (by rfl) (T.free 40) (pa_cons (pe_ix (k_ixT K) (pv 2) pe_int (fun _ _ => rfl)) pa_nil)) (blkOk_by (own := [("_law_number", 3)]) (N := ["_law_log_so", "_law_found", "_law_machine", "_law_number"]) (sc := defScope (top 36)) (by decide +kernel)) (fun _ _ _ _ _ => (pg_name (i := 3) nd rfl (Or.inl rfl))) (fun _ _ _ _ _ => pts_nil) (fun _ _ _ _ _ => (pe_tup (pa_cons (pe_ix (k_ixT K) (pv 2) pe_int (fun _ _ => rfl)) (pa_cons (pv 3) pa_nil)))))))
      pss_nil))
      (pss_cons (ps_ret (pv 1))
      pss_nil))), fun a hp => ?_⟩
  have ok : LgOk a := hp
  have hle := ok.le
  refine go_set ev_lst0D ?_
  refine go_forN (fun i => [some (kD (encLg a)), some (kD (.list ((evsOf (a.ma.take i)).map encE))), none, none]) (fun _ => []) (ei_tupE (f := encMa) (ev_op (ev_var rfl) ev_int (rk_ixT (n := 0) rfl))) (Less.refl _) (.refl _) (fun _ => sub_nil) (fun i k hi hk => ?_) ?_
  · rw [List.getElem?_map] at hk
    obtain ⟨p, hm, rfl⟩ := Option.map_eq_some_iff.mp hk
    have hp100 := Lg.ma_le ok (List.mem_of_getElem? hm)
    have e1 : evsOf (a.ma.take (i + 1)) = evsOf (a.ma.take i) ++ (List.range p.2.1).map fun j => (p.1, j) := fm_take hm
    have hl := fm_len_take a.ma (fun p => (List.range p.2.1).map fun i => (p.1, i)) i
    have hl2 : (evsOf (a.ma.take i)).length ≤ 100 := Nat.le_trans hl hle
    refine ⟨_, [2], tg_name, go_set ((ev_op (ev_var rfl) (ev_lcA (List.range p.2.1) (fun j => kI (j : Nat)) (fun j => encE (p.1, j)) (ei_range (ev_op (ev_var rfl) ev_int (rk_ixT (n := 1) (d := .int (p.2.1 : Nat)) rfl)) (by omega)) sub_nil (by simp; omega) fun j b hb => ⟨_, [3], tg_name, in_one, et_yes, fun _ => ev_tup2D (ev_op (ev_var rfl) ev_int (rk_ixT (n := 0) rfl)) (ev_var rfl)⟩) (rk_cat (by simp; omega))).is (d' := .list ((evsOf (a.ma.take (i + 1))).map encE)) ?_) (go_nil ⟨⟨fun _ _ z => z, fun _ _ z => z, True.intro⟩, .refl _⟩)⟩
    rw [e1, List.map_append, List.map_map]
    rfl
  · rw [List.length_map, List.take_length]
    exact go_ret (ev_var rfl)
abbrev spMarked : Sp := spP LgOk (fun L => [kD (encLg L)]) (fun L => kD (.list (L.marked.map encE)))
theorem r__law_marked (T : Tx K mg) : FnR P w K mg base CX0 1 (He.ga K "_law_marked") spMarked := by
  obtain ⟨fd, F⟩ := T.says.def_ 43 (d := (gD "_law_marked" 37))
  have nd : (["_law_log_so", "_law_found", "_law_machine", "_law_number"] : List Str).Nodup := by decide +kernel
  refine fn_r (N := ["_law_log_so", "_law_found", "_law_machine", "_law_number"]) (ps := ["_law_log_so"]) F ⟨rfl, rfl, rfl, nd, rfl, by decide +kernel, by decide +kernel⟩ (F.bindsN fun _ _ _ _ _ _ us hl => match us, hl with | [_], _ => rfl) .nil (fun _ _ => rfl) fun cdv A outer s H E hr => ?_
  have hu := hu_of hr
  have hu64 := hr.units
  have hu65 := room65 hr
  refine ⟨_, (pss_cons (ps_set (i := 1) nd rfl (Or.inl rfl) (pe_lst pa_nil))
      (pss_cons (ps_for PassesOwn.never rfl (k_iT K (pe_ix (k_ixT K) (pv 0) pe_int (fun _ _ => rfl))) (pg_name (i := 2) nd rfl (Or.inr rfl)) (pss_cons (ps_set (i := 1) nd rfl (Or.inl rfl) (pe_op op_cat (pv 1) (pe_lc (own := [("_law_number", 3)]) rfl nd (k_iT K (pe_ix (k_ixT K) (pv 2) pe_int (fun _ _ => rfl))) (blkOk_by (own := [("_law_number", 3)]) (N := ["_law_log_so", "_law_found", "_law_machine", "_law_number"]) (sc := defScope (top 37)) (by decide +kernel)) (fun _ _ _ _ _ => (pg_name (i := 3) nd rfl (Or.inl rfl))) (fun _ _ _ _ _ => pts_nil) (fun _ _ _ _ _ => (pe_tup (pa_cons (pe_ix (k_ixT K) (pv 2) pe_int (fun _ _ => rfl)) (pa_cons (pv 3) pa_nil)))))))
      pss_nil))
      (pss_cons (ps_ret (pv 1))
      pss_nil))), fun a hp => ?_⟩
  have ok : LgOk a := hp
  have hle := ok.lk
  refine go_set ev_lst0D ?_
  refine go_forN (fun i => [some (kD (encLg a)), some (kD (.list ((mksOf (a.ma.take i)).map encE))), none, none]) (fun _ => []) (ei_tupE (f := encMa) (ev_op (ev_var rfl) ev_int (rk_ixT (n := 0) rfl))) (Less.refl _) (.refl _) (fun _ => sub_nil) (fun i k hi hk => ?_) ?_
  · rw [List.getElem?_map] at hk
    obtain ⟨p, hm, rfl⟩ := Option.map_eq_some_iff.mp hk
    have e1 : mksOf (a.ma.take (i + 1)) = mksOf (a.ma.take i) ++ p.2.2.map fun j => (p.1, j) := fm_take hm
    have hl := fm_len_take a.ma (fun p => p.2.2.map fun i => (p.1, i)) i
    have hl2 : (mksOf (a.ma.take i)).length ≤ 100 := Nat.le_trans hl hle
    have hl3 : (mksOf (a.ma.take (i + 1))).length ≤ 100 := Nat.le_trans (fm_len_take a.ma (fun p => p.2.2.map fun i => (p.1, i)) (i + 1)) hle
    rw [e1, List.length_append, List.length_map] at hl3
    refine ⟨_, [2], tg_name, go_set ((ev_op (ev_var rfl) (ev_lcA p.2.2 (fun j => kI (j : Nat)) (fun j => encE (p.1, j)) (ei_tupE (f := fun j : Nat => PyData.int j) (ev_op (ev_var rfl) ev_int (rk_ixT (n := 2) rfl))) sub_nil (by omega) fun j b hb => ⟨_, [3], tg_name, in_one, et_yes, fun _ => ev_tup2D (ev_op (ev_var rfl) ev_int (rk_ixT (n := 0) rfl)) (ev_var rfl)⟩) (rk_cat (by simp; omega))).is (d' := .list ((mksOf (a.ma.take (i + 1))).map encE)) ?_) (go_nil ⟨⟨fun _ _ z => z, fun _ _ z => z, True.intro⟩, .refl _⟩)⟩
    rw [e1, List.map_append, List.map_map]
    rfl
  · rw [List.length_map, List.take_length]
    exact go_ret (ev_var rfl)
/-! ### calm -/
def Asc (ms : List Mg) : Prop := ms.Pairwise fun a b => ltM b a = false
structure CalmOk (L L' : Lg) : Prop where
  ma : L'.ma = L.ma
  sub : ∀ m ∈ L'.ms, m ∈ L.ms
  len : L'.ms.length ≤ L.ms.length
  io : InOrd L'
abbrev spCalm : Sp := spP (fun L : Lg => LgOk L ∧ Asc L.ms) (fun L => [kD (encLg L)]) (fun L => kEx fun r : { L' : Lg // CalmOk L L' } => kD (encLg r.1))
/-- what is kept so far -/
structure ClI (ms : List Mg) (i : Nat) (f : List Mg) : Prop where
  sub : ∀ m ∈ f, m ∈ ms.take i
  len : f.length ≤ i
  io : ∀ o ∈ f, ∀ m ∈ f, oneWay o m = true → ltE o.1 m.1 = true → ltE m.2 o.2 = false
theorem ltM_fst {a b : Mg} (h : ltE a.1 b.1 = true) : ltM a b = true := by
  rw [ltM_eq]
  have hne : a.1 ≠ b.1 := fun e => by rw [e, ltE_irrefl] at h; cases h
  rw [if_neg hne]
  exact h
theorem ClI.add {ms : List Mg} (ha : Asc ms) {i : Nat} {m : Mg} (hm : ms[i]? = some m) {f : List Mg} (h : ClI ms i f) (hc : ∀ o ∈ f, oneWay o m = true → ltE m.2 o.2 = false) : ClI ms (i + 1) (f ++ [m]) := by
  have asc : ∀ o ∈ f, ltM m o = false := fun o ho => by
    obtain ⟨j, hj, e⟩ := List.getElem_of_mem (h.sub o ho)
    rw [List.getElem_take] at e
    rw [List.length_take] at hj
    have hi := (List.getElem?_eq_some_iff.mp hm)
    have := List.pairwise_iff_getElem.mp ha j i (by omega) hi.1 (by omega)
    rw [e, hi.2] at this
    exact this
  refine ⟨fun o ho => ?_, by rw [List.length_append, List.length_singleton]; exact Nat.succ_le_succ h.len, fun o ho p hp hw hl => ?_⟩
  · rw [mem_take_succ hm]
    rcases List.mem_append.mp ho with z | z
    · exact .inl (h.sub o z)
    · exact .inr (List.mem_singleton.mp z)
  · rcases List.mem_append.mp ho with z | z
    · rcases List.mem_append.mp hp with y | y
      · exact h.io o z p y hw hl
      · have e := List.mem_singleton.mp y
        subst e
        exact hc o z hw
    · have e := List.mem_singleton.mp z
      subst e
      rcases List.mem_append.mp hp with y | y
      · have := asc p y
        rw [ltM_fst hl] at this
        cases this
      · have e := List.mem_singleton.mp y
        subst e
        rw [ltE_irrefl] at hl
        cases hl
theorem r__law_calm (T : Tx K mg) : FnR P w K mg base CX0 1 (He.ga K "_law_calm") spCalm := by
  obtain ⟨fd, F⟩ := T.says.def_ 46 (d := (gD "_law_calm" 40))
  have nd : (["_law_log_so", "_law_found", "_law_sent", "_law_come", "_law_some", "_law_own"] : List Str).Nodup := by decide +kernel
  refine fn_r (N := ["_law_log_so", "_law_found", "_law_sent", "_law_come", "_law_some", "_law_own"]) (ps := ["_law_log_so"]) F ⟨rfl, rfl, rfl, nd, rfl, by decide +kernel, by decide +kernel⟩ (F.bindsN fun _ _ _ _ _ _ us hl => match us, hl with | [_], _ => rfl) .nil (fun _ _ => rfl) fun cdv A outer s H E hr => ?_
  have hu := hu_of hr
  have hu64 := hr.units
  have hu65 := room65 hr
  refine ⟨_, (pss_cons (ps_set (i := 1) nd rfl (Or.inl rfl) (pe_lst pa_nil))
      (pss_cons (ps_for PassesOwn.never rfl (k_iT K (pe_ix (k_ixT K) (pv 0) pe_int (fun _ _ => rfl))) (k_gT K (n := 2) rfl (pgs_cons (pg_name (i := 2) nd rfl (Or.inr rfl)) (pgs_cons (pg_name (i := 3) nd rfl (Or.inr rfl)) pgs_nil))) (pss_cons (ps_setLc (i := 4) (own := [("_law_own", 5)]) rfl nd rfl rfl (sw_true rfl rfl rfl (by decide +kernel)) (k_iL K (pv 1)) (blkOk_by (own := [("_law_own", 5)]) (N := ["_law_log_so", "_law_found", "_law_sent", "_law_come", "_law_some", "_law_own"]) (sc := defScope (top 40)) (by decide +kernel)) (fun _ _ _ _ _ => (pg_name (i := 5) nd rfl (Or.inl rfl))) (fun _ _ _ _ _ => (pts_one (PW.pt (pw_and (pt_cmpR (k_eq K hu64) (pe_ix (k_ixT K) (pe_ix (k_ixT K) (pv 5) pe_int (fun _ _ => rfl)) pe_int (fun _ _ => rfl)) (pe_ix (k_ixT K) (pv 2) pe_int (fun _ _ => rfl)) (nomark _)) (pw_and1 (pt_cmpR (k_eq K hu64) (pe_ix (k_ixT K) (pe_ix (k_ixT K) (pv 5) pe_int (fun _ _ => rfl)) pe_int (fun _ _ => rfl)) (pe_ix (k_ixT K) (pv 3) pe_int (fun _ _ => rfl)) (nomark _))))))) (fun _ _ _ _ _ => (pv 5)))
      (pss_cons (ps_if (pt_val (pe_callB (k_all K rfl) (by rfl) (T.free 47) (by decide +kernel) (pa_cons (pe_lc (own := [("_law_own", 5)]) rfl nd (k_iL K (pv 4)) (blkOk_by (own := [("_law_own", 5)]) (N := ["_law_log_so", "_law_found", "_law_sent", "_law_come", "_law_some", "_law_own"]) (sc := defScope (top 40)) (by decide +kernel)) (fun _ _ _ _ _ => (pg_name (i := 5) nd rfl (Or.inl rfl))) (fun _ _ _ _ _ => pts_nil) (fun _ _ _ _ _ => (pe_cmpR (k_le K hu64) (pe_ix (k_ixT K) (pv 5) pe_int (fun _ _ => rfl)) (pv 3) (nomark _)))) pa_nil))) (pss_cons (ps_expr (pe_bm PySem.F.plainAttrs_list PySem.F.slot_list_append PySem.F.type_list_append mt_append (pv 1) (pa_cons (pe_tup (pa_cons (pv 2) (pa_cons (pv 3) pa_nil))) pa_nil)))
      pss_nil) pss_nil)
      pss_nil)))
      (pss_cons (ps_ret (pe_tup (pa_cons (pe_ix (k_ixT K) (pv 0) pe_int (fun _ _ => rfl)) (pa_cons (pe_callTy (k_tup K) (by rfl) (T.free 37) (by decide +kernel) (pa_cons (pv 1) pa_nil)) pa_nil))))
      pss_nil))), fun a hp => ?_⟩
  obtain ⟨ok, asc⟩ : LgOk a ∧ Asc a.ms := hp
  have hlm := ok.lm
  refine go_newL fun F => ?_
  refine go_for (S := List Mg) (ClI a.ms) (fun _ => [some (kD (encLg a)), some (kC (.ref F)), none, none, none, none]) (fun f => [mLst F (f.map fun m => kD (encM m))]) [] (ei_tupE (f := encM) (ev_op (ev_var rfl) ev_int (rk_ixT (n := 1) rfl))) ⟨fun m hm => by simp at hm, Nat.le_refl _, fun o ho => by simp at ho⟩ (Less.refl _) (.refl _) (fun _ _ _ => sub_nil) (fun i f k hf hk => ?_) fun f hf => ?_
  · rw [List.getElem?_map] at hk
    obtain ⟨m, hm, rfl⟩ := Option.map_eq_some_iff.mp hk
    have hi := (List.getElem?_eq_some_iff.mp hm).1
    have hfl := hf.len
    refine ⟨_, [2, 3], tg_twoD, ?_⟩
    refine go_set (ev_lcD f (fun o => kD (encM o)) (fun o => oneWay o m) encM (ei_mut (ev_var rfl) (List.mem_cons_self ..)) (fun _ h => h) (by omega) fun j o ho => ⟨_, [5], tg_name, in_one, (et_and (et_test (ev_op (ev_op (ev_op (ev_var rfl) ev_int (rk_ixT (n := 0) rfl)) ev_int (rk_ixT (n := 0) rfl)) (ev_op (ev_var rfl) ev_int (rk_ixT (n := 0) rfl)) rk_eqN)) fun _ => et_test (ev_op (ev_op (ev_op (ev_var rfl) ev_int (rk_ixT (n := 1) rfl)) ev_int (rk_ixT (n := 0) rfl)) (ev_op (ev_var rfl) ev_int (rk_ixT (n := 0) rfl)) rk_eqN)).is ?_, fun _ => ev_var rfl⟩) ?_
    · unfold oneWay
      rw [Bool.decide_and]
    have hfl2 := List.length_filter_le (fun o => oneWay o m) f
    refine go_seq (go_ifS (et_B (ev_cb (ea_one ((ev_lcA (f.filter fun o => oneWay o m) (fun o => kD (encM o)) (fun o => PyData.bool (!ltE m.2 o.2)) (ei_lstE (ev_var rfl)) sub_nil (by omega) fun j o ho => ⟨_, [5], tg_name, in_one, et_yes, fun _ => ev_op (ev_op (ev_var rfl) ev_int (rk_ixT (n := 1) rfl)) (ev_var rfl) rk_leE⟩).is (d' := .list (((f.filter fun o => oneWay o m).map fun o => !ltE m.2 o.2).map .bool)) (by rw [List.map_map]; rfl))) ck_all)) (fun hb => ?_) fun _ => ?_) fun _ _ z => go_nil z
    · refine go_drop (ev_append (M := []) (M2 := []) (k := kD (encM m)) (ev_var rfl) (ev_tup2D (ev_var rfl) (ev_var rfl)) (by simp; omega)) (go_nil ⟨f ++ [m], hf.add asc hm fun o ho hw => ?_, ⟨fun _ _ z => z, fun _ _ z => z, True.intro⟩, ?_⟩)
      · have := List.all_eq_true.mp hb (!ltE m.2 o.2) (List.mem_map.mpr ⟨o, List.mem_filter.mpr ⟨ho, hw⟩, rfl⟩)
        simpa using this
      · simp only [List.map_append, List.map_cons, List.map_nil]
        exact .refl _
    · exact go_nil ⟨f, ⟨fun o ho => (mem_take_succ hm).mpr (.inl (hf.sub o ho)), Nat.le_succ_of_le hfl, hf.io⟩, ⟨fun _ _ z => z, fun _ _ z => z, True.intro⟩, .refl _⟩
  · rw [List.length_map] at hf
    refine go_still (i := 1) rfl (go_retTo (ev_tup2D (ev_op (ev_var rfl) ev_int (rk_ixT (n := 0) rfl)) (ev_cb (ea_one ((ev_var rfl).to fun v H q => ?_)) (ck_tupOf (ds := f.map encM)))) fun v B q => ⟨⟨⟨a.ma, f⟩, rfl, fun m hm => ?_, hf.len, hf.io⟩, q⟩)
    · have ef : (f.map fun m => kD (encM m)) = (f.map encM).map kD := by rw [List.map_map]; rfl
      rw [ef] at q
      exact kLst_data.mp q
    · have := hf.sub m hm
      rwa [List.take_length] at this
abbrev spCalms : Sp := spP (fun _ : Bool => True) (fun b => [kB b]) (fun b => kD (.tuple ((if b then [false, true] else [false]).map .bool)))
end
end Fw
set_option Elab.async false
set_option linter.all false
set_option maxRecDepth 100000
set_option maxHeartbeats 4000000
/-! dicts from numbers to numbers -/
namespace Fw
open PySem PySem.Spec PyProof.Rows L2
def rDictP (K : PySem.W.Frag) : List V → Hp → VK → Prop := fun xs H Q => ∃ (a : Addr) (ps : List Addr) (kvs : List (Key × V)), xs = [.ref a] ∧ SqL K H a (ps.map V.ref) ∧ Paired (fun p kv => SqT K H p [kV kv.1, kv.2]) ps kvs ∧
    ∀ p, H p = none → Q (.ref p) (upd H p (.dK (mergeK [] kvs)))
section
variable {X : Cx} (K : PySem.W.Frag)
theorem k_dictP (hc : X.calm = true) (h : X.K = K := by rfl) : CallR X (.type "dict") (rDictP K) := by subst h; exact call_dictP hc
theorem k_dictX (hc : X.calm = true) (h : X.K = K := by rfl) : CallR X (.type "dict") (rDictT K) := by subst h; exact cr_dictT hc
theorem k_dictTL (hc : X.calm = true) (hu : X.A.units + 64 < cLine) (h : X.K = K := by rfl) : CallR X (.type "dict") (rDictTL K) := by subst h; exact cr_dictTL hc hu
end
abbrev Pl := List (Nat × Nat)
def kvP (ps : Pl) : List (Key × V) := ps.map fun p => (Sum.inl (p.1 : Int), V.int (p.2 : Nat))
def lk (ps : Pl) (k : Nat) : Option Nat := (ps.find? fun p => decide (p.1 = k)).map (·.2)
theorem valV_kvP (ps : Pl) (k : Nat) : valV (kvP ps) (Sum.inl (k : Int)) = (lk ps k).map fun n => V.int (n : Nat) := by
  unfold lk
  induction ps with
  | nil => rfl
  | cons p ps ih =>
    by_cases h : p.1 = k
    · subst h
      rw [show kvP (p :: ps) = (Sum.inl (p.1 : Int), V.int (p.2 : Nat)) :: kvP ps from rfl, valV_pos rfl]
      simp
    · rw [show kvP (p :: ps) = (Sum.inl (p.1 : Int), V.int (p.2 : Nat)) :: kvP ps from rfl, valV_neg (fun e => h (by have := Sum.inl.inj e; omega)), ih]
      simp [h]
theorem mergeK_nodup : ∀ (more acc : List (Key × V)), ((acc ++ more).map (·.1)).Nodup → mergeK acc more = acc ++ more
  | [], acc, _ => by simp [mergeK]
  | p :: more, acc, h => by
    have h1 : valV acc p.1 = none := by
      cases hv : valV acc p.1 with
      | none => rfl
      | some v =>
        exfalso
        have h2 : (acc.any fun kv => decide (kv.1 = p.1)) = true := by rw [valV_any, hv]; rfl
        obtain ⟨q, hq, he⟩ := List.any_eq_true.mp h2
        rw [List.map_append] at h
        exact (List.nodup_append.mp h).2.2 q.1 (List.mem_map.mpr ⟨q, hq, rfl⟩) p.1 (List.mem_map.mpr ⟨p, List.mem_cons_self .., rfl⟩) (of_decide_eq_true he)
    have h3 : mergeK acc (p :: more) = mergeK (putK acc p.1 p.2) more := rfl
    rw [h3, putK_new _ h1, mergeK_nodup more (acc ++ [(p.1, p.2)]) (by rw [List.append_assoc]; exact h), List.append_assoc]
    rfl
theorem kvP_merge {ps : Pl} (h : (ps.map (·.1)).Nodup) : mergeK [] (kvP ps) = kvP ps := by
  have h1 : ((([] : List (Key × V)) ++ kvP ps).map fun x => x.1).Nodup := by
    have e : (([] : List (Key × V)) ++ kvP ps).map (fun x => x.1) = (ps.map (·.1)).map fun k : Nat => (Sum.inl (k : Int) : Key) := by simp [kvP, List.map_map, Function.comp_def]
    rw [e]
    exact List.Pairwise.map _ (fun a b hab he => hab (by have := Sum.inl.inj he; omega)) h
  rw [mergeK_nodup _ _ h1, List.nil_append]
/-- a dict that may be walked -/
def mPl (D : Addr) (ps : Pl) : Mu where
  fp := fun a => a = D
  p := fun B C => C D = some (.dK (kvP ps))
  on := fun h e => ⟨_, e ▸ h⟩
  mono := fun _ st h => (st _ rfl).trans h
/-- .. while it is walked -/
def mFz (D : Addr) (od : Obj) (ps : Pl) : Mu where
  fp := fun a => a = D
  p := fun B C => C D = some (.frz od (.dK (kvP ps)))
  on := fun h e => ⟨_, e ▸ h⟩
  mono := fun _ st h => (st _ rfl).trans h
def PlRd (M : List Mu) (D : Addr) (ps : Pl) : Prop := ∀ F B C, OkM (M ++ F) B C → Rd C D (.dK (kvP ps))
section
variable {Γ : Ga} {M M1 M2 M3 : List Mu} {K : PySem.W.Frag} {te ta tb tc : TE} {k kz : Kn} {D : Addr} {ps : Pl}
theorem pl_rd (hm : mPl D ps ∈ M) : PlRd M D ps := fun F B C o => .inl (o.p _ (List.mem_append_left _ hm))
theorem fz_rd {od : Obj} (hm : mFz D od ps ∈ M) : PlRd M D ps := fun F B C o => .inr ⟨od, o.p _ (List.mem_append_left _ hm)⟩
theorem ev_dgetP {n m : Nat} (hm : PlRd M2 D ps) (hd : Ev ta Γ M M1 (kC (.ref D))) (hy : Ev tb Γ M1 M2 (kI (n : Nat))) (h : lk ps n = some m) : Ev (tDGet ta tb) Γ M M2 (kI (m : Nat)) := ev_dget hd hy fun x y F B C o px py => by
  refine ⟨D, .int (m : Nat), px, .inl ⟨kvP ps, Sum.inl (n : Int), hm F B C o, by rw [py.int_inv]; rfl, ?_⟩, .int _⟩
  rw [valV_kvP, h]
  rfl
theorem ev_dinP {n : Nat} (hm : PlRd M2 D ps) (hy : Ev ta Γ M M1 (kI (n : Nat))) (hd : Ev tb Γ M1 M2 (kC (.ref D))) : Ev (tDIn ta tb) Γ M M2 (kB (lk ps n).isSome) := ev_din hy hd fun x y F B C o px py =>
  ⟨D, _, px, .inl ⟨kvP ps, Sum.inl (n : Int), hm F B C o, by rw [py.int_inv]; rfl, rfl⟩, by rw [valV_kvP, Option.isSome_map]⟩
theorem ev_dnotinP {n : Nat} (hm : PlRd M2 D ps) (hy : Ev ta Γ M M1 (kI (n : Nat))) (hd : Ev tb Γ M1 M2 (kC (.ref D))) : Ev (tDNotIn ta tb) Γ M M2 (kB (!(lk ps n).isSome)) := ev_dnotin hy hd fun x y F B C o px py =>
  ⟨D, _, px, .inl ⟨kvP ps, Sum.inl (n : Int), hm F B C o, by rw [py.int_inv]; rfl, rfl⟩, by rw [valV_kvP, Option.isSome_map]⟩
theorem ev_dget2P {n : Nat} {d : PyData} (hm : PlRd M1 D ps) (hd : Ev ta Γ M M1 (kC (.ref D))) (hy : Ev tb Γ M1 M1 (kI (n : Nat))) (hz : Ev tc Γ M1 M1 (kD d)) : Ev (tDGet2 ta tb tc) Γ M M1 (kD (match lk ps n with | some m => .int (m : Nat) | none => d)) := fun F σ B C s o Q q =>
  hd F σ B C s o _ fun x B1 C1 e1 o1 px => ⟨D, px, .inl ⟨_, hm F B1 C1 o1⟩, hy F σ B1 C1 (s.ex e1) o1 _ fun y B2 C2 e2 o2 py => hz F σ B2 C2 (s.ex (e1.trans e2)) o2 _ fun z B3 C3 e3 o3 pz => by
    refine ⟨_, .inl ⟨kvP ps, Sum.inl (n : Int), hm F B3 C3 o3, by rw [py.int_inv]; rfl, rfl⟩, q _ B3 C3 ((e1.trans e2).trans e3) o3 ?_⟩
    rw [valV_kvP]
    cases lk ps n with
    | none => exact pz
    | some m => exact .int _⟩
/-! new ones -/
theorem tk_prs {B : Hp} : ∀ {ps : Pl} {xs : List V}, TkAll B xs (ps.map encN) → ∃ as : List Addr, xs = as.map V.ref ∧ Paired (fun a (kv : Key × V) => B a = some (.tup [kV kv.1, kv.2])) as (kvP ps)
  | [], xs, h => by
    cases h
    exact ⟨[], rfl, .nil⟩
  | p :: ps, xs, h => by
    cases h with
    | cons h t =>
      obtain ⟨as, e, hp⟩ := tk_prs t
      obtain ⟨a, ys, rfl, h1, h2⟩ := Tk.tup_inv h
      cases h2 with
      | cons p1 h2 =>
        cases h2 with
        | cons p2 h2 =>
          cases h2
          rw [p1.int_inv, p2.int_inv] at h1
          exact ⟨a :: as, by rw [List.map_cons, e], .cons h1 hp⟩
theorem eg_dictL (h : Ev te Γ M M1 (kD (.list (ps.map encN)))) (nd : (ps.map (·.1)).Nodup) : EvG (α := Addr) (tCB (rDictP K) (tCons te tNil)) Γ M (fun D => kC (.ref D)) (fun D => mPl D ps :: M1) := fun F σ B C s o Q q =>
  ea_one h F σ B C s o _ fun xs B1 C1 e1 o1 px => by
    obtain ⟨v, rfl, pv⟩ := allK1 px
    obtain ⟨a, ys, rfl, h1, h2⟩ := pv.lst_inv
    obtain ⟨as, rfl, hp⟩ := tk_prs h2
    refine ⟨a, as, kvP ps, rfl, SqL.of (o1.ex _ _ h1), Paired.mapP hp fun _ _ z => SqT.of (o1.ex _ _ z), fun p hpn => ?_⟩
    rw [kvP_merge nd]
    exact q p (.ref p) B1 _ e1 (o1.add (m := mPl p ps) (o1.ex.mut (o1.ex.back hpn)) (fun a u z => by rw [upd_ne (ne_of_none z hpn)]; exact z) upd_same fun a z => by rw [z]; exact hpn) rfl
theorem eg_dictX (h : Ev te Γ M M1 (kX (ps.map encN))) (nd : (ps.map (·.1)).Nodup) : EvG (α := Addr) (tCB (rDictT K) (tCons te tNil)) Γ M (fun D => kC (.ref D)) (fun D => mPl D ps :: M1) := fun F σ B C s o Q q =>
  ea_one h F σ B C s o _ fun xs B1 C1 e1 o1 px => by
    obtain ⟨v, rfl, pv⟩ := allK1 px
    obtain ⟨a, ob, ys, rfl, h1, h2, h3, h4⟩ := pv
    obtain ⟨as, rfl, hp⟩ := tk_prs h4
    refine ⟨a, as, kvP ps, rfl, ⟨ob, o1.ex _ _ h1, h2, h3⟩, Paired.mapP hp fun _ _ z => SqT.of (o1.ex _ _ z), fun p hpn => ?_⟩
    rw [kvP_merge nd]
    exact q p (.ref p) B1 _ e1 (o1.add (m := mPl p ps) (o1.ex.mut (o1.ex.back hpn)) (fun a u z => by rw [upd_ne (ne_of_none z hpn)]; exact z) upd_same fun a z => by rw [z]; exact hpn) rfl
/-! walked -/
theorem ev_lockE (h : ∀ od, Ev te Γ (mFz D od ps :: M) (mFz D od ps :: M1) k) : Ev (tLockE te) Γ (mPl D ps :: M) (mPl D ps :: M1) k := fun F σ B C s o Q q => by
  have o0 : OkM (mPl D ps :: (M ++ F)) B C := o
  refine ⟨D, .dK (kvP ps), o0.head, True.intro, fun od => ?_⟩
  have offD : B D = none := o0.off _ (List.mem_cons_self ..) D rfl
  have o1 : OkM (mFz D od ps :: (M ++ F)) B (upd C D (.frz od (.dK (kvP ps)))) := o0.chg (m' := mFz D od ps) (o0.ex.mut offD) (fun a ha => upd_ne ha) upd_same fun a ha => .inl ha
  refine h od F σ B _ s o1 _ fun z B' C' e' o' pz => ?_
  have o2 : OkM (mFz D od ps :: (M1 ++ F)) B' C' := o'
  have offD2 : B' D = none := o2.off _ (List.mem_cons_self ..) D rfl
  exact ⟨o2.head, q z B' _ e' (o2.chg (m' := mPl D ps) (o2.ex.mut offD2) (fun a ha => upd_ne ha) upd_same fun a ha => .inl ha) pz⟩
theorem ei_keys {od : Obj} (h : Ev te Γ M M1 (kC (.ref D))) (hm : mFz D od ps ∈ M1) : EvI (iKeys te) Γ M M1 [mFz D od ps] (ps.map fun p => kI (p.1 : Nat)) := fun F σ B C s o R q =>
  h F σ B C s o _ fun x B1 C1 e1 o1 px => by
    refine ⟨D, od, px, .inl ⟨kvP ps, o1.p _ (List.mem_append_left _ hm), q _ B1 C1 e1 o1 ⟨fun N B C hs e o i hi => ⟨o.p _ (hs _ (List.mem_cons_self ..)), by simpa [kvP] using hi⟩, fun N B C hs e o => ⟨o.p _ (hs _ (List.mem_cons_self ..)), by simp [kvP]⟩, fun N B C hs e o i k y C' hi ⟨he, κ, v, hk, hy⟩ => ?_⟩⟩⟩
    subst he
    rw [List.getElem?_map] at hi
    obtain ⟨p, hp, rfl⟩ := Option.map_eq_some_iff.mp hi
    unfold kvP at hk
    rw [List.getElem?_map, hp] at hk
    cases hk
    subst hy
    exact ⟨B, Ex.refl B, o, .int _⟩
end
end Fw
set_option Elab.async false
set_option linter.all false
set_option maxRecDepth 100000
set_option maxHeartbeats 4000000
set_option Elab.async false
/-! the walk: Post.__init__, what carry tells -/
namespace Fw
open PySem PySem.Spec PyProof.Rows L2
section
variable {P : Program} {w : World} {K : PySem.W.Frag} {mg : Str → Option Value} {base : Heap}
theorem ev_tplL {Γ : Ga} {M M1 : List Mu} {t : TA} {E : XK} {L : Lg} (ok : LgOk L) (h : EvA t Γ M M1 [kD (encLg L)]) : Ev (tCall spTup [] E t) Γ M M1 (kD (encLg L)) := ev_tpl h (Fx.lg ok) (Nat.lt_of_le_of_lt (Sh.lg L).2 (by decide))
theorem ev_tplM {Γ : Ga} {M M1 : List Mu} {t : TA} {E : XK} {m : Mg} (h : EvA t Γ M M1 [kD (encM m)]) : Ev (tCall spTup [] E t) Γ M M1 (kD (encM m)) := ev_tpl h (Fx.mg m) (Nat.lt_of_le_of_lt (Sh.mg m).2 (by decide))
theorem ev_tplE {Γ : Ga} {M M1 : List Mu} {t : TA} {E : XK} {m : Et} (h : EvA t Γ M M1 [kD (encE m)]) : Ev (tCall spTup [] E t) Γ M M1 (kD (encE m)) := ev_tpl h (Fx.ev m) (Nat.lt_of_le_of_lt (Sh.ev m).2 (by decide))
noncomputable abbrev spPostI (K : PySem.W.Frag) : Sp := spI (He.ga K "Post") (fun p : Lg × Rows => PsOk p.1 p.2) (fun p => [kD (encLg p.1), kD (encRows p.2)]) (fun p => kPost K p.1 p.2)
theorem r_Post___init__ (T : Tx K mg) : FnR P w K mg base CX0 9 (He.ma K (He.ga K "Post") "__init__") (spPostI K) := by
  obtain ⟨fd, F⟩ := T.says.def_ 14 (d := (mD "Post" "__init__" "Post.__init__" 20 1))
  have nd : (["self", "log", "counters"] : List Str).Nodup := by decide +kernel
  refine fn_r (N := ["self", "log", "counters"]) (ps := ["self", "log", "counters"]) F ⟨rfl, rfl, rfl, nd, rfl, by decide +kernel, by decide +kernel⟩ (F.bindsN fun _ _ _ _ _ _ us hl => match us, hl with | [_, _, _], _ => rfl) .nil (fun _ _ => rfl) fun cdv A outer s H E hr => ?_
  have hu := hu_of hr
  have hu64 := hr.units
  have hu65 := room65 hr
  refine ⟨_, (pss_cons (SlX.ps_sl (pv 0) (pe_mk (T.mkr 58) (r_Order___init__ T) hr (by decide) (T.glo 1) (pa_cons (pv 1) pa_nil)))
      (pss_cons (SlX.ps_sl (pv 0) (pe_ix (k_ixT K) (pe_g (r_tupled T) hr (by decide) (T.glo 0) (T.kp 0 (d := (gD "tupled" 6))) (pa_cons (pv 1) pa_nil)) pe_int (fun _ _ => rfl)))
      (pss_cons (SlX.ps_sl (pv 0) (pe_g (r_tupled T) hr (by decide) (T.glo 0) (T.kp 0 (d := (gD "tupled" 6))) (pa_cons (pv 2) pa_nil)))
      pss_nil))), fun a hp => ?_⟩
  obtain ⟨⟨L, C⟩, x, dx⟩ := a
  have ok : PsOk L C := hp
  refine go_slG (x := x) (dx := dx) (ks := []) (Cl := He.ga K "Post") (ρ := fun _ : Unit => kOrd K L) (μ := fun _ => [mSl (He.ga K "Post") x dx []]) (Ms := fun _ => []) (ev_make (pre := LgOk) (args := fun L => [kD (encLg L)]) (ko := fun L => kOrd K L) L (ea_one (ev_var rfl)) ok.1).g (fun _ => ev_var rfl) (fun _ => .refl _) T.ck.p T.ck.p1 fun _ => ?_
  refine go_slG (x := x) (dx := dx) (ks := [none, some (kOrd K L)]) (Cl := He.ga K "Post") (ρ := fun _ : Unit => kD (.tuple (L.ms.map encM))) (μ := fun _ => [mSl (He.ga K "Post") x dx [none, some (kOrd K L)]]) (Ms := fun _ => []) (ev_op (ev_tplL ok.1 (ea_one (ev_var rfl))) ev_int (rk_ixT (n := 1) rfl)).g (fun _ => ev_var rfl) (fun _ => .refl _) T.ck.p T.ck.p0 fun _ => ?_
  refine go_slG (x := x) (dx := dx) (ks := [some (kD (.tuple (L.ms.map encM))), some (kOrd K L)]) (Cl := He.ga K "Post") (ρ := fun _ : Unit => kD (encRows C)) (μ := fun _ => [mSl (He.ga K "Post") x dx [some (kD (.tuple (L.ms.map encM))), some (kOrd K L)]]) (Ms := fun _ => []) (ev_tpl (ea_one (ev_var rfl)) (Fx.rows ok.2) (Nat.lt_of_le_of_lt (Sh.rows C).2 (by decide))).g (fun _ => ev_var rfl) (fun _ => .refl _) T.ck.p T.ck.p2 fun _ => ?_
  refine go_freeze [mSl (He.ga K "Post") x dx [some (kD (.tuple (L.ms.map encM))), some (kOrd K L), some (kD (encRows C))]] (M := []) (i := 0) (k' := kAt x (kPost K L C)) rfl (fun v B C2 B' hm pv e1 e2 hB' => ?_) (go_nil ⟨rfl, fun σ B sk => ?_⟩)
  · obtain ⟨ne, _, vs, h1, h2⟩ := hm _ (List.mem_singleton_self _)
    have bS := hB' _ (List.mem_singleton_self _)
    refine ⟨pv, x, dx, vs, pv, ?_, fun i k hk => ?_⟩
    · rcases h1 with ⟨h, z⟩ | ⟨h, z⟩
      · exact .inl ⟨(bS x (.inl rfl)).trans h, z⟩
      · exact .inr ⟨(bS x (.inl rfl)).trans h, (bS dx (.inr rfl)).trans z⟩
    · obtain ⟨u, h6, h7⟩ := h2 i k hk
      exact ⟨u, h6, Kn.mono _ e1 h7⟩
  · obtain ⟨v, _, h1, h2⟩ := sk.at_ 0 _ rfl
    refine ⟨rfl, ?_⟩
    rw [← h1]
    exact h2
/-- a new one -/
theorem ev_post {Γ : Ga} {M M1 : List Mu} {t : TA} {E : XK} {L : Lg} {C : Rows} (ok : PsOk L C) (h : EvA t Γ M M1 [kD (encLg L), kD (encRows C)]) : Ev (tMake (He.ga K "Post") (spPostI K) [] E t) Γ M M1 (kPost K L C) := ev_make (pre := fun p : Lg × Rows => PsOk p.1 p.2) (args := fun p : Lg × Rows => [kD (encLg p.1), kD (encRows p.2)]) (ko := fun p => kPost K p.1 p.2) (L, C) h ok
theorem ev_ord {Γ : Ga} {M M1 : List Mu} {t : TA} {E : XK} {L : Lg} (ok : LgOk L) (h : EvA t Γ M M1 [kD (encLg L)]) : Ev (tMake (He.ga K "Order") (spOrd K) [] E t) Γ M M1 (kOrd K L) := ev_make (pre := LgOk) (args := fun L => [kD (encLg L)]) (ko := fun L => kOrd K L) L h ok
/-! ### what raises nothing here -/
noncomputable abbrev spOrdOf (K : PySem.W.Frag) : Sp := spP (fun p : Lg × Et => LgOk p.1 ∧ p.2 ∈ p.1.evs) (fun p => [kD (encLg p.1), kLst [kD (encE p.2)]]) (fun p => kOrd K p.1)
theorem r_order_of (T : Tx K mg) : FnR P w K mg base CX0 10 (He.ga K "order_of") (spOrdOf K) := by
  obtain ⟨fd, F⟩ := T.says.def_ 7 (d := (gD "order_of" 9))
  have nd : (["log", "some", "found", "event"] : List Str).Nodup := by decide +kernel
  refine fn_r (N := ["log", "some", "found", "event"]) (ps := ["log", "some"]) F ⟨rfl, rfl, rfl, nd, rfl, by decide +kernel, by decide +kernel⟩ (F.bindsN fun _ _ _ _ _ _ us hl => match us, hl with | [_, _], _ => rfl) .nil (fun _ _ => rfl) fun cdv A outer s H E hr => ?_
  have hu := hu_of hr
  have hu64 := hr.units
  have hu65 := room65 hr
  refine ⟨_, (pss_cons (ps_set (i := 2) nd rfl (Or.inl rfl) (pe_mk (T.mkr 58) (r_Order___init__ T) hr (by decide) (T.glo 1) (pa_cons (pv 0) pa_nil)))
      (pss_cons (ps_for PassesOwn.never rfl (k_iT K (pe_g (r_tupled T) hr (by decide) (T.glo 0) (T.kp 0 (d := (gD "tupled" 6))) (pa_cons (pv 1) pa_nil))) (pg_name (i := 3) nd rfl (Or.inl rfl)) (pss_cons (ps_if (pt_not (pt_val (pe_ms (pv 2) T.ck.o (T.mth 62) (r_Order_has T) hr (by decide) (pa_cons (pv 3) pa_nil)))) pss_never pss_nil)
      pss_nil))
      (pss_cons (ps_ret (pv 2))
      pss_nil))), fun a hp => ?_⟩
  obtain ⟨L, e⟩ := a
  refine go_set (ev_ord hp.1 (ea_one (ev_var rfl))) ?_
  have hf : fit (.list [encE e]) = true := by simp [fit, fitAll, encE]
  have ht : tpl (.list [encE e]) = .tuple [encE e] := by simp [tpl, tplAll, encE]
  have htup : Ev (tCall spTup [] E0 (tCons (tVar 1) tNil)) [some (kD (encLg L)), some (kLst [kD (encE e)]), some (kOrd K L), none] [] [] (kD (tpl (.list [encE e]))) := ev_fn (args := fun d : PyData => [kD d]) (res := fun d => kD (tpl d)) (.list [encE e]) (ea_one ((ev_var rfl).to fun _ _ q => kLst_data (ds := [encE e]).mp q)) ⟨Nat.lt_of_le_of_lt (Sh.lst (n := 1) fun d hd => by rw [List.mem_singleton.mp hd]; exact Sh.ev e).2 (by decide), hf⟩
  rw [ht] at htup
  refine go_forN (ks := [kD (encE e)]) (fun _ => [some (kD (encLg L)), some (kLst [kD (encE e)]), some (kOrd K L), none]) (fun _ => []) (ei_tupD (ds := [encE e]) htup) (Less.refl _) (.refl _) (fun _ => sub_nil) (fun i k hi hk => ?_) ?_
  · have hi0 : i = 0 := by simp at hi; exact hi
    subst hi0
    cases hk
    refine ⟨_, [3], tg_name, go_skipN (EvT.is (et_not (et_B (ev_meth (Mi := fun _ => []) (Mo := fun _ => []) (M1 := []) (res := fun p : Lg × Et => kB (decide (p.2 ∈ p.1.evs))) (L, e) (ev_var rfl) slI_is (ea_one (ev_var rfl)) rfl trivial))) ?_) (go_nil ⟨⟨fun _ _ z => z, fun _ _ z => z, fun _ _ z => z, True.intro⟩, .refl _⟩)⟩
    simp [hp.2]
  · exact go_ret (ev_var rfl)
abbrev spCheck : Sp := spP (fun p : Lg × Bool => LgOk p.1 ∧ (p.2 = true → InOrd p.1)) (fun p => [kD (encLg p.1), kB p.2]) (fun _ => kD .none)
theorem r_check_order (T : Tx K mg) : FnR P w K mg base CX0 8 (He.ga K "check_order") spCheck := by
  obtain ⟨fd, F⟩ := T.says.def_ 29 (d := (gD "check_order" 22))
  have nd : (["log", "in_order", "pair"] : List Str).Nodup := by decide +kernel
  refine fn_r (N := ["log", "in_order", "pair"]) (ps := ["log", "in_order"]) F ⟨rfl, rfl, rfl, nd, rfl, by decide +kernel, by decide +kernel⟩ (F.bindsN fun _ _ _ _ _ _ us hl => match us, hl with | [_, _], _ => rfl) .nil (fun _ _ => rfl) fun cdv A outer s H E hr => ?_
  have hu := hu_of hr
  have hu64 := hr.units
  have hu65 := room65 hr
  refine ⟨_, (pss_cons (ps_set (i := 2) nd rfl (Or.inl rfl) (pe_ifExp (pt_val (pv 1)) (pe_g (r_first_out T) hr (by decide) (T.glo 8) (T.kp 13 (d := (gD "first_out" 19))) (pa_cons (pv 0) pa_nil)) pe_non))
      (pss_cons (ps_if (pt_cmpR op_notN (pv 2) pe_non (nomark _)) pss_never pss_nil)
      pss_nil)), fun a hp => ?_⟩
  obtain ⟨L, io⟩ := a
  refine go_set (k := kD .none) (ev_if (et_B (ev_var rfl)) (fun h => ev_fn L (ea_one (ev_var rfl)) ⟨hp.1, hp.2 h⟩) fun _ => ev_non) ?_
  exact go_skipN (et_test (ev_op (ev_var rfl) ev_non rk_notN)) (go_nil ⟨rfl, fun _ _ _ => .non⟩)
/-- what may be asked of a log -/
def IoOk (L : Lg) (io : Bool) : Prop := io = true → InOrd L
noncomputable abbrev spPostOf (K : PySem.W.Frag) : Sp := spP (fun p : Lg × Rows × Mg × Bool => PsOk p.1 p.2.1 ∧ p.2.2.1 ∈ p.1.ms ∧ IoOk p.1 p.2.2.2) (fun p => [kD (encLg p.1), kD (encRows p.2.1), kD (encM p.2.2.1), kB p.2.2.2]) (fun p => kPost K p.1 p.2.1)
theorem r_post_of (T : Tx K mg) : FnR P w K mg base CX0 11 (He.ga K "post_of") (spPostOf K) := by
  obtain ⟨fd, F⟩ := T.says.def_ 28 (d := (gD "post_of" 21))
  have nd : (["log", "counters", "message", "in_order", "found"] : List Str).Nodup := by decide +kernel
  refine fn_r (N := ["log", "counters", "message", "in_order", "found"]) (ps := ["log", "counters", "message", "in_order"]) F ⟨rfl, rfl, rfl, nd, rfl, by decide +kernel, by decide +kernel⟩ (F.bindsN fun _ _ _ _ _ _ us hl => match us, hl with | [_, _, _, _], _ => rfl) .nil (fun _ _ => rfl) fun cdv A outer s H E hr => ?_
  have hu := hu_of hr
  have hu64 := hr.units
  have hu65 := room65 hr
  refine ⟨_, (pss_cons (ps_set (i := 4) nd rfl (Or.inl rfl) (pe_mk (T.mkr 59) (r_Post___init__ T) hr (by decide) (T.glo 9) (pa_cons (pv 0) (pa_cons (pv 1) pa_nil))))
      (pss_cons (ps_if (pt_not (pt_val (pe_ms (pv 4) T.ck.p (T.mth 66) (r_Post_has T) hr (by decide) (pa_cons (pe_g (r_tupled T) hr (by decide) (T.glo 0) (T.kp 0 (d := (gD "tupled" 6))) (pa_cons (pv 2) pa_nil)) pa_nil)))) pss_never pss_nil)
      (pss_cons (ps_expr (pe_g (r_check_order T) hr (by decide) (T.glo 11) (T.kp 29 (d := (gD "check_order" 22))) (pa_cons (pv 0) (pa_cons (pv 3) pa_nil))))
      (pss_cons (ps_ret (pv 4))
      pss_nil)))), fun a hp => ?_⟩
  obtain ⟨L, C, m, io⟩ := a
  refine go_set (ev_post hp.1 (ea_two (ev_var rfl) (ev_var rfl))) ?_
  refine go_skipN (EvT.is (et_not (et_B (ev_meth (Mi := fun _ => []) (Mo := fun _ => []) (M1 := []) (res := fun p : Lg × Rows × Mg => kB (decide (p.2.2 ∈ p.1.ms))) (L, C, m) (ev_var rfl) slI_is (ea_one (ev_tplM (ea_one (ev_var rfl)))) rfl hp.1))) ?_) ?_
  · simp [hp.2.1]
  exact go_drop (ev_fn (L, io) (ea_two (ev_var rfl) (ev_var rfl)) ⟨hp.1.1, hp.2.2⟩) (go_ret (ev_var rfl))
theorem ev_postOf {Γ : Ga} {M M1 : List Mu} {t : TA} {E : XK} {L : Lg} {C : Rows} {m : Mg} {io : Bool} (ok : PsOk L C) (hm : m ∈ L.ms) (hi : IoOk L io) (h : EvA t Γ M M1 [kD (encLg L), kD (encRows C), kD (encM m), kB io]) : Ev (tCall (spPostOf K) [] E t) Γ M M1 (kPost K L C) := ev_fn (res := fun p : Lg × Rows × Mg × Bool => kPost K p.1 p.2.1) (L, C, m, io) h ⟨ok, hm, hi⟩
theorem ea_four {Γ : Ga} {M M1 M2 M3 M4 : List Mu} {a b c d : TE} {k1 k2 k3 k4 : Kn} (h1 : Ev a Γ M M1 k1) (h2 : Ev b Γ M1 M2 k2) (h3 : Ev c Γ M2 M3 k3) (h4 : Ev d Γ M3 M4 k4) : EvA (tCons a (tCons b (tCons c (tCons d tNil)))) Γ M M4 [k1, k2, k3, k4] := ea_cons h1 (ea_cons h2 (ea_two h3 h4))
abbrev q4 : Lg × Rows × Mg × Bool → Prop := fun p => PsOk p.1 p.2.1 ∧ p.2.2.1 ∈ p.1.ms ∧ IoOk p.1 p.2.2.2
abbrev a4 : Lg × Rows × Mg × Bool → List Kn := fun p => [kD (encLg p.1), kD (encRows p.2.1), kD (encM p.2.2.1), kB p.2.2.2]
noncomputable abbrev spHasSurely : Sp := spP q4 a4 (fun p => kD (vecD p.2.1 fun r => sureN p.1.evs p.1.ms (up p.1) p.2.2.1 p.2.2.2 r))
theorem r_has_surely (T : Tx K mg) : FnR P w K mg base CX0 12 (He.ga K "has_surely") spHasSurely := by
  obtain ⟨fd, F⟩ := T.says.def_ 30 (d := (gD "has_surely" 23 [.bl false]))
  obtain ⟨ds, hds, hbn⟩ := F.binds1 (ps := ["log", "counters", "message", "in_order"]) 4 1 (by simp [He.DefD.dvs, gD]) rfl (fun _ _ _ _ _ _ _ us its hl hi => match us, its, hl, hi with | [_, _, _, _], [_], _, _ => ⟨_, rfl, rfl⟩)
  have nd : (["log", "counters", "message", "in_order"] : List Str).Nodup := by decide +kernel
  refine fn_r (N := ["log", "counters", "message", "in_order"]) (ps := ["log", "counters", "message", "in_order"]) F ⟨rfl, rfl, rfl, nd, rfl, by decide +kernel, by decide +kernel⟩ hbn hds (fun _ _ => rfl) fun cdv A outer s H E hr => ?_
  have hu := hu_of hr
  have hu64 := hr.units
  have hu65 := room65 hr
  refine ⟨_, (pss_cons (ps_ret (pe_ms (pe_g (r_post_of T) hr (by decide) (T.glo 10) (T.kp 28 (d := (gD "post_of" 21))) (pa_cons (pv 0) (pa_cons (pv 1) (pa_cons (pv 2) (pa_cons (pv 3) pa_nil))))) T.ck.p (T.mth 72) (r_Post_sure T) hr (by decide) (pa_cons (pe_g (r_tupled T) hr (by decide) (T.glo 0) (T.kp 0 (d := (gD "tupled" 6))) (pa_cons (pv 2) pa_nil)) (pa_cons (pv 3) pa_nil))))
      pss_nil), fun a hp => ?_⟩
  obtain ⟨L, C, m, io⟩ := a
  exact go_ret (ev_meth (Mi := fun _ => []) (Mo := fun _ => []) (M1 := []) (res := fun p : Lg × Rows × Mg × Bool => kD (vecD p.2.1 fun r => sureN p.1.evs p.1.ms (up p.1) p.2.2.1 p.2.2.2 r)) (L, C, m, io) (ev_postOf hp.1 hp.2.1 hp.2.2 (ea_four (ev_var rfl) (ev_var rfl) (ev_var rfl) (ev_var rfl))) slI_is (ea_two (ev_tplM (ea_one (ev_var rfl))) (ev_var rfl)) rfl ⟨hp.1, hp.2.1⟩)
noncomputable abbrev spMustCarry : Sp := spP q4 a4 (fun p => (entX p.2.1 fun r => mustO p.1.evs p.1.ms (up p.1) p.2.2.1 p.2.2.2 r))
theorem r_must_carry (T : Tx K mg) : FnR P w K mg base CX0 12 (He.ga K "must_carry") spMustCarry := by
  obtain ⟨fd, F⟩ := T.says.def_ 31 (d := (gD "must_carry" 24 [.bl false]))
  obtain ⟨ds, hds, hbn⟩ := F.binds1 (ps := ["log", "counters", "message", "in_order"]) 4 1 (by simp [He.DefD.dvs, gD]) rfl (fun _ _ _ _ _ _ _ us its hl hi => match us, its, hl, hi with | [_, _, _, _], [_], _, _ => ⟨_, rfl, rfl⟩)
  have nd : (["log", "counters", "message", "in_order"] : List Str).Nodup := by decide +kernel
  refine fn_r (N := ["log", "counters", "message", "in_order"]) (ps := ["log", "counters", "message", "in_order"]) F ⟨rfl, rfl, rfl, nd, rfl, by decide +kernel, by decide +kernel⟩ hbn hds (fun _ _ => rfl) fun cdv A outer s H E hr => ?_
  have hu := hu_of hr
  have hu64 := hr.units
  have hu65 := room65 hr
  refine ⟨_, (pss_cons (ps_ret (pe_ms (pe_g (r_post_of T) hr (by decide) (T.glo 10) (T.kp 28 (d := (gD "post_of" 21))) (pa_cons (pv 0) (pa_cons (pv 1) (pa_cons (pv 2) (pa_cons (pv 3) pa_nil))))) T.ck.p (T.mth 73) (r_Post_must T) hr (by decide) (pa_cons (pe_g (r_tupled T) hr (by decide) (T.glo 0) (T.kp 0 (d := (gD "tupled" 6))) (pa_cons (pv 2) pa_nil)) (pa_cons (pv 3) pa_nil))))
      pss_nil), fun a hp => ?_⟩
  obtain ⟨L, C, m, io⟩ := a
  exact go_ret (ev_meth (Mi := fun _ => []) (Mo := fun _ => []) (M1 := []) (res := fun p : Lg × Rows × Mg × Bool => (entX p.2.1 fun r => mustO p.1.evs p.1.ms (up p.1) p.2.2.1 p.2.2.2 r)) (L, C, m, io) (ev_postOf hp.1 hp.2.1 hp.2.2 (ea_four (ev_var rfl) (ev_var rfl) (ev_var rfl) (ev_var rfl))) slI_is (ea_two (ev_tplM (ea_one (ev_var rfl))) (ev_var rfl)) rfl ⟨hp.1, hp.2.1⟩)
noncomputable abbrev spLateF : Sp := spP q4 a4 (fun p => kD (entD p.2.1 fun r => lateO p.1.evs p.1.ms (up p.1) p.2.2.1 p.2.2.2 r))
theorem r_late (T : Tx K mg) : FnR P w K mg base CX0 12 (He.ga K "late") spLateF := by
  obtain ⟨fd, F⟩ := T.says.def_ 33 (d := (gD "late" 26 [.bl false]))
  obtain ⟨ds, hds, hbn⟩ := F.binds1 (ps := ["log", "counters", "message", "in_order"]) 4 1 (by simp [He.DefD.dvs, gD]) rfl (fun _ _ _ _ _ _ _ us its hl hi => match us, its, hl, hi with | [_, _, _, _], [_], _, _ => ⟨_, rfl, rfl⟩)
  have nd : (["log", "counters", "message", "in_order"] : List Str).Nodup := by decide +kernel
  refine fn_r (N := ["log", "counters", "message", "in_order"]) (ps := ["log", "counters", "message", "in_order"]) F ⟨rfl, rfl, rfl, nd, rfl, by decide +kernel, by decide +kernel⟩ hbn hds (fun _ _ => rfl) fun cdv A outer s H E hr => ?_
  have hu := hu_of hr
  have hu64 := hr.units
  have hu65 := room65 hr
  refine ⟨_, (pss_cons (ps_ret (pe_ms (pe_g (r_post_of T) hr (by decide) (T.glo 10) (T.kp 28 (d := (gD "post_of" 21))) (pa_cons (pv 0) (pa_cons (pv 1) (pa_cons (pv 2) (pa_cons (pv 3) pa_nil))))) T.ck.p (T.mth 77) (r_Post_late T) hr (by decide) (pa_cons (pe_g (r_tupled T) hr (by decide) (T.glo 0) (T.kp 0 (d := (gD "tupled" 6))) (pa_cons (pv 2) pa_nil)) (pa_cons (pv 3) pa_nil))))
      pss_nil), fun a hp => ?_⟩
  obtain ⟨L, C, m, io⟩ := a
  exact go_ret (ev_meth (Mi := fun _ => []) (Mo := fun _ => []) (M1 := []) (res := fun p : Lg × Rows × Mg × Bool => kD (entD p.2.1 fun r => lateO p.1.evs p.1.ms (up p.1) p.2.2.1 p.2.2.2 r)) (L, C, m, io) (ev_postOf hp.1 hp.2.1 hp.2.2 (ea_four (ev_var rfl) (ev_var rfl) (ev_var rfl) (ev_var rfl))) slI_is (ea_two (ev_tplM (ea_one (ev_var rfl))) (ev_var rfl)) rfl ⟨hp.1, hp.2.1⟩)
noncomputable abbrev spNewsF : Sp := spP (fun p : Lg × Rows × Et => PsOk p.1 p.2.1 ∧ p.2.2 ∈ p.1.evs) (fun p => [kD (encLg p.1), kD (encRows p.2.1), kD (encE p.2.2)]) (fun p => (entX p.2.1 fun r => newsO p.1.ms (up p.1) p.2.2 r))
theorem r_news (T : Tx K mg) : FnR P w K mg base CX0 12 (He.ga K "news") spNewsF := by
  obtain ⟨fd, F⟩ := T.says.def_ 32 (d := (gD "news" 25))
  have nd : (["log", "counters", "event"] : List Str).Nodup := by decide +kernel
  refine fn_r (N := ["log", "counters", "event"]) (ps := ["log", "counters", "event"]) F ⟨rfl, rfl, rfl, nd, rfl, by decide +kernel, by decide +kernel⟩ (F.bindsN fun _ _ _ _ _ _ us hl => match us, hl with | [_, _, _], _ => rfl) .nil (fun _ _ => rfl) fun cdv A outer s H E hr => ?_
  have hu := hu_of hr
  have hu64 := hr.units
  have hu65 := room65 hr
  refine ⟨_, (pss_cons (ps_expr (pe_g (r_order_of T) hr (by decide) (T.glo 2) (T.kp 7 (d := (gD "order_of" 9))) (pa_cons (pv 0) (pa_cons (pe_lst (pa_cons (pv 2) pa_nil)) pa_nil))))
      (pss_cons (ps_ret (pe_ms (pe_mk (T.mkr 59) (r_Post___init__ T) hr (by decide) (T.glo 9) (pa_cons (pv 0) (pa_cons (pv 1) pa_nil))) T.ck.p (T.mth 75) (r_Post_news T) hr (by decide) (pa_cons (pe_g (r_tupled T) hr (by decide) (T.glo 0) (T.kp 0 (d := (gD "tupled" 6))) (pa_cons (pv 2) pa_nil)) pa_nil)))
      pss_nil)), fun a hp => ?_⟩
  obtain ⟨L, C, e⟩ := a
  refine go_drop (ev_fn (res := fun p : Lg × Et => kOrd K p.1) (L, e) (ea_two (ev_var rfl) (ev_lst (ea_one (ev_var rfl)))) ⟨hp.1.1, hp.2⟩) ?_
  exact go_ret (ev_meth (Mi := fun _ => []) (Mo := fun _ => []) (M1 := []) (res := fun p : Lg × Rows × Et => (entX p.2.1 fun r => newsO p.1.ms (up p.1) p.2.2 r)) (L, C, e) (ev_post hp.1 (ea_two (ev_var rfl) (ev_var rfl))) slI_is (ea_one (ev_tplE (ea_one (ev_var rfl)))) rfl hp)
noncomputable abbrev spByLast : Sp := spP (fun p : Lg × Rows × Mg => PsOk p.1 p.2.1 ∧ p.2.2 ∈ p.1.ms) (fun p => [kD (encLg p.1), kD (encRows p.2.1), kD (encM p.2.2)]) (fun p => (entX p.2.1 fun r => lastO p.1.ms (up p.1) p.2.2 r))
theorem r_by_last (T : Tx K mg) : FnR P w K mg base CX0 12 (He.ga K "by_last") spByLast := by
  obtain ⟨fd, F⟩ := T.says.def_ 35 (d := (gD "by_last" 28))
  have nd : (["log", "counters", "message", "post", "own", "rows", "other"] : List Str).Nodup := by decide +kernel
  refine fn_r (N := ["log", "counters", "message", "post", "own", "rows", "other"]) (ps := ["log", "counters", "message"]) F ⟨rfl, rfl, rfl, nd, rfl, by decide +kernel, by decide +kernel⟩ (F.bindsN fun _ _ _ _ _ _ us hl => match us, hl with | [_, _, _], _ => rfl) .nil (fun _ _ => rfl) fun cdv A outer s H E hr => ?_
  have hu := hu_of hr
  have hu64 := hr.units
  have hu65 := room65 hr
  refine ⟨_, (pss_cons (ps_asg (pe_tup (pa_cons (pe_g (r_post_of T) hr (by decide) (T.glo 10) (T.kp 28 (d := (gD "post_of" 21))) (pa_cons (pv 0) (pa_cons (pv 1) (pa_cons (pv 2) (pa_cons pe_bl pa_nil))))) (pa_cons (pe_g (r_tupled T) hr (by decide) (T.glo 0) (T.kp 0 (d := (gD "tupled" 6))) (pa_cons (pv 2) pa_nil)) pa_nil))) (k_gT K (n := 2) rfl (pgs_cons (pg_name (i := 3) nd rfl (Or.inr rfl)) (pgs_cons (pg_name (i := 4) nd rfl (Or.inl rfl)) pgs_nil))))
      (pss_cons (ps_setLc (i := 5) (own := [("other", 6)]) rfl nd rfl rfl (sw_true rfl rfl rfl (by decide +kernel)) (k_iL K (pe_ms (pv 3) T.ck.p (T.mth 71) (r_Post_ahead T) hr (by decide) (pa_cons (pv 4) pa_nil))) (blkOk_by (own := [("other", 6)]) (N := ["log", "counters", "message", "post", "own", "rows", "other"]) (sc := defScope (top 28)) (by decide +kernel)) (fun _ _ _ _ _ => (pg_name (i := 6) nd rfl (Or.inl rfl))) (fun _ _ _ _ _ => pts_nil) (fun _ _ _ _ _ => (pe_ms (pv 3) T.ck.p (T.mth 67) (r_Post_stamp T) hr (by decide) (pa_cons (pe_ix (k_ixT K) (pv 6) (pe_glob (v := .int 0) (by rfl) (T.int 56 (n := 0)).choose_spec ⟨_, rfl⟩) (fun _ _ => rfl)) pa_nil))))
      (pss_cons (ps_ret (pe_g (r_greater T) hr (by decide) (T.glo 7) (T.kp 12 (d := (gD "greater" 18))) (pa_cons (pe_ms (pv 3) T.ck.p (T.mth 67) (r_Post_stamp T) hr (by decide) (pa_cons (pe_ix (k_ixT K) (pv 4) (pe_glob (v := .int 0) (by rfl) (T.int 56 (n := 0)).choose_spec ⟨_, rfl⟩) (fun _ _ => rfl)) pa_nil)) (pa_cons (pe_g (r_greatest T) hr (by decide) (T.glo 6) (T.kp 11 (d := (gD "greatest" 17))) (pa_cons (pe_op op_cat (pe_lst (pa_cons (pe_ms0 (pv 3) T.ck.p (T.mth 68) (r_Post_noughts T) hr (by decide)) pa_nil)) (pv 5)) pa_nil)) pa_nil))))
      pss_nil))), fun a hp => ?_⟩
  obtain ⟨L, C, m⟩ := a
  have hC : C.length ≤ 10 := hp.1.2.n
  have hm := hp.1.1.ms m hp.2
  have hah : (ahead L.ms m).length ≤ 100 := Nat.le_trans (List.length_filter_le _ _) hp.1.1.lm
  refine go_asg (ev_tup (ea_two (ev_postOf (io := false) hp.1 hp.2 (fun z => Bool.noConfusion z) (ea_four (ev_var rfl) (ev_var rfl) (ev_var rfl) ev_bl)) (ev_tplM (ea_one (ev_var rfl))))) tg_two ?_
  refine go_set (ev_lcA (α := Mg) (ahead L.ms m) (fun o => kD (encM o)) (fun o => vecD C fun r => st (up L) r o.1) (ei_lstE (ev_meth (Mi := fun _ => []) (Mo := fun _ => []) (res := fun p : Lg × Rows × Mg => kD (.list ((ahead p.1.ms p.2.2).map encM))) (L, C, m) (ev_var rfl) slI_is (ea_one (ev_var rfl)) rfl hp.1)) sub_nil (by omega) fun i o ho => ?_) ?_
  · have hoe := (hp.1.1.ms o (List.mem_filter.mp (List.mem_of_getElem? ho)).1).1
    exact ⟨_, [6], tg_name, in_one, et_yes, fun _ => ev_meth (Mi := fun _ => []) (Mo := fun _ => []) (res := fun p : Lg × Rows × Et => kD (vecD p.2.1 fun r => st (up p.1) r p.2.2)) (L, C, o.1) (ev_var rfl) slI_is (ea_one (ev_op (ev_var rfl) ev_int (rk_ixT (n := 0) rfl))) rfl ⟨hp.1, hoe⟩⟩
  · have h1 : Ev _ _ _ _ _ := ev_meth (Γ := [some (kD (encLg L)), some (kD (encRows C)), some (kD (encM m)), some (kPost K L C), some (kD (encM m)), some (kD (.list ((ahead L.ms m).map fun o => vecD C fun r => st (up L) r o.1))), none]) (M := []) (M2 := []) (Cl := He.ga K "Post") (pre := fun p : Lg × Rows × Et => PsOk p.1 p.2.1 ∧ p.2.2 ∈ p.1.evs) (args := fun p => [kPost K p.1 p.2.1, kD (encE p.2.2)]) (E := E0) (ta := tVar 3) (t := tCons (tOp (rIxT K) (tVar 4) (tC (.int 0))) tNil) (Mi := fun _ => []) (Mo := fun _ => []) (M1 := []) (res := fun p : Lg × Rows × Et => kD (vecD p.2.1 fun r => st (up p.1) r p.2.2)) (L, C, m.1) (ev_var rfl) slI_is (ea_one (ev_op (ev_var rfl) ev_int (rk_ixT (n := 0) rfl))) rfl ⟨hp.1, hm.1⟩
    let Γ0 : Ga := [some (kD (encLg L)), some (kD (encRows C)), some (kD (encM m)), some (kPost K L C), some (kD (encM m)), some (kD (.list ((ahead L.ms m).map fun o => vecD C fun r => st (up L) r o.1))), none]
    have h2 := ev_meth (Γ := Γ0) (M := []) (M2 := []) (Cl := He.ga K "Post") (pre := fun p : Lg × Rows => PsOk p.1 p.2) (args := fun p => [kPost K p.1 p.2]) (E := E0) (ta := tVar 3) (t := tNil) (Mi := fun _ => []) (Mo := fun _ => []) (M1 := []) (res := fun p : Lg × Rows => kD (vecD p.2 fun _ => 0)) (L, C) (ev_var rfl) slI_is ea_nil rfl hp.1
    have h3 : Ev (tVar 5) Γ0 [] [] (kD (.list ((ahead L.ms m).map fun o => vecD C fun r => st (up L) r o.1))) := ev_var rfl
    have hl : [vecD C fun _ => 0].length + ((ahead L.ms m).map fun o => vecD C fun r => st (up L) r o.1).length ≤ 100000 := by rw [List.length_map, List.length_singleton]; omega
    have h4 := ev_op (ev_lst1D h2) h3 (rk_cat hl)
    have hd : [vecD C fun _ => 0] ++ ((ahead L.ms m).map fun o => vecD C fun r => st (up L) r o.1) = ((fun _ => 0) :: (ahead L.ms m).map fun o r => st (up L) r o.1).map fun f => vecD C f := by
      rw [List.map_cons, List.map_map]
      rfl
    have hfl : ((ahead L.ms m).map fun (o : Mg) (r : Row) => st (up L) r o.1).length ≤ 50000 := by rw [List.length_map]; omega
    have hg : (fun r => vmax (0 :: (ahead L.ms m).map fun o => st (up L) r o.1)) = fun r => vmax (((fun _ => 0) :: (ahead L.ms m).map fun (o : Mg) (r : Row) => st (up L) r o.1).map fun f => f r) := by
      funext r
      rw [List.map_cons, List.map_map]
      rfl
    have h5 := ev_greatest (E := E0) C (fun _ => 0) _ (ea_one h4) hd hC hfl hg
    exact go_ret (ev_greater C (ea_two h1 h5) hC)
/-! ### totals -/
theorem cnt_key (f : Row → Option Nat) (k : Nat) : ∀ (D : Rows) (i : Nat), (((D.zipIdx i).filterMap fun p => (f p.1).map fun n => (p.2, n)).filter fun q => decide ((q.1 : Int) = (k : Int))).length = if i ≤ k then (match D[k - i]? with | some r => if (f r).isSome then 1 else 0 | none => 0) else 0
  | [], i => by simp
  | r :: D, i => by
    have ih := cnt_key f k D (i + 1)
    rw [List.zipIdx_cons]
    by_cases h : i = k
    · subst h
      rw [if_neg (by omega)] at ih
      rw [if_pos (Nat.le_refl _), Nat.sub_self]
      cases hf : f r with
      | none =>
        rw [List.filterMap_cons_none (by simp [hf]), ih]
        simp [hf]
      | some n =>
        rw [List.filterMap_cons_some (b := (i, n)) (by simp [hf]), List.filter_cons_of_pos (by simp), List.length_cons, ih]
        simp [hf]
    · have tail : (if i ≤ k then (match (r :: D)[k - i]? with | some r => if (f r).isSome then 1 else 0 | none => 0) else 0) = if i + 1 ≤ k then (match D[k - (i + 1)]? with | some r => if (f r).isSome then 1 else 0 | none => 0) else 0 := by
        by_cases h2 : i ≤ k
        · have h3 : i + 1 ≤ k := by omega
          rw [if_pos h2, if_pos h3]
          have h4 : k - i = (k - (i + 1)) + 1 := by omega
          rw [h4, List.getElem?_cons_succ]
        · rw [if_neg h2, if_neg (fun z => h2 (Nat.le_of_succ_le z))]
      rw [tail]
      cases hf : f r with
      | none =>
        rw [List.filterMap_cons_none (by simp [hf])]
        exact ih
      | some n =>
        rw [List.filterMap_cons_some (b := (i, n)) (by simp [hf]), List.filter_cons_of_neg]
        · exact ih
        · simp
          omega
theorem cnt_all {α : Type} (f : α → Row → Option Nat) {C : Rows} {k : Nat} {r : Row} (h : C[k]? = some r) : ∀ l : List α, ((l.flatMap fun a => ents (f a) C).filter fun q => decide ((q.1 : Int) = (k : Int))).length = (l.filter fun a => (f a r).isSome).length
  | [] => rfl
  | a :: l => by
    have e := cnt_key (f a) k C 0
    rw [if_pos (Nat.zero_le _), Nat.sub_zero, h] at e
    rw [List.flatMap_cons, List.filter_append, List.length_append, cnt_all f h l]
    unfold ents
    rw [e]
    cases hf : (f a r).isSome with
    | true => rw [List.filter_cons_of_pos (by exact hf)]; simp [hf]; omega
    | false => rw [List.filter_cons_of_neg (by rw [hf]; exact Bool.false_ne_true)]; simp [hf]
theorem len_ents {α : Type} (f : α → Row → Option Nat) (C : Rows) : ∀ l : List α, (l.flatMap fun a => ents (f a) C).length ≤ l.length * C.length
  | [] => by simp
  | a :: l => by
    have h1 := len_ents f C l
    have h2 := ents_len C (f a)
    rw [List.flatMap_cons, List.length_append, List.length_cons, Nat.succ_mul]
    omega
noncomputable def totD (L : Lg) (io : Bool) (r : Row) : PyData := .tuple [.int (carriedN L.evs L.ms (up L) io r : Nat), .int (freshN L.evs L.ms (up L) r : Nat)]
noncomputable abbrev spTotals : Sp := spP (fun p : Lg × Rows × Bool => PsOk p.1 p.2.1 ∧ IoOk p.1 p.2.2) (fun p => [kD (encLg p.1), kD (encRows p.2.1), kB p.2.2]) (fun p => kD (.list (p.2.1.map fun r => totD p.1 p.2.2 r)))
theorem r_totals (T : Tx K mg) : FnR P w K mg base CX0 12 (He.ga K "totals") spTotals := by
  obtain ⟨fd, F⟩ := T.says.def_ 34 (d := (gD "totals" 27 [.bl false]))
  obtain ⟨ds, hds, hbn⟩ := F.binds1 (ps := ["log", "counters", "in_order"]) 3 1 (by simp [He.DefD.dvs, gD]) rfl (fun _ _ _ _ _ _ _ us its hl hi => match us, its, hl, hi with | [_, _, _], [_], _, _ => ⟨_, rfl, rfl⟩)
  have nd : (["log", "counters", "in_order", "post", "found", "carried", "fresh", "counter", "own", "number", "message", "entry", "event"] : List Str).Nodup := by decide +kernel
  refine fn_r (N := ["log", "counters", "in_order", "post", "found", "carried", "fresh", "counter", "own", "number", "message", "entry", "event"]) (ps := ["log", "counters", "in_order"]) F ⟨rfl, rfl, rfl, nd, rfl, by decide +kernel, by decide +kernel⟩ hbn hds (fun _ _ => rfl) fun cdv A outer s H E hr => ?_
  have hu := hu_of hr
  have hu64 := hr.units
  have hu65 := room65 hr
  refine ⟨_, (pss_cons (ps_expr (pe_g (r_check_order T) hr (by decide) (T.glo 11) (T.kp 29 (d := (gD "check_order" 22))) (pa_cons (pv 0) (pa_cons (pv 2) pa_nil))))
      (pss_cons (ps_asg (pe_tup (pa_cons (pe_mk (T.mkr 59) (r_Post___init__ T) hr (by decide) (T.glo 9) (pa_cons (pv 0) (pa_cons (pv 1) pa_nil))) (pa_cons (pe_lst pa_nil) pa_nil))) (k_gT K (n := 2) rfl (pgs_cons (pg_name (i := 3) nd rfl (Or.inr rfl)) (pgs_cons (pg_name (i := 4) nd rfl (Or.inl rfl)) pgs_nil))))
      (pss_cons (ps_setLc2 (i := 5) (own := [("message", 10), ("entry", 11)]) (vs1 := [11]) rfl nd rfl rfl (sw_true rfl rfl rfl (by decide +kernel)) (k_iP K T hr (by decide) (pv 3)) (blkOk_by (own := [("message", 10), ("entry", 11)]) (N := ["log", "counters", "in_order", "post", "found", "carried", "fresh", "counter", "own", "number", "message", "entry", "event"]) (sc := defScope (top 27)) (by decide +kernel)) (by decide) (fun _ _ _ _ _ => (pg_name (i := 10) nd rfl (Or.inl rfl))) (fun _ _ _ _ _ => pts_nil) (fun _ _ _ _ _ => (k_iT K (pe_ms (pv 3) T.ck.p (T.mth 73) (r_Post_must T) hr (by decide) (pa_cons (pv 10) (pa_cons (pv 2) pa_nil))))) (fun _ _ _ _ _ => (pg_name (i := 11) nd rfl (Or.inl rfl))) (fun _ _ _ _ _ => pts_nil) (fun _ _ _ _ _ => (pv 11)))
      (pss_cons (ps_setLc2 (i := 6) (own := [("event", 12), ("entry", 11)]) (vs1 := [11]) rfl nd rfl rfl (sw_true rfl rfl rfl (by decide +kernel)) (k_iO K T hr (by decide) (pe_mk (T.mkr 58) (r_Order___init__ T) hr (by decide) (T.glo 1) (pa_cons (pv 0) pa_nil))) (blkOk_by (own := [("event", 12), ("entry", 11)]) (N := ["log", "counters", "in_order", "post", "found", "carried", "fresh", "counter", "own", "number", "message", "entry", "event"]) (sc := defScope (top 27)) (by decide +kernel)) (by decide) (fun _ _ _ _ _ => (pg_name (i := 12) nd rfl (Or.inl rfl))) (fun _ _ _ _ _ => pts_nil) (fun _ _ _ _ _ => (k_iT K (pe_ms (pv 3) T.ck.p (T.mth 75) (r_Post_news T) hr (by decide) (pa_cons (pv 12) pa_nil)))) (fun _ _ _ _ _ => (pg_name (i := 11) nd rfl (Or.inl rfl))) (fun _ _ _ _ _ => pts_nil) (fun _ _ _ _ _ => (pv 11)))
      (pss_cons (ps_for PassesOwn.never rfl (pi_range1 (by rfl) (T.free 40) (pa_cons (pe_callB (k_len K) (by rfl) (T.free 41) (by decide +kernel) (pa_cons (pe_ms0 (pv 3) T.ck.p (T.mth 68) (r_Post_noughts T) hr (by decide)) pa_nil)) pa_nil)) (pg_name (i := 7) nd rfl (Or.inr rfl)) (pss_cons (ps_expr (pe_bm PySem.F.plainAttrs_list PySem.F.slot_list_append PySem.F.type_list_append mt_append (pv 4) (pa_cons (pe_tup (pa_cons (pe_callB (k_len K) (by rfl) (T.free 41) (by decide +kernel) (pa_cons (pe_lc (own := [("own", 8), ("number", 9)]) rfl nd (k_iL K (pv 5)) (blkOk_by (own := [("own", 8), ("number", 9)]) (N := ["log", "counters", "in_order", "post", "found", "carried", "fresh", "counter", "own", "number", "message", "entry", "event"]) (sc := defScope (top 27)) (by decide +kernel)) (fun _ _ _ _ _ => (k_gT K (n := 2) rfl (pgs_cons (pg_name (i := 8) nd rfl (Or.inl rfl)) (pgs_cons (pg_name (i := 9) nd rfl (Or.inl rfl)) pgs_nil)))) (fun _ _ _ _ _ => (pts_one (pt_cmpR (k_eq K hu64) (pv 8) (pv 7) (nomark _)))) (fun _ _ _ _ _ => pe_int)) pa_nil)) (pa_cons (pe_callB (k_len K) (by rfl) (T.free 41) (by decide +kernel) (pa_cons (pe_lc (own := [("own", 8), ("number", 9)]) rfl nd (k_iL K (pv 6)) (blkOk_by (own := [("own", 8), ("number", 9)]) (N := ["log", "counters", "in_order", "post", "found", "carried", "fresh", "counter", "own", "number", "message", "entry", "event"]) (sc := defScope (top 27)) (by decide +kernel)) (fun _ _ _ _ _ => (k_gT K (n := 2) rfl (pgs_cons (pg_name (i := 8) nd rfl (Or.inl rfl)) (pgs_cons (pg_name (i := 9) nd rfl (Or.inl rfl)) pgs_nil)))) (fun _ _ _ _ _ => (pts_one (pt_cmpR (k_eq K hu64) (pv 8) (pv 7) (nomark _)))) (fun _ _ _ _ _ => pe_int)) pa_nil)) pa_nil))) pa_nil)))
      pss_nil))
      (pss_cons (ps_ret (pv 4))
      pss_nil)))))), fun a hp => ?_⟩
  obtain ⟨L, C, io⟩ := a
  have ok : PsOk L C := hp.1
  have hC : C.length ≤ 10 := ok.2.n
  have hle := ok.1.le
  have hlm := ok.1.lm
  let fm : Mg → Row → Option Nat := fun m r => mustO L.evs L.ms (up L) m io r
  let fn : Et → Row → Option Nat := fun e r => newsO L.ms (up L) e r
  have l1 : (L.ms.flatMap fun m => ents (fm m) C).length ≤ 1000 := by
    have h1 := len_ents fm C L.ms
    have h2 := Nat.mul_le_mul hlm hC
    omega
  have l2 : (L.evs.flatMap fun e => ents (fn e) C).length ≤ 1000 := by
    have h1 := len_ents fn C L.evs
    have h2 := Nat.mul_le_mul hle hC
    omega
  refine go_drop (ev_fn (L, io) (ea_two (ev_var rfl) (ev_var rfl)) ⟨ok.1, hp.2⟩) ?_
  refine go_asgG (eg_tup (eag_cons (ev_post ok (ea_two (ev_var rfl) (ev_var rfl))) (eag_new (eg_lst ea_nil) fun D => (ea_nil (M := mLst D [] :: [])).g)) 2 fun _ => rfl) (fun _ => tg_two) fun D => ?_
  obtain ⟨D, _⟩ := D
  refine go_set (ev_lc2D L.ms (fun m => ents (fm m) C) (fun m => kD (encM m)) (fun m q => kD (encN q)) (fun m q => encN q) (ei_map (ei_ownT (ev_var rfl) rfl)) sub_nil (by omega) fun i m hm => ?_) ?_
  · exact ⟨_, [10], tg_name, by decide, ei_tupRE ((ev_meth (Mi := fun _ => []) (Mo := fun _ => []) (res := fun p : Lg × Rows × Mg × Bool => (entX p.2.1 fun r => mustO p.1.evs p.1.ms (up p.1) p.2.2.1 p.2.2.2 r)) (L, C, m, io) (ev_var rfl) slI_is (ea_two (ev_var rfl) (ev_var rfl)) rfl ⟨ok, List.mem_of_getElem? hm⟩).to fun _ _ z => kR_X z), fun j q hq => ⟨_, [11], tg_name, in_one, ev_var rfl⟩⟩
  refine go_set (ev_lc2D L.evs (fun e => ents (fn e) C) (fun e => kD (encE e)) (fun e q => kD (encN q)) (fun e q => encN q) (ei_map (ei_ownL (ev_ord ok.1 (ea_one (ev_var rfl))) rfl)) sub_nil (by omega) fun i e he => ?_) ?_
  · exact ⟨_, [12], tg_name, by decide, ei_tupRE ((ev_meth (Mi := fun _ => []) (Mo := fun _ => []) (res := fun p : Lg × Rows × Et => (entX p.2.1 fun r => newsO p.1.ms (up p.1) p.2.2 r)) (L, C, e) (ev_var rfl) slI_is (ea_one (ev_var rfl)) rfl ⟨ok, List.mem_of_getElem? he⟩).to fun _ _ z => kR_X z), fun j q hq => ⟨_, [11], tg_name, in_one, ev_var rfl⟩⟩
  have ec : (L.ms.flatMap fun m => (ents (fm m) C).map fun q => encN q) = (L.ms.flatMap fun m => ents (fm m) C).map encN := by rw [List.map_flatMap]
  have ef : (L.evs.flatMap fun e => (ents (fn e) C).map fun q => encN q) = (L.evs.flatMap fun e => ents (fn e) C).map encN := by rw [List.map_flatMap]
  rw [ec, ef]
  refine go_forN (fun _ => [some (kD (encLg L)), some (kD (encRows C)), some (kB io), some (kPost K L C), some (kC (.ref D)), some (kD (.list ((L.ms.flatMap fun m => ents (fm m) C).map encN))), some (kD (.list ((L.evs.flatMap fun e => ents (fn e) C).map encN))), none, none, none, none, none, none]) (fun i => [mLst D ((C.take i).map fun r => kD (totD L io r))]) (ei_range (n := C.length) ((ev_cb (ea_one (ev_meth (Mi := fun _ => []) (Mo := fun _ => []) (res := fun p : Lg × Rows => kD (vecD p.2 fun _ => 0)) (L, C) (ev_var rfl) slI_is ea_nil rfl ok)) ck_lenT).is (by simp)) (by omega)) (Less.refl _) (.refl _) (fun _ => sub_nil) (fun i k hi hk => ?_) ?_
  · rw [List.length_map, List.length_range] at hi
    rw [List.getElem?_map, List.getElem?_range hi] at hk
    cases hk
    have hr : C[i]? = some C[i] := List.getElem?_eq_getElem hi
    refine ⟨_, [7], tg_name, go_drop (ev_append (M := []) (M2 := []) (k := kD (totD L io C[i])) (ev_var rfl) ((ev_tup2D (ev_cb (ea_one (ev_lcD (α := Nat × Nat) (L.ms.flatMap fun m => ents (fm m) C) (fun q => kD (encN q)) (fun q => decide ((q.1 : Int) = (i : Int))) (fun _ => .int 1) (ei_lstE (ev_var rfl)) sub_nil (by omega) fun j q hq => ⟨_, [8, 9], tg_twoD, by decide, et_test (ev_op (ev_var rfl) (ev_var rfl) rk_eqI), fun _ => ev_int⟩)) ck_lenL) (ev_cb (ea_one (ev_lcD (α := Nat × Nat) (L.evs.flatMap fun e => ents (fn e) C) (fun q => kD (encN q)) (fun q => decide ((q.1 : Int) = (i : Int))) (fun _ => .int 1) (ei_lstE (ev_var rfl)) sub_nil (by omega) fun j q hq => ⟨_, [8, 9], tg_twoD, by decide, et_test (ev_op (ev_var rfl) (ev_var rfl) rk_eqI), fun _ => ev_int⟩)) ck_lenL)).is ?_) (by simp; omega)) (go_nil ⟨?_, ?_⟩)⟩
    · rw [List.length_map, List.length_map, cnt_all fm hr, cnt_all fn hr]
      rfl
    · exact ⟨fun _ _ z => z, fun _ _ z => z, fun _ _ z => z, fun _ _ z => z, fun _ _ z => z, fun _ _ z => z, fun _ _ z => z, True.intro⟩
    · rw [take_next hr, List.map_append]
      exact .refl _
  · rw [List.length_map, List.length_range, List.take_length]
    refine go_still (i := 4) rfl (go_ret ((ev_var rfl).to fun _ _ q => ?_))
    have e : (C.map fun r => kD (totD L io r)) = (C.map fun r => totD L io r).map kD := by rw [List.map_map]; rfl
    rw [e] at q
    exact kLst_data.mp q
end
end Fw
set_option Elab.async false
set_option linter.all false
set_option maxRecDepth 100000
set_option maxHeartbeats 4000000
set_option Elab.async false
/-! the walk: calms, told, turned_to -/
namespace Fw
open PySem PySem.Spec PyProof.Rows L2
theorem rk_catK {M : List Mu} {ks ls : List Kn} (hl : ks.length + ls.length ≤ 100000) : RK rCat M (kLst ks) (kLst ls) (kLst (ks ++ ls)) := fun x y F B C o ⟨p, xs, e1, h1, h2⟩ ⟨r, ys, e2, h3, h4⟩ Q q => by
  subst e1 e2
  refine ⟨p, r, xs, ys, rfl, rfl, o.ex _ _ h1, o.ex _ _ h3, by rw [← h2.length, ← h4.length, sizeLine_eq]; omega, fun l hl => q _ _ _ (Ex.new (o.ex.back hl)) (o.new hl) ⟨l, _, rfl, upd_same, (h2.ex (Ex.new (o.ex.back hl))).append (h4.ex (Ex.new (o.ex.back hl)))⟩⟩
section
variable {P : Program} {w : World} {K : PySem.W.Frag} {mg : Str → Option Value} {base : Heap}
def calmsOf (b : Bool) : List Bool := if b then [false, true] else [false]
theorem r__law_calms (T : Tx K mg) : FnR P w K mg base CX0 1 (He.ga K "_law_calms") spCalms := by
  obtain ⟨fd, F⟩ := T.says.def_ 48 (d := (gD "_law_calms" 42))
  have nd : (["_law_is_calm"] : List Str).Nodup := by decide +kernel
  refine fn_r (N := ["_law_is_calm"]) (ps := ["_law_is_calm"]) F ⟨rfl, rfl, rfl, nd, rfl, by decide +kernel, by decide +kernel⟩ (F.bindsN fun _ _ _ _ _ _ us hl => match us, hl with | [_], _ => rfl) .nil (fun _ _ => rfl) fun cdv A outer s H E hr => ?_
  have hu := hu_of hr
  have hu64 := hr.units
  have hu65 := room65 hr
  refine ⟨_, (pss_cons (ps_ret (pe_slice (k_slT K) (pe_tup (pa_cons pe_bl (pa_cons pe_bl pa_nil))) po_none (po_some (pe_op op_add pe_int (pe_callTy call_int1 (by rfl) (T.free 48) (by decide +kernel) (pa_cons (pv 0) pa_nil))))))
      pss_nil), fun a hp => ?_⟩
  refine go_ret (ev_slice (ev_tup (ea_two ev_bl ev_bl)) eo_none (eo_some (ev_op ev_int (ev_cb (ea_one (ev_var rfl)) ck_intB) rk_add)) fun x F B C o px Q q => ?_)
  obtain ⟨t, xs, rfl, h1, h2⟩ := px
  have ex : xs = [.bl false, .bl true] := by
    cases h2 with
    | cons p1 h2 =>
      cases h2 with
      | cons p2 h2 =>
        cases h2
        rw [p1.bl_inv, p2.bl_inv]
  subst ex
  cases a with
  | true =>
    refine ⟨t, _, rfl, SqT.of (o.ex _ _ h1), fun _ => q _ B C (Ex.refl B) o (.tup h1 (.cons (.bl false) (.cons (.bl true) .nil))), fun hn => absurd ⟨by decide, by decide⟩ hn⟩
  | false =>
    refine ⟨t, _, rfl, SqT.of (o.ex _ _ h1), fun hw => absurd hw.2 (by decide), fun _ l hl => q _ _ _ (Ex.new (o.ex.back hl)) (o.new hl) (.tup upd_same ?_)⟩
    show TkAll _ [.bl false] [.bool false]
    exact .cons (.bl false) .nil
/-- entries turned -/
def trn (ps l : Pl) : Pl := (l.filter fun q => (lk ps q.1).isSome).map fun q => ((lk ps q.1).getD 0, q.2)
def srt (l : Pl) : Pl := l.mergeSort (PySem.W.dataLe false encN)
theorem alike_N (l : Pl) : PySem.W.AllAlike (l.map encN) := fun d hd d' hd' => by
  obtain ⟨x, _, rfl⟩ := List.mem_map.mp hd
  obtain ⟨y, _, rfl⟩ := List.mem_map.mp hd'
  simp [PySem.W.alike, PySem.W.alikeAll, encN]
theorem sortable_N (l : Pl) : PySem.W.Sortable (l.map encN) := PySem.W.Sortable.tuples fun b => ⟨_, _, rfl⟩
abbrev TurnA : Type := Pl × Pl × Addr
abbrev spTurned : Sp := spF (fun p : TurnA => p.2.1.length ≤ 50000) (fun p => [kR (p.2.1.map encN), kC (.ref p.2.2)]) (fun p => [mPl p.2.2 p.1]) (fun p => [mPl p.2.2 p.1]) (fun p => kD (.tuple ((srt (trn p.1 p.2.1)).map encN)))
theorem r__law_turned_to (T : Tx K mg) : FnR P w K mg base CX0 1 (He.ga K "_law_turned_to") spTurned := by
  obtain ⟨fd, F⟩ := T.says.def_ 50 (d := (gD "_law_turned_to" 44))
  have nd : (["_law_entries", "_law_places", "_law_k", "_law_number"] : List Str).Nodup := by decide +kernel
  refine fn_r (N := ["_law_entries", "_law_places", "_law_k", "_law_number"]) (ps := ["_law_entries", "_law_places"]) F ⟨rfl, rfl, rfl, nd, rfl, by decide +kernel, by decide +kernel⟩ (F.bindsN fun _ _ _ _ _ _ us hl => match us, hl with | [_, _], _ => rfl) .nil (fun _ _ => rfl) fun cdv A outer s H E hr => ?_
  have hu := hu_of hr
  have hu64 := hr.units
  have hu65 := room65 hr
  refine ⟨_, (pss_cons (ps_ret (pe_callTy (k_tup K) (by rfl) (T.free 37) (by decide +kernel) (pa_cons (pe_callB (k_sort K hu64) (by rfl) (T.free 50) (by decide +kernel) (pa_cons (pe_lc (own := [("_law_k", 2), ("_law_number", 3)]) rfl nd (k_iT K (pv 0)) (blkOk_by (own := [("_law_k", 2), ("_law_number", 3)]) (N := ["_law_entries", "_law_places", "_law_k", "_law_number"]) (sc := defScope (top 44)) (by decide +kernel)) (fun _ _ _ _ _ => (k_gT K (n := 2) rfl (pgs_cons (pg_name (i := 2) nd rfl (Or.inl rfl)) (pgs_cons (pg_name (i := 3) nd rfl (Or.inl rfl)) pgs_nil)))) (fun _ _ _ _ _ => (pts_one (pt_cmp (pc_din hu (pv 2) (pv 1))))) (fun _ _ _ _ _ => (pe_tup (pa_cons (pe_dget hu (pv 1) (pv 2) (fun _ _ => rfl)) (pa_cons (pv 3) pa_nil))))) pa_nil)) pa_nil)))
      pss_nil), fun a hp => ?_⟩
  obtain ⟨ps, l, D⟩ := a
  have hl : l.length ≤ 50000 := hp
  have hm : mPl D ps ∈ [mPl D ps] := List.mem_cons_self ..
  have h1 : ((l.filter fun q => (lk ps q.1).isSome).map fun q => encN ((lk ps q.1).getD 0, q.2)) = (trn ps l).map encN := by
    unfold trn
    rw [List.map_map]
    rfl
  refine go_ret ((ev_cb (ea_one (ev_cb (ea_one ((ev_lcD l (fun q => kD (encN q)) (fun q => (lk ps q.1).isSome) (fun q => encN ((lk ps q.1).getD 0, q.2)) (ei_tupRE (ev_var rfl)) sub_nil hl fun i q hq => ?_).is (d' := .list ((trn ps l).map encN)) (by rw [h1]))) (ck_sortD (alike_N _) (sortable_N _) fun d hd => ?_))) ck_tupOf).is ?_)
  · refine ⟨_, [2, 3], tg_twoD, by decide, et_test (ev_dinP (pl_rd hm) (ev_var rfl) (ev_var rfl)), fun hb => ?_⟩
    obtain ⟨m, hm2⟩ := Option.isSome_iff_exists.mp hb
    rw [hm2]
    exact ev_tup2D (ev_dgetP (pl_rd hm) (ev_var rfl) (ev_var rfl) hm2) (ev_var rfl)
  · obtain ⟨x, _, rfl⟩ := List.mem_map.mp hd
    exact Nat.le_trans (Sh.ent x).2 (by decide)
  · rw [sort_enc]
    rfl
/-- what is told of a letter -/
noncomputable def toldL (L : Lg) (C : Rows) (m : Mg) (io : Bool) : List Pl := [ents (fun r => mustO L.evs L.ms (up L) m io r) C, ents (fun r => lateO L.evs L.ms (up L) m io r) C, ents (fun r => lastO L.ms (up L) m r) C, ents (fun r => newsO L.ms (up L) m.2 r) C]
noncomputable abbrev spTold : Sp := spP q4 a4 (fun p => kLst ((toldL p.1 p.2.1 p.2.2.1 p.2.2.2).map fun l => kR (l.map encN)))
theorem r__law_told (T : Tx K mg) : FnR P w K mg base CX0 13 (He.ga K "_law_told") spTold := by
  obtain ⟨fd, F⟩ := T.says.def_ 49 (d := (gD "_law_told" 43))
  have nd : (["_law_log_so", "_law_rows", "_law_letter", "_law_is_calm", "_law_found"] : List Str).Nodup := by decide +kernel
  refine fn_r (N := ["_law_log_so", "_law_rows", "_law_letter", "_law_is_calm", "_law_found"]) (ps := ["_law_log_so", "_law_rows", "_law_letter", "_law_is_calm"]) F ⟨rfl, rfl, rfl, nd, rfl, by decide +kernel, by decide +kernel⟩ (F.bindsN fun _ _ _ _ _ _ us hl => match us, hl with | [_, _, _, _], _ => rfl) .nil (fun _ _ => rfl) fun cdv A outer s H E hr => ?_
  have hu := hu_of hr
  have hu64 := hr.units
  have hu65 := room65 hr
  refine ⟨_, (pss_cons (ps_set (i := 4) nd rfl (Or.inl rfl) (pe_lst (pa_cons (pe_g (r_must_carry T) hr (by decide) (T.glo 13) (T.kp 31 (d := (gD "must_carry" 24 [.bl false]))) (pa_cons (pv 0) (pa_cons (pv 1) (pa_cons (pv 2) (pa_cons (pv 3) pa_nil))))) (pa_cons (pe_g (r_late T) hr (by decide) (T.glo 15) (T.kp 33 (d := (gD "late" 26 [.bl false]))) (pa_cons (pv 0) (pa_cons (pv 1) (pa_cons (pv 2) (pa_cons (pv 3) pa_nil))))) pa_nil))))
      (pss_cons (ps_ret (pe_op op_cat (pv 4) (pe_lst (pa_cons (pe_g (r_by_last T) hr (by decide) (T.glo 17) (T.kp 35 (d := (gD "by_last" 28))) (pa_cons (pv 0) (pa_cons (pv 1) (pa_cons (pv 2) pa_nil)))) (pa_cons (pe_g (r_news T) hr (by decide) (T.glo 14) (T.kp 32 (d := (gD "news" 25))) (pa_cons (pv 0) (pa_cons (pv 1) (pa_cons (pe_ix (k_ixT K) (pv 2) pe_int (fun _ _ => rfl)) pa_nil)))) pa_nil)))))
      pss_nil)), fun a hp => ?_⟩
  obtain ⟨L, C, m, io⟩ := a
  have hm := hp.1.1.ms m hp.2.1
  have a1 := ea_four (M := []) (Γ := [some (kD (encLg L)), some (kD (encRows C)), some (kD (encM m)), some (kB io), none]) (ev_var (i := 0) rfl) (ev_var (i := 1) rfl) (ev_var (i := 2) rfl) (ev_var (i := 3) rfl)
  have h1 := ev_fn (E := E0) (pre := q4) (args := a4) (res := fun p : Lg × Rows × Mg × Bool => (entX p.2.1 fun r => mustO p.1.evs p.1.ms (up p.1) p.2.2.1 p.2.2.2 r)) (L, C, m, io) a1 hp
  have h2 := ev_fn (E := E0) (pre := q4) (args := a4) (res := fun p : Lg × Rows × Mg × Bool => kD (entD p.2.1 fun r => lateO p.1.evs p.1.ms (up p.1) p.2.2.1 p.2.2.2 r)) (L, C, m, io) a1 hp
  refine go_set (ev_lst (ea_two (h1.to fun _ _ z => kR_X z) (h2.to fun _ _ z => kR_D z))) ?_
  let Γ1 : Ga := [some (kD (encLg L)), some (kD (encRows C)), some (kD (encM m)), some (kB io), some (kLst [kR ((ents (fun r => mustO L.evs L.ms (up L) m io r) C).map encN), kR ((ents (fun r => lateO L.evs L.ms (up L) m io r) C).map encN)])]
  have h3 := ev_fn (E := E0) (pre := fun p : Lg × Rows × Mg => PsOk p.1 p.2.1 ∧ p.2.2 ∈ p.1.ms) (args := fun p : Lg × Rows × Mg => [kD (encLg p.1), kD (encRows p.2.1), kD (encM p.2.2)]) (res := fun p : Lg × Rows × Mg => (entX p.2.1 fun r => lastO p.1.ms (up p.1) p.2.2 r)) (L, C, m) (ea_cons (M := []) (Γ := Γ1) (ev_var (i := 0) rfl) (ea_two (ev_var (i := 1) rfl) (ev_var (i := 2) rfl))) ⟨hp.1, hp.2.1⟩
  have h4 := ev_fn (E := E0) (pre := fun p : Lg × Rows × Et => PsOk p.1 p.2.1 ∧ p.2.2 ∈ p.1.evs) (args := fun p : Lg × Rows × Et => [kD (encLg p.1), kD (encRows p.2.1), kD (encE p.2.2)]) (res := fun p : Lg × Rows × Et => (entX p.2.1 fun r => newsO p.1.ms (up p.1) p.2.2 r)) (L, C, m.2) (ea_cons (M := []) (Γ := Γ1) (ev_var (i := 0) rfl) (ea_two (ev_var (i := 1) rfl) (ev_op (ev_var (i := 2) (k := kD (encM m)) rfl) ev_int (rk_ixT (K := K) (n := 1) rfl)))) ⟨hp.1, hm.2⟩
  have h5 : Ev (tVar 4) Γ1 [] [] (kLst [kR ((ents (fun r => mustO L.evs L.ms (up L) m io r) C).map encN), kR ((ents (fun r => lateO L.evs L.ms (up L) m io r) C).map encN)]) := ev_var rfl
  have h6 := ev_op h5 (ev_lst (ea_two (h3.to fun _ _ z => kR_X z) (h4.to fun _ _ z => kR_X z))) (rk_catK (by simp))
  exact go_ret h6
end
end Fw
set_option Elab.async false
set_option linter.all false
set_option maxRecDepth 100000
set_option maxHeartbeats 4000000
/-! dicts from events to data, that change -/
namespace Fw
open PySem PySem.Spec PyProof.Rows L2
def mDT (D : Addr) (f : Et → Option Kn) (n : Nat) : Mu where
  fp := fun a => a = D
  p := fun B C => ∃ kvs, C D = some (.dT kvs) ∧ kvs.length ≤ n ∧ DtK kvs f B
  on := fun ⟨_, h, _⟩ e => ⟨_, e ▸ h⟩
  mono := fun e st ⟨kvs, h1, h2, h3⟩ => ⟨kvs, (st _ rfl).trans h1, h2, h3.ex e⟩
section
variable {Γ : Ga} {M M1 M2 M3 M4 : List Mu} {K : PySem.W.Frag} {te ta tb : TE} {k kz : Kn} {D : Addr} {f : Et → Option Kn} {n : Nat}
theorem ev_dgetE (hm : mDT D f n ∈ M2) {e : Et} (hd : Ev ta Γ M M1 (kC (.ref D))) (hy : Ev tb Γ M1 M2 (kD (encE e))) (h : f e = some kz) : Ev (tDGet ta tb) Γ M M2 kz := ev_dget hd hy fun x y F B C o px py => by
  obtain ⟨kvs, h1, _, h2⟩ := o.p _ (List.mem_append_left _ hm)
  obtain ⟨b, rfl, h4⟩ := tk_key py
  have h5 := h2 e
  rw [h] at h5
  obtain ⟨v, h6, h7⟩ := h5.some
  exact ⟨D, v, px, by rw [← h6]; exact DGet.t h1 (o.ex _ _ h4), h7⟩
theorem ev_dinE {b : Bool} (hm : mDT D f n ∈ M2) {e : Et} (hy : Ev ta Γ M M1 (kD (encE e))) (hd : Ev tb Γ M1 M2 (kC (.ref D))) (hb : (f e).isSome = b) : Ev (tDIn ta tb) Γ M M2 (kB b) := ev_din hy hd fun x y F B C o px py => by
  obtain ⟨kvs, h1, _, h2⟩ := o.p _ (List.mem_append_left _ hm)
  obtain ⟨d, rfl, h4⟩ := tk_key py
  exact ⟨D, _, px, DGet.t h1 (o.ex _ _ h4), (h2 e).is.trans hb⟩
theorem eg_dnewE : EvG (α := Addr) tDNewT Γ M (fun a => kC (.ref a)) (fun a => mDT a (fun _ => none) 0 :: M) := fun F σ B C s o Q q => fun l hl =>
  q l (.ref l) B _ (Ex.refl B) (o.add (m := mDT l (fun _ => none) 0) (o.ex.mut (o.ex.back hl)) (fun a u z => by rw [upd_ne (ne_of_none z hl)]; exact z) ⟨[], upd_same, Nat.le_refl _, fun e => True.intro⟩ fun a z => by rw [z]; exact hl) rfl
theorem go_dputE {P : Po} {rest : TS} {tv : TE} {e : Et} (hv : Ev tv Γ M M1 k) (hd : Ev ta Γ M1 M2 (kC (.ref D))) (hy : Ev tb Γ M2 M3 (kD (encE e))) (hp : M3.Perm (mDT D f n :: M4)) (hl : n ≤ 100000)
    (hr : Go P rest Γ (mDT D (fun x => if x = e then some k else f x) (n + 1) :: M4)) : Go P (tSeq (sDPut ta tb tv) rest) Γ M := fun F σ B C E s ok q =>
  hv F σ B C s ok _ fun v B1 C1 e1 o1 pv => hd F σ B1 C1 (s.ex e1) o1 _ fun x B2 C2 e2 o2 px => hy F σ B2 C2 (s.ex (e1.trans e2)) o2 _ fun y B3 C3 e3 o3 py => by
    have o4 : OkM (mDT D f n :: (M4 ++ F)) B3 C3 := o3.perm (hp.append_right F)
    obtain ⟨kvs, h4, hn, h5⟩ := o4.head
    obtain ⟨b, rfl, h6⟩ := tk_key py
    cases (show x = .ref D from px)
    refine ⟨D, _, rfl, DPut.t h4 (o4.ex _ _ h6) (by rw [sizeLine_eq]; omega), hr F σ B3 _ E (s.ex ((e1.trans e2).trans e3)) ?_ (q.ex ((e1.trans e2).trans e3))⟩
    refine o4.chg (m' := mDT D (fun x => if x = e then some k else f x) (n + 1)) (o4.ex.mut (o4.off _ (List.mem_cons_self ..) D rfl)) (fun a ha => upd_ne ha) ⟨_, upd_same, by have := length_putK kvs (keyE e) v; omega, fun x => ?_⟩ fun a ha => .inl ha
    show OptK _ (if x = e then some k else f x) B3
    rw [valV_put]
    by_cases hx : x = e
    · subst hx
      rw [if_pos rfl, if_pos rfl]
      exact k.mono (e2.trans e3) pv
    · rw [if_neg fun w => hx (keyE_inj w), if_neg hx]
      exact h5 x
/-- it stands still from now on -/
theorem go_frzE {P : Po} {t : TS} {i : Nat} (hΓ : Γ[i]? = some (some (kC (.ref D)))) (hr : Go P t (Γ.set i (some (kDT f))) M) : Go P t Γ (mDT D f n :: M) :=
  go_freeze [mDT D f n] (k' := kDT f) hΓ (fun v B C B' hm pv e1 e2 hB => by
    obtain ⟨kvs, h1, _, h2⟩ := hm _ (List.mem_singleton_self _)
    exact ⟨D, kvs, pv, (hB _ (List.mem_singleton_self _) D rfl).trans h1, h2.ex e1⟩) hr
theorem dt_merge {B : Hp} {g : Et → PyData} : ∀ {l : List Et} {kvs acc : List (List Key × V)} {f : Et → Option Kn}, Paired (fun (kv : List Key × V) e => kv.1 = keyE e ∧ Tk B kv.2 (g e)) kvs l → DtK acc f B → DtK (mergeT acc kvs) (fun x => if x ∈ l then some (kD (g x)) else f x) B
  | _, _, acc, f, .nil, h => fun x => by
    show OptK (valV acc (keyE x)) (if x ∈ [] then _ else f x) B
    rw [if_neg (by simp)]
    exact h x
  | _, _, acc, f, .cons (a := kv) (b := e) (l₁ := kvs) (l₂ := l) h t, hd => by
    have h1 : DtK (putK acc kv.1 kv.2) (fun x => if x = e then some (kD (g e)) else f x) B := fun x => by
      show OptK _ (if x = e then some (kD (g e)) else f x) B
      rw [h.1, valV_put]
      by_cases hx : x = e
      · subst hx
        rw [if_pos rfl, if_pos rfl]
        exact h.2
      · rw [if_neg fun w => hx (keyE_inj w), if_neg hx]
        exact hd x
    have h2 := dt_merge t h1
    intro x
    have h3 := h2 x
    show OptK (valV (mergeT (putK acc kv.1 kv.2) kvs) (keyE x)) (if x ∈ e :: l then some (kD (g x)) else f x) B
    have e1 : (if x ∈ e :: l then some (kD (g x)) else f x) = if x ∈ l then some (kD (g x)) else if x = e then some (kD (g e)) else f x := by
      by_cases hx : x ∈ l
      · rw [if_pos hx, if_pos (List.mem_cons_of_mem _ hx)]
      · rw [if_neg hx]
        by_cases he : x = e
        · subst he
          rw [if_pos rfl, if_pos (List.mem_cons_self ..)]
        · rw [if_neg he, if_neg (by simp [he, hx])]
    rw [e1]
    exact h3
theorem tk_prsE {B : Hp} {g : Et → PyData} : ∀ {l : List Et} {xs : List V}, TkAll B xs (l.map fun e => .tuple [encE e, g e]) → ∃ (as : List Addr) (kvs : List (List Key × V)), xs = as.map V.ref ∧ Paired (fun p (kv : List Key × V) => ∃ b, B p = some (.tup [.ref b, kv.2]) ∧ B b = some (.tup (kv.1.map kV))) as kvs ∧ Paired (fun (kv : List Key × V) e => kv.1 = keyE e ∧ Tk B kv.2 (g e)) kvs l
  | [], xs, h => by
    cases h
    exact ⟨[], [], rfl, .nil, .nil⟩
  | e :: l, xs, h => by
    cases h with
    | cons h t =>
      obtain ⟨as, kvs, e1, h1, h2⟩ := tk_prsE t
      obtain ⟨a, ys, rfl, h3, h4⟩ := Tk.tup_inv h
      cases h4 with
      | cons p1 h4 =>
        cases h4 with
        | cons p2 h4 =>
          cases h4
          obtain ⟨b, rfl, hb⟩ := tk_key p1
          exact ⟨a :: as, (keyE e, _) :: kvs, by rw [List.map_cons, e1], .cons ⟨b, h3, hb⟩ h1, .cons ⟨rfl, p2⟩ h2⟩
theorem eg_dictTL {l : List Et} {g : Et → PyData} (h : Ev te Γ M M1 (kD (.list (l.map fun e => .tuple [encE e, g e])))) : EvG (α := Addr) (tCB (rDictTL K) (tCons te tNil)) Γ M (fun D => kC (.ref D)) (fun D => mDT D (fun x => if x ∈ l then some (kD (g x)) else none) l.length :: M1) := fun F σ B C s o Q q =>
  ea_one h F σ B C s o _ fun xs B1 C1 e1 o1 px => by
    obtain ⟨v, rfl, pv⟩ := allK1 px
    obtain ⟨a, ys, rfl, h1, h2⟩ := pv.lst_inv
    obtain ⟨as, kvs, rfl, hp, hq⟩ := tk_prsE h2
    refine ⟨a, as, kvs, rfl, SqL.of (o1.ex _ _ h1), Paired.mapP hp fun _ _ ⟨b, z1, z2⟩ => ⟨b, SqT.of (o1.ex _ _ z1), o1.ex _ _ z2⟩, fun p hpn => ?_⟩
    have hlen := length_mergeT kvs []
    rw [List.length_nil, Nat.zero_add, hq.length] at hlen
    exact q p (.ref p) B1 _ e1 (o1.add (m := mDT p _ l.length) (o1.ex.mut (o1.ex.back hpn)) (fun a u z => by rw [upd_ne (ne_of_none z hpn)]; exact z) ⟨_, upd_same, hlen, dt_merge hq fun x => True.intro⟩ fun a z => by rw [z]; exact hpn) rfl
end
end Fw
set_option Elab.async false
set_option linter.all false
set_option maxRecDepth 100000
set_option maxHeartbeats 4000000
set_option Elab.async false
/-! the walk: order -/
namespace Fw
open PySem PySem.Spec PyProof.Rows L2
def whBody : Stmt → List Stmt
  | .While _ b _ _ => b
  | _ => []
def asgVal : Stmt → Expr
  | .Assign _ v _ => v
  | _ => .Name Str.empty ⟨0, 0, 0, 0⟩
def subV : Expr → Expr
  | .Subscript v _ _ => v
  | e => e
def scOrder : Scope := inSc (defScope (top 38)) (lcScope (subV (asgVal ((whBody ((defBody (top 38)).getD 3 (.Pass ⟨0, 0, 0, 0⟩))).getD 0 (.Pass ⟨0, 0, 0, 0⟩)))))
theorem nd_len {α : Type} [DecidableEq α] : ∀ (l D : List α), l.Nodup → (∀ x ∈ l, x ∈ D) → l.length ≤ D.length
  | [], _, _, _ => Nat.zero_le _
  | x :: l, D, nd, sub => by
    rw [List.nodup_cons] at nd
    have h1 := nd_len l (D.filter fun y => !decide (y = x)) nd.2 fun y hy => List.mem_filter.mpr ⟨sub y (List.mem_cons_of_mem _ hy), by
      have : y ≠ x := fun e => nd.1 (e ▸ hy)
      simp [this]⟩
    have h2 : (D.filter fun y => !decide (y = x)).length < D.length := by
      have hx := sub x (List.mem_cons_self ..)
      clear h1 sub nd
      induction D with
      | nil => cases hx
      | cons d D ih =>
        by_cases e : d = x
        · rw [List.filter_cons_of_neg (by simp [e]), List.length_cons]
          have := List.length_filter_le (fun y => !decide (y = x)) D
          omega
        · rw [List.filter_cons_of_pos (by simp [e]), List.length_cons, List.length_cons]
          rcases List.mem_cons.mp hx with z | z
          · exact absurd z.symm e
          · have := ih z
            omega
    rw [List.length_cons]
    omega
theorem filter_less {α : Type} [DecidableEq α] {x : α} {D : List α} (hx : x ∈ D) : (D.filter fun y => !decide (y = x)).length < D.length := by
  induction D with
  | nil => cases hx
  | cons d D ih =>
    by_cases e : d = x
    · rw [List.filter_cons_of_neg (by simp [e]), List.length_cons]
      have := List.length_filter_le (fun y => !decide (y = x)) D
      omega
    · rw [List.filter_cons_of_pos (by simp [e]), List.length_cons, List.length_cons]
      rcases List.mem_cons.mp hx with z | z
      · exact absurd z.symm e
      · have := ih z
        omega
/-- the least by a number -/
theorem least_by {α : Type} (t : α → Nat) : ∀ l : List α, l ≠ [] → ∃ x ∈ l, ∀ y ∈ l, t x ≤ t y
  | [], h => absurd rfl h
  | a :: l, _ => by
    by_cases hl : l = []
    · subst hl
      exact ⟨a, List.mem_cons_self .., fun y hy => by rw [List.mem_singleton.mp hy]; exact Nat.le_refl _⟩
    · obtain ⟨x, hx, h⟩ := least_by t l hl
      by_cases hax : t a ≤ t x
      · refine ⟨a, List.mem_cons_self .., fun y hy => ?_⟩
        rcases List.mem_cons.mp hy with rfl | hy
        · exact Nat.le_refl _
        · exact Nat.le_trans hax (h y hy)
      · refine ⟨x, List.mem_cons_of_mem _ hx, fun y hy => ?_⟩
        rcases List.mem_cons.mp hy with rfl | hy
        · omega
        · exact h y hy
theorem any_encE (s : List Et) (x : Et) : ((s.map encE).any fun z => PyData.eqv z (encE x)) = decide (x ∈ s) := by
  rw [List.any_map]
  have e : ((fun z => PyData.eqv z (encE x)) ∘ encE) = fun y => decide (y = x) := funext fun y => eqv_encE y x
  rw [e]
  by_cases h : x ∈ s
  · rw [decide_eq_true h, List.any_eq_true]
    exact ⟨x, h, by simp⟩
  · rw [decide_eq_false h, List.any_eq_false]
    exact fun y hy => by
      have : y ≠ x := fun e => h (e ▸ hy)
      simp [this]
theorem eqv_nil (l : List PyData) : PyData.eqv (.list l) (.list []) = decide (l = []) := by
  cases l with
  | nil => simp [PyData.eqv, PyData.eqvAll]
  | cons a l => simp [PyData.eqv, PyData.eqvAll]
theorem rk_repL {M : List Mu} {ds : List PyData} {k : Int} (h1 : 0 ≤ k) (h2 : k ≤ 10) (hl : ds.length ≤ 100) : RK rRep M (kD (.list ds)) (kI k) (kD (.list (List.replicate k.toNat ds).flatten)) := fun x y F B C o px py Q q => by
  obtain ⟨l, xs, rfl, h3, h4⟩ := px.lst_inv
  have e := h4.length
  refine ⟨l, k, xs, rfl, py.int_inv, o.ex _ _ h3, by omega, by omega, ?_, fun p hp => q _ _ _ (Ex.new (o.ex.back hp)) (o.new hp) (.lst upd_same ?_)⟩
  · rw [sizeLine_eq]
    have := Nat.mul_le_mul (show xs.length ≤ 100 by omega) (show k.toNat ≤ 10 by omega)
    omega
  · have h5 := TkAll.ex (Ex.new (o := .lst (List.replicate k.toNat xs).flatten) (o.ex.back hp)) _ _ h4
    have key : ∀ n : Nat, TkAll (upd B p (.lst (List.replicate k.toNat xs).flatten)) (List.replicate n xs).flatten (List.replicate n ds).flatten := fun n => by
      induction n with
      | zero => exact .nil
      | succ n ih =>
        rw [List.replicate_succ, List.replicate_succ, List.flatten_cons, List.flatten_cons]
        exact h5.append ih
    exact key _
/-! ### plain: what stands just ahead -/
def preE (e : Et) : List Et := if e.2 = 0 then [] else [(e.1, e.2 - 1)]
def bfE (ms : List Mg) (e : Et) : List Et := preE e ++ (ms.filter fun m => decide (m.2 = e)).map (·.1)
theorem bfE_nil (e : Et) : bfE [] e = preE e := by
  unfold bfE
  rw [List.filter_nil, List.map_nil, List.append_nil]
theorem bfE_next {ms : List Mg} {i : Nat} {m : Mg} (h : ms[i]? = some m) (e : Et) : bfE (ms.take (i + 1)) e = if e = m.2 then bfE (ms.take i) e ++ [m.1] else bfE (ms.take i) e := by
  unfold bfE
  rw [take_next h, List.filter_append, List.map_append]
  by_cases c : e = m.2
  · rw [if_pos c, List.filter_cons_of_pos (by simp [c]), List.filter_nil, List.append_assoc]
    rfl
  · rw [if_neg c, List.filter_cons_of_neg (by simp [Ne.symm c]), List.filter_nil, List.map_nil, List.append_nil]
theorem bfE_len (ms : List Mg) (e : Et) : (bfE ms e).length ≤ 1 + ms.length := by
  unfold bfE preE
  have := List.length_filter_le (fun m : Mg => decide (m.2 = e)) ms
  rw [List.length_append, List.length_map]
  split
  · simp only [List.length_nil]; omega
  · simp only [List.length_cons, List.length_nil]; omega
theorem bfE_nx {L : Lg} (ok : LgOk L) {o e : Et} (he : e ∈ L.evs) (h : o ∈ bfE L.ms e) : o ∈ L.evs ∧ Nx L.evs L.ms o e := by
  unfold bfE at h
  rcases List.mem_append.mp h with h | h
  · unfold preE at h
    split at h
    · cases h
    · rename_i hz
      have eo := List.mem_singleton.mp h
      subst eo
      refine ⟨Lg.down _ _ _ he (Nat.sub_le _ _), .inl ⟨?_, he⟩⟩
      show e = (e.1, e.2 - 1 + 1)
      rw [Nat.sub_add_cancel (by omega)]
  · obtain ⟨m, hm, rfl⟩ := List.mem_map.mp h
    obtain ⟨h1, h2⟩ := List.mem_filter.mp hm
    have h2 : m.2 = e := of_decide_eq_true h2
    subst h2
    exact ⟨(ok.ms m h1).1, .inr h1⟩
/-- ahead, as far as it is listed -/
def LsOk (L : Lg) (l : Et → List Et) : Prop := ∀ e o, o ∈ l e → ah L o e = true
/-- a number that grows along all that is next -/
structure RkOk (L : Lg) (t : Et → Nat) : Prop where
  lt : ∀ a b, Nx L.evs L.ms a b → t a < t b
theorem RkOk.reach {L : Lg} {t : Et → Nat} (rk : RkOk L t) {a b : Et} (h : Reach (Nx L.evs L.ms) a b) : t a < t b := by
  induction h with
  | one r => exact rk.lt _ _ r
  | more _ r ih => exact Nat.lt_trans ih (rk.lt _ _ r)
/-- while it is listed -/
structure OrS where
  left : List Et
  fd : Et → Option (List Et)
  n : Nat
structure OrI (L : Lg) (s : OrS) : Prop where
  sub : ∀ e ∈ s.left, e ∈ L.evs
  all : ∀ e ∈ L.evs, e ∈ s.left ∨ (s.fd e).isSome = true
  fe : ∀ e l, s.fd e = some l → e ∈ L.evs ∧ l.Nodup ∧ ∀ o ∈ l, o ∈ L.evs ∧ ah L o e = true
  n : s.n + s.left.length ≤ L.evs.length
def readyE (L : Lg) (s : OrS) (e : Et) : Bool := ((bfE L.ms e).map fun o => (s.fd o).isSome).all id
theorem ready_ex {L : Lg} (ok : LgOk L) {t : Et → Nat} (rk : RkOk L t) {s : OrS} (I : OrI L s) (h : s.left ≠ []) : ∃ e r, s.left.filter (readyE L s) = e :: r := by
  obtain ⟨x, hx, hl⟩ := least_by t s.left h
  have hr : readyE L s x = true := by
    unfold readyE
    rw [List.all_map, List.all_eq_true]
    intro o ho
    obtain ⟨h1, h2⟩ := bfE_nx ok (I.sub x hx) ho
    rcases I.all o h1 with h3 | h3
    · have h4 := rk.lt _ _ h2
      have h5 := hl o h3
      omega
    · exact h3
  have hm : x ∈ s.left.filter (readyE L s) := List.mem_filter.mpr ⟨hx, hr⟩
  cases hf : s.left.filter (readyE L s) with
  | nil => rw [hf] at hm; cases hm
  | cons e r => exact ⟨e, r, rfl⟩
def fdK (fd : Et → Option (List Et)) : Et → Option Kn := fun e => (fd e).map fun l => kD (.list (l.map encE))
def bfK (L : Lg) (ms : List Mg) : Et → Option Kn := fun e => if e ∈ L.evs then some (kD (.list ((bfE ms e).map encE))) else none
/-- .. of one event -/
structure AcI (L : Lg) (h : Et) (s : List Et) : Prop where
  nd : s.Nodup
  ah : ∀ x ∈ s, x ∈ L.evs ∧ ah L x h = true
theorem AcI.len {L : Lg} {h : Et} {s : List Et} (I : AcI L h s) : s.length ≤ L.evs.length := nd_len _ _ I.nd fun x hx => (I.ah x hx).1
theorem AcI.more {L : Lg} {t : Et → Nat} (rk : RkOk L t) {h o : Et} {s l : List Et} (I : AcI L h s) (ho : o ∈ L.evs) (hn : Nx L.evs L.ms o h) (hl : l.Nodup ∧ ∀ x ∈ l, x ∈ L.evs ∧ Fw.ah L x o = true) : AcI L h (s ++ (l ++ [o]).filter fun x => !decide (x ∈ s)) := by
  have hol : o ∉ l := fun hm => by
    have h1 := rk.reach (ah_iff.mp (hl.2 o hm).2)
    omega
  have hnd : (l ++ [o]).Nodup := List.nodup_append.mpr ⟨hl.1, List.pairwise_singleton _ _, fun a ha b hb e => hol (by rw [← List.mem_singleton.mp hb, ← e]; exact ha)⟩
  refine ⟨List.nodup_append.mpr ⟨I.nd, hnd.filter _, fun a ha b hb e => ?_⟩, fun x hx => ?_⟩
  · have := (List.mem_filter.mp hb).2
    rw [← e] at this
    simp [ha] at this
  · rcases List.mem_append.mp hx with hx | hx
    · exact I.ah x hx
    · rcases List.mem_append.mp (List.mem_filter.mp hx).1 with hx | hx
      · obtain ⟨h1, h2⟩ := hl.2 x hx
        exact ⟨h1, ah_iff.mpr (.more (ah_iff.mp h2) hn)⟩
      · rw [List.mem_singleton.mp hx]
        exact ⟨ho, ah_iff.mpr (.one hn)⟩
theorem OrI.put {L : Lg} {s : OrS} (I : OrI L s) {h : Et} {l : List Et} (hh : h ∈ s.left) (hl : AcI L h l) : OrI L ⟨s.left.filter fun x => !decide (x = h), fun x => if x = h then some l else s.fd x, s.n + 1⟩ := by
  refine ⟨fun e he => I.sub e (List.mem_filter.mp he).1, fun e he => ?_, fun e l' q => ?_, ?_⟩
  · by_cases c : e = h
    · exact .inr (by show (if e = h then some l else s.fd e).isSome = true; rw [if_pos c]; rfl)
    · rcases I.all e he with z | z
      · exact .inl (List.mem_filter.mpr ⟨z, by simp [c]⟩)
      · exact .inr (by show (if e = h then some l else s.fd e).isSome = true; rw [if_neg c]; exact z)
  · have q : (if e = h then some l else s.fd e) = some l' := q
    by_cases c : e = h
    · rw [if_pos c] at q
      cases q
      subst c
      exact ⟨I.sub e hh, hl.nd, hl.ah⟩
    · rw [if_neg c] at q
      exact I.fe e l' q
  · have h1 := I.n
    have h2 := filter_less hh
    show s.n + 1 + (s.left.filter fun x => !decide (x = h)).length ≤ L.evs.length
    omega
section
variable {P : Program} {w : World} {K : PySem.W.Frag} {mg : Str → Option Value} {base : Heap}
def kLs (L : Lg) (l : Et → List Et) : Kn := kDT fun e => if e ∈ L.evs then some (kD (.list ((l e).map encE))) else none
abbrev spOrder : Sp := spP (fun p : Lg × (Et → Nat) => LgOk p.1 ∧ RkOk p.1 p.2) (fun p => [kD (encLg p.1)]) (fun p => kEx fun l : { l : Et → List Et // LsOk p.1 l } => kLs p.1 l.1)
theorem r__law_order (T : Tx K mg) : FnR P w K mg base CX0 2 (He.ga K "_law_order") spOrder := by
  obtain ⟨fd, F⟩ := T.says.def_ 44 (d := (gD "_law_order" 38))
  have nd : (["_law_log_so", "_law_left", "_law_found", "_law_before", "_law_sent", "_law_come", "_law_here", "_law_some", "_law_own", "_law_far", "_law_event_so"] : List Str).Nodup := by decide +kernel
  refine fn_r (N := ["_law_log_so", "_law_left", "_law_found", "_law_before", "_law_sent", "_law_come", "_law_here", "_law_some", "_law_own", "_law_far", "_law_event_so"]) (ps := ["_law_log_so"]) F ⟨rfl, rfl, rfl, nd, rfl, by decide +kernel, by decide +kernel⟩ (F.bindsN fun _ _ _ _ _ _ us hl => match us, hl with | [_], _ => rfl) .nil (fun _ _ => rfl) fun cdv A outer s H E hr => ?_
  have hu := hu_of hr
  have hu64 := hr.units
  have hu65 := room65 hr
  refine ⟨_, (pss_cons (ps_asg (pe_tup (pa_cons (pe_g (r__law_events T) hr (by decide) (T.glo 24) (T.kp 42 (d := (gD "_law_events" 36))) (pa_cons (pv 0) pa_nil)) (pa_cons (pe_dnewT) pa_nil))) (k_gT K (n := 2) rfl (pgs_cons (pg_name (i := 1) nd rfl (Or.inl rfl)) (pgs_cons (pg_name (i := 2) nd rfl (Or.inr rfl)) pgs_nil))))
      (pss_cons (ps_set (i := 3) nd rfl (Or.inr rfl) (pe_callTy (k_dictTL K rfl hu64) (by rfl) (T.free 52) (by decide +kernel) (pa_cons (pe_lc (own := [("_law_event_so", 10)]) rfl nd (k_iL K (pv 1)) (blkOk_by (own := [("_law_event_so", 10)]) (N := ["_law_log_so", "_law_left", "_law_found", "_law_before", "_law_sent", "_law_come", "_law_here", "_law_some", "_law_own", "_law_far", "_law_event_so"]) (sc := defScope (top 38)) (by decide +kernel)) (fun _ _ _ _ _ => (pg_name (i := 10) nd rfl (Or.inl rfl))) (fun _ _ _ _ _ => pts_nil) (fun _ _ _ _ _ => (pe_tup (pa_cons (pv 10) (pa_cons (pe_op op_rep (pe_lst (pa_cons (pe_tup (pa_cons (pe_ix (k_ixT K) (pv 10) pe_int (fun _ _ => rfl)) (pa_cons (pe_op op_sub (pe_ix (k_ixT K) (pv 10) pe_int (fun _ _ => rfl)) pe_int) pa_nil))) pa_nil)) (pe_callTy call_int1 (by rfl) (T.free 48) (by decide +kernel) (pa_cons (pe_cmpR op_gt (pe_ix (k_ixT K) (pv 10) pe_int (fun _ _ => rfl)) pe_int (nomark _)) pa_nil))) pa_nil))))) pa_nil)))
      (pss_cons (ps_for PassesOwn.never rfl (k_iT K (pe_ix (k_ixT K) (pv 0) pe_int (fun _ _ => rfl))) (k_gT K (n := 2) rfl (pgs_cons (pg_name (i := 4) nd rfl (Or.inl rfl)) (pgs_cons (pg_name (i := 5) nd rfl (Or.inl rfl)) pgs_nil))) (pss_cons (ps_dput hu (pv 3) (pv 5) (pe_op op_cat (pe_dget hu (pv 3) (pv 5) (fun _ _ => rfl)) (pe_lst (pa_cons (pv 4) pa_nil))) rfl)
      pss_nil))
      (pss_cons (ps_while PassesOwn.never (pt_cmpR (k_ne K hu64) (pv 1) (pe_lst pa_nil) (nomark _)) (pss_cons (ps_set (i := 6) nd rfl (Or.inr rfl) (pe_ix (k_ixL K) (pe_lc (own := [("_law_event_so", 10)]) rfl nd (k_iL K (pv 1)) (blkOk_by (own := [("_law_event_so", 10)]) (N := ["_law_log_so", "_law_left", "_law_found", "_law_before", "_law_sent", "_law_come", "_law_here", "_law_some", "_law_own", "_law_far", "_law_event_so"]) (sc := defScope (top 38)) (by decide +kernel)) (fun _ _ _ _ _ => (pg_name (i := 10) nd rfl (Or.inl rfl))) (fun _ _ _ _ _ => (pts_one (pt_val (pe_callB (k_all K rfl) (by rfl) (T.free 47) (by decide +kernel) (pa_cons (pe_lc (own := [("_law_own", 8)]) rfl nd (k_iL K (pe_dget hu (pv 3) (pv 10) (fun _ _ => rfl))) (blkOk_by (own := [("_law_own", 8)]) (N := ["_law_log_so", "_law_left", "_law_found", "_law_before", "_law_sent", "_law_come", "_law_here", "_law_some", "_law_own", "_law_far", "_law_event_so"]) (sc := scOrder) (by decide +kernel)) (fun _ _ _ _ _ => (pg_name (i := 8) nd rfl (Or.inl rfl))) (fun _ _ _ _ _ => pts_nil) (fun _ _ _ _ _ => (pe_cmp (pc_din hu (pv 8) (pv 2))))) pa_nil))))) (fun _ _ _ _ _ => (pv 10))) pe_int (fun _ _ => rfl)))
      (pss_cons (ps_set (i := 7) nd rfl (Or.inr rfl) (pe_lst pa_nil))
      (pss_cons (ps_for PassesOwn.never rfl (k_iL K (pe_dget hu (pv 3) (pv 6) (fun _ _ => rfl))) (pg_name (i := 8) nd rfl (Or.inl rfl)) (pss_cons (ps_set (i := 7) nd rfl (Or.inr rfl) (pe_op op_cat (pv 7) (pe_lc (own := [("_law_far", 9)]) rfl nd (k_iL K (pe_op op_cat (pe_dget hu (pv 2) (pv 8) (fun _ _ => rfl)) (pe_lst (pa_cons (pv 8) pa_nil)))) (blkOk_by (own := [("_law_far", 9)]) (N := ["_law_log_so", "_law_left", "_law_found", "_law_before", "_law_sent", "_law_come", "_law_here", "_law_some", "_law_own", "_law_far", "_law_event_so"]) (sc := defScope (top 38)) (by decide +kernel)) (fun _ _ _ _ _ => (pg_name (i := 9) nd rfl (Or.inl rfl))) (fun _ _ _ _ _ => (pts_one (pt_cmpR (k_nin K hu65) (pv 9) (pv 7) rfl))) (fun _ _ _ _ _ => (pv 9)))))
      pss_nil))
      (pss_cons (ps_dput hu (pv 2) (pv 6) (pv 7) rfl)
      (pss_cons (ps_setLc (i := 1) (own := [("_law_event_so", 10)]) rfl nd rfl rfl (sw_true rfl rfl rfl (by decide +kernel)) (k_iL K (pv 1)) (blkOk_by (own := [("_law_event_so", 10)]) (N := ["_law_log_so", "_law_left", "_law_found", "_law_before", "_law_sent", "_law_come", "_law_here", "_law_some", "_law_own", "_law_far", "_law_event_so"]) (sc := defScope (top 38)) (by decide +kernel)) (fun _ _ _ _ _ => (pg_name (i := 10) nd rfl (Or.inl rfl))) (fun _ _ _ _ _ => (pts_one (pt_cmpR (k_ne K hu64) (pv 10) (pv 6) (nomark _)))) (fun _ _ _ _ _ => (pv 10)))
      pss_nil))))))
      (pss_cons (ps_ret (pv 2))
      pss_nil))))), fun a hp => ?_⟩
  obtain ⟨L, t⟩ := a
  obtain ⟨ok, rk⟩ : LgOk L ∧ RkOk L t := hp
  have hle := ok.le
  have hlm := ok.lm
  refine go_asgG (eg_tup (eag_cons (ev_fn (res := fun L : Lg => kD (.list (L.evs.map encE))) L (ea_one (ev_var rfl)) ok) (eag_new eg_dnewE fun D => (ea_nil (M := mDT D (fun _ => none) 0 :: [])).g)) 2 fun _ => rfl) (fun _ => tg_two) fun D => ?_
  obtain ⟨Fd, _⟩ := D
  have ev2 : ∀ (Γ : Ga) (M : List Mu) (e : Et), Γ[10]? = some (some (kD (encE e))) → Ev (tOp (rIxT K) (tVar 10) (tC (.int 1))) Γ M M (kI (e.2 : Nat)) := fun Γ M e h => ev_op (ev_var h) ev_int (rk_ixT (n := 1) rfl)
  refine go_setG (eg_dictTL (l := L.evs) (g := fun e => .list ((preE e).map encE)) (ev_lcA L.evs (fun e => kD (encE e)) (fun e => .tuple [encE e, .list ((preE e).map encE)]) (ei_lstE (ev_var rfl)) sub_nil (by omega) fun i e he => ⟨_, [10], tg_name, in_one, et_yes, fun _ => ev_tup2D (ev_var rfl) ((ev_op (ev_lst1D (ev_tup2D (ev_op (ev_var rfl) ev_int (rk_ixT (n := 0) rfl)) (ev_op (ev2 _ _ e rfl) ev_int rk_sub))) (ev_cb (ea_one (ev_op (ev2 _ _ e rfl) ev_int rk_gt)) ck_intB) (rk_repL ?_ ?_ (by simp))).is ?_)⟩)) fun Bd => ?_
  · split <;> decide
  · split <;> decide
  · unfold preE
    by_cases hz : e.2 = 0
    · simp [hz]
    · have h1 : (0 : Int) < (e.2 : Int) := by omega
      have h2 : ((e.2 : Nat) : Int) - 1 = ((e.2 - 1 : Nat) : Int) := by omega
      have e1 : (if decide ((0 : Int) < (e.2 : Int)) = true then (1 : Int) else 0) = 1 := if_pos (decide_eq_true h1)
      rw [e1, if_neg hz, h2]
      rfl
  have e0 : (fun x => if x ∈ L.evs then some (kD (PyData.list ((preE x).map encE))) else none) = bfK L (L.ms.take 0) := funext fun x => by
    unfold bfK
    rw [List.take_zero, bfE_nil]
  rw [e0]
  refine go_forN (fun _ => [some (kD (encLg L)), some (kD (.list (L.evs.map encE))), some (kC (.ref Fd)), some (kC (.ref Bd)), none, none, none, none, none, none, none]) (fun i => [mDT Bd (bfK L (L.ms.take i)) (L.evs.length + i), mDT Fd (fun _ => none) 0]) (ei_tupE (f := encM) (ev_op (ev_var rfl) ev_int (rk_ixT (n := 1) rfl))) (Less.refl _) (.refl _) (fun _ => sub_nil) (fun i k hi hk => ?_) ?_
  · rw [List.getElem?_map] at hk
    obtain ⟨m, hm, rfl⟩ := Option.map_eq_some_iff.mp hk
    have hi : i < L.ms.length := (List.getElem?_eq_some_iff.mp hm).1
    have hmm := ok.ms m (List.mem_of_getElem? hm)
    have hb : bfK L (L.ms.take i) m.2 = some (kD (.list ((bfE (L.ms.take i) m.2).map encE))) := if_pos hmm.2
    have hbl := bfE_len (L.ms.take i) m.2
    rw [List.length_take] at hbl
    refine ⟨_, [4, 5], tg_twoD, go_dputE (D := Bd) (ev_op (ev_dgetE (List.mem_cons_self ..) (ev_var rfl) (ev_var rfl) hb) (ev_lst1D (ev_var rfl)) (rk_cat (by simp; omega))) (ev_var rfl) (ev_var rfl) (.refl _) (by omega) (go_nil ⟨⟨fun _ _ z => z, fun _ _ z => z, fun _ _ z => z, fun _ _ z => z, True.intro⟩, ?_⟩)⟩
    have ef : (fun x => if x = m.2 then some (kD (PyData.list ((bfE (L.ms.take i) m.2).map encE ++ [encE m.1]))) else bfK L (L.ms.take i) x) = bfK L (L.ms.take (i + 1)) := funext fun x => by
      unfold bfK
      rw [bfE_next hm]
      by_cases c : x = m.2
      · subst c
        rw [if_pos rfl, if_pos hmm.2, if_pos rfl, List.map_append]
        rfl
      · rw [if_neg c, if_neg c]
    rw [ef]
    exact .refl _
  rw [List.length_map, List.take_length]
  refine go_while (S := OrS) (OrI L) (fun s => s.left.length) (fun s => [some (kD (encLg L)), some (kD (.list (s.left.map encE))), some (kC (.ref Fd)), some (kC (.ref Bd)), none, none, none, none, none, none, none]) (fun s => [mDT Fd (fdK s.fd) s.n, mDT Bd (bfK L L.ms) (L.evs.length + L.ms.length)]) ⟨L.evs, fun _ => none, 0⟩ ⟨fun e h => h, fun e h => .inl h, fun e l q => (nomatch q), by simp⟩ (Less.refl _) (.swap _ _ _) fun s I => ⟨!decide (s.left.map encE = []), et_test (ev_op (ev_var rfl) ev_lst0D (rk_neD (Sh.shaped (Sh.lsts (n := 1) Sh.ev)) (Sh.shaped (Sh.lst (n := 0) fun d hd => nomatch hd)) (by rw [eqv_nil]))), fun hb => ?_, fun hb => ?_⟩
  · have hne : s.left ≠ [] := fun e => by rw [e] at hb; simp at hb
    obtain ⟨here, rest, hf⟩ := ready_ex ok rk I hne
    have hhf : here ∈ s.left.filter (readyE L s) := by rw [hf]; exact List.mem_cons_self ..
    obtain ⟨hhl, hhr⟩ := List.mem_filter.mp hhf
    have hhe := I.sub here hhl
    have hlen := I.n
    let Mw : List Mu := [mDT Fd (fdK s.fd) s.n, mDT Bd (bfK L L.ms) (L.evs.length + L.ms.length)]
    have mF : mDT Fd (fdK s.fd) s.n ∈ Mw := List.mem_cons_self ..
    have mB : mDT Bd (bfK L L.ms) (L.evs.length + L.ms.length) ∈ Mw := List.mem_cons_of_mem _ (List.mem_cons_self ..)
    have bget : ∀ e, e ∈ L.evs → bfK L L.ms e = some (kD (.list ((bfE L.ms e).map encE))) := fun e he => if_pos he
    have blen : ∀ e, (bfE L.ms e).length ≤ 50000 := fun e => by have := bfE_len L.ms e; omega
    have fdS : ∀ o, (fdK s.fd o).isSome = (s.fd o).isSome := fun o => Option.isSome_map
    refine go_set (k := kD (encE here)) (ev_op (ev_lcD s.left (fun e => kD (encE e)) (readyE L s) encE (ei_lstE (ev_var rfl)) sub_nil (by omega) fun i e he => ⟨_, [10], tg_name, in_one, et_B (ev_cb (ea_one ((ev_lcA (bfE L.ms e) (fun o => kD (encE o)) (fun o => .bool (s.fd o).isSome) (ei_lstE (ev_dgetE mB (ev_var rfl) (ev_var rfl) (bget e (I.sub e (List.mem_of_getElem? he))))) sub_nil (blen e) fun j o ho => ⟨_, [8], tg_name, in_one, et_yes, fun _ => ev_dinE mF (ev_var rfl) (ev_var rfl) (fdS o)⟩).is (d' := .list (((bfE L.ms e).map fun o => (s.fd o).isSome).map .bool)) (by rw [List.map_map]; rfl))) ck_all), fun _ => ev_var rfl⟩) ev_int (rk_ixL (n := 0) (by rw [hf]; rfl))) ?_
    refine go_set ev_lst0D ?_
    refine go_for (S := List Et) (fun _ l => AcI L here l) (fun l => [some (kD (encLg L)), some (kD (.list (s.left.map encE))), some (kC (.ref Fd)), some (kC (.ref Bd)), none, none, some (kD (encE here)), some (kD (.list (l.map encE))), none, none, none]) (fun _ => Mw) [] (ei_lstE (ev_dgetE mB (ev_var rfl) (ev_var rfl) (bget here hhe))) ⟨List.nodup_nil, fun x hx => nomatch hx⟩ (Less.refl _) (.refl _) (fun _ _ _ => sub_nil) (fun j l k hl hk => ?_) fun l hl => ?_
    · rw [List.getElem?_map] at hk
      obtain ⟨o, ho, rfl⟩ := Option.map_eq_some_iff.mp hk
      have hob := List.mem_of_getElem? ho
      obtain ⟨hoe, hon⟩ := bfE_nx ok hhe hob
      have hso : (s.fd o).isSome = true := by
        have h1 := hhr
        unfold readyE at h1
        rw [List.all_map, List.all_eq_true] at h1
        exact h1 o hob
      obtain ⟨lo, hlo⟩ := Option.isSome_iff_exists.mp hso
      have hlo2 := (I.fe o lo hlo).2
      have hfo : fdK s.fd o = some (kD (.list (lo.map encE))) := by unfold fdK; rw [hlo]; rfl
      have l1 := nd_len lo L.evs hlo2.1 fun x hx => (hlo2.2 x hx).1
      have l2 := hl.len
      have l3 := List.length_filter_le (fun x => !decide (x ∈ l)) (lo ++ [o])
      rw [List.length_append, List.length_singleton] at l3
      refine ⟨_, [8], tg_name, go_set ((ev_op (ev_var rfl) (ev_lcD (lo ++ [o]) (fun e => kD (encE e)) (fun x => !decide (x ∈ l)) encE (ei_lstE ((ev_op (ev_dgetE mF (ev_var rfl) (ev_var rfl) hfo) (ev_lst1D (ev_var rfl)) (rk_cat (by simp; omega))).is (d' := .list ((lo ++ [o]).map encE)) (by rw [List.map_append]; rfl))) sub_nil (by rw [List.length_append, List.length_singleton]; omega) fun i x hx => ⟨_, [9], tg_name, in_one, et_test (ev_op (ev_var rfl) (ev_var rfl) (rk_notInD (Sh.ev x).shaped (Sh.shaped (Sh.lsts (n := 1) Sh.ev)) (by rw [any_encE]))), fun _ => ev_var rfl⟩) (rk_cat (by simp only [List.length_map]; omega))).is (d' := .list ((l ++ (lo ++ [o]).filter fun x => !decide (x ∈ l)).map encE)) (by rw [List.map_append])) (go_nil ⟨l ++ (lo ++ [o]).filter fun x => !decide (x ∈ l), hl.more rk hoe hon hlo2, ⟨fun _ _ z => z, fun _ _ z => z, fun _ _ z => z, fun _ _ z => z, fun _ _ z => z, fun _ _ z => z, True.intro⟩, .refl _⟩)⟩
    · refine go_dputE (D := Fd) (ev_var rfl) (ev_var rfl) (ev_var rfl) (.refl _) (by omega) ?_
      have ef : (fun x => if x = here then some (kD (PyData.list (l.map encE))) else fdK s.fd x) = fdK (fun x => if x = here then some l else s.fd x) := funext fun x => by
        show _ = Option.map _ (if x = here then some l else s.fd x)
        by_cases c : x = here
        · rw [if_pos c, if_pos c]
          rfl
        · rw [if_neg c, if_neg c]
          rfl
      rw [ef]
      refine go_set (ev_lcD s.left (fun e => kD (encE e)) (fun x => !decide (x = here)) encE (ei_lstE (ev_var rfl)) sub_nil (by omega) fun i e he => ⟨_, [10], tg_name, in_one, et_test (ev_op (ev_var rfl) (ev_var rfl) rk_neE), fun _ => ev_var rfl⟩) ?_
      exact go_nil ⟨⟨s.left.filter fun x => !decide (x = here), fun x => if x = here then some l else s.fd x, s.n + 1⟩, I.put hhl hl, filter_less hhl, ⟨fun _ _ z => z, fun _ _ z => z, fun _ _ z => z, fun _ _ z => z, True.intro⟩, .refl _⟩
  · have hz : s.left = [] := by
      have h1 : s.left.map encE = [] := by simpa using hb
      exact List.map_eq_nil_iff.mp h1
    refine go_frzE (i := 2) rfl (go_forget (go_retTo (ev_var rfl) fun v B q => ⟨⟨fun e => (s.fd e).getD [], fun e o ho => ?_⟩, ?_⟩))
    · have ho : o ∈ (s.fd e).getD [] := ho
      cases hs : s.fd e with
      | none =>
        rw [hs] at ho
        cases ho
      | some l =>
        rw [hs] at ho
        exact ((I.fe e l hs).2.2 o ho).2
    · have ef : fdK s.fd = fun e => if e ∈ L.evs then some (kD (PyData.list (((s.fd e).getD []).map encE))) else none := funext fun e => by
        unfold fdK
        by_cases c : e ∈ L.evs
        · rw [if_pos c]
          rcases I.all e c with z | z
          · rw [hz] at z
            cases z
          · obtain ⟨l, hl⟩ := Option.isSome_iff_exists.mp z
            rw [hl]
            rfl
        · rw [if_neg c]
          cases hs : s.fd e with
          | none => rfl
          | some l => exact absurd (I.fe e l hs).1 c
      show (kDT fun e => if e ∈ L.evs then some (kD (PyData.list (((s.fd e).getD []).map encE))) else none).p v B
      rw [← ef]
      exact q
end
end Fw
set_option Elab.async false
set_option linter.all false
set_option maxRecDepth 100000
set_option maxHeartbeats 4000000
/-! rules for the drawing defs: tests not known ahead, new lists that change, dicts by name -/
namespace Fw
open PySem PySem.Spec PyProof.Rows L2

/-! ### tests not known ahead -/
def EvTG (tt : TT) (Γ : Ga) (M M' : List Mu) (ok : Bool → Prop) : Prop := ∀ (F : List Mu) (σ : L2.St) (B C : Hp), Sk Γ B σ → OkM (M ++ F) B C → ∀ Q : Bool → Hp → Prop, (∀ b B' C', ok b → Ex B B' → OkM (M' ++ F) B' C' → Q b C') → tt σ C Q
section
variable {P : Po} {Γ Γ1 : Ga} {M M1 M2 M3 : List Mu} {te ta tb : TE} {k kx ky kz : Kn} {tt tu : TT} {b c : Bool} {K : PySem.W.Frag} {t u rest : TS} {ok : Bool → Prop} {D : Addr} {ks : List Kn}
abbrev kBs : Kn := kEx fun b : Bool => kB b
theorem etg_test (h : Ev te Γ M M1 kBs) : EvTG (tTest te) Γ M M1 fun _ => True := fun F σ B C s o Q q => h F σ B C s o _ fun v B1 C1 e1 o1 ⟨b, p⟩ => ⟨b, Tk.bl_inv p, q b B1 C1 True.intro e1 o1⟩
theorem etg_B (h : Ev te Γ M M1 kBs) : EvTG (tB te) Γ M M1 fun _ => True := fun F σ B C s o Q q => h F σ B C s o _ fun v B1 C1 e1 o1 ⟨b, p⟩ => ⟨b, Tk.bl_inv p, q b B1 C1 True.intro e1 o1⟩
/-- the left is known -/
theorem etg_and (h1 : EvT tt Γ M M b) (hw : ∀ F B C, OkM (M ++ F) B C → OkM (M1 ++ F) B C) (h2 : b = true → EvTG tu Γ M M1 ok) (h0 : b = false → ok false) : EvTG (tAnd tt tu) Γ M M1 ok := fun F σ B C s o Q q => h1 F σ B C s o _ fun B1 C1 e1 o1 => by
  cases b with
  | true => exact h2 rfl F σ B1 C1 (s.ex e1) o1 Q fun d B2 C2 hd e2 o2 => q d B2 C2 hd (e1.trans e2) o2
  | false => exact q false B1 C1 (h0 rfl) e1 (hw F B1 C1 o1)
/-- the left is not known -/
theorem etg_andG (h1 : EvTG tt Γ M M1 fun _ => True) (h2 : EvT tu Γ M1 M1 c) : EvTG (tAnd tt tu) Γ M M1 fun d => d = true → c = true := fun F σ B C s o Q q => h1 F σ B C s o _ fun b B1 C1 _ e1 o1 => by
  cases b with
  | true => exact h2 F σ B1 C1 (s.ex e1) o1 Q fun B2 C2 e2 o2 => q c B2 C2 (fun z => z) (e1.trans e2) o2
  | false => exact q false B1 C1 (fun z => nomatch z) e1 o1
theorem go_ifG (h : EvTG tt Γ M M1 ok) (h1 : ok true → Go P t Γ M1) (h2 : ok false → Go P u Γ M1) : Go P (tIfS tt t u) Γ M := fun F σ B C D s o q => h F σ B C s o _ fun b B1 C1 hb e1 o1 => by
  cases b with
  | true => exact h1 hb F σ B1 C1 D (s.ex e1) o1 (q.ex e1)
  | false => exact h2 hb F σ B1 C1 D (s.ex e1) o1 (q.ex e1)
/-! numbers not known -/
theorem rk_gtG {b : Nat} {j : Int} : RK (rI0 fun i j => .bl (decide (j < i))) M (kLt b) (kI j) kBs := fun x y F B C o ⟨i, px⟩ py Q q => rk_gt x y F B C o px py Q fun z B' C' e o' p => q z B' C' e o' ⟨_, p⟩
theorem rk_ltG {b : Nat} {j : Int} : RK (rI0 fun i j => .bl (decide (i < j))) M (kLt b) (kI j) kBs := fun x y F B C o ⟨i, px⟩ py Q q => rk_lt x y F B C o px py Q fun z B' C' e o' p => q z B' C' e o' ⟨_, p⟩
theorem rk_eqG {b : Nat} {j : Int} : RK (rEqD K) M (kLt b) (kI j) kBs := fun x y F B C o ⟨i, px⟩ py Q q => rk_eqI x y F B C o px py Q fun z B' C' e o' p => q z B' C' e o' ⟨_, p⟩
/-- a number between -/
def kBt (a b : Nat) : Kn := kEx fun i : { i : Nat // a ≤ i ∧ i ≤ b } => kI (i.1 : Nat)
theorem rk_addG {a b : Nat} : RK (rI0 fun i j => .int (i + j)) M (kI (a : Nat)) (kLt b) (kBt a (a + b)) := fun x y F B C o px ⟨i, py⟩ Q q => rk_add x y F B C o px py Q fun z B' C' e o' p => q z B' C' e o' ⟨⟨a + i.1, by omega, by have := i.2; omega⟩, by
  show Tk B' z (.int ((a + i.1 : Nat) : Int))
  rw [Int.natCast_add]
  exact p⟩
theorem uk_neg {i : Int} : UK (rU fun i => .int (-i)) M (kI i) (kI (-i)) := fun x F B C o px Q q => ⟨i, px.int_inv, q _ B C (Ex.refl B) o (.int _)⟩
/-- the last one -/
theorem rk_ixT1 {ds : List PyData} {d : PyData} {i : Int} (hi : i = -1) : RK (rIxT K) M (kD (.tuple (ds ++ [d]))) (kI i) (kD d) := fun x y F B C o px py Q q => by
  obtain ⟨a, xs, rfl, h1, h2⟩ := px.tup_inv
  obtain ⟨v, hv, pv⟩ := h2.at (i := ds.length) (d := d) (by simp)
  have hl := h2.length
  rw [List.length_append, List.length_singleton] at hl
  have ex : xs = xs.take ds.length ++ [v] := by
    have h3 := take_next hv
    rw [List.take_of_length_le (by omega)] at h3
    exact h3
  refine ⟨a, xs, i, v, rfl, py.int_inv, SqT.of (o.ex _ _ h1), ?_, q _ B C (Ex.refl B) o pv⟩
  rw [hi, ex]
  exact atI_last _ _
/-! ### new lists that change -/
theorem eg_lc {α : Type} {wi : TI} {g : TG} {tt : TT} {te : TE} {vs : List Nat} {S : List Mu} (l : List α) (ki : α → Kn) (b : α → Bool) (ke : α → Kn) (hi : EvI wi Γ M M1 S (l.map ki)) (hS : ∀ m ∈ S, m ∈ M1) (hl : l.length ≤ 50000)
    (turn : ∀ (i : Nat) (a : α), l[i]? = some a → TurnK g tt te vs Γ M1 (ki a) (b a) (ke a)) : EvG (α := Addr) (tLc wi g tt te vs) Γ M (fun D => kC (.ref D)) (fun D => mLst D ((l.filter b).map ke) :: M1) := fun F σ B0 C0 sk o0 Q q =>
  hi F σ B0 C0 sk o0 _ fun J A C1 eA oA goes => fun D hD => by
    have hadd := oA.add (m := mLst D []) (C' := upd C1 D (.lst [])) (oA.ex.mut (oA.ex.back hD)) (fun a u z => by rw [upd_ne (ne_of_none z hD)]; exact z) ⟨[], upd_same, .nil⟩ fun a z => by rw [z]; exact hD
    have hlen : (l.map ki).length = l.length := by simp
    have sub : ∀ ks : List Kn, ∀ m ∈ S, m ∈ mLst D ks :: (M1 ++ F) := fun ks m hm => List.mem_cons_of_mem _ (List.mem_append_left _ (hS m hm))
    have perm : ∀ ks : List Kn, (mLst D ks :: (M1 ++ F)).Perm (M1 ++ (mLst D ks :: F)) := fun ks => List.perm_middle.symm
    refine ⟨fun i m C => m = l.length - i ∧ i ≤ l.length ∧ ∃ B, Ex A B ∧ OkM (mLst D (((l.take i).filter b).map ke) :: (M1 ++ F)) B C, ⟨l.length, by simp, Nat.zero_le _, A, Ex.refl A, hadd⟩, ?_⟩
    rintro i m C ⟨rfl, hil, B, eAB, ok⟩
    by_cases hlt : i < l.length
    · have hla : l[i]? = some l[i] := List.getElem?_eq_getElem hlt
      have hka : (l.map ki)[i]? = some (ki l[i]) := by rw [List.getElem?_map, hla]; rfl
      have htk : l.take (i + 1) = l.take i ++ [l[i]] := take_next hla
      refine .inr ⟨goes.go _ B C (sub _) eAB ok i (by omega), fun C' => i + 1 ≤ l.length ∧ ∃ B, Ex A B ∧ OkM (mLst D (((l.take (i + 1)).filter b).map ke) :: (M1 ++ F)) B C', fun C' h => ⟨l.length - (i + 1), by omega, rfl, h⟩, fun x C1 hy => ?_⟩
      obtain ⟨B1, e1, ok1, px⟩ := goes.yld _ B C (sub _) eAB ok i _ x C1 hka hy
      obtain ⟨Γ1, is, htg, hsub, htt, hte⟩ := turn i _ hla
      have sk1 : Sk (wipeG Γ vs) B1 (wipe σ vs) := (sk.ex ((eA.trans eAB).trans e1)).wipe vs
      refine htg _ x _ B1 C1 sk1 ok1 px _ fun σ2 sk2 hoff hlen2 => ⟨wipe_same (fun j hj => hoff j fun z => hj (hsub j z)) hlen2, ?_⟩
      refine htt (mLst D (((l.take i).filter b).map ke) :: F) σ2 B1 C1 sk2 (ok1.perm (perm _)) _ fun B2 C2 e2 ok2 => ?_
      by_cases hb : b l[i] = true
      · rw [if_pos hb]
        refine hte hb (mLst D (((l.take i).filter b).map ke) :: F) σ2 B2 C2 (sk2.ex e2) ok2 _ fun y B3 C3 e3 ok3 py => ?_
        have ok4 := ok3.perm (perm _).symm
        obtain ⟨acc, hacc, hall⟩ := ok4.head
        have z1 := hall.length
        have z2 := List.length_filter_le b (l.take i)
        rw [List.length_map] at z1
        rw [List.length_take] at z2
        refine ⟨acc, hacc, by rw [sizeLine_eq]; omega, hlt, B3, ((eAB.trans e1).trans e2).trans e3, ok4.chg (m' := mLst D (((l.take (i + 1)).filter b).map ke)) (ok4.ex.mut (ok4.off _ (List.mem_cons_self ..) D rfl)) (fun a ha => upd_ne ha) ⟨acc ++ [y], upd_same, ?_⟩ fun a ha => .inl ha⟩
        rw [htk, List.filter_append, List.map_append]
        refine hall.append ?_
        rw [List.filter_cons_of_pos hb]
        exact .cons py .nil
      · rw [if_neg hb]
        refine ⟨hlt, B2, (eAB.trans e1).trans e2, ?_⟩
        rw [htk, List.filter_append, List.map_append, List.filter_cons_of_neg hb]
        simpa using ok2.perm (perm _).symm
    · have ei : i = l.length := by omega
      subst ei
      rw [List.take_length] at ok
      exact .inl ⟨by have := goes.stop _ B C (sub _) eAB ok; rwa [hlen] at this, q D _ B C (eA.trans eAB) ok rfl⟩
/-- list(range(n)) -/
theorem eg_lstRg {n : Nat} (h : Ev te Γ M M1 (kI (n : Nat))) (hn : n ≤ 1000) : EvG (α := Addr) (tLstRg (tRg1 te)) Γ M (fun D => kC (.ref D)) (fun D => mLst D ((List.range n).map fun i : Nat => kI (i : Nat)) :: M1) := fun F σ B C s o Q q =>
  h F σ B C s o _ fun x B1 C1 e1 o1 px => ⟨n, px.int_inv, ⟨by omega, by omega, by omega, by omega, by omega⟩, fun l hl => by
    refine q l (.ref l) B1 _ e1 (o1.add (m := mLst l ((List.range n).map fun i : Nat => kI (i : Nat))) (o1.ex.mut (o1.ex.back hl)) (fun a u z => by rw [upd_ne (ne_of_none z hl)]; exact z) ⟨_, upd_same, ?_⟩ fun a z => by rw [z]; exact hl) rfl
    have e : rgV 0 (n : Int) = (List.range n).map fun i : Nat => V.int (i : Nat) := by
      unfold rgV
      have e1 : ((n : Int) - 0).toNat = n := by omega
      rw [e1]
      exact List.map_congr_left fun i _ => by rw [Int.zero_add]
    rw [e]
    have key : ∀ js : List Nat, AllK B1 (js.map fun i : Nat => kI (i : Nat)) (js.map fun i : Nat => V.int (i : Nat)) := fun js => by
      induction js with
      | nil => exact .nil
      | cons j js ih => exact .cons (.int _) ih
    exact key _⟩
/-- a changing list of data beside [] -/
theorem rk_neM {ds : List PyData} (hm : mLst D (ds.map kD) ∈ M) (hs : ∀ d ∈ ds, Sh 10 d) : RK (rNeD K) M (kC (.ref D)) (kD (.list [])) (kB (!decide (ds = []))) := fun x y F B C o px py Q q => by
  obtain ⟨xs, h1, h2⟩ := o.p _ (List.mem_append_left _ hm)
  cases (show x = .ref D from px)
  refine ⟨.list ds, .list [], .lst (SqL.of h1) (TkAll.ex o.ex _ _ (AllK.data.mp h2)).dp, (Tk.ex o.ex _ y py).dp, Sh.shaped (Sh.lst hs), Sh.shaped (Sh.lst (n := 0) fun d hd => nomatch hd), ?_⟩
  have e : (!PyData.eqv (.list ds) (.list [])) = !decide (ds = []) := by
    cases ds with
    | nil => simp [PyData.eqv, PyData.eqvAll]
    | cons a l => simp [PyData.eqv, PyData.eqvAll]
  rw [e]
  exact q _ B C (Ex.refl B) o (.bl _)
/-! ### dicts from names to numbers, that change -/
def mSz (D : Addr) (f : Nm → Option Nat) (n : Nat) : Mu where
  fp := fun a => a = D
  p := fun B C => ∃ kvs : List (Key × V), C D = some (.dK kvs) ∧ kvs.length ≤ n ∧ ∀ x : Nm, valV kvs (Sum.inr x.1) = (f x).map fun i => V.int (i : Nat)
  on := fun ⟨_, h, _⟩ e => ⟨_, e ▸ h⟩
  mono := fun e st ⟨kvs, h1, h2, h3⟩ => ⟨kvs, (st _ rfl).trans h1, h2, h3⟩
theorem ev_dgetS {f : Nm → Option Nat} {n m : Nat} (hm : mSz D f n ∈ M2) {x : Nm} (hd : Ev ta Γ M M1 (kC (.ref D))) (hy : Ev tb Γ M1 M2 (kD (.str x.1))) (h : f x = some m) : Ev (tDGet ta tb) Γ M M2 (kI (m : Nat)) := ev_dget hd hy fun a y F B C o pa py => by
  obtain ⟨kvs, h1, _, h2⟩ := o.p _ (List.mem_append_left _ hm)
  refine ⟨D, .int (m : Nat), pa, .inl ⟨kvs, Sum.inr x.1, .inl h1, by rw [py.str_inv]; rfl, ?_⟩, .int _⟩
  rw [h2 x, h]
  rfl
theorem go_dputZ {tv : TE} {f : Nm → Option Nat} {n m : Nat} {x : Nm} {M4 : List Mu} (hv : Ev tv Γ M M1 (kI (m : Nat))) (hd : Ev ta Γ M1 M2 (kC (.ref D))) (hy : Ev tb Γ M2 M3 (kD (.str x.1))) (hp : M3.Perm (mSz D f n :: M4)) (hl : n ≤ 100000)
    (hr : Go P rest Γ (mSz D (fun y => if y = x then some m else f y) (n + 1) :: M4)) : Go P (tSeq (sDPut ta tb tv) rest) Γ M := fun F σ B C E s ok q =>
  hv F σ B C s ok _ fun v B1 C1 e1 o1 pv => hd F σ B1 C1 (s.ex e1) o1 _ fun a B2 C2 e2 o2 pa => hy F σ B2 C2 (s.ex (e1.trans e2)) o2 _ fun y B3 C3 e3 o3 py => by
    have o4 : OkM (mSz D f n :: (M4 ++ F)) B3 C3 := o3.perm (hp.append_right F)
    obtain ⟨kvs, h4, hn, h5⟩ := o4.head
    cases (show a = .ref D from pa)
    have ey : y = kV (Sum.inr x.1) := by rw [py.str_inv]; rfl
    subst ey
    refine ⟨D, _, rfl, DPut.k h4 (by rw [sizeLine_eq]; omega), hr F σ B3 _ E (s.ex ((e1.trans e2).trans e3)) ?_ (q.ex ((e1.trans e2).trans e3))⟩
    refine o4.chg (m' := mSz D (fun y => if y = x then some m else f y) (n + 1)) (o4.ex.mut (o4.off _ (List.mem_cons_self ..) D rfl)) (fun a ha => upd_ne ha) ⟨_, upd_same, by have := length_putK kvs (Sum.inr x.1) v; omega, fun z => ?_⟩ fun a ha => .inl ha
    show _ = Option.map _ (if z = x then some m else f z)
    rw [valV_put]
    by_cases hz : z = x
    · subst hz
      rw [if_pos rfl, if_pos rfl, pv.int_inv]
      rfl
    · rw [if_neg fun w => hz (Subtype.ext (Sum.inr.inj w)), if_neg hz]
      exact h5 z
/-- dict([(x, 0) for x in l]) -/
theorem tk_prsS {B : Hp} : ∀ {l : List Nm} {xs : List V}, TkAll B xs (l.map fun x => .tuple [.str x.1, .int 0]) → ∃ as : List Addr, xs = as.map V.ref ∧ Paired (fun a (kv : Key × V) => B a = some (.tup [kV kv.1, kv.2])) as (l.map fun x => (Sum.inr x.1, V.int 0))
  | [], xs, h => by
    cases h
    exact ⟨[], rfl, .nil⟩
  | p :: ps, xs, h => by
    cases h with
    | cons h t =>
      obtain ⟨as, e, hp⟩ := tk_prsS t
      obtain ⟨a, ys, rfl, h1, h2⟩ := Tk.tup_inv h
      cases h2 with
      | cons p1 h2 =>
        cases h2 with
        | cons p2 h2 =>
          cases h2
          rw [p1.str_inv, p2.int_inv] at h1
          exact ⟨a :: as, by rw [List.map_cons, e], .cons h1 hp⟩
theorem valV_zero (l : List Nm) (x : Nm) : valV (l.map fun x : Nm => ((Sum.inr x.1 : Key), V.int 0)) (Sum.inr x.1) = (if x ∈ l then some 0 else none : Option Nat).map fun i => V.int (i : Nat) := by
  induction l with
  | nil => simp [valV]
  | cons a l ih =>
    by_cases h : a = x
    · subst h
      rw [List.map_cons, valV_pos rfl, if_pos (List.mem_cons_self ..)]
      rfl
    · rw [List.map_cons, valV_neg (fun e => h (Subtype.ext (Sum.inr.inj e))), ih]
      have : (x ∈ a :: l) ↔ x ∈ l := by simp [Ne.symm h]
      simp only [this]
theorem eg_dictS {l : List Nm} (h : Ev te Γ M M1 (kD (.list (l.map fun x => .tuple [.str x.1, .int 0])))) (nd : l.Nodup) : EvG (α := Addr) (tCB (rDictP K) (tCons te tNil)) Γ M (fun D => kC (.ref D)) (fun D => mSz D (fun x => if x ∈ l then some 0 else none) l.length :: M1) := fun F σ B C s o Q q =>
  ea_one h F σ B C s o _ fun xs B1 C1 e1 o1 px => by
    obtain ⟨v, rfl, pv⟩ := allK1 px
    obtain ⟨a, ys, rfl, h1, h2⟩ := pv.lst_inv
    obtain ⟨as, rfl, hp⟩ := tk_prsS h2
    refine ⟨a, as, _, rfl, SqL.of (o1.ex _ _ h1), Paired.mapP hp fun _ _ z => SqT.of (o1.ex _ _ z), fun p hpn => ?_⟩
    have hnd : ((([] : List (Key × V)) ++ l.map fun x : Nm => ((Sum.inr x.1 : Key), V.int 0)).map fun x => x.1).Nodup := by
      rw [List.nil_append, List.map_map]
      exact List.Pairwise.map _ (fun a b hab he => hab (Subtype.ext (Sum.inr.inj he))) nd
    rw [mergeK_nodup _ _ hnd, List.nil_append]
    exact q p (.ref p) B1 _ e1 (o1.add (m := mSz p _ l.length) (o1.ex.mut (o1.ex.back hpn)) (fun a u z => by rw [upd_ne (ne_of_none z hpn)]; exact z) ⟨_, upd_same, by simp, valV_zero l⟩ fun a z => by rw [z]; exact hpn) rfl
end
end Fw
namespace Fw
open PySem PySem.Spec PyProof.Rows L2
theorem EvTG.to {tt : TT} {Γ : Ga} {M M1 : List Mu} {ok ok' : Bool → Prop} (h : EvTG tt Γ M M1 ok) (f : ∀ b, ok b → ok' b) : EvTG tt Γ M M1 ok' := fun F σ B C s o Q q => h F σ B C s o Q fun b B' C' hb e o' => q b B' C' (f b hb) e o'
theorem ev_tup1D {Γ : Ga} {M M1 : List Mu} {ta : TE} {d1 : PyData} (h : Ev ta Γ M M1 (kD d1)) : Ev (tTup (tCons ta tNil)) Γ M M1 (kD (.tuple [d1])) := (ev_tup (ea_one h)).to fun _ _ p => kTup_data (ds := [d1]).mp p
end Fw
set_option Elab.async false
set_option linter.all false
set_option maxRecDepth 100000
set_option maxHeartbeats 4000000
/-! the walk: counters -/
namespace Fw
open PySem PySem.Spec PyProof.Rows L2
theorem eqv_tnil (l : List PyData) : PyData.eqv (.tuple l) (.tuple []) = decide (l = []) := by
  cases l with
  | nil => simp [PyData.eqv, PyData.eqvAll]
  | cons a l => simp [PyData.eqv, PyData.eqvAll]
def encP (p : Nat × Et) : PyData := .tuple [.int (p.1 : Nat), encE p.2]
theorem Sh.pr (p : Nat × Et) : Sh 2 (encP p) := Sh.tup2 ((Sh.int _).mono (by decide)) (Sh.ev p.2)
theorem alike_P (l : List (Nat × Et)) : PySem.W.AllAlike (l.map encP) := fun d hd d' hd' => by
  obtain ⟨x, _, rfl⟩ := List.mem_map.mp hd
  obtain ⟨y, _, rfl⟩ := List.mem_map.mp hd'
  have h := alike_encE x.2 y.2
  show (PySem.W.alike (.int x.1) (.int y.1) && (PySem.W.alike (encE x.2) (encE y.2) && true)) = true
  rw [h]
  rfl
theorem sortable_P (l : List (Nat × Et)) : PySem.W.Sortable (l.map encP) := PySem.W.Sortable.tuples fun b => ⟨_, _, rfl⟩
structure CoA where
  D : Addr
  n : Nat
  L : Lg
  l : Et → List Et
  many : Nat
structure CoA.Ok (a : CoA) : Prop where
  L : LgOk a.L
  l : LsOk a.L a.l
  m : a.many ≤ 5
  n : a.n ≤ 90000
structure CnOk (L : Lg) (many : Nat) (C : Rows) : Prop where
  rw : RwOk L C
  len : C.length = many
  ch : ∀ r ∈ C, Chain (up L) r
/-- drawn so far -/
structure CnI (L : Lg) (many : Nat) (i : Nat) (s : Nat × Rows) : Prop where
  eq : s.1 = i
  len : s.2.length = many
  r : ∀ r ∈ s.2, r.length ≤ i ∧ (∀ x ∈ r, x ∈ L.evs) ∧ Chain (up L) r
def lastB (l : Et → List Et) (e : Et) (r : Row) : Bool := match r.getLast? with
  | some a => decide (a ∈ l e)
  | none => false
def fineB (l : Et → List Et) (e : Et) (C : Rows) (k : Nat) : Bool := match C[k]? with
  | some r => decide (r = []) || lastB l e r
  | none => false
theorem last_of {r : Row} (h : r ≠ []) : ∃ r' a, r = r' ++ [a] := ⟨r.dropLast, r.getLast h, (List.dropLast_concat_getLast h).symm⟩
theorem lastB_app (l : Et → List Et) (e : Et) (r : Row) (a : Et) : lastB l e (r ++ [a]) = decide (a ∈ l e) := by
  unfold lastB
  rw [List.getLast?_append]
  rfl
theorem chain_more {L : Lg} {l : Et → List Et} (hl : LsOk L l) {e : Et} (he : e ∈ L.evs) {r : Row} (hr : ∀ x ∈ r, x ∈ L.evs) (hc : Chain (up L) r) (h : (decide (r = []) || lastB l e r) = true) : Chain (up L) (r ++ [e]) := by
  have u := up_ok L
  refine List.pairwise_append.mpr ⟨hc, List.pairwise_singleton _ _, fun a ha b hb => ?_⟩
  rw [List.mem_singleton.mp hb]
  by_cases hn : r = []
  · subst hn
    cases ha
  · obtain ⟨r', z, rfl⟩ := last_of hn
    rw [decide_eq_false hn, Bool.false_or, lastB_app, decide_eq_true_eq] at h
    have h1 : up L z e = true := (u z e he).mpr (.inr (ah_iff.mp (hl e z h)))
    rcases List.mem_append.mp ha with ha | ha
    · have h2 := (List.pairwise_append.mp hc).2.2 a ha z (List.mem_singleton_self _)
      exact u.trans (hr z (List.mem_append_right _ (List.mem_singleton_self _))) he h2 h1
    · rw [List.mem_singleton.mp ha]
      exact h1
section
variable {P : Program} {w : World} {K : PySem.W.Frag} {mg : Str → Option Value} {base : Heap}
abbrev spCounters : Sp := spF (fun a : CoA => a.Ok) (fun a => [kC (.ref a.D), kLs a.L a.l, kD (.list (a.L.marked.map encE)), kI a.many]) (fun a => [mBox a.D a.n]) (fun a => [mBox a.D (a.n + 200)]) (fun a => kEx fun C : { C : Rows // CnOk a.L a.many C } => kD (encRows C.1))
theorem r__law_counters (T : Tx K mg) : FnR P w K mg base CX0 3 (He.ga K "_law_counters") spCounters := by
  obtain ⟨fd, F⟩ := T.says.def_ 45 (d := (gD "_law_counters" 39))
  have nd : (["_law_box_here", "_law_order_so", "_law_some", "_law_many", "_law_rows", "_law_later", "_law_far", "_law_event_so", "_law_fine", "_law_k", "_law_turn", "_law_own"] : List Str).Nodup := by decide +kernel
  refine fn_r (N := ["_law_box_here", "_law_order_so", "_law_some", "_law_many", "_law_rows", "_law_later", "_law_far", "_law_event_so", "_law_fine", "_law_k", "_law_turn", "_law_own"]) (ps := ["_law_box_here", "_law_order_so", "_law_some", "_law_many"]) F ⟨rfl, rfl, rfl, nd, rfl, by decide +kernel, by decide +kernel⟩ (F.bindsN fun _ _ _ _ _ _ us hl => match us, hl with | [_, _, _, _], _ => rfl) .nil (fun _ _ => rfl) fun cdv A outer s H E hr => ?_
  have hu := hu_of hr
  have hu64 := hr.units
  have hu65 := room65 hr
  refine ⟨_, (pss_cons (ps_asg (pe_tup (pa_cons (pe_lc (own := [("_law_turn", 10)]) rfl nd (pi_range1 (by rfl) (T.free 40) (pa_cons (pv 3) pa_nil)) (blkOk_by (own := [("_law_turn", 10)]) (N := ["_law_box_here", "_law_order_so", "_law_some", "_law_many", "_law_rows", "_law_later", "_law_far", "_law_event_so", "_law_fine", "_law_k", "_law_turn", "_law_own"]) (sc := defScope (top 39)) (by decide +kernel)) (fun _ _ _ _ _ => (pg_name (i := 10) nd rfl (Or.inl rfl))) (fun _ _ _ _ _ => pts_nil) (fun _ _ _ _ _ => (pe_tup pa_nil))) (pa_cons (pe_callB (k_sort K hu64) (by rfl) (T.free 50) (by decide +kernel) (pa_cons (pe_lc (own := [("_law_own", 11)]) rfl nd (k_iL K (pv 2)) (blkOk_by (own := [("_law_own", 11)]) (N := ["_law_box_here", "_law_order_so", "_law_some", "_law_many", "_law_rows", "_law_later", "_law_far", "_law_event_so", "_law_fine", "_law_k", "_law_turn", "_law_own"]) (sc := defScope (top 39)) (by decide +kernel)) (fun _ _ _ _ _ => (pg_name (i := 11) nd rfl (Or.inl rfl))) (fun _ _ _ _ _ => pts_nil) (fun _ _ _ _ _ => (pe_tup (pa_cons (pe_callB (k_len K) (by rfl) (T.free 41) (by decide +kernel) (pa_cons (pe_dget hu (pv 1) (pv 11) (fun _ _ => rfl)) pa_nil)) (pa_cons (pv 11) pa_nil))))) pa_nil)) pa_nil))) (k_gT K (n := 2) rfl (pgs_cons (pg_name (i := 4) nd rfl (Or.inr rfl)) (pgs_cons (pg_name (i := 5) nd rfl (Or.inl rfl)) pgs_nil))))
      (pss_cons (ps_for PassesOwn.never rfl (k_iL K (pv 5)) (k_gT K (n := 2) rfl (pgs_cons (pg_name (i := 6) nd rfl (Or.inl rfl)) (pgs_cons (pg_name (i := 7) nd rfl (Or.inr rfl)) pgs_nil))) (pss_cons (ps_setLc (i := 8) (own := [("_law_k", 9)]) rfl nd rfl rfl (sw_true rfl rfl rfl (by decide +kernel)) (pi_range1 (by rfl) (T.free 40) (pa_cons (pv 3) pa_nil)) (blkOk_by (own := [("_law_k", 9)]) (N := ["_law_box_here", "_law_order_so", "_law_some", "_law_many", "_law_rows", "_law_later", "_law_far", "_law_event_so", "_law_fine", "_law_k", "_law_turn", "_law_own"]) (sc := defScope (top 39)) (by decide +kernel)) (fun _ _ _ _ _ => (pg_name (i := 9) nd rfl (Or.inl rfl))) (fun _ _ _ _ _ => (pts_one (PW.pt (pw_or (pt_cmpR (k_eq K hu64) (pe_ix (k_ixL K) (pv 4) (pv 9) (fun _ _ => rfl)) (pe_tup pa_nil) (nomark _)) (pw_or1 (pt_cmpR (k_in K hu65) (pe_ix (k_ixT K) (pe_ix (k_ixL K) (pv 4) (pv 9) (fun _ _ => rfl)) (pe_un un_neg pe_int) (fun _ _ => rfl)) (pe_dget hu (pv 1) (pv 7) (fun _ _ => rfl)) rfl)))))) (fun _ _ _ _ _ => (pv 9)))
      (pss_cons (ps_if (PW.pt (pw_and (pt_cmpR (k_ne K hu64) (pv 8) (pe_lst pa_nil) (nomark _)) (pw_and1 (pt_cmpR op_gt (pe_g (r__law_take T) hr (by decide) (T.glo 19) (T.kp 37 (d := (gD "_law_take" 31))) (pa_cons (pv 0) (pa_cons pe_int pa_nil))) pe_int (nomark _))))) (pss_cons (ps_set (i := 9) nd rfl (Or.inl rfl) (pe_g (r__law_of T) hr (by decide) (T.glo 20) (T.kp 38 (d := (gD "_law_of" 32))) (pa_cons (pv 0) (pa_cons (pv 8) pa_nil))))
      (pss_cons (ps_asg (pe_op (k_catT K) (pe_ix (k_ixL K) (pv 4) (pv 9) (fun _ _ => rfl)) (pe_tup (pa_cons (pv 7) pa_nil))) (pg_sub (pv 4) (pv 9) set_list))
      pss_nil)) pss_nil)
      pss_nil)))
      (pss_cons (ps_ret (pe_callTy (k_tup K) (by rfl) (T.free 37) (by decide +kernel) (pa_cons (pv 4) pa_nil)))
      pss_nil))), fun a hp => ?_⟩
  obtain ⟨D, n, L, l, many⟩ := a
  obtain ⟨ok, ls, hmany, hn⟩ := hp
  have ok : LgOk L := ok
  have ls : LsOk L l := ls
  have hmany : many ≤ 5 := hmany
  have hn : n ≤ 90000 := hn
  have hlk := ok.lk
  let kr : Row → Kn := fun r => kD (encRow r)
  have lget : ∀ e, e ∈ L.evs → (if e ∈ L.evs then some (kD (.list ((l e).map encE))) else none : Option Kn) = some (kD (.list ((l e).map encE))) := fun e he => if_pos he
  let prs : List (Nat × Et) := L.marked.map fun e => ((l e).length, e)
  let later : List (Nat × Et) := prs.mergeSort (PySem.W.dataLe false encP)
  have hlater : ∀ p ∈ later, p.2 ∈ L.evs := fun p hp => by
    obtain ⟨e, he, rfl⟩ := List.mem_map.mp ((List.mergeSort_perm prs _).mem_iff.mp hp)
    exact ok.mm e he
  have hll : later.length ≤ 100 := by
    show (prs.mergeSort _).length ≤ 100
    rw [List.length_mergeSort, List.length_map]
    exact hlk
  refine go_asgG (eg_tup (eag_new (eg_lc (List.range many) (fun i => kI (i : Nat)) (fun _ => true) (fun _ => kD (.tuple [])) (ei_range (ev_var rfl) (by omega)) sub_nil (by simp; omega) fun i j hj => ⟨_, [10], tg_name, in_one, et_yes, fun _ => ev_tup0D⟩) fun R => (ea_one (Ev.is (d' := .list (later.map encP)) (ev_cb (ea_one ((ev_lcA L.marked (fun e => kD (encE e)) (fun e => encP ((l e).length, e)) (ei_lstE (ev_var rfl)) sub_nil (by omega) fun i e he => ⟨_, [11], tg_name, in_one, et_yes, fun _ => ev_tup2D ((ev_cb (ea_one (ev_dgetT (ev_var rfl) (ev_var rfl) (lget e (ok.mm e (List.mem_of_getElem? he))))) ck_lenL).is (by rw [List.length_map])) (ev_var rfl)⟩).is (d' := .list (prs.map encP)) (by rw [List.map_map]; rfl))) (ck_sortD (alike_P prs) (sortable_P prs) fun d hd => by
    obtain ⟨x, _, rfl⟩ := List.mem_map.mp hd
    exact Nat.le_trans (Sh.pr x).2 (by decide))) (by rw [sort_enc]))).g) 2 fun _ => rfl) (fun _ => tg_two) fun R => ?_
  obtain ⟨R, _⟩ := R
  have e0 : ((List.range many).filter fun _ => true).map (fun _ => kD (PyData.tuple [])) = (List.replicate many ([] : Row)).map kr := by
    rw [List.filter_eq_self.mpr fun _ _ => rfl, List.map_replicate]
    apply List.ext_getElem
    · simp
    · intro i h1 h2
      simp [kr, encRow]
  rw [e0]
  refine go_for (S := Nat × Rows) (CnI L many) (fun _ => [some (kC (.ref D)), some (kLs L l), some (kD (.list (L.marked.map encE))), some (kI many), some (kC (.ref R)), none, none, none, none, none, none, none]) (fun s => [mBox D (n + 2 * s.1), mLst R (s.2.map kr)]) (0, List.replicate many []) (ei_lstE (f := encP) (ev_var rfl)) ⟨rfl, by simp, fun r hr => by
    rw [List.eq_of_mem_replicate hr]
    exact ⟨Nat.zero_le _, (fun x hx => nomatch hx), List.Pairwise.nil⟩⟩ ⟨fun _ _ z => z, fun _ _ z => z, fun _ _ z => z, fun _ _ z => z, fun _ _ z => z, True.intro⟩ (.swap _ _ _) (fun _ _ _ => sub_nil) (fun i s k hs hk => ?_) fun s hs => ?_
  · rw [List.getElem?_map] at hk
    obtain ⟨p, hpp, rfl⟩ := Option.map_eq_some_iff.mp hk
    obtain ⟨j, e⟩ := p
    have he : e ∈ L.evs := hlater _ (List.mem_of_getElem? hpp)
    have hi := (List.getElem?_eq_some_iff.mp hpp).1
    obtain ⟨i', C⟩ := s
    obtain ⟨hs1, hs2, hs3⟩ := hs
    have hs1 : i' = i := hs1
    subst hs1
    have hs2 : C.length = many := hs2
    have hs3 : ∀ r ∈ C, r.length ≤ i' ∧ (∀ x ∈ r, x ∈ L.evs) ∧ Chain (up L) r := hs3
    let M0 : List Mu := [mBox D (n + 2 * i'), mLst R (C.map kr)]
    have mR : mLst R (C.map kr) ∈ M0 := List.mem_cons_of_mem _ (List.mem_cons_self ..)
    have hget : ∀ (k : Nat) (r : Row), C[k]? = some r → (C.map kr)[k]? = some (kD (.tuple (r.map encE))) := fun k r h => by rw [List.getElem?_map, h]; rfl
    let fine : List Nat := (List.range many).filter (fineB l e C)
    have hfl : fine.length ≤ many := by
      have := List.length_filter_le (fineB l e C) (List.range many)
      rw [List.length_range] at this
      exact this
    refine ⟨_, [6, 7], tg_twoD, ?_⟩
    refine go_set (k := kD (.list (fine.map fun k : Nat => PyData.int (k : Nat)))) (ev_lcD (List.range many) (fun k => kI (k : Nat)) (fineB l e C) (fun k => .int (k : Nat)) (ei_range (ev_var rfl) (by omega)) sub_nil (by simp; omega) fun j2 k hk => ?_) ?_
    · have hkm : k < C.length := by
        have := List.mem_range.mp (List.mem_of_getElem? hk)
        omega
      have hr : C[k]? = some C[k] := List.getElem?_eq_getElem hkm
      generalize C[k] = r at hr
      refine ⟨_, [9], tg_name, in_one, (et_or (b := decide (r = [])) (c := lastB l e r) ((et_test (ev_op (ev_op (ev_var rfl) (ev_var rfl) (rk_ixM mR (n := k) (hget k r hr))) ev_tup0D (rk_eqD (Sh.row r).shaped (Sh.shaped (Sh.tup (n := 0) fun d hd => nomatch hd)) (eqv_tnil _)))).is ?_) fun hb => ?_).is ?_, fun _ => ev_var rfl⟩
      · exact decide_eq_decide.mpr List.map_eq_nil_iff
      · obtain ⟨r', a, rfl⟩ := last_of (of_decide_eq_false hb)
        rw [lastB_app]
        exact et_test (ev_op (ev_op ((ev_op (ev_var rfl) (ev_var rfl) (rk_ixM mR (n := k) (hget k _ hr))).is (d' := .tuple (r'.map encE ++ [encE a])) (by rw [List.map_append]; rfl)) (ev_un ev_int uk_neg) (rk_ixT1 rfl)) (ev_dgetT (ev_var rfl) (ev_var rfl) (lget e he)) (rk_inD (Sh.ev a).shaped (Sh.shaped (Sh.lsts (n := 1) Sh.ev)) (any_encE _ _)))
      · unfold fineB
        rw [hr]
    refine go_seq (go_ifG (M1 := [mBox D (n + 2 * i' + 1), mLst R (C.map kr)]) (ok := fun b => b = true → fine ≠ []) (etg_and (b := !decide (fine.map (fun k : Nat => PyData.int (k : Nat)) = [])) (et_test (ev_op (ev_var rfl) ev_lst0D (rk_neD (Sh.shaped (Sh.lsts (n := 0) fun k : Nat => Sh.int _)) (Sh.shaped (Sh.lst (n := 0) fun d hd => nomatch hd)) (by rw [eqv_nil])))) (fun F B C o => box_le (Nat.le_succ _) (F := _ :: F) o) (fun hb => (etg_test (ev_op (ev_take (M1 := [mLst R (C.map kr)]) D (n + 2 * i') 5 (ea_two (ev_var rfl) ev_int) (by decide) (by decide) (by omega)) ev_int rk_gtG)).to fun b _ _ hf => ?_) fun _ z => nomatch z) (fun hb => ?_) fun _ => ?_) fun _ _ z => go_nil z
    · rw [hf] at hb
      simp at hb
    · have hfine := hb rfl
      refine go_setEx (ev_of (M1 := [mLst R (C.map kr)]) (fun k : Nat => PyData.int (k : Nat)) fine D (n + 2 * i' + 1) (ea_two (ev_var rfl) (ev_var rfl)) hfine (by omega) (by omega)) fun j2 => ?_
      have hk0 : fine[j2] ∈ fine := List.getElem_mem _
      generalize fine[j2] = k0 at hk0
      obtain ⟨hk1, hk2⟩ := List.mem_filter.mp hk0
      have hk1 : k0 < C.length := by rw [hs2]; exact List.mem_range.mp hk1
      have hr : C[k0]? = some C[k0] := List.getElem?_eq_getElem hk1
      have hrm : C[k0] ∈ C := List.getElem_mem _
      generalize C[k0] = r at hr hrm
      have hk3 : (decide (r = []) || lastB l e r) = true := by
        unfold fineB at hk2
        rw [hr] at hk2
        exact hk2
      obtain ⟨r1, r2, r3⟩ := hs3 r hrm
      refine go_setM (M4 := [mBox D (n + 2 * i' + 2)]) (ks := C.map kr) (k := kr (r ++ [e])) k0 (Ev.is (d' := encRow (r ++ [e])) (ev_op (ev_op (ev_var rfl) (ev_var rfl) (rk_ixM (List.mem_cons_of_mem _ (List.mem_cons_self ..)) (n := k0) (hget k0 r hr))) (ev_tup1D (ev_var rfl)) (rk_catA (by simp; omega))) (by show _ = PyData.tuple _; rw [List.map_append]; rfl)) (ev_var rfl) (ev_var rfl) (.swap _ _ _) (by rw [List.length_map]; exact hk1) ?_
      refine go_nil ⟨(i' + 1, C.set k0 (r ++ [e])), ⟨rfl, by rw [List.length_set]; exact hs2, fun x hx => ?_⟩, ⟨fun _ _ z => z, fun _ _ z => z, fun _ _ z => z, fun _ _ z => z, fun _ _ z => z, True.intro⟩, ?_⟩
      · rcases List.mem_or_eq_of_mem_set hx with hx | rfl
        · obtain ⟨h1, h2⟩ := hs3 x hx
          exact ⟨by omega, h2⟩
        · refine ⟨by rw [List.length_append, List.length_singleton]; omega, fun y hy => ?_, chain_more ls he r2 r3 hk3⟩
          rcases List.mem_append.mp hy with hy | hy
          · exact r2 y hy
          · rw [List.mem_singleton.mp hy]
            exact he
      · show List.Perm _ [mBox D (n + 2 * i' + 2), mLst R ((C.set k0 (r ++ [e])).map kr)]
        rw [List.map_set]
        exact .swap _ _ _
    · refine go_box (n + 2 * i' + 2) (by omega) (go_nil ⟨(i' + 1, C), ⟨rfl, hs2, fun x hx => ?_⟩, ⟨fun _ _ z => z, fun _ _ z => z, fun _ _ z => z, fun _ _ z => z, fun _ _ z => z, True.intro⟩, .refl _⟩)
      obtain ⟨h1, h2⟩ := hs3 x hx
      exact ⟨by omega, h2⟩
  · obtain ⟨i', C⟩ := s
    obtain ⟨hs1, hs2, hs3⟩ := hs
    rw [List.length_map] at hs1 hs3
    have hs1 : i' = later.length := hs1
    refine go_perm (M1 := [mLst R (C.map kr), mBox D (n + 2 * i')]) ?_ (.swap _ _ _)
    refine go_still (i := 4) rfl (go_retTo ((ev_cb (ea_one ((ev_var rfl).to fun v H q => ?_)) (ck_tupOf (ds := C.map encRow))).box (by show n + 2 * i' ≤ n + 200; omega)) fun v B q => ⟨⟨C, ⟨by have : C.length = many := hs2; omega, fun r hr => ?_, fun r hr => (hs3 r hr).2.1⟩, hs2, fun r hr => (hs3 r hr).2.2⟩, q⟩)
    · have ef : C.map kr = (C.map encRow).map kD := by rw [List.map_map]; rfl
      have q : (kLst (C.map kr)).p v H := q
      rw [ef] at q
      exact kLst_data.mp q
    · have := (hs3 r hr).1
      omega
end
end Fw
set_option Elab.async false
set_option linter.all false
set_option maxRecDepth 100000
set_option maxHeartbeats 4000000
/-! rules for the drawing defs: walks of a length not known ahead, calls with arguments not known ahead -/
namespace Fw
open PySem PySem.Spec PyProof.Rows L2
theorem perm_by {α : Type} {a b : List α} (h : ∀ (f : α → Nat), (a.map f).sum = (b.map f).sum) : a.Perm b := by
  classical
  rw [List.perm_iff_count]
  intro x
  have key : ∀ l : List α, List.count x l = (l.map fun y => if y = x then 1 else 0).sum := fun l => by
    induction l with
    | nil => rfl
    | cons y l ih =>
      rw [List.count_cons, ih, List.map_cons, List.sum_cons]
      by_cases e : y = x
      · simp [e]; omega
      · simp [e]
  rw [key, key]
  exact h _
section
variable {P : Po} {Γ Γ1 : Ga} {M M1 M2 M3 : List Mu} {te ta tb : TE} {k kx ky kz : Kn} {K : PySem.W.Frag} {t rest : TS}
theorem EvG.to {α : Type} {ρ ρ' : α → Kn} {μ : α → List Mu} (h : EvG te Γ M ρ μ) (f : ∀ a v B, (ρ a).p v B → (ρ' a).p v B) : EvG te Γ M ρ' μ := fun F σ B C s o Q q => h F σ B C s o Q fun a z B' C' e o' p => q a z B' C' e o' (f a z B' p)
theorem ck_ex {α : Type} {r : List V → Hp → VK → Prop} {κ κ' : α → Kn} (h : ∀ a, CK r M [κ a] (κ' a)) : CK r M [kEx κ] (kEx κ') := fun xs F B C o ps Q q => by
  obtain ⟨v, rfl, a, pv⟩ := allK1 ps
  exact h a [v] F B C o (.cons pv .nil) Q fun z B' C' e o' p => q z B' C' e o' ⟨a, p⟩
theorem ev_tup3D {tc : TE} {d1 d2 d3 : PyData} (h : Ev ta Γ M M1 (kD d1)) (h2 : Ev tb Γ M1 M2 (kD d2)) (h3 : Ev tc Γ M2 M3 (kD d3)) : Ev (tTup (tCons ta (tCons tb (tCons tc tNil)))) Γ M M3 (kD (.tuple [d1, d2, d3])) := (ev_tup (ea_cons h (ea_two h2 h3))).to fun _ _ p => kTup_data (ds := [d1, d2, d3]).mp p
/-! slices of lists -/
theorem uk_takeL {ds : List PyData} (n : Nat) : UK (fun x H Q => rSlL K x none (some (n : Int)) H Q) M (kD (.list ds)) (kD (.list (ds.take n))) := fun x F B C o px Q q => by
  obtain ⟨a, xs, rfl, h1, h2⟩ := px.lst_inv
  refine ⟨a, xs, rfl, SqL.of (o.ex _ _ h1), fun l hl => q _ _ _ (Ex.new (o.ex.back hl)) (o.new hl) (.lst upd_same ?_)⟩
  have s0 : HT.sIx xs.length 0 none = 0 := rfl
  have s1 : HT.sIx xs.length xs.length (some (n : Int)) = min n xs.length := HT.sIx_nat _ _ _
  have e : cutV xs none (some (n : Int)) = xs.take n := by
    unfold cutV
    rw [s0, s1, List.drop_zero, Nat.sub_zero]
    rcases Nat.le_total n xs.length with h | h
    · rw [Nat.min_eq_left h]
    · rw [Nat.min_eq_right h, List.take_of_length_le (Nat.le_refl _), List.take_of_length_le h]
  rw [e]
  exact (TkAll.ex (Ex.new (o.ex.back hl)) _ _ h2).take n
def lastN {α : Type} (n : Nat) (l : List α) : List α := l.drop (l.length - n)
theorem lastN_ne {α : Type} {n : Nat} {l : List α} (hn : 0 < n) (h : l ≠ []) : lastN n l ≠ [] := fun e => by
  have h1 : (lastN n l).length = 0 := by rw [e]; rfl
  unfold lastN at h1
  rw [List.length_drop] at h1
  have h2 := List.length_pos_iff.mpr h
  omega
theorem lastN_len {α : Type} (n : Nat) (l : List α) : (lastN n l).length ≤ l.length := by
  unfold lastN
  rw [List.length_drop]
  omega
theorem uk_lastL {ds : List PyData} (n : Nat) (hn : 0 < n) {i : Int} (hi : i = -(n : Int)) : UK (fun x H Q => rSlL K x (some i) none H Q) M (kD (.list ds)) (kD (.list (lastN n ds))) := fun x F B C o px Q q => by
  obtain ⟨a, xs, rfl, h1, h2⟩ := px.lst_inv
  have hl := h2.length
  refine ⟨a, xs, rfl, SqL.of (o.ex _ _ h1), fun l hl2 => q _ _ _ (Ex.new (o.ex.back hl2)) (o.new hl2) (.lst upd_same ?_)⟩
  have s0 : HT.sIx xs.length xs.length none = xs.length := rfl
  have s1 : HT.sIx xs.length 0 (some i) = xs.length - n := by
    show (if i < 0 then (i + (xs.length : Int)).toNat else min i.toNat xs.length) = xs.length - n
    rw [if_pos (by omega)]
    omega
  have e : cutV xs (some i) none = xs.drop (ds.length - n) := by
    unfold cutV
    rw [s0, s1, List.take_of_length_le (by rw [List.length_drop]; exact Nat.le_refl _), hl]
  rw [e]
  exact (TkAll.ex (Ex.new (o.ex.back hl2)) _ _ h2).drop _
/-! walks -/
def EvIG {α : Type} (wi : TI) (Γ : Ga) (M M' : List Mu) (ks : α → List Kn) : Prop := ∀ (F : List Mu) (σ : L2.St) (B C : Hp), Sk Γ B σ → OkM (M ++ F) B C → ∀ R : It → Hp → Prop, (∀ a J B' C', Ex B B' → OkM (M' ++ F) B' C' → GoesK J B' [] (ks a) → R J C') → wi σ C R
theorem eig_range {α : Type} {f : α → Nat} (h : Ev te Γ M M1 (kEx fun a => kI (f a : Nat))) (hn : ∀ a, f a ≤ 100000) : EvIG (iRng1 (tCons te tNil)) Γ M M1 fun a => (List.range (f a)).map fun i : Nat => kI (i : Nat) := fun F σ B C s o R q =>
  h F σ B C s o _ fun x B1 C1 e1 o1 ⟨a, p⟩ => ⟨f a, by rw [Tk.int_inv p], by have := hn a; omega, by have := hn a; omega, by
    have e2 : ((f a : Nat) : Int).toNat = f a := by omega
    rw [e2]
    exact q a _ B1 C1 e1 o1 goes_range⟩
theorem go_forG {α S : Type} {wi : TI} {g : TG} {ks : α → List Kn} (inv : α → Nat → S → Prop) (Γs : S → Ga) (Ms : S → List Mu) (s0 : S) (hi : EvIG wi Γ M M1 ks) (h0 : ∀ a, inv a 0 s0) (hΓ : Less (Γs s0) Γ) (hM : M1.Perm (Ms s0))
    (turn : ∀ a i s k, inv a i s → (ks a)[i]? = some k → ∃ Γ1 is, Tg g k (Γs s) Γ1 is ∧ Go (P.to fun Γ' M' => ∃ s', inv a (i + 1) s' ∧ Less (Γs s') Γ' ∧ M'.Perm (Ms s')) t Γ1 (Ms s))
    (done : ∀ a s, inv a (ks a).length s → Go P rest (Γs s) (Ms s)) : Go P (tSeq (tFor wi g t) rest) Γ M := fun F σ B C D s o q =>
  hi F σ B C s o _ fun a J A C1 eA oA goes => by
    refine ⟨fun i m σ C => m = (ks a).length - i ∧ i ≤ (ks a).length ∧ ∃ z B', inv a i z ∧ Ex A B' ∧ Sk (Γs z) B' σ ∧ OkM (Ms z ++ F) B' C, ⟨(ks a).length, by simp, Nat.zero_le _, s0, A, h0 a, Ex.refl A, (s.ex eA).less hΓ, oA.perm (hM.append_right F)⟩, ?_⟩
    rintro i m σ C ⟨rfl, hil, z, B', hz, eAB, sk, ok⟩
    by_cases hlt : i < (ks a).length
    · have hk : (ks a)[i]? = some (ks a)[i] := List.getElem?_eq_getElem hlt
      refine .inr ⟨goes.go _ B' C (fun _ z => nomatch z) eAB ok i hlt, fun σ' C' => i + 1 ≤ (ks a).length ∧ ∃ z B', inv a (i + 1) z ∧ Ex A B' ∧ Sk (Γs z) B' σ' ∧ OkM (Ms z ++ F) B' C', fun σ' C' h => ⟨(ks a).length - (i + 1), by omega, rfl, h⟩, fun x C2 hy => ?_⟩
      obtain ⟨B2, e2, ok2, px⟩ := goes.yld _ B' C (fun _ z => nomatch z) eAB ok i _ x C2 hk hy
      obtain ⟨Γ1, is, htg, hgo⟩ := turn a i z _ hz hk
      refine htg _ x σ B2 C2 (sk.ex e2) ok2 px _ fun σ2 sk2 _ _ => ?_
      refine hgo F σ2 B2 C2 _ sk2 ok2 ⟨(q.ex ((eA.trans eAB).trans e2)).rt, fun Γ' M' σ3 B3 C3 ⟨z', hz', hl, hm⟩ e3 sk3 ok3 => ⟨hlt, z', B3, hz', (eAB.trans e2).trans e3, sk3.less hl, ok3.perm (hm.append_right F)⟩⟩
    · have ei : i = (ks a).length := by omega
      subst ei
      exact .inl ⟨goes.stop _ B' C (fun _ z => nomatch z) eAB ok, done a z hz F σ B' C D sk ok (q.ex (eA.trans eAB))⟩
end
/-! ### calls -/
section
variable {α β : Type} {pre : α → Prop} {args : α → List Kn} {Mi Mo : α → List Mu} {res : α → Kn} {Γ : Ga} {M : List Mu} {t : TA}
theorem ev_callE (f : β → α) {E : XK} (M1 : β → List Mu) (h : EvAG t Γ M (fun b => args (f b)) (fun b => Mi (f b) ++ M1 b)) (hp : ∀ b, pre (f b)) : EvG (tCall (spF pre args Mi Mo res) [] E t) Γ M (fun b => res (f b)) (fun b => Mo (f b) ++ M1 b) := fun F σ B C s o Q q =>
  h F σ B C s o _ fun b zs B1 C1 e1 o1 ps => ⟨f b, M1 b ++ F, B1, hp b, by rw [List.append_nil]; exact ps, by rw [← List.append_assoc]; exact o1, fun z B2 C2 e2 o2 p => q b z B2 C2 (e1.trans e2) (by rw [List.append_assoc]; exact o2) p⟩
end
end Fw
set_option Elab.async false
set_option linter.all false
set_option maxRecDepth 100000
set_option maxHeartbeats 4000000
/-! sets of nested tuples, their table followed -/
namespace Fw
open PySem PySem.Spec PyProof.Rows L2
/-- b is the nested tuple k -/
def IsN (h : Heap) (k : NestedKey) (b : Addr) : Prop := NestedIs h k (.ref b) ∧ k.depth ≤ 8 ∧ ∃ o vs n, h.get? b = some o ∧ o.cls = .type "tuple" ∧ o.data = .seq vs n
theorem IsN.keep {h h' : Heap} {k : NestedKey} {b : Addr} (x : IsN h k b) (hk : ∀ c o vs n, h.get? c = some o → o.data = .seq vs n → h'.get? c = some o) : IsN h' k b := by
  obtain ⟨x1, x2, o, vs, n, x3, x4, x5⟩ := x
  exact ⟨NestedIs.at hk k _ x1, x2, o, vs, n, hk b o vs n x3 x5, x4, x5⟩
section
variable {P : Program} {w : World}
/-! ### what is asked of keys -/
def NoCls (P : Program) (w : World) (n : Nat) (s : Shared) (v : Value) : Prop := ∀ (A : Around) (E : Value → Shared → Prop) (Q : Bool → Shared → Prop), Q false s → wpAny (model P w) A (ofAClassStatement n v) Q E s
def AnyVal (P : Program) (w : World) (n : Nat) (s : Shared) (v : Value) : Prop := ∀ (A : Around) (E : Value → Shared → Prop) (Q : Bool → Shared → Prop), (∀ b, Q b s) → wpAny (model P w) A (hashByValue n v) Q E s
theorem noCls_tup {n : Nat} {s : Shared} {a : Addr} {o : Obj} {vs : Array Value} {m : Nat} (ho : s.heap.get? a = some o) (hc : o.cls = .type "tuple") (hd : o.data = .seq vs m) (hq : ∀ v ∈ vs.toList, NoCls P w n s v) : NoCls P w (n + 1) s (.ref a) := fun A E Q h => by
  have ty : s.TypeIs (.ref a) "tuple" := ⟨o, ho, hc⟩
  unfold ofAClassStatement
  refine wpAny_bind (wpAny_typeOf ty ?_)
  have e : (("tuple" : String) == "tuple") = true := by decide
  simp only [e, if_true, Bool.not_true, Bool.false_eq_true, if_false]
  try refine wpAny_bind (wpAny_pure ?_)
  try simp only [Bool.not_true, Bool.false_eq_true, if_false]
  show wpAny _ _ (seqItems? (.ref a) >>= _) _ _ s
  refine wpAny_bind (wpAny_seqItems ho hd ?_)
  refine wpAny_bind ?_
  show wpAny _ _ (forIn vs _ _) _ _ s
  rw [← Array.forIn_toList]
  refine wpAny_forIn_list _ (fun rest r s' => r.1 = none ∧ s' = s ∧ ∀ v ∈ rest, NoCls P w n s v) _ (fun v rest r s' ⟨hr, es, hall⟩ => ?_) (fun ⟨r1, r2⟩ s' ⟨hr, es, _⟩ => ?_) _ _ ⟨rfl, rfl, hq⟩
  · subst es
    refine wpAny_bind (hall v List.mem_cons_self _ _ _ ?_)
    simp only [Bool.false_eq_true, if_false]
    exact wpAny_pure ⟨rfl, rfl, fun u hu' => hall u (List.mem_cons_of_mem _ hu')⟩
  · subst es
    simp only at hr
    subst hr
    exact wpAny_pure h
theorem anyVal_tup {n : Nat} {s : Shared} {a : Addr} {o : Obj} {vs : Array Value} {m : Nat} (ho : s.heap.get? a = some o) (hc : o.cls = .type "tuple") (hd : o.data = .seq vs m) (hq : ∀ v ∈ vs.toList, AnyVal P w n s v) : AnyVal P w (n + 1) s (.ref a) := fun A E Q h => by
  have ty : s.TypeIs (.ref a) "tuple" := ⟨o, ho, hc⟩
  unfold hashByValue
  refine wpAny_bind (wpAny_specialOf ty F.slot_tuple_hash.lookup ?_)
  show wpAny _ _ (seqItems? (.ref a) >>= _) _ _ s
  refine wpAny_bind (wpAny_seqItems ho hd ?_)
  refine wpAny_bind ?_
  show wpAny _ _ (forIn vs _ _) _ _ s
  rw [← Array.forIn_toList]
  have fin : ∀ (r : Option Bool), wpAny (model P w) A (match r with | none => pure true | some b => pure b : Sem Bool) Q E s := fun r => by
    cases r with
    | none => exact wpAny_pure (h true)
    | some b => exact wpAny_pure (h b)
  refine wpAny_forIn_list _ (fun rest r s' => r.1 = none ∧ s' = s ∧ ∀ v ∈ rest, AnyVal P w n s v) _ (fun v rest r s' ⟨hr, es, hall⟩ => ?_) (fun ⟨r1, r2⟩ s' ⟨hr, es, _⟩ => ?_) _ _ ⟨rfl, rfl, hq⟩
  · subst es
    refine wpAny_bind (hall v List.mem_cons_self _ _ _ fun b => ?_)
    cases b with
    | true =>
      simp only [Bool.not_true, Bool.false_eq_true, if_false]
      exact wpAny_pure ⟨rfl, rfl, fun u hu' => hall u (List.mem_cons_of_mem _ hu')⟩
    | false =>
      simp only [Bool.not_false, if_true]
      exact wpAny_pure (fin (some false))
  · subst es
    simp only at hr
    subst hr
    exact wpAny_pure (h true)
mutual
theorem noCls_key : ∀ (k : NestedKey) (v : Value) (n : Nat) (s : Shared), NestedIs s.heap k v → k.depth ≤ n → NoCls P w n s v
  | .none, _, n, s, x, _ => by
    cases x
    intro A E Q h
    cases n <;> exact wpAny_pure h
  | .num i, _, n, s, x, _ => by
    intro A E Q h
    cases x <;> cases n <;> exact wpAny_pure h
  | .text y, _, n, s, x, _ => by
    cases x
    intro A E Q h
    cases n <;> exact wpAny_pure h
  | .tup ks, _, n, s, x, hn => by
    cases x with
    | tup hg hc hd hk =>
      simp only [NestedKey.depth] at hn
      cases n with
      | zero => omega
      | succ n => exact noCls_tup hg hc hd (noCls_keys ks _ n s hk (by omega))
theorem noCls_keys : ∀ (ks : List NestedKey) (vs : List Value) (n : Nat) (s : Shared), NestedAll s.heap ks vs → NestedKey.depthAll ks ≤ n → ∀ v ∈ vs, NoCls P w n s v
  | [], _, n, s, x, _, v, hv => by cases x; cases hv
  | k :: ks, _, n, s, x, hn, v, hv => by
    cases x with
    | cons x1 x2 =>
      simp only [NestedKey.depthAll] at hn
      rcases List.mem_cons.mp hv with e | hv
      · rw [e]; exact noCls_key k _ n s x1 (by omega)
      · exact noCls_keys ks _ n s x2 (by omega) v hv
end
mutual
theorem anyVal_key : ∀ (k : NestedKey) (v : Value) (n : Nat) (s : Shared), NestedIs s.heap k v → k.depth ≤ n → AnyVal P w n s v
  | .none, _, n, s, x, _ => by
    cases x
    intro A E Q h
    cases n <;> exact wpAny_pure (h _)
  | .num i, _, n, s, x, _ => by
    intro A E Q h
    cases x <;> cases n <;> exact wpAny_pure (h _)
  | .text y, _, n, s, x, _ => by
    cases x
    intro A E Q h
    cases n <;> exact wpAny_pure (h _)
  | .tup ks, _, n, s, x, hn => by
    cases x with
    | tup hg hc hd hk =>
      simp only [NestedKey.depth] at hn
      cases n with
      | zero => omega
      | succ n => exact anyVal_tup hg hc hd (anyVal_keys ks _ n s hk (by omega))
theorem anyVal_keys : ∀ (ks : List NestedKey) (vs : List Value) (n : Nat) (s : Shared), NestedAll s.heap ks vs → NestedKey.depthAll ks ≤ n → ∀ v ∈ vs, AnyVal P w n s v
  | [], _, n, s, x, _, v, hv => by cases x; cases hv
  | k :: ks, _, n, s, x, hn, v, hv => by
    cases x with
    | cons x1 x2 =>
      simp only [NestedKey.depthAll] at hn
      rcases List.mem_cons.mp hv with e | hv
      · rw [e]; exact anyVal_key k _ n s x1 (by omega)
      · exact anyVal_keys ks _ n s x2 (by omega) v hv
end
variable {A : Around} {E : Value → Shared → Prop} {s : Shared}
theorem n_quiet {k : NestedKey} {b : Addr} {Q : Bool → Shared → Prop} (x : IsN s.heap k b) (h : Q true s) : wpAny (model P w) A (eqIsQuiet 8 (.ref b)) Q E s := quiet_key k _ 8 s x.1 x.2.1 A E Q h
theorem n_noCls {k : NestedKey} {b : Addr} {Q : Bool → Shared → Prop} (x : IsN s.heap k b) (h : Q false s) : wpAny (model P w) A (ofAClassStatement 8 (.ref b)) Q E s := noCls_key k _ 8 s x.1 x.2.1 A E Q h
theorem n_val {k : NestedKey} {b : Addr} {Q : Bool → Shared → Prop} (x : IsN s.heap k b) (h : ∀ c, Q c s) : wpAny (model P w) A (hashByValue 8 (.ref b)) Q E s := anyVal_key k _ 8 s x.1 x.2.1 A E Q h
/-- a search among such shows nothing -/
theorem n_seen {k : NestedKey} {b : Addr} {Q : Bool → Shared → Prop} (hk : IsN s.heap k b) {ys : List Value} (hy : ∀ y ∈ ys, ∃ l c, y = Value.ref c ∧ IsN s.heap l c) (h : Q false s) : wpAny (model P w) A (searchCouldBeSeen (.ref b) ys) Q E s := by
  unfold searchCouldBeSeen
  refine wpAny_bind (wpAny_forIn_list _ (fun rest r s' => r.1 = none ∧ s' = s ∧ ∀ y ∈ rest, ∃ l c, y = Value.ref c ∧ IsN s.heap l c) _ (fun v rest r s' ⟨hr, es, hall⟩ => ?_) (fun ⟨r1, r2⟩ s' ⟨hr, es, _⟩ => ?_) _ _ ⟨rfl, rfl, hy⟩)
  · subst es
    obtain ⟨l, c, rfl, hc⟩ := hall v List.mem_cons_self
    have next := fun u (hu' : u ∈ rest) => hall u (List.mem_cons_of_mem _ hu')
    dsimp only
    by_cases same : (b == c || (carriedByValue (.ref b) && carriedByValue (.ref c))) = true
    · exact wp_if_pos same (wpAny_pure ⟨rfl, rfl, next⟩)
    · refine wp_if_neg same (wpAny_bind (n_quiet hk ?_))
      simp only [Bool.not_true, Bool.false_eq_true, if_false]
      refine wpAny_bind (n_quiet hc ?_)
      simp only [Bool.not_true, Bool.false_eq_true, if_false]
      refine wpAny_bind (n_noCls hk ?_)
      simp only [Bool.false_eq_true, if_false]
      refine wpAny_bind (n_noCls hc ?_)
      simp only [Bool.false_eq_true, if_false]
      exact wpAny_pure ⟨rfl, rfl, next⟩
  · subst es
    simp only at hr
    subst hr
    exact wpAny_pure h

/-! ### the table -/
abbrev En : Type := Addr × NestedKey
def rowN (w : World) (p : En) : Int × Value := (p.2.hash w, .ref p.1)
structure TbN (w : World) (h : Heap) (a : Addr) (L : List En) (es : Array (Int × Value)) (ep : Nat) (t : SetTable) : Prop where
  ob : ∃ o, h.get? a = some o ∧ o.ExactSet ∧ o.data = .set es ep t
  rows : es.toList = L.map (rowN w)
  tab : TabOk t (L.map fun p => p.2.hash w)
  keys : ∀ p ∈ L, IsN h p.2 p.1
  led : w.params.followText "set-order" = true ∨ t.led = true
  room : L.length * 5 < t.mask * 3
  few : L.length ≤ 16
variable {a : Addr} {L : List En} {es : Array (Int × Value)} {ep : Nat} {t : SetTable}
theorem rows_size (h : es.toList = L.map (rowN w)) : es.size = L.length := by
  have := congrArg List.length h
  rwa [Array.length_toList, List.length_map] at this
theorem rows_at (h : es.toList = L.map (rowN w)) {i : Nat} {p : En} (hp : L[i]? = some p) : es[i]? = some (p.2.hash w, Value.ref p.1) := by
  rw [← Array.getElem?_toList, h, List.getElem?_map, hp]
  rfl
theorem fits_of {hs : List Int} (T : TabOk t hs) {n : Nat} (hn : n = hs.length) (hl : hs.length ≤ t.mask) : t.fits n = true := by
  have h1 := T.sz
  unfold SetTable.fits SetTable.fill
  rw [T.dm, Bool.and_eq_true, beq_iff_eq, decide_eq_true_eq]
  show t.place.size = n ∧ t.place.size + 0 ≤ t.mask
  omega
theorem TbN.fits (R : TbN w s.heap a L es ep t) : t.fits es.size = true := fits_of R.tab (by rw [rows_size R.rows, List.length_map]) (by rw [List.length_map]; have := R.room; omega)
/-- the c-th step of the way -/
abbrev stepN (t : SetTable) (h : Int) (c : Nat) : SetTable.Probe := nth t.mask (runAt t.mask (SetTable.bits h % (t.mask + 1)) (SetTable.bits h)) c
theorem step_dummy (t : SetTable) (h : Int) (c : Nat) : (stepN t h c).dummy = none := by
  have key : ∀ (n : Nat) (p : SetTable.Probe), p.dummy = none → (nth t.mask p n).dummy = none := fun n => by
    induction n with
    | zero => exact fun p q => q
    | succ n ih =>
      intro p q
      refine ih (adv t.mask p) ?_
      unfold adv
      split <;> exact q
  exact key c _ rfl
theorem step_add (t : SetTable) (h : Int) (c q : Nat) : nth t.mask (stepN t h c) q = stepN t h (c + q) := (nth_add t.mask c _ q).symm
theorem n_search (R : TbN w s.heap a L es ep t) {x : Addr} {k : NestedKey} (hx : IsN s.heap k x) (hu : A.units + 8 < cLine) {n : Nat} (h1 : way t.mask (k.hash w) n ∉ t.place.toList) (h2 : ∀ c, c < n → way t.mask (k.hash w) c ∈ t.place.toList) (h3 : n < 10 * SetTable.turns t.mask)
    {Q : SetFound → Shared → Prop} (there : Q (.there none) s) (free : Q (.free (way t.mask (k.hash w) n) false) s) :
    ∀ (f c : Nat) (st : Option SetTable.Probe), st.getD (t.probeStart (k.hash w)) = stepN t (k.hash w) c → c ≤ n → n - c < f → wpAny (model P w) A (setSearchFrom a (.ref x) (k.hash w) true f st) Q E s
  | 0, _, _, _, _, z => absurd z (Nat.not_lt_zero _)
  | f + 1, c, st, hst, hc, hf => by
    obtain ⟨o, ho, _, hd⟩ := R.ob
    rw [setSearchFrom_succ]
    refine wpAny_bind (wpAny_setState_of ho hd R.fits ?_)
    dsimp only
    refine wp_if_neg (by unfold SetTable.gaveWay; rw [mask_odd R.tab.mok]; decide) ?_
    try refine wpAny_bind (wpAny_pure ?_)
    have jj : ∀ q, (nth t.mask (stepN t (k.hash w) c) q).j = way t.mask (k.hash w) (c + q) := fun q => congrArg SetTable.Probe.j (step_add t _ c q)
    have last : c + (n - c) = n := by omega
    rcases go_spec t R.tab.ris R.tab.dm (fun i => (es[i]?.map (·.1)).getD 0) (k.hash w) (10 * SetTable.turns t.mask) (n - c) (stepN t (k.hash w) c) (step_dummy t _ c) (by omega) (fun q hq => by rw [jj]; exact h2 _ (by omega)) (by rw [jj, last]; exact h1) with ⟨q, i, hq, hi, _, _, hp⟩ | ⟨_, hp⟩
    · have hp2 : t.probe (fun i => (es[i]?.map (·.1)).getD 0) (k.hash w) (st.getD (t.probeStart (k.hash w))) = some (.candidate (way t.mask (k.hash w) (c + q)) i (stepN t (k.hash w) (c + (q + 1)))) := by
        rw [hst, ← jj, ← step_add]
        exact hp
      rw [hp2]
      dsimp only
      rw [jj] at hi
      have hil : i < L.length := by
        have z1 := (List.getElem?_eq_some_iff.mp hi).1
        have z2 := R.tab.sz
        rw [List.length_map] at z2
        rw [Array.length_toList] at z1
        omega
      have hat : L[i]? = some L[i] := List.getElem?_eq_getElem hil
      generalize L[i] = p at hat
      have hpk := R.keys p (List.mem_of_getElem? hat)
      have hsl : t.slot (way t.mask (k.hash w) (c + q)) = .live i := slot_live R.tab.ris hi
      have tail : wpAny (model P w) A (searchRest a (.ref x) (k.hash w) true f es t (way t.mask (k.hash w) (c + q)) i (stepN t (k.hash w) (c + (q + 1)))) Q E s := by
        unfold searchRest
        rw [rows_at R.rows hat]
        dsimp only
        refine wpAny_bind (wpAny_holding ((nestedKind P w).eqBool (x := p.2) (y := k) hu ⟨hpk.1, hpk.2.1⟩ ⟨hx.1, hx.2.1⟩ ?_))
        refine wpAny_bind (wpAny_setState_of ho hd R.fits ?_)
        dsimp only
        by_cases hkk : p.2 = k
        · refine wp_if_pos (by simp [hkk]) ?_
          exact wpAny_pure there
        · refine wp_if_neg (by simp [hkk]) ?_
          try refine wpAny_bind (wpAny_pure ?_)
          rw [sameMem]
          dsimp only
          simp only [if_true, hsl, rows_at R.rows hat]
          refine wpAny_bind (wpAny_isSame_ref_self (wpAny_bind (wpAny_pure ?_)))
          simp only [if_true]
          refine wp_if_neg (by simp [hkk]) ?_
          exact n_search R hx hu h1 h2 h3 there free f (c + (q + 1)) _ rfl (by omega) (by omega)
      by_cases hl : t.led = true
      · refine wp_if_neg (by simp [hl]) ?_
        try refine wpAny_bind (wpAny_pure ?_)
        exact tail
      · refine wp_if_pos (by simp [hl]) ?_
        refine wpAny_bind (n_seen hx (fun y hy => ?_) ?_)
        · obtain ⟨e, he, ee⟩ := List.mem_map.mp hy
          have he1 : e ∈ es.toList := by
            have : e ∈ es ∧ e.1 = k.hash w := by simpa using he
            simpa using this.1
          rw [R.rows] at he1
          obtain ⟨p2, hp2, e2⟩ := List.mem_map.mp he1
          exact ⟨p2.2, p2.1, by rw [← ee, ← e2]; rfl, R.keys p2 hp2⟩
        · refine wp_if_neg (by decide) ?_
          try refine wpAny_bind (wpAny_pure ?_)
          exact tail
    · have hp2 : t.probe (fun i => (es[i]?.map (·.1)).getD 0) (k.hash w) (st.getD (t.probeStart (k.hash w))) = some (.empty (way t.mask (k.hash w) n) none) := by
        have e2 : way t.mask (k.hash w) n = (nth t.mask (stepN t (k.hash w) c) (n - c)).j := by rw [jj, last]
        rw [hst, e2]
        exact hp
      rw [hp2]
      dsimp only
      exact wpAny_pure free
end
end Fw
set_option Elab.async false
set_option linter.all false
set_option maxRecDepth 100000
set_option maxHeartbeats 4000000
/-! sets of nested tuples: adding -/
namespace Fw
open PySem PySem.Spec PyProof.Rows L2
theorem IsN.but {h h' : Heap} {k : NestedKey} {a b : Addr} {o : Obj} {es : Array (Int × Value)} {ep : Nat} {t : SetTable} (x : IsN h k b) (ho : h.get? a = some o) (hd : o.data = .set es ep t) (hs : Heap.SameBut a h h') : IsN h' k b := x.keep fun c oc vs n q hq => by
  refine (hs.2 c fun e => ?_).trans q
  rw [e, ho] at q
  cases q
  rw [hd] at hq
  cases hq
section
variable {P : Program} {w : World} {A : Around} {E : Value → Shared → Prop} {s : Shared} {a : Addr} {L : List En} {es : Array (Int × Value)} {ep : Nat} {t : SetTable}
/-- the rows in another order -/
theorem rows_order {order : Array Nat} (hr : es.toList = L.map (rowN w)) (hp : order.toList.Perm (List.range L.length)) :
    ∃ L2 : List En, (order.filterMap (es[·]?)).toList = L2.map (rowN w) ∧ (∀ p ∈ L2, p ∈ L) ∧ L2.length = L.length ∧ (L2.map fun p => p.2.hash w) = order.toList.map fun i => (es.map (·.1)).getD i 0 := by
  have hin : ∀ i ∈ order.toList, i < L.length := fun i hi => List.mem_range.mp (hp.mem_iff.mp hi)
  have key : ∀ l : List Nat, (∀ i ∈ l, i < L.length) → ∃ L2 : List En, l.filterMap (fun i => es[i]?) = L2.map (rowN w) ∧ (∀ p ∈ L2, p ∈ L) ∧ L2.length = l.length ∧ (L2.map fun p => p.2.hash w) = l.map fun i => (es.map (·.1)).getD i 0 := fun l => by
    induction l with
    | nil => exact fun _ => ⟨[], rfl, (fun p h => nomatch h), rfl, rfl⟩
    | cons i l ih =>
      intro hl
      obtain ⟨L2, e1, e2, e3, e4⟩ := ih fun j hj => hl j (List.mem_cons_of_mem _ hj)
      have hi := hl i List.mem_cons_self
      have at1 : L[i]? = some L[i] := List.getElem?_eq_getElem hi
      have at2 := rows_at hr at1
      refine ⟨L[i] :: L2, ?_, fun p hpm => ?_, by rw [List.length_cons, List.length_cons, e3], ?_⟩
      · rw [List.filterMap_cons_some at2, e1]
        rfl
      · rcases List.mem_cons.mp hpm with rfl | hpm
        · exact List.getElem_mem hi
        · exact e2 p hpm
      · have at3 : (es.map (·.1))[i]? = some ((L[i]).2.hash w) := by
          rw [Array.getElem?_map, at2]
          rfl
        rw [List.map_cons, List.map_cons, e4]
        simp [Array.getD_eq_getD_getElem?, at3]
  obtain ⟨L2, e1, e2, e3, e4⟩ := key order.toList hin
  refine ⟨L2, by first | (rw [Array.toList_filterMap]; exact e1) | simpa using e1, e2, ?_, e4⟩
  rw [e3, hp.length_eq, List.length_range]
/-- the table is laid anew -/
theorem n_relay {o : Obj} {hs : List Int} (ho : s.heap.get? a = some o) (hex : o.ExactSet) (hd : o.data = .set es ep t) (rows : es.toList = L.map (rowN w)) (T : TabOk t hs) (hl : hs.length = L.length) (hm : L.length ≤ t.mask) (keys : ∀ p ∈ L, IsN s.heap p.2 p.1) (led : w.params.followText "set-order" = true ∨ t.led = true) (few : L.length ≤ 16)
    {wanted : Nat} (hw : SetTable.sizeAbove wanted = 32) {Q : Unit → Shared → Prop} (hQ : ∀ h' L' es' ep' t', Heap.SameBut a s.heap h' → TbN w h' a L' es' ep' t' → (∀ p ∈ L', p ∈ L) → L'.length = L.length → Q () { s with heap := h' }) : wpAny (model P w) A (setRelay a wanted) Q E s := by
  have hz := rows_size rows
  have fit : t.fits es.size = true := fits_of T (by omega) (by omega)
  obtain ⟨t2, order, e, pm, T2, m2, l2, _, _⟩ := relaid_ok t (hs := es.map (·.1)) (wanted := wanted) (M := 31) (by rw [hw]) (.inr (.inl rfl)) (by rw [Array.size_map, hz]; omega)
  rw [Array.size_map, hz] at pm
  obtain ⟨L2, r1, r2, r3, r4⟩ := rows_order rows pm
  rw [← r4] at T2
  have z2 := rows_size r1
  rw [setRelay_eq]
  refine wpAny_bind (wpAny_setState_of ho hd fit ?_)
  dsimp only
  refine wp_if_neg (by rw [hw, sizeLine_eq]; omega) ?_
  try refine wpAny_bind (wpAny_pure ?_)
  rw [e]
  dsimp only
  refine wpAny_bind (wp_if_neg (by rw [z2, r3, hz]; simp) ?_)
  try refine wpAny_bind (wpAny_pure ?_)
  refine wpAny_pure ?_
  dsimp only
  refine wpAny_storeSet_of ho hd ?_ (by rw [z2, r3, sizeLine_eq]; omega)
  have sb : Heap.SameBut a s.heap (s.heap.update a (Obj.putSet (order.filterMap (es[·]?)) t2)) := Heap.SameBut.update ..
  exact hQ _ L2 _ (ep + 1) t2 sb ⟨⟨_, store_at ho hd, ⟨hex.1, hex.2.1, hex.2.2⟩, rfl⟩, r1, T2, fun p hp => (keys p (r2 p hp)).but ho hd sb, by rw [l2]; exact led, by rw [r3, m2]; omega, by rw [r3]; exact few⟩ r2 r3
theorem n_plain {β : Type} {k : NestedKey} {x : Addr} {c : Bool} {f : Bool → Sem β} {Q : β → Shared → Prop} (hx : IsN s.heap k x) (h : ∀ b, wpAny (model P w) A (f b) Q E s) : wpAny (model P w) A (if c = true then (hashByValue 8 (.ref x) >>= f) else (pure true >>= f)) Q E s := by
  cases c with
  | true => exact wpAny_bind (n_val hx h)
  | false => exact wpAny_bind (wpAny_pure (h true))
/-- one is added, or is there -/
theorem n_add (R : TbN w s.heap a L es ep t) {x : Addr} {k : NestedKey} (hx : IsN s.heap k x) (hu : A.units + 8 < cLine) (few : L.length + 1 ≤ 16) {Q : Bool → Shared → Prop}
    (hQ : ∀ b h' L' es' ep' t', Heap.SameBut a s.heap h' → TbN w h' a L' es' ep' t' → (∀ p ∈ L', p ∈ L ∨ p = (x, k)) → L'.length ≤ L.length + 1 → Q b { s with heap := h' }) : wpAny (model P w) A (setAddHashed a (.ref x) (k.hash w)) Q E s := by
  obtain ⟨o, ho, hex, hd⟩ := R.ob
  have hz := rows_size R.rows
  have room := R.room
  unfold setAddHashed
  refine wpAny_holding ?_
  rw [show (100000 : Nat) = 99999 + 1 from rfl, setAddHashedIn_succ]
  refine wpAny_bind (wpAny_setState_of ho hd R.fits ?_)
  dsimp only
  refine wp_if_neg (by simp [byScan, Value.scannable]) ?_
  try refine wpAny_bind (wpAny_pure ?_)
  obtain ⟨n, n1, n2, n3⟩ := R.tab.first (by rw [List.length_map]; omega) (k.hash w)
  have big : n < 100000 := by
    have : 10 * SetTable.turns t.mask ≤ 1420 := by
      unfold SetTable.turns
      rcases R.tab.mok with e | e | e <;> omega
    omega
  unfold setSearch
  refine wpAny_bind (n_search R hx hu n2 n3 n1 ?_ ?_ 100000 0 none rfl (Nat.zero_le _) (by omega))
  · dsimp only
    exact wpAny_pure (hQ false s.heap L es ep t (Heap.SameBut.refl a s.heap) R (fun p hp => .inl hp) (Nat.le_succ _))
  · dsimp only
    refine wpAny_bind (wpAny_setState_of ho hd R.fits ?_)
    dsimp only
    obtain ⟨q1, q2, q3, q4, q5, _, _, _, q9⟩ := R.tab.put n2 n3
    generalize t.put (way t.mask (k.hash w) n) = pt at q1 q3 q4 q5 q9 ⊢
    obtain ⟨t1, p⟩ := pt
    dsimp only at q1 q3 q4 q5 q9 ⊢
    rw [← q1] at q2 q3
    clear q1
    refine n_plain hx fun b => ?_
    have w1 : (SetTable.insertAt es p (k.hash w, Value.ref x)).toList = (L.take p ++ (x, k) :: L.drop p).map (rowN w) := by
      rw [SetTable.toList_insertAt, R.rows, List.map_append, List.map_cons, List.map_take, List.map_drop]
      rfl
    have pm : (L.take p ++ (x, k) :: L.drop p).Perm ((x, k) :: L) := by
      have := List.perm_middle (a := (x, k)) (l₁ := L.take p) (l₂ := L.drop p)
      rwa [List.take_append_drop] at this
    have hashes : (L.take p ++ (x, k) :: L.drop p).map (fun p => p.2.hash w) = (L.map fun p => p.2.hash w).take p ++ k.hash w :: (L.map fun p => p.2.hash w).drop p := by
      rw [List.map_append, List.map_cons, List.map_take, List.map_drop]
    rw [← hashes] at q3
    have len1 := pm.length_eq
    rw [List.length_cons] at len1
    generalize L.take p ++ (x, k) :: L.drop p = L1 at w1 pm q3 len1
    have z1 := rows_size w1
    generalize SetTable.insertAt es p (k.hash w, Value.ref x) = es1 at w1 z1 ⊢
    have f2 : ∀ c : Bool, TabOk (if c = true then t1 else { t1 with plain := false }) (L1.map fun p => p.2.hash w) ∧ (if c = true then t1 else { t1 with plain := false }).mask = t.mask ∧ (if c = true then t1 else { t1 with plain := false }).led = t.led ∧ (if c = true then t1 else { t1 with plain := false }).fill = L.length + 1 := fun c => by
      rw [List.length_map] at q9
      cases c with
      | true => exact ⟨q3, q4, q5, q9⟩
      | false => exact ⟨⟨q3.ris, q3.dm, q3.sz, q3.mok, q3.bd, q3.reach⟩, q4, q5, q9⟩
    obtain ⟨g1, g2, g3, g4⟩ := f2 b
    generalize (if b = true then t1 else { t1 with plain := false }) = t2 at g1 g2 g3 g4 ⊢
    refine wpAny_bind (wpAny_storeSet_of ho hd ?_ (by rw [z1, len1, sizeLine_eq]; omega))
    have sb : Heap.SameBut a s.heap (s.heap.update a (Obj.putSet es1 t2)) := Heap.SameBut.update ..
    have ho1 := store_at (es' := es1) (t' := t2) ho hd
    generalize s.heap.update a (Obj.putSet es1 t2) = h1 at sb ho1 ⊢
    have keys1 : ∀ p ∈ L1, IsN h1 p.2 p.1 := fun p hp => by
      rcases List.mem_cons.mp (pm.mem_iff.mp hp) with rfl | hp
      · exact hx.but ho hd sb
      · exact (R.keys p hp).but ho hd sb
    have led1 : w.params.followText "set-order" = true ∨ t2.led = true := by rw [g3]; exact R.led
    have sub1 : ∀ p ∈ L1, p ∈ L ∨ p = (x, k) := fun p hp => by
      rcases List.mem_cons.mp (pm.mem_iff.mp hp) with e | hp
      · exact .inr e
      · exact .inl hp
    by_cases full : t2.tooFull = true
    · have f5 : (L.length + 1) * 5 ≥ t.mask * 3 := by
        have h := full
        unfold SetTable.tooFull at h
        rw [decide_eq_true_eq, g4, g2] at h
        exact h
      have four : t.mask = 7 ∧ L.length = 4 := by
        rcases R.tab.mok with e | e | e <;> rw [e] at f5 room <;> omega
      rw [hz, four.2]
      have rel : ∀ Q' : Unit → Shared → Prop, (∀ h' L' es' ep' t', Heap.SameBut a h1 h' → TbN w h' a L' es' ep' t' → (∀ p ∈ L', p ∈ L1) → L'.length = L1.length → Q' () { s with heap := h' }) → wpAny (model P w) A (setRelay a (SetTable.grown (4 + 1))) Q' E { s with heap := h1 } := fun Q' hq => n_relay (s := { s with heap := h1 }) (o := _) ho1 ⟨hex.1, hex.2.1, hex.2.2⟩ rfl w1 g1 (by rw [List.length_map]) (by rw [g2, four.1]; omega) keys1 led1 (by omega) (by rw [show 4 + 1 = 5 from rfl, size_20]) hq
      first
        | refine wpAny_bind (wp_if_pos (by simp [full]) (rel _ fun h2 L2 es2 ep2 t2 sb2 R2 s2 l2 => ?_))
        | refine wp_if_pos (by simp [full]) (wpAny_bind (rel _ fun h2 L2 es2 ep2 t2 sb2 R2 s2 l2 => ?_))
      exact wpAny_pure (hQ true h2 L2 es2 ep2 t2 (sb.trans sb2) R2 (fun p hp => sub1 p (s2 p hp)) (by omega))
    · have f5 : (L.length + 1) * 5 < t.mask * 3 := by
        have h := full
        unfold SetTable.tooFull at h
        rw [decide_eq_true_eq, g4, g2] at h
        omega
      first
        | refine wp_if_neg (by simp [full]) ?_
        | (refine wpAny_bind (wp_if_neg (by simp [full]) ?_); refine wpAny_pure ?_)
      exact wpAny_pure (hQ true h1 L1 es1 (ep + 1) t2 sb ⟨⟨_, ho1, ⟨hex.1, hex.2.1, hex.2.2⟩, rfl⟩, w1, g1, keys1, led1, by rw [len1, g2]; exact f5, by omega⟩ sub1 (by omega))
end
end Fw
set_option Elab.async false
set_option linter.all false
set_option maxRecDepth 100000
set_option maxHeartbeats 8000000
/-! set(list of nested tuples), raw -/
namespace Fw
open PySem PySem.Spec PyProof.Rows L2
section
variable {P : Program} {w : World} {A : Around} {E : Value → Shared → Prop} {s : Shared}
theorem IsN.stay {h h' : Heap} {k : NestedKey} {b : Addr} (x : IsN h k b) (hk : ∀ c o, h.get? c = some o → h'.get? c = some o) : IsN h' k b := x.keep fun c o _ _ q _ => hk c o q
theorem TbN.stay {h h' : Heap} {a : Addr} {L : List En} {es : Array (Int × Value)} {ep : Nat} {t : SetTable} (R : TbN w h a L es ep t) (ha : ∀ o, h.get? a = some o → h'.get? a = some o) (hk : ∀ p ∈ L, IsN h' p.2 p.1) : TbN w h' a L es ep t := by
  obtain ⟨o, ho, r⟩ := R.ob
  exact ⟨⟨o, ha o ho, r⟩, R.rows, R.tab, hk, R.led, R.room, R.few⟩
abbrev newSet (w : World) : Obj := { cls := .type "set", dict := none, data := .set #[] 0 (.fresh 0 0 (!w.params.followText "set-order")) }
theorem tbN_new {h : Heap} {a : Addr} (ho : h.get? a = some (newSet w)) : TbN w h a [] #[] 0 (.fresh 0 0 (!w.params.followText "set-order")) := by
  refine ⟨⟨_, ho, ⟨rfl, rfl, rfl⟩, rfl⟩, rfl, ⟨List.Pairwise.nil, rfl, rfl, .inl rfl, (fun x hx => nomatch hx), fun i g j hi => by simp at hi⟩, (fun p hp => nomatch hp), ?_, (show 0 * 5 < 7 * 3 by decide), (show 0 ≤ 16 by decide)⟩
  show _ ∨ (!w.params.followText "set-order") = true
  cases w.params.followText "set-order" with
  | true => exact .inl rfl
  | false => exact .inr rfl
/-- what a set has got -/
def GotN (ks L : List En) (i : Nat) : Prop := (∀ p ∈ L, p ∈ ks) ∧ L.length ≤ i
theorem n_update {I : Addr} {fp wr : List Addr} {G : Array GenState → Array GenState → Prop} {n : Nat} {Pv : Nat → Value → Prop} {St : Nat → Shared → Prop} {R : Result → Shared → Prop} (W : WalksS P w A.in1 I fp wr G n Pv St) (S : Addr) (hSf : S ∉ fp) (ks : List En) (hn : n = ks.length) (hfew : ks.length ≤ 16)
    (hval : ∀ i v, Pv i v → ∃ p, ks[i]? = some p ∧ v = .ref p.1) (h0 : Heap) (hk : ∀ p ∈ ks, IsN h0 p.2 p.1) (hS0 : h0.get? S = none) (hw0 : ∀ b ∈ wr, h0.get? b = none) (hu : A.in1.units + 8 < cLine) :
    ∀ (d i : Nat) (s : Shared), n - i = d → i ≤ n → St i s → (∀ b o, h0.get? b = some o → s.heap.get? b = some o) → (∃ L es ep t, TbN w s.heap S L es ep t ∧ GotN ks L i) →
      (∀ s' L es ep t, Moved (S :: wr) G s s' → TbN w s'.heap S L es ep t → GotN ks L n → (∀ b o, h0.get? b = some o → s'.heap.get? b = some o) → R (.ok (.ret .none)) s') →
      codeAny (model P w) A (.builtin "set.update.loop" ⟨[.ref S, .ref I], []⟩) R s := by
  have hSw : S ∉ wr := fun h => hSf (W.sub _ h)
  have wider : ∀ b ∈ wr, b ∈ S :: wr := fun b hb => List.mem_cons_of_mem _ hb
  have old : ∀ {s s' : Shared}, Moved wr G s s' → (∀ b o, h0.get? b = some o → s.heap.get? b = some o) → ∀ b o, h0.get? b = some o → s'.heap.get? b = some o := fun mv hkp b o e => mv.heap b o (fun hb => by rw [hw0 b hb] at e; cases e) (hkp b o e)
  intro d
  induction d with
  | zero =>
    intro i s hd hi hst hkp ⟨L, es, ep, t, hS, g⟩ hR
    have e : i = n := by omega
    subst e
    refine codeAny_builtin F.entry_set_update_loop ?_
    rw [Around.under_plainId F.plain_set_update_loop _]
    show wpAny _ A.in1 (pyNext (.ref I) >>= _) _ _ s
    refine wpAny_bind (W.done s _ _ hst fun s' mv => ?_)
    show wpAny _ A.in1 (ret Value.none) _ _ s'
    have kp := old mv hkp
    exact wpAny_pure (hR s' L es ep t (mv.mono wider) (hS.stay (fun o q => mv.heap S o hSw q) fun p hp => (hk p (g.1 p hp)).stay kp) g kp)
  | succ d ih =>
    intro i s hd hi hst hkp ⟨L, es, ep, t, hS, g⟩ hR
    have lt : i < n := by omega
    refine codeAny_builtin F.entry_set_update_loop ?_
    rw [Around.under_plainId F.plain_set_update_loop _]
    show wpAny _ A.in1 (pyNext (.ref I) >>= _) _ _ s
    refine wpAny_bind (W.item i s _ _ lt hst fun v s' hP hst' mv => ?_)
    obtain ⟨p, hp, rfl⟩ := hval i v hP
    have kp := old mv hkp
    have hpm := List.mem_of_getElem? hp
    have hS' : TbN w s'.heap S L es ep t := hS.stay (fun o q => mv.heap S o hSw q) fun q hq => (hk q (g.1 q hq)).stay kp
    have hx : IsN s'.heap p.2 p.1 := (hk p hpm).stay kp
    show wpAny _ A.in1 (holding [Value.ref p.1] (setAdd S (.ref p.1)) >>= _) _ _ s'
    refine wpAny_bind (wpAny_holding ?_)
    unfold setAdd
    refine wpAny_holding ?_
    have hdp := hx.2.1
    refine wpAny_bind (pyHash_key p.2 _ A.in1 s' _ hx.1 (by omega) ?_)
    refine n_add (s := { s' with toks := s'.toks + p.2.draws }) hS' hx hu (by have := g.2; omega) fun b h' L' es' ep' t' sb hS2 sub len => ?_
    have g2 : GotN ks L' (i + 1) := ⟨fun q hq => (sub q hq).elim (g.1 q) fun e => by rw [e]; exact hpm, by have := g.2; omega⟩
    have kp2 : ∀ b o, h0.get? b = some o → h'.get? b = some o := fun b o e => (sb.2 b fun z => by rw [z, hS0] at e; cases e).trans (kp b o e)
    refine wpAny_pure ⟨plainId_quiet F.plain_set_update_loop _, ih (i + 1) _ (by omega) lt (W.frame _ s' _ _ hst' (Nat.le_add_right _ _) fun b hb o e => ?_) kp2 ⟨L', es', ep', t', hS2, g2⟩ fun s'' L3 es3 ep3 t3 mv3 hS3 g3 kp3 => ?_⟩
    · rw [sb.2 b fun z : b = S => hSf (by rw [← z]; exact hb)]
      exact e
    · refine hR s'' L3 es3 ep3 t3 (Moved.trans W.gtrans ((mv.mono wider).then_heap (Nat.le_add_right _ _) fun b o hb e => ?_) mv3) hS3 g3 kp3
      rw [sb.2 b fun z : b = S => hb (by rw [z]; exact List.mem_cons_self)]
      exact e
theorem n_set {l : Addr} {items : Array Value} (ks : List En) {Q : Value → Shared → Prop} (hh : A.handled = none) (hl : s.heap.IsList l items) (hit : items.toList = ks.map fun p => Value.ref p.1) (hk : ∀ p ∈ ks, IsN s.heap p.2 p.1) (hfew : ks.length ≤ 16) (hu : A.units + 20 < cLine)
    (h : ∀ (h' : Heap) (tk : Nat) L es ep t, TbN w h' s.heap.objs.size L es ep t → GotN ks L ks.length → (∀ b o, s.heap.get? b = some o → h'.get? b = some o) → Q (.ref s.heap.objs.size) { s with heap := h', toks := tk }) : wpAny (model P w) A (call (.type "set") [.ref l]) Q E s := by
  have hisz : items.size = ks.length := by
    have := congrArg List.length hit
    rwa [Array.length_toList, List.length_map] at this
  obtain ⟨c, tl, hmro⟩ := F.called_set.mro
  have hmade := F.called_set.made
  have hsub := F.called_set.sub
  refine wpAny_call (codeAny_of_tree ?_)
  show wpAny _ _ (callAny (.type "set") _) _ _ _
  refine wpAny_pure ⟨Code.quiet_builtin _ (by decide +kernel), codeAny_builtin F.entry_type_call ?_⟩
  rw [Around.under_plain (weight_type_call_type "set" [.ref l] []) rfl]
  have h1 := F.called_set.notType
  have h2 := F.called_set.canCreate
  have hct := F.typeCall_set_1 (.ref l)
  repeat (any_goals (first | assumption | wp_step))
  refine codeAny_mono (code_set_led1 (.ref l) (E := E) (Q₁ := fun obj s₁ => obj = .ref s.heap.objs.size ∧ s₁ = { s with heap := s.heap.push (newSet w) }) ⟨rfl, rfl⟩) fun r s₁ hr => ?_
  cases r with
  | error e => exact hr
  | ok fl =>
    cases fl with
    | ret obj =>
      obtain ⟨rfl, rfl⟩ := hr
      have hS : (s.heap.push (newSet w)).get? s.heap.objs.size = some (newSet w) := Heap.get?_push_size _ rfl
      have hT : Shared.TypeIs { s with heap := s.heap.push (newSet w) } (.ref s.heap.objs.size) "set" := ⟨_, hS, rfl⟩
      have hli := F.called_set.init.lookup
      have hbi := F.called_set.init.bind (.ref s.heap.objs.size)
      repeat (any_goals (first | assumption | wp_step))
      refine codeAny_mono (codeAny_call_builtin (R := wants (fun r s₂ => r = .none ∧ ∃ h' tk L es ep t, s₂ = { s with heap := h', toks := tk } ∧ TbN w h' s.heap.objs.size L es ep t ∧ GotN ks L ks.length ∧ (∀ b o, s.heap.get? b = some o → h'.get? b = some o)) E) F.called_set.init.plain F.entry_set_init (check_set_init_1 hT ?_)) fun r₂ s₂ hr₂ => ?_
      · obtain ⟨ol, hol, hcl, nl, hdl⟩ := hl
        obtain ⟨ocls, odict, odata, oslots⟩ := ol
        simp only at hcl hdl
        subst hcl hdl
        have hol' : (s.heap.push (newSet w)).get? l = some { cls := .type "list", dict := odict, data := .seq items nl, slots := oslots } := Heap.get?_push_of_some _ hol
        have hsls := F.sub_list_set
        have hslf := F.sub_list_frozenset
        have hne : (Value.type "list" == Value.type "dict") = false := by decide
        have hl1 : (s.heap.push (newSet w)).IsList l items := ⟨_, hol', rfl, nl, rfl⟩
        unfold Builtin.«set.__init__» noKeywords Builtin.Frozenset.updateFrom
        generalize hPI : pyIter = PI
        wp_walk
        subst hPI
        refine wpAny_pyIter_list hl1 ?_
        refine wpAny_bind (wpAny_runValue ?_)
        have hlS : l < s.heap.objs.size := Heap.lt_size hol
        have hh3 : A.in1.in1.in1.handled = none := by simp [hh]
        have hneI : l ≠ (s.heap.push (newSet w)).objs.size := by
          rw [Heap.size_push]
          exact Nat.ne_of_lt (Nat.lt_succ_of_lt hlS)
        have hSf : s.heap.objs.size ∉ [(s.heap.push (newSet w)).objs.size, l] := by
          rw [Heap.size_push]
          simp only [List.mem_cons, List.not_mem_nil, or_false, not_or]
          exact ⟨Nat.ne_of_lt (Nat.lt_succ_self _), Nat.ne_of_gt hlS⟩
        have hval : ∀ (i : Nat) (v : Value), items[i]? = some v → ∃ p, ks[i]? = some p ∧ v = .ref p.1 := fun i v hv => by
          have q : items.toList[i]? = some v := by
            rw [Array.getElem?_toList]
            exact hv
          rw [hit, List.getElem?_map] at q
          obtain ⟨p, hq, e⟩ := Option.map_eq_some_iff.mp q
          exact ⟨p, hq, e.symm⟩
        have young : ∀ b, s.heap.objs.size ≤ b → s.heap.get? b = none := fun b hb => by
          cases q : s.heap.get? b with
          | none => rfl
          | some o => exact absurd (Nat.lt_of_lt_of_le (Heap.lt_size q) hb) (Nat.lt_irrefl _)
        have hu3 : A.in1.in1.in1.in1.units + 8 < cLine := by
          have e : A.in1.in1.in1.in1.units ≤ A.units + 10 := by
            simp only [Around.in1, Around.units]
            omega
          omega
        refine n_update ((Walks.list hh3 _ l hneI items).toS) s.heap.objs.size hSf ks hisz hfew hval s.heap hk (young _ (Nat.le_refl _)) (fun b hb => young b (by rw [List.mem_singleton.mp hb, Heap.size_push]; exact Nat.le_succ _)) (by first | exact hu3 | (simp only [Around.in1, Around.units] at hu3 hu ⊢; omega)) (items.size - 0) 0 _ (by omega) (Nat.zero_le _)
          ⟨⟨_, Heap.get?_push_size _ rfl, rfl, rfl⟩, (hl1.push _)⟩ (fun b o e => Heap.get?_push_of_some _ (Heap.get?_push_of_some _ e)) ⟨[], #[], 0, _, tbN_new (Heap.get?_push_of_some _ hS), (fun p hp => nomatch hp), Nat.le_refl _⟩ fun s' L es ep t mv hS' g' kp => ?_
        obtain ⟨h', g2, d', tk', os'⟩ := s'
        have eg : g2 = s.gens := mv.gens
        have ed : d' = s.drawn := mv.drawn
        have eo : os' = s.os := mv.os
        subst eg ed eo
        show wpAny _ _ _ _ _ _
        refine wpAny_pure ?_
        show wpAny _ _ (ret Value.none) _ _ _
        rw [hisz] at g'
        exact wpAny_pure ⟨rfl, h', tk', L, es, ep, t, rfl, hS', g', kp⟩
      · cases r₂ with
        | error e => exact hr₂
        | ok fl₂ =>
          cases fl₂ with
          | ret r =>
            obtain ⟨rfl, h', tk, L, es, ep, t, rfl, hS', g', hk'⟩ := hr₂
            repeat (any_goals (first | assumption | wp_step))
            exact h _ _ _ _ _ _ hS' g' hk'
          | _ => exact hr₂.elim
    | _ => exact hr.elim
end
end Fw
set_option Elab.async false
set_option linter.all false
set_option maxRecDepth 100000
set_option maxHeartbeats 8000000
/-! sorted(set(list of messages)) -/
namespace Fw
open PySem PySem.Spec PyProof.Rows L2
/-! ### messages as keys -/
def keyV (e : Et) : NestedKey := .tup [.text e.1.1, .num (e.2 : Int)]
def keyM (m : Mg) : NestedKey := .tup [keyV m.1, keyV m.2]
theorem keyV_inj {a b : Et} (h : keyV a = keyV b) : a = b := by
  obtain ⟨⟨x, hx⟩, i⟩ := a
  obtain ⟨⟨y, hy⟩, j⟩ := b
  simp only [keyV, NestedKey.tup.injEq, List.cons.injEq, NestedKey.text.injEq, NestedKey.num.injEq, and_true] at h
  obtain ⟨h1, h2⟩ := h
  have h3 : i = j := by omega
  subst h1 h3
  rfl
theorem keyM_inj {a b : Mg} (h : keyM a = keyM b) : a = b := by
  simp only [keyM, NestedKey.tup.injEq, List.cons.injEq, and_true] at h
  exact Prod.ext (keyV_inj h.1) (keyV_inj h.2)
theorem ltM_asc {β : Type} (f : β → Mg) (l : List β) : (l.mergeSort (PySem.W.dataLe false fun b => encM (f b))).Pairwise fun x y => ltM (f y) (f x) = false := by
  refine (PySem.W.sort_pairwise (le := PySem.W.dataLe false fun b => encM (f b)) (PySem.W.sortLe_total _ _ _) l).imp fun {x y} h => ?_
  have h2 : (!PySem.W.dataLt (encM (f y)) (encM (f x))) = true := h
  simpa [ltM] using h2
section
variable {P : Program} {w : World} {A : Around} {E : Value → Shared → Prop} {s : Shared}
/-- sorted(set) -/
theorem n_sorted {a : Addr} {L : List En} {es : Array (Int × Value)} {ep : Nat} {t : SetTable} {Q : Value → Shared → Prop} (R : TbN w s.heap a L es ep t) (hh : A.handled = none) (hu : A.units + 64 < cLine) (hL : ∀ p ∈ L, ∃ m : Mg, p.2 = keyM m ∧ ∃ as, Reads s.heap (.ref p.1) (encM m) as)
    (hQ : ∀ s' p (out : Array Value) (c : Nat) (bs : List (Addr × Mg)), (∀ b o, s.heap.get? b = some o → s'.heap.get? b = some o) → s'.gens = s.gens → s'.os = s.os → s.heap.objs.size ≤ p → s'.heap.get? p = some (seqObj "list" out c) → out.toList = bs.map (fun b => Value.ref b.1) → (∀ b ∈ bs, (b.1, keyM b.2) ∈ L) → bs.length = L.length → (bs.Pairwise fun x y => ltM y.2 x.2 = false) → Q (.ref p) s') :
    wpAny (model P w) A (call (.builtin "sorted") [.ref a]) Q E s := by
  obtain ⟨o, ho, hex, hd⟩ := R.ob
  have hz := rows_size R.rows
  have few := R.few
  refine Calls.call_function_entry kind_sorted plain_sorted entry_sorted (args_sorted1 _) ?_
  unfold Builtin.«sorted»
  refine wpAny_bind (m := checkCount "sorted" 1 1 _) (wpAny_pure ?_)
  refine wpAny_bind (collect_set (A := A.in1) hh ⟨o, ho, hex.1, hd⟩ R.fits (by unfold scanBound; omega) R.tab.ris R.led fun s1 vs k1 sz g1 o1 pm => ?_)
  have hes : es.toList.map (·.2) = L.map fun q => Value.ref q.1 := by
    rw [R.rows, List.map_map]
    rfl
  rw [hes] at pm
  have hvl : vs.length = L.length := by rw [pm.length_eq, List.length_map]
  have pick : ∀ us : List Value, (∀ v ∈ us, v ∈ L.map fun q => Value.ref q.1) → ∃ bs : List (Addr × Mg), us = bs.map (fun b => Value.ref b.1) ∧ ∀ b ∈ bs, (b.1, keyM b.2) ∈ L ∧ ∃ as, Reads s.heap (.ref b.1) (encM b.2) as := fun us => by
    induction us with
    | nil => exact fun _ => ⟨[], rfl, fun b h => nomatch h⟩
    | cons v us ih =>
      intro hv
      obtain ⟨bs, e1, e2⟩ := ih fun u hu => hv u (List.mem_cons_of_mem _ hu)
      obtain ⟨p, hp, rfl⟩ := List.mem_map.mp (hv v List.mem_cons_self)
      obtain ⟨m, em, hr⟩ := hL p hp
      refine ⟨(p.1, m) :: bs, by rw [List.map_cons, e1], fun b hb => ?_⟩
      rcases List.mem_cons.mp hb with rfl | hb
      · exact ⟨by rw [← em]; exact hp, hr⟩
      · exact e2 b hb
  obtain ⟨bs, eb, hb⟩ := pick vs fun v hv => pm.mem_iff.mp hv
  have hbl : bs.length = L.length := by rw [← hvl, eb, List.length_map]
  refine wpAny_bind (wpAny_newList ?_ (by rw [sizeLine_eq]; omega))
  have hoL : (s1.heap.push (seqObj "list" vs.toArray 0)).get? s1.heap.objs.size = some (seqObj "list" vs.toArray 0) := Heap.get?_push_size _ rfl
  have kept : ∀ b u, s.heap.get? b = some u → (PySem.W.sortingHeap (s1.heap.push (seqObj "list" vs.toArray 0)) s1.heap.objs.size vs).get? b = some u := fun b u q => by
    have q1 := k1 b u q
    exact PySem.W.sortingHeap_old (Nat.ne_of_lt (Heap.lt_size q1)) (Heap.get?_push_of_some _ q1)
  have e0 : ∀ cs : List (Addr × Mg), PySem.W.EachIs (fun (v : Value) (b : Addr × Mg) => v = .ref b.1) (cs.map fun b => Value.ref b.1) cs := fun cs => by
    induction cs with
    | nil => exact .nil
    | cons b cs ih => exact .cons rfl ih
  have e1 : PySem.W.EachIs (fun (v : Value) (b : Addr × Mg) => v = .ref b.1) vs bs := by
    have := e0 bs
    rwa [← eb] at this
  have e2 : PySem.W.EachIs (fun (v : Value) (b : Addr × Mg) => ∃ as, Reads (PySem.W.sortingHeap (s1.heap.push (seqObj "list" vs.toArray 0)) s1.heap.objs.size vs) v (encM b.2) as) vs bs := by
    have key : ∀ cs : List (Addr × Mg), (∀ b ∈ cs, ∃ as, Reads s.heap (.ref b.1) (encM b.2) as) → PySem.W.EachIs (fun (v : Value) (b : Addr × Mg) => ∃ as, Reads (PySem.W.sortingHeap (s1.heap.push (seqObj "list" vs.toArray 0)) s1.heap.objs.size vs) v (encM b.2) as) (cs.map fun b => Value.ref b.1) cs := fun cs => by
      induction cs with
      | nil => exact fun _ => .nil
      | cons b cs ih =>
        intro h
        obtain ⟨as, r⟩ := h b (List.mem_cons_self ..)
        exact .cons ⟨as, PyProof.Rows.Reads.keeps kept r⟩ (ih fun x hx => h x (List.mem_cons_of_mem _ hx))
    have := key bs fun b h => (hb b h).2
    rwa [← eb] at this
  have hal : PySem.W.AllAlike (bs.map fun b => encM b.2) := PySem.W.AllAlike.of fun b b' => alike_encM b.2 b'.2
  have hk : PySem.W.Sortable (bs.map fun b => encM b.2) := PySem.W.Sortable.tuples fun b => ⟨_, _, rfl⟩
  refine wpAny_bind (wpAny_holding (wpAny_call_entry (s := { s1 with heap := s1.heap.push (seqObj "list" vs.toArray 0) }) slot_list_sort ⟨_, hoL, rfl⟩ entry_list_sort (PySem.W.list_sort_vals (κ := PySem.W.dataKind (PySem.W.sortingHeap (s1.heap.push (seqObj "list" vs.toArray 0)) s1.heap.objs.size vs) (bs.map fun b => encM b.2)) hoL (PySem.W.SortsAt.data (PySem.W.each_map (R := fun v d => ∃ as, Reads (PySem.W.sortingHeap (s1.heap.push (seqObj "list" vs.toArray 0)) s1.heap.objs.size vs) v d as) (fun b : Addr × Mg => encM b.2) e2) hal hk fun d hd => ?_) (by rw [sizeLine_eq]; omega) ⟨.none, rfl, ?_⟩) (args_list_sort _)))
  · obtain ⟨b, _, rfl⟩ := List.mem_map.mp hd
    have := (Sh.mg b.2).2
    simp only [Around.in1, Around.units] at hu ⊢
    omega
  · obtain ⟨c, hc⟩ := sortedHeap_at (vs := vs) (out := (PySem.W.sortVals (PySem.W.dataKind (PySem.W.sortingHeap (s1.heap.push (seqObj "list" vs.toArray 0)) s1.heap.objs.size vs) (bs.map fun b => encM b.2)) false vs vs).toArray) hoL
    have e3 := PySem.W.sortVals_data (enc := fun b : Addr × Mg => encM b.2) false e1 e2 hal
    have e4 : ∀ {us : List Value} {cs : List (Addr × Mg)}, PySem.W.EachIs (fun (v : Value) (b : Addr × Mg) => v = .ref b.1) us cs → us = cs.map fun b => Value.ref b.1 := fun {us cs} h => by
      induction h with
      | nil => rfl
      | cons h _ ih => rw [List.map_cons, h, ih]
    have e5 := e4 e3
    have mem := fun b => (List.mergeSort_perm bs (PySem.W.dataLe false fun b : Addr × Mg => encM b.2)).mem_iff (a := b)
    refine wpAny_pure ⟨_, rfl, hQ _ s1.heap.objs.size _ c (bs.mergeSort (PySem.W.dataLe false fun b : Addr × Mg => encM b.2)) (fun b u q => ?_) g1 o1 sz hc (by simpa using e5) (fun b h => (hb b ((mem b).mp h)).1) (by rw [List.length_mergeSort, hbl]) (ltM_asc (fun b : Addr × Mg => b.2) bs)⟩
    have q1 := k1 b u q
    have lt := Heap.lt_size q1
    show (sortedHeap (s1.heap.push (seqObj "list" vs.toArray 0)) s1.heap.objs.size vs _).get? b = some u
    rw [sortedHeap_old (Nat.ne_of_lt lt) (by rw [size_push']; exact Nat.lt_succ_of_lt lt)]
    exact Heap.get?_push_of_some _ q1
end

/-! ### over the layer -/
def Tb0 (w : World) (h : Heap) (a : Addr) (L : List En) : Prop := ∃ (es : Array (Int × Value)) (ep : Nat) (t : SetTable), (∃ o, h.get? a = some o ∧ o.ExactSet ∧ o.data = .set es ep t) ∧ es.toList = L.map (rowN w) ∧ TabOk t (L.map fun p => p.2.hash w) ∧ (w.params.followText "set-order" = true ∨ t.led = true) ∧ L.length * 5 < t.mask * 3 ∧ L.length ≤ 16
def SetNO (w : World) (a : Addr) (L : List En) : HO := .ext fun h => Tb0 w h a L
theorem setNO_new {P : Program} {w : World} {H : Hp} {h : Heap} {a : Addr} {L : List En} (R : Tb0 w h a L) : ObjOk P w H h a (SetNO w a L) := by
  have ⟨es, ep, t, ⟨o, ho, r⟩, q⟩ := R
  refine ⟨R, ⟨o, ho⟩, fun h1 h2 p k => ?_⟩
  have ⟨es', ep', t', ⟨o', ho', r'⟩, q'⟩ := (show Tb0 w h1 a L from p)
  exact ⟨es', ep', t', ⟨o', k o' ho', r'⟩, q'⟩
section
variable {X : Cx}
theorem tk_isV {pins : List (Addr × Obj)} {σ : L2.St} {H : Hp} {s : Shared} (I : L2.Inv X pins σ H s) {v : V} {u : Value} {e : Et} (h : Tk H v (encE e)) (r : RelV v u) : NestedIs s.heap (keyV e) u := by
  obtain ⟨a, xs, rfl, h1, h2⟩ := h.tup_inv
  cases r
  cases h2 with
  | cons p1 h2 =>
    cases h2 with
    | cons p2 h2 =>
      cases h2
      rw [p1.str_inv, p2.int_inv] at h1
      obtain ⟨its, rv, ⟨o, ho, hc, n, hd⟩, _⟩ := I.tuple (SqT.of (K := X.K) h1)
      obtain ⟨u1, u2, rfl, ⟨t1, rfl⟩, ⟨t2, rfl⟩⟩ := vals2 rv
      exact .tup ho hc hd (.cons (.text _ _) (.cons (.int _ _) .nil))
theorem tk_isM {pins : List (Addr × Obj)} {σ : L2.St} {H : Hp} {s : Shared} (I : L2.Inv X pins σ H s) {b : Addr} {m : Mg} (h : Tk H (.ref b) (encM m)) : IsN s.heap (keyM m) b := by
  obtain ⟨a, xs, e, h1, h2⟩ := h.tup_inv
  cases e
  cases h2 with
  | cons p1 h2 =>
    cases h2 with
    | cons p2 h2 =>
      cases h2
      obtain ⟨its, rv, ⟨o, ho, hc, n, hd⟩, _⟩ := I.tuple (SqT.of (K := X.K) h1)
      obtain ⟨u1, u2, rfl, r1, r2⟩ := vals2 rv
      exact ⟨.tup ho hc hd (.cons (tk_isV I p1 r1) (.cons (tk_isV I p2 r2) .nil)), (show 2 ≤ 8 by decide), o, _, n, ho, hc, hd⟩
theorem vals_refN : ∀ {ks : List (Addr × Mg)} {us : List Value}, Vals (ks.map fun p => V.ref p.1) us → us = ks.map fun p => Value.ref p.1
  | [], _, .nil => rfl
  | p :: ks, _, .cons r t => by
    cases r
    rw [vals_refN t]
    rfl
theorem refN_vals : ∀ (ks : List (Addr × Mg)), Vals (ks.map fun p => V.ref p.1) (ks.map fun p => Value.ref p.1)
  | [] => .nil
  | p :: ks => .cons rfl (refN_vals ks)
def rSetN (K : PySem.W.Frag) (w : World) : List V → Hp → VK → Prop := fun xs H Q => ∃ (l : Addr) (ks : List (Addr × Mg)), xs = [V.ref l] ∧ SqL K H l (ks.map fun p => V.ref p.1) ∧ (∀ p ∈ ks, Tk H (.ref p.1) (encM p.2)) ∧ ks.length ≤ 16 ∧
  ∀ a L, H a = none → (∀ p ∈ L, p ∈ ks.map fun q => (q.1, keyM q.2)) → L.length ≤ ks.length → Q (.ref a) (upd H a (SetNO w a L))
theorem cr_setN (hc : X.calm = true) (hu : X.A.units + 64 < cLine) : CallR X (.type "set") (rSetN X.K X.w) := by
  intro pins s σ H xs us Q I r h
  obtain ⟨l, ks, rfl, hl, hk, hf, q⟩ := h
  rw [Vals.ref1 r]
  obtain ⟨its, rv, pl, hz⟩ := I.list hl
  have hn : H s.heap.objs.size = none := I.hok.fresh (Nat.le_refl _)
  refine n_set (P := X.prog) (w := X.w) (ks.map fun q => (q.1, keyM q.2)) (I.ok.hd hc) pl.isList ?_ (fun p hp => ?_) (by rw [List.length_map]; exact hf) (by omega) fun h' tk L es ep t R g k => ?_
  · have e := vals_refN rv
    rw [List.map_map]
    exact e
  · obtain ⟨b, hb, rfl⟩ := List.mem_map.mp hp
    exact tk_isM I (hk b hb)
  · have g2 := g.2
    rw [List.length_map] at g2
    exact ⟨.ref s.heap.objs.size, upd H s.heap.objs.size (SetNO X.w s.heap.objs.size L), I.laid (t' := tk) k (Nat.le_refl _) (setNO_new ⟨es, ep, t, R.ob, R.rows, R.tab, R.led, R.room, R.few⟩), rfl, q _ L hn g.1 g2⟩
def rSortN (K : PySem.W.Frag) (w : World) : List V → Hp → VK → Prop := fun vs H Q => ∃ (a : Addr) (L : List En), vs = [V.ref a] ∧ H a = some (SetNO w a L) ∧ (∀ p ∈ L, ∃ m : Mg, p.2 = keyM m ∧ Tk H (.ref p.1) (encM m)) ∧
  ∀ (bs : List (Addr × Mg)) (p : Addr), (∀ b ∈ bs, (b.1, keyM b.2) ∈ L) → bs.length = L.length → (bs.Pairwise fun x y => ltM y.2 x.2 = false) → H p = none → Q (.ref p) (upd H p (.lst (bs.map fun b => V.ref b.1)))
theorem cr_sortN (hc : X.calm = true) (hu : X.A.units + 64 < cLine) : CallR X (.builtin "sorted") (rSortN X.K X.w) := by
  intro pins s σ H vs us Q I r h
  obtain ⟨a, L, rfl, ha, hk, q⟩ := h
  obtain ⟨es, ep, t, ob, rows, tab, led, room, few⟩ : Tb0 X.w s.heap a L := (I.hok a _ ha).1
  have R : TbN X.w s.heap a L es ep t := ⟨ob, rows, tab, fun p hp => by
    obtain ⟨m, e, h⟩ := hk p hp
    rw [e]
    exact tk_isM I h, led, room, few⟩
  rw [Vals.ref1 r]
  refine n_sorted R (I.ok.hd hc) hu (fun p hp => ?_) fun s' p out c bs k g o hp hg hout hb hl pw => ?_
  · obtain ⟨m, e, h⟩ := hk p hp
    obtain ⟨as, rd⟩ := Dp.reads I _ _ _ (Tk.dp (K := X.K) _ _ h) (show RelV (V.ref p.1) (Value.ref p.1) from rfl)
    exact ⟨m, e, as, rd⟩
  · have hlen : (bs.map fun b => V.ref b.1).length ≤ sizeLine := by rw [List.length_map, sizeLine_eq]; omega
    have hn : H p = none := I.hok.fresh hp
    have hv : Vals (bs.map fun b => V.ref b.1) out.toList := by rw [hout]; exact refN_vals bs
    have J : L2.Inv X pins σ (upd H p (.lst (bs.map fun b => V.ref b.1))) s' := I.call' (ch := []) o (Un.laid k hp hn) (I.hok.laid k hp ⟨hlen, out.toList, c, hv, hg⟩) (by rw [g]; exact I.bare) (fun _ z => nomatch z)
    exact ⟨.ref p, _, J, rfl, q bs p hb hl pw hn⟩
theorem k_setN (K : PySem.W.Frag) (w : World) (hc : X.calm = true) (hu : X.A.units + 64 < cLine) (h : X.K = K := by rfl) (h2 : X.w = w := by rfl) : CallR X (.type "set") (rSetN K w) := by subst h h2; exact cr_setN hc hu
theorem k_sortN (K : PySem.W.Frag) (w : World) (hc : X.calm = true) (hu : X.A.units + 64 < cLine) (h : X.K = K := by rfl) (h2 : X.w = w := by rfl) : CallR X (.builtin "sorted") (rSortN K w) := by subst h h2; exact cr_sortN hc hu
end
def AscM (ms : List Mg) : Prop := ms.Pairwise fun a b => ltM b a = false
theorem tk_refs {B : Hp} : ∀ {ms : List Mg} {ys : List V}, TkAll B ys (ms.map encM) → ∃ ks : List (Addr × Mg), ys = ks.map (fun p => V.ref p.1) ∧ ks.map (·.2) = ms ∧ ∀ p ∈ ks, Tk B (.ref p.1) (encM p.2)
  | [], ys, h => by
    cases h
    exact ⟨[], rfl, rfl, fun p h => nomatch h⟩
  | m :: ms, ys, h => by
    cases h with
    | cons h t =>
      obtain ⟨ks, e1, e2, e3⟩ := tk_refs t
      obtain ⟨a, xs, rfl, _, _⟩ := id h.tup_inv
      refine ⟨(a, m) :: ks, by rw [List.map_cons, e1], by rw [List.map_cons, e2], fun p hp => ?_⟩
      rcases List.mem_cons.mp hp with rfl | hp
      · exact h
      · exact e3 p hp
theorem refs_tk {B : Hp} : ∀ {bs : List (Addr × Mg)}, (∀ b ∈ bs, Tk B (.ref b.1) (encM b.2)) → TkAll B (bs.map fun b => V.ref b.1) ((bs.map (·.2)).map encM)
  | [], _ => .nil
  | b :: bs, h => .cons (h b (List.mem_cons_self ..)) (refs_tk fun c hc => h c (List.mem_cons_of_mem _ hc))
/-- sorted(set(..)) of messages -/
theorem ev_sortset {Γ : Ga} {M M1 : List Mu} {te : TE} {K : PySem.W.Frag} {w : World} {ms : List Mg} (h : Ev te Γ M M1 (kD (.list (ms.map encM)))) (hl : ms.length ≤ 16) :
    Ev (tCB (rSortN K w) (tCons (tCB (rSetN K w) (tCons te tNil)) tNil)) Γ M M1 (kEx fun out : { out : List Mg // (∀ m ∈ out, m ∈ ms) ∧ out.length ≤ ms.length ∧ AscM out } => kD (.list (out.1.map encM))) := by
  have hset : ∀ (F : List Mu) (σ : L2.St) (B C : Hp), Sk Γ B σ → OkM (M ++ F) B C → ∀ Q : VK, (∀ a L B' C', Ex B B' → OkM (M1 ++ F) B' C' → B' a = some (SetNO w a L) → (∀ p ∈ L, ∃ m : Mg, m ∈ ms ∧ p.2 = keyM m ∧ Tk B' (.ref p.1) (encM m)) → L.length ≤ ms.length → Q (.ref a) C') → tCB (rSetN K w) (tCons te tNil) σ C Q := fun F σ B C s o Q q =>
    ea_one h F σ B C s o _ fun xs B1 C1 e1 o1 px => by
      obtain ⟨v, rfl, pv⟩ := allK1 px
      obtain ⟨l, ys, rfl, h1, h2⟩ := pv.lst_inv
      obtain ⟨ks, rfl, e2, h3⟩ := tk_refs h2
      have ekl : ks.length = ms.length := by rw [← e2, List.length_map]
      refine ⟨l, ks, rfl, SqL.of (o1.ex _ _ h1), fun p hp => Tk.ex o1.ex _ _ (h3 p hp), by omega, fun a L hn sub len => ?_⟩
      have en := Ex.new (o := SetNO w a L) (o1.ex.back hn)
      refine q a L _ _ (e1.trans en) (o1.new hn) upd_same (fun p hp => ?_) (by omega)
      obtain ⟨b, hb, rfl⟩ := List.mem_map.mp (sub p hp)
      exact ⟨b.2, by rw [← e2]; exact List.mem_map.mpr ⟨b, hb, rfl⟩, rfl, Tk.ex en _ _ (h3 b hb)⟩
  intro F σ B C s o Q q
  refine hset F σ B C s o _ fun a L B1 C1 e1 o1 ha hL len => ?_
  refine ⟨a, L, rfl, o1.ex _ _ ha, fun p hp => ?_, fun bs p hb hbl pw hn => ?_⟩
  · obtain ⟨m, _, e, t⟩ := hL p hp
    exact ⟨m, e, Tk.ex o1.ex _ _ t⟩
  · have en := Ex.new (o := HO.lst (bs.map fun b => V.ref b.1)) (o1.ex.back hn)
    have got : ∀ b ∈ bs, b.2 ∈ ms ∧ Tk B1 (.ref b.1) (encM b.2) := fun b hbm => by
      obtain ⟨m, hm, e, t⟩ := hL _ (hb b hbm)
      have e2 : b.2 = m := keyM_inj e
      rw [e2]
      exact ⟨hm, t⟩
    refine q _ _ _ (e1.trans en) (o1.new hn) ⟨⟨bs.map (·.2), fun m hm => ?_, by rw [List.length_map, hbl]; exact len, List.pairwise_map.mpr pw⟩, .lst upd_same (refs_tk fun b hbm => Tk.ex en _ _ (got b hbm).2)⟩
    obtain ⟨b, hbm, rfl⟩ := List.mem_map.mp hm
    exact (got b hbm).1
end Fw
set_option Elab.async false
set_option linter.all false
set_option maxRecDepth 100000
set_option maxHeartbeats 4000000
/-! the walk: log -/
namespace Fw
open PySem PySem.Spec PyProof.Rows L2
def scLog : Scope := inSc (defScope (top 35)) (lcScope (asgVal ((defBody (top 35)).getD 3 (.Pass ⟨0, 0, 0, 0⟩))))
/-! ### places in a list -/
def posE : List Et → Et → Nat
  | [], _ => 0
  | a :: l, e => if a = e then 0 else posE l e + 1
theorem posE_app {e : Et} (m : List Et) : ∀ {l : List Et}, e ∈ l → posE (l ++ m) e = posE l e
  | a :: l, h => by
    show (if a = e then 0 else posE (l ++ m) e + 1) = if a = e then 0 else posE l e + 1
    by_cases c : a = e
    · rw [if_pos c, if_pos c]
    · rw [if_neg c, if_neg c]
      rcases List.mem_cons.mp h with z | z
      · exact absurd z.symm c
      · rw [posE_app m z]
theorem posE_lt {e : Et} : ∀ {l : List Et}, e ∈ l → posE l e < l.length
  | a :: l, h => by
    show (if a = e then 0 else posE l e + 1) < l.length + 1
    by_cases c : a = e
    · rw [if_pos c]; omega
    · rw [if_neg c]
      rcases List.mem_cons.mp h with z | z
      · exact absurd z.symm c
      · have := posE_lt z
        omega
theorem posE_new {e : Et} : ∀ {l : List Et}, e ∉ l → posE (l ++ [e]) e = l.length
  | [], _ => by show (if e = e then 0 else _) = 0; rw [if_pos rfl]
  | a :: l, h => by
    show (if a = e then 0 else posE (l ++ [e]) e + 1) = l.length + 1
    rw [if_neg fun c => h (by rw [c]; exact List.mem_cons_self ..), posE_new fun z => h (List.mem_cons_of_mem _ z)]
/-! ### what is drawn so far -/
structure LoS where
  told : List Et
  sz : Nm → Nat
  marks : List Et
  letters : List Mg
  cnt : Nat
  nsz : Nat
structure LoI (ns : List Nm) (most n0 : Nat) (i : Nat) (s : LoS) : Prop where
  nd : s.told.Nodup
  len : s.told.length = i
  mem : ∀ x : Et, x ∈ s.told ↔ x.1 ∈ ns ∧ x.2 < s.sz x.1
  mks : ∀ x ∈ s.marks, x ∈ s.told
  mkl : s.marks.length ≤ most
  le : ∀ m ∈ s.letters, m.1 ∈ s.told ∧ m.2 ∈ s.told ∧ posE s.told m.1 < posE s.told m.2
  lel : s.letters.length ≤ 2 * i
  sq : ∀ (x : Nm) j, (x, j + 1) ∈ s.told → posE s.told (x, j) < posE s.told (x, j + 1)
  cnt : s.cnt ≤ n0 + 5 * i
  nsz : s.nsz ≤ ns.length + i
theorem LoI.step {ns : List Nm} {most n0 i : Nat} {s : LoS} (I : LoI ns most n0 i s) {x : Nm} (hx : x ∈ ns) {ls : List Mg} (hls : ∀ m ∈ ls, m ∈ s.letters ∨ (m.2 = (x, s.sz x) ∧ m.1 ∈ s.told)) (hll : ls.length ≤ s.letters.length + 2) {mk : List Et} (hmk : mk = s.marks ∨ (mk = s.marks ++ [(x, s.sz x)] ∧ s.marks.length < most)) {c : Nat} (hc : c ≤ s.cnt + 5) :
    LoI ns most n0 (i + 1) ⟨s.told ++ [(x, s.sz x)], fun y => if y = x then s.sz x + 1 else s.sz y, mk, ls, c, s.nsz + 1⟩ := by
  have new : (x, s.sz x) ∉ s.told := fun h => by
    have h1 : s.sz x < s.sz x := ((I.mem _).mp h).2
    omega
  have self : (x, s.sz x) ∈ s.told ++ [(x, s.sz x)] := List.mem_append_right _ (List.mem_singleton_self _)
  have old : ∀ {y : Et}, y ∈ s.told → y ∈ s.told ++ [(x, s.sz x)] := fun h => List.mem_append_left _ h
  have pnew := posE_new new
  refine ⟨List.nodup_append.mpr ⟨I.nd, List.pairwise_singleton _ _, fun a ha b hb e => new (by rw [← List.mem_singleton.mp hb, ← e]; exact ha)⟩, by rw [List.length_append, List.length_singleton, I.len], fun y => ?_, fun y hy => ?_, ?_, fun m hm => ?_, ?_, fun y j hy => ?_, ?_, ?_⟩
  · show y ∈ s.told ++ [(x, s.sz x)] ↔ y.1 ∈ ns ∧ y.2 < if y.1 = x then s.sz x + 1 else s.sz y.1
    rw [List.mem_append, List.mem_singleton, I.mem]
    by_cases c : y.1 = x
    · rw [if_pos c, c]
      constructor
      · rintro (⟨h1, h2⟩ | h)
        · exact ⟨hx, by omega⟩
        · rw [h]
          exact ⟨hx, Nat.lt_succ_self _⟩
      · rintro ⟨_, h2⟩
        by_cases e : y.2 = s.sz x
        · exact .inr (Prod.ext c e)
        · exact .inl ⟨hx, by omega⟩
    · rw [if_neg c]
      exact ⟨fun h => h.elim id fun e => absurd (by rw [e]) c, .inl⟩
  · have hy : y ∈ mk := hy
    rcases hmk with rfl | ⟨rfl, _⟩
    · exact old (I.mks y hy)
    · rcases List.mem_append.mp hy with z | z
      · exact old (I.mks y z)
      · rw [List.mem_singleton.mp z]
        exact self
  · have h1 := I.mkl
    show mk.length ≤ most
    rcases hmk with rfl | ⟨rfl, h2⟩
    · exact h1
    · rw [List.length_append, List.length_singleton]
      exact h2
  · rcases hls m hm with h | ⟨h1, h2⟩
    · obtain ⟨h1, h2, h3⟩ := I.le m h
      refine ⟨old h1, old h2, ?_⟩
      show posE (s.told ++ _) _ < posE (s.told ++ _) _
      rw [posE_app _ h1, posE_app _ h2]
      exact h3
    · rw [h1]
      refine ⟨old h2, self, ?_⟩
      show posE (s.told ++ _) _ < posE (s.told ++ _) _
      rw [posE_app _ h2, pnew]
      exact posE_lt h2
  · have := I.lel
    show ls.length ≤ _
    omega
  · have hy : (y, j + 1) ∈ s.told ++ [(x, s.sz x)] := hy
    show posE (s.told ++ _) _ < posE (s.told ++ _) _
    rcases List.mem_append.mp hy with z | z
    · obtain ⟨h1, h2⟩ := (I.mem _).mp z
      have h3 : (y, j) ∈ s.told := (I.mem _).mpr ⟨h1, by have h2 : j + 1 < s.sz y := h2; show j < s.sz y; omega⟩
      rw [posE_app _ z, posE_app _ h3]
      exact I.sq y j z
    · have e := List.mem_singleton.mp z
      have e1 : y = x := congrArg Prod.fst e
      have e2 : j + 1 = s.sz x := congrArg Prod.snd e
      have h3 : (y, j) ∈ s.told := (I.mem _).mpr ⟨by rw [e1]; exact hx, by show j < s.sz y; rw [e1]; omega⟩
      rw [e, pnew, posE_app _ h3]
      exact posE_lt h3
  · have := I.cnt
    show c ≤ _
    omega
  · have := I.nsz
    show s.nsz + 1 ≤ _
    omega
def szO (ns : List Nm) (sz : Nm → Nat) : Nm → Option Nat := fun x => if x ∈ ns then some (sz x) else none
/-! ### the log -/
def mkOf (marks : List Et) (x : Nm) : List Nat := ((marks.mergeSort (PySem.W.dataLe false encE)).filter fun e => decide (e.1 = x)).map (·.2)
def lgOf (ns : List Nm) (s : LoS) (ms : List Mg) : Lg := ⟨ns.map fun x => (x, s.sz x, mkOf s.marks x), ms⟩
theorem lgOf_mem {ns : List Nm} {s : LoS} {ms : List Mg} {e : Et} : e ∈ (lgOf ns s ms).evs ↔ e.1 ∈ ns ∧ e.2 < s.sz e.1 := by
  rw [Lg.mem]
  constructor
  · rintro ⟨p, hp, h1, h2⟩
    obtain ⟨x, hx, rfl⟩ := List.mem_map.mp hp
    have h1 : x = e.1 := h1
    rw [← h1]
    exact ⟨hx, h2⟩
  · rintro ⟨h1, h2⟩
    exact ⟨_, List.mem_map.mpr ⟨e.1, h1, rfl⟩, rfl, h2⟩
theorem evs_nd : ∀ {l : List Ma}, (l.map (·.1)).Nodup → (l.flatMap fun p => (List.range p.2.1).map fun i => (p.1, i)).Nodup
  | [], _ => List.nodup_nil
  | p :: l, h => by
    rw [List.map_cons, List.nodup_cons] at h
    rw [List.flatMap_cons]
    refine List.nodup_append.mpr ⟨List.Pairwise.map _ (fun a b hab e => hab (congrArg Prod.snd e)) List.nodup_range, evs_nd h.2, fun a ha b hb e => ?_⟩
    obtain ⟨i, _, rfl⟩ := List.mem_map.mp ha
    obtain ⟨q, hq, hb⟩ := List.mem_flatMap.mp hb
    obtain ⟨j, _, rfl⟩ := List.mem_map.mp hb
    exact h.1 (List.mem_map.mpr ⟨q, hq, (congrArg Prod.fst e).symm⟩)
theorem fm_le {α β : Type} (f : α → List β) (n : Nat) : ∀ l : List α, (∀ a ∈ l, (f a).length ≤ n) → (l.flatMap f).length ≤ l.length * n
  | [], _ => by simp
  | a :: l, h => by
    have h1 := fm_le f n l fun b hb => h b (List.mem_cons_of_mem _ hb)
    have h2 := h a (List.mem_cons_self ..)
    rw [List.flatMap_cons, List.length_append, List.length_cons, Nat.succ_mul]
    omega
theorem lgOf_ok {ns : List Nm} {most n0 i : Nat} {s : LoS} (I : LoI ns most n0 i s) (nd : ns.Nodup) (hn : ns.length ≤ 6) (hm : most ≤ 10) (hi : i ≤ 20) {ms : List Mg} (hms : ∀ m ∈ ms, m ∈ s.letters) (hl : ms.length ≤ 16) : LgOk (lgOf ns s ms) ∧ RkOk (lgOf ns s ms) (posE s.told) := by
  have evs : ∀ e, e ∈ (lgOf ns s ms).evs ↔ e ∈ s.told := fun e => lgOf_mem.trans (I.mem e).symm
  have e1 : (lgOf ns s ms).ma.map (·.1) = ns := by
    show (ns.map _).map _ = ns
    rw [List.map_map]
    exact List.map_id ns
  have hmk : ∀ (x : Nm) j, j ∈ mkOf s.marks x → (x, j) ∈ s.marks := fun x j h => by
    obtain ⟨e, he, rfl⟩ := List.mem_map.mp h
    obtain ⟨h1, h2⟩ := List.mem_filter.mp he
    have h2 : e.1 = x := of_decide_eq_true h2
    rw [← h2]
    exact (List.mergeSort_perm _ _).mem_iff.mp h1
  refine ⟨⟨by rw [e1]; exact nd, fun m hm => ?_, ?_, by show ms.length ≤ 100; omega, ?_, fun e he => ?_, ?_⟩, ⟨fun a b h => ?_⟩⟩
  · obtain ⟨h1, h2, _⟩ := I.le m (hms m hm)
    exact ⟨(evs _).mpr h1, (evs _).mpr h2⟩
  · have h1 := nd_len (lgOf ns s ms).evs s.told (evs_nd (by rw [e1]; exact nd)) fun e he => (evs e).mp he
    rw [I.len] at h1
    omega
  · show (ns.map _).length ≤ 10
    rw [List.length_map]
    omega
  · obtain ⟨p, hp, h⟩ := List.mem_flatMap.mp he
    obtain ⟨x, hx, rfl⟩ := List.mem_map.mp hp
    obtain ⟨j, hj, rfl⟩ := List.mem_map.mp h
    exact (evs _).mpr (I.mks _ (hmk x j hj))
  · have h1 := fm_le (fun p : Ma => p.2.2.map fun i => (p.1, i)) 10 (lgOf ns s ms).ma fun p hp => by
      obtain ⟨x, hx, rfl⟩ := List.mem_map.mp hp
      show ((mkOf s.marks x).map _).length ≤ 10
      unfold mkOf
      have h2 := List.length_filter_le (fun e : Et => decide (e.1 = x)) (s.marks.mergeSort (PySem.W.dataLe false encE))
      rw [List.length_mergeSort] at h2
      rw [List.length_map, List.length_map]
      have := I.mkl
      omega
    have h2 : (lgOf ns s ms).ma.length ≤ 6 := by
      show (ns.map _).length ≤ 6
      rw [List.length_map]
      exact hn
    have h3 := Nat.mul_le_mul h2 (Nat.le_refl 10)
    exact Nat.le_trans h1 (by omega)
  · rcases h with ⟨e, hb⟩ | h
    · have hb2 := (evs b).mp hb
      rw [e] at hb2 ⊢
      exact I.sq a.1 a.2 hb2
    · exact (I.le _ (hms _ h)).2.2
def laps : List Nat := [0, 0, 1, 1, 1, 2]
theorem laps_le : ∀ a : Fin laps.length, laps[a] ≤ 2 := by decide
structure LgA where
  D : Addr
  n : Nat
  folk : Nat
  many : Nat
  thick : Nat
  most : Nat
structure LgA.Ok (a : LgA) : Prop where
  f0 : 1 ≤ a.folk
  f : a.folk ≤ 6
  m : a.many ≤ 20
  mo : a.most ≤ 10
  n : a.n ≤ 50000
abbrev LgR : Type := { p : Lg × (Et → Nat) // LgOk p.1 ∧ RkOk p.1 p.2 ∧ Asc p.1.ms }
section
variable {P : Program} {w : World} {K : PySem.W.Frag} {mg : Str → Option Value} {base : Heap}
abbrev spLog : Sp := spF (fun a : LgA => a.Ok) (fun a => [kC (.ref a.D), kI a.folk, kI a.many, kI a.thick, kI a.most]) (fun a => [mBox a.D a.n]) (fun a => [mBox a.D (a.n + 200)]) (fun _ => kEx fun r : LgR => kD (encLg r.1.1))
theorem r__law_log (T : Tx K mg) : FnR P w K mg base CX0 3 (He.ga K "_law_log") spLog := by
  obtain ⟨fd, F⟩ := T.says.def_ 41 (d := (gD "_law_log" 35))
  have nd : (["_law_box_here", "_law_folk", "_law_many", "_law_thick", "_law_most", "_law_names_here", "_law_marks", "_law_letters", "_law_told_here", "_law_sizes", "_law_turn", "_law_name", "_law_event_so", "_law_others", "_law_lap", "_law_machines", "_law_own"] : List Str).Nodup := by decide +kernel
  refine fn_r (N := ["_law_box_here", "_law_folk", "_law_many", "_law_thick", "_law_most", "_law_names_here", "_law_marks", "_law_letters", "_law_told_here", "_law_sizes", "_law_turn", "_law_name", "_law_event_so", "_law_others", "_law_lap", "_law_machines", "_law_own"]) (ps := ["_law_box_here", "_law_folk", "_law_many", "_law_thick", "_law_most"]) F ⟨rfl, rfl, rfl, nd, rfl, by decide +kernel, by decide +kernel⟩ (F.bindsN fun _ _ _ _ _ _ us hl => match us, hl with | [_, _, _, _, _], _ => rfl) .nil (fun _ _ => rfl) fun cdv A outer s H E hr => ?_
  have hu := hu_of hr
  have hu64 := hr.units
  have hu65 := room65 hr
  refine ⟨_, (pss_cons (ps_asg (pe_tup (pa_cons (pe_g (r__law_names T) hr (by decide) (T.glo 22) (T.kp 40 (d := (gD "_law_names" 34))) (pa_cons (pv 0) (pa_cons (pv 1) pa_nil))) (pa_cons (pe_lst pa_nil) (pa_cons (pe_lst pa_nil) (pa_cons (pe_lst pa_nil) pa_nil))))) (k_gT K (n := 4) rfl (pgs_cons (pg_name (i := 5) nd rfl (Or.inl rfl)) (pgs_cons (pg_name (i := 6) nd rfl (Or.inr rfl)) (pgs_cons (pg_name (i := 7) nd rfl (Or.inl rfl)) (pgs_cons (pg_name (i := 8) nd rfl (Or.inl rfl)) pgs_nil))))))
      (pss_cons (ps_set (i := 9) nd rfl (Or.inr rfl) (pe_callTy (k_dictP K rfl) (by rfl) (T.free 52) (by decide +kernel) (pa_cons (pe_lc (own := [("_law_name", 11)]) rfl nd (k_iL K (pv 5)) (blkOk_by (own := [("_law_name", 11)]) (N := ["_law_box_here", "_law_folk", "_law_many", "_law_thick", "_law_most", "_law_names_here", "_law_marks", "_law_letters", "_law_told_here", "_law_sizes", "_law_turn", "_law_name", "_law_event_so", "_law_others", "_law_lap", "_law_machines", "_law_own"]) (sc := defScope (top 35)) (by decide +kernel)) (fun _ _ _ _ _ => (pg_name (i := 11) nd rfl (Or.inl rfl))) (fun _ _ _ _ _ => pts_nil) (fun _ _ _ _ _ => (pe_tup (pa_cons (pv 11) (pa_cons pe_int pa_nil))))) pa_nil)))
      (pss_cons (ps_for PassesOwn.never rfl (pi_range1 (by rfl) (T.free 40) (pa_cons (pv 2) pa_nil)) (pg_name (i := 10) nd rfl (Or.inl rfl)) (pss_cons (ps_set (i := 11) nd rfl (Or.inr rfl) (pe_g (r__law_of T) hr (by decide) (T.glo 20) (T.kp 38 (d := (gD "_law_of" 32))) (pa_cons (pv 0) (pa_cons (pv 5) pa_nil))))
      (pss_cons (ps_set (i := 12) nd rfl (Or.inl rfl) (pe_tup (pa_cons (pv 11) (pa_cons (pe_dget hu (pv 9) (pv 11) (fun _ _ => rfl)) pa_nil))))
      (pss_cons (ps_setLc (i := 13) (own := [("_law_own", 16)]) rfl nd rfl rfl (sw_true rfl rfl rfl (by decide +kernel)) (k_iL K (pv 8)) (blkOk_by (own := [("_law_own", 16)]) (N := ["_law_box_here", "_law_folk", "_law_many", "_law_thick", "_law_most", "_law_names_here", "_law_marks", "_law_letters", "_law_told_here", "_law_sizes", "_law_turn", "_law_name", "_law_event_so", "_law_others", "_law_lap", "_law_machines", "_law_own"]) (sc := defScope (top 35)) (by decide +kernel)) (fun _ _ _ _ _ => (pg_name (i := 16) nd rfl (Or.inl rfl))) (fun _ _ _ _ _ => (pts_one (pt_cmpR (k_ne K hu64) (pe_ix (k_ixT K) (pv 16) pe_int (fun _ _ => rfl)) (pv 11) (nomark _)))) (fun _ _ _ _ _ => (pv 16)))
      (pss_cons (ps_for PassesOwn.never rfl (pi_range1 (by rfl) (T.free 40) (pa_cons (pe_g (r__law_of T) hr (by decide) (T.glo 20) (T.kp 38 (d := (gD "_law_of" 32))) (pa_cons (pv 0) (pa_cons (pe_lst (pa_cons pe_int (pa_cons pe_int (pa_cons pe_int (pa_cons pe_int (pa_cons pe_int (pa_cons pe_int pa_nil))))))) pa_nil))) pa_nil)) (pg_name (i := 14) nd rfl (Or.inl rfl)) (pss_cons (ps_if (pt_cmpR (k_ne K hu64) (pv 13) (pe_lst pa_nil) (nomark _)) (pss_cons (ps_expr (pe_bm PySem.F.plainAttrs_list PySem.F.slot_list_append PySem.F.type_list_append mt_append (pv 7) (pa_cons (pe_tup (pa_cons (pe_g (r__law_of T) hr (by decide) (T.glo 20) (T.kp 38 (d := (gD "_law_of" 32))) (pa_cons (pv 0) (pa_cons (pe_slice (k_slL K) (pv 13) (po_some (pe_un un_neg pe_int)) po_none) pa_nil))) (pa_cons (pv 12) pa_nil))) pa_nil)))
      pss_nil) pss_nil)
      pss_nil))
      (pss_cons (ps_if (PW.pt (pw_and (pt_cmpR op_lt (pe_g (r__law_take T) hr (by decide) (T.glo 19) (T.kp 37 (d := (gD "_law_take" 31))) (pa_cons (pv 0) (pa_cons pe_int pa_nil))) (pv 3) (nomark _)) (pw_and1 (pt_cmpR op_lt (pe_callB (k_len K) (by rfl) (T.free 41) (by decide +kernel) (pa_cons (pv 6) pa_nil)) (pv 4) (nomark _))))) (pss_cons (ps_expr (pe_bm PySem.F.plainAttrs_list PySem.F.slot_list_append PySem.F.type_list_append mt_append (pv 6) (pa_cons (pv 12) pa_nil)))
      pss_nil) pss_nil)
      (pss_cons (ps_expr (pe_bm PySem.F.plainAttrs_list PySem.F.slot_list_append PySem.F.type_list_append mt_append (pv 8) (pa_cons (pv 12) pa_nil)))
      (pss_cons (ps_dput hu (pv 9) (pv 11) (pe_op op_add (pe_dget hu (pv 9) (pv 11) (fun _ _ => rfl)) pe_int) rfl)
      pss_nil))))))))
      (pss_cons (ps_setLc (i := 15) (own := [("_law_name", 11)]) rfl nd rfl rfl (sw_true rfl rfl rfl (by decide +kernel)) (k_iL K (pv 5)) (blkOk_by (own := [("_law_name", 11)]) (N := ["_law_box_here", "_law_folk", "_law_many", "_law_thick", "_law_most", "_law_names_here", "_law_marks", "_law_letters", "_law_told_here", "_law_sizes", "_law_turn", "_law_name", "_law_event_so", "_law_others", "_law_lap", "_law_machines", "_law_own"]) (sc := defScope (top 35)) (by decide +kernel)) (fun _ _ _ _ _ => (pg_name (i := 11) nd rfl (Or.inr rfl))) (fun _ _ _ _ _ => pts_nil) (fun _ _ _ _ _ => (pe_tup (pa_cons (pv 11) (pa_cons (pe_dget hu (pv 9) (pv 11) (fun _ _ => rfl)) (pa_cons (pe_callTy (k_tup K) (by rfl) (T.free 37) (by decide +kernel) (pa_cons (pe_lc (own := [("_law_own", 16)]) rfl nd (k_iL K (pe_callB (k_sort K hu64) (by rfl) (T.free 50) (by decide +kernel) (pa_cons (pv 6) pa_nil))) (blkOk_by (own := [("_law_own", 16)]) (N := ["_law_box_here", "_law_folk", "_law_many", "_law_thick", "_law_most", "_law_names_here", "_law_marks", "_law_letters", "_law_told_here", "_law_sizes", "_law_turn", "_law_name", "_law_event_so", "_law_others", "_law_lap", "_law_machines", "_law_own"]) (sc := scLog) (by decide +kernel)) (fun _ _ _ _ _ => (pg_name (i := 16) nd rfl (Or.inl rfl))) (fun _ _ _ _ _ => (pts_one (pt_cmpR (k_eq K hu64) (pe_ix (k_ixT K) (pv 16) pe_int (fun _ _ => rfl)) (pv 11) (nomark _)))) (fun _ _ _ _ _ => (pe_ix (k_ixT K) (pv 16) pe_int (fun _ _ => rfl)))) pa_nil)) pa_nil))))))
      (pss_cons (ps_ret (pe_tup (pa_cons (pe_callTy (k_tup K) (by rfl) (T.free 37) (by decide +kernel) (pa_cons (pv 15) pa_nil)) (pa_cons (pe_callTy (k_tup K) (by rfl) (T.free 37) (by decide +kernel) (pa_cons (pe_callB (k_sortN K w rfl hu64) (by rfl) (T.free 50) (by decide +kernel) (pa_cons (pe_callTy (k_setN K w rfl hu64) (by rfl) (T.free 51) (by decide +kernel) (pa_cons (pe_slice (k_slL K) (pv 7) po_none (po_some pe_int)) pa_nil)) pa_nil)) pa_nil)) pa_nil))))
      pss_nil))))), fun a hp => ?_⟩
  obtain ⟨D, n, folk, many, thick, most⟩ := a
  obtain ⟨hf0, hf, hmany, hmost, hn⟩ := hp
  have hf0 : 1 ≤ folk := hf0
  have hf : folk ≤ 6 := hf
  have hmany : many ≤ 20 := hmany
  have hmost : most ≤ 10 := hmost
  have hn : n ≤ 50000 := hn
  let kE : Et → Kn := fun e => kD (encE e)
  let kM : Mg → Kn := fun m => kD (encM m)
  refine go_asgG (eg_tup (eag_new (Ev.one (ev_call (Mi := fun p : Addr × Nat × Nat => [mBox p.1 p.2.1]) (Mo := fun p => [mBox p.1 (p.2.1 + p.2.2)]) (M1 := []) (args := fun p => [kC (.ref p.1), kI p.2.2]) (res := fun p => kEx fun r : { ns : List Nm // NsOk p.2.2 ns } => kD (.list (r.1.map encS))) (D, n, folk) (ea_two (ev_var rfl) (ev_var rfl)) ⟨hf0, hf, by show n ≤ 90000; omega⟩)) fun r => eag_new (eg_lst ea_nil) fun Mk => eag_new (eg_lst ea_nil) fun Le => eag_new (eg_lst ea_nil) fun To => (ea_nil (M := [mLst To [], mLst Le [], mLst Mk [], mBox D (n + folk)])).g) 4 fun _ => rfl) (fun _ => tg_tup (tgs_cons tg_name (tgs_cons tg_name (tgs_cons tg_name (tgs_cons tg_name tgs_nil)))) rfl) fun p => ?_
  obtain ⟨⟨ns, hns⟩, Mk, Le, To, _⟩ := p
  obtain ⟨nd, hnl⟩ := hns
  have hnl : ns.length = folk := hnl
  refine go_setG (eg_dictS (ev_lcA ns (fun x => kD (encS x)) (fun x => .tuple [.str x.1, .int 0]) (ei_lstE (f := encS) (ev_var rfl)) sub_nil (by omega) fun i x hx => ⟨_, [11], tg_name, in_one, et_yes, fun _ => ev_tup2D (ev_var rfl) ev_int⟩) nd) fun Sz => ?_
  change Go _ _ _ [mSz Sz (szO ns fun _ => 0) ns.length, mLst To [], mLst Le [], mLst Mk [], mBox D (n + folk)]
  have hne : ns ≠ [] := fun e => by rw [e] at hnl; simp at hnl; omega
  refine go_for (S := LoS) (LoI ns most (n + folk)) (fun _ => [some (kC (.ref D)), some (kI folk), some (kI many), some (kI thick), some (kI most), some (kD (.list (ns.map encS))), some (kC (.ref Mk)), some (kC (.ref Le)), some (kC (.ref To)), some (kC (.ref Sz)), none, none, none, none, none, none, none]) (fun s => [mBox D s.cnt, mLst Le (s.letters.map kM), mLst Mk (s.marks.map kE), mLst To (s.told.map kE), mSz Sz (szO ns s.sz) s.nsz]) ⟨[], fun _ => 0, [], [], n + folk, ns.length⟩ (ei_range (ev_var rfl) (show many ≤ 100000 by omega)) ⟨List.nodup_nil, rfl, fun x => ⟨(fun h => nomatch h), fun h => absurd h.2 (Nat.not_lt_zero _)⟩, (fun x h => nomatch h), Nat.zero_le _, (fun m h => nomatch h), Nat.le_refl _, (fun x j h => nomatch h), Nat.le_refl _, Nat.le_refl _⟩ (Less.refl _) (perm_by fun f => by simp only [List.map_cons, List.map_nil, List.sum_cons, List.sum_nil]; omega) (fun _ _ _ => sub_nil) (fun i s k I hk => ?_) fun s I => ?_
  · have hi := (List.getElem?_eq_some_iff.mp hk).1
    rw [List.length_map, List.length_range] at hi
    have hi : i < many := hi
    rw [List.getElem?_map, List.getElem?_range hi] at hk
    cases hk
    have hcnt := I.cnt
    have hmkl := I.mkl
    have hlel := I.lel
    have hlen := I.len
    have hnsz := I.nsz
    obtain ⟨told, sz, marks, letters, cnt, nsz⟩ := s
    have hcnt : cnt ≤ n + folk + 5 * i := hcnt
    have hmkl : marks.length ≤ most := hmkl
    have hlel : letters.length ≤ 2 * i := hlel
    have hlen : told.length = i := hlen
    have hnsz : nsz ≤ ns.length + i := hnsz
    have hnl : ns.length = folk := hnl
    refine ⟨_, [10], tg_name, ?_⟩
    refine go_setEx (ev_of (M1 := [mLst Le (letters.map kM), mLst Mk (marks.map kE), mLst To (told.map kE), mSz Sz (szO ns sz) nsz]) encS ns D cnt (ea_two (ev_var rfl) (ev_var rfl)) hne (by omega) (by omega)) fun j => ?_
    have hx : ns[j] ∈ ns := List.getElem_mem _
    generalize ns[j] = x at hx
    have hsx : szO ns sz x = some (sz x) := if_pos hx
    have mS : ∀ c : Nat, mSz Sz (szO ns sz) nsz ∈ [mBox D c, mLst Le (letters.map kM), mLst Mk (marks.map kE), mLst To (told.map kE), mSz Sz (szO ns sz) nsz] := fun c => by simp
    have mT : ∀ c : Nat, mLst To (told.map kE) ∈ [mBox D c, mLst Le (letters.map kM), mLst Mk (marks.map kE), mLst To (told.map kE), mSz Sz (szO ns sz) nsz] := fun c => by simp
    refine go_set (k := kD (encE (x, sz x))) (ev_tup2D (ev_var rfl) (ev_dgetS (mS _) (ev_var rfl) (ev_var rfl) hsx)) ?_
    let oth : List Et := told.filter fun o => !decide (o.1 = x)
    have hol : oth.length ≤ told.length := List.length_filter_le _ _
    refine go_set (k := kD (.list (oth.map encE))) (ev_lcD told kE (fun o => !decide (o.1 = x)) encE (ei_mut (ev_var rfl) (mT _)) (fun m hm => by rw [List.mem_singleton.mp hm]; exact mT _) (by omega) fun j2 o ho => ⟨_, [16], tg_name, in_one, et_test (ev_op (ev_op (ev_var rfl) ev_int (rk_ixT (n := 0) rfl)) (ev_var rfl) rk_neN), fun _ => ev_var rfl⟩) ?_
    refine go_forG (S := List Mg × Nat) (fun _ j2 s2 => s2.2 ≤ cnt + 2 + j2 ∧ s2.1.length ≤ letters.length + j2 ∧ ∀ m ∈ s2.1, m ∈ letters ∨ (m.2 = (x, sz x) ∧ m.1 ∈ told)) (fun _ => [some (kC (.ref D)), some (kI folk), some (kI many), some (kI thick), some (kI most), some (kD (.list (ns.map encS))), some (kC (.ref Mk)), some (kC (.ref Le)), some (kC (.ref To)), some (kC (.ref Sz)), none, some (kD (encS x)), some (kD (encE (x, sz x))), some (kD (.list (oth.map encE))), none, none, none]) (fun s2 => [mBox D s2.2, mLst Le (s2.1.map kM), mLst Mk (marks.map kE), mLst To (told.map kE), mSz Sz (szO ns sz) nsz]) (letters, cnt + 2) (eig_range (f := fun i : Fin laps.length => laps[i]) (ev_of (M1 := [mLst Le (letters.map kM), mLst Mk (marks.map kE), mLst To (told.map kE), mSz Sz (szO ns sz) nsz]) (fun n : Nat => PyData.int (n : Nat)) laps D (cnt + 1) (ea_two (ev_var rfl) ((ev_lst (ea_cons (ev_int (i := 0)) (ea_cons (ev_int (i := 0)) (ea_cons (ev_int (i := 1)) (ea_cons (ev_int (i := 1)) (ea_two (ev_int (i := 1)) (ev_int (i := 2)))))))).to fun _ _ p => kLst_data (ds := laps.map fun n : Nat => PyData.int (n : Nat)).mp p)) (by decide) (by decide) (by omega)) (fun a => Nat.le_trans (laps_le a) (by decide))) (fun _ => ⟨Nat.le_refl _, Nat.le_refl _, fun m hm => .inl hm⟩) ⟨fun _ _ z => z, fun _ _ z => z, fun _ _ z => z, fun _ _ z => z, fun _ _ z => z, fun _ _ z => z, fun _ _ z => z, fun _ _ z => z, fun _ _ z => z, fun _ _ z => z, fun _ _ z => z, fun _ _ z => z, fun _ _ z => z, True.intro⟩ (.refl _) (fun a j2 s2 k h2 hk => ?_) fun a s2 h2 => ?_
    · obtain ⟨ls, c⟩ := s2
      obtain ⟨h1, h2, h3⟩ := h2
      have ha := laps_le a
      have hj2 := (List.getElem?_eq_some_iff.mp hk).1
      rw [List.length_map, List.length_range] at hj2
      rw [List.getElem?_map, List.getElem?_range hj2] at hk
      cases hk
      have h1 : c ≤ cnt + 2 + j2 := h1
      have h2 : ls.length ≤ letters.length + j2 := h2
      have hj3 : j2 < 2 := Nat.lt_of_lt_of_le hj2 ha
      refine ⟨_, [14], tg_name, ?_⟩
      refine go_seq (go_ifS (b := !decide (oth.map encE = [])) (et_test (ev_op (ev_var rfl) ev_lst0D (rk_neD (Sh.shaped (Sh.lsts (n := 1) Sh.ev)) (Sh.shaped (Sh.lst (n := 0) fun d hd => nomatch hd)) (by rw [eqv_nil])))) (fun hb => ?_) fun _ => go_nil ⟨(ls, c), ⟨by show c ≤ cnt + 2 + (j2 + 1); omega, by show ls.length ≤ letters.length + (j2 + 1); omega, h3⟩, ⟨fun _ _ z => z, fun _ _ z => z, fun _ _ z => z, fun _ _ z => z, fun _ _ z => z, fun _ _ z => z, fun _ _ z => z, fun _ _ z => z, fun _ _ z => z, fun _ _ z => z, fun _ _ z => z, fun _ _ z => z, fun _ _ z => z, True.intro⟩, .refl _⟩) fun _ _ z => go_nil z
      have hoth : oth ≠ [] := fun e => by rw [e] at hb; simp at hb
      have hl5 := lastN_len 5 oth
      have els : (lastN 5 (oth.map encE)) = (lastN 5 oth).map encE := by
        unfold lastN
        rw [List.length_map, List.map_drop]
      refine go_dropG (eg_append (D := Le) (ks := ls.map kM) (ρ := fun p : Fin (lastN 5 oth).length × Unit => kM ((lastN 5 oth)[p.1], (x, sz x))) (fun _ => [mBox D (c + 1), mLst Mk (marks.map kE), mLst To (told.map kE), mSz Sz (szO ns sz) nsz]) (ev_var rfl) (by simp) (EvG.to (eg_tup (eag_new (Ev.one (ev_of (M1 := [mLst Le (ls.map kM), mLst Mk (marks.map kE), mLst To (told.map kE), mSz Sz (szO ns sz) nsz]) encE (lastN 5 oth) D c (ea_two (ev_var rfl) (Ev.is (d := .list (lastN 5 (oth.map encE))) (ev_slice (ev_var rfl) (eo_some (ev_un ev_int uk_neg)) eo_none (uk_lastL 5 (by decide) rfl)) (by rw [els]))) (lastN_ne (by decide) hoth) (by omega) (by omega))) fun a2 => (ea_one (ev_var rfl)).g) 2 fun _ => rfl) fun a2 v B p => kTup_data (ds := [encE (lastN 5 oth)[a2.1], encE (x, sz x)]).mp p) (fun _ => .swap _ _ _) (by rw [List.length_map]; omega)) fun a2 => ?_
      have hmem : (lastN 5 oth)[a2.1] ∈ told := (List.mem_filter.mp (List.mem_of_mem_drop (List.getElem_mem _))).1
      generalize (lastN 5 oth)[a2.1] = y at hmem
      refine go_nil ⟨(ls ++ [(y, (x, sz x))], c + 1), ⟨by show c + 1 ≤ cnt + 2 + (j2 + 1); omega, by show (ls ++ [_]).length ≤ _; rw [List.length_append, List.length_singleton]; omega, fun m hm => ?_⟩, ⟨fun _ _ z => z, fun _ _ z => z, fun _ _ z => z, fun _ _ z => z, fun _ _ z => z, fun _ _ z => z, fun _ _ z => z, fun _ _ z => z, fun _ _ z => z, fun _ _ z => z, fun _ _ z => z, fun _ _ z => z, fun _ _ z => z, True.intro⟩, ?_⟩
      · rcases List.mem_append.mp hm with hm | hm
        · exact h3 m hm
        · rw [List.mem_singleton.mp hm]
          exact .inr ⟨rfl, hmem⟩
      · show List.Perm _ [mBox D (c + 1), mLst Le ((ls ++ [(y, (x, sz x))]).map kM), mLst Mk (marks.map kE), mLst To (told.map kE), mSz Sz (szO ns sz) nsz]
        rw [List.map_append]
        exact .swap _ _ _
    · obtain ⟨ls, c⟩ := s2
      have ha := laps_le a
      obtain ⟨h1, h2, h3⟩ := h2
      rw [List.length_map, List.length_range] at h1 h2
      have h1 : c ≤ cnt + 2 + laps[a] := h1
      have h2 : ls.length ≤ letters.length + laps[a] := h2
      let Γx : Ga := [some (kC (.ref D)), some (kI folk), some (kI many), some (kI thick), some (kI most), some (kD (.list (ns.map encS))), some (kC (.ref Mk)), some (kC (.ref Le)), some (kC (.ref To)), some (kC (.ref Sz)), none, some (kD (encS x)), some (kD (encE (x, sz x))), some (kD (.list (oth.map encE))), none, none, none]
      refine go_seq (nx := fun Γ' M' => ∃ mk, (mk = marks ∨ (mk = marks ++ [(x, sz x)] ∧ marks.length < most)) ∧ Γ' = Γx ∧ M' = [mLst Mk (mk.map kE), mBox D (c + 1), mLst Le (ls.map kM), mLst To (told.map kE), mSz Sz (szO ns sz) nsz]) (go_ifG (etg_andG (etg_test (ev_op (ev_take (M1 := [mLst Le (ls.map kM), mLst Mk (marks.map kE), mLst To (told.map kE), mSz Sz (szO ns sz) nsz]) D c 12 (ea_two (ev_var rfl) ev_int) (by decide) (by decide) (by omega)) (ev_var rfl) rk_ltG)) (et_test (ev_op (ev_cb (ea_one (ev_var rfl)) (ck_lenM (ks := marks.map kE) (D := Mk) (by simp))) (ev_var rfl) rk_lt))) (fun hb => ?_) fun _ => ?_) fun Γ1 M1 ⟨mk, hmk, e1, e2⟩ => ?_
      · have hlt : marks.length < most := by
          have := hb rfl
          simpa using this
        refine go_dropG (eg_append (α := Unit) (D := Mk) (ks := marks.map kE) (fun _ => [mBox D (c + 1), mLst Le (ls.map kM), mLst To (told.map kE), mSz Sz (szO ns sz) nsz]) (ev_var rfl) (by simp) (Ev.g (ev_var rfl)) (fun _ => perm_by fun f => by simp only [List.map_cons, List.map_nil, List.sum_cons, List.sum_nil]; omega) (by rw [List.length_map]; omega)) fun _ => go_nil ⟨marks ++ [(x, sz x)], .inr ⟨rfl, hlt⟩, rfl, ?_⟩
        rw [List.map_append]
        rfl
      · exact go_perm (go_nil ⟨marks, .inl rfl, rfl, rfl⟩) (perm_by fun f => by simp only [List.map_cons, List.map_nil, List.sum_cons, List.sum_nil]; omega)
      · subst e1 e2
        refine go_dropG (eg_append (α := Unit) (ρ := fun _ => kE (x, sz x)) (D := To) (ks := told.map kE) (fun _ => [mLst Mk (mk.map kE), mBox D (c + 1), mLst Le (ls.map kM), mSz Sz (szO ns sz) nsz]) (ev_var rfl) (by simp) (Ev.g (ev_var rfl)) (fun _ => perm_by fun f => by simp only [List.map_cons, List.map_nil, List.sum_cons, List.sum_nil]; omega) (by rw [List.length_map]; omega)) fun _ => ?_
        refine go_dputZ (D := Sz) (f := szO ns sz) (n := nsz) (m := sz x + 1) (x := x) (M4 := [mLst To (told.map kE ++ [kE (x, sz x)]), mLst Mk (mk.map kE), mBox D (c + 1), mLst Le (ls.map kM)]) ((ev_op (ev_dgetS (f := szO ns sz) (n := nsz) (by simp) (ev_var rfl) (ev_var rfl) hsx) ev_int rk_add).is rfl) (ev_var rfl) (ev_var rfl) (perm_by fun f => by simp only [List.map_cons, List.map_nil, List.sum_cons, List.sum_nil]; omega) (by omega) ?_
        have ef : (fun y => if y = x then some (sz x + 1) else szO ns sz y) = szO ns fun y => if y = x then sz x + 1 else sz y := funext fun y => by
          by_cases e : y = x
          · subst e
            simp [szO, hx]
          · simp [szO, e]
        rw [ef]
        refine go_nil ⟨⟨told ++ [(x, sz x)], fun y => if y = x then sz x + 1 else sz y, mk, ls, c + 1, nsz + 1⟩, I.step hx h3 (by show ls.length ≤ letters.length + 2; omega) hmk (by show c + 1 ≤ cnt + 5; omega), ⟨fun _ _ z => z, fun _ _ z => z, fun _ _ z => z, fun _ _ z => z, fun _ _ z => z, fun _ _ z => z, fun _ _ z => z, fun _ _ z => z, fun _ _ z => z, fun _ _ z => z, True.intro⟩, ?_⟩
        show List.Perm _ [mBox D (c + 1), mLst Le (ls.map kM), mLst Mk (mk.map kE), mLst To ((told ++ [(x, sz x)]).map kE), mSz Sz (szO ns fun y => if y = x then sz x + 1 else sz y) (nsz + 1)]
        have eL : (told ++ [(x, sz x)]).map kE = told.map kE ++ [kE (x, sz x)] := by rw [List.map_append]; rfl
        rw [eL]
        exact perm_by fun f => by simp only [List.map_cons, List.map_nil, List.sum_cons, List.sum_nil]; omega
  · rw [List.length_map, List.length_range] at I
    have I : LoI ns most (n + folk) many s := I
    have hcnt := I.cnt
    have hmkl := I.mkl
    have hlel := I.lel
    refine go_perm (M1 := [mLst Mk (s.marks.map kE), mLst Le (s.letters.map kM), mLst To (s.told.map kE), mSz Sz (szO ns s.sz) s.nsz, mBox D s.cnt]) ?_ (perm_by fun f => by simp only [List.map_cons, List.map_nil, List.sum_cons, List.sum_nil]; omega)
    have lE : ∀ (l : List Et) v B, (kLst (l.map kE)).p v B → (kD (.list (l.map encE))).p v B := fun l v B q => by
      have ef : l.map kE = (l.map encE).map kD := by rw [List.map_map]; rfl
      rw [ef] at q
      exact kLst_data.mp q
    have lM : ∀ (l : List Mg) v B, (kLst (l.map kM)).p v B → (kD (.list (l.map encM))).p v B := fun l v B q => by
      have ef : l.map kM = (l.map encM).map kD := by rw [List.map_map]; rfl
      rw [ef] at q
      exact kLst_data.mp q
    refine go_still (i := 6) rfl (go_word (i := 6) rfl (lE s.marks) (go_still (i := 7) rfl (go_word (i := 7) rfl (lM s.letters) (go_forget ?_))))
    let srt : List Et := s.marks.mergeSort (PySem.W.dataLe false encE)
    have hsl : srt.length ≤ 10 := by
      show (s.marks.mergeSort _).length ≤ 10
      rw [List.length_mergeSort]
      omega
    have hal : PySem.W.AllAlike (s.marks.map encE) := PySem.W.AllAlike.of fun b b' => alike_encE b b'
    have hsb : PySem.W.Sortable (s.marks.map encE) := PySem.W.Sortable.tuples fun b => ⟨_, _, rfl⟩
    refine go_set (k := kD (.list ((lgOf ns s []).ma.map encMa))) (Ev.is (d := .list (ns.map fun x => encMa (x, s.sz x, mkOf s.marks x))) (ev_lcA ns (fun x => kD (encS x)) (fun x => encMa (x, s.sz x, mkOf s.marks x)) (ei_lstE (f := encS) (ev_var rfl)) sub_nil (by have : ns.length = folk := hnl; omega) fun i x hx => ⟨_, [11], tg_name, in_one, et_yes, fun _ => ev_tup3D (ev_var rfl) (ev_dgetS (f := szO ns s.sz) (n := s.nsz) (List.mem_cons_self ..) (ev_var rfl) (ev_var rfl) (if_pos (List.mem_of_getElem? hx))) (Ev.is (ev_cb (ea_one (ev_lcD srt kE (fun e => decide (e.1 = x)) (fun e => .int (e.2 : Nat)) (ei_lstE (Ev.is (d' := .list (srt.map encE)) (ev_cb (ea_one (ev_var rfl)) (ck_sortD hal hsb fun d hd => by
      obtain ⟨e, _, rfl⟩ := List.mem_map.mp hd
      exact Nat.le_trans (Sh.ev e).2 (by decide))) (by rw [sort_enc]))) sub_nil (by omega) fun j e he => ⟨_, [16], tg_name, in_one, et_test (ev_op (ev_op (ev_var rfl) ev_int (rk_ixT (n := 0) rfl)) (ev_var rfl) rk_eqN), fun _ => ev_op (ev_var rfl) ev_int (rk_ixT (n := 1) rfl)⟩)) ck_tupOf) (by unfold mkOf; rw [List.map_map]; rfl))⟩) (by unfold lgOf; rw [List.map_map]; rfl)) ?_
    refine go_forget (go_box (n + 200) (by omega) ?_)
    have hl16 : (s.letters.take 16).length ≤ 16 := by rw [List.length_take]; omega
    refine go_retTo (EvG.ex (EvG.to (ρ' := fun p : { out : List Mg // (∀ m ∈ out, m ∈ s.letters.take 16) ∧ out.length ≤ (s.letters.take 16).length ∧ AscM out } × Unit => kD (.tuple [.tuple ((lgOf ns s []).ma.map encMa), .tuple (p.1.1.map encM)])) (eg_tup (eag_cons (ev_cb (ea_one (ev_var rfl)) ck_tupOf) (eag_new (Ev.one (ev_cb (ea_one (ev_sortset (ms := s.letters.take 16) (Ev.is (d := .list ((s.letters.map encM).take 16)) (ev_slice (ev_var rfl) eo_none (eo_some ev_int) (uk_takeL 16)) (by rw [List.map_take])) hl16)) (ck_ex fun out => ck_tupOf (ds := out.1.map encM)))) fun a => (ea_nil (M := [mBox D (n + 200)])).g)) 2 fun _ => rfl) fun a v B p => kTup_data (ds := [.tuple ((lgOf ns s []).ma.map encMa), .tuple (a.1.1.map encM)]).mp p)) fun v B ⟨⟨out, _⟩, q⟩ => ⟨⟨(lgOf ns s out.1, posE s.told), ?_⟩, q⟩
    obtain ⟨ms, m1, m2, m3⟩ := out
    obtain ⟨g1, g2⟩ := lgOf_ok I nd (by have : ns.length = folk := hnl; omega) hmost hmany (ms := ms) (fun m hm => List.mem_of_mem_take (m1 m hm)) (by omega)
    exact ⟨g1, g2, m3⟩
end
end Fw
set_option Elab.async false
set_option linter.all false
set_option maxRecDepth 100000
set_option maxHeartbeats 4000000
set_option Elab.async false
/-! the walk: same -/
namespace Fw
open PySem PySem.Spec PyProof.Rows L2 RZ
section
variable {Γ : Ga} {M M1 M2 : List Mu} {ta tb : TE} {K : PySem.W.Frag}
theorem goes_zip {A : Hp} {a b : Addr} {xs ys : List V} {ds es : List PyData} (h1 : A a = some (.lst xs)) (h2 : TkAll A xs ds) (h3 : A b = some (.lst ys)) (h4 : TkAll A ys es) (hl : ds.length = es.length) : GoesK (Itz K a b) A [] ((ds.zip es).map fun p => kTup [kD p.1, kD p.2]) := by
  have lx := h2.length
  have ly := h4.length
  have hzl : ((ds.zip es).map fun p => kTup [kD p.1, kD p.2]).length = ds.length := by simp [hl]
  refine ⟨fun N B C _ e o i hi => ⟨xs, ys, xs[i]'(by omega), ys[i]'(by omega), SqL.of (o.ex _ _ (e _ _ h1)), SqL.of (o.ex _ _ (e _ _ h3)), List.getElem?_eq_getElem _, List.getElem?_eq_getElem _⟩, fun N B C _ e o => ⟨xs, ys, SqL.of (o.ex _ _ (e _ _ h1)), SqL.of (o.ex _ _ (e _ _ h3)), .inl (by omega)⟩, fun N B C _ e o i k y C' hi ⟨T, x, z, he, hT, hC, f1, f2⟩ => ?_⟩
  subst he hC
  have hx := f1 xs (SqL.of (o.ex _ _ (e _ _ h1)))
  have hz := f2 ys (SqL.of (o.ex _ _ (e _ _ h3)))
  obtain ⟨d, hd, pd⟩ := h2.get hx
  obtain ⟨d', hd', pd'⟩ := h4.get hz
  rw [List.getElem?_map, (show (ds.zip es)[i]? = some (d, d') from List.getElem?_zip_eq_some.mpr ⟨hd, hd'⟩)] at hi
  cases hi
  have en := Ex.new (o := .tup [x, z]) (o.ex.back hT)
  exact ⟨_, en, o.new hT, T, _, rfl, upd_same, .cons (Tk.ex (e.trans en) _ _ pd) (.cons (Tk.ex (e.trans en) _ _ pd') .nil)⟩
theorem goes_zipT {A : Hp} {a b : Addr} {xs ys : List V} {ds es : List PyData} (h1 : A a = some (.tup xs)) (h2 : TkAll A xs ds) (h3 : A b = some (.tup ys)) (h4 : TkAll A ys es) (hl : ds.length = es.length) : GoesK (ItzT K a b) A [] ((ds.zip es).map fun p => kTup [kD p.1, kD p.2]) := by
  have lx := h2.length
  have ly := h4.length
  have hzl : ((ds.zip es).map fun p => kTup [kD p.1, kD p.2]).length = ds.length := by simp [hl]
  refine ⟨fun N B C _ e o i hi => ⟨xs, ys, xs[i]'(by omega), ys[i]'(by omega), SqT.of (o.ex _ _ (e _ _ h1)), SqT.of (o.ex _ _ (e _ _ h3)), List.getElem?_eq_getElem _, List.getElem?_eq_getElem _⟩, fun N B C _ e o => ⟨xs, ys, SqT.of (o.ex _ _ (e _ _ h1)), SqT.of (o.ex _ _ (e _ _ h3)), .inl (by omega)⟩, fun N B C _ e o i k y C' hi ⟨T, x, z, he, hT, hC, f1, f2⟩ => ?_⟩
  subst he hC
  have hx := f1 xs (SqT.of (o.ex _ _ (e _ _ h1)))
  have hz := f2 ys (SqT.of (o.ex _ _ (e _ _ h3)))
  obtain ⟨d, hd, pd⟩ := h2.get hx
  obtain ⟨d', hd', pd'⟩ := h4.get hz
  rw [List.getElem?_map, (show (ds.zip es)[i]? = some (d, d') from List.getElem?_zip_eq_some.mpr ⟨hd, hd'⟩)] at hi
  cases hi
  have en := Ex.new (o := .tup [x, z]) (o.ex.back hT)
  exact ⟨_, en, o.new hT, T, _, rfl, upd_same, .cons (Tk.ex (e.trans en) _ _ pd) (.cons (Tk.ex (e.trans en) _ _ pd') .nil)⟩
theorem zip_self {α : Type} : ∀ l : List α, l.zip l = l.map fun d => (d, d)
  | [] => rfl
  | a :: l => by rw [List.zip_cons_cons, zip_self l, List.map_cons]
theorem ei_zipL {ds : List PyData} (h : Ev ta Γ M M1 (kD (.list ds))) (h2 : Ev tb Γ M1 M2 (kD (.list ds))) : EvI (iZipA K (tCons ta (tCons tb tNil))) Γ M M2 [] (ds.map fun d => kTup [kD d, kD d]) := fun F σ B C s o R q =>
  ea_two h h2 F σ B C s o _ fun xs B1 C1 e1 o1 ps => by
    obtain ⟨v, w, rfl, pv, pw⟩ := allK2 ps
    obtain ⟨a, xs, rfl, h3, h4⟩ := pv.lst_inv
    obtain ⟨b, ys, rfl, h5, h6⟩ := pw.lst_inv
    refine ⟨a, b, xs, ys, rfl, .inl ⟨SqL.of (o1.ex _ _ h3), SqL.of (o1.ex _ _ h5), q _ B1 C1 e1 o1 ?_⟩⟩
    have := goes_zip (K := K) h3 h4 h5 h6 rfl
    rw [zip_self, List.map_map] at this
    exact this
theorem ei_zipT {ds : List PyData} (h : Ev ta Γ M M1 (kD (.tuple ds))) (h2 : Ev tb Γ M1 M2 (kD (.tuple ds))) : EvI (iZipA K (tCons ta (tCons tb tNil))) Γ M M2 [] (ds.map fun d => kTup [kD d, kD d]) := fun F σ B C s o R q =>
  ea_two h h2 F σ B C s o _ fun xs B1 C1 e1 o1 ps => by
    obtain ⟨v, w, rfl, pv, pw⟩ := allK2 ps
    obtain ⟨a, xs, rfl, h3, h4⟩ := pv.tup_inv
    obtain ⟨b, ys, rfl, h5, h6⟩ := pw.tup_inv
    refine ⟨a, b, xs, ys, rfl, .inr ⟨SqT.of (o1.ex _ _ h3), SqT.of (o1.ex _ _ h5), q _ B1 C1 e1 o1 ?_⟩⟩
    have := goes_zipT (K := K) h3 h4 h5 h6 rfl
    rw [zip_self, List.map_map] at this
    exact this
end
section
variable {P : Program} {w : World} {K : PySem.W.Frag} {mg : Str → Option Value} {base : Heap}
theorem canLay_mem : ∀ {ds : List PyData}, PyData.canLayAll0 ds = true → ∀ d ∈ ds, d.canLay0 = true
  | [], _, _, h => by cases h
  | d :: ds, h, e, he => by
    have h2 := Bool.and_eq_true_iff.mp (show (d.canLay0 && PyData.canLayAll0 ds) = true from h)
    rcases List.mem_cons.mp he with rfl | he
    · exact h2.1
    · exact canLay_mem h2.2 e he
theorem Sh.inL {n : Nat} {ds : List PyData} (h : Sh n (.list ds)) {d : PyData} (hd : d ∈ ds) : Sh n d :=
  ⟨canLay_mem (show PyData.canLayAll0 ds = true from h.1) d hd, Nat.le_of_lt_succ (Nat.lt_succ_of_lt (depth_mem (Nat.lt_of_succ_le h.2) d hd))⟩
theorem Sh.inT {n : Nat} {ds : List PyData} (h : Sh n (.tuple ds)) {d : PyData} (hd : d ∈ ds) : Sh n d :=
  ⟨canLay_mem (show PyData.canLayAll0 ds = true from h.1) d hd, Nat.le_of_lt_succ (Nat.lt_succ_of_lt (depth_mem (Nat.lt_of_succ_le h.2) d hd))⟩
theorem eqv_bb (b c : Bool) : PyData.eqv (.bool b) (.bool c) = decide (b = c) := by cases b <;> cases c <;> decide
theorem rk_eqB {M : List Mu} {b c : Bool} : RK (rEqD K) M (kB b) (kB c) (kB (decide (b = c))) := rk_eqD (Sh.bl b).shaped (Sh.bl c).shaped (eqv_bb b c)
theorem rk_neB {M : List Mu} {b c : Bool} : RK (rNeD K) M (kB b) (kB c) (kB (!decide (b = c))) := rk_neD (Sh.bl b).shaped (Sh.bl c).shaped (by rw [eqv_bb])
theorem rk_same {M : List Mu} {d : PyData} (h : Sh 60 d) : RK (rEqD K) M (kD d) (kD d) (kB true) := rk_eqD h.shaped h.shaped (PySem.SeqAt.eqv_refl d h.1)
abbrev spSameN (n : Nat) : Sp := spP (fun d : PyData => d.depth < n ∧ fit d = true ∧ Sh 60 d) (fun d => [kD d, kD d]) (fun _ => kB true)
theorem r__law_sameN (T : Tx K mg) : ∀ n, FnR P w K mg base CX0 n (He.ga K "_law_same") (spSameN n)
  | 0 => fun A outer s H us vs Q E hr e0 r ⟨a, _, _, h, _⟩ => absurd h.1 (Nat.not_lt_zero _)
  | n + 1 => by
    have ih := r__law_sameN T n
    obtain ⟨fd, F⟩ := T.says.def_ 39 (d := (gD "_law_same" 33))
    have nd : (["_law_found", "_law_due", "_law_mine", "_law_its"] : List Str).Nodup := by decide +kernel
    refine fn_r (N := ["_law_found", "_law_due", "_law_mine", "_law_its"]) (ps := ["_law_found", "_law_due"]) F ⟨rfl, rfl, rfl, nd, rfl, by decide +kernel, by decide +kernel⟩ (F.bindsN fun _ _ _ _ _ _ us hl => match us, hl with | [_, _], _ => rfl) .nil (fun _ _ => rfl) fun cdv A outer s H E hr => ?_
    have hu := hu_of hr
    have hu64 := hr.units
    have hu65 := room65 hr
    refine ⟨_, (pss_cons (ps_if (pt_val (pe_callB (k_isi2 K) (by rfl) (T.free 38) (by decide +kernel) (pa_cons (pv 1) (pa_cons (pe_tup (pa_cons (pe_bltn (by rfl) (T.free 39) (by decide +kernel) (v := .ty "list") rfl) (pa_cons (pe_bltn (by rfl) (T.free 37) (by decide +kernel) (v := .ty "tuple") rfl) pa_nil))) pa_nil)))) (pss_cons (ps_if (pt_cmpR (k_ne K hu64) (pe_callB (k_isi K) (by rfl) (T.free 38) (by decide +kernel) (pa_cons (pv 0) (pa_cons (pe_bltn (by rfl) (T.free 39) (by decide +kernel) (v := .ty "list") rfl) pa_nil))) (pe_callB (k_isi K) (by rfl) (T.free 38) (by decide +kernel) (pa_cons (pv 1) (pa_cons (pe_bltn (by rfl) (T.free 39) (by decide +kernel) (v := .ty "list") rfl) pa_nil))) (nomark _)) (pss_cons (ps_ret pe_bl)
        pss_nil) pss_nil)
        (pss_cons (ps_if (pt_cmpR (k_ne K hu64) (pe_callB (k_isi K) (by rfl) (T.free 38) (by decide +kernel) (pa_cons (pv 0) (pa_cons (pe_bltn (by rfl) (T.free 37) (by decide +kernel) (v := .ty "tuple") rfl) pa_nil))) (pe_callB (k_isi K) (by rfl) (T.free 38) (by decide +kernel) (pa_cons (pv 1) (pa_cons (pe_bltn (by rfl) (T.free 37) (by decide +kernel) (v := .ty "tuple") rfl) pa_nil))) (nomark _)) (pss_cons (ps_ret pe_bl)
        pss_nil) pss_nil)
        (pss_cons (ps_ret (pe_and (pe_cmpR (k_eq K hu64) (pe_callB (k_len K) (by rfl) (T.free 41) (by decide +kernel) (pa_cons (pv 0) pa_nil)) (pe_callB (k_len K) (by rfl) (T.free 41) (by decide +kernel) (pa_cons (pv 1) pa_nil)) (nomark _)) (pe_one (pe_callB (k_all K rfl) (by rfl) (T.free 47) (by decide +kernel) (pa_cons (pe_lc (own := [("_law_mine", 2), ("_law_its", 3)]) rfl nd (pi_zipA (by rfl) (T.free 43) (pa_cons (pv 0) (pa_cons (pv 1) pa_nil))) (blkOk_by (own := [("_law_mine", 2), ("_law_its", 3)]) (N := ["_law_found", "_law_due", "_law_mine", "_law_its"]) (sc := defScope (top 33)) (by decide +kernel)) (fun _ _ _ _ _ => (k_gT K (n := 2) rfl (pgs_cons (pg_name (i := 2) nd rfl (Or.inl rfl)) (pgs_cons (pg_name (i := 3) nd rfl (Or.inl rfl)) pgs_nil)))) (fun _ _ _ _ _ => pts_nil) (fun _ _ _ _ _ => (pe_g ih hr (Nat.le_refl _) (T.glo 21) (T.kp 39 (d := (gD "_law_same" 33))) (pa_cons (pv 2) (pa_cons (pv 3) pa_nil))))) pa_nil)))))
        pss_nil))) pss_nil)
        (pss_cons (ps_if (PW.pt (pw_or (pt_cmpR op_isN (pv 1) pe_non (nomark _)) (pw_or1 (pt_val (pe_callB (k_isi2 K) (by rfl) (T.free 38) (by decide +kernel) (pa_cons (pv 1) (pa_cons (pe_tup (pa_cons (pe_bltn (by rfl) (T.free 54) (by decide +kernel) (v := .ty "bool") rfl) (pa_cons (pe_bltn (by rfl) (T.free 55) (by decide +kernel) (v := .ty "str") rfl) pa_nil))) pa_nil))))))) (pss_cons (ps_ret (pe_and (pe_cmpR (k_eq K hu64) (pv 0) (pv 1) (nomark _)) (pe_and (pe_cmpR (k_eq K hu64) (pe_callB (k_isi K) (by rfl) (T.free 38) (by decide +kernel) (pa_cons (pv 0) (pa_cons (pe_bltn (by rfl) (T.free 54) (by decide +kernel) (v := .ty "bool") rfl) pa_nil))) (pe_callB (k_isi K) (by rfl) (T.free 38) (by decide +kernel) (pa_cons (pv 1) (pa_cons (pe_bltn (by rfl) (T.free 54) (by decide +kernel) (v := .ty "bool") rfl) pa_nil))) (nomark _)) (pe_one (pe_cmpR (k_eq K hu64) (pe_cmpR op_isN (pv 0) pe_non (nomark _)) (pe_cmpR op_isN (pv 1) pe_non (nomark _)) (nomark _))))))
        pss_nil) pss_nil)
        (pss_cons (ps_ret (pe_and (pe_callB (k_isi K) (by rfl) (T.free 38) (by decide +kernel) (pa_cons (pv 0) (pa_cons (pe_bltn (by rfl) (T.free 48) (by decide +kernel) (v := .ty "int") rfl) pa_nil))) (pe_and (pe_not (pe_callB (k_isi K) (by rfl) (T.free 38) (by decide +kernel) (pa_cons (pv 0) (pa_cons (pe_bltn (by rfl) (T.free 54) (by decide +kernel) (v := .ty "bool") rfl) pa_nil)))) (pe_one (pe_cmpR (k_eq K hu64) (pv 0) (pv 1) (nomark _))))))
        pss_nil))), fun a hp => ?_⟩
    obtain ⟨hn, hf, hs⟩ : a.depth < n + 1 ∧ fit a = true ∧ Sh 60 a := hp
    have turn : ∀ ds : List PyData, (∀ d ∈ ds, d.depth < n ∧ fit d = true ∧ Sh 60 d) → ∀ i d, ds[i]? = some d → TurnK (gTup K 2 (gCons (gName 2) (gCons (gName 3) gNil))) tYes (tCall (spSameN n) [] E0 (tCons (tVar 2) (tCons (tVar 3) tNil))) [2, 3] [some (kD a), some (kD a), none, none] [] (kTup [kD d, kD d]) true (kB true) := fun ds h i d hd =>
      ⟨_, [2, 3], tg_two, fun _ z => z, et_yes, fun _ => ev_fn (args := fun d : PyData => [kD d, kD d]) (res := fun _ => kB true) d (ea_two (ev_var rfl) (ev_var rfl)) (h d (List.mem_of_getElem? hd))⟩
    have allT : ∀ ds : List PyData, ((ds.map fun _ => true).all id) = true := fun ds => by simp
    cases a with
    | list ds =>
      have h2 := Bool.and_eq_true_iff.mp (show (decide (ds.length ≤ 50000) && fitAll ds) = true by simpa only [fit] using hf)
      have h1 : PyData.depthAll ds < n := Nat.lt_of_succ_lt_succ (show PyData.depthAll ds + 1 < n + 1 from hn)
      have hd : ∀ d ∈ ds, d.depth < n ∧ fit d = true ∧ Sh 60 d := fun d hd => ⟨depth_mem h1 d hd, fitAll_mem h2.2 d hd, hs.inL hd⟩
      refine go_seq (nx := fun _ _ => False) (go_ifS (b := true) (et_B (ev_cb (ea_two (ev_var rfl) (ev_tup (ea_two ev_c ev_c))) (ck_isi2 (kit_LT _)))) (fun _ => ?_) fun z => by cases z) fun _ _ z => z.elim
      refine go_skip (et_test (ev_op (ev_cb (ea_two (ev_var rfl) ev_c) (ck_isi (b := true) (kit_ty (a := "list") (by decide +kernel)))) (ev_cb (ea_two (ev_var rfl) ev_c) (ck_isi (b := true) (kit_ty (a := "list") (by decide +kernel)))) rk_neB)) ?_
      refine go_skip (et_test (ev_op (ev_cb (ea_two (ev_var rfl) ev_c) (ck_isi (b := false) (kit_ty (a := "list") (by decide +kernel)))) (ev_cb (ea_two (ev_var rfl) ev_c) (ck_isi (b := false) (kit_ty (a := "list") (by decide +kernel)))) rk_neB)) ?_
      refine go_ret ((ev_and (ev_op (ev_cb (ea_one (ev_var rfl)) ck_lenL) (ev_cb (ea_one (ev_var rfl)) ck_lenL) rk_eqI) fun _ => ev_cb (ea_one ((ev_lcA ds (fun d => kTup [kD d, kD d]) (fun _ => PyData.bool true) (ei_zipL (ev_var rfl) (ev_var rfl)) sub_nil (of_decide_eq_true h2.1) (turn ds hd)).is (d' := .list ((ds.map fun _ => true).map .bool)) (by rw [List.map_map]; rfl))) ck_all).is ?_)
      rw [allT]
      simp
    | tuple ds =>
      have h2 := Bool.and_eq_true_iff.mp (show (decide (ds.length ≤ 50000) && fitAll ds) = true by simpa only [fit] using hf)
      have h1 : PyData.depthAll ds < n := Nat.lt_of_succ_lt_succ (show PyData.depthAll ds + 1 < n + 1 from hn)
      have hd : ∀ d ∈ ds, d.depth < n ∧ fit d = true ∧ Sh 60 d := fun d hd => ⟨depth_mem h1 d hd, fitAll_mem h2.2 d hd, hs.inT hd⟩
      refine go_seq (nx := fun _ _ => False) (go_ifS (b := true) (et_B (ev_cb (ea_two (ev_var rfl) (ev_tup (ea_two ev_c ev_c))) (ck_isi2 (kit_LT _)))) (fun _ => ?_) fun z => by cases z) fun _ _ z => z.elim
      refine go_skip (et_test (ev_op (ev_cb (ea_two (ev_var rfl) ev_c) (ck_isi (b := false) (kit_ty (a := "tuple") (by decide +kernel)))) (ev_cb (ea_two (ev_var rfl) ev_c) (ck_isi (b := false) (kit_ty (a := "tuple") (by decide +kernel)))) rk_neB)) ?_
      refine go_skip (et_test (ev_op (ev_cb (ea_two (ev_var rfl) ev_c) (ck_isi (b := true) (kit_ty (a := "tuple") (by decide +kernel)))) (ev_cb (ea_two (ev_var rfl) ev_c) (ck_isi (b := true) (kit_ty (a := "tuple") (by decide +kernel)))) rk_neB)) ?_
      refine go_ret ((ev_and (ev_op (ev_cb (ea_one (ev_var rfl)) ck_lenT) (ev_cb (ea_one (ev_var rfl)) ck_lenT) rk_eqI) fun _ => ev_cb (ea_one ((ev_lcA ds (fun d => kTup [kD d, kD d]) (fun _ => PyData.bool true) (ei_zipT (ev_var rfl) (ev_var rfl)) sub_nil (of_decide_eq_true h2.1) (turn ds hd)).is (d' := .list ((ds.map fun _ => true).map .bool)) (by rw [List.map_map]; rfl))) ck_all).is ?_)
      rw [allT]
      simp
    | int i =>
      refine go_skip (et_B (ev_cb (ea_two (ev_var rfl) (ev_tup (ea_two ev_c ev_c))) (ck_isi2 (b := false) (kit_LT (.int i))))) ?_
      refine go_skip (EvT.is (et_or (et_test (ev_op (ev_var rfl) ev_non rk_isN)) fun _ => et_B (ev_cb (ea_two (ev_var rfl) (ev_tup (ea_two ev_c ev_c))) (ck_isi2 (b := false || false) (kit_or (T := "int") (b := false) (c := false) (by decide +kernel) (by decide +kernel))))) rfl) ?_
      exact go_ret ((ev_and (ev_cb (ea_two (ev_var rfl) ev_c) (ck_isi (b := true) (kit_ty (a := "int") (by decide +kernel)))) fun _ => ev_and (ev_not (ev_cb (ea_two (ev_var rfl) ev_c) (ck_isi (b := false) (kit_ty (a := "int") (by decide +kernel))))) fun _ => ev_op (ev_var rfl) (ev_var rfl) (rk_same hs)).is rfl)
    | none =>
      refine go_skip (et_B (ev_cb (ea_two (ev_var rfl) (ev_tup (ea_two ev_c ev_c))) (ck_isi2 (b := false) (kit_LT .none)))) ?_
      refine go_seq (nx := fun _ _ => False) (go_ifS (b := true) (EvT.is (et_or (c := false) (et_test (ev_op (ev_var rfl) ev_non rk_isN)) fun z => by cases z) rfl) (fun _ => ?_) fun z => by cases z) fun _ _ z => z.elim
      exact go_ret ((ev_and (ev_op (ev_var rfl) (ev_var rfl) (rk_same hs)) fun _ => ev_and (ev_op (ev_cb (ea_two (ev_var rfl) ev_c) (ck_isi (b := false) (kit_ty (a := "NoneType") (by decide +kernel)))) (ev_cb (ea_two (ev_var rfl) ev_c) (ck_isi (b := false) (kit_ty (a := "NoneType") (by decide +kernel)))) rk_eqB) fun _ => ev_op (ev_op (ev_var rfl) ev_non rk_isN) (ev_op (ev_var rfl) ev_non rk_isN) rk_eqB).is (by simp))
    | bool b =>
      refine go_skip (et_B (ev_cb (ea_two (ev_var rfl) (ev_tup (ea_two ev_c ev_c))) (ck_isi2 (b := false) (kit_LT (.bool b))))) ?_
      refine go_seq (nx := fun _ _ => False) (go_ifS (b := true) (EvT.is (et_or (et_test (ev_op (ev_var rfl) ev_non rk_isN)) fun _ => et_B (ev_cb (ea_two (ev_var rfl) (ev_tup (ea_two ev_c ev_c))) (ck_isi2 (b := true || false) (kit_or (T := "bool") (b := true) (c := false) (by decide +kernel) (by decide +kernel))))) rfl) (fun _ => ?_) fun z => by cases z) fun _ _ z => z.elim
      exact go_ret ((ev_and (ev_op (ev_var rfl) (ev_var rfl) (rk_same hs)) fun _ => ev_and (ev_op (ev_cb (ea_two (ev_var rfl) ev_c) (ck_isi (b := true) (kit_ty (a := "bool") (by decide +kernel)))) (ev_cb (ea_two (ev_var rfl) ev_c) (ck_isi (b := true) (kit_ty (a := "bool") (by decide +kernel)))) rk_eqB) fun _ => ev_op (ev_op (ev_var rfl) ev_non rk_isN) (ev_op (ev_var rfl) ev_non rk_isN) rk_eqB).is (by simp))
    | str x =>
      refine go_skip (et_B (ev_cb (ea_two (ev_var rfl) (ev_tup (ea_two ev_c ev_c))) (ck_isi2 (b := false) (kit_LT (.str x))))) ?_
      refine go_seq (nx := fun _ _ => False) (go_ifS (b := true) (EvT.is (et_or (et_test (ev_op (ev_var rfl) ev_non rk_isN)) fun _ => et_B (ev_cb (ea_two (ev_var rfl) (ev_tup (ea_two ev_c ev_c))) (ck_isi2 (b := false || true) (kit_or (T := "str") (b := false) (c := true) (by decide +kernel) (by decide +kernel))))) rfl) (fun _ => ?_) fun z => by cases z) fun _ _ z => z.elim
      exact go_ret ((ev_and (ev_op (ev_var rfl) (ev_var rfl) (rk_same hs)) fun _ => ev_and (ev_op (ev_cb (ea_two (ev_var rfl) ev_c) (ck_isi (b := false) (kit_ty (a := "str") (by decide +kernel)))) (ev_cb (ea_two (ev_var rfl) ev_c) (ck_isi (b := false) (kit_ty (a := "str") (by decide +kernel)))) rk_eqB) fun _ => ev_op (ev_op (ev_var rfl) ev_non rk_isN) (ev_op (ev_var rfl) ev_non rk_isN) rk_eqB).is (by simp))
    | dict kvs => simp [fit] at hf
end
end Fw
set_option Elab.async false
set_option linter.all false
set_option maxRecDepth 100000
set_option maxHeartbeats 4000000
/-! plain law: entries of counters turned, left out -/
namespace Fw
open PySem PySem.Spec PyProof.Rows
theorem eq_sorted {α : Type} {le : α → α → Bool} (anti : ∀ a b, le a b = true → le b a = true → a = b) : ∀ {l m : List α}, l.Perm m → l.Pairwise (fun a b => le a b = true) → m.Pairwise (fun a b => le a b = true) → l = m
  | [], m, p, _, _ => by rw [List.nil_perm.mp p]
  | a :: l, [], p, _, _ => by have := p.length_eq; simp at this
  | a :: l, b :: m, p, h1, h2 => by
    have h1' := List.pairwise_cons.mp h1
    have h2' := List.pairwise_cons.mp h2
    have hab : a = b := by
      have ha : a ∈ b :: m := p.mem_iff.mp (List.mem_cons_self ..)
      have hb : b ∈ a :: l := p.mem_iff.mpr (List.mem_cons_self ..)
      rcases List.mem_cons.mp ha with e | ha
      · exact e
      · rcases List.mem_cons.mp hb with e | hb
        · exact e.symm
        · exact anti a b (h1'.1 b hb) (h2'.1 a ha)
    subst hab
    rw [eq_sorted anti ((List.perm_cons a).mp p) h1'.2 h2'.2]
theorem srt_eq (l : Pl) : srt l = l.mergeSort fun p q => decide ((p.1 : Int) < q.1 ∨ ((p.1 : Int) = q.1 ∧ (p.2 : Int) ≤ q.2)) := by
  have := PySem.W.dataLe_ii (fun b : Nat × Nat => (b.1 : Int)) (fun b => (b.2 : Int))
  unfold srt
  rw [← this]
  rfl
theorem srt_perm {l m : Pl} (p : l.Perm m) : srt l = srt m := by
  rw [srt_eq, srt_eq]
  refine eq_sorted (le := fun p q => decide ((p.1 : Int) < q.1 ∨ ((p.1 : Int) = q.1 ∧ (p.2 : Int) ≤ q.2))) (fun a b h1 h2 => ?_) (((List.mergeSort_perm l _).trans p).trans (List.mergeSort_perm m _).symm) (List.pairwise_mergeSort ?_ ?_ l) (List.pairwise_mergeSort ?_ ?_ m)
  · have h1 := of_decide_eq_true h1
    have h2 := of_decide_eq_true h2
    exact Prod.ext (by omega) (by omega)
  all_goals first
    | (intro a b c h1 h2
       have h1 := of_decide_eq_true h1
       have h2 := of_decide_eq_true h2
       exact decide_eq_true (by omega))
    | (intro a b
       rw [Bool.or_eq_true, decide_eq_true_eq, decide_eq_true_eq]
       omega)
theorem lk_some {ps : Pl} {k s : Nat} (h : lk ps k = some s) : (k, s) ∈ ps := by
  unfold lk at h
  obtain ⟨p, hp, rfl⟩ := Option.map_eq_some_iff.mp h
  have h1 := List.find?_some hp
  have h2 := List.mem_of_find?_eq_some hp
  have e : p.1 = k := of_decide_eq_true h1
  subst e
  exact h2
theorem lk_mem : ∀ {ps : Pl} {k s : Nat}, (ps.map (·.1)).Nodup → (k, s) ∈ ps → lk ps k = some s
  | p :: ps, k, s, nd, h => by
    rw [List.map_cons, List.nodup_cons] at nd
    rcases List.mem_cons.mp h with e | h
    · subst e
      simp [lk]
    · have hne : ¬ p.1 = k := fun e => nd.1 (List.mem_map.mpr ⟨(k, s), h, e.symm⟩)
      have ih := lk_mem nd.2 h
      unfold lk at ih ⊢
      rw [List.find?_cons_of_neg (by simpa using hne)]
      exact ih
theorem ents_nodup (f : Row → Option Nat) (C : Rows) : (ents f C).Nodup := List.Pairwise.of_map (·.1) (fun a b h e => h (by rw [e])) (ents_keys f C)
structure PlOk (C C2 : Rows) (ps : Pl) : Prop where
  kn : (ps.map (·.1)).Nodup
  vn : (ps.map (·.2)).Nodup
  row : ∀ p ∈ ps, ∃ r, C[p.1]? = some r ∧ C2[p.2]? = some r
  len : ps.length ≤ 100
def backOf (ps : Pl) : Pl := ps.map fun p => (p.2, p.2)
theorem mem_trn {ps l : Pl} (nd : (ps.map (·.1)).Nodup) {s n : Nat} : (s, n) ∈ trn ps l ↔ ∃ k, (k, s) ∈ ps ∧ (k, n) ∈ l := by
  unfold trn
  rw [List.mem_map]
  constructor
  · rintro ⟨⟨k, m⟩, h, e⟩
    obtain ⟨h1, h2⟩ := List.mem_filter.mp h
    obtain ⟨t, ht⟩ := Option.isSome_iff_exists.mp h2
    have ht : lk ps k = some t := ht
    rw [ht] at e
    cases e
    exact ⟨k, lk_some ht, h1⟩
  · rintro ⟨k, h1, h2⟩
    have e := lk_mem nd h1
    exact ⟨(k, n), List.mem_filter.mpr ⟨h2, by rw [e]; rfl⟩, by rw [e]; rfl⟩
theorem trn_nodup {ps l : Pl} (vn : (ps.map (·.2)).Nodup) (hl : (l.map (·.1)).Nodup) : (trn ps l).Nodup := by
  unfold trn
  have hn : l.Nodup := List.Pairwise.of_map (·.1) (fun a b h e => h (by rw [e])) hl
  have inj : ∀ k k' s, (k, s) ∈ ps → (k', s) ∈ ps → k = k' := fun k k' s h h' => by
    have : ∀ {ps : Pl}, (ps.map (·.2)).Nodup → (k, s) ∈ ps → (k', s) ∈ ps → k = k' := by
      intro ps
      induction ps with
      | nil => intro _ h; cases h
      | cons p ps ih =>
        intro nd h h'
        rw [List.map_cons, List.nodup_cons] at nd
        rcases List.mem_cons.mp h with e | g
        · rcases List.mem_cons.mp h' with e' | g'
          · rw [← e'] at e
            exact (Prod.mk.inj e).1
          · exact absurd (show p.2 ∈ ps.map (·.2) from List.mem_map.mpr ⟨(k', s), g', by rw [← e]⟩) nd.1
        · rcases List.mem_cons.mp h' with e' | g'
          · exact absurd (show p.2 ∈ ps.map (·.2) from List.mem_map.mpr ⟨(k, s), g, by rw [← e']⟩) nd.1
          · exact ih nd.2 g g'
    exact this vn h h'
  refine List.Pairwise.map _ (R := fun a b : Nat × Nat => a ≠ b ∧ a ∈ l.filter (fun q => (lk ps q.1).isSome) ∧ b ∈ l.filter fun q => (lk ps q.1).isSome) (fun a b ⟨h1, h2, h3⟩ e => ?_) ?_
  · obtain ⟨t, ht⟩ := Option.isSome_iff_exists.mp (List.mem_filter.mp h2).2
    obtain ⟨u, hu⟩ := Option.isSome_iff_exists.mp (List.mem_filter.mp h3).2
    rw [ht, hu] at e
    obtain ⟨e1, e2⟩ := Prod.mk.inj e
    have e1 : t = u := e1
    subst e1
    exact h1 (Prod.ext (inj _ _ _ (lk_some ht) (lk_some hu)) e2)
  · have hf : (l.filter fun q => (lk ps q.1).isSome).Nodup := hn.filter _
    exact List.Pairwise.imp_of_mem (fun ha hb h => ⟨h, ha, hb⟩) hf
theorem turned_eq {C C2 : Rows} {ps : Pl} (ok : PlOk C C2 ps) (f : Row → Option Nat) : srt (trn ps (ents f C)) = srt (trn (backOf ps) (ents f C2)) := by
  have kn2 : ((backOf ps).map (·.1)).Nodup := by
    unfold backOf
    rw [List.map_map]
    exact ok.vn
  have vn2 : ((backOf ps).map (·.2)).Nodup := by
    unfold backOf
    rw [List.map_map]
    exact ok.vn
  refine srt_perm ((List.perm_ext_iff_of_nodup (trn_nodup ok.vn (ents_keys f C)) (trn_nodup vn2 (ents_keys f C2))).mpr fun ⟨s, n⟩ => ?_)
  rw [mem_trn ok.kn, mem_trn kn2]
  constructor
  · rintro ⟨k, h1, h2⟩
    obtain ⟨r, hr, hr2⟩ := ok.row _ h1
    obtain ⟨r', h3, h4⟩ := mem_ents.mp h2
    rw [hr] at h3
    cases h3
    exact ⟨s, List.mem_map.mpr ⟨(k, s), h1, rfl⟩, mem_ents.mpr ⟨r, hr2, h4⟩⟩
  · rintro ⟨k, h1, h2⟩
    obtain ⟨p, hp, e⟩ := List.mem_map.mp h1
    obtain ⟨e1, e2⟩ := Prod.mk.inj e
    subst e1 e2
    obtain ⟨r, hr, hr2⟩ := ok.row _ hp
    obtain ⟨r', h3, h4⟩ := mem_ents.mp h2
    rw [hr2] at h3
    cases h3
    exact ⟨p.1, hp, mem_ents.mpr ⟨r, hr, h4⟩⟩
end Fw
set_option Elab.async false
set_option linter.all false
set_option maxRecDepth 100000
set_option maxHeartbeats 800000
set_option Elab.async false
/-! the walk: apart -/
namespace Fw
open PySem PySem.Spec PyProof.Rows L2
section
variable {P : Program} {w : World} {K : PySem.W.Frag} {mg : Str → Option Value} {base : Heap}
theorem r__law_same (T : Tx K mg) : FnR P w K mg base CX0 6 (He.ga K "_law_same") (spSameN 6) := r__law_sameN T 6
theorem uk_take {M : List Mu} {ds : List PyData} (n : Nat) : UK (fun x H Q => rSlA K x none (some (n : Int)) H Q) M (kD (.tuple ds)) (kD (.tuple (ds.take n))) := fun x F B C o px Q q => by
  obtain ⟨a, xs, rfl, h1, h2⟩ := px.tup_inv
  have hl := h2.length
  have s0 : HT.sIx xs.length 0 none = 0 := rfl
  have s1 : HT.sIx xs.length xs.length (some (n : Int)) = min n xs.length := HT.sIx_nat _ _ _
  refine ⟨a, xs, rfl, SqT.of (o.ex _ _ h1), fun hw => ?_, fun _ l hl2 => q _ _ _ (Ex.new (o.ex.back hl2)) (o.new hl2) (.tup upd_same ?_)⟩
  · have h3 : xs.length ≤ n := by
      have := hw.2
      rw [s1] at this
      omega
    rw [List.take_of_length_le (by omega)] at q
    exact q _ B C (Ex.refl B) o px
  · have e : cutV xs none (some (n : Int)) = xs.take n := by
      unfold cutV
      rw [s0, s1, List.drop_zero, Nat.sub_zero]
      rcases Nat.le_total n xs.length with h | h
      · rw [Nat.min_eq_left h]
      · rw [Nat.min_eq_right h, List.take_of_length_le (Nat.le_refl _), List.take_of_length_le h]
    rw [e]
    exact (TkAll.ex (Ex.new (o.ex.back hl2)) _ _ h2).take n
theorem fit_lst {α : Type} {f : α → PyData} {l : List α} (h : ∀ a, fit (f a) = true) (hl : l.length ≤ 50000) : fit (.list (l.map f)) = true := by
  simp only [fit]
  rw [fitAll_of fun d hd => by obtain ⟨a, _, rfl⟩ := List.mem_map.mp hd; exact h a, decide_eq_true (by simpa using hl)]
  rfl
theorem fit_tup {α : Type} {f : α → PyData} {l : List α} (h : ∀ a, fit (f a) = true) (hl : l.length ≤ 50000) : fit (.tuple (l.map f)) = true := by
  simp only [fit]
  rw [fitAll_of fun d hd => by obtain ⟨a, _, rfl⟩ := List.mem_map.mp hd; exact h a, decide_eq_true (by simpa using hl)]
  rfl
theorem ev_same {Γ : Ga} {M M1 : List Mu} {t : TA} {E : XK} {d : PyData} (sh : Sh 4 d) (ft : fit d = true) (h : EvA t Γ M M1 [kD d, kD d]) : Ev (tCall (spSameN 6) [] E t) Γ M M1 (kB true) := ev_fn (pre := fun d : PyData => d.depth < 6 ∧ fit d = true ∧ Sh 60 d) (args := fun d : PyData => [kD d, kD d]) (res := fun _ => kB true) d h ⟨Nat.lt_of_le_of_lt sh.2 (by decide), ft, sh.mono (by decide)⟩
theorem Sh.tot (L : Lg) (io : Bool) (r : Row) : Sh 1 (totD L io r) := Sh.tup2 (Sh.int _) (Sh.int _)
theorem fit_tot (L : Lg) (io : Bool) (r : Row) : fit (totD L io r) = true := by simp [totD, fit, fitAll]
theorem fit_N (p : Nat × Nat) : fit (encN p) = true := by simp [encN, fit, fitAll]
theorem ev_keys {Γ : Ga} {M : List Mu} {i v : Nat} {te : TE} {ps : Pl} {D : Addr} (f : Nat × Nat → PyData) (hD : Γ[i]? = some (some (kC (.ref D)))) (hl : ps.length ≤ 50000) (turn : ∀ (j : Nat) (p : Nat × Nat), ps[j]? = some p → ∀ od, Ev te ((wipeG Γ [v]).set v (some (kI (p.1 : Nat)))) (mFz D od ps :: M) (mFz D od ps :: M) (kD (f p))) : Ev (tLockE (tLc (iKeys (tVar i)) (gName v) tYes te [v])) Γ (mPl D ps :: M) (mPl D ps :: M) (kD (.list (ps.map f))) :=
  ev_lockE fun od => ev_lcA ps (fun p => kI (p.1 : Nat)) f (ei_keys (ev_var hD) (List.mem_cons_self ..)) (fun m hm => by rw [List.mem_singleton.mp hm]; exact List.mem_cons_self ..) hl fun j p hp => ⟨_, [v], tg_name, in_one, et_yes, fun _ => turn j p hp od⟩
structure ApA where
  L : Lg
  C : Rows
  C2 : Rows
  ps : Pl
  D : Addr
  io : Bool
structure ApA.Ok (a : ApA) : Prop where
  c : PsOk a.L a.C
  c2 : PsOk a.L a.C2
  io : IoOk a.L a.io
  ps : PlOk a.C a.C2 a.ps
abbrev spApart : Sp := spF (fun a : ApA => a.Ok) (fun a => [kD (encLg a.L), kD (encRows a.C), kD (encRows a.C2), kC (.ref a.D), kB a.io]) (fun a => [mPl a.D a.ps]) (fun a => [mPl a.D a.ps]) (fun _ => kB true)
theorem r__law_apart (T : Tx K mg) : FnR P w K mg base CX0 14 (He.ga K "_law_apart") spApart := by
  obtain ⟨fd, F⟩ := T.says.def_ 51 (d := (gD "_law_apart" 45))
  have nd : (["_law_log_so", "_law_rows", "_law_some", "_law_places", "_law_is_calm", "_law_due", "_law_told_here", "_law_letter", "_law_back", "_law_known", "_law_mine", "_law_own", "_law_k"] : List Str).Nodup := by decide +kernel
  refine fn_r (N := ["_law_log_so", "_law_rows", "_law_some", "_law_places", "_law_is_calm", "_law_due", "_law_told_here", "_law_letter", "_law_back", "_law_known", "_law_mine", "_law_own", "_law_k"]) (ps := ["_law_log_so", "_law_rows", "_law_some", "_law_places", "_law_is_calm"]) F ⟨rfl, rfl, rfl, nd, rfl, by decide +kernel, by decide +kernel⟩ (F.bindsN fun _ _ _ _ _ _ us hl => match us, hl with | [_, _, _, _, _], _ => rfl) .nil (fun _ _ => rfl) fun cdv A outer s H E hr => ?_
  have hu := hu_of hr
  have hu64 := hr.units
  have hu65 := room65 hr
  refine ⟨_, (pss_cons (ps_asg (pe_tup (pa_cons (pe_g (r_totals T) hr (by decide) (T.glo 16) (T.kp 34 (d := (gD "totals" 27 [.bl false]))) (pa_cons (pv 0) (pa_cons (pv 1) (pa_cons (pv 4) pa_nil)))) (pa_cons (pe_g (r_totals T) hr (by decide) (T.glo 16) (T.kp 34 (d := (gD "totals" 27 [.bl false]))) (pa_cons (pv 0) (pa_cons (pv 2) (pa_cons (pv 4) pa_nil)))) pa_nil))) (k_gT K (n := 2) rfl (pgs_cons (pg_name (i := 5) nd rfl (Or.inr rfl)) (pgs_cons (pg_name (i := 6) nd rfl (Or.inr rfl)) pgs_nil))))
      (pss_cons (ps_if (pt_not (pt_val (pe_g (r__law_same T) hr (by decide) (T.glo 21) (T.kp 39 (d := (gD "_law_same" 33))) (pa_cons (pe_lock (pe_lc (own := [("_law_k", 12)]) rfl nd (pi_keys (pv 3)) (blkOk_by (own := [("_law_k", 12)]) (N := ["_law_log_so", "_law_rows", "_law_some", "_law_places", "_law_is_calm", "_law_due", "_law_told_here", "_law_letter", "_law_back", "_law_known", "_law_mine", "_law_own", "_law_k"]) (sc := defScope (top 45)) (by decide +kernel)) (fun _ _ _ _ _ => (pg_name (i := 12) nd rfl (Or.inl rfl))) (fun _ _ _ _ _ => pts_nil) (fun _ _ _ _ _ => (pe_ix (k_ixL K) (pv 6) (pe_dget hu (pv 3) (pv 12) (fun _ _ => rfl)) (fun _ _ => rfl))))) (pa_cons (pe_lock (pe_lc (own := [("_law_k", 12)]) rfl nd (pi_keys (pv 3)) (blkOk_by (own := [("_law_k", 12)]) (N := ["_law_log_so", "_law_rows", "_law_some", "_law_places", "_law_is_calm", "_law_due", "_law_told_here", "_law_letter", "_law_back", "_law_known", "_law_mine", "_law_own", "_law_k"]) (sc := defScope (top 45)) (by decide +kernel)) (fun _ _ _ _ _ => (pg_name (i := 12) nd rfl (Or.inl rfl))) (fun _ _ _ _ _ => pts_nil) (fun _ _ _ _ _ => (pe_ix (k_ixL K) (pv 5) (pv 12) (fun _ _ => rfl))))) pa_nil))))) (pss_cons (ps_ret pe_bl)
      pss_nil) pss_nil)
      (pss_cons (ps_for PassesOwn.never rfl (k_iT K (pe_slice (k_slT K) (pe_ix (k_ixT K) (pv 0) pe_int (fun _ _ => rfl)) po_none (po_some pe_int))) (pg_name (i := 7) nd rfl (Or.inl rfl)) (pss_cons (ps_set (i := 5) nd rfl (Or.inr rfl) (pe_lc (own := [("_law_own", 11)]) rfl nd (k_iL K (pe_g (r__law_told T) hr (by decide) (T.glo 31) (T.kp 49 (d := (gD "_law_told" 43))) (pa_cons (pv 0) (pa_cons (pv 1) (pa_cons (pv 7) (pa_cons (pv 4) pa_nil)))))) (blkOk_by (own := [("_law_own", 11)]) (N := ["_law_log_so", "_law_rows", "_law_some", "_law_places", "_law_is_calm", "_law_due", "_law_told_here", "_law_letter", "_law_back", "_law_known", "_law_mine", "_law_own", "_law_k"]) (sc := defScope (top 45)) (by decide +kernel)) (fun _ _ _ _ _ => (pg_name (i := 11) nd rfl (Or.inl rfl))) (fun _ _ _ _ _ => pts_nil) (fun _ _ _ _ _ => (pe_g (r__law_turned_to T) hr (by decide) (T.glo 32) (T.kp 50 (d := (gD "_law_turned_to" 44))) (pa_cons (pv 11) (pa_cons (pv 3) pa_nil))))))
      (pss_cons (ps_set (i := 8) nd rfl (Or.inr rfl) (pe_callTy (k_dictP K rfl) (by rfl) (T.free 52) (by decide +kernel) (pa_cons (pe_lock (pe_lc (own := [("_law_k", 12)]) rfl nd (pi_keys (pv 3)) (blkOk_by (own := [("_law_k", 12)]) (N := ["_law_log_so", "_law_rows", "_law_some", "_law_places", "_law_is_calm", "_law_due", "_law_told_here", "_law_letter", "_law_back", "_law_known", "_law_mine", "_law_own", "_law_k"]) (sc := defScope (top 45)) (by decide +kernel)) (fun _ _ _ _ _ => (pg_name (i := 12) nd rfl (Or.inl rfl))) (fun _ _ _ _ _ => pts_nil) (fun _ _ _ _ _ => (pe_tup (pa_cons (pe_dget hu (pv 3) (pv 12) (fun _ _ => rfl)) (pa_cons (pe_dget hu (pv 3) (pv 12) (fun _ _ => rfl)) pa_nil)))))) pa_nil)))
      (pss_cons (ps_set (i := 6) nd rfl (Or.inr rfl) (pe_lc (own := [("_law_own", 11)]) rfl nd (k_iL K (pe_g (r__law_told T) hr (by decide) (T.glo 31) (T.kp 49 (d := (gD "_law_told" 43))) (pa_cons (pv 0) (pa_cons (pv 2) (pa_cons (pv 7) (pa_cons (pv 4) pa_nil)))))) (blkOk_by (own := [("_law_own", 11)]) (N := ["_law_log_so", "_law_rows", "_law_some", "_law_places", "_law_is_calm", "_law_due", "_law_told_here", "_law_letter", "_law_back", "_law_known", "_law_mine", "_law_own", "_law_k"]) (sc := defScope (top 45)) (by decide +kernel)) (fun _ _ _ _ _ => (pg_name (i := 11) nd rfl (Or.inl rfl))) (fun _ _ _ _ _ => pts_nil) (fun _ _ _ _ _ => (pe_g (r__law_turned_to T) hr (by decide) (T.glo 32) (T.kp 50 (d := (gD "_law_turned_to" 44))) (pa_cons (pv 11) (pa_cons (pv 8) pa_nil))))))
      (pss_cons (ps_if (pt_not (pt_val (pe_g (r__law_same T) hr (by decide) (T.glo 21) (T.kp 39 (d := (gD "_law_same" 33))) (pa_cons (pv 6) (pa_cons (pv 5) pa_nil))))) (pss_cons (ps_ret pe_bl)
      pss_nil) pss_nil)
      (pss_cons (ps_asg (pe_tup (pa_cons (pe_g (r_has_surely T) hr (by decide) (T.glo 12) (T.kp 30 (d := (gD "has_surely" 23 [.bl false]))) (pa_cons (pv 0) (pa_cons (pv 1) (pa_cons (pv 7) (pa_cons (pv 4) pa_nil))))) (pa_cons (pe_g (r_has_surely T) hr (by decide) (T.glo 12) (T.kp 30 (d := (gD "has_surely" 23 [.bl false]))) (pa_cons (pv 0) (pa_cons (pv 2) (pa_cons (pv 7) (pa_cons (pv 4) pa_nil))))) pa_nil))) (k_gT K (n := 2) rfl (pgs_cons (pg_name (i := 9) nd rfl (Or.inr rfl)) (pgs_cons (pg_name (i := 10) nd rfl (Or.inr rfl)) pgs_nil))))
      (pss_cons (ps_if (pt_not (pt_val (pe_g (r__law_same T) hr (by decide) (T.glo 21) (T.kp 39 (d := (gD "_law_same" 33))) (pa_cons (pe_lock (pe_lc (own := [("_law_k", 12)]) rfl nd (pi_keys (pv 3)) (blkOk_by (own := [("_law_k", 12)]) (N := ["_law_log_so", "_law_rows", "_law_some", "_law_places", "_law_is_calm", "_law_due", "_law_told_here", "_law_letter", "_law_back", "_law_known", "_law_mine", "_law_own", "_law_k"]) (sc := defScope (top 45)) (by decide +kernel)) (fun _ _ _ _ _ => (pg_name (i := 12) nd rfl (Or.inl rfl))) (fun _ _ _ _ _ => pts_nil) (fun _ _ _ _ _ => (pe_ix (k_ixT K) (pv 10) (pe_dget hu (pv 3) (pv 12) (fun _ _ => rfl)) (fun _ _ => rfl))))) (pa_cons (pe_lock (pe_lc (own := [("_law_k", 12)]) rfl nd (pi_keys (pv 3)) (blkOk_by (own := [("_law_k", 12)]) (N := ["_law_log_so", "_law_rows", "_law_some", "_law_places", "_law_is_calm", "_law_due", "_law_told_here", "_law_letter", "_law_back", "_law_known", "_law_mine", "_law_own", "_law_k"]) (sc := defScope (top 45)) (by decide +kernel)) (fun _ _ _ _ _ => (pg_name (i := 12) nd rfl (Or.inl rfl))) (fun _ _ _ _ _ => pts_nil) (fun _ _ _ _ _ => (pe_ix (k_ixT K) (pv 9) (pv 12) (fun _ _ => rfl))))) pa_nil))))) (pss_cons (ps_ret pe_bl)
      pss_nil) pss_nil)
      pss_nil)))))))
      (pss_cons (ps_ret pe_bl)
      pss_nil)))), fun a hp => ?_⟩
  obtain ⟨L, C, C2, ps, D, io⟩ := a
  obtain ⟨hc, hc2, hio, hps⟩ := hp
  have hc : PsOk L C := hc
  have hc2 : PsOk L C2 := hc2
  have hio : IoOk L io := hio
  have hps : PlOk C C2 ps := hps
  have hC : C.length ≤ 10 := hc.2.n
  have hC2 : C2.length ≤ 10 := hc2.2.n
  have hlen := hps.len
  let row : Nat → Row := fun k => (C[k]?).getD []
  have hrow : ∀ (i : Nat) (p : Nat × Nat), ps[i]? = some p → C[p.1]? = some (row p.1) ∧ C2[p.2]? = some (row p.1) ∧ lk ps p.1 = some p.2 := fun i p h => by
    obtain ⟨r, h1, h2⟩ := hps.row p (List.mem_of_getElem? h)
    have e : row p.1 = r := by simp [row, h1]
    rw [e]
    exact ⟨h1, h2, lk_mem hps.kn (List.mem_of_getElem? h)⟩
  let Γ0 : Ga := [some (kD (encLg L)), some (kD (encRows C)), some (kD (encRows C2)), some (kC (.ref D)), some (kB io)]
  refine go_asg (ev_tup (ea_two (ev_fn (res := fun p : Lg × Rows × Bool => kD (.list (p.2.1.map fun r => totD p.1 p.2.2 r))) (L, C, io) (ea_cons (ev_var rfl) (ea_two (ev_var rfl) (ev_var rfl))) ⟨hc, hio⟩) (ev_fn (res := fun p : Lg × Rows × Bool => kD (.list (p.2.1.map fun r => totD p.1 p.2.2 r))) (L, C2, io) (ea_cons (ev_var rfl) (ea_two (ev_var rfl) (ev_var rfl))) ⟨hc2, hio⟩))) tg_two ?_
  have m1 : mPl D ps ∈ [mPl D ps] := List.mem_cons_self ..
  let Γ1 : Ga := [some (kD (encLg L)), some (kD (encRows C)), some (kD (encRows C2)), some (kC (.ref D)), some (kB io), some (kD (.list (C.map fun r => totD L io r))), some (kD (.list (C2.map fun r => totD L io r))), none, none, none, none, none, none]
  have hA : Ev (tLockE (tLc (iKeys (tVar 3)) (gName 12) tYes (tOp (rIxL K) (tVar 6) (tDGet (tVar 3) (tVar 12))) [12])) Γ1 [mPl D ps] [mPl D ps] (kD (.list (ps.map fun p => totD L io (row p.1)))) := ev_keys _ rfl (by omega) fun j p hp od => ev_op (ev_var rfl) (ev_dgetP (fz_rd (List.mem_cons_self ..)) (ev_var rfl) (ev_var rfl) (hrow j p hp).2.2) (rk_ixL (n := p.2) (by rw [List.getElem?_map, (hrow j p hp).2.1]; rfl))
  have hB : Ev (tLockE (tLc (iKeys (tVar 3)) (gName 12) tYes (tOp (rIxL K) (tVar 5) (tVar 12)) [12])) Γ1 [mPl D ps] [mPl D ps] (kD (.list (ps.map fun p => totD L io (row p.1)))) := ev_keys _ rfl (by omega) fun j p hp od => ev_op (ev_var rfl) (ev_var rfl) (rk_ixL (n := p.1) (by rw [List.getElem?_map, (hrow j p hp).1]; rfl))
  have hAB := ev_same (E := E0) (Sh.lsts fun p => (Sh.tot L io _).mono (by decide)) (fit_lst (fun p => fit_tot L io _) (by omega)) (ea_two hA hB)
  refine go_skip ((et_not (et_B hAB)).is rfl) ?_
  have hks : (L.ms.map encM).take 2 = (L.ms.take 2).map encM := (List.map_take ..).symm
  have hsl : Ev (L2.tSl (rSlA K) (tOp (rIxT K) (tVar 0) (tC (.int 1))) tNoPart (tPart (tC (.int 2)))) [some (kD (encLg L)), some (kD (encRows C)), some (kD (encRows C2)), some (kC (.ref D)), some (kB io), some (kD (.list (C.map fun r => totD L io r))), some (kD (.list (C2.map fun r => totD L io r))), none, none, none, none, none, none] [mPl D ps] [mPl D ps] (kD (.tuple ((L.ms.take 2).map encM))) := by
    rw [← hks]
    exact ev_slice (ev_op (ev_var rfl) ev_int (rk_ixT (n := 1) rfl)) eo_none (eo_some ev_int) (uk_take 2)
  refine go_forN (fun _ => [some (kD (encLg L)), some (kD (encRows C)), some (kD (encRows C2)), some (kC (.ref D)), some (kB io), none, none, none, none, none, none, none, none]) (fun _ => [mPl D ps]) (ei_tupE hsl) ⟨fun _ _ z => z, fun _ _ z => z, fun _ _ z => z, fun _ _ z => z, fun _ _ z => z, True.intro⟩ (.refl _) (fun _ => sub_nil) (fun i k hi hk => ?_) (go_ret ev_bl)
  rw [List.getElem?_map] at hk
  obtain ⟨m, hm, rfl⟩ := Option.map_eq_some_iff.mp hk
  have hmm : m ∈ L.ms := List.mem_of_mem_take (List.mem_of_getElem? hm)
  have lens : ∀ (X : Rows), X.length ≤ 10 → ∀ l ∈ toldL L X m io, l.length ≤ 50000 := fun X hX l hl => by
    unfold toldL at hl
    simp only [List.mem_cons, List.not_mem_nil, or_false] at hl
    have key : ∀ f : Row → Option Nat, (ents f X).length ≤ 50000 := fun f => by
      have := ents_len X f
      omega
    rcases hl with rfl | rfl | rfl | rfl <;> exact key _
  have ll : ∀ X : Rows, (toldL L X m io).length ≤ 50000 := fun X => by simp [toldL]
  have tcall : ∀ (Γ : Ga) (M : List Mu) (q : Pl) (E : Addr) (l : Pl) (u v : Nat), l.length ≤ 50000 → Γ[u]? = some (some (kR (l.map encN))) → Γ[v]? = some (some (kC (.ref E))) → Ev (tCall spTurned [] E0 (tCons (tVar u) (tCons (tVar v) tNil))) Γ (mPl E q :: M) (mPl E q :: M) (kD (.tuple ((srt (trn q l)).map encN))) := fun Γ M q E l u v hl hu hv =>
    ev_call (Mi := fun p : TurnA => [mPl p.2.2 p.1]) (Mo := fun p : TurnA => [mPl p.2.2 p.1]) (args := fun p : TurnA => [kR (p.2.1.map encN), kC (.ref p.2.2)]) (res := fun p : TurnA => kD (.tuple ((srt (trn p.1 p.2.1)).map encN))) (q, l, E) (ea_two (ev_var hu) (ev_var hv)) hl
  have told : ∀ (Γ : Ga) (M : List Mu) (X : Rows) (u : Nat), PsOk L X → Γ[0]? = some (some (kD (encLg L))) → Γ[u]? = some (some (kD (encRows X))) → Γ[7]? = some (some (kD (encM m))) → Γ[4]? = some (some (kB io)) → Ev (tCall spTold [] E0 (tCons (tVar 0) (tCons (tVar u) (tCons (tVar 7) (tCons (tVar 4) tNil))))) Γ M M (kLst ((toldL L X m io).map fun l => kR (l.map encN))) := fun Γ M X u hX h0 h1 h2 h3 =>
    ev_fn (pre := q4) (args := a4) (res := fun p : Lg × Rows × Mg × Bool => kLst ((toldL p.1 p.2.1 p.2.2.1 p.2.2.2).map fun l => kR (l.map encN))) (L, X, m, io) (ea_four (ev_var h0) (ev_var h1) (ev_var h2) (ev_var h3)) ⟨hX, hmm, hio⟩
  refine ⟨_, [7], tg_name, ?_⟩
  refine go_set (ev_lcA (toldL L C m io) (fun l => kR (l.map encN)) (fun l => .tuple ((srt (trn ps l)).map encN)) (ei_list (told _ _ C 1 hc rfl rfl rfl rfl)) sub_nil (ll C) fun j l hl => ⟨_, [11], tg_name, in_one, et_yes, fun _ => tcall _ [] ps D l 11 3 (lens C hC l (List.mem_of_getElem? hl)) rfl rfl⟩) ?_
  let Γ2 : Ga := [some (kD (encLg L)), some (kD (encRows C)), some (kD (encRows C2)), some (kC (.ref D)), some (kB io), some (kD (.list ((toldL L C m io).map fun l => PyData.tuple ((srt (trn ps l)).map encN)))), none, some (kD (encM m)), none, none, none, none, none]
  have hK : Ev (tLockE (tLc (iKeys (tVar 3)) (gName 12) tYes (tTup (tCons (tDGet (tVar 3) (tVar 12)) (tCons (tDGet (tVar 3) (tVar 12)) tNil))) [12])) Γ2 [mPl D ps] [mPl D ps] (kD (.list (ps.map fun p => encN (p.2, p.2)))) := ev_keys _ rfl (by omega) fun j p hp od => ev_tup2D (ev_dgetP (fz_rd (List.mem_cons_self ..)) (ev_var rfl) (ev_var rfl) (hrow j p hp).2.2) (ev_dgetP (fz_rd (List.mem_cons_self ..)) (ev_var rfl) (ev_var rfl) (hrow j p hp).2.2)
  have hK2 := hK.is (d' := .list ((backOf ps).map encN)) (by unfold backOf; rw [List.map_map]; rfl)
  refine go_setG (eg_dictL hK2 (by unfold backOf; rw [List.map_map]; exact hps.vn)) fun Bk => ?_
  refine go_set (ev_lcA (toldL L C2 m io) (fun l => kR (l.map encN)) (fun l => .tuple ((srt (trn (backOf ps) l)).map encN)) (ei_list (told _ _ C2 2 hc2 rfl rfl rfl rfl)) sub_nil (ll C2) fun j l hl => ⟨_, [11], tg_name, in_one, et_yes, fun _ => tcall _ [mPl D ps] (backOf ps) Bk l 11 8 (lens C2 hC2 l (List.mem_of_getElem? hl)) rfl rfl⟩) ?_
  have heq : ((toldL L C2 m io).map fun l => PyData.tuple ((srt (trn (backOf ps) l)).map encN)) = (toldL L C m io).map fun l => PyData.tuple ((srt (trn ps l)).map encN) := by
    unfold toldL
    simp only [List.map_cons, List.map_nil]
    rw [turned_eq hps, turned_eq hps, turned_eq hps, turned_eq hps]
  rw [heq]
  have hsh : ∀ l : Pl, Sh 3 (.tuple ((srt (trn ps l)).map encN)) := fun l => (Sh.tups Sh.ent).mono (by decide)
  refine go_skip (EvT.is (et_not (et_B (ev_same (d := .list ((toldL L C m io).map fun l => PyData.tuple ((srt (trn ps l)).map encN))) (Sh.lsts hsh) ?_ (ea_two (ev_var rfl) (ev_var rfl))))) rfl) ?_
  · unfold toldL
    have key : ∀ f : Row → Option Nat, fit (.tuple ((srt (trn ps (ents f C))).map encN)) = true := fun f => fit_tup fit_N (by
      unfold srt trn
      have h1 := ents_len C f
      have h2 := List.length_filter_le (fun q : Nat × Nat => (lk ps q.1).isSome) (ents f C)
      rw [List.length_mergeSort, List.length_map]
      omega)
    simp only [List.map_cons, List.map_nil, fit, fitAll]
    have k1 := key (fun r => mustO L.evs L.ms (up L) m io r)
    have k2 := key (fun r => lateO L.evs L.ms (up L) m io r)
    have k3 := key (fun r => lastO L.ms (up L) m r)
    have k4 := key (fun r => newsO L.ms (up L) m.2 r)
    simp only [fit] at k1 k2 k3 k4
    rw [k1, k2, k3, k4]
    rfl
  refine go_forget ?_
  have sure : ∀ (Γ : Ga) (M : List Mu) (X : Rows) (u : Nat), PsOk L X → Γ[0]? = some (some (kD (encLg L))) → Γ[u]? = some (some (kD (encRows X))) → Γ[7]? = some (some (kD (encM m))) → Γ[4]? = some (some (kB io)) → Ev (tCall spHasSurely [] E0 (tCons (tVar 0) (tCons (tVar u) (tCons (tVar 7) (tCons (tVar 4) tNil))))) Γ M M (kD (vecD X fun r => sureN L.evs L.ms (up L) m io r)) := fun Γ M X u hX h0 h1 h2 h3 =>
    ev_fn (pre := q4) (args := a4) (res := fun p : Lg × Rows × Mg × Bool => kD (vecD p.2.1 fun r => sureN p.1.evs p.1.ms (up p.1) p.2.2.1 p.2.2.2 r)) (L, X, m, io) (ea_four (ev_var h0) (ev_var h1) (ev_var h2) (ev_var h3)) ⟨hX, hmm, hio⟩
  refine go_asg (ev_tup (ea_two (sure _ _ C 1 hc rfl rfl rfl rfl) (sure _ _ C2 2 hc2 rfl rfl rfl rfl))) tg_two ?_
  let sv : Nat × Nat → PyData := fun p => .int (sureN L.evs L.ms (up L) m io (row p.1) : Nat)
  let Γ3 : Ga := [some (kD (encLg L)), some (kD (encRows C)), some (kD (encRows C2)), some (kC (.ref D)), some (kB io), some (kD (.list ((toldL L C m io).map fun l => PyData.tuple ((srt (trn ps l)).map encN)))), some (kD (.list ((toldL L C m io).map fun l => PyData.tuple ((srt (trn ps l)).map encN)))), some (kD (encM m)), some (kC (.ref Bk)), some (kD (vecD C fun r => sureN L.evs L.ms (up L) m io r)), some (kD (vecD C2 fun r => sureN L.evs L.ms (up L) m io r)), none, none]
  have hS1 : Ev (tLockE (tLc (iKeys (tVar 3)) (gName 12) tYes (tOp (rIxT K) (tVar 10) (tDGet (tVar 3) (tVar 12))) [12])) Γ3 [mPl D ps] [mPl D ps] (kD (.list (ps.map sv))) := ev_keys _ rfl (by omega) fun j p hp od => ev_op (ev_var (k := kD (vecD C2 fun r => sureN L.evs L.ms (up L) m io r)) rfl) (ev_dgetP (fz_rd (List.mem_cons_self ..)) (ev_var rfl) (ev_var rfl) (hrow j p hp).2.2) (rk_ixT (n := p.2) (by rw [List.getElem?_map, (hrow j p hp).2.1]; rfl))
  have hS2 : Ev (tLockE (tLc (iKeys (tVar 3)) (gName 12) tYes (tOp (rIxT K) (tVar 9) (tVar 12)) [12])) Γ3 [mPl D ps] [mPl D ps] (kD (.list (ps.map sv))) := ev_keys _ rfl (by omega) fun j p hp od => ev_op (ev_var (k := kD (vecD C fun r => sureN L.evs L.ms (up L) m io r)) rfl) (ev_var rfl) (rk_ixT (n := p.1) (by rw [List.getElem?_map, (hrow j p hp).1]; rfl))
  have hS := ev_same (E := E0) (Sh.lsts fun p => (Sh.int _).mono (by decide)) (fit_lst (fun p => by simp [sv, fit]) (by omega)) (ea_two hS1 hS2)
  refine go_skip ((et_not (et_B hS)).is rfl) ?_
  exact go_nil ⟨⟨fun _ _ z => z, fun _ _ z => z, fun _ _ z => z, fun _ _ z => z, fun _ _ z => z, True.intro⟩, .refl _⟩
end
end Fw
set_option Elab.async false
set_option linter.all false
set_option maxRecDepth 100000
set_option maxHeartbeats 4000000
set_option Elab.async false
/-! the walk: cut_right -/
namespace Fw
open PySem PySem.Spec PyProof.Rows L2
section
variable {P : Program} {w : World} {K : PySem.W.Frag} {mg : Str → Option Value} {base : Heap}
theorem uk_drop {M : List Mu} {ds : List PyData} (n : Nat) : UK (fun x H Q => rSlA K x (some (n : Int)) none H Q) M (kD (.tuple ds)) (kD (.tuple (ds.drop n))) := fun x F B C o px Q q => by
  obtain ⟨a, xs, rfl, h1, h2⟩ := px.tup_inv
  have hl := h2.length
  have s0 : HT.sIx xs.length xs.length none = xs.length := rfl
  have s1 : HT.sIx xs.length 0 (some (n : Int)) = min n xs.length := HT.sIx_nat _ _ _
  refine ⟨a, xs, rfl, SqT.of (o.ex _ _ h1), fun hw => ?_, fun _ l hl2 => q _ _ _ (Ex.new (o.ex.back hl2)) (o.new hl2) (.tup upd_same ?_)⟩
  · have h3 : min n xs.length = 0 := by
      have := hw.1
      rwa [s1] at this
    have h4 : ds.drop n = ds := by
      rcases Nat.eq_zero_or_pos n with e | e
      · rw [e]; rfl
      · have : ds.length = 0 := by omega
        rw [List.length_eq_zero_iff.mp this]
        simp
    rw [h4] at q
    exact q _ B C (Ex.refl B) o px
  · have e : cutV xs (some (n : Int)) none = xs.drop n := by
      unfold cutV
      rw [s0, s1]
      rcases Nat.le_total n xs.length with h | h
      · rw [Nat.min_eq_left h, List.take_of_length_le (by rw [List.length_drop]; omega)]
      · rw [Nat.min_eq_right h, Nat.sub_self, List.take_zero, List.drop_eq_nil_of_le h]
    rw [e]
    exact (TkAll.ex (Ex.new (o.ex.back hl2)) _ _ h2).drop n
/-- dict(..).get(k, d), the dict forgotten -/
theorem ev_dgetN {Γ : Ga} {M M1 : List Mu} {ta tb tc : TE} {ps : Pl} {n : Nat} {d : PyData} (hd : EvG (α := Addr) ta Γ M (fun D => kC (.ref D)) (fun D => mPl D ps :: M1)) (hy : ∀ D : Addr, Ev tb Γ (mPl D ps :: M1) (mPl D ps :: M1) (kI (n : Nat))) (hz : ∀ D : Addr, Ev tc Γ (mPl D ps :: M1) (mPl D ps :: M1) (kD d)) : Ev (tDGet2 ta tb tc) Γ M M1 (kD (match lk ps n with | some m => .int (m : Nat) | none => d)) := fun F σ B C s o Q q =>
  hd F σ B C s o _ fun D x B1 C1 e1 o1 px => ev_dget2P (ta := tC x) (M := mPl D ps :: M1) (M1 := mPl D ps :: M1) (D := D) (ps := ps) (pl_rd (List.mem_cons_self ..)) (ev_cv (k := kC (.ref D)) fun _ => px) (hy D) (hz D) F σ B1 C1 (s.ex e1) o1 Q fun z B' C' e' o' p => q z B' C' (e1.trans e') (OkM.tail (M := M1 ++ F) o') p
theorem lk_ents {C : Rows} {f : Row → Option Nat} {k : Nat} {r : Row} (h : C[k]? = some r) : lk (ents f C) k = f r := by
  cases hf : f r with
  | some n => exact lk_mem (ents_keys f C) (mem_ents.mpr ⟨r, h, hf⟩)
  | none =>
    cases hl : lk (ents f C) k with
    | none => rfl
    | some n =>
      obtain ⟨r', h1, h2⟩ := mem_ents.mp (lk_some hl)
      rw [h] at h1
      cases h1
      rw [hf] at h2
      cases h2
structure CuA where
  L : Lg
  C : Rows
  k : Nat
  r : Row
  spot : Nat
  io : Bool
def CuA.C2 (a : CuA) : Rows := a.C.take a.k ++ [a.r.take a.spot, a.r.drop a.spot] ++ a.C.drop (a.k + 1)
structure CuA.Ok (a : CuA) : Prop where
  c : PsOk a.L a.C
  r : a.C[a.k]? = some a.r
  s : a.spot ≤ a.r.length
  n : a.C.length ≤ 9
  ch : Chain (up a.L) a.r
  io : IoOk a.L a.io
abbrev spCut : Sp := spP (fun a : CuA => a.Ok) (fun a => [kD (encLg a.L), kD (encRows a.C), kI a.k, kI a.spot, kB a.io]) (fun _ => kB true)
theorem r__law_cut_right (T : Tx K mg) : FnR P w K mg base CX0 13 (He.ga K "_law_cut_right") spCut := by
  obtain ⟨fd, F⟩ := T.says.def_ 52 (d := (gD "_law_cut_right" 46))
  have nd : (["_law_log_so", "_law_rows", "_law_k", "_law_spot", "_law_is_calm", "_law_some", "_law_letter", "_law_known", "_law_mine", "_law_whole", "_law_parts_so", "_law_both"] : List Str).Nodup := by decide +kernel
  refine fn_r (N := ["_law_log_so", "_law_rows", "_law_k", "_law_spot", "_law_is_calm", "_law_some", "_law_letter", "_law_known", "_law_mine", "_law_whole", "_law_parts_so", "_law_both"]) (ps := ["_law_log_so", "_law_rows", "_law_k", "_law_spot", "_law_is_calm"]) F ⟨rfl, rfl, rfl, nd, rfl, by decide +kernel, by decide +kernel⟩ (F.bindsN fun _ _ _ _ _ _ us hl => match us, hl with | [_, _, _, _, _], _ => rfl) .nil (fun _ _ => rfl) fun cdv A outer s H E hr => ?_
  have hu := hu_of hr
  have hu64 := hr.units
  have hu65 := room65 hr
  refine ⟨_, (pss_cons (ps_set (i := 5) nd rfl (Or.inl rfl) (pe_op (k_catT K) (pe_op (k_catT K) (pe_slice (k_slT K) (pv 1) po_none (po_some (pv 2))) (pe_tup (pa_cons (pe_slice (k_slT K) (pe_ix (k_ixT K) (pv 1) (pv 2) (fun _ _ => rfl)) po_none (po_some (pv 3))) (pa_cons (pe_slice (k_slT K) (pe_ix (k_ixT K) (pv 1) (pv 2) (fun _ _ => rfl)) (po_some (pv 3)) po_none) pa_nil)))) (pe_slice (k_slT K) (pv 1) (po_some (pe_op op_add (pv 2) pe_int)) po_none)))
      (pss_cons (ps_for PassesOwn.never rfl (k_iT K (pe_slice (k_slT K) (pe_ix (k_ixT K) (pv 0) pe_int (fun _ _ => rfl)) po_none (po_some pe_int))) (pg_name (i := 6) nd rfl (Or.inl rfl)) (pss_cons (ps_par (i := 7) (j := 8) rfl nd rfl rfl (by decide) rfl rfl (pa_cons (pe_g (r_has_surely T) hr (by decide) (T.glo 12) (T.kp 30 (d := (gD "has_surely" 23 [.bl false]))) (pa_cons (pv 0) (pa_cons (pv 1) (pa_cons (pv 6) (pa_cons (pv 4) pa_nil))))) (pa_cons (pe_g (r_has_surely T) hr (by decide) (T.glo 12) (T.kp 30 (d := (gD "has_surely" 23 [.bl false]))) (pa_cons (pv 0) (pa_cons (pv 5) (pa_cons (pv 6) (pa_cons (pv 4) pa_nil))))) pa_nil)) rfl)
      (pss_cons (ps_set (i := 9) nd rfl (Or.inl rfl) (pe_dget2 hu (pe_callTy (k_dictX K rfl) (by rfl) (T.free 52) (by decide +kernel) (pa_cons (pe_g (r_must_carry T) hr (by decide) (T.glo 13) (T.kp 31 (d := (gD "must_carry" 24 [.bl false]))) (pa_cons (pv 0) (pa_cons (pv 1) (pa_cons (pv 6) (pa_cons (pv 4) pa_nil))))) pa_nil)) (pv 2) pe_non ⟨by rfl, by rfl, by rfl, by rfl⟩))
      (pss_cons (ps_set (i := 10) nd rfl (Or.inl rfl) (pe_callTy (k_dictX K rfl) (by rfl) (T.free 52) (by decide +kernel) (pa_cons (pe_g (r_must_carry T) hr (by decide) (T.glo 13) (T.kp 31 (d := (gD "must_carry" 24 [.bl false]))) (pa_cons (pv 0) (pa_cons (pv 5) (pa_cons (pv 6) (pa_cons (pv 4) pa_nil))))) pa_nil)))
      (pss_cons (ps_if (PW.pt (pw_or (pt_cmpR (k_ne K hu64) (pe_ix (k_ixT K) (pv 7) (pv 2) (fun _ _ => rfl)) (pe_op op_add (pe_ix (k_ixT K) (pv 8) (pv 2) (fun _ _ => rfl)) (pe_ix (k_ixT K) (pv 8) (pe_op op_add (pv 2) pe_int) (fun _ _ => rfl))) (nomark _)) (pw_or1 (pt_cmpR (k_ne K hu64) (pe_cmpR op_isN (pv 9) pe_non (nomark _)) (pe_and (pe_cmp (pc_dnotin hu (pv 2) (pv 10))) (pe_one (pe_cmp (pc_dnotin hu (pe_op op_add (pv 2) pe_int) (pv 10))))) (nomark _))))) (pss_cons (ps_ret pe_bl)
      pss_nil) pss_nil)
      (pss_cons (ps_set (i := 11) nd rfl (Or.inl rfl) (pe_op op_add (pe_dget2 hu (pv 10) (pv 2) (pe_ix (k_ixT K) (pv 8) (pv 2) (fun _ _ => rfl)) ⟨by rfl, by rfl, by rfl, by rfl⟩) (pe_dget2 hu (pv 10) (pe_op op_add (pv 2) pe_int) (pe_ix (k_ixT K) (pv 8) (pe_op op_add (pv 2) pe_int) (fun _ _ => rfl)) ⟨by rfl, by rfl, by rfl, by rfl⟩)))
      (pss_cons (ps_if (PW.pt (pw_and (pt_cmpR op_notN (pv 9) pe_non (nomark _)) (pw_and1 (pt_cmpR (k_ne K hu64) (pv 9) (pv 11) (nomark _))))) (pss_cons (ps_ret pe_bl)
      pss_nil) pss_nil)
      pss_nil)))))))
      (pss_cons (ps_ret pe_bl)
      pss_nil))), fun a hp => ?_⟩
  obtain ⟨L, C, k, r, spot, io⟩ := a
  obtain ⟨hc, hr, hs, hn, hch, hio⟩ := hp
  have hc : PsOk L C := hc
  have hr : C[k]? = some r := hr
  have hn : C.length ≤ 9 := hn
  have hk : k < C.length := (List.getElem?_eq_some_iff.mp hr).1
  let C2 : Rows := C.take k ++ [r.take spot, r.drop spot] ++ C.drop (k + 1)
  have e2 : encRows C2 = .tuple ((C.map encRow).take k ++ [.tuple ((r.map encE).take spot), .tuple ((r.map encE).drop spot)] ++ (C.map encRow).drop (k + 1)) := by
    show PyData.tuple (C2.map encRow) = _
    simp only [C2, List.map_append, List.map_cons, List.map_nil, List.map_take, List.map_drop, encRow]
  have hrl : r.length ≤ 100 := hc.2.l r (List.mem_of_getElem? hr)
  have ixr : ∀ (Γ : Ga), Γ[1]? = some (some (kD (encRows C))) → Γ[2]? = some (some (kI (k : Nat))) → Ev (tOp (rIxT K) (tVar 1) (tVar 2)) Γ [] [] (kD (.tuple (r.map encE))) := fun Γ h1 h2 => ev_op (ev_var h1) (ev_var h2) (rk_ixT (n := k) (by rw [List.getElem?_map, hr]; rfl))
  refine go_set ((ev_op (ev_op (ev_slice (ev_var rfl) eo_none (eo_some (ev_var rfl)) (uk_take k)) (ev_tup2D (ev_slice (ixr _ rfl rfl) eo_none (eo_some (ev_var rfl)) (uk_take spot)) (ev_slice (ixr _ rfl rfl) (eo_some (ev_var rfl)) eo_none (uk_drop spot))) (rk_catA (by simp; omega))) (ev_slice (ev_var rfl) (eo_some (ev_op (ev_var rfl) ev_int rk_add)) eo_none (uk_drop (k + 1))) (rk_catA (by simp; omega))).is e2.symm) ?_
  have hCn : C.length ≤ 10 := by omega
  have hl2 : C2.length = C.length + 1 := by
    simp only [C2, List.length_append, List.length_take, List.length_drop, List.length_cons, List.length_nil]
    omega
  have hin : ∀ x ∈ r, x ∈ L.evs := hc.2.e r (List.mem_of_getElem? hr)
  have hc2 : PsOk L C2 := ⟨hc.1, ⟨by omega, fun x hx => ?_, fun x hx y hy => ?_⟩⟩
  rotate_left
  · simp only [C2, List.mem_append, List.mem_cons, List.not_mem_nil, or_false] at hx
    rcases hx with (hx | rfl | rfl) | hx
    · exact hc.2.l x (List.mem_of_mem_take hx)
    · rw [List.length_take]; omega
    · rw [List.length_drop]; omega
    · exact hc.2.l x (List.mem_of_mem_drop hx)
  · simp only [C2, List.mem_append, List.mem_cons, List.not_mem_nil, or_false] at hx
    rcases hx with (hx | rfl | rfl) | hx
    · exact hc.2.e x (List.mem_of_mem_take hx) y hy
    · exact hin y (List.mem_of_mem_take hy)
    · exact hin y (List.mem_of_mem_drop hy)
    · exact hc.2.e x (List.mem_of_mem_drop hx) y hy
  have ha : C2[k]? = some (r.take spot) := by
    have e : k = (C.take k).length + 0 := by rw [List.length_take]; omega
    show (C.take k ++ [r.take spot, r.drop spot] ++ C.drop (k + 1))[k]? = _
    rw [List.append_assoc, List.getElem?_append_right (by rw [List.length_take]; omega)]
    have e2 : k - (C.take k).length = 0 := by rw [List.length_take]; omega
    rw [e2]
    rfl
  have hb : C2[k + 1]? = some (r.drop spot) := by
    show (C.take k ++ [r.take spot, r.drop spot] ++ C.drop (k + 1))[k + 1]? = _
    rw [List.append_assoc, List.getElem?_append_right (by rw [List.length_take]; omega)]
    have e2 : k + 1 - (C.take k).length = 1 := by rw [List.length_take]; omega
    rw [e2]
    rfl
  have hks : (L.ms.map encM).take 3 = (L.ms.take 3).map encM := (List.map_take ..).symm
  have hsl : Ev (L2.tSl (rSlA K) (tOp (rIxT K) (tVar 0) (tC (.int 1))) tNoPart (tPart (tC (.int 3)))) [some (kD (encLg L)), some (kD (encRows C)), some (kI (k : Nat)), some (kI (spot : Nat)), some (kB io), some (kD (encRows C2)), none, none, none, none, none, none] [] [] (kD (.tuple ((L.ms.take 3).map encM))) := by
    rw [← hks]
    exact ev_slice (ev_op (ev_var rfl) ev_int (rk_ixT (n := 1) rfl)) eo_none (eo_some ev_int) (uk_take 3)
  refine go_forN (fun _ => [some (kD (encLg L)), some (kD (encRows C)), some (kI (k : Nat)), some (kI (spot : Nat)), some (kB io), some (kD (encRows C2)), none, none, none, none, none, none]) (fun _ => []) (ei_tupE hsl) (Less.refl _) (.refl _) (fun _ => sub_nil) (fun i kk hi hk2 => ?_) (go_ret ev_bl)
  rw [List.getElem?_map] at hk2
  obtain ⟨m, hm, rfl⟩ := Option.map_eq_some_iff.mp hk2
  have hmm : m ∈ L.ms := List.mem_of_mem_take (List.mem_of_getElem? hm)
  have hmo := (hc.1.ms m hmm).1
  have hch : Chain (up L) (r.take spot ++ r.drop spot) := by rw [List.take_append_drop]; exact hch
  have hin2 : ∀ x ∈ r.take spot ++ r.drop spot, x ∈ L.evs := by rw [List.take_append_drop]; exact hin
  have hS := sure_cut (up_ok L) (fun x i j h l => Lg.down x i j h l) (fun m hm => (hc.1.ms m hm).1) (io := io) hmo hch hin2
  have hL := cut_law (up_ok L) (fun x i j h l => Lg.down x i j h l) (fun m hm => (hc.1.ms m hm).1) (io := io) hmo hch hin2
  rw [List.take_append_drop] at hS hL
  have sure : ∀ (Γ : Ga) (M : List Mu) (X : Rows) (u : Nat), PsOk L X → Γ[0]? = some (some (kD (encLg L))) → Γ[u]? = some (some (kD (encRows X))) → Γ[6]? = some (some (kD (encM m))) → Γ[4]? = some (some (kB io)) → Ev (tCall spHasSurely [] E0 (tCons (tVar 0) (tCons (tVar u) (tCons (tVar 6) (tCons (tVar 4) tNil))))) Γ M M (kD (vecD X fun r => sureN L.evs L.ms (up L) m io r)) := fun Γ M X u hX h0 h1 h2 h3 =>
    ev_fn (pre := q4) (args := a4) (res := fun p : Lg × Rows × Mg × Bool => kD (vecD p.2.1 fun r => sureN p.1.evs p.1.ms (up p.1) p.2.2.1 p.2.2.2 r)) (L, X, m, io) (ea_four (ev_var h0) (ev_var h1) (ev_var h2) (ev_var h3)) ⟨hX, hmm, hio⟩
  have must : ∀ (Γ : Ga) (M : List Mu) (X : Rows) (u : Nat), PsOk L X → Γ[0]? = some (some (kD (encLg L))) → Γ[u]? = some (some (kD (encRows X))) → Γ[6]? = some (some (kD (encM m))) → Γ[4]? = some (some (kB io)) → Ev (tCall spMustCarry [] E0 (tCons (tVar 0) (tCons (tVar u) (tCons (tVar 6) (tCons (tVar 4) tNil))))) Γ M M (entX X fun r => mustO L.evs L.ms (up L) m io r) := fun Γ M X u hX h0 h1 h2 h3 =>
    ev_fn (pre := q4) (args := a4) (res := fun p : Lg × Rows × Mg × Bool => (entX p.2.1 fun r => mustO p.1.evs p.1.ms (up p.1) p.2.2.1 p.2.2.2 r)) (L, X, m, io) (ea_four (ev_var h0) (ev_var h1) (ev_var h2) (ev_var h3)) ⟨hX, hmm, hio⟩
  refine ⟨_, [6], tg_name, ?_⟩
  refine go_par (ea_two (sure _ _ C 1 hc rfl rfl rfl rfl) (sure _ _ C2 5 hc2 rfl rfl rfl rfl)) ?_
  refine go_set (ev_dgetN (n := k) (d := .none) (eg_dictX (K := K) (must _ _ C 1 hc rfl rfl rfl rfl) (ents_keys _ C)) (fun D => ev_var rfl) fun D => ev_non) ?_
  rw [lk_ents hr]
  refine go_setG (eg_dictX (K := K) (must _ _ C2 5 hc2 rfl rfl rfl rfl) (ents_keys _ C2)) fun D => ?_
  let f : Row → Option Nat := fun r => mustO L.evs L.ms (up L) m io r
  let S : Row → Nat := fun r => sureN L.evs L.ms (up L) m io r
  let W : PyData := match f r with | some m => .int (m : Nat) | none => .none
  have hS : S r = S (r.take spot) + S (r.drop spot) := hS
  have hL1 : (f r).isNone = ((f (r.take spot)).isNone && (f (r.drop spot)).isNone) := hL.1
  have hL2 : ∀ n, f r = some n → n = (f (r.take spot)).getD (S (r.take spot)) + (f (r.drop spot)).getD (S (r.drop spot)) := hL.2
  let Γ1 : Ga := [some (kD (encLg L)), some (kD (encRows C)), some (kI (k : Nat)), some (kI (spot : Nat)), some (kB io), some (kD (encRows C2)), some (kD (encM m)), some (kD (vecD C S)), some (kD (vecD C2 S)), some (kD W), some (kC (.ref D)), none]
  let Mp : List Mu := [mPl D (ents f C2)]
  have pr : PlRd Mp D (ents f C2) := pl_rd (List.mem_cons_self ..)
  have x1 : Ev (tOp (rIxT K) (tVar 7) (tVar 2)) Γ1 Mp Mp (kI (S r : Nat)) := ev_op (ev_var (k := kD (vecD C S)) rfl) (ev_var rfl) (rk_ixT (n := k) (by rw [List.getElem?_map, hr]; rfl))
  have x2 : Ev (tOp (rIxT K) (tVar 8) (tVar 2)) Γ1 Mp Mp (kI (S (r.take spot) : Nat)) := ev_op (ev_var (k := kD (vecD C2 S)) rfl) (ev_var rfl) (rk_ixT (n := k) (by rw [List.getElem?_map, ha]; rfl))
  have k1 : Ev (tOp (rI0 fun i j => .int (i + j)) (tVar 2) (tC (.int 1))) Γ1 Mp Mp (kI ((k + 1 : Nat) : Int)) := (ev_op (ev_var rfl) ev_int rk_add).is rfl
  have x3 : Ev (tOp (rIxT K) (tVar 8) (tOp (rI0 fun i j => .int (i + j)) (tVar 2) (tC (.int 1)))) Γ1 Mp Mp (kI (S (r.drop spot) : Nat)) := ev_op (ev_var (k := kD (vecD C2 S)) rfl) k1 (rk_ixT (n := k + 1) (by rw [List.getElem?_map, hb]; rfl))
  have hW : isNonD W = (f r).isNone := by
    show isNonD (match f r with | some m => .int (m : Nat) | none => .none) = _
    cases f r <;> rfl
  have n1 : Ev (tDNotIn (tVar 2) (tVar 10)) Γ1 Mp Mp (kB (!(lk (ents f C2) k).isSome)) := ev_dnotinP pr (ev_var rfl) (ev_var rfl)
  have n2 : Ev (tDNotIn (tOp (rI0 fun i j => .int (i + j)) (tVar 2) (tC (.int 1))) (tVar 10)) Γ1 Mp Mp (kB (!(lk (ents f C2) (k + 1)).isSome)) := ev_dnotinP pr k1 (ev_var rfl)
  have n3 := ev_and n1 fun _ => n2
  have w1 : Ev (tOp (fun x y H Q => y = .non ∧ Q (.bl (decide (x = .non))) H) (tVar 9) (tC .non)) Γ1 Mp Mp (kB (isNonD W)) := ev_op (ev_var rfl) ev_non rk_isN
  have t1 := et_test (ev_op x1 (ev_op x2 x3 rk_add) (rk_neI (K := K)))
  have t2 := et_test (ev_op w1 n3 (rk_neB (K := K)))
  refine go_skip (EvT.is (et_or (c := false) t1 fun _ => EvT.is t2 ?_) ?_) ?_
  · rw [hW, lk_ents ha, lk_ents hb, hL1]
    cases f (r.take spot) <;> cases f (r.drop spot) <;> rfl
  · have : ((S r : Nat) : Int) = (S (r.take spot) : Nat) + (S (r.drop spot) : Nat) := by omega
    simp [this]
  have g1 : Ev (tDGet2 (tVar 10) (tVar 2) (tOp (rIxT K) (tVar 8) (tVar 2))) Γ1 Mp Mp (kI ((f (r.take spot)).getD (S (r.take spot)) : Nat)) := (ev_dget2P pr (ev_var rfl) (ev_var rfl) x2).is (by
    rw [lk_ents ha]
    cases f (r.take spot) <;> rfl)
  have g2 : Ev (tDGet2 (tVar 10) (tOp (rI0 fun i j => .int (i + j)) (tVar 2) (tC (.int 1))) (tOp (rIxT K) (tVar 8) (tOp (rI0 fun i j => .int (i + j)) (tVar 2) (tC (.int 1))))) Γ1 Mp Mp (kI ((f (r.drop spot)).getD (S (r.drop spot)) : Nat)) := (ev_dget2P pr (ev_var rfl) k1 x3).is (by
    rw [lk_ents hb]
    cases f (r.drop spot) <;> rfl)
  let both : Int := ((f (r.take spot)).getD (S (r.take spot)) : Nat) + ((f (r.drop spot)).getD (S (r.drop spot)) : Nat)
  refine go_set (k := kI both) (ev_op g1 g2 rk_add) ?_
  let Γ2 : Ga := [some (kD (encLg L)), some (kD (encRows C)), some (kI (k : Nat)), some (kI (spot : Nat)), some (kB io), some (kD (encRows C2)), some (kD (encM m)), some (kD (vecD C S)), some (kD (vecD C2 S)), some (kD W), some (kC (.ref D)), some (kI both)]
  have w2 : Ev (tOp (fun x y H Q => y = .non ∧ Q (.bl (!decide (x = .non))) H) (tVar 9) (tC .non)) Γ2 Mp Mp (kB (!isNonD W)) := ev_op (ev_var rfl) ev_non rk_notN
  have hWn : (!isNonD W) = true → ∃ n, f r = some n ∧ W = .int (n : Nat) := fun h => by
    rw [hW] at h
    cases hf : f r with
    | none => rw [hf] at h; cases h
    | some n => exact ⟨n, rfl, by show (match f r with | some m => PyData.int (m : Nat) | none => .none) = _; rw [hf]⟩
  have w3 : (!isNonD W) = true → EvT (tTest (tOp (rNeD K) (tVar 9) (tVar 11))) Γ2 Mp Mp false := fun h => by
    obtain ⟨n, h1, h2⟩ := hWn h
    have h3 := hL2 n h1
    have v9 : Ev (tVar 9) Γ2 Mp Mp (kI (n : Nat)) := Ev.is (d := W) (ev_var rfl) h2
    have v11 : Ev (tVar 11) Γ2 Mp Mp (kI both) := ev_var rfl
    refine (et_test (ev_op v9 v11 rk_neI)).is ?_
    have : ((n : Nat) : Int) = both := by
      show ((n : Nat) : Int) = ((f (r.take spot)).getD (S (r.take spot)) : Nat) + ((f (r.drop spot)).getD (S (r.drop spot)) : Nat)
      omega
    simp [this]
  refine go_skip (EvT.is (et_and (c := false) (et_test w2) w3) (by simp)) ?_
  exact go_forget (go_nil ⟨⟨fun _ _ z => z, fun _ _ z => z, fun _ _ z => z, fun _ _ z => z, fun _ _ z => z, fun _ _ z => z, True.intro⟩, .refl _⟩)
end
end Fw
set_option Elab.async false
set_option linter.all false
set_option maxRecDepth 100000
set_option maxHeartbeats 4000000
/-! the walk: scene -/
namespace Fw
open PySem PySem.Spec PyProof.Rows L2
structure ScR where
  L : Lg
  b : Bool
  C : Rows
structure ScR.Ok (r : ScR) : Prop where
  L : LgOk r.L
  io : r.b = true → InOrd r.L
  C : CnOk r.L r.C.length r.C
  n1 : 1 ≤ r.C.length
  n2 : r.C.length ≤ 4
theorem calm_ok {L L' : Lg} {t : Et → Nat} (ok : LgOk L) (rk : RkOk L t) (h : CalmOk L L') : LgOk L' ∧ RkOk L' t := by
  obtain ⟨ma, sub, len, io⟩ := h
  have e1 : L'.evs = L.evs := by unfold Lg.evs; rw [ma]
  have e2 : L'.marked = L.marked := by unfold Lg.marked; rw [ma]
  have lm := ok.lm
  refine ⟨⟨by rw [ma]; exact ok.nd, fun m hm => by rw [e1]; exact ok.ms m (sub m hm), by rw [e1]; exact ok.le, by omega, by rw [ma]; exact ok.la, by rw [e1, e2]; exact ok.mm, by rw [e2]; exact ok.lk⟩, ⟨fun a b h => rk.lt a b ?_⟩⟩
  rcases h with ⟨h1, h2⟩ | h
  · exact .inl ⟨h1, by rw [← e1]; exact h2⟩
  · exact .inr (sub _ h)
section
variable {P : Program} {w : World} {K : PySem.W.Frag} {mg : Str → Option Value} {base : Heap}
abbrev spScene : Sp := spF (fun p : Addr × Nat × Nat × Nat => p.2.1 ≤ 40000 ∧ p.2.2.1 ≤ 20) (fun p => [kC (.ref p.1), kI p.2.2.1, kI p.2.2.2]) (fun p => [mBox p.1 p.2.1]) (fun p => [mBox p.1 (p.2.1 + 500)]) (fun _ => kEx fun r : { r : ScR // r.Ok } => kTup [kD (encLg r.1.L), kB r.1.b, kAny, kD (encRows r.1.C)])
theorem r__law_scene (T : Tx K mg) : FnR P w K mg base CX0 4 (He.ga K "_law_scene") spScene := by
  obtain ⟨fd, F⟩ := T.says.def_ 47 (d := (gD "_law_scene" 41))
  have nd : (["_law_box_here", "_law_many", "_law_thick", "_law_log_so", "_law_is_calm", "_law_order_so"] : List Str).Nodup := by decide +kernel
  refine fn_r (N := ["_law_box_here", "_law_many", "_law_thick", "_law_log_so", "_law_is_calm", "_law_order_so"]) (ps := ["_law_box_here", "_law_many", "_law_thick"]) F ⟨rfl, rfl, rfl, nd, rfl, by decide +kernel, by decide +kernel⟩ (F.bindsN fun _ _ _ _ _ _ us hl => match us, hl with | [_, _, _], _ => rfl) .nil (fun _ _ => rfl) fun cdv A outer s H E hr => ?_
  have hu := hu_of hr
  have hu64 := hr.units
  have hu65 := room65 hr
  refine ⟨_, (pss_cons (ps_set (i := 3) nd rfl (Or.inl rfl) (pe_g (r__law_log T) hr (by decide) (T.glo 23) (T.kp 41 (d := (gD "_law_log" 35))) (pa_cons (pv 0) (pa_cons (pe_op op_add pe_int (pe_g (r__law_take T) hr (by decide) (T.glo 19) (T.kp 37 (d := (gD "_law_take" 31))) (pa_cons (pv 0) (pa_cons pe_int pa_nil)))) (pa_cons (pv 1) (pa_cons (pv 2) (pa_cons pe_int pa_nil)))))))
      (pss_cons (ps_set (i := 4) nd rfl (Or.inl rfl) (pe_cmpR (k_eq K hu64) (pe_g (r__law_take T) hr (by decide) (T.glo 19) (T.kp 37 (d := (gD "_law_take" 31))) (pa_cons (pv 0) (pa_cons pe_int pa_nil))) pe_int (nomark _)))
      (pss_cons (ps_set (i := 3) nd rfl (Or.inl rfl) (pe_ifExp (pt_val (pv 4)) (pe_g (r__law_calm T) hr (by decide) (T.glo 28) (T.kp 46 (d := (gD "_law_calm" 40))) (pa_cons (pv 3) pa_nil)) (pv 3)))
      (pss_cons (ps_set (i := 5) nd rfl (Or.inl rfl) (pe_g (r__law_order T) hr (by decide) (T.glo 26) (T.kp 44 (d := (gD "_law_order" 38))) (pa_cons (pv 3) pa_nil)))
      (pss_cons (ps_ret (pe_tup (pa_cons (pv 3) (pa_cons (pv 4) (pa_cons (pv 5) (pa_cons (pe_g (r__law_counters T) hr (by decide) (T.glo 27) (T.kp 45 (d := (gD "_law_counters" 39))) (pa_cons (pv 0) (pa_cons (pv 5) (pa_cons (pe_g (r__law_marked T) hr (by decide) (T.glo 25) (T.kp 43 (d := (gD "_law_marked" 37))) (pa_cons (pv 3) pa_nil)) (pa_cons (pe_op op_add pe_int (pe_g (r__law_take T) hr (by decide) (T.glo 19) (T.kp 37 (d := (gD "_law_take" 31))) (pa_cons (pv 0) (pa_cons pe_int pa_nil)))) pa_nil))))) pa_nil))))))
      pss_nil))))), fun a hp => ?_⟩
  obtain ⟨D, n, many, thick⟩ := a
  obtain ⟨hn, hm⟩ := hp
  have hn : n ≤ 40000 := hn
  have hm : many ≤ 20 := hm
  have takeB : ∀ (Γ : Ga) (c b : Nat) (M1 : List Mu), Γ[0]? = some (some (kC (.ref D))) → 1 ≤ b → b ≤ 1000 → c ≤ 100000 → Ev (tCall spTake [] E0 (tCons (tVar 0) (tCons (tC (.int (b : Nat))) tNil))) Γ (mBox D c :: M1) (mBox D (c + 1) :: M1) (kLt b) := fun Γ c b M1 h0 h1 h2 h3 => ev_take (M1 := M1) D c b (ea_two (ev_var h0) ev_int) h1 h2 h3
  have hargs : EvAG (α := { i : Nat // 2 ≤ i ∧ i ≤ 5 } × Unit) (tCons (tVar 0) (tCons (tOp (rI0 fun i j => .int (i + j)) (tC (.int 2)) (tCall spTake [] E0 (tCons (tVar 0) (tCons (tC (.int 3)) tNil)))) (tCons (tVar 1) (tCons (tVar 2) (tCons (tC (.int 10)) tNil))))) [some (kC (.ref D)), some (kI many), some (kI thick), none, none, none] [mBox D n] (fun p => [kC (.ref D), kI (p.1.1 : Nat), kI many, kI thick, kI ((10 : Nat) : Int)]) (fun _ => [mBox D (n + 1)]) :=
    eag_cons (k := kC (.ref D)) (ev_var rfl) (eag_new (ρ := fun i : { i : Nat // 2 ≤ i ∧ i ≤ 5 } => kI (i.1 : Nat)) (ρ2 := fun _ _ => [kI many, kI thick, kI ((10 : Nat) : Int)]) (μ := fun _ => [mBox D (n + 1)]) (μ2 := fun _ (_ : Unit) => [mBox D (n + 1)]) (Ev.one (ev_op ev_int (takeB _ n 3 [] rfl (by decide) (by decide) (by omega)) (rk_addG (a := 2) (b := 3)))) fun i => (ea_cons (k := kI many) (ev_var rfl) (ea_two (kx := kI thick) (ky := kI ((10 : Nat) : Int)) (ev_var rfl) ev_int)).g)
  have hlog : EvG (tCall spLog [] E0 (tCons (tVar 0) (tCons (tOp (rI0 fun i j => .int (i + j)) (tC (.int 2)) (tCall spTake [] E0 (tCons (tVar 0) (tCons (tC (.int 3)) tNil)))) (tCons (tVar 1) (tCons (tVar 2) (tCons (tC (.int 10)) tNil)))))) [some (kC (.ref D)), some (kI many), some (kI thick), none, none, none] [mBox D n] (fun _ : { i : Nat // 2 ≤ i ∧ i ≤ 5 } × Unit => kEx fun r : LgR => kD (encLg r.1.1)) (fun _ => [mBox D (n + 1 + 200)]) :=
    ev_callE (pre := fun a : LgA => a.Ok) (args := fun a : LgA => [kC (.ref a.D), kI a.folk, kI a.many, kI a.thick, kI a.most]) (Mi := fun a : LgA => [mBox a.D a.n]) (Mo := fun a : LgA => [mBox a.D (a.n + 200)]) (res := fun _ : LgA => kEx fun r : LgR => kD (encLg r.1.1)) (fun p : { i : Nat // 2 ≤ i ∧ i ≤ 5 } × Unit => (⟨D, n + 1, p.1.1, many, thick, 10⟩ : LgA)) (fun _ => []) hargs fun p => ⟨by have := p.1.2; show 1 ≤ p.1.1; omega, by have := p.1.2; show p.1.1 ≤ 6; omega, hm, by show 10 ≤ 10; omega, by show n + 1 ≤ 50000; omega⟩
  refine go_setG hlog fun _ => go_case (i := 3) rfl fun r => ?_
  obtain ⟨⟨L, t⟩, ok, rk, asc⟩ := r
  have ok : LgOk L := ok
  have rk : RkOk L t := rk
  have asc : Asc L.ms := asc
  refine go_setEx (κ := fun b : Bool => kB b) (ev_op (takeB _ (n + 1 + 200) 2 [] rfl (by decide) (by decide) (by omega)) ev_int rk_eqG) fun b => ?_
  have hc : Ev (tIf (tB (tVar 4)) (tCall spCalm [] E0 (tCons (tVar 3) tNil)) (tVar 3)) [some (kC (.ref D)), some (kI many), some (kI thick), some (kD (encLg L)), some (kB b), none] [mBox D (n + 1 + 200 + 1)] [mBox D (n + 1 + 200 + 1)] (kEx fun r : { L' : Lg // LgOk L' ∧ RkOk L' t ∧ (b = true → InOrd L') } => kD (encLg r.1)) := by
    refine ev_if (b := b) (et_B (ev_var rfl)) (fun hb => ?_) fun hb => ?_
    · refine (ev_fn (pre := fun L : Lg => LgOk L ∧ Asc L.ms) (args := fun L : Lg => [kD (encLg L)]) (res := fun L : Lg => kEx fun r : { L' : Lg // CalmOk L L' } => kD (encLg r.1)) L (ea_one (ev_var rfl)) ⟨ok, asc⟩).to fun v H ⟨⟨L', h'⟩, q⟩ => ⟨⟨L', (calm_ok ok rk h').1, (calm_ok ok rk h').2, fun _ => h'.io⟩, q⟩
    · exact (ev_var (k := kD (encLg L)) rfl).to fun v H q => ⟨⟨L, ok, rk, fun z => absurd (hb.symm.trans z) Bool.false_ne_true⟩, q⟩
  refine go_setEx hc fun r => ?_
  obtain ⟨L', ok', rk', io'⟩ := r
  refine go_setEx (κ := fun l : { l : Et → List Et // LsOk L' l } => kLs L' l.1) (ev_fn (pre := fun p : Lg × (Et → Nat) => LgOk p.1 ∧ RkOk p.1 p.2) (args := fun p : Lg × (Et → Nat) => [kD (encLg p.1)]) (res := fun p : Lg × (Et → Nat) => kEx fun l : { l : Et → List Et // LsOk p.1 l } => kLs p.1 l.1) (L', t) (ea_one (ev_var rfl)) ⟨ok', rk'⟩) fun l => ?_
  obtain ⟨l, hl⟩ := l
  have hargs2 : EvAG (α := { i : Nat // 1 ≤ i ∧ i ≤ 4 } × Unit) (tCons (tVar 0) (tCons (tVar 5) (tCons (tCall spMarked [] E0 (tCons (tVar 3) tNil)) (tCons (tOp (rI0 fun i j => .int (i + j)) (tC (.int 1)) (tCall spTake [] E0 (tCons (tVar 0) (tCons (tC (.int 3)) tNil)))) tNil)))) [some (kC (.ref D)), some (kI many), some (kI thick), some (kD (encLg L')), some (kB b), some (kLs L' l)] [mBox D (n + 1 + 200 + 1)] (fun p => [kC (.ref D), kLs L' l, kD (.list (L'.marked.map encE)), kI (p.1.1 : Nat)]) (fun _ => [mBox D (n + 1 + 200 + 1 + 1)]) :=
    eag_cons (k := kC (.ref D)) (ev_var rfl) (eag_cons (k := kLs L' l) (ev_var rfl) (eag_cons (k := kD (.list (L'.marked.map encE))) (ev_fn (pre := LgOk) (args := fun L : Lg => [kD (encLg L)]) (res := fun L : Lg => kD (.list (L.marked.map encE))) L' (ea_one (ev_var rfl)) ok') (eag_new (ρ := fun i : { i : Nat // 1 ≤ i ∧ i ≤ 4 } => kI (i.1 : Nat)) (ρ2 := fun _ _ => []) (μ := fun _ => [mBox D (n + 1 + 200 + 1 + 1)]) (μ2 := fun _ (_ : Unit) => [mBox D (n + 1 + 200 + 1 + 1)]) (Ev.one (ev_op ev_int (takeB _ (n + 1 + 200 + 1) 3 [] rfl (by decide) (by decide) (by omega)) (rk_addG (a := 1) (b := 3)))) fun i => ea_nil.g)))
  have hcn : EvG (tCall spCounters [] E0 (tCons (tVar 0) (tCons (tVar 5) (tCons (tCall spMarked [] E0 (tCons (tVar 3) tNil)) (tCons (tOp (rI0 fun i j => .int (i + j)) (tC (.int 1)) (tCall spTake [] E0 (tCons (tVar 0) (tCons (tC (.int 3)) tNil)))) tNil))))) [some (kC (.ref D)), some (kI many), some (kI thick), some (kD (encLg L')), some (kB b), some (kLs L' l)] [mBox D (n + 1 + 200 + 1)] (fun i : { i : Nat // 1 ≤ i ∧ i ≤ 4 } × Unit => kEx fun C : { C : Rows // CnOk L' i.1.1 C } => kD (encRows C.1)) (fun _ => [mBox D (n + 1 + 200 + 1 + 1 + 200)]) :=
    ev_callE (pre := fun a : CoA => a.Ok) (args := fun a : CoA => [kC (.ref a.D), kLs a.L a.l, kD (.list (a.L.marked.map encE)), kI a.many]) (Mi := fun a : CoA => [mBox a.D a.n]) (Mo := fun a : CoA => [mBox a.D (a.n + 200)]) (res := fun a : CoA => kEx fun C : { C : Rows // CnOk a.L a.many C } => kD (encRows C.1)) (fun p : { i : Nat // 1 ≤ i ∧ i ≤ 4 } × Unit => (⟨D, n + 1 + 200 + 1 + 1, L', l, p.1.1⟩ : CoA)) (fun _ => []) hargs2 fun p => ⟨ok', hl, by have := p.1.2; show p.1.1 ≤ 5; omega, by show n + 1 + 200 + 1 + 1 ≤ 90000; omega⟩
  have hcx : Ev (tCall spCounters [] E0 (tCons (tVar 0) (tCons (tVar 5) (tCons (tCall spMarked [] E0 (tCons (tVar 3) tNil)) (tCons (tOp (rI0 fun i j => .int (i + j)) (tC (.int 1)) (tCall spTake [] E0 (tCons (tVar 0) (tCons (tC (.int 3)) tNil)))) tNil))))) [some (kC (.ref D)), some (kI many), some (kI thick), some (kD (encLg L')), some (kB b), some (kLs L' l)] [mBox D (n + 1 + 200 + 1)] [mBox D (n + 500)] (kEx fun C : { C : Rows // CnOk L' C.length C ∧ 1 ≤ C.length ∧ C.length ≤ 4 } => kD (encRows C.1)) :=
    Ev.box (M1 := []) ((EvG.ex hcn).to fun v H ⟨⟨⟨i, hi⟩, _⟩, ⟨C, hC⟩, q⟩ => ⟨⟨C, by rw [hC.len]; exact hC, by rw [hC.len]; exact hi.1, by rw [hC.len]; exact hi.2⟩, q⟩) (by omega)
  refine go_retTo (EvG.ex (eg_tup (eag_cons (ev_var rfl) (eag_cons (ev_var rfl) (eag_cons (ev_var rfl) (eag_new (Ev.one hcx) fun C => (ea_nil (M := [mBox D (n + 500)])).g)))) 4 fun _ => rfl)) fun v B ⟨⟨⟨C, h1, h2, h3⟩, _⟩, q⟩ => ⟨⟨⟨L', b, C⟩, ok', io', h1, h2, h3⟩, ?_⟩
  obtain ⟨a, xs, e, h4, h5⟩ := q
  refine ⟨a, xs, e, h4, ?_⟩
  cases h5 with
  | cons q1 h5 =>
    cases h5 with
    | cons q2 h5 =>
      cases h5 with
      | cons q3 h5 => exact .cons q1 (.cons q2 (.cons True.intro h5))
end
end Fw
set_option Elab.async false
set_option linter.all false
set_option maxRecDepth 100000
set_option maxHeartbeats 4000000
/-! the walk: right -/
namespace Fw
open PySem PySem.Spec PyProof.Rows L2
theorem EvG.drop1 {α : Type} {te : TE} {Γ : Ga} {M M1 : List Mu} {k : Kn} {m : α → Mu} (h : EvG te Γ M (fun _ => k) fun a => m a :: M1) : Ev te Γ M M1 k := fun F σ B C s o Q q => h F σ B C s o Q fun a z B' C' e o' p => q z B' C' e (OkM.tail (M := M1 ++ F) o') p
theorem EvG.const {α : Type} {te : TE} {Γ : Ga} {M M1 : List Mu} {k : Kn} (h : EvG te Γ M (fun _ : α => k) fun _ => M1) : Ev te Γ M M1 k := fun F σ B C s o Q q => h F σ B C s o Q fun a z B' C' e o' p => q z B' C' e o' p
/-! ### rows by their indices -/
def pickR (C : Rows) (ks : List Nat) : Rows := ks.map fun k => C.getD k []
theorem getD_at {C : Rows} {k : Nat} (h : k < C.length) : C[k]? = some (C.getD k []) := by
  rw [List.getD_eq_getElem?_getD, List.getElem?_eq_getElem h]
  rfl
theorem pl_idx {C : Rows} {ks : List Nat} (nd : ks.Nodup) (h : ∀ k ∈ ks, k < C.length) (hl : ks.length ≤ 100) : PlOk C (pickR C ks) ks.zipIdx := by
  refine ⟨?_, ?_, fun p hp => ?_, by rw [List.length_zipIdx]; exact hl⟩
  · have e : ks.zipIdx.map (·.1) = ks := by simp
    rw [e]
    exact nd
  · have e : ks.zipIdx.map (·.2) = List.range' 0 ks.length := by simp
    rw [e]
    exact List.nodup_range'
  · have h1 := List.mem_zipIdx_iff_getElem?.mp hp
    have h2 := List.mem_of_getElem? h1
    exact ⟨C.getD p.1 [], getD_at (h _ h2), by unfold pickR; rw [List.getElem?_map, h1]; rfl⟩
theorem ps_idx {L : Lg} {C : Rows} (h : PsOk L C) {ks : List Nat} (hk : ∀ k ∈ ks, k < C.length) (hl : ks.length ≤ 10) : PsOk L (pickR C ks) := by
  have mem : ∀ r ∈ pickR C ks, r ∈ C := fun r hr => by
    obtain ⟨k, hk1, rfl⟩ := List.mem_map.mp hr
    exact List.mem_of_getElem? (getD_at (hk k hk1))
  exact ⟨h.1, ⟨by unfold pickR; rw [List.length_map]; exact hl, fun r hr => h.2.l r (mem r hr), fun r hr => h.2.e r (mem r hr)⟩⟩
def shP (n : Nat) : Pl := (List.range n).map fun k => (k, k + 1)
theorem pl_shift {C : Rows} (hl : C.length ≤ 100) : PlOk C ([] :: C) (shP C.length) := by
  unfold shP
  refine ⟨?_, ?_, fun p hp => ?_, by rw [List.length_map, List.length_range]; exact hl⟩
  · rw [List.map_map]
    have e : ((fun p : Nat × Nat => p.1) ∘ fun k => (k, k + 1)) = id := rfl
    rw [e, List.map_id]
    exact List.nodup_range
  · rw [List.map_map]
    exact List.Pairwise.map _ (fun a b hab e => hab (by have e : a + 1 = b + 1 := e; omega)) List.nodup_range
  · obtain ⟨k, hk, rfl⟩ := List.mem_map.mp hp
    have hk := List.mem_range.mp hk
    exact ⟨C[k], List.getElem?_eq_getElem hk, by show ([] :: C)[k + 1]? = _; rw [List.getElem?_cons_succ]; exact List.getElem?_eq_getElem hk⟩
theorem ps_shift {L : Lg} {C : Rows} (h : PsOk L C) (hl : C.length ≤ 9) : PsOk L ([] :: C) := ⟨h.1, ⟨by rw [List.length_cons]; omega, fun r hr => by
  rcases List.mem_cons.mp hr with rfl | hr
  · exact Nat.zero_le _
  · exact h.2.l r hr, fun r hr => by
  rcases List.mem_cons.mp hr with rfl | hr
  · exact fun x hx => nomatch hx
  · exact h.2.e r hr⟩⟩
section
variable {P : Program} {w : World} {K : PySem.W.Frag} {mg : Str → Option Value} {base : Heap}
abbrev spRight : Sp := spF (fun p : Addr × Nat => p.2 ≤ 1000) (fun p => [kC (.ref p.1)]) (fun p => [mBox p.1 p.2]) (fun _ => []) (fun _ => kB true)
abbrev iD (i : Nat) : PyData := .int (i : Nat)
theorem ea_five {Γ : Ga} {M : List Mu} {a b c d e : TE} {k1 k2 k3 k4 k5 : Kn} (h1 : Ev a Γ M M k1) (h2 : Ev b Γ M M k2) (h3 : Ev c Γ M M k3) (h4 : Ev d Γ M M k4) (h5 : Ev e Γ M M k5) : EvA (tCons a (tCons b (tCons c (tCons d (tCons e tNil))))) Γ M M [k1, k2, k3, k4, k5] := ea_cons h1 (ea_four h2 h3 h4 h5)
theorem r__law_right (T : Tx K mg) : FnR P w K mg base CX0 15 (He.ga K "_law_right") spRight := by
  obtain ⟨fd, F⟩ := T.says.def_ 53 (d := (gD "_law_right" 47))
  have nd : (["_law_box_here", "_law_log_so", "_law_is_calm", "_law_order_so", "_law_rows", "_law_many", "_law_left", "_law_turned", "_law_out", "_law_kept", "_law_calm_so", "_law_some", "_law_places", "_law_k", "_law_spot"] : List Str).Nodup := by decide +kernel
  refine fn_r (N := ["_law_box_here", "_law_log_so", "_law_is_calm", "_law_order_so", "_law_rows", "_law_many", "_law_left", "_law_turned", "_law_out", "_law_kept", "_law_calm_so", "_law_some", "_law_places", "_law_k", "_law_spot"]) (ps := ["_law_box_here"]) F ⟨rfl, rfl, rfl, nd, rfl, by decide +kernel, by decide +kernel⟩ (F.bindsN fun _ _ _ _ _ _ us hl => match us, hl with | [_], _ => rfl) .nil (fun _ _ => rfl) fun cdv A outer s H E hr => ?_
  have hu := hu_of hr
  have hu64 := hr.units
  have hu65 := room65 hr
  refine ⟨_, (pss_cons (ps_asg (pe_g (r__law_scene T) hr (by decide) (T.glo 29) (T.kp 47 (d := (gD "_law_scene" 41))) (pa_cons (pv 0) (pa_cons pe_int (pa_cons pe_int pa_nil)))) (k_gT K (n := 4) rfl (pgs_cons (pg_name (i := 1) nd rfl (Or.inl rfl)) (pgs_cons (pg_name (i := 2) nd rfl (Or.inl rfl)) (pgs_cons (pg_name (i := 3) nd rfl (Or.inl rfl)) (pgs_cons (pg_name (i := 4) nd rfl (Or.inr rfl)) pgs_nil))))))
      (pss_cons (ps_set (i := 5) nd rfl (Or.inl rfl) (pe_callB (k_len K) (by rfl) (T.free 41) (by decide +kernel) (pa_cons (pv 4) pa_nil)))
      (pss_cons (ps_par (i := 6) (j := 7) rfl nd rfl rfl (by decide) rfl rfl (pa_cons (pe_listRg rfl (by rfl) (T.free 39) (prg_1 (by rfl) (T.free 40) (pv 5))) (pa_cons (pe_lst pa_nil) pa_nil)) rfl)
      (pss_cons (ps_while PassesOwn.never (pt_cmpR (k_ne K hu64) (pv 6) (pe_lst pa_nil) (nomark _)) (pss_cons (ps_expr (pe_bm PySem.F.plainAttrs_list PySem.F.slot_list_append PySem.F.type_list_append mt_append (pv 7) (pa_cons (pe_bm PySem.F.plainAttrs_list PySem.F.slot_list_pop PySem.F.type_list_pop mt_popAt (pv 6) (pa_cons (pe_g (r__law_take T) hr (by decide) (T.glo 19) (T.kp 37 (d := (gD "_law_take" 31))) (pa_cons (pv 0) (pa_cons (pe_callB (k_len K) (by rfl) (T.free 41) (by decide +kernel) (pa_cons (pv 6) pa_nil)) pa_nil))) pa_nil)) pa_nil)))
      pss_nil))
      (pss_cons (ps_set (i := 8) nd rfl (Or.inr rfl) (pe_g (r__law_take T) hr (by decide) (T.glo 19) (T.kp 37 (d := (gD "_law_take" 31))) (pa_cons (pv 0) (pa_cons (pv 5) pa_nil))))
      (pss_cons (ps_setLc (i := 9) (own := [("_law_k", 13)]) rfl nd rfl rfl (sw_true rfl rfl rfl (by decide +kernel)) (pi_range1 (by rfl) (T.free 40) (pa_cons (pv 5) pa_nil)) (blkOk_by (own := [("_law_k", 13)]) (N := ["_law_box_here", "_law_log_so", "_law_is_calm", "_law_order_so", "_law_rows", "_law_many", "_law_left", "_law_turned", "_law_out", "_law_kept", "_law_calm_so", "_law_some", "_law_places", "_law_k", "_law_spot"]) (sc := defScope (top 47)) (by decide +kernel)) (fun _ _ _ _ _ => (pg_name (i := 13) nd rfl (Or.inl rfl))) (fun _ _ _ _ _ => (pts_one (pt_cmpR (k_ne K hu64) (pv 13) (pv 8) (nomark _)))) (fun _ _ _ _ _ => (pv 13)))
      (pss_cons (ps_for PassesOwn.never rfl (k_iT K (pe_g (r__law_calms T) hr (by decide) (T.glo 30) (T.kp 48 (d := (gD "_law_calms" 42))) (pa_cons (pv 2) pa_nil))) (pg_name (i := 10) nd rfl (Or.inl rfl)) (pss_cons (ps_par (i := 11) (j := 12) rfl nd rfl rfl (by decide) rfl rfl (pa_cons (pe_callTy (k_tup K) (by rfl) (T.free 37) (by decide +kernel) (pa_cons (pe_lc (own := [("_law_k", 13)]) rfl nd (k_iL K (pv 7)) (blkOk_by (own := [("_law_k", 13)]) (N := ["_law_box_here", "_law_log_so", "_law_is_calm", "_law_order_so", "_law_rows", "_law_many", "_law_left", "_law_turned", "_law_out", "_law_kept", "_law_calm_so", "_law_some", "_law_places", "_law_k", "_law_spot"]) (sc := defScope (top 47)) (by decide +kernel)) (fun _ _ _ _ _ => (pg_name (i := 13) nd rfl (Or.inl rfl))) (fun _ _ _ _ _ => pts_nil) (fun _ _ _ _ _ => (pe_ix (k_ixT K) (pv 4) (pv 13) (fun _ _ => rfl)))) pa_nil)) (pa_cons (pe_callTy (k_dictP K rfl) (by rfl) (T.free 52) (by decide +kernel) (pa_cons (pe_lc (own := [("_law_spot", 14), ("_law_k", 13)]) rfl nd (pi_enum (by rfl) (T.free 45) (pa_cons (pv 7) pa_nil)) (blkOk_by (own := [("_law_spot", 14), ("_law_k", 13)]) (N := ["_law_box_here", "_law_log_so", "_law_is_calm", "_law_order_so", "_law_rows", "_law_many", "_law_left", "_law_turned", "_law_out", "_law_kept", "_law_calm_so", "_law_some", "_law_places", "_law_k", "_law_spot"]) (sc := defScope (top 47)) (by decide +kernel)) (fun _ _ _ _ _ => (k_gT K (n := 2) rfl (pgs_cons (pg_name (i := 14) nd rfl (Or.inl rfl)) (pgs_cons (pg_name (i := 13) nd rfl (Or.inl rfl)) pgs_nil)))) (fun _ _ _ _ _ => pts_nil) (fun _ _ _ _ _ => (pe_tup (pa_cons (pv 13) (pa_cons (pv 14) pa_nil))))) pa_nil)) pa_nil)) rfl)
      (pss_cons (ps_if (pt_not (pt_val (pe_g (r__law_apart T) hr (by decide) (T.glo 33) (T.kp 51 (d := (gD "_law_apart" 45))) (pa_cons (pv 1) (pa_cons (pv 4) (pa_cons (pv 11) (pa_cons (pv 12) (pa_cons (pv 10) pa_nil)))))))) (pss_cons (ps_ret pe_bl)
      pss_nil) pss_nil)
      (pss_cons (ps_par (i := 11) (j := 12) rfl nd rfl rfl (by decide) rfl rfl (pa_cons (pe_callTy (k_tup K) (by rfl) (T.free 37) (by decide +kernel) (pa_cons (pe_lc (own := [("_law_k", 13)]) rfl nd (k_iL K (pv 9)) (blkOk_by (own := [("_law_k", 13)]) (N := ["_law_box_here", "_law_log_so", "_law_is_calm", "_law_order_so", "_law_rows", "_law_many", "_law_left", "_law_turned", "_law_out", "_law_kept", "_law_calm_so", "_law_some", "_law_places", "_law_k", "_law_spot"]) (sc := defScope (top 47)) (by decide +kernel)) (fun _ _ _ _ _ => (pg_name (i := 13) nd rfl (Or.inl rfl))) (fun _ _ _ _ _ => pts_nil) (fun _ _ _ _ _ => (pe_ix (k_ixT K) (pv 4) (pv 13) (fun _ _ => rfl)))) pa_nil)) (pa_cons (pe_callTy (k_dictP K rfl) (by rfl) (T.free 52) (by decide +kernel) (pa_cons (pe_lc (own := [("_law_spot", 14), ("_law_k", 13)]) rfl nd (pi_enum (by rfl) (T.free 45) (pa_cons (pv 9) pa_nil)) (blkOk_by (own := [("_law_spot", 14), ("_law_k", 13)]) (N := ["_law_box_here", "_law_log_so", "_law_is_calm", "_law_order_so", "_law_rows", "_law_many", "_law_left", "_law_turned", "_law_out", "_law_kept", "_law_calm_so", "_law_some", "_law_places", "_law_k", "_law_spot"]) (sc := defScope (top 47)) (by decide +kernel)) (fun _ _ _ _ _ => (k_gT K (n := 2) rfl (pgs_cons (pg_name (i := 14) nd rfl (Or.inl rfl)) (pgs_cons (pg_name (i := 13) nd rfl (Or.inl rfl)) pgs_nil)))) (fun _ _ _ _ _ => pts_nil) (fun _ _ _ _ _ => (pe_tup (pa_cons (pv 13) (pa_cons (pv 14) pa_nil))))) pa_nil)) pa_nil)) rfl)
      (pss_cons (ps_if (pt_not (pt_val (pe_g (r__law_apart T) hr (by decide) (T.glo 33) (T.kp 51 (d := (gD "_law_apart" 45))) (pa_cons (pv 1) (pa_cons (pv 4) (pa_cons (pv 11) (pa_cons (pv 12) (pa_cons (pv 10) pa_nil)))))))) (pss_cons (ps_ret pe_bl)
      pss_nil) pss_nil)
      (pss_cons (ps_if (pt_not (pt_val (pe_g (r__law_apart T) hr (by decide) (T.glo 33) (T.kp 51 (d := (gD "_law_apart" 45))) (pa_cons (pv 1) (pa_cons (pv 4) (pa_cons (pe_op (k_catT K) (pe_tup (pa_cons (pe_tup pa_nil) pa_nil)) (pv 4)) (pa_cons (pe_callTy (k_dictP K rfl) (by rfl) (T.free 52) (by decide +kernel) (pa_cons (pe_lc (own := [("_law_k", 13)]) rfl nd (pi_range1 (by rfl) (T.free 40) (pa_cons (pv 5) pa_nil)) (blkOk_by (own := [("_law_k", 13)]) (N := ["_law_box_here", "_law_log_so", "_law_is_calm", "_law_order_so", "_law_rows", "_law_many", "_law_left", "_law_turned", "_law_out", "_law_kept", "_law_calm_so", "_law_some", "_law_places", "_law_k", "_law_spot"]) (sc := defScope (top 47)) (by decide +kernel)) (fun _ _ _ _ _ => (pg_name (i := 13) nd rfl (Or.inl rfl))) (fun _ _ _ _ _ => pts_nil) (fun _ _ _ _ _ => (pe_tup (pa_cons (pv 13) (pa_cons (pe_op op_add (pv 13) pe_int) pa_nil))))) pa_nil)) (pa_cons (pv 10) pa_nil)))))))) (pss_cons (ps_ret pe_bl)
      pss_nil) pss_nil)
      (pss_cons (ps_if (pt_not (pt_val (pe_g (r__law_cut_right T) hr (by decide) (T.glo 34) (T.kp 52 (d := (gD "_law_cut_right" 46))) (pa_cons (pv 1) (pa_cons (pv 4) (pa_cons (pv 8) (pa_cons (pe_g (r__law_take T) hr (by decide) (T.glo 19) (T.kp 37 (d := (gD "_law_take" 31))) (pa_cons (pv 0) (pa_cons (pe_op op_add (pe_callB (k_len K) (by rfl) (T.free 41) (by decide +kernel) (pa_cons (pe_ix (k_ixT K) (pv 4) (pv 8) (fun _ _ => rfl)) pa_nil)) pe_int) pa_nil))) (pa_cons (pv 10) pa_nil)))))))) (pss_cons (ps_ret pe_bl)
      pss_nil) pss_nil)
      pss_nil)))))))
      (pss_cons (ps_ret pe_bl)
      pss_nil)))))))), fun a hp => ?_⟩
  obtain ⟨D, n⟩ := a
  have hn : n ≤ 1000 := hp
  refine go_asgG (Ev.one (ev_call (Mi := fun p : Addr × Nat × Nat × Nat => [mBox p.1 p.2.1]) (Mo := fun p => [mBox p.1 (p.2.1 + 500)]) (M1 := []) (args := fun p => [kC (.ref p.1), kI p.2.2.1, kI p.2.2.2]) (res := fun _ => kEx fun r : { r : ScR // r.Ok } => kTup [kD (encLg r.1.L), kB r.1.b, kAny, kD (encRows r.1.C)]) (D, n, 12, 9) (ea_cons (ev_var rfl) (ea_two ev_int ev_int)) ⟨by show n ≤ 40000; omega, by show 12 ≤ 20; decide⟩)) (fun r => tg_tup (tgs_cons tg_name (tgs_cons tg_name (tgs_cons tg_name (tgs_cons tg_name tgs_nil)))) rfl) fun r => ?_
  obtain ⟨⟨L, b, C⟩, okL, io, okC, n1, n2⟩ := r
  have okL : LgOk L := okL
  have io : b = true → InOrd L := io
  have okC : CnOk L C.length C := okC
  have n1 : 1 ≤ C.length := n1
  have n2 : C.length ≤ 4 := n2
  have ps : PsOk L C := ⟨okL, okC.rw⟩
  refine go_set (k := kI (C.length : Nat)) ((ev_cb (ea_one (ev_var (k := kD (.tuple (C.map encRow))) rfl)) ck_lenT).is (by rw [List.length_map])) ?_
  refine go_parG (α := Addr × Addr × Unit) (ρ1 := fun p => kC (.ref p.1)) (ρ2 := fun p => kC (.ref p.2.1)) (μ := fun p => [mLst p.2.1 [], mLst p.1 ((List.range C.length).map fun i : Nat => kI (i : Nat)), mBox D (n + 500)]) (eag_new (eg_lstRg (ev_var rfl) (by omega)) fun Lf => eag_new (eg_lst ea_nil) fun Tu => (ea_nil (M := [mLst Tu [], mLst Lf ((List.range C.length).map fun i : Nat => kI (i : Nat)), mBox D (n + 500)])).g) fun p => ?_
  obtain ⟨Lf, Tu, _⟩ := p
  let kds : List Nat → List Kn := fun l => (l.map iD).map kD
  have hkds : ∀ l : List Nat, (kds l).length = l.length := fun l => by simp [kds]
  have e0 : ((List.range C.length).map fun i : Nat => kI (i : Nat)) = kds (List.range C.length) := by
    show _ = ((List.range C.length).map iD).map kD
    rw [List.map_map]
    rfl
  rw [e0]
  refine go_while (S := List Nat × List Nat × Nat) (fun s => (s.2.1 ++ s.1).Perm (List.range C.length) ∧ s.2.2 ≤ n + 500 + s.2.1.length) (fun s => s.1.length) (fun _ => [some (kC (.ref D)), some (kD (encLg L)), some (kB b), some kAny, some (kD (encRows C)), some (kI (C.length : Nat)), some (kC (.ref Lf)), some (kC (.ref Tu)), none, none, none, none, none, none, none]) (fun s => [mBox D s.2.2, mLst Lf (kds s.1), mLst Tu (kds s.2.1)]) (List.range C.length, [], n + 500) ⟨.refl _, Nat.le_refl _⟩ (Less.refl _) (perm_by fun f => by simp only [List.map_cons, List.map_nil, List.sum_cons, List.sum_nil, kds]; omega) fun s hs => ?_
  · obtain ⟨l, tu, c⟩ := s
    obtain ⟨hs1, hs2⟩ := hs
    have hs1 : (tu ++ l).Perm (List.range C.length) := hs1
    have hs2 : c ≤ n + 500 + tu.length := hs2
    have hlen := hs1.length_eq
    rw [List.length_append, List.length_range] at hlen
    refine ⟨!decide (l.map iD = []), et_test (ev_op (ev_var rfl) ev_lst0D (rk_neM (ds := l.map iD) (by simp [kds]) fun d hd => by
      obtain ⟨i, _, rfl⟩ := List.mem_map.mp hd
      exact (Sh.int _).mono (by decide))), fun hb => ?_, fun hb => ?_⟩
    · have hne : l ≠ [] := fun e => by rw [e] at hb; simp at hb
      have hpos := List.length_pos_iff.mpr hne
      have h1 := hkds l
      have h2 := hkds tu
      refine go_dropG (eg_append (D := Tu) (ks := kds tu) (fun j : Fin (kds l).length => [mBox D (c + 1), mLst Lf ((kds l).eraseIdx j.1)]) (ev_var rfl) (by simp) (eg_popAt (D := Lf) (ks := kds l) (M3 := [mBox D (c + 1), mLst Tu (kds tu)]) (ev_var rfl) (by simp) (ev_take (M1 := [mLst Lf (kds l), mLst Tu (kds tu)]) D c (kds l).length (ea_two (ev_var rfl) (ev_cb (ea_one (ev_var rfl)) (ck_lenM (by simp)))) (by omega) (by omega) (by omega)) (.swap _ _ _) (by omega)) (fun j => perm_by fun f => by simp only [List.map_cons, List.map_nil, List.sum_cons, List.sum_nil]; omega) (by omega)) fun j => ?_
      have hj : j.1 < l.length := by have := j.2; omega
      have e1 : (kds l).eraseIdx j.1 = kds (l.eraseIdx j.1) := by
        show ((l.map iD).map kD).eraseIdx j.1 = ((l.eraseIdx j.1).map iD).map kD
        rw [map_erase, map_erase]
      have e2 : kds tu ++ [(kds l)[j]] = kds (tu ++ [l[j.1]]) := by
        show (tu.map iD).map kD ++ [((l.map iD).map kD)[j.1]] = ((tu ++ [l[j.1]]).map iD).map kD
        rw [List.map_append, List.map_append, List.getElem_map, List.getElem_map]
        rfl
      rw [e1, e2]
      refine go_nil ⟨(l.eraseIdx j.1, tu ++ [l[j.1]], c + 1), ⟨?_, by show c + 1 ≤ n + 500 + (tu ++ [_]).length; rw [List.length_append, List.length_singleton]; omega⟩, by show (l.eraseIdx j.1).length < l.length; rw [List.length_eraseIdx_of_lt hj]; omega, ⟨fun _ _ z => z, fun _ _ z => z, fun _ _ z => z, fun _ _ z => z, fun _ _ z => z, fun _ _ z => z, fun _ _ z => z, fun _ _ z => z, True.intro⟩, perm_by fun f => by simp only [List.map_cons, List.map_nil, List.sum_cons, List.sum_nil]; omega⟩
      refine List.Perm.trans ?_ hs1
      show (tu ++ [l[j.1]] ++ l.eraseIdx j.1).Perm (tu ++ l)
      rw [List.append_assoc]
      exact List.Perm.append_left tu (erase_perm hj)
    · have hz : l = [] := by
        have h1 : l.map iD = [] := by simpa using hb
        exact List.map_eq_nil_iff.mp h1
      subst hz
      rw [List.append_nil] at hs1
      have htl : tu.length = C.length := by simpa using hlen
      have hnd : tu.Nodup := hs1.nodup_iff.mpr List.nodup_range
      have htk : ∀ k ∈ tu, k < C.length := fun k hk => List.mem_range.mp (hs1.mem_iff.mp hk)
      refine go_perm (M1 := [mLst Tu (kds tu), mLst Lf (kds []), mBox D c]) ?_ (perm_by fun f => by simp only [List.map_cons, List.map_nil, List.sum_cons, List.sum_nil]; omega)
      refine go_still (i := 7) rfl (go_word (i := 7) (k' := kD (.list (tu.map iD))) rfl (fun v B q => kLst_data.mp q) (go_forget ?_))
      refine go_setEx (κ := fun i : Fin C.length => kI (i.1 : Nat)) (ev_take (M1 := []) D c C.length (ea_two (ev_var rfl) (ev_var rfl)) n1 (by omega) (by omega)) fun out => ?_
      obtain ⟨out, hout⟩ := out
      let kept : List Nat := (List.range C.length).filter fun k => !decide ((k : Int) = (out : Int))
      have hkl : kept.length ≤ C.length := by
        have := List.length_filter_le (fun k : Nat => !decide ((k : Int) = (out : Int))) (List.range C.length)
        rw [List.length_range] at this
        exact this
      have hkk : ∀ k ∈ kept, k < C.length := fun k hk => List.mem_range.mp (List.mem_filter.mp hk).1
      have hknd : kept.Nodup := List.nodup_range.filter _
      refine go_set (k := kD (.list (kept.map iD))) (ev_lcD (List.range C.length) (fun k => kI (k : Nat)) (fun k => !decide ((k : Int) = (out : Int))) iD (ei_range (ev_var rfl) (by omega)) sub_nil (by simp; omega) fun i k hk => ⟨_, [13], tg_name, in_one, et_test (ev_op (ev_var rfl) (ev_var rfl) rk_neI), fun _ => ev_var rfl⟩) ?_
      let Γf : Option Kn → Option Kn → Option Kn → Ga := fun x y z => [some (kC (.ref D)), some (kD (encLg L)), some (kB b), some kAny, some (kD (encRows C)), some (kI (C.length : Nat)), none, some (kD (.list (tu.map iD))), some (kI (out : Nat)), some (kD (.list (kept.map iD))), x, y, z, none, none]
      refine go_forN (fun _ => Γf none none none) (fun i => [mBox D (c + 1 + i)]) (ei_tupE (f := PyData.bool) (l := calmsOf b) (ev_fn (pre := fun _ : Bool => True) (args := fun b => [kB b]) (res := fun b => kD (.tuple ((if b then [false, true] else [false]).map .bool))) b (ea_one (ev_var rfl)) True.intro)) ⟨fun _ _ z => z, fun _ _ z => z, fun _ _ z => z, fun _ _ z => z, fun _ _ z => z, fun _ _ z => z, fun _ _ z => z, fun _ _ z => z, fun _ _ z => z, True.intro⟩ (.refl _) (fun _ => sub_nil) (fun i k hi hk => ?_) ?_
      · rw [List.getElem?_map] at hk
        obtain ⟨cs, hcs, rfl⟩ := Option.map_eq_some_iff.mp hk
        have hi2 : i < 2 := by
          have := (List.getElem?_eq_some_iff.mp hcs).1
          unfold calmsOf at this
          split at this <;> simp at this <;> omega
        have hio : IoOk L cs := fun hc => by
          have hm := List.mem_of_getElem? hcs
          unfold calmsOf at hm
          cases hb2 : b with
          | true => exact io hb2
          | false =>
            rw [hb2, hc] at hm
            simp at hm
        refine ⟨_, [10], tg_name, ?_⟩
        have rowsE : ∀ (x y : Option Kn) (u : Nat) (ks : List Nat), (u = 7 ∧ ks = tu) ∨ (u = 9 ∧ ks = kept) → Ev (tCB (rTupOf K) (tCons (tLc (iList K (tVar u)) (gName 13) tYes (tOp (rIxT K) (tVar 4) (tVar 13)) [13]) tNil)) (Γf (some (kB cs)) x y) [mBox D (c + 1 + i)] [mBox D (c + 1 + i)] (kD (encRows (pickR C ks))) := fun x y u ks hu => by
          have key : ∀ k ∈ ks, k < C.length := by
            rcases hu with ⟨_, rfl⟩ | ⟨_, rfl⟩
            · exact htk
            · exact hkk
          have klen : ks.length ≤ 50000 := by
            rcases hu with ⟨_, rfl⟩ | ⟨_, rfl⟩ <;> omega
          refine Ev.is (d := .tuple (ks.map fun k => encRow (C.getD k []))) (ev_cb (ea_one (ev_lcA ks (fun k => kI (k : Nat)) (fun k => encRow (C.getD k [])) (ei_lstE (f := iD) ?_) sub_nil klen fun j k hk => ⟨_, [13], tg_name, in_one, et_yes, fun _ => ev_op (ev_var (k := kD (.tuple (C.map encRow))) rfl) (ev_var rfl) (rk_ixT (n := k) (by rw [List.getElem?_map, getD_at (key k (List.mem_of_getElem? hk))]; rfl))⟩)) ck_tupOf) (by unfold pickR encRows; rw [List.map_map]; rfl)
          rcases hu with ⟨rfl, rfl⟩ | ⟨rfl, rfl⟩ <;> exact ev_var rfl
        have dictE : ∀ (x y : Option Kn) (u : Nat) (ks : List Nat), (u = 7 ∧ ks = tu) ∨ (u = 9 ∧ ks = kept) → Ev (tLc (iEnum K (tCons (tVar u) tNil)) (gTup K 2 (gCons (gName 14) (gCons (gName 13) gNil))) tYes (tTup (tCons (tVar 13) (tCons (tVar 14) tNil))) [14, 13]) (Γf (some (kB cs)) x y) [mBox D (c + 1 + i)] [mBox D (c + 1 + i)] (kD (.list (ks.zipIdx.map encN))) := fun x y u ks hu => by
          have klen : ks.length ≤ 50000 := by
            rcases hu with ⟨_, rfl⟩ | ⟨_, rfl⟩ <;> omega
          have hv : Ev (tVar u) (Γf (some (kB cs)) x y) [mBox D (c + 1 + i)] [mBox D (c + 1 + i)] (kD (.list (ks.map iD))) := by
            rcases hu with ⟨rfl, rfl⟩ | ⟨rfl, rfl⟩ <;> exact ev_var rfl
          have he := ei_enumD (K := K) hv
          rw [List.zipIdx_map, List.map_map, List.map_map] at he
          exact ev_lcA ks.zipIdx (fun p => kD (.tuple [.int (p.2 : Nat), iD p.1])) encN he sub_nil (by rw [List.length_zipIdx]; exact klen) fun j p hp => ⟨_, [14, 13], tg_twoD, (fun z hz => by simpa using hz), et_yes, fun _ => ev_tup2D (ev_var rfl) (ev_var rfl)⟩
        have apart : ∀ (x y : Option Kn) (ks : List Nat) (Dp : Addr), PlOk C (pickR C ks) ks.zipIdx → PsOk L (pickR C ks) → x = some (kD (encRows (pickR C ks))) → y = some (kC (.ref Dp)) → Ev (tCall spApart [] E0 (tCons (tVar 1) (tCons (tVar 4) (tCons (tVar 11) (tCons (tVar 12) (tCons (tVar 10) tNil)))))) (Γf (some (kB cs)) x y) [mPl Dp ks.zipIdx, mBox D (c + 1 + i)] [mPl Dp ks.zipIdx, mBox D (c + 1 + i)] (kB true) := fun x y ks Dp h1 h2 hx hy => by
          subst hx hy
          exact ev_call (pre := fun a : ApA => a.Ok) (Mi := fun a : ApA => [mPl a.D a.ps]) (Mo := fun a : ApA => [mPl a.D a.ps]) (M1 := [mBox D (c + 1 + i)]) (args := fun a : ApA => [kD (encLg a.L), kD (encRows a.C), kD (encRows a.C2), kC (.ref a.D), kB a.io]) (res := fun _ : ApA => kB true) ⟨L, C, pickR C ks, ks.zipIdx, Dp, cs⟩ (ea_five (ev_var rfl) (ev_var rfl) (ev_var rfl) (ev_var rfl) (ev_var rfl)) ⟨ps, h2, hio, h1⟩
        have pl1 := pl_idx hnd htk (by omega)
        have pl2 := pl_idx hknd hkk (by omega)
        refine go_parG (α := Addr × Unit) (ρ1 := fun _ => kD (encRows (pickR C tu))) (ρ2 := fun p => kC (.ref p.1)) (μ := fun p => [mPl p.1 tu.zipIdx, mBox D (c + 1 + i)]) (eag_cons (rowsE none none 7 tu (.inl ⟨rfl, rfl⟩)) (eag_new (eg_dictL (dictE none none 7 tu (.inl ⟨rfl, rfl⟩)) pl1.kn) fun Dp => (ea_nil (M := [mPl Dp tu.zipIdx, mBox D (c + 1 + i)])).g)) fun p => ?_
        refine go_skip ((et_not (et_B (apart _ _ tu p.1 pl1 (ps_idx ps htk (by omega)) rfl rfl))).is rfl) (go_forget ?_)
        refine go_parG (α := Addr × Unit) (ρ1 := fun _ => kD (encRows (pickR C kept))) (ρ2 := fun p => kC (.ref p.1)) (μ := fun p => [mPl p.1 kept.zipIdx, mBox D (c + 1 + i)]) (eag_cons (rowsE _ _ 9 kept (.inr ⟨rfl, rfl⟩)) (eag_new (eg_dictL (dictE _ _ 9 kept (.inr ⟨rfl, rfl⟩)) pl2.kn) fun Dp => (ea_nil (M := [mPl Dp kept.zipIdx, mBox D (c + 1 + i)])).g)) fun p2 => ?_
        refine go_skip ((et_not (et_B (apart _ _ kept p2.1 pl2 (ps_idx ps hkk (by omega)) rfl rfl))).is rfl) (go_forget ?_)
        let Γ2 : Ga := Γf (some (kB cs)) (some (kD (encRows (pickR C kept)))) (some (kC (.ref p2.1)))
        have pl3 : PlOk C ([] :: C) (shP C.length) := pl_shift (by omega)
        have cat : Ev (tOp (rCatA K) (tTup (tCons (tTup tNil) tNil)) (tVar 4)) Γ2 [mBox D (c + 1 + i)] [mBox D (c + 1 + i)] (kD (encRows ([] :: C))) := Ev.is (d := .tuple ([.tuple []] ++ C.map encRow)) (ev_op (ev_tup1D ev_tup0D) (ev_var rfl) (rk_catA (by simp; omega))) rfl
        have dct : EvG (α := Addr) (tCB (rDictP K) (tCons (tLc (iRng1 (tCons (tVar 5) tNil)) (gName 13) tYes (tTup (tCons (tVar 13) (tCons (tOp (rI0 fun i j => .int (i + j)) (tVar 13) (tC (.int 1))) tNil))) [13]) tNil)) Γ2 [mBox D (c + 1 + i)] (fun Dp => kC (.ref Dp)) (fun Dp => mPl Dp (shP C.length) :: [mBox D (c + 1 + i)]) := eg_dictL (Ev.is (d := .list ((List.range C.length).map fun k => encN (k, k + 1))) (ev_lcA (List.range C.length) (fun k => kI (k : Nat)) (fun k => encN (k, k + 1)) (ei_range (ev_var rfl) (by omega)) sub_nil (by simp; omega) fun j k hk => ⟨_, [13], tg_name, in_one, et_yes, fun _ => ev_tup2D (ev_var rfl) ((ev_op (ev_var rfl) ev_int rk_add).is rfl)⟩) (by unfold shP; rw [List.map_map]; rfl)) pl3.kn
        have hargs : EvAG (α := Addr × Unit) (tCons (tVar 1) (tCons (tVar 4) (tCons (tOp (rCatA K) (tTup (tCons (tTup tNil) tNil)) (tVar 4)) (tCons (tCB (rDictP K) (tCons (tLc (iRng1 (tCons (tVar 5) tNil)) (gName 13) tYes (tTup (tCons (tVar 13) (tCons (tOp (rI0 fun i j => .int (i + j)) (tVar 13) (tC (.int 1))) tNil))) [13]) tNil)) (tCons (tVar 10) tNil))))) Γ2 [mBox D (c + 1 + i)] (fun p => [kD (encLg L), kD (encRows C), kD (encRows ([] :: C)), kC (.ref p.1), kB cs]) (fun p => [mPl p.1 (shP C.length), mBox D (c + 1 + i)]) :=
          eag_cons (k := kD (encLg L)) (ev_var rfl) (eag_cons (k := kD (encRows C)) (ev_var rfl) (eag_cons cat (eag_new (ρ := fun Dp : Addr => kC (.ref Dp)) (ρ2 := fun _ _ => [kB cs]) (μ2 := fun Dp (_ : Unit) => [mPl Dp (shP C.length), mBox D (c + 1 + i)]) dct fun Dp => (ea_one (ev_var rfl)).g)))
        have hap : EvG (α := Addr × Unit) (tCall spApart [] E0 _) Γ2 [mBox D (c + 1 + i)] (fun _ => kB true) (fun p => mPl p.1 (shP C.length) :: [mBox D (c + 1 + i)]) := ev_callE (pre := fun a : ApA => a.Ok) (Mi := fun a : ApA => [mPl a.D a.ps]) (Mo := fun a : ApA => [mPl a.D a.ps]) (args := fun a : ApA => [kD (encLg a.L), kD (encRows a.C), kD (encRows a.C2), kC (.ref a.D), kB a.io]) (res := fun _ : ApA => kB true) (fun p : Addr × Unit => ⟨L, C, [] :: C, shP C.length, p.1, cs⟩) (fun _ => [mBox D (c + 1 + i)]) hargs fun p => ⟨ps, ps_shift ps (by omega), hio, pl3⟩
        refine go_skip ((et_not (et_B (EvG.drop1 hap))).is rfl) ?_
        have hr : C[out]? = some C[out] := List.getElem?_eq_getElem hout
        have hrm : C[out] ∈ C := List.getElem_mem _
        generalize C[out] = r at hr hrm
        have hrl : r.length ≤ 100 := ps.2.l r hrm
        have tk : Ev (tCall spTake [] E0 (tCons (tVar 0) (tCons (tOp (rI0 fun i j => .int (i + j)) (tCB (rLenS K) (tCons (tOp (rIxT K) (tVar 4) (tVar 8)) tNil)) (tC (.int 1))) tNil))) Γ2 [mBox D (c + 1 + i)] [mBox D (c + 1 + i + 1)] (kLt (r.length + 1)) := ev_take (M1 := []) D (c + 1 + i) (r.length + 1) (ea_two (ev_var rfl) ((ev_op (ev_cb (ea_one (ev_op (ev_var (k := kD (.tuple (C.map encRow))) rfl) (ev_var rfl) (rk_ixT (n := out) (d := .tuple (r.map encE)) (by rw [List.getElem?_map, hr]; rfl)))) ck_lenT) ev_int rk_add).is (by rw [List.length_map]; rfl))) (by omega) (by omega) (by omega)
        have hargs2 : EvAG (α := Fin (r.length + 1) × Unit) (tCons (tVar 1) (tCons (tVar 4) (tCons (tVar 8) (tCons (tCall spTake [] E0 (tCons (tVar 0) (tCons (tOp (rI0 fun i j => .int (i + j)) (tCB (rLenS K) (tCons (tOp (rIxT K) (tVar 4) (tVar 8)) tNil)) (tC (.int 1))) tNil))) (tCons (tVar 10) tNil))))) Γ2 [mBox D (c + 1 + i)] (fun p => [kD (encLg L), kD (encRows C), kI (out : Nat), kI (p.1.1 : Nat), kB cs]) (fun _ => [mBox D (c + 1 + i + 1)]) :=
          eag_cons (k := kD (encLg L)) (ev_var rfl) (eag_cons (k := kD (encRows C)) (ev_var rfl) (eag_cons (k := kI (out : Nat)) (ev_var rfl) (eag_new (ρ := fun j : Fin (r.length + 1) => kI (j.1 : Nat)) (ρ2 := fun _ _ => [kB cs]) (μ := fun _ => [mBox D (c + 1 + i + 1)]) (μ2 := fun _ (_ : Unit) => [mBox D (c + 1 + i + 1)]) (Ev.one tk) fun j => (ea_one (ev_var rfl)).g)))
        have hcut : EvG (α := Fin (r.length + 1) × Unit) (tCall spCut [] E0 _) Γ2 [mBox D (c + 1 + i)] (fun _ => kB true) (fun _ => [mBox D (c + 1 + i + 1)]) := ev_callE (pre := fun a : CuA => a.Ok) (Mi := fun _ => []) (Mo := fun _ => []) (args := fun a : CuA => [kD (encLg a.L), kD (encRows a.C), kI a.k, kI a.spot, kB a.io]) (res := fun _ : CuA => kB true) (fun p : Fin (r.length + 1) × Unit => ⟨L, C, out, r, p.1.1, cs⟩) (fun _ => [mBox D (c + 1 + i + 1)]) hargs2 fun p => ⟨ps, hr, by have := p.1.2; show p.1.1 ≤ r.length; omega, by show C.length ≤ 9; omega, okC.ch r hrm, hio⟩
        refine go_skip ((et_not (et_B (EvG.const hcut))).is rfl) ?_
        exact go_nil ⟨⟨fun _ _ z => z, fun _ _ z => z, fun _ _ z => z, fun _ _ z => z, fun _ _ z => z, fun _ _ z => z, fun _ _ z => z, fun _ _ z => z, fun _ _ z => z, True.intro⟩, .refl _⟩
      · exact go_forget (go_ret ev_bl)
end
end Fw
set_option Elab.async false
set_option linter.all false
set_option maxRecDepth 100000
set_option maxHeartbeats 4000000
/-! the walk: the law itself -/
namespace Fw
open PySem PySem.Spec PyProof.Rows L2
section
variable {P : Program} {w : World} {K : PySem.W.Frag} {mg : Str → Option Value} {base : Heap} {α : Type} {pre : α → Prop} {args : α → List Kn} {Mi Mo : α → List Mu} {res : α → Kn}
theorem fn_k {x qual : Str} {params : Arguments} {body : List Stmt} {scope : Scope} {dvs : List V} {kws : List (Str × V)} {f : Addr} {fd : FuncData} {N ps : List Str} {k : Nat} {ds : List Value} (F : FunD K x qual params body scope dvs kws f fd) (S : FnScope N ps scope) (hb : Binds K fd ps ds) (hd : Vals [] ds)
    (hl : ∀ a, pre a → (args a).length = ps.length)
    (hbody : ∀ (cdv : Value) (A : Around) (outer : List Env) (s : Shared) (H : Hp) (E : XK), Room k (A.deeper (envOfC qual scope s.heap.objs.size f cdv)) →
      ∃ t, PSs (cxOf CX0 P w K mg base N qual scope f cdv A outer s H E).nox body t ∧ ∀ a, pre a → Go ⟨res a, Mo a, fun Γ' M' => M' = Mo a ∧ ∀ σ B, Sk Γ' B σ → (res a).p .non B⟩ t ((args a).map some ++ List.replicate (N.length - ps.length) none) (Mi a)) : FnOk P w K mg base CX0 (k + 1) f fd ps (spF pre args Mi Mo res) := by
  refine F.ok S (fun vs H Q E ⟨a, _, _, hp, h, _⟩ => h.length.symm.trans (hl a hp)) fun cdv A outer s H vs Q E hr ⟨a, F', B, hp, hA, ho, hq⟩ => ?_
  obtain ⟨t, h2, h3⟩ := hbody cdv A outer s H E hr
  have e1 : vs.length = ps.length := hA.length.symm.trans (hl a hp)
  have sk := Sk.start (N := N) hA
  rw [e1] at sk
  exact ⟨t, PSs.nox h2, h3 a hp F' _ B H _ sk ho ⟨hq, fun Γ M σ B' C' ⟨hm, hn⟩ e sk o => hq .non B' C' e (hm ▸ o) (hn σ B' sk)⟩⟩
theorem ck_min {M : List Mu} {i j : Int} : CK (fun xs H Q => ∃ i j, xs = [.int i, .int j] ∧ Q (.int (if j < i then j else i)) H) M [kI i, kI j] (kI (if j < i then j else i)) := fun xs F B C o ps Q q => by
  obtain ⟨v, u, rfl, pv, pu⟩ := allK2 ps
  exact ⟨i, j, by rw [pv.int_inv, pu.int_inv], q _ B C (Ex.refl B) o (.int _)⟩
abbrev spLaw (K : PySem.W.Frag) : Sp := spF (α := List Int) (fun ns => ns.length ≤ 63) (fun ns => [kSq K ns]) (fun _ => []) (fun _ => []) (fun _ => kB true)
theorem ok_law (T : Tx K mg) : ∃ fd : FuncData, (∀ (s : Shared) (v : Value), BindsTo s fd ⟨[v], []⟩ [("_law_script", v)]) ∧ ∀ base : Heap, FnOk P w K mg base CX0 16 (He.ga K "law") fd ["_law_script"] (spLaw K) := by
  obtain ⟨fd, F⟩ := T.says.def_ 54 (d := (gD "law" 48))
  have nd : (["_law_script", "_law_lap"] : List Str).Nodup := by decide +kernel
  refine ⟨fd, fun s v => FunD.bindsA (ps := ["_law_script"]) F (fun _ _ _ _ _ _ us hl => match us, hl with | [_], _ => rfl) s [v] rfl, fun base => ?_⟩
  refine fn_k (N := ["_law_script", "_law_lap"]) (ps := ["_law_script"]) F ⟨rfl, rfl, rfl, nd, rfl, by decide +kernel, by decide +kernel⟩ (F.bindsN fun _ _ _ _ _ _ us hl => match us, hl with | [_], _ => rfl) .nil (fun _ _ => rfl) fun cdv A outer s H E hr => ?_
  have hu := hu_of hr
  have hu64 := hr.units
  have hu65 := room65 hr
  refine ⟨_, (pss_cons (ps_ret (pe_callB (k_all K rfl) (by rfl) (T.free 47) (by decide +kernel) (pa_cons (pe_lc (own := [("_law_lap", 1)]) rfl nd (pi_range1 (by rfl) (T.free 40) (pa_cons (pe_op op_add pe_int (pe_callB (call_min2 rfl) (by rfl) (T.free 53) (by decide +kernel) (pa_cons pe_int (pa_cons (pe_callB (k_len K) (by rfl) (T.free 41) (by decide +kernel) (pa_cons (pv 0) pa_nil)) pa_nil)))) pa_nil)) (blkOk_by (own := [("_law_lap", 1)]) (N := ["_law_script", "_law_lap"]) (sc := defScope (top 48)) (by decide +kernel)) (fun _ _ _ _ _ => (pg_name (i := 1) nd rfl (Or.inl rfl))) (fun _ _ _ _ _ => pts_nil) (fun _ _ _ _ _ => (pe_g (r__law_right T) hr (by decide) (T.glo 35) (T.kp 53 (d := (gD "_law_right" 47))) (pa_cons (pe_g (r__law_box T) hr (by decide) (T.glo 18) (T.kp 36 (d := (gD "_law_box" 30))) (pa_cons (pv 0) (pa_cons (pv 1) pa_nil))) pa_nil)))) pa_nil)))
      pss_nil), fun a hp => ?_⟩
  have hl : a.length ≤ 63 := hp
  let m : Nat := 1 + min 2 a.length
  have hm : m ≤ 3 := by show 1 + min 2 a.length ≤ 3; omega
  have right : ∀ (k : Nat), k < m → Ev (tCall spRight [] E0 (tCons (tCall (spBox K) [] E0 (tCons (tVar 0) (tCons (tVar 1) tNil))) tNil)) [some (kSq K a), some (kI (k : Nat))] [] [] (kB true) := fun k hk => by
    have hbox : EvG (α := Addr) (tCall (spBox K) [] E0 (tCons (tVar 0) (tCons (tVar 1) tNil))) [some (kSq K a), some (kI (k : Nat))] [] (fun D => kC (.ref D)) (fun D => [mBox D 0] ++ []) := ev_callG (pre := fun p : List Int × Nat => p.2 ≤ 1000) (args := fun p => [kSq K p.1, kI p.2]) (Mi := fun _ => []) (Mo := fun _ D => [mBox D 0]) (res := fun _ D => kC (.ref D)) (a, k) (ea_two (ev_var rfl) (ev_var rfl)) (by show k ≤ 1000; omega)
    exact EvG.const (ev_callE (pre := fun p : Addr × Nat => p.2 ≤ 1000) (args := fun p => [kC (.ref p.1)]) (Mi := fun p => [mBox p.1 p.2]) (Mo := fun _ => []) (res := fun _ => kB true) (fun p : Addr × Unit => (p.1, 0)) (fun _ => []) (eag_new (ρ2 := fun _ _ => []) (μ2 := fun D (_ : Unit) => [mBox D 0] ++ []) hbox fun D => ea_nil.g) fun p => Nat.zero_le _)
  refine go_ret ((ev_cb (ea_one ((ev_lcA (List.range m) (fun i => kI (i : Nat)) (fun _ => .bool true) (ei_range ((ev_op ev_int (ev_cb (ea_two ev_int (ev_cb (ea_one (ev_var rfl)) ck_lenQ)) ck_min) rk_add).is ?_) (by omega)) sub_nil (by simp; omega) fun i k hk => ⟨_, [1], tg_name, in_one, et_yes, fun _ => right k (List.mem_range.mp (List.mem_of_getElem? hk))⟩).is (d' := .list (((List.range m).map fun _ => true).map .bool)) (by rw [List.map_map]; rfl))) ck_all).is ?_)
  · show PyData.int (1 + if (a.length : Int) < 2 then (a.length : Int) else 2) = PyData.int ((1 + min 2 a.length : Nat) : Int)
    congr 1
    split <;> omega
  · congr 1
    rw [List.all_map]
    exact List.all_eq_true.mpr fun _ _ => rfl
theorem facts {h : Heap} {f : Addr} (T : Tx K mg) (hfa : mg ("law" : Str) = some (.ref f)) : ∃ fd : FuncData, (∀ (s : Shared) (v : Value), BindsTo s fd ⟨[v], []⟩ [("_law_script", v)]) ∧ ∀ base : Heap, FnOk P w K mg base CX0 16 f fd ["_law_script"] (spLaw K) := by
  have e := hfa.symm.trans (T.glo 36 (x := "law"))
  cases e
  exact ok_law T
theorem law_sp {H : Hp} {a : Addr} {ns : List Int} (hl : ns.length ≤ 63) (hS : SqL K H a (ns.map V.int)) {E : XK} : spLaw K [.ref a] H (fun v _ => v = .bl true) E :=
  ⟨ns, [], H, hl, .cons ⟨a, rfl, hS⟩ .nil, ⟨Ex.refl H, (fun m h => nomatch h), (fun m h => nomatch h), List.Pairwise.nil⟩, fun z B' C' e o p => Tk.bl_inv p⟩
end
end Fw
set_option Elab.async false
set_option linter.all false
set_option maxRecDepth 100000
set_option maxHeartbeats 0
open PySem PySem.W PySem.Calls PyProof.Rows
theorem PySem.Challenge.cw_fewstamps_k75_whole_counters_are_apart_holds : PySem.Challenge.rw_fewstamps_k75_whole_counters_are_apart.Holds := by
  w_on; o_law
  refine HandSHeadRun.head_any (r := OpenLaw.row PySem.Challenge.rw_fewstamps_k75_whole_counters_are_apart) (q := view (OpenLaw.row PySem.Challenge.rw_fewstamps_k75_whole_counters_are_apart).prog [48]) (H := Fw.hk) (ob := Fw.ob) (M := 20000) (loose := Fw.lo) (d := HandSHeadRun.topDef (OpenLaw.row PySem.Challenge.rw_fewstamps_k75_whole_counters_are_apart).prog 48) (kwd := []) Fw.ob_eq
    (by kernel_rfl) (fun s => by kernel_rfl) Fw.run (by kernel_rfl) (by kernel_rfl) (by kernel_rfl) (by rfl) (by first | assumption | decide +kernel) (by decide +kernel) ⟨rfl, rfl, rfl, rfl, rfl, by decide +kernel⟩ ?hw ?hc
  case hw => w_witness2
  case hc =>
    refine L2.walk_ofE (l := PySem.Challenge.rw_fewstamps_k75_whole_counters_are_apart) (n := 63) (k := 16) (x := "_law_script") (CX := L2.CX0) rfl (by decide) (by kernel_rfl) ⟨rfl, by decide, by decide⟩ ?F (fun _ _ _ _ z => z)
    intro w mg fa h Y G hmg0
    obtain ⟨K, KX, c1, c2⟩ := Y
    have hmg : mg ("law" : PySem.Str) = some (.ref fa) := by
      have e : (HandSHeadRun.topDef (OpenLaw.row PySem.Challenge.rw_fewstamps_k75_whole_counters_are_apart).prog 48).name = ("law" : PySem.Str) := by kernel_rfl
      rw [← e]
      exact hmg0
    obtain ⟨fd, hb, hF⟩ := Fw.facts (P := (PySem.Challenge.rw_fewstamps_k75_whole_counters_are_apart).prog) (w := w) (h := h) ⟨⟨h, KX, G⟩, c1, c2⟩ hmg
    exact ⟨K, fd, Fw.spLaw K, KX, hb, fun H a ns hl _ hS => Fw.law_sp hl hS, fun base _ _ => hF base⟩
