import PyProof.Rows.All
import Wide.All
import OpenK.AllK
import Wide.FinOn
import KE.KNest
import HandS.ForMost
import HandS.GenList
import HandS.AnyAll
import HandS.Lambda
import PyProof.TupleOfGen
import KE.SortKeyHeap
import HandS.Conv
import HandS.Deep
import HandS.TupAny
import HandS.IsInst
import HandS.Evl
import HandS.Star
import KE.DataMinMax
import KE.DataIsa
import KE.SortData
import HandS.Zip
import HandS.Rev
import HandS.HeadHook4
import PyProof.FactsLen
import PyProof.EnumMake
import PyProof.Draws
import KE.GoesMore
import KE.GoesEnum
import HandS.Iter
import HandS.SetFor
import PyProof.SeqI2
import HandS.EndTab
import KE.GoesZip
import HandS.Style
import HandS.TupMul
import PySem.Challenge.RW_jobsproved_k78_whole_ends_by_turning_poi
import HandS.HeadWalk
import HandS.Head2
import HandS.Head3
set_option Elab.async false
set_option linter.all false
section gx_
set_option maxRecDepth 100000
set_option maxHeartbeats 2000000
namespace GX
open PySem PySem.Spec PyProof.Rows L2 GxR GenW

/-! ### a generator expression's frame -/
section
variable {M : Model} {A : Around} {E : Value → Shared → Prop} {s : Shared}
theorem newEnv_gen {scope : Scope} {globals : Addr} {cl : List (Str × Addr)} {it : Value} {qual : Str} {code : Value} {bi : Addr} {Q : Env → Shared → Prop} (hk : scope.kind = .function) (h0 : scope.names.lookup (".0" : Str) = some NameKind.local)
    (hQ : ∀ (h' : Heap) (tk : Nat) (m : Str → Option Value), h'.Ns s.heap.objs.size m → Heap.SameBut s.heap.objs.size (pushCells (s.heap.push { cls := .type "frame", data := .dict #[] }) scope.names) h' →
      Q (newEnv scope s.heap.objs.size globals (cellsFrom (s.heap.objs.size + 1) scope.names cl) qual none code none bi) { s with heap := h', toks := tk }) :
    wpAny M A (newFunctionEnv scope globals cl [(".0", it)] qual none code none bi) Q E s := by
  simp only [newFunctionEnv, Option.isSome_none, Bool.false_eq_true, if_false]
  refine wpAny_bind (wpAny_alloc ?_)
  refine wpAny_bind (wpAny_layCells _ (fun name kind cells => by cases hkc : kind == NameKind.cell <;> simp [hkc]) _ _ _ _ ?_)
  rw [show ({ s with heap := s.heap.push { cls := .type "frame", data := .dict #[] } } : Shared).heap.objs.size = s.heap.objs.size + 1 from Heap.size_push ..]
  refine wpAny_bind ?_
  simp only [List.forIn_cons, List.forIn_nil]
  refine wpAny_bind (wpAny_bind (wpAny_storeName_local (env := newEnv scope s.heap.objs.size globals (cellsFrom (s.heap.objs.size + 1) scope.names cl) qual none code none bi) (m := fun _ => none) (show scope.names.lookup (".0" : Str) = some NameKind.local from h0) ?_ (fun h' hn hs => ?_) ?_))
  · exact (Heap.Ns.new s.heap (.type "frame")).keeps fun b o e => pushCells_keeps _ _ _ _ e
  · exact wpAny_pure (wpAny_pure (wpAny_pure (hQ h' _ _ hn hs)))
  · show (scope.kind == .class || (scope.kind == .module && _)) = false
    rw [hk]; rfl
end

/-- the context of a generator expression's element: entered from X at the state s, its frame's environment cenv, run at A' -/
abbrev gcx (X : Cx) (s : Shared) (H : Hp) (scope : Scope) (cenv : Env) (fp : List Addr) (A' : Around) (pn : List (Addr × Obj)) : Cx :=
  { X with A := A', s_0 := s, H_0 := H, env := cenv, outer := X.stack, stack := cenv :: X.stack, ex := fp, fn := fun x => scope.names.lookup x == some .cell, pn := pn, xe := fun _ _ => False }
/-- its environment -/
abbrev genv (X : Cx) (s : Shared) (scope : Scope) (cd : Value) : Env :=
  newEnv scope s.heap.objs.size X.env.globals (cellsFrom (s.heap.objs.size + 1) scope.names (cloFrom X.env.cells scope.names [])) (X.env.qual ++ "<genexpr>.") none cd none builtinsNs
section
variable {X : Cx} {pins : List (Addr × Obj)} {σ : L2.St} {H : Hp} {s : Shared}
theorem gen_start {scope : Scope} {own : List (Str × Nat)} {fp : List Addr} {cd : Value} {A' : Around} {a : Addr} {go : Obj} {h5 : Heap} {m5 : Str → Option Value} {g' : Array GenState} {tk : Nat}
    (I : Inv X pins σ H s) (ok : BlkOk X.N X.env.scope scope own) (hN : X.N.Nodup) (hfp : ∀ b ∈ fp, FpOk X pins H b ∧ b < s.heap.objs.size)
    (hAf : A'.frames = some (genv X s scope cd :: X.stack)) (hAh : A'.handled = none)
    (hns : h5.Ns s.heap.objs.size m5) (kp5 : ∀ b o, b ≠ s.heap.objs.size → (pushCells (s.heap.push { cls := .type "frame", data := .dict #[] }) scope.names).get? b = some o → h5.get? b = some o)
    (ha : h5.get? a = some go) (hal : s.heap.objs.size < a) (hac : ∀ v, go.data ≠ .cell v) (hg : AllBare g') :
    Inv (gcx X s H scope (genv X s scope cd) fp A' [(a, go)]) [] (wipe σ (own.map (·.2))) H { s with heap := h5, gens := g', toks := tk } := by
  have hfree : ∀ y ∈ scope.names, y.2 = .free → ∃ c, X.env.cells.lookup y.1 = some c := fun y hy e => by
    rcases ok.free y hy e with k | k
    · exact I.ok.has _ (.inl k)
    · exact I.ok.has _ (.inr k)
  generalize hcenv : genv X s scope cd = cenv at hAf ⊢
  have kp0 : ∀ b o, s.heap.get? b = some o → (pushCells (s.heap.push { cls := .type "frame", data := .dict #[] }) scope.names).get? b = some o := fun b o e => pushCells_keeps _ _ _ _ (Heap.get?_push_of_some _ e)
  have kp : ∀ b o, s.heap.get? b = some o → h5.get? b = some o := fun b o e => kp5 b o (Nat.ne_of_lt (Heap.lt_size e)) (kp0 b o e)
  have hL : cenv.locals = s.heap.objs.size := by rw [← hcenv]; rfl
  have hcl : cenv.cells = cellsFrom (s.heap.objs.size + 1) scope.names (cloFrom X.env.cells scope.names []) := by rw [← hcenv]; rfl
  have hsc : cenv.scope = scope := by rw [← hcenv]; rfl
  rw [← Heap.size_push s.heap { cls := .type "frame", data := .dict #[] }] at hcl
  have cm : ∀ {y c}, (y, c) ∈ cloFrom X.env.cells scope.names [] → X.env.cells.lookup y = some c ∧ c < s.heap.objs.size := fun {y c} hm => by
    rcases cloFrom_mem hm with hm | ⟨h1, rfl⟩
    · cases hm
    · obtain ⟨c, hc⟩ := hfree _ h1 rfl
      rw [hc]
      obtain ⟨w, z⟩ := I.cell _ _ hc
      exact ⟨rfl, z.lt⟩
  have mem : ∀ {y c}, cenv.cells.lookup y = some c → (X.env.cells.lookup y = some c ∧ c < s.heap.objs.size) ∨ (s.heap.objs.size + 1 ≤ c ∧ ∃ v, h5.IsCell c v) := fun {y c} e => by
    rw [hcl] at e
    rcases cells_mem (PySem.mem_of_lookup e) with hm | ⟨_, h2, h3⟩
    · exact .inl (cm hm)
    · rw [Heap.size_push] at h2
      obtain ⟨o, ho, hd⟩ := h3
      exact .inr ⟨h2, none, o, kp5 c o (Nat.ne_of_gt (Nat.lt_of_succ_le h2)) ho, hd⟩
  have look : ∀ {y}, scope.names.lookup y = some .free → ∃ c, cenv.cells.lookup y = some c ∧ X.env.cells.lookup y = some c := fun {y} hl => by
    have hy : (y, NameKind.free) ∈ scope.names := PySem.mem_of_lookup hl
    obtain ⟨c', e'⟩ := mem_lookup (cells_acc (names := scope.names) (n := (s.heap.push { cls := .type "frame", data := .dict #[] }).objs.size) (cloFrom_has (cells := X.env.cells) (acc := []) hy))
    rw [← hcl] at e'
    refine ⟨c', e', ?_⟩
    rw [hcl] at e'
    rcases cells_mem (PySem.mem_of_lookup e') with hm | ⟨h1, _, _⟩
    · exact (cm hm).1
    · have := ok.uniq _ h1
      rw [hl] at this; cases this
  have okB : (gcx X s H scope cenv fp A' [(a, go)]).Ok := by
    refine ⟨I.ok.mod, by show cenv.scope.kind = _; rw [hsc]; exact ok.kind, by show cenv.globals = _; rw [← hcenv]; exact I.ok.glob, by show cenv.builtins = _; rw [← hcenv]; rfl, by show s.heap.objs.size ≤ cenv.locals; rw [hL]; exact Nat.le_refl _,
      fun y z c e1 e2 => ?_, fun y hy => ?_, fun y c z e => ?_, fun _ => hAh, hAf, .inr ⟨rfl, by show cenv.frame = some cenv.locals; rw [← hcenv]; rfl⟩, fun b hb => ⟨?_, fun y c e z => ?_⟩, I.bs, Nat.le_trans I.ok.bsz I.sz, fun b o e hb => ?_, fun b hb z => ?_, I.stack, I.stkFree⟩
    · have e1 : cenv.cells.lookup y = some c := e1
      have e2 : cenv.cells.lookup z = some c := e2
      rw [hcl] at e1 e2
      refine cells_inj (fun p hp => ?_) (fun y z c a b => I.ok.inj y z c (cm a).1 (cm b).1) (PySem.mem_of_lookup e1) (PySem.mem_of_lookup e2)
      rw [Heap.size_push]
      exact Nat.lt_succ_of_lt (cm (y := p.1) (c := p.2) hp).2
    · show ∃ c, cenv.cells.lookup y = some c
      have hy : scope.names.lookup y = some .cell ∨ scope.names.lookup y = some .free := by
        have hy : cenv.scope.names.lookup y = some .cell ∨ cenv.scope.names.lookup y = some .free := hy
        rw [hsc] at hy
        exact hy
      rcases hy with e | e
      · obtain ⟨c, hm⟩ := cells_has (n := (s.heap.push { cls := .type "frame", data := .dict #[] }).objs.size) (acc := cloFrom X.env.cells scope.names []) (PySem.mem_of_lookup e)
        obtain ⟨c', e'⟩ := mem_lookup hm
        exact ⟨c', by rw [hcl]; exact e'⟩
      · obtain ⟨c, h1, _⟩ := look e
        exact ⟨c, h1⟩
    · have z : (scope.names.lookup y == some NameKind.cell) = true := z
      have z : scope.names.lookup y = some .cell := by simpa using z
      have e : cenv.cells.lookup y = some c := e
      rw [hcl] at e
      rcases cells_mem (PySem.mem_of_lookup e) with hm | ⟨_, h2, _⟩
      · rcases cloFrom_mem hm with hm | ⟨h1, _⟩
        · cases hm
        · have q := ok.uniq _ h1
          rw [z] at q; cases q
      · rw [Heap.size_push] at h2
        exact Nat.le_of_succ_le h2
    · show b ≠ cenv.locals
      rw [hL]; exact Nat.ne_of_lt (hfp b hb).2
    · have e : cenv.cells.lookup y = some c := e
      rcases mem e with ⟨h1, _⟩ | ⟨h1, _⟩
      · exact (hfp b hb).1.2.2.2.2.1 y c h1 z
      · have h2 : s.heap.objs.size + 1 ≤ b := by rw [← z]; exact h1
        exact absurd (Nat.lt_of_lt_of_le (hfp b hb).2 (Nat.le_of_succ_le h2)) (Nat.lt_irrefl _)
    · rcases (hfp b hb).1.2.2.2.1 with z | z
      · exact I.ok.noex b o e z
      · exact absurd (Nat.lt_of_lt_of_le (Heap.lt_size e) (Nat.le_trans I.ok.bsz z)) (Nat.lt_irrefl _)
    · rcases List.mem_cons.mp (I.stkSub b z) with z | z
      · exact (hfp b hb).1.2.1 z
      · exact (hfp b hb).1.2.2.1 z
  refine ⟨okB, rfl, hg, Un.kept kp, ⟨m5, ?_, fun i y av e1 e2 e3 => ?_⟩, fun y c e => ?_, ?_, fun y c e => ?_, fun p hp => ?_, I.hok.kept kp, by rw [wipe_length]; exact I.len⟩
  · show Heap.Ns _ cenv.locals _
    rw [hL]
    exact hns
  · obtain ⟨e2, hne⟩ := wipe_some e2
    have e3 : Vis cenv.scope y := e3
    rw [hsc] at e3
    have no : ∀ k, scope.names.lookup y = some k → ¬ (k = .local ∨ k = .cell) := fun k e hh => by
      rcases ok.own _ (PySem.mem_of_lookup e) hh with e' | e'
      · obtain ⟨p, hp, hpy⟩ := List.mem_map.mp e'
        have e3 := ok.ix p hp
        have : p.1 = y := hpy
        rw [this] at e3
        exact hne (List.mem_map.mpr ⟨p, hp, nodup_ix hN e3 e1⟩)
      · exact e' (List.mem_of_getElem? e1)
    have hfr : scope.names.lookup y = some .free := by
      rcases e3 with e3 | e3 | e3
      · exact absurd (.inl rfl) (no _ e3)
      · exact absurd (.inr rfl) (no _ e3)
      · exact e3
    obtain ⟨m, hn, hl⟩ := I.loc
    have hvis : Vis X.env.scope y := (ok.free _ (PySem.mem_of_lookup hfr) rfl).elim (fun k => .inr (.inl k)) (fun k => .inr (.inr k))
    obtain ⟨w, r, q⟩ := hl i y av e1 e2 hvis
    have hk : cenv.kindOf y = some .free := by show cenv.scope.names.lookup y = _; rw [hsc]; exact hfr
    refine ⟨w, r, .inr ⟨.inr hk, ?_⟩⟩
    obtain ⟨c, h1, h2⟩ := look hfr
    rcases q with ⟨k, _⟩ | ⟨_, c', e', z⟩
    · have k : X.env.scope.names.lookup y = some .local := k
      rcases ok.free _ (PySem.mem_of_lookup hfr) rfl with k' | k' <;> rw [show X.env.scope.names.lookup y = _ from k'] at k <;> cases k
    · rw [h2] at e'; cases e'
      exact ⟨c, h1, z.keeps kp⟩
  · have e : cenv.cells.lookup y = some c := e
    rcases mem e with ⟨h1, _⟩ | ⟨_, z⟩
    · obtain ⟨w, z⟩ := I.cell y c h1
      exact ⟨w, z.keeps kp⟩
    · exact z
  · show H cenv.locals = none
    rw [hL]; exact I.hok.fresh (Nat.le_refl _)
  · have e : cenv.cells.lookup y = some c := e
    rcases mem e with ⟨h1, _⟩ | ⟨h1, _⟩
    · exact I.freeC y c h1
    · exact I.hok.fresh (Nat.le_of_succ_le h1)
  · have e : p = (a, go) := by
      have : p ∈ [(a, go)] ++ [] := hp
      simpa using this
    subst e
    refine ⟨ha, I.hok.fresh (Nat.le_of_lt hal), ?_, fun z => ?_, hac⟩
    · show a ≠ cenv.locals
      rw [hL]; exact Nat.ne_of_gt hal
    · rcases List.mem_cons.mp (I.stkSub a z) with z | z
      · have h1 := I.lt
        rw [← z] at h1
        exact absurd (Nat.lt_trans hal h1) (Nat.lt_irrefl _)
      · exact I.nofs (Nat.le_of_lt hal) z
end
end GX
end gx_
section gx2_
set_option maxRecDepth 100000
set_option maxHeartbeats 2000000
namespace GX
open PySem PySem.Spec PyProof.Rows L2 GxR GenW

/-- one generator expression, running: its iterator, its element; W: what holds ahead of the turn i, with a measure, ys handed out; C: what the consumer wants of an item; F: of the end -/
structure GL (G : Cx) (σ0 : L2.St) (vs : List Nat) (J : It) (g : TG) (tt : TT) (te : TE) (W : Nat → Nat → List V → Hp → Prop) (C : (Hp → Prop) → List V → V → Hp → Prop) (F : List V → Hp → Prop) : Prop where
  turn : ∀ i m ys H, W i m ys H → (J.stop i H ∧ F ys H) ∨ (J.go i H ∧ ∀ x H', J.yld i H x H' → g x (wipe σ0 vs) H' fun σ2 H2 => wipe σ2 vs = wipe σ0 vs ∧ tt σ2 H2 fun b H3 =>
    if b = true then te σ2 H3 fun y H4 => C (fun H5 => ∃ m', m' < m ∧ W (i + 1) m' (ys ++ [y]) H5) ys y H4 else ∃ m', m' < m ∧ W (i + 1) m' ys H3)
def GR (G : Cx) (τ : L2.St) (P : List V → List (Addr × Obj) → Prop) (F : List V → Hp → Prop) : GenEnd := fun n s₀ r s => r = .ok .next ∧ ∃ ys H sp, Inv G sp τ H s ∧ P ys sp ∧ F ys H
def GYp (G : Cx) (τ : L2.St) (fp : List Addr) (P : List V → List (Addr × Obj) → Prop) (C : (Hp → Prop) → List V → V → Hp → Prop) : Protocol := fun n s₀ v s kap =>
  ∃ ys y H sp k, RelV y v ∧ Inv G sp τ H s ∧ P ys sp ∧ C k ys y H ∧ ∀ s'' sp'', k H → P (ys ++ [y]) sp'' → Inv G sp'' τ H s'' → (∀ b ∈ fp, ∀ o, s.heap.get? b = some o → s''.heap.get? b = some o) → kap (.send .none) s''

section
variable {G : Cx} {σ0 : L2.St} {vs : List Nat} {J : It} {g : TG} {tt : TT} {te : TE} {W : Nat → Nat → List V → Hp → Prop} {C : (Hp → Prop) → List V → V → Hp → Prop} {F : List V → Hp → Prop}
theorem seg_loop {tg elt iter : Expr} {ifs : List Expr} {scope : Scope} {pos : Pos} {it : Addr} {fp : List Addr} {tn : Nat → Heap → Prop} {Ar : Around} {P : List V → List (Addr × Obj) → Prop}
    (L : GL G σ0 vs J g tt te W C F) (hxe : G.xe = fun _ _ => False) (hcalm : G.calm = true)
    (hA : Ar.over (.compLoop (.GeneratorExp elt [⟨tg, iter, ifs, 0⟩] scope pos) 0 (.ref it) .none G.env) [] = G.A) (hco : G.env.scope.isCoroutine = false)
    (T : Turn G.prog G.w G.K tg J fp it tn) (hfs : ∀ b ∈ fp, b ∈ G.ex) (hPf : ∀ ys sp, P ys sp → ∀ p ∈ G.pn ++ sp, p.1 ∉ fp)
    (pg : PG G tg g) (pt : PTs G ifs tt) (pe : PE G elt te) :
    ∀ (m n i : Nat) (ys : List V) (s₀ s : Shared) (H : Hp) (sp : List (Addr × Obj)), m < n → W i m ys H → Inv G sp (wipe σ0 vs) H s → P ys sp → tn i s.heap → (∀ b ∈ fp, H b = none) →
      Seg (model G.prog G.w) Ar (GR G (wipe σ0 vs) P F) (GYp G (wipe σ0 vs) fp P C) n s₀ (.compLoop (.GeneratorExp elt [⟨tg, iter, ifs, 0⟩] scope pos) 0 (.ref it) .none G.env)
        ((model G.prog G.w).den (.compLoop (.GeneratorExp elt [⟨tg, iter, ifs, 0⟩] scope pos) 0 (.ref it) .none G.env)) [] s := by
  intro m
  induction m using Nat.strongRecOn with
  | ind m ih =>
    intro n i ys s₀ s H sp hmn w I hP st hfn
    have stat : ∀ {σ' : L2.St} {H' : Hp} {s' : Shared}, Inv G sp σ' H' s' → (∀ b ∈ fp, H' b = none) → ∀ b ∈ fp, FpOk G sp H' b := fun {σ' H' s'} I' hn b hb =>
      ⟨hn b hb, (I'.ok.exf b (hfs b hb)).1, I'.ok.exfs b (hfs b hb), .inl (hfs b hb), fun x c e => (I'.ok.exf b (hfs b hb)).2 x c e, fun p hp e => hPf ys sp hP p hp (by rw [e]; exact hb)⟩
    show Seg _ Ar _ _ n s₀ _ ((compTurn (.GeneratorExp elt [⟨tg, iter, ifs, 0⟩] scope pos) 0 (.ref it) .none G.env).onRaise (leaving G.env)) [] s
    rw [compTurn_gen, Sem.onRaise_eq_wrap]
    refine seg_bind_wrap (wpAny_standAt ?_)
    rcases L.turn i m ys H w with ⟨stop, hF⟩ | ⟨go, step⟩
    · refine seg_bind_wrap ?_
      rw [hA]
      refine thnF (T.done G rfl rfl rfl hcalm i sp s _ H (fun _ _ => False) I (stat I hfn) st stop) fun r s1 ⟨hr, I1⟩ => ?_
      subst hr
      exact seg_end (.ok .next) ⟨rfl, ys, H, sp, I1, hP, hF⟩
    · refine seg_bind_wrap ?_
      rw [hA]
      refine thnF (T.item G rfl rfl rfl hcalm i sp s _ H (fun _ _ => False) I (stat I hfn) st go) fun r s1 ⟨u, hr, h1⟩ => ?_
      subst hr
      refine seg_bind_wrap ?_
      rw [hA]
      refine thnF h1 fun _ s2 ⟨x, H2, I2, r2, y2, st2, fn2⟩ => ?_
      have I2' := I2.pinned (stat I2 fn2) (T.obj _ _ st2)
      refine seg_bind_wrap ?_
      rw [hA]
      have hq := pg.run _ s2 _ H2 x u _ I2' r2 (step x H2 y2)
      rw [hxe] at hq
      refine thnF hq fun _ s3 ⟨σ3, H3, I3, hw3, q3⟩ => ?_
      refine seg_bind_wrap ?_
      rw [hA]
      have hq := pt.run _ s3 σ3 H3 _ I3 q3
      rw [hxe] at hq
      refine thnF hq fun ok s4 ⟨H4, I4, q4⟩ => ?_
      have back : ∀ {s' : Shared} {H' : Hp}, Inv G (sp ++ pinsAt fp s2.heap) σ3 H' s' → Inv G sp (wipe σ0 vs) H' s' ∧ tn (i + 1) s'.heap ∧ ∀ b ∈ fp, H' b = none := fun {s' H'} I' => by
        have pin' : ∀ b ∈ fp, ∀ o, s2.heap.get? b = some o → s'.heap.get? b = some o ∧ H' b = none := fun b hb o e =>
          let z := I'.pin (b, o) (List.mem_append_right _ (List.mem_append_right _ (mem_pinsAt hb e)))
          ⟨z.1, z.2.1⟩
        have hl : (wipe σ0 vs).length = σ3.length := by rw [← hw3, wipe_length]
        refine ⟨I'.unpinned.weak hl (fun j v e => ?_), T.keep _ _ _ st2 fun b hb o e => (pin' b hb o e).1, fun b hb => ?_⟩
        · rw [← hw3] at e
          exact (wipe_some e).1
        · obtain ⟨o, e, _⟩ := T.obj _ _ st2 b hb
          exact (pin' b hb o e).2
      cases ok with
      | false =>
        simp only [Bool.false_eq_true, if_false] at q4 ⊢
        obtain ⟨m', hm, w'⟩ := q4
        obtain ⟨I5, st5, fn5⟩ := back I4
        exact seg_again rfl (ih m' hm n (i + 1) ys s₀ s4 H4 sp (by omega) w' I5 hP st5 fn5)
      | true =>
        simp only [if_true] at q4 ⊢
        have hy : ∀ v, yieldOut G.env v = yieldValue v := fun v => by simp only [yieldOut, hco, Bool.false_eq_true, if_false]
        simp only [hy]
        rw [Sem.bind_eq_wrap', Sem.bind_eq_wrap', Sem.wrap_wrap, Sem.wrap_wrap]
        refine seg_wrap ?_
        rw [hA]
        have hq := pe.run _ s4 σ3 H4 _ I4 q4
        rw [hxe] at hq
        refine thnF hq fun v s5 ⟨y, H5, I5, r5, c5⟩ => ?_
        obtain ⟨n, rfl⟩ : ∃ k, n = k + 1 := ⟨n - 1, by omega⟩
        obtain ⟨I6, st6, fn6⟩ := back I5
        refine seg_at (seg_yield rfl rfl rfl ⟨ys, y, H5, sp, _, r5, I6, hP, c5, fun s'' sp'' hk hP' I7 hfp => ?_⟩)
        obtain ⟨m', hm, w'⟩ := hk
        exact seg_again rfl (ih m' hm n (i + 1) (ys ++ [y]) s'' s'' H5 sp'' (by omega) w' I7 hP' (T.keep _ _ _ st6 hfp) fn6)

/-- from the generator's start -/
theorem seg_start {tg elt iter : Expr} {ifs : List Expr} {scope : Scope} {pos : Pos} {it : Addr} {fp : List Addr} {tn : Nat → Heap → Prop} {Ar : Around} {P : List V → List (Addr × Obj) → Prop}
    (L : GL G σ0 vs J g tt te W C F) (hxe : G.xe = fun _ _ => False) (hcalm : G.calm = true)
    (hA : Ar.over (.compLoop (.GeneratorExp elt [⟨tg, iter, ifs, 0⟩] scope pos) 0 (.ref it) .none G.env) [] = G.A) (hco : G.env.scope.isCoroutine = false)
    (T : Turn G.prog G.w G.K tg J fp it tn) (hfs : ∀ b ∈ fp, b ∈ G.ex) (hPf : ∀ ys sp, P ys sp → ∀ p ∈ G.pn ++ sp, p.1 ∉ fp)
    (pg : PG G tg g) (pt : PTs G ifs tt) (pe : PE G elt te)
    (m n : Nat) (s₀ s : Shared) (H : Hp) (sp : List (Addr × Obj)) (hmn : m < n) (w : W 0 m [] H) (I : Inv G sp (wipe σ0 vs) H s) (hP : P [] sp) (st : tn 0 s.heap) (hfn : ∀ b ∈ fp, H b = none) :
    Seg (model G.prog G.w) Ar (GR G (wipe σ0 vs) P F) (GYp G (wipe σ0 vs) fp P C) n s₀ (.compStart (.GeneratorExp elt [⟨tg, iter, ifs, 0⟩] scope pos) 0 (.ref it) .none G.env)
        ((model G.prog G.w).den (.compStart (.GeneratorExp elt [⟨tg, iter, ifs, 0⟩] scope pos) 0 (.ref it) .none G.env)) [] s := by
  have loop := seg_loop L hxe hcalm hA hco T hfs hPf pg pt pe m n 0 [] s₀ s H sp hmn w I hP st hfn
  show Seg _ Ar _ _ n s₀ _ ((compStart (.GeneratorExp elt [⟨tg, iter, ifs, 0⟩] scope pos) 0 (.ref it) .none G.env).onRaise (leaving G.env)) [] s
  unfold compStart
  rw [Sem.onRaise_eq_wrap]
  show Seg _ Ar _ _ _ s₀ _ ((ask >>= _).wrap _ _ _ _) [] s
  refine seg_bind_wrap (wpAny_askSetting ?_)
  split
  · exact seg_again rfl loop
  · first
      | exact seg_bind_wrap (wpAny_rule (seg_bind_wrap (wpAny_standAt (seg_bind_wrap (T.self _ 0 s _ _ st (seg_again rfl loop))))))
      | (refine seg_bind_wrap (wpAny_rule ?_); show Seg _ Ar _ _ _ s₀ _ ((standAt iter.pos >>= _).wrap _ _ _ _) [] s; exact seg_bind_wrap (wpAny_standAt (seg_bind_wrap (T.self _ 0 s _ _ st (seg_again rfl loop)))))
end
end GX
end gx2_
section tb_
set_option maxRecDepth 100000
set_option maxHeartbeats 2000000
namespace GX
open PySem PySem.Spec PyProof.Rows L2 LamX
/-! ### tables of code objects -/
/-- the table at P; a code object told at a place bears the name that qs says of the place -/
def TabA (H : Hp) (P : Addr) (qs : Nat → Nat → Str) : Prop := ∃ ps : Array Value, H P = some (.tbl ps) ∧ TriplesOk ps.toList ∧ ∀ (pos : Pos) (cv : Value), codeAmong pos ps.toList = some cv → ∃ c, cv = .ref c ∧ H c = some (CodeO c (qs pos.line pos.col))
/-- the table at P may have grown, all else is kept -/
def Tbd (P : Addr) (qs : Nat → Nat → Str) (H H' : Hp) : Prop := TabA H' P qs ∧ ∀ b o, b ≠ P → H b = some o → H' b = some o
theorem among_app2 {pos p' : Pos} {c cv : Value} (l : List Value) (h : TriplesOk l) (hc : codeAmong p' (l ++ [rawInt pos.line, rawInt pos.col, c]) = some cv) : codeAmong p' l = some cv ∨ (cv = c ∧ p'.line = pos.line ∧ p'.col = pos.col) := by
  fun_induction TriplesOk l with
  | case1 =>
    simp only [List.nil_append, rawInt, codeAmong] at hc
    split at hc
    · rename_i q
      simp only [Bool.and_eq_true, beq_iff_eq] at q
      exact .inr ⟨(Option.some.inj hc).symm, by omega, by omega⟩
    · cases hc
  | case2 a t b u x rest ih =>
    simp only [List.cons_append, codeAmong] at hc ⊢
    split at hc
    · rename_i q
      rw [if_pos q]
      exact .inl hc
    · rename_i q
      rw [if_neg q]
      exact ih h hc
  | _ => simp_all
theorem TabA.nil {H : Hp} {P : Addr} {qs : Nat → Nat → Str} (h : H P = some (.tbl #[])) : TabA H P qs := ⟨#[], h, True.intro, fun pos cv hc => by
  have z : codeAmong pos [] = some cv := hc
  simp [codeAmong] at z⟩
theorem TabA.ne {H : Hp} {P c : Addr} {qs : Nat → Nat → Str} (t : TabA H P qs) (h : H c = none) : P ≠ c := by
  obtain ⟨ps, h1, _⟩ := t
  exact ne_of_none h1 h
/-- all is kept -/
theorem TabA.ext {H H' : Hp} {P : Addr} {qs : Nat → Nat → Str} (t : TabA H P qs) (e : ∀ b o, H b = some o → H' b = some o) : TabA H' P qs := by
  obtain ⟨ps, h1, h2, h3⟩ := t
  refine ⟨ps, e _ _ h1, h2, fun pos cv hc => ?_⟩
  obtain ⟨c, e1, e2⟩ := h3 pos cv hc
  exact ⟨c, e1, e _ _ e2⟩
theorem TabA.grow {H : Hp} {P c : Addr} {qs : Nat → Nat → Str} {ps : Array Value} {pos : Pos} (hP : H P = some (.tbl ps)) (ht : TriplesOk ps.toList) (h3 : ∀ (pos : Pos) (cv : Value), codeAmong pos ps.toList = some cv → ∃ c, cv = .ref c ∧ H c = some (CodeO c (qs pos.line pos.col))) (hc : H c = none) :
    Tbd P qs H (upd (upd H P (.tbl (ps ++ #[rawInt pos.line, rawInt pos.col, .ref c]))) c (CodeO c (qs pos.line pos.col))) := by
  have nPc : P ≠ c := ne_of_none hP hc
  have eL : (ps ++ #[rawInt pos.line, rawInt pos.col, .ref c]).toList = ps.toList ++ [rawInt pos.line, rawInt pos.col, .ref c] := by simp
  have keep : ∀ b o, b ≠ P → H b = some o → upd (upd H P (.tbl (ps ++ #[rawInt pos.line, rawInt pos.col, .ref c]))) c (CodeO c (qs pos.line pos.col)) b = some o := fun b o hb e => by
    rw [upd_ne (ne_of_none e hc), upd_ne hb]
    exact e
  refine ⟨⟨_, by rw [upd_ne nPc, upd_same], by rw [eL]; exact PySem.TriplesOk_snoc _ _ _ _ ht, fun p' cv hcv => ?_⟩, keep⟩
  rw [eL] at hcv
  rcases among_app2 _ ht hcv with z | ⟨z, z1, z2⟩
  · obtain ⟨c0, e1, e2⟩ := h3 p' cv z
    have nb : c0 ≠ P := fun e => by
      rw [e, hP] at e2
      unfold CodeO at e2
      cases e2
    exact ⟨c0, e1, keep _ _ nb e2⟩
  · exact ⟨c, z, by rw [upd_same, z1, z2]⟩
end GX
end tb_
section gx3_
set_option maxRecDepth 100000
set_option maxHeartbeats 2000000
namespace GX
open PySem PySem.Spec PyProof.Rows L2 GenW LamX

theorem eval_gen1 (elt target iter : Expr) (ifs : List Expr) (scope : Scope) (pos : Pos) (env : Env) (hco : scope.isCoroutine = false) :
    eval (.GeneratorExp elt [⟨target, iter, ifs, 0⟩] scope pos) env = (do
      let x ← eval iter env
      standAt iter.pos
      let x ← genFold iter env x
      let it ← holding [x] (pyIter x)
      enterFrame
      let cl ← closureFor scope env
      let code ← genexprCode env pos (env.qual ++ "<genexpr>") scope
      let bi ← builtinsFor env.globals env.builtins
      let cenv ← newFunctionEnv scope env.globals cl [(".0", it)] (env.qual ++ "<genexpr>.") none code none bi
      newGenerator (.compStart (.GeneratorExp elt [⟨target, iter, ifs, 0⟩] scope pos) 0 it .none cenv) "<genexpr>" (env.qual ++ "<genexpr>")) :=
  eval_GeneratorExp1 elt target iter ifs scope pos env hco

/-- a generator that has just been made in X: a its object, s5 the state; R: what its iterator's making wanted -/
structure Made (X : Cx) (pins : List (Addr × Obj)) (σ : L2.St) (tg elt iter : Expr) (ifs : List Expr) (scope : Scope) (pos : Pos) (own : List (Str × Nat)) (R : It → Hp → Prop) (a : Addr) (s5 : Shared) where
  s4 : Shared
  H4 : Hp
  J : It
  it : Addr
  fp : List Addr
  tn : Nat → Heap → Prop
  cd : Value
  go : Obj
  gi : Nat
  r : R J H4
  inv : ∀ A' : Around, A'.frames = some (genv X s4 scope cd :: X.stack) → A'.handled = none → Inv (gcx X s4 H4 scope (genv X s4 scope cd) fp A' [(a, go)]) [] (wipe σ (own.map (·.2))) H4 s5
  turn : Turn X.prog X.w X.K tg J fp it tn
  st : tn 0 s5.heap
  fn : ∀ b ∈ fp, H4 b = none
  gen : ∀ h : Heap, h.get? a = some go → h.IsGen a gi
  at_ : s5.heap.get? a = some go
  fresh : s5.gens[gi]? = some (.fresh (.compStart (.GeneratorExp elt [⟨tg, iter, ifs, 0⟩] scope pos) 0 (.ref it) .none (genv X s4 scope cd)))
  out : Inv X pins σ H4 s4
  fpo : ∀ b ∈ fp, FpOk X pins H4 b ∧ b < s4.heap.objs.size
  keep : ∀ b o, s4.heap.get? b = some o → s5.heap.get? b = some o
  young : s4.heap.objs.size < a

section
variable {X : Cx} {pins : List (Addr × Obj)} {σ : L2.St} {H : Hp} {s : Shared}
theorem gen_make {c P : Addr} {tg elt iter : Expr} {ifs : List Expr} {scope : Scope} {own : List (Str × Nat)} {gpos : Pos} {qs : Nat → Nat → Str} {wi : TI} {k : Nat} {Q' : Value → Shared → Prop} {R : It → Hp → Prop}
    (hr : Room k X.A) (hq : qs gpos.line gpos.col = X.env.qual ++ "<genexpr>") (hN : X.N.Nodup) (TB : TabB X.base X.mg c P) (hcode : X.env.code = .ref c) (ok : BlkOk X.N X.env.scope scope own) (hco : scope.isCoroutine = false) (h0 : scope.names.lookup (".0" : Str) = some NameKind.local)
    (hi : PI X tg iter wi) (hs : ∀ v, genFold iter X.env v = pure v) (I : Inv X pins σ H s) (h : wi σ H fun J H1 => TabA H1 P qs ∧ ∀ H2, Tbd P qs H1 H2 → R J H2)
    (hQ : ∀ a s5, Nonempty (Made X pins σ tg elt iter ifs scope gpos own R a s5) → Q' (.ref a) s5) :
    wpAny (model X.prog X.w) X.A (eval (.GeneratorExp elt [⟨tg, iter, ifs, 0⟩] scope gpos) X.env) Q' X.xe s := by
  have hfree : ∀ y ∈ scope.names, y.2 = .free → ∃ c, X.env.cells.lookup y.1 = some c := fun y hy e => by
    rcases ok.free y hy e with k | k
    · exact I.ok.has _ (.inl k)
    · exact I.ok.has _ (.inr k)
  rw [eval_gen1 _ _ _ _ _ _ _ hco, closure_ok hfree]
  refine wpAny_bind (thn (hi.run pins s σ H _ I h) fun xv s1 h1 => ?_)
  refine wpAny_bind (wpAny_standAt ?_)
  refine wpAny_bind (wpAny_of_eq (hs xv) ?_)
  refine wpAny_bind (wpAny_holding (thn h1 fun itv s2 h2 => ?_))
  obtain ⟨it, fp, tn, J, H2, e, I2, T, st2, f2, ⟨ps, hP, ht, hta⟩, q⟩ := h2
  subst e
  refine wpAny_bind (wpAny_enterFrame I2.nolimit (by have := hr.dp; omega) ?_)
  refine wpAny_bind (wpAny_pure ?_)
  have hPs : s2.heap.get? P = some { cls := .none, data := .fields ps } := I2.hok P _ hP
  have cd : PySem.W.CodeHd s2.heap c P := TB.code.keeps fun b u e => I2.bk b u e
  have fpP : ∀ b ∈ fp, b ≠ P := fun b hb e => by
    have := (f2 b hb).1
    rw [e, hP] at this; cases this
  have fplt : ∀ b ∈ fp, b < s2.heap.objs.size := fun b hb => by
    obtain ⟨o, e, _⟩ := T.obj _ _ st2 b hb
    exact Heap.lt_size e
  have cont : ∀ (code : Value) (h3 : Heap) (tk : Nat) (H3 : Hp), Heap.ExtBut P s2.heap h3 → s2.heap.objs.size ≤ h3.objs.size → Inv X pins σ H3 { s2 with heap := h3, toks := tk } → Tbd P qs H2 H3 → (∀ b ∈ fp, H3 b = none) →
      wpAny (model X.prog X.w) X.A (do
        let bi ← builtinsFor X.env.globals X.env.builtins
        let cenv ← newFunctionEnv scope X.env.globals (cloFrom X.env.cells scope.names []) [(".0", .ref it)] (X.env.qual ++ "<genexpr>.") none code none bi
        newGenerator (.compStart (.GeneratorExp elt [⟨tg, iter, ifs, 0⟩] scope gpos) 0 (.ref it) .none cenv) "<genexpr>" (X.env.qual ++ "<genexpr>")) Q' X.xe { s2 with heap := h3, toks := tk } := by
    intro code h3 tk H3 hx hsz I3 htb hf0
    obtain ⟨bm, ob, e1, e2, e3, e4, e5, e6, e7, e8⟩ := TB.bm
    have keep3 : ∀ b u, b ≠ P → s2.heap.get? b = some u → h3.get? b = some u := fun b u hb e => hx b u hb e
    refine wpAny_bind (wpAny_builtinsFor (m := X.mg) (by rw [I2.ok.glob]; exact (I2.mod.glob.keeps I2.bk).extBut hx TB.gP) e1 e2 (keep3 _ _ e4 (I2.bk _ _ e5)) e6 e7 e8 ?_)
    have hq3 : R J H3 := q _ htb
    have f3 : ∀ b ∈ fp, FpOk X pins H3 b ∧ b < h3.objs.size := fun b hb => ⟨⟨hf0 b hb, (f2 b hb).2⟩, Nat.lt_of_lt_of_le (fplt b hb) hsz⟩
    have st3 : tn 0 h3 := T.keep _ _ _ st2 fun b hb o e => keep3 b o (fpP b hb) e
    generalize hs3 : ({ s2 with heap := h3, toks := tk } : Shared) = s3 at I3
    have h3e : s3.heap = h3 := by rw [← hs3]
    rw [← h3e] at f3 st3
    refine wpAny_bind (newEnv_gen ok.kind h0 fun h' tk' m hns hsb => ?_)
    simp only [newGenerator, newFields]
    refine wpAny_bind (wpAny_newGen (wpAny_bind (wpAny_mkText (wpAny_bind (wpAny_mkText (wpAny_newObj_type ?_ (by size_fits)))))))
    have hsz' : h'.objs.size = (pushCells (s3.heap.push { cls := .type "frame", data := .dict #[] }) scope.names).objs.size := hsb.1
    have hge : s3.heap.objs.size < h'.objs.size := hns.lt
    have kp : ∀ b o, b ≠ s3.heap.objs.size → (pushCells (s3.heap.push { cls := .type "frame", data := .dict #[] }) scope.names).get? b = some o → h'.get? b = some o := fun b o hb e => (hsb.2 b hb).trans e
    have kp3 : ∀ b o, s3.heap.get? b = some o → h'.get? b = some o := fun b o e => kp b o (Nat.ne_of_lt (Heap.lt_size e)) (pushCells_keeps _ _ _ _ (Heap.get?_push_of_some _ e))
    refine hQ _ _ ⟨⟨s3, H3, J, it, fp, tn, code, _, s3.gens.size, hq3, fun A' hAf hAh => ?_, T, ?_, fun b hb => (f3 b hb).1.1, fun h e => ⟨_, _, _, e, rfl, rfl, rfl⟩, Heap.get?_push_size _ rfl, ?_, I3, f3, fun b o e => Heap.get?_push_of_some _ (kp3 b o e), hge⟩⟩
    · exact gen_start (h5 := h'.push _) (g' := s3.gens.push _) I3 ok hN f3 hAf hAh (hns.push _) (fun b o hb e => Heap.get?_push_of_some _ (kp b o hb e)) (Heap.get?_push_size _ rfl) hge (fun v e => by cases e) (I3.bare.push rfl)
    · exact T.keep _ _ _ st3 fun b hb o e => Heap.get?_push_of_some _ (kp3 b o e)
    · exact Array.getElem?_push_size ..
  cases hf : codeAmong gpos ps.toList with
  | none =>
    refine wpAny_bind (wpAny_genexprCodeX hcode (cd.code hPs ht) (cd.tab hPs) hf fun c' h' tk hx hge hlt _ hrec htab' _ => ?_)
    obtain ⟨c2, oc, vs, t, e2, hoc, hd, hv⟩ := hrec
    cases e2
    have nC : H2 c' = none := I2.hok.fresh hge
    have g := TabA.grow (pos := gpos) hP ht hta nC
    rw [hq] at g
    refine cont _ h' tk _ hx (Nat.le_trans hge (Nat.le_of_lt hlt)) (inv_table (t' := tk) (more := #[rawInt gpos.line, rawInt gpos.col, .ref c']) (q := X.env.qual ++ "<genexpr>") I2 hP (fun b o hb e => hx b o hb e) htab'.2 hge ⟨oc, vs, t, hoc, hd, hv⟩) g fun b hb => ?_
    rw [upd_ne (Nat.ne_of_lt (Nat.lt_of_lt_of_le (fplt b hb) hge)), upd_ne (fpP b hb)]
    exact (f2 b hb).1
  | some cv =>
    refine wpAny_bind (wpAny_genexprCode_hit hcode (cd.code hPs ht) hf ?_)
    exact cont cv s2.heap s2.toks H2 (Heap.ExtBut.refl _ _) (Nat.le_refl _) (I2.tok _) ⟨⟨ps, hP, ht, hta⟩, fun _ _ _ e => e⟩ fun b hb => (f2 b hb).1
end
end GX
end gx3_
section gx4_
set_option maxRecDepth 100000
set_option maxHeartbeats 2000000
namespace GX
open PySem PySem.Spec PyProof.Rows L2 GenW LamX

theorem Inv.gens' {X : Cx} {pins : List (Addr × Obj)} {σ : L2.St} {H : Hp} {s : Shared} {g' : Array GenState} (I : L2.Inv X pins σ H s) (hg : AllBare g') : L2.Inv X pins σ H { s with gens := g' } :=
  ⟨I.ok, I.os, hg, I.base, I.loc, I.cell, I.free, I.freeC, I.pin, I.hok, I.len⟩

section
variable {G : Cx} {τ : L2.St} {fp : List Addr} {P : List V → List (Addr × Obj) → Prop} {C : (Hp → Prop) → List V → V → Hp → Prop} {F : List V → Hp → Prop}
/-- the generator's next item -/
theorem next_gx {A : Around} {E : Value → Shared → Prop} {s : Shared} {a : Addr} {gi n : Nat} {gs : GenState} {Q : Option Value → Shared → Prop}
    (hh : A.handled = none) (hroom : A.depth < recursionLimit) (hl : s.heap.NoLimit) (hg : s.heap.IsGen a gi) (hgs : s.gens[gi]? = some gs)
    (hgo : gs.Goes (model G.prog G.w) A.in1 (GR G τ P F) (GYp G τ fp P C) n (.send .none) (s.setGen gi .running))
    (hY : ∀ (v : Value) (s₁ : Shared) (gs' : GenState) (ys : List V) (y : V) (H : Hp) (sp : List (Addr × Obj)) (k : Hp → Prop), gs'.bare = true → gi < s₁.gens.size → RelV y v → L2.Inv G sp τ H s₁ → P ys sp → C k ys y H →
      (∀ s'' sp'', k H → P (ys ++ [y]) sp'' → L2.Inv G sp'' τ H s'' → (∀ b ∈ fp, ∀ o, s₁.heap.get? b = some o → s''.heap.get? b = some o) → ∃ m, n = m + 1 ∧ gs'.Goes (model G.prog G.w) A.in1 (GR G τ P F) (GYp G τ fp P C) m (.send .none) s'') → Q (some v) (s₁.setGen gi gs'))
    (hF : ∀ s' ys H sp, L2.Inv G sp τ H s' → P ys sp → F ys H → Q none s') :
    wpAny (model G.prog G.w) A (pyNext (.ref a)) Q E s := by
  have hgl : gi < s.gens.size := (Array.getElem?_eq_some_iff.mp hgs).1
  refine wpAny_gsz (n := gi + 1) hgl ?_
  refine wpAny_pyNext_genexpQ (P := fun n s₀ s => ∃ ys H sp, L2.Inv G sp τ H s ∧ P ys sp ∧ F ys H) hh hl hroom hg hgs hgo (fun v s₁ gs' hb hv hsz => ?_) (fun s₁ hp h' hk hsz => ?_)
  · obtain ⟨ys, y, H, sp, k, r, I, hP, hC, hkap⟩ := hv
    refine hY v s₁ gs' ys y H sp k hb (by have : (s₁.setGen gi gs').gens.size = s₁.gens.size := setGen_size _ _ _; omega) r I hP hC fun s'' sp'' h1 h2 h3 h4 => ?_
    have z := hkap s'' sp'' h1 h2 h3 h4
    cases n with
    | zero => exact False.elim z
    | succ m => exact ⟨m, rfl, z⟩
  · obtain ⟨ys, H, sp, I, hP, hF'⟩ := hp
    have I2 := Inv.gens' (g' := (s₁.setGen gi .finished).gens) I (allBare_setGen I.bare rfl)
    exact hF _ ys H sp (I2.kept (h' := h') (t' := s₁.toks) hk) hP hF'

def Pnil : List V → List (Addr × Obj) → Prop := fun _ sp => sp = []
def Call_ (Qf : Hp → Prop) : (Hp → Prop) → List V → V → Hp → Prop := fun k _ y H => ∃ b, y = .bl b ∧ if b = true then k H else Qf H
def Cany (Qt : Hp → Prop) : (Hp → Prop) → List V → V → Hp → Prop := fun k _ y H => ∃ b, y = .bl b ∧ if b = true then Qt H else k H

theorem all_loop {A : Around} {R : Result → Shared → Prop} {a : Addr} {gi : Nat} {go : Obj} {Qt Qf : Hp → Prop} (hh : A.handled = none) (hroom : A.depth < recursionLimit) (hpn : (a, go) ∈ G.pn) (hgen : ∀ h : Heap, h.get? a = some go → h.IsGen a gi)
    (ht : ∀ s' H, L2.Inv G [] τ H s' → Qt H → R (.ok (.ret (.bool true))) s') (hf : ∀ s' H, L2.Inv G [] τ H s' → Qf H → R (.ok (.ret (.bool false))) s') :
    ∀ (n : Nat) (s : Shared) (gs : GenState), s.heap.NoLimit → s.heap.IsGen a gi → s.gens[gi]? = some gs →
      gs.Goes (model G.prog G.w) A.in1.in1 (GR G τ Pnil (fun _ => Qt)) (GYp G τ fp Pnil (Call_ Qf)) n (.send .none) (s.setGen gi .running) →
      codeAny (model G.prog G.w) A (.builtin "all.loop" ⟨[.ref a], []⟩) R s := by
  intro n
  induction n with
  | zero =>
    intro s gs hl hg hgs hgo
    refine codeAny_builtin F.entry_all_loop ?_
    rw [Around.under_plainId F.plain_all_loop _]
    show wpAny _ A.in1 (pyNext (.ref a) >>= _) _ _ s
    refine wpAny_bind (next_gx hh hroom hl hg hgs hgo (fun v s₁ gs' ys y H sp k hb hsz r I hP hC hk => ?_) (fun s' ys H sp I hP hF => ?_))
    · obtain ⟨b, rfl, hC⟩ := hC
      cases r
      cases hP
      refine wpAny_bind (wpAny_holding (wpAny_truthy_bool ?_))
      refine wpAny_bind (wpAny_letGo ?_)
      cases b with
      | true =>
        obtain ⟨m, e, _⟩ := hk (s₁.setGen gi .running) [] hC rfl (Inv.gens' I (allBare_setGen I.bare rfl)) fun _ _ _ e => e
        cases e
      | false =>
        simp only [Bool.false_eq_true, if_false]
        exact wpAny_bind (wpAny_rule (wpAny_pure (hf _ H (Inv.gens' I (allBare_setGen I.bare hb)) hC)))
    · cases hP
      exact wpAny_bind (wpAny_rule (wpAny_pure (ht _ H I hF)))
  | succ n ih =>
    intro s gs hl hg hgs hgo
    refine codeAny_builtin F.entry_all_loop ?_
    rw [Around.under_plainId F.plain_all_loop _]
    show wpAny _ A.in1 (pyNext (.ref a) >>= _) _ _ s
    refine wpAny_bind (next_gx hh hroom hl hg hgs hgo (fun v s₁ gs' ys y H sp k hb hsz r I hP hC hk => ?_) (fun s' ys H sp I hP hF => ?_))
    · obtain ⟨b, rfl, hC⟩ := hC
      cases r
      cases hP
      refine wpAny_bind (wpAny_holding (wpAny_truthy_bool ?_))
      refine wpAny_bind (wpAny_letGo ?_)
      cases b with
      | true =>
        simp only [if_true] at hC ⊢
        refine wpAny_pure ⟨plainId_quiet F.plain_all_loop _, ?_⟩
        have I2 : L2.Inv G [] τ H (s₁.setGen gi gs') := Inv.gens' I (allBare_setGen I.bare hb)
        obtain ⟨m, e, hgo'⟩ := hk ((s₁.setGen gi gs').setGen gi .running) [] hC rfl (Inv.gens' I2 (allBare_setGen I2.bare rfl)) fun _ _ _ e => e
        cases e
        exact ih (s₁.setGen gi gs') gs' I2.nolimit (hgen _ (I2.pin (a, go) (List.mem_append_left _ hpn)).1) (setGen_at hsz) hgo'
      | false =>
        simp only [Bool.false_eq_true, if_false]
        exact wpAny_bind (wpAny_rule (wpAny_pure (hf _ H (Inv.gens' I (allBare_setGen I.bare hb)) hC)))
    · cases hP
      exact wpAny_bind (wpAny_rule (wpAny_pure (ht _ H I hF)))

theorem any_loop {A : Around} {R : Result → Shared → Prop} {a : Addr} {gi : Nat} {go : Obj} {Qt Qf : Hp → Prop} (hh : A.handled = none) (hroom : A.depth < recursionLimit) (hpn : (a, go) ∈ G.pn) (hgen : ∀ h : Heap, h.get? a = some go → h.IsGen a gi)
    (ht : ∀ s' H, L2.Inv G [] τ H s' → Qt H → R (.ok (.ret (.bool true))) s') (hf : ∀ s' H, L2.Inv G [] τ H s' → Qf H → R (.ok (.ret (.bool false))) s') :
    ∀ (n : Nat) (s : Shared) (gs : GenState), s.heap.NoLimit → s.heap.IsGen a gi → s.gens[gi]? = some gs →
      gs.Goes (model G.prog G.w) A.in1.in1 (GR G τ Pnil (fun _ => Qf)) (GYp G τ fp Pnil (Cany Qt)) n (.send .none) (s.setGen gi .running) →
      codeAny (model G.prog G.w) A (.builtin "any.loop" ⟨[.ref a], []⟩) R s := by
  intro n
  induction n with
  | zero =>
    intro s gs hl hg hgs hgo
    refine codeAny_builtin F.entry_any_loop ?_
    rw [Around.under_plainId F.plain_any_loop _]
    show wpAny _ A.in1 (pyNext (.ref a) >>= _) _ _ s
    refine wpAny_bind (next_gx hh hroom hl hg hgs hgo (fun v s₁ gs' ys y H sp k hb hsz r I hP hC hk => ?_) (fun s' ys H sp I hP hF => ?_))
    · obtain ⟨b, rfl, hC⟩ := hC
      cases r
      cases hP
      refine wpAny_bind (wpAny_holding (wpAny_truthy_bool ?_))
      refine wpAny_bind (wpAny_letGo ?_)
      cases b with
      | false =>
        obtain ⟨m, e, _⟩ := hk (s₁.setGen gi .running) [] hC rfl (Inv.gens' I (allBare_setGen I.bare rfl)) fun _ _ _ e => e
        cases e
      | true =>
        simp only [if_true]
        exact wpAny_bind (wpAny_rule (wpAny_pure (ht _ H (Inv.gens' I (allBare_setGen I.bare hb)) hC)))
    · cases hP
      exact wpAny_bind (wpAny_rule (wpAny_pure (hf _ H I hF)))
  | succ n ih =>
    intro s gs hl hg hgs hgo
    refine codeAny_builtin F.entry_any_loop ?_
    rw [Around.under_plainId F.plain_any_loop _]
    show wpAny _ A.in1 (pyNext (.ref a) >>= _) _ _ s
    refine wpAny_bind (next_gx hh hroom hl hg hgs hgo (fun v s₁ gs' ys y H sp k hb hsz r I hP hC hk => ?_) (fun s' ys H sp I hP hF => ?_))
    · obtain ⟨b, rfl, hC⟩ := hC
      cases r
      cases hP
      refine wpAny_bind (wpAny_holding (wpAny_truthy_bool ?_))
      refine wpAny_bind (wpAny_letGo ?_)
      cases b with
      | false =>
        simp only [Bool.false_eq_true, if_false] at hC ⊢
        refine wpAny_pure ⟨plainId_quiet F.plain_any_loop _, ?_⟩
        have I2 : L2.Inv G [] τ H (s₁.setGen gi gs') := Inv.gens' I (allBare_setGen I.bare hb)
        obtain ⟨m, e, hgo'⟩ := hk ((s₁.setGen gi gs').setGen gi .running) [] hC rfl (Inv.gens' I2 (allBare_setGen I2.bare rfl)) fun _ _ _ e => e
        cases e
        exact ih (s₁.setGen gi gs') gs' I2.nolimit (hgen _ (I2.pin (a, go) (List.mem_append_left _ hpn)).1) (setGen_at hsz) hgo'
      | true =>
        simp only [if_true]
        exact wpAny_bind (wpAny_rule (wpAny_pure (ht _ H (Inv.gens' I (allBare_setGen I.bare hb)) hC)))
    · cases hP
      exact wpAny_bind (wpAny_rule (wpAny_pure (hf _ H I hF)))
end

/-! ### the forms -/
/-- what is asked of all(..): Qt the way of true, Qf of false -/
def tGen (P : Addr) (qs : Nat → Nat → Str) (wi : TI) (g : TG) (tt : TT) (te : TE) (vs : List Nat) (C : (Hp → Prop) → List V → V → Hp → Prop) (F : List V → Hp → Prop) : L2.St → Hp → Prop := fun σ H => wi σ H fun J H1 => TabA H1 P qs ∧ ∀ H2, Tbd P qs H1 H2 →
  ∃ W : Nat → Nat → List V → Hp → Prop, (∃ m, W 0 m [] H2) ∧ ∀ i m ys H, W i m ys H → (J.stop i H ∧ F ys H) ∨ (J.go i H ∧ ∀ x H', J.yld i H x H' → g x (wipe σ vs) H' fun σ2 H2 => wipe σ2 vs = wipe σ vs ∧ tt σ2 H2 fun b H3 =>
    if b = true then te σ2 H3 fun y H4 => C (fun H5 => ∃ m', m' < m ∧ W (i + 1) m' (ys ++ [y]) H5) ys y H4 else ∃ m', m' < m ∧ W (i + 1) m' ys H3)
def tAll (P : Addr) (qs : Nat → Nat → Str) (wi : TI) (g : TG) (tt : TT) (te : TE) (vs : List Nat) : TE := fun σ H Q => tGen P qs wi g tt te vs (Call_ (Q (.bl false))) (fun _ => Q (.bl true)) σ H
def tAny (P : Addr) (qs : Nat → Nat → Str) (wi : TI) (g : TG) (tt : TT) (te : TE) (vs : List Nat) : TE := fun σ H Q => tGen P qs wi g tt te vs (Cany (Q (.bl true))) (fun _ => Q (.bl false)) σ H

section
variable {X : Cx} {pins : List (Addr × Obj)} {σ : L2.St} {H : Hp} {s : Shared}
theorem over_gen {A : Around} {elt tg iter : Expr} {ifs : List Expr} {scope : Scope} {pos : Pos} {it : Value} {env : Env} {l : List Env} (h : A.frames = some l) :
    (A.over (.compLoop (.GeneratorExp elt [⟨tg, iter, ifs, 0⟩] scope pos) 0 it .none env) []).frames = some (env :: l) ∧ (A.over (.compLoop (.GeneratorExp elt [⟨tg, iter, ifs, 0⟩] scope pos) 0 it .none env) []).depth = A.depth + 1 ∧
      (A.over (.compLoop (.GeneratorExp elt [⟨tg, iter, ifs, 0⟩] scope pos) 0 it .none env) []).units = A.units + 3 ∧ (A.over (.compLoop (.GeneratorExp elt [⟨tg, iter, ifs, 0⟩] scope pos) 0 it .none env) []).handled = A.handled := by
  refine ⟨?_, rfl, rfl, rfl⟩
  show pushEnvs [env] (pushEnvs [] A.frames) = _
  rw [h]
  rfl
/-- back in the def's context -/
theorem Made.back {tg elt iter : Expr} {ifs : List Expr} {scope : Scope} {pos : Pos} {own : List (Str × Nat)} {R : It → Hp → Prop} {a : Addr} {s5 s' : Shared} {H' : Hp} {A' : Around} {sp : List (Addr × Obj)} {τ : L2.St}
    (M : Made X pins σ tg elt iter ifs scope pos own R a s5) (I : L2.Inv (gcx X M.s4 M.H4 scope (genv X M.s4 scope M.cd) M.fp A' [(a, M.go)]) sp τ H' s') : L2.Inv X pins σ H' s' :=
  M.out.call' (ch := M.fp) I.os I.base I.hok I.bare fun b hb => ⟨(M.fpo b hb).1.2.2.2.1, (M.fpo b hb).1.2.1, (M.fpo b hb).1.2.2.2.2.1, (M.fpo b hb).1.2.2.2.2.2⟩

theorem Room.gen {k : Nat} {A B : Around} (hr : Room (k + 1) A) (hh : B.handled = A.handled) (hd : B.depth = A.depth + 1) (hu : B.units ≤ A.units + 10) : Room k B :=
  ⟨hh.trans hr.hd, by have := hr.dp; omega, by have := hr.un; omega⟩

/-- the generator that has been made, from its start on, at the around Ar -/
theorem Made.goes {tg elt iter : Expr} {ifs : List Expr} {scope : Scope} {pos : Pos} {own : List (Str × Nat)} {a : Addr} {s5 : Shared} {g : TG} {tt : TT} {te : TE} {C : (Hp → Prop) → List V → V → Hp → Prop} {F : List V → Hp → Prop} {k : Nat} {Ar : Around} {P : List V → List (Addr × Obj) → Prop}
    (M : Made X pins σ tg elt iter ifs scope pos own (fun J H2 => ∃ W : Nat → Nat → List V → Hp → Prop, (∃ m, W 0 m [] H2) ∧ ∀ i m ys H, W i m ys H → (J.stop i H ∧ F ys H) ∨ (J.go i H ∧ ∀ x H', J.yld i H x H' → g x (wipe σ (own.map (·.2))) H' fun σ2 H2 => wipe σ2 (own.map (·.2)) = wipe σ (own.map (·.2)) ∧ tt σ2 H2 fun b H3 =>
    if b = true then te σ2 H3 fun y H4 => C (fun H5 => ∃ m', m' < m ∧ W (i + 1) m' (ys ++ [y]) H5) ys y H4 else ∃ m', m' < m ∧ W (i + 1) m' ys H3)) a s5)
    (hr : Room (k + 1) X.A) (hco : scope.isCoroutine = false) (hfr : Ar.frames = some X.stack) (hh : Ar.handled = X.A.handled) (hd : Ar.depth = X.A.depth) (hu : Ar.units ≤ X.A.units + 7)
    (pg : ∀ (s : Shared) (H : Hp) (cd : Value) (fp : List Addr) (A' : Around) (pn : List (Addr × Obj)), Room k A' → PG (gcx X s H scope (genv X s scope cd) fp A' pn) tg g)
    (pt : ∀ (s : Shared) (H : Hp) (cd : Value) (fp : List Addr) (A' : Around) (pn : List (Addr × Obj)), Room k A' → PTs (gcx X s H scope (genv X s scope cd) fp A' pn) ifs tt)
    (pe : ∀ (s : Shared) (H : Hp) (cd : Value) (fp : List Addr) (A' : Around) (pn : List (Addr × Obj)), Room k A' → PE (gcx X s H scope (genv X s scope cd) fp A' pn) elt te)
    (hcalm : X.calm = true) (hPf : ∀ ys sp, P ys sp → ∀ p ∈ sp, p.1 ∉ M.fp) :
    L2.Inv (gcx X M.s4 M.H4 scope (genv X M.s4 scope M.cd) M.fp (Ar.over (.compLoop (.GeneratorExp elt [⟨tg, iter, ifs, 0⟩] scope pos) 0 (.ref M.it) .none (genv X M.s4 scope M.cd)) []) [(a, M.go)]) [] (wipe σ (own.map (·.2))) M.H4 s5 ∧
    ∃ (n : Nat), ∀ (s : Shared) (sp : List (Addr × Obj)), P [] sp → L2.Inv (gcx X M.s4 M.H4 scope (genv X M.s4 scope M.cd) M.fp (Ar.over (.compLoop (.GeneratorExp elt [⟨tg, iter, ifs, 0⟩] scope pos) 0 (.ref M.it) .none (genv X M.s4 scope M.cd)) []) [(a, M.go)]) sp (wipe σ (own.map (·.2))) M.H4 s → M.tn 0 s.heap →
      (.fresh (.compStart (.GeneratorExp elt [⟨tg, iter, ifs, 0⟩] scope pos) 0 (.ref M.it) .none (genv X M.s4 scope M.cd)) : GenState).Goes (model X.prog X.w) Ar (GR (gcx X M.s4 M.H4 scope (genv X M.s4 scope M.cd) M.fp (Ar.over (.compLoop (.GeneratorExp elt [⟨tg, iter, ifs, 0⟩] scope pos) 0 (.ref M.it) .none (genv X M.s4 scope M.cd)) []) [(a, M.go)]) (wipe σ (own.map (·.2))) P F) (GYp (gcx X M.s4 M.H4 scope (genv X M.s4 scope M.cd) M.fp (Ar.over (.compLoop (.GeneratorExp elt [⟨tg, iter, ifs, 0⟩] scope pos) 0 (.ref M.it) .none (genv X M.s4 scope M.cd)) []) [(a, M.go)]) (wipe σ (own.map (·.2))) M.fp P C) n (.send .none) s := by
  obtain ⟨o1, o2, o3, o4⟩ := over_gen (A := Ar) (elt := elt) (tg := tg) (iter := iter) (ifs := ifs) (scope := scope) (pos := pos) (it := .ref M.it) (env := genv X M.s4 scope M.cd) hfr
  have hrA : Room k (Ar.over (.compLoop (.GeneratorExp elt [⟨tg, iter, ifs, 0⟩] scope pos) 0 (.ref M.it) .none (genv X M.s4 scope M.cd)) []) := Room.gen hr (o4.trans hh) (by rw [o2, hd]) (by rw [o3]; omega)
  have hinv := M.inv _ o1 hrA.hd
  generalize hA' : Ar.over (.compLoop (.GeneratorExp elt [⟨tg, iter, ifs, 0⟩] scope pos) 0 (.ref M.it) .none (genv X M.s4 scope M.cd)) [] = A' at o1 o2 o3 o4 hrA hinv ⊢
  refine ⟨hinv, ?_⟩
  obtain ⟨W, ⟨m, w0⟩, turn⟩ := M.r
  have afp : a ∉ M.fp := fun hb => absurd (Nat.lt_trans (M.fpo a hb).2 M.young) (Nat.lt_irrefl _)
  refine ⟨m + 1, fun s sp hP I st => ⟨rfl, ?_⟩⟩
  exact seg_start (G := gcx X M.s4 M.H4 scope (genv X M.s4 scope M.cd) M.fp A' [(a, M.go)]) (J := M.J) (g := g) (tt := tt) (te := te) (W := W) (C := C) (F := F) ⟨turn⟩ rfl hcalm hA' hco M.turn (fun b hb => hb)
    (fun ys sp hP p hp => by
      rcases List.mem_append.mp hp with z | z
      · have e : p = (a, M.go) := by simpa using z
        rw [e]; exact afp
      · exact hPf ys sp hP p z)
    (pg _ _ _ _ _ _ hrA) (pt _ _ _ _ _ _ hrA) (pe _ _ _ _ _ _ hrA) m (m + 1) s s M.H4 sp (Nat.lt_succ_self m) w0 I hP st M.fn

variable {c P : Addr} {tg elt iter : Expr} {ifs : List Expr} {p pos gpos : Pos} {scope : Scope} {own : List (Str × Nat)} {qs : Nat → Nat → Str} {wi : TI} {g : TG} {tt : TT} {te : TE} {k : Nat}
/-- all(elt for tg in iter if ..) -/
theorem pe_all (hr : Room (k + 1) X.A) (hg : Gl X "all") (hm : X.mg "all" = none) (hcalm : X.calm = true) (hq : qs gpos.line gpos.col = X.env.qual ++ "<genexpr>") (hN : X.N.Nodup) (TB : TabB X.base X.mg c P) (hcode : X.env.code = .ref c) (ok : BlkOk X.N X.env.scope scope own) (hco : scope.isCoroutine = false) (h0 : scope.names.lookup (".0" : Str) = some NameKind.local)
    (hi : PI X tg iter wi) (hs : ∀ v, genFold iter X.env v = pure v)
    (pg : ∀ (s : Shared) (H : Hp) (cd : Value) (fp : List Addr) (A' : Around) (pn : List (Addr × Obj)), Room k A' → PG (gcx X s H scope (genv X s scope cd) fp A' pn) tg g)
    (pt : ∀ (s : Shared) (H : Hp) (cd : Value) (fp : List Addr) (A' : Around) (pn : List (Addr × Obj)), Room k A' → PTs (gcx X s H scope (genv X s scope cd) fp A' pn) ifs tt)
    (pe : ∀ (s : Shared) (H : Hp) (cd : Value) (fp : List Addr) (A' : Around) (pn : List (Addr × Obj)), Room k A' → PE (gcx X s H scope (genv X s scope cd) fp A' pn) elt te)
    (he : starEach [.GeneratorExp elt [⟨tg, iter, ifs, 0⟩] scope gpos] X.env = (false, eval (.GeneratorExp elt [⟨tg, iter, ifs, 0⟩] scope gpos) X.env) :: starEach [] X.env := by rfl) :
    PE X (.Call (.Name "all" p) [.GeneratorExp elt [⟨tg, iter, ifs, 0⟩] scope gpos] [] pos) (tAll P qs wi g tt te (own.map (·.2))) := by
  refine ⟨fun pins s σ H Q I h => ?_⟩
  refine wpAny_Call_Name_kw (ld_blt I hg hm boot_all ?_)
  refine PyProof.Rows.callWith_builtin1 ?_ he (by rfl)
  rw [he]
  show wpAny _ _ (spliced ((false, eval (.GeneratorExp elt [⟨tg, iter, ifs, 0⟩] scope gpos) X.env) :: backTo pos (starEach [] X.env))) _ _ s
  refine Calls.spliced_cons (gen_make hr hq hN TB hcode ok hco h0 hi hs I h fun a s5 ⟨M⟩ => ?_)
  refine Calls.spliced_nil ?_
  refine call_function_tree F.kind_all F.plain_all F.entry_all (F.args_all1 _) ?_
  unfold Builtin.«all»
  refine wpAny_bind (m := oneArg "all" _) (wpAny_pure ?_)
  refine wpAny_bind (wpAny_pyIter_gen (M.gen _ M.at_) ?_)
  obtain ⟨I5, n, hgo⟩ := M.goes (Ar := X.A.in1.in1) (P := Pnil) hr hco (show X.A.frames = some X.stack from I.ok.frames) rfl rfl (show X.A.units + 1 + 1 ≤ _ by omega) pg pt pe hcalm (fun ys sp hP p hp => by cases hP; cases hp)
  refine wpAny_pure ⟨plainId_quiet F.plain_all_loop _, ?_⟩
  refine all_loop (G := gcx X M.s4 M.H4 scope (genv X M.s4 scope M.cd) M.fp _ [(a, M.go)]) (τ := wipe σ (own.map (·.2))) (fp := M.fp) (Qt := Q (.bl true)) (Qf := Q (.bl false)) (show X.A.handled = none from hr.hd) (by have := hr.dp; show X.A.depth < _; omega) (List.mem_singleton.mpr rfl) M.gen
    (fun s' H' I' q => ?_) (fun s' H' I' q => ?_) n s5 _ I5.nolimit (M.gen _ M.at_) M.fresh (hgo _ [] rfl (Inv.gens' I5 (allBare_setGen I5.bare rfl)) M.st)
  · exact ⟨.bl true, H', M.back I', rfl, q⟩
  · exact ⟨.bl false, H', M.back I', rfl, q⟩
/-- any(elt for tg in iter if ..) -/
theorem pe_any (hr : Room (k + 1) X.A) (hg : Gl X "any") (hm : X.mg "any" = none) (hcalm : X.calm = true) (hq : qs gpos.line gpos.col = X.env.qual ++ "<genexpr>") (hN : X.N.Nodup) (TB : TabB X.base X.mg c P) (hcode : X.env.code = .ref c) (ok : BlkOk X.N X.env.scope scope own) (hco : scope.isCoroutine = false) (h0 : scope.names.lookup (".0" : Str) = some NameKind.local)
    (hi : PI X tg iter wi) (hs : ∀ v, genFold iter X.env v = pure v)
    (pg : ∀ (s : Shared) (H : Hp) (cd : Value) (fp : List Addr) (A' : Around) (pn : List (Addr × Obj)), Room k A' → PG (gcx X s H scope (genv X s scope cd) fp A' pn) tg g)
    (pt : ∀ (s : Shared) (H : Hp) (cd : Value) (fp : List Addr) (A' : Around) (pn : List (Addr × Obj)), Room k A' → PTs (gcx X s H scope (genv X s scope cd) fp A' pn) ifs tt)
    (pe : ∀ (s : Shared) (H : Hp) (cd : Value) (fp : List Addr) (A' : Around) (pn : List (Addr × Obj)), Room k A' → PE (gcx X s H scope (genv X s scope cd) fp A' pn) elt te)
    (he : starEach [.GeneratorExp elt [⟨tg, iter, ifs, 0⟩] scope gpos] X.env = (false, eval (.GeneratorExp elt [⟨tg, iter, ifs, 0⟩] scope gpos) X.env) :: starEach [] X.env := by rfl) :
    PE X (.Call (.Name "any" p) [.GeneratorExp elt [⟨tg, iter, ifs, 0⟩] scope gpos] [] pos) (tAny P qs wi g tt te (own.map (·.2))) := by
  refine ⟨fun pins s σ H Q I h => ?_⟩
  refine wpAny_Call_Name_kw (ld_blt I hg hm boot_any ?_)
  refine PyProof.Rows.callWith_builtin1 ?_ he (by rfl)
  rw [he]
  show wpAny _ _ (spliced ((false, eval (.GeneratorExp elt [⟨tg, iter, ifs, 0⟩] scope gpos) X.env) :: backTo pos (starEach [] X.env))) _ _ s
  refine Calls.spliced_cons (gen_make hr hq hN TB hcode ok hco h0 hi hs I h fun a s5 ⟨M⟩ => ?_)
  refine Calls.spliced_nil ?_
  refine call_function_tree F.kind_any F.plain_any F.entry_any (F.args_any1 _) ?_
  unfold Builtin.«any»
  refine wpAny_bind (m := oneArg "any" _) (wpAny_pure ?_)
  refine wpAny_bind (wpAny_pyIter_gen (M.gen _ M.at_) ?_)
  obtain ⟨I5, n, hgo⟩ := M.goes (Ar := X.A.in1.in1) (P := Pnil) hr hco (show X.A.frames = some X.stack from I.ok.frames) rfl rfl (show X.A.units + 1 + 1 ≤ _ by omega) pg pt pe hcalm (fun ys sp hP p hp => by cases hP; cases hp)
  refine wpAny_pure ⟨plainId_quiet F.plain_any_loop _, ?_⟩
  refine any_loop (G := gcx X M.s4 M.H4 scope (genv X M.s4 scope M.cd) M.fp _ [(a, M.go)]) (τ := wipe σ (own.map (·.2))) (fp := M.fp) (Qt := Q (.bl true)) (Qf := Q (.bl false)) (show X.A.handled = none from hr.hd) (by have := hr.dp; show X.A.depth < _; omega) (List.mem_singleton.mpr rfl) M.gen
    (fun s' H' I' q => ?_) (fun s' H' I' q => ?_) n s5 _ I5.nolimit (M.gen _ M.at_) M.fresh (hgo _ [] rfl (Inv.gens' I5 (allBare_setGen I5.bare rfl)) M.st)
  · exact ⟨.bl true, H', M.back I', rfl, q⟩
  · exact ⟨.bl false, H', M.back I', rfl, q⟩
end
end GX
end gx4_
section gx5_
set_option maxRecDepth 100000
set_option maxHeartbeats 2000000
namespace GX
open PySem PySem.Spec PyProof.Rows L2 GenW LamX

/-- the consumer's list at S -/
def Plst (S : Addr) : List V → List (Addr × Obj) → Prop := fun ys sp => ∃ acc c, sp = [(S, lstObj acc c)] ∧ Vals ys acc.toList
def Ctup : (Hp → Prop) → List V → V → Hp → Prop := fun k ys _ H => ys.length < sizeLine ∧ k H

section
variable {G : Cx} {τ : L2.St} {fp : List Addr} {Fi : List V → Hp → Prop}
theorem GI.of {S : Addr} {ys : List V} {sp : List (Addr × Obj)} {H : Hp} {s : Shared} (I : L2.Inv G sp τ H s) (h : Plst S ys sp) : GI G S [] ys τ H s := by
  obtain ⟨acc, c, rfl, r⟩ := h
  exact ⟨acc, c, r, I⟩
theorem ext_loop {A : Around} {R : Result → Shared → Prop} {S a : Addr} {gi : Nat} {go : Obj} {res : Value} (hh : A.handled = none) (hroom : A.depth < recursionLimit) (hpn : (a, go) ∈ G.pn) (hgen : ∀ h : Heap, h.get? a = some go → h.IsGen a gi)
    (hA : Apart G S) (hpS : ∀ p ∈ G.pn, p.1 ≠ S) (hSf : S ∉ fp) (ht : ∀ s' H ys, GI G S [] ys τ H s' → Fi ys H → R (.ok (.ret res)) s') :
    ∀ (n : Nat) (s : Shared) (gs : GenState), s.heap.NoLimit → s.heap.IsGen a gi → s.gens[gi]? = some gs →
      gs.Goes (model G.prog G.w) A.in1.in1 (GR G τ (Plst S) Fi) (GYp G τ fp (Plst S) Ctup) n (.send .none) (s.setGen gi .running) →
      codeAny (model G.prog G.w) A (.builtin "list.extend.loop" ⟨[.ref S, .ref a, res], []⟩) R s := by
  intro n
  induction n with
  | zero =>
    intro s gs hl hg hgs hgo
    refine codeAny_builtin F.entry_extend_loop ?_
    rw [Around.under_plainId F.plain_extend_loop _]
    show wpAny _ A.in1 (pyNext (.ref a) >>= _) _ _ s
    refine wpAny_bind (next_gx hh hroom hl hg hgs hgo (fun v s₁ gs' ys y H sp k hb hsz r I hP hC hk => ?_) (fun s' ys H sp I hP hF => ?_))
    · exfalso
      obtain ⟨hlt, hC⟩ := hC
      have J := GI.woken (s' := { s₁ with heap := s₁.heap.update S (Obj.mapSeq (·.push v)) }) hpS (fun _ z => absurd z (by simp)) hA (GI.of I hP) r (by
        obtain ⟨_, _, _, acc, c, _, eS⟩ := (GI.of I hP).at
        exact Slept.push eS I.bare)
      obtain ⟨acc, c, r', J⟩ := J
      obtain ⟨m, e, _⟩ := hk _ _ hC ⟨acc, c, rfl, r'⟩ J fun b hb o e => (Heap.get?_update_other _ _ (fun z : S = b => hSf (by rw [z]; exact hb))).trans e
      cases e
    · exact wpAny_pure (ht _ H ys (GI.of I hP) hF)
  | succ n ih =>
    intro s gs hl hg hgs hgo
    refine codeAny_builtin F.entry_extend_loop ?_
    rw [Around.under_plainId F.plain_extend_loop _]
    show wpAny _ A.in1 (pyNext (.ref a) >>= _) _ _ s
    refine wpAny_bind (next_gx hh hroom hl hg hgs hgo (fun v s₁ gs' ys y H sp k hb hsz r I hP hC hk => ?_) (fun s' ys H sp I hP hF => ?_))
    · obtain ⟨hlt, hC⟩ := hC
      have GI1 := GI.of I hP
      obtain ⟨_, _, _, acc, c, ra, eS⟩ := GI1.at
      have hacc : acc.size = ys.length := by have := ra.length; rw [Array.length_toList] at this; exact this.symm
      show wpAny _ A.in1 (updateSeq S (·.push v) >>= _) _ _ _
      refine wpAny_bind ?_
      refine wpAny_updateSeq (s := s₁.setGen gi gs') eS rfl (wpAny_pure ⟨plainId_quiet F.plain_extend_loop _, ?_⟩) (by omega) (by show (acc.push v).size ≤ sizeLine + 1; rw [Array.size_push]; omega)
      obtain ⟨acc2, c2, r2, J⟩ := GI.woken (s' := { s₁.setGen gi gs' with heap := s₁.heap.update S (Obj.mapSeq (·.push v)) }) hpS (fun _ z => absurd z (by simp)) hA GI1 r (Slept.push eS (allBare_setGen I.bare hb))
      have J2 := Inv.gens' (g' := (({ s₁.setGen gi gs' with heap := s₁.heap.update S (Obj.mapSeq (·.push v)) } : Shared).setGen gi .running).gens) J (allBare_setGen J.bare rfl)
      obtain ⟨m, e, hgo'⟩ := hk _ _ hC ⟨acc2, c2, rfl, r2⟩ J2 fun b hb o e => (Heap.get?_update_other _ _ (fun z : S = b => hSf (by rw [z]; exact hb))).trans e
      cases e
      exact ih _ gs' J.nolimit (hgen _ (J.pin (a, go) (List.mem_append_left _ hpn)).1) (setGen_at hsz) hgo'
    · exact wpAny_pure (ht _ H ys (GI.of I hP) hF)

/-- collect of a generator that has just been made -/
theorem collect_gx {A : Around} {E : Value → Shared → Prop} {s : Shared} {H0 : Hp} {a : Addr} {gi n : Nat} {go : Obj} {gs : GenState} {Q : List Value → Shared → Prop} (hh : A.handled = none) (hroom : A.depth < recursionLimit) (hpn : (a, go) ∈ G.pn) (hgen : ∀ h : Heap, h.get? a = some go → h.IsGen a gi)
    (I : L2.Inv G [] τ H0 s) (hpa : ∀ p ∈ G.pn, p.1 < s.heap.objs.size) (hfp : ∀ b ∈ fp, b < s.heap.objs.size) (hgs : s.gens[gi]? = some gs)
    (hgo : ∀ (s2 : Shared) (sp : List (Addr × Obj)), Plst s.heap.objs.size [] sp → L2.Inv G sp τ H0 s2 → (∀ b ∈ fp, ∀ o, s.heap.get? b = some o → s2.heap.get? b = some o) →
      gs.Goes (model G.prog G.w) A.in1.in1 (GR G τ (Plst s.heap.objs.size) Fi) (GYp G τ fp (Plst s.heap.objs.size) Ctup) n (.send .none) s2)
    (hQ : ∀ (s' : Shared) (acc : Array Value) (c : Nat) (ys : List V) (H : Hp), Vals ys acc.toList → L2.Inv G [(s.heap.objs.size, lstObj acc c)] τ H s' → Fi ys H → Q acc.toList s') :
    wpAny (model G.prog G.w) A (collect (.ref a)) Q E s := by
  have hg : s.heap.IsGen a gi := hgen _ (I.pin (a, go) (List.mem_append_left _ hpn)).1
  have hSI : s.heap.objs.size ≠ a := Nat.ne_of_gt (hpa _ hpn)
  unfold collect
  refine wpAny_bind (wpAny_runValue (codeAny_builtin F.entry_proto_collect ?_))
  rw [Around.under_plainId F.plain_proto_collect _]
  show wpAny _ A.in1 (newList [] >>= fun l => again (.builtin "list.__iadd__" ⟨[l, .ref a], []⟩)) _ _ s
  refine wpAny_bind (wpAny_newObj_type ?_)
  refine wpAny_pure ⟨plainId_quiet F.plain_list_iadd _, codeAny_builtin F.entry_list_iadd ?_⟩
  rw [Around.under_plainId F.plain_list_iadd _]
  have k1 : ∀ b o, s.heap.get? b = some o → (s.heap.push { cls := .type "list", data := .seq ([] : List Value).toArray }).get? b = some o := fun b o e => Heap.get?_push_of_some _ e
  show wpAny _ A.in1 (Builtin.List.listExtendWith (.ref s.heap.objs.size) (.ref a) (.ref s.heap.objs.size)) _ _ _
  unfold Builtin.List.listExtendWith
  refine wpAny_bind (wpAny_typeOf (Heap.IsGen.typeIs (s := { s with heap := _ }) (hg.keeps k1)) ?_)
  have h1 : Builtin.List.listSameRef (.ref s.heap.objs.size) (.ref a) = false := by simp [Builtin.List.listSameRef, hSI]
  have h2 : (Value.type "generator" == Value.type "list") = false := by decide
  have h3 : (Value.type "generator" == Value.type "tuple") = false := by decide
  simp only [h1, h2, h3, Bool.or_false, Bool.false_eq_true, if_false]
  refine wpAny_bind (wpAny_pyIter_gen (s := { s with heap := _ }) (hg.keeps k1) ?_)
  refine wpAny_bind (wpAny_holding ?_)
  unfold Builtin.List.listLengthHint
  refine wpAny_bind (wpAny_specialOf (Heap.IsGen.typeIs (s := { s with heap := _ }) (hg.keeps k1)) F.gen_no_len ?_)
  show wpAny _ A.in1 (specialOf (Value.ref a) (Str.ofString "__length_hint__") >>= _) _ _ _
  refine wpAny_bind (wpAny_specialOf (Heap.IsGen.typeIs (s := { s with heap := _ }) (hg.keeps k1)) F.gen_no_hint ?_)
  refine wpAny_pure ?_
  show wpAny _ A.in1 (rule "list.extend.makes-room" >>= fun _ => Builtin.List.listTouch (.ref s.heap.objs.size) >>= fun _ =>
    again (.builtin "list.extend.loop" ⟨[.ref s.heap.objs.size, .ref a, .ref s.heap.objs.size], []⟩)) _ _ _
  refine wpAny_bind (wpAny_rule ?_)
  have hS₁ : (s.heap.push { cls := .type "list", data := .seq ([] : List Value).toArray }).get? s.heap.objs.size = some { cls := .type "list", data := .seq ([] : List Value).toArray } := Heap.get?_push_size _ rfl
  refine wpAny_bind ?_
  show wpAny _ A.in1 (updateSeq s.heap.objs.size (·.push .none) >>= fun _ => updateSeq s.heap.objs.size (·.pop)) _ _ _
  refine wpAny_bind (wpAny_updateSeq hS₁ rfl ?_)
  have hS₂ := Heap.get?_update_self (Obj.mapSeq (·.push Value.none)) hS₁ rfl
  refine wpAny_updateSeq hS₂ rfl ?_
  have hS₃ := Heap.get?_update_self (Obj.mapSeq (·.pop)) hS₂ rfl
  have k3 : ∀ b o, s.heap.get? b = some o → (((s.heap.push { cls := .type "list", data := .seq ([] : List Value).toArray }).update s.heap.objs.size (Obj.mapSeq (·.push Value.none))).update s.heap.objs.size (Obj.mapSeq (·.pop))).get? b = some o :=
    fun b o e => (Heap.get?_update_other _ _ (Nat.ne_of_gt (Heap.lt_size e))).trans ((Heap.get?_update_other _ _ (Nat.ne_of_gt (Heap.lt_size e))).trans (k1 b o e))
  have I3 : L2.Inv G [] τ H0 { s with heap := _, toks := s.toks } := I.kept k3
  have hx : ∃ c, (((s.heap.push { cls := .type "list", data := .seq ([] : List Value).toArray }).update s.heap.objs.size (Obj.mapSeq (·.push Value.none))).update s.heap.objs.size (Obj.mapSeq (·.pop))).get? s.heap.objs.size = some (lstObj #[] c) := ⟨_, hS₃⟩
  obtain ⟨c3, hS₃'⟩ := hx
  have sne : ∀ {x c}, G.env.cells.lookup x = some c → c ≠ s.heap.objs.size := fun {x c} e z => by
    obtain ⟨v, q⟩ := I.cell x c e
    exact absurd q.lt (by rw [z]; exact Nat.lt_irrefl _)
  have I4 : L2.Inv G [(s.heap.objs.size, lstObj #[] c3)] τ H0 { s with heap := _, toks := s.toks } := I3.pins_of fun p hp => by
    have e : p = (s.heap.objs.size, lstObj #[] c3) := by simpa using hp
    subst e
    exact ⟨hS₃', I.hok.fresh (Nat.le_refl _), Nat.ne_of_gt I.lt, I.nofs (Nat.le_refl _), fun v q => by cases q⟩
  have hA : Apart G s.heap.objs.size := ⟨I.sz, Nat.ne_of_gt I.lt, fun x c e => sne e⟩
  refine wpAny_pure ⟨plainId_quiet F.plain_extend_loop _, ?_⟩
  refine ext_loop (G := G) (τ := τ) (fp := fp) (Fi := Fi) (A := A) (S := s.heap.objs.size) (a := a) (gi := gi) hh hroom hpn hgen hA (fun p hp => Nat.ne_of_lt (hpa p hp)) (fun hm => Nat.lt_irrefl _ (hfp _ hm)) (fun s' H ys hGI hF => ?_) n _ gs I4.nolimit (hgen _ (I4.pin (a, go) (List.mem_append_left _ hpn)).1) hgs ?_
  · obtain ⟨acc, c, r, I5⟩ := hGI
    show wpAny _ A (load s.heap.objs.size >>= _) _ _ s'
    refine wpAny_bind (wpAny_load (I5.pin (s.heap.objs.size, lstObj acc c) (List.mem_append_right _ (List.mem_singleton.mpr rfl))).1 ?_)
    exact wpAny_pure (hQ s' acc c ys H r I5 hF)
  · exact hgo _ _ ⟨#[], c3, rfl, .nil⟩ (Inv.gens' (g' := (s.setGen gi .running).gens) I4 (allBare_setGen I.bare rfl)) fun b hb o e => k3 b o e

theorem tuple_new_gx {A : Around} {E : Value → Shared → Prop} {s : Shared} {H0 : Hp} {a : Addr} {gi n : Nat} {go : Obj} {gs : GenState} {Q : Value → Shared → Prop} (hh : A.handled = none) (hroom : A.depth < recursionLimit) (hpn : (a, go) ∈ G.pn) (hgen : ∀ h : Heap, h.get? a = some go → h.IsGen a gi)
    (I : L2.Inv G [] τ H0 s) (hpa : ∀ p ∈ G.pn, p.1 < s.heap.objs.size) (hfp : ∀ b ∈ fp, b < s.heap.objs.size) (hgs : s.gens[gi]? = some gs)
    (hgo : ∀ (s2 : Shared) (sp : List (Addr × Obj)), Plst s.heap.objs.size [] sp → L2.Inv G sp τ H0 s2 → (∀ b ∈ fp, ∀ o, s.heap.get? b = some o → s2.heap.get? b = some o) →
      gs.Goes (model G.prog G.w) A.in1.in1.in1.in1 (GR G τ (Plst s.heap.objs.size) Fi) (GYp G τ fp (Plst s.heap.objs.size) Ctup) n (.send .none) s2)
    (hz : ∀ ys H, Fi ys H → ys.length ≤ sizeLine)
    (hQ : ∀ (s' : Shared) (acc : Array Value) (c : Nat) (ys : List V) (H : Hp), Vals ys acc.toList → L2.Inv G [(s.heap.objs.size, lstObj acc c)] τ H s' → Fi ys H → Q (.ref s'.heap.objs.size) { s' with heap := s'.heap.push { cls := .type "tuple", data := .seq acc } }) :
    wpAny (model G.prog G.w) A (call (.type "tuple") [.ref a]) Q E s := by
  refine callType_codes (Q₁ := fun obj s₁ => s₁.TypeIs obj "tuple" ∧ Q obj s₁) F.called_tuple (F.typeCall_tuple_1 _) F.entry_object_init ?_ fun obj s₁ h₁ => ?_
  · refine codeAny_of_tree ?_
    show wpAny _ A.in1.in1 (do checkBuiltinCall "tuple.__new__" ⟨[.type "tuple", .ref a], []⟩; again (.builtin "tuple.__new__" ⟨[.type "tuple", .ref a], []⟩)) _ _ s
    refine wpAny_bind (wpAny_of_eq (F.newCall_tuple_1 _) (wpAny_pure ⟨plainId_quiet F.plain_tuple_new _, codeAny_builtin F.entry_tuple_new ?_⟩))
    rw [Around.under_plainId F.plain_tuple_new _]
    have hg : s.heap.IsGen a gi := hgen _ (I.pin (a, go) (List.mem_append_left _ hpn)).1
    have hsub := sub_tuple_self
    have hinit := init_tuple_lookup
    have hmh := madeHere_tuple
    have hTI : s.TypeIs (.ref a) "generator" := hg.typeIs
    wp_walk using wpAny_typeOf hTI, collect_gx (A := A.in1.in1) (G := G) (τ := τ) (fp := fp) (Fi := Fi) (H0 := H0) (gs := gs) (n := n) (gi := gi) (go := go) hh hroom hpn hgen I hpa hfp hgs hgo
    intro s' acc c ys H r I' hF
    show wpAny _ _ (Builtin.Tuple.tupleExact acc.toList.toArray >>= fun v => ret v) _ _ _
    unfold Builtin.Tuple.tupleExact
    have hl : acc.size = ys.length := by have := r.length; rw [Array.length_toList] at this; exact this.symm
    refine wpAny_bind (wpAny_newObj_type ?_ (by show acc.toList.toArray.size ≤ sizeLine; simp only [Array.toArray_toList]; rw [hl]; exact hz ys H hF))
    refine wpAny_pure ?_
    have e : acc.toList.toArray = acc := by simp
    rw [e]
    exact ⟨⟨_, Heap.get?_push_size _ rfl, rfl⟩, hQ s' acc c ys H r I' hF⟩
  · exact ⟨h₁.1, F.args_object_init_2 obj _, object_init_meets F.called_tuple.init.lookup F.called_tuple.made (by decide) G.prog G.w A.in1 _ s₁ ⟨h₁.1, rfl, h₁.2⟩⟩
end

def tTupG (P : Addr) (qs : Nat → Nat → Str) (wi : TI) (g : TG) (tt : TT) (te : TE) (vs : List Nat) : TE := fun σ H Q => tGen P qs wi g tt te vs Ctup (fun ys H => ys.length ≤ sizeLine ∧ ∀ p, H p = none → Q (.ref p) (upd H p (.tup ys))) σ H
section
variable {X : Cx} {c P : Addr} {tg elt iter : Expr} {ifs : List Expr} {p pos gpos : Pos} {scope : Scope} {own : List (Str × Nat)} {qs : Nat → Nat → Str} {wi : TI} {g : TG} {tt : TT} {te : TE} {k : Nat}
/-- tuple(elt for tg in iter if ..) -/
theorem pe_tupG (hr : Room (k + 1) X.A) (hg : Gl X "tuple") (hm : X.mg "tuple" = none) (hcalm : X.calm = true) (hq : qs gpos.line gpos.col = X.env.qual ++ "<genexpr>") (hN : X.N.Nodup) (TB : TabB X.base X.mg c P) (hcode : X.env.code = .ref c) (ok : BlkOk X.N X.env.scope scope own) (hco : scope.isCoroutine = false) (h0 : scope.names.lookup (".0" : Str) = some NameKind.local)
    (hi : PI X tg iter wi) (hs : ∀ v, genFold iter X.env v = pure v)
    (pg : ∀ (s : Shared) (H : Hp) (cd : Value) (fp : List Addr) (A' : Around) (pn : List (Addr × Obj)), Room k A' → PG (gcx X s H scope (genv X s scope cd) fp A' pn) tg g)
    (pt : ∀ (s : Shared) (H : Hp) (cd : Value) (fp : List Addr) (A' : Around) (pn : List (Addr × Obj)), Room k A' → PTs (gcx X s H scope (genv X s scope cd) fp A' pn) ifs tt)
    (pe : ∀ (s : Shared) (H : Hp) (cd : Value) (fp : List Addr) (A' : Around) (pn : List (Addr × Obj)), Room k A' → PE (gcx X s H scope (genv X s scope cd) fp A' pn) elt te)
    (he : starEach [.GeneratorExp elt [⟨tg, iter, ifs, 0⟩] scope gpos] X.env = (false, eval (.GeneratorExp elt [⟨tg, iter, ifs, 0⟩] scope gpos) X.env) :: starEach [] X.env := by rfl) :
    PE X (.Call (.Name "tuple" p) [.GeneratorExp elt [⟨tg, iter, ifs, 0⟩] scope gpos] [] pos) (tTupG P qs wi g tt te (own.map (·.2))) := by
  refine ⟨fun pins s σ H Q I h => ?_⟩
  refine wpAny_Call_Name_kw (ld_blt I hg hm boot_tuple ?_)
  refine PyProof.Rows.callWith_type1 ?_ he (by rfl)
  rw [he]
  show wpAny _ _ (spliced ((false, eval (.GeneratorExp elt [⟨tg, iter, ifs, 0⟩] scope gpos) X.env) :: backTo pos (starEach [] X.env))) _ _ s
  refine Calls.spliced_cons (gen_make hr hq hN TB hcode ok hco h0 hi hs I h fun a s5 ⟨M⟩ => ?_)
  refine Calls.spliced_nil ?_
  have a5 : a < s5.heap.objs.size := Heap.lt_size M.at_
  have fp5 : ∀ b ∈ M.fp, b < s5.heap.objs.size := fun b hb => Nat.lt_trans (Nat.lt_trans (M.fpo b hb).2 M.young) a5
  obtain ⟨I5, n, hgo⟩ := M.goes (Ar := X.A.in1.in1.in1.in1) (P := Plst s5.heap.objs.size) hr hco (show X.A.frames = some X.stack from I.ok.frames) rfl rfl (show X.A.units + 1 + 1 + 1 + 1 ≤ _ by omega) pg pt pe hcalm (fun ys sp hP q hq => by
    obtain ⟨acc, c', rfl, _⟩ := hP
    have e : q = (s5.heap.objs.size, lstObj acc c') := by simpa using hq
    rw [e]
    exact fun hb => Nat.lt_irrefl _ (fp5 _ hb))
  refine tuple_new_gx (G := gcx X M.s4 M.H4 scope (genv X M.s4 scope M.cd) M.fp _ [(a, M.go)]) (τ := wipe σ (own.map (·.2))) (fp := M.fp) (H0 := M.H4) (n := n) (show X.A.handled = none from hr.hd) (by have := hr.dp; show X.A.depth < _; omega) (List.mem_singleton.mpr rfl) M.gen
    I5 (fun q hq => by rw [List.mem_singleton.mp hq]; exact a5) fp5 M.fresh (fun s2 sp hP I2 hk => hgo s2 sp hP I2 (M.turn.keep _ _ _ M.st hk)) (fun ys H' hF => hF.1) fun s' acc c' ys H' r I' hF => ?_
  have IX : L2.Inv X pins σ H' s' := M.back I'
  obtain ⟨hz, q⟩ := hF
  have hf : H' s'.heap.objs.size = none := IX.hok.fresh (Nat.le_refl _)
  refine ⟨.ref s'.heap.objs.size, upd H' s'.heap.objs.size (.tup ys), IX.laid (t' := s'.toks) (fun b u e => Heap.get?_push_of_some _ e) (Nat.le_refl _) ?_, rfl, q _ hf⟩
  exact ⟨hz, acc.toList, r, ⟨_, Heap.get?_push_size _ rfl, rfl, 0, by simp⟩⟩
end
end GX
end gx5_
section lx_
set_option maxRecDepth 100000
set_option maxHeartbeats 2000000
namespace GX
open PySem PySem.Spec PyProof.Rows L2 LamX

/-! ### a lambda's body: it reads names, items, makes tuples; it keeps the heap -/
def EnvAt (env : Env) (h : Heap) (vars : List (Str × PyData)) : Prop := ∃ m, h.Ns env.locals m ∧ ∀ x d, vars.lookup x = some d → ∃ u as, Reads h u d as ∧ Look env h m x u
theorem EnvAt.keeps {env : Env} {h h' : Heap} {vars : List (Str × PyData)} (e : EnvAt env h vars) (k : ∀ b o, h.get? b = some o → h'.get? b = some o) : EnvAt env h' vars := by
  obtain ⟨m, hn, hv⟩ := e
  refine ⟨m, hn.keeps k, fun x d hx => ?_⟩
  obtain ⟨u, as, r, l⟩ := hv x d hx
  refine ⟨u, as, PyProof.Rows.Reads.keeps k r, ?_⟩
  rcases l with l | ⟨l1, c, l2, l3⟩
  · exact .inl l
  · exact .inr ⟨l1, c, l2, l3.keeps k⟩
def KeepD (d : PyData) (s : Shared) (v : Value) (s' : Shared) : Prop := ∃ h' tk as, s' = { s with heap := h', toks := tk } ∧ (∀ b o, s.heap.get? b = some o → h'.get? b = some o) ∧ Reads h' v d as
def KeepDs (ds : List PyData) (s : Shared) (vs : List Value) (s' : Shared) : Prop := ∃ h' tk as, s' = { s with heap := h', toks := tk } ∧ (∀ b o, s.heap.get? b = some o → h'.get? b = some o) ∧ ReadsAll h' vs ds as
structure LE (sc : Scope) (vars : List (Str × PyData)) (e : Expr) (d : PyData) : Prop where
  run : ∀ (P : Program) (w : World) (A : Around) (env : Env) (s : Shared), env.scope = sc → sc.kind = .function → EnvAt env s.heap vars → wpAny (model P w) A (eval e env) (KeepD d s) (fun _ _ => False) s
structure LEs (sc : Scope) (vars : List (Str × PyData)) (es : List Expr) (ds : List PyData) : Prop where
  run : ∀ (P : Program) (w : World) (A : Around) (env : Env) (s : Shared) (pos : Pos), env.scope = sc → sc.kind = .function → EnvAt env s.heap vars → wpAny (model P w) A (spliced (backTo pos (starEach es env))) (KeepDs ds s) (fun _ _ => False) s

theorem readsAll_get {h : Heap} : ∀ {vs : List Value} {ds : List PyData} {as : List Addr} {i : Nat} {d : PyData}, ReadsAll h vs ds as → ds[i]? = some d → ∃ v as', vs[i]? = some v ∧ Reads h v d as'
  | _, _, _, _, _, .nil, e => by simp at e
  | _, _, _, 0, _, .cons r _, e => by simp at e; subst e; exact ⟨_, _, rfl, r⟩
  | _, _, _, i + 1, d, .cons _ t, e => by
    obtain ⟨v, as', h1, h2⟩ := readsAll_get (i := i) (d := d) t (by simpa using e)
    exact ⟨v, as', by simpa using h1, h2⟩
theorem readsAll_len {h : Heap} : ∀ {vs : List Value} {ds : List PyData} {as : List Addr}, ReadsAll h vs ds as → vs.length = ds.length
  | _, _, _, .nil => rfl
  | _, _, _, .cons _ t => by simp [readsAll_len t]
section
variable {sc : Scope} {vars : List (Str × PyData)} {a b : Expr} {pos : Pos} {d : PyData}
theorem le_name {x : Str} (hx : vars.lookup x = some d) (hd : (x == ("__debug__" : Str)) = false := by decide) (hcd : (x == ("__classdict__" : Str)) = false := by decide) : LE sc vars (.Name x pos) d := by
  refine ⟨fun P w A env s hs hk he => ?_⟩
  obtain ⟨m, hn, hv⟩ := he
  obtain ⟨u, as, r, l⟩ := hv x d hx
  have hkind : env.scope.kind = .function := by rw [hs]; exact hk
  have fin : KeepD d s u s := ⟨s.heap, s.toks, as, rfl, fun _ _ e => e, r⟩
  rcases l with ⟨hk, hm⟩ | ⟨hk, c, hc, hcell⟩
  · exact wpAny_Name (wpAny_loadName_local hkind hk hn hm fin) hd
  · rcases hk with hk | hk
    · exact wpAny_Name (wpAny_loadName_cell hkind hk hc hcell fin) hd
    · exact wpAny_Name (wpAny_loadName_free hkind hk hc hcell fin hcd) hd
theorem le_int {i : Int} {j : Nat} : LE sc vars (.Constant (.int i) j pos) (.int i) := ⟨fun P w A env s hs hk he => wpAny_Constant_int ⟨s.heap, _, [], rfl, fun _ _ e => e, .int _ _⟩⟩
theorem le_neg {i : Int} (ha : LE sc vars a (.int i)) : LE sc vars (.UnaryOp .USub a pos) (.int (-i)) := by
  refine ⟨fun P w A env s hs hk he => ?_⟩
  refine UnaryOp_ (thn (ha.run P w A env s hs hk he) fun v s1 ⟨h', tk, as, e, k, r⟩ => ?_)
  subst e
  cases r
  exact PyProof.Rows.neg_int ⟨h', _, [], rfl, k, .int _ _⟩
theorem le_ix {ds : List PyData} {i : Int} (ha : LE sc vars a (.tuple ds) ∨ LE sc vars a (.list ds)) (hb : LE sc vars b (.int i)) (h0 : 0 ≤ i) (h1 : i < 2 ^ 62) (hi : ds[i.toNat]? = some d) (hs : PlainIx b) : LE sc vars (.Subscript a b pos) d := by
  refine ⟨fun P w A env s he hk hE => ?_⟩
  have hn : i.toNat < ds.length := (List.getElem?_eq_some_iff.mp hi).1
  refine Subscript_ ?_
  rcases ha with ha | ha
  · refine thn (ha.run P w A env s he hk hE) fun v s1 ⟨h', tk, as, e, k, r⟩ => ?_
    subst e
    refine thn (hb.run P w A env _ he hk (hE.keeps k)) fun u s2 ⟨hp2, tk2, as2, e2, k2, r2⟩ => ?_
    subst e2
    cases r2
    have r' := PyProof.Rows.Reads.keeps k2 r
    cases r' with
    | @tuple p o vs n xs as h1 h2 h3 h4 =>
      obtain ⟨x, as', hx, rx⟩ := readsAll_get h4 hi
      have hl : vs.toList.length = ds.length := readsAll_len h4
      have pl : IsTup hp2 p vs := ⟨o, h1, h2, n, h3⟩
      refine subscriptTail_builtinR (x := x) (IsTup.typeIs pl) slot_tuple_getitem.lookup
        (getItem_tuple (j := i.toNat) (Q := fun r s' => r = x ∧ KeepD d s r s') pl (by omega) (by omega) ?_ (by simpa using hx) ⟨rfl, hp2, tk2, as', rfl, fun b o e => k2 b o (k b o e), rx⟩) (hs _ _)
      exact seqIndex_of h0 (by rw [← Array.length_toList, hl]; omega)
  · refine thn (ha.run P w A env s he hk hE) fun v s1 ⟨h', tk, as, e, k, r⟩ => ?_
    subst e
    refine thn (hb.run P w A env _ he hk (hE.keeps k)) fun u s2 ⟨hp2, tk2, as2, e2, k2, r2⟩ => ?_
    subst e2
    cases r2
    have r' := PyProof.Rows.Reads.keeps k2 r
    cases r' with
    | @list p o vs n xs as h1 h2 h3 h4 =>
      obtain ⟨x, as', hx, rx⟩ := readsAll_get h4 hi
      have pl : Heap.IsList hp2 p vs := ⟨o, h1, h2, n, h3⟩
      exact item_listR pl h0 (by omega) (by simpa using hx) ⟨hp2, tk2, as', rfl, fun b o e => k2 b o (k b o e), rx⟩ (hs _ _)
theorem les_nil : LEs sc vars [] [] := ⟨fun P w A env s pos hs hk he => Calls.spliced_nil ⟨s.heap, s.toks, [], rfl, fun _ _ e => e, .nil⟩⟩
theorem les_cons {es : List Expr} {ds : List PyData} (ha : LE sc vars a d) (hr : LEs sc vars es ds) (hs : ∀ env, starEach (a :: es) env = (false, eval a env) :: starEach es env := by intro _; rfl) : LEs sc vars (a :: es) (d :: ds) := by
  refine ⟨fun P w A env s pos hsc hk he => ?_⟩
  rw [hs]
  show wpAny _ _ (spliced ((false, eval a env) :: backTo pos (starEach es env))) _ _ s
  refine Calls.spliced_cons (thn (ha.run P w A env s hsc hk he) fun u s1 ⟨h', tk, as, e, k, r⟩ => ?_)
  subst e
  refine thn (hr.run P w A env _ pos hsc hk (he.keeps k)) fun us s2 ⟨h2, tk2, as2, e2, k2, r2⟩ => ?_
  subst e2
  exact ⟨h2, tk2, _, rfl, fun b o e => k2 b o (k b o e), .cons (PyProof.Rows.Reads.keeps k2 r) r2⟩
theorem le_tup {es : List Expr} {ds : List PyData} {x1 : Nat} (h : LEs sc vars es ds) (hz : ds.length ≤ 1000) : LE sc vars (.Tuple es x1 pos) (.tuple ds) := by
  refine ⟨fun P w A env s hsc hk he => ?_⟩
  refine Tuple_ (thn (h.run P w A env s pos hsc hk he) fun vs s1 ⟨h', tk, as, e, k, r⟩ => ?_)
  subst e
  have hl := readsAll_len r
  refine wpAny_newTuple ?_ (by show vs.length ≤ sizeLine; rw [hl]; exact Nat.le_trans hz (by decide))
  exact ⟨h'.push (seqObj "tuple" vs.toArray 0), tk, as, rfl, fun b o e => Heap.get?_push_of_some _ (k b o e), .tuple (Heap.get?_push_size _ rfl) rfl rfl (by simpa using PyProof.Rows.ReadsAll.keeps (fun b o e => Heap.get?_push_of_some _ e) r)⟩
end
mutual
def flatD : PyData → Bool
  | .list _ => false
  | .dict _ => false
  | .tuple ds => flatDs ds
  | _ => true
def flatDs : List PyData → Bool
  | [] => true
  | d :: ds => flatD d && flatDs ds
end
mutual
theorem flat_reads {h : Heap} : ∀ {v : Value} {d : PyData} {as : List Addr}, Reads h v d as → flatD d = true → as = []
  | _, _, _, .none, _ => rfl
  | _, _, _, .bool _, _ => rfl
  | _, _, _, .int _ _, _ => rfl
  | _, _, _, .str _ _, _ => rfl
  | _, _, _, .list _ _ _ _, e => by cases e
  | _, _, _, .tuple _ _ _ r, e => flat_readsAll r e
  | _, _, _, .dict _ _ _ _ _, e => by cases e
theorem flat_readsAll {h : Heap} : ∀ {vs : List Value} {ds : List PyData} {as : List Addr}, ReadsAll h vs ds as → flatDs ds = true → as = []
  | _, _, _, .nil, _ => rfl
  | _, _, _, .cons r t, e => by
    have e' := (Bool.and_eq_true _ _).mp (show (flatD _ && flatDs _) = true from e)
    rw [flat_reads r e'.1, flat_readsAll t e'.2]
    rfl
end
end GX
end lx_
section lx2_
set_option maxRecDepth 100000
set_option maxHeartbeats 2000000
namespace GX
open PySem PySem.Spec PyProof.Rows L2 LamX PySem.W

/-! ### a lambda of one parameter: made, called -/
structure Lam1 (sc scope : Scope) (x : Str) : Prop where
  kind : scope.kind = .function
  co : scope.isCoroutine = false
  gen : scope.isGenerator = false
  loc : scope.names.lookup x = some .local
  nocell : ∀ y ∈ scope.names, y.2 ≠ .cell
  free : ∀ y ∈ scope.names, y.2 = .free → sc.names.lookup y.1 = some .cell ∨ sc.names.lookup y.1 = some .free
def lam1B (sc scope : Scope) (x : Str) : Bool :=
  decide (scope.kind = .function) && !scope.isCoroutine && !scope.isGenerator && decide (scope.names.lookup x = some .local) && scope.names.all fun y => !decide (y.2 = .cell) && (!decide (y.2 = .free) || decide (sc.names.lookup y.1 = some .cell) || decide (sc.names.lookup y.1 = some .free))
theorem lam1_by {sc scope : Scope} {x : Str} (h : lam1B sc scope x = true) : Lam1 sc scope x := by
  unfold lam1B at h
  simp only [Bool.and_eq_true, Bool.or_eq_true, Bool.not_eq_true', decide_eq_true_eq, decide_eq_false_iff_not, List.all_eq_true] at h
  obtain ⟨⟨⟨⟨h1, h2⟩, h3⟩, h4⟩, h5⟩ := h
  refine ⟨h1, h2, h3, h4, fun y hy => (h5 y hy).1, fun y hy e => ?_⟩
  rcases (h5 y hy).2 with (z | z) | z
  · exact absurd e z
  · exact .inl z
  · exact .inr z
theorem Lam1.has {X : Cx} {scope : Scope} {x : Str} (L : Lam1 X.env.scope scope x) (ok : X.Ok) : ∀ y ∈ scope.names, y.2 = .free → ∃ c, X.env.cells.lookup y.1 = some c := fun y hy e => by
  rcases L.free y hy e with k | k
  · exact ok.has _ (.inl k)
  · exact ok.has _ (.inr k)

section
variable {X : Cx} {pins : List (Addr × Obj)} {σ : L2.St} {H : Hp} {s : Shared}
theorem lam_make {c P : Addr} {qs : Nat → Nat → Str} {params : Arguments} {body : Expr} {scope : Scope} {pos : Pos} {E : Value → Shared → Prop} {Q : Value → Shared → Prop} (I : L2.Inv X pins σ H s) (TB : TabB X.base X.mg c P) (hcode : X.env.code = .ref c)
    (hq : qs pos.line pos.col = X.env.qual ++ "<lambda>") (hT : TabA H P qs) (hdef : defaultsOf params X.env = ([], [])) (hfree : ∀ y ∈ scope.names, y.2 = .free → ∃ c, X.env.cells.lookup y.1 = some c)
    (h : ∀ (f c' : Addr) (pm ctv : Value) (H1 : Hp) (s' : Shared), L2.Inv X pins σ H1 s' → Tbd P qs H H1 → (∀ b o, b ≠ P → s.heap.get? b = some o → s'.heap.get? b = some o) →
      s'.heap.get? f = some (PySem.W.kla_obj "<lambda>" (X.env.qual ++ "<lambda>") params body scope (cloFrom X.env.cells scope.names []) pm c' ctv) → s'.heap.CodeRec (.ref c') (X.env.qual ++ "<lambda>") → Q (.ref f) s') :
    wpAny (model X.prog X.w) X.A (eval (.Lambda params body scope pos) X.env) Q E s := by
  obtain ⟨ps, hP, ht, ha⟩ := hT
  refine PySem.W.kla_eval hdef ?_
  have bP : s.heap.BuiltinsAt X.mg P := TB.bm.keeps I.bk
  have hP' : s.heap.get? P = some { cls := .none, data := .fields ps } := I.hok P _ hP
  cases hc : codeAmong pos ps.toList with
  | none =>
    refine PySem.W.kla_makeFunction (mg := X.mg) (c := c) (P := P) (ps := ps) (closure_ok hfree) I.ok.glob (I.mod.glob.keeps I.bk) hcode (TB.code.keeps I.bk) hP' ht hc TB.gP bP fun c' ctv h' tk hx hge hlt hrec htb => ?_
    have hrec' := hrec
    obtain ⟨c2, oc, vs, t, e2, hoc, hd, hv⟩ := hrec
    cases e2
    have nC : H c' = none := I.hok.fresh hge
    have g := TabA.grow (pos := pos) hP ht ha nC
    rw [hq] at g
    have I1 := inv_table (t' := tk) (more := #[rawInt pos.line, rawInt pos.col, .ref c']) (h' := h'.push (PySem.W.kla_obj "<lambda>" (X.env.qual ++ "<lambda>") params body scope (cloFrom X.env.cells scope.names []) ((X.mg "__name__").getD .none) c' ctv)) (q := X.env.qual ++ "<lambda>") I hP
      (fun b o hb e => Heap.get?_push_of_some _ (hx b o hb e)) (Heap.get?_push_of_some _ htb) hge ⟨oc, vs, t, Heap.get?_push_of_some _ hoc, hd, hv⟩
    exact h h'.objs.size c' ((X.mg "__name__").getD .none) ctv _ _ I1 g (fun b o hb e => Heap.get?_push_of_some _ (hx b o hb e)) (Heap.get?_push_size _ rfl) (hrec'.push _)
  | some cv =>
    obtain ⟨c', e, hco⟩ := ha pos cv hc
    subst e
    refine PySem.W.kla_makeFunctionHit (mg := X.mg) (c := c) (P := P) (ps := ps) (closure_ok hfree) I.ok.glob (I.mod.glob.keeps I.bk) hcode (TB.code.keeps I.bk) hP' ht hc bP fun ctv h' tk hx hsz => ?_
    have I1 : L2.Inv X pins σ H { s with heap := h'.push (PySem.W.kla_obj "<lambda>" (X.env.qual ++ "<lambda>") params body scope (cloFrom X.env.cells scope.names []) ((X.mg "__name__").getD .none) c' ctv), toks := tk } := I.kept fun b o e => Heap.get?_push_of_some _ (hx b o e)
    obtain ⟨⟨oc, vs, t, hoc, hdc, hvc⟩, _, _⟩ := I1.hok c' _ hco
    refine h h'.objs.size c' ((X.mg "__name__").getD .none) ctv H _ I1 ⟨⟨ps, hP, ht, ha⟩, fun _ _ _ e => e⟩ (fun b o _ e => Heap.get?_push_of_some _ (hx b o e)) (Heap.get?_push_size _ rfl) ⟨c', oc, vs, t, rfl, hoc, ?_, ?_⟩
    · exact hdc
    · rw [← hq]; exact hvc
end

/-- the lambda's call keeps the heap and gives its body's datum -/
theorem lam_call {P : Program} {w : World} {A : Around} {s : Shared} {f c' : Addr} {q x : Str} {params : Arguments} {body : Expr} {scope : Scope} {cl : List (Str × Addr)} {pm ctv v : Value} {caps : List (Str × PyData)} {dx d : PyData} {as : List Addr} {sc : Scope}
    (L : Lam1 sc scope x) (hroom : A.depth < recursionLimit) (lim : s.heap.NoLimit) (of : s.heap.get? f = some (PySem.W.kla_obj "<lambda>" q params body scope cl pm c' ctv)) (rec : s.heap.CodeRec (.ref c') q)
    (hbind : bindArgs (PySem.W.kla_fn "<lambda>" q params body scope cl pm (.ref c') ctv) ⟨[v], []⟩ = pure [(x, v)])
    (hcaps : ∀ y dy, caps.lookup y = some dy → scope.names.lookup y = some .free ∧ ∃ c u as, cl.lookup y = some c ∧ s.heap.IsCell c (some u) ∧ Reads s.heap u dy as)
    (hx : Reads s.heap v dx as) (hb : LE scope ((x, dx) :: caps) body d) (hf : flatD d = true) :
    wpAny (model P w) A (call (.ref f) [v]) (KeyPure d s) (fun _ _ => False) s := by
  refine wpAny_call ?_
  refine PySem.W.kla_callFunE hroom of rfl L.co L.gen rfl rec ?_
  rw [hbind]
  refine wpAny_pure (wpAny_newFunctionEnv L.nocell (fun y hy => ?_) (fun h₁ hns hsb => ⟨lim.fresh _ hsb, ?_⟩) L.kind)
  · have e : y = (x, v) := by simpa using hy
    rw [e]; exact L.loc
  · refine PySem.W.kla_codeExpr ?_
    have kp : ∀ b o, s.heap.get? b = some o → h₁.get? b = some o := fun b o e => hsb.extBut b o (Nat.ne_of_lt (Heap.lt_size e)) (Heap.get?_push_of_some _ e)
    refine wpAny_mono (hb.run P w _ _ { s with heap := h₁, toks := _ } rfl L.kind ?_) (fun u s' ⟨h', tk, as', e, k, r⟩ => ?_) fun _ _ z => z.elim
    · refine ⟨_, hns, fun y dy hy => ?_⟩
      by_cases hyx : y = x
      · subst hyx
        have e : dx = dy := by simpa using hy
        subst e
        exact ⟨v, as, PyProof.Rows.Reads.keeps kp hx, .inl ⟨L.loc, by simp⟩⟩
      · have hy' : caps.lookup y = some dy := by
          rw [List.lookup_cons] at hy
          have : (y == x) = false := by simpa using hyx
          rw [this] at hy
          exact hy
        obtain ⟨h1, c, u, as2, h2, h3, h4⟩ := hcaps y dy hy'
        exact ⟨u, as2, PyProof.Rows.Reads.keeps kp h4, .inr ⟨.inr h1, c, h2, h3.keeps kp⟩⟩
    · subst e
      have e0 := flat_reads r hf
      subst e0
      exact ⟨h', tk, rfl, fun b o e => k b o (kp b o e), r⟩
end GX
end lx2_
section lx3_
set_option maxRecDepth 100000
set_option maxHeartbeats 2000000
namespace GX
open PySem PySem.Spec PyProof.Rows L2 LamX PySem.W

/-! ### what sorted, .. walks -/
abbrev TSrc := L2.St → Hp → (List V → Hp → Prop) → Prop
/-- an expression whose value is a list, a tuple, a range: its items -/
def PSrc (X : Cx) (e : Expr) (t : TSrc) : Prop := ∀ (pins : List (Addr × Obj)) (s : Shared) (σ : L2.St) (H : Hp) (Q : List V → Hp → Prop), L2.Inv X pins σ H s → t σ H Q →
  wpAny (model X.prog X.w) X.A (eval e X.env) (fun x s1 => ∃ r o xs H1, x = .ref r ∧ s1.heap.get? r = some o ∧ o.cls ≠ .none ∧ L2.Inv X pins σ H1 s1 ∧ xs.length ≤ sizeLine ∧ Q xs H1 ∧
    ∀ (A : Around) (s2 : Shared) (Q2 : List Value → Shared → Prop) (E2 : Value → Shared → Prop), A.handled = none → s2.heap.get? r = some o → (∀ us h' tk, Vals xs us → (∀ b o, s2.heap.get? b = some o → h'.get? b = some o) → Q2 us { s2 with heap := h', toks := tk }) →
      wpAny (model X.prog X.w) A (collect x) Q2 E2 s2) X.xe s
def srcL (K : PySem.W.Frag) (te : TE) : TSrc := fun σ H Q => te σ H fun x H1 => ∃ a xs, x = .ref a ∧ SqL K H1 a xs ∧ Q xs H1
def srcT (K : PySem.W.Frag) (te : TE) : TSrc := fun σ H Q => te σ H fun x H1 => ∃ a xs, x = .ref a ∧ SqT K H1 a xs ∧ Q xs H1
def srcR (tr : L2.St → Hp → (Int → Int → Hp → Prop) → Prop) : TSrc := fun σ H Q => tr σ H fun a b H1 => RgOk a b ∧ Q (rgV a b) H1
section
variable {X : Cx} {e : Expr}
theorem src_list {te : TE} (he : PE X e te) : PSrc X e (srcL X.K te) := by
  intro pins s σ H Q I h
  refine thn (he.run pins s σ H _ I h) fun u s1 ⟨x, H1, I1, r1, a, xs, ex, hs, q⟩ => ?_
  subst ex
  cases r1
  obtain ⟨its, rv, ⟨o, n, h1, h2, h3, h4⟩, hz⟩ := I1.list hs
  refine ⟨a, o, xs, H1, rfl, h1, (by rw [h2]; exact fun z => by cases z), I1, hz, q, fun A s2 Q2 E2 _ ho hQ => ?_⟩
  exact wpAny_collect_seq a (.inl rfl) ho h2 h4 (fun h' hk => by simpa using hQ its h' s2.toks rv hk) (by rw [List.size_toArray, ← rv.length]; exact hz)
theorem src_tup {te : TE} (he : PE X e te) : PSrc X e (srcT X.K te) := by
  intro pins s σ H Q I h
  refine thn (he.run pins s σ H _ I h) fun u s1 ⟨x, H1, I1, r1, a, xs, ex, hs, q⟩ => ?_
  subst ex
  cases r1
  obtain ⟨its, rv, ⟨o, h1, h2, n, h4⟩, hz⟩ := I1.tuple hs
  refine ⟨a, o, xs, H1, rfl, h1, (by rw [h2]; exact fun z => by cases z), I1, hz, q, fun A s2 Q2 E2 _ ho hQ => ?_⟩
  exact wpAny_collect_seq a (.inr rfl) ho h2 h4 (fun h' hk => by simpa using hQ its h' s2.toks rv hk) (by rw [List.size_toArray, ← rv.length]; exact hz)
theorem src_rng {tr : L2.St → Hp → (Int → Int → Hp → Prop) → Prop} (he : PRg X e tr) : PSrc X e (srcR tr) := by
  intro pins s σ H Q I h
  refine thn (he pins s σ H _ I h) fun x s1 ⟨r, a, b, t, u, v, H1, ex, hr, I1, ok, q⟩ => ?_
  subst ex
  obtain ⟨b1, b2, b3, b4, b5⟩ := ok
  refine ⟨r, _, rgV a b, H1, rfl, hr, (fun z => by cases z), I1, by rw [rgV_length]; exact Nat.le_trans b5 (by decide), q, fun A s2 Q2 E2 hh ho hQ => ?_⟩
  exact collect_range hh ho (small_one b1 b2 b3 b4) (rangeSize_nat a b) b5 fun h' tk acc hk hi => hQ _ h' tk (vals_rg hi) hk
end

/-! ### data stand -/
theorem Rd.tbd {H H' : Hp} {P a : Addr} {u : HO} (hP : ∃ ps, H P = some (.tbl ps)) (k : ∀ b o, b ≠ P → H b = some o → H' b = some o) (hu : ∀ ps, u ≠ .tbl ps) (h : Rd H a u) : Rd H' a u := by
  obtain ⟨ps, hP⟩ := hP
  rcases h with h | ⟨o, h⟩
  · exact .inl (k _ _ (fun e => by rw [e, hP] at h; exact hu ps (Option.some.inj h).symm) h)
  · exact .inr ⟨o, k _ _ (fun e => by rw [e, hP] at h; cases h) h⟩
theorem SqL.tbd {K : PySem.W.Frag} {H H' : Hp} {P a : Addr} {xs : List V} (hP : ∃ ps, H P = some (.tbl ps)) (k : ∀ b o, b ≠ P → H b = some o → H' b = some o) (h : SqL K H a xs) : SqL K H' a xs := h.imp (Rd.tbd hP k fun _ z => by cases z) id
theorem SqT.tbd {K : PySem.W.Frag} {H H' : Hp} {P a : Addr} {xs : List V} (hP : ∃ ps, H P = some (.tbl ps)) (k : ∀ b o, b ≠ P → H b = some o → H' b = some o) (h : SqT K H a xs) : SqT K H' a xs := h.imp (Rd.tbd hP k fun _ z => by cases z) id
mutual
theorem Dp.tbd {K : PySem.W.Frag} {H H' : Hp} {P : Addr} (hP : ∃ ps, H P = some (.tbl ps)) (k : ∀ b o, b ≠ P → H b = some o → H' b = some o) : ∀ {v : V} {d : PyData}, Dp K H v d → Dp K H' v d
  | _, _, .non => .non
  | _, _, .bl b => .bl b
  | _, _, .int i => .int i
  | _, _, .str x => .str x
  | _, _, .lst h t => .lst (SqL.tbd hP k h) (DpAll.tbd hP k t)
  | _, _, .tup h t => .tup (SqT.tbd hP k h) (DpAll.tbd hP k t)
theorem DpAll.tbd {K : PySem.W.Frag} {H H' : Hp} {P : Addr} (hP : ∃ ps, H P = some (.tbl ps)) (k : ∀ b o, b ≠ P → H b = some o → H' b = some o) : ∀ {vs : List V} {ds : List PyData}, DpAll K H vs ds → DpAll K H' vs ds
  | _, _, .nil => .nil
  | _, _, .cons h t => .cons (Dp.tbd hP k h) (DpAll.tbd hP k t)
end

/-! ### sorted(.., key=lambda x: ..) -/
/-- items with their data -/
def tSortK (N : List Str) (K : PySem.W.Frag) (P : Addr) (qs : Nat → Nat → Str) (ts : TSrc) (scope : Scope) (x : Str) (body : Expr) : TE := fun σ H Q => ts σ H fun xs H1 => TabA H1 P qs ∧ ∃ (ds : List PyData) (caps : List (Str × PyData)) (k : PyData → PyData),
  DpAll K H1 xs ds ∧ (∀ y dy, caps.lookup y = some dy → scope.names.lookup y = some .free ∧ ∃ (i : Nat) (v : V), N[i]? = some y ∧ σ[i]? = some (some v) ∧ Dp K H1 v dy) ∧ (∀ d ∈ ds, LE scope ((x, d) :: caps) body (k d) ∧ flatD (k d) = true ∧ (k d).depth ≤ 64) ∧
  AllAlike (ds.map k) ∧ Sortable (ds.map k) ∧ ∀ H2, Tbd P qs H1 H2 → ∀ q, H2 q = none → Q (.ref q) (upd H2 q (.lst (((xs.zip ds).mergeSort (dataLe false fun b => k b.2)).map (·.1))))

theorem each_of {K : PySem.W.Frag} {X : Cx} {pins : List (Addr × Obj)} {σ : L2.St} {H : Hp} {s : Shared} (I : L2.Inv X pins σ H s) : ∀ {xs : List V} {ds : List PyData} {us : List Value}, DpAll X.K H xs ds → Vals xs us → EachIs (fun u (b : V × PyData) => RelV b.1 u ∧ (∃ as, Reads s.heap u b.2 as) ∧ b.2 ∈ ds) us (xs.zip ds)
  | _, _, _, .nil, .nil => .nil
  | _, _, _, .cons h t, .cons r rr => .cons ⟨r, Dp.reads I _ _ _ h r, List.mem_cons_self⟩ (by
      have := each_of (K := K) I t rr
      exact this.mono fun _ _ ⟨a, b, c⟩ => ⟨a, b, List.mem_cons_of_mem _ c⟩)
theorem each_vals : ∀ {us : List Value} {bs : List (V × PyData)} {R : Value → V × PyData → Prop}, EachIs R us bs → (∀ u b, R u b → RelV b.1 u) → Vals (bs.map (·.1)) us
  | _, _, _, .nil, _ => .nil
  | _, _, _, .cons h t, f => .cons (f _ _ h) (each_vals t f)
theorem dpAll_len {K : PySem.W.Frag} {H : Hp} : ∀ {xs : List V} {ds : List PyData}, DpAll K H xs ds → xs.length = ds.length
  | _, _, .nil => rfl
  | _, _, .cons _ t => by simp [dpAll_len t]
theorem zip_snd {α β : Type} : ∀ {xs : List α} {ds : List β}, xs.length = ds.length → (xs.zip ds).map (·.2) = ds
  | [], [], _ => rfl
  | x :: xs, d :: ds, h => by simp [zip_snd (xs := xs) (ds := ds) (by simpa using h)]

section
variable {X : Cx} {c P : Addr} {qs : Nat → Nat → Str} {e : Expr} {ts : TSrc} {params : Arguments} {body : Expr} {scope : Scope} {x : Str} {p pos lpos kpos : Pos} {k : Nat}
theorem pe_sortK (hr : Room k X.A) (hg : Gl X "sorted") (hm : X.mg "sorted" = none) (TB : TabB X.base X.mg c P) (hcode : X.env.code = .ref c) (hq : qs lpos.line lpos.col = X.env.qual ++ "<lambda>") (L : Lam1 X.env.scope scope x)
    (hdef : defaultsOf params X.env = ([], [])) (hbind : ∀ (q : Str) (cl : List (Str × Addr)) (pm cd ctv v : Value), bindArgs (PySem.W.kla_fn "<lambda>" q params body scope cl pm cd ctv) ⟨[v], []⟩ = pure [(x, v)])
    (hs : PSrc X e ts) (he : backTo pos (starEach [e] X.env) = (false, eval e X.env) :: backTo pos (starEach [] X.env) := by rfl) (hpl : (backTo pos (starEach [e] X.env)).any (·.1) = false := by rfl)
    (hall : (backToKw pos (keywordEach [⟨some "key", .Lambda params body scope lpos, kpos⟩] X.env)).all (·.1.isSome) = true := by rfl) (hnone : (backToKw pos (keywordEach [⟨some "key", .Lambda params body scope lpos, kpos⟩] X.env)).any (·.1.isNone) = false := by rfl)
    (hks : (backToKw pos (keywordEach [⟨some "key", .Lambda params body scope lpos, kpos⟩] X.env)).filterMap (·.1) = [Str.ofString "key"] := by rfl) :
    PE X (.Call (.Name "sorted" p) [e] [⟨some "key", .Lambda params body scope lpos, kpos⟩] pos) (tSortK X.N X.K P qs ts scope x body) := by
  refine ⟨fun pins s σ H Q I h => ?_⟩
  refine wpAny_Call_Name_kw (ld_blt I hg hm boot_sorted ?_)
  refine PyProof.Rows.callWith_kw ?_ he hpl hall hnone
  rw [hks, he]
  refine Calls.spliced_cons (thn (hs pins s σ H _ I h) fun u s1 ⟨r, o, xs, H1, eu, hro, hcls, I1, hz, hq1, hcol⟩ => ?_)
  subst eu
  refine Calls.spliced_nil ?_
  obtain ⟨hT, ds, caps, kk, hD, hcaps, hk, hal, hsk, hQ⟩ := hq1
  obtain ⟨ps, hP, _⟩ := id hT
  have hPh : s1.heap.get? P = some { cls := .none, data := .fields ps } := I1.hok P _ hP
  have hrP : r ≠ P := fun z => by
    rw [z, hPh] at hro
    cases hro
    exact hcls rfl
  show wpAny _ _ (evalAll [do let v ← eval (.Lambda params body scope lpos) X.env; standAt pos; pure v]) _ _ s1
  refine wpAny_evalAll_cons (wpAny_bind (lam_make I1 TB hcode hq hT hdef (L.has I1.ok) fun f c' pm ctv H2 s2 I2 htb hkeep hof hrec => wpAny_bind (wpAny_standAt (wpAny_pure (wpAny_evalAll_nil ?_)))))
  have hlen := dpAll_len hD
  have hD2 : DpAll X.K H2 xs ds := DpAll.tbd ⟨ps, hP⟩ htb.2 hD
  have ro2 : s2.heap.get? r = some o := hkeep _ _ hrP hro
  have hcl : ∀ y dy, caps.lookup y = some dy → scope.names.lookup y = some .free ∧ ∃ c u as, (cloFrom X.env.cells scope.names []).lookup y = some c ∧ s2.heap.IsCell c (some u) ∧ Reads s2.heap u dy as := fun y dy hy => by
    obtain ⟨hf, i, v, hN, hσ, hd⟩ := hcaps y dy hy
    refine ⟨hf, ?_⟩
    obtain ⟨m, hn, hl⟩ := I2.loc
    have hy' : (y, NameKind.free) ∈ scope.names := PySem.mem_of_lookup hf
    have hvis : Vis X.env.scope y := (L.free _ hy' rfl).elim (fun k => .inr (.inl k)) (fun k => .inr (.inr k))
    obtain ⟨u, ru, lk⟩ := hl i y v hN hσ hvis
    obtain ⟨as, hR⟩ := Dp.reads I2 dy v u (Dp.tbd ⟨ps, hP⟩ htb.2 hd) ru
    rcases lk with ⟨k', _⟩ | ⟨_, c3, e', z⟩
    · have k' : X.env.scope.names.lookup y = some .local := k'
      rcases L.free _ hy' rfl with k2 | k2 <;> rw [show X.env.scope.names.lookup y = _ from k2] at k' <;> cases k'
    · obtain ⟨c2, h2⟩ := mem_lookup (cloFrom_has (cells := X.env.cells) (acc := []) hy')
      have e2 : c2 = c3 := by
        rcases cloFrom_mem (PySem.mem_of_lookup h2) with hm | ⟨_, h4⟩
        · cases hm
        · rw [h4]
          have e'' : X.env.cells.lookup y = some c3 := e'
          rw [e'']
          rfl
      exact ⟨c2, u, as, h2, by rw [e2]; exact z, hR⟩
  -- sorted
  refine call_function_entry_kw kind_sorted plain_sorted entry_sorted (ksk_s1 _ _) ?_
  unfold Builtin.«sorted»
  refine wpAny_bind (m := checkCount "sorted" 1 1 _) (wpAny_pure ?_)
  refine wpAny_bind (hcol X.A.in1 s2 _ _ (show X.A.handled = none from hr.hd) ro2 fun us h' tk hv hk' => ?_)
  have hul : us.length = xs.length := hv.length.symm
  refine wpAny_bind (wpAny_newList ?_ (by rw [hul]; exact hz))
  have I3 : L2.Inv X pins σ H2 { s2 with heap := h', toks := tk } := I2.kept hk'
  generalize hs3 : ({ s2 with heap := h', toks := tk } : Shared) = s3 at I3
  have h3 : s3.heap = h' := by rw [← hs3]
  have hk3 : ∀ b o, s2.heap.get? b = some o → s3.heap.get? b = some o := by rw [h3]; exact hk'
  show wpAny _ _ _ _ _ { s3 with heap := s3.heap.push (seqObj "list" us.toArray 0) }
  have each := each_of (K := X.K) I3 hD2 hv
  have hbs : (xs.zip ds).map (·.2) = ds := zip_snd hlen
  have hkb : (xs.zip ds).map (fun b => kk b.2) = ds.map kk := by rw [← hbs, List.map_map]; rw [hbs]; rfl
  have hbl : (xs.zip ds).length = us.length := by rw [List.length_zip, ← hlen, Nat.min_self, hul]
  refine wpAny_bind (wpAny_holding (wpAny_call_entry_kw slot_list_sort ⟨_, Heap.get?_push_size _ rfl, rfl⟩ entry_list_sort ?_ (ksk_l1 _ _)))
  show wpAny _ _ (Builtin.«list.sort» ⟨[.ref s3.heap.objs.size], [(Str.ofString "key", .ref f)]⟩) _ _ _
  rw [ksk_t1]
  refine keyH_tree (kz := (xs.zip ds).map (fun b => kk b.2)) (s := { s3 with heap := s3.heap.push (seqObj "list" us.toArray 0) }) (vs := us) (n := 0) (Heap.get?_push_size _ rfl) (by rw [List.length_map, hbl]) (by rw [hul]; exact hz) (by rw [hkb]; exact hal) (by rw [hkb]; exact hsk) (fun d hd => ?_)
    (keyH_turns (s := { s3 with heap := s3.heap.push (seqObj "list" us.toArray 0) }) (k := fun b : V × PyData => kk b.2) each fun v b hR hx h4 tk4 kp => ?_) fun h4 tk4 out c4 kp hD4 ko => ⟨.none, rfl, wpAny_pure ⟨_, rfl, ?_⟩⟩
  · rw [hkb] at hd
    obtain ⟨d0, h1, rfl⟩ := List.mem_map.mp hd
    have := (hk d0 h1).2.2
    have := hr.un
    show X.A.units + 1 + 1 + _ < _
    omega
  · obtain ⟨_, ⟨as, hRd⟩, hmem⟩ := hR
    obtain ⟨hb, hf, _⟩ := hk b.2 hmem
    have up : ∀ b o, s3.heap.get? b = some o → h4.get? b = some o := fun b o e => kp b o (Nat.ne_of_lt (Heap.lt_size e)) (Heap.get?_push_of_some _ e)
    exact lam_call (s := { s3 with heap := h4, toks := tk4 }) L (by have := hr.dp; show X.A.depth < _; omega) (I3.nolimit.keeps up) (up _ _ (hk3 _ _ hof)) ((hrec.keeps hk3).keeps up) (hbind _ _ _ _ _ _)
      (fun y dy hy => by
        obtain ⟨h1, c, u, as, h2, h3, h4⟩ := hcl y dy hy
        exact ⟨h1, c, u, as, h2, (h3.keeps hk3).keeps up, PyProof.Rows.Reads.keeps up (PyProof.Rows.Reads.keeps hk3 h4)⟩)
      (PyProof.Rows.Reads.keeps up hRd) hb hf
  · have ke := keyedOut_each (fun b : V × PyData => kk b.2) ko each
    have hvals := each_vals ke fun u b h => h.1
    have up : ∀ b o, s3.heap.get? b = some o → h4.get? b = some o := fun b o e => kp b o (Nat.ne_of_lt (Heap.lt_size e)) (Heap.get?_push_of_some _ e)
    have hfr : H2 s3.heap.objs.size = none := I3.hok.fresh (Nat.le_refl _)
    have hl2 : (((xs.zip ds).mergeSort (dataLe false fun b => kk b.2)).map (·.1)).length ≤ sizeLine := by
      rw [List.length_map, List.length_mergeSort, hbl, hul]; exact hz
    refine ⟨.ref s3.heap.objs.size, _, I3.laid (t' := tk4) (o := .lst (((xs.zip ds).mergeSort (dataLe false fun b => kk b.2)).map (·.1))) up (Nat.le_refl _) ⟨hl2, out, c4, hvals, hD4⟩, rfl, hQ H2 htb _ hfr⟩
end
end GX
end lx3_
section pl1_
set_option maxRecDepth 100000
set_option maxHeartbeats 2000000
/-! data, mirrors, frames, the judgements -/
namespace PL
open PySem PySem.Spec PyProof.Rows L2 GxR GenW LamX GX

abbrev D := PyData

/-! ### mirrors -/
class Mir (M : Type → Type) where
  ret : {α : Type} → α → M α
  bnd : {α β : Type} → M α → (α → M β) → M β
  lift : {α : Type} → Option α → M α
  wp : {α : Type} → M α → (α → Prop) → Prop
  wp_ret : ∀ {α : Type} {a : α} {k : α → Prop}, wp (ret a) k → k a
  wp_bnd : ∀ {α β : Type} {m : M α} {f : α → M β} {k : β → Prop}, wp (bnd m f) k → wp m fun a => wp (f a) k
  wp_lift : ∀ {α : Type} {o : Option α} {k : α → Prop}, wp (lift o) k → ∃ a, o = some a ∧ k a
open Mir (ret bnd lift)
@[reducible] instance : Mir Option where
  ret := some
  bnd := Option.bind
  lift o := o
  wp m k := ∃ a, m = some a ∧ k a
  wp_ret := fun ⟨_, e, h⟩ => by cases e; exact h
  wp_bnd := fun {α β m f k} ⟨b, e, h⟩ => by
    cases m with
    | none => cases e
    | some a => exact ⟨a, rfl, b, e, h⟩
  wp_lift := id
def WP (α : Type) : Type := (α → Prop) → Prop
@[reducible] instance : Mir WP where
  ret a := fun k => k a
  bnd m f := fun k => m fun a => f a k
  lift o := fun k => ∃ a, o = some a ∧ k a
  wp m k := m k
  wp_ret := id
  wp_bnd := id
  wp_lift := id
theorem ret_o {α : Type} {a : α} : (ret a : Option α) = some a := rfl
theorem bnd_o {α β : Type} {m : Option α} {f : α → Option β} : bnd m f = m.bind f := rfl
theorem lift_o {α : Type} {m : Option α} : (lift m : Option α) = m := rfl
theorem ret_w {α : Type} {a : α} {k : α → Prop} : (ret a : WP α) k = k a := rfl
theorem bnd_w {α β : Type} {m : WP α} {f : α → WP β} {k : β → Prop} : (bnd m f : WP β) k = m fun a => f a k := rfl
theorem lift_w {α : Type} {m : Option α} {k : α → Prop} : (lift m : WP α) k = ∃ a, m = some a ∧ k a := rfl

/-! ### data and heaps -/
mutual
theorem Dp.mono {K : PySem.W.Frag} {H H' : Hp} (k : ∀ a o, H a = some o → H' a = some o) : ∀ {v : V} {d : PyData}, Dp K H v d → Dp K H' v d
  | _, _, .non => .non
  | _, _, .bl b => .bl b
  | _, _, .int i => .int i
  | _, _, .str x => .str x
  | _, _, .lst h t => .lst (Evl.ex_l k h) (DpAll.mono k t)
  | _, _, .tup h t => .tup (Evl.ex_t k h) (DpAll.mono k t)
theorem DpAll.mono {K : PySem.W.Frag} {H H' : Hp} (k : ∀ a o, H a = some o → H' a = some o) : ∀ {vs : List V} {ds : List PyData}, DpAll K H vs ds → DpAll K H' vs ds
  | _, _, .nil => .nil
  | _, _, .cons h t => .cons (Dp.mono k h) (DpAll.mono k t)
end
theorem dp_int {K : PySem.W.Frag} {H : Hp} {v : V} {i : Int} (h : Dp K H v (.int i)) : v = .int i := by cases h; rfl
theorem dp_bl {K : PySem.W.Frag} {H : Hp} {v : V} {b : Bool} (h : Dp K H v (.bool b)) : v = .bl b := by cases h; rfl
theorem dp_str {K : PySem.W.Frag} {H : Hp} {v : V} {x : Str} (h : Dp K H v (.str x)) : v = .str x := by cases h; rfl
theorem dp_non {K : PySem.W.Frag} {H : Hp} {v : V} (h : Dp K H v .none) : v = .non := by cases h; rfl
theorem dpAll_get {K : PySem.W.Frag} {H : Hp} : ∀ {vs : List V} {ds : List PyData}, DpAll K H vs ds → ∀ {i : Nat} {d : PyData}, ds[i]? = some d → ∃ v, vs[i]? = some v ∧ Dp K H v d
  | _, _, .nil, i, d, e => by simp at e
  | _, _, .cons h t, 0, d, e => by simp at e; subst e; exact ⟨_, rfl, h⟩
  | _, _, .cons h t, i + 1, d, e => by
    obtain ⟨v, h1, h2⟩ := dpAll_get t (i := i) (d := d) (by simpa using e)
    exact ⟨v, by simpa using h1, h2⟩
theorem dpAll_app {K : PySem.W.Frag} {H : Hp} : ∀ {vs us : List V} {ds es : List PyData}, DpAll K H vs ds → DpAll K H us es → DpAll K H (vs ++ us) (ds ++ es)
  | _, _, _, _, .nil, h => h
  | _, _, _, _, .cons h t, q => .cons h (dpAll_app t q)
theorem dpAll_set {K : PySem.W.Frag} {H : Hp} {v : V} {d : D} (h : Dp K H v d) : ∀ {vs : List V} {ds : List PyData} (i : Nat), DpAll K H vs ds → DpAll K H (vs.set i v) (ds.set i d)
  | _, _, _, .nil => .nil
  | _, _, 0, .cons _ t => .cons h t
  | _, _, i + 1, .cons q t => .cons q (dpAll_set h i t)
theorem dpAll_take {K : PySem.W.Frag} {H : Hp} : ∀ {vs : List V} {ds : List PyData} (n : Nat), DpAll K H vs ds → DpAll K H (vs.take n) (ds.take n)
  | _, _, 0, _ => .nil
  | _, _, _ + 1, .nil => .nil
  | _, _, n + 1, .cons h t => .cons h (dpAll_take n t)
theorem dpAll_drop {K : PySem.W.Frag} {H : Hp} : ∀ {vs : List V} {ds : List PyData} (n : Nat), DpAll K H vs ds → DpAll K H (vs.drop n) (ds.drop n)
  | _, _, 0, h => h
  | _, _, _ + 1, .nil => .nil
  | _, _, n + 1, .cons h t => dpAll_drop n t
theorem dpAll_erase {K : PySem.W.Frag} {H : Hp} : ∀ {vs : List V} {ds : List PyData} (n : Nat), DpAll K H vs ds → DpAll K H (vs.eraseIdx n) (ds.eraseIdx n)
  | _, _, _, .nil => .nil
  | _, _, 0, .cons _ t => t
  | _, _, n + 1, .cons h t => .cons h (dpAll_erase n t)
theorem dpAll_dropLast {K : PySem.W.Frag} {H : Hp} : ∀ {vs : List V} {ds : List PyData}, DpAll K H vs ds → DpAll K H vs.dropLast ds.dropLast
  | _, _, .nil => .nil
  | _, _, .cons _ .nil => .nil
  | _, _, .cons h (.cons h2 t) => .cons h (dpAll_dropLast (.cons h2 t))
theorem dpAll_rev {K : PySem.W.Frag} {H : Hp} : ∀ {vs : List V} {ds : List PyData}, DpAll K H vs ds → DpAll K H vs.reverse ds.reverse
  | _, _, .nil => .nil
  | _, _, .cons h t => by
    rw [List.reverse_cons, List.reverse_cons]
    exact dpAll_app (dpAll_rev t) (.cons h .nil)
theorem dpAll_ints {K : PySem.W.Frag} {H : Hp} : ∀ {vs : List V} {ns : List Int}, DpAll K H vs (ns.map PyData.int) → vs = ns.map V.int
  | _, [], h => by cases h; rfl
  | _, n :: ns, h => by
    cases h with
    | cons h t => rw [dp_int h, dpAll_ints t]; rfl
theorem ints_dpAll {K : PySem.W.Frag} {H : Hp} : ∀ (ns : List Int), DpAll K H (ns.map V.int) (ns.map PyData.int)
  | [] => .nil
  | n :: ns => .cons (.int n) (ints_dpAll ns)

/-- no table of code objects -/
def NT (o : HO) : Prop := ∀ ps, o ≠ .tbl ps
theorem nt_lst {xs : List V} : NT (.lst xs) := fun _ z => by cases z
theorem nt_tup {xs : List V} : NT (.tup xs) := fun _ z => by cases z

/-- all that one law knows of its program -/
structure Md where
  prog : Program
  w : PySem.World
  K : PySem.W.Frag
  mg : Str → Option Value
  base : Heap
  Ps : List Addr
  qs : Addr → Nat → Nat → Str
def Md.Tabs (μ : Md) (H : Hp) : Prop := ∀ P ∈ μ.Ps, TabA H P (μ.qs P)
theorem Md.Tabs.keep {μ : Md} {H H' : Hp} (h : μ.Tabs H) (kP : ∀ P ∈ μ.Ps, H' P = H P) (k : ∀ c q, H c = some (CodeO c q) → H' c = some (CodeO c q)) : μ.Tabs H' := fun P hP => by
  obtain ⟨ps, h1, h2, h3⟩ := h P hP
  refine ⟨ps, (kP P hP).trans h1, h2, fun pos cv e => ?_⟩
  obtain ⟨c, e1, e2⟩ := h3 pos cv e
  exact ⟨c, e1, k _ _ e2⟩

/-- a part of the heap that may be written by calls: the pool of draws -/
structure Wld where
  adr : Addr → Prop
  ok : Hp → Prop
  val : V
  keep : ∀ H H', ok H → (∀ a, adr a → H' a = H a) → ok H'
  has : ∀ H a, ok H → adr a → ∃ o, H a = some o ∧ NT o
def Wld.no : Wld := ⟨fun _ => False, fun _ => True, .non, fun _ _ _ _ => trivial, fun _ _ _ h => h.elim⟩

/-- from the heap H, of which B is frozen, to H' and B' -/
structure Stp (μ : Md) (ω : Wld) (B H B' H' : Hp) : Prop where
  sub : ∀ a o, B a = some o → B' a = some o
  new : ∀ a o, B' a = some o → H' a = some o ∧ NT o ∧ (B a = some o ∨ H a = none)
  ext : ∀ a o, H a = some o → NT o → ¬ ω.adr a → H' a = some o
  has : ∀ a, H' a = none → H a = none
  tabs : μ.Tabs H'
  wok : ω.ok H'
theorem Stp.trans {μ : Md} {ω : Wld} {B H B1 H1 B2 H2 : Hp} (s : Stp μ ω B H B1 H1) (t : Stp μ ω B1 H1 B2 H2) : Stp μ ω B H B2 H2 where
  sub := fun a o h => t.sub a o (s.sub a o h)
  new := fun a o h => by
    obtain ⟨h1, h2, h3⟩ := t.new a o h
    refine ⟨h1, h2, ?_⟩
    rcases h3 with h3 | h3
    · exact (s.new a o h3).2.2
    · exact .inr (s.has a h3)
  ext := fun a o h n na => t.ext a o (s.ext a o h n na) n na
  has := fun a h => s.has a (t.has a h)
  tabs := t.tabs
  wok := t.wok

inductive Sl where
  | dat (d : D) | own (ds : List D) | wrd
abbrev Env := List (Option Sl)
/-- a frame's constants: the pool, the heap at the entry and its frozen part -/
structure Fm where
  ω : Wld
  H0 : Hp
  B0 : Hp
def SlOk (μ : Md) (φ : Fm) (B H : Hp) (v : V) : Sl → Prop
  | .dat d => Dp μ.K B v d
  | .own ds => ∃ a vs, v = .ref a ∧ H a = some (.lst vs) ∧ B a = none ∧ φ.H0 a = none ∧ ¬ φ.ω.adr a ∧ DpAll μ.K B vs ds
  | .wrd => v = φ.ω.val
structure Fr (μ : Md) (φ : Fm) (B : Hp) (ρ : Env) (σ : L2.St) (H : Hp) : Prop where
  stp : Stp μ φ.ω φ.B0 φ.H0 B H
  na : ∀ a o, B a = some o → ¬ φ.ω.adr a
  len : σ.length = ρ.length
  sl : ∀ (i : Nat) s, ρ[i]? = some (some s) → ∃ v, σ[i]? = some (some v) ∧ SlOk μ φ B H v s
  ap : ∀ (i j : Nat) ds es v, ρ[i]? = some (some (.own ds)) → ρ[j]? = some (some (.own es)) → σ[i]? = some (some v) → σ[j]? = some (some v) → i = j
section
variable {μ : Md} {φ : Fm} {B H B' H' : Hp} {ρ : Env} {σ : L2.St}
theorem Fr.refl (F : Fr μ φ B ρ σ H) : Stp μ φ.ω B H B H := ⟨fun _ _ h => h, fun a o h => ⟨(F.stp.new a o h).1, (F.stp.new a o h).2.1, .inl h⟩, fun _ _ h _ _ => h, fun _ h => h, F.stp.tabs, F.stp.wok⟩
theorem Fr.bs (F : Fr μ φ B ρ σ H) {a : Addr} {o : HO} (h : B a = some o) : H a = some o := (F.stp.new a o h).1
theorem Fr.go (F : Fr μ φ B ρ σ H) (s : Stp μ φ.ω B H B' H') : Fr μ φ B' ρ σ H' where
  stp := F.stp.trans s
  na := fun a o h z => by
    rcases (s.new a o h).2.2 with h | h
    · exact F.na a o h z
    · obtain ⟨o', e, _⟩ := φ.ω.has H a F.stp.wok z
      rw [h] at e; cases e
  len := F.len
  sl := fun i sl e => by
    obtain ⟨v, h1, h2⟩ := F.sl i sl e
    refine ⟨v, h1, ?_⟩
    cases sl with
    | dat d => exact Dp.mono s.sub h2
    | own ds =>
      obtain ⟨a, vs, ev, ha, hb, h0, hn, hd⟩ := h2
      refine ⟨a, vs, ev, s.ext a _ ha nt_lst hn, ?_, h0, hn, DpAll.mono s.sub hd⟩
      cases q : B' a with
      | none => rfl
      | some o =>
        rcases (s.new a o q).2.2 with h | h
        · rw [h] at hb; cases hb
        · rw [h] at ha; cases ha
    | wrd => exact h2
  ap := F.ap
/-- a tuple or list of data is laid, frozen -/
theorem Stp.lay {μ : Md} {ω : Wld} {a : Addr} {o : HO} (hn : H a = none) (nt : NT o) (bs : ∀ a o, B a = some o → H a = some o ∧ NT o) (tabs : μ.Tabs H) (wok : ω.ok H) : Stp μ ω B H (upd B a o) (upd H a o) where
  sub := fun b u h => by
    rw [upd_ne]
    · exact h
    · intro z; subst z; rw [(bs b u h).1] at hn; cases hn
  new := fun b u h => by
    by_cases hb : b = a
    · subst hb
      rw [upd_same] at h ⊢
      cases h
      exact ⟨rfl, nt, .inr hn⟩
    · rw [upd_ne hb] at h ⊢
      exact ⟨(bs b u h).1, (bs b u h).2, .inl h⟩
  ext := fun b u h _ _ => by rw [upd_ne (ne_of_none h hn)]; exact h
  has := fun b h => by
    by_cases hb : b = a
    · subst hb; exact hn
    · rw [upd_ne hb] at h; exact h
  tabs := by
    refine tabs.keep (fun P hP => ?_) fun c q h => by rw [upd_ne (ne_of_none h hn)]; exact h
    obtain ⟨ps, h, _⟩ := tabs P hP
    rw [upd_ne (ne_of_none h hn)]
  wok := ω.keep _ _ wok fun b hb => by
    obtain ⟨u, h, _⟩ := ω.has _ b wok hb
    rw [upd_ne (ne_of_none h hn)]
/-- .. not frozen -/
theorem Stp.layM {μ : Md} {ω : Wld} {a : Addr} {o : HO} (hn : H a = none) (bs : ∀ a o, B a = some o → H a = some o ∧ NT o) (tabs : μ.Tabs H) (wok : ω.ok H) : Stp μ ω B H B (upd H a o) where
  sub := fun _ _ h => h
  new := fun b u h => by
    have hb : b ≠ a := fun z => by subst z; rw [(bs b u h).1] at hn; cases hn
    rw [upd_ne hb]
    exact ⟨(bs b u h).1, (bs b u h).2, .inl h⟩
  ext := fun b u h _ _ => by rw [upd_ne (ne_of_none h hn)]; exact h
  has := fun b h => by
    by_cases hb : b = a
    · subst hb; exact hn
    · rw [upd_ne hb] at h; exact h
  tabs := by
    refine tabs.keep (fun P hP => ?_) fun c q h => by rw [upd_ne (ne_of_none h hn)]; exact h
    obtain ⟨ps, h, _⟩ := tabs P hP
    rw [upd_ne (ne_of_none h hn)]
  wok := ω.keep _ _ wok fun b hb => by
    obtain ⟨u, h, _⟩ := ω.has _ b wok hb
    rw [upd_ne (ne_of_none h hn)]
theorem Fr.bsn (F : Fr μ φ B ρ σ H) : ∀ a o, B a = some o → H a = some o ∧ NT o := fun a o h => ⟨(F.stp.new a o h).1, (F.stp.new a o h).2.1⟩
theorem Fr.lay (F : Fr μ φ B ρ σ H) {a : Addr} {o : HO} (hn : H a = none) (nt : NT o) : Stp μ φ.ω B H (upd B a o) (upd H a o) := Stp.lay hn nt F.bsn F.stp.tabs F.stp.wok
theorem Fr.layM (F : Fr μ φ B ρ σ H) {a : Addr} {o : HO} (hn : H a = none) : Stp μ φ.ω B H B (upd H a o) := Stp.layM hn F.bsn F.stp.tabs F.stp.wok
/-- a fresh list is frozen -/
theorem Fr.frz (F : Fr μ φ B ρ σ H) {H' B' : Hp} {a : Addr} {vs : List V} (s : Stp μ φ.ω B H B' H') (hn : H a = none) (ha : H' a = some (.lst vs)) (hb : B' a = none) : Stp μ φ.ω B H (upd B' a (.lst vs)) H' where
  sub := fun b u h => by rw [upd_ne (ne_of_none (s.sub b u h) hb)]; exact s.sub b u h
  new := fun b u h => by
    by_cases hba : b = a
    · subst hba
      rw [upd_same] at h
      cases h
      exact ⟨ha, nt_lst, .inr hn⟩
    · rw [upd_ne hba] at h
      exact s.new b u h
  ext := s.ext
  has := s.has
  tabs := s.tabs
  wok := s.wok
theorem sub_upd {B : Hp} {a : Addr} {o : HO} (hb : B a = none) : ∀ b u, B b = some u → upd B a o b = some u := fun b u h => by rw [upd_ne (ne_of_none h hb)]; exact h
theorem Fr.dat (F : Fr μ φ B ρ σ H) {i : Nat} {d : D} (h : ρ[i]? = some (some (.dat d))) : ∃ v, σ[i]? = some (some v) ∧ Dp μ.K B v d := F.sl i _ h
end

/-! ### readings by mirrors -/
/-- what holds of a place in the program: the names, the scope, the room, the code object and its table, the pools -/
structure Cw where
  N : List Str
  scope : Scope
  k : Nat
  hc : Bool
  qual : Str
  c : Addr
  P : Addr
  ow : Str → Bool
  W : Wld → Prop
structure CxIs (μ : Md) (g : Cw) (X : Cx) : Prop where
  prog : X.prog = μ.prog
  w : X.w = μ.w
  K : X.K = μ.K
  mg : X.mg = μ.mg
  base : X.base = μ.base
  N : X.N = g.N
  scope : X.env.scope = g.scope
  room : Room g.k X.A
  code : g.hc = true → X.env.qual = g.qual ∧ X.env.code = .ref g.c ∧ LamX.TabB μ.base μ.mg g.c g.P ∧ g.P ∈ μ.Ps
  calm : X.calm = true
  xe : X.xe = fun _ _ => False
  fn : ∀ x, g.ow x = true → X.fn x = true
  nd : g.N.Nodup
def rd {M : Type → Type} [Mir M] {α R : Type} (μ : Md) (g : Cw) (ρ : Env) (Rel : Wld → Hp → Hp → Hp → α → R → Prop) (m : M α) : L2.St → Hp → (R → Hp → Prop) → Prop := fun σ H Q =>
  ∃ (φ : Fm) (B : Hp) (k : α → Prop), g.W φ.ω ∧ Fr μ φ B ρ σ H ∧ Mir.wp m k ∧ ∀ x r B' H', k x → Stp μ φ.ω B H B' H' → Rel φ.ω H B' H' x r → Q r H'
/-- data that may be read -/
def Rdb (K : PySem.W.Frag) (ω : Wld) (B H : Hp) (v : V) (d : D) : Prop := Dp K B v d ∨ ∃ a vs ds, v = .ref a ∧ d = .list ds ∧ H a = some (.lst vs) ∧ B a = none ∧ ¬ ω.adr a ∧ DpAll K B vs ds
abbrev RX (μ : Md) : Wld → Hp → Hp → Hp → D → V → Prop := fun _ _ B _ d v => Dp μ.K B v d
abbrev RL (μ : Md) : Wld → Hp → Hp → Hp → List D → V → Prop := fun ω H0 B H ds v => ∃ a vs, v = .ref a ∧ H a = some (.lst vs) ∧ H0 a = none ∧ B a = none ∧ ¬ ω.adr a ∧ DpAll μ.K B vs ds
abbrev RB (μ : Md) : Wld → Hp → Hp → Hp → D → V → Prop := fun ω _ B H d v => Rdb μ.K ω B H v d
abbrev RT : Wld → Hp → Hp → Hp → Bool → Bool → Prop := fun _ _ _ _ b c => c = b
abbrev RA (μ : Md) : Wld → Hp → Hp → Hp → List D → List V → Prop := fun _ _ B _ ds vs => DpAll μ.K B vs ds
section
variable {M : Type → Type} [Mir M]
variable {μ : Md} {g : Cw} {ρ : Env}
/-- an expression's value is data -/
def EX (μ : Md) (g : Cw) (ρ : Env) (e : Expr) (m : M D) : Prop := ∀ X, CxIs μ g X → PE X e (rd μ g ρ (RX μ) m)
/-- .. a fresh list of data -/
def EL (μ : Md) (g : Cw) (ρ : Env) (e : Expr) (m : M (List D)) : Prop := ∀ X, CxIs μ g X → PE X e (rd μ g ρ (RL μ) m)
/-- .. data, to be read at once -/
def EB (μ : Md) (g : Cw) (ρ : Env) (e : Expr) (m : M D) : Prop := ∀ X, CxIs μ g X → PE X e (rd μ g ρ (RB μ) m)
def ET (μ : Md) (g : Cw) (ρ : Env) (e : Expr) (m : M Bool) : Prop := ∀ X, CxIs μ g X → PT X e (rd μ g ρ RT m)
def EW (μ : Md) (g : Cw) (ρ : Env) (e : Expr) (m : M Bool) : Prop := ∀ X, CxIs μ g X → PW X e (rd μ g ρ RT m)
def EA (μ : Md) (g : Cw) (ρ : Env) (es : List Expr) (m : M (List D)) : Prop := ∀ X, CxIs μ g X → PA X es (rd μ g ρ (RA μ) m)

theorem rd.st {α β R : Type} {Rel : Wld → Hp → Hp → Hp → α → R → Prop} {m : M α} {f : α → M β} {φ : Fm} {B H : Hp} {σ : L2.St} {k : β → Prop} {Q : R → Hp → Prop} (hW : g.W φ.ω) (F : Fr μ φ B ρ σ H) (hm : Mir.wp (bnd m f) k)
    (h : ∀ x r B1 H1, Mir.wp (f x) k → Stp μ φ.ω B H B1 H1 → Rel φ.ω H B1 H1 x r → Q r H1) : rd μ g ρ Rel m σ H Q := ⟨φ, B, _, hW, F, Mir.wp_bnd hm, fun x r B' H' hk => h x r B' H' hk⟩
end
theorem _root_.L2.PE.imp {X : Cx} {e : Expr} {t t' : TE} (h : PE X e t) (i : ∀ σ H Q, t' σ H Q → t σ H Q) : PE X e t' := ⟨fun pins s σ H Q I q => h.run pins s σ H Q I (i σ H Q q)⟩
theorem _root_.L2.PT.imp {X : Cx} {e : Expr} {t t' : TT} (h : PT X e t) (i : ∀ σ H Q, t' σ H Q → t σ H Q) : PT X e t' := ⟨fun pins s σ H Q I q => h.run pins s σ H Q I (i σ H Q q)⟩
theorem _root_.L2.PW.imp {X : Cx} {e : Expr} {t t' : TT} (h : PW X e t) (i : ∀ σ H Q, t' σ H Q → t σ H Q) : PW X e t' := ⟨fun wh pins s σ H Q I q => h.run wh pins s σ H Q I (i σ H Q q)⟩
theorem _root_.L2.PA.imp {X : Cx} {e : List Expr} {t t' : TA} (h : PA X e t) (i : ∀ σ H Q, t' σ H Q → t σ H Q) : PA X e t' := ⟨fun wh pins s σ H Q I q => h.run wh pins s σ H Q I (i σ H Q q)⟩
theorem _root_.L2.PS.imp {X : Cx} {e : Stmt} {t t' : TS} (h : PS X e t) (i : ∀ D σ H, t' D σ H → t D σ H) : PS X e t' := ⟨fun pins s σ H Q I q => h.run pins s σ H Q I (i Q σ H q)⟩
theorem _root_.L2.PSs.imp {X : Cx} {e : List Stmt} {t t' : TS} (h : PSs X e t) (i : ∀ D σ H, t' D σ H → t D σ H) : PSs X e t' := ⟨fun pins s σ H Q I q => h.run pins s σ H Q I (i Q σ H q)⟩
end PL
end pl1_
section pl2_
set_option maxRecDepth 100000
set_option maxHeartbeats 2000000
/-! expressions -/
namespace PL
open PySem PySem.Spec PyProof.Rows L2 GxR GenW LamX GX
open Mir (ret bnd lift)

/-! ### operations on data -/
def dI2 (f : Int → Int → Option D) : D → D → Option D
  | .int i, .int j => f i j
  | _, _ => none
theorem dI2_some {f : Int → Int → Option D} {x y z : D} (h : dI2 f x y = some z) : ∃ i j, x = .int i ∧ y = .int j ∧ f i j = some z := by
  cases x <;> cases y <;> first | exact ⟨_, _, rfl, rfl, h⟩ | cases h
def dAdd : D → D → Option D
  | .int i, .int j => some (.int (i + j))
  | .tuple xs, .tuple ys => if xs.length + ys.length ≤ sizeLine then some (.tuple (xs ++ ys)) else none
  | _, _ => none
def dSub : D → D → Option D := dI2 fun i j => some (.int (i - j))
instance {i j : Int} : Decidable (CMul i j) := by unfold CMul; infer_instance
instance {i j : Int} : Decidable (CDiv i j) := by unfold CDiv; infer_instance
def dMul : D → D → Option D := dI2 fun i j => if CMul i j then some (.int (i * j)) else none
def dDiv : D → D → Option D := dI2 fun i j => if CDiv i j then some (.int (i / j)) else none
def dMod : D → D → Option D := dI2 fun i j => if 0 < j then some (.int (i % j)) else none
def dNeg : D → Option D
  | .int i => some (.int (-i))
  | _ => none
def dLt : D → D → Option D := dI2 fun i j => some (.bool (decide (i < j)))
def dLe : D → D → Option D := dI2 fun i j => some (.bool (decide (i ≤ j)))
def dGt : D → D → Option D := dI2 fun i j => some (.bool (decide (i > j)))
def dGe : D → D → Option D := dI2 fun i j => some (.bool (decide (i ≥ j)))
def dEq (x y : D) : Option D := if SeqAt.shaped x && SeqAt.shaped y then some (.bool (PyData.eqv x y)) else none
def dNe (x y : D) : Option D := if SeqAt.shaped x && SeqAt.shaped y then some (.bool (!PyData.eqv x y)) else none
def dFlat : D → Bool
  | .none => true
  | .bool _ => true
  | .int _ => true
  | .str _ => true
  | _ => false
def dIn (x : D) : D → Option D
  | .list ds => if SeqAt.shaped x && SeqAt.shaped (.list ds) then some (.bool (ds.any fun z => PyData.eqv z x)) else none
  | .tuple ds => if dFlat x && ds.all dFlat then some (.bool (ds.any fun z => PyData.eqv z x)) else none
  | _ => none
def dNot : D → Option D
  | .bool b => some (.bool (!b))
  | _ => none
def dNotIn (x y : D) : Option D := (dIn x y).bind dNot
def dBool : D → Option Bool
  | .bool b => some b
  | _ => none
def dItems : D → Option (List D)
  | .list ds => some ds
  | .tuple ds => some ds
  | _ => none
def dInt : D → Option Int
  | .int i => some i
  | _ => none
def dIx (x y : D) : Option D := (dItems x).bind fun ds => (dInt y).bind fun i => atI ds i
def dLen (x : D) : Option D := (dItems x).map fun ds => .int ds.length
def cutD (xs : List D) (lo hi : Option Int) : List D := (xs.drop (HT.sIx xs.length 0 lo)).take (HT.sIx xs.length xs.length hi - HT.sIx xs.length 0 lo)
def dSl (x : D) (lo hi : Option Int) : Option D :=
  match x with
  | .tuple ds => some (.tuple (cutD ds lo hi))
  | .list ds => some (.list (cutD ds lo hi))
  | _ => none
def dTup : D → Option D
  | .list ds => some (.tuple ds)
  | .tuple ds => some (.tuple ds)
  | _ => none
/-- truth of data -/
def dTrue : D → Option Bool
  | .none => some false
  | .bool b => some b
  | .int i => some (i != 0)
  | .list ds => some (!ds.isEmpty)
  | .tuple ds => some (!ds.isEmpty)
  | _ => none

section
variable {M : Type → Type} [Mir M]
variable {μ : Md} {g : Cw} {ρ : Env} {ω : Wld} {B H : Hp} {v u : V} {d e : D}
theorem Rdb.go {B' H' : Hp} (h : Rdb μ.K ω B H v d) (s : Stp μ ω B H B' H') : Rdb μ.K ω B' H' v d := by
  rcases h with h | ⟨a, vs, ds, e1, e2, ha, hb, hn, hd⟩
  · exact .inl (Dp.mono s.sub h)
  · refine .inr ⟨a, vs, ds, e1, e2, s.ext a _ ha nt_lst hn, ?_, hn, DpAll.mono s.sub hd⟩
    cases q : B' a with
    | none => rfl
    | some o =>
      rcases (s.new a o q).2.2 with h | h
      · rw [h] at hb; cases hb
      · rw [h] at ha; cases ha
theorem Rdb.int {i : Int} (h : Rdb μ.K ω B H v (.int i)) : v = .int i := by
  rcases h with h | ⟨a, vs, ds, e1, e2, _⟩
  · exact dp_int h
  · cases e2
theorem Rdb.bl {i : Bool} (h : Rdb μ.K ω B H v (.bool i)) : v = .bl i := by
  rcases h with h | ⟨a, vs, ds, e1, e2, _⟩
  · exact dp_bl h
  · cases e2
theorem Rdb.dp (h : Rdb μ.K ω B H v d) (b : ∀ a o, B a = some o → H a = some o) : Dp μ.K H v d := by
  rcases h with h | ⟨a, vs, ds, rfl, rfl, ha, hb, hn, hd⟩
  · exact Dp.mono b h
  · exact .lst (SqL.of ha) (DpAll.mono b hd)
theorem Rdb.tup {ds : List D} (h : Rdb μ.K ω B H v (.tuple ds)) : ∃ a vs, v = .ref a ∧ SqT μ.K B a vs ∧ DpAll μ.K B vs ds := by
  rcases h with h | ⟨a, vs, ds, e1, e2, _⟩
  · cases h with
    | tup h t => exact ⟨_, _, rfl, h, t⟩
  · cases e2
theorem Rdb.lst {ds : List D} (b : ∀ a o, B a = some o → H a = some o) (h : Rdb μ.K ω B H v (.list ds)) : ∃ a vs, v = .ref a ∧ SqL μ.K H a vs ∧ DpAll μ.K B vs ds := by
  rcases h with h | ⟨a, vs, ds, rfl, e2, ha, hb, hn, hd⟩
  · cases h with
    | lst h t => exact ⟨_, _, rfl, Evl.ex_l b h, t⟩
  · cases e2
    exact ⟨a, vs, rfl, SqL.of ha, hd⟩
theorem Rdb.seq {ds : List D} (b : ∀ a o, B a = some o → H a = some o) (h : Rdb μ.K ω B H v d) (hi : dItems d = some ds) : ∃ a vs, v = .ref a ∧ ((d = .list ds ∧ SqL μ.K H a vs) ∨ (d = .tuple ds ∧ SqT μ.K H a vs)) ∧ DpAll μ.K B vs ds := by
  cases d <;> simp [dItems] at hi
  · subst hi
    obtain ⟨a, vs, e, h1, h2⟩ := h.lst b
    exact ⟨a, vs, e, .inl ⟨rfl, h1⟩, h2⟩
  · subst hi
    obtain ⟨a, vs, e, h1, h2⟩ := h.tup
    exact ⟨a, vs, e, .inr ⟨rfl, Evl.ex_t b h1⟩, h2⟩
theorem Stp.bsub {B' H' : Hp} (s : Stp μ ω B H B' H') : ∀ a o, B' a = some o → H' a = some o := fun a o h => (s.new a o h).1

/-! ### changing the kind -/
theorem EX.eb {e : Expr} {m : M D} (h : EX μ g ρ e m) : EB μ g ρ e m := fun X hX => (h X hX).imp fun σ H Q ⟨φ, B, k, hW, F, hm, hQ⟩ => ⟨φ, B, k, hW, F, hm, fun x r B' H' hk s hr => hQ x r B' H' hk s (.inl hr)⟩
theorem EL.eb {e : Expr} {m : M (List D)} (h : EL μ g ρ e m) : EB μ g ρ e (bnd m fun ds => ret (.list ds)) := fun X hX => (h X hX).imp fun σ H Q ⟨φ, B, k, hW, F, hm, hQ⟩ => rd.st hW F hm fun ds v B1 H1 hk s ⟨a, vs, ev, ha, hn, hb, na, hd⟩ =>
  hQ _ _ _ _ (Mir.wp_ret hk) s (.inr ⟨a, vs, ds, ev, rfl, ha, hb, na, hd⟩)
/-- a fresh list is frozen -/
theorem EL.frz {e : Expr} {m : M (List D)} (h : EL μ g ρ e m) : EX μ g ρ e (bnd m fun ds => ret (.list ds)) := fun X hX => (h X hX).imp fun σ H Q ⟨φ, B, k, hW, F, hm, hQ⟩ => rd.st hW F hm fun ds v B1 H1 hk s ⟨a, vs, ev, ha, hn, hb, na, hd⟩ => by
  refine hQ _ _ _ _ (Mir.wp_ret hk) (F.frz s hn ha hb) ?_
  show Dp μ.K _ v _
  rw [ev]
  exact .lst (SqL.of upd_same) (DpAll.mono (sub_upd hb) hd)

/-! ### names, constants -/
theorem CxIs.vis {X : Cx} (h : CxIs μ g X) {x : Str} (hv : Vis g.scope x) : Vis X.env.scope x := by rw [h.scope]; exact hv
theorem CxIs.gl {X : Cx} (h : CxIs μ g X) {x : Str} (hv : g.scope.names.lookup x = some .globalImplicit) : Gl X x := by
  show X.env.scope.names.lookup x = _
  rw [h.scope]; exact hv
theorem EX.var {i : Nat} {x : Str} {d : D} {pos : Pos} (hρ : ρ[i]? = some (some (.dat d))) (hN : g.N[i]? = some x) (hv : Vis g.scope x) (hd : (x == ("__debug__" : Str)) = false := by decide) (hcd : (x == ("__classdict__" : Str)) = false := by decide) :
    EX μ g ρ (.Name x pos) (ret d : M D) := fun X hX => (pe_var (i := i) (by rw [hX.N]; exact hN) (hX.vis hv) hd hcd).imp fun σ H Q ⟨φ, B, k, hW, F, hm, hQ⟩ => by
  obtain ⟨v, h1, h2⟩ := F.dat hρ
  exact ⟨v, h1, hQ _ _ _ _ (Mir.wp_ret hm) F.refl h2⟩
theorem EB.own {i : Nat} {x : Str} {ds : List D} {pos : Pos} (hρ : ρ[i]? = some (some (.own ds))) (hN : g.N[i]? = some x) (hv : Vis g.scope x) (hd : (x == ("__debug__" : Str)) = false := by decide) (hcd : (x == ("__classdict__" : Str)) = false := by decide) :
    EB μ g ρ (.Name x pos) (ret (.list ds) : M D) := fun X hX => (pe_var (i := i) (by rw [hX.N]; exact hN) (hX.vis hv) hd hcd).imp fun σ H Q ⟨φ, B, k, hW, F, hm, hQ⟩ => by
  obtain ⟨v, h1, a, vs, ev, ha, hb, h0, hn, hd⟩ := F.sl i _ hρ
  exact ⟨v, h1, hQ _ _ _ _ (Mir.wp_ret hm) F.refl (.inr ⟨a, vs, ds, ev, rfl, ha, hb, hn, hd⟩)⟩
theorem EX.int {i : Int} {j pos} : EX μ g ρ (.Constant (.int i) j pos) (ret (.int i) : M D) := fun X hX => pe_int.imp fun σ H Q ⟨φ, B, k, hW, F, hm, hQ⟩ => hQ _ _ _ _ (Mir.wp_ret hm) F.refl (.int i)
theorem EX.str {x : Str} {j pos} : EX μ g ρ (.Constant (.str x) j pos) (ret (.str x) : M D) := fun X hX => pe_str.imp fun σ H Q ⟨φ, B, k, hW, F, hm, hQ⟩ => hQ _ _ _ _ (Mir.wp_ret hm) F.refl (.str x)
theorem EX.bl {x : Bool} {j pos} : EX μ g ρ (.Constant (.bool x) j pos) (ret (.bool x) : M D) := fun X hX => pe_bl.imp fun σ H Q ⟨φ, B, k, hW, F, hm, hQ⟩ => hQ _ _ _ _ (Mir.wp_ret hm) F.refl (.bl x)
theorem EX.non {j pos} : EX μ g ρ (.Constant .none j pos) (ret .none : M D) := fun X hX => pe_non.imp fun σ H Q ⟨φ, B, k, hW, F, hm, hQ⟩ => hQ _ _ _ _ (Mir.wp_ret hm) F.refl .non
/-- a module's constant -/
theorem EX.glob {x : Str} {v : V} {u : Value} {d : D} {pos : Pos} (hg : g.scope.names.lookup x = some .globalImplicit) (hm : μ.mg x = some u) (r : RelV v u) (hd : ∀ B, Dp μ.K B v d) (hdb : (x == ("__debug__" : Str)) = false := by decide) :
    EX μ g ρ (.Name x pos) (ret d : M D) := fun X hX => (pe_glob (hX.gl hg) (by rw [hX.mg]; exact hm) r hdb).imp fun σ H Q ⟨φ, B, k, hW, F, hm, hQ⟩ => hQ _ _ _ _ (Mir.wp_ret hm) F.refl (hd B)

/-! ### operators -/
/-- the rule r gives what f says -/
def OpOk (μ : Md) (f : D → D → Option D) (r : R2) : Prop := ∀ (ω : Wld) (B H : Hp) (x y : V) (d e z : D) (Q : VK), Stp μ ω B H B H → Rdb μ.K ω B H x d → Rdb μ.K ω B H y e → f d e = some z →
  (∀ v B' H', Stp μ ω B H B' H' → Dp μ.K B' v z → Q v H') → r x y H Q
theorem OpOk.run {f : D → D → Option D} {r : R2} (ok : OpOk μ f r) {a b : Expr} {ma mb : M D} {X : Cx} (ha : PE X a (rd μ g ρ (RB μ) ma)) (hb : PE X b (rd μ g ρ (RB μ) mb)) :
    ∀ σ H Q, rd μ g ρ (RX μ) (bnd ma fun x => bnd mb fun y => lift (f x y)) σ H Q → tOp r (rd μ g ρ (RB μ) ma) (rd μ g ρ (RB μ) mb) σ H Q := fun σ H Q ⟨φ, B, k, hW, F, hm, hQ⟩ =>
  rd.st hW F hm fun x r1 B1 H1 hk1 s1 hr1 => rd.st hW (F.go s1) hk1 fun y r2 B2 H2 hk2 s2 hr2 => by
    obtain ⟨z, hz, hk⟩ := Mir.wp_lift hk2
    exact ok φ.ω B2 H2 r1 r2 x y z Q ((F.go s1).go s2).refl (hr1.go s2) hr2 hz fun v B' H' s3 hv => hQ z v B' H' hk (s1.trans (s2.trans s3)) hv
theorem EX.bin {op : Operator} {f : D → D → Option D} {r : PySem.W.Frag → R2} (hop : ∀ X, CxIs μ g X → OpR X (binaryOp op) (r X.K)) (ok : OpOk μ f (r μ.K)) {a b : Expr} {ma mb : M D} {pos : Pos} (ha : EB μ g ρ a ma) (hb : EB μ g ρ b mb) :
    EX μ g ρ (.BinOp a op b pos) (bnd ma fun x => bnd mb fun y => lift (f x y)) := fun X hX => (pe_op (hX.K ▸ hop X hX) (ha X hX) (hb X hX)).imp (ok.run (ha X hX) (hb X hX))
theorem EX.cmp {op : CmpOp} {f : D → D → Option D} {r : PySem.W.Frag → R2} (hop : ∀ X, CxIs μ g X → OpR X (compareOp op) (r X.K)) (ok : OpOk μ f (r μ.K)) {a b : Expr} {ma mb : M D} {pos : Pos} (ha : EB μ g ρ a ma) (hb : EB μ g ρ b mb) (hm : behindInMarks op b = false) :
    EX μ g ρ (.Compare a [op] [b] pos) (bnd ma fun x => bnd mb fun y => lift (f x y)) := fun X hX => (pe_cmpR (hX.K ▸ hop X hX) (ha X hX) (hb X hX) hm).imp (ok.run (ha X hX) (hb X hX))

theorem ok_I0 {f : Int → Int → D} {h : Int → Int → V} (hd : ∀ i j B, Dp μ.K B (h i j) (f i j)) : OpOk μ (dI2 fun i j => some (f i j)) (rI0 h) := fun ω B H x y d e z Q b hx hy hz hQ => by
  obtain ⟨i, j, rfl, rfl, hz⟩ := dI2_some hz
  cases hz
  exact ⟨i, j, hx.int, hy.int, hQ _ _ _ b (hd i j B)⟩
theorem ok_I {C : Int → Int → Prop} [∀ i j, Decidable (C i j)] {f : Int → Int → D} {h : Int → Int → V} (hd : ∀ i j B, Dp μ.K B (h i j) (f i j)) : OpOk μ (dI2 fun i j => if C i j then some (f i j) else none) (rI C h) := fun ω B H x y d e z Q b hx hy hz hQ => by
  obtain ⟨i, j, rfl, rfl, hz⟩ := dI2_some hz
  by_cases hc : C i j
  · simp only [dI2, if_pos hc] at hz
    cases hz
    exact ⟨i, j, hx.int, hy.int, hc, hQ _ _ _ b (hd i j B)⟩
  · simp only [dI2, if_neg hc] at hz
    cases hz
variable {a b : Expr} {ma mb : M D} {pos : Pos}
theorem ok_add : OpOk μ dAdd (fun x y H Q => rI0 (fun i j => .int (i + j)) x y H Q ∨ rCatA μ.K x y H Q) := fun ω B H x y d e z Q b hx hy hz hQ => by
  cases d <;> cases e <;> simp [dAdd] at hz
  · subst hz
    exact .inl ⟨_, _, hx.int, hy.int, hQ _ _ _ b (.int _)⟩
  · obtain ⟨hl, rfl⟩ := hz
    rename_i xs ys
    obtain ⟨a1, vs, rfl, h1, h2⟩ := hx.tup
    obtain ⟨a2, us, rfl, h3, h4⟩ := hy.tup
    have l1 := dpAll_len h2
    have l2 := dpAll_len h4
    refine .inr ⟨a1, a2, vs, us, rfl, rfl, Evl.ex_t b.bsub h1, Evl.ex_t b.bsub h3, by omega, fun e0 => ?_, fun _ e0 => ?_, fun _ _ p hp => ?_⟩
    · subst e0
      cases h2
      exact hQ _ _ _ b (.tup h3 h4)
    · subst e0
      cases h4
      rw [List.append_nil] at hQ
      exact hQ _ _ _ b (.tup h1 h2)
    · refine hQ _ _ _ (Stp.lay (o := .tup (vs ++ us)) hp nt_tup (fun a o h => ⟨(b.new a o h).1, (b.new a o h).2.1⟩) b.tabs b.wok) ?_
      have hbp : B p = none := by
        cases q : B p with
        | none => rfl
        | some o => rw [b.bsub p o q] at hp; cases hp
      exact .tup (SqT.of upd_same) (DpAll.mono (sub_upd hbp) (dpAll_app h2 h4))
theorem EX.add (ha : EB μ g ρ a ma) (hb : EB μ g ρ b mb) : EX μ g ρ (.BinOp a .Add b pos) (bnd ma fun x => bnd mb fun y => lift (dAdd x y)) :=
  EX.bin (r := fun K => fun x y H Q => rI0 (fun i j => .int (i + j)) x y H Q ∨ rCatA K x y H Q) (fun X _ => op_add.or op_catA) ok_add ha hb
theorem EX.sub (ha : EB μ g ρ a ma) (hb : EB μ g ρ b mb) : EX μ g ρ (.BinOp a .Sub b pos) (bnd ma fun x => bnd mb fun y => lift (dSub x y)) :=
  EX.bin (r := fun _ => _) (fun X _ => op_sub) (ok_I0 fun _ _ _ => .int _) ha hb
theorem EX.mul (ha : EB μ g ρ a ma) (hb : EB μ g ρ b mb) : EX μ g ρ (.BinOp a .Mult b pos) (bnd ma fun x => bnd mb fun y => lift (dMul x y)) :=
  EX.bin (r := fun _ => _) (fun X _ => op_mul) (ok_I fun _ _ _ => .int _) ha hb
theorem EX.div (ha : EB μ g ρ a ma) (hb : EB μ g ρ b mb) : EX μ g ρ (.BinOp a .FloorDiv b pos) (bnd ma fun x => bnd mb fun y => lift (dDiv x y)) :=
  EX.bin (r := fun _ => _) (fun X _ => op_fdiv) (ok_I fun _ _ _ => .int _) ha hb
theorem EX.mod (ha : EB μ g ρ a ma) (hb : EB μ g ρ b mb) : EX μ g ρ (.BinOp a .Mod b pos) (bnd ma fun x => bnd mb fun y => lift (dMod x y)) :=
  EX.bin (r := fun _ => _) (fun X _ => op_mod) (ok_I fun _ _ _ => .int _) ha hb
theorem EX.neg (ha : EX μ g ρ a ma) : EX μ g ρ (.UnaryOp .USub a pos) (bnd ma fun x => lift (dNeg x)) := fun X hX => (pe_un un_neg (ha X hX)).imp fun σ H Q ⟨φ, B, k, hW, F, hm, hQ⟩ =>
  rd.st hW F hm fun x r1 B1 H1 hk1 s1 hr1 => by
    obtain ⟨z, hz, hk⟩ := Mir.wp_lift hk1
    cases x <;> simp [dNeg] at hz
    subst hz
    exact ⟨_, dp_int hr1, hQ _ _ _ _ hk s1 (.int _)⟩
theorem EX.lt (ha : EB μ g ρ a ma) (hb : EB μ g ρ b mb) : EX μ g ρ (.Compare a [.Lt] [b] pos) (bnd ma fun x => bnd mb fun y => lift (dLt x y)) :=
  EX.cmp (r := fun _ => _) (fun X _ => op_lt) (ok_I0 fun _ _ _ => .bl _) ha hb (nobehind _ (by decide) (by decide))
theorem EX.le (ha : EB μ g ρ a ma) (hb : EB μ g ρ b mb) : EX μ g ρ (.Compare a [.LtE] [b] pos) (bnd ma fun x => bnd mb fun y => lift (dLe x y)) :=
  EX.cmp (r := fun _ => _) (fun X _ => op_le) (ok_I0 fun _ _ _ => .bl _) ha hb (nobehind _ (by decide) (by decide))
theorem EX.gt (ha : EB μ g ρ a ma) (hb : EB μ g ρ b mb) : EX μ g ρ (.Compare a [.Gt] [b] pos) (bnd ma fun x => bnd mb fun y => lift (dGt x y)) :=
  EX.cmp (r := fun _ => _) (fun X _ => op_gt) (ok_I0 fun _ _ _ => .bl _) ha hb (nobehind _ (by decide) (by decide))
theorem EX.ge (ha : EB μ g ρ a ma) (hb : EB μ g ρ b mb) : EX μ g ρ (.Compare a [.GtE] [b] pos) (bnd ma fun x => bnd mb fun y => lift (dGe x y)) :=
  EX.cmp (r := fun _ => _) (fun X _ => op_ge) (ok_I0 fun _ _ _ => .bl _) ha hb (nobehind _ (by decide) (by decide))
theorem ok_eq : OpOk μ dEq (rEqD μ.K) := fun ω B H x y d e z Q b hx hy hz hQ => by
  unfold dEq at hz
  split at hz
  · rename_i h
    cases hz
    rw [Bool.and_eq_true] at h
    exact ⟨d, e, hx.dp b.bsub, hy.dp b.bsub, h.1, h.2, hQ _ _ _ b (.bl _)⟩
  · cases hz
theorem ok_ne : OpOk μ dNe (rNeD μ.K) := fun ω B H x y d e z Q b hx hy hz hQ => by
  unfold dNe at hz
  split at hz
  · rename_i h
    cases hz
    rw [Bool.and_eq_true] at h
    exact ⟨d, e, hx.dp b.bsub, hy.dp b.bsub, h.1, h.2, hQ _ _ _ b (.bl _)⟩
  · cases hz
theorem EX.eq (ha : EB μ g ρ a ma) (hb : EB μ g ρ b mb) : EX μ g ρ (.Compare a [.Eq] [b] pos) (bnd ma fun x => bnd mb fun y => lift (dEq x y)) :=
  EX.cmp (r := rEqD) (fun X hX => op_eqD (by have := hX.room.un; omega)) ok_eq ha hb (nobehind _ (by decide) (by decide))
theorem EX.ne (ha : EB μ g ρ a ma) (hb : EB μ g ρ b mb) : EX μ g ρ (.Compare a [.NotEq] [b] pos) (bnd ma fun x => bnd mb fun y => lift (dNe x y)) :=
  EX.cmp (r := rNeD) (fun X hX => op_neD (by have := hX.room.un; omega)) ok_ne ha hb (nobehind _ (by decide) (by decide))
theorem flat_of {d : D} (h : Dp μ.K B v d) (hf : dFlat d = true) : flatV v = true := by cases h <;> first | rfl | cases hf
theorem flats_of : ∀ {vs : List V} {ds : List D}, DpAll μ.K B vs ds → ds.all dFlat = true → vs.all flatV = true
  | _, _, .nil, _ => rfl
  | _, _, .cons h t, hf => by
    rw [List.all_cons, Bool.and_eq_true] at hf ⊢
    exact ⟨flat_of h hf.1, flats_of t hf.2⟩
theorem eqv_flat {x y : V} {d e : D} (hx : Dp μ.K B x d) (hy : Dp μ.K B y e) (fx : dFlat d = true) (fy : dFlat e = true) : eqV x y = PyData.eqv d e := by
  cases hx <;> cases hy <;> first | rfl | (cases fx; done) | (cases fy; done) | simp [eqV, PyData.eqv]
theorem inv_flat {x : V} {d : D} (hx : Dp μ.K B x d) (fx : dFlat d = true) : ∀ {vs : List V} {ds : List D}, DpAll μ.K B vs ds → ds.all dFlat = true → inV x vs = ds.any fun z => PyData.eqv z d
  | _, _, .nil, _ => rfl
  | _, _, .cons h t, hf => by
    rw [List.all_cons, Bool.and_eq_true] at hf
    have := inv_flat hx fx t hf.2
    unfold inV at this ⊢
    rw [List.any_cons, List.any_cons, this, eqv_flat h hx hf.1 fx]
theorem ok_in : OpOk μ dIn (fun x y H Q => rInD μ.K x y H Q ∨ rIn μ.K false x y H Q) := fun ω B H x y d e z Q b hx hy hz hQ => by
  cases e <;> simp only [dIn] at hz <;> first | (cases hz; done) | skip
  · split at hz
    · rename_i h
      cases hz
      rw [Bool.and_eq_true] at h
      exact .inl ⟨d, _, hx.dp b.bsub, hy.dp b.bsub, h.1, h.2, hQ _ _ _ b (.bl _)⟩
    · cases hz
  · split at hz
    · rename_i h
      cases hz
      rw [Bool.and_eq_true] at h
      obtain ⟨a2, us, rfl, h3, h4⟩ := hy.tup
      have hx' : Dp μ.K B x d := by
        rcases hx with hx | ⟨_, _, _, _, rfl, _⟩
        · exact hx
        · cases h.1
      refine .inr ⟨a2, us, rfl, .inr (Evl.ex_t b.bsub h3), flat_of hx' h.1, flats_of h4 h.2, ?_⟩
      simp only [Bool.false_eq_true, if_false]
      rw [inv_flat hx' h.1 h4 h.2]
      exact hQ _ _ _ b (.bl _)
    · cases hz
theorem ok_notIn : OpOk μ dNotIn (fun x y H Q => rNotInD μ.K x y H Q ∨ rIn μ.K true x y H Q) := fun ω B H x y d e z Q b hx hy hz hQ => by
  cases e <;> simp only [dNotIn, dIn] at hz <;> first | (cases hz; done) | skip
  · split at hz
    · rename_i h
      cases hz
      rw [Bool.and_eq_true] at h
      exact .inl ⟨d, _, hx.dp b.bsub, hy.dp b.bsub, h.1, h.2, hQ _ _ _ b (.bl _)⟩
    · cases hz
  · split at hz
    · rename_i h
      cases hz
      rw [Bool.and_eq_true] at h
      obtain ⟨a2, us, rfl, h3, h4⟩ := hy.tup
      have hx' : Dp μ.K B x d := by
        rcases hx with hx | ⟨_, _, _, _, rfl, _⟩
        · exact hx
        · cases h.1
      refine .inr ⟨a2, us, rfl, .inr (Evl.ex_t b.bsub h3), flat_of hx' h.1, flats_of h4 h.2, ?_⟩
      simp only [if_true]
      rw [inv_flat hx' h.1 h4 h.2]
      exact hQ _ _ _ b (.bl _)
    · cases hz
/-- hm: by rfl, the right side no written-out set, tuple, .. -/
theorem EX.in_ (ha : EB μ g ρ a ma) (hb : EB μ g ρ b mb) (hm : behindInMarks .In b = false) : EX μ g ρ (.Compare a [.In] [b] pos) (bnd ma fun x => bnd mb fun y => lift (dIn x y)) :=
  EX.cmp (r := fun K => fun x y H Q => rInD K x y H Q ∨ rIn K false x y H Q) (fun X hX => (op_inD (by have := hX.room.un; omega)).or op_in_seq) ok_in ha hb hm
theorem EX.notIn (ha : EB μ g ρ a ma) (hb : EB μ g ρ b mb) (hm : behindInMarks .NotIn b = false) : EX μ g ρ (.Compare a [.NotIn] [b] pos) (bnd ma fun x => bnd mb fun y => lift (dNotIn x y)) :=
  EX.cmp (r := fun K => fun x y H Q => rNotInD K x y H Q ∨ rIn K true x y H Q) (fun X hX => (op_notInD (by have := hX.room.un; omega)).or op_notIn_seq) ok_notIn ha hb hm
/-- a op b op' c -/
theorem EX.chain {c : Expr} {mc : M D} {op op' : CmpOp} {f f' : D → D → Option D} {r r' : R2} (hop : ∀ X, CxIs μ g X → OpR X (compareOp op) r) (hop' : ∀ X, CxIs μ g X → OpR X (compareOp op') r') (ok : OpOk μ f r) (ok' : OpOk μ f' r') (ha : EX μ g ρ a ma) (hb : EX μ g ρ b mb) (hc : EX μ g ρ c mc)
    (hm : lastMarks [op, op'] [b, c] = false := by with_unfolding_all rfl) : EX μ g ρ (.Compare a [op, op'] [b, c] pos) (bnd ma fun x => bnd mb fun y => bnd (lift ((f x y).bind dBool)) fun t => if t then bnd mc fun z => lift (f' y z) else ret (.bool false)) := fun X hX =>
  (pe_chain (hop X hX) (hop' X hX) (ha X hX) (hb X hX) (hc X hX) hm).imp fun σ H Q ⟨φ, B, k, hW, F, hm, hQ⟩ => rd.st hW F hm fun x r1 B1 H1 hk1 s1 hr1 => rd.st hW (F.go s1) hk1 fun y r2 B2 H2 hk2 s2 hr2 => by
    obtain ⟨t, ht, hk⟩ := Mir.wp_lift (Mir.wp_bnd hk2)
    obtain ⟨z, hz, hzt⟩ := Option.bind_eq_some_iff.mp ht
    refine ok φ.ω B2 H2 r1 r2 x y z _ ((F.go s1).go s2).refl (.inl (Dp.mono s2.sub hr1)) (.inl hr2) hz fun v B3 H3 s3 hv => ?_
    cases z <;> simp [dBool] at hzt
    subst hzt
    rename_i t
    refine ⟨t, dp_bl hv, ?_⟩
    cases t with
    | true =>
      simp only [if_true] at hk ⊢
      refine rd.st hW (((F.go s1).go s2).go s3) hk fun w r4 B4 H4 hk4 s4 hr4 => ?_
      obtain ⟨z', hz', hk'⟩ := Mir.wp_lift hk4
      exact ok' φ.ω B4 H4 r2 r4 y w z' Q ((((F.go s1).go s2).go s3).go s4).refl (.inl (Dp.mono (s3.trans s4).sub hr2)) (.inl hr4) hz' fun v' B' H' s5 hv' => hQ z' v' B' H' hk' (s1.trans (s2.trans (s3.trans (s4.trans s5)))) hv'
    | false =>
      simp only [Bool.false_eq_true, if_false] at hk ⊢
      exact hQ _ _ _ _ (Mir.wp_ret hk) (s1.trans (s2.trans s3)) (.bl _)
def cOk (μ : Md) (g : Cw) (op : CmpOp) (f : D → D → Option D) : Prop := ∃ r, (∀ X, CxIs μ g X → OpR X (compareOp op) r) ∧ OpOk μ f r
theorem c_lt : cOk μ g .Lt dLt := ⟨_, fun X _ => op_lt, ok_I0 fun _ _ _ => .bl _⟩
theorem c_le : cOk μ g .LtE dLe := ⟨_, fun X _ => op_le, ok_I0 fun _ _ _ => .bl _⟩
theorem c_gt : cOk μ g .Gt dGt := ⟨_, fun X _ => op_gt, ok_I0 fun _ _ _ => .bl _⟩
theorem c_ge : cOk μ g .GtE dGe := ⟨_, fun X _ => op_ge, ok_I0 fun _ _ _ => .bl _⟩
theorem c_eq : cOk μ g .Eq dEq := ⟨_, fun X hX => hX.K ▸ op_eqD (by have := hX.room.un; omega), ok_eq⟩
theorem c_ne : cOk μ g .NotEq dNe := ⟨_, fun X hX => hX.K ▸ op_neD (by have := hX.room.un; omega), ok_ne⟩
theorem EX.chn {c : Expr} {mc : M D} {op op' : CmpOp} {f f' : D → D → Option D} (h : cOk μ g op f) (h' : cOk μ g op' f') (ha : EX μ g ρ a ma) (hb : EX μ g ρ b mb) (hc : EX μ g ρ c mc)
    (hm : lastMarks [op, op'] [b, c] = false := by with_unfolding_all rfl) : EX μ g ρ (.Compare a [op, op'] [b, c] pos) (bnd ma fun x => bnd mb fun y => bnd (lift ((f x y).bind dBool)) fun t => if t then bnd mc fun z => lift (f' y z) else ret (.bool false)) := by
  obtain ⟨r, h1, h2⟩ := h
  obtain ⟨r', h3, h4⟩ := h'
  exact EX.chain h1 h3 h2 h4 ha hb hc hm

/-! ### tests -/
theorem EX.tB {e : Expr} {m : M D} (h : EX μ g ρ e m) (he : ∀ env whole, isTrue e env whole = (do let v ← whole; standAt e.pos; holding [v] (truthy v))) : ET μ g ρ e (bnd m fun x => lift (dTrue x)) := fun X hX =>
  (pt_truth (h X hX) (he _)).imp fun σ H Q ⟨φ, B, k, hW, F, hm, hQ⟩ => rd.st hW F hm fun x r1 B1 H1 hk1 s1 hr1 => by
    obtain ⟨z, hz, hk⟩ := Mir.wp_lift hk1
    refine ⟨z, ?_, hQ _ _ _ _ hk s1 rfl⟩
    rw [hX.K]
    have bs := s1.bsub
    cases hr1 <;> simp only [dTrue] at hz <;> cases hz
    · rfl
    · rfl
    · rfl
    · rename_i h t
      refine .inl ⟨_, Evl.ex_l bs h, ?_⟩
      cases t <;> rfl
    · rename_i h t
      refine .inr (.inl ⟨_, Evl.ex_t bs h, ?_⟩)
      cases t <;> rfl
theorem ET.cmp {op : CmpOp} {f : D → D → Option D} (h : cOk μ g op f) (ha : EB μ g ρ a ma) (hb : EB μ g ρ b mb) (hm : behindInMarks op b = false) :
    ET μ g ρ (.Compare a [op] [b] pos) (bnd ma fun x => bnd mb fun y => lift ((f x y).bind dBool)) := fun X hX => by
  obtain ⟨r, h1, ok⟩ := h
  refine (pt_cmpR (h1 X hX) (ha X hX) (hb X hX) hm).imp fun σ H Q ⟨φ, B, k, hW, F, hm, hQ⟩ => rd.st hW F hm fun x r1 B1 H1 hk1 s1 hr1 => rd.st hW (F.go s1) hk1 fun y r2 B2 H2 hk2 s2 hr2 => ?_
  obtain ⟨t, ht, hk⟩ := Mir.wp_lift hk2
  obtain ⟨z, hz, hzt⟩ := Option.bind_eq_some_iff.mp ht
  refine ok φ.ω B2 H2 r1 r2 x y z _ ((F.go s1).go s2).refl (hr1.go s2) hr2 hz fun v B3 H3 s3 hv => ?_
  cases z <;> simp [dBool] at hzt
  subst hzt
  exact ⟨_, dp_bl hv, hQ _ _ _ _ hk (s1.trans (s2.trans s3)) rfl⟩
theorem c_in : cOk μ g .In dIn := ⟨_, fun X hX => hX.K ▸ (op_inD (by have := hX.room.un; omega)).or op_in_seq, ok_in⟩
theorem c_notIn : cOk μ g .NotIn dNotIn := ⟨_, fun X hX => hX.K ▸ (op_notInD (by have := hX.room.un; omega)).or op_notIn_seq, ok_notIn⟩
theorem EX.cp {op : CmpOp} {f : D → D → Option D} (h : cOk μ g op f) (ha : EB μ g ρ a ma) (hb : EB μ g ρ b mb) (hm : behindInMarks op b = false) :
    EX μ g ρ (.Compare a [op] [b] pos) (bnd ma fun x => bnd mb fun y => lift (f x y)) := by
  obtain ⟨r, h1, ok⟩ := h
  exact EX.cmp (r := fun _ => r) h1 ok ha hb hm
theorem ET.chn {c : Expr} {mc : M D} {op op' : CmpOp} {f f' : D → D → Option D} (h : cOk μ g op f) (h' : cOk μ g op' f') (ha : EX μ g ρ a ma) (hb : EX μ g ρ b mb) (hc : EX μ g ρ c mc)
    (hm : lastMarks [op, op'] [b, c] = false := by with_unfolding_all rfl) : ET μ g ρ (.Compare a [op, op'] [b, c] pos) (bnd ma fun x => bnd mb fun y => bnd (lift ((f x y).bind dBool)) fun t => if t then bnd mc fun z => lift ((f' y z).bind dBool) else ret false) := fun X hX => by
  obtain ⟨r, h1, ok⟩ := h
  obtain ⟨r', h3, ok'⟩ := h'
  refine (pt_chain (h1 X hX) (h3 X hX) (ha X hX) (hb X hX) (hc X hX) hm).imp fun σ H Q ⟨φ, B, k, hW, F, hm, hQ⟩ => rd.st hW F hm fun x r1 B1 H1 hk1 s1 hr1 => rd.st hW (F.go s1) hk1 fun y r2 B2 H2 hk2 s2 hr2 => ?_
  obtain ⟨t, ht, hk⟩ := Mir.wp_lift (Mir.wp_bnd hk2)
  obtain ⟨z, hz, hzt⟩ := Option.bind_eq_some_iff.mp ht
  refine ok φ.ω B2 H2 r1 r2 x y z _ ((F.go s1).go s2).refl (.inl (Dp.mono s2.sub hr1)) (.inl hr2) hz fun v B3 H3 s3 hv => ?_
  cases z <;> simp [dBool] at hzt
  subst hzt
  rename_i t
  refine ⟨t, dp_bl hv, ?_⟩
  cases t with
  | true =>
    simp only [if_true] at hk ⊢
    refine rd.st hW (((F.go s1).go s2).go s3) hk fun w r4 B4 H4 hk4 s4 hr4 => ?_
    obtain ⟨t', ht', hk'⟩ := Mir.wp_lift hk4
    obtain ⟨z', hz', hzt'⟩ := Option.bind_eq_some_iff.mp ht'
    refine ok' φ.ω B4 H4 r2 r4 y w z' _ ((((F.go s1).go s2).go s3).go s4).refl (.inl (Dp.mono (s3.trans s4).sub hr2)) (.inl hr4) hz' fun v' B' H' s5 hv' => ?_
    cases z' <;> simp [dBool] at hzt'
    subst hzt'
    exact ⟨_, dp_bl hv', hQ _ _ B' H' hk' (s1.trans (s2.trans (s3.trans (s4.trans s5)))) rfl⟩
  | false =>
    simp only [Bool.false_eq_true, if_false] at hk ⊢
    exact ⟨false, rfl, hQ _ _ _ _ (Mir.wp_ret hk) (s1.trans (s2.trans s3)) rfl⟩

variable {rest : List Expr} {ta tb : M Bool}
theorem EW.et {e : Expr} {m : M Bool} (h : EW μ g ρ e m) : ET μ g ρ e m := fun X hX => (h X hX).pt
theorem EW.and1 (ha : ET μ g ρ a ta) : EW μ g ρ (.BoolOp .And [a] pos) ta := fun X hX => pw_and1 (ha X hX)
theorem EW.or1 (ha : ET μ g ρ a ta) : EW μ g ρ (.BoolOp .Or [a] pos) ta := fun X hX => pw_or1 (ha X hX)
theorem EW.and (ha : ET μ g ρ a ta) (hb : EW μ g ρ (.BoolOp .And (b :: rest) pos) tb) : EW μ g ρ (.BoolOp .And (a :: b :: rest) pos) (bnd ta fun t => if t then tb else ret false) := fun X hX =>
  (pw_and (ha X hX) (hb X hX)).imp fun σ H Q ⟨φ, B, k, hW, F, hm, hQ⟩ => rd.st hW F hm fun t c B1 H1 hk1 s1 hr1 => by
    subst hr1
    cases c with
    | true =>
      simp only [if_true] at hk1 ⊢
      exact ⟨φ, B1, k, hW, F.go s1, hk1, fun x r B' H' hk s hr => hQ x r B' H' hk (s1.trans s) hr⟩
    | false =>
      simp only [Bool.false_eq_true, if_false] at hk1 ⊢
      exact hQ _ _ _ _ (Mir.wp_ret hk1) s1 rfl
theorem EW.or (ha : ET μ g ρ a ta) (hb : EW μ g ρ (.BoolOp .Or (b :: rest) pos) tb) : EW μ g ρ (.BoolOp .Or (a :: b :: rest) pos) (bnd ta fun t => if t then ret true else tb) := fun X hX =>
  (pw_or (ha X hX) (hb X hX)).imp fun σ H Q ⟨φ, B, k, hW, F, hm, hQ⟩ => rd.st hW F hm fun t c B1 H1 hk1 s1 hr1 => by
    subst hr1
    cases c with
    | true =>
      simp only [if_true] at hk1 ⊢
      exact hQ _ _ _ _ (Mir.wp_ret hk1) s1 rfl
    | false =>
      simp only [Bool.false_eq_true, if_false] at hk1 ⊢
      exact ⟨φ, B1, k, hW, F.go s1, hk1, fun x r B' H' hk s hr => hQ x r B' H' hk (s1.trans s) hr⟩
theorem ET.not (ha : ET μ g ρ a ta) : ET μ g ρ (.UnaryOp .Not a pos) (bnd ta fun t => ret (!t)) := fun X hX =>
  (pt_not (ha X hX)).imp fun σ H Q ⟨φ, B, k, hW, F, hm, hQ⟩ => rd.st hW F hm fun t c B1 H1 hk1 s1 hr1 => by
    subst hr1
    exact hQ _ _ _ _ (Mir.wp_ret hk1) s1 rfl
/-- and, or, not as values: of bools -/
theorem EX.one {op} (ha : EX μ g ρ a ma) : EX μ g ρ (.BoolOp op [a] pos) ma := fun X hX => pe_one (ha X hX)
theorem EX.and (ha : EX μ g ρ a ma) (hb : EX μ g ρ (.BoolOp .And (b :: rest) pos) mb) : EX μ g ρ (.BoolOp .And (a :: b :: rest) pos) (bnd ma fun x => bnd (lift (dBool x)) fun t => if t then mb else ret (.bool false)) := fun X hX =>
  (pe_and (ha X hX) (hb X hX)).imp fun σ H Q ⟨φ, B, k, hW, F, hm, hQ⟩ => rd.st hW F hm fun x v B1 H1 hk1 s1 hr1 => by
    obtain ⟨t, ht, hk⟩ := Mir.wp_lift (Mir.wp_bnd hk1)
    cases x <;> simp [dBool] at ht
    subst ht
    rename_i t
    refine ⟨t, dp_bl hr1, ?_⟩
    cases t with
    | true =>
      simp only [if_true] at hk ⊢
      exact ⟨φ, B1, k, hW, F.go s1, hk, fun x r B' H' hk s hr => hQ x r B' H' hk (s1.trans s) hr⟩
    | false =>
      simp only [Bool.false_eq_true, if_false] at hk ⊢
      exact hQ _ _ _ _ (Mir.wp_ret hk) s1 (.bl _)
theorem EX.or (ha : EX μ g ρ a ma) (hb : EX μ g ρ (.BoolOp .Or (b :: rest) pos) mb) : EX μ g ρ (.BoolOp .Or (a :: b :: rest) pos) (bnd ma fun x => bnd (lift (dBool x)) fun t => if t then ret (.bool true) else mb) := fun X hX =>
  (pe_or (ha X hX) (hb X hX)).imp fun σ H Q ⟨φ, B, k, hW, F, hm, hQ⟩ => rd.st hW F hm fun x v B1 H1 hk1 s1 hr1 => by
    obtain ⟨t, ht, hk⟩ := Mir.wp_lift (Mir.wp_bnd hk1)
    cases x <;> simp [dBool] at ht
    subst ht
    rename_i t
    refine ⟨t, dp_bl hr1, ?_⟩
    cases t with
    | true =>
      simp only [if_true] at hk ⊢
      exact hQ _ _ _ _ (Mir.wp_ret hk) s1 (.bl _)
    | false =>
      simp only [Bool.false_eq_true, if_false] at hk ⊢
      exact ⟨φ, B1, k, hW, F.go s1, hk, fun x r B' H' hk s hr => hQ x r B' H' hk (s1.trans s) hr⟩
theorem EX.not (ha : EX μ g ρ a ma) : EX μ g ρ (.UnaryOp .Not a pos) (bnd ma fun x => lift (dNot x)) := fun X hX =>
  (pe_not (ha X hX)).imp fun σ H Q ⟨φ, B, k, hW, F, hm, hQ⟩ => rd.st hW F hm fun x v B1 H1 hk1 s1 hr1 => by
    obtain ⟨t, ht, hk⟩ := Mir.wp_lift hk1
    cases x <;> simp [dNot] at ht
    subst ht
    exact ⟨_, dp_bl hr1, hQ _ _ _ _ hk s1 (.bl _)⟩
theorem EX.ifE {c : Expr} {mc : M Bool} (hc : ET μ g ρ c mc) (ha : EX μ g ρ a ma) (hb : EX μ g ρ b mb) : EX μ g ρ (.IfExp c a b pos) (bnd mc fun t => if t then ma else mb) := fun X hX =>
  (pe_ifExp (hc X hX) (ha X hX) (hb X hX)).imp fun σ H Q ⟨φ, B, k, hW, F, hm, hQ⟩ => rd.st hW F hm fun x v B1 H1 hk1 s1 hr1 => by
    subst hr1
    cases v with
    | true => simp only [if_true] at hk1 ⊢; exact ⟨φ, B1, k, hW, F.go s1, hk1, fun x r B' H' hk s hr => hQ x r B' H' hk (s1.trans s) hr⟩
    | false => simp only [Bool.false_eq_true, if_false] at hk1 ⊢; exact ⟨φ, B1, k, hW, F.go s1, hk1, fun x r B' H' hk s hr => hQ x r B' H' hk (s1.trans s) hr⟩
theorem EX.isN {j pos'} (ha : EX μ g ρ a ma) : EX μ g ρ (.Compare a [.Is] [.Constant .none j pos'] pos) (bnd ma fun x => ret (.bool (match x with | .none => true | _ => false))) := fun X hX =>
  (pe_cmp (pc_isN (ha X hX))).imp fun σ H Q ⟨φ, B, k, hW, F, hm, hQ⟩ => rd.st hW F hm fun x v B1 H1 hk1 s1 hr1 => by
    refine hQ _ _ _ _ (Mir.wp_ret hk1) s1 ?_
    cases hr1 <;> exact .bl _
theorem EX.notN {j pos'} (ha : EX μ g ρ a ma) : EX μ g ρ (.Compare a [.IsNot] [.Constant .none j pos'] pos) (bnd ma fun x => ret (.bool (match x with | .none => false | _ => true))) := fun X hX =>
  (pe_cmp (pc_notN (ha X hX))).imp fun σ H Q ⟨φ, B, k, hW, F, hm, hQ⟩ => rd.st hW F hm fun x v B1 H1 hk1 s1 hr1 => by
    refine hQ _ _ _ _ (Mir.wp_ret hk1) s1 ?_
    cases hr1 <;> exact .bl _
theorem ET.isN {j pos'} (ha : EX μ g ρ a ma) : ET μ g ρ (.Compare a [.Is] [.Constant .none j pos'] pos) (bnd ma fun x => ret (match x with | .none => true | _ => false)) := fun X hX =>
  (pt_cmp (pc_isN (ha X hX))).imp fun σ H Q ⟨φ, B, k, hW, F, hm, hQ⟩ => rd.st hW F hm fun x v B1 H1 hk1 s1 hr1 => by
    refine ⟨_, rfl, hQ _ _ _ _ (Mir.wp_ret hk1) s1 ?_⟩
    cases hr1 <;> rfl
theorem ET.notN {j pos'} (ha : EX μ g ρ a ma) : ET μ g ρ (.Compare a [.IsNot] [.Constant .none j pos'] pos) (bnd ma fun x => ret (match x with | .none => false | _ => true)) := fun X hX =>
  (pt_cmp (pc_notN (ha X hX))).imp fun σ H Q ⟨φ, B, k, hW, F, hm, hQ⟩ => rd.st hW F hm fun x v B1 H1 hk1 s1 hr1 => by
    refine ⟨_, rfl, hQ _ _ _ _ (Mir.wp_ret hk1) s1 ?_⟩
    cases hr1 <;> rfl
end
end PL
end pl2_
section pl3_
set_option maxRecDepth 100000
set_option maxHeartbeats 2000000
/-! displays, subscripts, calls of built-ins -/
namespace PL
open PySem PySem.Spec PyProof.Rows L2 GxR GenW LamX GX
open Mir (ret bnd lift)
section
variable {M : Type → Type} [Mir M]
variable {μ : Md} {g : Cw} {ρ : Env} {ω : Wld} {B H : Hp} {v u : V} {d : D}

/-! ### argument lists, displays -/
abbrev RAn (μ : Md) (n : Nat) : Wld → Hp → Hp → Hp → List D → List V → Prop := fun _ _ B _ ds vs => DpAll μ.K B vs ds ∧ vs.length = n
def EAn (μ : Md) (g : Cw) (ρ : Env) (n : Nat) (es : List Expr) (m : M (List D)) : Prop := ∀ X, CxIs μ g X → PA X es (rd μ g ρ (RAn μ n) m)
theorem EAn.nil : EAn μ g ρ 0 [] (ret [] : M (List D)) := fun X hX => pa_nil.imp fun σ H Q ⟨φ, B, k, hW, F, hm, hQ⟩ => hQ _ _ _ _ (Mir.wp_ret hm) F.refl ⟨.nil, rfl⟩
theorem EAn.cons {n : Nat} {e : Expr} {es : List Expr} {me : M D} {ms : M (List D)} (he : EX μ g ρ e me) (hs : EAn μ g ρ n es ms) (h1 : ∀ env, starEach (e :: es) env = (false, eval e env) :: starEach es env := by intro _; rfl) :
    EAn μ g ρ (n + 1) (e :: es) (bnd me fun x => bnd ms fun xs => ret (x :: xs)) := fun X hX => (pa_cons (he X hX) (hs X hX) (h1 _)).imp fun σ H Q ⟨φ, B, k, hW, F, hm, hQ⟩ =>
  rd.st hW F hm fun x v B1 H1 hk1 s1 hr1 => rd.st hW (F.go s1) hk1 fun xs vs B2 H2 hk2 s2 hr2 => hQ _ _ _ _ (Mir.wp_ret hk2) (s1.trans s2) ⟨.cons (Dp.mono s2.sub hr1) hr2.1, by rw [List.length_cons, hr2.2]⟩
theorem EAn.ea {n : Nat} {es : List Expr} {ms : M (List D)} (h : EAn μ g ρ n es ms) : EA μ g ρ es ms := fun X hX => (h X hX).imp fun σ H Q ⟨φ, B, k, hW, F, hm, hQ⟩ => ⟨φ, B, k, hW, F, hm, fun x r B' H' hk s hr => hQ x r B' H' hk s hr.1⟩
/-- .. with stars -/
theorem EA.nil : EA μ g ρ [] (ret [] : M (List D)) := EAn.nil.ea
theorem EA.cons {e : Expr} {es : List Expr} {me : M D} {ms : M (List D)} (he : EX μ g ρ e me) (hs : EA μ g ρ es ms) (h1 : ∀ env, starEach (e :: es) env = (false, eval e env) :: starEach es env := by intro _; rfl) :
    EA μ g ρ (e :: es) (bnd me fun x => bnd ms fun xs => ret (x :: xs)) := fun X hX => (pa_cons (he X hX) (hs X hX) (h1 _)).imp fun σ H Q ⟨φ, B, k, hW, F, hm, hQ⟩ =>
  rd.st hW F hm fun x v B1 H1 hk1 s1 hr1 => rd.st hW (F.go s1) hk1 fun xs vs B2 H2 hk2 s2 hr2 => hQ _ _ _ _ (Mir.wp_ret hk2) (s1.trans s2) (.cons (Dp.mono s2.sub hr1) hr2)
theorem Rdb.sq (b : ∀ a o, B a = some o → H a = some o) {ds : List D} (h : Rdb μ.K ω B H v d) (hi : dItems d = some ds) : ∃ a vs, v = .ref a ∧ (SqT μ.K H a vs ∨ SqL μ.K H a vs) ∧ DpAll μ.K B vs ds := by
  obtain ⟨a, vs, e, h1, h2⟩ := h.seq b hi
  exact ⟨a, vs, e, h1.elim (fun z => .inr z.2) (fun z => .inl z.2), h2⟩
theorem EA.star {e : Expr} {es : List Expr} {p : Pos} {me : M D} {ms : M (List D)} (he : EB μ g ρ e me) (hs : EA μ g ρ es ms) (h1 : ∀ env, starEach (.Starred e p :: es) env = (true, eval e env) :: starEach es env := by intro _; rfl) :
    EA μ g ρ (.Starred e p :: es) (bnd me fun x => bnd (lift (dItems x)) fun ys => bnd ms fun xs => ret (ys ++ xs)) := fun X hX => (StX.pa_star (he X hX) (hs X hX) (h1 _)).imp fun σ H Q ⟨φ, B, k, hW, F, hm, hQ⟩ =>
  rd.st hW F hm fun x v B1 H1 hk1 s1 hr1 => by
    obtain ⟨ys, hy, hk⟩ := Mir.wp_lift (Mir.wp_bnd hk1)
    obtain ⟨a, vs, e, h1, h2⟩ := hr1.sq s1.bsub hy
    refine ⟨a, vs, e, by rw [hX.K]; exact h1, rd.st hW (F.go s1) hk fun xs us B2 H2 hk2 s2 hr2 => hQ _ _ _ _ (Mir.wp_ret hk2) (s1.trans s2) ?_⟩
    exact dpAll_app (DpAll.mono s2.sub h2) hr2
theorem Fr.tupl {φ : Fm} {σ : L2.St} (F : Fr μ φ B ρ σ H) {p : Addr} {vs : List V} {ds : List D} (hp : H p = none) (h : DpAll μ.K B vs ds) : Stp μ φ.ω B H (upd B p (.tup vs)) (upd H p (.tup vs)) ∧ Dp μ.K (upd B p (.tup vs)) (.ref p) (.tuple ds) := by
  refine ⟨F.lay hp nt_tup, ?_⟩
  have hbp : B p = none := by
    cases q : B p with
    | none => rfl
    | some o => rw [F.bs q] at hp; cases hp
  exact .tup (SqT.of upd_same) (DpAll.mono (sub_upd hbp) h)
theorem EX.tup {n : Nat} {es : List Expr} {ms : M (List D)} {x1 pos} (h : EAn μ g ρ n es ms) (hn : n ≤ 1000 := by decide) : EX μ g ρ (.Tuple es x1 pos) (bnd ms fun ds => ret (.tuple ds)) := fun X hX => (pe_tup (h X hX)).imp fun σ H Q ⟨φ, B, k, hW, F, hm, hQ⟩ =>
  rd.st hW F hm fun ds vs B1 H1 hk1 s1 hr1 => ⟨by rw [hr1.2]; exact Nat.le_trans hn (by decide), fun p hp => by
    obtain ⟨s2, h2⟩ := (F.go s1).tupl hp hr1.1
    exact hQ _ _ _ _ (Mir.wp_ret hk1) (s1.trans s2) h2⟩
theorem EL.lst {n : Nat} {es : List Expr} {ms : M (List D)} {pos} (h : EAn μ g ρ n es ms) (hn : n ≤ 1000 := by decide) : EL μ g ρ (.List es pos) ms := fun X hX => (pe_lst (h X hX)).imp fun σ H Q ⟨φ, B, k, hW, F, hm, hQ⟩ =>
  ⟨φ, B, k, hW, F, hm, fun ds vs B1 H1 hk1 s1 hr1 => ⟨by rw [hr1.2]; exact Nat.le_trans hn (by decide), fun p hp => by
    have F1 := F.go s1
    refine hQ _ _ _ _ hk1 (s1.trans (F1.layM hp)) ⟨p, vs, rfl, upd_same, s1.has _ hp, ?_, ?_, hr1.1⟩
    · cases q : B1 p with
      | none => rfl
      | some o => rw [F1.bs q] at hp; cases hp
    · intro z
      obtain ⟨o, e, _⟩ := φ.ω.has _ p s1.wok z
      rw [hp] at e; cases e⟩⟩
def dSz (ds : List D) : Option (List D) := if ds.length ≤ sizeLine then some ds else none
theorem dSz_some {ds es : List D} (h : dSz ds = some es) : es = ds ∧ ds.length ≤ sizeLine := by
  unfold dSz at h
  split at h
  · cases h; exact ⟨rfl, by assumption⟩
  · cases h
theorem EX.tupS {es : List Expr} {ms : M (List D)} {x1 pos} (h : EA μ g ρ es ms) : EX μ g ρ (.Tuple es x1 pos) (bnd ms fun ds => bnd (lift (dSz ds)) fun ds => ret (.tuple ds)) := fun X hX => (pe_tup (h X hX)).imp fun σ H Q ⟨φ, B, k, hW, F, hm, hQ⟩ =>
  rd.st hW F hm fun ds vs B1 H1 hk1 s1 hr1 => by
    obtain ⟨es, hes, hk⟩ := Mir.wp_lift (Mir.wp_bnd hk1)
    obtain ⟨rfl, hz⟩ := dSz_some hes
    refine ⟨by rw [dpAll_len hr1]; exact hz, fun p hp => ?_⟩
    obtain ⟨s2, h2⟩ := (F.go s1).tupl hp hr1
    exact hQ _ _ _ _ (Mir.wp_ret hk) (s1.trans s2) h2
/-- a fresh list is laid -/
theorem Fr.lstL {φ : Fm} {σ : L2.St} (F : Fr μ φ B ρ σ H) {B1 H1 : Hp} {p : Addr} {vs : List V} {ds : List D} (s1 : Stp μ φ.ω B H B1 H1) (hp : H1 p = none) (h : DpAll μ.K B1 vs ds) : Stp μ φ.ω B H B1 (upd H1 p (.lst vs)) ∧ RL μ φ.ω H B1 (upd H1 p (.lst vs)) ds (.ref p) := by
  have F1 := F.go s1
  refine ⟨s1.trans (F1.layM hp), p, vs, rfl, upd_same, s1.has _ hp, ?_, ?_, h⟩
  · cases q : B1 p with
    | none => rfl
    | some o => rw [F1.bs q] at hp; cases hp
  · intro z
    obtain ⟨o, e, _⟩ := φ.ω.has _ p s1.wok z
    rw [hp] at e; cases e
theorem EL.lstS {es : List Expr} {ms : M (List D)} {pos} (h : EA μ g ρ es ms) : EL μ g ρ (.List es pos) (bnd ms fun ds => lift (dSz ds)) := fun X hX => (pe_lst (h X hX)).imp fun σ H Q ⟨φ, B, k, hW, F, hm, hQ⟩ =>
  rd.st hW F hm fun ds vs B1 H1 hk1 s1 hr1 => by
    obtain ⟨es, hes, hk⟩ := Mir.wp_lift hk1
    obtain ⟨rfl, hz⟩ := dSz_some hes
    refine ⟨by rw [dpAll_len hr1]; exact hz, fun p hp => ?_⟩
    obtain ⟨s2, h2⟩ := F.lstL s1 hp hr1
    exact hQ _ _ _ _ hk s2 h2

/-! ### subscripts -/
theorem atI_some {α : Type} {xs : List α} {i : Int} {x : α} (h : atI xs i = some x) : ∃ j, ixN xs.length i = some j ∧ xs[j]? = some x := by
  obtain ⟨j, h1, h2⟩ := Option.bind_eq_some_iff.mp h
  exact ⟨j, h1, h2⟩
theorem dpAll_at {vs : List V} {ds : List D} (h : DpAll μ.K B vs ds) {i : Int} {d : D} (e : atI ds i = some d) : ∃ v, atI vs i = some v ∧ Dp μ.K B v d := by
  obtain ⟨j, h1, h2⟩ := atI_some e
  obtain ⟨v, h3, h4⟩ := dpAll_get h h2
  refine ⟨v, ?_, h4⟩
  unfold atI
  rw [dpAll_len h, h1]
  exact h3
theorem ok_ix : OpOk μ dIx (fun x y H Q => rIxL μ.K x y H Q ∨ rIxT μ.K x y H Q) := fun ω B H x y d e z Q b hx hy hz hQ => by
  obtain ⟨ds, h1, h2⟩ := Option.bind_eq_some_iff.mp hz
  obtain ⟨i, h3, h4⟩ := Option.bind_eq_some_iff.mp h2
  cases e <;> simp [dInt] at h3
  subst h3
  obtain ⟨a, vs, rfl, h5, h6⟩ := hx.seq b.bsub h1
  obtain ⟨v, h7, h8⟩ := dpAll_at h6 h4
  rcases h5 with ⟨_, h5⟩ | ⟨_, h5⟩
  · exact .inl ⟨a, vs, _, v, rfl, hy.int, h5, h7, hQ _ _ _ b h8⟩
  · exact .inr ⟨a, vs, _, v, rfl, hy.int, h5, h7, hQ _ _ _ b h8⟩
variable {a b : Expr} {ma mb : M D} {pos p : Pos}
theorem EX.ix (ha : EB μ g ρ a ma) (hb : EX μ g ρ b mb) (hs : PlainIx b) : EX μ g ρ (.Subscript a b pos) (bnd ma fun x => bnd mb fun y => lift (dIx x y)) := fun X hX =>
  (pe_ix (r := fun x y H Q => rIxL μ.K x y H Q ∨ rIxT μ.K x y H Q) (hX.K ▸ ix_list.or ix_tup) (ha X hX) (hb.eb X hX) hs).imp (ok_ix.run (ha X hX) (hb.eb X hX))
def EO (μ : Md) (g : Cw) (ρ : Env) (e : Option Expr) (m : M (Option Int)) : Prop := ∀ X, CxIs μ g X → PO X e (rd μ g ρ (fun _ _ _ _ x y => y = x) m)
theorem EO.none : EO μ g ρ none (ret none : M (Option Int)) := fun X hX => by
  refine ⟨fun pins s σ H Q I ⟨φ, B, k, hW, F, hm, hQ⟩ => po_none.run pins s σ H Q I ?_⟩
  exact hQ _ _ _ _ (Mir.wp_ret hm) F.refl rfl
theorem EO.some {e : Expr} {me : M D} (he : EX μ g ρ e me) : EO μ g ρ (some e) (bnd me fun x => lift ((dInt x).map Option.some)) := fun X hX => by
  refine ⟨fun pins s σ H Q I ⟨φ, B, k, hW, F, hm, hQ⟩ => (po_some (he X hX)).run pins s σ H Q I (rd.st hW F hm fun x v B1 H1 hk1 s1 hr1 => ?_)⟩
  obtain ⟨o, ho, hk⟩ := Mir.wp_lift hk1
  cases x <;> simp [dInt] at ho
  subst ho
  exact ⟨_, dp_int hr1, hQ _ _ _ _ hk s1 rfl⟩
theorem dpAll_cut {vs : List V} {ds : List D} (h : DpAll μ.K B vs ds) (lo hi : Option Int) : DpAll μ.K B (cutV vs lo hi) (cutD ds lo hi) := by
  unfold cutV cutD
  rw [dpAll_len h]
  exact dpAll_take _ (dpAll_drop _ h)
theorem hbp_of {ω : Wld} (b : Stp μ ω B H B H) {p : Addr} (hp : H p = none) : B p = none := by
  cases q : B p with
  | none => rfl
  | some o => rw [b.bsub p o q] at hp; cases hp
theorem cut_all {ds : List D} {lo hi : Option Int} (hw : HT.sIx ds.length 0 lo = 0 ∧ HT.sIx ds.length ds.length hi = ds.length) : cutD ds lo hi = ds := by
  unfold cutD
  rw [hw.1, hw.2]
  simp
/-- a slice of a tuple, of a list -/
theorem EX.sl {lo hi : Option Expr} {ml mh : M (Option Int)} {p2 : Pos} (ha : EB μ g ρ a ma) (hl : EO μ g ρ lo ml) (hh : EO μ g ρ hi mh) : EX μ g ρ (.Subscript a (.Slice lo hi none p2) pos) (bnd ma fun x => bnd ml fun l => bnd mh fun h => lift (dSl x l h)) := fun X hX => by
  refine ⟨fun pins s σ H Q I ⟨φ, B, k, hW, F, hm, hQ⟩ => (pe_slice (r := fun x l u H Q => rSlL X.K x l u H Q ∨ rSlA X.K x l u H Q) (sl_list.or sl_tupA) (ha X hX) (hl X hX) (hh X hX)).run pins s σ H Q I ?_⟩
  refine rd.st hW F hm fun x v B1 H1 hk1 s1 hr1 => rd.st hW (F.go s1) hk1 fun l l' B2 H2 hk2 s2 e2 => rd.st hW ((F.go s1).go s2) hk2 fun h h' B3 H3 hk3 s3 e3 => ?_
  subst e2 e3
  have F3 := ((F.go s1).go s2).go s3
  obtain ⟨z, hz, hk⟩ := Mir.wp_lift hk3
  have hr3 := (hr1.go s2).go s3
  cases x <;> simp [dSl] at hz
  · subst hz
    obtain ⟨a, vs, rfl, h5, h6⟩ := hr3.lst F3.refl.bsub
    refine .inl ⟨a, vs, rfl, by rw [hX.K]; exact h5, fun p hp => ?_⟩
    refine hQ _ _ _ _ hk (s1.trans (s2.trans (s3.trans (F3.lay hp nt_lst)))) ?_
    exact .lst (SqL.of upd_same) (DpAll.mono (sub_upd (hbp_of F3.refl hp)) (dpAll_cut h6 _ _))
  · subst hz
    obtain ⟨a, vs, rfl, h5, h6⟩ := hr3.tup
    have hl := dpAll_len h6
    refine .inr ⟨a, vs, rfl, by rw [hX.K]; exact Evl.ex_t F3.refl.bsub h5, fun hw => ?_, fun _ p hp => ?_⟩
    · refine hQ _ _ _ _ hk (s1.trans (s2.trans s3)) ?_
      rw [cut_all (by rw [← hl]; exact hw)]
      exact .tup h5 h6
    · obtain ⟨s4, h4⟩ := F3.tupl hp (dpAll_cut h6 l' h')
      exact hQ _ _ _ _ hk (s1.trans (s2.trans (s3.trans s4))) h4

/-! ### calls of built-ins -/
def C1Ok (μ : Md) (f : D → Option D) (r : List V → Hp → VK → Prop) : Prop := ∀ (ω : Wld) (B H : Hp) (x : V) (d z : D) (Q : VK), Stp μ ω B H B H → Rdb μ.K ω B H x d → f d = some z → (∀ v B' H', Stp μ ω B H B' H' → Dp μ.K B' v z → Q v H') → r [x] H Q
theorem EB.arg1 (ha : EB μ g ρ a ma) {X : Cx} (hX : CxIs μ g X) (h1 : ∀ env, starEach [a] env = (false, eval a env) :: starEach [] env) : PA X [a] (tCons (rd μ g ρ (RB μ) ma) tNil) := pa_cons (ha X hX) pa_nil (h1 _)
theorem EX.callB {id : String} {x : Str} {f : D → Option D} {r : List V → Hp → VK → Prop} (hc : ∀ X, CxIs μ g X → CallR X (.builtin id) r) (ok : C1Ok μ f r) (hg : g.scope.names.lookup x = some .globalImplicit) (hm : μ.mg x = none) (hv : bootBuiltins x = some (.builtin id)) (ha : EB μ g ρ a ma)
    (hn : x ≠ "__name__" := by decide) (hdb : (x == ("__debug__" : Str)) = false := by decide) (h1 : ∀ env, starEach [a] env = (false, eval a env) :: starEach [] env := by intro _; rfl) : EX μ g ρ (.Call (.Name x p) [a] [] pos) (bnd ma fun d => lift (f d)) := fun X hX =>
  (pe_callB (hc X hX) (hX.gl hg) (by rw [hX.mg]; exact hm) hv (ha.arg1 hX h1) hn hdb (h1 _)).imp fun σ H Q ⟨φ, B, k, hW, F, hm, hQ⟩ => rd.st hW F hm fun d v B1 H1 hk1 s1 hr1 => by
    obtain ⟨z, hz, hk⟩ := Mir.wp_lift hk1
    exact ok φ.ω B1 H1 v d z Q (F.go s1).refl hr1 hz fun v' B' H' s2 hv => hQ z v' B' H' hk (s1.trans s2) hv
theorem EX.callT {T : String} {x : Str} {f : D → Option D} {r : List V → Hp → VK → Prop} (hc : ∀ X, CxIs μ g X → CallR X (.type T) r) (ok : C1Ok μ f r) (hg : g.scope.names.lookup x = some .globalImplicit) (hm : μ.mg x = none) (hv : bootBuiltins x = some (.type T)) (ha : EB μ g ρ a ma)
    (hn : x ≠ "__name__" := by decide) (hdb : (x == ("__debug__" : Str)) = false := by decide) (h1 : ∀ env, starEach [a] env = (false, eval a env) :: starEach [] env := by intro _; rfl) : EX μ g ρ (.Call (.Name x p) [a] [] pos) (bnd ma fun d => lift (f d)) := fun X hX =>
  (pe_callTy (hc X hX) (hX.gl hg) (by rw [hX.mg]; exact hm) hv (ha.arg1 hX h1) hn hdb (h1 _)).imp fun σ H Q ⟨φ, B, k, hW, F, hm, hQ⟩ => rd.st hW F hm fun d v B1 H1 hk1 s1 hr1 => by
    obtain ⟨z, hz, hk⟩ := Mir.wp_lift hk1
    exact ok φ.ω B1 H1 v d z Q (F.go s1).refl hr1 hz fun v' B' H' s2 hv => hQ z v' B' H' hk (s1.trans s2) hv
theorem EX.len (hg : g.scope.names.lookup ("len" : Str) = some .globalImplicit) (hm : μ.mg "len" = none) (ha : EB μ g ρ a ma) (h1 : ∀ env, starEach [a] env = (false, eval a env) :: starEach [] env := by intro _; rfl) : EX μ g ρ (.Call (.Name "len" p) [a] [] pos) (bnd ma fun d => lift (dLen d)) :=
  EX.callB (r := fun xs H Q => ∃ p ys, xs = [.ref p] ∧ (SqL μ.K H p ys ∨ SqT μ.K H p ys) ∧ Q (.int ys.length) H) (fun X hX => hX.K ▸ call_len_seq) (fun ω B H x d z Q b hx hz hQ => by
    unfold dLen at hz
    obtain ⟨ds, h1, rfl⟩ := Option.map_eq_some_iff.mp hz
    obtain ⟨a, vs, rfl, h5, h6⟩ := hx.sq b.bsub h1
    refine ⟨a, vs, rfl, h5.symm, hQ _ _ _ b ?_⟩
    rw [dpAll_len h6]
    exact .int _) hg hm boot_len ha (h1 := h1)
theorem EX.tupOf (hg : g.scope.names.lookup ("tuple" : Str) = some .globalImplicit) (hm : μ.mg "tuple" = none) (ha : EB μ g ρ a ma) (h1 : ∀ env, starEach [a] env = (false, eval a env) :: starEach [] env := by intro _; rfl) : EX μ g ρ (.Call (.Name "tuple" p) [a] [] pos) (bnd ma fun d => lift (dTup d)) :=
  EX.callT (r := fun xs H Q => ∃ p ys, xs = [.ref p] ∧ ((SqL μ.K H p ys ∧ ∀ l, H l = none → Q (.ref l) (upd H l (.tup ys))) ∨ (SqT μ.K H p ys ∧ Q (.ref p) H))) (fun X hX => hX.K ▸ call_tuple_of) (fun ω B H x d z Q b hx hz hQ => by
    cases d <;> simp [dTup] at hz
    · subst hz
      obtain ⟨a, vs, rfl, h5, h6⟩ := hx.lst b.bsub
      refine ⟨a, vs, rfl, .inl ⟨h5, fun l hl => hQ _ _ _ (Stp.lay hl nt_tup (fun a o h => ⟨(b.new a o h).1, (b.new a o h).2.1⟩) b.tabs b.wok) ?_⟩⟩
      exact .tup (SqT.of upd_same) (DpAll.mono (sub_upd (hbp_of b hl)) h6)
    · subst hz
      obtain ⟨a, vs, rfl, h5, h6⟩ := hx.tup
      exact ⟨a, vs, rfl, .inr ⟨Evl.ex_t b.bsub h5, hQ _ _ _ b (.tup h5 h6)⟩⟩) hg hm boot_tuple ha (h1 := h1)
theorem EL.listOf (hg : g.scope.names.lookup ("list" : Str) = some .globalImplicit) (hm : μ.mg "list" = none) (ha : EB μ g ρ a ma) (h1 : ∀ env, starEach [a] env = (false, eval a env) :: starEach [] env := by intro _; rfl) : EL μ g ρ (.Call (.Name "list" p) [a] [] pos) (bnd ma fun d => lift (dItems d)) := fun X hX =>
  (pe_callTy call_list_of (hX.gl hg) (by rw [hX.mg]; exact hm) boot_list (ha.arg1 hX h1) (by decide) (by decide) (h1 _)).imp fun σ H Q ⟨φ, B, k, hW, F, hm, hQ⟩ => rd.st hW F hm fun d v B1 H1 hk1 s1 hr1 => by
    obtain ⟨ds, hds, hk⟩ := Mir.wp_lift hk1
    obtain ⟨a, vs, rfl, h5, h6⟩ := hr1.sq s1.bsub hds
    refine ⟨a, vs, rfl, by rw [hX.K]; exact h5.symm, fun l hl => ?_⟩
    obtain ⟨s2, h2⟩ := F.lstL s1 hl h6
    exact hQ _ _ _ _ hk s2 h2

/-! ### data as the library reads it -/
theorem Rdb.reads {X : Cx} (hX : CxIs μ g X) {pins : List (Addr × Obj)} {σ : L2.St} {s : Shared} (I : L2.Inv X pins σ H s) (b : ∀ a o, B a = some o → H a = some o) (h : Rdb μ.K ω B H v d) {u : Value} (r : RelV v u) : ∃ as, Reads s.heap u d as :=
  Dp.reads I d v u (by rw [hX.K]; exact h.dp b) r
end
end PL
end pl3_
section pl4_
set_option maxRecDepth 100000
set_option maxHeartbeats 2000000
/-! targets, what is walked -/
namespace PL
open PySem PySem.Spec PyProof.Rows L2 GxR GenW LamX GX
open Mir (ret bnd lift)
section
variable {M : Type → Type} [Mir M]
variable {μ : Md} {g : Cw} {ρ : Env} {ω : Wld} {B H : Hp} {v u : V} {d : D}

/-! ### targets -/
/-- a target: γ what is bound, out the names then, is the slots -/
def EG (μ : Md) (g : Cw) (ρ : Env) (tg : Expr) {γ : Type} (is : List Nat) (out : γ → Env) (mb : D → M γ) : Prop := ∀ X, CxIs μ g X → PG X tg fun v σ H K =>
  ∃ (φ : Fm) (B : Hp) (d : D) (k : γ → Prop), g.W φ.ω ∧ Fr μ φ B ρ σ H ∧ Dp μ.K B v d ∧ Mir.wp (mb d) k ∧ ∀ c σ', k c → Fr μ φ B (out c) σ' H → (∀ L : List Nat, (∀ i ∈ is, i ∈ L) → wipe σ' L = wipe σ L) → K σ' H
theorem wipe_set_in {σ : L2.St} {i : Nat} {x : Option V} : ∀ {L : List Nat}, i ∈ L → wipe (σ.set i x) L = wipe σ L
  | [], h => by cases h
  | j :: L, h => by
    unfold wipe
    by_cases hj : i = j
    · subst hj
      by_cases hm : i ∈ L
      · rw [wipe_set_in hm]
      · have : ∀ (σ : L2.St) (L : List Nat), i ∉ L → wipe (σ.set i x) L = (wipe σ L).set i x := by
          intro σ L
          induction L with
          | nil => intro _; rfl
          | cons k L ih =>
            intro hk
            unfold wipe
            rw [ih (fun z => hk (List.mem_cons_of_mem _ z)), List.set_comm _ _ (fun z => hk (by rw [z]; exact List.mem_cons_self))]
        rw [this σ L hm, List.set_set]
    · have hm : i ∈ L := by
        rcases List.mem_cons.mp h with z | z
        · exact absurd z hj
        · exact z
      rw [wipe_set_in hm]
theorem Fr.set {φ : Fm} {σ : L2.St} (F : Fr μ φ B ρ σ H) {i : Nat} (hd : Dp μ.K B v d) : Fr μ φ B (ρ.set i (some (.dat d))) (σ.set i (some v)) H where
  stp := F.stp
  na := F.na
  len := by rw [List.length_set, List.length_set]; exact F.len
  sl := fun j s e => by
    by_cases hj : i = j
    · subst hj
      have hlt : i < (ρ.set i (some (.dat d))).length := (List.getElem?_eq_some_iff.mp e).1
      rw [List.length_set] at hlt
      rw [List.getElem?_set_self hlt] at e
      cases e
      exact ⟨v, List.getElem?_set_self (by rw [F.len]; exact hlt), hd⟩
    · rw [List.getElem?_set_ne hj] at e ⊢
      exact F.sl j s e
  ap := fun j k ds es w e1 e2 e3 e4 => by
    have nj : ∀ {j : Nat} {ds : List D}, (ρ.set i (some (.dat d)))[j]? = some (some (.own ds)) → i ≠ j := fun {j ds} e z => by
      subst z
      have hlt : i < (ρ.set i (some (.dat d))).length := (List.getElem?_eq_some_iff.mp e).1
      rw [List.length_set] at hlt
      rw [List.getElem?_set_self hlt] at e
      cases e
    have n1 := nj e1
    have n2 := nj e2
    rw [List.getElem?_set_ne n1] at e1 e3
    rw [List.getElem?_set_ne n2] at e2 e4
    exact F.ap j k ds es w e1 e2 e3 e4
theorem CxIs.fnl {X : Cx} (hX : CxIs μ g X) {x : Str} (h : g.ow x = true ∨ g.scope.names.lookup x = some .local) : X.fn x = true ∨ X.env.scope.names.lookup x = some .local := by
  rw [hX.scope]
  exact h.imp (hX.fn x) id
theorem CxIs.loc {X : Cx} (hX : CxIs μ g X) {x : Str} (h : Loc g.scope x) : Loc X.env.scope x := by rw [hX.scope]; exact h
theorem EG.name {i : Nat} {x : Str} {pos : Pos} (hN : g.N[i]? = some x) (hv : Loc g.scope x) (hf : g.ow x = true ∨ g.scope.names.lookup x = some .local) : EG μ g ρ (.Name x pos) [i] (fun d => ρ.set i (some (.dat d))) (fun d => (ret d : M D)) := fun X hX => by
  refine ⟨fun pins s σ H v u K I r ⟨φ, B, d, k, hW, F, hd, hm, hK⟩ => (pg_name (i := i) (by rw [hX.N]; exact hX.nd) (by rw [hX.N]; exact hN) (hX.loc hv) (hX.fnl hf)).run pins s σ H v u K I r ?_⟩
  exact hK d _ (Mir.wp_ret hm) (F.set hd) fun L h => wipe_set_in (h i (List.mem_singleton.mpr rfl))
def dTup2 : D → Option (D × D)
  | .tuple [x, y] => some (x, y)
  | _ => none
def dTup3 : D → Option (D × D × D)
  | .tuple [x, y, z] => some (x, y, z)
  | _ => none
theorem _root_.L2.PG.ex {X : Cx} {e : Expr} {γ : Type} {t : γ → TG} (h : ∀ c, PG X e (t c)) : PG X e fun v σ H K => ∃ c, t c v σ H K := ⟨fun pins s σ H v u Q I r ⟨c, q⟩ => (h c).run pins s σ H v u Q I r q⟩
/-- (a, b) -/
theorem EG.tup2 {e1 e2 : Expr} {γ1 γ2 : Type} {is1 is2 : List Nat} {o1 : γ1 → Env} {m1 : D → M γ1} {o2 : γ1 → γ2 → Env} {m2 : γ1 → D → M γ2} {k : Nat} {pos : Pos} (h1 : EG μ g ρ e1 is1 o1 m1) (h2 : ∀ c, EG μ g (o1 c) e2 is2 (o2 c) (m2 c))
    (hs1 : ∀ env, (assignEach [e1, e2] env).map (·.2) = assign e1 env :: (assignEach [e2] env).map (·.2) := by intro _; rfl) (hs2 : ∀ env, (assignEach [e2] env).map (·.2) = assign e2 env :: (assignEach [] env).map (·.2) := by intro _; rfl)
    (hn : ∀ env, (assignEach [e1, e2] env).length = 2 := by intro _; rfl) (hst : ∀ env, (assignEach [e1, e2] env).findIdx? (·.1) = none := by intro _; rfl) :
    EG μ g ρ (.Tuple [e1, e2] k pos) (is1 ++ is2) (fun c : γ1 × γ2 => o2 c.1 c.2) (fun d => bnd (lift (dTup2 d)) fun xy => bnd (m1 xy.1) fun c => bnd (m2 c xy.2) fun e => ret (c, e)) := fun X hX => by
  refine ⟨fun pins s σ H v u K I r ⟨φ, B, d, k, hW, F, hd, hm, hK⟩ => ?_⟩
  obtain ⟨xy, hxy, hm⟩ := Mir.wp_lift (Mir.wp_bnd hm)
  have hm1 := Mir.wp_bnd hm
  unfold dTup2 at hxy
  split at hxy
  case h_2 => cases hxy
  cases hxy
  cases hd with
  | tup hs ha =>
    cases ha with
    | cons d1 ha =>
      cases ha with
      | cons d2 ha =>
        cases ha
        refine (pg_tup hX.calm (pgs_cons (h1 X hX) (pgs_cons (PG.ex fun c => h2 c X hX) pgs_nil (hs2 _)) (hs1 _)) (hn _) (hst _)).run pins s σ H _ u K I r ?_
        refine ⟨_, _, rfl, by rw [hX.K]; exact Evl.ex_t F.refl.bsub hs, rfl, _, _, rfl, φ, B, _, _, hW, F, d1, hm1, fun c σ1 hk F1 w1 => ?_⟩
        refine ⟨_, _, rfl, c, φ, B, _, _, hW, F1, d2, Mir.wp_bnd hk, fun e σ2 hk2 F2 w2 => ⟨rfl, hK (c, e) σ2 (Mir.wp_ret hk2) F2 fun L hL => ?_⟩⟩
        rw [w2 L fun i hi => hL i (List.mem_append_right _ hi), w1 L fun i hi => hL i (List.mem_append_left _ hi)]
/-- (a, b, c) -/
theorem EG.tup3 {e1 e2 e3 : Expr} {γ1 γ2 γ3 : Type} {is1 is2 is3 : List Nat} {o1 : γ1 → Env} {m1 : D → M γ1} {o2 : γ1 → γ2 → Env} {m2 : γ1 → D → M γ2} {o3 : γ1 → γ2 → γ3 → Env} {m3 : γ1 → γ2 → D → M γ3} {k : Nat} {pos : Pos} (h1 : EG μ g ρ e1 is1 o1 m1) (h2 : ∀ c, EG μ g (o1 c) e2 is2 (o2 c) (m2 c)) (h3 : ∀ c c', EG μ g (o2 c c') e3 is3 (o3 c c') (m3 c c'))
    (hs1 : ∀ env, (assignEach [e1, e2, e3] env).map (·.2) = assign e1 env :: (assignEach [e2, e3] env).map (·.2) := by intro _; rfl) (hs2 : ∀ env, (assignEach [e2, e3] env).map (·.2) = assign e2 env :: (assignEach [e3] env).map (·.2) := by intro _; rfl) (hs3 : ∀ env, (assignEach [e3] env).map (·.2) = assign e3 env :: (assignEach [] env).map (·.2) := by intro _; rfl)
    (hn : ∀ env, (assignEach [e1, e2, e3] env).length = 3 := by intro _; rfl) (hst : ∀ env, (assignEach [e1, e2, e3] env).findIdx? (·.1) = none := by intro _; rfl) :
    EG μ g ρ (.Tuple [e1, e2, e3] k pos) (is1 ++ (is2 ++ is3)) (fun c : γ1 × γ2 × γ3 => o3 c.1 c.2.1 c.2.2) (fun d => bnd (lift (dTup3 d)) fun xy => bnd (m1 xy.1) fun c => bnd (m2 c xy.2.1) fun e => bnd (m3 c e xy.2.2) fun f => ret (c, e, f)) := fun X hX => by
  refine ⟨fun pins s σ H v u K I r ⟨φ, B, d, k, hW, F, hd, hm, hK⟩ => ?_⟩
  obtain ⟨xy, hxy, hm⟩ := Mir.wp_lift (Mir.wp_bnd hm)
  have hm1 := Mir.wp_bnd hm
  unfold dTup3 at hxy
  split at hxy
  case h_2 => cases hxy
  cases hxy
  cases hd with
  | tup hs ha =>
    cases ha with
    | cons d1 ha =>
      cases ha with
      | cons d2 ha =>
        cases ha with
        | cons d3 ha =>
          cases ha
          refine (pg_tup hX.calm (pgs_cons (h1 X hX) (pgs_cons (PG.ex fun c => h2 c X hX) (pgs_cons (PG.ex fun cc : γ1 × γ2 => h3 cc.1 cc.2 X hX) pgs_nil (hs3 _)) (hs2 _)) (hs1 _)) (hn _) (hst _)).run pins s σ H _ u K I r ?_
          refine ⟨_, _, rfl, by rw [hX.K]; exact Evl.ex_t F.refl.bsub hs, rfl, _, _, rfl, φ, B, _, _, hW, F, d1, hm1, fun c σ1 hk F1 w1 => ?_⟩
          refine ⟨_, _, rfl, c, φ, B, _, _, hW, F1, d2, Mir.wp_bnd hk, fun e σ2 hk2 F2 w2 => ?_⟩
          refine ⟨_, _, rfl, (c, e), φ, B, _, _, hW, F2, d3, Mir.wp_bnd hk2, fun f σ3 hk3 F3 w3 => ⟨rfl, hK (c, e, f) σ3 (Mir.wp_ret hk3) F3 fun L hL => ?_⟩⟩
          rw [w3 L fun i hi => hL i (List.mem_append_right _ (List.mem_append_right _ hi)), w2 L fun i hi => hL i (List.mem_append_right _ (List.mem_append_left _ hi)), w1 L fun i hi => hL i (List.mem_append_left _ hi)]

/-! ### what is walked: lists, tuples, ranges, .. -/
/-- J hands the data ds out, one by one; kp: while all that stands is kept -/
def ItD (μ : Md) (ω : Wld) (kp : Bool) (J : It) (ds : List D) (B1 H1 : Hp) : Prop := ∀ B2 H2, (∀ a o, B1 a = some o → B2 a = some o) → Stp μ ω B2 H2 B2 H2 → (kp = true → ∀ a o, H1 a = some o → NT o → ¬ ω.adr a → H2 a = some o) → ∀ i : Nat,
  (∀ d, ds[i]? = some d → J.go i H2 ∧ ∀ x H3, J.yld i H2 x H3 → ∃ B3, Stp μ ω B2 H2 B3 H3 ∧ Dp μ.K B3 x d) ∧ (ds.length ≤ i → J.stop i H2)
def EI (μ : Md) (g : Cw) (ρ : Env) (kp : Bool) (tg iter : Expr) (m : M (List D)) : Prop := ∀ X, CxIs μ g X → PI X tg iter fun σ H R =>
  ∃ (φ : Fm) (B : Hp) (k : List D → Prop), g.W φ.ω ∧ Fr μ φ B ρ σ H ∧ Mir.wp m k ∧ ∀ ds B' H' J, k ds → Stp μ φ.ω B H B' H' → ItD μ φ.ω kp J ds B' H' → R J H'
theorem _root_.L2.PI.imp {X : Cx} {tg e : Expr} {t t' : TI} (h : PI X tg e t) (i : ∀ σ H Q, t' σ H Q → t σ H Q) : PI X tg e t' := ⟨fun pins s σ H Q I q => h.run pins s σ H Q I (i σ H Q q)⟩
/-- a list or a tuple -/
def iSeq (K : PySem.W.Frag) (tl : TE) : TI := fun σ H R => tl σ H fun x H1 => ∃ a, x = .ref a ∧ (((∃ xs, SqL K H1 a xs) ∧ R (Itl K a) H1) ∨ ((∃ xs, SqT K H1 a xs) ∧ R (Itt K a) H1))
theorem pi_seq {X : Cx} {tg l : Expr} {tl : TE} (hl : PE X l tl) : PI X tg l (iSeq X.K tl) := by
  refine ⟨fun pins s σ H R I h => ?_⟩
  refine thn (hl.run pins s σ H _ I h) fun v s1 ⟨x, H1, I1, r1, q1⟩ => ?_
  obtain ⟨a, e, q⟩ := q1
  subst e
  cases r1
  rcases q with ⟨⟨xs, hq⟩, q⟩ | ⟨⟨xs, hq⟩, q⟩
  · obtain ⟨its, rv, p, hz⟩ := I1.list hq
    refine wpAny_pyIter_list p.isList ?_
    refine ⟨s1.heap.objs.size, [s1.heap.objs.size], _, _, H1, rfl, I1.kept (t' := s1.toks) fun b o e => Heap.get?_push_of_some _ e, turn_list a _, ⟨_, Heap.get?_push_size _ rfl, rfl, rfl⟩, fun b hb => ?_, q⟩
    have e : b = s1.heap.objs.size := by simpa using hb
    subst e
    exact I1.fpOk (Nat.le_refl _) (I1.hok.fresh (Nat.le_refl _))
  · obtain ⟨its, rv, p, hz⟩ := I1.tuple hq
    refine wpAny_pyIter_tuple (show s1.heap.IsTuple a its.toArray from p) ?_
    refine ⟨s1.heap.objs.size, [s1.heap.objs.size], _, _, H1, rfl, I1.kept (t' := s1.toks) fun b o e => Heap.get?_push_of_some _ e, turn_tuple a _, ⟨_, Heap.get?_push_size _ rfl, rfl, rfl⟩, fun b hb => ?_, q⟩
    have e : b = s1.heap.objs.size := by simpa using hb
    subst e
    exact I1.fpOk (Nat.le_refl _) (I1.hok.fresh (Nat.le_refl _))
/-- where vs stands at a while the walk lasts -/
theorem itd_l {kp : Bool} {B1 H1 : Hp} {a : Addr} {vs : List V} {ds : List D} (hd : DpAll μ.K B1 vs ds) (hs : ∀ B2 H2 : Hp, (∀ a o, B1 a = some o → B2 a = some o) → Stp μ ω B2 H2 B2 H2 → (kp = true → ∀ a o, H1 a = some o → NT o → ¬ ω.adr a → H2 a = some o) → SqL μ.K H2 a vs) : ItD μ ω kp (Itl μ.K a) ds B1 H1 := fun B2 H2 sub st kk i => by
  have hq := hs B2 H2 sub st kk
  refine ⟨fun d e => ?_, fun hl => ⟨vs, hq, by rw [dpAll_len hd]; exact hl⟩⟩
  obtain ⟨v, h1, h2⟩ := dpAll_get hd e
  refine ⟨⟨vs, v, hq, h1⟩, fun x H3 ⟨e1, e2⟩ => ?_⟩
  subst e1
  have e3 := e2 vs hq
  rw [h1] at e3
  cases e3
  exact ⟨B2, st, Dp.mono sub h2⟩
theorem itd_t {kp : Bool} {B1 H1 : Hp} {a : Addr} {vs : List V} {ds : List D} (hd : DpAll μ.K B1 vs ds) (hs : SqT μ.K B1 a vs) : ItD μ ω kp (Itt μ.K a) ds B1 H1 := fun B2 H2 sub st kk i => by
  have hq : SqT μ.K H2 a vs := Evl.ex_t st.bsub (Evl.ex_t sub hs)
  refine ⟨fun d e => ?_, fun hl => ⟨vs, hq, by rw [dpAll_len hd]; exact hl⟩⟩
  obtain ⟨v, h1, h2⟩ := dpAll_get hd e
  refine ⟨⟨vs, v, hq, h1⟩, fun x H3 ⟨e1, e2⟩ => ?_⟩
  subst e1
  have e3 := e2 vs hq
  rw [h1] at e3
  cases e3
  exact ⟨B2, st, Dp.mono sub h2⟩
theorem itd_seq {B1 H1 : Hp} {x : V} {d : D} {ds : List D} (h : Dp μ.K B1 x d) (hi : dItems d = some ds) (st : Stp μ ω B1 H1 B1 H1) : ∃ a, x = .ref a ∧ (((∃ xs, SqL μ.K H1 a xs) ∧ ∀ kp, ItD μ ω kp (Itl μ.K a) ds B1 H1) ∨ ((∃ xs, SqT μ.K H1 a xs) ∧ ∀ kp, ItD μ ω kp (Itt μ.K a) ds B1 H1)) := by
  cases h <;> simp [dItems] at hi
  · subst hi
    rename_i h t
    exact ⟨_, rfl, .inl ⟨⟨_, Evl.ex_l st.bsub h⟩, fun kp => itd_l t fun B2 H2 sub st2 _ => Evl.ex_l st2.bsub (Evl.ex_l sub h)⟩⟩
  · subst hi
    rename_i h t
    exact ⟨_, rfl, .inr ⟨⟨_, Evl.ex_t st.bsub h⟩, fun kp => itd_t t h⟩⟩
variable {tg a b : Expr} {ma mb : M D} {pos p : Pos}
theorem EI.seq (ha : EX μ g ρ a ma) : EI μ g ρ false tg a (bnd ma fun x => lift (dItems x)) := fun X hX => (pi_seq (ha X hX)).imp fun σ H R ⟨φ, B, k, hW, F, hm, hQ⟩ => rd.st hW F hm fun x v B1 H1 hk1 s1 hr1 => by
  obtain ⟨ds, hds, hk⟩ := Mir.wp_lift hk1
  obtain ⟨a, e, q⟩ := itd_seq hr1 hds (F.go s1).refl
  refine ⟨a, e, ?_⟩
  rw [hX.K]
  exact q.imp (fun ⟨h1, h2⟩ => ⟨h1, hQ _ _ _ _ hk s1 (h2 _)⟩) fun ⟨h1, h2⟩ => ⟨h1, hQ _ _ _ _ hk s1 (h2 _)⟩
/-- .. in a comprehension: one's own list too -/
theorem EI.seqB (ha : EB μ g ρ a ma) : EI μ g ρ true tg a (bnd ma fun x => lift (dItems x)) := fun X hX => (pi_seq (ha X hX)).imp fun σ H R ⟨φ, B, k, hW, F, hm, hQ⟩ => rd.st hW F hm fun x v B1 H1 hk1 s1 hr1 => by
  obtain ⟨ds, hds, hk⟩ := Mir.wp_lift hk1
  rw [hX.K]
  rcases hr1 with hr1 | ⟨a, vs, es, rfl, rfl, ha, hb, hn, hd⟩
  · obtain ⟨a, e, q⟩ := itd_seq hr1 hds (F.go s1).refl
    refine ⟨a, e, ?_⟩
    exact q.imp (fun ⟨h1, h2⟩ => ⟨h1, hQ _ _ _ _ hk s1 (h2 _)⟩) fun ⟨h1, h2⟩ => ⟨h1, hQ _ _ _ _ hk s1 (h2 _)⟩
  · cases hds
    exact ⟨a, rfl, .inl ⟨⟨vs, SqL.of ha⟩, hQ _ _ _ _ hk s1 (itd_l hd fun B2 H2 sub st kk => SqL.of (kk rfl a _ ha nt_lst hn))⟩⟩
theorem EI.up {iter : Expr} {m : M (List D)} (h : EI μ g ρ false tg iter m) : EI μ g ρ true tg iter m := fun X hX => (h X hX).imp fun σ H R ⟨φ, B, k, hW, F, hm, hQ⟩ => ⟨φ, B, k, hW, F, hm, fun ds B' H' J hk s it => hQ ds B' H' J hk s fun B2 H2 sub st _ i => it B2 H2 sub st (fun z => by cases z) i⟩
def dRange (i j : Int) : Option (List D) := if (-(2 ^ 62) ≤ i ∧ i < 2 ^ 62 ∧ -(2 ^ 62) ≤ j ∧ j < 2 ^ 62) then some ((List.range (j - i).toNat).map fun n => .int (i + (n : Nat))) else none
theorem itd_r {kp : Bool} {B1 H1 : Hp} {i : Int} {n : Nat} : ItD μ ω kp (Itr i n) ((List.range n).map fun n => .int (i + (n : Nat))) B1 H1 := fun B2 H2 sub st kk m => by
  refine ⟨fun d e => ?_, fun hl => show n ≤ m by simpa using hl⟩
  rw [List.getElem?_map] at e
  obtain ⟨y, h1, h2⟩ := Option.map_eq_some_iff.mp e
  obtain ⟨h3, h4⟩ := List.getElem?_eq_some_iff.mp h1
  simp at h3 h4
  subst h4
  refine ⟨h3, fun x H3 ⟨e1, e2⟩ => ?_⟩
  subst e1 e2 h2
  exact ⟨B2, st, .int _⟩
theorem EI.range1 (hg : g.scope.names.lookup ("range" : Str) = some .globalImplicit) (hm : μ.mg "range" = none) (ha : EX μ g ρ a ma) (h1 : ∀ env, starEach [a] env = (false, eval a env) :: starEach [] env := by intro _; rfl) :
    EI μ g ρ false tg (.Call (.Name "range" p) [a] [] pos) (bnd ma fun x => lift ((dInt x).bind fun j => dRange 0 j)) := fun X hX => (pi_range1 (hX.gl hg) (by rw [hX.mg]; exact hm) (pa_cons (ha X hX) pa_nil (h1 _)) (h1 _)).imp fun σ H R ⟨φ, B, k, hW, F, hm, hQ⟩ =>
  rd.st hW F hm fun x v B1 H1 hk1 s1 hr1 => by
    obtain ⟨ds, hds, hk⟩ := Mir.wp_lift hk1
    obtain ⟨j, hj, hds⟩ := Option.bind_eq_some_iff.mp hds
    cases x <;> simp [dInt] at hj
    subst hj
    unfold dRange at hds
    split at hds
    · rename_i hr
      cases hds
      refine ⟨_, by rw [dp_int hr1], hr.2.2.1, hr.2.2.2, hQ _ _ _ _ hk s1 ?_⟩
      have := itd_r (μ := μ) (ω := φ.ω) (kp := false) (B1 := B1) (H1 := H1) (i := 0) (n := (‹Int› - 0).toNat)
      rw [Int.sub_zero] at this ⊢
      exact this
    · cases hds
theorem EI.range2 (hg : g.scope.names.lookup ("range" : Str) = some .globalImplicit) (hm : μ.mg "range" = none) (ha : EX μ g ρ a ma) (hb : EX μ g ρ b mb) (h1 : ∀ env, starEach [a, b] env = (false, eval a env) :: starEach [b] env := by intro _; rfl) (h2 : ∀ env, starEach [b] env = (false, eval b env) :: starEach [] env := by intro _; rfl) :
    EI μ g ρ false tg (.Call (.Name "range" p) [a, b] [] pos) (bnd ma fun x => bnd mb fun y => lift ((dInt x).bind fun i => (dInt y).bind fun j => dRange i j)) := fun X hX =>
  (pi_range2 (hX.gl hg) (by rw [hX.mg]; exact hm) (pa_cons (ha X hX) (pa_cons (hb X hX) pa_nil (h2 _)) (h1 _)) (by rw [h1, h2]; rfl) (h2 _)).imp fun σ H R ⟨φ, B, k, hW, F, hm, hQ⟩ =>
  rd.st hW F hm fun x v B1 H1 hk1 s1 hr1 => rd.st hW (F.go s1) hk1 fun y w B2 H2 hk2 s2 hr2 => by
    obtain ⟨ds, hds, hk⟩ := Mir.wp_lift hk2
    obtain ⟨i, hi, hds⟩ := Option.bind_eq_some_iff.mp hds
    obtain ⟨j, hj, hds⟩ := Option.bind_eq_some_iff.mp hds
    cases x <;> simp [dInt] at hi
    cases y <;> simp [dInt] at hj
    subst hi hj
    unfold dRange at hds
    split at hds
    · rename_i hr
      cases hds
      exact ⟨_, _, by rw [dp_int hr1, dp_int hr2], hr, hQ _ _ _ _ hk (s1.trans s2) itd_r⟩
    · cases hds
end
end PL
end pl4_
section pl5_
set_option maxRecDepth 100000
set_option maxHeartbeats 2000000
/-! comprehensions, generator expressions -/
namespace PL
open PySem PySem.Spec PyProof.Rows L2 GxR GenW LamX GX
open Mir (ret bnd lift)
section
variable {M : Type → Type} [Mir M]
variable {μ : Md} {g : Cw} {ρ : Env} {ω : Wld} {B H : Hp} {v u : V} {d : D} {φ : Fm} {σ : L2.St}

theorem wp_rb {α β : Type} {a : α} {f : α → M β} {k : β → Prop} (h : Mir.wp (ret a : M α) fun a => Mir.wp (f a) k) : Mir.wp (f a) k := Mir.wp_ret (k := fun a => Mir.wp (f a) k) h
/-- a fresh list changes -/
theorem Stp.mut {B' H' : Hp} {a : Addr} {vs us : List V} (s : Stp μ ω B H B' H') (hn : H a = none) (ha : H' a = some (.lst vs)) (hb : B' a = none) (na : ¬ ω.adr a) : Stp μ ω B H B' (upd H' a (.lst us)) where
  sub := s.sub
  new := fun b o h => by
    rw [upd_ne (ne_of_none h hb)]
    exact s.new b o h
  ext := fun b o h nt nw => by
    rw [upd_ne (ne_of_none h hn)]
    exact s.ext b o h nt nw
  has := fun b h => by
    by_cases hba : b = a
    · subst hba; rw [upd_same] at h; cases h
    · rw [upd_ne hba] at h; exact s.has b h
  tabs := s.tabs.keep (fun P hP => by
    obtain ⟨ps, h, _⟩ := s.tabs P hP
    rw [upd_ne (ne_of h ha (fun z => by cases z))]) fun c q h => by
    rw [upd_ne (ne_of h ha (fun z => by cases z))]; exact h
  wok := ω.keep _ _ s.wok fun b hb => by
    rw [upd_ne (fun z => na (by rw [← z]; exact hb))]
theorem fresh_na {a : Addr} (hn : H a = none) (wok : ω.ok H) : ¬ ω.adr a := fun z => by
  obtain ⟨o, e, _⟩ := ω.has H a wok z
  rw [hn] at e; cases e

/-! ### a block's names -/
def wipeE (ρ : Env) : List Nat → Env
  | [] => ρ
  | v :: vs => (wipeE ρ vs).set v none
theorem wipe_some2 {σ : L2.St} : ∀ {vs : List Nat} {i : Nat}, i ∉ vs → (wipe σ vs)[i]? = σ[i]?
  | [], _, _ => rfl
  | v :: vs, i, h => by
    unfold wipe
    rw [List.getElem?_set_ne (fun z => h (by rw [z]; exact List.mem_cons_self)), wipe_some2 fun z => h (List.mem_cons_of_mem _ z)]
theorem wipe_get {σ : L2.St} : ∀ {vs : List Nat} {i : Nat}, i ∈ vs → i < σ.length → (wipe σ vs)[i]? = some none
  | [], _, h, _ => by cases h
  | v :: vs, i, h, hl => by
    unfold wipe
    by_cases hv : v = i
    · subst hv
      rw [List.getElem?_set_self (by rw [wipe_length]; exact hl)]
    · rw [List.getElem?_set_ne hv]
      rcases List.mem_cons.mp h with z | z
      · exact absurd z.symm hv
      · exact wipe_get z hl
theorem wipe_wipe (σ : L2.St) (vs : List Nat) : wipe (wipe σ vs) vs = wipe σ vs := by
  apply List.ext_getElem?
  intro i
  by_cases hl : i < σ.length
  · by_cases hi : i ∈ vs
    · rw [wipe_get hi (by rw [wipe_length]; exact hl), wipe_get hi hl]
    · rw [wipe_some2 hi]
  · rw [List.getElem?_eq_none (by rw [wipe_length, wipe_length]; omega), List.getElem?_eq_none (by rw [wipe_length]; omega)]
theorem wipeE_len (ρ : Env) : ∀ vs : List Nat, (wipeE ρ vs).length = ρ.length
  | [] => rfl
  | v :: vs => by unfold wipeE; rw [List.length_set, wipeE_len ρ vs]
theorem wipeE_some {ρ : Env} : ∀ {vs : List Nat} {i : Nat} {s : Sl}, (wipeE ρ vs)[i]? = some (some s) → ρ[i]? = some (some s) ∧ i ∉ vs
  | [], _, _, h => ⟨h, by simp⟩
  | v :: vs, i, s, h => by
    unfold wipeE at h
    by_cases hi : v = i
    · subst hi
      have hlt := (List.getElem?_eq_some_iff.mp h).1
      rw [List.length_set] at hlt
      rw [List.getElem?_set_self hlt] at h
      cases h
    · rw [List.getElem?_set_ne hi] at h
      obtain ⟨h1, h2⟩ := wipeE_some h
      exact ⟨h1, fun z => by
        rcases List.mem_cons.mp z with z | z
        · exact hi z.symm
        · exact h2 z⟩
theorem Fr.wipe (F : Fr μ φ B ρ σ H) (vs : List Nat) : Fr μ φ B (wipeE ρ vs) (L2.wipe σ vs) H where
  stp := F.stp
  na := F.na
  len := by rw [wipe_length, wipeE_len]; exact F.len
  sl := fun i s e => by
    obtain ⟨h1, h2⟩ := wipeE_some e
    rw [wipe_some2 h2]
    exact F.sl i s h1
  ap := fun i j ds es w e1 e2 e3 e4 => by
    obtain ⟨h1, n1⟩ := wipeE_some e1
    obtain ⟨h2, n2⟩ := wipeE_some e2
    rw [wipe_some2 n1] at e3
    rw [wipe_some2 n2] at e4
    exact F.ap i j ds es w h1 h2 e3 e4
/-- .. forgotten, by the slots' own names being free to change -/
theorem Fr.unwipe {σ2 : L2.St} {B' H' : Hp} {vs : List Nat} (F : Fr μ φ B ρ σ H) (s : Stp μ φ.ω B H B' H') : Fr μ φ B' ρ σ H' := F.go s

theorem _root_.L2.PE.ex {X : Cx} {e : Expr} {γ : Type} {t : γ → TE} (h : ∀ c, PE X e (t c)) : PE X e fun σ H Q => ∃ c, t c σ H Q := ⟨fun pins s σ H Q I ⟨c, q⟩ => (h c).run pins s σ H Q I q⟩
theorem _root_.L2.PTs.ex {X : Cx} {e : List Expr} {γ : Type} {t : γ → TT} (h : ∀ c, PTs X e (t c)) : PTs X e fun σ H Q => ∃ c, t c σ H Q := ⟨fun pins s σ H Q I ⟨c, q⟩ => (h c).run pins s σ H Q I q⟩
def ETs (μ : Md) (g : Cw) (ρ : Env) (es : List Expr) (m : M Bool) : Prop := ∀ X, CxIs μ g X → PTs X es (rd μ g ρ RT m)
theorem ETs.nil : ETs μ g ρ [] (ret true : M Bool) := fun X hX => ⟨fun pins s σ H Q I ⟨φ, B, k, hW, F, hm, hQ⟩ => pts_nil.run pins s σ H Q I (hQ _ _ _ _ (Mir.wp_ret hm) F.refl rfl)⟩
theorem ETs.one {c : Expr} {m : M Bool} (h : ET μ g ρ c m) : ETs μ g ρ [c] m := fun X hX => pts_one (h X hX)

/-- a list comprehension's block, a generator expression's frame -/
def relS (scope sc : Scope) : Scope := { scope with names := scope.names.map fun (n, k) => if (k == .free && sc.kind == .function && sc.names.lookup n == some .cell) then (n, .cell) else (n, k) }
def Cw.blk (g : Cw) (scope : Scope) : Cw := { g with scope := relS scope g.scope, ow := fun x => scope.names.lookup x == some .cell }
def Cw.gen (g : Cw) (scope : Scope) (k : Nat) : Cw := { g with scope := scope, k := k, hc := false, ow := fun x => scope.names.lookup x == some .cell }
theorem CxIs.blk {X : Cx} (hX : CxIs μ g X) (s : Shared) (H : Hp) (scope : Scope) (C : Addr) (cl : List (Str × Addr)) (fp : List Addr) : CxIs μ (g.blk scope) (X.blk s H scope (compEnvC scope cl C X.env) fp) :=
  ⟨hX.prog, hX.w, hX.K, hX.mg, hX.base, hX.N, (by show relabel scope X.env = relS scope g.scope; rw [← hX.scope]; rfl), hX.room, hX.code, hX.calm, rfl, fun x h => h, hX.nd⟩
theorem CxIs.gen {X : Cx} (hX : CxIs μ g X) (s : Shared) (H : Hp) (scope : Scope) (cd : Value) (fp : List Addr) (A' : Around) (pn : List (Addr × Obj)) {k : Nat} (hr : Room k A') : CxIs μ (g.gen scope k) (gcx X s H scope (genv X s scope cd) fp A' pn) :=
  ⟨hX.prog, hX.w, hX.K, hX.mg, hX.base, hX.N, rfl, hr, (fun z => nomatch z), hX.calm, rfl, fun x h => h, hX.nd⟩

/-- the items, one by one -/
def mapF {α : Type} (f : D → M (Option α)) : List D → M (List α)
  | [] => ret []
  | d :: ds => bnd (f d) fun o => bnd (mapF f ds) fun r => ret (match o with | some y => y :: r | none => r)
/-- [y for d in ds if t] -/
def stepF {γ : Type} (mb : D → M γ) (mt : γ → M Bool) (me : γ → M D) (d : D) : M (Option D) := bnd (mb d) fun c => bnd (mt c) fun t => if t then bnd (me c) fun y => ret (some y) else ret none
def compF {γ : Type} (mb : D → M γ) (mt : γ → M Bool) (me : γ → M D) (ds : List D) : M (List D) := bnd (lift (dSz ds)) (mapF (stepF mb mt me))
def optC {α : Type} (o : Option α) (r : List α) : List α := match o with | some y => y :: r | none => r
variable {tg elt iter : Expr} {ifs : List Expr} {scope : Scope} {own : List (Str × Nat)} {γ : Type} {is : List Nat} {out : γ → Env} {mi : M (List D)} {mb : D → M γ} {mt : γ → M Bool} {me : γ → M D} {pos p gpos : Pos}
theorem comp_rd {K : PySem.W.Frag} (hK : K = μ.K) (his : ∀ i ∈ is, i ∈ own.map (·.2)) {Q : VK} (h : rd μ g ρ (RL μ) (bnd mi (compF mb mt me)) σ H Q) :
    tLc (fun σ H R => ∃ (φ : Fm) (B : Hp) (k : List D → Prop), g.W φ.ω ∧ Fr μ φ B ρ σ H ∧ Mir.wp mi k ∧ ∀ ds B' H' J, k ds → Stp μ φ.ω B H B' H' → ItD μ φ.ω true J ds B' H' → R J H')
      (fun v σ H K => ∃ (φ : Fm) (B : Hp) (d : D) (k : γ → Prop), (g.blk scope).W φ.ω ∧ Fr μ φ B (wipeE ρ (own.map (·.2))) σ H ∧ Dp μ.K B v d ∧ Mir.wp (mb d) k ∧ ∀ c σ', k c → Fr μ φ B (out c) σ' H → (∀ L : List Nat, (∀ i ∈ is, i ∈ L) → wipe σ' L = wipe σ L) → K σ' H)
      (fun σ H Q => ∃ c, rd μ (g.blk scope) (out c) RT (mt c) σ H Q) (fun σ H Q => ∃ c, rd μ (g.blk scope) (out c) (RX μ) (me c) σ H Q) (own.map (·.2)) σ H Q := by
  obtain ⟨φ, B, k, hW, F, hm, hQ⟩ := h
  refine ⟨φ, B, _, hW, F, Mir.wp_bnd hm, fun ds B1 H1 J hk s1 it Dn hD => ?_⟩
  obtain ⟨es, hes, hk0⟩ := Mir.wp_lift (Mir.wp_bnd hk)
  clear hk
  obtain ⟨rfl, hz⟩ := dSz_some hes
  have hDn : ¬ φ.ω.adr Dn := fresh_na hD s1.wok
  have F1 := F.go s1
  have hB1 : B1 Dn = none := hbp_of F1.refl hD
  refine ⟨fun i m H' => m + i = es.length ∧ ∃ B' vs acc, Stp μ φ.ω B1 H1 B' H' ∧ H' Dn = some (.lst vs) ∧ B' Dn = none ∧ DpAll μ.K B' vs acc ∧ acc.length ≤ i ∧ ∃ kk : List D → Prop, Mir.wp (mapF (stepF mb mt me) (es.drop i)) kk ∧ ∀ r, kk r → k (acc ++ r),
    ⟨es.length, by simp, B1, [], [], F1.layM hD, upd_same, hB1, .nil, Nat.le_refl _, k, by simpa using hk0, fun r h => h⟩, ?_⟩
  rintro i m H' ⟨hm', B', vs, acc, s2, hDl, hBD, hda, hal, kk, hw, hkk⟩
  have F2 := F1.go s2
  have nD : Stp μ φ.ω B H B' H' := s1.trans s2
  obtain ⟨it1, it2⟩ := it B' H' s2.sub F2.refl (fun _ a o h nt nw => s2.ext a o h nt nw) i
  by_cases hlt : i < es.length
  · refine .inr ?_
    obtain ⟨hgo, hy⟩ := it1 _ (List.getElem?_eq_getElem hlt)
    refine ⟨hgo, fun H5 => ∃ m', m' < m ∧ (m' + (i + 1) = es.length ∧ ∃ B' vs acc, Stp μ φ.ω B1 H1 B' H5 ∧ H5 Dn = some (.lst vs) ∧ B' Dn = none ∧ DpAll μ.K B' vs acc ∧ acc.length ≤ i + 1 ∧ ∃ kk : List D → Prop, Mir.wp (mapF (stepF mb mt me) (es.drop (i + 1))) kk ∧ ∀ r, kk r → k (acc ++ r)), fun H5 h => h, fun x H5 hyld => ?_⟩
    obtain ⟨B5, s5, hd5⟩ := hy x H5 hyld
    have keepD : ∀ {B6 H6 : Hp}, Stp μ φ.ω B' H' B6 H6 → H6 Dn = some (.lst vs) ∧ B6 Dn = none := fun {B6 H6} s6 => by
      refine ⟨s6.ext _ _ hDl nt_lst hDn, ?_⟩
      cases q : B6 Dn with
      | none => rfl
      | some o =>
        rcases (s6.new _ o q).2.2 with h | h
        · rw [h] at hBD; cases hBD
        · rw [h] at hDl; cases hDl
    rw [List.drop_eq_getElem_cons hlt] at hw
    have hw := Mir.wp_bnd hw
    have hw := Mir.wp_bnd hw
    refine ⟨φ, B5, _, _, hW, (F2.go s5).wipe _, hd5, hw, fun c σ2 hk2 Fc hwp => ⟨?_, ?_⟩⟩
    · rw [hwp _ his]
      exact wipe_wipe _ _
    have hk2 := Mir.wp_bnd hk2
    refine ⟨c, φ, B5, _, hW, Fc, hk2, fun t b B6 H6 hk6 s6 et => ?_⟩
    subst et
    have s56 := s5.trans s6
    cases b with
    | true =>
      simp only [if_true] at hk6 ⊢
      refine ⟨c, φ, B6, _, hW, Fc.go s6, Mir.wp_bnd hk6, fun y w B7 H7 hk7 s7 hw7 => ?_⟩
      have hk8 := wp_rb hk7
      have hk7 := Mir.wp_bnd hk8
      have s57 := s56.trans s7
      obtain ⟨k1, k2⟩ := keepD s57
      refine ⟨vs, k1, ?_, m - 1, by omega, by omega, B7, vs ++ [w], acc ++ [y], (s2.trans s57).mut hD k1 k2 hDn, upd_same, k2, dpAll_app (DpAll.mono s57.sub hda) (.cons hw7 .nil), by simp; omega, ?_⟩
      · rw [dpAll_len hda]; omega
      · exact ⟨_, hk7, fun r hr => by rw [List.append_assoc]; exact hkk _ (Mir.wp_ret hr)⟩
    | false =>
      simp only [Bool.false_eq_true, if_false] at hk6 ⊢
      have hk8 := wp_rb hk6
      have hk7 := Mir.wp_bnd hk8
      obtain ⟨k1, k2⟩ := keepD s56
      refine ⟨m - 1, by omega, by omega, B6, vs, acc, s2.trans s56, k1, k2, DpAll.mono s56.sub hda, by omega, _, hk7, fun r hr => hkk _ (Mir.wp_ret hr)⟩
  · refine .inl ⟨it2 (by omega), ?_⟩
    rw [List.drop_eq_nil_of_le (by omega)] at hw
    have hw := hkk _ (Mir.wp_ret hw)
    rw [List.append_nil] at hw
    exact hQ _ _ _ _ hw nD ⟨Dn, vs, rfl, hDl, s1.has _ hD, hBD, hDn, hda⟩
theorem EL.comp (ok : BlkOk g.N g.scope scope own) (hi : EI μ g ρ true tg iter mi) (hg : EG μ (g.blk scope) (wipeE ρ (own.map (·.2))) tg is out mb) (his : ∀ i ∈ is, i ∈ own.map (·.2)) (ht : ∀ c, ETs μ (g.blk scope) (out c) ifs (mt c)) (he : ∀ c, EX μ (g.blk scope) (out c) elt (me c))
    (hs : ∀ env x, foldedSetIterable iter env x = pure x := by intro _ _; rfl) : EL μ g ρ (.ListComp elt [⟨tg, iter, ifs, 0⟩] scope pos) (bnd mi (compF mb mt me)) := fun X hX => by
  exact (pe_lc hX.calm (by rw [hX.N]; exact hX.nd) (hi X hX) (by rw [hX.N, hX.scope]; exact ok) (fun s H C cl fp => hg _ (hX.blk s H scope C cl fp)) (fun s H C cl fp => PTs.ex fun c => ht c _ (hX.blk s H scope C cl fp)) (fun s H C cl fp => PE.ex fun c => he c _ (hX.blk s H scope C cl fp)) (hs _)).imp fun σ H Q h => comp_rd hX.K his h
end
end PL
end pl5_
section pl6_
set_option maxRecDepth 100000
set_option maxHeartbeats 2000000
/-! generator expressions -/
namespace PL
open PySem PySem.Spec PyProof.Rows L2 GxR GenW LamX GX
open Mir (ret bnd lift)
section
variable {M : Type → Type} [Mir M]
variable {μ : Md} {g : Cw} {ρ : Env} {ω : Wld} {B H : Hp} {v u : V} {d : D} {φ : Fm} {σ : L2.St}
variable {tg elt iter : Expr} {ifs : List Expr} {scope : Scope} {own : List (Str × Nat)} {γ : Type} {is : List Nat} {out : γ → Env} {mi : M (List D)} {mb : D → M γ} {mt : γ → M Bool} {me : γ → M D} {pos p gpos : Pos}

theorem Stp.tbd {B1 H1 H2 : Hp} {P : Addr} (s : Stp μ ω B H B1 H1) (hP : P ∈ μ.Ps) (t : Tbd P (μ.qs P) H1 H2) : Stp μ ω B H B1 H2 := by
  obtain ⟨tA, kp⟩ := t
  obtain ⟨ps, hp, _⟩ := s.tabs P hP
  have nt : ∀ a o, H1 a = some o → NT o → a ≠ P := fun a o h n z => by subst z; rw [hp] at h; cases h; exact n _ rfl
  refine ⟨s.sub, fun a o h => ?_, fun a o h n na => kp a o (nt a o (s.ext a o h n na) n) (s.ext a o h n na), fun a h => ?_, fun P' hP' => ?_, ?_⟩
  · obtain ⟨h1, h2, h3⟩ := s.new a o h
    exact ⟨kp a o (nt a o h1 h2) h1, h2, h3⟩
  · refine s.has a ?_
    cases q : H1 a with
    | none => rfl
    | some o =>
      by_cases ha : a = P
      · subst ha
        obtain ⟨ps', h', _⟩ := tA
        rw [h'] at h; cases h
      · rw [kp a o ha q] at h; cases h
  · by_cases hPP : P' = P
    · subst hPP; exact tA
    · obtain ⟨ps', h1, h2, h3⟩ := s.tabs P' hP'
      refine ⟨ps', kp P' _ hPP h1, h2, fun pos cv e => ?_⟩
      obtain ⟨c, e1, e2⟩ := h3 pos cv e
      refine ⟨c, e1, kp c _ (nt c _ e2 ?_) e2⟩
      intro ps'' z
      cases z
  · refine ω.keep _ _ s.wok fun a ha => ?_
    obtain ⟨o, h, n⟩ := ω.has _ a s.wok ha
    rw [h]
    exact kp a o (nt a o h n) h
/-- stops at the first b -/
def anyL (b : Bool) (f : D → M (Option D)) : List D → M D
  | [] => ret (.bool (!b))
  | d :: ds => bnd (f d) fun o => match o with
    | none => anyL b f ds
    | some y => bnd (lift (dBool y)) fun t => if t == b then ret (.bool b) else anyL b f ds
def anyF {γ : Type} (b : Bool) (mb : D → M γ) (mt : γ → M Bool) (me : γ → M D) (ds : List D) : M D := anyL b (stepF mb mt me) ds
abbrev allF {γ : Type} (mb : D → M γ) (mt : γ → M Bool) (me : γ → M D) (ds : List D) : M D := anyF false mb mt me ds
/-- what the element wants -/
def Cb (b : Bool) (Qb : Hp → Prop) : (Hp → Prop) → List V → V → Hp → Prop := fun k _ y H => ∃ t, y = .bl t ∧ if t == b then Qb H else k H
theorem cb_all {Q k : Hp → Prop} {ys : List V} {y : V} {H : Hp} (h : Cb false Q k ys y H) : Call_ Q k ys y H := by
  obtain ⟨t, e, h⟩ := h
  refine ⟨t, e, ?_⟩
  cases t <;> simpa using h
theorem cb_any {Q k : Hp → Prop} {ys : List V} {y : V} {H : Hp} (h : Cb true Q k ys y H) : Cany Q k ys y H := by
  obtain ⟨t, e, h⟩ := h
  refine ⟨t, e, ?_⟩
  cases t <;> simpa using h
/-- the readings of a generator expression's parts -/
abbrev rdI (μ : Md) (g : Cw) (ρ : Env) (kp : Bool) (m : M (List D)) : TI := fun σ H R =>
  ∃ (φ : Fm) (B : Hp) (k : List D → Prop), g.W φ.ω ∧ Fr μ φ B ρ σ H ∧ Mir.wp m k ∧ ∀ ds B' H' J, k ds → Stp μ φ.ω B H B' H' → ItD μ φ.ω kp J ds B' H' → R J H'
abbrev rdG {γ : Type} (μ : Md) (g : Cw) (ρ : Env) (is : List Nat) (out : γ → Env) (mb : D → M γ) : TG := fun v σ H K =>
  ∃ (φ : Fm) (B : Hp) (d : D) (k : γ → Prop), g.W φ.ω ∧ Fr μ φ B ρ σ H ∧ Dp μ.K B v d ∧ Mir.wp (mb d) k ∧ ∀ c σ', k c → Fr μ φ B (out c) σ' H → (∀ L : List Nat, (∀ i ∈ is, i ∈ L) → wipe σ' L = wipe σ L) → K σ' H
theorem gen_any {g' : Cw} {vs : List Nat} {b : Bool} {Q : VK} (hP : g.P ∈ μ.Ps) (hWW : g'.W = g.W) (his : ∀ i ∈ is, i ∈ vs) (h : rd μ g ρ (RX μ) (bnd mi (anyF b mb mt me)) σ H Q) :
    tGen g.P (μ.qs g.P) (rdI μ g ρ true mi) (rdG μ g' (wipeE ρ vs) is out mb) (fun σ H Q => ∃ c, rd μ g' (out c) RT (mt c) σ H Q) (fun σ H Q => ∃ c, rd μ g' (out c) (RX μ) (me c) σ H Q) vs (Cb b (Q (.bl b))) (fun _ => Q (.bl (!b))) σ H := by
  obtain ⟨φ, B, k, hW, F, hm, hQ⟩ := h
  refine ⟨φ, B, _, hW, F, Mir.wp_bnd hm, fun ds B1 H1 J hk s1 it => ⟨s1.tabs _ hP, fun H2 ht => ?_⟩⟩
  have s2 := s1.tbd hP ht
  have hW' : g'.W φ.ω := by rw [hWW]; exact hW
  refine ⟨fun i m ys H' => m + i = ds.length ∧ ∃ B', Stp μ φ.ω B1 H1 B' H' ∧ Mir.wp (anyL b (stepF mb mt me) (ds.drop i)) k, ⟨ds.length, by simp, B1, ?_, by rw [List.drop_zero]; exact hk⟩, ?_⟩
  · exact Stp.tbd (F.go s1).refl hP ht
  rintro i m ys H' ⟨hm', B', s3, hw⟩
  have F3 := (F.go s1).go s3
  obtain ⟨it1, it2⟩ := it B' H' s3.sub F3.refl (fun _ a o h nt nw => s3.ext a o h nt nw) i
  by_cases hlt : i < ds.length
  · refine .inr ?_
    obtain ⟨hgo, hy⟩ := it1 _ (List.getElem?_eq_getElem hlt)
    refine ⟨hgo, fun x H5 hyld => ?_⟩
    obtain ⟨B5, s5, hd5⟩ := hy x H5 hyld
    rw [List.drop_eq_getElem_cons hlt] at hw
    have hw := Mir.wp_bnd hw
    have hw := Mir.wp_bnd hw
    refine ⟨φ, B5, _, _, hW', (F3.go s5).wipe _, hd5, hw, fun c σ2 hk2 Fc hwp => ⟨?_, ?_⟩⟩
    · rw [hwp _ his]
      exact wipe_wipe _ _
    have hk2 := Mir.wp_bnd hk2
    refine ⟨c, φ, B5, _, hW', Fc, hk2, fun t b' B6 H6 hk6 s6 et => ?_⟩
    subst et
    have s56 := s5.trans s6
    cases b' with
    | true =>
      simp only [if_true] at hk6 ⊢
      refine ⟨c, φ, B6, _, hW', Fc.go s6, Mir.wp_bnd hk6, fun y w B7 H7 hk7 s7 hw7 => ?_⟩
      have hk8 := wp_rb hk7
      obtain ⟨t, ht, hk9⟩ := Mir.wp_lift (Mir.wp_bnd hk8)
      cases y <;> simp [dBool] at ht
      subst ht
      rename_i t
      refine ⟨t, dp_bl hw7, ?_⟩
      by_cases htb : (t == b) = true
      · rw [if_pos htb] at hk9 ⊢
        exact hQ _ _ _ _ (Mir.wp_ret hk9) (s1.trans (s3.trans (s56.trans s7))) (.bl _)
      · rw [if_neg htb] at hk9 ⊢
        exact ⟨m - 1, by omega, by omega, B7, s3.trans (s56.trans s7), hk9⟩
    | false =>
      simp only [Bool.false_eq_true, if_false] at hk6 ⊢
      have hk8 := wp_rb hk6
      exact ⟨m - 1, by omega, by omega, B6, s3.trans s56, hk8⟩
  · refine .inl ⟨it2 (by omega), ?_⟩
    rw [List.drop_eq_nil_of_le (by omega)] at hw
    exact hQ _ _ _ _ (Mir.wp_ret hw) (s1.trans s3) (.bl _)
theorem tGen_mono {P : Addr} {qs : Nat → Nat → Str} {wi : TI} {g : TG} {tt : TT} {te : TE} {vs : List Nat} {C C' : (Hp → Prop) → List V → V → Hp → Prop} {F : List V → Hp → Prop} (hte : ∀ σ H Q Q', te σ H Q → (∀ v H, Q v H → Q' v H) → te σ H Q') (hwi : ∀ σ H R R', wi σ H R → (∀ J H, R J H → R' J H) → wi σ H R')
    (hg : ∀ v σ H K K', g v σ H K → (∀ σ H, K σ H → K' σ H) → g v σ H K') (htt : ∀ σ H Q Q', tt σ H Q → (∀ v H, Q v H → Q' v H) → tt σ H Q')
    (h : ∀ k ys y H, C k ys y H → C' k ys y H) (q : tGen P qs wi g tt te vs C F σ H) : tGen P qs wi g tt te vs C' F σ H := by
  refine hwi _ _ _ _ q fun J H1 ⟨h1, h2⟩ => ⟨h1, fun H2 t => ?_⟩
  obtain ⟨W, hW, turn⟩ := h2 H2 t
  refine ⟨W, hW, fun i m ys H w => (turn i m ys H w).imp id fun ⟨a, b⟩ => ⟨a, fun x H' y => hg _ _ _ _ _ (b x H' y) fun σ2 H2 ⟨c, d⟩ => ⟨c, htt _ _ _ _ d fun b H3 e => ?_⟩⟩⟩
  cases b with
  | true => exact hte _ _ _ _ e fun v H q => h _ _ _ _ q
  | false => exact e
theorem rd_mono {α R : Type} {Rel : Wld → Hp → Hp → Hp → α → R → Prop} {m : M α} (σ : L2.St) (H : Hp) (Q Q' : R → Hp → Prop) (h : rd μ g ρ Rel m σ H Q) (i : ∀ v H, Q v H → Q' v H) : rd μ g ρ Rel m σ H Q' := by
  obtain ⟨φ, B, k, hW, F, hm, hQ⟩ := h
  exact ⟨φ, B, k, hW, F, hm, fun x r B' H' a b c => i _ _ (hQ x r B' H' a b c)⟩
/-- a generator expression's parts -/
structure GenP (μ : Md) (g : Cw) (ρ : Env) (k : Nat) (tg iter : Expr) (ifs : List Expr) (elt : Expr) (scope : Scope) (own : List (Str × Nat)) (gpos : Pos) {γ : Type} (mi : M (List D)) (is : List Nat) (out : γ → Env) (mb : D → M γ) (mt : γ → M Bool) (me : γ → M D) : Prop where
  hk : g.k = k + 1
  hc : g.hc = true
  q : μ.qs g.P gpos.line gpos.col = g.qual ++ "<genexpr>"
  ok : BlkOk g.N g.scope scope own
  co : scope.isCoroutine = false
  h0 : scope.names.lookup (".0" : Str) = some NameKind.local
  hi : EI μ g ρ true tg iter mi
  hg : EG μ (g.gen scope k) (wipeE ρ (own.map (·.2))) tg is out mb
  his : ∀ i ∈ is, i ∈ own.map (·.2)
  ht : ∀ c, ETs μ (g.gen scope k) (out c) ifs (mt c)
  he : ∀ c, EX μ (g.gen scope k) (out c) elt (me c)
  hs : ∀ env v, genFold iter env v = pure v
theorem EX.any (hg : g.scope.names.lookup ("any" : Str) = some .globalImplicit) (hm : μ.mg "any" = none) {k : Nat} (G : GenP μ g ρ k tg iter ifs elt scope own gpos mi is out mb mt me)
    (he : ∀ env, starEach [.GeneratorExp elt [⟨tg, iter, ifs, 0⟩] scope gpos] env = (false, eval (.GeneratorExp elt [⟨tg, iter, ifs, 0⟩] scope gpos) env) :: starEach [] env := by intro _; rfl) :
    EX μ g ρ (.Call (.Name "any" p) [.GeneratorExp elt [⟨tg, iter, ifs, 0⟩] scope gpos] [] pos) (bnd mi (anyF true mb mt me)) := fun X hX => by
  obtain ⟨hq, hcode, hTB, hP⟩ := hX.code G.hc
  refine (pe_any (k := k) (by rw [← G.hk]; exact hX.room) (hX.gl hg) (by rw [hX.mg]; exact hm) hX.calm (by rw [hq]; exact G.q) (by rw [hX.N]; exact hX.nd) (by rw [hX.base, hX.mg]; exact hTB) hcode (by rw [hX.N, hX.scope]; exact G.ok) G.co G.h0 (G.hi X hX) (G.hs _)
    (fun s H cd fp A' pn hr => G.hg _ (hX.gen s H scope cd fp A' pn hr)) (fun s H cd fp A' pn hr => PTs.ex fun c => G.ht c _ (hX.gen s H scope cd fp A' pn hr)) (fun s H cd fp A' pn hr => PE.ex fun c => G.he c _ (hX.gen s H scope cd fp A' pn hr)) (he _)).imp fun σ H Q h => ?_
  refine tGen_mono (fun σ H Q Q' ⟨c, h⟩ i => ⟨c, rd_mono _ _ _ _ h i⟩) (fun σ H R R' ⟨φ, B, k, a, b, c, d⟩ i => ⟨φ, B, k, a, b, c, fun ds B' H' J x y z => i _ _ (d ds B' H' J x y z)⟩) (fun v σ H K K' ⟨φ, B, d, k, a, b, c, e, f⟩ i => ⟨φ, B, d, k, a, b, c, e, fun c σ' x y z => i _ _ (f c σ' x y z)⟩) (fun σ H Q Q' ⟨c, h⟩ i => ⟨c, rd_mono _ _ _ _ h i⟩) (fun k ys y H h => cb_any h) (gen_any hP rfl G.his h)
theorem EX.all (hg : g.scope.names.lookup ("all" : Str) = some .globalImplicit) (hm : μ.mg "all" = none) {k : Nat} (G : GenP μ g ρ k tg iter ifs elt scope own gpos mi is out mb mt me)
    (he : ∀ env, starEach [.GeneratorExp elt [⟨tg, iter, ifs, 0⟩] scope gpos] env = (false, eval (.GeneratorExp elt [⟨tg, iter, ifs, 0⟩] scope gpos) env) :: starEach [] env := by intro _; rfl) :
    EX μ g ρ (.Call (.Name "all" p) [.GeneratorExp elt [⟨tg, iter, ifs, 0⟩] scope gpos] [] pos) (bnd mi (allF mb mt me)) := fun X hX => by
  obtain ⟨hq, hcode, hTB, hP⟩ := hX.code G.hc
  refine (pe_all (k := k) (by rw [← G.hk]; exact hX.room) (hX.gl hg) (by rw [hX.mg]; exact hm) hX.calm (by rw [hq]; exact G.q) (by rw [hX.N]; exact hX.nd) (by rw [hX.base, hX.mg]; exact hTB) hcode (by rw [hX.N, hX.scope]; exact G.ok) G.co G.h0 (G.hi X hX) (G.hs _)
    (fun s H cd fp A' pn hr => G.hg _ (hX.gen s H scope cd fp A' pn hr)) (fun s H cd fp A' pn hr => PTs.ex fun c => G.ht c _ (hX.gen s H scope cd fp A' pn hr)) (fun s H cd fp A' pn hr => PE.ex fun c => G.he c _ (hX.gen s H scope cd fp A' pn hr)) (he _)).imp fun σ H Q h => ?_
  refine tGen_mono (fun σ H Q Q' ⟨c, h⟩ i => ⟨c, rd_mono _ _ _ _ h i⟩) (fun σ H R R' ⟨φ, B, k, a, b, c, d⟩ i => ⟨φ, B, k, a, b, c, fun ds B' H' J x y z => i _ _ (d ds B' H' J x y z)⟩) (fun v σ H K K' ⟨φ, B, d, k, a, b, c, e, f⟩ i => ⟨φ, B, d, k, a, b, c, e, fun c σ' x y z => i _ _ (f c σ' x y z)⟩) (fun σ H Q Q' ⟨c, h⟩ i => ⟨c, rd_mono _ _ _ _ h i⟩) (fun k ys y H h => cb_all h) (gen_any (b := false) hP rfl G.his h)
/-- tuple(y for d in ds if t) -/
theorem gen_tup {g' : Cw} {vs : List Nat} {Q : VK} (hP : g.P ∈ μ.Ps) (hWW : g'.W = g.W) (his : ∀ i ∈ is, i ∈ vs) (h : rd μ g ρ (RX μ) (bnd mi fun ds => bnd (compF mb mt me ds) fun ys => ret (.tuple ys)) σ H Q) :
    tTupG g.P (μ.qs g.P) (rdI μ g ρ true mi) (rdG μ g' (wipeE ρ vs) is out mb) (fun σ H Q => ∃ c, rd μ g' (out c) RT (mt c) σ H Q) (fun σ H Q => ∃ c, rd μ g' (out c) (RX μ) (me c) σ H Q) vs σ H Q := by
  obtain ⟨φ, B, k, hW, F, hm, hQ⟩ := h
  refine ⟨φ, B, _, hW, F, Mir.wp_bnd hm, fun ds B1 H1 J hk s1 it => ⟨s1.tabs _ hP, fun H2 ht => ?_⟩⟩
  obtain ⟨es, hes, hk0⟩ := Mir.wp_lift (Mir.wp_bnd (Mir.wp_bnd hk))
  clear hk
  obtain ⟨rfl, hz⟩ := dSz_some hes
  have s2 := s1.tbd hP ht
  have hW' : g'.W φ.ω := by rw [hWW]; exact hW
  refine ⟨fun i m ys H' => m + i = es.length ∧ ∃ B' acc, Stp μ φ.ω B1 H1 B' H' ∧ DpAll μ.K B' ys acc ∧ acc.length ≤ i ∧ ∃ kk : List D → Prop, Mir.wp (mapF (stepF mb mt me) (es.drop i)) kk ∧ ∀ r, kk r → k (.tuple (acc ++ r)), ⟨es.length, by simp, B1, [], ?_, .nil, Nat.le_refl _, _, by simpa using hk0, fun r h => Mir.wp_ret h⟩, ?_⟩
  · exact Stp.tbd (F.go s1).refl hP ht
  rintro i m ys H' ⟨hm', B', acc, s3, hda, hal, kk, hw, hkk⟩
  have F3 := (F.go s1).go s3
  obtain ⟨it1, it2⟩ := it B' H' s3.sub F3.refl (fun _ a o h nt nw => s3.ext a o h nt nw) i
  by_cases hlt : i < es.length
  · refine .inr ?_
    obtain ⟨hgo, hy⟩ := it1 _ (List.getElem?_eq_getElem hlt)
    refine ⟨hgo, fun x H5 hyld => ?_⟩
    obtain ⟨B5, s5, hd5⟩ := hy x H5 hyld
    rw [List.drop_eq_getElem_cons hlt] at hw
    have hw := Mir.wp_bnd hw
    have hw := Mir.wp_bnd hw
    refine ⟨φ, B5, _, _, hW', (F3.go s5).wipe _, hd5, hw, fun c σ2 hk2 Fc hwp => ⟨?_, ?_⟩⟩
    · rw [hwp _ his]
      exact wipe_wipe _ _
    have hk2 := Mir.wp_bnd hk2
    refine ⟨c, φ, B5, _, hW', Fc, hk2, fun t b' B6 H6 hk6 s6 et => ?_⟩
    subst et
    have s56 := s5.trans s6
    cases b' with
    | true =>
      simp only [if_true] at hk6 ⊢
      refine ⟨c, φ, B6, _, hW', Fc.go s6, Mir.wp_bnd hk6, fun y w B7 H7 hk7 s7 hw7 => ?_⟩
      have hk9 := wp_rb hk7
      have hk8 := Mir.wp_bnd hk9
      have s57 := s56.trans s7
      refine ⟨?_, m - 1, by omega, by omega, B7, acc ++ [y], s3.trans s57, dpAll_app (DpAll.mono s57.sub hda) (.cons hw7 .nil), by simp; omega, _, hk8, fun r hr => by rw [List.append_assoc]; exact hkk _ (Mir.wp_ret hr)⟩
      rw [dpAll_len hda]; omega
    | false =>
      simp only [Bool.false_eq_true, if_false] at hk6 ⊢
      have hk9 := wp_rb hk6
      have hk8 := Mir.wp_bnd hk9
      exact ⟨m - 1, by omega, by omega, B6, acc, s3.trans s56, DpAll.mono s56.sub hda, by omega, _, hk8, fun r hr => hkk _ (Mir.wp_ret hr)⟩
  · refine .inl ⟨it2 (by omega), ?_⟩
    rw [List.drop_eq_nil_of_le (by omega)] at hw
    have hw := hkk _ (Mir.wp_ret hw)
    rw [List.append_nil] at hw
    refine ⟨by rw [dpAll_len hda]; omega, fun q hq => ?_⟩
    obtain ⟨s4, h4⟩ := F3.tupl hq hda
    exact hQ _ _ _ _ hw (s1.trans (s3.trans s4)) h4
theorem EX.tupG (hg : g.scope.names.lookup ("tuple" : Str) = some .globalImplicit) (hm : μ.mg "tuple" = none) {k : Nat} (G : GenP μ g ρ k tg iter ifs elt scope own gpos mi is out mb mt me)
    (he : ∀ env, starEach [.GeneratorExp elt [⟨tg, iter, ifs, 0⟩] scope gpos] env = (false, eval (.GeneratorExp elt [⟨tg, iter, ifs, 0⟩] scope gpos) env) :: starEach [] env := by intro _; rfl) :
    EX μ g ρ (.Call (.Name "tuple" p) [.GeneratorExp elt [⟨tg, iter, ifs, 0⟩] scope gpos] [] pos) (bnd mi fun ds => bnd (compF mb mt me ds) fun ys => ret (.tuple ys)) := fun X hX => by
  obtain ⟨hq, hcode, hTB, hP⟩ := hX.code G.hc
  exact (pe_tupG (k := k) (by rw [← G.hk]; exact hX.room) (hX.gl hg) (by rw [hX.mg]; exact hm) hX.calm (by rw [hq]; exact G.q) (by rw [hX.N]; exact hX.nd) (by rw [hX.base, hX.mg]; exact hTB) hcode (by rw [hX.N, hX.scope]; exact G.ok) G.co G.h0 (G.hi X hX) (G.hs _)
    (fun s H cd fp A' pn hr => G.hg _ (hX.gen s H scope cd fp A' pn hr)) (fun s H cd fp A' pn hr => PTs.ex fun c => G.ht c _ (hX.gen s H scope cd fp A' pn hr)) (fun s H cd fp A' pn hr => PE.ex fun c => G.he c _ (hX.gen s H scope cd fp A' pn hr)) (he _)).imp fun σ H Q h => gen_tup hP rfl G.his h
end
end PL
end pl6_
section pl7_
set_option maxRecDepth 100000
set_option maxHeartbeats 2000000
/-! calls of defs, statements -/
namespace PL
open PySem PySem.Spec PyProof.Rows L2 GxR GenW LamX GX
open Mir (ret bnd lift)

/-! ### what a def promises -/
inductive ArgOk (μ : Md) (ω : Wld) (B : Hp) : List Bool → List V → List D → Prop
  | nil : ArgOk μ ω B [] [] []
  | wrd {ws vs ds} : ArgOk μ ω B ws vs ds → ArgOk μ ω B (true :: ws) (ω.val :: vs) ds
  | dat {ws v vs d ds} : Dp μ.K B v d → ArgOk μ ω B ws vs ds → ArgOk μ ω B (false :: ws) (v :: vs) (d :: ds)
section
variable {M : Type → Type} [Mir M]
variable {μ : Md} {g : Cw} {ρ : Env} {ω : Wld} {B H : Hp} {v u : V} {d : D} {φ : Fm} {σ : L2.St}
theorem ArgOk.mono {B' : Hp} (k : ∀ a o, B a = some o → B' a = some o) : ∀ {ws vs ds}, ArgOk μ ω B ws vs ds → ArgOk μ ω B' ws vs ds
  | _, _, _, .nil => .nil
  | _, _, _, .wrd h => .wrd (h.mono k)
  | _, _, _, .dat h t => .dat (Dp.mono k h) (t.mono k)
theorem ArgOk.len : ∀ {ws vs ds}, ArgOk μ ω B ws vs ds → vs.length = ws.length
  | _, _, _, .nil => rfl
  | _, _, _, .wrd h => by simp [h.len]
  | _, _, _, .dat _ t => by simp [t.len]
theorem ArgOk.lenD : ∀ {ws vs ds}, ArgOk μ ω B ws vs ds → ds.length = (ws.filter fun b => !b).length
  | _, _, _, .nil => rfl
  | _, _, _, .wrd h => by simp [h.lenD]
  | _, _, _, .dat _ t => by simp [t.lenD]
theorem ArgOk.of : ∀ {vs : List V} {ds : List D}, DpAll μ.K B vs ds → ArgOk μ ω B (List.replicate vs.length false) vs ds
  | _, _, .nil => .nil
  | _, _, .cons h t => .dat h (ArgOk.of t)
theorem ArgOk.other {ω' : Wld} : ∀ {ws vs ds}, ArgOk μ ω B ws vs ds → ws.all (fun b => !b) = true → ArgOk μ ω' B ws vs ds
  | _, _, _, .nil, _ => .nil
  | _, _, _, .wrd _, h => by simp at h
  | _, _, _, .dat h t, hw => .dat h (t.other (by simpa using hw))
def spD (μ : Md) (W : Wld → Prop) (ws : List Bool) (md : List D → M D) : Sp := fun vs H Q _ => ∃ (ω : Wld) (B : Hp) (ds : List D) (k : D → Prop), W ω ∧ Stp μ ω B H B H ∧ (∀ a o, B a = some o → ¬ ω.adr a) ∧ ArgOk μ ω B ws vs ds ∧ Mir.wp (md ds) k ∧
  ∀ v d B' H', k d → Stp μ ω B H B' H' → Dp μ.K B' v d → Q v H'
/-- a def that stands -/
def Fn (μ : Md) (W : Wld → Prop) (ws : List Bool) (k : Nat) (x : Str) (md : List D → M D) : Prop :=
  ∃ f fd ps, FnOk μ.prog μ.w μ.K μ.mg μ.base CX0 k f fd ps (spD μ W ws md) ∧ μ.mg x = some (.ref f) ∧ PySem.W.keepIn μ.K (.ref f) = true ∧ Binds μ.K fd ps []
abbrev NoW : Wld → Prop := fun ω => ω = Wld.no
/-- a def that knows no pool may be called beside any -/
theorem Stp.ofNo {B' H' : Hp} (b : Stp μ ω B H B H) (na : ∀ a o, B a = some o → ¬ ω.adr a) (s : Stp μ Wld.no B H B' H') : Stp μ ω B H B' H' :=
  ⟨s.sub, s.new, fun a o h n _ => s.ext a o h n (fun z => z), s.has, s.tabs, ω.keep _ _ b.wok fun a ha => by
    obtain ⟨o, h, n⟩ := ω.has _ a b.wok ha
    rw [h]
    exact s.ext a o h n fun z => z⟩
theorem Fn.up {W : Wld → Prop} {ws : List Bool} {k : Nat} {x : Str} {md : List D → M D} (F : Fn μ NoW ws k x md) (hw : ws.all (fun b => !b) = true) : Fn μ W ws k x md := by
  obtain ⟨f, fd, ps, F, a, b, c⟩ := F
  refine ⟨f, fd, ps, F.imp fun vs H Q E h => ?_, a, b, c⟩
  obtain ⟨ω, B, ds, k, hW, b, na, ha, hm, hQ⟩ := h
  exact ⟨Wld.no, B, ds, k, rfl, ⟨b.sub, b.new, fun _ _ h _ _ => h, b.has, b.tabs, trivial⟩, fun _ _ _ z => z, ha.other hw, hm, fun v d B' H' hk s => hQ v d B' H' hk (Stp.ofNo b na s)⟩
/-- an argument list with the pool -/
def EP (μ : Md) (g : Cw) (ρ : Env) (ws : List Bool) (es : List Expr) (m : M (List D)) : Prop := ∀ X, CxIs μ g X → PA X es (rd μ g ρ (fun ω _ B _ ds vs => ArgOk μ ω B ws vs ds) m)
theorem EP.nil : EP μ g ρ [] [] (ret [] : M (List D)) := fun X hX => pa_nil.imp fun σ H Q ⟨φ, B, k, hW, F, hm, hQ⟩ => hQ _ _ _ _ (Mir.wp_ret hm) F.refl .nil
theorem EP.dat {ws : List Bool} {e : Expr} {es : List Expr} {me : M D} {ms : M (List D)} (he : EX μ g ρ e me) (hs : EP μ g ρ ws es ms) (h1 : ∀ env, starEach (e :: es) env = (false, eval e env) :: starEach es env := by intro _; rfl) :
    EP μ g ρ (false :: ws) (e :: es) (bnd me fun x => bnd ms fun xs => ret (x :: xs)) := fun X hX => (pa_cons (he X hX) (hs X hX) (h1 _)).imp fun σ H Q ⟨φ, B, k, hW, F, hm, hQ⟩ =>
  rd.st hW F hm fun x v B1 H1 hk1 s1 hr1 => rd.st hW (F.go s1) hk1 fun xs vs B2 H2 hk2 s2 hr2 => hQ _ _ _ _ (Mir.wp_ret hk2) (s1.trans s2) (.dat (Dp.mono s2.sub hr1) hr2)
theorem EP.wrd {ws : List Bool} {i : Nat} {x : Str} {p : Pos} {es : List Expr} {ms : M (List D)} (hρ : ρ[i]? = some (some .wrd)) (hN : g.N[i]? = some x) (hv : Vis g.scope x) (hs : EP μ g ρ ws es ms) (h1 : ∀ env, starEach (.Name x p :: es) env = (false, eval (.Name x p) env) :: starEach es env := by intro _; rfl)
    (hd : (x == ("__debug__" : Str)) = false := by decide) (hcd : (x == ("__classdict__" : Str)) = false := by decide) : EP μ g ρ (true :: ws) (.Name x p :: es) ms := fun X hX => (pa_cons (pe_var (i := i) (by rw [hX.N]; exact hN) (hX.vis hv) hd hcd) (hs X hX) (h1 _)).imp fun σ H Q ⟨φ, B, k, hW, F, hm, hQ⟩ => by
  obtain ⟨v, h1, h2⟩ := F.sl i _ hρ
  refine ⟨v, h1, φ, B, k, hW, F, hm, fun xs vs B2 H2 hk2 s2 hr2 => hQ _ _ _ _ hk2 s2 ?_⟩
  rw [show v = φ.ω.val from h2]
  exact .wrd hr2
variable {ws : List Bool} {k : Nat} {x : Str} {e : Expr} {es : List Expr} {ms : M (List D)} {p pos : Pos}
theorem EX.callW {W : Wld → Prop} {md : List D → M D} (F : Fn μ W ws k x md) (hW : ∀ ω, g.W ω → W ω) (hk : k ≤ g.k) (hg : g.scope.names.lookup x = some .globalImplicit) (ha : EP μ g ρ ws (e :: es) ms) (hdb : (x == ("__debug__" : Str)) = false := by decide)
    (he : ∀ env, starEach (e :: es) env = (false, eval e env) :: starEach es env := by intro _; rfl) (hpl : ∀ env, (backTo pos (starEach es env)).any (·.1) = false := by intro _; rfl) : EX μ g ρ (.Call (.Name x p) (e :: es) [] pos) (bnd ms md) := fun X hX => by
  obtain ⟨f, fd, ps, F, a, b, c⟩ := F
  refine (pe_call (sp := spD μ W ws md) (by rw [hX.prog, hX.w, hX.K, hX.mg, hX.base]; exact F) (hX.room.mono hk) (hX.gl hg) (by rw [hX.mg]; exact a) (by rw [hX.K]; exact b) (by rw [hX.K]; exact c) .nil pass0 (ha X hX) hdb (he _) (hpl _)).imp fun σ H Q ⟨φ, B, k, hW', F, hm, hQ⟩ => ?_
  refine rd.st hW' F hm fun ds vs B1 H1 hk1 s1 hr1 => ?_
  rw [List.append_nil]
  exact ⟨φ.ω, B1, ds, k, hW _ hW', (F.go s1).refl, (F.go s1).na, hr1, hk1, fun v d B' H' hk s hd => hQ d v B' H' hk (s1.trans s) hd⟩
theorem EX.callW0 {W : Wld → Prop} {md : List D → M D} (F : Fn μ W [] k x md) (hW : ∀ ω, g.W ω → W ω) (hk : k ≤ g.k) (hg : g.scope.names.lookup x = some .globalImplicit) (hdb : (x == ("__debug__" : Str)) = false := by decide) : EX μ g ρ (.Call (.Name x p) [] [] pos) (md []) := fun X hX => by
  obtain ⟨f, fd, ps, F, a, b, c⟩ := F
  refine (pe_call0 (sp := spD μ W [] md) (by rw [hX.prog, hX.w, hX.K, hX.mg, hX.base]; exact F) (hX.room.mono hk) (hX.gl hg) (by rw [hX.mg]; exact a) (by rw [hX.K]; exact b) (by rw [hX.K]; exact c) .nil pass0 hdb).imp fun σ H Q ⟨φ, B, k, hW', F, hm, hQ⟩ => ?_
  exact ⟨φ.ω, B, [], k, hW _ hW', F.refl, F.na, .nil, hm, fun v d B' H' hk s hd => hQ d v B' H' hk s hd⟩
/-- a def without a pool, its mirror in Option -/
theorem spD_lift {W : Wld → Prop} {md : List D → Option D} {vs : List V} {H : Hp} {Q : VK} {E : XK} (h : spD μ W ws (fun ds => (lift (md ds) : M D)) vs H Q E) : spD μ W ws md vs H Q E := by
  obtain ⟨ω, B, ds, k, hW, b, na, ha, hm, hQ⟩ := h
  exact ⟨ω, B, ds, k, hW, b, na, ha, Mir.wp_lift hm, hQ⟩
theorem Fn.lft {W : Wld → Prop} {md : List D → Option D} (F : Fn μ W ws k x md) : Fn μ W ws k x (fun ds => (lift (md ds) : M D)) := by
  obtain ⟨f, fd, ps, F, a, b, c⟩ := F
  exact ⟨f, fd, ps, F.imp fun vs H Q E h => spD_lift h, a, b, c⟩
theorem EX.call {md : List D → Option D} (F : Fn μ NoW ws k x md) (hw : ws.all (fun b => !b) = true) (hk : k ≤ g.k) (hg : g.scope.names.lookup x = some .globalImplicit) (ha : EP μ g ρ ws (e :: es) ms) (hdb : (x == ("__debug__" : Str)) = false := by decide)
    (he : ∀ env, starEach (e :: es) env = (false, eval e env) :: starEach es env := by intro _; rfl) (hpl : ∀ env, (backTo pos (starEach es env)).any (·.1) = false := by intro _; rfl) : EX μ g ρ (.Call (.Name x p) (e :: es) [] pos) (bnd ms fun ds => lift (md ds)) :=
  EX.callW (F.lft.up (W := g.W) hw) (fun _ h => h) hk hg ha hdb he hpl
theorem EX.call0 {md : List D → Option D} (F : Fn μ NoW [] k x md) (hk : k ≤ g.k) (hg : g.scope.names.lookup x = some .globalImplicit) (hdb : (x == ("__debug__" : Str)) = false := by decide) : EX μ g ρ (.Call (.Name x p) [] [] pos) (lift (md []) : M D) :=
  EX.callW0 (F.lft.up (W := g.W) rfl) (fun _ h => h) hk hg hdb

/-! ### statements -/
end
inductive Fl (γ β : Type) where
  | nx (b : β) | rt (d : D) | rl (ds : List D) | bk (c : γ) | ct (c : γ)
section
variable {M : Type → Type} [Mir M]
variable {μ : Md} {g : Cw} {ρ : Env} {ω : Wld} {B H : Hp} {v u : V} {d : D} {φ : Fm} {σ : L2.St} {γ β δ : Type}
/-- what is to be shown of a statement list's ends -/
structure Hn (μ : Md) (φ : Fm) (oL : γ → Env) (out : Option (β → Env)) (B : Hp) (k : Fl γ β → Prop) (Dn : Ends) : Prop where
  nx : ∀ o, out = some o → ∀ b B' σ' H', k (.nx b) → Fr μ φ B' (o b) σ' H' → (∀ a u, B a = some u → B' a = some u) → Dn.nx σ' H'
  rt : ∀ v d B' H', k (.rt d) → Stp μ φ.ω φ.B0 φ.H0 B' H' → Dp μ.K B' v d → Dn.rt v H'
  rl : ∀ a vs ds B' H', k (.rl ds) → Stp μ φ.ω φ.B0 φ.H0 B' H' → H' a = some (.lst vs) → φ.H0 a = none → B' a = none → ¬ φ.ω.adr a → DpAll μ.K B' vs ds → Dn.rt (.ref a) H'
  bk : ∀ c B' σ' H', k (.bk c) → Fr μ φ B' (oL c) σ' H' → (∀ a u, B a = some u → B' a = some u) → Dn.bk σ' H'
  ct : ∀ c B' σ' H', k (.ct c) → Fr μ φ B' (oL c) σ' H' → (∀ a u, B a = some u → B' a = some u) → Dn.ct σ' H'
theorem Hn.up {oL : γ → Env} {out : Option (β → Env)} {B1 : Hp} {k : Fl γ β → Prop} {Dn : Ends} (h : Hn μ φ oL out B k Dn) (s : ∀ a u, B a = some u → B1 a = some u) : Hn μ φ oL out B1 k Dn :=
  ⟨fun o e b B' σ' H' hk F s' => h.nx o e b B' σ' H' hk F fun a u q => s' a u (s a u q), h.rt, h.rl, fun c B' σ' H' hk F s' => h.bk c B' σ' H' hk F fun a u q => s' a u (s a u q), fun c B' σ' H' hk F s' => h.ct c B' σ' H' hk F fun a u q => s' a u (s a u q)⟩
def tSt (μ : Md) (g : Cw) (ρ : Env) (oL : γ → Env) (out : Option (β → Env)) (m : M (Fl γ β)) : TS := fun Dn σ H => ∃ (φ : Fm) (B : Hp) (k : Fl γ β → Prop), g.W φ.ω ∧ Fr μ φ B ρ σ H ∧ Mir.wp m k ∧ Hn μ φ oL out B k Dn
def SS (μ : Md) (g : Cw) (ρ : Env) (oL : γ → Env) (out : Option (β → Env)) (sts : List Stmt) (m : M (Fl γ β)) : Prop := ∀ X, CxIs μ g X → PSs X sts (tSt μ g ρ oL out m)
theorem _root_.L2.PSs.ex {X : Cx} {e : List Stmt} {γ : Type} {t : γ → TS} (h : ∀ c, PSs X e (t c)) : PSs X e fun Dn σ H => ∃ c, t c Dn σ H := ⟨fun pins s σ H Q I ⟨c, q⟩ => (h c).run pins s σ H Q I q⟩
/-- a known of b is one of a -/
def Cov : Env → Env → Prop
  | [], [] => True
  | none :: a, _ :: b => Cov a b
  | some s :: a, t :: b => t = some s ∧ Cov a b
  | _, _ => False
theorem Cov.len : ∀ {a b : Env}, Cov a b → b.length = a.length
  | [], [], _ => rfl
  | none :: a, _ :: b, h => by simp [Cov.len (a := a) (b := b) h]
  | some s :: a, t :: b, h => by simp [Cov.len (a := a) (b := b) h.2]
  | [], _ :: _, h => h.elim
  | none :: _, [], h => h.elim
  | some _ :: _, [], h => h.elim
theorem Cov.at : ∀ {a b : Env}, Cov a b → ∀ {i : Nat} {s : Sl}, a[i]? = some (some s) → b[i]? = some (some s)
  | none :: a, _ :: b, h, i + 1, s, e => by simpa using Cov.at (a := a) (b := b) h (by simpa using e)
  | some s' :: a, t :: b, h, 0, s, e => by
    simp at e
    subst e
    simp [h.1]
  | some s' :: a, t :: b, h, i + 1, s, e => by simpa using Cov.at (a := a) (b := b) h.2 (by simpa using e)
  | [], _, _, i, s, e => by simp at e
  | none :: _, _ :: _, _, 0, s, e => by simp at e
  | none :: _, [], h, _, _, _ => h.elim
  | some _ :: _, [], h, _, _, _ => h.elim
theorem Fr.cov {ρ' : Env} (F : Fr μ φ B ρ σ H) (c : Cov ρ' ρ) : Fr μ φ B ρ' σ H := ⟨F.stp, F.na, by rw [F.len, c.len], fun i s e => F.sl i s (c.at e), fun i j ds es v e1 e2 => F.ap i j ds es v (c.at e1) (c.at e2)⟩
variable {oL : γ → Env} {out : Option (β → Env)} {rest sts : List Stmt} {e : Expr} {me : M D} {pos p : Pos} {i : Nat} {x : Str}
theorem SS.nil {o : β → Env} {b : β} (c : Cov (o b) ρ) : SS μ g ρ oL (some o) [] (ret (.nx b) : M (Fl γ β)) := fun X hX => pss_nil.imp fun Dn σ H ⟨φ, B, k, hW, F, hm, hn⟩ => hn.nx _ rfl b B σ H (Mir.wp_ret hm) (F.cov c) fun _ _ h => h
theorem SS.cov {ρ' : Env} {m : M (Fl γ β)} (h : SS μ g ρ' oL out sts m) (c : Cov ρ' ρ) : SS μ g ρ oL out sts m := fun X hX => (h X hX).imp fun Dn σ H ⟨φ, B, k, hW, F, hm, hn⟩ => ⟨φ, B, k, hW, F.cov c, hm, hn⟩
/-- own to frozen -/
theorem SS.frz {ds : List D} {m : M (Fl γ β)} (hρ : ρ[i]? = some (some (.own ds))) (h : SS μ g (ρ.set i (some (.dat (.list ds)))) oL out sts m) : SS μ g ρ oL out sts m := fun X hX => (h X hX).imp fun Dn σ H ⟨φ, B, k, hW, F, hm, hn⟩ => by
  obtain ⟨v, h1, a, vs, ev, ha, hb, h0, hna, hd⟩ := F.sl i _ hρ
  have sub : ∀ b o, B b = some o → upd B a (.lst vs) b = some o := sub_upd hb
  have hlt := (List.getElem?_eq_some_iff.mp hρ).1
  refine ⟨φ, upd B a (.lst vs), k, hW, ⟨⟨fun b o h => sub b o (F.stp.sub b o h), fun b o h => ?_, F.stp.ext, F.stp.has, F.stp.tabs, F.stp.wok⟩, fun b o h => ?_, by rw [List.length_set]; exact F.len, fun j s e => ?_, fun j l ds1 es1 w e1 e2 e3 e4 => ?_⟩, hm, hn.up sub⟩
  · by_cases hba : b = a
    · subst hba
      rw [upd_same] at h
      cases h
      exact ⟨ha, nt_lst, .inr h0⟩
    · rw [upd_ne hba] at h
      exact F.stp.new b o h
  · by_cases hba : b = a
    · subst hba; exact hna
    · rw [upd_ne hba] at h
      exact F.na b o h
  · by_cases hj : i = j
    · subst hj
      rw [List.getElem?_set_self hlt] at e
      cases e
      refine ⟨v, h1, ?_⟩
      show Dp μ.K _ v _
      rw [ev]
      exact .lst (SqL.of upd_same) (DpAll.mono sub hd)
    · rw [List.getElem?_set_ne hj] at e
      obtain ⟨w, h2, h3⟩ := F.sl j s e
      refine ⟨w, h2, ?_⟩
      cases s with
      | dat d => exact Dp.mono sub h3
      | own es =>
        obtain ⟨a', vs', ev', ha', hb', h0', hna', hd'⟩ := h3
        refine ⟨a', vs', ev', ha', ?_, h0', hna', DpAll.mono sub hd'⟩
        rw [upd_ne]
        · exact hb'
        · intro z
          subst z
          exact hj (F.ap i j ds es v hρ e h1 (by rw [h2, ev', ev]))
      | wrd => exact h3
  · have nj : ∀ {j : Nat} {ds' : List D}, (ρ.set i (some (.dat (.list ds))))[j]? = some (some (.own ds')) → i ≠ j := fun {j ds'} e z => by
      subst z
      rw [List.getElem?_set_self hlt] at e
      cases e
    have n1 := nj e1
    have n2 := nj e2
    rw [List.getElem?_set_ne n1] at e1
    rw [List.getElem?_set_ne n2] at e2
    exact F.ap j l _ _ w e1 e2 e3 e4
theorem Fr.setOwn (F : Fr μ φ B ρ σ H) {a : Addr} {vs : List V} {ds : List D} (ha : H a = some (.lst vs)) (hb : B a = none) (h0 : φ.H0 a = none) (hna : ¬ φ.ω.adr a) (hd : DpAll μ.K B vs ds) (hf : ∀ (j : Nat) (es : List D), ρ[j]? = some (some (Sl.own es)) → i ≠ j → σ[j]? ≠ some (some (V.ref a))) :
    Fr μ φ B (ρ.set i (some (.own ds))) (σ.set i (some (.ref a))) H where
  stp := F.stp
  na := F.na
  len := by rw [List.length_set, List.length_set]; exact F.len
  sl := fun j s e => by
    by_cases hj : i = j
    · subst hj
      have hlt : i < (ρ.set i (some (.own ds))).length := (List.getElem?_eq_some_iff.mp e).1
      rw [List.length_set] at hlt
      rw [List.getElem?_set_self hlt] at e
      cases e
      exact ⟨.ref a, List.getElem?_set_self (by rw [F.len]; exact hlt), a, vs, rfl, ha, hb, h0, hna, hd⟩
    · rw [List.getElem?_set_ne hj] at e ⊢
      exact F.sl j s e
  ap := fun j k es fs w e1 e2 e3 e4 => by
    have hlt : i = j ∨ i = k → i < ρ.length := fun z => by
      rcases z with z | z
      · subst z
        have := (List.getElem?_eq_some_iff.mp e1).1
        rwa [List.length_set] at this
      · subst z
        have := (List.getElem?_eq_some_iff.mp e2).1
        rwa [List.length_set] at this
    by_cases h1 : i = j
    · by_cases h2 : i = k
      · exact h1.symm.trans h2
      · subst h1
        rw [List.getElem?_set_self (by rw [F.len]; exact hlt (.inl rfl))] at e3
        rw [List.getElem?_set_ne h2] at e2 e4
        cases e3
        exact absurd e4 (hf k _ e2 h2)
    · by_cases h2 : i = k
      · subst h2
        rw [List.getElem?_set_self (by rw [F.len]; exact hlt (.inr rfl))] at e4
        rw [List.getElem?_set_ne h1] at e1 e3
        cases e4
        exact absurd e3 (hf j _ e1 h1)
      · rw [List.getElem?_set_ne h1] at e1 e3
        rw [List.getElem?_set_ne h2] at e2 e4
        exact F.ap j k _ _ w e1 e2 e3 e4
/-- no list of one's own stands at a fresh address -/
theorem Fr.noOwn (F : Fr μ φ B ρ σ H) {a : Addr} (hn : H a = none) : ∀ (j : Nat) (es : List D), ρ[j]? = some (some (Sl.own es)) → σ[j]? ≠ some (some (V.ref a)) := fun j es e z => by
  obtain ⟨v, h1, a', vs, ev, ha, _⟩ := F.sl j _ e
  rw [z] at h1
  cases h1
  cases ev
  rw [hn] at ha; cases ha
/-- the tail of a statement list -/
theorem tail_of {m : M (Fl γ β)} {B1 : Hp} {k : Fl γ β → Prop} {Dn : Ends} (hn : Hn μ φ oL out B k Dn) (s : ∀ a u, B a = some u → B1 a = some u) (hW : g.W φ.ω) (F : Fr μ φ B1 ρ σ H) (hm : Mir.wp m k) : tSt μ g ρ oL out m Dn σ H := ⟨φ, B1, k, hW, F, hm, hn.up s⟩
/-- name = e -/
theorem SS.asg {mr : D → M (Fl γ β)} (he : EX μ g ρ e me) (hN : g.N[i]? = some x) (hv : Loc g.scope x) (hf : g.ow x = true ∨ g.scope.names.lookup x = some .local) (hr : ∀ d, SS μ g (ρ.set i (some (.dat d))) oL out rest (mr d)) (hs : ∀ env, swapsWith e (some (.Name x p)) pos.line env = pure false := by intro _; rfl) :
    SS μ g ρ oL out (.Assign [.Name x p] e pos :: rest) (bnd me mr) := fun X hX => (pss_cons (ps_set (i := i) (by rw [hX.N]; exact hX.nd) (by rw [hX.N]; exact hN) (hX.loc hv) (he X hX) (hs _) (hX.fnl hf)) (PSs.ex fun d => hr d X hX)).imp fun Dn σ H ⟨φ, B, k, hW, F, hm, hn⟩ =>
  rd.st hW F hm fun d v B1 H1 hk s1 hd => ⟨d, tail_of hn s1.sub hW ((F.go s1).set hd) hk⟩
theorem SS.asgL {me : M (List D)} {mr : List D → M (Fl γ β)} (he : EL μ g ρ e me) (hN : g.N[i]? = some x) (hv : Loc g.scope x) (hf : g.ow x = true ∨ g.scope.names.lookup x = some .local) (hr : ∀ ds, SS μ g (ρ.set i (some (.own ds))) oL out rest (mr ds)) (hs : ∀ env, swapsWith e (some (.Name x p)) pos.line env = pure false := by intro _; rfl) :
    SS μ g ρ oL out (.Assign [.Name x p] e pos :: rest) (bnd me mr) := fun X hX => (pss_cons (ps_set (i := i) (by rw [hX.N]; exact hX.nd) (by rw [hX.N]; exact hN) (hX.loc hv) (he X hX) (hs _) (hX.fnl hf)) (PSs.ex fun d => hr d X hX)).imp fun Dn σ H ⟨φ, B, k, hW, F, hm, hn⟩ =>
  rd.st hW F hm fun ds v B1 H1 hk s1 ⟨a, vs, ev, ha, hn0, hb, hna, hd⟩ => by
    subst ev
    refine ⟨ds, tail_of hn s1.sub hW ((F.go s1).setOwn ha hb (F.stp.has _ hn0) hna hd fun j es e _ => F.noOwn hn0 j es e) hk⟩
/-- target = e -/
theorem SS.asgT {tg : Expr} {γ' : Type} {is : List Nat} {o : γ' → Env} {mb : D → M γ'} {mr : γ' → M (Fl γ β)} (he : EX μ g ρ e me) (ht : EG μ g ρ tg is o mb) (hr : ∀ c, SS μ g (o c) oL out rest (mr c))
    (hs : ∀ env, swapsWithSole [tg] e pos.line env = pure false := by intro _; rfl) (hw : ∀ env, swappedStores [tg] e env = pure none := by intro _; rfl) (h1 : ∀ env, (assignEach [tg] env).map (·.2) = [assign tg env] := by intro _; rfl) :
    SS μ g ρ oL out (.Assign [tg] e pos :: rest) (bnd me fun d => bnd (mb d) mr) := fun X hX => (pss_cons (ps_asg (he X hX) (ht X hX) (hs _) (hw _) (h1 _)) (PSs.ex fun d => hr d X hX)).imp fun Dn σ H ⟨φ, B, k, hW, F, hm, hn⟩ =>
  rd.st hW F hm fun d v B1 H1 hk s1 hd => ⟨φ, B1, d, _, hW, F.go s1, hd, Mir.wp_bnd hk, fun c σ' hk2 F2 _ => ⟨c, tail_of hn s1.sub hW F2 hk2⟩⟩
/-- name = [.. for ..], on one line -/
theorem SS.asgC {elt tg iter : Expr} {ifs : List Expr} {scope : Scope} {own : List (Str × Nat)} {γ' : Type} {is : List Nat} {o : γ' → Env} {mi : M (List D)} {mb : D → M γ'} {mt : γ' → M Bool} {me : γ' → M D} {cpos : Pos} {mr : List D → M (Fl γ β)}
    (ok : BlkOk g.N g.scope scope own) (hi : EI μ g ρ true tg iter mi) (hg : EG μ (g.blk scope) (wipeE ρ (own.map (·.2))) tg is o mb) (his : ∀ i ∈ is, i ∈ own.map (·.2)) (ht : ∀ c, ETs μ (g.blk scope) (o c) ifs (mt c)) (he : ∀ c, EX μ (g.blk scope) (o c) elt (me c))
    (hN : g.N[i]? = some x) (hx : g.scope.names.lookup x = some .local) (hk : g.scope.kind = .function) (hl : (p.line == cpos.line) = true) (ha : (scope.names.any fun (n, k) => n == x && (k == .local || k == .cell)) = false) (hr : ∀ ds, SS μ g (ρ.set i (some (.own ds))) oL out rest (mr ds))
    (hs : ∀ env x, foldedSetIterable iter env x = pure x := by intro _ _; rfl) :
    SS μ g ρ oL out (.Assign [.Name x p] (.ListComp elt [⟨tg, iter, ifs, 0⟩] scope cpos) pos :: rest) (bnd (bnd mi (compF mb mt me)) mr) := fun X hX => by
  have hxl : X.env.scope.names.lookup x = some .local := by rw [hX.scope]; exact hx
  refine (pss_cons (ps_setLc (i := i) hX.calm (by rw [hX.N]; exact hX.nd) (by rw [hX.N]; exact hN) hxl (sw_true (by rw [hX.scope]; exact hk) hxl hl ha) (hi X hX) (by rw [hX.N, hX.scope]; exact ok) (fun s H C cl fp => hg _ (hX.blk s H scope C cl fp)) (fun s H C cl fp => PTs.ex fun c => ht c _ (hX.blk s H scope C cl fp)) (fun s H C cl fp => PE.ex fun c => he c _ (hX.blk s H scope C cl fp)) (hs _)) (PSs.ex fun d => hr d X hX)).imp fun Dn σ H ⟨φ, B, k, hW, F, hm, hn⟩ => ?_
  unfold tSeq tAsg gName
  refine comp_rd (g := g) (ρ := ρ) (out := o) (scope := scope) (own := own) (is := is) (mi := mi) (mb := mb) (mt := mt) (me := me) hX.K his ?_
  refine rd.st hW F hm fun ds v B1 H1 hk s1 ⟨a, vs, ev, ha, hn0, hb, hna, hd⟩ => ?_
  subst ev
  exact ⟨ds, tail_of hn s1.sub hW ((F.go s1).setOwn ha hb (F.stp.has _ hn0) hna hd fun j es e _ => F.noOwn hn0 j es e) hk⟩
end
end PL
end pl7_
section pl8_
set_option maxRecDepth 100000
set_option maxHeartbeats 2000000
/-! statements -/
namespace PL
open PySem PySem.Spec PyProof.Rows L2 GxR GenW LamX GX
open Mir (ret bnd lift)
section
variable {M : Type → Type} [Mir M]
variable {μ : Md} {g : Cw} {ρ : Env} {ω : Wld} {B H : Hp} {v u : V} {d : D} {φ : Fm} {σ : L2.St} {γ β δ : Type}
variable {oL : γ → Env} {out : Option (β → Env)} {rest sts a b : List Stmt} {e c : Expr} {me : M D} {mc : M Bool} {pos p : Pos} {i : Nat} {x : Str}

theorem SS.retE (he : EX μ g ρ e me) : SS μ g ρ oL out (.Return (some e) pos :: rest) (bnd me fun d => ret (.rt d) : M (Fl γ β)) := fun X hX => (pss_cons (ps_ret (he X hX)) pss_never).imp fun Dn σ H ⟨φ, B, k, hW, F, hm, hn⟩ =>
  rd.st hW F hm fun d v B1 H1 hk s1 hd => hn.rt v d B1 H1 (Mir.wp_ret hk) (F.stp.trans s1) hd
/-- a list of one's own is handed out, a fresh list too -/
theorem SS.retL {me : M (List D)} (he : EL μ g ρ e me) : SS μ g ρ oL out (.Return (some e) pos :: rest) (bnd me fun ds => ret (.rl ds) : M (Fl γ β)) := fun X hX => (pss_cons (ps_ret (he X hX)) pss_never).imp fun Dn σ H ⟨φ, B, k, hW, F, hm, hn⟩ =>
  rd.st hW F hm fun ds v B1 H1 hk s1 ⟨a, vs, ev, ha, hn0, hb, na, hd⟩ => by
    subst ev
    exact hn.rl a vs ds B1 H1 (Mir.wp_ret hk) (F.stp.trans s1) ha (F.stp.has _ hn0) hb na hd
theorem SS.retO {ds : List D} (hρ : ρ[i]? = some (some (.own ds))) (hN : g.N[i]? = some x) (hv : Vis g.scope x) (hd : (x == ("__debug__" : Str)) = false := by decide) (hcd : (x == ("__classdict__" : Str)) = false := by decide) : SS μ g ρ oL out (.Return (some (.Name x p)) pos :: rest) (ret (.rl ds) : M (Fl γ β)) := fun X hX =>
  (pss_cons (ps_ret (pe_var (i := i) (by rw [hX.N]; exact hN) (hX.vis hv) hd hcd)) pss_never).imp fun Dn σ H ⟨φ, B, k, hW, F, hm, hn⟩ => by
    obtain ⟨v, h1, a, vs, ev, ha, hb, h0, hna, hda⟩ := F.sl i _ hρ
    subst ev
    exact ⟨_, h1, hn.rl a vs ds B H (Mir.wp_ret hm) F.stp ha h0 hb hna hda⟩
theorem SS.retN : SS μ g ρ oL out (.Return none pos :: rest) (ret (.rt .none) : M (Fl γ β)) := fun X hX => (pss_cons ps_retN pss_never).imp fun Dn σ H ⟨φ, B, k, hW, F, hm, hn⟩ => hn.rt _ _ B H (Mir.wp_ret hm) F.stp .non
theorem SS.brk {cc : γ} (hc : Cov (oL cc) ρ) : SS μ g ρ oL out (.Break pos :: rest) (ret (.bk cc) : M (Fl γ β)) := fun X hX => (pss_cons ps_break pss_never).imp fun Dn σ H ⟨φ, B, k, hW, F, hm, hn⟩ => hn.bk cc B σ H (Mir.wp_ret hm) (F.cov hc) fun _ _ h => h
theorem SS.cnt {cc : γ} (hc : Cov (oL cc) ρ) : SS μ g ρ oL out (.Continue pos :: rest) (ret (.ct cc) : M (Fl γ β)) := fun X hX => (pss_cons ps_continue pss_never).imp fun Dn σ H ⟨φ, B, k, hW, F, hm, hn⟩ => hn.ct cc B σ H (Mir.wp_ret hm) (F.cov hc) fun _ _ h => h
theorem SS.pass {m : M (Fl γ β)} (h : SS μ g ρ oL out rest m) : SS μ g ρ oL out (.Pass pos :: rest) m := fun X hX => (pss_cons ps_pass (h X hX)).imp fun Dn σ H q => q
theorem SS.doc {y : Str} {j p1} {m : M (Fl γ β)} (h : SS μ g ρ oL out rest m) : SS μ g ρ oL out (.Expr (.Constant (.str y) j p1) pos :: rest) m := fun X hX => (pss_cons ps_doc (h X hX)).imp fun Dn σ H q => q
/-- if c: .. (which never goes on) -/
theorem SS.ifR {ma mr : M (Fl γ β)} (hc : ET μ g ρ c mc) (ha : SS μ g ρ oL (none : Option (β → Env)) a ma) (hr : SS μ g ρ oL out rest mr) : SS μ g ρ oL out (.If c a [] pos :: rest) (bnd mc fun t => if t then ma else mr) := fun X hX =>
  (pss_cons (ps_if (hc X hX) (ha X hX) pss_nil) (hr X hX)).imp fun Dn σ H ⟨φ, B, k, hW, F, hm, hn⟩ => rd.st hW F hm fun t t' B1 H1 hk s1 et => by
    subst et
    cases t' with
    | true =>
      simp only [if_true] at hk ⊢
      exact ⟨φ, B1, k, hW, F.go s1, hk, ⟨(fun o z => nomatch z), hn.rt, hn.rl, (hn.up s1.sub).bk, (hn.up s1.sub).ct⟩⟩
    | false =>
      simp only [Bool.false_eq_true, if_false] at hk ⊢
      exact tail_of hn s1.sub hW (F.go s1) hk
/-- if c: .. else: .. at the end -/
theorem SS.if2 {ma mb : M (Fl γ β)} (hc : ET μ g ρ c mc) (ha : SS μ g ρ oL out a ma) (hb : SS μ g ρ oL out b mb) : SS μ g ρ oL out [.If c a b pos] (bnd mc fun t => if t then ma else mb) := fun X hX =>
  (pss_one (ps_if (hc X hX) (ha X hX) (hb X hX))).imp fun Dn σ H ⟨φ, B, k, hW, F, hm, hn⟩ => rd.st hW F hm fun t t' B1 H1 hk s1 et => by
    subst et
    cases t' with
    | true =>
      simp only [if_true] at hk ⊢
      exact tail_of hn s1.sub hW (F.go s1) hk
    | false =>
      simp only [Bool.false_eq_true, if_false] at hk ⊢
      exact tail_of hn s1.sub hW (F.go s1) hk
theorem _root_.L2.PT.ex {X : Cx} {e : Expr} {γ : Type} {t : γ → TT} (h : ∀ c, PT X e (t c)) : PT X e fun σ H Q => ∃ c, t c σ H Q := ⟨fun pins s σ H Q I ⟨c, q⟩ => (h c).run pins s σ H Q I q⟩
def jn {M : Type → Type} [Mir M] {γ β δ : Type} (mr : δ → M (Fl γ β)) : Fl γ δ → M (Fl γ β)
  | .nx b => mr b
  | .rt d => Mir.ret (.rt d)
  | .rl ds => Mir.ret (.rl ds)
  | .bk c => Mir.ret (.bk c)
  | .ct c => Mir.ret (.ct c)
theorem jn_hn {mr : δ → M (Fl γ β)} {o1 : δ → Env} {k : Fl γ β → Prop} {Dn : Ends} {u : Ends → L2.St → Hp → Prop} (hu : u Dn = fun σ H => ∃ x, tSt μ g (o1 x) oL out (mr x) Dn σ H) (hW : g.W φ.ω) (hn : Hn μ φ oL out B k Dn) :
    Hn μ φ oL (some o1) B (fun r => Mir.wp (jn mr r) k) { Dn with nx := u Dn } := by
  refine ⟨fun o e b B' σ' H' hk F s => ?_, fun v d B' H' hk => hn.rt v d B' H' (Mir.wp_ret hk), fun a vs ds B' H' hk => hn.rl a vs ds B' H' (Mir.wp_ret hk), fun c B' σ' H' hk => hn.bk c B' σ' H' (Mir.wp_ret hk), fun c B' σ' H' hk => hn.ct c B' σ' H' (Mir.wp_ret hk)⟩
  cases e
  show u Dn σ' H'
  rw [hu]
  exact ⟨b, tail_of hn s hW F hk⟩
/-- if c: .. else: .., then the rest -/
theorem SS.ifJ {ma mb : M (Fl γ δ)} {o1 : δ → Env} {mr : δ → M (Fl γ β)} (hc : ET μ g ρ c mc) (ha : SS μ g ρ oL (some o1) a ma) (hb : SS μ g ρ oL (some o1) b mb) (hr : ∀ x, SS μ g (o1 x) oL out rest (mr x)) : SS μ g ρ oL out (.If c a b pos :: rest) (bnd mc fun t => bnd (if t then ma else mb) (jn mr)) := fun X hX =>
  (pss_cons (ps_if (hc X hX) (ha X hX) (hb X hX)) (PSs.ex fun x => hr x X hX)).imp fun Dn σ H ⟨φ, B, k, hW, F, hm, hn⟩ => rd.st hW F hm fun t t' B1 H1 hk s1 et => by
    subst et
    have hk2 := Mir.wp_bnd hk
    cases t' with
    | true =>
      simp only [if_true] at hk2 ⊢
      exact ⟨φ, B1, _, hW, F.go s1, hk2, jn_hn (u := fun Dn σ H => ∃ x, tSt μ g (o1 x) oL out (mr x) Dn σ H) rfl hW (hn.up s1.sub)⟩
    | false =>
      simp only [Bool.false_eq_true, if_false] at hk2 ⊢
      exact ⟨φ, B1, _, hW, F.go s1, hk2, jn_hn (u := fun Dn σ H => ∃ x, tSt μ g (o1 x) oL out (mr x) Dn σ H) rfl hW (hn.up s1.sub)⟩

/-! ### loops -/
def forF {M : Type → Type} [Mir M] {γ β : Type} (f : β → D → M (Fl β β)) : List D → β → M (Fl γ β)
  | [], b => Mir.ret (.nx b)
  | d :: ds, b => Mir.bnd (f b d) fun r => match r with
    | .nx b' => forF f ds b'
    | .ct b' => forF f ds b'
    | .bk b' => Mir.ret (.nx b')
    | .rt d => Mir.ret (.rt d)
    | .rl ds => Mir.ret (.rl ds)
/-- n: how many turns are enough -/
def whileF {M : Type → Type} [Mir M] {γ β : Type} (c : β → M Bool) (f : β → M (Fl β β)) : Nat → β → M (Fl γ β)
  | 0, _ => Mir.lift none
  | n + 1, b => Mir.bnd (c b) fun t => if t then Mir.bnd (f b) fun r => match r with
    | .nx b' => whileF c f n b'
    | .ct b' => whileF c f n b'
    | .bk b' => Mir.ret (.nx b')
    | .rt d => Mir.ret (.rt d)
    | .rl ds => Mir.ret (.rl ds)
    else Mir.ret (.nx b)
theorem SS.for_ {tg iter : Expr} {body : List Stmt} {γ' : Type} {is : List Nat} {o : β → Env} {og : β → γ' → Env} {mi : M (List D)} {mb : D → M γ'} {mbody : β → γ' → M (Fl β β)} {mr : β → M (Fl γ δ)} {outr : Option (δ → Env)} {b0 : β}
    (hi : EI μ g ρ false tg iter mi) (hc : Cov (o b0) ρ) (hg : ∀ b, EG μ g (o b) tg is (og b) mb) (hb : ∀ b c, SS μ g (og b c) o (some o) body (mbody b c)) (hr : ∀ b, SS μ g (o b) oL outr rest (mr b))
    (hs : ∀ env x, foldedSetIterable iter env x = pure x := by intro _ _; rfl) : SS μ g ρ oL outr (.For tg iter body [] pos :: rest) (bnd mi fun ds => bnd (forF (fun b d => bnd (mb d) fun c => mbody b c) ds b0) (jn mr)) := fun X hX => by
  refine (pss_cons (ps_for (by rw [hX.xe]; exact PassesOwn.never) hX.calm (hi X hX) (PG.ex fun b => hg b X hX) (PSs.ex fun bc : β × γ' => hb bc.1 bc.2 X hX) (hs _)) (PSs.ex fun b => hr b X hX)).imp fun Dn σ H ⟨φ, B, k, hW, F, hm, hn⟩ => ?_
  refine ⟨φ, B, _, hW, F, Mir.wp_bnd hm, fun ds B1 H1 J hk s1 it => ?_⟩
  have hk := Mir.wp_bnd hk
  refine ⟨fun n m σ' H' => m + n = ds.length ∧ ∃ b B', Fr μ φ B' (o b) σ' H' ∧ (∀ a o, B1 a = some o → B' a = some o) ∧ ∃ kk : Fl γ β → Prop, Mir.wp (forF (fun b d => bnd (mb d) fun c => mbody b c) (ds.drop n) b) kk ∧ ∀ r, kk r → Mir.wp (jn mr r) k, ⟨ds.length, by simp, b0, B1, (F.go s1).cov hc, fun _ _ h => h, _, by rw [List.drop_zero]; exact hk, fun r h => h⟩, ?_⟩
  rintro n m σ' H' ⟨hmn, b, B', F2, sub, kk, hw, hkk⟩
  obtain ⟨it1, it2⟩ := it B' H' sub F2.refl (fun z => nomatch z) n
  by_cases hlt : n < ds.length
  · refine .inr ?_
    obtain ⟨hgo, hy⟩ := it1 _ (List.getElem?_eq_getElem hlt)
    refine ⟨hgo, fun σ5 H5 => ∃ m', m' < m ∧ (m' + (n + 1) = ds.length ∧ ∃ b B', Fr μ φ B' (o b) σ5 H5 ∧ (∀ a o, B1 a = some o → B' a = some o) ∧ ∃ kk : Fl γ β → Prop, Mir.wp (forF (fun b d => bnd (mb d) fun c => mbody b c) (ds.drop (n + 1)) b) kk ∧ ∀ r, kk r → Mir.wp (jn mr r) k), fun _ _ h => h, fun x H5 hyld => ?_⟩
    obtain ⟨B5, s5, hd5⟩ := hy x H5 hyld
    rw [List.drop_eq_getElem_cons hlt] at hw
    have hw := Mir.wp_bnd (Mir.wp_bnd hw)
    have sub5 : ∀ a u, B1 a = some u → B5 a = some u := fun a u h => s5.sub a u (sub a u h)
    refine ⟨b, φ, B5, _, _, hW, F2.go s5, hd5, hw, fun c σ2 hk2 Fc _ => ⟨(b, c), φ, B5, _, hW, Fc, hk2, ?_, ?_, ?_, ?_, ?_⟩⟩
    · intro o' eo b' B6 σ6 H6 hk6 F6 s6
      cases eo
      exact ⟨m - 1, by omega, by omega, b', B6, F6, fun a o h => s6 a o (sub5 a o h), kk, hk6, hkk⟩
    · intro v d B6 H6 hk6 s6 hd6
      exact hn.rt v d B6 H6 (Mir.wp_ret (hkk _ (Mir.wp_ret hk6))) s6 hd6
    · intro a vs ds B6 H6 hk6
      exact hn.rl a vs ds B6 H6 (Mir.wp_ret (hkk _ (Mir.wp_ret hk6)))
    · intro b' B6 σ6 H6 hk6 F6 s6
      exact ⟨b', tail_of hn (fun a o h => s6 a o (sub5 a o (s1.sub a o h))) hW F6 (hkk _ (Mir.wp_ret hk6))⟩
    · intro b' B6 σ6 H6 hk6 F6 s6
      exact ⟨m - 1, by omega, by omega, b', B6, F6, fun a o h => s6 a o (sub5 a o h), kk, hk6, hkk⟩
  · refine .inl ⟨it2 (by omega), b, ?_⟩
    rw [List.drop_eq_nil_of_le (by omega)] at hw
    exact tail_of hn (fun a o h => sub a o (s1.sub a o h)) hW F2 (hkk _ (Mir.wp_ret hw))
theorem SS.while_ {c : Expr} {body : List Stmt} {o : β → Env} {mc : β → M Bool} {mbody : β → M (Fl β β)} {mr : β → M (Fl γ δ)} {outr : Option (δ → Env)} {b0 : β} (n : Nat)
    (hcov : Cov (o b0) ρ) (hc : ∀ b, ET μ g (o b) c (mc b)) (hb : ∀ b, SS μ g (o b) o (some o) body (mbody b)) (hr : ∀ b, SS μ g (o b) oL outr rest (mr b)) : SS μ g ρ oL outr (.While c body [] pos :: rest) (bnd (whileF mc mbody n b0) (jn mr)) := fun X hX => by
  refine (pss_cons (ps_while (by rw [hX.xe]; exact PassesOwn.never) (PT.ex fun b => hc b X hX) (PSs.ex fun b => hb b X hX)) (PSs.ex fun b => hr b X hX)).imp fun Dn σ H ⟨φ, B, k, hW, F, hm, hn⟩ => ?_
  refine ⟨fun m σ' H' => ∃ b B', Fr μ φ B' (o b) σ' H' ∧ (∀ a o, B a = some o → B' a = some o) ∧ ∃ kk : Fl γ β → Prop, Mir.wp (whileF mc mbody m b) kk ∧ ∀ r, kk r → Mir.wp (jn mr r) k, ⟨n, b0, B, F.cov hcov, fun _ _ h => h, _, Mir.wp_bnd hm, fun r h => h⟩, ?_⟩
  rintro m σ' H' ⟨b, B', F2, sub, kk, hw, hkk⟩
  cases m with
  | zero =>
    obtain ⟨_, h, _⟩ := Mir.wp_lift hw
    cases h
  | succ m =>
    refine ⟨b, φ, B', _, hW, F2, Mir.wp_bnd hw, fun t t' B3 H3 hk3 s3 et => ?_⟩
    subst et
    cases t' with
    | true =>
      simp only [if_true] at hk3 ⊢
      refine ⟨fun σ5 H5 => ∃ m', m' < m + 1 ∧ ∃ b B', Fr μ φ B' (o b) σ5 H5 ∧ (∀ a o, B a = some o → B' a = some o) ∧ ∃ kk : Fl γ β → Prop, Mir.wp (whileF mc mbody m' b) kk ∧ ∀ r, kk r → Mir.wp (jn mr r) k, fun _ _ h => h, b, φ, B3, _, hW, F2.go s3, Mir.wp_bnd hk3, ?_, ?_, ?_, ?_, ?_⟩
      · intro o' eo b' B6 σ6 H6 hk6 F6 s6
        cases eo
        exact ⟨m, Nat.lt_succ_self _, b', B6, F6, fun a o h => s6 a o (s3.sub a o (sub a o h)), kk, hk6, hkk⟩
      · intro v d B6 H6 hk6 s6 hd6
        exact hn.rt v d B6 H6 (Mir.wp_ret (hkk _ (Mir.wp_ret hk6))) s6 hd6
      · intro a vs ds B6 H6 hk6
        exact hn.rl a vs ds B6 H6 (Mir.wp_ret (hkk _ (Mir.wp_ret hk6)))
      · intro b' B6 σ6 H6 hk6 F6 s6
        exact ⟨b', tail_of hn (fun a o h => s6 a o (s3.sub a o (sub a o h))) hW F6 (hkk _ (Mir.wp_ret hk6))⟩
      · intro b' B6 σ6 H6 hk6 F6 s6
        exact ⟨m, Nat.lt_succ_self _, b', B6, F6, fun a o h => s6 a o (s3.sub a o (sub a o h)), kk, hk6, hkk⟩
    | false =>
      simp only [Bool.false_eq_true, if_false] at hk3 ⊢
      exact ⟨b, tail_of hn (fun a o h => s3.sub a o (sub a o h)) hW (F2.go s3) (hkk _ (Mir.wp_ret hk3))⟩
end
end PL
end pl8_
section pl9_
set_option maxRecDepth 100000
set_option maxHeartbeats 2000000
/-! statements on one's own lists, names op= e; a def's body -/
namespace PL
open PySem PySem.Spec PyProof.Rows L2 GxR GenW LamX GX
open Mir (ret bnd lift)
section
variable {M : Type → Type} [Mir M]
variable {μ : Md} {g : Cw} {ρ : Env} {ω : Wld} {B H : Hp} {v u : V} {d : D} {φ : Fm} {σ : L2.St} {γ β δ : Type}
variable {oL : γ → Env} {out : Option (β → Env)} {rest sts a b : List Stmt} {e c : Expr} {me : M D} {mc : M Bool} {pos p p1 cpos apos : Pos} {i j : Nat} {x y : Str}

/-- a list of one's own is changed -/
theorem Fr.mutO (F : Fr μ φ B ρ σ H) {ds es : List D} {vs us : List V} {l : Addr} (hρ : ρ[i]? = some (some (.own ds))) (hσ : σ[i]? = some (some (.ref l))) (hl : H l = some (.lst vs)) (hd : DpAll μ.K B us es) : Fr μ φ B (ρ.set i (some (.own es))) σ (upd H l (.lst us)) := by
  obtain ⟨v, h1, a, ws, ev, ha, hb, h0, hna, hd0⟩ := F.sl i _ hρ
  rw [hσ] at h1
  cases h1
  cases ev
  have hlt := (List.getElem?_eq_some_iff.mp hρ).1
  refine ⟨F.stp.mut h0 ha hb hna, F.na, by rw [List.length_set]; exact F.len, fun k s e => ?_, fun k m es1 es2 w e1 e2 e3 e4 => ?_⟩
  · by_cases hk : i = k
    · subst hk
      rw [List.getElem?_set_self hlt] at e
      cases e
      exact ⟨_, hσ, l, us, rfl, upd_same, hb, h0, hna, hd⟩
    · rw [List.getElem?_set_ne hk] at e
      obtain ⟨w, h2, h3⟩ := F.sl k s e
      refine ⟨w, h2, ?_⟩
      cases s with
      | dat d => exact h3
      | own fs =>
        obtain ⟨a', vs', ev', ha', hb', h0', hna', hd'⟩ := h3
        refine ⟨a', vs', ev', ?_, hb', h0', hna', hd'⟩
        rw [upd_ne]
        · exact ha'
        · intro z
          subst z
          exact hk (F.ap i k ds fs _ hρ e hσ (by rw [h2, ev']))
      | wrd => exact h3
  · have old : ∀ {k : Nat} {fs : List D}, (ρ.set i (some (.own es)))[k]? = some (some (.own fs)) → ∃ gs, ρ[k]? = some (some (.own gs)) := fun {k fs} e => by
      by_cases hk : i = k
      · subst hk; exact ⟨ds, hρ⟩
      · rw [List.getElem?_set_ne hk] at e
        exact ⟨fs, e⟩
    obtain ⟨g1, q1⟩ := old e1
    obtain ⟨g2, q2⟩ := old e2
    exact F.ap k m g1 g2 w q1 q2 e3 e4
theorem mut_sub {l : Addr} {vs us : List V} {B' H' : Hp} (h : ∀ a u, B a = some u → B' a = some u) : ∀ a u, B a = some u → B' a = some u := h
def dApp (ds : List D) (d : D) : Option (List D) := if ds.length < sizeLine then some (ds ++ [d]) else none
def dSet (ds : List D) (j d : D) : Option (List D) := (dInt j).bind fun k => (ixN ds.length k).map fun n => ds.set n d
theorem CxIs.var {X : Cx} (hX : CxIs μ g X) (hN : g.N[i]? = some x) (hv : Vis g.scope x) {pos : Pos} (hd : (x == ("__debug__" : Str)) = false) (hcd : (x == ("__classdict__" : Str)) = false) : PE X (.Name x pos) (tVar i) := pe_var (by rw [hX.N]; exact hN) (hX.vis hv) hd hcd
/-- xs.append(e) -/
theorem SS.app {ds : List D} {mr : List D → M (Fl γ β)} (hρ : ρ[i]? = some (some (.own ds))) (hN : g.N[i]? = some x) (hv : Vis g.scope x) (he : EX μ g ρ e me) (hr : ∀ es, SS μ g (ρ.set i (some (.own es))) oL out rest (mr es))
    (hd : (x == ("__debug__" : Str)) = false := by decide) (hcd : (x == ("__classdict__" : Str)) = false := by decide) (hb : ∀ env, attributeBase (.Name x p1) "append" env (eval (.Name x p1) env) = eval (.Name x p1) env := by intro _; rfl) (hline : (apos.endLine == cpos.line) = true := by rfl)
    (h1 : ∀ env, starEach [e] env = (false, eval e env) :: starEach [] env := by intro _; rfl) : SS μ g ρ oL out (.Expr (.Call (.Attribute (.Name x p1) "append" apos) [e] [] cpos) pos :: rest) (bnd me fun d => bnd (lift (dApp ds d)) mr) := fun X hX =>
  (pss_cons (ps_expr (pe_bm F.plainAttrs_list slot_list_append type_list_append mt_append (hX.var hN hv hd hcd) (pa_cons (he X hX) pa_nil (h1 _)) (hb _) (by rw [h1]; rfl) hline (h1 _)) ) (PSs.ex fun es => hr es X hX)).imp fun Dn σ H ⟨φ, B, k, hW, F, hm, hn⟩ => by
    obtain ⟨v, hσ, l, vs, ev, hl, _, _, hna, _⟩ := F.sl i _ hρ
    subst ev
    refine ⟨_, hσ, .inl ⟨rfl, vs, SqL.of hl⟩, rd.st hW F hm fun d w B1 H1 hk s1 hd1 => ?_⟩
    obtain ⟨es, hes, hk2⟩ := Mir.wp_lift (Mir.wp_bnd hk)
    unfold dApp at hes
    split at hes
    case isFalse => cases hes
    rename_i hz
    cases hes
    have F1 := F.go s1
    obtain ⟨v', hσ', l', vs', ev', hl', _, _, _, hd'⟩ := F1.sl i _ hρ
    rw [hσ] at hσ'
    cases hσ'
    cases ev'
    refine ⟨l, vs', w, rfl, rfl, hl', by rw [dpAll_len hd']; exact hz, ds ++ [d], ?_⟩
    exact tail_of hn s1.sub hW (F1.mutO hρ hσ hl' (dpAll_app hd' (.cons hd1 .nil))) hk2
/-- xs[j] = e -/
theorem SS.setIx {ds : List D} {ie : Expr} {mi : M D} {mr : List D → M (Fl γ β)} {tpos : Pos} (hρ : ρ[i]? = some (some (.own ds))) (hN : g.N[i]? = some x) (hv : Vis g.scope x) (he : EX μ g ρ e me) (hi : EX μ g ρ ie mi) (hr : ∀ es, SS μ g (ρ.set i (some (.own es))) oL out rest (mr es))
    (hd : (x == ("__debug__" : Str)) = false := by decide) (hcd : (x == ("__classdict__" : Str)) = false := by decide)
    (ha : ∀ env v, assign (.Subscript (.Name x p1) ie tpos) env v = (do
      let ov ← holding [v] (eval (.Name x p1) env)
      let iv ← holding [v, ov] (eval ie env)
      standAt tpos
      holding [v, ov, iv] (setItem ov iv v)
      release [v, ov, iv] []) := by intro _ _; rfl)
    (hs : ∀ env, swapsWithSole [.Subscript (.Name x p1) ie tpos] e pos.line env = pure false := by intro _; rfl) (hw : ∀ env, swappedStores [.Subscript (.Name x p1) ie tpos] e env = pure none := by intro _; rfl) (h1 : ∀ env, (assignEach [.Subscript (.Name x p1) ie tpos] env).map (·.2) = [assign (.Subscript (.Name x p1) ie tpos) env] := by intro _; rfl) :
    SS μ g ρ oL out (.Assign [.Subscript (.Name x p1) ie tpos] e pos :: rest) (bnd me fun d => bnd mi fun j => bnd (lift (dSet ds j d)) mr) := fun X hX =>
  (pss_cons (ps_asg (he X hX) (pg_sub (hX.var hN hv hd hcd) (hi X hX) set_list (ha _)) (hs _) (hw _) (h1 _)) (PSs.ex fun es => hr es X hX)).imp fun Dn σ H ⟨φ, B, k, hW, F, hm, hn⟩ =>
  rd.st hW F hm fun d w B1 H1 hk s1 hd1 => by
    have F1 := F.go s1
    obtain ⟨v, hσ, l, vs, ev, hl, _, _, hna, hdl⟩ := F1.sl i _ hρ
    subst ev
    refine ⟨_, hσ, rd.st hW F1 hk fun j ju B2 H2 hk2 s2 hj => ?_⟩
    obtain ⟨es, hes, hk3⟩ := Mir.wp_lift (Mir.wp_bnd hk2)
    unfold dSet at hes
    obtain ⟨kk, hkk, hes⟩ := Option.bind_eq_some_iff.mp hes
    obtain ⟨n, hn', rfl⟩ := Option.map_eq_some_iff.mp hes
    cases j <;> simp [dInt] at hkk
    subst hkk
    have F2 := F1.go s2
    obtain ⟨v', hσ', l', vs', ev', hl', _, _, _, hd'⟩ := F2.sl i _ hρ
    rw [hσ] at hσ'
    cases hσ'
    cases ev'
    refine ⟨l, vs', _, n, rfl, dp_int hj, hl', by rw [dpAll_len hd']; exact hn', ds.set n d, ?_⟩
    exact tail_of hn (s1.trans s2).sub hW (F2.mutO hρ hσ hl' (dpAll_set (Dp.mono s2.sub hd1) n hd')) hk3
theorem get_list {X : Cx} : PGet X (rIxL X.K) := by
  intro pins s σ H x y v u Q I rx ry h
  obtain ⟨p, xs, i, z, rfl, rfl, hq, he, q⟩ := h
  cases rx
  obtain ⟨t, rfl⟩ := ry
  obtain ⟨its, r, pl, hz⟩ := I.list hq
  obtain ⟨j, h1, h2, h3, h4, h5⟩ := atI_get he
  obtain ⟨w, ew, rw'⟩ := r.get h2
  have hl := r.length
  have hn := line63
  have fin : L2.EP X pins σ Q w s := ⟨z, H, I, rw', q⟩
  by_cases h0 : 0 ≤ i
  · have hj : i.toNat = j := by
      rw [seqIndex_of h0 h5] at h1
      exact Option.some.inj h1
    exact wpAny_getItem_list pl.isList h0 (by omega) (by rw [hj]; simpa using ew) fin
  · have hj : (i + (its.toArray.size : Int)).toNat = j := by
      rw [seqIndex_neg (by omega) h4] at h1
      rw [List.size_toArray, ← hl]
      exact Option.some.inj h1
    exact wpAny_getItem_list_neg pl.isList (by omega) (by rw [List.size_toArray] <;> omega) (by omega) (by rw [hj]; simpa using ew) fin
def dAddI : D → D → Option D := dI2 fun i j => some (.int (i + j))
theorem ip_mul {X : Cx} : PIp X .Mult (fun x y H Q => ∃ i j, x = .int i ∧ y = .int j ∧ CMul i j ∧ Q (.int (i * j)) H) := by
  intro pins s σ H x y v u Q I r1 r2 h
  obtain ⟨i, j, e1, e2, hc, q⟩ := h
  subst e1; subst e2
  obtain ⟨t, rfl⟩ := r1
  obtain ⟨t', rfl⟩ := r2
  exact imul_int ⟨.int _, H, I.tok _, ⟨_, rfl⟩, q⟩ hc.ok
/-- op= on ints -/
def IpOk (μ : Md) (g : Cw) (op : Operator) (f : D → D → Option D) : Prop := ∃ t : TIp, (∀ X, CxIs μ g X → PIp X op t) ∧ ∀ (x y : V) (d e z : D) (B H : Hp) (Q : VK), Dp μ.K B x d → Dp μ.K B y e → f d e = some z → (∀ v, (∀ B, Dp μ.K B v z) → Q v H) → t x y H Q
theorem ip_addD : IpOk μ g .Add dAddI := ⟨_, fun X _ => L2.ip_add, fun x y d e z B H Q hx hy hz hQ => by
  obtain ⟨i, j, rfl, rfl, hz⟩ := dI2_some hz
  cases hz
  exact ⟨i, j, dp_int hx, dp_int hy, hQ _ fun _ => .int _⟩⟩
theorem ip_subD : IpOk μ g .Sub dSub := ⟨_, fun X _ => L2.ip_sub, fun x y d e z B H Q hx hy hz hQ => by
  obtain ⟨i, j, rfl, rfl, hz⟩ := dI2_some hz
  cases hz
  exact ⟨i, j, dp_int hx, dp_int hy, hQ _ fun _ => .int _⟩⟩
theorem ip_mulD : IpOk μ g .Mult dMul := ⟨_, fun X _ => ip_mul, fun x y d e z B H Q hx hy hz hQ => by
  obtain ⟨i, j, rfl, rfl, hz⟩ := dI2_some hz
  by_cases hc : CMul i j
  · simp only [dMul, dI2, if_pos hc] at hz
    cases hz
    exact ⟨i, j, dp_int hx, dp_int hy, hc, hQ _ fun _ => .int _⟩
  · simp only [dMul, dI2, if_neg hc] at hz
    cases hz⟩
/-- x op= e -/
theorem SS.aug {op : Operator} {f : D → D → Option D} {mr : D → M (Fl γ β)} (hp : IpOk μ g op f) (hρ : ρ[i]? = some (some (.dat d))) (hN : g.N[i]? = some x) (hv : Loc g.scope x) (hf : g.ow x = true ∨ g.scope.names.lookup x = some .local) (he : EX μ g ρ e me) (hr : ∀ d, SS μ g (ρ.set i (some (.dat d))) oL out rest (mr d)) :
    SS μ g ρ oL out (.AugAssign (.Name x p) op e pos :: rest) (bnd me fun y => bnd (lift (f d y)) mr) := fun X hX => by
  obtain ⟨t, ht, hQ⟩ := hp
  refine (pss_cons (ps_aug (i := i) (by rw [hX.N]; exact hX.nd) (by rw [hX.N]; exact hN) (hX.loc hv) (he X hX) (ht X hX) (hX.fnl hf)) (PSs.ex fun d => hr d X hX)).imp fun Dn σ H ⟨φ, B, k, hW, F, hm, hn⟩ => ?_
  obtain ⟨v, h1, h2⟩ := F.dat hρ
  refine ⟨v, h1, rd.st hW F hm fun y w B1 H1 hk s1 hd1 => ?_⟩
  obtain ⟨z, hz, hk2⟩ := Mir.wp_lift (Mir.wp_bnd hk)
  exact hQ v w d y z B1 H1 _ (Dp.mono s1.sub h2) hd1 hz fun v' hv' => ⟨z, tail_of hn s1.sub hW ((F.go s1).set (hv' B1)) hk2⟩
/-- xs[j] op= e -/
theorem SS.augIx {op : Operator} {f : D → D → Option D} {ds : List D} {ie : Expr} {mi : M D} {mr : List D → M (Fl γ β)} {tpos : Pos} (hp : IpOk μ g op f) (hρ : ρ[i]? = some (some (.own ds))) (hN : g.N[i]? = some x) (hv : Vis g.scope x) (hi : EX μ g ρ ie mi) (he : EX μ g ρ e me) (hr : ∀ es, SS μ g (ρ.set i (some (.own es))) oL out rest (mr es))
    (hd : (x == ("__debug__" : Str)) = false := by decide) (hcd : (x == ("__classdict__" : Str)) = false := by decide)
    (ha : ∀ ov iv new, augStore ie ov iv new = (do holding [new, ov, iv] (setItem ov iv new); release [new, ov, iv] []; pure .next) := by intros; rfl) :
    SS μ g ρ oL out (.AugAssign (.Subscript (.Name x p1) ie tpos) op e pos :: rest) (bnd mi fun j => bnd (lift (dIx (.list ds) j)) fun z => bnd me fun y => bnd (lift (f z y)) fun w => bnd (lift (dSet ds j w)) mr) := fun X hX => by
  obtain ⟨t, ht, hQ⟩ := hp
  refine (pss_cons (ps_augS (hX.var hN hv hd hcd) (hi X hX) get_list (he X hX) (ht X hX) set_list ha) (PSs.ex fun es => hr es X hX)).imp fun Dn σ H ⟨φ, B, k, hW, F, hm, hn⟩ => ?_
  obtain ⟨v, hσ, l, vs, ev, hl, _, _, hna, hdl⟩ := F.sl i _ hρ
  subst ev
  refine ⟨_, hσ, rd.st hW F hm fun j ju B1 H1 hk s1 hj => ?_⟩
  obtain ⟨z, hz, hk⟩ := Mir.wp_lift (Mir.wp_bnd hk)
  have F1 := F.go s1
  obtain ⟨v1, hσ1, l1, vs1, ev1, hl1, _, _, _, hd1⟩ := F1.sl i _ hρ
  rw [hσ] at hσ1
  cases hσ1
  cases ev1
  simp only [dIx, dItems, Option.bind_some] at hz
  obtain ⟨n, hn1, hz⟩ := Option.bind_eq_some_iff.mp hz
  cases j <;> simp [dInt] at hn1
  subst hn1
  obtain ⟨zv, hz1, hz2⟩ := dpAll_at hd1 hz
  refine ⟨l, vs1, _, zv, rfl, dp_int hj, SqL.of hl1, hz1, rd.st hW F1 hk fun y yv B2 H2 hk2 s2 hy => ?_⟩
  obtain ⟨w, hw, hk2⟩ := Mir.wp_lift (Mir.wp_bnd hk2)
  refine hQ zv yv z y w B2 H2 _ (Dp.mono s2.sub hz2) hy hw fun wv hwv => ?_
  obtain ⟨es, hes, hk3⟩ := Mir.wp_lift (Mir.wp_bnd hk2)
  unfold dSet at hes
  simp only [dInt, Option.bind_some] at hes
  obtain ⟨m, hm', rfl⟩ := Option.map_eq_some_iff.mp hes
  have F2 := F1.go s2
  obtain ⟨v', hσ', l', vs', ev', hl', _, _, _, hd'⟩ := F2.sl i _ hρ
  rw [hσ] at hσ'
  cases hσ'
  cases ev'
  refine ⟨l, vs', _, m, rfl, dp_int hj, hl', by rw [dpAll_len hd']; exact hm', ds.set m w, ?_⟩
  exact tail_of hn (s1.trans s2).sub hW (F2.mutO hρ hσ hl' (dpAll_set (hwv B2) m hd')) hk3
/-- e, its value dropped -/
theorem SS.drop {mr : M (Fl γ β)} (he : EX μ g ρ e me) (hr : SS μ g ρ oL out rest mr) (hs : ∀ env, swapsWith e none pos.line env = pure false := by intro _; rfl) : SS μ g ρ oL out (.Expr e pos :: rest) (bnd me fun _ => mr) := fun X hX =>
  (pss_cons (ps_expr (he X hX) (hs _)) (hr X hX)).imp fun Dn σ H ⟨φ, B, k, hW, F, hm, hn⟩ => rd.st hW F hm fun d w B1 H1 hk s1 hd1 => tail_of hn s1.sub hW (F.go s1) hk

/-! ### pop -/
/-- an expression that changes the list at slot i -/
def EM (μ : Md) (g : Cw) (ρ : Env) (i : Nat) (e : Expr) (m : M (D × List D)) : Prop := ∀ X, CxIs μ g X → PE X e fun σ H Q =>
  ∃ (φ : Fm) (B : Hp) (k : D × List D → Prop), g.W φ.ω ∧ Fr μ φ B ρ σ H ∧ Mir.wp m k ∧ ∀ d es v B' H', k (d, es) → Fr μ φ B' (ρ.set i (some (.own es))) σ H' → (∀ a u, B a = some u → B' a = some u) → Dp μ.K B' v d → Q v H'
def dPopAt (ds : List D) (j : D) : Option (D × List D) := (dInt j).bind fun k => if (-(2 ^ 63) ≤ k ∧ k < 2 ^ 63) then (seqIndex? k ds.length).bind fun n => (ds[n]?).map fun d => (d, ds.eraseIdx n) else none
def dPop (ds : List D) : Option (D × List D) := (ds[ds.length - 1]?).map fun d => (d, ds.dropLast)
theorem type_list_pop : typeOf (.builtin "list.pop") = pure (.type "method_descriptor") := by show builtinType _ = _; rw [builtinType_eq_fast]; kernel_rfl
theorem EM.popAt {ds : List D} (hρ : ρ[i]? = some (some (.own ds))) (hN : g.N[i]? = some x) (hv : Vis g.scope x) (he : EX μ g ρ e me) (hd : (x == ("__debug__" : Str)) = false := by decide) (hcd : (x == ("__classdict__" : Str)) = false := by decide)
    (hb : ∀ env, attributeBase (.Name x p1) "pop" env (eval (.Name x p1) env) = eval (.Name x p1) env := by intro _; rfl) (hline : (apos.endLine == cpos.line) = true := by rfl) (h1 : ∀ env, starEach [e] env = (false, eval e env) :: starEach [] env := by intro _; rfl) :
    EM μ g ρ i (.Call (.Attribute (.Name x p1) "pop" apos) [e] [] cpos) (bnd me fun j => lift (dPopAt ds j)) := fun X hX =>
  (pe_bm F.plainAttrs_list F.slot_list_pop type_list_pop mt_popAt (hX.var hN hv hd hcd) (pa_cons (he X hX) pa_nil (h1 _)) (hb _) (by rw [h1]; rfl) hline (h1 _)).imp fun σ H Q ⟨φ, B, k, hW, F, hm, hQ⟩ => by
    obtain ⟨v, hσ, l, vs, ev, hl, _, _, hna, _⟩ := F.sl i _ hρ
    subst ev
    refine ⟨_, hσ, .inl ⟨rfl, vs, SqL.of hl⟩, rd.st hW F hm fun j w B1 H1 hk s1 hj => ?_⟩
    obtain ⟨⟨d, es⟩, hes, hk2⟩ := Mir.wp_lift hk
    unfold dPopAt at hes
    obtain ⟨n, hn, hes⟩ := Option.bind_eq_some_iff.mp hes
    cases j <;> simp [dInt] at hn
    subst hn
    split at hes
    case isFalse => cases hes
    rename_i hr
    obtain ⟨m, hm', hes⟩ := Option.bind_eq_some_iff.mp hes
    obtain ⟨d', hd', he'⟩ := Option.map_eq_some_iff.mp hes
    cases he'
    have F1 := F.go s1
    obtain ⟨v', hσ', l', vs', ev', hl', _, _, _, hda⟩ := F1.sl i _ hρ
    rw [hσ] at hσ'
    cases hσ'
    cases ev'
    obtain ⟨dv, h3, h4⟩ := dpAll_get hda hd'
    refine ⟨l, vs', _, m, dv, rfl, by rw [dp_int hj], hl', hr.1, hr.2, by rw [dpAll_len hda]; exact hm', h3, ?_⟩
    exact hQ d _ dv B1 _ hk2 (F1.mutO hρ hσ hl' (dpAll_erase m hda)) s1.sub h4
theorem EM.pop {ds : List D} (hρ : ρ[i]? = some (some (.own ds))) (hN : g.N[i]? = some x) (hv : Vis g.scope x) (hd : (x == ("__debug__" : Str)) = false := by decide) (hcd : (x == ("__classdict__" : Str)) = false := by decide)
    (hb : ∀ env, attributeBase (.Name x p1) "pop" env (eval (.Name x p1) env) = eval (.Name x p1) env := by intro _; rfl) (hline : (apos.endLine == cpos.line) = true := by rfl) :
    EM μ g ρ i (.Call (.Attribute (.Name x p1) "pop" apos) [] [] cpos) (lift (dPop ds) : M (D × List D)) := fun X hX =>
  (pe_bm0 F.plainAttrs_list F.slot_list_pop type_list_pop mt_pop (hX.var hN hv hd hcd) (hb _) hline).imp fun σ H Q ⟨φ, B, k, hW, F, hm, hQ⟩ => by
    obtain ⟨v, hσ, l, vs, ev, hl, _, _, hna, hda⟩ := F.sl i _ hρ
    subst ev
    obtain ⟨⟨d, es⟩, hes, hk2⟩ := Mir.wp_lift hm
    unfold dPop at hes
    obtain ⟨d', hd', he'⟩ := Option.map_eq_some_iff.mp hes
    cases he'
    obtain ⟨dv, h3, h4⟩ := dpAll_get hda hd'
    refine ⟨_, hσ, .inl ⟨rfl, vs, SqL.of hl⟩, l, vs, dv, rfl, rfl, hl, by rw [dpAll_len hda]; exact h3, ?_⟩
    exact hQ d _ dv B _ hk2 (F.mutO hρ hσ hl (dpAll_dropLast hda)) (fun _ _ h => h) h4
/-- y = xs.pop(..) -/
theorem SS.asgM {me : M (D × List D)} {mr : D × List D → M (Fl γ β)} (he : EM μ g ρ j e me) (hN : g.N[i]? = some x) (hv : Loc g.scope x) (hf : g.ow x = true ∨ g.scope.names.lookup x = some .local) (hr : ∀ c : D × List D, SS μ g ((ρ.set j (some (.own c.2))).set i (some (.dat c.1))) oL out rest (mr c)) (hs : ∀ env, swapsWith e (some (.Name x p)) pos.line env = pure false := by intro _; rfl) :
    SS μ g ρ oL out (.Assign [.Name x p] e pos :: rest) (bnd me mr) := fun X hX => (pss_cons (ps_set (i := i) (by rw [hX.N]; exact hX.nd) (by rw [hX.N]; exact hN) (hX.loc hv) (he X hX) (hs _) (hX.fnl hf)) (PSs.ex fun d => hr d X hX)).imp fun Dn σ H ⟨φ, B, k, hW, F, hm, hn⟩ =>
  ⟨φ, B, _, hW, F, Mir.wp_bnd hm, fun d es v B1 H1 hk F1 sub hd => ⟨(d, es), tail_of hn sub hW (F1.set hd) hk⟩⟩
/-- xs.pop(..) alone -/
theorem SS.dropM {me : M (D × List D)} {mr : List D → M (Fl γ β)} (he : EM μ g ρ j e me) (hr : ∀ es, SS μ g (ρ.set j (some (.own es))) oL out rest (mr es)) (hs : ∀ env, swapsWith e none pos.line env = pure false := by intro _; rfl) :
    SS μ g ρ oL out (.Expr e pos :: rest) (bnd me fun c => mr c.2) := fun X hX => (pss_cons (ps_expr (he X hX) (hs _)) (PSs.ex fun d => hr d X hX)).imp fun Dn σ H ⟨φ, B, k, hW, F, hm, hn⟩ =>
  ⟨φ, B, _, hW, F, Mir.wp_bnd hm, fun d es v B1 H1 hk F1 sub hd => ⟨es, tail_of hn sub hW F1 hk⟩⟩
/-- xs.append(ys.pop(..)) -/
theorem SS.appM {ds : List D} {me : M (D × List D)} {mr : List D → List D → M (Fl γ β)} (hij : i ≠ j) (hρ : ρ[i]? = some (some (.own ds))) (hN : g.N[i]? = some x) (hv : Vis g.scope x) (he : EM μ g ρ j e me) (hr : ∀ es fs, SS μ g ((ρ.set j (some (.own fs))).set i (some (.own es))) oL out rest (mr es fs))
    (hd : (x == ("__debug__" : Str)) = false := by decide) (hcd : (x == ("__classdict__" : Str)) = false := by decide) (hb : ∀ env, attributeBase (.Name x p1) "append" env (eval (.Name x p1) env) = eval (.Name x p1) env := by intro _; rfl) (hline : (apos.endLine == cpos.line) = true := by rfl)
    (h1 : ∀ env, starEach [e] env = (false, eval e env) :: starEach [] env := by intro _; rfl) : SS μ g ρ oL out (.Expr (.Call (.Attribute (.Name x p1) "append" apos) [e] [] cpos) pos :: rest) (bnd me fun c => bnd (lift (dApp ds c.1)) fun es => mr es c.2) := fun X hX =>
  (pss_cons (ps_expr (pe_bm F.plainAttrs_list slot_list_append type_list_append mt_append (hX.var hN hv hd hcd) (pa_cons (he X hX) pa_nil (h1 _)) (hb _) (by rw [h1]; rfl) hline (h1 _)) ) (PSs.ex fun es : List D × List D => hr es.1 es.2 X hX)).imp fun Dn σ H ⟨φ, B, k, hW, F, hm, hn⟩ => by
    obtain ⟨v, hσ, l, vs, ev, hl, _, _, hna, _⟩ := F.sl i _ hρ
    subst ev
    refine ⟨_, hσ, .inl ⟨rfl, vs, SqL.of hl⟩, φ, B, _, hW, F, Mir.wp_bnd hm, fun d fs w B1 H1 hk F1 sub hd1 => ?_⟩
    obtain ⟨es, hes, hk2⟩ := Mir.wp_lift (Mir.wp_bnd hk)
    unfold dApp at hes
    split at hes
    case isFalse => cases hes
    rename_i hz
    cases hes
    have hρ1 : (ρ.set j (some (.own fs)))[i]? = some (some (.own ds)) := by rw [List.getElem?_set_ne (Ne.symm hij)]; exact hρ
    obtain ⟨v', hσ', l', vs', ev', hl', _, _, _, hd'⟩ := F1.sl i _ hρ1
    rw [hσ] at hσ'
    cases hσ'
    cases ev'
    refine ⟨l, vs', w, rfl, rfl, hl', by rw [dpAll_len hd']; exact hz, (ds ++ [d], fs), ?_⟩
    exact tail_of hn sub hW (F1.mutO hρ1 hσ hl' (dpAll_app hd' (.cons hd1 .nil))) hk2

/-! ### a def's body -/
def env0 : List Bool → List D → Env
  | [], _ => []
  | true :: ws, ds => some .wrd :: env0 ws ds
  | false :: ws, d :: ds => some (.dat d) :: env0 ws ds
  | false :: ws, [] => none :: env0 ws []
def fin {M : Type → Type} [Mir M] {β : Type} : Fl Empty β → M D
  | .rt d => Mir.ret d
  | .rl ds => Mir.ret (.list ds)
  | .nx _ => Mir.ret .none
  | .bk c => c.elim
  | .ct c => c.elim
/-- all returns hand a fresh list out -/
def finL {M : Type → Type} [Mir M] {β : Type} : Fl Empty β → M (List D)
  | .rl ds => Mir.ret ds
  | .rt _ => Mir.lift none
  | .nx _ => Mir.lift none
  | .bk c => c.elim
  | .ct c => c.elim
theorem env0_len : ∀ (ws : List Bool) (ds : List D), (env0 ws ds).length = ws.length
  | [], _ => rfl
  | true :: ws, ds => by simp [env0, env0_len ws ds]
  | false :: ws, d :: ds => by simp [env0, env0_len ws ds]
  | false :: ws, [] => by simp [env0, env0_len ws []]
theorem args_env {φ : Fm} : ∀ {ws : List Bool} {vs : List V} {ds : List D}, ArgOk μ φ.ω B ws vs ds → ∀ {i : Nat} {s : Sl}, (env0 ws ds)[i]? = some (some s) → ∃ v, (vs.map some)[i]? = some (some v) ∧ SlOk μ φ B H v s ∧ ∀ fs, s ≠ .own fs
  | _, _, _, .nil, i, s, e => by simp [env0] at e
  | _, _, _, .wrd h, 0, s, e => by simp [env0] at e; subst e; exact ⟨_, rfl, rfl, fun _ z => nomatch z⟩
  | _, _, _, .wrd h, i + 1, s, e => by
    obtain ⟨v, h1, h2⟩ := args_env h (i := i) (s := s) (by simpa [env0] using e)
    exact ⟨v, by simpa using h1, h2⟩
  | _, _, _, .dat hd h, 0, s, e => by simp [env0] at e; subst e; exact ⟨_, rfl, hd, fun _ z => nomatch z⟩
  | _, _, _, .dat hd h, i + 1, s, e => by
    obtain ⟨v, h1, h2⟩ := args_env h (i := i) (s := s) (by simpa [env0] using e)
    exact ⟨v, by simpa using h1, h2⟩
abbrev oE : Empty → Env := fun c => c.elim
/-- a def's place -/
abbrev Cw.of (N : List Str) (scope : Scope) (k : Nat) (hc : Bool) (qual : Str) (cT : Addr × Addr) (W : Wld → Prop) : Cw := ⟨N, scope, k, hc, qual ++ ".<locals>.", cT.1, cT.2, fun _ => true, W⟩
/-- the def at p keeps what its body does -/
theorem Fn.rawF {sp : Sp} {W : Wld → Prop} {k : Nat} {x qual : Str} {params : Arguments} {body : List Stmt} {scope : Scope} {pd : He.Defn} {fd : FuncData} {N ps : List Str}
    (F : FunD μ.K x qual params body scope [] [] (He.fAd μ.K pd) fd) (S : FnScope N ps scope)
    (hc : Bool) (htb : hc = true → LamX.TabB μ.base μ.mg (He.cT μ.K pd).1 (He.cT μ.K pd).2 ∧ (He.cT μ.K pd).2 ∈ μ.Ps) (hlen : ∀ vs H Q E, sp vs H Q E → vs.length = ps.length)
    (hbody : ∀ X, CxIs μ (Cw.of N scope k hc qual (He.cT μ.K pd) W) X → ∀ (vs : List V) (H : Hp) (Q : VK) (E : XK), sp vs H Q E → ∃ t, PSs X body t ∧ t { nx := fun _ H' => Q .non H', rt := Q } (L2.start N vs) H) :
    FnOk μ.prog μ.w μ.K μ.mg μ.base CX0 (k + 1) (He.fAd μ.K pd) fd ps sp := by
  obtain ⟨oc, od, dV, kV, doc, pm, an, cdv, ct, osl, rfl, lk, hcd, _, _⟩ := F.ex
  refine fn_of lk hcd S hlen fun A outer s H vs Q E hr hsp => ?_
  obtain ⟨cc, hcc⟩ := He.codeIn_ref hcd
  have hcT : (He.cT μ.K pd).1 = cc := He.codeOf_eq lk hcc
  generalize hX : (cxOf CX0 μ.prog μ.w μ.K μ.mg μ.base N qual scope (He.fAd μ.K pd) cdv A outer s H E).nox = X
  have hXI : CxIs μ (Cw.of N scope k hc qual (He.cT μ.K pd) W) X := by
    rw [← hX]
    exact ⟨rfl, rfl, rfl, rfl, rfl, rfl, rfl, hr, fun h => ⟨rfl, by show cdv = Value.ref (He.cT μ.K pd).1; rw [hcc, hcT], htb h⟩, rfl, rfl, fun _ _ => rfl, S.nd⟩
  obtain ⟨t, h1, h2⟩ := hbody X hXI vs H Q E hsp
  rw [← hX] at h1
  exact ⟨t, h1.nox, h2⟩
theorem Fn.raw {sp : Sp} {W : Wld → Prop} {k : Nat} {x qual : Str} {params : Arguments} {body : List Stmt} {scope : Scope} {pd : He.Defn} {fd : FuncData} {N ps : List Str}
    (F : FunD μ.K x qual params body scope [] [] (He.fAd μ.K pd) fd) (S : FnScope N ps scope) (hm : μ.mg x = some (.ref (He.fAd μ.K pd)))
    (hb : ∀ (kV doc pm : Value) (an : Option Addr) (cdv ct : Value) (us : List Value), us.length = ps.length → bindArgs (PySem.W.fnOf x qual params body scope .none kV doc pm an cdv ct) ⟨us, []⟩ = pure (ps.zip us))
    (hc : Bool) (htb : hc = true → LamX.TabB μ.base μ.mg (He.cT μ.K pd).1 (He.cT μ.K pd).2 ∧ (He.cT μ.K pd).2 ∈ μ.Ps) (hlen : ∀ vs H Q E, sp vs H Q E → vs.length = ps.length)
    (hbody : ∀ X, CxIs μ (Cw.of N scope k hc qual (He.cT μ.K pd) W) X → ∀ (vs : List V) (H : Hp) (Q : VK) (E : XK), sp vs H Q E → ∃ t, PSs X body t ∧ t { nx := fun _ H' => Q .non H', rt := Q } (L2.start N vs) H) :
    ∃ f fd ps, FnOk μ.prog μ.w μ.K μ.mg μ.base CX0 (k + 1) f fd ps sp ∧ μ.mg x = some (.ref f) ∧ PySem.W.keepIn μ.K (.ref f) = true ∧ Binds μ.K fd ps [] :=
  ⟨He.fAd μ.K pd, fd, ps, Fn.rawF F S hc htb hlen hbody, hm, F.kp, F.bindsN hb⟩
theorem Fr.start {W : Wld → Prop} {ws : List Bool} {N ps : List Str} {vs : List V} {ds : List D} (b : Stp μ ω B H B H) (na : ∀ a o, B a = some o → ¬ ω.adr a) (ha : ArgOk μ ω B ws vs ds) (hn : ws.length ≤ N.length) : Fr μ ⟨ω, H, B⟩ B (env0 ws ds ++ List.replicate (N.length - ws.length) none) (L2.start N vs) H := by
  have hvl := ha.len
  refine ⟨b, na, ?_, fun i sl e => ?_, fun i j es fs w e1 e2 _ _ => ?_⟩
  · unfold L2.start
    rw [List.length_append, List.length_append, List.length_map, List.length_replicate, List.length_replicate, env0_len, hvl]
  · have hi : i < (env0 ws ds).length := by
      by_cases hi : i < (env0 ws ds).length
      · exact hi
      · rw [List.getElem?_append_right (by omega), List.getElem?_replicate] at e
        split at e <;> cases e
    rw [List.getElem?_append_left hi] at e
    obtain ⟨v, h1, h2, _⟩ := args_env (φ := ⟨ω, H, B⟩) (H := H) ha e
    refine ⟨v, ?_, h2⟩
    unfold L2.start
    rw [List.getElem?_append_left (by rw [List.length_map, hvl, ← env0_len ws ds]; exact hi)]
    exact h1
  · exfalso
    have hi : i < (env0 ws ds).length := by
      by_cases hi : i < (env0 ws ds).length
      · exact hi
      · rw [List.getElem?_append_right (by omega), List.getElem?_replicate] at e1
        split at e1 <;> cases e1
    rw [List.getElem?_append_left hi] at e1
    obtain ⟨v, _, _, h3⟩ := args_env (φ := ⟨ω, H, B⟩) (H := H) ha e1
    exact h3 _ rfl
theorem fnscope_len {N ps : List Str} {scope : Scope} (S : FnScope N ps scope) : ps.length ≤ N.length := by
  have := congrArg List.length S.pre
  rw [List.length_take] at this; omega
/-- the def at p, by its body -/
theorem Fn.mk {W : Wld → Prop} {ws : List Bool} {k : Nat} {x qual : Str} {params : Arguments} {body : List Stmt} {scope : Scope} {pd : He.Defn} {fd : FuncData} {N ps : List Str} {mbody : List D → M (Fl Empty β)} {out : Option (β → Env)}
    (F : FunD μ.K x qual params body scope [] [] (He.fAd μ.K pd) fd) (S : FnScope N ps scope) (hwl : ws.length = ps.length) (hm : μ.mg x = some (.ref (He.fAd μ.K pd)))
    (hb : ∀ (kV doc pm : Value) (an : Option Addr) (cdv ct : Value) (us : List Value), us.length = ps.length → bindArgs (PySem.W.fnOf x qual params body scope .none kV doc pm an cdv ct) ⟨us, []⟩ = pure (ps.zip us))
    (hc : Bool) (htb : hc = true → LamX.TabB μ.base μ.mg (He.cT μ.K pd).1 (He.cT μ.K pd).2 ∧ (He.cT μ.K pd).2 ∈ μ.Ps)
    (hbody : ∀ ds : List D, ds.length = (ws.filter fun b => !b).length → SS μ (Cw.of N scope k hc qual (He.cT μ.K pd) W) (env0 ws ds ++ List.replicate (N.length - ws.length) none) oE out body (mbody ds)) :
    Fn μ W ws (k + 1) x (fun ds => bnd (mbody ds) fin) := by
  refine Fn.raw F S hm hb hc htb (fun vs H Q E ⟨ω, B, ds, kk, _, _, _, ha, _⟩ => by rw [ha.len, hwl]) fun X hX vs H Q E ⟨ω, B, ds, kk, hW, b, na, ha, hmm, hQ⟩ => ⟨_, hbody ds ha.lenD X hX, ⟨ω, H, B⟩, B, _, hW, Fr.start (W := W) (ps := ps) b na ha (by rw [hwl]; exact fnscope_len S), Mir.wp_bnd hmm, ⟨fun o _ bb B' σ' H' hk F' _ => ?_, fun v d B' H' hk s' hd => ?_, fun a vs ds B' H' hk s' h1 h2 h3 h4 h5 => ?_, fun c => c.elim, fun c => c.elim⟩⟩
  · exact hQ .non .none B' H' (Mir.wp_ret hk) F'.stp .non
  · exact hQ v d B' H' (Mir.wp_ret hk) s' hd
  · refine hQ (.ref a) (.list ds) (upd B' a (.lst vs)) H' (Mir.wp_ret hk) ⟨fun c u q => sub_upd h3 c u (s'.sub c u q), fun c u q => ?_, s'.ext, s'.has, s'.tabs, s'.wok⟩ (.lst (SqL.of upd_same) (DpAll.mono (sub_upd h3) h5))
    by_cases hca : c = a
    · subst hca
      rw [upd_same] at q
      cases q
      exact ⟨h1, nt_lst, .inr h2⟩
    · rw [upd_ne hca] at q
      exact s'.new c u q
/-- .. which hands a fresh list out -/
def spL (μ : Md) (W : Wld → Prop) (ws : List Bool) (md : List D → M (List D)) : Sp := fun vs H Q _ => ∃ (ω : Wld) (B : Hp) (ds : List D) (k : List D → Prop), W ω ∧ Stp μ ω B H B H ∧ (∀ a o, B a = some o → ¬ ω.adr a) ∧ ArgOk μ ω B ws vs ds ∧ Mir.wp (md ds) k ∧
  ∀ a us es B' H', k es → Stp μ ω B H B' H' → H' a = some (.lst us) → H a = none → B' a = none → ¬ ω.adr a → DpAll μ.K B' us es → Q (.ref a) H'
def FnL (μ : Md) (W : Wld → Prop) (ws : List Bool) (k : Nat) (x : Str) (md : List D → M (List D)) : Prop :=
  ∃ f fd ps, FnOk μ.prog μ.w μ.K μ.mg μ.base CX0 k f fd ps (spL μ W ws md) ∧ μ.mg x = some (.ref f) ∧ PySem.W.keepIn μ.K (.ref f) = true ∧ Binds μ.K fd ps []
theorem FnL.mk {W : Wld → Prop} {ws : List Bool} {k : Nat} {x qual : Str} {params : Arguments} {body : List Stmt} {scope : Scope} {pd : He.Defn} {fd : FuncData} {N ps : List Str} {mbody : List D → M (Fl Empty β)} {out : Option (β → Env)}
    (F : FunD μ.K x qual params body scope [] [] (He.fAd μ.K pd) fd) (S : FnScope N ps scope) (hwl : ws.length = ps.length) (hm : μ.mg x = some (.ref (He.fAd μ.K pd)))
    (hb : ∀ (kV doc pm : Value) (an : Option Addr) (cdv ct : Value) (us : List Value), us.length = ps.length → bindArgs (PySem.W.fnOf x qual params body scope .none kV doc pm an cdv ct) ⟨us, []⟩ = pure (ps.zip us))
    (hc : Bool) (htb : hc = true → LamX.TabB μ.base μ.mg (He.cT μ.K pd).1 (He.cT μ.K pd).2 ∧ (He.cT μ.K pd).2 ∈ μ.Ps)
    (hbody : ∀ ds : List D, ds.length = (ws.filter fun b => !b).length → SS μ (Cw.of N scope k hc qual (He.cT μ.K pd) W) (env0 ws ds ++ List.replicate (N.length - ws.length) none) oE out body (mbody ds)) :
    FnL μ W ws (k + 1) x (fun ds => bnd (mbody ds) finL) := by
  refine Fn.raw F S hm hb hc htb (fun vs H Q E ⟨ω, B, ds, kk, _, _, _, ha, _⟩ => by rw [ha.len, hwl]) fun X hX vs H Q E ⟨ω, B, ds, kk, hW, b, na, ha, hmm, hQ⟩ => ⟨_, hbody ds ha.lenD X hX, ⟨ω, H, B⟩, B, _, hW, Fr.start (W := W) (ps := ps) b na ha (by rw [hwl]; exact fnscope_len S), Mir.wp_bnd hmm, ⟨fun o _ bb B' σ' H' hk F' _ => ?_, fun v d B' H' hk s' hd => ?_, fun a vs ds B' H' hk s' h1 h2 h3 h4 h5 => ?_, fun c => c.elim, fun c => c.elim⟩⟩
  · obtain ⟨_, h, _⟩ := Mir.wp_lift hk
    cases h
  · obtain ⟨_, h, _⟩ := Mir.wp_lift hk
    cases h
  · exact hQ a vs ds B' H' (Mir.wp_ret hk) s' h1 h2 h3 h4 h5
theorem FnL.up {W : Wld → Prop} {ws : List Bool} {k : Nat} {x : Str} {md : List D → M (List D)} (F : FnL μ NoW ws k x md) (hw : ws.all (fun b => !b) = true) : FnL μ W ws k x md := by
  obtain ⟨f, fd, ps, F, a, b, c⟩ := F
  refine ⟨f, fd, ps, F.imp fun vs H Q E h => ?_, a, b, c⟩
  obtain ⟨ω, B, ds, k, hW, b, na, ha, hm, hQ⟩ := h
  refine ⟨Wld.no, B, ds, k, rfl, ⟨b.sub, b.new, fun _ _ h _ _ => h, b.has, b.tabs, trivial⟩, fun _ _ _ z => z, ha.other hw, hm, fun v us es B' H' hk s h1 h2 h3 _ h5 => hQ v us es B' H' hk (Stp.ofNo b na s) h1 h2 h3 ?_ h5⟩
  exact fresh_na h2 b.wok
theorem FnL.lft {W : Wld → Prop} {ws : List Bool} {k : Nat} {x : Str} {md : List D → Option (List D)} (F : FnL μ W ws k x md) : FnL μ W ws k x (fun ds => (lift (md ds) : M (List D))) := by
  obtain ⟨f, fd, ps, F, a, b, c⟩ := F
  exact ⟨f, fd, ps, F.imp fun vs H Q E ⟨ω, B, ds, k, hW, b, na, ha, hm, hQ⟩ => ⟨ω, B, ds, k, hW, b, na, ha, Mir.wp_lift hm, hQ⟩, a, b, c⟩
theorem EL.callW {W : Wld → Prop} {ws : List Bool} {k : Nat} {x : Str} {e : Expr} {es : List Expr} {ms : M (List D)} {md : List D → M (List D)} (F : FnL μ W ws k x md) (hW : ∀ ω, g.W ω → W ω) (hk : k ≤ g.k) (hg : g.scope.names.lookup x = some .globalImplicit) (ha : EP μ g ρ ws (e :: es) ms) (hdb : (x == ("__debug__" : Str)) = false := by decide)
    (he : ∀ env, starEach (e :: es) env = (false, eval e env) :: starEach es env := by intro _; rfl) (hpl : ∀ env, (backTo pos (starEach es env)).any (·.1) = false := by intro _; rfl) : EL μ g ρ (.Call (.Name x p) (e :: es) [] pos) (bnd ms md) := fun X hX => by
  obtain ⟨f, fd, ps, F, a, b, c⟩ := F
  refine (pe_call (sp := spL μ W ws md) (by rw [hX.prog, hX.w, hX.K, hX.mg, hX.base]; exact F) (hX.room.mono hk) (hX.gl hg) (by rw [hX.mg]; exact a) (by rw [hX.K]; exact b) (by rw [hX.K]; exact c) .nil pass0 (ha X hX) hdb (he _) (hpl _)).imp fun σ H Q ⟨φ, B, k, hW', F, hm, hQ⟩ => ?_
  refine rd.st hW' F hm fun ds vs B1 H1 hk1 s1 hr1 => ?_
  rw [List.append_nil]
  exact ⟨φ.ω, B1, ds, k, hW _ hW', (F.go s1).refl, (F.go s1).na, hr1, hk1, fun a us es B' H' hk s h1 h2 h3 h4 h5 => hQ es _ B' H' hk (s1.trans s) ⟨a, us, rfl, h1, s1.has _ h2, h3, h4, h5⟩⟩
theorem EL.call {ws : List Bool} {k : Nat} {x : Str} {e : Expr} {es : List Expr} {ms : M (List D)} {md : List D → Option (List D)} (F : FnL μ NoW ws k x md) (hw : ws.all (fun b => !b) = true) (hk : k ≤ g.k) (hg : g.scope.names.lookup x = some .globalImplicit) (ha : EP μ g ρ ws (e :: es) ms) (hdb : (x == ("__debug__" : Str)) = false := by decide)
    (he : ∀ env, starEach (e :: es) env = (false, eval e env) :: starEach es env := by intro _; rfl) (hpl : ∀ env, (backTo pos (starEach es env)).any (·.1) = false := by intro _; rfl) : EL μ g ρ (.Call (.Name x p) (e :: es) [] pos) (bnd ms fun ds => lift (md ds)) :=
  EL.callW (F.lft.up (W := g.W) hw) (fun _ h => h) hk hg ha hdb he hpl
end
end PL
end pl9_
section en_
set_option maxRecDepth 100000
set_option maxHeartbeats 2000000
/-! enumerate(a tuple) -/
namespace GX
open PySem PySem.Spec PyProof.Rows L2
open AutoSeq1 (wpAny_loadPart')
theorem meets_enumT (l : Addr) (items : Array Value) :
    Meets (Builtin.«enumerate.__new__» ⟨[.type "enumerate", .ref l], []⟩) (fun _ R s => s.heap.IsTuple l items ∧
      R (.ok (.ret (.ref (s.heap.push { cls := .type "tuple_iterator", data := .fields #[.ref l, .int 0 0] }).objs.size)))
        { s with heap := (s.heap.push { cls := .type "tuple_iterator", data := .fields #[.ref l, .int 0 0] }).push { cls := .type "enumerate", data := .fields #[.none, .bool false, .ref s.heap.objs.size, rawInt 0, .none, .none] } }) :=
  .of_wp fun prog w A R s h => by
    obtain ⟨hp, g, d, tk, os⟩ := s; obtain ⟨h1, h⟩ := h
    have hsub := sub_enumerate
    have q1 : ∀ {A' : Around} {E : Value → Shared → Prop} {Q : Value → Shared → Prop}, Q (.ref hp.objs.size) ⟨hp.push { cls := .type "tuple_iterator", data := .fields #[.ref l, .int 0 0] }, g, d, tk, os⟩ → wpAny (model prog w) A' (pyIter (.ref l)) Q E ⟨hp, g, d, tk, os⟩ :=
      fun q => (begins_tuple l items).iter prog w _ _ ⟨hp, g, d, tk, os⟩ _ h1 q
    wp_walk using q1
    refine wpAny_stack_any fun st => wpAny_pure ?_
    split
    · rename_i c _ _ _ _ _
      cases (c == Value.type "enumerate")
      · wp_walk using q1
        exact ⟨_, rfl, h⟩
      · wp_walk using q1
        exact ⟨_, rfl, h⟩
    · wp_walk using q1
      exact ⟨_, rfl, h⟩
theorem call_enumT {prog : Program} {w : World} {A : Around} {E : Value → Shared → Prop} {s : Shared} {l : Addr} {items : Array Value} {Q : Value → Shared → Prop} (hL : s.heap.IsTuple l items)
    (h : ∀ h', IsEnum h' (s.heap.objs.size + 1) s.heap.objs.size 0 .none → h'.IsTupleIter s.heap.objs.size l 0 → h'.objs.size = s.heap.objs.size + 2 →
      (∀ b o, s.heap.get? b = some o → h'.get? b = some o) → Q (.ref (s.heap.objs.size + 1)) { s with heap := h' }) :
    wpAny (model prog w) A (call (.type "enumerate") [.ref l]) Q E s := by
  refine callType_new F.called_enumerate (by decide) (F.typeCall_enumerate_1 _) (F.newCall_enumerate_1 _) (fun obj => F.args_object_init_2 obj _) F.entry_enumerate_new
    (meets_enumT l items) ⟨hL, ?_⟩
  have hz : (s.heap.push { cls := .type "tuple_iterator", data := .fields #[.ref l, .int 0 0] }).objs.size = s.heap.objs.size + 1 := Heap.size_push ..
  show _ ∧ _
  rw [hz]
  have he : IsEnum ((s.heap.push { cls := .type "tuple_iterator", data := .fields #[.ref l, .int 0 0] }).push
      { cls := .type "enumerate", data := .fields #[.none, .bool false, .ref s.heap.objs.size, rawInt 0, .none, .none] }) (s.heap.objs.size + 1) s.heap.objs.size 0 .none := by
    have := Heap.get?_push_size (s.heap.push { cls := .type "tuple_iterator", data := .fields #[.ref l, .int 0 0] })
      (o := { cls := .type "enumerate", data := .fields #[.none, .bool false, .ref s.heap.objs.size, rawInt 0, .none, .none] }) rfl
    rw [hz] at this; exact this
  refine ⟨⟨_, he, rfl⟩, h _ he ⟨_, Heap.get?_push_of_some _ (Heap.get?_push_size _ rfl), rfl, rfl⟩ (by rw [Heap.size_push, hz]) fun b o x => Heap.get?_push_of_some _ (Heap.get?_push_of_some _ x)⟩
/-- the tuple at a, each item in a new pair -/
def IteT (K : PySem.W.Frag) (a : Addr) : It :=
  ⟨fun i H => ∃ (xs : List V) (x : V), SqT K H a xs ∧ xs[i]? = some x, fun i H v H' => ∃ T x, v = .ref T ∧ H T = none ∧ H' = upd H T (.tup [.int (i : Nat), x]) ∧ ∀ xs, SqT K H a xs → xs[i]? = some x, fun i H => ∃ xs : List V, SqT K H a xs ∧ xs.length ≤ i⟩
theorem turn_enumT {P : Program} {w : World} {K : PySem.W.Frag} {elts : List Expr} {kk : Nat} {tpos : Pos} (a e it : Addr) :
    Turn P w K (.Tuple elts kk tpos) (IteT K a) [e, it] e (fun i h => (∃ old, IsEnum h e it ((i : Nat) : Int) old) ∧ h.IsTupleIter it a i ∧ e ≠ it) where
  mem := by simp
  obj := fun i h st b hb => by
    obtain ⟨⟨old, he⟩, ⟨o, ho, hc, hd⟩, _⟩ := st
    have e' : b = e ∨ b = it := by simpa using hb
    rcases e' with z | z
    · rw [z]; exact ⟨_, he, fun v q => nomatch q⟩
    · rw [z]; exact ⟨o, ho, fun v q => by rw [hd] at q; cases q⟩
  keep := fun i h h' st k => let ⟨⟨old, he⟩, hi, hne⟩ := st; ⟨⟨old, k e (by simp) _ he⟩, hi.at fun o q => k it (by simp) o q, hne⟩
  item := by
    intro X hP hw hK hc i pins s σ H E I hf st hg
    subst hP hw hK
    obtain ⟨⟨old, he⟩, hit, hne⟩ := st
    obtain ⟨xs, x, hq, hx⟩ := hg
    obtain ⟨its, rv, p, hz⟩ := I.tuple hq
    obtain ⟨u, hu, ru⟩ := rv.get hx
    have hel : e < s.heap.objs.size := Heap.lt_size he
    have hil : it < s.heap.objs.size := by obtain ⟨_, q, _⟩ := hit; exact Heap.lt_size q
    have hta : a ≠ it := fun z => by
      obtain ⟨o1, h1, h2, _⟩ := p
      obtain ⟨o2, h3, h4, _⟩ := hit
      rw [z, h3] at h1; cases h1; rw [h4] at h2; injection h2 with h2; exact absurd h2 (by decide)
    have hae : e ≠ a := fun z => by
      obtain ⟨o1, h1, h2, _⟩ := p
      rw [← z, he] at h1; cases h1; injection h2 with h2; exact absurd h2 (by decide)
    have D := Draws.tuple (prog := X.prog) (w := X.w) (A := X.A.in1) (I.ok.hd hc) it a hta its.toArray
    have hlt : i < its.toArray.size := by
      have := (List.getElem?_eq_some_iff.mp hu).1
      simpa using this
    refine wpAny_pyNext_enum_itemD D he ⟨hit, p⟩ hlt hne (by simp [hne, hae]) fun y h' tk hy ho st' hT hsz hk => ?_
    have ey : y = u := by
      have : its.toArray[i]? = some u := by simpa using hu
      rw [this] at hy
      exact (Option.some.inj hy).symm
    subst ey
    refine ⟨_, rfl, wpAny_letOwnedTupleGo_enum (s := { s with heap := h', toks := tk + 1 }) ho fun h'' he' sb => ?_⟩
    have hT2 : h''.get? s.heap.objs.size = some { cls := .type "tuple", data := .seq #[.int i tk, y] } := (sb.2 _ (Nat.ne_of_gt hel)).trans hT
    have new : ObjOk X.prog X.w (upd H s.heap.objs.size (.tup [.int (i : Nat), x])) h'' s.heap.objs.size (.tup [.int (i : Nat), x]) :=
      ⟨by show 2 ≤ sizeLine; decide, [.int i tk, y], .cons ⟨_, rfl⟩ (.cons ru .nil), ⟨_, hT2, rfl, _, rfl⟩⟩
    have I1 : L2.Inv X pins σ (upd H s.heap.objs.size (.tup [.int (i : Nat), x])) { s with heap := h'', toks := tk + 1 } :=
      I.turnedNew (ch := [e, it]) (fun b ob hb q => (sb.2 b (fun z => hb (by simp [z]))).trans (hk b ob (fun z => hb (by simp [z])) (fun z => hb (by simp [z])) q)) hf (Nat.le_refl _) new
    refine ⟨.ref s.heap.objs.size, _, I1, rfl, ⟨_, x, rfl, I.hok.fresh (Nat.le_refl _), rfl, fun ys hy => by rw [I.tuple_inj hy hq]; exact hx⟩, ⟨⟨y, ?_⟩, st'.1.at fun o q => (sb.2 it (Ne.symm hne)).trans q, hne⟩, fun b hb => ?_⟩
    · have e1 : ((i + 1 : Nat) : Int) = (i : Int) + 1 := by omega
      rw [e1]; exact he'
    · have hb' : b < s.heap.objs.size := by
        have e' : b = e ∨ b = it := by simpa using hb
        rcases e' with z | z
        · rw [z]; exact hel
        · rw [z]; exact hil
      rw [upd_ne (Nat.ne_of_lt hb')]
      exact (hf b hb).1
  done := by
    intro X hP hw hK hc i pins s σ H E I hf st hg
    subst hP hw hK
    obtain ⟨⟨old, he⟩, hit, hne⟩ := st
    obtain ⟨xs, hq, hx⟩ := hg
    obtain ⟨its, rv, p, hz⟩ := I.tuple hq
    obtain ⟨f0, f1, f2, f3, f4, f5⟩ := hf it (by simp)
    have hl := rv.length
    have hta : a ≠ it := fun z => by
      obtain ⟨o1, h1, h2, _⟩ := p
      obtain ⟨o2, h3, h4, _⟩ := hit
      rw [z, h3] at h1; cases h1; rw [h4] at h2; injection h2 with h2; exact absurd h2 (by decide)
    have D0 := Draws.tuple (prog := X.prog) (w := X.w) (A := X.A.in1) (I.ok.hd hc) it a hta its.toArray
    have D : Draws X.prog X.w X.A.in1 it [it, a] i (fun j v => its.toArray[j]? = some v) (fun j h => j = i ∧ h.IsTupleIter it a j ∧ h.IsTuple a its.toArray) :=
      ⟨fun j h st => D0.live j h st.2, fun j h h' st hk => ⟨st.1, D0.frame j h h' st.2 hk⟩, fun j s Q E hj st _ => absurd st.1 (Nat.ne_of_lt hj), fun s Q E st hE => wpAny_nextOf_tuple_end (I.ok.hd hc) st.2.1 st.2.2 (by simp; omega) hE⟩
    exact wpAny_pyNext_enum_endD D he ⟨rfl, hit, p⟩ fun h' eb => ⟨rfl, I.turned (t' := s.toks) (fun b o hb q => eb b o hb q) f0 f1 f3 f4 f5⟩
  self := fun A i s Q E st h => let ⟨⟨_, he⟩, _⟩ := st; wpAny_pyIter_enum he h
/-- enumerate(x), x a list or a tuple -/
def iEnumA (K : PySem.W.Frag) (ta : TE) : TI := fun σ H R => ta σ H fun v H1 => ∃ a xs, v = .ref a ∧ ((SqL K H1 a xs ∧ R (Ite K a) H1) ∨ (SqT K H1 a xs ∧ R (IteT K a) H1))
theorem pi_enumA {X : Cx} {e : Expr} {ta : TE} {p pos tpos : Pos} {elts : List Expr} {kk : Nat} (hg : Gl X "enumerate") (hm : X.mg "enumerate" = none) (ha : PE X e ta) (hs : starEach [e] X.env = (false, eval e X.env) :: starEach [] X.env := by rfl) :
    PI X (.Tuple elts kk tpos) (.Call (.Name "enumerate" p) [e] [] pos) (iEnumA X.K ta) := by
  refine ⟨fun pins s σ H R I h => ?_⟩
  refine PyProof.Rows.Call_ (ld_blt I hg hm boot_enumerate (PyProof.Rows.callWith_type1 (PyProof.Rows.args_cons (thn (ha.run pins s σ H _ I h) fun u s1 ⟨v, H1, I1, r1, q1⟩ => PyProof.Rows.args_nil ?_) hs) hs rfl))
  obtain ⟨a, xs, ex, q⟩ := q1
  subst ex
  obtain rfl : u = Value.ref a := r1
  have fresh2 : ∀ b, b ∈ [s1.heap.objs.size + 1, s1.heap.objs.size] → FpOk X pins H1 b := fun b hb => by
    have e' : b = s1.heap.objs.size + 1 ∨ b = s1.heap.objs.size := by simpa using hb
    have hle : s1.heap.objs.size ≤ b := by
      rcases e' with z | z
      · rw [z]; exact Nat.le_add_right _ _
      · rw [z]; exact Nat.le_refl _
    exact I1.fpOk hle (I1.hok.fresh hle)
  rcases q with ⟨hq, q⟩ | ⟨hq, q⟩
  · obtain ⟨its, rv, p', hz⟩ := I1.list hq
    refine call_enumerate_list p'.isList fun h' he hit hsz hk => wpAny_pyIter_enum he ?_
    have I2 : L2.Inv X pins σ H1 { s1 with heap := h' } := I1.kept (t' := s1.toks) hk
    exact ⟨s1.heap.objs.size + 1, [s1.heap.objs.size + 1, s1.heap.objs.size], _, _, H1, rfl, I2, turn_enum a (s1.heap.objs.size + 1) s1.heap.objs.size, ⟨⟨.none, he⟩, hit, Nat.succ_ne_self _⟩, fresh2, q⟩
  · obtain ⟨its, rv, p', hz⟩ := I1.tuple hq
    refine call_enumT (show s1.heap.IsTuple a its.toArray from p') fun h' he hit hsz hk => wpAny_pyIter_enum he ?_
    have I2 : L2.Inv X pins σ H1 { s1 with heap := h' } := I1.kept (t' := s1.toks) hk
    exact ⟨s1.heap.objs.size + 1, [s1.heap.objs.size + 1, s1.heap.objs.size], _, _, H1, rfl, I2, turn_enumT a (s1.heap.objs.size + 1) s1.heap.objs.size, ⟨⟨.none, he⟩, hit, Nat.succ_ne_self _⟩, fresh2, q⟩
end GX
end en_
section pla_
set_option maxRecDepth 100000
set_option maxHeartbeats 2000000
/-! sorted, min, max, sum, isinstance -/
namespace PL
open PySem PySem.Spec PyProof.Rows L2 GxR GenW LamX GX PySem.W
open Mir (ret bnd lift)
def isNone : D → Bool
  | .none => true
  | _ => false
def isTup1 : D → Bool
  | .tuple (_ :: _) => true
  | _ => false
def isPlainK : D → Bool
  | .none => false
  | .tuple _ => false
  | _ => true
def alikeB (ds : List D) : Bool := ds.all fun a => ds.all fun b => alike a b
def sortB (ds : List D) : Bool := ds.all isTup1 || ds.all isPlainK
theorem alikeB_ok {ds : List D} (h : alikeB ds = true) : AllAlike ds := fun d hd d' hd' => by
  have h1 := List.all_eq_true.mp h d hd
  exact List.all_eq_true.mp h1 d' hd'
theorem sortB_ok {ds : List D} (h : sortB ds = true) : Sortable ds := by
  unfold sortB at h
  rw [Bool.or_eq_true] at h
  rcases h with h | h
  · refine .inl fun d hd => ?_
    have := List.all_eq_true.mp h d hd
    cases d <;> simp [isTup1] at this
    rename_i xs
    cases xs with
    | nil => cases this
    | cons x r => exact ⟨x, r, rfl⟩
  · refine .inr fun d hd => ?_
    have := List.all_eq_true.mp h d hd
    cases d <;> simp [isPlainK] at this <;> exact ⟨(fun z => nomatch z), fun xs z => nomatch z⟩
def depB (ds : List D) : Bool := ds.all fun d => decide (d.depth ≤ 64)
def dSort (ds : List D) : Option (List D) := if alikeB ds && sortB ds && depB ds then some (ds.mergeSort (dataLe false id)) else none
def keyD (kf : D → Option D) (d : D) : D := (kf d).getD .none
def keyB (kf : D → Option D) (d : D) : Bool := match kf d with | some k => flatD k && decide (k.depth ≤ 64) | none => false
def dSortK (kf : D → Option D) (ds : List D) : Option (List D) := if ds.all (keyB kf) && alikeB (ds.map (keyD kf)) && sortB (ds.map (keyD kf)) then some (ds.mergeSort (dataLe false (keyD kf))) else none

/-! ### sorted(x), x a list, a tuple, a range -/
def tSort (K : Frag) (ts : TSrc) : TE := fun σ H Q => ts σ H fun xs H1 => ∃ ds : List D, DpAll K H1 xs ds ∧ AllAlike ds ∧ Sortable ds ∧ (∀ d ∈ ds, d.depth ≤ 64) ∧ ∀ q, H1 q = none → Q (.ref q) (upd H1 q (.lst (((xs.zip ds).mergeSort (dataLe false fun b => b.2)).map (·.1))))
theorem pe_sort {X : Cx} {k : Nat} {e : Expr} {ts : TSrc} {p pos : Pos} (hr : Room k X.A) (hg : Gl X "sorted") (hm : X.mg "sorted" = none) (hs : PSrc X e ts) (he : starEach [e] X.env = (false, eval e X.env) :: starEach [] X.env := by rfl) :
    PE X (.Call (.Name "sorted" p) [e] [] pos) (tSort X.K ts) := by
  refine ⟨fun pins s σ H Q I h => ?_⟩
  refine wpAny_Call_Name_kw (ld_blt I hg hm boot_sorted ?_)
  refine PyProof.Rows.callWith_builtin1 ?_ he rfl
  rw [he]
  refine Calls.spliced_cons (thn (hs pins s σ H _ I h) fun u s1 ⟨r, o, xs, H1, eu, hro, hcls, I1, hz, hq1, hcol⟩ => ?_)
  subst eu
  refine Calls.spliced_nil ?_
  obtain ⟨ds, hD, hal, hsk, hdp, hQ⟩ := hq1
  have hlen := dpAll_len hD
  refine call_function_entry_kw kind_sorted plain_sorted entry_sorted (args_sorted1 _) ?_
  unfold Builtin.«sorted»
  refine wpAny_bind (m := checkCount "sorted" 1 1 _) (wpAny_pure ?_)
  refine wpAny_bind (hcol X.A.in1 s1 _ _ (show X.A.handled = none from hr.hd) hro fun us h' tk hv hk' => ?_)
  have hul : us.length = xs.length := hv.length.symm
  refine wpAny_bind (wpAny_newList ?_ (by rw [hul]; exact hz))
  have I3 : L2.Inv X pins σ H1 { s1 with heap := h', toks := tk } := I1.kept hk'
  generalize hs3 : ({ s1 with heap := h', toks := tk } : Shared) = s3 at I3
  have h3 : s3.heap = h' := by rw [← hs3]
  show wpAny _ _ _ _ _ { s3 with heap := s3.heap.push (seqObj "list" us.toArray 0) }
  have each := each_of (K := X.K) I3 hD hv
  have hbs : (xs.zip ds).map (·.2) = ds := zip_snd hlen
  have hbl : (xs.zip ds).length = us.length := by rw [List.length_zip, ← hlen, Nat.min_self, hul]
  have hkb : (xs.zip ds).map (fun b => b.2) = ds := hbs
  refine wpAny_bind (wpAny_holding (wpAny_call_entry_kw slot_list_sort ⟨_, Heap.get?_push_size _ rfl, rfl⟩ entry_list_sort ?_ (args_list_sort _)))
  show wpAny _ _ (Builtin.«list.sort» ⟨[.ref s3.heap.objs.size], []⟩) _ _ _
  have er : EachIs (fun v (b : V × D) => ∃ as, Reads (sortingHeap (s3.heap.push (seqObj "list" us.toArray 0)) s3.heap.objs.size us) v b.2 as) us (xs.zip ds) := each.mono fun v b ⟨_, ⟨as, r⟩, _⟩ =>
    ⟨as, PyProof.Rows.Reads.keeps (fun c o e => sortingHeap_old (Nat.ne_of_lt (Heap.lt_size e)) (Heap.get?_push_of_some _ e)) r⟩
  refine list_sort_vals (κ := dataKind (sortingHeap (s3.heap.push (seqObj "list" us.toArray 0)) s3.heap.objs.size us) ((xs.zip ds).map fun b => b.2)) (s := { s3 with heap := s3.heap.push (seqObj "list" us.toArray 0) }) (vs := us) (n := 0) (Heap.get?_push_size _ rfl)
    (SortsAt.data (s := { s3 with heap := sortingHeap (s3.heap.push (seqObj "list" us.toArray 0)) s3.heap.objs.size us }) (each_map (R := fun v d => ∃ as, Reads (sortingHeap (s3.heap.push (seqObj "list" us.toArray 0)) s3.heap.objs.size us) v d as) (fun b : V × D => b.2) er) (by rw [hkb]; exact hal) (by rw [hkb]; exact hsk) (fun d hd => ?_)) (by rw [hul]; exact hz) ⟨_, rfl, wpAny_pure ⟨_, rfl, ?_⟩⟩
  · rw [hkb] at hd
    have h1 := hdp d hd
    have h2 := hr.un
    show X.A.units + 1 + 1 + _ < _
    omega
  · have ko : EachIs (fun v (b : V × D) => RelV b.1 v) (sortVals (dataKind (sortingHeap (s3.heap.push (seqObj "list" us.toArray 0)) s3.heap.objs.size us) ((xs.zip ds).map fun b => b.2)) false us us) ((xs.zip ds).mergeSort (dataLe false fun b => b.2)) :=
      sortVals_data (enc := fun b : V × D => b.2) false (each.mono fun v b h => h.1) er (by rw [hkb]; exact hal)
    have hvals := each_vals ko fun u b h => h
    have hfr : H1 s3.heap.objs.size = none := I3.hok.fresh (Nat.le_refl _)
    have hl2 : (((xs.zip ds).mergeSort (dataLe false fun b => b.2)).map (·.1)).length ≤ sizeLine := by
      rw [List.length_map, List.length_mergeSort, hbl, hul]; exact hz
    obtain ⟨c4, hc4⟩ := sortedHeap_at (h := s3.heap.push (seqObj "list" us.toArray 0)) (a := s3.heap.objs.size) (n := 0) (vs := us) (out := (sortVals (dataKind (sortingHeap (s3.heap.push (seqObj "list" us.toArray 0)) s3.heap.objs.size us) ((xs.zip ds).map fun b => b.2)) false us us).toArray) (Heap.get?_push_size _ rfl)
    have up : ∀ b o, s3.heap.get? b = some o → (sortedHeap (s3.heap.push (seqObj "list" us.toArray 0)) s3.heap.objs.size us (sortVals (dataKind (sortingHeap (s3.heap.push (seqObj "list" us.toArray 0)) s3.heap.objs.size us) ((xs.zip ds).map fun b => b.2)) false us us).toArray).get? b = some o := fun b o e =>
      (sortedHeap_old (Nat.ne_of_lt (Heap.lt_size e)) (Heap.lt_size (Heap.get?_push_of_some _ e))).trans (Heap.get?_push_of_some _ e)
    refine ⟨.ref s3.heap.objs.size, _, I3.laid (t' := s3.toks) (o := .lst (((xs.zip ds).mergeSort (dataLe false fun b => b.2)).map (·.1))) up (Nat.le_refl _) ⟨hl2, _, c4, hvals, hc4⟩, rfl, hQ _ hfr⟩
section
variable {M : Type → Type} [Mir M]
variable {μ : Md} {g : Cw} {ρ : Env} {ω : Wld} {B H : Hp} {v u : V} {d : D} {φ : Fm} {σ : L2.St}
variable {a b : Expr} {ma mb : M D} {pos p : Pos}
/-- what sorted walks -/
def ESrc (μ : Md) (g : Cw) (ρ : Env) (e : Expr) (m : M (List D)) : Prop := ∀ X, CxIs μ g X → PSrc X e (rd μ g ρ (RA μ) m)
def srcA (K : Frag) (te : TE) : TSrc := fun σ H Q => te σ H fun x H1 => ∃ a xs, x = .ref a ∧ (SqT K H1 a xs ∨ SqL K H1 a xs) ∧ Q xs H1
theorem src_any {X : Cx} {e : Expr} {te : TE} (he : PE X e te) : PSrc X e (srcA X.K te) := by
  intro pins s σ H Q I h
  refine thn (he.run pins s σ H _ I h) fun u s1 ⟨x, H1, I1, r1, a, xs, ex, hs, q⟩ => ?_
  subst ex
  cases r1
  rcases hs with hs | hs
  · obtain ⟨its, rv, ⟨o, h1, h2, n, h4⟩, hz⟩ := I1.tuple hs
    refine ⟨a, o, xs, H1, rfl, h1, (by rw [h2]; exact fun z => by cases z), I1, hz, q, fun A s2 Q2 E2 _ ho hQ => ?_⟩
    exact wpAny_collect_seq a (.inr rfl) ho h2 h4 (fun h' hk => by simpa using hQ its h' s2.toks rv hk) (by rw [List.size_toArray, ← rv.length]; exact hz)
  · obtain ⟨its, rv, ⟨o, n, h1, h2, h3, h4⟩, hz⟩ := I1.list hs
    refine ⟨a, o, xs, H1, rfl, h1, (by rw [h2]; exact fun z => by cases z), I1, hz, q, fun A s2 Q2 E2 _ ho hQ => ?_⟩
    exact wpAny_collect_seq a (.inl rfl) ho h2 h4 (fun h' hk => by simpa using hQ its h' s2.toks rv hk) (by rw [List.size_toArray, ← rv.length]; exact hz)
theorem _root_.GX.PSrc.imp {X : Cx} {e : Expr} {t t' : TSrc} (h : PSrc X e t) (i : ∀ σ H Q, t' σ H Q → t σ H Q) : PSrc X e t' := fun pins s σ H Q I q => h pins s σ H Q I (i σ H Q q)
theorem ESrc.seq (ha : EB μ g ρ a ma) : ESrc μ g ρ a (bnd ma fun x => lift (dItems x)) := fun X hX => GX.PSrc.imp (src_any (ha X hX)) fun σ H Q ⟨φ, B, k, hW, F, hm, hQ⟩ => rd.st hW F hm fun x v B1 H1 hk1 s1 hr1 => by
  obtain ⟨ds, hds, hk⟩ := Mir.wp_lift hk1
  obtain ⟨a, vs, e, h1, h2⟩ := hr1.sq s1.bsub hds
  exact ⟨a, vs, e, by rw [hX.K]; exact h1, hQ _ _ _ _ hk s1 h2⟩
instance {i j : Int} : Decidable (RgOk i j) := by unfold RgOk; infer_instance
def dRg (i j : Int) : Option (List D) := if RgOk i j then some ((List.range (j - i).toNat).map fun n => .int (i + (n : Nat))) else none
theorem rg_dp {i j : Int} {B : Hp} : DpAll μ.K B (rgV i j) ((List.range (j - i).toNat).map fun n => .int (i + (n : Nat))) := by
  unfold rgV
  generalize List.range _ = l
  induction l with
  | nil => exact .nil
  | cons n l ih => exact .cons (.int _) ih
theorem ESrc.range1 (hg : g.scope.names.lookup ("range" : Str) = some .globalImplicit) (hm : μ.mg "range" = none) (ha : EX μ g ρ a ma) (h1 : ∀ env, starEach [a] env = (false, eval a env) :: starEach [] env := by intro _; rfl) :
    ESrc μ g ρ (.Call (.Name "range" p) [a] [] pos) (bnd ma fun x => lift ((dInt x).bind fun j => dRg 0 j)) := fun X hX => GX.PSrc.imp (src_rng (prg_1 (hX.gl hg) (by rw [hX.mg]; exact hm) (ha X hX) (h1 _))) fun σ H Q ⟨φ, B, k, hW, F, hm, hQ⟩ => rd.st hW F hm fun x v B1 H1 hk1 s1 hr1 => by
  obtain ⟨ds, hds, hk⟩ := Mir.wp_lift hk1
  obtain ⟨j, hj, hds⟩ := Option.bind_eq_some_iff.mp hds
  cases x <;> simp [dInt] at hj
  subst hj
  unfold dRg at hds
  split at hds
  · rename_i hr
    cases hds
    exact ⟨_, dp_int hr1, hr, hQ _ _ _ _ hk s1 rg_dp⟩
  · cases hds
theorem ESrc.range2 (hg : g.scope.names.lookup ("range" : Str) = some .globalImplicit) (hm : μ.mg "range" = none) (ha : EX μ g ρ a ma) (hb : EX μ g ρ b mb) (h1 : ∀ env, starEach [a, b] env = (false, eval a env) :: starEach [b] env := by intro _; rfl) (h2 : ∀ env, starEach [b] env = (false, eval b env) :: starEach [] env := by intro _; rfl) (hp : ∀ env, (backTo pos (starEach [b] env)).any (·.1) = false := by intro _; rfl) :
    ESrc μ g ρ (.Call (.Name "range" p) [a, b] [] pos) (bnd ma fun x => bnd mb fun y => lift ((dInt x).bind fun i => (dInt y).bind fun j => dRg i j)) := fun X hX => GX.PSrc.imp (src_rng (prg_2 (hX.gl hg) (by rw [hX.mg]; exact hm) (ha X hX) (hb X hX) (h1 _) (h2 _) (hp _))) fun σ H Q ⟨φ, B, k, hW, F, hm, hQ⟩ =>
  rd.st hW F hm fun x v B1 H1 hk1 s1 hr1 => rd.st hW (F.go s1) hk1 fun y w B2 H2 hk2 s2 hr2 => by
  obtain ⟨ds, hds, hk⟩ := Mir.wp_lift hk2
  obtain ⟨i, hi, hds⟩ := Option.bind_eq_some_iff.mp hds
  obtain ⟨j, hj, hds⟩ := Option.bind_eq_some_iff.mp hds
  cases x <;> simp [dInt] at hi
  cases y <;> simp [dInt] at hj
  subst hi hj
  unfold dRg at hds
  split at hds
  · rename_i hr
    cases hds
    exact ⟨_, _, dp_int hr1, dp_int hr2, hr, hQ _ _ _ _ hk (s1.trans s2) rg_dp⟩
  · cases hds
theorem dpAll_pairs : ∀ {ps : List (V × D)}, (∀ q ∈ ps, Dp μ.K B q.1 q.2) → DpAll μ.K B (ps.map (·.1)) (ps.map (·.2))
  | [], _ => .nil
  | q :: ps, h => .cons (h q List.mem_cons_self) (dpAll_pairs fun r hr => h r (List.mem_cons_of_mem _ hr))
theorem dpAll_zip : ∀ {vs : List V} {ds : List D}, DpAll μ.K B vs ds → ∀ q ∈ vs.zip ds, Dp μ.K B q.1 q.2
  | _, _, .nil, q, h => by simp at h
  | _, _, .cons h t, q, hq => by
    rw [List.zip_cons_cons] at hq
    rcases List.mem_cons.mp hq with e | hq
    · subst e; exact h
    · exact dpAll_zip t q hq
theorem sort_dp (k : D → D) {vs : List V} {ds : List D} (h : DpAll μ.K B vs ds) : DpAll μ.K B (((vs.zip ds).mergeSort (dataLe false fun b => k b.2)).map (·.1)) (ds.mergeSort (dataLe false k)) := by
  have e : ((vs.zip ds).mergeSort (dataLe false fun b => k b.2)).map (·.2) = ds.mergeSort (dataLe false k) := by
    have q := List.map_mergeSort (f := fun x : V × D => x.2) (r := dataLe false fun b : V × D => k b.2) (s := dataLe false k) (l := vs.zip ds) (fun a _ b _ => rfl)
    rw [q, zip_snd (dpAll_len h)]
  rw [← e]
  exact dpAll_pairs fun q hq => dpAll_zip h q ((List.mergeSort_perm _ _).mem_iff.mp hq)
theorem EL.sorted {ms : M (List D)} (hg : g.scope.names.lookup ("sorted" : Str) = some .globalImplicit) (hm : μ.mg "sorted" = none) (hs : ESrc μ g ρ a ms) (h1 : ∀ env, starEach [a] env = (false, eval a env) :: starEach [] env := by intro _; rfl) :
    EL μ g ρ (.Call (.Name "sorted" p) [a] [] pos) (bnd ms fun ds => lift (dSort ds)) := fun X hX => (pe_sort hX.room (hX.gl hg) (by rw [hX.mg]; exact hm) (hs X hX) (h1 _)).imp fun σ H Q ⟨φ, B, k, hW, F, hm, hQ⟩ => rd.st hW F hm fun ds vs B1 H1 hk1 s1 hr1 => by
  obtain ⟨es, hes, hk⟩ := Mir.wp_lift hk1
  unfold dSort at hes
  split at hes
  · rename_i hc
    cases hes
    rw [Bool.and_eq_true, Bool.and_eq_true] at hc
    refine ⟨ds, by rw [hX.K]; exact DpAll.mono s1.bsub hr1, alikeB_ok hc.1.1, sortB_ok hc.1.2, fun d hd => by simpa using List.all_eq_true.mp hc.2 d hd, fun q hq => ?_⟩
    obtain ⟨s2, h2⟩ := F.lstL s1 hq (sort_dp id hr1)
    exact hQ _ _ _ _ hk s2 h2
  · cases hes

/-! ### sorted(.., key=lambda x: ..) -/
def LEo (sc : Scope) (vars : List (Str × D)) (e : Expr) (m : Option D) : Prop := ∀ k, m = some k → LE sc vars e k
def LEs' (sc : Scope) (vars : List (Str × D)) (es : List Expr) (m : Option (List D)) : Prop := ∀ ks, m = some ks → LEs sc vars es ks ∧ ks.length ≤ es.length
variable {sc : Scope} {vars : List (Str × D)} {x : Str}
theorem leo_name (hx : vars.lookup x = some d) (hd : (x == ("__debug__" : Str)) = false := by decide) (hcd : (x == ("__classdict__" : Str)) = false := by decide) : LEo sc vars (.Name x pos) (some d) := fun k e => by cases e; exact le_name hx hd hcd
theorem leo_int {i : Int} {j : Nat} : LEo sc vars (.Constant (.int i) j pos) (some (.int i)) := fun k e => by cases e; exact le_int
theorem leo_neg {m : Option D} (h : LEo sc vars a m) : LEo sc vars (.UnaryOp .USub a pos) (m.bind dNeg) := fun k e => by
  obtain ⟨x, h1, h2⟩ := Option.bind_eq_some_iff.mp e
  cases x <;> simp [dNeg] at h2
  subst h2
  exact le_neg (h _ h1)
def dIxN (x y : D) : Option D := (dItems x).bind fun ds => (dInt y).bind fun i => if 0 ≤ i ∧ i < 2 ^ 62 then ds[i.toNat]? else none
theorem leo_ix {m n : Option D} (h : LEo sc vars a m) (h' : LEo sc vars b n) (hs : PlainIx b) : LEo sc vars (.Subscript a b pos) (m.bind fun x => n.bind fun y => dIxN x y) := fun k e => by
  obtain ⟨x, h1, e⟩ := Option.bind_eq_some_iff.mp e
  obtain ⟨y, h2, e⟩ := Option.bind_eq_some_iff.mp e
  obtain ⟨ds, h3, e⟩ := Option.bind_eq_some_iff.mp e
  obtain ⟨i, h4, e⟩ := Option.bind_eq_some_iff.mp e
  split at e
  · rename_i hi
    cases y <;> simp [dInt] at h4
    subst h4
    have hx := h _ h1
    refine le_ix (ds := ds) ?_ (h' _ h2) hi.1 hi.2 e hs
    cases x <;> simp [dItems] at h3
    · subst h3; exact .inr hx
    · subst h3; exact .inl hx
  · cases e
theorem leos_nil : LEs' sc vars [] (some []) := fun ks e => by cases e; exact ⟨les_nil, Nat.le_refl _⟩
theorem leos_cons {es : List Expr} {m : Option D} {ms : Option (List D)} (h : LEo sc vars a m) (hr : LEs' sc vars es ms) (hs : ∀ env, starEach (a :: es) env = (false, eval a env) :: starEach es env := by intro _; rfl) : LEs' sc vars (a :: es) (m.bind fun x => ms.bind fun xs => some (x :: xs)) := fun ks e => by
  obtain ⟨x, h1, e⟩ := Option.bind_eq_some_iff.mp e
  obtain ⟨xs, h2, e⟩ := Option.bind_eq_some_iff.mp e
  cases e
  obtain ⟨h3, h4⟩ := hr _ h2
  exact ⟨les_cons (h _ h1) h3 hs, by simp; exact h4⟩
theorem leo_tup {es : List Expr} {ms : Option (List D)} {x1 : Nat} (h : LEs' sc vars es ms) (hz : es.length ≤ 1000 := by decide) : LEo sc vars (.Tuple es x1 pos) (ms.bind fun xs => some (.tuple xs)) := fun k e => by
  obtain ⟨xs, h1, e⟩ := Option.bind_eq_some_iff.mp e
  cases e
  obtain ⟨h2, h3⟩ := h _ h1
  exact le_tup h2 (Nat.le_trans h3 hz)
theorem EL.sortK {ms : M (List D)} {params : Arguments} {body : Expr} {scope : Scope} {lpos kpos : Pos} {caps : List (Str × D)} {kf : D → Option D} (hg : g.scope.names.lookup ("sorted" : Str) = some .globalImplicit) (hm : μ.mg "sorted" = none) (hc : g.hc = true) (hq : μ.qs g.P lpos.line lpos.col = g.qual ++ "<lambda>") (L : Lam1 g.scope scope x)
    (hs : ESrc μ g ρ a ms) (hcaps : ∀ y dy, caps.lookup y = some dy → scope.names.lookup y = some .free ∧ ∃ i : Nat, g.N[i]? = some y ∧ ρ[i]? = some (some (.dat dy))) (hk : ∀ d, LEo scope ((x, d) :: caps) body (kf d))
    (hdef : ∀ env, defaultsOf params env = ([], [])) (hbind : ∀ (q : Str) (cl : List (Str × Addr)) (pm cd ctv v : Value), bindArgs (PySem.W.kla_fn "<lambda>" q params body scope cl pm cd ctv) ⟨[v], []⟩ = pure [(x, v)])
    (he : ∀ env, backTo pos (starEach [a] env) = (false, eval a env) :: backTo pos (starEach [] env) := by intro _; rfl) (hpl : ∀ env, (backTo pos (starEach [a] env)).any (·.1) = false := by intro _; rfl)
    (hall : ∀ env, (backToKw pos (keywordEach [⟨some "key", .Lambda params body scope lpos, kpos⟩] env)).all (·.1.isSome) = true := by intro _; rfl) (hnone : ∀ env, (backToKw pos (keywordEach [⟨some "key", .Lambda params body scope lpos, kpos⟩] env)).any (·.1.isNone) = false := by intro _; rfl)
    (hks : ∀ env, (backToKw pos (keywordEach [⟨some "key", .Lambda params body scope lpos, kpos⟩] env)).filterMap (·.1) = [Str.ofString "key"] := by intro _; rfl) :
    EL μ g ρ (.Call (.Name "sorted" p) [a] [⟨some "key", .Lambda params body scope lpos, kpos⟩] pos) (bnd ms fun ds => lift (dSortK kf ds)) := fun X hX => by
  obtain ⟨hqq, hcode, hTB, hP⟩ := hX.code hc
  refine (pe_sortK (qs := μ.qs g.P) hX.room (hX.gl hg) (by rw [hX.mg]; exact hm) (by rw [hX.base, hX.mg]; exact hTB) hcode (by rw [hqq]; exact hq) (by rw [hX.scope]; exact L) (hdef _) hbind (hs X hX) (he _) (hpl _) (hall _) (hnone _) (hks _)).imp fun σ H Q ⟨φ, B, k, hW, F, hm, hQ⟩ => rd.st hW F hm fun ds vs B1 H1 hk1 s1 hr1 => ?_
  obtain ⟨es, hes, hk'⟩ := Mir.wp_lift hk1
  unfold dSortK at hes
  split at hes
  case isFalse => cases hes
  rename_i hcond
  cases hes
  rw [Bool.and_eq_true, Bool.and_eq_true] at hcond
  refine ⟨s1.tabs _ hP, ds, caps, keyD kf, by rw [hX.K]; exact DpAll.mono s1.bsub hr1, fun y dy hy => ?_, fun d hd => ?_, alikeB_ok hcond.1.2, sortB_ok hcond.2, fun H2 ht q hq => ?_⟩
  · obtain ⟨h1, i, h2, h3⟩ := hcaps y dy hy
    obtain ⟨v, h4, h5⟩ := F.dat h3
    exact ⟨h1, i, v, by rw [hX.N]; exact h2, h4, by rw [hX.K]; exact Dp.mono s1.bsub (Dp.mono s1.sub h5)⟩
  · have h1 := List.all_eq_true.mp hcond.1.1 d hd
    unfold keyB at h1
    unfold keyD
    cases q : kf d with
    | none => rw [q] at h1; cases h1
    | some kk =>
      rw [q] at h1
      simp only [Bool.and_eq_true, decide_eq_true_eq] at h1
      exact ⟨hk d kk q, h1.1, h1.2⟩
  · have s2 := s1.tbd hP ht
    obtain ⟨s3, h3⟩ := F.lstL s2 hq (sort_dp (keyD kf) hr1)
    exact hQ _ _ _ _ hk' s3 h3

/-! ### isinstance -/
def dIs (T : String) (d : D) : Option Bool :=
  if T = "int" then some (match d with | .int _ => true | .bool _ => true | _ => false)
  else if T = "bool" then some (match d with | .bool _ => true | _ => false)
  else if T = "str" then some (match d with | .str _ => true | _ => false)
  else if T = "tuple" then some (match d with | .tuple _ => true | _ => false)
  else if T = "list" then some (match d with | .list _ => true | _ => false)
  else none
def rIsD (K : Frag) (T : String) : List V → Hp → VK → Prop := fun xs H Q => ∃ x d b, xs = [x, .ty T] ∧ Dp K H x d ∧ dIs T d = some b ∧ Q (.bl b) H
theorem cr_isD {X : Cx} {T : String} : CallR X (.builtin "isinstance") (rIsD X.K T) := by
  intro pins s σ H xs us Q I r h
  obtain ⟨x, d, b, rfl, hd, hb, q⟩ := h
  obtain ⟨u1, u2, rfl, r1, r2⟩ := vals2 r
  cases (show u2 = Value.type T from r2)
  obtain ⟨as, hr⟩ := Dp.reads I d x u1 hd r1
  unfold dIs at hb
  split at hb
  · rename_i hT; subst hT
    refine isinstance_int_data hr fun tk _ => ⟨.bl b, H, I.tok tk, ?_, q⟩
    cases hb
    cases d <;> rfl
  split at hb
  · rename_i hT; subst hT
    refine isinstance_bool_data hr fun tk _ => ⟨.bl b, H, I.tok tk, ?_, q⟩
    cases hb
    cases d <;> rfl
  split at hb
  · rename_i hT; subst hT
    refine isinstance_str_data hr fun tk _ => ⟨.bl b, H, I.tok tk, ?_, q⟩
    cases hb
    cases d <;> rfl
  split at hb
  · rename_i hT; subst hT
    refine isinstance_tuple_data hr fun tk _ => ⟨.bl b, H, I.tok tk, ?_, q⟩
    cases hb
    cases d <;> rfl
  split at hb
  · rename_i hT; subst hT
    refine isinstance_list_data hr fun tk _ => ⟨.bl b, H, I.tok tk, ?_, q⟩
    cases hb
    cases d <;> rfl
  · cases hb
theorem EX.isinst {T : String} {n : Str} {p2 : Pos} (hg : g.scope.names.lookup ("isinstance" : Str) = some .globalImplicit) (hm : μ.mg "isinstance" = none) (ha : EB μ g ρ a ma) (hg2 : g.scope.names.lookup n = some .globalImplicit) (hm2 : μ.mg n = none) (hv : bootBuiltins n = some (.type T)) (hi : bootBuiltins "isinstance" = some (.builtin "isinstance") := by rfl)
    (hn : n ≠ "__name__" := by decide) (hd : (n == ("__debug__" : Str)) = false := by decide) (h1 : ∀ env, starEach [a, .Name n p2] env = (false, eval a env) :: starEach [.Name n p2] env := by intro _; rfl) :
    EX μ g ρ (.Call (.Name "isinstance" p) [a, .Name n p2] [] pos) (bnd ma fun x => lift ((dIs T x).map .bool)) := fun X hX =>
  (pe_callB (r := rIsD X.K T) cr_isD (hX.gl hg) (by rw [hX.mg]; exact hm) hi (pa_cons (ha X hX) (pa_cons (pe_bltn (v := .ty T) (hX.gl hg2) (by rw [hX.mg]; exact hm2) hv rfl hn hd) pa_nil) (h1 _)) (by decide) (by decide) (h1 _)).imp fun σ H Q ⟨φ, B, k, hW, F, hm, hQ⟩ => rd.st hW F hm fun d v B1 H1 hk1 s1 hr1 => by
    obtain ⟨z, hz, hk⟩ := Mir.wp_lift hk1
    obtain ⟨b, hb, rfl⟩ := Option.map_eq_some_iff.mp hz
    exact ⟨v, d, b, rfl, by rw [hX.K]; exact hr1.dp s1.bsub, hb, hQ _ _ _ _ hk s1 (.bl b)⟩

/-! ### min, max, sum -/
def minB (ds : List D) : Bool := alikeB ds && ds.all (fun d => !isNone d) && decide (PyData.depthAll ds ≤ 60)
theorem minB_ok {ds : List D} (h : minB ds = true) : AlikeAll ds ∧ PyData.depthAll ds ≤ 60 := by
  unfold minB at h
  rw [Bool.and_eq_true, Bool.and_eq_true] at h
  refine ⟨⟨fun x hx y hy => alikeB_ok h.1.1 x hx y hy, fun x hx z => ?_⟩, by simpa using h.2⟩
  have := List.all_eq_true.mp h.1.2 x hx
  rw [z] at this
  cases this
def dMin (x : D) : Option D := (dItems x).bind fun ds => match ds with
  | [] => none
  | d :: r => if minB (d :: r) then some (minD d r) else none
def dMax (x : D) : Option D := (dItems x).bind fun ds => match ds with
  | [] => none
  | d :: r => if minB (d :: r) then some (maxD d r) else none
def rMinD (K : Frag) (f : D → List D → D) : List V → Hp → VK → Prop := fun xs H Q => ∃ a vs d r, xs = [.ref a] ∧ (SqT K H a vs ∨ SqL K H a vs) ∧ DpAll K H vs (d :: r) ∧ minB (d :: r) = true ∧ ∀ (i : Nat) v, vs[i]? = some v → (d :: r)[i]? = some (f d r) → Q v H
theorem min_pick {X : Cx} {pins : List (Addr × Obj)} {s : Shared} {H : Hp} {vs : List V} {ds : List D} {its : List Value} {z : D} {Q : VK} {i : Nat} {w : Value} {h' : Heap} {tk : Nat} {bs : List Addr} (I : L2.Inv X pins σ H s) (hd : DpAll X.K H vs ds) (rv : Vals vs its)
    (hQ : ∀ (i : Nat) v, vs[i]? = some v → ds[i]? = some z → Q v H) (hi : its.toArray[i]? = some w) (hw : Reads h' w z bs) (hk : ∀ b o, s.heap.get? b = some o → h'.get? b = some o) : L2.EP X pins σ Q w { s with heap := h', toks := tk } := by
  have hi : its[i]? = some w := by simpa using hi
  have hlt := (List.getElem?_eq_some_iff.mp hi).1
  have hv : i < vs.length := by rw [rv.length]; exact hlt
  have hdl : i < ds.length := by rw [← dpAll_len hd]; exact hv
  obtain ⟨v, h1, h2⟩ := dpAll_get hd (List.getElem?_eq_getElem hdl)
  obtain ⟨w', h3, h4⟩ := rv.get h1
  rw [hi] at h3
  cases h3
  obtain ⟨as, h5⟩ := Dp.reads I _ v w h2 h4
  have h6 := (Reads.unique (PyProof.Rows.Reads.keeps hk h5) _ _ hw).1
  exact ⟨v, H, I.kept hk, h4, hQ i v h1 (by rw [List.getElem?_eq_getElem hdl, h6])⟩
theorem cr_minD {X : Cx} {k : Nat} (hr : Room k X.A) : CallR X (.builtin "min") (rMinD X.K minD) := by
  intro pins s σ H xs us Q I r h
  obtain ⟨a, vs, d, ds, rfl, hs, hd, hb, hQ⟩ := h
  obtain ⟨u, rfl, rx⟩ := vals1 r
  cases rx
  obtain ⟨h1, h2⟩ := minB_ok hb
  have hu : X.A.units + 1 + PyData.depthAll (d :: ds) < cLine := by have := hr.un; omega
  rcases hs with hs | hs
  · obtain ⟨its, rv, ht, hz⟩ := I.tuple hs
    obtain ⟨as, ra⟩ := Dp.readsAll I _ vs its hd rv
    exact min_tuple_data hr.hd (show s.heap.IsTuple a its.toArray from ht) (by simpa using ra) h1 hu fun i w h' tk bs hi hw hk => min_pick I hd rv hQ hi hw hk
  · obtain ⟨its, rv, ht, hz⟩ := I.list hs
    obtain ⟨as, ra⟩ := Dp.readsAll I _ vs its hd rv
    exact min_list_data hr.hd ht.isList (by simpa using ra) h1 hu fun i w h' tk bs hi hw hk => min_pick I hd rv hQ hi hw hk
theorem cr_maxD {X : Cx} {k : Nat} (hr : Room k X.A) : CallR X (.builtin "max") (rMinD X.K maxD) := by
  intro pins s σ H xs us Q I r h
  obtain ⟨a, vs, d, ds, rfl, hs, hd, hb, hQ⟩ := h
  obtain ⟨u, rfl, rx⟩ := vals1 r
  cases rx
  obtain ⟨h1, h2⟩ := minB_ok hb
  have hu : X.A.units + 1 + PyData.depthAll (d :: ds) < cLine := by have := hr.un; omega
  rcases hs with hs | hs
  · obtain ⟨its, rv, ht, hz⟩ := I.tuple hs
    obtain ⟨as, ra⟩ := Dp.readsAll I _ vs its hd rv
    exact max_tuple_data hr.hd (show s.heap.IsTuple a its.toArray from ht) (by simpa using ra) h1 hu fun i w h' tk bs hi hw hk => min_pick I hd rv hQ hi hw hk
  · obtain ⟨its, rv, ht, hz⟩ := I.list hs
    obtain ⟨as, ra⟩ := Dp.readsAll I _ vs its hd rv
    exact max_list_data hr.hd ht.isList (by simpa using ra) h1 hu fun i w h' tk bs hi hw hk => min_pick I hd rv hQ hi hw hk
theorem ok_minD {f : D → List D → D} {F : D → Option D} (hF : ∀ x z, F x = some z → ∃ d r, dItems x = some (d :: r) ∧ minB (d :: r) = true ∧ z = f d r) : C1Ok μ F (rMinD μ.K f) := fun ω B H x d z Q b hx hz hQ => by
  obtain ⟨d', r, h1, h2, rfl⟩ := hF d z hz
  obtain ⟨a, vs, rfl, h5, h6⟩ := hx.sq b.bsub h1
  refine ⟨a, vs, d', r, rfl, h5, DpAll.mono b.bsub h6, h2, fun i v h7 h8 => hQ _ _ _ b ?_⟩
  obtain ⟨v', h9, h10⟩ := dpAll_get h6 h8
  rw [h7] at h9
  cases h9
  exact h10
theorem EX.min (hg : g.scope.names.lookup ("min" : Str) = some .globalImplicit) (hm : μ.mg "min" = none) (ha : EB μ g ρ a ma) (h1 : ∀ env, starEach [a] env = (false, eval a env) :: starEach [] env := by intro _; rfl) : EX μ g ρ (.Call (.Name "min" p) [a] [] pos) (bnd ma fun d => lift (dMin d)) :=
  EX.callB (r := rMinD μ.K minD) (fun X hX => hX.K ▸ cr_minD hX.room) (ok_minD fun x z hz => by
    unfold dMin at hz
    obtain ⟨ds, h1, hz⟩ := Option.bind_eq_some_iff.mp hz
    cases ds with
    | nil => cases hz
    | cons d r =>
      simp only at hz
      split at hz
      · cases hz; exact ⟨d, r, h1, by assumption, rfl⟩
      · cases hz) hg hm rfl ha (h1 := h1)
theorem EX.max (hg : g.scope.names.lookup ("max" : Str) = some .globalImplicit) (hm : μ.mg "max" = none) (ha : EB μ g ρ a ma) (h1 : ∀ env, starEach [a] env = (false, eval a env) :: starEach [] env := by intro _; rfl) : EX μ g ρ (.Call (.Name "max" p) [a] [] pos) (bnd ma fun d => lift (dMax d)) :=
  EX.callB (r := rMinD μ.K maxD) (fun X hX => hX.K ▸ cr_maxD hX.room) (ok_minD fun x z hz => by
    unfold dMax at hz
    obtain ⟨ds, h1, hz⟩ := Option.bind_eq_some_iff.mp hz
    cases ds with
    | nil => cases hz
    | cons d r =>
      simp only at hz
      split at hz
      · cases hz; exact ⟨d, r, h1, by assumption, rfl⟩
      · cases hz) hg hm rfl ha (h1 := h1)
def dInts : List D → Option (List Int)
  | [] => some []
  | .int i :: r => (dInts r).map (i :: ·)
  | _ :: _ => none
theorem dInts_ok : ∀ {ds : List D} {ns : List Int}, dInts ds = some ns → ds = ns.map .int
  | [], _, h => by cases h; rfl
  | d :: r, ns, h => by
    cases d <;> simp [dInts] at h
    obtain ⟨ms, h1, rfl⟩ := h
    rw [dInts_ok h1]; rfl
def dSum : D → Option D
  | .list ds => (dInts ds).map fun ns => .int ns.sum
  | _ => none
theorem EX.sum (hg : g.scope.names.lookup ("sum" : Str) = some .globalImplicit) (hm : μ.mg "sum" = none) (ha : EB μ g ρ a ma) (h1 : ∀ env, starEach [a] env = (false, eval a env) :: starEach [] env := by intro _; rfl) : EX μ g ρ (.Call (.Name "sum" p) [a] [] pos) (bnd ma fun d => lift (dSum d)) :=
  EX.callB (r := rSum μ.K) (fun X hX => hX.K ▸ cr_sum hX.calm) (fun ω B H x d z Q b hx hz hQ => by
    cases d <;> simp only [dSum] at hz <;> first | (cases hz; done) | skip
    obtain ⟨ns, h1, rfl⟩ := Option.map_eq_some_iff.mp hz
    obtain ⟨a, vs, rfl, h5, h6⟩ := hx.lst b.bsub
    rw [dInts_ok h1] at h6
    rw [dpAll_ints h6] at h5
    exact ⟨a, ns, rfl, h5, hQ _ _ _ b (.int _)⟩) hg hm rfl ha (h1 := h1)
end
end PL
end pla_
section plb_
set_option maxRecDepth 100000
set_option maxHeartbeats 2000000
/-! more of lists; enumerate, zip, reversed; len(set(..)); max(a, b); a, b = x, y -/
namespace PL
open PySem PySem.Spec PyProof.Rows L2 GxR GenW LamX GX PySem.W
open Mir (ret bnd lift)
section
variable {M : Type → Type} [Mir M]
variable {μ : Md} {g : Cw} {ρ : Env} {ω : Wld} {B H : Hp} {v u : V} {d : D} {φ : Fm} {σ : L2.St}
variable {a b e : Expr} {ma mb : M D} {pos p : Pos}

/-! ### lists * , + -/
def dRep (ds : List D) (n : D) : Option (List D) := (dInt n).bind fun k => if -(2 ^ 63) ≤ k ∧ k < 2 ^ 63 ∧ ds.length * k.toNat ≤ sizeLine then some (List.replicate k.toNat ds).flatten else none
theorem dpAll_rep {vs : List V} {ds : List D} (h : DpAll μ.K B vs ds) : ∀ n : Nat, DpAll μ.K B (List.replicate n vs).flatten (List.replicate n ds).flatten
  | 0 => .nil
  | n + 1 => by
    rw [List.replicate_succ, List.replicate_succ, List.flatten_cons, List.flatten_cons]
    exact dpAll_app h (dpAll_rep h n)
theorem EL.rep {ml : M (List D)} (ha : EL μ g ρ a ml) (hb : EX μ g ρ b mb) : EL μ g ρ (.BinOp a .Mult b pos) (bnd ml fun ds => bnd mb fun n => lift (dRep ds n)) := fun X hX => (pe_op op_rep (ha X hX) (hb X hX)).imp fun σ H Q ⟨φ, B, k, hW, F, hm, hQ⟩ =>
  rd.st hW F hm fun ds v B1 H1 hk1 s1 ⟨l, vs, ev, hl, hn, hb, na, hd⟩ => rd.st hW (F.go s1) hk1 fun n w B2 H2 hk2 s2 hr2 => by
    obtain ⟨es, hes, hk⟩ := Mir.wp_lift hk2
    unfold dRep at hes
    obtain ⟨kk, h1, hes⟩ := Option.bind_eq_some_iff.mp hes
    cases n <;> simp [dInt] at h1
    subst h1
    split at hes
    case isFalse => cases hes
    rename_i hc
    cases hes
    subst ev
    refine ⟨l, _, vs, rfl, dp_int hr2, s2.ext _ _ hl nt_lst na, hc.1, hc.2.1, by rw [dpAll_len hd]; exact hc.2.2, fun q hq => ?_⟩
    obtain ⟨s3, h3⟩ := F.lstL (s1.trans s2) hq (dpAll_rep (DpAll.mono s2.sub hd) _)
    exact hQ _ _ _ _ hk s3 h3
/-- a list that stands, to be read -/
abbrev RY (μ : Md) : Wld → Hp → Hp → Hp → List D → V → Prop := fun ω _ B H ds v => ∃ a vs, v = .ref a ∧ H a = some (.lst vs) ∧ ¬ ω.adr a ∧ DpAll μ.K B vs ds
def EY (μ : Md) (g : Cw) (ρ : Env) (e : Expr) (m : M (List D)) : Prop := ∀ X, CxIs μ g X → PE X e (rd μ g ρ (RY μ) m)
theorem EL.ey {m : M (List D)} (h : EL μ g ρ e m) : EY μ g ρ e m := fun X hX => (h X hX).imp fun σ H Q ⟨φ, B, k, hW, F, hm, hQ⟩ => ⟨φ, B, k, hW, F, hm, fun x r B' H' hk s ⟨a, vs, e1, h1, h2, h3, h4, h5⟩ => hQ x r B' H' hk s ⟨a, vs, e1, h1, h4, h5⟩⟩
theorem EY.own {i : Nat} {x : Str} {ds : List D} (hρ : ρ[i]? = some (some (.own ds))) (hN : g.N[i]? = some x) (hv : Vis g.scope x) (hd : (x == ("__debug__" : Str)) = false := by decide) (hcd : (x == ("__classdict__" : Str)) = false := by decide) :
    EY μ g ρ (.Name x pos) (ret ds : M (List D)) := fun X hX => (pe_var (i := i) (by rw [hX.N]; exact hN) (hX.vis hv) hd hcd).imp fun σ H Q ⟨φ, B, k, hW, F, hm, hQ⟩ => by
  obtain ⟨v, h1, a, vs, ev, ha, hb, h0, hn, hd⟩ := F.sl i _ hρ
  exact ⟨v, h1, hQ _ _ _ _ (Mir.wp_ret hm) F.refl ⟨a, vs, ev, ha, hn, hd⟩⟩
def dCat (xs ys : List D) : Option (List D) := if xs.length + ys.length ≤ sizeLine then some (xs ++ ys) else none
theorem EL.cat {m1 m2 : M (List D)} (ha : EY μ g ρ a m1) (hb : EY μ g ρ b m2) : EL μ g ρ (.BinOp a .Add b pos) (bnd m1 fun xs => bnd m2 fun ys => lift (dCat xs ys)) := fun X hX => (pe_op op_cat (ha X hX) (hb X hX)).imp fun σ H Q ⟨φ, B, k, hW, F, hm, hQ⟩ =>
  rd.st hW F hm fun xs v B1 H1 hk1 s1 ⟨l, vs, ev, hl, na, hd⟩ => rd.st hW (F.go s1) hk1 fun ys w B2 H2 hk2 s2 ⟨l2, us, ev2, hl2, na2, hd2⟩ => by
    obtain ⟨es, hes, hk⟩ := Mir.wp_lift hk2
    unfold dCat at hes
    split at hes
    case isFalse => cases hes
    rename_i hc
    cases hes
    subst ev ev2
    refine ⟨l, l2, vs, us, rfl, rfl, s2.ext _ _ hl nt_lst na, hl2, by rw [dpAll_len hd, dpAll_len hd2]; exact hc, fun q hq => ?_⟩
    obtain ⟨s3, h3⟩ := F.lstL (s1.trans s2) hq (dpAll_app (DpAll.mono s2.sub hd) hd2)
    exact hQ _ _ _ _ hk s3 h3
/-- (x, ..) * n, n above 1 -/
def dRepT (x n : D) : Option D := match x with
  | .tuple ds => (dInt n).bind fun k => if ds ≠ [] ∧ 2 ≤ k ∧ k ≤ 1000 ∧ ds.length ≤ 1000 then some (.tuple (List.replicate k.toNat ds).flatten) else none
  | _ => none

/-! ### list(range(..)), slices as lists -/
theorem EL.listRg1 {p2 pos2 : Pos} (hg : g.scope.names.lookup ("list" : Str) = some .globalImplicit) (hm : μ.mg "list" = none) (hg2 : g.scope.names.lookup ("range" : Str) = some .globalImplicit) (hm2 : μ.mg "range" = none) (ha : EX μ g ρ a ma) (h1 : ∀ env, starEach [a] env = (false, eval a env) :: starEach [] env := by intro _; rfl) :
    EL μ g ρ (.Call (.Name "list" p) [.Call (.Name "range" p2) [a] [] pos2] [] pos) (bnd ma fun x => lift ((dInt x).bind fun j => dRg 0 j)) := fun X hX => (pe_listRg hX.calm (hX.gl hg) (by rw [hX.mg]; exact hm) (prg_1 (hX.gl hg2) (by rw [hX.mg]; exact hm2) (ha X hX) (h1 _))).imp fun σ H Q ⟨φ, B, k, hW, F, hm, hQ⟩ => rd.st hW F hm fun x v B1 H1 hk1 s1 hr1 => by
  obtain ⟨ds, hds, hk⟩ := Mir.wp_lift hk1
  obtain ⟨j, hj, hds⟩ := Option.bind_eq_some_iff.mp hds
  cases x <;> simp [dInt] at hj
  subst hj
  unfold dRg at hds
  split at hds
  · rename_i hr
    cases hds
    refine ⟨_, dp_int hr1, hr, fun q hq => ?_⟩
    obtain ⟨s2, h2⟩ := F.lstL s1 hq (rg_dp (μ := μ) (i := 0) (j := ‹Int›) (B := B1))
    exact hQ _ _ _ _ hk s2 h2
  · cases hds
theorem EX.tupRg1 {p2 pos2 : Pos} (hg : g.scope.names.lookup ("tuple" : Str) = some .globalImplicit) (hm : μ.mg "tuple" = none) (hg2 : g.scope.names.lookup ("range" : Str) = some .globalImplicit) (hm2 : μ.mg "range" = none) (ha : EX μ g ρ a ma) (h1 : ∀ env, starEach [a] env = (false, eval a env) :: starEach [] env := by intro _; rfl) :
    EX μ g ρ (.Call (.Name "tuple" p) [.Call (.Name "range" p2) [a] [] pos2] [] pos) (bnd ma fun x => lift ((dInt x).bind fun j => (dRg 0 j).map .tuple)) := fun X hX => (pe_tupRg hX.calm (hX.gl hg) (by rw [hX.mg]; exact hm) (prg_1 (hX.gl hg2) (by rw [hX.mg]; exact hm2) (ha X hX) (h1 _))).imp fun σ H Q ⟨φ, B, k, hW, F, hm, hQ⟩ => rd.st hW F hm fun x v B1 H1 hk1 s1 hr1 => by
  obtain ⟨ds, hds, hk⟩ := Mir.wp_lift hk1
  obtain ⟨j, hj, hds⟩ := Option.bind_eq_some_iff.mp hds
  cases x <;> simp [dInt] at hj
  subst hj
  obtain ⟨es, h3, rfl⟩ := Option.map_eq_some_iff.mp hds
  unfold dRg at h3
  split at h3
  · rename_i hr
    cases h3
    refine ⟨_, dp_int hr1, hr, fun q hq => ?_⟩
    obtain ⟨s2, h2⟩ := (F.go s1).tupl hq (rg_dp (μ := μ) (i := 0) (j := ‹Int›) (B := B1))
    exact hQ _ _ _ _ hk (s1.trans s2) h2
  · cases h3

/-! ### enumerate, zip, reversed -/
theorem tup_step {B2 H2 : Hp} (st : Stp μ ω B2 H2 B2 H2) {T : Addr} (hT : H2 T = none) {vs : List V} {ds : List D} (h : DpAll μ.K B2 vs ds) : ∃ B3, Stp μ ω B2 H2 B3 (upd H2 T (.tup vs)) ∧ Dp μ.K B3 (.ref T) (.tuple ds) :=
  ⟨_, Stp.lay hT nt_tup (fun a o h => ⟨(st.new a o h).1, (st.new a o h).2.1⟩) st.tabs st.wok, .tup (SqT.of upd_same) (DpAll.mono (sub_upd (hbp_of st hT)) h)⟩
def enumL (ds : List D) : List D := ds.mapIdx fun i d => .tuple [.int (i : Nat), d]
theorem itd_eL {kp : Bool} {B1 H1 : Hp} {a : Addr} {vs : List V} {ds : List D} (hd : DpAll μ.K B1 vs ds) (hs : ∀ B2 H2 : Hp, (∀ a o, B1 a = some o → B2 a = some o) → Stp μ ω B2 H2 B2 H2 → (kp = true → ∀ a o, H1 a = some o → NT o → ¬ ω.adr a → H2 a = some o) → SqL μ.K H2 a vs) : ItD μ ω kp (Ite μ.K a) (enumL ds) B1 H1 := fun B2 H2 sub st kk i => by
  have hq := hs B2 H2 sub st kk
  refine ⟨fun d e => ?_, fun hl => ⟨vs, hq, by rw [dpAll_len hd]; simpa [enumL] using hl⟩⟩
  unfold enumL at e
  rw [List.getElem?_mapIdx] at e
  obtain ⟨d', e1, rfl⟩ := Option.map_eq_some_iff.mp e
  obtain ⟨v, h1, h2⟩ := dpAll_get hd e1
  refine ⟨⟨vs, v, hq, h1⟩, fun x H3 ⟨T, y, ev, hT, eH, hy⟩ => ?_⟩
  subst ev eH
  have e3 := hy vs hq
  rw [h1] at e3
  cases e3
  exact tup_step st hT (.cons (.int _) (.cons (Dp.mono sub h2) .nil))
theorem itd_eT {kp : Bool} {B1 H1 : Hp} {a : Addr} {vs : List V} {ds : List D} (hd : DpAll μ.K B1 vs ds) (hs : SqT μ.K B1 a vs) : ItD μ ω kp (IteT μ.K a) (enumL ds) B1 H1 := fun B2 H2 sub st kk i => by
  have hq : SqT μ.K H2 a vs := Evl.ex_t st.bsub (Evl.ex_t sub hs)
  refine ⟨fun d e => ?_, fun hl => ⟨vs, hq, by rw [dpAll_len hd]; simpa [enumL] using hl⟩⟩
  unfold enumL at e
  rw [List.getElem?_mapIdx] at e
  obtain ⟨d', e1, rfl⟩ := Option.map_eq_some_iff.mp e
  obtain ⟨v, h1, h2⟩ := dpAll_get hd e1
  refine ⟨⟨vs, v, hq, h1⟩, fun x H3 ⟨T, y, ev, hT, eH, hy⟩ => ?_⟩
  subst ev eH
  have e3 := hy vs hq
  rw [h1] at e3
  cases e3
  exact tup_step st hT (.cons (.int _) (.cons (Dp.mono sub h2) .nil))
theorem EI.enum {elts : List Expr} {kk : Nat} {tpos : Pos} (hg : g.scope.names.lookup ("enumerate" : Str) = some .globalImplicit) (hm : μ.mg "enumerate" = none) (ha : EX μ g ρ a ma) (h1 : ∀ env, starEach [a] env = (false, eval a env) :: starEach [] env := by intro _; rfl) :
    EI μ g ρ false (.Tuple elts kk tpos) (.Call (.Name "enumerate" p) [a] [] pos) (bnd ma fun x => lift ((dItems x).map enumL)) := fun X hX => (pi_enumA (hX.gl hg) (by rw [hX.mg]; exact hm) (ha X hX) (h1 _)).imp fun σ H R ⟨φ, B, k, hW, F, hm, hQ⟩ => rd.st hW F hm fun x v B1 H1 hk1 s1 hr1 => by
  obtain ⟨ds, hds, hk⟩ := Mir.wp_lift hk1
  obtain ⟨es, hes, rfl⟩ := Option.map_eq_some_iff.mp hds
  rw [hX.K]
  have st := (F.go s1).refl
  cases hr1 <;> simp [dItems] at hes
  · subst hes
    rename_i h t
    exact ⟨_, _, rfl, .inl ⟨Evl.ex_l st.bsub h, hQ _ _ _ _ hk s1 (itd_eL t fun B2 H2 sub st2 _ => Evl.ex_l st2.bsub (Evl.ex_l sub h))⟩⟩
  · subst hes
    rename_i h t
    exact ⟨_, _, rfl, .inr ⟨Evl.ex_t st.bsub h, hQ _ _ _ _ hk s1 (itd_eT t h)⟩⟩
/-- .. in a comprehension: one's own list too -/
theorem EI.enumB {elts : List Expr} {kk : Nat} {tpos : Pos} (hg : g.scope.names.lookup ("enumerate" : Str) = some .globalImplicit) (hm : μ.mg "enumerate" = none) (ha : EB μ g ρ a ma) (h1 : ∀ env, starEach [a] env = (false, eval a env) :: starEach [] env := by intro _; rfl) :
    EI μ g ρ true (.Tuple elts kk tpos) (.Call (.Name "enumerate" p) [a] [] pos) (bnd ma fun x => lift ((dItems x).map enumL)) := fun X hX => (pi_enumA (hX.gl hg) (by rw [hX.mg]; exact hm) (ha X hX) (h1 _)).imp fun σ H R ⟨φ, B, k, hW, F, hm, hQ⟩ => rd.st hW F hm fun x v B1 H1 hk1 s1 hr1 => by
  obtain ⟨ds, hds, hk⟩ := Mir.wp_lift hk1
  obtain ⟨es, hes, rfl⟩ := Option.map_eq_some_iff.mp hds
  rw [hX.K]
  have st := (F.go s1).refl
  rcases hr1 with hr1 | ⟨a, vs, fs, rfl, rfl, ha, hb, hn, hd⟩
  · cases hr1 <;> simp [dItems] at hes
    · subst hes
      rename_i h t
      exact ⟨_, _, rfl, .inl ⟨Evl.ex_l st.bsub h, hQ _ _ _ _ hk s1 (itd_eL t fun B2 H2 sub st2 _ => Evl.ex_l st2.bsub (Evl.ex_l sub h))⟩⟩
    · subst hes
      rename_i h t
      exact ⟨_, _, rfl, .inr ⟨Evl.ex_t st.bsub h, hQ _ _ _ _ hk s1 (itd_eT t h)⟩⟩
  · cases hes
    exact ⟨a, vs, rfl, .inl ⟨SqL.of ha, hQ _ _ _ _ hk s1 (itd_eL hd fun B2 H2 sub st kk => SqL.of (kk rfl a _ ha nt_lst hn))⟩⟩
/-- zip of two tuples, of two lists -/
def dZip : D → D → Option (List D)
  | .tuple xs, .tuple ys => some (List.zipWith (fun x y => .tuple [x, y]) xs ys)
  | .list xs, .list ys => some (List.zipWith (fun x y => .tuple [x, y]) xs ys)
  | _, _ => none
theorem zw_get {xs ys : List D} {i : Nat} {d : D} (e : (List.zipWith (fun x y => PyData.tuple [x, y]) xs ys)[i]? = some d) : ∃ x y, xs[i]? = some x ∧ ys[i]? = some y ∧ d = .tuple [x, y] := by
  rw [List.getElem?_zipWith] at e
  cases h1 : xs[i]? with
  | none => simp [h1] at e
  | some x =>
    cases h2 : ys[i]? with
    | none => simp [h1, h2] at e
    | some y =>
      simp [h1, h2] at e
      exact ⟨x, y, rfl, rfl, e.symm⟩
theorem EI.zip {elts : List Expr} {kk : Nat} {tpos : Pos} (hg : g.scope.names.lookup ("zip" : Str) = some .globalImplicit) (hm : μ.mg "zip" = none) (ha : EX μ g ρ a ma) (hb : EX μ g ρ b mb) (h1 : ∀ env, starEach [a, b] env = (false, eval a env) :: starEach [b] env := by intro _; rfl) (h2 : ∀ env, starEach [b] env = (false, eval b env) :: starEach [] env := by intro _; rfl) (hpl : ∀ env, (backTo pos (starEach [b] env)).any (·.1) = false := by intro _; rfl) :
    EI μ g ρ false (.Tuple elts kk tpos) (.Call (.Name "zip" p) [a, b] [] pos) (bnd ma fun x => bnd mb fun y => lift (dZip x y)) := fun X hX => (RZ.pi_zipA (hX.gl hg) (by rw [hX.mg]; exact hm) (pa_cons (ha X hX) (pa_cons (hb X hX) pa_nil (h2 _)) (h1 _)) (h1 _) (hpl _)).imp fun σ H R ⟨φ, B, k, hW, F, hm, hQ⟩ => rd.st hW F hm fun x v B1 H1 hk1 s1 hr1 => rd.st hW (F.go s1) hk1 fun y w B2 H2 hk2 s2 hr2 => by
  obtain ⟨ds, hds, hk⟩ := Mir.wp_lift hk2
  rw [hX.K]
  have st := ((F.go s1).go s2).refl
  have hr1 := Dp.mono s2.sub hr1
  cases x <;> cases y <;> simp [dZip] at hds
  · subst hds
    cases hr1 with
    | lst q1 t1 =>
      cases hr2 with
      | lst q2 t2 =>
        refine ⟨_, _, _, _, rfl, .inl ⟨Evl.ex_l st.bsub q1, Evl.ex_l st.bsub q2, hQ _ _ _ _ hk (s1.trans s2) fun B3 H3 sub st3 _ i => ⟨fun d e => ?_, fun hl => ⟨_, _, Evl.ex_l st3.bsub (Evl.ex_l sub q1), Evl.ex_l st3.bsub (Evl.ex_l sub q2), ?_⟩⟩⟩⟩
        · obtain ⟨x, y, e1, e2, rfl⟩ := zw_get e
          obtain ⟨v1, g1, g2⟩ := dpAll_get t1 e1
          obtain ⟨v2, g3, g4⟩ := dpAll_get t2 e2
          refine ⟨⟨_, _, v1, v2, Evl.ex_l st3.bsub (Evl.ex_l sub q1), Evl.ex_l st3.bsub (Evl.ex_l sub q2), g1, g3⟩, fun z H4 ⟨T, x', y', ev, hT, eH, hx, hy⟩ => ?_⟩
          subst ev eH
          have e3 := hx _ (Evl.ex_l st3.bsub (Evl.ex_l sub q1))
          have e4 := hy _ (Evl.ex_l st3.bsub (Evl.ex_l sub q2))
          rw [g1] at e3
          rw [g3] at e4
          cases e3
          cases e4
          exact tup_step st3 hT (.cons (Dp.mono sub g2) (.cons (Dp.mono sub g4) .nil))
        · rw [dpAll_len t1, dpAll_len t2]
          rw [List.length_zipWith] at hl
          omega
  · subst hds
    cases hr1 with
    | tup q1 t1 =>
      cases hr2 with
      | tup q2 t2 =>
        refine ⟨_, _, _, _, rfl, .inr ⟨Evl.ex_t st.bsub q1, Evl.ex_t st.bsub q2, hQ _ _ _ _ hk (s1.trans s2) fun B3 H3 sub st3 _ i => ⟨fun d e => ?_, fun hl => ⟨_, _, Evl.ex_t st3.bsub (Evl.ex_t sub q1), Evl.ex_t st3.bsub (Evl.ex_t sub q2), ?_⟩⟩⟩⟩
        · obtain ⟨x, y, e1, e2, rfl⟩ := zw_get e
          obtain ⟨v1, g1, g2⟩ := dpAll_get t1 e1
          obtain ⟨v2, g3, g4⟩ := dpAll_get t2 e2
          refine ⟨⟨_, _, v1, v2, Evl.ex_t st3.bsub (Evl.ex_t sub q1), Evl.ex_t st3.bsub (Evl.ex_t sub q2), g1, g3⟩, fun z H4 ⟨T, x', y', ev, hT, eH, hx, hy⟩ => ?_⟩
          subst ev eH
          have e3 := hx _ (Evl.ex_t st3.bsub (Evl.ex_t sub q1))
          have e4 := hy _ (Evl.ex_t st3.bsub (Evl.ex_t sub q2))
          rw [g1] at e3
          rw [g3] at e4
          cases e3
          cases e4
          exact tup_step st3 hT (.cons (Dp.mono sub g2) (.cons (Dp.mono sub g4) .nil))
        · rw [dpAll_len t1, dpAll_len t2]
          rw [List.length_zipWith] at hl
          omega
theorem rev_get {α : Type} {xs : List α} {i : Nat} (h : i < xs.length) : xs.reverse[i]? = xs[xs.length - 1 - i]? := List.getElem?_reverse h
theorem EI.rev {tg : Expr} (hg : g.scope.names.lookup ("reversed" : Str) = some .globalImplicit) (hm : μ.mg "reversed" = none) (ha : EX μ g ρ a ma) (h1 : ∀ env, starEach [a] env = (false, eval a env) :: starEach [] env := by intro _; rfl) :
    EI μ g ρ false tg (.Call (.Name "reversed" p) [a] [] pos) (bnd ma fun x => lift ((dItems x).map List.reverse)) := fun X hX => (RT.pi_revA (hX.gl hg) (by rw [hX.mg]; exact hm) (ha X hX) (h1 _)).imp fun σ H R ⟨φ, B, k, hW, F, hm, hQ⟩ => rd.st hW F hm fun x v B1 H1 hk1 s1 hr1 => by
  obtain ⟨ds, hds, hk⟩ := Mir.wp_lift hk1
  obtain ⟨es, hes, rfl⟩ := Option.map_eq_some_iff.mp hds
  rw [hX.K]
  have st := (F.go s1).refl
  cases hr1 <;> simp [dItems] at hes
  · subst hes
    rename_i h t
    refine ⟨_, _, rfl, .inl ⟨Evl.ex_l st.bsub h, hQ _ _ _ _ hk s1 fun B2 H2 sub st2 _ i => ⟨fun d e => ?_, fun hl => ?_⟩⟩⟩
    · have hlt := (List.getElem?_eq_some_iff.mp e).1
      rw [List.length_reverse] at hlt
      rw [rev_get hlt, ← dpAll_len t] at e
      obtain ⟨v, h1, h2⟩ := dpAll_get t e
      have hq := Evl.ex_l st2.bsub (Evl.ex_l sub h)
      refine ⟨⟨by rw [dpAll_len t]; exact hlt, _, v, hq, h1⟩, fun x H3 ⟨e1, e2⟩ => ?_⟩
      subst e1
      have e3 := e2 _ hq
      rw [h1] at e3
      cases e3
      exact ⟨B2, st2, Dp.mono sub h2⟩
    · show _ ≤ i
      rw [dpAll_len t]; simpa using hl
  · subst hes
    rename_i h t
    refine ⟨_, _, rfl, .inr ⟨Evl.ex_t st.bsub h, hQ _ _ _ _ hk s1 fun B2 H2 sub st2 _ i => ⟨fun d e => ?_, fun hl => ?_⟩⟩⟩
    · have hlt := (List.getElem?_eq_some_iff.mp e).1
      rw [List.length_reverse] at hlt
      rw [rev_get hlt, ← dpAll_len t] at e
      obtain ⟨v, h1, h2⟩ := dpAll_get t e
      have hq := Evl.ex_t st2.bsub (Evl.ex_t sub h)
      refine ⟨⟨by rw [dpAll_len t]; exact hlt, _, v, hq, h1⟩, fun x H3 ⟨e1, e2⟩ => ?_⟩
      subst e1
      have e3 := e2 _ hq
      rw [h1] at e3
      cases e3
      exact ⟨B2, st2, Dp.mono sub h2⟩
    · show _ ≤ i
      rw [dpAll_len t]; simpa using hl

/-! ### xs.index(e), len(set(xs)), max(a, b) -/
def dLst : D → Option (List D)
  | .list ds => some ds
  | _ => none
def dIndex (ds : List D) (y : D) : Option D := if SeqAt.shaped (.list ds) && SeqAt.shaped y then (ds.findIdx? fun z => PyData.eqv z y).map fun j => .int (j : Nat) else none
theorem type_list_index : typeOf (.builtin "list.index") = pure (.type "method_descriptor") := by show builtinType _ = _; rw [builtinType_eq_fast]; kernel_rfl
theorem EX.index {apos : Pos} (ha : EB μ g ρ a ma) (hb : EX μ g ρ b mb) (hbase : ∀ env, attributeBase a "index" env (eval a env) = eval a env := by intro _; rfl) (hline : (apos.endLine == pos.line) = true := by rfl) (h1 : ∀ env, starEach [b] env = (false, eval b env) :: starEach [] env := by intro _; rfl) :
    EX μ g ρ (.Call (.Attribute a "index" apos) [b] [] pos) (bnd ma fun x => bnd (lift (dLst x)) fun ds => bnd mb fun y => lift (dIndex ds y)) := fun X hX =>
  (pe_bm F.plainAttrs_list F.slot_list_index type_list_index (mt_indexD (by have := hX.room.un; omega)) (ha X hX) (pa_cons (hb X hX) pa_nil (h1 _)) (hbase _) (by rw [h1]; rfl) hline (h1 _)).imp fun σ H Q ⟨φ, B, k, hW, F, hm, hQ⟩ => rd.st hW F hm fun x v B1 H1 hk1 s1 hr1 => by
    rw [hX.K]
    obtain ⟨ds, hds, hk⟩ := Mir.wp_lift (Mir.wp_bnd hk1)
    cases x <;> simp [dLst] at hds
    subst hds
    have F1 := F.go s1
    obtain ⟨a, vs, rfl, h2, h3⟩ := hr1.lst F1.refl.bsub
    refine ⟨.inl ⟨rfl, vs, h2⟩, rd.st hW F1 hk fun y w B2 H2 hk2 s2 hr2 => ?_⟩
    obtain ⟨z, hz, hk3⟩ := Mir.wp_lift hk2
    unfold dIndex at hz
    split at hz
    case isFalse => cases hz
    rename_i hc
    rw [Bool.and_eq_true] at hc
    obtain ⟨j, hj, rfl⟩ := Option.map_eq_some_iff.mp hz
    obtain ⟨hlt, e1, e2⟩ := List.findIdx?_eq_some_iff_getElem.mp hj
    refine ⟨a, w, y, _, j, _, rfl, rfl, (hr1.go s2).dp s2.bsub, Dp.mono s2.bsub hr2, hc.1, hc.2, List.getElem?_eq_getElem hlt, e1, fun m z' hm hz' => ?_, hQ _ _ _ _ hk3 (s1.trans s2) (.int _)⟩
    obtain ⟨hml, e3⟩ := List.getElem?_eq_some_iff.mp hz'
    have := e2 m hm
    rw [e3] at this
    simpa using this
def distinct (ns : List Int) : List Int := ns.foldl (fun acc x => if acc.any (· == x) then acc else acc ++ [x]) []
theorem distinct_aux : ∀ (ns acc : List Int), acc.Nodup → (ns.foldl (fun acc x => if acc.any (· == x) then acc else acc ++ [x]) acc).Nodup ∧ ∀ k, k ∈ ns.foldl (fun acc x => if acc.any (· == x) then acc else acc ++ [x]) acc ↔ k ∈ acc ∨ k ∈ ns
  | [], acc, h => ⟨h, fun k => by simp⟩
  | n :: ns, acc, h => by
    rw [List.foldl_cons]
    by_cases hc : (acc.any (· == n)) = true
    · rw [if_pos hc]
      obtain ⟨h1, h2⟩ := distinct_aux ns acc h
      refine ⟨h1, fun k => ?_⟩
      rw [h2]
      have hn : n ∈ acc := by
        obtain ⟨y, hy, e⟩ := List.any_eq_true.mp hc
        rw [← eq_of_beq e]; exact hy
      constructor
      · rintro (z | z)
        · exact .inl z
        · exact .inr (List.mem_cons_of_mem _ z)
      · rintro (z | z)
        · exact .inl z
        · rcases List.mem_cons.mp z with z | z
          · rw [z]; exact .inl hn
          · exact .inr z
    · rw [if_neg hc]
      have hn : n ∉ acc := fun z => hc (List.any_eq_true.mpr ⟨n, z, by simp⟩)
      obtain ⟨h1, h2⟩ := distinct_aux ns (acc ++ [n]) (by
        rw [List.nodup_append]
        exact ⟨h, by simp, fun a ha b hb => by
          rw [List.mem_singleton.mp hb]
          exact fun z => hn (z ▸ ha)⟩)
      refine ⟨h1, fun k => ?_⟩
      rw [h2]
      simp [List.mem_append, or_assoc]
theorem distinct_nodup (ns : List Int) : (distinct ns).Nodup := (distinct_aux ns [] .nil).1
theorem mem_distinct {ns : List Int} {k : Int} : k ∈ distinct ns ↔ k ∈ ns := by
  rw [distinct, (distinct_aux ns [] .nil).2]; simp
theorem nodup_len_le : ∀ {xs ys : List Int}, xs.Nodup → (∀ x ∈ xs, x ∈ ys) → xs.length ≤ ys.length
  | [], _, _, _ => Nat.zero_le _
  | x :: xs, ys, h, hs => by
    rw [List.nodup_cons] at h
    have hx := hs x List.mem_cons_self
    have h2 := nodup_len_le (ys := ys.erase x) h.2 fun y hy => by
      have hne : y ≠ x := fun z => h.1 (z ▸ hy)
      exact (List.mem_erase_of_ne hne).mpr (hs y (List.mem_cons_of_mem _ hy))
    rw [List.length_erase_of_mem hx] at h2
    have : 0 < ys.length := List.length_pos_of_mem hx
    simp only [List.length_cons]
    omega
theorem nodup_len_eq {xs ys : List Int} (h1 : xs.Nodup) (h2 : ys.Nodup) (h : ∀ x, x ∈ xs ↔ x ∈ ys) : xs.length = ys.length :=
  Nat.le_antisymm (nodup_len_le h1 fun x hx => (h x).mp hx) (nodup_len_le h2 fun x hx => (h x).mpr hx)
theorem distinct_of_nodup {ns : List Int} (h : ns.Nodup) : (distinct ns).length = ns.length := nodup_len_eq (distinct_nodup ns) h fun _ => mem_distinct
def dLenSet (x : D) : Option D := (dItems x).bind fun ds => (dInts ds).bind fun ns => if ns.length ≤ 4000 then some (.int (distinct ns).length) else none
theorem dedup_step : PyProof.Rows.step_dedup = fun (acc : List Int) (x : Int) => if acc.any (· == x) then acc else acc ++ [x] := rfl
theorem firstMet_dist (ns : List Int) : PyProof.Rows.firstMet (fun i => ns.getD i 0) ns.length = distinct ns := by
  unfold PyProof.Rows.firstMet distinct
  have e : (List.range ns.length).map (fun i => ns.getD i 0) = ns := by
    apply List.ext_getElem
    · simp
    · intro i h1 h2
      simp [List.getD_eq_getElem?_getD, List.getElem?_eq_getElem h2]
  rw [e]
  rfl
theorem EX.lenSet {p2 q : Pos} (hg : g.scope.names.lookup ("len" : Str) = some .globalImplicit) (hm : μ.mg "len" = none) (hg2 : g.scope.names.lookup ("set" : Str) = some .globalImplicit) (hm2 : μ.mg "set" = none) (ha : EB μ g ρ a ma)
    (h1 : ∀ env, starEach [a] env = (false, eval a env) :: starEach [] env := by intro _; rfl) : EX μ g ρ (.Call (.Name "len" p) [.Call (.Name "set" p2) [a] [] q] [] pos) (bnd ma fun x => lift (dLenSet x)) := fun X hX => by
  refine ⟨fun pins s σ H Q I ⟨φ, B, k, hW, F, hm', hQ⟩ => ?_⟩
  refine Call_ (ld_blt I (hX.gl hg) (by rw [hX.mg]; exact hm) boot_len ?_)
  refine PyProof.Rows.callWith_builtin1 (PyProof.Rows.args_cons ?_ rfl) rfl rfl
  refine Call_ (ld_blt I (hX.gl hg2) (by rw [hX.mg]; exact hm2) PyProof.Rows.boot_set ?_)
  have step := rd.st (R := V) (Rel := RB μ) (Q := fun v H1 => ∃ (d z : D) (B1 : Hp), Rdb μ.K φ.ω B1 H1 v d ∧ dLenSet d = some z ∧ (∀ a o, B1 a = some o → H1 a = some o) ∧ ∀ v', (∀ B, Dp μ.K B v' z) → Q v' H1) hW F hm' fun x v B1 H1 hk1 s1 hr1 => by
    obtain ⟨z, hz, hk⟩ := Mir.wp_lift hk1
    exact ⟨x, z, B1, hr1, hz, s1.bsub, fun v' hv' => hQ z v' B1 H1 hk s1 (hv' B1)⟩
  refine PyProof.Rows.callWith_type1 (PyProof.Rows.args_cons (thn ((ha X hX).run pins s σ H _ I step) fun v s1 ⟨x, H1, I1, r1, q1⟩ => PyProof.Rows.args_nil ?_) (h1 _)) (h1 _) rfl
  obtain ⟨d, z, B1, hr, hz, hb, hQ1⟩ := q1
  unfold dLenSet at hz
  obtain ⟨ds, hds, hz⟩ := Option.bind_eq_some_iff.mp hz
  obtain ⟨ns, hns, hz⟩ := Option.bind_eq_some_iff.mp hz
  split at hz
  case isFalse => cases hz
  rename_i hlen
  cases hz
  obtain ⟨a, vs, rfl, hs, hd⟩ := hr.sq hb hds
  rw [dInts_ok hns] at hd
  have hvs := dpAll_ints hd
  subst hvs
  cases r1
  have fin : ∀ (h' : Heap) (tk : Nat) (o : Obj) (es : Array (Int × Value)) (ep : Nat) (t : SetTable), (∀ b o, s1.heap.get? b = some o → h'.get? b = some o) → h'.get? s1.heap.objs.size = some o → o.ExactSet → o.data = .set es ep t → t.fits es.size = true → es.size = (distinct ns).length →
      wpAny (model X.prog X.w) X.A (PySem.call (.builtin "len") [.ref s1.heap.objs.size]) (L2.EP X pins σ Q) X.xe { s1 with heap := h', toks := tk } := fun h' tk o es ep t hk ho hex hdt hf hn => by
    have I2 : L2.Inv X pins σ H1 { s1 with heap := h', toks := tk } := I1.kept hk
    have hle : (distinct ns).length ≤ 4000 := Nat.le_trans (nodup_len_le (distinct_nodup ns) fun x hx => mem_distinct.mp hx) hlen
    exact call_len_set ho hex hdt hf (by rw [hn]; omega) ⟨.int (distinct ns).length, H1, I2.tok _, ⟨_, by rw [hn]⟩, hQ1 _ fun _ => .int _⟩
  rcases hs with hs | hs
  · obtain ⟨its, r, pl, hz⟩ := I1.tuple (by rw [hX.K]; exact hs)
    refine call_set_tupI ns (I1.ok.hd hX.calm) (show s1.heap.IsTuple a its.toArray from pl) (by simpa using RZ.intsAre_vals r) (by unfold scanBound; omega) fun h' tk c hS hc hk => PyProof.Rows.args_nil ?_
    obtain ⟨o, es, ep, t, ho, hex, hdt, _, hnd, hmem, _, hf, _⟩ := hS
    refine fin h' tk o es ep t hk ho hex hdt hf ?_
    rw [← nodup_len_eq hnd (distinct_nodup ns) fun x => ?_]
    · simp
    · rw [← hmem, mem_distinct]; simp
  · obtain ⟨its, r, pl, hz⟩ := I1.list (by rw [hX.K]; exact hs)
    have hl : its.toArray.size = ns.length := by rw [List.size_toArray, ← r.length, List.length_map]
    refine call_set_list (I1.ok.hd hX.calm) pl.isList (by simpa using RZ.intsAre_vals r) (by rw [hl]; unfold scanBound; omega) fun h' tk hS hk => PyProof.Rows.args_nil ?_
    rw [hl, firstMet_dist] at hS
    obtain ⟨o, es, ep, t, ho, hex, hdt, _, _, _, hf, hn⟩ := hS
    exact fin h' tk o es ep t (fun b o e => hk b o (Heap.lt_size e) e) ho hex hdt hf hn
def dMax2 : D → D → Option D := dI2 fun i j => some (.int (if j > i then j else i))
theorem cr_max2 {X : Cx} (hh : X.A.handled = none) : CallR X (.builtin "max") (fun xs H Q => ∃ i j, xs = [.int i, .int j] ∧ Q (.int (if j > i then j else i)) H) := by
  intro pins s σ H xs us Q I r h
  obtain ⟨i, j, rfl, q⟩ := h
  obtain ⟨u1, u2, rfl, r1, r2⟩ := vals2 r
  obtain ⟨t1, rfl⟩ := r1
  obtain ⟨t2, rfl⟩ := r2
  refine max_two_ints hh fun h' tk hk => ?_
  by_cases hc : j > i
  · rw [if_pos hc] at q ⊢
    exact ⟨.int j, H, I.kept hk, ⟨_, rfl⟩, q⟩
  · rw [if_neg hc] at q ⊢
    exact ⟨.int i, H, I.kept hk, ⟨_, rfl⟩, q⟩
theorem EX.max2 (hg : g.scope.names.lookup ("max" : Str) = some .globalImplicit) (hm : μ.mg "max" = none) (ha : EX μ g ρ a ma) (hb : EX μ g ρ b mb) (h1 : ∀ env, starEach [a, b] env = (false, eval a env) :: starEach [b] env := by intro _; rfl) (h2 : ∀ env, starEach [b] env = (false, eval b env) :: starEach [] env := by intro _; rfl) (hpl : ∀ env, (backTo pos (starEach [b] env)).any (·.1) = false := by intro _; rfl) :
    EX μ g ρ (.Call (.Name "max" p) [a, b] [] pos) (bnd ma fun x => bnd mb fun y => lift (dMax2 x y)) := fun X hX =>
  (pe_callB (cr_max2 hX.room.hd) (hX.gl hg) (by rw [hX.mg]; exact hm) rfl (pa_cons (ha X hX) (pa_cons (hb X hX) pa_nil (h2 _)) (h1 _)) (by decide) (by decide) (h1 _) (hpl _)).imp fun σ H Q ⟨φ, B, k, hW, F, hm, hQ⟩ => rd.st hW F hm fun x v B1 H1 hk1 s1 hr1 => rd.st hW (F.go s1) hk1 fun y w B2 H2 hk2 s2 hr2 => by
    obtain ⟨z, hz, hk⟩ := Mir.wp_lift hk2
    obtain ⟨i, j, rfl, rfl, hz⟩ := dI2_some hz
    cases hz
    exact ⟨i, j, by rw [dp_int hr1, dp_int hr2], hQ _ _ _ _ hk (s1.trans s2) (.int _)⟩
/-- x, y = a, b -/
def isStar : Expr → Bool
  | .Starred .. => true
  | _ => false
theorem sw_two {x y : Str} {px py pt pt2 : Pos} {kt k2 : Nat} {a b : Expr} {env : PySem.Env} (hk : env.scope.kind = .function) (hx : env.scope.names.lookup x = some .local) (hy : env.scope.names.lookup y = some .local) (hl : (px.line == py.line) = true) (hxy : (x == y) = false)
    (hst : (isStar a || isStar b) = false) (hf : [a, b].all (foldedForSure 8) = false) (hc : [a, b].all (constantsAlone 8) = false) :
    swappedStores [.Tuple [.Name x px, .Name y py] kt pt] (.Tuple [a, b] k2 pt2) env = pure (some [x, y]) := by
  have hl' : py.line = px.line := (by simpa using hl : px.line = py.line).symm
  have hxy' : ¬ x = y := by simpa using hxy
  have hyx : ¬ y = x := fun h => hxy' h.symm
  simp [swappedStores, Env.blockKind, Env.kindOf, hk, hx, hy, ScopeKind.isAnnotationScope, hf, hc, List.filterMap, Expr.pos, List.eraseDups_cons, hl', hyx]
  intro h
  exfalso
  rw [Bool.or_eq_false_iff] at hst
  rcases h with h | h
  · cases a <;> first | cases h; done | cases hst.1
  · cases b <;> first | cases h; done | cases hst.2
theorem SS.par {γ β : Type} {oL : γ → Env} {out : Option (β → Env)} {rest : List Stmt} {i j : Nat} {x y : Str} {px py pt pt2 : Pos} {kt k2 : Nat} {mr : D → D → M (Fl γ β)} (hN : g.N[i]? = some x) (hM : g.N[j]? = some y) (hij : i ≠ j) (hx : g.scope.names.lookup x = some .local) (hy : g.scope.names.lookup y = some .local)
    (ha : EX μ g ρ a ma) (hb : EX μ g ρ b mb) (hr : ∀ d e, SS μ g ((ρ.set i (some (.dat d))).set j (some (.dat e))) oL out rest (mr d e))
    (hw : (g.scope.kind == .function && px.line == py.line && !(x == y) && !(isStar a || isStar b) && !([a, b].all (foldedForSure 8)) && !([a, b].all (constantsAlone 8))) = true) (hs : ∀ env, swapsWithSole [.Tuple [.Name x px, .Name y py] kt pt] (.Tuple [a, b] k2 pt2) pos.line env = pure false := by intro _; rfl)
    (h1 : ∀ env, starEach [a, b] env = (false, eval a env) :: starEach [b] env := by intro _; rfl) (h2 : ∀ env, starEach [b] env = (false, eval b env) :: starEach [] env := by intro _; rfl) :
    SS μ g ρ oL out (.Assign [.Tuple [.Name x px, .Name y py] kt pt] (.Tuple [a, b] k2 pt2) pos :: rest) (bnd ma fun d => bnd mb fun e => mr d e) := fun X hX =>
  (pss_cons (ps_par (i := i) (j := j) hX.calm (by rw [hX.N]; exact hX.nd) (by rw [hX.N]; exact hN) (by rw [hX.N]; exact hM) hij (by rw [hX.scope]; exact hx) (by rw [hX.scope]; exact hy) (pa_cons (ha X hX) (pa_cons (hb X hX) pa_nil (h2 _)) (h1 _)) (by simp only [Bool.and_eq_true, Bool.not_eq_true'] at hw; exact sw_two (by rw [hX.scope]; simpa using hw.1.1.1.1.1) (by rw [hX.scope]; exact hx) (by rw [hX.scope]; exact hy) hw.1.1.1.1.2 hw.1.1.1.2 hw.1.1.2 hw.1.2 hw.2) (hs _)) (PSs.ex fun c : D × D => hr c.1 c.2 X hX)).imp fun Dn σ H ⟨φ, B, k, hW, F, hm, hn⟩ =>
  rd.st hW F hm fun d v B1 H1 hk1 s1 hd => rd.st hW (F.go s1) hk1 fun e w B2 H2 hk2 s2 he => ⟨v, w, rfl, (d, e), tail_of hn (s1.trans s2).sub hW ((((F.go s1).go s2).set (Dp.mono s2.sub hd)).set he) hk2⟩
end
end PL
end plb_
section plc_
set_option maxRecDepth 100000
set_option maxHeartbeats 2000000
/-! what stands behind the top; the pool of draws -/
namespace PL
open PySem PySem.Spec PyProof.Rows L2 GxR GenW LamX GX PySem.W
open Mir (ret bnd lift)
structure Fx (μ : Md) (fa : List He.Fa) (fn : List He.DefD) (tf : List He.Defn) (ex : List (Str × Value)) : Prop where
  more : ∀ (i : Nat) p, ex[i]? = some p → μ.mg p.1 = some p.2
  heap : ∃ h : Heap, μ.K.In h ∧ h.Ns mainGlobals μ.mg
  says : He.SaysD fa fn μ.K
  tab : ∀ (i : Nat) p, tf[i]? = some p → LamX.TabB μ.base μ.mg (He.cT μ.K p).1 (He.cT μ.K p).2 ∧ (He.cT μ.K p).2 ∈ μ.Ps
section
variable {μ : Md} {fa : List He.Fa} {fn : List He.DefD} {tf : List He.Defn} {ex : List (Str × Value)}
theorem Fx.glo (Φ : Fx μ fa fn tf ex) (i : Nat) {x : Str} (h : fa[i]? = some (.glo x)) : μ.mg x = some (.ref (He.fAd μ.K (x, none))) := by
  obtain ⟨hh, h1, h2⟩ := Φ.heap
  exact He.glo_ok h1 h2 (Φ.says.fact i h)
theorem Fx.imp (Φ : Fx μ fa fn tf ex) (i : Nat) {x : Str} {v : Value} (h : ex[i]? = some (x, v)) : μ.mg x = some v := Φ.more i _ h
theorem Fx.free (Φ : Fx μ fa fn tf ex) (i : Nat) {x : Str} (h : fa[i]? = some (.free x)) : μ.mg x = none := by
  obtain ⟨hh, h1, h2⟩ := Φ.heap
  exact He.free_ok h1 h2 (Φ.says.fact i h)
theorem Fx.int (Φ : Fx μ fa fn tf ex) (i : Nat) {x : Str} {z : Int} (h : fa[i]? = some (.int x z)) : ∃ t, μ.mg x = some (.int z t) := by
  obtain ⟨hh, h1, h2⟩ := Φ.heap
  exact He.int_ok h1 h2 (Φ.says.fact i h)
theorem Fx.str (Φ : Fx μ fa fn tf ex) (i : Nat) {x : Str} {z : Str} (h : fa[i]? = some (.str x z)) : ∃ t, μ.mg x = some (.str z t) := by
  obtain ⟨hh, h1, h2⟩ := Φ.heap
  exact He.str_ok h1 h2 (Φ.says.fact i h)
theorem Fx.fn_ (Φ : Fx μ fa fn tf ex) (i : Nat) {d : He.DefD} (h : fn[i]? = some d) : ∃ fd, FunD μ.K d.name d.qual d.params d.body d.scope (d.dvs μ.K) (d.kws μ.K) (He.fAd μ.K d.at_) fd := Φ.says.def_ i h
end
section
variable {M : Type → Type} [Mir M]
variable {μ : Md} {g : Cw} {ρ : Env} {ω : Wld} {B H : Hp} {v u : V} {d : D} {φ : Fm} {σ : L2.St}
variable {a b e : Expr} {ma mb : M D} {pos p : Pos}
theorem EX.globI {x : Str} {z : Int} (hg : g.scope.names.lookup x = some .globalImplicit) (hm : ∃ t, μ.mg x = some (.int z t)) (hdb : (x == ("__debug__" : Str)) = false := by decide) : EX μ g ρ (.Name x pos) (ret (.int z) : M D) := by
  obtain ⟨t, hm⟩ := hm
  exact EX.glob (v := .int z) hg hm ⟨_, rfl⟩ (fun _ => .int z) hdb
theorem EX.globS {x z : Str} (hg : g.scope.names.lookup x = some .globalImplicit) (hm : ∃ t, μ.mg x = some (.str z t)) (hdb : (x == ("__debug__" : Str)) = false := by decide) : EX μ g ρ (.Name x pos) (ret (.str z) : M D) := by
  obtain ⟨t, hm⟩ := hm
  exact EX.glob (v := .str z) hg hm ⟨_, rfl⟩ (fun _ => .str z) hdb
def dIntOf : D → Option D
  | .int i => some (.int i)
  | .bool b => some (.int (if b then 1 else 0))
  | _ => none
theorem EX.intOf (hg : g.scope.names.lookup ("int" : Str) = some .globalImplicit) (hm : μ.mg "int" = none) (ha : EB μ g ρ a ma) (h1 : ∀ env, starEach [a] env = (false, eval a env) :: starEach [] env := by intro _; rfl) : EX μ g ρ (.Call (.Name "int" p) [a] [] pos) (bnd ma fun d => lift (dIntOf d)) :=
  EX.callT (r := fun xs H Q => (∃ i, xs = [.int i] ∧ Q (.int i) H) ∨ ∃ k, xs = [.bl k] ∧ Q (.int (if k then 1 else 0)) H) (fun X hX => call_int1) (fun ω B H x d z Q b hx hz hQ => by
    cases d <;> simp [dIntOf] at hz
    · subst hz
      exact .inr ⟨_, by rw [hx.bl], hQ _ _ _ b (.int _)⟩
    · subst hz
      exact .inl ⟨_, by rw [hx.int], hQ _ _ _ b (.int _)⟩) hg hm (by decide +kernel) ha (h1 := h1)
end

/-! ### the pool -/
def PoolAt (H : Hp) (pa qa : Addr) (cells : List Int) (i v k s : Int) : Prop := H pa = some (.lst [.ref qa, .int i, .int v, .int k, .int s]) ∧ H qa = some (.lst (cells.map V.int)) ∧ 0 ≤ i
def poolW (pa qa : Addr) : Wld where
  adr := fun a => a = pa ∨ a = qa
  ok := fun H => ∃ cells i v k s, PoolAt H pa qa cells i v k s
  val := .ref pa
  keep := fun H H' ⟨cells, i, v, k, s, h1, h2, h3⟩ hk => ⟨cells, i, v, k, s, (hk pa (.inl rfl)).trans h1, (hk qa (.inr rfl)).trans h2, h3⟩
  has := fun H a ⟨cells, i, v, k, s, h1, h2, h3⟩ ha => by
    rcases ha with rfl | rfl
    · exact ⟨_, h1, nt_lst⟩
    · exact ⟨_, h2, nt_lst⟩
def IsPool : Wld → Prop := fun ω => ∃ pa qa, ω = poolW pa qa
/-- a draw: any number below many -/
def drawM : List D → WP D := fun ds k => match ds with
  | [.int n] => 0 < n ∧ n < 1073741824 ∧ ∀ r : Int, 0 ≤ r → r < n → k (.int r)
  | _ => False
def rLn (K : Frag) : List V → Hp → VK → Prop := fun xs H Q => ∃ p ys, xs = [.ref p] ∧ (SqL K H p ys ∨ SqT K H p ys) ∧ Q (.int ys.length) H
def rI1 : List V → Hp → VK → Prop := fun xs H Q => (∃ i, xs = [.int i] ∧ Q (.int i) H) ∨ ∃ k, xs = [.bl k] ∧ Q (.int (if k then 1 else 0)) H
abbrev tP (K : Frag) (j : Int) : TE := tOp (rIxL K) (tVar 0) (tC (.int j))
abbrev rAdd' : R2 := rI0 fun i j => .int (i + j)
abbrev rMul' : R2 := rI CMul fun i j => .int (i * j)
abbrev rMod' : R2 := rI (fun _ j => 0 < j) fun i j => .int (i % j)
abbrev rDiv' : R2 := rI CDiv fun i j => .int (i / j)
abbrev rLt' : R2 := rI0 fun i j => .bl (decide (i < j))
abbrev rLe' : R2 := rI0 fun i j => .bl (decide (i ≤ j))
abbrev tI1 (te : TE) : TE := tCB rI1 (tCons te tNil)
abbrev gP (j : Int) : TG := gSub (tVar 0) (tC (.int j)) rSetL
def tDraw1 (K : Frag) (sp : Sp) : TS := tIfS (tAnd (tTest (tOp rLe' (tP K 2) (tC (.int 0)))) (tTest (tOp rLt' (tP K 1) (tCB (rLn K) (tCons (tP K 0) tNil)))))
  (tSeq (tAsg (tOp (rIxL K) (tP K 0) (tP K 1)) (gName 2)) (tSeq (tAsg (tOp rAdd' (tP K 1) (tC (.int 1))) (gP 1)) (tSeq (tAsg (tVar 2) (gP 2))
    (tIfS (tTest (tOp rLt' (tVar 2) (tC (.int 1000000000000000000)))) (tAsg (tCall sp [] E0 (tCons (tVar 2) tNil)) (gP 2)) tNext)))) tNext
def tDraw3 (K : Frag) : TS := tIfS (tTest (tOp rLe' (tP K 2) (tC (.int 0))))
  (tSeq (tAsg (tOp rMod' (tI1 (tOp rAdd' (tOp rAdd' (tOp rMul' (tP K 4) (tC (.int 48271))) (tOp rMul' (tP K 3) (tC (.int 69621)))) (tC (.int 1)))) (tC (.int 2147483647))) (gName 3))
  (tSeq (tAsg (tOp rMod' (tI1 (tOp rAdd' (tOp rMul' (tVar 3) (tC (.int 16807))) (tP K 3))) (tC (.int 2147483629))) (gName 3))
    (tRet (tOp rMod' (tOp rDiv' (tVar 3) (tC (.int 5))) (tVar 1))))) tNext
def tDraw (K : Frag) (sp : Sp) : TS := tSeq (tDraw1 K sp) (tSeq (tAsg (tOp rAdd' (tP K 3) (tC (.int 1))) (gP 3)) (tSeq (tDraw3 K)
  (tSeq (tAsg (tOp rMod' (tI1 (tP K 2)) (tVar 1)) (gName 4)) (tSeq (tAsg (tOp rDiv' (tP K 2) (tVar 1)) (gP 2)) (tRet (tVar 4))))))
section
variable {μ : Md} {pa qa : Addr} {B H H' H0 : Hp} {σ : L2.St} {cells : List Int} {i v k s : Int}
theorem tP_at {K : Frag} {j : Int} {Q : VK} {x : V} (hσ : σ[0]? = some (some (.ref pa))) (h : H pa = some (.lst [.ref qa, .int i, .int v, .int k, .int s])) (hx : atI [V.ref qa, .int i, .int v, .int k, .int s] j = some x) (q : Q x H) : tP K j σ H Q :=
  ⟨_, hσ, pa, _, j, x, rfl, rfl, SqL.of h, hx, q⟩
theorem gP_at {j : Int} {jn : Nat} {x : V} {K : L2.St → Hp → Prop} (hσ : σ[0]? = some (some (.ref pa))) (h : H pa = some (.lst [.ref qa, .int i, .int v, .int k, .int s])) (hj : ixN 5 j = some jn) (q : K σ (upd H pa (.lst ([V.ref qa, .int i, .int v, .int k, .int s].set jn x)))) : gP j x σ H K :=
  ⟨_, hσ, pa, _, j, jn, rfl, rfl, h, hj, q⟩
/-- the pool's list is written -/
theorem pool_set {B' : Hp} (b : Stp μ (poolW pa qa) B H B H) (st : Stp μ (poolW pa qa) B H B' H') (na : ∀ a o, B a = some o → ¬ (poolW pa qa).adr a) {us : List V} (hok : (poolW pa qa).ok (upd H' pa (.lst us))) : Stp μ (poolW pa qa) B H B' (upd H' pa (.lst us)) := by
  have hpa : ∃ vs, H' pa = some (.lst vs) := by
    obtain ⟨c, i, v, k, s, h1, _⟩ := st.wok
    exact ⟨_, h1⟩
  obtain ⟨vs, hpa⟩ := hpa
  have nb : ∀ a o, B' a = some o → a ≠ pa := fun a o h z => by
    rcases (st.new a o h).2.2 with q | q
    · exact na a o q (.inl z)
    · obtain ⟨u, e, _⟩ := (poolW pa qa).has H a b.wok (.inl z)
      rw [q] at e; cases e
  refine ⟨st.sub, fun a o h => ?_, fun a o h n na' => ?_, fun a h => ?_, ?_, hok⟩
  · rw [upd_ne (nb a o h)]
    exact st.new a o h
  · rw [upd_ne fun z => na' (.inl z)]
    exact st.ext a o h n na'
  · by_cases ha : a = pa
    · subst ha; rw [upd_same] at h; cases h
    · rw [upd_ne ha] at h; exact st.has a h
  · refine st.tabs.keep (fun P hP => ?_) fun c q h => ?_
    · obtain ⟨ps, h, _⟩ := st.tabs P hP
      rw [upd_ne (ne_of h hpa (fun z => by cases z))]
    · rw [upd_ne (ne_of h hpa (fun z => by cases z))]; exact h
theorem pool_ok {i' v' k' s' : Int} (hne : pa ≠ qa) (h : PoolAt H pa qa cells i v k s) (hi : 0 ≤ i') : (poolW pa qa).ok (upd H pa (.lst [.ref qa, .int i', .int v', .int k', .int s'])) :=
  ⟨cells, i', v', k', s', upd_same, by rw [upd_ne (Ne.symm hne)]; exact h.2.1, hi⟩
theorem pool_at {i' v' k' s' : Int} (hne : pa ≠ qa) (h : PoolAt H pa qa cells i v k s) (hi : 0 ≤ i') : PoolAt (upd H pa (.lst [.ref qa, .int i', .int v', .int k', .int s'])) pa qa cells i' v' k' s' :=
  ⟨upd_same, by rw [upd_ne (Ne.symm hne)]; exact h.2.1, hi⟩
theorem pool_ne (h : PoolAt H pa qa cells i v k s) (hne : pa = qa) : False := by
  obtain ⟨h1, h2, _⟩ := h
  rw [hne, h2] at h1
  cases cells with
  | nil => cases h1
  | cons c cs => simp at h1
variable {n : Int} {De : Ends} {Q : VK}
theorem cmul_r {a b : Int} (h1 : -(2 ^ 64) < b) (h2 : b < 2 ^ 64) : CMul a b := .inr ⟨h1, h2⟩
/-- behind the first statement -/
theorem draw_tail {K : Frag} {B' : Hp} (hn : 0 < n) (hn2 : n < 1073741824) (b : Stp μ (poolW pa qa) B H B H) (na : ∀ a o, B a = some o → ¬ (poolW pa qa).adr a) (st : Stp μ (poolW pa qa) B H B' H') (hs : ∃ c3 c4, σ = [some (.ref pa), some (.int n), c3, c4, none])
    (hp : PoolAt H' pa qa cells i v k s) (hQ : ∀ (r : Int) H2, 0 ≤ r → r < n → Stp μ (poolW pa qa) B H B' H2 → De.rt (.int r) H2) :
    tSeq (tAsg (tOp rAdd' (tP K 3) (tC (.int 1))) (gP 3)) (tSeq (tDraw3 K) (tSeq (tAsg (tOp rMod' (tI1 (tP K 2)) (tVar 1)) (gName 4)) (tSeq (tAsg (tOp rDiv' (tP K 2) (tVar 1)) (gP 2)) (tRet (tVar 4))))) De σ H' := by
  obtain ⟨c3, c4, rfl⟩ := hs
  have hne : pa ≠ qa := fun z => pool_ne hp z
  refine tP_at rfl hp.1 rfl ⟨_, _, rfl, rfl, gP_at rfl hp.1 rfl ?_⟩
  have hp2 : PoolAt (upd H' pa (.lst [.ref qa, .int i, .int v, .int (k + 1), .int s])) pa qa cells i v (k + 1) s := pool_at hne hp hp.2.2
  have st2 : Stp μ (poolW pa qa) B H B' (upd H' pa (.lst [.ref qa, .int i, .int v, .int (k + 1), .int s])) := pool_set b st na (pool_ok hne hp hp.2.2)
  show tSeq (tDraw3 K) _ De _ (upd H' pa (.lst [.ref qa, .int i, .int v, .int (k + 1), .int s]))
  generalize upd H' pa (.lst [.ref qa, .int i, .int v, .int (k + 1), .int s]) = H3 at hp2 st2
  refine tP_at rfl hp2.1 rfl ⟨_, _, rfl, rfl, _, rfl, ?_⟩
  by_cases hv : v ≤ 0
  · rw [decide_eq_true hv]
    simp only [if_true]
    refine tP_at rfl hp2.1 rfl ⟨_, _, rfl, rfl, cmul_r (by decide) (by decide), ?_⟩
    refine tP_at rfl hp2.1 rfl ⟨_, _, rfl, rfl, cmul_r (by decide) (by decide), _, _, rfl, rfl, _, _, rfl, rfl, .inl ⟨_, rfl, _, _, rfl, rfl, (show (0 : Int) < 2147483647 by decide), ?_⟩⟩
    refine ⟨_, rfl, _, _, rfl, rfl, cmul_r (by decide) (by decide), ?_⟩
    refine tP_at rfl hp2.1 rfl ⟨_, _, rfl, rfl, .inl ⟨_, rfl, _, _, rfl, rfl, (show (0 : Int) < 2147483629 by decide), ?_⟩⟩
    refine ⟨_, rfl, _, _, rfl, rfl, (show (0 : Int) < 5 ∧ (5 : Int) < 1073741824 by decide), _, rfl, _, _, rfl, rfl, hn, ?_⟩
    exact hQ _ H3 (Int.emod_nonneg _ (by omega)) (Int.emod_lt_of_pos _ hn) st2
  · rw [decide_eq_false hv]
    simp only [Bool.false_eq_true, if_false]
    refine tP_at rfl hp2.1 rfl (.inl ⟨_, rfl, _, rfl, _, _, rfl, rfl, hn, ?_⟩)
    refine tP_at rfl hp2.1 rfl ⟨_, rfl, _, _, rfl, rfl, ⟨hn, hn2⟩, gP_at rfl hp2.1 rfl ?_⟩
    refine ⟨_, rfl, ?_⟩
    exact hQ _ _ (Int.emod_nonneg _ (by omega)) (Int.emod_lt_of_pos _ hn) (pool_set b st2 na (pool_ok hne hp2 hp2.2.2))
theorem draw_sem {K : Frag} {md : List D → Option D} (hK : K = μ.K) (hmd : ∀ c : Int, ∃ r : Int, md [.int c] = some (.int r)) {vs : List V} {E : XK} (h : spD μ IsPool [true, false] drawM vs H Q E) :
    tDraw K (spD μ NoW [false] md) { nx := fun _ H' => Q .non H', rt := Q } (L2.start ["pool", "many", "cell", "blended", "value"] vs) H := by
  obtain ⟨ω, B, ds, kk, ⟨pa, qa, rfl⟩, b, na, ha, hm, hQ⟩ := h
  cases ha with
  | wrd ha =>
    cases ha with
    | @dat _ v1 _ d1 _ hd ha =>
      cases ha
      have hm' : drawM [d1] kk := hm
      cases d1 <;> simp only [drawM] at hm' <;> first | (exact hm'.elim) | skip
      rename_i n
      obtain ⟨hn, hn2, hr⟩ := hm'
      obtain rfl := dp_int hd
      obtain ⟨cells, i, v, k, s, hp⟩ := b.wok
      have hne : pa ≠ qa := fun z => pool_ne hp z
      have tail : ∀ {σ : L2.St} {B' H' : Hp} {cells : List Int} {i v k s : Int}, Stp μ (poolW pa qa) B H B' H' → (∃ c3 c4, σ = [some (.ref pa), some (.int n), c3, c4, none]) → PoolAt H' pa qa cells i v k s →
          tSeq (tAsg (tOp rAdd' (tP K 3) (tC (.int 1))) (gP 3)) (tSeq (tDraw3 K) (tSeq (tAsg (tOp rMod' (tI1 (tP K 2)) (tVar 1)) (gName 4)) (tSeq (tAsg (tOp rDiv' (tP K 2) (tVar 1)) (gP 2)) (tRet (tVar 4))))) { nx := fun _ H' => Q .non H', rt := Q } σ H' :=
        fun {σ B' H' cells i v k s} st hs hp' => draw_tail hn hn2 b na st hs hp' fun r H2 h0 h1 st2 => hQ _ _ B' H2 (hr r h0 h1) st2 (.int r)
      show tIfS _ _ _ _ [some (.ref pa), some (.int n), none, none, none] H
      refine tP_at rfl hp.1 rfl ⟨_, _, rfl, rfl, _, rfl, ?_⟩
      by_cases hv : v ≤ 0
      · rw [decide_eq_true hv]
        simp only [if_true]
        refine tP_at rfl hp.1 rfl (tP_at rfl hp.1 rfl ⟨qa, _, rfl, .inl (SqL.of hp.2.1), _, _, rfl, rfl, _, rfl, ?_⟩)
        rw [List.length_map]
        by_cases hi : i < cells.length
        · rw [decide_eq_true hi]
          simp only [if_true]
          have hi0 := hp.2.2
          obtain ⟨j, hj⟩ : ∃ j : Nat, i = j := ⟨i.toNat, by omega⟩
          subst hj
          have hjl : j < cells.length := by omega
          have hat : atI (cells.map V.int) (j : Int) = some (.int cells[j]) := atI_nat (by rw [List.getElem?_map, List.getElem?_eq_getElem hjl]; rfl)
          refine tP_at rfl hp.1 rfl (tP_at rfl hp.1 rfl ⟨qa, _, _, _, rfl, rfl, SqL.of hp.2.1, hat, ?_⟩)
          refine tP_at rfl hp.1 rfl ⟨_, _, rfl, rfl, gP_at rfl hp.1 rfl ?_⟩
          have hp2 : PoolAt (upd H pa (.lst [.ref qa, .int ((j : Int) + 1), .int v, .int k, .int s])) pa qa cells ((j : Int) + 1) v k s := pool_at hne hp (by omega)
          have st2 : Stp μ (poolW pa qa) B H B (upd H pa (.lst [.ref qa, .int ((j : Int) + 1), .int v, .int k, .int s])) := pool_set b b na (pool_ok hne hp (by omega))
          show tSeq _ _ _ _ (upd H pa (.lst [.ref qa, .int ((j : Int) + 1), .int v, .int k, .int s]))
          generalize upd H pa (.lst [.ref qa, .int ((j : Int) + 1), .int v, .int k, .int s]) = H2 at hp2 st2
          refine ⟨_, rfl, gP_at rfl hp2.1 rfl ?_⟩
          have hp3 : PoolAt (upd H2 pa (.lst [.ref qa, .int ((j : Int) + 1), .int cells[j], .int k, .int s])) pa qa cells ((j : Int) + 1) cells[j] k s := pool_at hne hp2 (by omega)
          have st3 : Stp μ (poolW pa qa) B H B (upd H2 pa (.lst [.ref qa, .int ((j : Int) + 1), .int cells[j], .int k, .int s])) := pool_set b st2 na (pool_ok hne hp2 (by omega))
          refine ⟨_, rfl, _, _, rfl, rfl, _, rfl, ?_⟩
          by_cases hc : cells[j] < 1000000000000000000
          · rw [decide_eq_true hc]
            simp only [if_true]
            obtain ⟨r, hr'⟩ := hmd cells[j]
            refine ⟨_, rfl, Wld.no, B, [.int cells[j]], _, rfl, ⟨fun _ _ h => h, fun a o h => ⟨(st3.new a o h).1, (st3.new a o h).2.1, .inl h⟩, fun _ _ h _ _ => h, fun _ h => h, st3.tabs, trivial⟩, fun _ _ _ z => z, .dat (.int _) .nil, ⟨_, hr', rfl⟩, fun v' d' B' H4 hd' s4 hv' => ?_⟩
            cases hd'
            obtain rfl := dp_int hv'
            have st4 : Stp μ (poolW pa qa) B H B' H4 := st3.trans (Stp.ofNo ⟨fun _ _ h => h, fun a o h => ⟨(st3.new a o h).1, (st3.new a o h).2.1, .inl h⟩, fun _ _ h _ _ => h, fun _ h => h, st3.tabs, st3.wok⟩ na s4)
            have hp4 : PoolAt H4 pa qa cells ((j : Int) + 1) cells[j] k s := ⟨s4.ext _ _ hp3.1 nt_lst (fun z => z), s4.ext _ _ hp3.2.1 nt_lst (fun z => z), hp3.2.2⟩
            refine gP_at rfl hp4.1 rfl ?_
            exact tail (pool_set b st4 na (pool_ok hne hp4 hp4.2.2)) ⟨_, _, rfl⟩ (pool_at hne hp4 hp4.2.2)
          · rw [decide_eq_false hc]
            simp only [Bool.false_eq_true, if_false]
            exact tail st3 ⟨_, _, rfl⟩ hp3
        · rw [decide_eq_false hi]
          simp only [Bool.false_eq_true, if_false]
          exact tail b ⟨_, _, rfl⟩ hp
      · rw [decide_eq_false hv]
        simp only [Bool.false_eq_true, if_false]
        exact tail b ⟨_, _, rfl⟩ hp
end
end PL
end plc_
section pld_
set_option maxRecDepth 100000
set_option maxHeartbeats 2000000
/-! the pool is made; the law's own body -/
namespace PL
open PySem PySem.Spec PyProof.Rows L2 GxR GenW LamX GX PySem.W
open Mir (ret bnd lift)
def rLs (K : Frag) : List V → Hp → VK → Prop := fun xs H Q => ∃ p ys, xs = [.ref p] ∧ (SqL K H p ys ∨ SqT K H p ys) ∧ ∀ l, H l = none → Q (.ref l) (upd H l (.lst ys))
def tPool (K : Frag) : TS := tSeq (tAsg (tC (.int 7)) (gName 1)) (tSeq (tFor (iList K (tSl (rSlL K) (tVar 0) tNoPart (tPart (tC (.int 63))))) (gName 2) (tAsg (tOp rMod' (tI1 (tOp rAdd' (tOp rMul' (tVar 1) (tC (.int 31))) (tVar 2))) (tC (.int 1000003))) (gName 1)))
  (tRet (tLst (tCons (tCB (rLs K) (tCons (tVar 0) tNil)) (tCons (tC (.int 0)) (tCons (tC (.int 0)) (tCons (tC (.int 0)) (tCons (tVar 1) tNil))))))))
def spPool (μ : Md) : Sp := fun vs H Q _ => ∃ (a : Addr) (cells : List Int), vs = [.ref a] ∧ SqL μ.K H a (cells.map V.int) ∧
  ∀ pa qa salt H', H pa = none → H qa = none → PoolAt H' pa qa cells 0 0 0 salt → (∀ a o, H a = some o → H' a = some o) → (∀ a, H' a = none → H a = none) → Q (.ref pa) H'
theorem pool_sem {μ : Md} {K : Frag} (hK : K = μ.K) {vs : List V} {H : Hp} {Q : VK} {E : XK} (h : spPool μ vs H Q E) : tPool K { nx := fun _ H' => Q .non H', rt := Q } (L2.start ["script", "salt", "cell"] vs) H := by
  obtain ⟨a, cells, rfl, hs, hQ⟩ := h
  rw [← hK] at hs
  refine ⟨_, rfl, _, rfl, a, _, rfl, hs, fun p hp => ⟨p, rfl, ⟨_, SqL.of upd_same⟩, ?_⟩⟩
  have hsz : ∀ (i : Nat) x, (cutV (cells.map V.int) none (some 63))[i]? = some x → ∃ c : Int, x = .int c := fun i x e => by
    have hm := List.mem_of_getElem? e
    unfold cutV at hm
    have hm := List.mem_of_mem_drop (List.mem_of_mem_take hm)
    obtain ⟨c, _, rfl⟩ := List.mem_map.mp hm
    exact ⟨c, rfl⟩
  have hs1 : SqL K (upd H p (.lst (cutV (cells.map V.int) none (some 63)))) a (cells.map V.int) := Evl.ex_l (fun b o e => by rw [upd_ne (ne_of_none e hp)]; exact e) hs
  refine for_list (K := K) (a := p) (xs := cutV (cells.map V.int) none (some 63)) (fun _ σ' H' => H' = upd H p (.lst (cutV (cells.map V.int) none (some 63))) ∧ ∃ (salt : Int) (c2 : Option V), σ' = [some (.ref a), some (.int salt), c2]) ⟨rfl, 7, none, rfl⟩ (fun i σ' H' _ hh => by rw [hh.1]; exact SqL.of upd_same) (fun i x σ' H' hx ⟨e1, salt, c2, e2⟩ => ?_) fun σ' H' ⟨e1, salt, c2, e2⟩ => ?_
  · subst e1 e2
    obtain ⟨c, rfl⟩ := hsz i x hx
    exact ⟨_, rfl, _, _, rfl, rfl, cmul_r (by decide) (by decide), _, rfl, _, _, rfl, rfl, .inl ⟨_, rfl, _, _, rfl, rfl, (show (0 : Int) < 1000003 by decide), rfl, _, _, rfl⟩⟩
  · subst e1 e2
    refine ⟨_, rfl, a, _, rfl, .inl hs1, fun q hq => ⟨_, rfl, by simp [sizeLine_eq], fun r hr => ?_⟩⟩
    have hpq : q ≠ p := fun z => by rw [z, upd_same] at hq; cases hq
    rw [upd_ne hpq] at hq
    have hrq : r ≠ q := fun z => by rw [z, upd_same] at hr; cases hr
    rw [upd_ne hrq] at hr
    have hrp : r ≠ p := fun z => by rw [z, upd_same] at hr; cases hr
    rw [upd_ne hrp] at hr
    refine hQ r q salt _ hr hq ⟨upd_same, by rw [upd_ne (Ne.symm hrq), upd_same], Int.le_refl 0⟩ (fun b o e => ?_) fun b e => ?_
    · rw [upd_ne (ne_of_none e hr), upd_ne (ne_of_none e hq), upd_ne (ne_of_none e hp)]
      exact e
    · by_cases h1 : b = r
      · rw [h1]; exact hr
      · rw [upd_ne h1] at e
        by_cases h2 : b = q
        · rw [h2]; exact hq
        · rw [upd_ne h2] at e
          by_cases h3 : b = p
          · rw [h3]; exact hp
          · rw [upd_ne h3] at e
            exact e

/-! ### the law -/
def spLaw (μ : Md) : Sp := fun vs H Q _ => ∃ (a : Addr) (cells : List Int), vs = [.ref a] ∧ SqL μ.K H a (cells.map V.int) ∧ μ.Tabs H ∧ ∀ H', Q (.bl true) H'
section
variable {μ : Md}
theorem law_fn {β : Type} {k i : Nat} {x qual : Str} {params : Arguments} {body : List Stmt} {scope : Scope} {pd : He.Defn} {fd : FuncData} {N : List Str} {m : WP (Fl Empty β)} {out : Option (β → Env)} {st : Stmt} {rest : List Stmt}
    (F : FunD μ.K x qual params body scope [] [] (He.fAd μ.K pd) fd) (S : FnScope N ["script"] scope)
    (hc : Bool) (htb : hc = true → LamX.TabB μ.base μ.mg (He.cT μ.K pd).1 (He.cT μ.K pd).2 ∧ (He.cT μ.K pd).2 ∈ μ.Ps) (hbd : body = st :: rest) (hi : i < N.length) (hi0 : i ≠ 0)
    (hst : ∀ X, CxIs μ (Cw.of N scope k hc qual (He.cT μ.K pd) IsPool) X → PS X st (tAsg (tCall (spPool μ) [] E0 (tCons (tVar 0) tNil)) (gName i)))
    (hrest : SS μ (Cw.of N scope k hc qual (He.cT μ.K pd) IsPool) ((List.replicate N.length none).set i (some .wrd)) oE out rest m) (hmath : m fun r => r = .rt (.bool true)) :
    FnOk μ.prog μ.w μ.K μ.mg μ.base CX0 (k + 1) (He.fAd μ.K pd) fd ["script"] (spLaw μ) := by
  refine Fn.rawF (W := IsPool) F S hc htb (fun vs H Q E ⟨a, cells, e, _⟩ => by rw [e]; rfl) fun X hX vs H Q E ⟨a, cells, e, hs, ht, hQ⟩ => ⟨_, by rw [hbd]; exact pss_cons (hst X hX) (hrest X hX), ?_⟩
  subst e
  have hN : 0 < N.length := by omega
  refine ⟨.ref a, ?_, a, cells, rfl, hs, fun pa qa salt H' hpa hqa hp kp hs' => ?_⟩
  · unfold L2.start
    simp
  · have hne : pa ≠ qa := fun z => pool_ne hp z
    have tabs : μ.Tabs H' := fun P hP => by
      obtain ⟨ps, h1, h2, h3⟩ := ht P hP
      exact ⟨ps, kp P _ h1, h2, fun pos cv e => by
        obtain ⟨c, e1, e2⟩ := h3 pos cv e
        exact ⟨c, e1, kp c _ e2⟩⟩
    have b : Stp μ (poolW pa qa) (fun _ => none) H' (fun _ => none) H' := ⟨fun _ _ h => (nomatch h), fun _ _ h => (nomatch h), fun _ _ h _ _ => h, fun _ h => h, tabs, ⟨cells, 0, 0, 0, salt, hp⟩⟩
    refine ⟨⟨poolW pa qa, H', fun _ => none⟩, fun _ => none, _, ⟨pa, qa, rfl⟩, ⟨b, fun _ _ h => (nomatch h), ?_, fun j sl e => ?_, fun j j' ds es w e1 _ _ _ => ?_⟩, hmath, ⟨fun o _ b B' σ' H'' hk => (nomatch hk), fun v d B' H'' hk _ hd => ?_, fun a vs ds B' H'' hk => (nomatch hk), fun c => c.elim, fun c => c.elim⟩⟩
    · unfold L2.start
      simp
      omega
    · by_cases hj : i = j
      · subst hj
        rw [List.getElem?_set_self (by simpa using hi)] at e
        cases e
        refine ⟨.ref pa, ?_, rfl⟩
        rw [List.getElem?_set_self]
        unfold L2.start
        simp
        omega
      · rw [List.getElem?_set_ne hj, List.getElem?_replicate] at e
        split at e <;> cases e
    · by_cases hj : i = j
      · subst hj
        rw [List.getElem?_set_self (by simpa using hi)] at e1
        cases e1
      · rw [List.getElem?_set_ne hj, List.getElem?_replicate] at e1
        split at e1 <;> cases e1
    · cases hk
      rw [dp_bl hd]
      exact hQ H''
end
end PL
end pld_
section ple_
set_option maxRecDepth 100000
set_option maxHeartbeats 2000000
/-! the rules with their side conditions as one Bool -/
namespace PL
open PySem PySem.Spec PyProof.Rows L2 GxR GenW LamX GX PySem.W
open Mir (ret bnd lift)
def kEq : NameKind → NameKind → Bool
  | .local, .local => true
  | .cell, .cell => true
  | .free, .free => true
  | .globalImplicit, .globalImplicit => true
  | _, _ => false
theorem kEq_ok {a b : NameKind} (h : kEq a b = true) : a = b := by cases a <;> cases b <;> first | rfl | cases h
def lkB (sc : Scope) (x : Str) (k : NameKind) : Bool := match sc.names.lookup x with | some k' => kEq k' k | none => false
theorem lkB_ok {sc : Scope} {x : Str} {k : NameKind} (h : lkB sc x k = true) : sc.names.lookup x = some k := by
  unfold lkB at h
  split at h
  · rename_i k' e
    rw [e, kEq_ok h]
  · cases h
def atB (N : List Str) (i : Nat) (x : Str) : Bool := match N[i]? with | some y => y == x | none => false
theorem atB_ok {N : List Str} {i : Nat} {x : Str} (h : atB N i x = true) : N[i]? = some x := by
  unfold atB at h
  split at h
  · rename_i y e
    rw [e, eq_of_beq h]
  · cases h
def noB (x : Str) : Bool := !(x == ("__debug__" : Str)) && !(x == ("__classdict__" : Str)) && !(x == ("__name__" : Str))
def nmB (g : Cw) (i : Nat) (x : Str) : Bool := atB g.N i x && (lkB g.scope x .local || lkB g.scope x .cell || lkB g.scope x .free) && noB x
theorem nmB_ok {g : Cw} {i : Nat} {x : Str} (h : nmB g i x = true) : g.N[i]? = some x ∧ Vis g.scope x ∧ (x == ("__debug__" : Str)) = false ∧ (x == ("__classdict__" : Str)) = false := by
  unfold nmB noB at h
  simp only [Bool.and_eq_true, Bool.or_eq_true, Bool.not_eq_true'] at h
  refine ⟨atB_ok h.1.1, ?_, h.2.1.1, h.2.1.2⟩
  rcases h.1.2 with (h | h) | h
  · exact .inl (lkB_ok h)
  · exact .inr (.inl (lkB_ok h))
  · exact .inr (.inr (lkB_ok h))
def stB (g : Cw) (i : Nat) (x : Str) : Bool := atB g.N i x && (lkB g.scope x .local || (lkB g.scope x .cell && g.ow x))
theorem stB_ok {g : Cw} {i : Nat} {x : Str} (h : stB g i x = true) : g.N[i]? = some x ∧ Loc g.scope x ∧ (g.ow x = true ∨ g.scope.names.lookup x = some .local) := by
  unfold stB at h
  simp only [Bool.and_eq_true, Bool.or_eq_true] at h
  refine ⟨atB_ok h.1, ?_⟩
  rcases h.2 with h | h
  · exact ⟨.inl (lkB_ok h), .inr (lkB_ok h)⟩
  · exact ⟨.inr (lkB_ok h.1), .inl h.2⟩
def glB (g : Cw) (x : Str) : Bool := lkB g.scope x .globalImplicit && noB x
theorem glB_ok {g : Cw} {x : Str} (h : glB g x = true) : g.scope.names.lookup x = some .globalImplicit ∧ (x == ("__debug__" : Str)) = false ∧ x ≠ "__name__" := by
  unfold glB noB at h
  simp only [Bool.and_eq_true, Bool.not_eq_true'] at h
  exact ⟨lkB_ok h.1, h.2.1.1, fun z => by rw [z] at h; simp at h⟩
theorem gl {g : Cw} {x : Str} (h : glB g x = true) : g.scope.names.lookup x = some .globalImplicit := (glB_ok h).1
section
variable {M : Type → Type} [Mir M]
variable {μ : Md} {g : Cw} {ρ : Env} {γ β : Type}
variable {oL : γ → Env} {out : Option (β → Env)} {rest : List Stmt} {e a b : Expr} {ma mb me : M D} {pos p p1 cpos apos tpos : Pos} {i j : Nat} {x y : Str} {d : D} {ds : List D}
theorem Xv (i : Nat) (hρ : ρ[i]? = some (some (.dat d))) (h : nmB g i x = true) : EX μ g ρ (.Name x pos) (ret d : M D) := let ⟨a, b, c, d⟩ := nmB_ok h; EX.var hρ a b c d
theorem Bo (i : Nat) (hρ : ρ[i]? = some (some (.own ds))) (h : nmB g i x = true) : EB μ g ρ (.Name x pos) (ret (.list ds) : M D) := let ⟨a, b, c, d⟩ := nmB_ok h; EB.own hρ a b c d
theorem Yo (i : Nat) (hρ : ρ[i]? = some (some (.own ds))) (h : nmB g i x = true) : EY μ g ρ (.Name x pos) (ret ds : M (List D)) := let ⟨a, b, c, d⟩ := nmB_ok h; EY.own hρ a b c d
theorem Pw {ws : List Bool} {es : List Expr} {ms : M (List D)} (i : Nat) (hρ : ρ[i]? = some (some .wrd)) (h : nmB g i x = true) (hs : EP μ g ρ ws es ms) : EP μ g ρ (true :: ws) (.Name x p :: es) ms := let ⟨a, b, c, d⟩ := nmB_ok h; EP.wrd hρ a b hs (fun _ => rfl) c d
theorem Xc {ws : List Bool} {k : Nat} {es : List Expr} {ms : M (List D)} {md : List D → Option D} (F : Fn μ NoW ws k x md) (hw : ws.all (fun b => !b) = true) (hk : k ≤ g.k) (hg : glB g x = true) (ha : EP μ g ρ ws (e :: es) ms)
    (he : ∀ env, starEach (e :: es) env = (false, eval e env) :: starEach es env := by intro _; rfl) (hpl : ∀ env, (backTo pos (starEach es env)).any (·.1) = false := by intro _; rfl) : EX μ g ρ (.Call (.Name x p) (e :: es) [] pos) (bnd ms fun ds => lift (md ds)) := EX.call F hw hk (gl hg) ha (glB_ok hg).2.1 he hpl
theorem Xw {W : Wld → Prop} {ws : List Bool} {k : Nat} {es : List Expr} {ms : M (List D)} {md : List D → M D} (F : Fn μ W ws k x md) (hW : ∀ ω, g.W ω → W ω) (hk : k ≤ g.k) (hg : glB g x = true) (ha : EP μ g ρ ws (e :: es) ms)
    (he : ∀ env, starEach (e :: es) env = (false, eval e env) :: starEach es env := by intro _; rfl) (hpl : ∀ env, (backTo pos (starEach es env)).any (·.1) = false := by intro _; rfl) : EX μ g ρ (.Call (.Name x p) (e :: es) [] pos) (bnd ms md) := EX.callW F hW hk (gl hg) ha (glB_ok hg).2.1 he hpl
theorem Lc {ws : List Bool} {k : Nat} {es : List Expr} {ms : M (List D)} {md : List D → Option (List D)} (F : FnL μ NoW ws k x md) (hw : ws.all (fun b => !b) = true) (hk : k ≤ g.k) (hg : glB g x = true) (ha : EP μ g ρ ws (e :: es) ms)
    (he : ∀ env, starEach (e :: es) env = (false, eval e env) :: starEach es env := by intro _; rfl) (hpl : ∀ env, (backTo pos (starEach es env)).any (·.1) = false := by intro _; rfl) : EL μ g ρ (.Call (.Name x p) (e :: es) [] pos) (bnd ms fun ds => lift (md ds)) := EL.call F hw hk (gl hg) ha (glB_ok hg).2.1 he hpl
theorem Lw {W : Wld → Prop} {ws : List Bool} {k : Nat} {es : List Expr} {ms : M (List D)} {md : List D → M (List D)} (F : FnL μ W ws k x md) (hW : ∀ ω, g.W ω → W ω) (hk : k ≤ g.k) (hg : glB g x = true) (ha : EP μ g ρ ws (e :: es) ms)
    (he : ∀ env, starEach (e :: es) env = (false, eval e env) :: starEach es env := by intro _; rfl) (hpl : ∀ env, (backTo pos (starEach es env)).any (·.1) = false := by intro _; rfl) : EL μ g ρ (.Call (.Name x p) (e :: es) [] pos) (bnd ms md) := EL.callW F hW hk (gl hg) ha (glB_ok hg).2.1 he hpl
theorem Gi {z : Int} (hg : glB g x = true) (hm : ∃ t, μ.mg x = some (.int z t)) : EX μ g ρ (.Name x pos) (ret (.int z) : M D) := EX.globI (gl hg) hm (glB_ok hg).2.1
theorem Gs {z : Str} (hg : glB g x = true) (hm : ∃ t, μ.mg x = some (.str z t)) : EX μ g ρ (.Name x pos) (ret (.str z) : M D) := EX.globS (gl hg) hm (glB_ok hg).2.1
theorem Tn (i : Nat) (h : stB g i x = true) : EG μ g ρ (.Name x pos) [i] (fun d => ρ.set i (some (.dat d))) (fun d => (ret d : M D)) := let ⟨a, b, c⟩ := stB_ok h; EG.name a b c
theorem Sa {mr : D → M (Fl γ β)} (i : Nat) (h : stB g i x = true) (he : EX μ g ρ e me) (hr : ∀ d, SS μ g (ρ.set i (some (.dat d))) oL out rest (mr d)) (hs : ∀ env, swapsWith e (some (.Name x p)) pos.line env = pure false := by intro _; rfl) :
    SS μ g ρ oL out (.Assign [.Name x p] e pos :: rest) (bnd me mr) := let ⟨a, b, c⟩ := stB_ok h; SS.asg he a b c hr hs
theorem Sal {me : M (List D)} {mr : List D → M (Fl γ β)} (i : Nat) (h : stB g i x = true) (he : EL μ g ρ e me) (hr : ∀ ds, SS μ g (ρ.set i (some (.own ds))) oL out rest (mr ds)) (hs : ∀ env, swapsWith e (some (.Name x p)) pos.line env = pure false := by intro _; rfl) :
    SS μ g ρ oL out (.Assign [.Name x p] e pos :: rest) (bnd me mr) := let ⟨a, b, c⟩ := stB_ok h; SS.asgL he a b c hr hs
def cmB (g : Cw) (i : Nat) (x : Str) (p cpos : Pos) (scope : Scope) : Bool := atB g.N i x && lkB g.scope x .local && (match g.scope.kind with | .function => true | _ => false) && (p.line == cpos.line) && !(scope.names.any fun (n, k) => n == x && (k == .local || k == .cell))
/-- name = [.. for ..], the name a plain local -/
theorem Sac {elt tg iter : Expr} {ifs : List Expr} {scope : Scope} {γ' : Type} {is : List Nat} {o : γ' → Env} {mi : M (List D)} {mb : D → M γ'} {mt : γ' → M Bool} {me : γ' → M D} {mr : List D → M (Fl γ β)} (i : Nat) (own : List (Str × Nat)) (h : cmB g i x p cpos scope = true)
    (ok : blkC g.N g.scope scope own = true) (hi : EI μ g ρ true tg iter mi) (hg : EG μ (g.blk scope) (wipeE ρ (own.map (·.2))) tg is o mb) (his : ∀ i ∈ is, i ∈ own.map (·.2)) (ht : ∀ c, ETs μ (g.blk scope) (o c) ifs (mt c)) (he : ∀ c, EX μ (g.blk scope) (o c) elt (me c))
    (hr : ∀ ds, SS μ g (ρ.set i (some (.own ds))) oL out rest (mr ds))
    (hs : ∀ env x, foldedSetIterable iter env x = pure x := by intro _ _; rfl) : SS μ g ρ oL out (.Assign [.Name x p] (.ListComp elt [⟨tg, iter, ifs, 0⟩] scope cpos) pos :: rest) (bnd (bnd mi (compF mb mt me)) mr) := by
  unfold cmB at h
  simp only [Bool.and_eq_true, Bool.not_eq_true'] at h
  have hk : g.scope.kind = .function := by
    have := h.1.1.2
    split at this
    · assumption
    · cases this
  exact SS.asgC (blkOk_by ok) hi hg his ht he (atB_ok h.1.1.1.1) (lkB_ok h.1.1.1.2) hk h.1.2 h.2 hr hs
theorem Lcomp {elt tg iter : Expr} {ifs : List Expr} {scope : Scope} {γ' : Type} {is : List Nat} {o : γ' → Env} {mi : M (List D)} {mb : D → M γ'} {mt : γ' → M Bool} {me : γ' → M D} (own : List (Str × Nat))
    (ok : blkC g.N g.scope scope own = true) (hi : EI μ g ρ true tg iter mi) (hg : EG μ (g.blk scope) (wipeE ρ (own.map (·.2))) tg is o mb) (his : ∀ i ∈ is, i ∈ own.map (·.2)) (ht : ∀ c, ETs μ (g.blk scope) (o c) ifs (mt c)) (he : ∀ c, EX μ (g.blk scope) (o c) elt (me c))
    (hs : ∀ env x, foldedSetIterable iter env x = pure x := by intro _ _; rfl) : EL μ g ρ (.ListComp elt [⟨tg, iter, ifs, 0⟩] scope pos) (bnd mi (compF mb mt me)) := EL.comp (blkOk_by ok) hi hg his ht he hs
theorem Sapp {mr : List D → M (Fl γ β)} (i : Nat) (hρ : ρ[i]? = some (some (.own ds))) (h : nmB g i x = true) (he : EX μ g ρ e me) (hr : ∀ es, SS μ g (ρ.set i (some (.own es))) oL out rest (mr es))
    (hb : ∀ env, attributeBase (.Name x p1) "append" env (eval (.Name x p1) env) = eval (.Name x p1) env := by intro _; rfl) (hline : (apos.endLine == cpos.line) = true := by rfl)
    (h1 : ∀ env, starEach [e] env = (false, eval e env) :: starEach [] env := by intro _; rfl) : SS μ g ρ oL out (.Expr (.Call (.Attribute (.Name x p1) "append" apos) [e] [] cpos) pos :: rest) (bnd me fun d => bnd (lift (dApp ds d)) mr) := let ⟨a, b, c, d⟩ := nmB_ok h; SS.app hρ a b he hr c d hb hline h1
theorem Sset {ie : Expr} {mi : M D} {mr : List D → M (Fl γ β)} (i : Nat) (hρ : ρ[i]? = some (some (.own ds))) (h : nmB g i x = true) (he : EX μ g ρ e me) (hi : EX μ g ρ ie mi) (hr : ∀ es, SS μ g (ρ.set i (some (.own es))) oL out rest (mr es))
    (ha : ∀ env v, assign (.Subscript (.Name x p1) ie tpos) env v = (do
      let ov ← holding [v] (eval (.Name x p1) env)
      let iv ← holding [v, ov] (eval ie env)
      standAt tpos
      holding [v, ov, iv] (setItem ov iv v)
      release [v, ov, iv] []) := by intro _ _; rfl)
    (hs : ∀ env, swapsWithSole [.Subscript (.Name x p1) ie tpos] e pos.line env = pure false := by intro _; rfl) (hw : ∀ env, swappedStores [.Subscript (.Name x p1) ie tpos] e env = pure none := by intro _; rfl) (h1 : ∀ env, (assignEach [.Subscript (.Name x p1) ie tpos] env).map (·.2) = [assign (.Subscript (.Name x p1) ie tpos) env] := by intro _; rfl) :
    SS μ g ρ oL out (.Assign [.Subscript (.Name x p1) ie tpos] e pos :: rest) (bnd me fun d => bnd mi fun j => bnd (lift (dSet ds j d)) mr) := let ⟨a, b, c, d⟩ := nmB_ok h; SS.setIx hρ a b he hi hr c d ha hs hw h1
theorem Saug {op : Operator} {f : D → D → Option D} {mr : D → M (Fl γ β)} (i : Nat) (hp : IpOk μ g op f) (hρ : ρ[i]? = some (some (.dat d))) (h : stB g i x = true) (he : EX μ g ρ e me) (hr : ∀ d, SS μ g (ρ.set i (some (.dat d))) oL out rest (mr d)) :
    SS μ g ρ oL out (.AugAssign (.Name x p) op e pos :: rest) (bnd me fun y => bnd (lift (f d y)) mr) := let ⟨a, b, c⟩ := stB_ok h; SS.aug hp hρ a b c he hr
theorem SaugI {op : Operator} {f : D → D → Option D} {ie : Expr} {mi : M D} {mr : List D → M (Fl γ β)} (i : Nat) (hp : IpOk μ g op f) (hρ : ρ[i]? = some (some (.own ds))) (h : nmB g i x = true) (hi : EX μ g ρ ie mi) (he : EX μ g ρ e me) (hr : ∀ es, SS μ g (ρ.set i (some (.own es))) oL out rest (mr es))
    (ha : ∀ ov iv new, augStore ie ov iv new = (do holding [new, ov, iv] (setItem ov iv new); release [new, ov, iv] []; pure .next) := by intros; rfl) :
    SS μ g ρ oL out (.AugAssign (.Subscript (.Name x p1) ie tpos) op e pos :: rest) (bnd mi fun j => bnd (lift (dIx (.list ds) j)) fun z => bnd me fun y => bnd (lift (f z y)) fun w => bnd (lift (dSet ds j w)) mr) := let ⟨a, b, c, d⟩ := nmB_ok h; SS.augIx hp hρ a b hi he hr c d ha
theorem Srto (i : Nat) (hρ : ρ[i]? = some (some (.own ds))) (h : nmB g i x = true) : SS μ g ρ oL out (.Return (some (.Name x p)) pos :: rest) (ret (.rl ds) : M (Fl γ β)) := let ⟨a, b, c, d⟩ := nmB_ok h; SS.retO hρ a b c d
theorem MpopAt (i : Nat) (hρ : ρ[i]? = some (some (.own ds))) (h : nmB g i x = true) (he : EX μ g ρ e me)
    (hb : ∀ env, attributeBase (.Name x p1) "pop" env (eval (.Name x p1) env) = eval (.Name x p1) env := by intro _; rfl) (hline : (apos.endLine == cpos.line) = true := by rfl) (h1 : ∀ env, starEach [e] env = (false, eval e env) :: starEach [] env := by intro _; rfl) :
    EM μ g ρ i (.Call (.Attribute (.Name x p1) "pop" apos) [e] [] cpos) (bnd me fun j => lift (dPopAt ds j)) := let ⟨a, b, c, d⟩ := nmB_ok h; EM.popAt hρ a b he c d hb hline h1
theorem Mpop (i : Nat) (hρ : ρ[i]? = some (some (.own ds))) (h : nmB g i x = true)
    (hb : ∀ env, attributeBase (.Name x p1) "pop" env (eval (.Name x p1) env) = eval (.Name x p1) env := by intro _; rfl) (hline : (apos.endLine == cpos.line) = true := by rfl) :
    EM μ g ρ i (.Call (.Attribute (.Name x p1) "pop" apos) [] [] cpos) (lift (dPop ds) : M (D × List D)) := let ⟨a, b, c, d⟩ := nmB_ok h; EM.pop hρ a b c d hb hline
theorem SasgM {me : M (D × List D)} {mr : D × List D → M (Fl γ β)} (i : Nat) (h : stB g i x = true) (he : EM μ g ρ j e me) (hr : ∀ c : D × List D, SS μ g ((ρ.set j (some (.own c.2))).set i (some (.dat c.1))) oL out rest (mr c)) (hs : ∀ env, swapsWith e (some (.Name x p)) pos.line env = pure false := by intro _; rfl) :
    SS μ g ρ oL out (.Assign [.Name x p] e pos :: rest) (bnd me mr) := let ⟨a, b, c⟩ := stB_ok h; SS.asgM he a b c hr hs
theorem SappM {me : M (D × List D)} {mr : List D → List D → M (Fl γ β)} (i j : Nat) (hij : i ≠ j) (hρ : ρ[i]? = some (some (.own ds))) (h : nmB g i x = true) (he : EM μ g ρ j e me) (hr : ∀ es fs, SS μ g ((ρ.set j (some (.own fs))).set i (some (.own es))) oL out rest (mr es fs))
    (hb : ∀ env, attributeBase (.Name x p1) "append" env (eval (.Name x p1) env) = eval (.Name x p1) env := by intro _; rfl) (hline : (apos.endLine == cpos.line) = true := by rfl)
    (h1 : ∀ env, starEach [e] env = (false, eval e env) :: starEach [] env := by intro _; rfl) : SS μ g ρ oL out (.Expr (.Call (.Attribute (.Name x p1) "append" apos) [e] [] cpos) pos :: rest) (bnd me fun c => bnd (lift (dApp ds c.1)) fun es => mr es c.2) := let ⟨a, b, c, d⟩ := nmB_ok h; SS.appM hij hρ a b he hr c d hb hline h1
theorem sw_cell {elt : Expr} {gs : List Comprehension} {scope : Scope} {cpos py : Pos} {l : Nat} {env : PySem.Env} (hk : env.scope.names.lookup y = some .cell) : swapsWith (.ListComp elt gs scope cpos) (some (.Name y py)) l env = pure false := by
  have ky : env.kindOf y = some .cell := hk
  unfold swapsWith
  simp only [ky]
  have e : (some NameKind.cell == some NameKind.local) = false := by decide
  rw [e, Bool.and_false, Bool.false_and, Bool.false_and]
/-- name = [.. for ..], the name a cell -/
theorem Salc {elt : Expr} {gs : List Comprehension} {scope : Scope} {me : M (List D)} {mr : List D → M (Fl γ β)} (i : Nat) (h : stB g i x = true) (hc : lkB g.scope x .cell = true) (he : EL μ g ρ (.ListComp elt gs scope cpos) me) (hr : ∀ ds, SS μ g (ρ.set i (some (.own ds))) oL out rest (mr ds)) :
    SS μ g ρ oL out (.Assign [.Name x p] (.ListComp elt gs scope cpos) pos :: rest) (bnd me mr) := by
  obtain ⟨hN, hv, hf⟩ := stB_ok h
  exact fun X hX => (pss_cons (ps_set (i := i) (by rw [hX.N]; exact hX.nd) (by rw [hX.N]; exact hN) (hX.loc hv) (he X hX) (sw_cell (by rw [hX.scope]; exact lkB_ok hc)) (hX.fnl hf)) (PSs.ex fun d => hr d X hX)).imp fun Dn σ H ⟨φ, B, k, hW, F, hm, hn⟩ =>
    rd.st hW F hm fun ds v B1 H1 hk s1 ⟨a, vs, ev, ha, hn0, hb, hna, hd⟩ => by
      subst ev
      exact ⟨ds, tail_of hn s1.sub hW ((F.go s1).setOwn ha hb (F.stp.has _ hn0) hna hd fun j es e _ => F.noOwn hn0 j es e) hk⟩
theorem sw_not2 {y : Str} {p py pt pt2 : Pos} {kt k2 : Nat} {a b : Expr} {env : PySem.Env} (h : (env.scope.names.lookup x == some .local) = false ∨ (env.scope.names.lookup y == some .local) = false) :
    swappedStores [.Tuple [.Name x p, .Name y py] kt pt] (.Tuple [a, b] k2 pt2) env = pure none := by
  rcases h with h | h
  · by_cases h2 : (env.scope.names.lookup y == some .local && py.line == p.line) = true <;> simp [swappedStores, Env.kindOf, List.filterMap, Expr.pos, h, h2]
  · by_cases q : env.scope.names.lookup x = some .local <;> simp [swappedStores, Env.kindOf, List.filterMap, Expr.pos, h, q]
theorem lkB_no {sc : Scope} {x : Str} (h : lkB sc x .local = false) : (sc.names.lookup x == some .local) = false := by
  unfold lkB at h
  cases e : sc.names.lookup x with
  | none => rfl
  | some k' =>
    rw [e] at h
    cases k' <;> first | rfl | cases h
/-- x, y = a, b, one of the names a cell -/
theorem SasgTc {y : Str} {p py pt pt2 : Pos} {kt k2 : Nat} {a b : Expr} {γ' : Type} {is : List Nat} {o : γ' → PL.Env} {me : M D} {mb : D → M γ'} {mr : γ' → M (Fl γ β)} (hc : (lkB g.scope x .local && lkB g.scope y .local) = false) (he : EX μ g ρ (.Tuple [a, b] k2 pt2) me) (ht : EG μ g ρ (.Tuple [.Name x p, .Name y py] kt pt) is o mb) (hr : ∀ c, SS μ g (o c) oL out rest (mr c))
    (hs : ∀ env, swapsWithSole [.Tuple [.Name x p, .Name y py] kt pt] (.Tuple [a, b] k2 pt2) pos.line env = pure false := by intro _; rfl) (h1 : ∀ env, (assignEach [.Tuple [.Name x p, .Name y py] kt pt] env).map (·.2) = [assign (.Tuple [.Name x p, .Name y py] kt pt) env] := by intro _; rfl) :
    SS μ g ρ oL out (.Assign [.Tuple [.Name x p, .Name y py] kt pt] (.Tuple [a, b] k2 pt2) pos :: rest) (bnd me fun d => bnd (mb d) mr) := fun X hX => (pss_cons (ps_asg (he X hX) (ht X hX) (hs _) (sw_not2 (by rw [hX.scope]; exact (Bool.and_eq_false_iff.mp hc).imp lkB_no lkB_no)) (h1 _)) (PSs.ex fun d => hr d X hX)).imp fun Dn σ H ⟨φ, B, k, hW, F, hm, hn⟩ =>
  rd.st hW F hm fun d v B1 H1 hk s1 hd => ⟨φ, B1, d, _, hW, F.go s1, hd, Mir.wp_bnd hk, fun c σ' hk2 F2 _ => ⟨c, tail_of hn s1.sub hW F2 hk2⟩⟩
theorem Cov.z : Cov [] [] := trivial
theorem Cov.n {a b : PL.Env} {t : Option Sl} (h : Cov a b) : Cov (none :: a) (t :: b) := h
theorem Cov.s {a b : PL.Env} {s : Sl} (h : Cov a b) : Cov (some s :: a) (some s :: b) := ⟨rfl, h⟩
end
end PL
end ple_
section zx_
set_option maxRecDepth 100000
set_option maxHeartbeats 2000000
/-! zip(a tuple, a list) -/
namespace GX
open PySem PySem.Spec PyProof.Rows L2
open PySem.Sem (wp)
theorem apart_sep {z TI TO i1 i2 a b : Addr} (D : ZipApart z TI TO i1 i2 a b) : ZipSep2 z TI TO i1 i2 [i1, a] [i2, b] where
  TIz := D.TIz
  TOz := D.TOz
  TITO := D.TITO
  TIi1 := D.TIi1
  mem1 := by simp
  zf1 := by simp [D.i1z.symm, D.l1z.symm]
  Tf1 := by simp [D.TOi1, D.l1TO.symm]
  TIi2 := D.TIi2
  mem2 := by simp
  zf2 := by simp [D.i2z.symm, D.l2z.symm]
  Tf2 := by simp [D.TOi2, D.l2TO.symm]
  sep1_2 := by simp [D.i12, D.l2i1.symm]
  sep2_1 := by simp [D.i12.symm, D.l1i2.symm]
/-- the tuple at a and the list at b, the items in new pairs -/
def ItzM (K : PySem.W.Frag) (a b : Addr) : It where
  go := fun i H => ∃ (xs ys : List V) (x y : V), SqT K H a xs ∧ SqL K H b ys ∧ xs[i]? = some x ∧ ys[i]? = some y
  yld := fun i H v H' => ∃ T x y, v = .ref T ∧ H T = none ∧ H' = upd H T (.tup [x, y]) ∧ (∀ xs, SqT K H a xs → xs[i]? = some x) ∧ ∀ ys, SqL K H b ys → ys[i]? = some y
  stop := fun i H => ∃ xs ys : List V, SqT K H a xs ∧ SqL K H b ys ∧ (xs.length ≤ i ∨ ys.length ≤ i)
def StM (a b z TI TO i1 i2 : Addr) (i : Nat) (h : Heap) : Prop := IsZip h z TI TO .none ∧ IsPair h TI (.ref i1) (.ref i2) ∧ (∃ x y, IsPair h TO x y) ∧ h.IsTupleIter i1 a i ∧ h.IsListIter i2 b i
theorem five {z TI TO i1 i2 c : Addr} (h : c ∈ [z, TI, TO, i1, i2]) : c = z ∨ c = TI ∨ c = TO ∨ c = i1 ∨ c = i2 := by simpa using h
theorem turn_zipM {P : Program} {w : World} {K : PySem.W.Frag} {elts : List Expr} {kk : Nat} {tpos : Pos} {a b z TI TO i1 i2 : Addr} (D : ZipApart z TI TO i1 i2 a b) : Turn P w K (.Tuple elts kk tpos) (ItzM K a b) [z, TI, TO, i1, i2] z (StM a b z TI TO i1 i2) where
  mem := by simp
  obj := fun i h st c hc => by
    obtain ⟨q1, q2, ⟨x, y, q3⟩, ⟨o1, e1, _, d1⟩, ⟨o2, e2, _, d2⟩⟩ := st
    rcases five hc with q | q | q | q | q <;> subst q
    · exact ⟨_, q1, fun v q => nomatch q⟩
    · exact ⟨_, q2, fun v q => nomatch q⟩
    · exact ⟨_, q3, fun v q => nomatch q⟩
    · exact ⟨o1, e1, fun v q => by rw [d1] at q; cases q⟩
    · exact ⟨o2, e2, fun v q => by rw [d2] at q; cases q⟩
  keep := fun i h h' ⟨q1, q2, ⟨x, y, q3⟩, q4, q5⟩ k => ⟨k z (by simp) _ q1, k TI (by simp) _ q2, ⟨x, y, k TO (by simp) _ q3⟩, q4.at fun o q => k i1 (by simp) o q, q5.at fun o q => k i2 (by simp) o q⟩
  item := by
    intro X hP hw hK hc i pins s σ H E I hf st hg
    subst hP hw hK
    obtain ⟨q1, q2, ⟨x0, y0, q3⟩, q4, q5⟩ := st
    obtain ⟨xs, ys, x, y, sx, sy, hx, hy⟩ := hg
    obtain ⟨its, rv, p, _⟩ := I.tuple sx
    obtain ⟨its2, rv2, p2, _⟩ := I.list sy
    obtain ⟨u, hu, ru⟩ := rv.get hx
    obtain ⟨u2, hu2, ru2⟩ := rv2.get hy
    have hzl : z < s.heap.objs.size := Heap.lt_size q1
    have D1 := Draws.tuple (prog := X.prog) (w := X.w) (A := X.A.in1) (I.ok.hd hc) i1 a D.l1i1 its.toArray
    have D2 := Draws.list (prog := X.prog) (w := X.w) (A := X.A.in1) (I.ok.hd hc) i2 b D.l2i2 its2.toArray
    have lt1 : i < its.toArray.size := by simpa using (List.getElem?_eq_some_iff.mp hu).1
    have lt2 : i < its2.toArray.size := by simpa using (List.getElem?_eq_some_iff.mp hu2).1
    refine wpAny_pyNext_zipD2_item (apart_sep D) D1 D2 q1 q2 q3 ⟨q4, p⟩ ⟨q5, p2.isList⟩ lt1 lt2 fun y1 y2 h' tk hy1 hy2 z' t' s1 s2 hT hsz hk => ?_
    have ey1 : y1 = u := by
      rw [show its.toArray[i]? = some u by simpa using hu] at hy1
      exact (Option.some.inj hy1).symm
    have ey2 : y2 = u2 := by
      rw [show its2.toArray[i]? = some u2 by simpa using hu2] at hy2
      exact (Option.some.inj hy2).symm
    subst ey1 ey2
    refine ⟨_, rfl, wpAny_letOwnedTupleGo_zip (s := { s with heap := h', toks := tk }) z' fun h'' z'' sb => ?_⟩
    have hT2 : h''.get? s.heap.objs.size = some { cls := .type "tuple", data := .seq #[y1, y2] } := (sb.2 _ (Nat.ne_of_gt hzl)).trans hT
    have new : ObjOk X.prog X.w (upd H s.heap.objs.size (.tup [x, y])) h'' s.heap.objs.size (.tup [x, y]) := ⟨by show 2 ≤ sizeLine; decide, [y1, y2], .cons ru (.cons ru2 .nil), ⟨_, hT2, rfl, _, rfl⟩⟩
    have I1 : L2.Inv X pins σ (upd H s.heap.objs.size (.tup [x, y])) { s with heap := h'', toks := tk } :=
      I.turnedNew (ch := [z, TI, TO, i1, i2]) (fun c o hb q => (sb.2 c (fun q' => hb (by simp [q']))).trans (hk c o (fun e => hb (by simp [e])) (fun e => hb (by simp [e])) (fun e => hb (by simp [e])) (fun e => hb (by simp [e])) q)) hf (Nat.le_refl _) new
    refine ⟨.ref s.heap.objs.size, _, I1, rfl, ⟨_, x, y, rfl, I.hok.fresh (Nat.le_refl _), rfl, fun l hl => by rw [I.tuple_inj hl sx]; exact hx, fun l hl => by rw [I.list_inj hl sy]; exact hy⟩, ⟨z'', ?_, ⟨y1, y2, ?_⟩, ?_, ?_⟩, fun c hcm => ?_⟩
    · exact (sb.2 _ D.TIz).trans (hk _ _ D.TIz D.TITO D.TIi1 D.TIi2 q2)
    · exact (sb.2 _ D.TOz).trans t'
    · exact s1.1.at fun o q => (sb.2 _ D.i1z).trans q
    · exact s2.1.at fun o q => (sb.2 _ D.i2z).trans q
    · have hlt : c < s.heap.objs.size := by
        rcases five hcm with q | q | q | q | q <;> subst q
        · exact hzl
        · exact Heap.lt_size q2
        · exact Heap.lt_size q3
        · obtain ⟨_, e1, _⟩ := q4; exact Heap.lt_size e1
        · obtain ⟨_, e2, _⟩ := q5; exact Heap.lt_size e2
      rw [upd_ne (Nat.ne_of_lt hlt)]
      exact (hf c hcm).1
  done := by
    intro X hP hw hK hc i pins s σ H E I hf st hg
    subst hP hw hK
    obtain ⟨q1, q2, ⟨x0, y0, q3⟩, q4, q5⟩ := st
    obtain ⟨xs, ys, sx, sy, hend⟩ := hg
    obtain ⟨its, rv, p, _⟩ := I.tuple sx
    obtain ⟨its2, rv2, p2, _⟩ := I.list sy
    have l1 := rv.length
    have l2 := rv2.length
    have D1 := Draws.tuple (prog := X.prog) (w := X.w) (A := X.A.in1) (I.ok.hd hc) i1 a D.l1i1 its.toArray
    have D2 := Draws.list (prog := X.prog) (w := X.w) (A := X.A.in1) (I.ok.hd hc) i2 b D.l2i2 its2.toArray
    -- iterators that stand at i and have no item left
    have C1 : its.length ≤ i → Draws X.prog X.w X.A.in1 i1 [i1, a] i (fun j v => its.toArray[j]? = some v) (fun j h => j = i ∧ h.IsTupleIter i1 a j ∧ h.IsTuple a its.toArray) := fun hle =>
      ⟨fun j h st => D1.live j h st.2, fun j h h' st hk => ⟨st.1, D1.frame j h h' st.2 hk⟩, fun j s Q E hj st _ => absurd st.1 (Nat.ne_of_lt hj), fun s Q E st hE => wpAny_nextOf_tuple_end (I.ok.hd hc) st.2.1 st.2.2 (by simp; omega) hE⟩
    have C2 : its2.length ≤ i → Draws X.prog X.w X.A.in1 i2 [i2, b] i (fun j v => its2.toArray[j]? = some v) (fun j h => j = i ∧ h.IsListIter i2 b j ∧ h.IsList b its2.toArray) := fun hle =>
      ⟨fun j h st => D2.live j h st.2, fun j h h' st hk => ⟨st.1, D2.frame j h h' st.2 hk⟩, fun j s Q E hj st _ => absurd st.1 (Nat.ne_of_lt hj), fun s Q E st hE => wpAny_nextOf_list_end (I.ok.hd hc) st.2.1 st.2.2 (by simp; omega) hE⟩
    have fin : ∀ (h' : Heap) (tk : Nat), (∀ c o, c ≠ z → c ≠ TO → c ≠ i1 → c ≠ i2 → s.heap.get? c = some o → h'.get? c = some o) → L2.Inv X pins σ H { s with heap := h', toks := tk } := fun h' tk hk =>
      I.turnedL (ch := [z, TI, TO, i1, i2]) (fun c o hb q => hk c o (fun e => hb (by simp [e])) (fun e => hb (by simp [e])) (fun e => hb (by simp [e])) (fun e => hb (by simp [e])) q) hf
    by_cases h1 : its.length ≤ i
    · by_cases h2 : its2.length ≤ i
      · exact wpAny_pyNext_zipD2_end (apart_sep D) (C1 h1) (C2 h2) q1 q2 q3 ⟨rfl, q4, p⟩ ⟨rfl, q5, p2.isList⟩ (Nat.le_refl _) (Nat.le_refl _) (.inl rfl) fun h' tk hk => ⟨rfl, fin h' tk hk⟩
      · exact wpAny_pyNext_zipD2_end (apart_sep D) (C1 h1) D2 q1 q2 q3 ⟨rfl, q4, p⟩ ⟨q5, p2.isList⟩ (Nat.le_refl _) (by simp; omega) (.inl rfl) fun h' tk hk => ⟨rfl, fin h' tk hk⟩
    · have h2 : its2.length ≤ i := by rcases hend with q | q <;> omega
      exact wpAny_pyNext_zipD2_end (apart_sep D) D1 (C2 h2) q1 q2 q3 ⟨q4, p⟩ ⟨rfl, q5, p2.isList⟩ (by simp; omega) (Nat.le_refl _) (.inr rfl) fun h' tk hk => ⟨rfl, fin h' tk hk⟩
  self := fun A i s Q E st h => wpAny_pyIter_zip st.1 h
abbrev zM1 (h : Heap) (l1 : Addr) : Heap := h.push { cls := .type "tuple_iterator", data := .fields #[.ref l1, .int 0 0] }
abbrev zM2 (h : Heap) (l1 l2 : Addr) : Heap := (zM1 h l1).push { cls := .type "list_iterator", data := .fields #[.ref l2, .int 0 0] }
abbrev zM3 (h : Heap) (l1 l2 : Addr) : Heap := (zM2 h l1 l2).push { cls := .type "tuple", data := .seq #[.ref h.objs.size, .ref (zM1 h l1).objs.size] }
abbrev zM4 (h : Heap) (l1 l2 : Addr) : Heap := (zM3 h l1 l2).push { cls := .type "tuple", data := .seq #[.none, .none] }
abbrev zM5 (h : Heap) (l1 l2 : Addr) : Heap := (zM4 h l1 l2).push { cls := .type "zip", data := .fields #[.none, .bool false, .bool false, .ref (zM2 h l1 l2).objs.size, .ref (zM3 h l1 l2).objs.size] }
theorem meets_zipM (l1 l2 : Addr) (xs ys : Array Value) : Meets (Builtin.«zip.__new__» ⟨[.type "zip", .ref l1, .ref l2], []⟩) (fun _ R s => s.heap.IsTuple l1 xs ∧ s.heap.IsList l2 ys ∧ R (.ok (.ret (.ref (zM4 s.heap l1 l2).objs.size))) { s with heap := zM5 s.heap l1 l2 }) :=
  .of_wp fun prog w A R s h => by
    obtain ⟨hp, g, d, tk, os⟩ := s; obtain ⟨hl1, hl2, h⟩ := h
    have hsub := sub_zip
    have hL1 : Heap.IsTuple (Shared.heap ⟨hp, g, d, tk, os⟩) l1 xs := hl1
    have hL2 : Heap.IsList (Shared.heap ⟨hp.push { cls := .type "tuple_iterator", data := .fields #[.ref l1, .int 0 0] }, g, d, tk, os⟩) l2 ys := Heap.IsList.push hl2 _
    wp_walk using wpAny_pyIter_tuple hL1, wpAny_pyIter_list hL2
    exact ⟨_, rfl, h⟩
theorem call_zipM {prog : Program} {w : World} {A : Around} {E : Value → Shared → Prop} {s : Shared} {l1 l2 : Addr} {xs ys : Array Value} {Q : Value → Shared → Prop} (hl1 : s.heap.IsTuple l1 xs) (hl2 : s.heap.IsList l2 ys)
    (h : ∀ h', StM l1 l2 (s.heap.objs.size + 4) (s.heap.objs.size + 2) (s.heap.objs.size + 3) s.heap.objs.size (s.heap.objs.size + 1) 0 h' → (∀ c o, s.heap.get? c = some o → h'.get? c = some o) → Q (.ref (s.heap.objs.size + 4)) { s with heap := h' }) :
    wpAny (model prog w) A (call (.type "zip") [.ref l1, .ref l2]) Q E s := by
  refine callType_new F.called_zip (by decide) (F.typeCall_zip_2 _ _) (F.newCall_zip_2 _ _) (fun obj => F.args_object_init_3 obj _ _) F.entry_zip_new (meets_zipM l1 l2 xs ys) ⟨hl1, hl2, ?_⟩
  have z1 : (zM1 s.heap l1).objs.size = s.heap.objs.size + 1 := Heap.size_push ..
  have z2 : (zM2 s.heap l1 l2).objs.size = s.heap.objs.size + 2 := by rw [Heap.size_push, z1]
  have z3 : (zM3 s.heap l1 l2).objs.size = s.heap.objs.size + 3 := by rw [Heap.size_push, z2]
  have z4 : (zM4 s.heap l1 l2).objs.size = s.heap.objs.size + 4 := by rw [Heap.size_push, z3]
  have up : ∀ {h : Heap} {o : Obj} (c : Addr) (o' : Obj), h.get? c = some o' → (h.push o).get? c = some o' := fun c o' x => Heap.get?_push_of_some _ x
  have g5 : (zM5 s.heap l1 l2).get? (zM4 s.heap l1 l2).objs.size = some _ := Heap.get?_push_size _ rfl
  have g4 : (zM5 s.heap l1 l2).get? (zM3 s.heap l1 l2).objs.size = some _ := up _ _ (Heap.get?_push_size _ rfl)
  have g3 : (zM5 s.heap l1 l2).get? (zM2 s.heap l1 l2).objs.size = some _ := up _ _ (up _ _ (Heap.get?_push_size _ rfl))
  have g2 : (zM5 s.heap l1 l2).get? (zM1 s.heap l1).objs.size = some _ := up _ _ (up _ _ (up _ _ (Heap.get?_push_size _ rfl)))
  have g1 : (zM5 s.heap l1 l2).get? s.heap.objs.size = some _ := up _ _ (up _ _ (up _ _ (up _ _ (Heap.get?_push_size _ rfl))))
  show _ ∧ _
  rw [z2, z3, z4] at g5
  rw [z1, z2] at g3
  rw [z3] at g4
  rw [z1] at g2
  rw [z4]
  exact ⟨⟨_, g5, rfl⟩, h _ ⟨g5, g3, ⟨_, _, g4⟩, ⟨_, g1, rfl, rfl⟩, ⟨_, g2, rfl, rfl⟩⟩ fun c o x => up _ _ (up _ _ (up _ _ (up _ _ (up _ _ x))))⟩
def iZipM (K : PySem.W.Frag) (ta : TA) : TI := fun σ H R => ta σ H fun vs H1 => ∃ a b xs ys, vs = [.ref a, .ref b] ∧ SqT K H1 a xs ∧ SqL K H1 b ys ∧ R (ItzM K a b) H1
theorem pi_zipM {X : Cx} {e e2 : Expr} {ta : TA} {p pos tpos : Pos} {elts : List Expr} {kk : Nat} (hg : Gl X "zip") (hm : X.mg "zip" = none) (ha : PA X [e, e2] ta) (hs : starEach [e, e2] X.env = (false, eval e X.env) :: starEach [e2] X.env := by rfl) (hpl : (backTo pos (starEach [e2] X.env)).any (·.1) = false := by rfl) :
    PI X (.Tuple elts kk tpos) (.Call (.Name "zip" p) [e, e2] [] pos) (iZipM X.K ta) := by
  refine ⟨fun pins s σ H R I h => ?_⟩
  refine PyProof.Rows.Call_ (ld_blt I hg hm PyProof.Rows.boot_zip (PyProof.Rows.callWith_type1 (thn (ha.run pos pins s σ H _ I h) fun us s1 ⟨vs, H1, I1, r1, q1⟩ => ?_) hs hpl))
  obtain ⟨a, b, xs, ys, ex, sx, sy, q⟩ := q1
  subst ex
  obtain ⟨u1, u2, rfl, e1, e2⟩ := r1.two
  cases e1
  cases e2
  obtain ⟨its, rv, p1, _⟩ := I1.tuple sx
  obtain ⟨its2, rv2, p2, _⟩ := I1.list sy
  have lt1 : a < s1.heap.objs.size := by obtain ⟨o, h, _⟩ := p1; exact Heap.lt_size h
  refine call_zipM (show s1.heap.IsTuple a its.toArray from p1) p2.isList fun h' st hk => wpAny_pyIter_zip st.1 ?_
  have I2 : L2.Inv X pins σ H1 { s1 with heap := h' } := I1.kept (t' := s1.toks) hk
  refine ⟨s1.heap.objs.size + 4, [s1.heap.objs.size + 4, s1.heap.objs.size + 2, s1.heap.objs.size + 3, s1.heap.objs.size, s1.heap.objs.size + 1], _, _, H1, rfl, I2, turn_zipM (PySem.W.ktu_apart s1.heap.objs.size a b lt1 p2.lt), st, fun c hcm => ?_, q⟩
  have hle : s1.heap.objs.size ≤ c := by
    rcases five hcm with z | z | z | z | z <;> subst z <;> first | exact Nat.le_refl _ | exact Nat.le_add_right _ _
  exact I1.fpOk hle (I1.hok.fresh hle)
end GX
end zx_
section plf_
set_option maxRecDepth 100000
set_option maxHeartbeats 2000000
/-! lent lists, moved lists, remove, tuple(reversed(..)) -/
namespace PL
open PySem PySem.Spec PyProof.Rows L2 GxR GenW LamX GX PySem.W
open Mir (ret bnd lift)
/-! data without a list in it -/
mutual
def noLB : D → Bool
  | .list _ => false
  | .dict _ => false
  | .tuple xs => noLAll xs
  | _ => true
def noLAll : List D → Bool
  | [] => true
  | x :: xs => noLB x && noLAll xs
end
def noL (d : D) : Option D := if noLB d then some d else none
def noLs (ds : List D) : Option (List D) := if noLAll ds then some ds else none
def cutH (B : Hp) (a : Addr) : Hp := fun b => if b = a then none else B b
mutual
theorem Dp.noL {K : PySem.W.Frag} {B : Hp} {a : Addr} {us : List V} (hB : B a = some (.lst us)) : ∀ {v : V} {d : D}, Dp K B v d → noLB d = true → Dp K (cutH B a) v d
  | _, _, .non, _ => .non
  | _, _, .bl b, _ => .bl b
  | _, _, .int i, _ => .int i
  | _, _, .str x, _ => .str x
  | _, _, .lst h t, e => by simp [noLB] at e
  | _, _, .tup (a := p) h t, e => .tup (by
      rcases h with h | h
      · refine Or.inl ?_
        have hp : ∀ {o : HO}, B p = some o → (∀ us, o ≠ .lst us) → cutH B a p = some o := fun {o} hb hn => by
          unfold cutH
          rw [if_neg]
          · exact hb
          · intro z
            rw [z, hB] at hb
            exact hn us (Option.some.inj hb).symm
        rcases h with h | h
        · exact .inl (hp h fun us z => by cases z)
        · obtain ⟨o, h⟩ := h
          exact .inr ⟨o, hp h fun us z => by cases z⟩
      · exact Or.inr h) (DpAll.noL hB t (by simpa [noLB] using e))
theorem DpAll.noL {K : PySem.W.Frag} {B : Hp} {a : Addr} {us : List V} (hB : B a = some (.lst us)) : ∀ {vs : List V} {ds : List D}, DpAll K B vs ds → noLAll ds = true → DpAll K (cutH B a) vs ds
  | _, _, .nil, _ => .nil
  | _, _, .cons h t, e => by
    simp [noLAll] at e
    exact .cons (Dp.noL hB h e.1) (DpAll.noL hB t e.2)
end
section
variable {M : Type → Type} [Mir M]
variable {μ : Md} {g : Cw} {ρ : Env} {ω : Wld} {B H : Hp} {v u : V} {d : D} {φ : Fm} {σ : L2.St} {γ β δ : Type}
variable {oL : γ → Env} {out : Option (β → Env)} {rest sts : List Stmt} {a b e c : Expr} {ma me : M D} {mc : M Bool} {pos p p1 p2 pos2 cpos apos : Pos} {i j : Nat} {x y : Str} {ds : List D}
/-- a list of one's own as data, frozen -/
theorem Fr.lend (F : Fr μ φ B ρ σ H) (hρ : ρ[i]? = some (some (.own ds))) : ∃ l vs, B l = none ∧ Fr μ φ (upd B l (.lst vs)) (ρ.set i (some (.dat (.list ds)))) σ H := by
  obtain ⟨v, h1, a, vs, ev, ha, hb, h0, hna, hd⟩ := F.sl i _ hρ
  have sub : ∀ b o, B b = some o → upd B a (.lst vs) b = some o := sub_upd hb
  have hlt := (List.getElem?_eq_some_iff.mp hρ).1
  refine ⟨a, vs, hb, ⟨⟨fun b o h => sub b o (F.stp.sub b o h), fun b o h => ?_, F.stp.ext, F.stp.has, F.stp.tabs, F.stp.wok⟩, fun b o h => ?_, by rw [List.length_set]; exact F.len, fun j s e => ?_, fun j l ds1 es1 w e1 e2 e3 e4 => ?_⟩⟩
  · by_cases hba : b = a
    · subst hba
      rw [upd_same] at h
      cases h
      exact ⟨ha, nt_lst, .inr h0⟩
    · rw [upd_ne hba] at h
      exact F.stp.new b o h
  · by_cases hba : b = a
    · subst hba; exact hna
    · rw [upd_ne hba] at h
      exact F.na b o h
  · by_cases hj : i = j
    · subst hj
      rw [List.getElem?_set_self hlt] at e
      cases e
      refine ⟨v, h1, ?_⟩
      show Dp μ.K _ v _
      rw [ev]
      exact .lst (SqL.of upd_same) (DpAll.mono sub hd)
    · rw [List.getElem?_set_ne hj] at e
      obtain ⟨w, h2, h3⟩ := F.sl j s e
      refine ⟨w, h2, ?_⟩
      cases s with
      | dat d => exact Dp.mono sub h3
      | own es =>
        obtain ⟨a', vs', ev', ha', hb', h0', hna', hd'⟩ := h3
        refine ⟨a', vs', ev', ha', ?_, h0', hna', DpAll.mono sub hd'⟩
        rw [upd_ne]
        · exact hb'
        · intro z
          subst z
          exact hj (F.ap i j ds es v hρ e h1 (by rw [h2, ev', ev]))
      | wrd => exact h3
  · have nj : ∀ {j : Nat} {ds' : List D}, (ρ.set i (some (.dat (.list ds))))[j]? = some (some (.own ds')) → i ≠ j := fun {j ds'} e z => by
      subst z
      rw [List.getElem?_set_self hlt] at e
      cases e
    have n1 := nj e1
    have n2 := nj e2
    rw [List.getElem?_set_ne n1] at e1
    rw [List.getElem?_set_ne n2] at e2
    exact F.ap j l _ _ w e1 e2 e3 e4
/-- .. given back -/
theorem Stp.back {l : Addr} {vs : List V} {B' H' : Hp} (hb : B l = none) (s : Stp μ ω (upd B l (.lst vs)) H B' H') : Stp μ ω B H (cutH B' l) H' ∧ B' l = some (.lst vs) := by
  have h1 : B' l = some (.lst vs) := s.sub l _ upd_same
  refine ⟨⟨fun c o h => ?_, fun c o h => ?_, s.ext, s.has, s.tabs, s.wok⟩, h1⟩
  · have hc : c ≠ l := fun z => by rw [z, hb] at h; cases h
    unfold cutH
    rw [if_neg hc]
    exact s.sub c o (sub_upd hb c o h)
  · unfold cutH at h
    by_cases hc : c = l
    · rw [if_pos hc] at h; cases h
    · rw [if_neg hc] at h
      obtain ⟨h2, h3, h4⟩ := s.new c o h
      rw [upd_ne hc] at h4
      exact ⟨h2, h3, h4⟩
theorem noL_some {d z : D} (h : noL d = some z) : z = d ∧ noLB d = true := by
  unfold noL at h
  split at h
  · cases h; exact ⟨rfl, by assumption⟩
  · cases h
theorem noLs_some {ds z : List D} (h : noLs ds = some z) : z = ds ∧ noLAll ds = true := by
  unfold noLs at h
  split at h
  · cases h; exact ⟨rfl, by assumption⟩
  · cases h
/-- an expression over a lent list; what it gives has no list in it -/
theorem EX.bor (hρ : ρ[i]? = some (some (.own ds))) (h : EX μ g (ρ.set i (some (.dat (.list ds)))) e me) : EX μ g ρ e (bnd me fun d => lift (noL d)) := fun X hX => (h X hX).imp fun σ H Q ⟨φ, B, k, hW, F, hm, hQ⟩ => by
  obtain ⟨l, vs, hb, F'⟩ := F.lend hρ
  refine ⟨φ, _, _, hW, F', Mir.wp_bnd hm, fun d r B' H' hk s hd => ?_⟩
  obtain ⟨z, hz, hk2⟩ := Mir.wp_lift hk
  obtain ⟨rfl, hn⟩ := noL_some hz
  obtain ⟨s2, hl⟩ := s.back hb
  exact hQ _ r _ H' hk2 s2 (Dp.noL hl hd hn)
theorem ET.bor (hρ : ρ[i]? = some (some (.own ds))) (h : ET μ g (ρ.set i (some (.dat (.list ds)))) e mc) : ET μ g ρ e mc := fun X hX => (h X hX).imp fun σ H Q ⟨φ, B, k, hW, F, hm, hQ⟩ => by
  obtain ⟨l, vs, hb, F'⟩ := F.lend hρ
  exact ⟨φ, _, _, hW, F', hm, fun d r B' H' hk s hd => hQ _ r _ H' hk (s.back hb).1 hd⟩
theorem EL.bor {me : M (List D)} (hρ : ρ[i]? = some (some (.own ds))) (h : EL μ g (ρ.set i (some (.dat (.list ds)))) e me) : EL μ g ρ e (bnd me fun d => lift (noLs d)) := fun X hX => (h X hX).imp fun σ H Q ⟨φ, B, k, hW, F, hm, hQ⟩ => by
  obtain ⟨l, vs, hb, F'⟩ := F.lend hρ
  refine ⟨φ, _, _, hW, F', Mir.wp_bnd hm, fun d r B' H' hk s ⟨a, us, er, ha, h0, hb', hna, hd⟩ => ?_⟩
  obtain ⟨z, hz, hk2⟩ := Mir.wp_lift hk
  obtain ⟨rfl, hn⟩ := noLs_some hz
  obtain ⟨s2, hl⟩ := s.back hb
  refine hQ _ r _ H' hk2 s2 ⟨a, us, er, ha, h0, ?_, hna, DpAll.noL hl hd hn⟩
  unfold cutH
  split
  · rfl
  · exact hb'
/-- x = y, lists of one's own: y is given up -/
theorem SS.mv {m : M (Fl γ β)} (hρ : ρ[j]? = some (some (.own ds))) (hNj : g.N[j]? = some y) (hvj : Vis g.scope y) (hN : g.N[i]? = some x) (hv : Loc g.scope x) (hf : g.ow x = true ∨ g.scope.names.lookup x = some .local) (hr : SS μ g ((ρ.set j none).set i (some (.own ds))) oL out rest m)
    (hd : (y == ("__debug__" : Str)) = false := by decide) (hcd : (y == ("__classdict__" : Str)) = false := by decide) (hs : ∀ env, swapsWith (.Name y p1) (some (.Name x p)) pos.line env = pure false := by intro _; rfl) :
    SS μ g ρ oL out (.Assign [.Name x p] (.Name y p1) pos :: rest) m := fun X hX => (pss_cons (ps_set (i := i) (by rw [hX.N]; exact hX.nd) (by rw [hX.N]; exact hN) (hX.loc hv) (hX.var hNj hvj hd hcd) (hs _) (hX.fnl hf)) (hr X hX)).imp fun Dn σ H ⟨φ, B, k, hW, F, hm, hn⟩ => by
  obtain ⟨v, h1, a, vs, ev, ha, hb, h0, hna, hdd⟩ := F.sl j _ hρ
  subst ev
  have hlt := (List.getElem?_eq_some_iff.mp hρ).1
  have F1 : Fr μ φ B (ρ.set j none) σ H := by
    refine ⟨F.stp, F.na, by rw [List.length_set]; exact F.len, fun k s e => ?_, fun k m es1 es2 w e1 e2 e3 e4 => ?_⟩
    · by_cases hk : j = k
      · subst hk
        rw [List.getElem?_set_self hlt] at e
        cases e
      · rw [List.getElem?_set_ne hk] at e
        exact F.sl k s e
    · have nj : ∀ {k : Nat} {es : List D}, (ρ.set j none)[k]? = some (some (.own es)) → j ≠ k := fun {k es} e z => by
        subst z
        rw [List.getElem?_set_self hlt] at e
        cases e
      have n1 := nj e1
      have n2 := nj e2
      rw [List.getElem?_set_ne n1] at e1
      rw [List.getElem?_set_ne n2] at e2
      exact F.ap k m _ _ w e1 e2 e3 e4
  refine ⟨_, h1, ?_⟩
  exact tail_of hn (fun _ _ h => h) hW (F1.setOwn (i := i) ha hb h0 hna hdd fun k es e _ z => by
    by_cases hk : j = k
    · subst hk
      rw [List.getElem?_set_self hlt] at e
      cases e
    · rw [List.getElem?_set_ne hk] at e
      exact hk (F.ap j k _ _ _ hρ e h1 z)) hm
def dRem (ds : List D) (d : D) : Option (List D) := (dInts ds).bind fun ns => (dInt d).bind fun k => (ns.findIdx? fun n => n == k).map fun j => (ns.eraseIdx j).map PyData.int
theorem dInts_some : ∀ {ds : List D} {ns : List Int}, dInts ds = some ns → ds = ns.map PyData.int
  | [], ns, h => by cases h; rfl
  | d :: ds, ns, h => by
    cases d <;> simp [dInts] at h
    obtain ⟨a, h, rfl⟩ := h
    rw [dInts_some h]
    rfl
/-- xs.remove(e), ints -/
theorem SS.rem {mr : List D → M (Fl γ β)} (hρ : ρ[i]? = some (some (.own ds))) (hN : g.N[i]? = some x) (hv : Vis g.scope x) (he : EX μ g ρ e me) (hr : ∀ es, SS μ g (ρ.set i (some (.own es))) oL out rest (mr es))
    (hd : (x == ("__debug__" : Str)) = false := by decide) (hcd : (x == ("__classdict__" : Str)) = false := by decide) (hb : ∀ env, attributeBase (.Name x p1) "remove" env (eval (.Name x p1) env) = eval (.Name x p1) env := by intro _; rfl) (hline : (apos.endLine == cpos.line) = true := by rfl)
    (h1 : ∀ env, starEach [e] env = (false, eval e env) :: starEach [] env := by intro _; rfl) : SS μ g ρ oL out (.Expr (.Call (.Attribute (.Name x p1) "remove" apos) [e] [] cpos) pos :: rest) (bnd me fun d => bnd (lift (dRem ds d)) mr) := fun X hX =>
  (pss_cons (ps_expr (pe_bm F.plainAttrs_list F.slot_list_remove PySem.F.type_list_remove mt_remove (hX.var hN hv hd hcd) (pa_cons (he X hX) pa_nil (h1 _)) (hb _) (by rw [h1]; rfl) hline (h1 _)) ) (PSs.ex fun es => hr es X hX)).imp fun Dn σ H ⟨φ, B, k, hW, F, hm, hn⟩ => by
    obtain ⟨v, hσ, l, vs, ev, hl, _, _, hna, _⟩ := F.sl i _ hρ
    subst ev
    refine ⟨_, hσ, .inl ⟨rfl, vs, SqL.of hl⟩, rd.st hW F hm fun d w B1 H1 hk s1 hd1 => ?_⟩
    obtain ⟨es, hes, hk2⟩ := Mir.wp_lift (Mir.wp_bnd hk)
    unfold dRem at hes
    obtain ⟨ns, hns, hes⟩ := Option.bind_eq_some_iff.mp hes
    obtain ⟨kk, hkk, hes⟩ := Option.bind_eq_some_iff.mp hes
    obtain ⟨j, hj, rfl⟩ := Option.map_eq_some_iff.mp hes
    have F1 := F.go s1
    obtain ⟨v', hσ', l', vs', ev', hl', _, _, _, hd'⟩ := F1.sl i _ hρ
    rw [hσ] at hσ'
    cases hσ'
    cases ev'
    cases d <;> simp [dInt] at hkk
    subst hkk
    rw [dInts_some hns] at hd'
    have hv' := dpAll_ints hd'
    obtain ⟨j1, j2, j3⟩ := List.findIdx?_eq_some_iff_getElem.mp hj
    refine ⟨l, ns, _, j, rfl, by rw [dp_int hd1], by rw [hl', hv'], ?_, ?_, (ns.eraseIdx j).map PyData.int, ?_⟩
    · rw [List.getElem?_eq_getElem j1]
      exact congrArg some (eq_of_beq j2)
    · intro m hmj e
      have hm' : m < ns.length := by omega
      rw [List.getElem?_eq_getElem hm'] at e
      have := j3 m hmj
      rw [Option.some.inj e] at this
      simp at this
    · exact tail_of hn s1.sub hW (F1.mutO hρ hσ hl' (ints_dpAll _)) hk2
/-- tuple(reversed(e)) -/
theorem EX.tupRev (hg : glB g "tuple" = true) (hm : μ.mg "tuple" = none) (hg2 : glB g "reversed" = true) (hm2 : μ.mg "reversed" = none) (ha : EX μ g ρ a ma) (h1 : ∀ env, starEach [a] env = (false, eval a env) :: starEach [] env := by intro _; rfl)
    (h2 : ∀ env, starEach [.Call (.Name "reversed" p2) [a] [] pos2] env = (false, eval (.Call (.Name "reversed" p2) [a] [] pos2) env) :: starEach [] env := by intro _; rfl) :
    EX μ g ρ (.Call (.Name "tuple" p) [.Call (.Name "reversed" p2) [a] [] pos2] [] pos) (bnd ma fun x => bnd (lift (dLst x)) fun ds => ret (.tuple ds.reverse)) := fun X hX =>
  (RT.pe_tupRev hX.calm (hX.gl (gl hg)) (by rw [hX.mg]; exact hm) (hX.gl (gl hg2)) (by rw [hX.mg]; exact hm2) (ha X hX) (h1 _) (h2 _)).imp fun σ H Q ⟨φ, B, k, hW, F, hm, hQ⟩ => rd.st hW F hm fun d v B1 H1 hk1 s1 hr1 => by
    obtain ⟨ds, hds, hk⟩ := Mir.wp_lift (Mir.wp_bnd hk1)
    cases d <;> simp [dLst] at hds
    subst hds
    have F1 := F.go s1
    cases hr1 with | lst h5 h6 =>
    refine ⟨_, _, rfl, by rw [hX.K]; exact Evl.ex_l F1.refl.bsub h5, fun l hl => ?_⟩
    refine hQ _ _ _ _ (Mir.wp_ret hk) (s1.trans (F1.lay hl nt_tup)) (.tup (SqT.of upd_same) ?_)
    exact DpAll.mono (sub_upd (hbp_of F1.refl hl)) (dpAll_rev h6)
theorem Smv {m : M (Fl γ β)} (i j : Nat) (hρ : ρ[j]? = some (some (.own ds))) (hj : nmB g j y = true) (h : stB g i x = true) (hr : SS μ g ((ρ.set j none).set i (some (.own ds))) oL out rest m) (hs : ∀ env, swapsWith (.Name y p1) (some (.Name x p)) pos.line env = pure false := by intro _; rfl) :
    SS μ g ρ oL out (.Assign [.Name x p] (.Name y p1) pos :: rest) m := let ⟨a, b, c, d⟩ := nmB_ok hj; let ⟨a', b', c'⟩ := stB_ok h; SS.mv hρ a b a' b' c' hr c d hs
theorem Srem {mr : List D → M (Fl γ β)} (i : Nat) (hρ : ρ[i]? = some (some (.own ds))) (h : nmB g i x = true) (he : EX μ g ρ e me) (hr : ∀ es, SS μ g (ρ.set i (some (.own es))) oL out rest (mr es))
    (hb : ∀ env, attributeBase (.Name x p1) "remove" env (eval (.Name x p1) env) = eval (.Name x p1) env := by intro _; rfl) (hline : (apos.endLine == cpos.line) = true := by rfl)
    (h1 : ∀ env, starEach [e] env = (false, eval e env) :: starEach [] env := by intro _; rfl) : SS μ g ρ oL out (.Expr (.Call (.Attribute (.Name x p1) "remove" apos) [e] [] cpos) pos :: rest) (bnd me fun d => bnd (lift (dRem ds d)) mr) := let ⟨a, b, c, d⟩ := nmB_ok h; SS.rem hρ a b he hr c d hb hline h1
def dMin2 : D → D → Option D := dI2 fun i j => some (.int (if j < i then j else i))
theorem cr_min2 {X : Cx} (hh : X.A.handled = none) : CallR X (.builtin "min") (fun xs H Q => ∃ i j, xs = [.int i, .int j] ∧ Q (.int (if j < i then j else i)) H) := by
  intro pins s σ H xs us Q I r h
  obtain ⟨i, j, rfl, q⟩ := h
  obtain ⟨u1, u2, rfl, r1, r2⟩ := vals2 r
  obtain ⟨t1, rfl⟩ := r1
  obtain ⟨t2, rfl⟩ := r2
  refine min_two_ints hh fun h' tk hk => ?_
  by_cases hc : j < i
  · rw [if_pos hc] at q ⊢
    exact ⟨.int j, H, I.kept hk, ⟨_, rfl⟩, q⟩
  · rw [if_neg hc] at q ⊢
    exact ⟨.int i, H, I.kept hk, ⟨_, rfl⟩, q⟩
theorem EX.min2 {mb : M D} (hg : g.scope.names.lookup ("min" : Str) = some .globalImplicit) (hm : μ.mg "min" = none) (ha : EX μ g ρ a ma) (hb : EX μ g ρ b mb) (h1 : ∀ env, starEach [a, b] env = (false, eval a env) :: starEach [b] env := by intro _; rfl) (h2 : ∀ env, starEach [b] env = (false, eval b env) :: starEach [] env := by intro _; rfl) (hpl : ∀ env, (backTo pos (starEach [b] env)).any (·.1) = false := by intro _; rfl) :
    EX μ g ρ (.Call (.Name "min" p) [a, b] [] pos) (bnd ma fun x => bnd mb fun y => lift (dMin2 x y)) := fun X hX =>
  (pe_callB (cr_min2 hX.room.hd) (hX.gl hg) (by rw [hX.mg]; exact hm) rfl (pa_cons (ha X hX) (pa_cons (hb X hX) pa_nil (h2 _)) (h1 _)) (by decide) (by decide) (h1 _) (hpl _)).imp fun σ H Q ⟨φ, B, k, hW, F, hm, hQ⟩ => rd.st hW F hm fun x v B1 H1 hk1 s1 hr1 => rd.st hW (F.go s1) hk1 fun y w B2 H2 hk2 s2 hr2 => by
    obtain ⟨z, hz, hk⟩ := Mir.wp_lift hk2
    obtain ⟨i, j, rfl, rfl, hz⟩ := dI2_some hz
    cases hz
    exact ⟨i, j, by rw [dp_int hr1, dp_int hr2], hQ _ _ _ _ hk (s1.trans s2) (.int _)⟩
/-- zip of a tuple and a list -/
def dZipM : D → D → Option (List D)
  | .tuple xs, .list ys => some (List.zipWith (fun x y => .tuple [x, y]) xs ys)
  | _, _ => none
theorem EI.zipM {mb : M D} {elts : List Expr} {kk : Nat} {tpos : Pos} (hg : g.scope.names.lookup ("zip" : Str) = some .globalImplicit) (hm : μ.mg "zip" = none) (ha : EX μ g ρ a ma) (hb : EX μ g ρ b mb) (h1 : ∀ env, starEach [a, b] env = (false, eval a env) :: starEach [b] env := by intro _; rfl) (h2 : ∀ env, starEach [b] env = (false, eval b env) :: starEach [] env := by intro _; rfl) (hpl : ∀ env, (backTo pos (starEach [b] env)).any (·.1) = false := by intro _; rfl) :
    EI μ g ρ false (.Tuple elts kk tpos) (.Call (.Name "zip" p) [a, b] [] pos) (bnd ma fun x => bnd mb fun y => lift (dZipM x y)) := fun X hX => (pi_zipM (hX.gl hg) (by rw [hX.mg]; exact hm) (pa_cons (ha X hX) (pa_cons (hb X hX) pa_nil (h2 _)) (h1 _)) (h1 _) (hpl _)).imp fun σ H R ⟨φ, B, k, hW, F, hm, hQ⟩ => rd.st hW F hm fun x v B1 H1 hk1 s1 hr1 => rd.st hW (F.go s1) hk1 fun y w B2 H2 hk2 s2 hr2 => by
  obtain ⟨ds, hds, hk⟩ := Mir.wp_lift hk2
  rw [hX.K]
  have st := ((F.go s1).go s2).refl
  have hr1 := Dp.mono s2.sub hr1
  cases x <;> cases y <;> simp [dZipM] at hds
  subst hds
  cases hr1 with
  | tup q1 t1 =>
    cases hr2 with
    | lst q2 t2 =>
      refine ⟨_, _, _, _, rfl, Evl.ex_t st.bsub q1, Evl.ex_l st.bsub q2, hQ _ _ _ _ hk (s1.trans s2) fun B3 H3 sub st3 _ i => ⟨fun d e => ?_, fun hl => ⟨_, _, Evl.ex_t st3.bsub (Evl.ex_t sub q1), Evl.ex_l st3.bsub (Evl.ex_l sub q2), ?_⟩⟩⟩
      · obtain ⟨x, y, e1, e2, rfl⟩ := zw_get e
        obtain ⟨v1, g1, g2⟩ := dpAll_get t1 e1
        obtain ⟨v2, g3, g4⟩ := dpAll_get t2 e2
        refine ⟨⟨_, _, v1, v2, Evl.ex_t st3.bsub (Evl.ex_t sub q1), Evl.ex_l st3.bsub (Evl.ex_l sub q2), g1, g3⟩, fun z H4 ⟨T, x', y', ev, hT, eH, hx, hy⟩ => ?_⟩
        subst ev eH
        have e3 := hx _ (Evl.ex_t st3.bsub (Evl.ex_t sub q1))
        have e4 := hy _ (Evl.ex_l st3.bsub (Evl.ex_l sub q2))
        rw [g1] at e3
        rw [g3] at e4
        cases e3
        cases e4
        exact tup_step st3 hT (.cons (Dp.mono sub g2) (.cons (Dp.mono sub g4) .nil))
      · rw [dpAll_len t1, dpAll_len t2]
        rw [List.length_zipWith] at hl
        omega
end
end PL
end plf_
section rv_
set_option maxRecDepth 100000
set_option maxHeartbeats 2000000
/-! t[::-1], t a tuple -/
namespace GX
open PySem PySem.Spec PyProof.Rows L2
section
variable {prog : Program} {w : World} {A : Around} {E : Value → Shared → Prop} {s : Shared}
theorem rv_pick (xs : Array Value) : ((List.range xs.size).filterMap fun (k : Nat) => xs[(((xs.size : Int) - 1) + (k : Int) * (-1)).toNat]?) = xs.toList.reverse := by
  have h1 : ∀ k ∈ List.range xs.size, xs[(((xs.size : Int) - 1) + (k : Int) * (-1)).toNat]? = some (xs.toList.reverse.getD k .none) := fun k hk => by
    have hk := List.mem_range.mp hk
    have e : (((xs.size : Int) - 1) + (k : Int) * (-1)).toNat = xs.size - 1 - k := by omega
    rw [e, List.getD_eq_getElem?_getD, List.getElem?_reverse (by simpa using hk)]
    have h2 : xs.size - 1 - k < xs.size := by omega
    simp [h2]
  have h2 : ∀ (l : List Nat) (f g : Nat → Option Value), (∀ k ∈ l, f k = g k) → l.filterMap f = l.filterMap g := fun l f g h => by
    induction l with
    | nil => rfl
    | cons a r ih => rw [List.filterMap_cons, List.filterMap_cons, h a (by simp), ih fun k hk => h k (by simp [hk])]
  rw [h2 _ _ (fun k => some (xs.toList.reverse.getD k .none)) h1, List.filterMap_eq_map']
  refine List.ext_getElem? fun i => ?_
  rw [List.getElem?_map]
  by_cases hi : i < xs.size
  · simp [hi, List.getD_eq_getElem?_getD]
  · simp [hi]
theorem rv_applied {sl : Addr} {vl vu vs : Value} {n : Nat} {Q : Int × Int × Nat → Shared → Prop} (hs : s.heap.IsSliceOf sl vl vu vs) (pl : IsPart vl none) (pu : IsPart vu none) (ps : IsPart vs (some (-1))) (h : Q ((n : Int) - 1, -1, n) s) : wpAny (model prog w) A (Builtin.Slice.sliceApplied (.ref sl) (pure (n : Int))) Q E s := by
  obtain ⟨os, hos, hcs, hds⟩ := id hs
  unfold Builtin.Slice.sliceApplied Builtin.Slice.sliceFields
  refine wpAny_bind (wpAny_bind (wpAny_field hos hds (x := vl) rfl (wpAny_bind (wpAny_field hos hds (x := vu) rfl (wpAny_bind (wpAny_field hos hds (x := vs) rfl (wpAny_pure ?_)))))))
  refine wpAny_bind (HT.slicePart_ ps ?_); show wpAny _ _ (if ((-1 : Int) == 0) = true then _ else _) _ _ s; rw [if_neg (by decide)]
  refine wpAny_bind (HT.slicePart_ pl (wpAny_bind (HT.slicePart_ pu (wpAny_bind (wpAny_pure ?_)))))
  have e : Builtin.Slice.sliceAdjust none none (-1) (n : Int) = ((n : Int) - 1, -1) := rfl
  show wpAny _ _ (match Builtin.Slice.sliceAdjust none none (-1) (n : Int) with | (lo, hi) => pure (lo, (-1 : Int), Builtin.Slice.slicePlaces lo hi (-1))) _ _ s
  rw [e]
  have e2 : Builtin.Slice.slicePlaces ((n : Int) - 1) (-1) (-1) = n := by
    unfold Builtin.Slice.slicePlaces
    rw [if_neg (by omega)]
    split
    · simp
    · omega
  show wpAny _ _ (pure ((n : Int) - 1, (-1 : Int), Builtin.Slice.slicePlaces ((n : Int) - 1) (-1) (-1))) _ _ s
  rw [e2]; exact wpAny_pure h
theorem rv_getItem {t sl : Addr} {items : Array Value} {vl vu vs : Value} {Q : Value → Shared → Prop} (ht : IsTup s.heap t items) (hs : s.heap.IsSliceOf sl vl vu vs) (pl : IsPart vl none) (pu : IsPart vu none) (ps : IsPart vs (some (-1)))
    (h : Q (.ref s.heap.objs.size) { s with heap := s.heap.push { cls := .type "tuple", data := .seq items.toList.reverse.toArray } }) (hsz : items.size ≤ sizeLine) : wpAny (model prog w) A (getItem (.ref t) (.ref sl)) Q E s := by
  have hk : sizeOk (.seq items.toList.reverse.toArray) := by show items.toList.reverse.toArray.size ≤ sizeLine; simpa using hsz
  obtain ⟨os, hos, hcs, hds⟩ := id hs
  unfold getItem; try with_reducible refine wpAny_holding ?_
  first | refine wpAny_bind (wpAny_pure ?_) | skip
  refine wpAny_bind (wpAny_sequenceKey ht.typeIs (by decide) ?_); refine wpAny_bind (wpAny_callSpecial?_slot (name := Str.ofString "__getitem__") ht.typeIs PyProof.Rows.slot_tuple_getitem (wpAny_call_entry PyProof.Rows.slot_tuple_getitem ht.typeIs PyProof.Rows.entry_tuple_getitem ?_ (PyProof.Rows.args_tuple_getitem _ _)))
  show wpAny _ _ (Builtin.Tuple.tupleItemsOf (.ref t) >>= _) _ _ s; refine wpAny_bind (tupleItemsOf_ ht ?_)
  refine wpAny_bind (wpAny_typeOf ⟨os, hos, hcs⟩ ?_); rw [if_pos (by decide)]
  refine wpAny_bind (rv_applied hs pl pu ps ?_)
  have hno : ¬ (((items.size : Int) - 1 == 0 && (-1 : Int) == 1 && items.size == items.size) = true) := by simp
  show wpAny _ _ (if ((items.size : Int) - 1 == 0 && (-1 : Int) == 1 && items.size == items.size) = true then _ else _) _ _ s
  rw [if_neg hno, rv_pick]
  first
    | exact wpAny_bind (m := Builtin.Tuple.tupleExact _) (wpAny_newObj_type (wpAny_pure ⟨_, rfl, wpAny_pure h⟩) hk)
    | exact wpAny_bind (m := Builtin.Tuple.tupleExact _) (wpAny_newObj_type (wpAny_bind (wpAny_pure (wpAny_pure ⟨_, rfl, wpAny_pure h⟩))) hk)
    | exact wpAny_bind (wpAny_bind (m := Builtin.Tuple.tupleExact _) (wpAny_newObj_type (wpAny_pure (wpAny_pure ⟨_, rfl, wpAny_pure h⟩)) hk))
    | exact wpAny_bind (wpAny_bind (m := Builtin.Tuple.tupleExact _) (wpAny_newObj_type (wpAny_pure ⟨_, rfl, wpAny_pure h⟩) hk))
end
def tRevT (K : PySem.W.Frag) (te : TE) : TE := fun σ H Q => te σ H fun x H1 => ∃ a xs, x = .ref a ∧ SqT K H1 a xs ∧ ∀ p, H1 p = none → Q (.ref p) (upd H1 p (.tup xs.reverse))
theorem pe_revT {X : Cx} {te : TE} {e : Expr} {k : Nat} {p1 p2 p3 pos : Pos} (he : PE X e te) : PE X (.Subscript e (.Slice none none (some (.UnaryOp .USub (.Constant (.int 1) k p1) p2)) p3) pos) (tRevT X.K te) := by
  refine ⟨fun pins s σ H Q I h => Subscript_ (thn (he.run pins s σ H _ I h) fun v s1 ⟨x, H1, I1, r1, q1⟩ => ?_)⟩
  obtain ⟨a, xs, ex, hx, q⟩ := q1
  subst ex; cases r1
  have hst : PO X (some (.UnaryOp .USub (.Constant (.int 1) k p1) p2)) (tPart (tUn (rU fun i => .int (-i)) (tC (.int 1)))) := po_some (pe_un un_neg pe_int)
  refine wpAny_Slice (thn (po_none.run pins s1 σ H1 (fun o H2 => o = none ∧ H2 = H1) I1 ⟨rfl, rfl⟩) fun vl s2 ⟨l, H2, I2, pl, el, e2⟩ => ?_); subst el e2
  refine thn (po_none.run pins s2 σ H2 (fun o H3 => o = none ∧ H3 = H2) I2 ⟨rfl, rfl⟩) fun vu s3 ⟨u, H3, I3, pu, eu, e3⟩ => ?_; subst eu e3
  refine thn (hst.run pins s3 σ H3 (fun o H4 => o = some (-1) ∧ H4 = H3) I3 ⟨1, rfl, -1, rfl, rfl, rfl⟩) fun vs s4 ⟨o, H4, I4, ps, eo, e4⟩ => ?_; subst eo e4
  have I5 : Inv X pins σ H4 { s4 with heap := s4.heap.push { cls := .type "slice", data := .fields #[vl, vu, vs] } } := I4.kept (t' := s4.toks) fun b ob q => Heap.get?_push_of_some _ q
  obtain ⟨its, r, ht, hz⟩ := I5.tuple hx
  have hlen := r.length
  show wpAny (model X.prog X.w) X.A (subscriptTail e (.Slice none none (some (.UnaryOp .USub (.Constant (.int 1) k p1) p2)) p3) (.ref a) (.ref s4.heap.objs.size)) (L2.EP X pins σ Q) X.xe { s4 with heap := s4.heap.push { cls := .type "slice", data := .fields #[vl, vu, vs] } }
  refine tail_any (ops := [.ref a, .ref s4.heap.objs.size]) ht.typeIs (PyProof.Rows.slot_tuple_getitem.lookup) ?_ (by with_unfolding_all rfl)
  refine rv_getItem ht (Heap.IsSliceOf.new _ vl vu vs) pl pu ps ?_ (by rw [List.size_toArray]; omega)
  refine ⟨.ref _, _, I5.laid (t' := s4.toks) (o := .tup xs.reverse) (fun b ob q => Heap.get?_push_of_some _ q) (Nat.le_refl _) ?_, rfl, q _ (I5.hok.fresh (Nat.le_refl _))⟩
  exact ⟨by rw [List.length_reverse]; exact hz, its.reverse, r.reverse, IsTup.new _ _⟩
end GX
end rv_
section pr_
set_option maxRecDepth 100000
set_option maxHeartbeats 4000000
/-! itertools.permutations: facts -/
namespace PR
open PySem PySem.Spec PyProof.Rows L2
open PySem.Sem (wp)
abbrev pT : String := "itertools.permutations"
theorem slotN : Slot pT "__next__" "itertools.permutations.__next__" := .of (owner := "itertools.permutations") (n := "__next__") (by rw [typeLookup_type, builtinLookup_eq_fast]; kernel_rfl) (by decide +kernel) (by decide +kernel) (by decide +kernel) (by first | exact .inl (by decide +kernel) | exact .inr (by decide +kernel)) (by rw [isSubtype_type]; kernel_rfl)
theorem slotI : Slot pT "__iter__" "itertools.permutations.__iter__" := .of (owner := "itertools.permutations") (n := "__iter__") (by rw [typeLookup_type, builtinLookup_eq_fast]; kernel_rfl) (by decide +kernel) (by decide +kernel) (by decide +kernel) (by first | exact .inl (by decide +kernel) | exact .inr (by decide +kernel)) (by rw [isSubtype_type]; kernel_rfl)
theorem slotInit : Slot pT "__init__" "object.__init__" := .of (owner := "object") (n := "__init__") (by rw [typeLookup_type, builtinLookup_eq_fast]; kernel_rfl) (by decide +kernel) (by decide +kernel) (by decide +kernel) (by first | exact .inl (by decide +kernel) | exact .inr (by decide +kernel)) (by rw [isSubtype_type]; kernel_rfl)
theorem entryN : entryFor table "itertools.permutations.__next__" = some Builtin.«itertools.permutations.__next__» := entryFor_of_tree (by kernel_rfl)
theorem entryI : entryFor table "itertools.permutations.__iter__" = some Builtin.«dict_keyiterator.__iter__» := entryFor_alias (id' := "dict_keyiterator.__iter__") (by kernel_rfl) rfl (by decide +kernel) (by kernel_rfl)
theorem entryNew : entryFor table "itertools.permutations.__new__" = some Builtin.«itertools.permutations.__new__» := entryFor_of_tree (by kernel_rfl)
theorem ownP : Manifest.owners.lookup "itertools.permutations" = some Manifest.sig_itertools_permutations := by kernel_rfl
theorem argsN (a : Value) : argsOk "itertools.permutations.__next__" ⟨[a], []⟩ := by
  unfold argsOk
  rw [signature?_of (id := "itertools.permutations.__next__") (n := "__next__".toList.reverse) (o := "itertools.permutations".toList.reverse) (by kernel_rfl) (by kernel_rfl : _ = some Manifest.sig_itertools_permutations)]
  kernel_rfl
theorem argsI (a : Value) : argsOk "itertools.permutations.__iter__" ⟨[a], []⟩ := by
  unfold argsOk
  rw [signature?_of (id := "itertools.permutations.__iter__") (n := "__iter__".toList.reverse) (o := "itertools.permutations".toList.reverse) (by kernel_rfl) (by kernel_rfl : _ = some Manifest.sig_itertools_permutations)]
  kernel_rfl
theorem checkT (a : Value) : checkTypeCall pT ⟨[a], []⟩ = pure () := by kernel_rfl
theorem checkNew (a : Value) : checkBuiltinCall "itertools.permutations.__new__" ⟨[.type pT, a], []⟩ = pure () := by kernel_rfl
theorem mroP : mroOf (.type pT) = pure [.type pT, .type "object"] := by rw [mroOf_type]; kernel_rfl
theorem lookNew : typeLookup (.type pT) "__new__" = pure (some (.builtin "itertools.permutations.__new__")) := by rw [typeLookup_type, builtinLookup_eq_fast]; kernel_rfl
theorem calledP : TypeCalled pT "itertools.permutations.__new__" "object.__init__" := ⟨by decide +kernel, by decide +kernel, ⟨_, _, mroP⟩, madeBy_type mroP lookNew (by decide +kernel), by decide +kernel, by rw [isSubtype_type]; kernel_rfl, slotInit⟩
theorem subP : isSubtype (.type pT) (.type pT) = pure true := by rw [isSubtype_type]; kernel_rfl
end PR
end pr_
section pr2_
set_option maxRecDepth 100000
set_option maxHeartbeats 4000000
/-! itertools.permutations: the object, its turns -/
namespace PR
open PySem PySem.Spec PyProof.Rows L2
open PySem.Sem (wp)
/-- the object: the pool at p, its state, the places and the counts -/
abbrev recO (p : Addr) (st : Int) (n : Nat) (last : Value) (nums : List Nat) : Obj := { cls := .type pT, data := .fields ([.ref p, rawInt st, rawInt (n : Int), last] ++ nums.map fun (i : Nat) => rawInt (i : Int)).toArray }
section
variable {prog : Program} {w : World} {A : Around} {E : Value → Shared → Prop} {s : Shared} {a p : Addr} {st : Int} {n : Nat} {last : Value} {nums : List Nat}
theorem numbersOf {Q : List Nat → Shared → Prop} (h : s.heap.get? a = some (recO p st n last nums)) (q : Q nums s) : wpAny (model prog w) A (Builtin.Itertools.itNumbersFrom (.ref a) 4) Q E s := by
  unfold Builtin.Itertools.itNumbersFrom
  refine wpAny_bind (wpAny_load h ?_)
  have key : ∀ z : List Nat, z = nums → Q z s := fun z e => e ▸ q
  exact wpAny_pure (key _ (by simp [rawInt, Function.comp_def]))
theorem intFld {Q : Int → Shared → Prop} (i : Nat) {x : Int} (h : s.heap.get? a = some (recO p st n last nums)) (hi : ([.ref p, rawInt st, rawInt (n : Int), last] ++ nums.map fun (i : Nat) => rawInt (i : Int))[i]? = some (rawInt x)) (q : Q x s) : wpAny (model prog w) A (Builtin.Itertools.itIntField (.ref a) i) Q E s := by
  unfold Builtin.Itertools.itIntField
  refine wpAny_bind (wpAny_field h rfl (x := rawInt x) (by simpa using hi) ?_)
  exact wpAny_pure q
theorem setFld {Q : Unit → Shared → Prop} {i : Nat} {x : Value} {fs gs : List Value} (h : s.heap.get? a = some { cls := .type pT, data := .fields fs.toArray }) (hi : i < fs.length) (hg : gs = fs.set i x) (q : ∀ h', h'.get? a = some { cls := .type pT, data := .fields gs.toArray } → Heap.SameBut a s.heap h' → Q () { s with heap := h' }) : wpAny (model prog w) A (setField (.ref a) i x) Q E s := by
  refine wpAny_setField_rec h (by simpa using hi) fun h' e sb => q h' ?_ sb
  rw [hg, e, List.setIfInBounds_toArray]
end
end PR
end pr2_
section pr3_
set_option maxRecDepth 100000
set_option maxHeartbeats 4000000
namespace PR
open PySem PySem.Spec PyProof.Rows L2
open PySem.Sem (wp)
section
variable {prog : Program} {w : World} {A : Around} {E : Value → Shared → Prop} {s : Shared} {a p : Addr} {st : Int} {n : Nat} {last : Value} {nums : List Nat} {items : Array Value}
/-- the next places and counts -/
def np (n : Nat) : (place : Nat) → (indices cycles : List Nat) → Option (List Nat × List Nat)
  | 0, _, _ => none
  | i + 1, indices, cycles =>
    let c := cycles.getD i 0 - 1
    if c == 0 then np n i (indices.take i ++ indices.drop (i + 1) ++ [indices.getD i 0]) (cycles.set i (n - i))
    else some ((indices.set i (indices.getD (n - c) 0)).set (n - c) (indices.getD i 0), cycles.set i c)
theorem poolIt {Q : Array Value → Shared → Prop} (hp : IsTup s.heap p items) (q : Q items s) : wpAny (model prog w) A (Builtin.Itertools.itPoolItems (.ref p)) Q E s := by
  unfold Builtin.Itertools.itPoolItems
  obtain ⟨o, ho, _, k, hd⟩ := hp
  exact wpAny_bind (wpAny_seqItems ho hd (wpAny_pure q))
/-- the step's end: a new tuple of the items at these places -/
def resF (a : Addr) (items : Array Value) (r : Nat) (idx : List Nat) : Sem Fin := do
  let t ← newTuple ((idx.take r).map fun i => items.getD i .none)
  let before ← field (.ref a) 3
  setField (.ref a) 3 t
  letGo [before] [t]
  ret t
def nxt1 (a : Addr) (items : Array Value) (n r : Nat) (numbers : List Nat) : Sem Fin := match np n r (numbers.take n) (numbers.drop n) with
  | some (idx, cyc) => do Builtin.Itertools.itSetNumbersFrom (.ref a) 4 (idx ++ cyc); resF a items r idx
  | none => do setField (.ref a) 1 (rawInt 2); Builtin.Itertools.itStop
def nxt (a : Addr) : Sem Fin := do
  let items ← Builtin.Itertools.itPoolItems (← field (.ref a) 0)
  let n := items.size
  let r := (← Builtin.Itertools.itIntField (.ref a) 2).toNat
  let numbers ← Builtin.Itertools.itNumbersFrom (.ref a) 4
  match ← Builtin.Itertools.itIntField (.ref a) 1 with
  | 0 => setField (.ref a) 1 (rawInt 1); resF a items r numbers
  | 1 => nxt1 a items n r numbers
  | _ => rule "itertools.permutations.ended"; Builtin.Itertools.itStop
theorem nxt_eq : Builtin.«itertools.permutations.__next__» ⟨[.ref a], []⟩ = nxt a := by kernel_rfl
end
end PR
end pr3_
section pr4_
set_option maxRecDepth 100000
set_option maxHeartbeats 4000000
namespace PR
open PySem PySem.Spec PyProof.Rows L2
open PySem.Sem (wp)
section
variable {prog : Program} {w : World} {A : Around} {E : Value → Shared → Prop} {s : Shared} {a p : Addr} {st : Int} {n : Nat} {last : Value} {nums : List Nat} {items : Array Value}
theorem resW {Q : Fin → Shared → Prop} {r : Nat} {idx : List Nat} (ho : s.heap.get? a = some (recO p st n last nums)) (hr : (idx.take r).length ≤ sizeLine)
    (q : ∀ h', h'.get? a = some (recO p st n (.ref s.heap.objs.size) nums) → h'.get? s.heap.objs.size = some { cls := .type "tuple", data := .seq (((idx.take r).map fun i => items.getD i .none)).toArray } →
      (∀ b o, b ≠ a → s.heap.get? b = some o → h'.get? b = some o) → Q (.done (.ret (.ref s.heap.objs.size))) { s with heap := h' }) :
    wpAny (model prog w) A (resF a items r idx) Q E s := by
  unfold resF
  refine wpAny_bind (wpAny_newTuple ?_ (by rw [List.length_map]; exact hr))
  have ho' := Heap.get?_push_of_some { cls := .type "tuple", data := .seq ((idx.take r).map fun i => items.getD i .none).toArray } ho
  have hlt := Heap.lt_size ho
  refine wpAny_bind (wpAny_field (s := { s with heap := _ }) ho' rfl (x := last) rfl ?_)
  refine wpAny_bind (setFld (s := { s with heap := _ }) (i := 3) ho' (by simp) rfl fun h' e sb => ?_)
  refine wpAny_bind (wpAny_letGo ?_)
  refine wpAny_pure (q h' e ?_ fun b o hb hbo => ?_)
  · rw [sb.2 _ (Nat.ne_of_gt hlt)]; exact Heap.get?_push_size _ rfl
  · rw [sb.2 _ hb]; exact Heap.get?_push_of_some _ hbo
theorem nextW {Q : Fin → Shared → Prop} (ho : s.heap.get? a = some (recO p st n last nums)) (hp : IsTup s.heap p items) (hn : items.size = n)
    (q : wpAny (model prog w) A (match st with | 0 => (do setField (.ref a) 1 (rawInt 1); resF a items n nums) | 1 => nxt1 a items n n nums | _ => (do rule "itertools.permutations.ended"; Builtin.Itertools.itStop)) Q E s) :
    wpAny (model prog w) A (Builtin.«itertools.permutations.__next__» ⟨[.ref a], []⟩) Q E s := by
  rw [nxt_eq]
  unfold nxt
  refine wpAny_bind (wpAny_field ho rfl (x := .ref p) rfl ?_)
  refine wpAny_bind (poolIt hp ?_)
  refine wpAny_bind (intFld 2 ho rfl ?_)
  refine wpAny_bind (numbersOf ho ?_)
  refine wpAny_bind (intFld 1 ho rfl ?_)
  subst hn
  rw [Int.toNat_natCast]
  exact q
theorem next0 {Q : Fin → Shared → Prop} (ho : s.heap.get? a = some (recO p 0 n last nums)) (hp : IsTup s.heap p items) (hn : items.size = n) (hz : n ≤ sizeLine)
    (q : ∀ h', h'.get? a = some (recO p 1 n (.ref s.heap.objs.size) nums) → h'.get? s.heap.objs.size = some { cls := .type "tuple", data := .seq (((nums.take n).map fun i => items.getD i .none)).toArray } →
      (∀ b o, b ≠ a → s.heap.get? b = some o → h'.get? b = some o) → Q (.done (.ret (.ref s.heap.objs.size))) { s with heap := h' }) :
    wpAny (model prog w) A (Builtin.«itertools.permutations.__next__» ⟨[.ref a], []⟩) Q E s := by
  refine nextW ho hp hn ?_
  show wpAny _ _ (setField (.ref a) 1 (rawInt 1) >>= fun _ => resF a items n nums) _ _ _
  refine wpAny_bind (setFld (i := 1) ho (by simp) (gs := [.ref p, rawInt 1, rawInt (n : Int), last] ++ nums.map fun (i : Nat) => rawInt (i : Int)) rfl fun h' e sb => ?_)
  refine resW (s := { s with heap := h' }) (st := 1) e (by rw [List.length_take]; omega) fun h2 e1 e2 k => ?_
  have sz : h'.objs.size = s.heap.objs.size := sb.1
  have q2 := q h2 (by rw [← sz]; exact e1) (by rw [← sz]; exact e2) fun b o hb hbo => k b o hb (by show h'.get? b = _; rw [sb.2 _ hb]; exact hbo)
  rw [← sz] at q2
  exact q2
theorem nextS {Q : Fin → Shared → Prop} {idx cyc : List Nat} (ho : s.heap.get? a = some (recO p 1 n last nums)) (hp : IsTup s.heap p items) (hn : items.size = n) (hz : n ≤ 1000) (he : np n n (nums.take n) (nums.drop n) = some (idx, cyc)) (hl : (idx ++ cyc).length ≤ 2000)
    (q : ∀ h', h'.get? a = some (recO p 1 n (.ref s.heap.objs.size) (idx ++ cyc)) → h'.get? s.heap.objs.size = some { cls := .type "tuple", data := .seq (((idx.take n).map fun i => items.getD i .none)).toArray } →
      (∀ b o, b ≠ a → s.heap.get? b = some o → h'.get? b = some o) → Q (.done (.ret (.ref s.heap.objs.size))) { s with heap := h' }) :
    wpAny (model prog w) A (Builtin.«itertools.permutations.__next__» ⟨[.ref a], []⟩) Q E s := by
  refine nextW ho hp hn ?_
  show wpAny _ _ (nxt1 a items n n nums) _ _ _
  unfold nxt1
  rw [he]
  show wpAny _ _ (Builtin.Itertools.itSetNumbersFrom (.ref a) 4 (idx ++ cyc) >>= fun _ => resF a items n idx) _ _ _
  refine wpAny_bind ?_
  unfold Builtin.Itertools.itSetNumbersFrom
  have ex : (([.ref p, rawInt 1, rawInt (n : Int), last] ++ nums.map fun (i : Nat) => rawInt (i : Int)).toArray.extract 0 4 ++ ((idx ++ cyc).map fun (n : Nat) => rawInt n).toArray) = ([.ref p, rawInt 1, rawInt (n : Int), last] ++ (idx ++ cyc).map fun (i : Nat) => rawInt (i : Int)).toArray := by simp
  refine wpAny_updateFields ho rfl ?_ (by
    rw [ex, List.size_toArray, List.length_append, List.length_map, sizeLine_eq]
    simp only [List.length_cons, List.length_nil]; omega)
  have e : (s.heap.update a (Obj.mapFields fun fs => fs.extract 0 4 ++ ((idx ++ cyc).map fun (n : Nat) => rawInt n).toArray)).get? a = some (recO p 1 n last (idx ++ cyc)) := by
    rw [Heap.get?_update_self _ ho rfl]
    show some ({ cls := .type "itertools.permutations", data := .fields _ } : Obj) = _
    exact congrArg (fun z => some ({ cls := .type "itertools.permutations", data := .fields z } : Obj)) ex
  refine resW (s := { s with heap := _ }) (st := 1) e (by rw [List.length_take, sizeLine_eq]; omega) fun h2 e1 e2 k => ?_
  have sz : (s.heap.update a (Obj.mapFields fun fs => fs.extract 0 4 ++ ((idx ++ cyc).map fun (n : Nat) => rawInt n).toArray)).objs.size = s.heap.objs.size := (Heap.SameBut.update ..).1
  have sb : Heap.SameBut a s.heap (s.heap.update a (Obj.mapFields fun fs => fs.extract 0 4 ++ ((idx ++ cyc).map fun (n : Nat) => rawInt n).toArray)) := Heap.SameBut.update ..
  have q2 := q h2 (by rw [← sz]; exact e1) (by rw [← sz]; exact e2) fun b o hb hbo => k b o hb (by show Heap.get? _ b = _; rw [sb.2 _ hb]; exact hbo)
  rw [← sz] at q2
  exact q2
theorem nextE {Q : Fin → Shared → Prop} (hh : A.handled = none) (ho : s.heap.get? a = some (recO p 1 n last nums)) (hp : IsTup s.heap p items) (hn : items.size = n) (he : np n n (nums.take n) (nums.drop n) = none)
    (q : ∀ h' e, (∀ b o, b ≠ a → s.heap.get? b = some o → h'.get? b = some o) → (∃ o, h'.get? e = some o ∧ o.cls = .type "StopIteration") → E (.ref e) { s with heap := h' }) :
    wpAny (model prog w) A (Builtin.«itertools.permutations.__next__» ⟨[.ref a], []⟩) Q E s := by
  refine nextW ho hp hn ?_
  show wpAny _ _ (nxt1 a items n n nums) _ _ _
  unfold nxt1
  rw [he]
  show wpAny _ _ (setField (.ref a) 1 (rawInt 2) >>= fun _ => Builtin.Itertools.itStop) _ _ _
  refine wpAny_bind (setFld (i := 1) ho (by simp) rfl fun h' e sb => ?_)
  unfold Builtin.Itertools.itStop
  show wpAny _ _ (newExc (.type "StopIteration") [] >>= _) _ _ _
  refine wpAny_bind ?_
  simp only [newExc, newTuple]
  refine wpAny_bind (wpAny_newObj_type ?_ (by size_fits))
  refine wpAny_bind (m := firstArgMember _ _) (wpAny_of_eq (a := Value.none) (by first | rfl | (simp only [firstArgMember]; rfl)) ?_)
  refine wpAny_newObj_type ?_ (by size_fits)
  simp only [raiseNew]
  refine wpAny_bind (wpAny_handled ?_)
  rw [hh]
  refine wpAny_bind (wpAny_pure (wpAny_throw ?_))
  refine q _ _ (fun b o hb hbo => ?_) ⟨_, Heap.get?_push_size _ rfl, rfl⟩
  exact Heap.get?_push_of_some _ (Heap.get?_push_of_some _ (by show h'.get? b = _; rw [sb.2 _ hb]; exact hbo))
end
end PR
end pr4_
section pr5_
set_option maxRecDepth 100000
set_option maxHeartbeats 4000000
namespace PR
open PySem PySem.Spec PyProof.Rows L2
open PySem.Sem (wp)
section
variable {prog : Program} {w : World} {A : Around} {E : Value → Shared → Prop} {s : Shared} {r : Addr} {n : Nat} {t u v : Tok}
theorem bindP (v : Value) : Builtin.Itertools.itBindNamed "permutations" ["iterable", "r"] 1 2 [v] [] = pure [some v, none] := by kernel_rfl
theorem isTypeP : isType (.type pT) = pure true := by kernel_rfl
theorem noDictP : typeHasDict (.type pT) = false := by kernel_rfl
/-- the first places and counts -/
def nums0 (n : Nat) : List Nat := List.range n ++ (List.range n).map fun i => n - i
def newP (v : Value) : Sem Fin := do
  let items ← collect v
  let n := items.length
  let r : Int := (n : Int)
  if r < 0 then (do rule "itertools.permutations.negative-r"; raiseError "ValueError" "r must be non-negative") else
  if Builtin.Itertools.itTooMany r then unsupported "itertools.permutations.__new__:memory" else
  let r := r.toNat
  ret (← Builtin.Itertools.itNewRecord (.type pT) ([← newTuple items, rawInt (if r > n then 2 else 0), rawInt r, .none]
    ++ (List.range n).map (fun (i : Nat) => rawInt i) ++ (List.range r).map fun (i : Nat) => rawInt ((n : Int) - i)))
end
end PR
namespace PR
open PySem PySem.Spec PyProof.Rows L2
section
variable {prog : Program} {w : World} {A : Around} {E : Value → Shared → Prop} {s : Shared} {r : Addr} {n : Nat} {t u v : Tok}
theorem clsP (v : Value) : Builtin.Itertools.itClassAndRest "permutations" ⟨[.type pT, v], []⟩ = pure (.type pT, [v]) := by
  unfold Builtin.Itertools.itClassAndRest
  have e : ("itertools." ++ "permutations" : String) = pT := by decide
  simp only [e, isTypeP, subP, pure_bind, Bool.not_true, Bool.false_eq_true, if_false]
theorem new_wp {Q : Fin → Shared → Prop} (hh : A.handled = none) (hr : IsRange s.heap r 0 n 1 t u v) (hn : n ≤ 1000)
    (q : ∀ (h' : Heap) (tk : Nat) (acc : Array Value), (∀ b o, s.heap.get? b = some o → h'.get? b = some o) → ItemsOf (fun i v => ∃ t, v = .int (0 + i * 1) t) acc n →
      Q (.done (.ret (.ref (h'.objs.size + 1)))) { s with heap := (h'.push { cls := .type "tuple", data := .seq acc }).push (recO h'.objs.size 0 n .none (nums0 n)), toks := tk }) :
    wpAny (model prog w) A (Builtin.«itertools.permutations.__new__» ⟨[.type pT, .ref r], []⟩) Q E s := by
  unfold Builtin.«itertools.permutations.__new__»
  refine wpAny_bind (wpAny_of_eq (clsP _) ?_)
  refine wpAny_bind (wpAny_of_eq (bindP _) ?_)
  refine wpAny_bind (collect_range hh hr (small_one (by omega) (by omega) (by omega) (by omega)) (n := n) (by rw [rangeSize_nat]; omega) (by omega) fun h' tk acc hk hi => ?_)
  have hl : acc.toList.length = n := by rw [Array.length_toList]; exact hi.1
  dsimp only [Option.getD]
  have h1 : ¬ ((acc.toList.length : Int) < 0) := by omega
  have h2 : Builtin.Itertools.itTooMany (acc.toList.length : Int) = false := by unfold Builtin.Itertools.itTooMany; rw [decide_eq_false_iff_not]; omega
  simp only [pure_bind, h1, h2, if_false, Bool.false_eq_true]
  refine wpAny_bind (wpAny_newTuple ?_ (by rw [hl, sizeLine_eq]; omega))
  refine wpAny_bind ?_
  unfold Builtin.Itertools.itNewRecord
  simp only [noDictP, Bool.not_false, if_true]
  show wpAny _ _ (newObj (.type pT) _) _ _ _
  have key : ∀ fs gs : List Value, fs = gs → wpAny (model prog w) A (newObj (.type pT) (.fields gs.toArray)) (fun a s' => wpAny (model prog w) A (ret a) Q E s') E { s with heap := h'.push { cls := .type "tuple", data := .seq acc }, toks := tk } → wpAny (model prog w) A (newObj (.type pT) (.fields fs.toArray)) (fun a s' => wpAny (model prog w) A (ret a) Q E s') E { s with heap := h'.push { cls := .type "tuple", data := .seq acc.toList.toArray }, toks := tk } := fun fs gs e z => by subst e; rw [Array.toArray_toList]; exact z
  refine key _ ([.ref h'.objs.size, rawInt 0, rawInt (n : Int), .none] ++ (nums0 n).map fun (i : Nat) => rawInt (i : Int)) ?_ ?_
  · rw [hl]
    unfold nums0
    rw [Int.toNat_natCast, if_neg (by omega), List.map_append, List.map_map, ← List.append_assoc]
    refine congrArg _ (List.map_congr_left fun i hi => ?_)
    show rawInt _ = rawInt _
    have := List.mem_range.mp hi
    congr 1
    show (n : Int) - (i : Int) = ((n - i : Nat) : Int)
    omega
  · refine wpAny_newObj_type ?_ ?_
    · have sz : (h'.push { cls := .type "tuple", data := .seq acc }).objs.size = h'.objs.size + 1 := Heap.size_push ..
      have := q h' tk acc hk hi
      rw [← sz] at this
      exact wpAny_pure this
    · show Array.size _ ≤ sizeLine + 2
      rw [List.size_toArray, List.length_append, List.length_map]
      unfold nums0
      rw [List.length_append, List.length_map, List.length_range, sizeLine_eq]
      simp only [List.length_cons, List.length_nil]; omega
end
end PR
end pr5_
section pr6_
set_option maxRecDepth 100000
set_option maxHeartbeats 4000000
namespace PR
open PySem PySem.Spec PyProof.Rows L2
open PySem.Sem (wp)
def pq (n : Nat) : Nat → Option (List Nat × List Nat)
  | 0 => some (List.range n, (List.range n).map fun i => n - i)
  | i + 1 => (pq n i).bind fun z => np n n z.1 z.2
/-- a state of the right lengths -/
def Okq (n : Nat) (z : List Nat × List Nat) : Prop := z.1.length = n ∧ z.2.length = n ∧ ∀ x ∈ z.1, x < n
section
variable {prog : Program} {w : World} {A : Around} {E : Value → Shared → Prop} {s : Shared} {r : Addr} {n : Nat} {t u v : Tok}
theorem meets_perms (r : Addr) (n : Nat) (hn : n ≤ 1000) : Meets (Builtin.«itertools.permutations.__new__» ⟨[.type pT, .ref r], []⟩) (fun A R s => A.handled = none ∧ (∃ t u v, IsRange s.heap r 0 n 1 t u v) ∧
    ∀ (h' : Heap) (tk : Nat) (acc : Array Value), (∀ b o, s.heap.get? b = some o → h'.get? b = some o) → ItemsOf (fun i v => ∃ t, v = .int (0 + i * 1) t) acc n →
      R (.ok (.ret (.ref (h'.objs.size + 1)))) { s with heap := (h'.push { cls := .type "tuple", data := .seq acc }).push (recO h'.objs.size 0 n .none (nums0 n)), toks := tk }) :=
  .of_wp fun prog w A R s ⟨hh, ⟨t, u, v, hr⟩, h⟩ => new_wp (A := A.in1) (show A.in1.handled = none from hh) hr hn fun h' tk acc hk hi => ⟨_, rfl, h h' tk acc hk hi⟩
/-- the turn's state -/
def StP (a p : Addr) (n : Nat) (items : Array Value) : Nat → Heap → Prop
  | 0, h => h.get? a = some (recO p 0 n .none (nums0 n)) ∧ IsTup h p items
  | i + 1, h => (∃ z last, pq n i = some z ∧ Okq n z ∧ h.get? a = some (recO p 1 n last (z.1 ++ z.2))) ∧ IsTup h p items
theorem call_perms {Q : Value → Shared → Prop} (hh : A.handled = none) (hr : IsRange s.heap r 0 n 1 t u v) (hn : n ≤ 1000)
    (q : ∀ (h0 h' : Heap) (tk : Nat) (acc : Array Value), (∀ b o, s.heap.get? b = some o → h0.get? b = some o) → (∀ b o, h0.get? b = some o → h'.get? b = some o) → ItemsOf (fun i v => ∃ t, v = .int (0 + i * 1) t) acc n → StP (h0.objs.size + 1) h0.objs.size n acc 0 h' →
      Q (.ref (h0.objs.size + 1)) { s with heap := h', toks := tk }) :
    wpAny (model prog w) A (call (.type pT) [.ref r]) Q E s := by
  refine callType_new calledP (by decide) (checkT _) (checkNew _) (fun obj => F.args_object_init_2 obj _) entryNew (meets_perms r n hn) ⟨hh, ⟨_, _, _, hr⟩, fun h' tk acc hk hi => ?_⟩
  have sz : (h'.push { cls := .type "tuple", data := .seq acc }).objs.size = h'.objs.size + 1 := Heap.size_push ..
  have g : ((h'.push { cls := .type "tuple", data := .seq acc }).push (recO h'.objs.size 0 n .none (nums0 n))).get? (h'.objs.size + 1) = some (recO h'.objs.size 0 n .none (nums0 n)) := by rw [← sz]; exact Heap.get?_push_size _ rfl
  exact ⟨⟨_, g, rfl⟩, q h' _ tk acc hk (fun b o e => Heap.get?_push_of_some _ (Heap.get?_push_of_some _ e)) hi ⟨g, IsTup.push (IsTup.new _ _) _⟩⟩
/-- the places, one order after another -/
def Itp (n : Nat) : It where
  go := fun i _ => ∃ z, pq n i = some z ∧ Okq n z
  yld := fun i H v H' => ∃ T z, pq n i = some z ∧ v = .ref T ∧ H T = none ∧ H' = upd H T (.tup (z.1.map fun k => .int (k : Nat)))
  stop := fun i _ => 0 < i ∧ pq n i = none
theorem hT_rec {a p : Addr} {st : Int} {last : Value} {nums : List Nat} (h : s.heap.get? a = some (recO p st n last nums)) : s.TypeIs (.ref a) pT := ⟨_, h, rfl⟩
theorem turn_perms {P : Program} {w : World} {K : PySem.W.Frag} {tg : Expr} {a p : Addr} {items : Array Value} (hap : p ≠ a) (hi : ItemsOf (fun i v => ∃ t, v = .int (0 + i * 1) t) items n) (hn : n ≤ 1000) : Turn P w K tg (Itp n) [a, p] a (StP a p n items) where
  mem := by simp
  obj := fun i h st c hc => by
    have e : c = a ∨ c = p := by simpa using hc
    rcases e with e | e <;> subst e
    · cases i with
      | zero => exact ⟨_, st.1, fun v q => nomatch q⟩
      | succ i => obtain ⟨⟨z, last, _, _, q⟩, _⟩ := st; exact ⟨_, q, fun v q => nomatch q⟩
    · have q : IsTup h c items := by cases i <;> exact st.2
      obtain ⟨o, ho, _, k, hd⟩ := q
      exact ⟨o, ho, fun v q => by rw [hd] at q; cases q⟩
  keep := fun i h h' st k => by
    have kp : IsTup h p items → IsTup h' p items := fun ⟨o, ho, r⟩ => ⟨o, k p (by simp) o ho, r⟩
    cases i with
    | zero => exact ⟨k a (by simp) _ st.1, kp st.2⟩
    | succ i => obtain ⟨⟨z, last, e1, e2, q⟩, q2⟩ := st; exact ⟨⟨z, last, e1, e2, k a (by simp) _ q⟩, kp q2⟩
  item := by
    intro X hP hw hK hc i pins s σ H E I hf st hg
    subst hP hw hK
    obtain ⟨z, hz, ok⟩ := hg
    have hsz : items.size = n := hi.1
    -- the new tuple's items
    have vs : Vals (z.1.map fun k => V.int (k : Nat)) ((z.1.take n).map fun i => items.getD i .none) := by
      rw [List.take_of_length_le (by rw [ok.1]; exact Nat.le_refl _)]
      have : ∀ l : List Nat, (∀ x ∈ l, x < n) → Vals (l.map fun k => V.int (k : Nat)) (l.map fun i => items.getD i .none) := by
        intro l
        induction l with
        | nil => intro _; exact .nil
        | cons y l ih =>
          intro hl
          refine .cons ?_ (ih fun x hx => hl x (List.mem_cons_of_mem _ hx))
          obtain ⟨t, e⟩ := hi.2 y (items.getD y .none) (by
            have := hl y (List.mem_cons_self ..)
            rw [Array.getD_eq_getD_getElem?, Array.getElem?_eq_getElem (by omega)]; rfl)
          show L2.RelV (.int (y : Nat)) (items.getD y .none)
          rw [e]
          exact ⟨t, by rw [Int.mul_one, Int.zero_add]⟩
      exact this z.1 ok.2.2
    have fin : ∀ (last : Value) (h' : Heap), h'.get? a = some (recO p 1 n (.ref s.heap.objs.size) (z.1 ++ z.2)) → h'.get? s.heap.objs.size = some { cls := .type "tuple", data := .seq (((z.1.take n).map fun i => items.getD i .none)).toArray } →
        (∀ b o, b ≠ a → s.heap.get? b = some o → h'.get? b = some o) → IsTup s.heap p items → a < s.heap.objs.size →
        wpAny (model X.prog X.w) X.A (letOwnedTupleGo tg (.ref a) (.ref s.heap.objs.size)) (fun _ s2 => ∃ x H', L2.Inv X pins σ H' s2 ∧ RelV x (.ref s.heap.objs.size) ∧ (Itp n).yld i H x H' ∧ StP a p n items (i + 1) s2.heap ∧ ∀ b ∈ [a, p], H' b = none) E { s with heap := h' } := by
      intro last h' e1 e2 k hp hlt
      refine go_of (s := { s with heap := h' }) (n := pT) e1 rfl rfl (by decide) ?_
      have new : ObjOk X.prog X.w (upd H s.heap.objs.size (.tup (z.1.map fun k => V.int (k : Nat)))) h' s.heap.objs.size (.tup (z.1.map fun k => V.int (k : Nat))) := ⟨by rw [List.length_map, ok.1, sizeLine_eq]; omega, _, vs, ⟨_, e2, rfl, _, rfl⟩⟩
      have I1 : L2.Inv X pins σ (upd H s.heap.objs.size (.tup (z.1.map fun k => V.int (k : Nat)))) { s with heap := h', toks := s.toks } := I.turnedNew (ch := [a, p]) (fun c o hb q => k c o (fun e => hb (by simp [e])) q) hf (Nat.le_refl _) new
      refine ⟨.ref s.heap.objs.size, _, I1, rfl, ⟨_, z, hz, rfl, I.hok.fresh (Nat.le_refl _), rfl⟩, ⟨⟨z, _, hz, ok, e1⟩, ?_⟩, fun c hc => ?_⟩
      · obtain ⟨o, ho, r⟩ := hp; exact ⟨o, k p o hap ho, r⟩
      · have hp' : p < s.heap.objs.size := hp.lt
        have hcl : c < s.heap.objs.size := by
          have e : c = a ∨ c = p := by simpa using hc
          rcases e with e | e <;> subst e <;> assumption
        rw [upd_ne (Nat.ne_of_lt hcl)]
        exact (hf c hc).1
    cases i with
    | zero =>
      obtain ⟨q1, q2⟩ := st
      cases hz
      unfold pyNext
      have e0 : (nums0 n).take n = List.range n := by unfold nums0; rw [List.take_append_of_le_length (by simp)]; exact List.take_of_length_le (by simp)
      refine wpAny_bind (wpAny_attempt (wpAny_callSpecial?_slot (name := Str.ofString "__next__") (hT_rec q1) slotN (wpAny_call_entry slotN (hT_rec q1) entryN (next0 q1 q2 hsz (by rw [sizeLine_eq]; omega) fun h' e1 e2 k => ?_) (argsN _))))
      refine ⟨_, rfl, wpAny_pure ?_⟩
      show ∃ u, some _ = some u ∧ _
      refine ⟨_, rfl, fin .none h' e1 ?_ k q2 (Heap.lt_size q1)⟩
      rw [e2, e0]
      show _ = some ({ cls := _, data := .seq (List.map _ (List.take n (List.range n))).toArray } : Obj)
      rw [List.take_of_length_le (by simp)]
    | succ i =>
      obtain ⟨⟨z0, last, e0, ok0, q1⟩, q2⟩ := st
      have hz' : np n n z0.1 z0.2 = some z := by
        have : pq n (i + 1) = (pq n i).bind fun z => np n n z.1 z.2 := rfl
        rw [this, e0] at hz
        exact hz
      have t1 : (z0.1 ++ z0.2).take n = z0.1 := by rw [← ok0.1]; exact List.take_left ..
      have t2 : (z0.1 ++ z0.2).drop n = z0.2 := by rw [← ok0.1]; exact List.drop_left ..
      unfold pyNext
      refine wpAny_bind (wpAny_attempt (wpAny_callSpecial?_slot (name := Str.ofString "__next__") (hT_rec q1) slotN (wpAny_call_entry slotN (hT_rec q1) entryN (nextS (idx := z.1) (cyc := z.2) q1 q2 hsz hn (by rw [t1, t2]; exact hz') (by rw [List.length_append, ok.1, ok.2.1]; omega) fun h' e1 e2 k => ?_) (argsN _))))
      refine ⟨_, rfl, wpAny_pure ?_⟩
      show ∃ u, some _ = some u ∧ _
      exact ⟨_, rfl, fin last h' e1 e2 k q2 (Heap.lt_size q1)⟩
  done := by
    intro X hP hw hK hc i pins s σ H E I hf st hg
    subst hP hw hK
    obtain ⟨hpos, hz⟩ := hg
    have hsz : items.size = n := hi.1
    cases i with
    | zero => exact absurd hpos (by decide)
    | succ i =>
      obtain ⟨⟨z0, last, e0, ok0, q1⟩, q2⟩ := st
      have hz' : np n n z0.1 z0.2 = none := by
        have : pq n (i + 1) = (pq n i).bind fun z => np n n z.1 z.2 := rfl
        rw [this, e0] at hz
        exact hz
      have t1 : (z0.1 ++ z0.2).take n = z0.1 := by rw [← ok0.1]; exact List.take_left ..
      have t2 : (z0.1 ++ z0.2).drop n = z0.2 := by rw [← ok0.1]; exact List.drop_left ..
      unfold pyNext
      refine wpAny_bind (wpAny_attempt (wpAny_callSpecial?_slot (name := Str.ofString "__next__") (hT_rec q1) slotN (wpAny_call_entry slotN (hT_rec q1) entryN (nextE (I.ok.hd hc) q1 q2 hsz (by rw [t1, t2]; exact hz') fun h' e k he => ?_) (argsN _))))
      obtain ⟨o, ho, hcl⟩ := he
      refine wpAny_bind (wpAny_isInstance (T := "StopIteration") (b := true) ⟨o, ho, hcl⟩ isSubtype_stop ?_)
      exact wpAny_pure ⟨rfl, I.turnedL (t' := s.toks) (ch := [a, p]) (fun c o hb q => k c o (fun e => hb (by simp [e])) q) hf⟩
  self := fun A i s Q E st h => by
    have hT : s.TypeIs (.ref a) pT := by
      cases i with
      | zero => exact hT_rec st.1
      | succ i => obtain ⟨⟨z, last, _, _, q⟩, _⟩ := st; exact hT_rec q
    refine wpAny_pyIter_slot hT slotI (wpAny_call_entry slotI hT entryI ?_ (argsI _))
    show wpAny _ _ (ret (.ref a)) _ _ s
    exact wpAny_pure ⟨_, rfl, pT, _, hT, slotN.lookup, h⟩
end
end PR
end pr6_
section pr7_
set_option maxRecDepth 100000
set_option maxHeartbeats 4000000
namespace PR
open PySem PySem.Spec PyProof.Rows L2
open PySem.Sem (wp)
def iPerms (ta : TE) : TI := fun σ H R => tRg1 ta σ H fun a b H1 => a = 0 ∧ ∃ n : Nat, b = (n : Int) ∧ n ≤ 1000 ∧ R (Itp n) H1
theorem pi_perms {X : Cx} {tg e : Expr} {ta : TE} {nm : Str} {p p2 pos pos2 : Pos} (hc : X.calm = true) (hg : Gl X nm) (hm : X.mg nm = some (.type pT)) (hg2 : Gl X "range") (hm2 : X.mg "range" = none) (ha : PE X e ta)
    (hdb : (nm == ("__debug__" : Str)) = false)
    (na2 : starEach [e] X.env = (false, eval e X.env) :: starEach [] X.env := by rfl)
    (na : starEach [.Call (.Name "range" p2) [e] [] pos2] X.env = (false, eval (.Call (.Name "range" p2) [e] [] pos2) X.env) :: starEach [] X.env := by rfl) :
    PI X tg (.Call (.Name nm p) [.Call (.Name "range" p2) [e] [] pos2] [] pos) (iPerms ta) := by
  refine ⟨fun pins s σ H R I h => ?_⟩
  have he := prg_1 (X := X) (p := p2) (pos := pos2) hg2 hm2 ha na2
  refine PyProof.Rows.Call_ (ld_glob I hg hm (PyProof.Rows.callWith_type1 (args_cons (thn (he pins s σ H _ I h) fun x s1 ⟨r, a, b, t, u, v, H1, ex, hr, I1, ok⟩ => args_nil ?_) na) na) hdb)
  subst ex
  obtain ⟨rfl, n, rfl, hn, q⟩ := ok
  refine call_perms (I1.ok.hd hc) hr hn fun h0 h' tk acc k0 k1 hi st => ?_
  have T := turn_perms (P := X.prog) (w := X.w) (K := X.K) (tg := tg) (a := h0.objs.size + 1) (p := h0.objs.size) (Nat.ne_of_lt (Nat.lt_succ_self _)) hi hn
  refine T.self _ 0 _ _ _ st ?_
  have I2 : L2.Inv X pins σ H1 { s1 with heap := h0, toks := tk } := I1.kept k0
  have I3 : L2.Inv X pins σ H1 { s1 with heap := h', toks := tk } := I2.kept (t' := tk) k1
  refine ⟨h0.objs.size + 1, [h0.objs.size + 1, h0.objs.size], _, _, H1, rfl, I3, T, st, fun c hcm => ?_, q⟩
  have hle : h0.objs.size ≤ c := by
    have e : c = h0.objs.size + 1 ∨ c = h0.objs.size := by simpa using hcm
    rcases e with e | e <;> subst e
    · exact Nat.le_succ _
    · exact Nat.le_refl _
  exact I2.fpOk hle (I2.hok.fresh hle)
end PR
end pr7_
section plr_
set_option maxRecDepth 100000
set_option maxHeartbeats 4000000
/-! reversed slices; permutations -/
namespace PR
/-- the orders of n, as they come, f at most -/
def plF (n : Nat) : Nat → List Nat × List Nat → List (List Nat)
  | 0, _ => []
  | f + 1, z => z.1 :: match np n n z.1 z.2 with
    | none => []
    | some z' => plF n f z'
def okF (n : Nat) : Nat → List Nat × List Nat → Bool
  | 0, _ => false
  | f + 1, z => z.1.length == n && z.2.length == n && z.1.all (· < n) && match np n n z.1 z.2 with
    | none => true
    | some z' => okF n f z'
def z0 (n : Nat) : List Nat × List Nat := (List.range n, (List.range n).map fun i => n - i)
def perms (n : Nat) : List (List Nat) := plF n 1000 (z0 n)
theorem okP {n : Nat} (h : n ≤ 5) : okF n 1000 (z0 n) = true := by
  rcases n with _ | _ | _ | _ | _ | _ | n <;> first | (exfalso; omega) | decide +kernel
theorem plF_spec {n : Nat} : ∀ (f : Nat) (z : List Nat × List Nat) (i : Nat), pq n i = some z → okF n f z = true →
    (∀ j x, (plF n f z)[j]? = some x → ∃ y, pq n (i + j) = some y ∧ Okq n y ∧ y.1 = x) ∧ 0 < (plF n f z).length ∧ pq n (i + (plF n f z).length) = none
  | 0, _, _, _, h => by cases h
  | f + 1, z, i, hz, h => by
    unfold okF at h
    unfold plF
    have hs : pq n (i + 1) = np n n z.1 z.2 := by
      show (pq n i).bind _ = _
      rw [hz]; rfl
    simp only [Bool.and_eq_true, beq_iff_eq, List.all_eq_true, decide_eq_true_eq] at h
    obtain ⟨⟨⟨h1, h2⟩, h3⟩, h4⟩ := h
    cases hn : np n n z.1 z.2 with
    | none =>
      refine ⟨fun j x hx => ?_, Nat.zero_lt_one, by rw [List.length_singleton, hs, hn]⟩
      cases j with
      | zero => cases hx; exact ⟨z, hz, ⟨h1, h2, h3⟩, rfl⟩
      | succ j => cases hx
    | some z' =>
      rw [hn] at h4 hs
      obtain ⟨k1, k2, k3⟩ := plF_spec f z' (i + 1) hs h4
      refine ⟨fun j x hx => ?_, by rw [List.length_cons]; omega, ?_⟩
      · cases j with
        | zero => cases hx; exact ⟨z, hz, ⟨h1, h2, h3⟩, rfl⟩
        | succ j =>
          obtain ⟨y, e, r⟩ := k1 j x hx
          exact ⟨y, by rw [show i + (j + 1) = i + 1 + j by omega]; exact e, r⟩
      · rw [List.length_cons, show i + ((plF n f z').length + 1) = i + 1 + (plF n f z').length by omega]
        exact k3
end PR
namespace PL
open PySem PySem.Spec PyProof.Rows L2 LamX GX PR
section
variable {M : Type → Type} [Mir M] {μ : Md} {g : Cw} {ρ : Env} {a : Expr} {ma : M D} {p p1 p2 p3 pos pos2 : Pos} {k : Nat} {tg : Expr}
open Mir
def dTupL : D → Option (List D)
  | .tuple ds => some ds
  | _ => none
/-- t[::-1] of a tuple -/
theorem EX.revT (ha : EX μ g ρ a ma) : EX μ g ρ (.Subscript a (.Slice none none (some (.UnaryOp .USub (.Constant (.int 1) k p1) p2)) p3) pos) (bnd ma fun x => bnd (lift (dTupL x)) fun ds => ret (.tuple ds.reverse)) := fun X hX =>
  (pe_revT (ha X hX)).imp fun σ H Q ⟨φ, B, k, hW, F, hm, hQ⟩ => rd.st hW F hm fun d v B1 H1 hk1 s1 hr1 => by
    obtain ⟨ds, hds, hk⟩ := Mir.wp_lift (Mir.wp_bnd hk1)
    cases d <;> simp [dTupL] at hds
    subst hds
    have F1 := F.go s1
    cases hr1 with | tup h5 h6 =>
    refine ⟨_, _, rfl, by rw [hX.K]; exact Evl.ex_t F1.refl.bsub h5, fun l hl => ?_⟩
    refine hQ _ _ _ _ (Mir.wp_ret hk) (s1.trans (F1.lay hl nt_tup)) (.tup (SqT.of upd_same) ?_)
    exact DpAll.mono (sub_upd (hbp_of F1.refl hl)) (dpAll_rev h6)
/-- l[::-1] of a list -/
theorem EL.revL (ha : EX μ g ρ a ma) : EL μ g ρ (.Subscript a (.Slice none none (some (.UnaryOp .USub (.Constant (.int 1) k p1) p2)) p3) pos) (bnd ma fun x => bnd (lift (dLst x)) fun ds => ret ds.reverse) := fun X hX =>
  (L2.pe_revL (ha X hX)).imp fun σ H Q ⟨φ, B, k, hW, F, hm, hQ⟩ => rd.st hW F hm fun d v B1 H1 hk1 s1 hr1 => by
    obtain ⟨ds, hds, hk⟩ := Mir.wp_lift (Mir.wp_bnd hk1)
    cases d <;> simp [dLst] at hds
    subst hds
    have F1 := F.go s1
    cases hr1 with | lst h5 h6 =>
    refine ⟨_, _, rfl, by rw [hX.K]; exact Evl.ex_l F1.refl.bsub h5, fun l hl => ?_⟩
    obtain ⟨s3, h3⟩ := F.lstL s1 hl (dpAll_rev h6)
    exact hQ _ _ _ _ (Mir.wp_ret hk) s3 h3
/-- permutations(range(n)) -/
def dPerms : D → Option (List D)
  | .int k => if 0 ≤ k ∧ k ≤ 5 then some ((perms k.toNat).map fun l => .tuple (l.map fun i => .int (i : Nat))) else none
  | _ => none
theorem dpNats {K : PySem.W.Frag} {B : Hp} : ∀ l : List Nat, DpAll K B (l.map fun k => V.int (k : Nat)) (l.map fun i => PyData.int (i : Nat))
  | [] => .nil
  | _ :: l => .cons (.int _) (dpNats l)
theorem EI.perms {nm : Str} (hg : glB g nm = true) (hm : μ.mg nm = some (.type pT)) (hg2 : glB g "range" = true) (hm2 : μ.mg "range" = none) (ha : EX μ g ρ a ma) (hdb : (nm == ("__debug__" : Str)) = false := by rfl)
    (h1 : ∀ env, starEach [a] env = (false, eval a env) :: starEach [] env := by intro _; rfl)
    (h2 : ∀ env, starEach [.Call (.Name "range" p2) [a] [] pos2] env = (false, eval (.Call (.Name "range" p2) [a] [] pos2) env) :: starEach [] env := by intro _; rfl) :
    EI μ g ρ false tg (.Call (.Name nm p) [.Call (.Name "range" p2) [a] [] pos2] [] pos) (bnd ma fun x => lift (dPerms x)) := fun X hX =>
  (pi_perms hX.calm (hX.gl (gl hg)) (by rw [hX.mg]; exact hm) (hX.gl (gl hg2)) (by rw [hX.mg]; exact hm2) (ha X hX) hdb (h1 _) (h2 _)).imp fun σ H R ⟨φ, B, k, hW, F, hm, hQ⟩ => rd.st hW F hm fun x v B1 H1 hk1 s1 hr1 => by
    obtain ⟨ds, hds, hk⟩ := Mir.wp_lift hk1
    cases x <;> simp only [dPerms] at hds
    all_goals first | cases hds | skip
    rename_i n
    split at hds
    case isFalse => cases hds
    rename_i hn
    cases hds
    refine ⟨n, dp_int hr1, rfl, n.toNat, by omega, by omega, hQ _ _ _ _ hk s1 fun B3 H3 sub st3 _ i => ?_⟩
    obtain ⟨k1, k2, k3⟩ := plF_spec 1000 (z0 n.toNat) 0 rfl (okP (show n.toNat ≤ 5 by omega))
    refine ⟨fun d e => ?_, fun hl => ?_⟩
    · rw [List.getElem?_map] at e
      obtain ⟨l, e1, e2⟩ := Option.map_eq_some_iff.mp e
      subst e2
      obtain ⟨y, y1, y2, y3⟩ := k1 i l e1
      rw [Nat.zero_add] at y1
      refine ⟨⟨y, y1, y2⟩, fun z H4 ⟨T, y', e3, ev, hT, eH⟩ => ?_⟩
      rw [y1] at e3
      cases e3
      subst ev eH
      rw [← y3]
      exact tup_step st3 hT (dpNats _)
    · rw [List.length_map] at hl
      have hl : (plF n.toNat 1000 (z0 n.toNat)).length ≤ i := hl
      refine ⟨by omega, ?_⟩
      rw [Nat.zero_add] at k3
      -- none stays none
      have : ∀ d, pq n.toNat ((plF n.toNat 1000 (z0 n.toNat)).length + d) = none := by
        intro d
        induction d with
        | zero => exact k3
        | succ d ih =>
          show (pq n.toNat ((plF n.toNat 1000 (z0 n.toNat)).length + d)).bind _ = none
          rw [ih]; rfl
      have h := this (i - (plF n.toNat 1000 (z0 n.toNat)).length)
      rw [Nat.add_sub_cancel' hl] at h
      exact h
end
end PL
end plr_
section tm_
set_option maxRecDepth 100000
set_option maxHeartbeats 4000000
namespace GX
open PySem PySem.Spec PyProof.Rows L2
theorem tuple_mul1 (l : Addr) (items : Array Value) (n : Nat) (dd : Option Addr) (sl : Array (Option Value)) (u : Tok) :
    Meets (Builtin.«tuple.__mul__» ⟨[.ref l, .int 1 u], []⟩) (fun _ R s => s.heap.get? l = some { cls := .type "tuple", dict := dd, data := .seq items n, slots := sl } ∧ R (.ok (.ret (.ref l))) s) :=
  .of_wp fun prog w A R s h => by
    obtain ⟨hp, g, d, tk, os⟩ := s
    obtain ⟨hl, h⟩ := h
    have f1 := AutoSeq1.idx_int
    have c0 : (decide ((1 : Int) < -(2 ^ 63)) || decide ((1 : Int) ≥ 2 ^ 63)) = false := by decide
    have c1 : (items.isEmpty || (1 : Int) == 1) = true := by rw [Bool.or_eq_true]; exact .inr rfl
    wp_walk using wpAny_loadPart' hl
    repeat (first
      | (refine wpAny_ite_false (decide_eq_false (by rw [c0]; exact Bool.false_ne_true)) ?_; wp_walk using wpAny_loadPart' hl)
      | (refine wpAny_ite_true (decide_eq_true (by rw [c1])) ?_; wp_walk using wpAny_loadPart' hl))
    exact ⟨_, rfl, h⟩
section
variable {X : Cx}
def rRepTT (K : PySem.W.Frag) : R2 := fun x y H Q => ∃ l k xs, x = .ref l ∧ y = .int k ∧ SqT K H l xs ∧ xs ≠ [] ∧ ((k = 1 ∧ Q (.ref l) H) ∨ (2 ≤ k ∧ k ≤ 1000 ∧ xs.length ≤ 1000 ∧ ∀ p, H p = none → Q (.ref p) (upd H p (.tup (List.replicate k.toNat xs).flatten))))
theorem op_repTT : OpR X (binaryOp .Mult) (rRepTT X.K) := by
  intro pins s σ H x y v u Q I rx ry h
  obtain ⟨l, k, xs, rfl, rfl, hT, hne, h⟩ := h
  rcases h with ⟨rfl, q⟩ | ⟨h1, h2, hz, q⟩
  · cases rx
    obtain ⟨t, rfl⟩ := ry
    obtain ⟨its, r, ⟨⟨cls, dd, data, sl⟩, ho, hc, n, hd⟩, hs⟩ := I.tuple hT
    simp only at hc hd
    subst hc hd
    refine wpAny_binaryOp_repeat_ref (T := "tuple") (U := "int") (by decide) ⟨_, ho, rfl⟩ (fun s' => typeIs_int s' 1 t) noFill_tuple_mul F.fills_int_mul F.slot_int_rmul repeat_tuple F.slot_int_index.lookup
      (call_meets F.slot_int_rmul (typeIs_int s 1 t) F.entry_int_rmul (F.args_int_rmul_2 _ _) (int_rmul_tuple 1 t l its.toArray n dd sl)
        ⟨ho, rfl, ⟨_, ho, rfl⟩, call_meets F.slot_tuple_mul ⟨_, ho, rfl⟩ F.entry_tuple_mul (F.args_tuple_mul_2 _ _) (tuple_mul1 l its.toArray n dd sl t) ⟨ho, ?_⟩⟩)
    exact ⟨.ref l, H, I, rfl, q⟩
  · exact op_repT pins s σ H _ _ v u Q I rx ry ⟨l, k, xs, rfl, rfl, hT, hne, h1, h2, hz, q⟩
end
end GX
namespace PL
open PySem PySem.Spec PyProof.Rows L2 LamX GX
section
variable {M : Type → Type} [Mir M] {μ : Md} {g : Cw} {ρ : Env} {a b : Expr} {ma mb : M D} {pos : Pos}
open Mir
/-- (x, ..) * n, n above 0 -/
def dRepT' (x n : D) : Option D := match x with
  | .tuple ds => (dInt n).bind fun k => if ds ≠ [] ∧ 1 ≤ k ∧ k ≤ 1000 ∧ ds.length ≤ 1000 then some (.tuple (List.replicate k.toNat ds).flatten) else none
  | _ => none
theorem EX.repT (ha : EX μ g ρ a ma) (hb : EX μ g ρ b mb) : EX μ g ρ (.BinOp a .Mult b pos) (bnd ma fun x => bnd mb fun y => lift (dRepT' x y)) := fun X hX => (pe_op op_repTT (ha X hX) (hb X hX)).imp fun σ H Q ⟨φ, B, k, hW, F, hm, hQ⟩ =>
  rd.st hW F hm fun x v B1 H1 hk1 s1 hr1 => rd.st hW (F.go s1) hk1 fun n w B2 H2 hk2 s2 hr2 => by
    obtain ⟨z, hz, hk⟩ := Mir.wp_lift hk2
    cases x <;> simp only [dRepT'] at hz
    all_goals first | cases hz | skip
    obtain ⟨kk, h1, hz⟩ := Option.bind_eq_some_iff.mp hz
    cases n <;> simp [dInt] at h1
    subst h1
    split at hz
    case isFalse => cases hz
    rename_i hc
    cases hz
    have hr1' := Dp.mono s2.sub hr1
    have F2 := (F.go s1).go s2
    cases hr1' with | tup h5 h6 =>
    refine ⟨_, _, _, rfl, dp_int hr2, by rw [hX.K]; exact Evl.ex_t F2.refl.bsub h5, fun e => hc.1 (by have := dpAll_len h6; rw [e] at this; exact List.eq_nil_of_length_eq_zero this.symm), ?_⟩
    rcases Int.lt_or_le 1 ‹Int› with q | q
    · refine .inr ⟨by omega, hc.2.2.1, by rw [dpAll_len h6]; exact hc.2.2.2, fun p hp => ?_⟩
      refine hQ _ _ _ _ hk ((s1.trans s2).trans (F2.lay hp nt_tup)) (.tup (SqT.of upd_same) ?_)
      exact DpAll.mono (sub_upd (hbp_of F2.refl hp)) (dpAll_rep h6 _)
    · have e : ‹Int› = 1 := by omega
      rw [e] at hk ⊢
      refine .inl ⟨rfl, hQ _ _ _ _ hk (s1.trans s2) ?_⟩
      simp only [Int.toNat_one, List.replicate_one, List.flatten_singleton]
      exact .tup h5 h6
end
end PL
end tm_
section k78w_
set_option maxRecDepth 100000
set_option maxHeartbeats 4000000
namespace K78
open PySem PySem.Spec PyProof.Rows L2 GxR GenW LamX GX PySem.W PL
/-! ## jobsproved_k78_whole_ends_by_turning_poi -/
abbrev fuel : Nat := 100000
def top (i : Nat) : Stmt := PySem.Challenge.pw_jobsproved_k78_whole_ends_by_turning_poi.main.body.getD i (.Pass ⟨0, 0, 0, 0⟩)
abbrev s__law_pool : Stmt := top 21
def d__law_pool : He.DefD := ⟨("_law_pool", none), "_law_pool", "_law_pool", defArgs s__law_pool, defBody s__law_pool, defScope s__law_pool, [], []⟩
abbrev s__law_spread : Stmt := top 22
def d__law_spread : He.DefD := ⟨("_law_spread", none), "_law_spread", "_law_spread", defArgs s__law_spread, defBody s__law_spread, defScope s__law_spread, [], []⟩
abbrev s__law_draw : Stmt := top 23
def d__law_draw : He.DefD := ⟨("_law_draw", none), "_law_draw", "_law_draw", defArgs s__law_draw, defBody s__law_draw, defScope s__law_draw, [], []⟩
abbrev s__law_flow : Stmt := top 24
def d__law_flow : He.DefD := ⟨("_law_flow", none), "_law_flow", "_law_flow", defArgs s__law_flow, defBody s__law_flow, defScope s__law_flow, [], []⟩
abbrev s_johnson : Stmt := top 14
def d_johnson : He.DefD := ⟨("johnson", none), "johnson", "johnson", defArgs s_johnson, defBody s_johnson, defScope s_johnson, [], []⟩
abbrev s_flow_end : Stmt := top 13
def d_flow_end : He.DefD := ⟨("flow_end", none), "flow_end", "flow_end", defArgs s_flow_end, defBody s_flow_end, defScope s_flow_end, [], []⟩
abbrev s__law_turn : Stmt := top 25
def d__law_turn : He.DefD := ⟨("_law_turn", none), "_law_turn", "_law_turn", defArgs s__law_turn, defBody s__law_turn, defScope s__law_turn, [], []⟩
abbrev s_is_worded : Stmt := top 4
def d_is_worded : He.DefD := ⟨("is_worded", none), "is_worded", "is_worded", defArgs s_is_worded, defBody s_is_worded, defScope s_is_worded, [], []⟩
abbrev s_is_integer : Stmt := top 2
def d_is_integer : He.DefD := ⟨("is_integer", none), "is_integer", "is_integer", defArgs s_is_integer, defBody s_is_integer, defScope s_is_integer, [], []⟩
abbrev s_is_row : Stmt := top 3
def d_is_row : He.DefD := ⟨("is_row", none), "is_row", "is_row", defArgs s_is_row, defBody s_is_row, defScope s_is_row, [], []⟩
abbrev s_is_order : Stmt := top 6
def d_is_order : He.DefD := ⟨("is_order", none), "is_order", "is_order", defArgs s_is_order, defBody s_is_order, defScope s_is_order, [], []⟩
abbrev s_power : Stmt := top 8
def d_power : He.DefD := ⟨("power", none), "power", "power", defArgs s_power, defBody s_power, defScope s_power, [], []⟩
abbrev s_is_set_table : Stmt := top 11
def d_is_set_table : He.DefD := ⟨("is_set_table", none), "is_set_table", "is_set_table", defArgs s_is_set_table, defBody s_is_set_table, defScope s_is_set_table, [], []⟩
abbrev s_members_of : Stmt := top 9
def d_members_of : He.DefD := ⟨("members_of", none), "members_of", "members_of", defArgs s_members_of, defBody s_members_of, defScope s_members_of, [], []⟩
abbrev s_sum_at : Stmt := top 10
def d_sum_at : He.DefD := ⟨("sum_at", none), "sum_at", "sum_at", defArgs s_sum_at, defBody s_sum_at, defScope s_sum_at, [], []⟩
abbrev s_choices_at : Stmt := top 15
def d_choices_at : He.DefD := ⟨("choices_at", none), "choices_at", "choices_at", defArgs s_choices_at, defBody s_choices_at, defScope s_choices_at, [], []⟩
abbrev s_check_flow : Stmt := top 18
def d_check_flow : He.DefD := ⟨("check_flow", none), "check_flow", "check_flow", defArgs s_check_flow, defBody s_check_flow, defScope s_check_flow, [], []⟩
abbrev s__law_longest : Stmt := top 26
def d__law_longest : He.DefD := ⟨("_law_longest", none), "_law_longest", "_law_longest", defArgs s__law_longest, defBody s__law_longest, defScope s__law_longest, [], []⟩
abbrev s_best_flow : Stmt := top 19
def d_best_flow : He.DefD := ⟨("best_flow", none), "best_flow", "best_flow", defArgs s_best_flow, defBody s_best_flow, defScope s_best_flow, [], []⟩
abbrev s_flow_table : Stmt := top 16
def d_flow_table : He.DefD := ⟨("flow_table", none), "flow_table", "flow_table", defArgs s_flow_table, defBody s_flow_table, defScope s_flow_table, [], []⟩
abbrev s_flow_paper : Stmt := top 17
def d_flow_paper : He.DefD := ⟨("flow_paper", none), "flow_paper", "flow_paper", defArgs s_flow_paper, defBody s_flow_paper, defScope s_flow_paper, [], []⟩
abbrev s_law : Stmt := top 27
def d_law : He.DefD := ⟨("law", none), "law", "law", defArgs s_law, defBody s_law, defScope s_law, [], []⟩
def fnL : List He.DefD := [d__law_pool, d__law_spread, d__law_draw, d__law_flow, d_johnson, d_flow_end, d__law_turn, d_is_worded, d_is_integer, d_is_row, d_is_order, d_power, d_is_set_table, d_members_of, d_sum_at, d_choices_at, d_check_flow, d__law_longest, d_best_flow, d_flow_table, d_flow_paper, d_law]
def faL : List He.Fa := [.free "int", .free "range", .free "tuple", .free "sorted", .free "enumerate", .free "max", .free "len", .free "list", .free "isinstance", .free "str", .free "bool", .free "all", .free "sum", .free "min", .free "any", .glo "_law_pool", .glo "_law_spread", .glo "_law_draw", .glo "_law_flow", .glo "johnson", .glo "flow_end", .glo "_law_turn", .glo "is_worded", .glo "is_integer", .glo "is_row", .glo "is_order", .glo "power", .glo "is_set_table", .glo "members_of", .glo "sum_at", .glo "choices_at", .glo "check_flow", .glo "_law_longest", .glo "best_flow", .glo "flow_table", .glo "flow_paper", .glo "law"]
def tfL : List He.Defn := [("johnson", none), ("is_row", none), ("check_flow", none)]
def exL : List (PySem.Str × Value) := [("permutations", .type "itertools.permutations")]
def qT : List ((Nat × Nat) × PySem.Str) := [((38, 27), "johnson.<locals>.<lambda>"), ((39, 28), "johnson.<locals>.<lambda>"), ((6, 69), "is_row.<locals>.<genexpr>"), ((58, 15), "check_flow.<locals>.<genexpr>"), ((60, 19), "check_flow.<locals>.<genexpr>")]
def qsT : Nat → Nat → PySem.Str := fun l c => (qT.lookup (l, c)).getD ""
theorem caps0 {N : List PySem.Str} {sc : Scope} {ρ : PL.Env} : ∀ (y : PySem.Str) (dy : D), ([] : List (PySem.Str × D)).lookup y = some dy → sc.names.lookup y = some .free ∧ ∃ i : Nat, N[i]? = some y ∧ ρ[i]? = some (some (.dat dy)) := fun y dy h => nomatch h
theorem capsS {N : List PySem.Str} {sc : Scope} {ρ : PL.Env} {c : PySem.Str} {d : D} {l : List (PySem.Str × D)} (h1 : lkB sc c .free = true) (i : Nat) (h2 : atB N i c = true) (h3 : ρ[i]? = some (some (.dat d))) (hl : ∀ (y : PySem.Str) (dy : D), l.lookup y = some dy → sc.names.lookup y = some .free ∧ ∃ i : Nat, N[i]? = some y ∧ ρ[i]? = some (some (.dat dy))) :
    ∀ (y : PySem.Str) (dy : D), ((c, d) :: l).lookup y = some dy → sc.names.lookup y = some .free ∧ ∃ i : Nat, N[i]? = some y ∧ ρ[i]? = some (some (.dat dy)) := fun y dy h => by
  rw [List.lookup_cons] at h
  split at h
  · rename_i e
    cases h
    rw [eq_of_beq e]
    exact ⟨lkB_ok h1, i, atB_ok h2, h3⟩
  · exact hl y dy h
section
variable {μ : Md}
theorem sc__law_pool : FnScope [("script" : PySem.Str), ("salt" : PySem.Str), ("cell" : PySem.Str)] [("script" : PySem.Str)] (defScope s__law_pool) := ⟨rfl, rfl, rfl, by decide +kernel, rfl, by decide +kernel, by decide +kernel⟩
theorem fn__law_pool (Φ : Fx μ faL fnL tfL exL) (hqs : μ.qs = fun _ => qsT) : ∃ f fd ps, FnOk μ.prog μ.w μ.K μ.mg μ.base CX0 1 f fd ps (spPool μ) ∧ μ.mg ("_law_pool" : PySem.Str) = some (.ref f) ∧ PySem.W.keepIn μ.K (.ref f) = true ∧ Binds μ.K fd ps [] := by
  obtain ⟨fd, F⟩ := Φ.fn_ 0 (d := d__law_pool) rfl
  refine Fn.raw (W := NoW) (k := 0) (pd := ("_law_pool", none)) F sc__law_pool (Φ.glo 15 rfl) (fun _ _ _ _ _ _ us hl => match us, hl with | [_], _ => rfl) false (fun h => nomatch h) (fun vs H Q E ⟨a, cells, e, _⟩ => by rw [e]; rfl) fun X hX vs H Q E h => ⟨tPool X.K, ?_, pool_sem hX.K h⟩
  have v : ∀ (i : Nat) (x : PySem.Str) {pos : Pos}, nmB (Cw.of [("script" : PySem.Str), ("salt" : PySem.Str), ("cell" : PySem.Str)] (defScope s__law_pool) 0 false "_law_pool" (He.cT μ.K ("_law_pool", none)) NoW) i x = true → PE X (.Name x pos) (tVar i) := fun i x pos h => let ⟨a, b, c, d⟩ := nmB_ok h; hX.var a b c d
  have st : ∀ (i : Nat) (x : PySem.Str) {e : Expr} {te : TE} {p pos : Pos}, stB (Cw.of [("script" : PySem.Str), ("salt" : PySem.Str), ("cell" : PySem.Str)] (defScope s__law_pool) 0 false "_law_pool" (He.cT μ.K ("_law_pool", none)) NoW) i x = true → (∀ env, swapsWith e (some (.Name x p)) pos.line env = pure false) → PE X e te → PS X (.Assign [.Name x p] e pos) (tAsg te (gName i)) := fun i x e te p pos h hs he => let ⟨a, b, c⟩ := stB_ok h; ps_set (i := i) (by rw [hX.N]; exact hX.nd) (by rw [hX.N]; exact a) (hX.loc b) he (hs _) (hX.fnl c)
  have hi : X.mg "int" = none := by rw [hX.mg]; exact (Φ.free 0 rfl)
  have hl : X.mg "list" = none := by rw [hX.mg]; exact (Φ.free 7 rfl)
  exact pss_cons (st 1 "salt" (by kernel_rfl) (fun _ => rfl) pe_int) (pss_cons (ps_for (by rw [hX.xe]; exact PassesOwn.never) hX.calm (pi_list (pe_slice sl_list (v 0 "script" (by kernel_rfl)) po_none (po_some pe_int))) (let ⟨a, b, c⟩ := stB_ok (x := "cell") (i := 2) (g := Cw.of [("script" : PySem.Str), ("salt" : PySem.Str), ("cell" : PySem.Str)] (defScope s__law_pool) 0 false "_law_pool" (He.cT μ.K ("_law_pool", none)) NoW) (by kernel_rfl); pg_name (i := 2) (by rw [hX.N]; exact hX.nd) (by rw [hX.N]; exact a) (hX.loc b) (hX.fnl c))
    (pss_one (st 1 "salt" (by kernel_rfl) (fun _ => rfl) (pe_op op_mod (pe_callTy call_int1 (hX.gl (gl (by kernel_rfl))) hi (by decide +kernel) (pa_cons (pe_op op_add (pe_op op_mul (v 1 "salt" (by kernel_rfl)) pe_int) (v 2 "cell" (by kernel_rfl))) pa_nil)) pe_int))) (fun _ => rfl))
    (pss_one (ps_ret (pe_lst (pa_cons (pe_callTy call_list_of (hX.gl (gl (by kernel_rfl))) hl boot_list (pa_cons (v 0 "script" (by kernel_rfl)) pa_nil)) (pa_cons pe_int (pa_cons pe_int (pa_cons pe_int (pa_cons (v 1 "salt" (by kernel_rfl)) pa_nil)))))))))
def b__law_spread (v_cell : D) : Option (Fl Empty Unit) := (Mir.bnd (Mir.bnd (Mir.bnd (Mir.ret v_cell) fun d => Mir.lift (dIntOf d)) fun x => Mir.bnd (Mir.ret (.int 2147483647)) fun y => Mir.lift (dMod x y)) fun v_blended => (Mir.bnd (Mir.ret (.int 1)) fun v_whole_sum => (Mir.bnd (Mir.bnd (Mir.ret (.int 4)) fun x => Mir.lift ((dInt x).bind fun j => dRange 0 j)) fun ds => Mir.bnd (forF (fun (s1 : (D × D)) d => Mir.bnd ((fun d => Mir.ret d) d) fun c2 => (Mir.bnd (Mir.bnd (Mir.bnd (Mir.bnd (Mir.bnd (Mir.bnd (Mir.ret s1.1) fun x => Mir.bnd (Mir.ret (.int 48271)) fun y => Mir.lift (dMul x y)) fun x => Mir.bnd (Mir.ret (.int 12345)) fun y => Mir.lift (dAdd x y)) fun x => Mir.bnd (Mir.ret c2) fun y => Mir.lift (dAdd x y)) fun d => Mir.lift (dIntOf d)) fun x => Mir.bnd (Mir.ret (.int 2147483647)) fun y => Mir.lift (dMod x y)) fun v_blended => (Mir.bnd (Mir.bnd (Mir.bnd (Mir.ret s1.2) fun x => Mir.bnd (Mir.ret (.int 2147483647)) fun y => Mir.lift (dMul x y)) fun x => Mir.bnd (Mir.ret v_blended) fun y => Mir.lift (dAdd x y)) fun v_whole_sum => (Mir.ret (.nx (v_blended, v_whole_sum)))))) ds (v_blended, v_whole_sum)) (jn fun (s3 : (D × D)) => (Mir.bnd (Mir.ret s3.2) fun d => Mir.ret (.rt d))))))
theorem sc__law_spread : FnScope [("cell" : PySem.Str), ("blended" : PySem.Str), ("whole_sum" : PySem.Str), ("k" : PySem.Str)] [("cell" : PySem.Str)] (defScope s__law_spread) := ⟨rfl, rfl, rfl, by decide +kernel, rfl, by decide +kernel, by decide +kernel⟩
theorem w__law_spread (Φ : Fx μ faL fnL tfL exL) (hqs : μ.qs = fun _ => qsT) (v_cell : D) : SS μ (Cw.of [("cell" : PySem.Str), ("blended" : PySem.Str), ("whole_sum" : PySem.Str), ("k" : PySem.Str)] (defScope s__law_spread) 0 false "_law_spread" (He.cT μ.K ("_law_spread", none)) NoW) (env0 [false] [v_cell] ++ List.replicate 3 none) oE (none : Option (Unit → PL.Env)) (defBody s__law_spread) (b__law_spread v_cell) := (Sa 1 (by kernel_rfl) (EX.mod (EX.eb (EX.intOf (gl (by kernel_rfl)) (Φ.free 0 rfl) (EX.eb (Xv 0 rfl (by kernel_rfl))))) (EX.eb EX.int)) (fun v_blended => (Sa 2 (by kernel_rfl) EX.int (fun v_whole_sum => (SS.for_ (o := (fun (b_ : (D × D)) => [some (.dat v_cell), some (.dat b_.1), some (.dat b_.2), none])) (b0 := (v_blended, v_whole_sum)) (EI.range1 (gl (by kernel_rfl)) (Φ.free 1 rfl) EX.int) (Cov.s (Cov.s (Cov.s (Cov.n (Cov.z))))) (fun s1 => (Tn 3 (by kernel_rfl))) (fun s1 c2 => (Sa 1 (by kernel_rfl) (EX.mod (EX.eb (EX.intOf (gl (by kernel_rfl)) (Φ.free 0 rfl) (EX.eb (EX.add (EX.eb (EX.add (EX.eb (EX.mul (EX.eb (Xv 1 rfl (by kernel_rfl))) (EX.eb EX.int))) (EX.eb EX.int))) (EX.eb (Xv 3 rfl (by kernel_rfl))))))) (EX.eb EX.int)) (fun v_blended => (Sa 2 (by kernel_rfl) (EX.add (EX.eb (EX.mul (EX.eb (Xv 2 rfl (by kernel_rfl))) (EX.eb EX.int))) (EX.eb (Xv 1 rfl (by kernel_rfl)))) (fun v_whole_sum => (SS.nil (b := (v_blended, v_whole_sum)) (Cov.s (Cov.s (Cov.s (Cov.n (Cov.z))))))))))) (fun s3 => (SS.retE (Xv 2 rfl (by kernel_rfl)))))))))
def mb__law_spread : List D → Option (Fl Empty Unit) := fun ds => match ds with | [v_cell] => b__law_spread v_cell | _ => Mir.lift none
def md__law_spread : List D → Option (D) := fun ds => Mir.bnd (mb__law_spread ds) fin
theorem fn__law_spread (Φ : Fx μ faL fnL tfL exL) (hqs : μ.qs = fun _ => qsT) : PL.Fn μ NoW [false] 1 "_law_spread" md__law_spread := by
  obtain ⟨fd, F⟩ := Φ.fn_ 1 (d := d__law_spread) rfl
  exact Fn.mk (k := 0) (pd := ("_law_spread", none)) F sc__law_spread rfl (Φ.glo 16 rfl) (fun _ _ _ _ _ _ us hl => match us, hl with | [_], _ => rfl) false (fun h => nomatch h) fun ds h => match ds, h with | [v_cell], _ => w__law_spread Φ hqs v_cell
theorem spread_ok (c : Int) : ∃ r : Int, md__law_spread [.int c] = some (.int r) := by
  have h1 : ∀ x : Int, CMul x 48271 := fun x => cmul_r (by decide) (by decide)
  have h2 : ∀ x : Int, CMul x 2147483647 := fun x => cmul_r (by decide) (by decide)
  simp [md__law_spread, mb__law_spread, b__law_spread, Mir.bnd, Mir.ret, Mir.lift, dIntOf, dMod, dI2, dRange, dInt, forF, jn, dMul, dAdd, h1, h2, fin, List.range_succ]
theorem sc__law_draw : FnScope [("pool" : PySem.Str), ("many" : PySem.Str), ("cell" : PySem.Str), ("blended" : PySem.Str), ("value" : PySem.Str)] [("pool" : PySem.Str), ("many" : PySem.Str)] (defScope s__law_draw) := ⟨rfl, rfl, rfl, by decide +kernel, rfl, by decide +kernel, by decide +kernel⟩
abbrev md__law_draw : List D → WP D := drawM
theorem md_spread (c : Int) : ∃ r : Int, md__law_spread [.int c] = some (.int r) := spread_ok c
theorem fn__law_draw (Φ : Fx μ faL fnL tfL exL) (hqs : μ.qs = fun _ => qsT) : PL.Fn μ IsPool [true, false] 2 "_law_draw" drawM := by
  obtain ⟨fd, F⟩ := Φ.fn_ 2 (d := d__law_draw) rfl
  refine Fn.raw (W := NoW) (k := 1) (pd := ("_law_draw", none)) F sc__law_draw (Φ.glo 17 rfl) (fun _ _ _ _ _ _ us hl => match us, hl with | [_, _], _ => rfl) false (fun h => nomatch h) (fun vs H Q E ⟨ω, B, ds, kk, _, _, _, ha, _⟩ => by rw [ha.len]; rfl) fun X hX vs H Q E h => ⟨tDraw X.K (spD μ NoW [false] md__law_spread), ?_, draw_sem hX.K md_spread h⟩
  have v : ∀ (i : Nat) (x : PySem.Str) {pos : Pos}, nmB (Cw.of [("pool" : PySem.Str), ("many" : PySem.Str), ("cell" : PySem.Str), ("blended" : PySem.Str), ("value" : PySem.Str)] (defScope s__law_draw) 1 false "_law_draw" (He.cT μ.K ("_law_draw", none)) NoW) i x = true → PE X (.Name x pos) (tVar i) := fun i x pos h => let ⟨a, b, c, d⟩ := nmB_ok h; hX.var a b c d
  have st : ∀ (i : Nat) (x : PySem.Str) {e : Expr} {te : TE} {p pos : Pos}, stB (Cw.of [("pool" : PySem.Str), ("many" : PySem.Str), ("cell" : PySem.Str), ("blended" : PySem.Str), ("value" : PySem.Str)] (defScope s__law_draw) 1 false "_law_draw" (He.cT μ.K ("_law_draw", none)) NoW) i x = true → (∀ env, swapsWith e (some (.Name x p)) pos.line env = pure false) → PE X e te → PS X (.Assign [.Name x p] e pos) (tAsg te (gName i)) := fun i x e te p pos h hs he => let ⟨a, b, c⟩ := stB_ok h; ps_set (i := i) (by rw [hX.N]; exact hX.nd) (by rw [hX.N]; exact a) (hX.loc b) he (hs _) (hX.fnl c)
  have hi : X.mg "int" = none := by rw [hX.mg]; exact (Φ.free 0 rfl)
  have hl : X.mg "len" = none := by rw [hX.mg]; exact (Φ.free 6 rfl)
  have pl : ∀ {pos : Pos}, PE X (.Name "pool" pos) (tVar 0) := fun {pos} => v 0 "pool" (by kernel_rfl)
  have ix : ∀ (j : Int) {p1 p2 p3 : Pos} {n : Nat}, PE X (.Subscript (.Name "pool" p1) (.Constant (.int j) n p2) p3) (tP X.K j) := fun j p1 p2 p3 n => pe_ix ix_list pl pe_int (fun _ _ => rfl)
  have int1 : ∀ {e : Expr} {te : TE} {p pos : Pos}, (∀ env, starEach [e] env = (false, eval e env) :: starEach [] env) → PE X e te → PE X (.Call (.Name "int" p) [e] [] pos) (tI1 te) := fun {e te p pos} h he => pe_callTy call_int1 (hX.gl (gl (by kernel_rfl))) hi (by decide +kernel) (pa_cons he pa_nil (h _)) (by decide) (by decide) (h _)
  have nb : ∀ (b : Expr), behindInMarks .LtE b = false := fun b => nobehind b (by decide) (by decide)
  have nl : ∀ (b : Expr), behindInMarks .Lt b = false := fun b => nobehind b (by decide) (by decide)
  obtain ⟨fs, fds, pss, Fs, ms, ks, bs⟩ := fn__law_spread Φ hqs
  have call : ∀ {p p1 pos : Pos}, PE X (.Call (.Name "_law_spread" p) [.Name "cell" p1] [] pos) (tCall (spD μ NoW [false] md__law_spread) [] E0 (tCons (tVar 2) tNil)) := fun {p p1 pos} =>
    pe_call (by rw [hX.prog, hX.w, hX.K, hX.mg, hX.base]; exact Fs) (hX.room.mono (Nat.le_of_ble_eq_true rfl)) (hX.gl (gl (by kernel_rfl))) (by rw [hX.mg]; exact ms) (by rw [hX.K]; exact ks) (by rw [hX.K]; exact bs) .nil pass0 (pa_cons (v 2 "cell" (by kernel_rfl)) pa_nil)
  refine pss_cons (ps_if (PW.pt (pw_and (pt_cmpR op_le (ix 2) pe_int (nb _)) (pw_and1 (pt_cmpR op_lt (ix 1) (pe_callB call_len_seq (hX.gl (gl (by kernel_rfl))) hl boot_len (pa_cons (ix 0) pa_nil)) (nl _))))) ?_ pss_nil) (pss_cons (ps_asg (pe_op op_add (ix 3) pe_int) (pg_sub pl pe_int set_list)) (pss_cons (ps_if (pt_cmpR op_le (ix 2) pe_int (nb _)) ?_ pss_nil)
    (pss_cons (st 4 "value" (by kernel_rfl) (fun _ => rfl) (pe_op op_mod (int1 (fun _ => rfl) (ix 2)) (v 1 "many" (by kernel_rfl)))) (pss_cons (ps_asg (pe_op op_fdiv (ix 2) (v 1 "many" (by kernel_rfl))) (pg_sub pl pe_int set_list)) (pss_one (ps_ret (v 4 "value" (by kernel_rfl))))))))
  · exact pss_cons (st 2 "cell" (by kernel_rfl) (fun _ => rfl) (pe_ix ix_list (ix 0) (ix 1) (fun _ _ => rfl))) (pss_cons (ps_asg (pe_op op_add (ix 1) pe_int) (pg_sub pl pe_int set_list)) (pss_cons (ps_asg (v 2 "cell" (by kernel_rfl)) (pg_sub pl pe_int set_list))
      (pss_one (ps_if (pt_cmpR op_lt (v 2 "cell" (by kernel_rfl)) pe_int (nl _)) (pss_one (ps_asg call (pg_sub pl pe_int set_list))) pss_nil))))
  · exact pss_cons (st 3 "blended" (by kernel_rfl) (fun _ => rfl) (pe_op op_mod (int1 (fun _ => rfl) (pe_op op_add (pe_op op_add (pe_op op_mul (ix 4) pe_int) (pe_op op_mul (ix 3) pe_int)) pe_int)) pe_int))
      (pss_cons (st 3 "blended" (by kernel_rfl) (fun _ => rfl) (pe_op op_mod (int1 (fun _ => rfl) (pe_op op_add (pe_op op_mul (v 3 "blended" (by kernel_rfl)) pe_int) (ix 3))) pe_int))
        (pss_one (ps_ret (pe_op op_mod (pe_op op_fdiv (v 3 "blended" (by kernel_rfl)) pe_int) (v 1 "many" (by kernel_rfl))))))
def b__law_flow (v_machines : D) : WP (Fl Empty Unit) := (Mir.bnd (Mir.bnd (Mir.ret (.int 1)) fun x => Mir.bnd (Mir.bnd (Mir.bnd (Mir.ret (.int 5)) fun x => Mir.bnd (Mir.ret []) fun xs => Mir.ret (x :: xs)) md__law_draw) fun y => Mir.lift (dAdd x y)) fun v_n => (Mir.bnd (Mir.bnd (Mir.bnd (Mir.ret v_machines) fun x => Mir.bnd (Mir.ret (.int 0)) fun y => Mir.lift ((dGt x y).bind dBool)) fun t => if t then (Mir.ret v_machines) else (Mir.bnd (Mir.ret (.int 1)) fun x => Mir.bnd (Mir.bnd (Mir.bnd (Mir.ret (.int 4)) fun x => Mir.bnd (Mir.ret []) fun xs => Mir.ret (x :: xs)) md__law_draw) fun y => Mir.lift (dAdd x y))) fun v_m => (Mir.bnd (Mir.bnd (Mir.bnd (Mir.bnd (Mir.ret (.int 3)) fun x => Mir.bnd (Mir.bnd (Mir.ret (.int 9)) fun x => Mir.bnd (Mir.bnd (Mir.ret (.int 51)) fun x => Mir.bnd (Mir.ret []) fun xs => Mir.ret (x :: xs)) fun xs => Mir.ret (x :: xs)) fun xs => Mir.ret (x :: xs)) fun ds => Mir.ret (.tuple ds)) fun x => Mir.bnd (Mir.bnd (Mir.bnd (Mir.ret (.int 3)) fun x => Mir.bnd (Mir.ret []) fun xs => Mir.ret (x :: xs)) md__law_draw) fun y => Mir.lift (dIx x y)) fun v_top => (Mir.bnd (Mir.bnd (Mir.bnd (Mir.bnd (Mir.bnd (Mir.ret v_n) fun x => Mir.lift ((dInt x).bind fun j => dRange 0 j)) (compF (fun d => Mir.ret d) (fun c1 => (Mir.ret true)) (fun c1 => (Mir.bnd (Mir.bnd (Mir.bnd (Mir.bnd (Mir.ret v_m) fun x => Mir.lift ((dInt x).bind fun j => dRange 0 j)) (compF (fun d => Mir.ret d) (fun c2 => (Mir.ret true)) (fun c2 => (Mir.bnd (Mir.bnd (Mir.ret v_top) fun x => Mir.bnd (Mir.ret []) fun xs => Mir.ret (x :: xs)) md__law_draw)))) fun ds => Mir.ret (.list ds)) fun d => Mir.lift (dTup d))))) fun ds => Mir.ret (.list ds)) fun d => Mir.lift (dTup d)) fun d => Mir.ret (.rt d)))))
theorem sc__law_flow : FnScope [("pool" : PySem.Str), ("machines" : PySem.Str), ("n" : PySem.Str), ("m" : PySem.Str), ("top" : PySem.Str), ("j" : PySem.Str), ("k" : PySem.Str)] [("pool" : PySem.Str), ("machines" : PySem.Str)] (defScope s__law_flow) := ⟨rfl, rfl, rfl, by decide +kernel, rfl, by decide +kernel, by decide +kernel⟩
theorem w__law_flow (Φ : Fx μ faL fnL tfL exL) (hqs : μ.qs = fun _ => qsT) (v_machines : D) : SS μ (Cw.of [("pool" : PySem.Str), ("machines" : PySem.Str), ("n" : PySem.Str), ("m" : PySem.Str), ("top" : PySem.Str), ("j" : PySem.Str), ("k" : PySem.Str)] (defScope s__law_flow) 2 false "_law_flow" (He.cT μ.K ("_law_flow", none)) IsPool) (env0 [true, false] [v_machines] ++ List.replicate 5 none) oE (none : Option (Unit → PL.Env)) (defBody s__law_flow) (b__law_flow v_machines) := (Sa 2 (by kernel_rfl) (EX.add (EX.eb EX.int) (EX.eb (Xw (fn__law_draw Φ hqs) (fun _ h => h) (Nat.le_of_ble_eq_true rfl) (by kernel_rfl) (Pw 0 rfl (by kernel_rfl) (EP.dat EX.int EP.nil))))) (fun v_n => (Sa 3 (by kernel_rfl) (EX.ifE (ET.cmp c_gt (EX.eb (Xv 1 rfl (by kernel_rfl))) (EX.eb EX.int) (nobehind _ (by decide) (by decide))) (Xv 1 rfl (by kernel_rfl)) (EX.add (EX.eb EX.int) (EX.eb (Xw (fn__law_draw Φ hqs) (fun _ h => h) (Nat.le_of_ble_eq_true rfl) (by kernel_rfl) (Pw 0 rfl (by kernel_rfl) (EP.dat EX.int EP.nil)))))) (fun v_m => (Sa 4 (by kernel_rfl) (EX.ix (EX.eb (EX.tup (EAn.cons EX.int (EAn.cons EX.int (EAn.cons EX.int EAn.nil))))) (Xw (fn__law_draw Φ hqs) (fun _ h => h) (Nat.le_of_ble_eq_true rfl) (by kernel_rfl) (Pw 0 rfl (by kernel_rfl) (EP.dat EX.int EP.nil))) (fun _ _ => rfl)) (fun v_top => (SS.retE (EX.tupOf (gl (by kernel_rfl)) (Φ.free 2 rfl) (EL.eb (Lcomp [(("j" : PySem.Str), 5)] (by kernel_rfl) (EI.up (EI.range1 (gl (by kernel_rfl)) (Φ.free 1 rfl) (Xv 2 rfl (by kernel_rfl)))) (Tn 5 (by kernel_rfl)) (by decide) (fun c1 => ETs.nil) (fun c1 => (EX.tupOf (gl (by kernel_rfl)) (Φ.free 2 rfl) (EL.eb (Lcomp [(("k" : PySem.Str), 6)] (by kernel_rfl) (EI.up (EI.range1 (gl (by kernel_rfl)) (Φ.free 1 rfl) (Xv 3 rfl (by kernel_rfl)))) (Tn 6 (by kernel_rfl)) (by decide) (fun c2 => ETs.nil) (fun c2 => (Xw (fn__law_draw Φ hqs) (fun _ h => h) (Nat.le_of_ble_eq_true rfl) (by kernel_rfl) (Pw 0 rfl (by kernel_rfl) (EP.dat (Xv 4 rfl (by kernel_rfl)) EP.nil))))))))))))))))))
def mb__law_flow : List D → WP (Fl Empty Unit) := fun ds => match ds with | [v_machines] => b__law_flow v_machines | _ => Mir.lift none
def md__law_flow : List D → WP (D) := fun ds => Mir.bnd (mb__law_flow ds) fin
theorem fn__law_flow (Φ : Fx μ faL fnL tfL exL) (hqs : μ.qs = fun _ => qsT) : PL.Fn μ IsPool [true, false] 3 "_law_flow" md__law_flow := by
  obtain ⟨fd, F⟩ := Φ.fn_ 3 (d := d__law_flow) rfl
  exact Fn.mk (k := 2) (pd := ("_law_flow", none)) F sc__law_flow rfl (Φ.glo 18 rfl) (fun _ _ _ _ _ _ us hl => match us, hl with | [_, _], _ => rfl) false (fun h => nomatch h) fun ds h => match ds, h with | [v_machines], _ => w__law_flow Φ hqs v_machines
def b_johnson (v_flow : D) : Option (Fl Empty Unit) := (Mir.bnd (Mir.bnd (Mir.bnd (Mir.ret v_flow) fun x => Mir.lift ((dItems x).map enumL)) (compF (fun d => Mir.bnd (Mir.lift (dTup2 d)) fun xy => Mir.bnd ((fun d => Mir.ret d) xy.1) fun c => Mir.bnd ((fun d => Mir.bnd (Mir.lift (dTup2 d)) fun xy => Mir.bnd ((fun d => Mir.ret d) xy.1) fun c => Mir.bnd ((fun d => Mir.ret d) xy.2) fun e => Mir.ret (c, e)) xy.2) fun e => Mir.ret (c, e)) (fun c2 => (Mir.bnd (Mir.ret c2.2.1) fun x => Mir.bnd (Mir.ret c2.2.2) fun y => Mir.lift ((dLt x y).bind dBool))) (fun c2 => (Mir.ret c2.1)))) fun v_first => (Mir.bnd (Mir.bnd (Mir.bnd (Mir.ret v_flow) fun x => Mir.lift ((dItems x).map enumL)) (compF (fun d => Mir.bnd (Mir.lift (dTup2 d)) fun xy => Mir.bnd ((fun d => Mir.ret d) xy.1) fun c => Mir.bnd ((fun d => Mir.bnd (Mir.lift (dTup2 d)) fun xy => Mir.bnd ((fun d => Mir.ret d) xy.1) fun c => Mir.bnd ((fun d => Mir.ret d) xy.2) fun e => Mir.ret (c, e)) xy.2) fun e => Mir.ret (c, e)) (fun c1 => (Mir.bnd (Mir.ret c1.2.1) fun x => Mir.bnd (Mir.ret c1.2.2) fun y => Mir.lift ((dGe x y).bind dBool))) (fun c1 => (Mir.ret c1.1)))) fun v_last => (Mir.bnd (Mir.bnd (Mir.bnd (Mir.bnd (Mir.ret (.list v_first)) fun x => Mir.lift (dItems x)) fun ds => Mir.lift (dSortK (fun d_ => (((((some v_flow).bind fun x => (some d_).bind fun y => dIxN x y).bind fun x => (some (.int 0)).bind fun y => dIxN x y).bind fun x => ((some d_).bind fun x => (some []).bind fun xs => some (x :: xs)).bind fun xs => some (x :: xs)).bind fun xs => some (.tuple xs))) ds)) fun ds => Mir.ret (.list ds)) fun v_up => (Mir.bnd (Mir.bnd (Mir.bnd (Mir.bnd (Mir.ret (.list v_last)) fun x => Mir.lift (dItems x)) fun ds => Mir.lift (dSortK (fun d_ => ((((((some v_flow).bind fun x => (some d_).bind fun y => dIxN x y).bind fun x => (some (.int 1)).bind fun y => dIxN x y).bind dNeg).bind fun x => ((some d_).bind fun x => (some []).bind fun xs => some (x :: xs)).bind fun xs => some (x :: xs)).bind fun xs => some (.tuple xs))) ds)) fun ds => Mir.ret (.list ds)) fun v_down => (Mir.bnd (Mir.bnd (Mir.bnd (Mir.ret v_up) fun x => Mir.bnd (Mir.lift (dItems x)) fun ys => Mir.bnd (Mir.bnd (Mir.ret v_down) fun x => Mir.bnd (Mir.lift (dItems x)) fun ys => Mir.bnd (Mir.ret []) fun xs => Mir.ret (ys ++ xs)) fun xs => Mir.ret (ys ++ xs)) fun ds => Mir.bnd (Mir.lift (dSz ds)) fun ds => Mir.ret (.tuple ds)) fun d => Mir.ret (.rt d))))))
theorem sc_johnson : FnScope [("flow" : PySem.Str), ("first" : PySem.Str), ("last" : PySem.Str), ("up" : PySem.Str), ("down" : PySem.Str), ("j" : PySem.Str), ("a" : PySem.Str), ("b" : PySem.Str)] [("flow" : PySem.Str)] (defScope s_johnson) := ⟨rfl, rfl, rfl, by decide +kernel, rfl, by decide +kernel, by decide +kernel⟩
theorem w_johnson (Φ : Fx μ faL fnL tfL exL) (hqs : μ.qs = fun _ => qsT) (v_flow : D) : SS μ (Cw.of [("flow" : PySem.Str), ("first" : PySem.Str), ("last" : PySem.Str), ("up" : PySem.Str), ("down" : PySem.Str), ("j" : PySem.Str), ("a" : PySem.Str), ("b" : PySem.Str)] (defScope s_johnson) 0 true "johnson" (He.cT μ.K ("johnson", none)) NoW) (env0 [false] [v_flow] ++ List.replicate 7 none) oE (none : Option (Unit → PL.Env)) (defBody s_johnson) (b_johnson v_flow) := (Sac 1 [(("j" : PySem.Str), 5), (("a" : PySem.Str), 6), (("b" : PySem.Str), 7)] (by kernel_rfl) (by kernel_rfl) (EI.enumB (gl (by kernel_rfl)) (Φ.free 4 rfl) (EX.eb (Xv 0 rfl (by kernel_rfl)))) (EG.tup2 (Tn 5 (by kernel_rfl)) (fun _ => (EG.tup2 (Tn 6 (by kernel_rfl)) (fun _ => (Tn 7 (by kernel_rfl)))))) (by decide) (fun c2 => (ETs.one (ET.cmp c_lt (EX.eb (Xv 6 rfl (by kernel_rfl))) (EX.eb (Xv 7 rfl (by kernel_rfl))) (nobehind _ (by decide) (by decide))))) (fun c2 => (Xv 5 rfl (by kernel_rfl))) (fun v_first => (SS.frz (i := 1) rfl (Sac 2 [(("j" : PySem.Str), 5), (("a" : PySem.Str), 6), (("b" : PySem.Str), 7)] (by kernel_rfl) (by kernel_rfl) (EI.enumB (gl (by kernel_rfl)) (Φ.free 4 rfl) (EX.eb (Xv 0 rfl (by kernel_rfl)))) (EG.tup2 (Tn 5 (by kernel_rfl)) (fun _ => (EG.tup2 (Tn 6 (by kernel_rfl)) (fun _ => (Tn 7 (by kernel_rfl)))))) (by decide) (fun c1 => (ETs.one (ET.cmp c_ge (EX.eb (Xv 6 rfl (by kernel_rfl))) (EX.eb (Xv 7 rfl (by kernel_rfl))) (nobehind _ (by decide) (by decide))))) (fun c1 => (Xv 5 rfl (by kernel_rfl))) (fun v_last => (SS.frz (i := 2) rfl (Sa 3 (by kernel_rfl) (EL.frz (EL.sortK (x := "j") (caps := [(("flow" : PySem.Str), v_flow)]) (gl (by kernel_rfl)) (Φ.free 3 rfl) rfl (by rw [hqs]; kernel_rfl) (lam1_by (by kernel_rfl)) (ESrc.seq (EX.eb (Xv 1 rfl (by kernel_rfl)))) (capsS (by kernel_rfl) 0 (by kernel_rfl) rfl caps0) (fun d_ => (leo_tup (leos_cons (leo_ix (leo_ix (leo_name rfl) (leo_name rfl) (fun _ _ => rfl)) leo_int (fun _ _ => rfl)) (leos_cons (leo_name rfl) leos_nil)))) (fun _ => rfl) (fun _ _ _ _ _ _ => rfl))) (fun v_up => (Sa 4 (by kernel_rfl) (EL.frz (EL.sortK (x := "j") (caps := [(("flow" : PySem.Str), v_flow)]) (gl (by kernel_rfl)) (Φ.free 3 rfl) rfl (by rw [hqs]; kernel_rfl) (lam1_by (by kernel_rfl)) (ESrc.seq (EX.eb (Xv 2 rfl (by kernel_rfl)))) (capsS (by kernel_rfl) 0 (by kernel_rfl) rfl caps0) (fun d_ => (leo_tup (leos_cons (leo_neg (leo_ix (leo_ix (leo_name rfl) (leo_name rfl) (fun _ _ => rfl)) leo_int (fun _ _ => rfl))) (leos_cons (leo_name rfl) leos_nil)))) (fun _ => rfl) (fun _ _ _ _ _ _ => rfl))) (fun v_down => (SS.retE (EX.tupS (EA.star (EX.eb (Xv 3 rfl (by kernel_rfl))) (EA.star (EX.eb (Xv 4 rfl (by kernel_rfl))) EA.nil))))))))))))))
def mb_johnson : List D → Option (Fl Empty Unit) := fun ds => match ds with | [v_flow] => b_johnson v_flow | _ => Mir.lift none
def md_johnson : List D → Option (D) := fun ds => Mir.bnd (mb_johnson ds) fin
theorem fn_johnson (Φ : Fx μ faL fnL tfL exL) (hqs : μ.qs = fun _ => qsT) : PL.Fn μ NoW [false] 1 "johnson" md_johnson := by
  obtain ⟨fd, F⟩ := Φ.fn_ 4 (d := d_johnson) rfl
  exact Fn.mk (k := 0) (pd := ("johnson", none)) F sc_johnson rfl (Φ.glo 19 rfl) (fun _ _ _ _ _ _ us hl => match us, hl with | [_], _ => rfl) true (fun _ => Φ.tab 0 _ rfl) fun ds h => match ds, h with | [v_flow], _ => w_johnson Φ hqs v_flow
def b_flow_end (v_flow : D) (v_order : D) : Option (Fl Empty Unit) := (Mir.bnd (Mir.bnd (Mir.bnd (Mir.ret (.int 0)) fun x => Mir.bnd (Mir.ret []) fun xs => Mir.ret (x :: xs)) fun ds => Mir.bnd (Mir.bnd (Mir.bnd (Mir.ret v_flow) fun x => Mir.bnd (Mir.ret (.int 0)) fun y => Mir.lift (dIx x y)) fun d => Mir.lift (dLen d)) fun n => Mir.lift (dRep ds n)) fun v_free => (Mir.bnd (Mir.bnd (Mir.ret v_order) fun x => Mir.lift (dItems x)) fun ds => Mir.bnd (forF (fun (s1 : (List D)) d => Mir.bnd ((fun d => Mir.ret d) d) fun c2 => (Mir.bnd (Mir.ret (.int 0)) fun v_time => (Mir.bnd (Mir.bnd (Mir.bnd (Mir.ret v_flow) fun x => Mir.bnd (Mir.ret c2) fun y => Mir.lift (dIx x y)) fun x => Mir.lift ((dItems x).map enumL)) fun ds => Mir.bnd (forF (fun (s3 : (D × List D)) d => Mir.bnd ((fun d => Mir.bnd (Mir.lift (dTup2 d)) fun xy => Mir.bnd ((fun d => Mir.ret d) xy.1) fun c => Mir.bnd ((fun d => Mir.ret d) xy.2) fun e => Mir.ret (c, e)) d) fun c4 => (Mir.bnd (Mir.bnd (Mir.bnd (Mir.ret s3.1) fun x => Mir.bnd (Mir.bnd (Mir.ret (.list s3.2)) fun x => Mir.bnd (Mir.ret c4.1) fun y => Mir.lift (dIx x y)) fun y => Mir.lift (dMax2 x y)) fun x => Mir.bnd (Mir.ret c4.2) fun y => Mir.lift (dAdd x y)) fun v_time => (Mir.bnd (Mir.ret v_time) fun d => Mir.bnd (Mir.ret c4.1) fun j => Mir.bnd (Mir.lift (dSet s3.2 j d)) fun v_free => (Mir.ret (.nx (v_time, v_free)))))) ds (v_time, s1)) (jn fun (s5 : (D × List D)) => (Mir.ret (.nx (s5.2))))))) ds (v_free)) (jn fun (s6 : (List D)) => (Mir.bnd (Mir.bnd (Mir.ret (.list s6)) fun x => Mir.bnd (Mir.bnd (Mir.ret (.int 1)) fun x => Mir.lift (dNeg x)) fun y => Mir.lift (dIx x y)) fun d => Mir.ret (.rt d)))))
theorem sc_flow_end : FnScope [("flow" : PySem.Str), ("order" : PySem.Str), ("free" : PySem.Str), ("j" : PySem.Str), ("time" : PySem.Str), ("k" : PySem.Str), ("length" : PySem.Str)] [("flow" : PySem.Str), ("order" : PySem.Str)] (defScope s_flow_end) := ⟨rfl, rfl, rfl, by decide +kernel, rfl, by decide +kernel, by decide +kernel⟩
theorem w_flow_end (Φ : Fx μ faL fnL tfL exL) (hqs : μ.qs = fun _ => qsT) (v_flow : D) (v_order : D) : SS μ (Cw.of [("flow" : PySem.Str), ("order" : PySem.Str), ("free" : PySem.Str), ("j" : PySem.Str), ("time" : PySem.Str), ("k" : PySem.Str), ("length" : PySem.Str)] (defScope s_flow_end) 0 false "flow_end" (He.cT μ.K ("flow_end", none)) NoW) (env0 [false, false] [v_flow, v_order] ++ List.replicate 5 none) oE (none : Option (Unit → PL.Env)) (defBody s_flow_end) (b_flow_end v_flow v_order) := (Sal 2 (by kernel_rfl) (EL.rep (EL.lst (EAn.cons EX.int EAn.nil)) (EX.len (gl (by kernel_rfl)) (Φ.free 6 rfl) (EX.eb (EX.ix (EX.eb (Xv 0 rfl (by kernel_rfl))) EX.int (fun _ _ => rfl))))) (fun v_free => (SS.for_ (o := (fun (b_ : (List D)) => [some (.dat v_flow), some (.dat v_order), some (.own b_), none, none, none, none])) (b0 := (v_free)) (EI.seq (Xv 1 rfl (by kernel_rfl))) (Cov.s (Cov.s (Cov.s (Cov.n (Cov.n (Cov.n (Cov.n (Cov.z)))))))) (fun s1 => (Tn 3 (by kernel_rfl))) (fun s1 c2 => (Sa 4 (by kernel_rfl) EX.int (fun v_time => (SS.for_ (o := (fun (b_ : (D × List D)) => [some (.dat v_flow), some (.dat v_order), some (.own b_.2), some (.dat c2), some (.dat b_.1), none, none])) (b0 := (v_time, s1)) (EI.enum (gl (by kernel_rfl)) (Φ.free 4 rfl) (EX.ix (EX.eb (Xv 0 rfl (by kernel_rfl))) (Xv 3 rfl (by kernel_rfl)) (fun _ _ => rfl))) (Cov.s (Cov.s (Cov.s (Cov.s (Cov.s (Cov.n (Cov.n (Cov.z)))))))) (fun s3 => (EG.tup2 (Tn 5 (by kernel_rfl)) (fun _ => (Tn 6 (by kernel_rfl))))) (fun s3 c4 => (Sa 4 (by kernel_rfl) (EX.add (EX.eb (EX.max2 (gl (by kernel_rfl)) (Φ.free 5 rfl) (Xv 4 rfl (by kernel_rfl)) (EX.ix (Bo 2 rfl (by kernel_rfl)) (Xv 5 rfl (by kernel_rfl)) (fun _ _ => rfl)))) (EX.eb (Xv 6 rfl (by kernel_rfl)))) (fun v_time => (Sset 2 rfl (by kernel_rfl) (Xv 4 rfl (by kernel_rfl)) (Xv 5 rfl (by kernel_rfl)) (fun v_free => (SS.nil (b := (v_time, v_free)) (Cov.s (Cov.s (Cov.s (Cov.s (Cov.s (Cov.n (Cov.n (Cov.z)))))))))))))) (fun s5 => (SS.nil (b := (s5.2)) (Cov.s (Cov.s (Cov.s (Cov.n (Cov.n (Cov.n (Cov.n (Cov.z)))))))))))))) (fun s6 => (SS.retE (EX.ix (Bo 2 rfl (by kernel_rfl)) (EX.neg EX.int) (fun _ _ => rfl)))))))
def mb_flow_end : List D → Option (Fl Empty Unit) := fun ds => match ds with | [v_flow, v_order] => b_flow_end v_flow v_order | _ => Mir.lift none
def md_flow_end : List D → Option (D) := fun ds => Mir.bnd (mb_flow_end ds) fin
theorem fn_flow_end (Φ : Fx μ faL fnL tfL exL) (hqs : μ.qs = fun _ => qsT) : PL.Fn μ NoW [false, false] 1 "flow_end" md_flow_end := by
  obtain ⟨fd, F⟩ := Φ.fn_ 5 (d := d_flow_end) rfl
  exact Fn.mk (k := 0) (pd := ("flow_end", none)) F sc_flow_end rfl (Φ.glo 20 rfl) (fun _ _ _ _ _ _ us hl => match us, hl with | [_, _], _ => rfl) false (fun h => nomatch h) fun ds h => match ds, h with | [v_flow, v_order], _ => w_flow_end Φ hqs v_flow v_order
def b__law_turn (v_n : D) : WP (Fl Empty Unit) := (Mir.bnd (Mir.bnd (Mir.ret v_n) fun x => Mir.lift ((dInt x).bind fun j => dRg 0 j)) fun v_left => (Mir.bnd (Mir.ret []) fun v_found => (Mir.bnd (Mir.bnd (Mir.ret v_n) fun x => Mir.lift ((dInt x).bind fun j => dRange 0 j)) fun ds => Mir.bnd (forF (fun (s1 : (List D × List D)) d => Mir.bnd ((fun d => Mir.ret d) d) fun c2 => (Mir.bnd (Mir.bnd (Mir.bnd (Mir.bnd (Mir.bnd (Mir.ret (.list s1.2)) fun d => Mir.lift (dLen d)) fun x => Mir.bnd (Mir.ret []) fun xs => Mir.ret (x :: xs)) md__law_draw) fun j => Mir.lift (dPopAt s1.2 j)) fun c => Mir.bnd (Mir.lift (dApp s1.1 c.1)) fun es => (fun v_found v_left => (Mir.ret (.nx (v_found, v_left)))) es c.2)) ds (v_found, v_left)) (jn fun (s4 : (List D × List D)) => (Mir.bnd (Mir.bnd (Mir.ret (.list s4.1)) fun d => Mir.lift (dTup d)) fun d => Mir.ret (.rt d))))))
theorem sc__law_turn : FnScope [("pool" : PySem.Str), ("n" : PySem.Str), ("left" : PySem.Str), ("found" : PySem.Str), ("k" : PySem.Str)] [("pool" : PySem.Str), ("n" : PySem.Str)] (defScope s__law_turn) := ⟨rfl, rfl, rfl, by decide +kernel, rfl, by decide +kernel, by decide +kernel⟩
theorem w__law_turn (Φ : Fx μ faL fnL tfL exL) (hqs : μ.qs = fun _ => qsT) (v_n : D) : SS μ (Cw.of [("pool" : PySem.Str), ("n" : PySem.Str), ("left" : PySem.Str), ("found" : PySem.Str), ("k" : PySem.Str)] (defScope s__law_turn) 2 false "_law_turn" (He.cT μ.K ("_law_turn", none)) IsPool) (env0 [true, false] [v_n] ++ List.replicate 3 none) oE (none : Option (Unit → PL.Env)) (defBody s__law_turn) (b__law_turn v_n) := (Sal 2 (by kernel_rfl) (EL.listRg1 (gl (by kernel_rfl)) (Φ.free 7 rfl) (gl (by kernel_rfl)) (Φ.free 1 rfl) (Xv 1 rfl (by kernel_rfl))) (fun v_left => (Sal 3 (by kernel_rfl) (EL.lst EAn.nil) (fun v_found => (SS.for_ (o := (fun (b_ : (List D × List D)) => [some .wrd, some (.dat v_n), some (.own b_.2), some (.own b_.1), none])) (b0 := (v_found, v_left)) (EI.range1 (gl (by kernel_rfl)) (Φ.free 1 rfl) (Xv 1 rfl (by kernel_rfl))) (Cov.s (Cov.s (Cov.s (Cov.s (Cov.n (Cov.z)))))) (fun s1 => (Tn 4 (by kernel_rfl))) (fun s1 c2 => (SappM 3 2 (by decide) rfl (by kernel_rfl) (MpopAt 2 rfl (by kernel_rfl) (Xw (fn__law_draw Φ hqs) (fun _ h => h) (Nat.le_of_ble_eq_true rfl) (by kernel_rfl) (Pw 0 rfl (by kernel_rfl) (EP.dat (EX.len (gl (by kernel_rfl)) (Φ.free 6 rfl) (Bo 2 rfl (by kernel_rfl))) EP.nil)))) (fun v_found v_left => (SS.nil (b := (v_found, v_left)) (Cov.s (Cov.s (Cov.s (Cov.s (Cov.n (Cov.z)))))))))) (fun s4 => (SS.retE (EX.tupOf (gl (by kernel_rfl)) (Φ.free 2 rfl) (Bo 3 rfl (by kernel_rfl))))))))))
def mb__law_turn : List D → WP (Fl Empty Unit) := fun ds => match ds with | [v_n] => b__law_turn v_n | _ => Mir.lift none
def md__law_turn : List D → WP (D) := fun ds => Mir.bnd (mb__law_turn ds) fin
theorem fn__law_turn (Φ : Fx μ faL fnL tfL exL) (hqs : μ.qs = fun _ => qsT) : PL.Fn μ IsPool [true, false] 3 "_law_turn" md__law_turn := by
  obtain ⟨fd, F⟩ := Φ.fn_ 6 (d := d__law_turn) rfl
  exact Fn.mk (k := 2) (pd := ("_law_turn", none)) F sc__law_turn rfl (Φ.glo 21 rfl) (fun _ _ _ _ _ _ us hl => match us, hl with | [_, _], _ => rfl) false (fun h => nomatch h) fun ds h => match ds, h with | [v_n], _ => w__law_turn Φ hqs v_n
def b_is_worded (v_value : D) (v_word : D) (v_length : D) : Option (Fl Empty Unit) := (Mir.bnd (Mir.bnd (Mir.bnd (Mir.bnd (Mir.bnd (Mir.ret v_value) fun x => Mir.lift ((dIs "tuple" x).map .bool)) fun x => Mir.lift (dTrue x)) fun t => Mir.ret (!t)) fun t => if t then Mir.ret true else (Mir.bnd (Mir.bnd (Mir.ret v_value) fun d => Mir.lift (dLen d)) fun x => Mir.bnd (Mir.ret v_length) fun y => Mir.lift ((dNe x y).bind dBool))) fun t => if t then (Mir.bnd (Mir.ret (.bool false)) fun d => Mir.ret (.rt d)) else (Mir.bnd (Mir.bnd (Mir.bnd (Mir.bnd (Mir.ret v_value) fun x => Mir.bnd (Mir.ret (.int 0)) fun y => Mir.lift (dIx x y)) fun x => Mir.lift ((dIs "str" x).map .bool)) fun x => Mir.bnd (Mir.lift (dBool x)) fun t => if t then (Mir.bnd (Mir.bnd (Mir.ret v_value) fun x => Mir.bnd (Mir.ret (.int 0)) fun y => Mir.lift (dIx x y)) fun x => Mir.bnd (Mir.ret v_word) fun y => Mir.lift (dEq x y)) else Mir.ret (.bool false)) fun d => Mir.ret (.rt d)))
theorem sc_is_worded : FnScope [("value" : PySem.Str), ("word" : PySem.Str), ("length" : PySem.Str)] [("value" : PySem.Str), ("word" : PySem.Str), ("length" : PySem.Str)] (defScope s_is_worded) := ⟨rfl, rfl, rfl, by decide +kernel, rfl, by decide +kernel, by decide +kernel⟩
theorem w_is_worded (Φ : Fx μ faL fnL tfL exL) (hqs : μ.qs = fun _ => qsT) (v_value : D) (v_word : D) (v_length : D) : SS μ (Cw.of [("value" : PySem.Str), ("word" : PySem.Str), ("length" : PySem.Str)] (defScope s_is_worded) 0 false "is_worded" (He.cT μ.K ("is_worded", none)) NoW) (env0 [false, false, false] [v_value, v_word, v_length] ++ List.replicate 0 none) oE (none : Option (Unit → PL.Env)) (defBody s_is_worded) (b_is_worded v_value v_word v_length) := (SS.ifR (EW.et (EW.or (ET.not (EX.tB (EX.isinst (T := "tuple") (gl (by kernel_rfl)) (Φ.free 8 rfl) (EX.eb (Xv 0 rfl (by kernel_rfl))) (gl (by kernel_rfl)) (Φ.free 2 rfl) (by decide +kernel)) (fun _ _ => rfl))) (EW.or1 (ET.cmp c_ne (EX.eb (EX.len (gl (by kernel_rfl)) (Φ.free 6 rfl) (EX.eb (Xv 0 rfl (by kernel_rfl))))) (EX.eb (Xv 2 rfl (by kernel_rfl))) (nobehind _ (by decide) (by decide)))))) (SS.retE EX.bl) (SS.retE (EX.and (EX.isinst (T := "str") (gl (by kernel_rfl)) (Φ.free 8 rfl) (EX.eb (EX.ix (EX.eb (Xv 0 rfl (by kernel_rfl))) EX.int (fun _ _ => rfl))) (gl (by kernel_rfl)) (Φ.free 9 rfl) (by decide +kernel)) (EX.one (EX.cp c_eq (EX.eb (EX.ix (EX.eb (Xv 0 rfl (by kernel_rfl))) EX.int (fun _ _ => rfl))) (EX.eb (Xv 1 rfl (by kernel_rfl))) (nobehind _ (by decide) (by decide)))))))
def mb_is_worded : List D → Option (Fl Empty Unit) := fun ds => match ds with | [v_value, v_word, v_length] => b_is_worded v_value v_word v_length | _ => Mir.lift none
def md_is_worded : List D → Option (D) := fun ds => Mir.bnd (mb_is_worded ds) fin
theorem fn_is_worded (Φ : Fx μ faL fnL tfL exL) (hqs : μ.qs = fun _ => qsT) : PL.Fn μ NoW [false, false, false] 1 "is_worded" md_is_worded := by
  obtain ⟨fd, F⟩ := Φ.fn_ 7 (d := d_is_worded) rfl
  exact Fn.mk (k := 0) (pd := ("is_worded", none)) F sc_is_worded rfl (Φ.glo 22 rfl) (fun _ _ _ _ _ _ us hl => match us, hl with | [_, _, _], _ => rfl) false (fun h => nomatch h) fun ds h => match ds, h with | [v_value, v_word, v_length], _ => w_is_worded Φ hqs v_value v_word v_length
def b_is_integer (v_value : D) : Option (Fl Empty Unit) := (Mir.bnd (Mir.bnd (Mir.bnd (Mir.ret v_value) fun x => Mir.lift ((dIs "int" x).map .bool)) fun x => Mir.bnd (Mir.lift (dBool x)) fun t => if t then (Mir.bnd (Mir.bnd (Mir.ret v_value) fun x => Mir.lift ((dIs "bool" x).map .bool)) fun x => Mir.lift (dNot x)) else Mir.ret (.bool false)) fun d => Mir.ret (.rt d))
theorem sc_is_integer : FnScope [("value" : PySem.Str)] [("value" : PySem.Str)] (defScope s_is_integer) := ⟨rfl, rfl, rfl, by decide +kernel, rfl, by decide +kernel, by decide +kernel⟩
theorem w_is_integer (Φ : Fx μ faL fnL tfL exL) (hqs : μ.qs = fun _ => qsT) (v_value : D) : SS μ (Cw.of [("value" : PySem.Str)] (defScope s_is_integer) 0 false "is_integer" (He.cT μ.K ("is_integer", none)) NoW) (env0 [false] [v_value] ++ List.replicate 0 none) oE (none : Option (Unit → PL.Env)) (defBody s_is_integer) (b_is_integer v_value) := (SS.retE (EX.and (EX.isinst (T := "int") (gl (by kernel_rfl)) (Φ.free 8 rfl) (EX.eb (Xv 0 rfl (by kernel_rfl))) (gl (by kernel_rfl)) (Φ.free 0 rfl) (by decide +kernel)) (EX.one (EX.not (EX.isinst (T := "bool") (gl (by kernel_rfl)) (Φ.free 8 rfl) (EX.eb (Xv 0 rfl (by kernel_rfl))) (gl (by kernel_rfl)) (Φ.free 10 rfl) (by decide +kernel))))))
def mb_is_integer : List D → Option (Fl Empty Unit) := fun ds => match ds with | [v_value] => b_is_integer v_value | _ => Mir.lift none
def md_is_integer : List D → Option (D) := fun ds => Mir.bnd (mb_is_integer ds) fin
theorem fn_is_integer (Φ : Fx μ faL fnL tfL exL) (hqs : μ.qs = fun _ => qsT) : PL.Fn μ NoW [false] 1 "is_integer" md_is_integer := by
  obtain ⟨fd, F⟩ := Φ.fn_ 8 (d := d_is_integer) rfl
  exact Fn.mk (k := 0) (pd := ("is_integer", none)) F sc_is_integer rfl (Φ.glo 23 rfl) (fun _ _ _ _ _ _ us hl => match us, hl with | [_], _ => rfl) false (fun h => nomatch h) fun ds h => match ds, h with | [v_value], _ => w_is_integer Φ hqs v_value
def b_is_row (v_value : D) (v_length : D) : Option (Fl Empty Unit) := (Mir.bnd (Mir.bnd (Mir.bnd (Mir.ret v_value) fun x => Mir.lift ((dIs "tuple" x).map .bool)) fun x => Mir.bnd (Mir.lift (dBool x)) fun t => if t then (Mir.bnd (Mir.bnd (Mir.bnd (Mir.ret v_value) fun d => Mir.lift (dLen d)) fun x => Mir.bnd (Mir.ret v_length) fun y => Mir.lift (dEq x y)) fun x => Mir.bnd (Mir.lift (dBool x)) fun t => if t then (Mir.bnd (Mir.bnd (Mir.ret v_value) fun x => Mir.lift (dItems x)) (allF (fun d => Mir.ret d) (fun c1 => (Mir.ret true)) (fun c1 => (Mir.bnd (Mir.bnd (Mir.ret c1) fun x => Mir.bnd (Mir.ret []) fun xs => Mir.ret (x :: xs)) fun ds => Mir.lift (md_is_integer ds))))) else Mir.ret (.bool false)) else Mir.ret (.bool false)) fun d => Mir.ret (.rt d))
theorem sc_is_row : FnScope [("value" : PySem.Str), ("length" : PySem.Str), ("one" : PySem.Str)] [("value" : PySem.Str), ("length" : PySem.Str)] (defScope s_is_row) := ⟨rfl, rfl, rfl, by decide +kernel, rfl, by decide +kernel, by decide +kernel⟩
theorem w_is_row (Φ : Fx μ faL fnL tfL exL) (hqs : μ.qs = fun _ => qsT) (v_value : D) (v_length : D) : SS μ (Cw.of [("value" : PySem.Str), ("length" : PySem.Str), ("one" : PySem.Str)] (defScope s_is_row) 2 true "is_row" (He.cT μ.K ("is_row", none)) NoW) (env0 [false, false] [v_value, v_length] ++ List.replicate 1 none) oE (none : Option (Unit → PL.Env)) (defBody s_is_row) (b_is_row v_value v_length) := (SS.retE (EX.and (EX.isinst (T := "tuple") (gl (by kernel_rfl)) (Φ.free 8 rfl) (EX.eb (Xv 0 rfl (by kernel_rfl))) (gl (by kernel_rfl)) (Φ.free 2 rfl) (by decide +kernel)) (EX.and (EX.cp c_eq (EX.eb (EX.len (gl (by kernel_rfl)) (Φ.free 6 rfl) (EX.eb (Xv 0 rfl (by kernel_rfl))))) (EX.eb (Xv 1 rfl (by kernel_rfl))) (nobehind _ (by decide) (by decide))) (EX.one (EX.all (gl (by kernel_rfl)) (Φ.free 11 rfl) (GenP.mk (k := 1) (own := [(("one" : PySem.Str), 2)]) rfl rfl (by rw [hqs]; kernel_rfl) (blkOk_by (by kernel_rfl)) rfl (lkB_ok (by kernel_rfl)) (EI.seqB (EX.eb (Xv 0 rfl (by kernel_rfl)))) (Tn 2 (by kernel_rfl)) (by decide) (fun c1 => ETs.nil) (fun c1 => (Xc (fn_is_integer Φ hqs) rfl (Nat.le_of_ble_eq_true rfl) (by kernel_rfl) (EP.dat (Xv 2 rfl (by kernel_rfl)) EP.nil))) (fun _ _ => rfl)))))))
def mb_is_row : List D → Option (Fl Empty Unit) := fun ds => match ds with | [v_value, v_length] => b_is_row v_value v_length | _ => Mir.lift none
def md_is_row : List D → Option (D) := fun ds => Mir.bnd (mb_is_row ds) fin
theorem fn_is_row (Φ : Fx μ faL fnL tfL exL) (hqs : μ.qs = fun _ => qsT) : PL.Fn μ NoW [false, false] 3 "is_row" md_is_row := by
  obtain ⟨fd, F⟩ := Φ.fn_ 9 (d := d_is_row) rfl
  exact Fn.mk (k := 2) (pd := ("is_row", none)) F sc_is_row rfl (Φ.glo 24 rfl) (fun _ _ _ _ _ _ us hl => match us, hl with | [_, _], _ => rfl) true (fun _ => Φ.tab 1 _ rfl) fun ds h => match ds, h with | [v_value, v_length], _ => w_is_row Φ hqs v_value v_length
def b_is_order (v_n : D) (v_value : D) : Option (Fl Empty Unit) := (Mir.bnd (Mir.bnd (Mir.bnd (Mir.bnd (Mir.ret v_value) fun x => Mir.bnd (Mir.bnd (Mir.ret v_n) fun x => Mir.bnd (Mir.ret []) fun xs => Mir.ret (x :: xs)) fun xs => Mir.ret (x :: xs)) fun ds => Mir.lift (md_is_row ds)) fun x => Mir.bnd (Mir.lift (dBool x)) fun t => if t then (Mir.bnd (Mir.bnd (Mir.bnd (Mir.bnd (Mir.ret v_value) fun x => Mir.lift (dItems x)) fun ds => Mir.lift (dSort ds)) fun ds => Mir.ret (.list ds)) fun x => Mir.bnd (Mir.bnd (Mir.bnd (Mir.ret v_n) fun x => Mir.lift ((dInt x).bind fun j => dRg 0 j)) fun ds => Mir.ret (.list ds)) fun y => Mir.lift (dEq x y)) else Mir.ret (.bool false)) fun d => Mir.ret (.rt d))
theorem sc_is_order : FnScope [("n" : PySem.Str), ("value" : PySem.Str)] [("n" : PySem.Str), ("value" : PySem.Str)] (defScope s_is_order) := ⟨rfl, rfl, rfl, by decide +kernel, rfl, by decide +kernel, by decide +kernel⟩
theorem w_is_order (Φ : Fx μ faL fnL tfL exL) (hqs : μ.qs = fun _ => qsT) (v_n : D) (v_value : D) : SS μ (Cw.of [("n" : PySem.Str), ("value" : PySem.Str)] (defScope s_is_order) 3 false "is_order" (He.cT μ.K ("is_order", none)) NoW) (env0 [false, false] [v_n, v_value] ++ List.replicate 0 none) oE (none : Option (Unit → PL.Env)) (defBody s_is_order) (b_is_order v_n v_value) := (SS.retE (EX.and (Xc (fn_is_row Φ hqs) rfl (Nat.le_of_ble_eq_true rfl) (by kernel_rfl) (EP.dat (Xv 1 rfl (by kernel_rfl)) (EP.dat (Xv 0 rfl (by kernel_rfl)) EP.nil))) (EX.one (EX.cp c_eq (EL.eb (EL.sorted (gl (by kernel_rfl)) (Φ.free 3 rfl) (ESrc.seq (EX.eb (Xv 1 rfl (by kernel_rfl)))))) (EL.eb (EL.listRg1 (gl (by kernel_rfl)) (Φ.free 7 rfl) (gl (by kernel_rfl)) (Φ.free 1 rfl) (Xv 0 rfl (by kernel_rfl)))) (nobehind _ (by decide) (by decide))))))
def mb_is_order : List D → Option (Fl Empty Unit) := fun ds => match ds with | [v_n, v_value] => b_is_order v_n v_value | _ => Mir.lift none
def md_is_order : List D → Option (D) := fun ds => Mir.bnd (mb_is_order ds) fin
theorem fn_is_order (Φ : Fx μ faL fnL tfL exL) (hqs : μ.qs = fun _ => qsT) : PL.Fn μ NoW [false, false] 4 "is_order" md_is_order := by
  obtain ⟨fd, F⟩ := Φ.fn_ 10 (d := d_is_order) rfl
  exact Fn.mk (k := 3) (pd := ("is_order", none)) F sc_is_order rfl (Φ.glo 25 rfl) (fun _ _ _ _ _ _ us hl => match us, hl with | [_, _], _ => rfl) false (fun h => nomatch h) fun ds h => match ds, h with | [v_n, v_value], _ => w_is_order Φ hqs v_n v_value
def b_power (v_many : D) : Option (Fl Empty Unit) := (Mir.bnd (Mir.ret (.int 1)) fun v_found => (Mir.bnd (Mir.bnd (Mir.ret v_many) fun x => Mir.lift ((dInt x).bind fun j => dRange 0 j)) fun ds => Mir.bnd (forF (fun (s1 : (D)) d => Mir.bnd ((fun d => Mir.ret d) d) fun c2 => (Mir.bnd (Mir.ret (.int 2)) fun y => Mir.bnd (Mir.lift (dMul s1 y)) fun v_found => (Mir.ret (.nx (v_found))))) ds (v_found)) (jn fun (s3 : (D)) => (Mir.bnd (Mir.ret s3) fun d => Mir.ret (.rt d)))))
theorem sc_power : FnScope [("many" : PySem.Str), ("found" : PySem.Str), ("k" : PySem.Str)] [("many" : PySem.Str)] (defScope s_power) := ⟨rfl, rfl, rfl, by decide +kernel, rfl, by decide +kernel, by decide +kernel⟩
theorem w_power (Φ : Fx μ faL fnL tfL exL) (hqs : μ.qs = fun _ => qsT) (v_many : D) : SS μ (Cw.of [("many" : PySem.Str), ("found" : PySem.Str), ("k" : PySem.Str)] (defScope s_power) 0 false "power" (He.cT μ.K ("power", none)) NoW) (env0 [false] [v_many] ++ List.replicate 2 none) oE (none : Option (Unit → PL.Env)) (defBody s_power) (b_power v_many) := (Sa 1 (by kernel_rfl) EX.int (fun v_found => (SS.for_ (o := (fun (b_ : (D)) => [some (.dat v_many), some (.dat b_), none])) (b0 := (v_found)) (EI.range1 (gl (by kernel_rfl)) (Φ.free 1 rfl) (Xv 0 rfl (by kernel_rfl))) (Cov.s (Cov.s (Cov.n (Cov.z)))) (fun s1 => (Tn 2 (by kernel_rfl))) (fun s1 c2 => (Saug 1 ip_mulD rfl (by kernel_rfl) EX.int (fun v_found => (SS.nil (b := (v_found)) (Cov.s (Cov.s (Cov.n (Cov.z)))))))) (fun s3 => (SS.retE (Xv 1 rfl (by kernel_rfl)))))))
def mb_power : List D → Option (Fl Empty Unit) := fun ds => match ds with | [v_many] => b_power v_many | _ => Mir.lift none
def md_power : List D → Option (D) := fun ds => Mir.bnd (mb_power ds) fin
theorem fn_power (Φ : Fx μ faL fnL tfL exL) (hqs : μ.qs = fun _ => qsT) : PL.Fn μ NoW [false] 1 "power" md_power := by
  obtain ⟨fd, F⟩ := Φ.fn_ 11 (d := d_power) rfl
  exact Fn.mk (k := 0) (pd := ("power", none)) F sc_power rfl (Φ.glo 26 rfl) (fun _ _ _ _ _ _ us hl => match us, hl with | [_], _ => rfl) false (fun h => nomatch h) fun ds h => match ds, h with | [v_many], _ => w_power Φ hqs v_many
def b_is_set_table (v_value : D) (v_many : D) : Option (Fl Empty Unit) := (Mir.bnd (Mir.bnd (Mir.bnd (Mir.ret v_value) fun x => Mir.lift ((dIs "tuple" x).map .bool)) fun x => Mir.bnd (Mir.lift (dBool x)) fun t => if t then (Mir.bnd (Mir.bnd (Mir.ret v_value) fun d => Mir.lift (dLen d)) fun x => Mir.bnd (Mir.bnd (Mir.bnd (Mir.ret v_many) fun x => Mir.bnd (Mir.ret []) fun xs => Mir.ret (x :: xs)) fun ds => Mir.lift (md_power ds)) fun y => Mir.lift (dEq x y)) else Mir.ret (.bool false)) fun d => Mir.ret (.rt d))
theorem sc_is_set_table : FnScope [("value" : PySem.Str), ("many" : PySem.Str)] [("value" : PySem.Str), ("many" : PySem.Str)] (defScope s_is_set_table) := ⟨rfl, rfl, rfl, by decide +kernel, rfl, by decide +kernel, by decide +kernel⟩
theorem w_is_set_table (Φ : Fx μ faL fnL tfL exL) (hqs : μ.qs = fun _ => qsT) (v_value : D) (v_many : D) : SS μ (Cw.of [("value" : PySem.Str), ("many" : PySem.Str)] (defScope s_is_set_table) 1 false "is_set_table" (He.cT μ.K ("is_set_table", none)) NoW) (env0 [false, false] [v_value, v_many] ++ List.replicate 0 none) oE (none : Option (Unit → PL.Env)) (defBody s_is_set_table) (b_is_set_table v_value v_many) := (SS.retE (EX.and (EX.isinst (T := "tuple") (gl (by kernel_rfl)) (Φ.free 8 rfl) (EX.eb (Xv 0 rfl (by kernel_rfl))) (gl (by kernel_rfl)) (Φ.free 2 rfl) (by decide +kernel)) (EX.one (EX.cp c_eq (EX.eb (EX.len (gl (by kernel_rfl)) (Φ.free 6 rfl) (EX.eb (Xv 0 rfl (by kernel_rfl))))) (EX.eb (Xc (fn_power Φ hqs) rfl (Nat.le_of_ble_eq_true rfl) (by kernel_rfl) (EP.dat (Xv 1 rfl (by kernel_rfl)) EP.nil))) (nobehind _ (by decide) (by decide))))))
def mb_is_set_table : List D → Option (Fl Empty Unit) := fun ds => match ds with | [v_value, v_many] => b_is_set_table v_value v_many | _ => Mir.lift none
def md_is_set_table : List D → Option (D) := fun ds => Mir.bnd (mb_is_set_table ds) fin
theorem fn_is_set_table (Φ : Fx μ faL fnL tfL exL) (hqs : μ.qs = fun _ => qsT) : PL.Fn μ NoW [false, false] 2 "is_set_table" md_is_set_table := by
  obtain ⟨fd, F⟩ := Φ.fn_ 12 (d := d_is_set_table) rfl
  exact Fn.mk (k := 1) (pd := ("is_set_table", none)) F sc_is_set_table rfl (Φ.glo 27 rfl) (fun _ _ _ _ _ _ us hl => match us, hl with | [_, _], _ => rfl) false (fun h => nomatch h) fun ds h => match ds, h with | [v_value, v_many], _ => w_is_set_table Φ hqs v_value v_many
def b_members_of (v_place : D) (v_many : D) : Option (Fl Empty Unit) := (Mir.bnd (Mir.bnd (Mir.bnd (Mir.ret v_many) fun x => Mir.lift ((dInt x).bind fun j => dRange 0 j)) (compF (fun d => Mir.ret d) (fun c1 => (Mir.bnd (Mir.bnd (Mir.bnd (Mir.ret v_place) fun x => Mir.bnd (Mir.bnd (Mir.bnd (Mir.ret c1) fun x => Mir.bnd (Mir.ret []) fun xs => Mir.ret (x :: xs)) fun ds => Mir.lift (md_power ds)) fun y => Mir.lift (dDiv x y)) fun x => Mir.bnd (Mir.ret (.int 2)) fun y => Mir.lift (dMod x y)) fun x => Mir.bnd (Mir.ret (.int 1)) fun y => Mir.lift ((dEq x y).bind dBool))) (fun c1 => (Mir.ret c1)))) fun ds => Mir.ret (.rl ds))
theorem sc_members_of : FnScope [("place" : PySem.Str), ("many" : PySem.Str), ("k" : PySem.Str)] [("place" : PySem.Str), ("many" : PySem.Str)] (defScope s_members_of) := ⟨rfl, rfl, rfl, by decide +kernel, rfl, by decide +kernel, by decide +kernel⟩
theorem w_members_of (Φ : Fx μ faL fnL tfL exL) (hqs : μ.qs = fun _ => qsT) (v_place : D) (v_many : D) : SS μ (Cw.of [("place" : PySem.Str), ("many" : PySem.Str), ("k" : PySem.Str)] (defScope s_members_of) 1 false "members_of" (He.cT μ.K ("members_of", none)) NoW) (env0 [false, false] [v_place, v_many] ++ List.replicate 1 none) oE (none : Option (Unit → PL.Env)) (defBody s_members_of) (b_members_of v_place v_many) := (SS.retL (Lcomp [(("k" : PySem.Str), 2)] (by kernel_rfl) (EI.up (EI.range1 (gl (by kernel_rfl)) (Φ.free 1 rfl) (Xv 1 rfl (by kernel_rfl)))) (Tn 2 (by kernel_rfl)) (by decide) (fun c1 => (ETs.one (ET.cmp c_eq (EX.eb (EX.mod (EX.eb (EX.div (EX.eb (Xv 0 rfl (by kernel_rfl))) (EX.eb (Xc (fn_power Φ hqs) rfl (Nat.le_of_ble_eq_true rfl) (by kernel_rfl) (EP.dat (Xv 2 rfl (by kernel_rfl)) EP.nil))))) (EX.eb EX.int))) (EX.eb EX.int) (nobehind _ (by decide) (by decide))))) (fun c1 => (Xv 2 rfl (by kernel_rfl)))))
def mb_members_of : List D → Option (Fl Empty Unit) := fun ds => match ds with | [v_place, v_many] => b_members_of v_place v_many | _ => Mir.lift none
def md_members_of : List D → Option (List D) := fun ds => Mir.bnd (mb_members_of ds) finL
theorem fn_members_of (Φ : Fx μ faL fnL tfL exL) (hqs : μ.qs = fun _ => qsT) : PL.FnL μ NoW [false, false] 2 "members_of" md_members_of := by
  obtain ⟨fd, F⟩ := Φ.fn_ 13 (d := d_members_of) rfl
  exact FnL.mk (k := 1) (pd := ("members_of", none)) F sc_members_of rfl (Φ.glo 28 rfl) (fun _ _ _ _ _ _ us hl => match us, hl with | [_, _], _ => rfl) false (fun h => nomatch h) fun ds h => match ds, h with | [v_place, v_many], _ => w_members_of Φ hqs v_place v_many
def b_sum_at (v_row : D) (v_place : D) : Option (Fl Empty Unit) := (Mir.bnd (Mir.bnd (Mir.bnd (Mir.bnd (Mir.bnd (Mir.bnd (Mir.bnd (Mir.bnd (Mir.ret v_place) fun x => Mir.bnd (Mir.bnd (Mir.bnd (Mir.ret v_row) fun d => Mir.lift (dLen d)) fun x => Mir.bnd (Mir.ret []) fun xs => Mir.ret (x :: xs)) fun xs => Mir.ret (x :: xs)) fun ds => Mir.lift (md_members_of ds)) fun ds => Mir.ret (.list ds)) fun x => Mir.lift (dItems x)) (compF (fun d => Mir.ret d) (fun c1 => (Mir.ret true)) (fun c1 => (Mir.bnd (Mir.ret v_row) fun x => Mir.bnd (Mir.ret c1) fun y => Mir.lift (dIx x y))))) fun ds => Mir.ret (.list ds)) fun d => Mir.lift (dSum d)) fun d => Mir.ret (.rt d))
theorem sc_sum_at : FnScope [("row" : PySem.Str), ("place" : PySem.Str), ("k" : PySem.Str)] [("row" : PySem.Str), ("place" : PySem.Str)] (defScope s_sum_at) := ⟨rfl, rfl, rfl, by decide +kernel, rfl, by decide +kernel, by decide +kernel⟩
theorem w_sum_at (Φ : Fx μ faL fnL tfL exL) (hqs : μ.qs = fun _ => qsT) (v_row : D) (v_place : D) : SS μ (Cw.of [("row" : PySem.Str), ("place" : PySem.Str), ("k" : PySem.Str)] (defScope s_sum_at) 2 false "sum_at" (He.cT μ.K ("sum_at", none)) NoW) (env0 [false, false] [v_row, v_place] ++ List.replicate 1 none) oE (none : Option (Unit → PL.Env)) (defBody s_sum_at) (b_sum_at v_row v_place) := (SS.retE (EX.sum (gl (by kernel_rfl)) (Φ.free 12 rfl) (EL.eb (Lcomp [(("k" : PySem.Str), 2)] (by kernel_rfl) (EI.seqB (EL.eb (Lc (fn_members_of Φ hqs) rfl (Nat.le_of_ble_eq_true rfl) (by kernel_rfl) (EP.dat (Xv 1 rfl (by kernel_rfl)) (EP.dat (EX.len (gl (by kernel_rfl)) (Φ.free 6 rfl) (EX.eb (Xv 0 rfl (by kernel_rfl)))) EP.nil))))) (Tn 2 (by kernel_rfl)) (by decide) (fun c1 => ETs.nil) (fun c1 => (EX.ix (EX.eb (Xv 0 rfl (by kernel_rfl))) (Xv 2 rfl (by kernel_rfl)) (fun _ _ => rfl)))))))
def mb_sum_at : List D → Option (Fl Empty Unit) := fun ds => match ds with | [v_row, v_place] => b_sum_at v_row v_place | _ => Mir.lift none
def md_sum_at : List D → Option (D) := fun ds => Mir.bnd (mb_sum_at ds) fin
theorem fn_sum_at (Φ : Fx μ faL fnL tfL exL) (hqs : μ.qs = fun _ => qsT) : PL.Fn μ NoW [false, false] 3 "sum_at" md_sum_at := by
  obtain ⟨fd, F⟩ := Φ.fn_ 14 (d := d_sum_at) rfl
  exact Fn.mk (k := 2) (pd := ("sum_at", none)) F sc_sum_at rfl (Φ.glo 29 rfl) (fun _ _ _ _ _ _ us hl => match us, hl with | [_, _], _ => rfl) false (fun h => nomatch h) fun ds h => match ds, h with | [v_row, v_place], _ => w_sum_at Φ hqs v_row v_place
def b_choices_at (v_flow : D) (v_table : D) (v_place : D) : Option (Fl Empty Unit) := (Mir.bnd (Mir.bnd (Mir.bnd (Mir.bnd (Mir.bnd (Mir.bnd (Mir.ret v_flow) fun x => Mir.lift (dItems x)) (compF (fun d => Mir.ret d) (fun c1 => (Mir.ret true)) (fun c1 => (Mir.bnd (Mir.ret c1) fun x => Mir.bnd (Mir.ret (.int 0)) fun y => Mir.lift (dIx x y))))) fun ds => Mir.ret (.list ds)) fun x => Mir.bnd (Mir.bnd (Mir.ret v_place) fun x => Mir.bnd (Mir.ret []) fun xs => Mir.ret (x :: xs)) fun xs => Mir.ret (x :: xs)) fun ds => Mir.lift (md_sum_at ds)) fun v_time => (Mir.bnd (Mir.bnd (Mir.bnd (Mir.bnd (Mir.bnd (Mir.bnd (Mir.ret v_place) fun x => Mir.bnd (Mir.bnd (Mir.bnd (Mir.ret v_flow) fun d => Mir.lift (dLen d)) fun x => Mir.bnd (Mir.ret []) fun xs => Mir.ret (x :: xs)) fun xs => Mir.ret (x :: xs)) fun ds => Mir.lift (md_members_of ds)) fun ds => Mir.ret (.list ds)) fun x => Mir.lift (dItems x)) (compF (fun d => Mir.ret d) (fun c2 => (Mir.ret true)) (fun c2 => (Mir.bnd (Mir.bnd (Mir.ret v_time) fun x => Mir.bnd (Mir.bnd (Mir.ret v_table) fun x => Mir.bnd (Mir.bnd (Mir.ret v_place) fun x => Mir.bnd (Mir.bnd (Mir.bnd (Mir.ret c2) fun x => Mir.bnd (Mir.ret []) fun xs => Mir.ret (x :: xs)) fun ds => Mir.lift (md_power ds)) fun y => Mir.lift (dSub x y)) fun y => Mir.lift (dIx x y)) fun y => Mir.lift (dMax2 x y)) fun x => Mir.bnd (Mir.bnd (Mir.bnd (Mir.ret v_flow) fun x => Mir.bnd (Mir.ret c2) fun y => Mir.lift (dIx x y)) fun x => Mir.bnd (Mir.ret (.int 1)) fun y => Mir.lift (dIx x y)) fun y => Mir.lift (dAdd x y))))) fun ds => Mir.ret (.rl ds)))
theorem sc_choices_at : FnScope [("flow" : PySem.Str), ("table" : PySem.Str), ("place" : PySem.Str), ("time" : PySem.Str), ("j" : PySem.Str), ("row" : PySem.Str)] [("flow" : PySem.Str), ("table" : PySem.Str), ("place" : PySem.Str)] (defScope s_choices_at) := ⟨rfl, rfl, rfl, by decide +kernel, rfl, by decide +kernel, by decide +kernel⟩
theorem w_choices_at (Φ : Fx μ faL fnL tfL exL) (hqs : μ.qs = fun _ => qsT) (v_flow : D) (v_table : D) (v_place : D) : SS μ (Cw.of [("flow" : PySem.Str), ("table" : PySem.Str), ("place" : PySem.Str), ("time" : PySem.Str), ("j" : PySem.Str), ("row" : PySem.Str)] (defScope s_choices_at) 3 false "choices_at" (He.cT μ.K ("choices_at", none)) NoW) (env0 [false, false, false] [v_flow, v_table, v_place] ++ List.replicate 3 none) oE (none : Option (Unit → PL.Env)) (defBody s_choices_at) (b_choices_at v_flow v_table v_place) := (Sa 3 (by kernel_rfl) (Xc (fn_sum_at Φ hqs) rfl (Nat.le_of_ble_eq_true rfl) (by kernel_rfl) (EP.dat (EL.frz (Lcomp [(("row" : PySem.Str), 5)] (by kernel_rfl) (EI.seqB (EX.eb (Xv 0 rfl (by kernel_rfl)))) (Tn 5 (by kernel_rfl)) (by decide) (fun c1 => ETs.nil) (fun c1 => (EX.ix (EX.eb (Xv 5 rfl (by kernel_rfl))) EX.int (fun _ _ => rfl))))) (EP.dat (Xv 2 rfl (by kernel_rfl)) EP.nil))) (fun v_time => (SS.retL (Lcomp [(("j" : PySem.Str), 4)] (by kernel_rfl) (EI.seqB (EL.eb (Lc (fn_members_of Φ hqs) rfl (Nat.le_of_ble_eq_true rfl) (by kernel_rfl) (EP.dat (Xv 2 rfl (by kernel_rfl)) (EP.dat (EX.len (gl (by kernel_rfl)) (Φ.free 6 rfl) (EX.eb (Xv 0 rfl (by kernel_rfl)))) EP.nil))))) (Tn 4 (by kernel_rfl)) (by decide) (fun c2 => ETs.nil) (fun c2 => (EX.add (EX.eb (EX.max2 (gl (by kernel_rfl)) (Φ.free 5 rfl) (Xv 3 rfl (by kernel_rfl)) (EX.ix (EX.eb (Xv 1 rfl (by kernel_rfl))) (EX.sub (EX.eb (Xv 2 rfl (by kernel_rfl))) (EX.eb (Xc (fn_power Φ hqs) rfl (Nat.le_of_ble_eq_true rfl) (by kernel_rfl) (EP.dat (Xv 4 rfl (by kernel_rfl)) EP.nil)))) (fun _ _ => rfl)))) (EX.eb (EX.ix (EX.eb (EX.ix (EX.eb (Xv 0 rfl (by kernel_rfl))) (Xv 4 rfl (by kernel_rfl)) (fun _ _ => rfl))) EX.int (fun _ _ => rfl)))))))))
def mb_choices_at : List D → Option (Fl Empty Unit) := fun ds => match ds with | [v_flow, v_table, v_place] => b_choices_at v_flow v_table v_place | _ => Mir.lift none
def md_choices_at : List D → Option (List D) := fun ds => Mir.bnd (mb_choices_at ds) finL
theorem fn_choices_at (Φ : Fx μ faL fnL tfL exL) (hqs : μ.qs = fun _ => qsT) : PL.FnL μ NoW [false, false, false] 4 "choices_at" md_choices_at := by
  obtain ⟨fd, F⟩ := Φ.fn_ 15 (d := d_choices_at) rfl
  exact FnL.mk (k := 3) (pd := ("choices_at", none)) F sc_choices_at rfl (Φ.glo 30 rfl) (fun _ _ _ _ _ _ us hl => match us, hl with | [_, _, _], _ => rfl) false (fun h => nomatch h) fun ds h => match ds, h with | [v_flow, v_table, v_place], _ => w_choices_at Φ hqs v_flow v_table v_place
def b_check_flow (v_flow : D) (v_bound : D) (v_value : D) : Option (Fl Empty Unit) := (Mir.bnd (Mir.bnd (Mir.bnd (Mir.bnd (Mir.ret v_value) fun x => Mir.bnd (Mir.bnd (Mir.ret (.str (PySem.Str.ofString "order"))) fun x => Mir.bnd (Mir.bnd (Mir.ret (.int 2)) fun x => Mir.bnd (Mir.ret []) fun xs => Mir.ret (x :: xs)) fun xs => Mir.ret (x :: xs)) fun xs => Mir.ret (x :: xs)) fun ds => Mir.lift (md_is_worded ds)) fun x => Mir.lift (dTrue x)) fun t => if t then (Mir.bnd (Mir.bnd (Mir.bnd (Mir.bnd (Mir.bnd (Mir.ret v_flow) fun d => Mir.lift (dLen d)) fun x => Mir.bnd (Mir.bnd (Mir.bnd (Mir.ret v_value) fun x => Mir.bnd (Mir.ret (.int 1)) fun y => Mir.lift (dIx x y)) fun x => Mir.bnd (Mir.ret []) fun xs => Mir.ret (x :: xs)) fun xs => Mir.ret (x :: xs)) fun ds => Mir.lift (md_is_order ds)) fun x => Mir.bnd (Mir.lift (dBool x)) fun t => if t then (Mir.bnd (Mir.bnd (Mir.bnd (Mir.ret v_flow) fun x => Mir.bnd (Mir.bnd (Mir.bnd (Mir.ret v_value) fun x => Mir.bnd (Mir.ret (.int 1)) fun y => Mir.lift (dIx x y)) fun x => Mir.bnd (Mir.ret []) fun xs => Mir.ret (x :: xs)) fun xs => Mir.ret (x :: xs)) fun ds => Mir.lift (md_flow_end ds)) fun x => Mir.bnd (Mir.ret v_bound) fun y => Mir.lift (dLe x y)) else Mir.ret (.bool false)) fun d => Mir.ret (.rt d)) else (Mir.bnd (Mir.bnd (Mir.bnd (Mir.bnd (Mir.bnd (Mir.bnd (Mir.ret v_value) fun x => Mir.bnd (Mir.bnd (Mir.ret (.str (PySem.Str.ofString "none"))) fun x => Mir.bnd (Mir.bnd (Mir.ret (.int 2)) fun x => Mir.bnd (Mir.ret []) fun xs => Mir.ret (x :: xs)) fun xs => Mir.ret (x :: xs)) fun xs => Mir.ret (x :: xs)) fun ds => Mir.lift (md_is_worded ds)) fun x => Mir.lift (dTrue x)) fun t => Mir.ret (!t)) fun t => if t then Mir.ret true else (Mir.bnd (Mir.bnd (Mir.bnd (Mir.bnd (Mir.bnd (Mir.ret v_value) fun x => Mir.bnd (Mir.ret (.int 1)) fun y => Mir.lift (dIx x y)) fun x => Mir.bnd (Mir.bnd (Mir.bnd (Mir.ret v_flow) fun d => Mir.lift (dLen d)) fun x => Mir.bnd (Mir.ret []) fun xs => Mir.ret (x :: xs)) fun xs => Mir.ret (x :: xs)) fun ds => Mir.lift (md_is_set_table ds)) fun x => Mir.lift (dTrue x)) fun t => Mir.ret (!t))) fun t => if t then (Mir.bnd (Mir.ret (.bool false)) fun d => Mir.ret (.rt d)) else (Mir.bnd (Mir.bnd (Mir.ret v_value) fun x => Mir.bnd (Mir.ret (.int 1)) fun y => Mir.lift (dIx x y)) fun v_table => (Mir.bnd (Mir.bnd (Mir.bnd (Mir.bnd (Mir.bnd (Mir.bnd (Mir.ret v_table) fun x => Mir.lift (dItems x)) (allF (fun d => Mir.ret d) (fun c1 => (Mir.ret true)) (fun c1 => (Mir.bnd (Mir.bnd (Mir.ret c1) fun x => Mir.bnd (Mir.ret []) fun xs => Mir.ret (x :: xs)) fun ds => Mir.lift (md_is_integer ds))))) fun x => Mir.lift (dTrue x)) fun t => Mir.ret (!t)) fun t => if t then Mir.ret true else (Mir.bnd (Mir.bnd (Mir.bnd (Mir.ret v_table) fun x => Mir.bnd (Mir.ret (.int 0)) fun y => Mir.lift (dIx x y)) fun x => Mir.bnd (Mir.ret (.int 0)) fun y => Mir.lift ((dNe x y).bind dBool)) fun t => if t then Mir.ret true else (Mir.bnd (Mir.bnd (Mir.ret v_table) fun x => Mir.bnd (Mir.bnd (Mir.ret (.int 1)) fun x => Mir.lift (dNeg x)) fun y => Mir.lift (dIx x y)) fun x => Mir.bnd (Mir.ret v_bound) fun y => Mir.lift ((dLe x y).bind dBool)))) fun t => if t then (Mir.bnd (Mir.ret (.bool false)) fun d => Mir.ret (.rt d)) else (Mir.bnd (Mir.bnd (Mir.bnd (Mir.bnd (Mir.ret (.int 1)) fun x => Mir.bnd (Mir.bnd (Mir.ret v_table) fun d => Mir.lift (dLen d)) fun y => Mir.lift ((dInt x).bind fun i => (dInt y).bind fun j => dRange i j)) (anyF true (fun d => Mir.ret d) (fun c2 => (Mir.ret true)) (fun c2 => (Mir.bnd (Mir.bnd (Mir.ret v_table) fun x => Mir.bnd (Mir.ret c2) fun y => Mir.lift (dIx x y)) fun x => Mir.bnd (Mir.bnd (Mir.bnd (Mir.bnd (Mir.bnd (Mir.ret v_flow) fun x => Mir.bnd (Mir.bnd (Mir.ret v_table) fun x => Mir.bnd (Mir.bnd (Mir.ret c2) fun x => Mir.bnd (Mir.ret []) fun xs => Mir.ret (x :: xs)) fun xs => Mir.ret (x :: xs)) fun xs => Mir.ret (x :: xs)) fun ds => Mir.lift (md_choices_at ds)) fun ds => Mir.ret (.list ds)) fun d => Mir.lift (dMin d)) fun y => Mir.lift (dGt x y))))) fun x => Mir.lift (dNot x)) fun d => Mir.ret (.rt d))))))
theorem sc_check_flow : FnScope [("flow" : PySem.Str), ("bound" : PySem.Str), ("value" : PySem.Str), ("table" : PySem.Str), ("place" : PySem.Str), ("one" : PySem.Str)] [("flow" : PySem.Str), ("bound" : PySem.Str), ("value" : PySem.Str)] (defScope s_check_flow) := ⟨rfl, rfl, rfl, by decide +kernel, rfl, by decide +kernel, by decide +kernel⟩
theorem w_check_flow (Φ : Fx μ faL fnL tfL exL) (hqs : μ.qs = fun _ => qsT) (v_flow : D) (v_bound : D) (v_value : D) : SS μ (Cw.of [("flow" : PySem.Str), ("bound" : PySem.Str), ("value" : PySem.Str), ("table" : PySem.Str), ("place" : PySem.Str), ("one" : PySem.Str)] (defScope s_check_flow) 5 true "check_flow" (He.cT μ.K ("check_flow", none)) NoW) (env0 [false, false, false] [v_flow, v_bound, v_value] ++ List.replicate 3 none) oE (none : Option (Unit → PL.Env)) (defBody s_check_flow) (b_check_flow v_flow v_bound v_value) := (SS.ifR (EX.tB (Xc (fn_is_worded Φ hqs) rfl (Nat.le_of_ble_eq_true rfl) (by kernel_rfl) (EP.dat (Xv 2 rfl (by kernel_rfl)) (EP.dat EX.str (EP.dat EX.int EP.nil)))) (fun _ _ => rfl)) (SS.retE (EX.and (Xc (fn_is_order Φ hqs) rfl (Nat.le_of_ble_eq_true rfl) (by kernel_rfl) (EP.dat (EX.len (gl (by kernel_rfl)) (Φ.free 6 rfl) (EX.eb (Xv 0 rfl (by kernel_rfl)))) (EP.dat (EX.ix (EX.eb (Xv 2 rfl (by kernel_rfl))) EX.int (fun _ _ => rfl)) EP.nil))) (EX.one (EX.cp c_le (EX.eb (Xc (fn_flow_end Φ hqs) rfl (Nat.le_of_ble_eq_true rfl) (by kernel_rfl) (EP.dat (Xv 0 rfl (by kernel_rfl)) (EP.dat (EX.ix (EX.eb (Xv 2 rfl (by kernel_rfl))) EX.int (fun _ _ => rfl)) EP.nil)))) (EX.eb (Xv 1 rfl (by kernel_rfl))) (nobehind _ (by decide) (by decide)))))) (SS.ifR (EW.et (EW.or (ET.not (EX.tB (Xc (fn_is_worded Φ hqs) rfl (Nat.le_of_ble_eq_true rfl) (by kernel_rfl) (EP.dat (Xv 2 rfl (by kernel_rfl)) (EP.dat EX.str (EP.dat EX.int EP.nil)))) (fun _ _ => rfl))) (EW.or1 (ET.not (EX.tB (Xc (fn_is_set_table Φ hqs) rfl (Nat.le_of_ble_eq_true rfl) (by kernel_rfl) (EP.dat (EX.ix (EX.eb (Xv 2 rfl (by kernel_rfl))) EX.int (fun _ _ => rfl)) (EP.dat (EX.len (gl (by kernel_rfl)) (Φ.free 6 rfl) (EX.eb (Xv 0 rfl (by kernel_rfl)))) EP.nil))) (fun _ _ => rfl)))))) (SS.retE EX.bl) (Sa 3 (by kernel_rfl) (EX.ix (EX.eb (Xv 2 rfl (by kernel_rfl))) EX.int (fun _ _ => rfl)) (fun v_table => (SS.ifR (EW.et (EW.or (ET.not (EX.tB (EX.all (gl (by kernel_rfl)) (Φ.free 11 rfl) (GenP.mk (k := 4) (own := [(("one" : PySem.Str), 5)]) rfl rfl (by rw [hqs]; kernel_rfl) (blkOk_by (by kernel_rfl)) rfl (lkB_ok (by kernel_rfl)) (EI.seqB (EX.eb (Xv 3 rfl (by kernel_rfl)))) (Tn 5 (by kernel_rfl)) (by decide) (fun c1 => ETs.nil) (fun c1 => (Xc (fn_is_integer Φ hqs) rfl (Nat.le_of_ble_eq_true rfl) (by kernel_rfl) (EP.dat (Xv 5 rfl (by kernel_rfl)) EP.nil))) (fun _ _ => rfl))) (fun _ _ => rfl))) (EW.or (ET.cmp c_ne (EX.eb (EX.ix (EX.eb (Xv 3 rfl (by kernel_rfl))) EX.int (fun _ _ => rfl))) (EX.eb EX.int) (nobehind _ (by decide) (by decide))) (EW.or1 (ET.cmp c_le (EX.eb (EX.ix (EX.eb (Xv 3 rfl (by kernel_rfl))) (EX.neg EX.int) (fun _ _ => rfl))) (EX.eb (Xv 1 rfl (by kernel_rfl))) (nobehind _ (by decide) (by decide))))))) (SS.retE EX.bl) (SS.retE (EX.not (EX.any (gl (by kernel_rfl)) (Φ.free 14 rfl) (GenP.mk (k := 4) (own := [(("place" : PySem.Str), 4)]) rfl rfl (by rw [hqs]; kernel_rfl) (blkOk_by (by kernel_rfl)) rfl (lkB_ok (by kernel_rfl)) (EI.up (EI.range2 (gl (by kernel_rfl)) (Φ.free 1 rfl) EX.int (EX.len (gl (by kernel_rfl)) (Φ.free 6 rfl) (EX.eb (Xv 3 rfl (by kernel_rfl)))))) (Tn 4 (by kernel_rfl)) (by decide) (fun c2 => ETs.nil) (fun c2 => (EX.cp c_gt (EX.eb (EX.ix (EX.eb (Xv 3 rfl (by kernel_rfl))) (Xv 4 rfl (by kernel_rfl)) (fun _ _ => rfl))) (EX.eb (EX.min (gl (by kernel_rfl)) (Φ.free 13 rfl) (EL.eb (Lc (fn_choices_at Φ hqs) rfl (Nat.le_of_ble_eq_true rfl) (by kernel_rfl) (EP.dat (Xv 0 rfl (by kernel_rfl)) (EP.dat (Xv 3 rfl (by kernel_rfl)) (EP.dat (Xv 4 rfl (by kernel_rfl)) EP.nil))))))) (nobehind _ (by decide) (by decide)))) (fun _ _ => rfl))))))))))
def mb_check_flow : List D → Option (Fl Empty Unit) := fun ds => match ds with | [v_flow, v_bound, v_value] => b_check_flow v_flow v_bound v_value | _ => Mir.lift none
def md_check_flow : List D → Option (D) := fun ds => Mir.bnd (mb_check_flow ds) fin
theorem fn_check_flow (Φ : Fx μ faL fnL tfL exL) (hqs : μ.qs = fun _ => qsT) : PL.Fn μ NoW [false, false, false] 6 "check_flow" md_check_flow := by
  obtain ⟨fd, F⟩ := Φ.fn_ 16 (d := d_check_flow) rfl
  exact Fn.mk (k := 5) (pd := ("check_flow", none)) F sc_check_flow rfl (Φ.glo 31 rfl) (fun _ _ _ _ _ _ us hl => match us, hl with | [_, _, _], _ => rfl) true (fun _ => Φ.tab 2 _ rfl) fun ds h => match ds, h with | [v_flow, v_bound, v_value], _ => w_check_flow Φ hqs v_flow v_bound v_value
def b__law_longest (v_rows : D) : Option (Fl Empty Unit) := (Mir.bnd (Mir.ret []) fun v_best => (Mir.bnd (Mir.bnd (Mir.bnd (Mir.ret v_rows) fun d => Mir.lift (dLen d)) fun x => Mir.lift ((dInt x).bind fun j => dRange 0 j)) fun ds => Mir.bnd (forF (fun (s1 : (List D)) d => Mir.bnd ((fun d => Mir.ret d) d) fun c2 => (Mir.bnd (Mir.ret []) fun v_line => (Mir.bnd (Mir.bnd (Mir.bnd (Mir.bnd (Mir.ret v_rows) fun x => Mir.bnd (Mir.ret (.int 0)) fun y => Mir.lift (dIx x y)) fun d => Mir.lift (dLen d)) fun x => Mir.lift ((dInt x).bind fun j => dRange 0 j)) fun ds => Mir.bnd (forF (fun (s3 : (List D)) d => Mir.bnd ((fun d => Mir.ret d) d) fun c4 => (Mir.bnd (Mir.bnd (Mir.bnd (Mir.bnd (Mir.bnd (Mir.bnd (Mir.ret c2) fun x => Mir.bnd (Mir.ret (.int 0)) fun y => Mir.lift ((dGt x y).bind dBool)) fun t => if t then (Mir.bnd (Mir.bnd (Mir.ret (.list s1)) fun x => Mir.bnd (Mir.bnd (Mir.ret c2) fun x => Mir.bnd (Mir.ret (.int 1)) fun y => Mir.lift (dSub x y)) fun y => Mir.lift (dIx x y)) fun x => Mir.bnd (Mir.ret c4) fun y => Mir.lift (dIx x y)) else (Mir.ret (.int 0))) fun x => Mir.bnd (Mir.bnd (Mir.bnd (Mir.bnd (Mir.ret c4) fun x => Mir.bnd (Mir.ret (.int 0)) fun y => Mir.lift ((dGt x y).bind dBool)) fun t => if t then (Mir.bnd (Mir.ret (.list s3)) fun x => Mir.bnd (Mir.bnd (Mir.ret c4) fun x => Mir.bnd (Mir.ret (.int 1)) fun y => Mir.lift (dSub x y)) fun y => Mir.lift (dIx x y)) else (Mir.ret (.int 0))) fun x => Mir.bnd (Mir.ret []) fun xs => Mir.ret (x :: xs)) fun xs => Mir.ret (x :: xs)) fun ds => Mir.ret (.list ds)) fun d => Mir.lift (dMax d)) fun v_before => (Mir.bnd (Mir.bnd (Mir.ret v_before) fun x => Mir.bnd (Mir.bnd (Mir.bnd (Mir.ret v_rows) fun x => Mir.bnd (Mir.ret c2) fun y => Mir.lift (dIx x y)) fun x => Mir.bnd (Mir.ret c4) fun y => Mir.lift (dIx x y)) fun y => Mir.lift (dAdd x y)) fun d => Mir.bnd (Mir.lift (dApp s3 d)) fun v_line => (Mir.ret (.nx (v_line)))))) ds (v_line)) (jn fun (s5 : (List D)) => (Mir.bnd (Mir.ret (.list s5)) fun d => Mir.bnd (Mir.lift (dApp s1 d)) fun v_best => (Mir.ret (.nx (v_best)))))))) ds (v_best)) (jn fun (s6 : (List D)) => (Mir.bnd (Mir.bnd (Mir.bnd (Mir.ret (.list s6)) fun x => Mir.bnd (Mir.bnd (Mir.bnd (Mir.ret v_rows) fun d => Mir.lift (dLen d)) fun x => Mir.bnd (Mir.ret (.int 1)) fun y => Mir.lift (dSub x y)) fun y => Mir.lift (dIx x y)) fun x => Mir.bnd (Mir.bnd (Mir.bnd (Mir.bnd (Mir.ret v_rows) fun x => Mir.bnd (Mir.ret (.int 0)) fun y => Mir.lift (dIx x y)) fun d => Mir.lift (dLen d)) fun x => Mir.bnd (Mir.ret (.int 1)) fun y => Mir.lift (dSub x y)) fun y => Mir.lift (dIx x y)) fun d => Mir.ret (.rt d)))))
theorem sc__law_longest : FnScope [("rows" : PySem.Str), ("best" : PySem.Str), ("i" : PySem.Str), ("line" : PySem.Str), ("j" : PySem.Str), ("before" : PySem.Str)] [("rows" : PySem.Str)] (defScope s__law_longest) := ⟨rfl, rfl, rfl, by decide +kernel, rfl, by decide +kernel, by decide +kernel⟩
theorem w__law_longest (Φ : Fx μ faL fnL tfL exL) (hqs : μ.qs = fun _ => qsT) (v_rows : D) : SS μ (Cw.of [("rows" : PySem.Str), ("best" : PySem.Str), ("i" : PySem.Str), ("line" : PySem.Str), ("j" : PySem.Str), ("before" : PySem.Str)] (defScope s__law_longest) 0 false "_law_longest" (He.cT μ.K ("_law_longest", none)) NoW) (env0 [false] [v_rows] ++ List.replicate 5 none) oE (none : Option (Unit → PL.Env)) (defBody s__law_longest) (b__law_longest v_rows) := (Sal 1 (by kernel_rfl) (EL.lst EAn.nil) (fun v_best => (SS.for_ (o := (fun (b_ : (List D)) => [some (.dat v_rows), some (.own b_), none, none, none, none])) (b0 := (v_best)) (EI.range1 (gl (by kernel_rfl)) (Φ.free 1 rfl) (EX.len (gl (by kernel_rfl)) (Φ.free 6 rfl) (EX.eb (Xv 0 rfl (by kernel_rfl))))) (Cov.s (Cov.s (Cov.n (Cov.n (Cov.n (Cov.n (Cov.z))))))) (fun s1 => (Tn 2 (by kernel_rfl))) (fun s1 c2 => (Sal 3 (by kernel_rfl) (EL.lst EAn.nil) (fun v_line => (SS.for_ (o := (fun (b_ : (List D)) => [some (.dat v_rows), some (.own s1), some (.dat c2), some (.own b_), none, none])) (b0 := (v_line)) (EI.range1 (gl (by kernel_rfl)) (Φ.free 1 rfl) (EX.len (gl (by kernel_rfl)) (Φ.free 6 rfl) (EX.eb (EX.ix (EX.eb (Xv 0 rfl (by kernel_rfl))) EX.int (fun _ _ => rfl))))) (Cov.s (Cov.s (Cov.s (Cov.s (Cov.n (Cov.n (Cov.z))))))) (fun s3 => (Tn 4 (by kernel_rfl))) (fun s3 c4 => (Sa 5 (by kernel_rfl) (EX.max (gl (by kernel_rfl)) (Φ.free 5 rfl) (EL.eb (EL.lst (EAn.cons (EX.ifE (ET.cmp c_gt (EX.eb (Xv 2 rfl (by kernel_rfl))) (EX.eb EX.int) (nobehind _ (by decide) (by decide))) (EX.ix (EX.eb (EX.ix (Bo 1 rfl (by kernel_rfl)) (EX.sub (EX.eb (Xv 2 rfl (by kernel_rfl))) (EX.eb EX.int)) (fun _ _ => rfl))) (Xv 4 rfl (by kernel_rfl)) (fun _ _ => rfl)) EX.int) (EAn.cons (EX.ifE (ET.cmp c_gt (EX.eb (Xv 4 rfl (by kernel_rfl))) (EX.eb EX.int) (nobehind _ (by decide) (by decide))) (EX.ix (Bo 3 rfl (by kernel_rfl)) (EX.sub (EX.eb (Xv 4 rfl (by kernel_rfl))) (EX.eb EX.int)) (fun _ _ => rfl)) EX.int) EAn.nil))))) (fun v_before => (Sapp 3 rfl (by kernel_rfl) (EX.add (EX.eb (Xv 5 rfl (by kernel_rfl))) (EX.eb (EX.ix (EX.eb (EX.ix (EX.eb (Xv 0 rfl (by kernel_rfl))) (Xv 2 rfl (by kernel_rfl)) (fun _ _ => rfl))) (Xv 4 rfl (by kernel_rfl)) (fun _ _ => rfl)))) (fun v_line => (SS.nil (b := (v_line)) (Cov.s (Cov.s (Cov.s (Cov.s (Cov.n (Cov.n (Cov.z))))))))))))) (fun s5 => (SS.frz (i := 3) rfl (Sapp 1 rfl (by kernel_rfl) (Xv 3 rfl (by kernel_rfl)) (fun v_best => (SS.nil (b := (v_best)) (Cov.s (Cov.s (Cov.n (Cov.n (Cov.n (Cov.n (Cov.z)))))))))))))))) (fun s6 => (SS.retE (EX.ix (EX.eb (EX.ix (Bo 1 rfl (by kernel_rfl)) (EX.sub (EX.eb (EX.len (gl (by kernel_rfl)) (Φ.free 6 rfl) (EX.eb (Xv 0 rfl (by kernel_rfl))))) (EX.eb EX.int)) (fun _ _ => rfl))) (EX.sub (EX.eb (EX.len (gl (by kernel_rfl)) (Φ.free 6 rfl) (EX.eb (EX.ix (EX.eb (Xv 0 rfl (by kernel_rfl))) EX.int (fun _ _ => rfl))))) (EX.eb EX.int)) (fun _ _ => rfl)))))))
def mb__law_longest : List D → Option (Fl Empty Unit) := fun ds => match ds with | [v_rows] => b__law_longest v_rows | _ => Mir.lift none
def md__law_longest : List D → Option (D) := fun ds => Mir.bnd (mb__law_longest ds) fin
theorem fn__law_longest (Φ : Fx μ faL fnL tfL exL) (hqs : μ.qs = fun _ => qsT) : PL.Fn μ NoW [false] 1 "_law_longest" md__law_longest := by
  obtain ⟨fd, F⟩ := Φ.fn_ 17 (d := d__law_longest) rfl
  exact Fn.mk (k := 0) (pd := ("_law_longest", none)) F sc__law_longest rfl (Φ.glo 32 rfl) (fun _ _ _ _ _ _ us hl => match us, hl with | [_], _ => rfl) false (fun h => nomatch h) fun ds h => match ds, h with | [v_rows], _ => w__law_longest Φ hqs v_rows
def b_best_flow (v_flow : D) : Option (Fl Empty Unit) := (Mir.bnd (Mir.ret .none) fun v_best => (Mir.bnd (Mir.bnd (Mir.bnd (Mir.ret v_flow) fun d => Mir.lift (dLen d)) fun x => Mir.lift (dPerms x)) fun ds => Mir.bnd (forF (fun (s1 : (D)) d => Mir.bnd ((fun d => Mir.ret d) d) fun c2 => (Mir.bnd (Mir.bnd (Mir.bnd (Mir.ret s1) fun x => Mir.ret (match x with | .none => true | _ => false)) fun t => if t then Mir.ret true else (Mir.bnd (Mir.bnd (Mir.bnd (Mir.ret v_flow) fun x => Mir.bnd (Mir.bnd (Mir.ret c2) fun x => Mir.bnd (Mir.ret []) fun xs => Mir.ret (x :: xs)) fun xs => Mir.ret (x :: xs)) fun ds => Mir.lift (md_flow_end ds)) fun x => Mir.bnd (Mir.bnd (Mir.bnd (Mir.ret v_flow) fun x => Mir.bnd (Mir.bnd (Mir.ret s1) fun x => Mir.bnd (Mir.ret []) fun xs => Mir.ret (x :: xs)) fun xs => Mir.ret (x :: xs)) fun ds => Mir.lift (md_flow_end ds)) fun y => Mir.lift ((dLt x y).bind dBool))) fun t => if t then (Mir.bnd (Mir.ret c2) fun v_best => (Mir.ret (.nx (v_best)))) else (Mir.ret (.nx (s1))))) ds (v_best)) (jn fun (s3 : (D)) => (Mir.bnd (Mir.bnd (Mir.ret s3) fun d => Mir.lift (dTup d)) fun d => Mir.ret (.rt d)))))
theorem sc_best_flow : FnScope [("flow" : PySem.Str), ("best" : PySem.Str), ("order" : PySem.Str)] [("flow" : PySem.Str)] (defScope s_best_flow) := ⟨rfl, rfl, rfl, by decide +kernel, rfl, by decide +kernel, by decide +kernel⟩
theorem w_best_flow (Φ : Fx μ faL fnL tfL exL) (hqs : μ.qs = fun _ => qsT) (v_flow : D) : SS μ (Cw.of [("flow" : PySem.Str), ("best" : PySem.Str), ("order" : PySem.Str)] (defScope s_best_flow) 1 false "best_flow" (He.cT μ.K ("best_flow", none)) NoW) (env0 [false] [v_flow] ++ List.replicate 2 none) oE (none : Option (Unit → PL.Env)) (defBody s_best_flow) (b_best_flow v_flow) := (Sa 1 (by kernel_rfl) EX.non (fun v_best => (SS.for_ (o := (fun (b_ : (D)) => [some (.dat v_flow), some (.dat b_), none])) (b0 := (v_best)) (EI.perms (by kernel_rfl) (Φ.imp 0 rfl) (by kernel_rfl) (Φ.free 1 rfl) (EX.len (gl (by kernel_rfl)) (Φ.free 6 rfl) (EX.eb (Xv 0 rfl (by kernel_rfl))))) (Cov.s (Cov.s (Cov.n (Cov.z)))) (fun s1 => (Tn 2 (by kernel_rfl))) (fun s1 c2 => (SS.if2 (EW.et (EW.or (ET.isN (Xv 1 rfl (by kernel_rfl))) (EW.or1 (ET.cmp c_lt (EX.eb (Xc (fn_flow_end Φ hqs) rfl (Nat.le_of_ble_eq_true rfl) (by kernel_rfl) (EP.dat (Xv 0 rfl (by kernel_rfl)) (EP.dat (Xv 2 rfl (by kernel_rfl)) EP.nil)))) (EX.eb (Xc (fn_flow_end Φ hqs) rfl (Nat.le_of_ble_eq_true rfl) (by kernel_rfl) (EP.dat (Xv 0 rfl (by kernel_rfl)) (EP.dat (Xv 1 rfl (by kernel_rfl)) EP.nil)))) (nobehind _ (by decide) (by decide)))))) (Sa 1 (by kernel_rfl) (Xv 2 rfl (by kernel_rfl)) (fun v_best => (SS.nil (b := (v_best)) (Cov.s (Cov.s (Cov.n (Cov.z))))))) (SS.nil (b := (s1)) (Cov.s (Cov.s (Cov.n (Cov.z))))))) (fun s3 => (SS.retE (EX.tupOf (gl (by kernel_rfl)) (Φ.free 2 rfl) (EX.eb (Xv 1 rfl (by kernel_rfl)))))))))
def mb_best_flow : List D → Option (Fl Empty Unit) := fun ds => match ds with | [v_flow] => b_best_flow v_flow | _ => Mir.lift none
def md_best_flow : List D → Option (D) := fun ds => Mir.bnd (mb_best_flow ds) fin
theorem fn_best_flow (Φ : Fx μ faL fnL tfL exL) (hqs : μ.qs = fun _ => qsT) : PL.Fn μ NoW [false] 2 "best_flow" md_best_flow := by
  obtain ⟨fd, F⟩ := Φ.fn_ 18 (d := d_best_flow) rfl
  exact Fn.mk (k := 1) (pd := ("best_flow", none)) F sc_best_flow rfl (Φ.glo 33 rfl) (fun _ _ _ _ _ _ us hl => match us, hl with | [_], _ => rfl) false (fun h => nomatch h) fun ds h => match ds, h with | [v_flow], _ => w_best_flow Φ hqs v_flow
def b_flow_table (v_flow : D) : Option (Fl Empty Unit) := (Mir.bnd (Mir.bnd (Mir.ret (.int 0)) fun x => Mir.bnd (Mir.ret []) fun xs => Mir.ret (x :: xs)) fun v_table => (Mir.bnd (Mir.bnd (Mir.ret (.int 1)) fun x => Mir.bnd (Mir.bnd (Mir.bnd (Mir.bnd (Mir.ret v_flow) fun d => Mir.lift (dLen d)) fun x => Mir.bnd (Mir.ret []) fun xs => Mir.ret (x :: xs)) fun ds => Mir.lift (md_power ds)) fun y => Mir.lift ((dInt x).bind fun i => (dInt y).bind fun j => dRange i j)) fun ds => Mir.bnd (forF (fun (s1 : (List D)) d => Mir.bnd ((fun d => Mir.ret d) d) fun c2 => (Mir.bnd (Mir.bnd (Mir.bnd (Mir.bnd (Mir.bnd (Mir.bnd (Mir.ret v_flow) fun x => Mir.bnd (Mir.bnd (Mir.ret (.list s1)) fun x => Mir.bnd (Mir.bnd (Mir.ret c2) fun x => Mir.bnd (Mir.ret []) fun xs => Mir.ret (x :: xs)) fun xs => Mir.ret (x :: xs)) fun xs => Mir.ret (x :: xs)) fun ds => Mir.lift (md_choices_at ds)) fun ds => Mir.ret (.list ds)) fun d => Mir.lift (dMin d)) fun d => Mir.lift (noL d)) fun d => Mir.bnd (Mir.lift (dApp s1 d)) fun v_table => (Mir.ret (.nx (v_table))))) ds (v_table)) (jn fun (s3 : (List D)) => (Mir.bnd (Mir.bnd (Mir.ret (.list s3)) fun d => Mir.lift (dTup d)) fun d => Mir.ret (.rt d)))))
theorem sc_flow_table : FnScope [("flow" : PySem.Str), ("table" : PySem.Str), ("place" : PySem.Str)] [("flow" : PySem.Str)] (defScope s_flow_table) := ⟨rfl, rfl, rfl, by decide +kernel, rfl, by decide +kernel, by decide +kernel⟩
theorem w_flow_table (Φ : Fx μ faL fnL tfL exL) (hqs : μ.qs = fun _ => qsT) (v_flow : D) : SS μ (Cw.of [("flow" : PySem.Str), ("table" : PySem.Str), ("place" : PySem.Str)] (defScope s_flow_table) 4 false "flow_table" (He.cT μ.K ("flow_table", none)) NoW) (env0 [false] [v_flow] ++ List.replicate 2 none) oE (none : Option (Unit → PL.Env)) (defBody s_flow_table) (b_flow_table v_flow) := (Sal 1 (by kernel_rfl) (EL.lst (EAn.cons EX.int EAn.nil)) (fun v_table => (SS.for_ (o := (fun (b_ : (List D)) => [some (.dat v_flow), some (.own b_), none])) (b0 := (v_table)) (EI.range2 (gl (by kernel_rfl)) (Φ.free 1 rfl) EX.int (Xc (fn_power Φ hqs) rfl (Nat.le_of_ble_eq_true rfl) (by kernel_rfl) (EP.dat (EX.len (gl (by kernel_rfl)) (Φ.free 6 rfl) (EX.eb (Xv 0 rfl (by kernel_rfl)))) EP.nil))) (Cov.s (Cov.s (Cov.n (Cov.z)))) (fun s1 => (Tn 2 (by kernel_rfl))) (fun s1 c2 => (Sapp 1 rfl (by kernel_rfl) (EX.bor (i := 1) rfl (EX.min (gl (by kernel_rfl)) (Φ.free 13 rfl) (EL.eb (Lc (fn_choices_at Φ hqs) rfl (Nat.le_of_ble_eq_true rfl) (by kernel_rfl) (EP.dat (Xv 0 rfl (by kernel_rfl)) (EP.dat (Xv 1 rfl (by kernel_rfl)) (EP.dat (Xv 2 rfl (by kernel_rfl)) EP.nil))))))) (fun v_table => (SS.nil (b := (v_table)) (Cov.s (Cov.s (Cov.n (Cov.z)))))))) (fun s3 => (SS.retE (EX.tupOf (gl (by kernel_rfl)) (Φ.free 2 rfl) (Bo 1 rfl (by kernel_rfl))))))))
def mb_flow_table : List D → Option (Fl Empty Unit) := fun ds => match ds with | [v_flow] => b_flow_table v_flow | _ => Mir.lift none
def md_flow_table : List D → Option (D) := fun ds => Mir.bnd (mb_flow_table ds) fin
theorem fn_flow_table (Φ : Fx μ faL fnL tfL exL) (hqs : μ.qs = fun _ => qsT) : PL.Fn μ NoW [false] 5 "flow_table" md_flow_table := by
  obtain ⟨fd, F⟩ := Φ.fn_ 19 (d := d_flow_table) rfl
  exact Fn.mk (k := 4) (pd := ("flow_table", none)) F sc_flow_table rfl (Φ.glo 34 rfl) (fun _ _ _ _ _ _ us hl => match us, hl with | [_], _ => rfl) false (fun h => nomatch h) fun ds h => match ds, h with | [v_flow], _ => w_flow_table Φ hqs v_flow
def b_flow_paper (v_flow : D) (v_bound : D) : Option (Fl Empty Unit) := (Mir.bnd (Mir.bnd (Mir.bnd (Mir.ret v_flow) fun x => Mir.bnd (Mir.ret []) fun xs => Mir.ret (x :: xs)) fun ds => Mir.lift (md_johnson ds)) fun v_order => (Mir.bnd (Mir.bnd (Mir.bnd (Mir.bnd (Mir.bnd (Mir.ret v_flow) fun x => Mir.bnd (Mir.bnd (Mir.ret v_order) fun x => Mir.bnd (Mir.ret []) fun xs => Mir.ret (x :: xs)) fun xs => Mir.ret (x :: xs)) fun ds => Mir.lift (md_flow_end ds)) fun x => Mir.bnd (Mir.ret v_bound) fun y => Mir.lift ((dLe x y).bind dBool)) fun t => if t then (Mir.bnd (Mir.bnd (Mir.ret (.str (PySem.Str.ofString "order"))) fun x => Mir.bnd (Mir.bnd (Mir.ret v_order) fun x => Mir.bnd (Mir.ret []) fun xs => Mir.ret (x :: xs)) fun xs => Mir.ret (x :: xs)) fun ds => Mir.ret (.tuple ds)) else (Mir.bnd (Mir.bnd (Mir.ret (.str (PySem.Str.ofString "none"))) fun x => Mir.bnd (Mir.bnd (Mir.bnd (Mir.bnd (Mir.ret v_flow) fun x => Mir.bnd (Mir.ret []) fun xs => Mir.ret (x :: xs)) fun ds => Mir.lift (md_flow_table ds)) fun x => Mir.bnd (Mir.ret []) fun xs => Mir.ret (x :: xs)) fun xs => Mir.ret (x :: xs)) fun ds => Mir.ret (.tuple ds))) fun d => Mir.ret (.rt d)))
theorem sc_flow_paper : FnScope [("flow" : PySem.Str), ("bound" : PySem.Str), ("order" : PySem.Str)] [("flow" : PySem.Str), ("bound" : PySem.Str)] (defScope s_flow_paper) := ⟨rfl, rfl, rfl, by decide +kernel, rfl, by decide +kernel, by decide +kernel⟩
theorem w_flow_paper (Φ : Fx μ faL fnL tfL exL) (hqs : μ.qs = fun _ => qsT) (v_flow : D) (v_bound : D) : SS μ (Cw.of [("flow" : PySem.Str), ("bound" : PySem.Str), ("order" : PySem.Str)] (defScope s_flow_paper) 5 false "flow_paper" (He.cT μ.K ("flow_paper", none)) NoW) (env0 [false, false] [v_flow, v_bound] ++ List.replicate 1 none) oE (none : Option (Unit → PL.Env)) (defBody s_flow_paper) (b_flow_paper v_flow v_bound) := (Sa 2 (by kernel_rfl) (Xc (fn_johnson Φ hqs) rfl (Nat.le_of_ble_eq_true rfl) (by kernel_rfl) (EP.dat (Xv 0 rfl (by kernel_rfl)) EP.nil)) (fun v_order => (SS.retE (EX.ifE (ET.cmp c_le (EX.eb (Xc (fn_flow_end Φ hqs) rfl (Nat.le_of_ble_eq_true rfl) (by kernel_rfl) (EP.dat (Xv 0 rfl (by kernel_rfl)) (EP.dat (Xv 2 rfl (by kernel_rfl)) EP.nil)))) (EX.eb (Xv 1 rfl (by kernel_rfl))) (nobehind _ (by decide) (by decide))) (EX.tup (EAn.cons EX.str (EAn.cons (Xv 2 rfl (by kernel_rfl)) EAn.nil))) (EX.tup (EAn.cons EX.str (EAn.cons (Xc (fn_flow_table Φ hqs) rfl (Nat.le_of_ble_eq_true rfl) (by kernel_rfl) (EP.dat (Xv 0 rfl (by kernel_rfl)) EP.nil)) EAn.nil)))))))
def mb_flow_paper : List D → Option (Fl Empty Unit) := fun ds => match ds with | [v_flow, v_bound] => b_flow_paper v_flow v_bound | _ => Mir.lift none
def md_flow_paper : List D → Option (D) := fun ds => Mir.bnd (mb_flow_paper ds) fin
theorem fn_flow_paper (Φ : Fx μ faL fnL tfL exL) (hqs : μ.qs = fun _ => qsT) : PL.Fn μ NoW [false, false] 6 "flow_paper" md_flow_paper := by
  obtain ⟨fd, F⟩ := Φ.fn_ 20 (d := d_flow_paper) rfl
  exact Fn.mk (k := 5) (pd := ("flow_paper", none)) F sc_flow_paper rfl (Φ.glo 35 rfl) (fun _ _ _ _ _ _ us hl => match us, hl with | [_, _], _ => rfl) false (fun h => nomatch h) fun ds h => match ds, h with | [v_flow, v_bound], _ => w_flow_paper Φ hqs v_flow v_bound
def b_law  : WP (Fl Empty Unit) := (Mir.bnd (Mir.bnd (Mir.bnd (Mir.ret (.int 0)) fun x => Mir.bnd (Mir.ret []) fun xs => Mir.ret (x :: xs)) md__law_flow) fun v_flow => (Mir.bnd (Mir.bnd (Mir.ret v_flow) fun d => Mir.lift (dLen d)) fun v_n => Mir.bnd (Mir.bnd (Mir.bnd (Mir.ret v_flow) fun x => Mir.bnd (Mir.ret (.int 0)) fun y => Mir.lift (dIx x y)) fun d => Mir.lift (dLen d)) fun v_m => (Mir.bnd (Mir.bnd (Mir.ret (.int 3)) fun x => Mir.lift ((dInt x).bind fun j => dRange 0 j)) fun ds => Mir.bnd (forF (fun (s1 : Unit) d => Mir.bnd ((fun d => Mir.ret d) d) fun c2 => (Mir.bnd (Mir.bnd (Mir.bnd (Mir.ret v_n) fun x => Mir.bnd (Mir.ret []) fun xs => Mir.ret (x :: xs)) md__law_turn) fun v_order => (Mir.bnd (Mir.bnd (Mir.bnd (Mir.ret v_order) fun x => Mir.lift (dItems x)) (compF (fun d => Mir.ret d) (fun c4 => (Mir.ret true)) (fun c4 => (Mir.bnd (Mir.ret v_flow) fun x => Mir.bnd (Mir.ret c4) fun y => Mir.lift (dIx x y))))) fun v_rows => (Mir.bnd (Mir.bnd (Mir.bnd (Mir.bnd (Mir.bnd (Mir.ret v_flow) fun x => Mir.bnd (Mir.bnd (Mir.ret v_order) fun x => Mir.bnd (Mir.ret []) fun xs => Mir.ret (x :: xs)) fun xs => Mir.ret (x :: xs)) fun ds => Mir.lift (md_flow_end ds)) fun x => Mir.bnd (Mir.bnd (Mir.bnd (Mir.ret (.list v_rows)) fun x => Mir.bnd (Mir.ret []) fun xs => Mir.ret (x :: xs)) fun ds => Mir.lift (md__law_longest ds)) fun y => Mir.lift ((dNe x y).bind dBool)) fun t => if t then Mir.ret true else (Mir.bnd (Mir.bnd (Mir.bnd (Mir.ret v_flow) fun x => Mir.bnd (Mir.bnd (Mir.ret v_order) fun x => Mir.bnd (Mir.ret []) fun xs => Mir.ret (x :: xs)) fun xs => Mir.ret (x :: xs)) fun ds => Mir.lift (md_flow_end ds)) fun x => Mir.bnd (Mir.bnd (Mir.bnd (Mir.bnd (Mir.bnd (Mir.bnd (Mir.bnd (Mir.bnd (Mir.ret (.list v_rows)) fun x => Mir.bnd (Mir.lift (dLst x)) fun ds => Mir.ret ds.reverse) fun ds => Mir.ret (.list ds)) fun x => Mir.lift (dItems x)) (compF (fun d => Mir.ret d) (fun c3 => (Mir.ret true)) (fun c3 => (Mir.bnd (Mir.ret c3) fun x => Mir.bnd (Mir.lift (dTupL x)) fun ds => Mir.ret (.tuple ds.reverse))))) fun ds => Mir.ret (.list ds)) fun x => Mir.bnd (Mir.ret []) fun xs => Mir.ret (x :: xs)) fun ds => Mir.lift (md__law_longest ds)) fun y => Mir.lift ((dNe x y).bind dBool))) fun t => if t then (Mir.bnd (Mir.ret (.bool false)) fun d => Mir.ret (.rt d)) else (Mir.bnd (Mir.bnd (Mir.ret v_flow) fun x => Mir.bnd (Mir.bnd (Mir.bnd (Mir.bnd (Mir.bnd (Mir.bnd (Mir.ret (.int 0)) fun x => Mir.bnd (Mir.ret []) fun xs => Mir.ret (x :: xs)) fun ds => Mir.ret (.tuple ds)) fun x => Mir.bnd (Mir.ret v_m) fun y => Mir.lift (dRepT' x y)) fun x => Mir.bnd (Mir.ret []) fun xs => Mir.ret (x :: xs)) fun ds => Mir.ret (.tuple ds)) fun y => Mir.lift (dAdd x y)) fun v_noughts => (Mir.bnd (Mir.bnd (Mir.bnd (Mir.bnd (Mir.ret v_n) fun x => Mir.bnd (Mir.ret (.int 1)) fun y => Mir.lift (dAdd x y)) fun x => Mir.bnd (Mir.ret []) fun xs => Mir.ret (x :: xs)) md__law_draw) fun v_place => (Mir.bnd (Mir.bnd (Mir.bnd (Mir.bnd (Mir.ret v_noughts) fun x => Mir.bnd (Mir.bnd (Mir.bnd (Mir.bnd (Mir.bnd (Mir.ret v_order) fun x => Mir.bnd (Mir.ret none) fun l => Mir.bnd (Mir.bnd (Mir.ret v_place) fun x => Mir.lift ((dInt x).map Option.some)) fun h => Mir.lift (dSl x l h)) fun x => Mir.bnd (Mir.bnd (Mir.bnd (Mir.ret v_n) fun x => Mir.bnd (Mir.ret []) fun xs => Mir.ret (x :: xs)) fun ds => Mir.ret (.tuple ds)) fun y => Mir.lift (dAdd x y)) fun x => Mir.bnd (Mir.bnd (Mir.ret v_order) fun x => Mir.bnd (Mir.bnd (Mir.ret v_place) fun x => Mir.lift ((dInt x).map Option.some)) fun l => Mir.bnd (Mir.ret none) fun h => Mir.lift (dSl x l h)) fun y => Mir.lift (dAdd x y)) fun x => Mir.bnd (Mir.ret []) fun xs => Mir.ret (x :: xs)) fun xs => Mir.ret (x :: xs)) fun ds => Mir.lift (md_flow_end ds)) fun x => Mir.bnd (Mir.bnd (Mir.bnd (Mir.ret v_flow) fun x => Mir.bnd (Mir.bnd (Mir.ret v_order) fun x => Mir.bnd (Mir.ret []) fun xs => Mir.ret (x :: xs)) fun xs => Mir.ret (x :: xs)) fun ds => Mir.lift (md_flow_end ds)) fun y => Mir.lift ((dNe x y).bind dBool)) fun t => if t then (Mir.bnd (Mir.ret (.bool false)) fun d => Mir.ret (.rt d)) else (Mir.ret (.nx ()))))))))) ds ()) (jn fun (s5 : Unit) => (Mir.bnd (Mir.bnd (Mir.bnd (Mir.bnd (Mir.bnd (Mir.ret v_flow) fun x => Mir.lift (dItems x)) (compF (fun d => Mir.ret d) (fun c6 => (Mir.ret true)) (fun c6 => (Mir.bnd (Mir.ret c6) fun x => Mir.bnd (Mir.ret none) fun l => Mir.bnd (Mir.bnd (Mir.ret (.int 1)) fun x => Mir.lift ((dInt x).map Option.some)) fun h => Mir.lift (dSl x l h))))) fun ds => Mir.ret (.list ds)) fun d => Mir.lift (dTup d)) fun v_single => (Mir.bnd (Mir.bnd (Mir.bnd (Mir.bnd (Mir.ret v_single) fun x => Mir.bnd (Mir.bnd (Mir.bnd (Mir.bnd (Mir.ret v_n) fun x => Mir.bnd (Mir.ret []) fun xs => Mir.ret (x :: xs)) md__law_turn) fun x => Mir.bnd (Mir.ret []) fun xs => Mir.ret (x :: xs)) fun xs => Mir.ret (x :: xs)) fun ds => Mir.lift (md_flow_end ds)) fun x => Mir.bnd (Mir.bnd (Mir.bnd (Mir.bnd (Mir.bnd (Mir.ret v_single) fun x => Mir.lift (dItems x)) (compF (fun d => Mir.ret d) (fun c7 => (Mir.ret true)) (fun c7 => (Mir.bnd (Mir.ret c7) fun x => Mir.bnd (Mir.ret (.int 0)) fun y => Mir.lift (dIx x y))))) fun ds => Mir.ret (.list ds)) fun d => Mir.lift (dSum d)) fun y => Mir.lift ((dNe x y).bind dBool)) fun t => if t then (Mir.bnd (Mir.ret (.bool false)) fun d => Mir.ret (.rt d)) else (Mir.bnd (Mir.bnd (Mir.bnd (Mir.ret (.int 2)) fun x => Mir.bnd (Mir.ret []) fun xs => Mir.ret (x :: xs)) md__law_flow) fun v_two => (Mir.bnd (Mir.bnd (Mir.bnd (Mir.ret v_two) fun x => Mir.bnd (Mir.ret []) fun xs => Mir.ret (x :: xs)) fun ds => Mir.lift (md_johnson ds)) fun v_order => (Mir.bnd (Mir.bnd (Mir.bnd (Mir.ret v_two) fun x => Mir.bnd (Mir.bnd (Mir.ret v_order) fun x => Mir.bnd (Mir.ret []) fun xs => Mir.ret (x :: xs)) fun xs => Mir.ret (x :: xs)) fun ds => Mir.lift (md_flow_end ds)) fun v_end => (Mir.bnd (Mir.bnd (Mir.bnd (Mir.bnd (Mir.ret v_order) fun d => Mir.lift (dLen d)) fun x => Mir.lift ((dInt x).bind fun j => dRange 0 j)) (compF (fun d => Mir.ret d) (fun c11 => (Mir.ret true)) (fun c11 => (Mir.bnd (Mir.bnd (Mir.bnd (Mir.bnd (Mir.bnd (Mir.bnd (Mir.ret v_order) fun x => Mir.bnd (Mir.ret none) fun l => Mir.bnd (Mir.bnd (Mir.bnd (Mir.ret c11) fun x => Mir.bnd (Mir.ret (.int 1)) fun y => Mir.lift (dAdd x y)) fun x => Mir.lift ((dInt x).map Option.some)) fun h => Mir.lift (dSl x l h)) fun x => Mir.lift (dItems x)) (compF (fun d => Mir.ret d) (fun c12 => (Mir.ret true)) (fun c12 => (Mir.bnd (Mir.bnd (Mir.ret v_two) fun x => Mir.bnd (Mir.ret c12) fun y => Mir.lift (dIx x y)) fun x => Mir.bnd (Mir.ret (.int 0)) fun y => Mir.lift (dIx x y))))) fun ds => Mir.ret (.list ds)) fun d => Mir.lift (dSum d)) fun x => Mir.bnd (Mir.bnd (Mir.bnd (Mir.bnd (Mir.bnd (Mir.bnd (Mir.ret v_order) fun x => Mir.bnd (Mir.bnd (Mir.ret c11) fun x => Mir.lift ((dInt x).map Option.some)) fun l => Mir.bnd (Mir.ret none) fun h => Mir.lift (dSl x l h)) fun x => Mir.lift (dItems x)) (compF (fun d => Mir.ret d) (fun c13 => (Mir.ret true)) (fun c13 => (Mir.bnd (Mir.bnd (Mir.ret v_two) fun x => Mir.bnd (Mir.ret c13) fun y => Mir.lift (dIx x y)) fun x => Mir.bnd (Mir.ret (.int 1)) fun y => Mir.lift (dIx x y))))) fun ds => Mir.ret (.list ds)) fun d => Mir.lift (dSum d)) fun y => Mir.lift (dAdd x y))))) fun v_sums => (Mir.bnd (Mir.bnd (Mir.bnd (Mir.ret v_end) fun x => Mir.bnd (Mir.bnd (Mir.ret (.list v_sums)) fun d => Mir.lift (dMax d)) fun y => Mir.lift ((dNe x y).bind dBool)) fun t => if t then Mir.ret true else (Mir.bnd (Mir.bnd (Mir.bnd (Mir.ret v_two) fun x => Mir.bnd (Mir.bnd (Mir.bnd (Mir.bnd (Mir.ret v_two) fun x => Mir.bnd (Mir.ret []) fun xs => Mir.ret (x :: xs)) fun ds => Mir.lift (md_best_flow ds)) fun x => Mir.bnd (Mir.ret []) fun xs => Mir.ret (x :: xs)) fun xs => Mir.ret (x :: xs)) fun ds => Mir.lift (md_flow_end ds)) fun x => Mir.bnd (Mir.ret v_end) fun y => Mir.lift ((dNe x y).bind dBool))) fun t => if t then (Mir.bnd (Mir.ret (.bool false)) fun d => Mir.ret (.rt d)) else (Mir.bnd (Mir.bnd (Mir.bnd (Mir.bnd (Mir.bnd (Mir.bnd (Mir.ret v_two) fun x => Mir.bnd (Mir.bnd (Mir.ret v_end) fun x => Mir.bnd (Mir.ret []) fun xs => Mir.ret (x :: xs)) fun xs => Mir.ret (x :: xs)) fun ds => Mir.lift (md_flow_paper ds)) fun x => Mir.bnd (Mir.ret (.int 0)) fun y => Mir.lift (dIx x y)) fun x => Mir.bnd (Mir.ret (.str (PySem.Str.ofString "order"))) fun y => Mir.lift ((dNe x y).bind dBool)) fun t => if t then Mir.ret true else (Mir.bnd (Mir.bnd (Mir.bnd (Mir.bnd (Mir.bnd (Mir.ret v_two) fun x => Mir.bnd (Mir.bnd (Mir.bnd (Mir.ret v_end) fun x => Mir.bnd (Mir.ret (.int 1)) fun y => Mir.lift (dSub x y)) fun x => Mir.bnd (Mir.ret []) fun xs => Mir.ret (x :: xs)) fun xs => Mir.ret (x :: xs)) fun ds => Mir.lift (md_flow_paper ds)) fun x => Mir.bnd (Mir.ret (.int 0)) fun y => Mir.lift (dIx x y)) fun x => Mir.bnd (Mir.ret (.str (PySem.Str.ofString "none"))) fun y => Mir.lift ((dNe x y).bind dBool)) fun t => if t then Mir.ret true else (Mir.bnd (Mir.bnd (Mir.bnd (Mir.bnd (Mir.ret v_two) fun x => Mir.bnd (Mir.bnd (Mir.ret v_end) fun x => Mir.bnd (Mir.bnd (Mir.bnd (Mir.bnd (Mir.ret (.str (PySem.Str.ofString "order"))) fun x => Mir.bnd (Mir.bnd (Mir.ret v_order) fun x => Mir.bnd (Mir.ret []) fun xs => Mir.ret (x :: xs)) fun xs => Mir.ret (x :: xs)) fun ds => Mir.ret (.tuple ds)) fun x => Mir.bnd (Mir.ret []) fun xs => Mir.ret (x :: xs)) fun xs => Mir.ret (x :: xs)) fun xs => Mir.ret (x :: xs)) fun ds => Mir.lift (md_check_flow ds)) fun x => Mir.lift (dTrue x)) fun t => Mir.ret (!t)))) fun t => if t then (Mir.bnd (Mir.ret (.bool false)) fun d => Mir.ret (.rt d)) else (Mir.bnd (Mir.bnd (Mir.bnd (Mir.bnd (Mir.bnd (Mir.ret v_two) fun x => Mir.lift (dItems x)) (compF (fun d => Mir.ret d) (fun c8 => (Mir.ret true)) (fun c8 => (Mir.bnd (Mir.bnd (Mir.ret (.int 0)) fun x => Mir.bnd (Mir.bnd (Mir.bnd (Mir.ret c8) fun x => Mir.bnd (Mir.ret (.int 1)) fun y => Mir.lift (dIx x y)) fun x => Mir.bnd (Mir.ret []) fun xs => Mir.ret (x :: xs)) fun xs => Mir.ret (x :: xs)) fun ds => Mir.ret (.tuple ds))))) fun ds => Mir.ret (.list ds)) fun d => Mir.lift (dTup d)) fun v_late => (Mir.bnd (Mir.bnd (Mir.bnd (Mir.bnd (Mir.bnd (Mir.ret v_two) fun x => Mir.lift (dItems x)) (compF (fun d => Mir.ret d) (fun c9 => (Mir.ret true)) (fun c9 => (Mir.bnd (Mir.ret c9) fun x => Mir.bnd (Mir.lift (dTupL x)) fun ds => Mir.ret (.tuple ds.reverse))))) fun ds => Mir.ret (.list ds)) fun d => Mir.lift (dTup d)) fun v_swapped => (Mir.bnd (Mir.bnd (Mir.bnd (Mir.bnd (Mir.bnd (Mir.ret v_late) fun x => Mir.bnd (Mir.bnd (Mir.bnd (Mir.bnd (Mir.ret v_late) fun x => Mir.bnd (Mir.ret []) fun xs => Mir.ret (x :: xs)) fun ds => Mir.lift (md_johnson ds)) fun x => Mir.bnd (Mir.ret []) fun xs => Mir.ret (x :: xs)) fun xs => Mir.ret (x :: xs)) fun ds => Mir.lift (md_flow_end ds)) fun x => Mir.bnd (Mir.bnd (Mir.bnd (Mir.bnd (Mir.bnd (Mir.ret v_two) fun x => Mir.lift (dItems x)) (compF (fun d => Mir.ret d) (fun c10 => (Mir.ret true)) (fun c10 => (Mir.bnd (Mir.ret c10) fun x => Mir.bnd (Mir.ret (.int 1)) fun y => Mir.lift (dIx x y))))) fun ds => Mir.ret (.list ds)) fun d => Mir.lift (dSum d)) fun y => Mir.lift (dEq x y)) fun x => Mir.bnd (Mir.lift (dBool x)) fun t => if t then (Mir.bnd (Mir.bnd (Mir.bnd (Mir.ret v_swapped) fun x => Mir.bnd (Mir.bnd (Mir.bnd (Mir.bnd (Mir.ret v_swapped) fun x => Mir.bnd (Mir.ret []) fun xs => Mir.ret (x :: xs)) fun ds => Mir.lift (md_johnson ds)) fun x => Mir.bnd (Mir.ret []) fun xs => Mir.ret (x :: xs)) fun xs => Mir.ret (x :: xs)) fun ds => Mir.lift (md_flow_end ds)) fun x => Mir.bnd (Mir.ret v_end) fun y => Mir.lift (dEq x y)) else Mir.ret (.bool false)) fun d => Mir.ret (.rt d))))))))))))))))
theorem sc_law : FnScope [("script" : PySem.Str), ("pool" : PySem.Str), ("flow" : PySem.Str), ("turn" : PySem.Str), ("single" : PySem.Str), ("two" : PySem.Str), ("order" : PySem.Str), ("end" : PySem.Str), ("sums" : PySem.Str), ("late" : PySem.Str), ("swapped" : PySem.Str), ("n" : PySem.Str), ("m" : PySem.Str), ("rows" : PySem.Str), ("noughts" : PySem.Str), ("place" : PySem.Str), ("k" : PySem.Str), ("job" : PySem.Str), ("row" : PySem.Str)] [("script" : PySem.Str)] (defScope s_law) := ⟨rfl, rfl, rfl, by decide +kernel, rfl, by decide +kernel, by decide +kernel⟩
theorem w_law (Φ : Fx μ faL fnL tfL exL) (hqs : μ.qs = fun _ => qsT) : SS μ (Cw.of [("script" : PySem.Str), ("pool" : PySem.Str), ("flow" : PySem.Str), ("turn" : PySem.Str), ("single" : PySem.Str), ("two" : PySem.Str), ("order" : PySem.Str), ("end" : PySem.Str), ("sums" : PySem.Str), ("late" : PySem.Str), ("swapped" : PySem.Str), ("n" : PySem.Str), ("m" : PySem.Str), ("rows" : PySem.Str), ("noughts" : PySem.Str), ("place" : PySem.Str), ("k" : PySem.Str), ("job" : PySem.Str), ("row" : PySem.Str)] (defScope s_law) 6 false "law" (He.cT μ.K ("law", none)) IsPool) ((List.replicate 19 none).set 1 (some .wrd)) oE (none : Option (Unit → PL.Env)) (defBody s_law).tail b_law := (Sa 2 (by kernel_rfl) (Xw (fn__law_flow Φ hqs) (fun _ h => h) (Nat.le_of_ble_eq_true rfl) (by kernel_rfl) (Pw 1 rfl (by kernel_rfl) (EP.dat EX.int EP.nil))) (fun v_flow => (SS.par (i := 11) (j := 12) (atB_ok (by kernel_rfl)) (atB_ok (by kernel_rfl)) (by decide) (lkB_ok (by kernel_rfl)) (lkB_ok (by kernel_rfl)) (EX.len (gl (by kernel_rfl)) (Φ.free 6 rfl) (EX.eb (Xv 2 rfl (by kernel_rfl)))) (EX.len (gl (by kernel_rfl)) (Φ.free 6 rfl) (EX.eb (EX.ix (EX.eb (Xv 2 rfl (by kernel_rfl))) EX.int (fun _ _ => rfl)))) (fun v_n v_m => (SS.for_ (o := (fun (b_ : Unit) => [none, some .wrd, some (.dat v_flow), none, none, none, none, none, none, none, none, some (.dat v_n), some (.dat v_m), none, none, none, none, none, none])) (b0 := ()) (EI.range1 (gl (by kernel_rfl)) (Φ.free 1 rfl) EX.int) (Cov.n (Cov.s (Cov.s (Cov.n (Cov.n (Cov.n (Cov.n (Cov.n (Cov.n (Cov.n (Cov.n (Cov.s (Cov.s (Cov.n (Cov.n (Cov.n (Cov.n (Cov.n (Cov.n (Cov.z)))))))))))))))))))) (fun s1 => (Tn 3 (by kernel_rfl))) (fun s1 c2 => (Sa 6 (by kernel_rfl) (Xw (fn__law_turn Φ hqs) (fun _ h => h) (Nat.le_of_ble_eq_true rfl) (by kernel_rfl) (Pw 1 rfl (by kernel_rfl) (EP.dat (Xv 11 rfl (by kernel_rfl)) EP.nil))) (fun v_order => (Sac 13 [(("job" : PySem.Str), 17)] (by kernel_rfl) (by kernel_rfl) (EI.seqB (EX.eb (Xv 6 rfl (by kernel_rfl)))) (Tn 17 (by kernel_rfl)) (by decide) (fun c4 => ETs.nil) (fun c4 => (EX.ix (EX.eb (Xv 2 rfl (by kernel_rfl))) (Xv 17 rfl (by kernel_rfl)) (fun _ _ => rfl))) (fun v_rows => (SS.frz (i := 13) rfl (SS.ifR (EW.et (EW.or (ET.cmp c_ne (EX.eb (Xc (fn_flow_end Φ hqs) rfl (Nat.le_of_ble_eq_true rfl) (by kernel_rfl) (EP.dat (Xv 2 rfl (by kernel_rfl)) (EP.dat (Xv 6 rfl (by kernel_rfl)) EP.nil)))) (EX.eb (Xc (fn__law_longest Φ hqs) rfl (Nat.le_of_ble_eq_true rfl) (by kernel_rfl) (EP.dat (Xv 13 rfl (by kernel_rfl)) EP.nil))) (nobehind _ (by decide) (by decide))) (EW.or1 (ET.cmp c_ne (EX.eb (Xc (fn_flow_end Φ hqs) rfl (Nat.le_of_ble_eq_true rfl) (by kernel_rfl) (EP.dat (Xv 2 rfl (by kernel_rfl)) (EP.dat (Xv 6 rfl (by kernel_rfl)) EP.nil)))) (EX.eb (Xc (fn__law_longest Φ hqs) rfl (Nat.le_of_ble_eq_true rfl) (by kernel_rfl) (EP.dat (EL.frz (Lcomp [(("row" : PySem.Str), 18)] (by kernel_rfl) (EI.seqB (EL.eb (EL.revL (Xv 13 rfl (by kernel_rfl))))) (Tn 18 (by kernel_rfl)) (by decide) (fun c3 => ETs.nil) (fun c3 => (EX.revT (Xv 18 rfl (by kernel_rfl)))))) EP.nil))) (nobehind _ (by decide) (by decide)))))) (SS.retE EX.bl) (Sa 14 (by kernel_rfl) (EX.add (EX.eb (Xv 2 rfl (by kernel_rfl))) (EX.eb (EX.tup (EAn.cons (EX.repT (EX.tup (EAn.cons EX.int EAn.nil)) (Xv 12 rfl (by kernel_rfl))) EAn.nil)))) (fun v_noughts => (Sa 15 (by kernel_rfl) (Xw (fn__law_draw Φ hqs) (fun _ h => h) (Nat.le_of_ble_eq_true rfl) (by kernel_rfl) (Pw 1 rfl (by kernel_rfl) (EP.dat (EX.add (EX.eb (Xv 11 rfl (by kernel_rfl))) (EX.eb EX.int)) EP.nil))) (fun v_place => (SS.ifR (ET.cmp c_ne (EX.eb (Xc (fn_flow_end Φ hqs) rfl (Nat.le_of_ble_eq_true rfl) (by kernel_rfl) (EP.dat (Xv 14 rfl (by kernel_rfl)) (EP.dat (EX.add (EX.eb (EX.add (EX.eb (EX.sl (EX.eb (Xv 6 rfl (by kernel_rfl))) EO.none (EO.some (Xv 15 rfl (by kernel_rfl))))) (EX.eb (EX.tup (EAn.cons (Xv 11 rfl (by kernel_rfl)) EAn.nil))))) (EX.eb (EX.sl (EX.eb (Xv 6 rfl (by kernel_rfl))) (EO.some (Xv 15 rfl (by kernel_rfl))) EO.none))) EP.nil)))) (EX.eb (Xc (fn_flow_end Φ hqs) rfl (Nat.le_of_ble_eq_true rfl) (by kernel_rfl) (EP.dat (Xv 2 rfl (by kernel_rfl)) (EP.dat (Xv 6 rfl (by kernel_rfl)) EP.nil)))) (nobehind _ (by decide) (by decide))) (SS.retE EX.bl) (SS.nil (b := ()) (Cov.n (Cov.s (Cov.s (Cov.n (Cov.n (Cov.n (Cov.n (Cov.n (Cov.n (Cov.n (Cov.n (Cov.s (Cov.s (Cov.n (Cov.n (Cov.n (Cov.n (Cov.n (Cov.n (Cov.z))))))))))))))))))))))))))))))))) (fun s5 => (Sa 4 (by kernel_rfl) (EX.tupOf (gl (by kernel_rfl)) (Φ.free 2 rfl) (EL.eb (Lcomp [(("row" : PySem.Str), 18)] (by kernel_rfl) (EI.seqB (EX.eb (Xv 2 rfl (by kernel_rfl)))) (Tn 18 (by kernel_rfl)) (by decide) (fun c6 => ETs.nil) (fun c6 => (EX.sl (EX.eb (Xv 18 rfl (by kernel_rfl))) EO.none (EO.some EX.int)))))) (fun v_single => (SS.ifR (ET.cmp c_ne (EX.eb (Xc (fn_flow_end Φ hqs) rfl (Nat.le_of_ble_eq_true rfl) (by kernel_rfl) (EP.dat (Xv 4 rfl (by kernel_rfl)) (EP.dat (Xw (fn__law_turn Φ hqs) (fun _ h => h) (Nat.le_of_ble_eq_true rfl) (by kernel_rfl) (Pw 1 rfl (by kernel_rfl) (EP.dat (Xv 11 rfl (by kernel_rfl)) EP.nil))) EP.nil)))) (EX.eb (EX.sum (gl (by kernel_rfl)) (Φ.free 12 rfl) (EL.eb (Lcomp [(("row" : PySem.Str), 18)] (by kernel_rfl) (EI.seqB (EX.eb (Xv 4 rfl (by kernel_rfl)))) (Tn 18 (by kernel_rfl)) (by decide) (fun c7 => ETs.nil) (fun c7 => (EX.ix (EX.eb (Xv 18 rfl (by kernel_rfl))) EX.int (fun _ _ => rfl))))))) (nobehind _ (by decide) (by decide))) (SS.retE EX.bl) (Sa 5 (by kernel_rfl) (Xw (fn__law_flow Φ hqs) (fun _ h => h) (Nat.le_of_ble_eq_true rfl) (by kernel_rfl) (Pw 1 rfl (by kernel_rfl) (EP.dat EX.int EP.nil))) (fun v_two => (Sa 6 (by kernel_rfl) (Xc (fn_johnson Φ hqs) rfl (Nat.le_of_ble_eq_true rfl) (by kernel_rfl) (EP.dat (Xv 5 rfl (by kernel_rfl)) EP.nil)) (fun v_order => (Sa 7 (by kernel_rfl) (Xc (fn_flow_end Φ hqs) rfl (Nat.le_of_ble_eq_true rfl) (by kernel_rfl) (EP.dat (Xv 5 rfl (by kernel_rfl)) (EP.dat (Xv 6 rfl (by kernel_rfl)) EP.nil))) (fun v_end => (Sac 8 [(("k" : PySem.Str), 16)] (by kernel_rfl) (by kernel_rfl) (EI.up (EI.range1 (gl (by kernel_rfl)) (Φ.free 1 rfl) (EX.len (gl (by kernel_rfl)) (Φ.free 6 rfl) (EX.eb (Xv 6 rfl (by kernel_rfl)))))) (Tn 16 (by kernel_rfl)) (by decide) (fun c11 => ETs.nil) (fun c11 => (EX.add (EX.eb (EX.sum (gl (by kernel_rfl)) (Φ.free 12 rfl) (EL.eb (Lcomp [(("job" : PySem.Str), 17)] (by kernel_rfl) (EI.seqB (EX.eb (EX.sl (EX.eb (Xv 6 rfl (by kernel_rfl))) EO.none (EO.some (EX.add (EX.eb (Xv 16 rfl (by kernel_rfl))) (EX.eb EX.int)))))) (Tn 17 (by kernel_rfl)) (by decide) (fun c12 => ETs.nil) (fun c12 => (EX.ix (EX.eb (EX.ix (EX.eb (Xv 5 rfl (by kernel_rfl))) (Xv 17 rfl (by kernel_rfl)) (fun _ _ => rfl))) EX.int (fun _ _ => rfl))))))) (EX.eb (EX.sum (gl (by kernel_rfl)) (Φ.free 12 rfl) (EL.eb (Lcomp [(("job" : PySem.Str), 17)] (by kernel_rfl) (EI.seqB (EX.eb (EX.sl (EX.eb (Xv 6 rfl (by kernel_rfl))) (EO.some (Xv 16 rfl (by kernel_rfl))) EO.none))) (Tn 17 (by kernel_rfl)) (by decide) (fun c13 => ETs.nil) (fun c13 => (EX.ix (EX.eb (EX.ix (EX.eb (Xv 5 rfl (by kernel_rfl))) (Xv 17 rfl (by kernel_rfl)) (fun _ _ => rfl))) EX.int (fun _ _ => rfl))))))))) (fun v_sums => (SS.frz (i := 8) rfl (SS.ifR (EW.et (EW.or (ET.cmp c_ne (EX.eb (Xv 7 rfl (by kernel_rfl))) (EX.eb (EX.max (gl (by kernel_rfl)) (Φ.free 5 rfl) (EX.eb (Xv 8 rfl (by kernel_rfl))))) (nobehind _ (by decide) (by decide))) (EW.or1 (ET.cmp c_ne (EX.eb (Xc (fn_flow_end Φ hqs) rfl (Nat.le_of_ble_eq_true rfl) (by kernel_rfl) (EP.dat (Xv 5 rfl (by kernel_rfl)) (EP.dat (Xc (fn_best_flow Φ hqs) rfl (Nat.le_of_ble_eq_true rfl) (by kernel_rfl) (EP.dat (Xv 5 rfl (by kernel_rfl)) EP.nil)) EP.nil)))) (EX.eb (Xv 7 rfl (by kernel_rfl))) (nobehind _ (by decide) (by decide)))))) (SS.retE EX.bl) (SS.ifR (EW.et (EW.or (ET.cmp c_ne (EX.eb (EX.ix (EX.eb (Xc (fn_flow_paper Φ hqs) rfl (Nat.le_of_ble_eq_true rfl) (by kernel_rfl) (EP.dat (Xv 5 rfl (by kernel_rfl)) (EP.dat (Xv 7 rfl (by kernel_rfl)) EP.nil)))) EX.int (fun _ _ => rfl))) (EX.eb EX.str) (nobehind _ (by decide) (by decide))) (EW.or (ET.cmp c_ne (EX.eb (EX.ix (EX.eb (Xc (fn_flow_paper Φ hqs) rfl (Nat.le_of_ble_eq_true rfl) (by kernel_rfl) (EP.dat (Xv 5 rfl (by kernel_rfl)) (EP.dat (EX.sub (EX.eb (Xv 7 rfl (by kernel_rfl))) (EX.eb EX.int)) EP.nil)))) EX.int (fun _ _ => rfl))) (EX.eb EX.str) (nobehind _ (by decide) (by decide))) (EW.or1 (ET.not (EX.tB (Xc (fn_check_flow Φ hqs) rfl (Nat.le_of_ble_eq_true rfl) (by kernel_rfl) (EP.dat (Xv 5 rfl (by kernel_rfl)) (EP.dat (Xv 7 rfl (by kernel_rfl)) (EP.dat (EX.tup (EAn.cons EX.str (EAn.cons (Xv 6 rfl (by kernel_rfl)) EAn.nil))) EP.nil)))) (fun _ _ => rfl))))))) (SS.retE EX.bl) (Sa 9 (by kernel_rfl) (EX.tupOf (gl (by kernel_rfl)) (Φ.free 2 rfl) (EL.eb (Lcomp [(("row" : PySem.Str), 18)] (by kernel_rfl) (EI.seqB (EX.eb (Xv 5 rfl (by kernel_rfl)))) (Tn 18 (by kernel_rfl)) (by decide) (fun c8 => ETs.nil) (fun c8 => (EX.tup (EAn.cons EX.int (EAn.cons (EX.ix (EX.eb (Xv 18 rfl (by kernel_rfl))) EX.int (fun _ _ => rfl)) EAn.nil))))))) (fun v_late => (Sa 10 (by kernel_rfl) (EX.tupOf (gl (by kernel_rfl)) (Φ.free 2 rfl) (EL.eb (Lcomp [(("row" : PySem.Str), 18)] (by kernel_rfl) (EI.seqB (EX.eb (Xv 5 rfl (by kernel_rfl)))) (Tn 18 (by kernel_rfl)) (by decide) (fun c9 => ETs.nil) (fun c9 => (EX.revT (Xv 18 rfl (by kernel_rfl))))))) (fun v_swapped => (SS.retE (EX.and (EX.cp c_eq (EX.eb (Xc (fn_flow_end Φ hqs) rfl (Nat.le_of_ble_eq_true rfl) (by kernel_rfl) (EP.dat (Xv 9 rfl (by kernel_rfl)) (EP.dat (Xc (fn_johnson Φ hqs) rfl (Nat.le_of_ble_eq_true rfl) (by kernel_rfl) (EP.dat (Xv 9 rfl (by kernel_rfl)) EP.nil)) EP.nil)))) (EX.eb (EX.sum (gl (by kernel_rfl)) (Φ.free 12 rfl) (EL.eb (Lcomp [(("row" : PySem.Str), 18)] (by kernel_rfl) (EI.seqB (EX.eb (Xv 5 rfl (by kernel_rfl)))) (Tn 18 (by kernel_rfl)) (by decide) (fun c10 => ETs.nil) (fun c10 => (EX.ix (EX.eb (Xv 18 rfl (by kernel_rfl))) EX.int (fun _ _ => rfl))))))) (nobehind _ (by decide) (by decide))) (EX.one (EX.cp c_eq (EX.eb (Xc (fn_flow_end Φ hqs) rfl (Nat.le_of_ble_eq_true rfl) (by kernel_rfl) (EP.dat (Xv 10 rfl (by kernel_rfl)) (EP.dat (Xc (fn_johnson Φ hqs) rfl (Nat.le_of_ble_eq_true rfl) (by kernel_rfl) (EP.dat (Xv 10 rfl (by kernel_rfl)) EP.nil)) EP.nil)))) (EX.eb (Xv 7 rfl (by kernel_rfl))) (nobehind _ (by decide) (by decide))))))))))))))))))))))))))) (by kernel_rfl))))
def lawK : Nat := 7
theorem fn_law (Φ : Fx μ faL fnL tfL exL) (hqs : μ.qs = fun _ => qsT) (hm : b_law fun r => r = .rt (.bool true)) {fd : FuncData} (F : FunD μ.K d_law.name d_law.qual d_law.params d_law.body d_law.scope (d_law.dvs μ.K) (d_law.kws μ.K) (He.fAd μ.K d_law.at_) fd) : FnOk μ.prog μ.w μ.K μ.mg μ.base CX0 7 (He.fAd μ.K d_law.at_) fd ["script"] (spLaw μ) := by
  obtain ⟨fs, fds, pss, Fs, ms, ks, bs⟩ := fn__law_pool Φ hqs
  refine law_fn (i := 1) (k := 6) (pd := ("law", none)) (st := (defBody s_law).headD (.Pass ⟨0, 0, 0, 0⟩)) (rest := (defBody s_law).tail) F sc_law false (fun h => nomatch h) (by rfl) (by decide) (by decide) (fun X hX => ?_) (w_law Φ hqs) hm
  obtain ⟨a, b, c⟩ := stB_ok (g := (Cw.of [("script" : PySem.Str), ("pool" : PySem.Str), ("flow" : PySem.Str), ("turn" : PySem.Str), ("single" : PySem.Str), ("two" : PySem.Str), ("order" : PySem.Str), ("end" : PySem.Str), ("sums" : PySem.Str), ("late" : PySem.Str), ("swapped" : PySem.Str), ("n" : PySem.Str), ("m" : PySem.Str), ("rows" : PySem.Str), ("noughts" : PySem.Str), ("place" : PySem.Str), ("k" : PySem.Str), ("job" : PySem.Str), ("row" : PySem.Str)] (defScope s_law) 6 false "law" (He.cT μ.K ("law", none)) IsPool)) (x := "pool") (i := 1) (by kernel_rfl)
  obtain ⟨a', b', c', d'⟩ := nmB_ok (g := (Cw.of [("script" : PySem.Str), ("pool" : PySem.Str), ("flow" : PySem.Str), ("turn" : PySem.Str), ("single" : PySem.Str), ("two" : PySem.Str), ("order" : PySem.Str), ("end" : PySem.Str), ("sums" : PySem.Str), ("late" : PySem.Str), ("swapped" : PySem.Str), ("n" : PySem.Str), ("m" : PySem.Str), ("rows" : PySem.Str), ("noughts" : PySem.Str), ("place" : PySem.Str), ("k" : PySem.Str), ("job" : PySem.Str), ("row" : PySem.Str)] (defScope s_law) 6 false "law" (He.cT μ.K ("law", none)) IsPool)) (x := "script") (i := 0) (by kernel_rfl)
  exact ps_set (i := 1) (by rw [hX.N]; exact hX.nd) (by rw [hX.N]; exact a) (hX.loc b) (pe_call (by rw [hX.prog, hX.w, hX.K, hX.mg, hX.base]; exact Fs) (hX.room.mono (Nat.le_of_ble_eq_true rfl)) (hX.gl (gl (by kernel_rfl))) (by rw [hX.mg]; exact ms) (by rw [hX.K]; exact ks) (by rw [hX.K]; exact bs) .nil pass0 (pa_cons (hX.var a' b' c' d') pa_nil)) rfl (hX.fnl c)
end
end K78
end k78w_
section pm1_
set_option maxRecDepth 100000
set_option maxHeartbeats 2000000
/-! plain reckoning: mirrors of encoded values -/
namespace PL
open PySem PySem.Spec PyProof.Rows L2 PySem.W
open Mir (ret bnd lift)

abbrev eN (n : Nat) : D := .int (n : Int)
abbrev eI (n : Int) : D := .int n

/-! ### operations -/
@[simp] theorem bnd_o' {α β : Type} {m : Option α} {f : α → Option β} : bnd m f = m.bind f := rfl
@[simp] theorem ret_o' {α : Type} {a : α} : (ret a : Option α) = some a := rfl
@[simp] theorem lift_o' {α : Type} {m : Option α} : (lift m : Option α) = m := rfl
@[simp] theorem bnd_w' {α β : Type} {m : WP α} {f : α → WP β} {k : β → Prop} : (bnd m f : WP β) k = m fun a => f a k := rfl
@[simp] theorem ret_w' {α : Type} {a : α} {k : α → Prop} : (ret a : WP α) k = k a := rfl
def OK {α : Type} (o : Option α) (k : α → Prop) : Prop := ∃ a, o = some a ∧ k a
@[simp] theorem OK_some {α : Type} {a : α} {k : α → Prop} : OK (some a) k ↔ k a := by simp [OK]
@[simp] theorem OK_none {α : Type} {k : α → Prop} : OK (none : Option α) k ↔ False := by simp [OK]
@[simp] theorem OK_bind {α β : Type} {o : Option α} {f : α → Option β} {k : β → Prop} : OK (o.bind f) k ↔ OK o fun a => OK (f a) k := by
  cases o <;> simp
@[simp] theorem OK_map {α β : Type} {o : Option α} {f : α → β} {k : β → Prop} : OK (o.map f) k ↔ OK o fun a => k (f a) := by
  cases o <;> simp
theorem OK_of {α : Type} {o : Option α} {a : α} {k : α → Prop} (h : o = some a) (hk : k a) : OK o k := ⟨a, h, hk⟩
theorem OK_eq {α : Type} {o : Option α} {a : α} : OK o (fun x => x = a) ↔ o = some a := ⟨fun ⟨b, h, e⟩ => e ▸ h, fun h => ⟨a, h, rfl⟩⟩
theorem OK.imp {α : Type} {o : Option α} {k k' : α → Prop} (h : OK o k) (hk : ∀ a, k a → k' a) : OK o k' := let ⟨a, e, q⟩ := h; ⟨a, e, hk a q⟩
@[simp] theorem lift_w' {α : Type} {m : Option α} {k : α → Prop} : (lift m : WP α) k = OK m k := rfl
@[simp] theorem fin_rt {M : Type → Type} [Mir M] {β : Type} {d : D} : (fin (.rt d : Fl Empty β) : M D) = ret d := rfl
@[simp] theorem fin_rl {M : Type → Type} [Mir M] {β : Type} {d : List D} : (fin (.rl d : Fl Empty β) : M D) = ret (.list d) := rfl
@[simp] theorem finL_rl {M : Type → Type} [Mir M] {β : Type} {d : List D} : (finL (.rl d : Fl Empty β) : M (List D)) = ret d := rfl
@[simp] theorem jn_nx {M : Type → Type} [Mir M] {γ β δ : Type} {mr : δ → M (Fl γ β)} {b : δ} : jn mr (.nx b) = mr b := rfl
@[simp] theorem jn_rt {M : Type → Type} [Mir M] {γ β δ : Type} {mr : δ → M (Fl γ β)} {d : D} : jn mr (.rt d) = ret (.rt d) := rfl
@[simp] theorem jn_rl {M : Type → Type} [Mir M] {γ β δ : Type} {mr : δ → M (Fl γ β)} {d : List D} : jn mr (.rl d) = ret (.rl d) := rfl
@[simp] theorem dInt_int {i : Int} : dInt (.int i) = some i := rfl
@[simp] theorem dItems_t {xs : List D} : dItems (.tuple xs) = some xs := rfl
@[simp] theorem dItems_l {xs : List D} : dItems (.list xs) = some xs := rfl
@[simp] theorem dLen_t {xs : List D} : dLen (.tuple xs) = some (.int xs.length) := rfl
@[simp] theorem dLen_l {xs : List D} : dLen (.list xs) = some (.int xs.length) := rfl
@[simp] theorem dTup_t {xs : List D} : dTup (.tuple xs) = some (.tuple xs) := rfl
@[simp] theorem dTup_l {xs : List D} : dTup (.list xs) = some (.tuple xs) := rfl
@[simp] theorem dLst_l {xs : List D} : dLst (.list xs) = some xs := rfl
@[simp] theorem dBool_b {b : Bool} : dBool (.bool b) = some b := rfl
@[simp] theorem dNot_b {b : Bool} : dNot (.bool b) = some (.bool (!b)) := rfl
@[simp] theorem dTrue_b {b : Bool} : dTrue (.bool b) = some b := rfl
@[simp] theorem dTrue_t {xs : List D} : dTrue (.tuple xs) = some (!xs.isEmpty) := rfl
@[simp] theorem dTrue_l {xs : List D} : dTrue (.list xs) = some (!xs.isEmpty) := rfl
@[simp] theorem dTrue_i {i : Int} : dTrue (.int i) = some (i != 0) := rfl
@[simp] theorem dAdd_i {i j : Int} : dAdd (.int i) (.int j) = some (.int (i + j)) := rfl
@[simp] theorem dAddI_i {i j : Int} : dAddI (.int i) (.int j) = some (.int (i + j)) := rfl
theorem dAdd_t {xs ys : List D} (h : xs.length + ys.length ≤ sizeLine) : dAdd (.tuple xs) (.tuple ys) = some (.tuple (xs ++ ys)) := if_pos h
@[simp] theorem dSub_i {i j : Int} : dSub (.int i) (.int j) = some (.int (i - j)) := rfl
@[simp] theorem dNeg_i {i : Int} : dNeg (.int i) = some (.int (-i)) := rfl
theorem dMod_i {i j : Int} (h : 0 < j) : dMod (.int i) (.int j) = some (.int (i % j)) := if_pos h
@[simp] theorem dLt_i {i j : Int} : dLt (.int i) (.int j) = some (.bool (decide (i < j))) := rfl
@[simp] theorem dLe_i {i j : Int} : dLe (.int i) (.int j) = some (.bool (decide (i ≤ j))) := rfl
@[simp] theorem dGt_i {i j : Int} : dGt (.int i) (.int j) = some (.bool (decide (i > j))) := rfl
@[simp] theorem dGe_i {i j : Int} : dGe (.int i) (.int j) = some (.bool (decide (i ≥ j))) := rfl
@[simp] theorem dMax2_i {i j : Int} : dMax2 (.int i) (.int j) = some (.int (if j > i then j else i)) := rfl
@[simp] theorem shaped_i {i : Int} : SeqAt.shaped (.int i) = true := rfl
@[simp] theorem shaped_b {b : Bool} : SeqAt.shaped (.bool b) = true := rfl
@[simp] theorem shaped_n : SeqAt.shaped .none = true := rfl
@[simp] theorem dEq_i {i j : Int} : dEq (.int i) (.int j) = some (.bool (i == j)) := rfl
@[simp] theorem dNe_i {i j : Int} : dNe (.int i) (.int j) = some (.bool (!(i == j))) := rfl
theorem dEq_s {i j : Str} (h1 : SeqAt.shaped (.str i) = true) (h2 : SeqAt.shaped (.str j) = true) : dEq (.str i) (.str j) = some (.bool (i == j)) := if_pos (by rw [h1, h2]; rfl)
theorem dNe_s {i j : Str} (h1 : SeqAt.shaped (.str i) = true) (h2 : SeqAt.shaped (.str j) = true) : dNe (.str i) (.str j) = some (.bool (!(i == j))) := if_pos (by rw [h1, h2]; rfl)
@[simp] theorem dTup2_t {x y : D} : dTup2 (.tuple [x, y]) = some (x, y) := rfl
@[simp] theorem dTup3_t {x y z : D} : dTup3 (.tuple [x, y, z]) = some (x, y, z) := rfl
@[simp] theorem dIs_ii {i : Int} : dIs "int" (.int i) = some true := rfl
@[simp] theorem dIs_bi {i : Int} : dIs "bool" (.int i) = some false := rfl
@[simp] theorem dIs_tt {xs : List D} : dIs "tuple" (.tuple xs) = some true := rfl
@[simp] theorem dIs_ss {x : Str} : dIs "str" (.str x) = some true := rfl
theorem atI_nat {α : Type} {xs : List α} {j : Nat} : atI xs (j : Int) = xs[j]? := by
  unfold atI ixN
  rw [if_pos (by omega)]
  by_cases h : j < xs.length
  · rw [if_pos (by omega)]
    simp
  · rw [if_neg (by omega)]
    simp
    omega
@[simp] theorem dIx_t {xs : List D} {j : Nat} : dIx (.tuple xs) (.int (j : Nat)) = xs[j]? := atI_nat
@[simp] theorem dIx_l {xs : List D} {j : Nat} : dIx (.list xs) (.int (j : Nat)) = xs[j]? := atI_nat
@[simp] theorem dIx_t0 {xs : List D} : dIx (.tuple xs) (.int 0) = xs[0]? := dIx_t (j := 0)
@[simp] theorem dIx_t1 {xs : List D} : dIx (.tuple xs) (.int 1) = xs[1]? := dIx_t (j := 1)
@[simp] theorem dIx_t2 {xs : List D} : dIx (.tuple xs) (.int 2) = xs[2]? := dIx_t (j := 2)
@[simp] theorem dIx_l0 {xs : List D} : dIx (.list xs) (.int 0) = xs[0]? := dIx_l (j := 0)
@[simp] theorem dIx_l1 {xs : List D} : dIx (.list xs) (.int 1) = xs[1]? := dIx_l (j := 1)
theorem small62 {j : Nat} (h : j < 1000000000) : (j : Int) < 2 ^ 62 := Int.lt_trans (Int.ofNat_lt.mpr h) (by decide)
theorem dIxN_t' {xs : List D} {j : Nat} (h : (j : Int) < 2 ^ 62) : dIxN (.tuple xs) (.int (j : Nat)) = xs[j]? := by
  unfold dIxN
  rw [show dItems (.tuple xs) = some xs from rfl, show dInt (.int (j : Int)) = some (j : Int) from rfl, Option.bind_some, Option.bind_some]
  rw [if_pos ⟨Int.natCast_nonneg j, h⟩, Int.toNat_natCast]
theorem dIxN_t {xs : List D} {j : Nat} (h : j < 1000000000) : dIxN (.tuple xs) (.int (j : Nat)) = xs[j]? := dIxN_t' (small62 h)
@[simp] theorem dIxN_t0 {xs : List D} : dIxN (.tuple xs) (.int 0) = xs[0]? := by
  rw [show (0 : Int) = ((0 : Nat) : Int) from rfl]
  exact dIxN_t (by omega)
@[simp] theorem dIxN_t1 {xs : List D} : dIxN (.tuple xs) (.int 1) = xs[1]? := by
  rw [show (1 : Int) = ((1 : Nat) : Int) from rfl]
  exact dIxN_t (by omega)
theorem dRange_n {n : Nat} (h : n < 1000000000) : dRange 0 (n : Int) = some ((List.range n).map eN) := by
  unfold dRange
  rw [if_pos ⟨by decide, by decide, Int.le_trans (by decide) (Int.natCast_nonneg n), small62 h⟩]
  simp
theorem dRg_n {n : Nat} (h : n ≤ 4000) : dRg 0 (n : Int) = some ((List.range n).map eN) := by
  unfold dRg
  have : RgOk 0 (n : Int) := by
    unfold RgOk
    have := sizeLine_eq
    omega
  rw [if_pos this]
  simp
theorem sum_map_cast {α : Type} {f : α → Int} {xs : List α} : dInts (xs.map fun x => .int (f x)) = some (xs.map f) := by
  induction xs with
  | nil => rfl
  | cons x r ih => simp [dInts, ih]
theorem dSum_l {α : Type} {f : α → Int} {xs : List α} : dSum (.list (xs.map fun x => .int (f x))) = some (.int (xs.map f).sum) := by
  unfold dSum
  simp only [sum_map_cast, Option.map_some]

/-! ### loops over encoded items -/
theorem mapF_o {α β : Type} {e : α → D} {f : D → Option (Option β)} {g : α → Option β} : ∀ {xs : List α}, (∀ x ∈ xs, f (e x) = some (g x)) → mapF f (xs.map e) = some (xs.filterMap g)
  | [], _ => rfl
  | x :: xs, h => by
    have h1 := h x (by simp)
    have h2 := mapF_o (xs := xs) fun y hy => h y (by simp [hy])
    simp only [List.map_cons, mapF, bnd_o, h1, h2, Option.bind_some, ret_o]
    cases q : g x <;> simp [q]
theorem filterMap_if {α β : Type} {p : α → Bool} {g : α → β} : ∀ {xs : List α}, xs.filterMap (fun x => if p x then some (g x) else none) = (xs.filter p).map g
  | [] => rfl
  | x :: xs => by
    rw [List.filterMap_cons, List.filter_cons]
    cases q : p x <;> simp [filterMap_if]
theorem compF_o {α γ : Type} {e : α → D} {mb : D → Option γ} {mt : γ → Option Bool} {me : γ → Option D} {xs : List α} (c : α → γ) (p : α → Bool) (g : α → D) (hl : xs.length ≤ sizeLine) (hb : ∀ x ∈ xs, mb (e x) = some (c x)) (ht : ∀ x ∈ xs, mt (c x) = some (p x)) (he : ∀ x ∈ xs, p x = true → me (c x) = some (g x)) :
    compF mb mt me (xs.map e) = some ((xs.filter p).map g) := by
  unfold compF dSz
  simp only [List.length_map, if_pos hl, bnd_o, lift_o, Option.bind_some]
  rw [mapF_o (g := fun x => if p x then some (g x) else none), filterMap_if]
  intro x hx
  unfold stepF
  simp only [bnd_o, hb x hx, ht x hx, Option.bind_some, ret_o]
  cases q : p x
  · simp
  · simp [he x hx q]
/-- all taken -/
theorem compF_a {α γ : Type} {e : α → D} {mb : D → Option γ} {mt : γ → Option Bool} {me : γ → Option D} {xs : List α} (c : α → γ) (g : α → D) (hl : xs.length ≤ sizeLine) (hb : ∀ x ∈ xs, mb (e x) = some (c x)) (ht : ∀ x ∈ xs, mt (c x) = some true) (he : ∀ x ∈ xs, me (c x) = some (g x)) :
    compF mb mt me (xs.map e) = some (xs.map g) := by
  rw [compF_o c (fun _ => true) g hl hb ht fun x hx _ => he x hx, List.filter_eq_self.mpr (fun _ _ => rfl)]
theorem anyL_o {α : Type} {e : α → D} {b : Bool} {f : D → Option (Option D)} {q : α → Bool} : ∀ {xs : List α}, (∀ x ∈ xs, f (e x) = some (some (.bool (q x)))) → anyL b f (xs.map e) = some (.bool (if xs.any (fun x => q x == b) then b else !b))
  | [], _ => rfl
  | x :: xs, h => by
    have h1 := h x (by simp)
    have h2 := anyL_o (b := b) (xs := xs) fun y hy => h y (by simp [hy])
    simp only [List.map_cons, anyL, bnd_o, lift_o, h1, dBool_b, Option.bind_some, ret_o, h2, List.any_cons]
    by_cases z : (q x == b) = true <;> simp [z]
theorem allF_o {α γ : Type} {e : α → D} {mb : D → Option γ} {mt : γ → Option Bool} {me : γ → Option D} {xs : List α} (c : α → γ) (q : α → Bool) (hb : ∀ x ∈ xs, mb (e x) = some (c x)) (ht : ∀ x ∈ xs, mt (c x) = some true) (he : ∀ x ∈ xs, me (c x) = some (.bool (q x))) :
    allF mb mt me (xs.map e) = some (.bool (xs.all q)) := by
  unfold allF anyF
  rw [anyL_o (q := q)]
  · have : xs.any (fun x => q x == false) = !xs.all q := by
      induction xs with
      | nil => rfl
      | cons x r ih => simp_all
    rw [this]
    cases xs.all q <;> rfl
  · intro x hx
    unfold stepF
    simp [bnd_o, hb x hx, ht x hx, he x hx, ret_o]
theorem anyF_o {α γ : Type} {e : α → D} {mb : D → Option γ} {mt : γ → Option Bool} {me : γ → Option D} {xs : List α} (c : α → γ) (q : α → Bool) (hb : ∀ x ∈ xs, mb (e x) = some (c x)) (ht : ∀ x ∈ xs, mt (c x) = some true) (he : ∀ x ∈ xs, me (c x) = some (.bool (q x))) :
    anyF true mb mt me (xs.map e) = some (.bool (xs.any q)) := by
  unfold anyF
  rw [anyL_o (q := q)]
  · have : xs.any (fun x => q x == true) = xs.any q := by
      congr 1
      funext x
      cases q x <;> rfl
    rw [this]
    cases xs.any q <;> rfl
  · intro x hx
    unfold stepF
    simp [bnd_o, hb x hx, ht x hx, he x hx, ret_o]
/-- a loop that ends of itself -/
theorem forF_o {α β σ γ : Type} {e : α → D} {E : σ → β} {f : β → D → Option (Fl β β)} {step : σ → α → σ} (I : σ → Prop) : ∀ {xs : List α} {s : σ}, I s → (∀ x ∈ xs, ∀ s, I s → I (step s x) ∧ f (E s) (e x) = some (.nx (E (step s x)))) → forF (γ := γ) f (xs.map e) (E s) = some (.nx (E (xs.foldl step s)))
  | [], _, _, _ => rfl
  | x :: xs, s, hI, h => by
    obtain ⟨h1, h2⟩ := h x (by simp) s hI
    simp only [List.map_cons, forF, bnd_o, h2, Option.bind_some, List.foldl_cons]
    exact forF_o I h1 fun y hy => h y (by simp [hy])
/-- a loop that hands out at the first item found -/
theorem forF_f {α β γ : Type} {e : α → D} {f : β → D → Option (Fl β β)} {b : β} {p : α → Bool} {r : α → D} : ∀ {xs : List α}, (∀ x ∈ xs, f b (e x) = some (if p x then .rt (r x) else .nx b)) → forF (γ := γ) f (xs.map e) b = some (match xs.find? p with | some x => .rt (r x) | none => .nx b)
  | [], _ => rfl
  | x :: xs, h => by
    have h1 := h x (by simp)
    have h2 := forF_f (γ := γ) (xs := xs) fun y hy => h y (by simp [hy])
    simp only [List.map_cons, forF, bnd_o, h1, Option.bind_some, List.find?_cons]
    cases q : p x
    · simpa [q] using h2
    · simp [q]
end PL
end pm1_
section pm2_
set_option maxRecDepth 100000
set_option maxHeartbeats 2000000
/-! plain reckoning: sorted, min, max of encoded values -/
namespace PL
open PySem PySem.Spec PyProof.Rows L2 PySem.W
open Mir (ret bnd lift)
def le1 {α : Type} (f : α → Int) (a b : α) : Bool := decide (f a ≤ f b)
def le2 {α : Type} (f g : α → Int) (a b : α) : Bool := decide (f a < f b ∨ (f a = f b ∧ g a ≤ g b))
abbrev e2 (a b : Int) : D := .tuple [.int a, .int b]
theorem depth_i {i : Int} : (PyData.int i).depth = 0 := by simp [PyData.depth]
theorem depth_s {i : Str} : (PyData.str i).depth = 0 := by simp [PyData.depth]
theorem depth_e2 {a b : Int} : (e2 a b).depth = 1 := by simp [PyData.depth, PyData.depthAll]
theorem alike_i {i j : Int} : alike (.int i) (.int j) = true := rfl
theorem alike_e2 {a b c d : Int} : alike (e2 a b) (e2 c d) = true := rfl
theorem all_map' {α : Type} {f : α → D} {p : D → Bool} {xs : List α} (h : ∀ x ∈ xs, p (f x) = true) : (xs.map f).all p = true := by
  rw [List.all_eq_true]
  intro y hy
  obtain ⟨x, hx, rfl⟩ := List.mem_map.mp hy
  exact h x hx
theorem alikeB_m {α : Type} {f : α → D} {xs : List α} (h : ∀ x ∈ xs, ∀ y ∈ xs, alike (f x) (f y) = true) : alikeB (xs.map f) = true :=
  all_map' fun x hx => all_map' fun y hy => h x hx y hy
theorem dSort_i {α : Type} {f : α → Int} {xs : List α} : dSort (xs.map fun x => .int (f x)) = some ((xs.mergeSort (le1 f)).map fun x => .int (f x)) := by
  unfold dSort
  rw [alikeB_m fun _ _ _ _ => alike_i, show sortB (xs.map fun x => PyData.int (f x)) = true from ?_, show depB (xs.map fun x => PyData.int (f x)) = true from all_map' fun x _ => by rw [depth_i]; rfl, Bool.and_true, Bool.and_true, if_pos rfl]
  · refine congrArg some ?_
    refine (List.map_mergeSort fun a _ b _ => ?_).symm
    have := congrFun (congrFun (dataLe_int (fun d : Int => d)) (f a)) (f b)
    exact this.symm
  · unfold sortB
    rw [show (xs.map fun x => PyData.int (f x)).all isPlainK = true from all_map' fun _ _ => rfl, Bool.or_true]
theorem dSort_2 {α : Type} {f g : α → Int} {xs : List α} : dSort (xs.map fun x => e2 (f x) (g x)) = some ((xs.mergeSort (le2 f g)).map fun x => e2 (f x) (g x)) := by
  unfold dSort
  rw [alikeB_m fun _ _ _ _ => alike_e2, show sortB (xs.map fun x => e2 (f x) (g x)) = true from ?_, show depB (xs.map fun x => e2 (f x) (g x)) = true from all_map' fun x _ => by rw [depth_e2]; rfl, Bool.and_true, Bool.and_true, if_pos rfl]
  · refine congrArg some ?_
    refine (List.map_mergeSort fun a _ b _ => ?_).symm
    have := congrFun (congrFun (dataLe_ii (fun d : Int × Int => d.1) fun d => d.2) (f a, g a)) (f b, g b)
    exact this.symm
  · unfold sortB
    rw [show (xs.map fun x => e2 (f x) (g x)).all isTup1 = true from all_map' fun _ _ => rfl, Bool.true_or]
theorem dSortK_i {α : Type} {e : α → D} {f : α → Int} {kf : D → Option D} {xs : List α} (h : ∀ x ∈ xs, kf (e x) = some (.int (f x))) : dSortK kf (xs.map e) = some ((xs.mergeSort (le1 f)).map e) := by
  unfold dSortK
  have hk : ∀ x ∈ xs, keyD kf (e x) = .int (f x) := fun x hx => by unfold keyD; rw [h x hx]; rfl
  have hm : (xs.map e).map (keyD kf) = xs.map fun x => .int (f x) := by
    rw [List.map_map]
    exact List.map_congr_left hk
  rw [hm, alikeB_m fun _ _ _ _ => alike_i, show sortB (xs.map fun x => PyData.int (f x)) = true from ?_, show (xs.map e).all (keyB kf) = true from all_map' fun x hx => by unfold keyB; rw [h x hx]; simp [depth_i]; rfl, Bool.and_true, Bool.and_true, if_pos rfl]
  · refine congrArg some ?_
    refine (List.map_mergeSort fun a ha b hb => ?_).symm
    have := congrFun (congrFun (dataLe_int (fun d : Int => d)) (f a)) (f b)
    rw [dataLe_eq] at this ⊢
    simp only [hk a ha, hk b hb]
    exact this.symm
  · unfold sortB
    rw [show (xs.map fun x => PyData.int (f x)).all isPlainK = true from all_map' fun _ _ => rfl, Bool.or_true]
theorem dSortK_2 {α : Type} {e : α → D} {f g : α → Int} {kf : D → Option D} {xs : List α} (h : ∀ x ∈ xs, kf (e x) = some (e2 (f x) (g x))) : dSortK kf (xs.map e) = some ((xs.mergeSort (le2 f g)).map e) := by
  unfold dSortK
  have hk : ∀ x ∈ xs, keyD kf (e x) = e2 (f x) (g x) := fun x hx => by unfold keyD; rw [h x hx]; rfl
  have hm : (xs.map e).map (keyD kf) = xs.map fun x => e2 (f x) (g x) := by
    rw [List.map_map]
    exact List.map_congr_left hk
  rw [hm, alikeB_m fun _ _ _ _ => alike_e2, show sortB (xs.map fun x => e2 (f x) (g x)) = true from ?_, show (xs.map e).all (keyB kf) = true from all_map' fun x hx => by unfold keyB; rw [h x hx]; simp [depth_e2]; rfl, Bool.and_true, Bool.and_true, if_pos rfl]
  · refine congrArg some ?_
    refine (List.map_mergeSort fun a ha b hb => ?_).symm
    have := congrFun (congrFun (dataLe_ii (fun d : Int × Int => d.1) fun d => d.2) (f a, g a)) (f b, g b)
    rw [dataLe_eq] at this ⊢
    simp only [hk a ha, hk b hb]
    exact this.symm
  · unfold sortB
    rw [show (xs.map fun x => e2 (f x) (g x)).all isTup1 = true from all_map' fun _ _ => rfl, Bool.true_or]
/-- min and max hand out one of the items -/
theorem minD_mem (d : D) (r : List D) : minD d r ∈ d :: r := by
  unfold minD
  induction r generalizing d with
  | nil => simp
  | cons y r ih =>
    rw [List.foldl_cons]
    have := ih (if dataLt y d then y else d)
    rcases List.mem_cons.mp this with q | q
    · rw [q]
      split <;> simp
    · simp [q]
theorem minB_i {α : Type} {f : α → Int} {xs : List α} : minB (xs.map fun x => .int (f x)) = true := by
  unfold minB
  rw [alikeB_m fun _ _ _ _ => alike_i, show (xs.map fun x => PyData.int (f x)).all (fun d => !isNone d) = true from all_map' fun _ _ => rfl]
  have : PyData.depthAll (xs.map fun x => PyData.int (f x)) = 0 := by
    induction xs with
    | nil => simp [PyData.depthAll]
    | cons x r ih => simp [PyData.depthAll, PyData.depth, ih]
  rw [this]
  rfl
theorem minB_2 {α : Type} {f g : α → Int} {xs : List α} : minB (xs.map fun x => e2 (f x) (g x)) = true := by
  unfold minB
  rw [alikeB_m fun _ _ _ _ => alike_e2, show (xs.map fun x => e2 (f x) (g x)).all (fun d => !isNone d) = true from all_map' fun _ _ => rfl]
  have : PyData.depthAll (xs.map fun x => e2 (f x) (g x)) ≤ 1 := by
    induction xs with
    | nil => simp [PyData.depthAll]
    | cons x r ih =>
      rw [List.map_cons, PyData.depthAll, depth_e2]
      omega
  have : decide (PyData.depthAll (xs.map fun x => e2 (f x) (g x)) ≤ 60) = true := by rw [decide_eq_true_iff]; omega
  rw [this]
  rfl
/-- the least of a list -/
def minI (xs : List Int) : Int := match xs with | [] => 0 | x :: r => r.foldl min x
def maxI (xs : List Int) : Int := match xs with | [] => 0 | x :: r => r.foldl max x
theorem foldl_min_le (r : List Int) : ∀ x, r.foldl min x ≤ x ∧ ∀ y ∈ r, r.foldl min x ≤ y := by
  induction r with
  | nil => intro x; exact ⟨Int.le_refl x, fun y h => nomatch h⟩
  | cons z r ih =>
    intro x
    obtain ⟨h1, h2⟩ := ih (min x z)
    rw [List.foldl_cons]
    refine ⟨by omega, fun y hy => ?_⟩
    rcases List.mem_cons.mp hy with rfl | hy
    · omega
    · exact h2 y hy
theorem foldl_max_le (r : List Int) : ∀ x, x ≤ r.foldl max x ∧ ∀ y ∈ r, y ≤ r.foldl max x := by
  induction r with
  | nil => intro x; exact ⟨Int.le_refl x, fun y h => nomatch h⟩
  | cons z r ih =>
    intro x
    obtain ⟨h1, h2⟩ := ih (max x z)
    rw [List.foldl_cons]
    refine ⟨by omega, fun y hy => ?_⟩
    rcases List.mem_cons.mp hy with rfl | hy
    · omega
    · exact h2 y hy
theorem foldl_min_mem (r : List Int) : ∀ x, r.foldl min x = x ∨ r.foldl min x ∈ r := by
  induction r with
  | nil => intro x; exact .inl rfl
  | cons z r ih =>
    intro x
    rw [List.foldl_cons]
    rcases ih (min x z) with h | h
    · rw [h]
      by_cases q : x ≤ z
      · left; omega
      · right; rw [show min x z = z by omega]; simp
    · right; simp [h]
theorem foldl_max_mem (r : List Int) : ∀ x, r.foldl max x = x ∨ r.foldl max x ∈ r := by
  induction r with
  | nil => intro x; exact .inl rfl
  | cons z r ih =>
    intro x
    rw [List.foldl_cons]
    rcases ih (max x z) with h | h
    · rw [h]
      by_cases q : z ≤ x
      · left; omega
      · right; rw [show max x z = z by omega]; simp
    · right; simp [h]
theorem minI_le {xs : List Int} {y : Int} (h : y ∈ xs) : minI xs ≤ y := by
  cases xs with
  | nil => cases h
  | cons x r =>
    rcases List.mem_cons.mp h with rfl | h
    · exact (foldl_min_le r _).1
    · exact (foldl_min_le r _).2 y h
theorem le_maxI {xs : List Int} {y : Int} (h : y ∈ xs) : y ≤ maxI xs := by
  cases xs with
  | nil => cases h
  | cons x r =>
    rcases List.mem_cons.mp h with rfl | h
    · exact (foldl_max_le r _).1
    · exact (foldl_max_le r _).2 y h
theorem minI_mem {xs : List Int} (h : xs ≠ []) : minI xs ∈ xs := by
  cases xs with
  | nil => exact absurd rfl h
  | cons x r =>
    rcases foldl_min_mem r x with q | q
    · show r.foldl min x ∈ _
      rw [q]; simp
    · exact List.mem_cons_of_mem _ q
theorem maxI_mem {xs : List Int} (h : xs ≠ []) : maxI xs ∈ xs := by
  cases xs with
  | nil => exact absurd rfl h
  | cons x r =>
    rcases foldl_max_mem r x with q | q
    · show r.foldl max x ∈ _
      rw [q]; simp
    · exact List.mem_cons_of_mem _ q
theorem maxI_eq {xs : List Int} {m : Int} (h : m ∈ xs) (hm : ∀ y ∈ xs, y ≤ m) : maxI xs = m :=
  Int.le_antisymm (hm _ (maxI_mem (List.ne_nil_of_mem h))) (le_maxI h)
theorem minI_eq {xs : List Int} {m : Int} (h : m ∈ xs) (hm : ∀ y ∈ xs, m ≤ y) : minI xs = m :=
  Int.le_antisymm (minI_le h) (hm _ (minI_mem (List.ne_nil_of_mem h)))
theorem dMin_i {α : Type} {f : α → Int} {x : D} {xs : List α} (hx : dItems x = some (xs.map fun x => .int (f x))) (h : xs ≠ []) : dMin x = some (.int (minI (xs.map f))) := by
  unfold dMin
  rw [hx, Option.bind_some]
  cases xs with
  | nil => exact absurd rfl h
  | cons x r =>
    show (if minB ((x :: r).map fun x => .int (f x)) = true then some (minD (.int (f x)) (r.map fun x => .int (f x))) else none) = _
    rw [minB_i, if_pos rfl]
    have := minD_ints (f x) (r.map f)
    rw [List.map_map] at this
    exact congrArg some this
theorem dMax_i {α : Type} {f : α → Int} {x : D} {xs : List α} (hx : dItems x = some (xs.map fun x => .int (f x))) (h : xs ≠ []) : dMax x = some (.int (maxI (xs.map f))) := by
  unfold dMax
  rw [hx, Option.bind_some]
  cases xs with
  | nil => exact absurd rfl h
  | cons x r =>
    show (if minB ((x :: r).map fun x => .int (f x)) = true then some (maxD (.int (f x)) (r.map fun x => .int (f x))) else none) = _
    rw [minB_i, if_pos rfl]
    have := maxD_ints (f x) (r.map f)
    rw [List.map_map] at this
    exact congrArg some this
theorem dMin_2 {α : Type} {f g : α → Int} {x : D} {xs : List α} (hx : dItems x = some (xs.map fun x => e2 (f x) (g x))) (h : xs ≠ []) : ∃ y ∈ xs, dMin x = some (e2 (f y) (g y)) := by
  unfold dMin
  rw [hx, Option.bind_some]
  cases xs with
  | nil => exact absurd rfl h
  | cons x r =>
    have hm := minD_mem (e2 (f x) (g x)) (r.map fun x => e2 (f x) (g x))
    obtain ⟨y, hy, e⟩ := List.mem_map.mp (show minD (e2 (f x) (g x)) (r.map fun x => e2 (f x) (g x)) ∈ (x :: r).map fun x => e2 (f x) (g x) from hm)
    refine ⟨y, hy, ?_⟩
    show (if minB ((x :: r).map fun x => e2 (f x) (g x)) = true then some (minD (e2 (f x) (g x)) (r.map fun x => e2 (f x) (g x))) else none) = _
    rw [minB_2, if_pos rfl, e]
theorem le1_sorted {α : Type} {f : α → Int} (xs : List α) : (xs.mergeSort (le1 f)).Pairwise fun a b => f a ≤ f b := by
  have := List.pairwise_mergeSort (le := le1 f) (fun a b c h1 h2 => by simp [le1] at *; omega) (fun a b => by simp [le1]; omega) xs
  exact this.imp fun h => by simpa [le1] using h
theorem le2_sorted {α : Type} {f g : α → Int} (xs : List α) : (xs.mergeSort (le2 f g)).Pairwise fun a b => f a < f b ∨ (f a = f b ∧ g a ≤ g b) := by
  have := List.pairwise_mergeSort (le := le2 f g) (fun a b c h1 h2 => by simp [le2] at *; omega) (fun a b => by simp [le2]; omega) xs
  exact this.imp fun h => by simpa [le2] using h
end PL
end pm2_
section pm3_
set_option maxRecDepth 100000
set_option maxHeartbeats 2000000
/-! plain reckoning: lists -/
namespace PL
open PySem PySem.Spec PyProof.Rows L2 PySem.W
open Mir (ret bnd lift)
theorem nodup_le {α : Type} [DecidableEq α] : ∀ {xs ys : List α}, xs.Nodup → (∀ x ∈ xs, x ∈ ys) → xs.length ≤ ys.length
  | [], _, _, _ => Nat.zero_le _
  | x :: xs, ys, h, hs => by
    rw [List.nodup_cons] at h
    have hx := hs x (by simp)
    have h1 : xs.length ≤ (ys.erase x).length := nodup_le h.2 fun y hy => by
      have hne : y ≠ x := fun z => h.1 (z ▸ hy)
      exact (List.mem_erase_of_ne hne).mpr (hs y (by simp [hy]))
    rw [List.length_erase_of_mem hx] at h1
    have : 0 < ys.length := List.length_pos_of_mem hx
    simp only [List.length_cons]
    omega
theorem nodup_len {α : Type} [DecidableEq α] {xs ys : List α} (h : xs.Nodup) (h' : ys.Nodup) (e : ∀ x, x ∈ xs ↔ x ∈ ys) : xs.length = ys.length :=
  Nat.le_antisymm (nodup_le h fun x hx => (e x).mp hx) (nodup_le h' fun x hx => (e x).mpr hx)
theorem distinct_len {ns : List Int} (h : ns.Nodup) : (distinct ns).length = ns.length := by
  obtain ⟨h1, h2⟩ := distinct_aux ns [] List.nodup_nil
  exact nodup_len h1 h fun x => by
    rw [show distinct ns = ns.foldl (fun acc x => if acc.any (· == x) then acc else acc ++ [x]) [] from rfl, h2]
    simp
theorem dLenSet_i {α : Type} {f : α → Int} {x : D} {xs : List α} (hx : dItems x = some (xs.map fun x => .int (f x))) (hl : xs.length ≤ 4000) (hn : (xs.map f).Nodup) : dLenSet x = some (.int xs.length) := by
  unfold dLenSet
  rw [hx, Option.bind_some, sum_map_cast, Option.bind_some, if_pos (by simpa using hl), distinct_len hn]
  simp
theorem canLayAll_i {α : Type} {f : α → Int} : ∀ {xs : List α}, PyData.canLayAll0 (xs.map fun x => .int (f x)) = true
  | [] => by simp [PyData.canLayAll0]
  | x :: xs => by
    rw [List.map_cons, PyData.canLayAll0, PyData.canLay0, canLayAll_i]
    rfl
theorem depthAll_i {α : Type} {f : α → Int} : ∀ {xs : List α}, PyData.depthAll (xs.map fun x => .int (f x)) = 0
  | [] => by simp [PyData.depthAll]
  | x :: xs => by
    rw [List.map_cons, PyData.depthAll, depth_i, depthAll_i]
    rfl
theorem shaped_li {α : Type} {f : α → Int} {xs : List α} : SeqAt.shaped (.list (xs.map fun x => .int (f x))) = true := by
  unfold SeqAt.shaped
  rw [PyData.canLay0, canLayAll_i, PyData.depth, depthAll_i]
  rfl
theorem shaped_ti {α : Type} {f : α → Int} {xs : List α} : SeqAt.shaped (.tuple (xs.map fun x => .int (f x))) = true := by
  unfold SeqAt.shaped
  rw [PyData.canLay0, canLayAll_i, PyData.depth, depthAll_i]
  rfl
@[simp] theorem eqv_i {i j : Int} : PyData.eqv (.int i) (.int j) = (i == j) := by rw [PyData.eqv]
theorem dIndex_n {xs : List Nat} {j : Nat} (h : j ∈ xs) : dIndex (xs.map eN) (.int (j : Int)) = some (.int (xs.findIdx (· == j))) := by
  unfold dIndex
  rw [shaped_li, shaped_i, Bool.and_true, if_pos rfl, List.findIdx?_map]
  have : ((fun z => PyData.eqv z (.int (j : Int))) ∘ eN) = fun k => k == j := by
    funext k
    simp only [Function.comp, eqv_i]
    rw [Bool.eq_iff_iff]
    simp
    omega
  rw [this]
  have h2 : xs.findIdx? (fun k => k == j) = some (xs.findIdx (· == j)) := by
    rw [List.findIdx?_eq_some_iff_findIdx_eq]
    refine ⟨?_, rfl⟩
    exact List.findIdx_lt_length_of_exists ⟨j, h, by simp⟩
  rw [h2]
  rfl
theorem any_eqn {S : List Nat} {j : Nat} : ((S.map eN).any fun z => PyData.eqv z (.int (j : Int))) = S.contains j := by
  rw [List.any_map, List.contains_eq_any_beq]
  congr 1
  funext k
  simp only [Function.comp, eqv_i]
  rw [Bool.eq_iff_iff]
  simp
  omega
theorem dIn_n {S : List Nat} {j : Nat} : dIn (.int (j : Int)) (.tuple (S.map eN)) = some (.bool (S.contains j)) := by
  show (if (dFlat (.int (j : Int)) && (S.map eN).all dFlat) = true then _ else _) = _
  rw [show (S.map eN).all dFlat = true from all_map' fun _ _ => rfl, show dFlat (.int (j : Int)) = true from rfl, Bool.and_true, if_pos rfl, any_eqn]
theorem dIn_ln {S : List Nat} {j : Nat} : dIn (.int (j : Int)) (.list (S.map eN)) = some (.bool (S.contains j)) := by
  show (if (SeqAt.shaped (.int (j : Int)) && SeqAt.shaped (.list (S.map eN))) = true then _ else _) = _
  rw [shaped_li, shaped_i, Bool.and_true, if_pos rfl, any_eqn]
theorem findIdx_inj {xs : List Nat} {i j : Nat} (hi : i ∈ xs) (hj : j ∈ xs) (h : xs.findIdx (· == i) = xs.findIdx (· == j)) : i = j := by
  have h1 : xs.findIdx (· == i) < xs.length := List.findIdx_lt_length_of_exists ⟨i, hi, by simp⟩
  have h2 : xs.findIdx (· == j) < xs.length := List.findIdx_lt_length_of_exists ⟨j, hj, by simp⟩
  have e1 : xs[xs.findIdx (· == i)] = i := by simpa using List.findIdx_getElem (w := h1)
  have e2 : xs[xs.findIdx (· == j)] = j := by simpa using List.findIdx_getElem (w := h2)
  rw [← e1, ← e2]
  congr 1
theorem nodup_map {α β : Type} {f : α → β} : ∀ {xs : List α}, xs.Nodup → (∀ x ∈ xs, ∀ y ∈ xs, f x = f y → x = y) → (xs.map f).Nodup
  | [], _, _ => List.nodup_nil
  | x :: xs, h, hf => by
    rw [List.nodup_cons] at h
    rw [List.map_cons, List.nodup_cons]
    refine ⟨fun z => ?_, nodup_map h.2 fun a ha b hb => hf a (by simp [ha]) b (by simp [hb])⟩
    obtain ⟨y, hy, e⟩ := List.mem_map.mp z
    have := hf y (by simp [hy]) x (by simp) e
    exact h.1 (this ▸ hy)
/-- before the place of j in a sorted list only what is not above j -/
theorem idx_count {xs : List Nat} {le : Nat → Nat → Bool} (hs : xs.Pairwise fun a b => le a b = true) {j : Nat} (hj : j ∈ xs) {p : Nat → Bool} (hp : ∀ i, le i j = true → p i = true) (hpj : p j = true) : xs.findIdx (· == j) + 1 ≤ xs.countP p := by
  induction xs with
  | nil => cases hj
  | cons x r ih =>
    rw [List.pairwise_cons] at hs
    by_cases e : x = j
    · subst e
      rw [List.findIdx_cons]
      simp [hpj]
    · have hj2 : j ∈ r := by
        rcases List.mem_cons.mp hj with z | z
        · exact absurd z.symm e
        · exact z
      have := ih hs.2 hj2
      rw [List.findIdx_cons, List.countP_cons, hp x (hs.1 j hj2)]
      rw [show (x == j) = false by simpa using e]
      simp only [cond_false, if_true]
      omega
end PL
end pm3_
section pm4_
set_option maxRecDepth 100000
set_option maxHeartbeats 2000000
/-! plain reckoning: loops with an invariant, draws -/
namespace PL
open PySem PySem.Spec PyProof.Rows L2 PySem.W
open Mir (ret bnd lift)
/-- a loop by an invariant over what is behind -/
theorem forF_inv {α β γ : Type} {e : α → D} {f : β → D → Option (Fl β β)} (I : List α → β → Prop) : ∀ (pre : List α) {xs : List α} {b : β}, I pre b → (∀ p x post, pre ++ xs = p ++ x :: post → pre.length ≤ p.length → ∀ b, I p b → ∃ b', f b (e x) = some (.nx b') ∧ I (p ++ [x]) b') → ∃ b', forF (γ := γ) f (xs.map e) b = some (.nx b') ∧ I (pre ++ xs) b'
  | pre, [], b, hI, _ => ⟨b, rfl, by rwa [List.append_nil]⟩
  | pre, x :: xs, b, hI, h => by
    obtain ⟨b1, h1, h2⟩ := h pre x xs rfl (Nat.le_refl _) b hI
    obtain ⟨b2, h3, h4⟩ := forF_inv (γ := γ) I (pre ++ [x]) (xs := xs) h2 fun p y post hp hl b hb => h p y post (by rw [← hp]; simp) (by simp at hl; omega) b hb
    refine ⟨b2, ?_, by simpa using h4⟩
    simp only [List.map_cons, forF, bnd_o, h1, Option.bind_some]
    exact h3
theorem forF_w {α β γ : Type} {e : α → D} {f : β → D → WP (Fl β β)} (I : List α → β → Prop) : ∀ (pre : List α) {xs : List α} {b : β}, I pre b → (∀ p x post, pre ++ xs = p ++ x :: post → pre.length ≤ p.length → ∀ b, I p b → ∀ K : Fl β β → Prop, (∀ b', I (p ++ [x]) b' → K (.nx b')) → f b (e x) K) → ∀ {k : Fl γ β → Prop}, (∀ b', I (pre ++ xs) b' → k (.nx b')) → forF (γ := γ) f (xs.map e) b k
  | pre, [], b, hI, _, k, hk => hk b (by rwa [List.append_nil])
  | pre, x :: xs, b, hI, h, k, hk => by
    simp only [List.map_cons, forF]
    refine h pre x xs rfl (Nat.le_refl _) b hI _ fun b1 h1 => ?_
    exact forF_w I (pre ++ [x]) h1 (fun p y post hp hl b hb => h p y post (by rw [← hp]; simp) (by simp at hl; omega) b hb) fun b' hb' => hk b' (by simpa using hb')
/-- a comprehension that draws in its test: some part is taken -/
theorem mapF_wsub {α : Type} {e : α → D} {g : α → D} {f : D → WP (Option D)} : ∀ {xs : List α}, (∀ x ∈ xs, ∀ K : Option D → Prop, K none → K (some (g x)) → f (e x) K) → ∀ {k : List D → Prop}, (∀ ys : List α, ys.Sublist xs → k (ys.map g)) → mapF f (xs.map e) k
  | [], _, k, hk => hk [] (List.Sublist.refl _)
  | x :: xs, h, k, hk => by
    simp only [List.map_cons, mapF, bnd_w']
    refine h x (by simp) _ ?_ ?_
    · exact mapF_wsub (fun y hy => h y (by simp [hy])) fun ys hs => hk ys (hs.cons x)
    · exact mapF_wsub (fun y hy => h y (by simp [hy])) fun ys hs => hk (x :: ys) (hs.cons_cons x)
theorem compF_wsub {α γ : Type} {e : α → D} {g : α → D} {mb : D → WP γ} {mt : γ → WP Bool} {me : γ → WP D} {xs : List α} (hl : xs.length ≤ sizeLine) (h : ∀ x ∈ xs, ∀ K : Option D → Prop, K none → K (some (g x)) → stepF mb mt me (e x) K) {k : List D → Prop} (hk : ∀ ys : List α, ys.Sublist xs → k (ys.map g)) : compF mb mt me (xs.map e) k := by
  unfold compF dSz
  rw [List.length_map, if_pos hl]
  exact ⟨_, rfl, mapF_wsub h hk⟩
inductive All2 {α β : Type} (R : α → β → Prop) : List α → List β → Prop
  | nil : All2 R [] []
  | cons {a b as bs} : R a b → All2 R as bs → All2 R (a :: as) (b :: bs)
theorem All2.len {α β : Type} {R : α → β → Prop} {as : List α} {bs : List β} (h : All2 R as bs) : bs.length = as.length := by
  induction h with
  | nil => rfl
  | cons _ _ ih => simp [ih]
theorem All2.mem {α β : Type} {R : α → β → Prop} {as : List α} {bs : List β} (h : All2 R as bs) : ∀ b ∈ bs, ∃ a ∈ as, R a b := by
  induction h with
  | nil => intro b hb; cases hb
  | cons r _ ih =>
    intro b hb
    rcases List.mem_cons.mp hb with rfl | hb
    · exact ⟨_, by simp, r⟩
    · obtain ⟨a, ha, q⟩ := ih b hb
      exact ⟨a, by simp [ha], q⟩
/-- a comprehension that draws its items -/
theorem mapF_wall {α β : Type} {e : α → D} {E : β → D} {R : α → β → Prop} {f : D → WP (Option D)} : ∀ {xs : List α}, (∀ x ∈ xs, ∀ K : Option D → Prop, (∀ y, R x y → K (some (E y))) → f (e x) K) → ∀ {k : List D → Prop}, (∀ ys : List β, All2 R xs ys → k (ys.map E)) → mapF f (xs.map e) k
  | [], _, k, hk => hk [] .nil
  | x :: xs, h, k, hk => by
    simp only [List.map_cons, mapF, bnd_w']
    refine h x (by simp) _ fun y hy => ?_
    exact mapF_wall (fun z hz => h z (by simp [hz])) fun ys hs => hk (y :: ys) (.cons hy hs)
theorem compF_wall {α β γ : Type} {e : α → D} {E : β → D} {R : α → β → Prop} {mb : D → WP γ} {mt : γ → WP Bool} {me : γ → WP D} {xs : List α} (hl : xs.length ≤ sizeLine) (h : ∀ x ∈ xs, ∀ K : Option D → Prop, (∀ y, R x y → K (some (E y))) → stepF mb mt me (e x) K) {k : List D → Prop} (hk : ∀ ys : List β, All2 R xs ys → k (ys.map E)) : compF mb mt me (xs.map e) k := by
  unfold compF dSz
  rw [List.length_map, if_pos hl]
  exact ⟨_, rfl, mapF_wall h hk⟩
theorem draw_w {n : Nat} (h0 : 0 < n) (h1 : n < 1073741824) {k : D → Prop} (h : ∀ r : Nat, r < n → k (eN r)) : drawM [.int (n : Int)] k := by
  refine ⟨by omega, by omega, fun r hr1 hr2 => ?_⟩
  have := h r.toNat (by omega)
  rwa [show eN r.toNat = PyData.int r by show PyData.int (r.toNat : Int) = _; rw [Int.toNat_of_nonneg hr1]] at this
theorem eraseIdx_map' {α β : Type} {e : α → β} : ∀ {xs : List α} {r : Nat}, (xs.map e).eraseIdx r = (xs.eraseIdx r).map e
  | [], r => by simp
  | x :: xs, 0 => by simp
  | x :: xs, r + 1 => by simp [eraseIdx_map' (e := e) (xs := xs) (r := r)]
theorem dPopAt_n {α : Type} {e : α → D} {xs : List α} {r : Nat} (h : r < xs.length) (hl : r < 1000000000) : dPopAt (xs.map e) (.int (r : Int)) = some (e xs[r], (xs.eraseIdx r).map e) := by
  unfold dPopAt
  rw [show dInt (.int (r : Int)) = some (r : Int) from rfl, Option.bind_some, if_pos ⟨Int.le_trans (by decide) (Int.natCast_nonneg r), Int.lt_trans (small62 hl) (by decide)⟩]
  have : seqIndex? (r : Int) (xs.map e).length = some r := by
    unfold seqIndex?
    have h0 : ¬ (r : Int) < 0 := by omega
    simp [h0, h]
  rw [this, Option.bind_some, List.getElem?_map, List.getElem?_eq_getElem h]
  simp [eraseIdx_map']
theorem dApp_m {α : Type} {e : α → D} {xs : List α} {x : α} (h : xs.length < sizeLine) : dApp (xs.map e) (e x) = some ((xs ++ [x]).map e) := by
  unfold dApp
  rw [List.length_map, if_pos h]
  simp
theorem dCat_m {α : Type} {e : α → D} {xs ys : List α} (h : xs.length + ys.length ≤ sizeLine) : dCat (xs.map e) (ys.map e) = some ((xs ++ ys).map e) := by
  unfold dCat
  rw [List.length_map, List.length_map, if_pos h]
  simp
theorem eraseIdx_perm {α : Type} : ∀ {xs : List α} {r : Nat} (h : r < xs.length), (xs[r] :: xs.eraseIdx r).Perm xs
  | x :: xs, 0, h => by simp
  | x :: xs, r + 1, h => by
    have h' : r < xs.length := by simpa using h
    have := eraseIdx_perm (xs := xs) (r := r) h'
    simp only [List.getElem_cons_succ, List.eraseIdx_cons_succ]
    exact (List.Perm.swap x xs[r] _).trans (this.cons x)
/-- lists given by a table -/
def tab (φ : Nat → D) (L : Nat) : List D := (List.range L).map φ
theorem tab_len {φ : Nat → D} {L : Nat} : (tab φ L).length = L := by simp [tab]
theorem tab_get {φ : Nat → D} {L i : Nat} (h : i < L) : (tab φ L)[i]? = some (φ i) := by simp [tab, List.getElem?_map, h]
theorem tab_set {φ : Nat → D} {L i : Nat} {v : D} : (tab φ L).set i v = tab (fun j => if j = i then v else φ j) L := by
  refine List.ext_getElem? fun j => ?_
  rw [List.getElem?_set]
  unfold tab
  simp only [List.length_map, List.length_range, List.getElem?_map]
  by_cases h : i = j
  · subst h
    simp
    by_cases q : i < L <;> simp [q]
  · rw [if_neg h]
    by_cases q : j < L
    · simp [q]
      intro e; exact absurd e.symm h
    · simp [q]
theorem dIx_tab {φ : Nat → D} {L i : Nat} (h : i < L) : dIx (.list (tab φ L)) (.int (i : Int)) = some (φ i) := by rw [dIx_l, tab_get h]
theorem dSet_tab {φ : Nat → D} {L i : Nat} {v : D} (h : i < L) : dSet (tab φ L) (.int (i : Int)) v = some (tab (fun j => if j = i then v else φ j) L) := by
  unfold dSet
  rw [show dInt (.int (i : Int)) = some (i : Int) from rfl, Option.bind_some, tab_len]
  have : ixN L (i : Int) = some i := by
    unfold ixN
    rw [if_pos (by omega), if_pos (by omega)]
    simp
  rw [this, Option.map_some, tab_set]
theorem dRep_i {v : D} {n : Nat} (h : n ≤ 1000000) : dRep [v] (.int (n : Int)) = some (tab (fun _ => v) n) := by
  unfold dRep
  have := sizeLine_eq
  rw [show dInt (.int (n : Int)) = some (n : Int) from rfl, Option.bind_some, if_pos]
  · refine congrArg some ?_
    unfold tab
    rw [Int.toNat_natCast]
    clear h this
    induction n with
    | zero => rfl
    | succ n ih =>
      rw [List.replicate_succ', List.flatten_append, ih, List.range_succ, List.map_append]
      rfl
  · simp
    omega
/-- a loop that ends of itself, as an equation -/
theorem forF_e {α β σ γ : Type} {e : α → D} {f : β → D → Option (Fl β β)} (E : σ → β) (step : σ → α → σ) : ∀ {xs : List α} {s0 : σ}, (∀ p x post, xs = p ++ x :: post → f (E (p.foldl step s0)) (e x) = some (.nx (E (step (p.foldl step s0) x)))) → forF (γ := γ) f (xs.map e) (E s0) = some (.nx (E (xs.foldl step s0)))
  | [], _, _ => rfl
  | x :: xs, s0, h => by
    have h1 := h [] x xs rfl
    simp only [List.foldl_nil] at h1
    simp only [List.map_cons, forF, bnd_o, h1, Option.bind_some, List.foldl_cons]
    exact forF_e E step fun p y post hp => h (x :: p) y post (by rw [hp]; rfl)
def eS (S : List Nat) : D := .tuple (S.map eN)
@[simp] theorem itS {S : List Nat} : dItems (eS S) = some (S.map eN) := rfl
@[simp] theorem lenS {S : List Nat} : dLen (eS S) = some (.int S.length) := by unfold eS; simp
@[simp] theorem dTup_S {S : List Nat} : dTup (.list (S.map eN)) = some (eS S) := rfl
theorem dIn_S {S : List Nat} {j : Nat} : dIn (.int (j : Int)) (eS S) = some (.bool (S.contains j)) := dIn_n
theorem dNotIn_S {S : List Nat} {j : Nat} : dNotIn (.int (j : Int)) (eS S) = some (.bool (!S.contains j)) := by
  unfold dNotIn
  rw [dIn_S]
  rfl
theorem dNotIn_ln {S : List Nat} {j : Nat} : dNotIn (.int (j : Int)) (.list (S.map eN)) = some (.bool (!S.contains j)) := by
  unfold dNotIn
  rw [dIn_ln]
  rfl
theorem dSz_m {α : Type} {e : α → D} {xs : List α} (h : xs.length ≤ sizeLine) : dSz (xs.map e) = some (xs.map e) := by
  unfold dSz
  rw [List.length_map, if_pos h]
end PL
end pm4_
section pm5_
set_option maxRecDepth 100000
set_option maxHeartbeats 2000000
/-! plain reckoning: what a mirror answers, as a predicate -/
namespace PL
open PySem PySem.Spec PyProof.Rows L2 PySem.W
open Mir (ret bnd lift)
theorem OK_ite {α : Type} {c : Prop} [Decidable c] {a b : Option α} {k : α → Prop} : OK (if c then a else b) k ↔ if c then OK a k else OK b k := by split <;> rfl
theorem wp_ite {α : Type} {c : Prop} [Decidable c] {a b : WP α} {k : α → Prop} : (if c then a else b : WP α) k ↔ if c then a k else b k := by split <;> rfl
/-- a loop by an invariant over what is behind -/
theorem forF_ok {α β γ : Type} {e : α → D} {f : β → D → Option (Fl β β)} (I : List α → β → Prop) (pre : List α) {xs : List α} {b : β} (hI : I pre b) (h : ∀ p x post, pre ++ xs = p ++ x :: post → pre.length ≤ p.length → ∀ b, I p b → OK (f b (e x)) fun r => ∃ b', r = .nx b' ∧ I (p ++ [x]) b') {k : Fl γ β → Prop} (hk : ∀ b', I (pre ++ xs) b' → k (.nx b')) : OK (forF (γ := γ) f (xs.map e) b) k := by
  obtain ⟨b', h1, h2⟩ := forF_inv (γ := γ) (e := e) (f := f) I pre hI fun p x post hp hl b hb => by
    obtain ⟨r, q1, b', rfl, q2⟩ := h p x post hp hl b hb
    exact ⟨b', q1, q2⟩
  exact ⟨_, h1, hk b' h2⟩
/-- places of a range that is walked -/
theorem range_split {n k : Nat} {p post : List Nat} (h : [] ++ List.range n = p ++ k :: post) : p = List.range k ∧ k < n := by
  rw [List.nil_append] at h
  have hl := congrArg List.length h
  simp at hl
  have h1 : p = (List.range n).take p.length := by rw [h]; simp
  rw [List.take_range] at h1
  have h2 : (List.range n)[p.length]? = some k := by rw [h]; simp
  rw [List.getElem?_range (by omega)] at h2
  have e : p.length = k := Option.some.inj h2
  refine ⟨?_, by omega⟩
  rw [h1, e]
  congr 1
  omega
theorem range_split' {n k : Nat} {p post : List Nat} (h : List.range n = p ++ k :: post) : p = List.range k ∧ k < n := range_split h
theorem cutD_to {xs : List D} {n : Nat} : cutD xs none (some (n : Int)) = xs.take n := by
  unfold cutD
  rw [HT.sIx_none, HT.sIx_nat, List.drop_zero, Nat.sub_zero]
  by_cases h : n ≤ xs.length
  · rw [Nat.min_eq_left h]
  · rw [Nat.min_eq_right (by omega), List.take_of_length_le (Nat.le_refl _), List.take_of_length_le (by omega)]
theorem cutD_from {xs : List D} {n : Nat} : cutD xs (some (n : Int)) none = xs.drop n := by
  unfold cutD
  rw [HT.sIx_none, HT.sIx_nat]
  by_cases h : n ≤ xs.length
  · rw [Nat.min_eq_left h, List.take_of_length_le (by simp)]
  · rw [Nat.min_eq_right (by omega), List.drop_of_length_le (Nat.le_refl _), List.drop_of_length_le (by omega)]
    simp
theorem dSl_to {xs : List D} {n : Nat} : dSl (.tuple xs) none (some (n : Int)) = some (.tuple (xs.take n)) := by
  show some (PyData.tuple _) = _
  rw [cutD_to]
theorem dSl_from {xs : List D} {n : Nat} : dSl (.tuple xs) (some (n : Int)) none = some (.tuple (xs.drop n)) := by
  show some (PyData.tuple _) = _
  rw [cutD_from]
theorem dSl_lto {xs : List D} {n : Nat} : dSl (.list xs) none (some (n : Int)) = some (.list (xs.take n)) := by
  show some (PyData.list _) = _
  rw [cutD_to]
theorem dSl_lfrom {xs : List D} {n : Nat} : dSl (.list xs) (some (n : Int)) none = some (.list (xs.drop n)) := by
  show some (PyData.list _) = _
  rw [cutD_from]
theorem tab_drop {φ : Nat → D} {L m : Nat} : (tab φ L).drop m = (List.range' m (L - m)).map φ := by
  unfold tab
  rw [← List.map_drop, List.range_eq_range', List.drop_range']
  simp
theorem enumL_m {α : Type} {e : α → D} {xs : List α} (d : α) : enumL (xs.map e) = (List.range xs.length).map fun j => .tuple [eN j, e (xs.getD j d)] := by
  unfold enumL
  refine List.ext_getElem? fun i => ?_
  rw [List.getElem?_mapIdx, List.getElem?_map, List.getElem?_map]
  by_cases h : i < xs.length
  · simp [h]
  · simp [h]
theorem dMul_c {i : Int} {c : Int} (h1 : -1073741823 ≤ c) (h2 : c ≤ 1073741823) : dMul (.int i) (.int c) = some (.int (i * c)) := by
  have h : CMul i c := cmul_r (Int.lt_of_lt_of_le (by decide) h1) (Int.lt_of_le_of_lt h2 (by decide))
  show (if CMul i c then some (PyData.int (i * c)) else none) = _
  rw [if_pos h]
/-- comprehensions without draws in a mirror that may draw -/
theorem mapF_ow {α β : Type} {e : α → D} {f : D → WP (Option β)} {g : α → Option β} : ∀ {xs : List α}, (∀ x ∈ xs, ∀ K : Option β → Prop, f (e x) K = K (g x)) → ∀ {k : List β → Prop}, mapF f (xs.map e) k = k (xs.filterMap g)
  | [], _, _ => rfl
  | x :: xs, h, k => by
    simp only [List.map_cons, mapF, bnd_w']
    rw [h x (by simp), mapF_ow fun y hy => h y (by simp [hy])]
    cases q : g x <;> simp [q]
theorem compF_ow {α γ : Type} {e : α → D} {mb : D → WP γ} {mt : γ → WP Bool} {me : γ → WP D} {xs : List α} (c : α → γ) (p : α → Bool) (g : α → D) (hl : xs.length ≤ sizeLine) (hb : ∀ x ∈ xs, ∀ K : γ → Prop, mb (e x) K = K (c x)) (ht : ∀ x ∈ xs, ∀ K : Bool → Prop, mt (c x) K = K (p x)) (he : ∀ x ∈ xs, p x = true → ∀ K : D → Prop, me (c x) K = K (g x)) {k : List D → Prop} :
    compF mb mt me (xs.map e) k = k ((xs.filter p).map g) := by
  unfold compF dSz
  rw [List.length_map, if_pos hl]
  show OK (some (xs.map e)) (fun a => mapF (stepF mb mt me) a k) = _
  rw [OK_some, mapF_ow (g := fun x => if p x then some (g x) else none), filterMap_if]
  intro x hx K
  unfold stepF
  show mb (e x) _ = _
  rw [hb x hx]
  show mt (c x) _ = _
  rw [ht x hx]
  cases q : p x
  · rfl
  · exact he x hx q _
theorem compF_aw {α γ : Type} {e : α → D} {mb : D → WP γ} {mt : γ → WP Bool} {me : γ → WP D} {xs : List α} (c : α → γ) (g : α → D) (hl : xs.length ≤ sizeLine) (hb : ∀ x ∈ xs, ∀ K : γ → Prop, mb (e x) K = K (c x)) (ht : ∀ x ∈ xs, ∀ K : Bool → Prop, mt (c x) K = K true) (he : ∀ x ∈ xs, ∀ K : D → Prop, me (c x) K = K (g x)) {k : List D → Prop} :
    compF mb mt me (xs.map e) k = k (xs.map g) := by
  rw [compF_ow c (fun _ => true) g hl hb ht fun x hx _ => he x hx, List.filter_eq_self.mpr (fun _ _ => rfl)]
/-- sorted lists of places -/
def srt (S : List Nat) : List Nat := S.mergeSort (le1 fun j => (j : Int))
theorem sort_n {S : List Nat} : dSort (S.map eN) = some ((srt S).map eN) := dSort_i (f := fun j : Nat => (j : Int))
theorem srt_perm {S : List Nat} : (srt S).Perm S := List.mergeSort_perm _ _
theorem srt_len {S : List Nat} : (srt S).length = S.length := srt_perm.length_eq
theorem srt_mem {S : List Nat} {j : Nat} : j ∈ srt S ↔ j ∈ S := srt_perm.mem_iff
theorem srt_lt {S : List Nat} (h : S.Nodup) : (srt S).Pairwise (· < ·) := by
  have h1 := le1_sorted (f := fun j : Nat => (j : Int)) S
  have h2 : (srt S).Nodup := srt_perm.nodup_iff.mpr h
  exact (h1.and h2).imp fun ⟨a, b⟩ => by omega
theorem dEq_nil {α : Type} {f : α → Int} {xs : List α} : dEq (.list (xs.map fun x => .int (f x))) (.list []) = some (.bool xs.isEmpty) := by
  unfold dEq
  rw [shaped_li, show SeqAt.shaped (.list []) = true from shaped_li (xs := ([] : List Nat)) (f := fun _ => 0), Bool.and_true, if_pos rfl]
  cases xs <;> simp [PyData.eqv, PyData.eqvAll]
theorem dEq_niln {xs : List Nat} : dEq (.list (xs.map eN)) (.list []) = some (.bool xs.isEmpty) := dEq_nil (f := fun j : Nat => (j : Int))
theorem dNe_niln {xs : List Nat} : dNe (.list (xs.map eN)) (.list []) = some (.bool (!xs.isEmpty)) := by
  have h := dEq_niln (xs := xs)
  unfold dEq at h
  unfold dNe
  by_cases q : (SeqAt.shaped (PyData.list (xs.map eN)) && SeqAt.shaped (PyData.list [])) = true
  · rw [if_pos q] at h ⊢
    have := PyData.bool.inj (Option.some.inj h)
    rw [this]
  · rw [if_neg q] at h
    cases h
theorem dCat_n1 {S : List Nat} {j : Nat} (h : S.length < 1000000) : dCat (S.map eN) [eN j] = some (S.map eN ++ [eN j]) := by
  have := sizeLine_eq
  unfold dCat
  rw [if_pos (by simp; omega)]
theorem sort_n1 {S : List Nat} {j : Nat} : dSort (S.map eN ++ [eN j]) = some ((srt (S ++ [j])).map eN) := by
  have := sort_n (S := S ++ [j])
  rwa [List.map_append] at this
theorem tupS {S : List Nat} : PyData.tuple (S.map eN) = eS S := rfl
theorem jn_w {γ β δ : Type} {m : WP (Fl γ δ)} {mr : δ → WP (Fl γ β)} {k : Fl γ β → Prop} {b : δ} (hm : ∀ K : Fl γ δ → Prop, K (.nx b) → m K) (h : mr b k) : m (fun a => jn mr a k) := hm _ h
theorem nat_eq {i j : Nat} : ((i : Int) == (j : Int)) = (i == j) := by
  rw [Bool.eq_iff_iff]
  simp
  omega
theorem nat_ne {i j : Nat} : (!((i : Int) == (j : Int))) = (i != j) := by
  rw [nat_eq]
  rfl
end PL
end pm5_
section jb_
set_option maxRecDepth 100000
set_option maxHeartbeats 2000000
/-! jobs in an order: ends, sums of costs, exchanges (plain) -/
namespace JB
open PL
abbrev Js : Type := List (Int × Int × Int)
def P (J : Js) (j : Nat) : Int := (J.getD j (0, 0, 0)).1
def W (J : Js) (j : Nat) : Int := (J.getD j (0, 0, 0)).2.1
def Du (J : Js) (j : Nat) : Int := (J.getD j (0, 0, 0)).2.2
/-! ### sums -/
theorem sumI_perm {a b : List Int} (h : a.Perm b) : a.sum = b.sum := by
  induction h with
  | nil => rfl
  | cons x _ ih => rw [List.sum_cons, List.sum_cons, ih]
  | swap x y l => simp only [List.sum_cons]; omega
  | trans _ _ h1 h2 => rw [h1, h2]
theorem maxI_perm {a b : List Int} (h : a.Perm b) : maxI a = maxI b := by
  by_cases q : a = []
  · subst q
    rw [List.nil_perm.mp h]
  · exact maxI_eq (h.mem_iff.mpr (maxI_mem fun z => q (by rw [z] at h; exact List.perm_nil.mp h))) fun y hy => le_maxI (h.mem_iff.mp hy)
variable (p : Nat → Int) (f : Nat → Int → Int)
/-- what stands at each job behind an order -/
def endF : Int → (Nat → Int) → List Nat → Nat → Int
  | _, φ, [] => φ
  | t, φ, j :: r => endF (t + p j) (fun i => if i = j then t + p j else φ i) r
def vals : Int → List Nat → List Int
  | _, [] => []
  | t, j :: r => f j (t + p j) :: vals (t + p j) r
def sp (S : List Nat) : Int := (S.map p).sum
def cost (S : List Nat) : Int := (vals p f 0 S).sum
def late (S : List Nat) : Int := maxI (vals p f 0 S)
theorem endF_out : ∀ {r : List Nat} {t : Int} {φ : Nat → Int} {j : Nat}, j ∉ r → endF p t φ r j = φ j
  | [], _, _, _, _ => rfl
  | i :: r, t, φ, j, h => by
    simp only [List.mem_cons, not_or] at h
    rw [endF, endF_out h.2, if_neg h.1]
theorem vals_eq : ∀ {S : List Nat} {t : Int} {φ : Nat → Int}, S.Nodup → vals p f t S = S.map fun j => f j (endF p t φ S j)
  | [], _, _, _ => rfl
  | j :: r, t, φ, h => by
    rw [List.nodup_cons] at h
    rw [vals, List.map_cons, vals_eq (t := t + p j) (φ := fun i => if i = j then t + p j else φ i) h.2, endF, endF_out p h.1, if_pos rfl]
theorem cost_range {n : Nat} {S : List Nat} {φ : Nat → Int} (h : S.Perm (List.range n)) : ((List.range n).map fun j => f j (endF p 0 φ S j)).sum = cost p f S := by
  unfold cost
  rw [vals_eq p f (φ := φ) (h.nodup_iff.mpr List.nodup_range)]
  exact (sumI_perm (h.map _)).symm
theorem late_range {n : Nat} {S : List Nat} {φ : Nat → Int} (h : S.Perm (List.range n)) : maxI ((List.range n).map fun j => f j (endF p 0 φ S j)) = late p f S := by
  unfold late
  rw [vals_eq p f (φ := φ) (h.nodup_iff.mpr List.nodup_range)]
  exact (maxI_perm (h.map _)).symm
theorem vals_app : ∀ {X L : List Nat} {t : Int}, vals p f t (X ++ L) = vals p f t X ++ vals p f (t + sp p X) L
  | [], L, t => by simp [sp, vals]
  | x :: X, L, t => by
    rw [List.cons_append, vals, vals_app, vals, List.cons_append]
    congr 3
    simp only [sp, List.map_cons, List.sum_cons]
    omega
theorem vals_mono (hf : ∀ j a b, a ≤ b → f j a ≤ f j b) : ∀ {Y : List Nat} {t u : Int}, t ≤ u → (vals p f t Y).sum ≤ (vals p f u Y).sum
  | [], _, _, _ => Int.le_refl _
  | y :: Y, t, u, h => by
    have h1 := vals_mono hf (Y := Y) (t := t + p y) (u := u + p y) (by omega)
    have h2 := hf y (t + p y) (u + p y) (by omega)
    simp only [vals, List.sum_cons]
    omega
theorem vals_monoM (hf : ∀ j a b, a ≤ b → f j a ≤ f j b) : ∀ {Y : List Nat} {t u : Int}, t ≤ u → ∀ v ∈ vals p f t Y, ∃ v' ∈ vals p f u Y, v ≤ v'
  | [], _, _, _, _, h => nomatch h
  | y :: Y, t, u, h, v, hv => by
    simp only [vals, List.mem_cons] at hv
    rcases hv with rfl | hv
    · exact ⟨_, List.mem_cons_self, hf y _ _ (by omega)⟩
    · obtain ⟨v', h1, h2⟩ := vals_monoM hf (Y := Y) (t := t + p y) (u := u + p y) (by omega) v hv
      exact ⟨v', List.mem_cons_of_mem _ h1, h2⟩
theorem sp_app {X Y : List Nat} : sp p (X ++ Y) = sp p X + sp p Y := by simp [sp]
theorem sp_cons {x : Nat} {Y : List Nat} : sp p (x :: Y) = p x + sp p Y := by simp [sp]
theorem sp_nn (hp : ∀ j, 0 ≤ p j) : ∀ {X : List Nat}, 0 ≤ sp p X
  | [] => Int.le_refl _
  | x :: X => by
    have := sp_nn hp (X := X)
    have := hp x
    rw [sp_cons]
    omega
/-- the better job, b, taken first -/
theorem swap_cost {a b : Nat} {X Y Z : List Nat} (hp : ∀ j, 0 ≤ p j) (hf : ∀ j x y, x ≤ y → f j x ≤ f j y) (hab : p b ≤ p a)
    (hx : ∀ t s : Int, 0 ≤ t → t + p a + p b ≤ s → f b (t + p b) + f a s ≤ f a (t + p a) + f b s) : cost p f (X ++ b :: (Y ++ a :: Z)) ≤ cost p f (X ++ a :: (Y ++ b :: Z)) := by
  unfold cost
  rw [vals_app, vals_app]
  simp only [vals, List.sum_append, List.sum_cons, vals_app]
  have h0 : 0 ≤ sp p X := sp_nn p hp
  have h1 : 0 ≤ sp p Y := sp_nn p hp
  have h2 := vals_mono p f hf (Y := Y) (t := 0 + sp p X + p b) (u := 0 + sp p X + p a) (by omega)
  have h3 := hx (0 + sp p X) (0 + sp p X + p b + sp p Y + p a) (by omega) (by omega)
  have e : 0 + sp p X + p a + sp p Y + p b = 0 + sp p X + p b + sp p Y + p a := by omega
  rw [e]
  omega
theorem swap_late {a b : Nat} {X Y Z : List Nat} (hp : ∀ j, 0 ≤ p j) (hf : ∀ j x y, x ≤ y → f j x ≤ f j y) (hab : p b ≤ p a) (hfab : ∀ t, f a t ≤ f b t) : late p f (X ++ b :: (Y ++ a :: Z)) ≤ late p f (X ++ a :: (Y ++ b :: Z)) := by
  unfold late
  have h0 : 0 ≤ sp p X := sp_nn p hp
  have h1 : 0 ≤ sp p Y := sp_nn p hp
  have ha := hp a
  have hb := hp b
  have e : 0 + sp p X + p a + sp p Y + p b = 0 + sp p X + p b + sp p Y + p a := by omega
  have hm := maxI_mem (xs := vals p f 0 (X ++ b :: (Y ++ a :: Z))) (by rw [vals_app]; simp [vals])
  generalize maxI (vals p f 0 (X ++ b :: (Y ++ a :: Z))) = m at hm
  have goal : ∃ v ∈ vals p f 0 (X ++ a :: (Y ++ b :: Z)), m ≤ v := by
    rw [vals_app] at hm ⊢
    simp only [vals, vals_app, List.mem_append, List.mem_cons] at hm ⊢
    rw [e]
    have hS : f b (0 + sp p X + p b) ≤ f b (0 + sp p X + p b + sp p Y + p a) := hf b _ _ (by omega)
    rcases hm with h | rfl | h | rfl | h
    · exact ⟨m, .inl h, Int.le_refl _⟩
    · exact ⟨_, .inr (.inr (.inr (.inl rfl))), hS⟩
    · obtain ⟨v', q1, q2⟩ := vals_monoM p f hf (Y := Y) (t := 0 + sp p X + p b) (u := 0 + sp p X + p a) (by omega) m h
      exact ⟨v', .inr (.inr (.inl q1)), q2⟩
    · exact ⟨_, .inr (.inr (.inr (.inl rfl))), hfab _⟩
    · exact ⟨m, .inr (.inr (.inr (.inr h))), Int.le_refl _⟩
  obtain ⟨v, h2, h3⟩ := goal
  exact Int.le_trans h3 (le_maxI h2)
end JB
end jb_
section jf_
set_option maxRecDepth 100000
set_option maxHeartbeats 2000000
/-! flows: plain -/
namespace JF
open PL
def mx (x y : Int) : Int := if y > x then y else x
theorem mx_l {x y : Int} : x ≤ mx x y := by unfold mx; split <;> omega
theorem mx_r {x y : Int} : y ≤ mx x y := by unfold mx; split <;> omega
theorem mx_le {x y c : Int} : mx x y ≤ c ↔ x ≤ c ∧ y ≤ c := by unfold mx; split <;> omega
/-- one row through the machines -/
def re : Int → List Int → List Int → List Int
  | t, u :: us, a :: as => (mx t u + a) :: re (mx t u + a) us as
  | _, _, _ => []
theorem re_len : ∀ {as us : List Int} {t : Int}, us.length = as.length → (re t us as).length = as.length
  | [], us, _, _ => by cases us <;> rfl
  | a :: as, [], _, h => by cases h
  | a :: as, u :: us, t, h => by
    show (re _ us as).length + 1 = _
    rw [re_len (Nat.succ.inj h)]
    rfl
theorem re_ok : ∀ {as us : List Int} {t : Int}, (∀ a ∈ as, 0 ≤ a) → (re t us as).Pairwise (· ≤ ·) ∧ ∀ x ∈ re t us as, t ≤ x
  | [], us, _, _ => by cases us <;> exact ⟨.nil, fun x h => by cases h⟩
  | a :: as, [], _, _ => ⟨.nil, fun x h => by cases h⟩
  | a :: as, u :: us, t, h => by
    obtain ⟨h1, h2⟩ := re_ok (as := as) (us := us) (t := mx t u + a) fun x hx => h x (List.mem_cons_of_mem _ hx)
    have ha := h a (List.mem_cons_self ..)
    have := mx_l (x := t) (y := u)
    refine ⟨List.pairwise_cons.mpr ⟨h2, h1⟩, fun x hx => ?_⟩
    rcases List.mem_cons.mp hx with rfl | q
    · omega
    · have := h2 x q; omega
theorem re_zero : ∀ {us : List Int} {t : Int}, us.Pairwise (· ≤ ·) → (∀ x ∈ us, t ≤ x) → re t us (List.replicate us.length 0) = us
  | [], _, _, _ => rfl
  | u :: us, t, h, ht => by
    have h0 := ht u (List.mem_cons_self ..)
    have e : mx t u + 0 = u := by unfold mx; split <;> omega
    show (mx t u + 0) :: re (mx t u + 0) us (List.replicate us.length 0) = _
    rw [e, re_zero (List.pairwise_cons.mp h).2 (List.pairwise_cons.mp h).1]
/-- all the rows -/
def fe (u : List Int) (rows : List (List Int)) : List Int := rows.foldl (re 0) u
theorem fe_app {u : List Int} {a b : List (List Int)} : fe u (a ++ b) = fe (fe u a) b := List.foldl_append ..
abbrev Rows (m : Nat) (rows : List (List Int)) : Prop := ∀ r ∈ rows, r.length = m ∧ ∀ a ∈ r, 0 ≤ a
/-- a state -/
def Ok (m : Nat) (u : List Int) : Prop := u.length = m ∧ u.Pairwise (· ≤ ·) ∧ ∀ x ∈ u, 0 ≤ x
theorem Ok.re {m : Nat} {u r : List Int} (h : Ok m u) (hr : r.length = m ∧ ∀ a ∈ r, 0 ≤ a) : Ok m (re 0 u r) :=
  ⟨by rw [re_len (by rw [h.1, hr.1]), hr.1], re_ok hr.2⟩
theorem Ok.fe {m : Nat} : ∀ {rows : List (List Int)} {u : List Int}, Ok m u → Rows m rows → Ok m (fe u rows)
  | [], _, h, _ => h
  | r :: rows, u, h, hr => Ok.fe (rows := rows) (h.re (hr r (List.mem_cons_self ..))) fun x hx => hr x (List.mem_cons_of_mem _ hx)
def zs (m : Nat) : List Int := List.replicate m 0
theorem Ok.zs (m : Nat) : Ok m (zs m) := by
  refine ⟨by simp [JF.zs], ?_, fun x hx => by rw [(List.mem_replicate.mp hx).2]; exact Int.le_refl _⟩
  exact List.pairwise_replicate.mpr (.inr (Int.le_refl _))
/-- the end -/
def En (m : Nat) (rows : List (List Int)) : Int := (fe (zs m) rows).getD (m - 1) 0
theorem En_zero {m : Nat} {a b : List (List Int)} (ha : Rows m a) : En m (a ++ zs m :: b) = En m (a ++ b) := by
  unfold En
  rw [fe_app, fe_app]
  show (fe (re 0 (fe (zs m) a) (zs m)) b).getD _ _ = _
  have ok := (Ok.zs m).fe ha
  have e : zs m = List.replicate (fe (zs m) a).length 0 := by rw [ok.1]; rfl
  have := re_zero (us := fe (zs m) a) (t := 0) ok.2.1 ok.2.2
  rw [← e] at this
  rw [this]
/-! ### turned round -/
/-- all sums are at most c -/
def LE : List Int → List Int → Int → Prop
  | u :: us, v :: vs, c => u + v ≤ c ∧ LE us vs c
  | _, _, _ => True
def rs : List Int → List Int → List Int
  | a :: as, v :: vs => (match rs as vs with | [] => v + a | w :: _ => mx v w + a) :: rs as vs
  | _, _ => []
theorem rs_len : ∀ {as vs : List Int}, vs.length = as.length → (rs as vs).length = as.length
  | [], vs, _ => by cases vs <;> rfl
  | a :: as, [], h => by cases h
  | a :: as, v :: vs, h => by
    show (rs as vs).length + 1 = _
    rw [rs_len (Nat.succ.inj h)]
    rfl
theorem adj : ∀ {as us vs : List Int} {t c : Int}, us.length = as.length → vs.length = as.length → as ≠ [] → (LE (re t us as) vs c ↔ t + (rs as vs).getD 0 0 ≤ c ∧ LE us (rs as vs) c)
  | [], _, _, _, _, _, _, h => absurd rfl h
  | a :: as, [], _, _, _, h, _, _ => by cases h
  | a :: as, u :: us, [], _, _, _, h, _ => by cases h
  | [a], u :: us, v :: vs, t, c, hu, hv, _ => by
    have e1 : us = [] := List.eq_nil_of_length_eq_zero (Nat.succ.inj hu)
    have e2 : vs = [] := List.eq_nil_of_length_eq_zero (Nat.succ.inj hv)
    subst e1 e2
    have : mx t u ≤ c - a - v ↔ t ≤ c - a - v ∧ u ≤ c - a - v := mx_le
    simp only [re, rs, LE, List.getD_cons_zero, and_true]
    omega
  | a :: a' :: as, u :: us, v :: vs, t, c, hu, hv, _ => by
    have ih := adj (as := a' :: as) (us := us) (vs := vs) (t := mx t u + a) (c := c) (Nat.succ.inj hu) (Nat.succ.inj hv) (List.cons_ne_nil _ _)
    have hl := rs_len (as := a' :: as) (vs := vs) (Nat.succ.inj hv)
    show (mx t u + a + v ≤ c ∧ LE (re (mx t u + a) us (a' :: as)) vs c) ↔ _
    rw [ih]
    cases hr : rs (a' :: as) vs with
    | nil => rw [hr] at hl; cases hl
    | cons w ws =>
      rw [hr] at ih
      have e : rs (a :: a' :: as) (v :: vs) = (mx v w + a) :: w :: ws := by
        show (match rs (a' :: as) vs with | [] => v + a | w :: _ => mx v w + a) :: rs (a' :: as) vs = _
        rw [hr]
      rw [e]
      show (mx t u + a + v ≤ c ∧ mx t u + a + w ≤ c ∧ LE us (w :: ws) c) ↔ (t + (mx v w + a) ≤ c ∧ u + (mx v w + a) ≤ c ∧ LE us (w :: ws) c)
      have x1 : mx t u ≤ c - a - v ↔ t ≤ c - a - v ∧ u ≤ c - a - v := mx_le
      have x2 : mx t u ≤ c - a - w ↔ t ≤ c - a - w ∧ u ≤ c - a - w := mx_le
      have x3 : mx v w ≤ c - a - t ↔ v ≤ c - a - t ∧ w ≤ c - a - t := mx_le
      have x4 : mx v w ≤ c - a - u ↔ v ≤ c - a - u ∧ w ≤ c - a - u := mx_le
      constructor
      · rintro ⟨q1, q2, q3⟩
        exact ⟨by omega, by omega, q3⟩
      · rintro ⟨q1, q2, q3⟩
        exact ⟨by omega, by omega, q3⟩
theorem adj0 {m : Nat} {as us vs : List Int} {c : Int} (hu : Ok m us) (hv : vs.length = m) (ha : as.length = m) (hm : 0 < m) : LE (re 0 us as) vs c ↔ LE us (rs as vs) c := by
  rw [adj (by rw [hu.1, ha]) (by rw [hv, ha]) (by intro e; rw [e] at ha; simp at ha; omega)]
  refine ⟨fun h => h.2, fun h => ⟨?_, h⟩⟩
  have hl := rs_len (as := as) (vs := vs) (by rw [hv, ha])
  cases us with
  | nil => have := hu.1; simp at this; omega
  | cons u us =>
    cases hr : rs as vs with
    | nil => rw [hr] at hl; simp at hl; omega
    | cons w ws =>
      rw [hr] at h
      have := hu.2.2 u (List.mem_cons_self ..)
      have h1 : u + w ≤ c := h.1
      show 0 + w ≤ c
      omega
theorem re_snoc : ∀ {as us : List Int} {t a u : Int}, us.length = as.length → re t (us ++ [u]) (as ++ [a]) = re t us as ++ [(match (re t us as).getLast? with | none => mx t u | some w => mx w u) + a]
  | [], [], _, _, _, _ => rfl
  | [], _ :: _, _, _, _, h => by cases h
  | _ :: _, [], _, _, _, h => by cases h
  | [b], [v], _, _, _, _ => rfl
  | [b], v :: v' :: us, _, _, _, h => by cases h
  | b :: b' :: as, [v], _, _, _, h => by cases h
  | b :: b' :: as, v :: v' :: us, t, a, u, h => by
    have ih := re_snoc (as := b' :: as) (us := v' :: us) (t := mx t v + b) (a := a) (u := u) (Nat.succ.inj h)
    show (mx t v + b) :: re (mx t v + b) (v' :: us ++ [u]) (b' :: as ++ [a]) = _
    rw [ih]
    show _ = ((mx t v + b) :: re (mx t v + b) (v' :: us) (b' :: as)) ++ _
    rw [List.cons_append]
    have e : ((mx t v + b) :: re (mx t v + b) (v' :: us) (b' :: as)).getLast? = (re (mx t v + b) (v' :: us) (b' :: as)).getLast? := by
      show ((mx t v + b) :: (mx (mx t v + b) v' + b') :: _).getLast? = _
      rw [List.getLast?_cons_cons]
      rfl
    show _ = _ :: (_ ++ [(match ((mx t v + b) :: re (mx t v + b) (v' :: us) (b' :: as)).getLast? with | none => mx t u | some w => mx w u) + a])
    rw [e]
    have hne : ∃ w, (re (mx t v + b) (v' :: us) (b' :: as)).getLast? = some w := ⟨_, List.getLast?_eq_getLast (by show _ :: _ ≠ []; exact List.cons_ne_nil _ _)⟩
    obtain ⟨w, hw⟩ := hne
    rw [hw]
theorem rs_rev : ∀ {as vs : List Int}, vs.length = as.length → (∀ v ∈ vs, 0 ≤ v) → rs as vs = (re 0 vs.reverse as.reverse).reverse
  | [], vs, h, _ => by
    have : vs = [] := List.eq_nil_of_length_eq_zero h
    subst this
    rfl
  | a :: as, [], h, _ => by cases h
  | a :: as, v :: vs, h, hv => by
    have ih := rs_rev (as := as) (vs := vs) (Nat.succ.inj h) fun x hx => hv x (List.mem_cons_of_mem _ hx)
    have hv0 := hv v (List.mem_cons_self ..)
    rw [List.reverse_cons, List.reverse_cons, re_snoc (by rw [List.length_reverse, List.length_reverse]; exact Nat.succ.inj h), List.reverse_append]
    show (match rs as vs with | [] => v + a | w :: _ => mx v w + a) :: rs as vs = [_].reverse ++ _
    rw [ih]
    have e : (re 0 vs.reverse as.reverse).getLast? = (re 0 vs.reverse as.reverse).reverse.head? := by rw [List.head?_reverse]
    rw [e]
    cases (re 0 vs.reverse as.reverse).reverse with
    | nil =>
      show [v + a] = [mx 0 v + a]
      have : mx 0 v = v := by unfold mx; split <;> omega
      rw [this]
    | cons w ws =>
      show (mx v w + a) :: w :: ws = (mx w v + a) :: w :: ws
      have : mx v w = mx w v := by unfold mx; split <;> split <;> omega
      rw [this]
def be (v : List Int) : List (List Int) → List Int
  | [] => v
  | r :: rows => rs r (be v rows)
theorem LE_fe {m : Nat} (hm : 0 < m) {v : List Int} (hv : v.length = m) {c : Int} : ∀ {rows : List (List Int)} {u : List Int}, Ok m u → Rows m rows → (LE (fe u rows) v c ↔ LE u (be v rows) c) ∧ (be v rows).length = m
  | [], _, _, _ => ⟨.rfl, hv⟩
  | r :: rows, u, hu, hr => by
    have h0 := hr r (List.mem_cons_self ..)
    obtain ⟨ih, hl⟩ := LE_fe hm hv (rows := rows) (hu.re h0) fun x hx => hr x (List.mem_cons_of_mem _ hx)
    refine ⟨?_, by show (rs r (be v rows)).length = m; rw [rs_len (by rw [hl, h0.1]), h0.1]⟩
    show LE (fe (re 0 u r) rows) v c ↔ _
    rw [ih]
    exact adj0 hu hl h0.1 hm
theorem be_fe {m : Nat} : ∀ {rows : List (List Int)}, Rows m rows → be (zs m) rows = (fe (zs m) (rows.map List.reverse).reverse).reverse
  | [], _ => by
    show zs m = (zs m).reverse
    simp [zs]
  | r :: rows, hr => by
    have h0 := hr r (List.mem_cons_self ..)
    have hr' : Rows m rows := fun x hx => hr x (List.mem_cons_of_mem _ hx)
    have hrr : Rows m (rows.map List.reverse).reverse := fun x hx => by
      obtain ⟨y, hy, rfl⟩ := List.mem_map.mp (List.mem_reverse.mp hx)
      exact ⟨by rw [List.length_reverse]; exact (hr' y hy).1, fun a ha => (hr' y hy).2 a (List.mem_reverse.mp ha)⟩
    have ok := (Ok.zs m).fe hrr
    have ih := be_fe hr'
    rw [List.map_cons, List.reverse_cons, fe_app]
    show rs r (be (zs m) rows) = (re 0 _ r.reverse).reverse
    rw [ih, rs_rev (by rw [List.length_reverse, ok.1, h0.1]) fun v hv => ok.2.2 v (List.mem_reverse.mp hv), List.reverse_reverse]
theorem LE_zs : ∀ {u : List Int} {c : Int}, LE u (zs u.length) c ↔ ∀ x ∈ u, x ≤ c
  | [], _ => ⟨fun _ x h => (by cases h), fun _ => trivial⟩
  | u :: us, c => by
    show (u + 0 ≤ c ∧ LE us (zs us.length) c) ↔ _
    rw [LE_zs, List.forall_mem_cons, Int.add_zero]
theorem zs_LE : ∀ {u : List Int} {c : Int}, LE (zs u.length) u c ↔ ∀ x ∈ u, x ≤ c
  | [], _ => ⟨fun _ x h => (by cases h), fun _ => trivial⟩
  | u :: us, c => by
    show (0 + u ≤ c ∧ LE (zs us.length) us c) ↔ _
    rw [zs_LE, List.forall_mem_cons, Int.zero_add]
theorem last_le {m : Nat} (hm : 0 < m) {u : List Int} (h : Ok m u) {c : Int} : (∀ x ∈ u, x ≤ c) ↔ u.getD (m - 1) 0 ≤ c := by
  have hl : m - 1 < u.length := by rw [h.1]; omega
  have e : u.getD (m - 1) 0 = u[m - 1] := by rw [List.getD_eq_getElem?_getD, List.getElem?_eq_getElem hl]; rfl
  rw [e]
  refine ⟨fun q => q _ (List.getElem_mem hl), fun q x hx => ?_⟩
  obtain ⟨j, hj, rfl⟩ := List.getElem_of_mem hx
  rcases Nat.lt_or_ge j (m - 1) with k | k
  · have := List.pairwise_iff_getElem.mp h.2.1 j (m - 1) hj hl k
    omega
  · have : j = m - 1 := by have := h.1; omega
    subst this
    exact q
theorem En_rev {m : Nat} (hm : 0 < m) {rows : List (List Int)} (hr : Rows m rows) : En m (rows.map List.reverse).reverse = En m rows := by
  have hrr : Rows m (rows.map List.reverse).reverse := fun x hx => by
    obtain ⟨y, hy, rfl⟩ := List.mem_map.mp (List.mem_reverse.mp hx)
    exact ⟨by rw [List.length_reverse]; exact (hr y hy).1, fun a ha => (hr y hy).2 a (List.mem_reverse.mp ha)⟩
  have ok := (Ok.zs m).fe hr
  have ok' := (Ok.zs m).fe hrr
  have key : ∀ c, En m (rows.map List.reverse).reverse ≤ c ↔ En m rows ≤ c := fun c => by
    unfold En
    rw [← last_le hm ok, ← last_le hm ok', ← LE_zs (u := fe (zs m) rows), ok.1, (LE_fe hm (Ok.zs m).1 (Ok.zs m) hr).1, be_fe hr]
    have e : zs m = zs (fe (zs m) (rows.map List.reverse).reverse).reverse.length := by rw [List.length_reverse, ok'.1]
    rw [show LE (zs m) (fe (zs m) (rows.map List.reverse).reverse).reverse c ↔ LE (zs (fe (zs m) (rows.map List.reverse).reverse).reverse.length) (fe (zs m) (rows.map List.reverse).reverse).reverse c by rw [← e], zs_LE]
    exact ⟨fun h x hx => h x (List.mem_reverse.mp hx), fun h x hx => h x (List.mem_reverse.mpr hx)⟩
  have h1 := (key (En m rows)).mpr (Int.le_refl _)
  have h2 := (key (En m (rows.map List.reverse).reverse)).mp (Int.le_refl _)
  omega
/-! ### one machine -/
theorem fe_one : ∀ {rows : List (List Int)} {f : Int}, Rows 1 rows → 0 ≤ f → fe [f] rows = [f + (rows.map fun r => r.getD 0 0).sum]
  | [], f, _, _ => by simp [fe]
  | r :: rows, f, hr, hf => by
    obtain ⟨h1, h2⟩ := hr r (List.mem_cons_self ..)
    match r, h1, h2 with
    | [a], _, h2 =>
      have ha := h2 a (List.mem_singleton.mpr rfl)
      have e : mx 0 f + a = f + a := by unfold mx; split <;> omega
      show fe [mx 0 f + a] rows = _
      rw [e, fe_one (fun x hx => hr x (List.mem_cons_of_mem _ hx)) (by omega)]
      simp only [List.map_cons, List.getD_cons_zero, List.sum_cons]
      rw [Int.add_assoc]
theorem En_one {rows : List (List Int)} (hr : Rows 1 rows) : En 1 rows = (rows.map fun r => r.getD 0 0).sum := by
  unfold En
  rw [show zs 1 = [0] from rfl, fe_one hr (Int.le_refl _), Int.zero_add]
  rfl
/-! ### two machines -/
def E2 : Int → Int → List (Int × Int) → Int
  | _, C, [] => C
  | A, C, x :: r => E2 (A + x.1) (mx (A + x.1) C + x.2) r
theorem fe_two : ∀ {ps : List (Int × Int)} {A C : Int}, (∀ x ∈ ps, 0 ≤ x.1 ∧ 0 ≤ x.2) → 0 ≤ A → (fe [A, C] (ps.map fun x => [x.1, x.2])).getD 1 0 = E2 A C ps
  | [], _, _, _, _ => rfl
  | x :: ps, A, C, h, hA => by
    have h0 := h x (List.mem_cons_self ..)
    have e : mx 0 A + x.1 = A + x.1 := by unfold mx; split <;> omega
    show (fe [mx 0 A + x.1, mx (mx 0 A + x.1) C + x.2] (ps.map fun x => [x.1, x.2])).getD 1 0 = E2 (A + x.1) _ ps
    rw [e]
    exact fe_two (fun y hy => h y (List.mem_cons_of_mem _ hy)) (by omega)
theorem En_two {ps : List (Int × Int)} (h : ∀ x ∈ ps, 0 ≤ x.1 ∧ 0 ≤ x.2) : En 2 (ps.map fun x => [x.1, x.2]) = E2 0 0 ps := fe_two h (Int.le_refl _)
theorem E2_mono : ∀ {ps : List (Int × Int)} {A C C' : Int}, C ≤ C' → E2 A C ps ≤ E2 A C' ps
  | [], _, _, _, h => h
  | x :: ps, A, C, C', h => by
    show E2 (A + x.1) (mx (A + x.1) C + x.2) ps ≤ E2 (A + x.1) (mx (A + x.1) C' + x.2) ps
    refine E2_mono ?_
    unfold mx
    split <;> split <;> omega
def Jn (x y : Int × Int) : Prop := (x.1 ≤ y.1 ∨ y.2 ≤ y.1) ∧ (x.1 ≤ x.2 ∨ y.2 ≤ x.2)
theorem E2_swap {x y : Int × Int} {ps : List (Int × Int)} {A C : Int} (h : Jn x y) : E2 A C (x :: y :: ps) ≤ E2 A C (y :: x :: ps) := by
  show E2 (A + x.1 + y.1) _ ps ≤ E2 (A + y.1 + x.1) _ ps
  rw [show A + y.1 + x.1 = A + x.1 + y.1 by omega]
  refine E2_mono ?_
  obtain ⟨h1, h2⟩ := h
  unfold mx
  repeat' split
  all_goals omega
theorem E2_front {x : Int × Int} {Z : List (Int × Int)} : ∀ {T : List (Int × Int)} {A C : Int}, (∀ y ∈ T, Jn x y) → E2 A C (x :: (T ++ Z)) ≤ E2 A C (T ++ x :: Z)
  | [], _, _, _ => Int.le_refl _
  | y :: T, A, C, h => Int.le_trans (E2_swap (h y (List.mem_cons_self ..))) (E2_front (T := T) fun z hz => h z (List.mem_cons_of_mem _ hz))
theorem E2_best : ∀ {S T : List (Int × Int)} {A C : Int}, S.Pairwise Jn → S.Perm T → E2 A C S ≤ E2 A C T
  | [], T, _, _, _, h => by rw [List.nil_perm.mp h]; exact Int.le_refl _
  | x :: S, T, A, C, hS, h => by
    obtain ⟨T1, T2, rfl⟩ := List.append_of_mem (h.mem_iff.mp (List.mem_cons_self ..))
    have hp : S.Perm (T1 ++ T2) := List.Perm.cons_inv (h.trans List.perm_middle)
    have h1 := (List.pairwise_cons.mp hS).1
    refine Int.le_trans ?_ (E2_front (T := T1) fun y hy => h1 y (hp.mem_iff.mpr (List.mem_append_left _ hy)))
    exact E2_best (S := S) (List.pairwise_cons.mp hS).2 hp
/-! sums -/
def sa (ps : List (Int × Int)) : Int := (ps.map (·.1)).sum
def sb (ps : List (Int × Int)) : Int := (ps.map (·.2)).sum
theorem E2_le : ∀ {ps : List (Int × Int)} {A C c : Int}, E2 A C ps ≤ c ↔ C + sb ps ≤ c ∧ ∀ k < ps.length, A + sa (ps.take (k + 1)) + sb (ps.drop k) ≤ c
  | [], A, C, c => by
    show C ≤ c ↔ C + 0 ≤ c ∧ _
    rw [Int.add_zero]
    exact ⟨fun h => ⟨h, fun k hk => absurd hk (Nat.not_lt_zero k)⟩, fun h => h.1⟩
  | x :: ps, A, C, c => by
    show E2 (A + x.1) (mx (A + x.1) C + x.2) ps ≤ c ↔ _
    rw [E2_le]
    have e : mx (A + x.1) C ≤ c - x.2 - sb ps ↔ A + x.1 ≤ c - x.2 - sb ps ∧ C ≤ c - x.2 - sb ps := mx_le
    have eb : sb (x :: ps) = x.2 + sb ps := by unfold sb; rw [List.map_cons, List.sum_cons]
    have ea : ∀ l, sa (x :: l) = x.1 + sa l := fun l => by unfold sa; rw [List.map_cons, List.sum_cons]
    rw [eb]
    constructor
    · rintro ⟨h1, h2⟩
      refine ⟨by omega, fun k hk => ?_⟩
      cases k with
      | zero =>
        show A + sa [x] + sb (x :: ps) ≤ c
        rw [eb, ea]
        show A + (x.1 + 0) + _ ≤ c
        omega
      | succ k =>
        have := h2 k (Nat.lt_of_succ_lt_succ hk)
        show A + sa (x :: ps.take (k + 1)) + sb (ps.drop k) ≤ c
        rw [ea]
        omega
    · rintro ⟨h1, h2⟩
      have h0 : A + sa [x] + sb (x :: ps) ≤ c := h2 0 (Nat.succ_pos _)
      rw [eb, ea] at h0
      have h0' : A + (x.1 + 0) + (x.2 + sb ps) ≤ c := h0
      refine ⟨by omega, fun k hk => ?_⟩
      have := h2 (k + 1) (Nat.succ_lt_succ hk)
      have this : A + sa (x :: ps.take (k + 1)) + sb (ps.drop k) ≤ c := this
      rw [ea] at this
      omega
theorem E2_max {ps : List (Int × Int)} (h0 : ps ≠ []) (h : ∀ x ∈ ps, 0 ≤ x.1 ∧ 0 ≤ x.2) : E2 0 0 ps = maxI ((List.range ps.length).map fun k => sa (ps.take (k + 1)) + sb (ps.drop k)) := by
  have hl : 0 < ps.length := List.length_pos_iff.mpr h0
  have key : ∀ c, E2 0 0 ps ≤ c ↔ ∀ k < ps.length, sa (ps.take (k + 1)) + sb (ps.drop k) ≤ c := fun c => by
    rw [E2_le]
    refine ⟨fun q k hk => by have := q.2 k hk; omega, fun q => ⟨?_, fun k hk => by have := q k hk; omega⟩⟩
    have := q 0 hl
    match ps, h0, h with
    | x :: r, _, h =>
      have hx := h x (List.mem_cons_self ..)
      have this : sa [x] + sb (x :: r) ≤ c := this
      have : sa [x] = x.1 + 0 := rfl
      omega
  refine (maxI_eq ?_ ?_).symm
  · have hne : (List.range ps.length).map (fun k => sa (ps.take (k + 1)) + sb (ps.drop k)) ≠ [] := by simp; exact h0
    have hm := maxI_mem hne
    have : E2 0 0 ps = maxI ((List.range ps.length).map fun k => sa (ps.take (k + 1)) + sb (ps.drop k)) := by
      have h1 := (key (maxI ((List.range ps.length).map fun k => sa (ps.take (k + 1)) + sb (ps.drop k)))).mpr fun k hk => le_maxI (List.mem_map.mpr ⟨k, List.mem_range.mpr hk, rfl⟩)
      obtain ⟨k, hk, e⟩ := List.mem_map.mp hm
      have h2 := (key (E2 0 0 ps)).mp (Int.le_refl _) k (List.mem_range.mp hk)
      omega
    rw [this]
    exact hm
  · intro y hy
    obtain ⟨k, hk, rfl⟩ := List.mem_map.mp hy
    exact (key (E2 0 0 ps)).mp (Int.le_refl _) k (List.mem_range.mp hk)
theorem E2_late : ∀ {ps : List (Int × Int)} {C : Int}, (∀ x ∈ ps, x.1 = 0 ∧ 0 ≤ x.2) → 0 ≤ C → E2 0 C ps = C + sb ps
  | [], C, _, _ => (Int.add_zero C).symm
  | x :: ps, C, h, hC => by
    have h0 := h x (List.mem_cons_self ..)
    have e : mx (0 + x.1) C = C := by unfold mx; split <;> omega
    have eb : sb (x :: ps) = x.2 + sb ps := by unfold sb; rw [List.map_cons, List.sum_cons]
    show E2 (0 + x.1) (mx (0 + x.1) C + x.2) ps = _
    rw [e, h0.1, Int.add_zero, E2_late (fun y hy => h y (List.mem_cons_of_mem _ hy)) (by omega), eb]
    omega
end JF
end jf_
section jb2_
set_option maxRecDepth 100000
set_option maxHeartbeats 2000000
/-! Smith's rule, the rule of due times (plain) -/
namespace JB
open PL
variable (p w d : Nat → Int)
/-! ### Smith -/
def pairS (g : Nat → Nat → Int) : List Nat → Int
  | [] => 0
  | i :: r => (r.map (g i)).sum + pairS g r
theorem sum_add {α : Type} {f g : α → Int} : ∀ {xs : List α}, (xs.map fun x => f x + g x).sum = (xs.map f).sum + (xs.map g).sum
  | [] => rfl
  | x :: xs => by simp [sum_add (xs := xs)]; omega
theorem sum_mulL {α : Type} {f : α → Int} {c : Int} : ∀ {xs : List α}, (xs.map fun x => c * f x).sum = c * (xs.map f).sum
  | [] => by simp
  | x :: xs => by simp [sum_mulL (xs := xs), Int.mul_add]
theorem sum_le' {α : Type} {f g : α → Int} : ∀ {xs : List α}, (∀ x ∈ xs, f x ≤ g x) → (xs.map f).sum ≤ (xs.map g).sum
  | [], _ => Int.le_refl _
  | x :: xs, h => by
    have := sum_le' (xs := xs) fun y hy => h y (by simp [hy])
    have := h x (by simp)
    simp only [List.map_cons, List.sum_cons]
    omega
theorem pairS_perm {g : Nat → Nat → Int} (hs : ∀ i j, g i j = g j i) {a b : List Nat} (h : a.Perm b) : pairS g a = pairS g b := by
  induction h with
  | nil => rfl
  | cons x q ih => rw [pairS, pairS, ih, sumI_perm (q.map (g x))]
  | swap x y l =>
    simp only [pairS, List.map_cons, List.sum_cons]
    rw [hs x y]
    omega
  | trans _ _ h1 h2 => rw [h1, h2]
theorem pairS_le {g h : Nat → Nat → Int} (hs : ∀ i j, g i j ≤ h i j) : ∀ {a : List Nat}, pairS g a ≤ pairS h a
  | [] => Int.le_refl _
  | i :: r => by
    have := pairS_le hs (a := r)
    have := sum_le' (xs := r) fun j _ => hs i j
    simp only [pairS]
    omega
theorem pairS_eq {g h : Nat → Nat → Int} : ∀ {a : List Nat}, a.Pairwise (fun i j => g i j = h i j) → pairS g a = pairS h a
  | [], _ => rfl
  | i :: r, q => by
    rw [List.pairwise_cons] at q
    rw [pairS, pairS, pairS_eq q.2, List.map_congr_left fun j hj => q.1 j hj]
theorem vals_lin : ∀ {S : List Nat} {t : Int}, (vals p (fun j t => w j * t) t S).sum = t * (S.map w).sum + (S.map fun j => w j * p j).sum + pairS (fun i j => p i * w j) S
  | [], t => by simp [vals, pairS]
  | j :: r, t => by
    simp only [vals, List.map_cons, List.sum_cons, pairS]
    rw [vals_lin (S := r), sum_mulL]
    rw [Int.mul_add, Int.mul_add, Int.add_mul, Int.mul_comm (w j) t]
    omega
/-- ratios that fall: none before another is worse -/
def Smith (S : List Nat) : Prop := S.Pairwise fun i j => p i * w j ≤ p j * w i
theorem smith_le {S T : List Nat} (hS : Smith p w S) (h : S.Perm T) : cost p (fun j t => w j * t) S ≤ cost p (fun j t => w j * t) T := by
  unfold cost
  rw [vals_lin, vals_lin]
  have h1 : pairS (fun i j => p i * w j) S = pairS (fun i j => min (p i * w j) (p j * w i)) S := pairS_eq (hS.imp fun {i j} h => by omega)
  have h2 : pairS (fun i j => min (p i * w j) (p j * w i)) S = pairS (fun i j => min (p i * w j) (p j * w i)) T := pairS_perm (fun i j => by omega) h
  have h3 : pairS (fun i j => min (p i * w j) (p j * w i)) T ≤ pairS (fun i j => p i * w j) T := pairS_le fun i j => by omega
  have h4 := sumI_perm (h.map fun j => w j * p j)
  omega
/-! ### due times -/
/-- some job of S ends at the sum of S or later -/
theorem ends_ge (f : Nat → Int → Int) : ∀ {T : List Nat} {t : Int} {S : List Nat}, S ≠ [] → S.Nodup → T.Nodup → (∀ j ∈ S, j ∈ T) → (∀ j, 0 ≤ p j) → ∃ j ∈ S, ∃ e, t + sp p S ≤ e ∧ f j e ∈ vals p f t T
  | [], t, S, h, _, _, hm, _ => by
    cases S with
    | nil => exact absurd rfl h
    | cons x r => exact nomatch hm x (by simp)
  | x :: T, t, S, h, hn, hT, hm, hp => by
    rw [List.nodup_cons] at hT
    have hx := hp x
    by_cases e : S.erase x = []
    · obtain ⟨y, r, rfl⟩ := List.exists_cons_of_ne_nil h
      have hsub : r = [] ∧ y = x := by
        rw [List.erase_cons] at e
        by_cases q : (y == x) = true
        · rw [if_pos q] at e
          exact ⟨e, eq_of_beq q⟩
        · rw [if_neg q] at e; cases e
      obtain ⟨rfl, rfl⟩ := hsub
      exact ⟨y, by simp, t + p y, by simp [sp], by simp [vals]⟩
    · obtain ⟨j, h1, e', h2, h3⟩ := ends_ge f (T := T) (t := t + p x) (S := S.erase x) e (hn.erase x) hT.2 (fun j hj => by
        rw [hn.mem_erase_iff] at hj
        rcases List.mem_cons.mp (hm j hj.2) with z | z
        · exact absurd z hj.1
        · exact z) hp
      refine ⟨j, List.mem_of_mem_erase h1, e', ?_, by simp [vals, h3]⟩
      by_cases q : x ∈ S
      · have := sumI_perm ((List.perm_cons_erase q).map p)
        rw [List.map_cons, List.sum_cons] at this
        unfold sp at *
        omega
      · rw [List.erase_of_not_mem q] at h2
        omega
/-- each late value of an order by due times is reached in any order -/
theorem due_reach : ∀ {S X : List Nat}, (X ++ S).Pairwise (fun i j => d i ≤ d j) → ∀ v ∈ vals p (fun j t => t - d j) (sp p X) S, ∃ pre j post, X ++ S = pre ++ j :: post ∧ v = sp p (pre ++ [j]) - d j ∧ ∀ i ∈ pre ++ [j], d i ≤ d j
  | [], X, _, v, hv => nomatch hv
  | s :: S, X, hp, v, hv => by
    simp only [vals, List.mem_cons] at hv
    rcases hv with rfl | hv
    · refine ⟨X, s, S, rfl, by rw [sp_app]; simp [sp], fun i hi => ?_⟩
      rcases List.mem_append.mp hi with q | q
      · exact (List.pairwise_append.mp hp).2.2 i q s (by simp)
      · rw [List.mem_singleton.mp q]; exact Int.le_refl _
    · have := due_reach (S := S) (X := X ++ [s]) (by simpa using hp) v (by rw [sp_app]; simpa [sp] using hv)
      simpa using this
theorem due_le {S T : List Nat} (hp : ∀ j, 0 ≤ p j) (hS : S.Pairwise fun i j => d i ≤ d j) (hn : S.Nodup) (h : S.Perm T) (h0 : S ≠ []) : late p (fun j t => t - d j) S ≤ late p (fun j t => t - d j) T := by
  have hm := maxI_mem (xs := vals p (fun j t => t - d j) 0 S) (by cases S with | nil => exact absurd rfl h0 | cons x r => simp [vals])
  obtain ⟨pre, j, post, e, hv, hd⟩ := due_reach p d (S := S) (X := []) (by simpa using hS) _ (by simpa [sp] using hm)
  simp only [List.nil_append] at e
  have hn2 : (pre ++ [j]).Nodup := by
    rw [e] at hn
    refine hn.sublist ?_
    rw [show pre ++ j :: post = (pre ++ [j]) ++ post by simp]
    exact List.sublist_append_left _ _
  obtain ⟨i, h1, e', h2, h3⟩ := ends_ge p (fun j t => t - d j) (T := T) (t := 0) (S := pre ++ [j]) (by simp) hn2 (h.nodup_iff.mp hn) (fun k hk => h.mem_iff.mp (by rw [e]; rcases List.mem_append.mp hk with q | q <;> simp_all)) hp
  have h4 := le_maxI h3
  have := hd i h1
  unfold late
  rw [hv]
  omega
end JB
end jb2_
section jb3_
set_option maxRecDepth 100000
set_option maxHeartbeats 2000000
/-! tables of sets (plain) -/
namespace JB
open PL
def inS (s k : Nat) : Bool := s / 2 ^ k % 2 == 1
def mem (s n : Nat) : List Nat := (List.range n).filter (inS s)
theorem mem_iff {s n j : Nat} : j ∈ mem s n ↔ j < n ∧ inS s j = true := by unfold mem; rw [List.mem_filter, List.mem_range]
theorem mem_nodup {s n : Nat} : (mem s n).Nodup := List.nodup_range.filter _
theorem inS_sub {s j k : Nat} (hs : s < 128) (hj : inS s j = true) (hk : k < 7) (hj7 : j < 7) : inS (s - 2 ^ j) k = (inS s k && k != j) := by
  have : ∀ s : Fin 128, ∀ j k : Fin 7, inS s j = true → inS (s - 2 ^ j.val) k = (inS s k && k.val != j.val) := by decide +kernel
  exact this ⟨s, hs⟩ ⟨j, hj7⟩ ⟨k, hk⟩ hj
theorem inS_pow {s j : Nat} (hj : inS s j = true) : 2 ^ j ≤ s := by
  unfold inS at hj
  refine Nat.le_of_not_lt fun h => ?_
  rw [Nat.div_eq_of_lt h] at hj
  simp at hj
theorem inS_ne {s n : Nat} (hs : s < 2 ^ n) (hn : n ≤ 7) (h0 : s ≠ 0) : ∃ j < n, inS s j = true := by
  have : ∀ n : Fin 8, ∀ s : Fin 128, s.val < 2 ^ n.val → s.val ≠ 0 → ∃ j : Fin 7, j.val < n.val ∧ inS s j = true := by decide +kernel
  have h7 : 2 ^ n ≤ 2 ^ 7 := Nat.pow_le_pow_right (by omega) hn
  obtain ⟨j, h1, h2⟩ := this ⟨n, by omega⟩ ⟨s, by omega⟩ hs h0
  exact ⟨j, h1, h2⟩
theorem inS_full {n j : Nat} (hn : n ≤ 7) (hj : j < n) : inS (2 ^ n - 1) j = true := by
  have : ∀ n : Fin 8, ∀ j : Fin 7, j.val < n.val → inS (2 ^ n.val - 1) j = true := by decide +kernel
  exact this ⟨n, by omega⟩ ⟨j, by omega⟩ hj
theorem inS_zero {j : Nat} : inS 0 j = false := by simp [inS]
variable (p : Nat → Int) (f : Nat → Int → Int)
/-- the places of a set, less one -/
theorem sub_list {s n j : Nat} (hn : n ≤ 7) (hs : s < 2 ^ n) (hj : j < n) (hi : inS s j = true) {L : List Nat} (hL : (L ++ [j]).Nodup) (h : ∀ k, k ∈ L ++ [j] ↔ k ∈ mem s n) : s - 2 ^ j < s ∧ ∀ k, k ∈ L ↔ k ∈ mem (s - 2 ^ j) n := by
  have h7 : 2 ^ n ≤ 2 ^ 7 := Nat.pow_le_pow_right (by omega) hn
  refine ⟨by have := inS_pow hi; have : 0 < 2 ^ j := Nat.pow_pos (by omega); omega, fun k => ?_⟩
  have hk := h k
  rw [mem_iff] at hk ⊢
  have hjL : j ∉ L := fun z => (List.nodup_append.mp hL).2.2 j z j (by simp) rfl
  by_cases q : k < n
  · rw [inS_sub (by omega) hi (by omega) (by omega)]
    simp only [List.mem_append, List.mem_singleton] at hk
    by_cases e : k = j
    · subst e
      simp [hjL]
    · simp [e, q] at hk ⊢
      exact hk
  · simp [q] at hk ⊢
    exact hk.1
/-- a table of sets: what the least of a choice gives -/
def Tl (n : Nat) : Nat → List Int
  | 0 => [0]
  | k + 1 => Tl n k ++ [minI ((mem (k + 1) n).map fun j => (Tl n k).getD (k + 1 - 2 ^ j) 0 + f j (sp p (mem (k + 1) n)))]
theorem Tl_len {n : Nat} : ∀ {k : Nat}, (Tl p f n k).length = k + 1
  | 0 => rfl
  | k + 1 => by rw [Tl, List.length_append, Tl_len]; rfl
def T (n s : Nat) : Int := (Tl p f n s).getD s 0
theorem Tl_get {n : Nat} : ∀ {k s : Nat}, s ≤ k → (Tl p f n k).getD s 0 = T p f n s
  | 0, s, h => by rw [Nat.le_zero.mp h]; rfl
  | k + 1, s, h => by
    by_cases e : s = k + 1
    · rw [e]; rfl
    · rw [Tl, List.getD_eq_getElem?_getD, List.getElem?_append_left (by rw [Tl_len]; omega), ← List.getD_eq_getElem?_getD]
      exact Tl_get (by omega)
theorem T_zero {n : Nat} : T p f n 0 = 0 := rfl
def choice (n s : Nat) : List Int := (mem s n).map fun j => T p f n (s - 2 ^ j) + f j (sp p (mem s n))
theorem T_succ {n s : Nat} (h : 0 < s) : T p f n s = minI (choice p f n s) := by
  obtain ⟨k, rfl⟩ := Nat.exists_eq_succ_of_ne_zero (Nat.ne_of_gt h)
  unfold T
  rw [Nat.succ_eq_add_one, Tl, List.getD_eq_getElem?_getD, List.getElem?_append_right (by rw [Tl_len]; exact Nat.le_refl _), Tl_len]
  simp only [Nat.sub_self, List.getElem?_cons_zero, Option.getD_some]
  unfold choice
  congr 1
  refine List.map_congr_left fun j _ => ?_
  rw [Tl_get]
  have : 0 < 2 ^ j := Nat.pow_pos (by omega)
  omega
theorem cost_last {L : List Nat} {j : Nat} : cost p f (L ++ [j]) = cost p f L + f j (sp p (L ++ [j])) := by
  unfold cost
  rw [vals_app, List.sum_append]
  simp [vals, sp]
theorem sp_perm {A B : List Nat} (h : A.Perm B) : sp p A = sp p B := sumI_perm (h.map p)
theorem T_le {n : Nat} (hn : n ≤ 7) : ∀ (m : Nat) {s : Nat} {L : List Nat}, L.length = m → s < 2 ^ n → L.Nodup → (∀ k, k ∈ L ↔ k ∈ mem s n) → T p f n s ≤ cost p f L
  | 0, s, L, hl, hs, hL, h => by
    rw [List.eq_nil_of_length_eq_zero hl] at h ⊢
    by_cases h0 : s = 0
    · subst h0; exact Int.le_refl _
    · obtain ⟨j, h1, h2⟩ := inS_ne hs hn h0
      exact nomatch (h j).mpr (mem_iff.mpr ⟨h1, h2⟩)
  | m + 1, s, L, hl, hs, hL, h => by
    rcases List.eq_nil_or_concat L with rfl | ⟨L', j, rfl⟩
    · cases hl
    · rw [List.concat_eq_append] at *
      have hjm := (h j).mp (by simp)
      obtain ⟨hj, hi⟩ := mem_iff.mp hjm
      obtain ⟨hlt, hsub⟩ := sub_list hn hs hj hi hL h
      have ih := T_le hn m (s := s - 2 ^ j) (L := L') (by simpa using hl) (by omega) (List.nodup_append.mp hL).1 hsub
      rw [cost_last, T_succ p f (by omega)]
      have hp : (L' ++ [j]).Perm (mem s n) := (List.perm_ext_iff_of_nodup hL mem_nodup).mpr h
      have := minI_le (xs := choice p f n s) (List.mem_map.mpr ⟨j, hjm, rfl⟩)
      rw [sp_perm p hp]
      omega
theorem T_ex {n : Nat} (hn : n ≤ 7) : ∀ (m : Nat) {s : Nat}, s ≤ m → s < 2 ^ n → ∃ L : List Nat, L.Nodup ∧ (∀ k, k ∈ L ↔ k ∈ mem s n) ∧ cost p f L = T p f n s := by
  intro m
  induction m with
  | zero =>
    intro s h hs
    rw [Nat.le_zero.mp h]
    refine ⟨[], .nil, fun k => ?_, rfl⟩
    rw [mem_iff]
    simp [inS_zero]
  | succ m ih =>
    intro s h hs
    by_cases h0 : s = 0
    · exact ih (by omega) hs
    · obtain ⟨i, hi1, hi2⟩ := inS_ne hs hn h0
      have hne : choice p f n s ≠ [] := List.ne_nil_of_mem (List.mem_map.mpr ⟨i, mem_iff.mpr ⟨hi1, hi2⟩, rfl⟩)
      have hmin := minI_mem hne
      obtain ⟨j, hj, e⟩ := List.mem_map.mp hmin
      obtain ⟨hjn, hjs⟩ := mem_iff.mp hj
      have h2 : 0 < 2 ^ j := Nat.pow_pos (by omega)
      have h3 := inS_pow hjs
      have h7 : 2 ^ n ≤ 2 ^ 7 := Nat.pow_le_pow_right (by omega) hn
      obtain ⟨L, hL, hm, hc⟩ := ih (s := s - 2 ^ j) (by omega) (by omega)
      have hjL : j ∉ L := fun z => by
        have := (mem_iff.mp ((hm j).mp z)).2
        rw [inS_sub (by omega) hjs (by omega) (by omega)] at this
        simp at this
      have hnd : (L ++ [j]).Nodup := by
        rw [List.nodup_append]
        exact ⟨hL, by simp, fun a ha b hb z => by rw [List.mem_singleton.mp hb] at z; exact hjL (z ▸ ha)⟩
      have hmem : ∀ k, k ∈ L ++ [j] ↔ k ∈ mem s n := fun k => by
        rw [List.mem_append, hm k, List.mem_singleton, mem_iff, mem_iff]
        by_cases q : k < n
        · rw [inS_sub (by omega) hjs (by omega) (by omega)]
          by_cases z : k = j
          · subst z; simp [hjs, q]
          · simp [z]
        · simp [q]
          omega
      refine ⟨L ++ [j], hnd, hmem, ?_⟩
      rw [T_succ p f (s := s) (by omega), cost_last, hc, ← e, sp_perm p ((List.perm_ext_iff_of_nodup hnd mem_nodup).mpr hmem)]
theorem full_mem {n k : Nat} (hn : n ≤ 7) : k ∈ mem (2 ^ n - 1) n ↔ k ∈ List.range n := by
  rw [mem_iff, List.mem_range]
  exact ⟨fun h => h.1, fun h => ⟨h, inS_full hn h⟩⟩
/-- the last member of the table is the least cost -/
theorem T_best {n : Nat} (hn : n ≤ 7) : (∀ S : List Nat, S.Perm (List.range n) → T p f n (2 ^ n - 1) ≤ cost p f S) ∧ ∃ S : List Nat, S.Perm (List.range n) ∧ cost p f S = T p f n (2 ^ n - 1) := by
  have h2 : 0 < 2 ^ n := Nat.pow_pos (by omega)
  refine ⟨fun S hS => T_le p f hn _ rfl (by omega) (hS.nodup_iff.mpr List.nodup_range) fun k => by rw [full_mem hn, hS.mem_iff], ?_⟩
  obtain ⟨L, hL, hm, hc⟩ := T_ex p f hn _ (Nat.le_refl _) (s := 2 ^ n - 1) (by omega)
  exact ⟨L, (List.perm_ext_iff_of_nodup hL List.nodup_range).mpr fun k => by rw [hm k, full_mem hn], hc⟩
end JB
end jb3_
section jb4_
set_option maxRecDepth 100000
set_option maxHeartbeats 2000000
/-! orders by ratios, got one by one (plain) -/
namespace JB
open PL
variable (p w : Nat → Int)
def bst (b : Nat) (r : List Nat) : Nat := r.foldl (fun b j => if p b * w j ≤ p j * w b then b else j) b
def ratioO : Nat → List Nat → List Nat
  | 0, _ => []
  | _ + 1, [] => []
  | n + 1, h :: t => bst p w h t :: ratioO n ((h :: t).erase (bst p w h t))
theorem bst_mem : ∀ {r : List Nat} {b : Nat}, bst p w b r ∈ b :: r
  | [], b => by simp [bst]
  | j :: r, b => by
    have := bst_mem (r := r) (b := if p b * w j ≤ p j * w b then b else j)
    unfold bst at *
    rw [List.foldl_cons]
    rcases List.mem_cons.mp this with q | q
    · rw [q]; split <;> simp
    · simp [q]
theorem ratio_tr {pi wi pb wb pj wj : Int} (hi : 0 < pi) (hb : 0 < pb) (hj : 0 < pj) (h1 : pb * wi ≤ pi * wb) (h2 : pj * wb ≤ pb * wj) : pj * wi ≤ pi * wj := by
  have a1 : pj * (pb * wi) ≤ pj * (pi * wb) := Int.mul_le_mul_of_nonneg_left h1 (Int.le_of_lt hj)
  have a2 : pi * (pj * wb) ≤ pi * (pb * wj) := Int.mul_le_mul_of_nonneg_left h2 (Int.le_of_lt hi)
  have e1 : pj * (pb * wi) = pb * (pj * wi) := by rw [← Int.mul_assoc, ← Int.mul_assoc, Int.mul_comm pj pb]
  have e2 : pj * (pi * wb) = pi * (pj * wb) := by rw [← Int.mul_assoc, ← Int.mul_assoc, Int.mul_comm pj pi]
  have e3 : pi * (pb * wj) = pb * (pi * wj) := by rw [← Int.mul_assoc, ← Int.mul_assoc, Int.mul_comm pi pb]
  exact Int.le_of_mul_le_mul_left (by omega) hb
theorem bst_le : ∀ {r : List Nat} {b : Nat} {A : List Nat}, (∀ i ∈ b :: r, 0 < p i) → (∀ i ∈ A, 0 < p i) → (∀ i ∈ A, p b * w i ≤ p i * w b) → ∀ i ∈ A ++ b :: r, p (bst p w b r) * w i ≤ p i * w (bst p w b r)
  | [], b, A, _, _, hA, i, hi => by
    rcases List.mem_append.mp hi with q | q
    · exact hA i q
    · rw [List.mem_singleton.mp q]; exact Int.le_refl _
  | j :: r, b, A, hp, hpA, hA, i, hi => by
    have hb := hp b (by simp)
    have hj := hp j (by simp)
    have key : bst p w b (j :: r) = bst p w (if p b * w j ≤ p j * w b then b else j) r := rfl
    rw [key]
    by_cases c : p b * w j ≤ p j * w b
    · rw [if_pos c]
      refine bst_le (A := A ++ [j]) (fun i hi => hp i (by rcases List.mem_cons.mp hi with q | q <;> simp [q])) (fun i hi => ?_) (fun i hi => ?_) i ?_
      · rcases List.mem_append.mp hi with q | q
        · exact hpA i q
        · rw [List.mem_singleton.mp q]; exact hj
      · rcases List.mem_append.mp hi with q | q
        · exact hA i q
        · rw [List.mem_singleton.mp q]; exact c
      · rcases List.mem_append.mp hi with q | q
        · simp [q]
        · rcases List.mem_cons.mp q with q | q
          · simp [q]
          · rcases List.mem_cons.mp q with q | q <;> simp [q]
    · rw [if_neg c]
      refine bst_le (A := A ++ [b]) (fun i hi => hp i (by rcases List.mem_cons.mp hi with q | q <;> simp [q])) (fun i hi => ?_) (fun i hi => ?_) i ?_
      · rcases List.mem_append.mp hi with q | q
        · exact hpA i q
        · rw [List.mem_singleton.mp q]; exact hb
      · rcases List.mem_append.mp hi with q | q
        · exact ratio_tr (hpA i q) hb hj (hA i q) (by omega)
        · rw [List.mem_singleton.mp q]; omega
      · rcases List.mem_append.mp hi with q | q
        · simp [q]
        · rcases List.mem_cons.mp q with q | q
          · simp [q]
          · rcases List.mem_cons.mp q with q | q <;> simp [q]
theorem ratioO_perm : ∀ {n : Nat} {L : List Nat}, L.length = n → (ratioO p w n L).Perm L
  | 0, L, h => by rw [List.eq_nil_of_length_eq_zero h]; exact .refl _
  | n + 1, [], h => nomatch h
  | n + 1, x :: t, h => by
    have hm := bst_mem p w (r := t) (b := x)
    rw [ratioO]
    exact ((ratioO_perm (by rw [List.length_erase_of_mem hm, h]; rfl)).cons _).trans (List.perm_cons_erase hm).symm
theorem ratioO_smith : ∀ {n : Nat} {L : List Nat}, L.length = n → (∀ i ∈ L, 0 < p i) → Smith p w (ratioO p w n L)
  | 0, L, h, _ => .nil
  | n + 1, [], h, _ => nomatch h
  | n + 1, x :: t, h, hp => by
    have hm := bst_mem p w (r := t) (b := x)
    have hl : ((x :: t).erase (bst p w x t)).length = n := by rw [List.length_erase_of_mem hm, h]; rfl
    rw [ratioO]
    refine List.pairwise_cons.mpr ⟨fun j hj => ?_, ratioO_smith hl fun i hi => hp i (List.mem_of_mem_erase hi)⟩
    have hj' := List.mem_of_mem_erase ((ratioO_perm p w hl).mem_iff.mp hj)
    exact bst_le p w (A := []) hp (fun _ h => nomatch h) (fun _ h => nomatch h) j (by simpa using hj')
end JB
end jb4_
section jb5_
set_option maxRecDepth 100000
set_option maxHeartbeats 2000000
/-! all turns; jobs as drawn (plain) -/
namespace JB
open PL
def trn (n : Nat) : Nat → List (List Nat)
  | 0 => [[]]
  | k + 1 => (trn n k).flatMap fun row => ((List.range n).filter fun j => !row.contains j).map fun j => row ++ [j]
theorem trn_ok {n : Nat} : ∀ {k : Nat} {S : List Nat}, S ∈ trn n k ↔ S.length = k ∧ S.Nodup ∧ ∀ j ∈ S, j < n
  | 0, S => by
    simp only [trn, List.mem_singleton]
    constructor
    · rintro rfl; simp
    · intro h; exact List.eq_nil_of_length_eq_zero h.1
  | k + 1, S => by
    simp only [trn, List.mem_flatMap, List.mem_map, List.mem_filter, List.mem_range]
    constructor
    · rintro ⟨row, hr, j, ⟨hj, hn⟩, rfl⟩
      obtain ⟨h1, h2, h3⟩ := trn_ok.mp hr
      have hjr : j ∉ row := by simpa using hn
      refine ⟨by simp [h1], ?_, fun i hi => ?_⟩
      · rw [List.nodup_append]
        exact ⟨h2, by simp, fun a ha b hb e => by rw [List.mem_singleton.mp hb] at e; exact hjr (e ▸ ha)⟩
      · rcases List.mem_append.mp hi with q | q
        · exact h3 i q
        · rw [List.mem_singleton.mp q]; exact hj
    · rintro ⟨h1, h2, h3⟩
      rcases List.eq_nil_or_concat S with rfl | ⟨T, x, rfl⟩
      · cases h1
      · rw [List.concat_eq_append] at *
        obtain ⟨q1, _, q3⟩ := List.nodup_append.mp h2
        refine ⟨T, trn_ok.mpr ⟨by simpa using h1, q1, fun j hj => h3 j (by simp [hj])⟩, x, ⟨h3 x (by simp), ?_⟩, rfl⟩
        simp
        exact fun z => q3 x z x (by simp) rfl
theorem trn_perm {n : Nat} {S : List Nat} : S ∈ trn n n ↔ S.Perm (List.range n) := by
  rw [trn_ok]
  constructor
  · rintro ⟨h1, h2, h3⟩
    have hsub : ∀ j ∈ S, j ∈ List.range n := fun j hj => List.mem_range.mpr (h3 j hj)
    refine (List.perm_ext_iff_of_nodup h2 List.nodup_range).mpr fun a => ⟨hsub a, fun ha => ?_⟩
    by_cases q : a ∈ S
    · exact q
    · have : (a :: S).length ≤ (List.range n).length := nodup_le (List.nodup_cons.mpr ⟨q, h2⟩) fun x hx => by
        rcases List.mem_cons.mp hx with rfl | hx
        · exact ha
        · exact hsub x hx
      simp at this
      omega
  · intro h
    exact ⟨by simpa using h.length_eq, h.nodup_iff.mpr List.nodup_range, fun j hj => List.mem_range.mp (h.mem_iff.mp hj)⟩
theorem flat_len {α β : Type} {f : α → List β} {c : Nat} : ∀ {xs : List α}, (∀ x ∈ xs, (f x).length ≤ c) → (xs.flatMap f).length ≤ xs.length * c
  | [], _ => by simp
  | x :: xs, h => by
    have h1 := flat_len (xs := xs) fun y hy => h y (by simp [hy])
    have h2 := h x (by simp)
    rw [List.flatMap_cons, List.length_append, List.length_cons, Nat.add_mul]
    omega
theorem trn_len {n : Nat} : ∀ {k : Nat}, (trn n k).length ≤ n ^ k
  | 0 => by simp [trn]
  | k + 1 => by
    have h1 := trn_len (n := n) (k := k)
    have h2 : (trn n (k + 1)).length ≤ (trn n k).length * n := flat_len fun x _ => by
      rw [List.length_map]
      exact Nat.le_trans (List.length_filter_le _ _) (by simp)
    rw [Nat.pow_succ]
    exact Nat.le_trans h2 (Nat.mul_le_mul_right n h1)
def trnRow (n : Nat) (row : List Nat) : List (List Nat) := ((List.range n).filter fun j => !row.contains j).map fun j => row ++ [j]
def trnStep (n : Nat) (s : List (List Nat)) (row : List Nat) : List (List Nat) := s ++ trnRow n row
theorem trnRow_len {n : Nat} {row : List Nat} : (trnRow n row).length ≤ n := by
  unfold trnRow
  rw [List.length_map]
  exact Nat.le_trans (List.length_filter_le _ _) (by simp)
theorem trnStep_fold {n : Nat} : ∀ (l s : List (List Nat)), l.foldl (trnStep n) s = s ++ l.flatMap (trnRow n)
  | [], s => by simp
  | a :: r, s => by
    rw [List.foldl_cons, trnStep_fold r, trnStep, List.flatMap_cons, List.append_assoc]
theorem trn_succ {n k : Nat} : trn n (k + 1) = (trn n k).flatMap (trnRow n) := rfl
theorem trnStep_len {n : Nat} {l : List (List Nat)} : (l.foldl (trnStep n) []).length ≤ l.length * n := by
  rw [trnStep_fold, List.nil_append]
  exact flat_len fun x _ => trnRow_len
/-- before one another in an order -/
theorem split_before {S : List Nat} {a b : Nat} (hn : S.Nodup) (ha : a ∈ S) (hb : b ∈ S) (h : S.findIdx (· == b) < S.findIdx (· == a)) : ∃ X Y Z, S = X ++ b :: (Y ++ a :: Z) := by
  obtain ⟨X, R, rfl⟩ := List.append_of_mem hb
  have hab : a ≠ b := fun e => by rw [e] at h; exact absurd h (Nat.lt_irrefl _)
  rcases List.mem_append.mp ha with q | q
  · exfalso
    rw [List.findIdx_append, List.findIdx_append] at h
    have h1 : X.findIdx (· == a) < X.length := List.findIdx_lt_length_of_exists ⟨a, q, by simp⟩
    have h2 : ¬ X.findIdx (· == b) < X.length := fun z => by
      have := List.findIdx_getElem (w := z)
      have hbX : b ∈ X := by
        have e : X[X.findIdx (· == b)] = b := by simpa using this
        rw [← e]; exact List.getElem_mem z
      exact (List.nodup_append.mp hn).2.2 b hbX b (by simp) rfl
    rw [if_pos h1, if_neg h2] at h
    omega
  · rcases List.mem_cons.mp q with q | q
    · exact absurd q hab
    · obtain ⟨Y, Z, rfl⟩ := List.append_of_mem q
      exact ⟨X, Y, Z, rfl⟩
theorem idx_split {X Y Z : List Nat} {a b : Nat} (hn : (X ++ b :: (Y ++ a :: Z)).Nodup) : (X ++ b :: (Y ++ a :: Z)).findIdx (· == b) < (X ++ b :: (Y ++ a :: Z)).findIdx (· == a) := by
  have h1 := (List.nodup_append.mp hn).2.2
  have hbX : b ∉ X := fun z => h1 b z b (by simp) rfl
  have haX : a ∉ X := fun z => h1 a z a (by simp) rfl
  have hab : b ≠ a := fun e => by
    have := (List.nodup_cons.mp (List.nodup_append.mp hn).2.1).1
    exact this (by rw [e]; simp)
  have nf : ∀ {c : Nat}, c ∉ X → ¬ X.findIdx (· == c) < X.length := fun {c} hc z => by
    have := List.findIdx_getElem (w := z)
    have e : X[X.findIdx (· == c)] = c := by simpa using this
    exact hc (by rw [← e]; exact List.getElem_mem z)
  rw [List.findIdx_append, List.findIdx_append, if_neg (nf hbX), if_neg (nf haX), List.findIdx_cons, List.findIdx_cons, show (b == a) = false by simpa using hab, beq_self_eq_true]
  simp
/-- two members exchanged -/
def sw (a b : Nat) (j : Nat) : Nat := if j = a then b else if j = b then a else j
theorem sw_split {X Y Z : List Nat} {a b : Nat} (hn : (X ++ b :: (Y ++ a :: Z)).Nodup) : (X ++ b :: (Y ++ a :: Z)).map (sw a b) = X ++ a :: (Y ++ b :: Z) := by
  have h1 := List.nodup_append.mp hn
  have h2 := List.nodup_cons.mp h1.2.1
  have h3 := List.nodup_append.mp h2.2
  have h4 := List.nodup_cons.mp h3.2.1
  have hab : b ≠ a := fun e => h2.1 (by rw [e]; simp)
  have same : ∀ {L : List Nat}, a ∉ L → b ∉ L → L.map (sw a b) = L := fun {L} ha hb => by
    have : L.map (sw a b) = L.map id := List.map_congr_left fun j hj => by
      unfold sw
      rw [if_neg fun e : j = a => ha (by rw [← e]; exact hj), if_neg fun e : j = b => hb (by rw [← e]; exact hj)]
      rfl
    rw [this, List.map_id]
  rw [List.map_append, List.map_cons, List.map_append, List.map_cons, same (fun z => h1.2.2 a z a (by simp) rfl) (fun z => h1.2.2 b z b (by simp) rfl), same (fun z => h3.2.2 a z a (by simp) rfl) (fun z => h2.1 (by simp [z])), same h4.1 (fun z => h2.1 (by simp [z]))]
  unfold sw
  simp [hab]
/-- jobs as the laws draw them -/
structure OkJ (J : Js) : Prop where
  p : ∀ j, 0 ≤ P J j ∧ P J j ≤ 100
  p1 : ∀ j < J.length, 0 < P J j
  w : ∀ j, 0 ≤ W J j ∧ W J j ≤ 100
  d : ∀ j, 0 ≤ Du J j ∧ Du J j ≤ 1000
theorem OkJ.of {J : Js} (h : ∀ u ∈ J, (1 ≤ u.1 ∧ u.1 ≤ 100) ∧ (0 ≤ u.2.1 ∧ u.2.1 ≤ 100) ∧ (0 ≤ u.2.2 ∧ u.2.2 ≤ 1000)) : OkJ J := by
  have key : ∀ j, (J.getD j (0, 0, 0) ∈ J ∧ j < J.length) ∨ (J.getD j (0, 0, 0) = (0, 0, 0) ∧ ¬ j < J.length) := fun j => by
    by_cases q : j < J.length
    · rw [List.getD_eq_getElem?_getD, List.getElem?_eq_getElem q]
      exact .inl ⟨List.getElem_mem q, q⟩
    · rw [List.getD_eq_getElem?_getD, List.getElem?_eq_none (by omega)]
      exact .inr ⟨rfl, q⟩
  refine ⟨fun j => ?_, fun j hj => ?_, fun j => ?_, fun j => ?_⟩
  · unfold P
    rcases key j with ⟨q, _⟩ | ⟨q, _⟩
    · have := h _ q; omega
    · rw [q]; decide
  · unfold P
    rcases key j with ⟨q, _⟩ | ⟨q, q2⟩
    · have := h _ q; omega
    · exact absurd hj q2
  · unfold W
    rcases key j with ⟨q, _⟩ | ⟨q, _⟩
    · have := h _ q; omega
    · rw [q]; decide
  · unfold Du
    rcases key j with ⟨q, _⟩ | ⟨q, _⟩
    · have := h _ q; omega
    · rw [q]; decide
end JB
end jb5_
section jf2_
set_option maxRecDepth 100000
set_option maxHeartbeats 2000000
namespace JF
open PL
/-- Johnson's order -/
def johnO (n : Nat) (a b : Nat → Int) : List Nat := ((List.range n).filter fun j => decide (a j < b j)).mergeSort (le2 a fun j => (j : Int)) ++ ((List.range n).filter fun j => decide (a j ≥ b j)).mergeSort (le2 (fun j => -b j) fun j => (j : Int))
theorem johnO_perm {n : Nat} {a b : Nat → Int} : (johnO n a b).Perm (List.range n) := by
  unfold johnO
  refine ((List.mergeSort_perm _ _).append (List.mergeSort_perm _ _)).trans ?_
  have e : (fun j => decide (a j ≥ b j)) = fun j => !decide (a j < b j) := by
    funext j
    by_cases c : a j < b j
    · rw [decide_eq_true c, decide_eq_false (by omega)]; rfl
    · rw [decide_eq_false c, decide_eq_true (by omega)]; rfl
  rw [e]
  exact List.filter_append_perm _ _
theorem johnO_ok {n : Nat} {a b : Nat → Int} : ((johnO n a b).map fun j => (a j, b j)).Pairwise Jn := by
  unfold johnO
  rw [List.pairwise_map]
  have m1 : ∀ j ∈ ((List.range n).filter fun j => decide (a j < b j)).mergeSort (le2 a fun j => (j : Int)), a j < b j := fun j hj => by
    have := (List.mergeSort_perm _ _).mem_iff.mp hj
    simp at this
    exact this.2
  have m2 : ∀ j ∈ ((List.range n).filter fun j => decide (a j ≥ b j)).mergeSort (le2 (fun j => -b j) fun j => (j : Int)), b j ≤ a j := fun j hj => by
    have := (List.mergeSort_perm _ _).mem_iff.mp hj
    simp at this
    exact this.2
  refine List.pairwise_append.mpr ⟨?_, ?_, fun x hx y hy => ⟨.inr (m2 y hy), .inl (by have := m1 x hx; show a x ≤ b x; omega)⟩⟩
  · refine List.Pairwise.imp_of_mem (fun {x y} hx hy h => ?_) (le2_sorted _)
    have h1 := m1 x hx
    exact ⟨.inl (by show a x ≤ a y; omega), .inl (by show a x ≤ b x; omega)⟩
  · refine List.Pairwise.imp_of_mem (fun {x y} hx hy h => ?_) (le2_sorted _)
    have h1 := m2 y hy
    exact ⟨.inr h1, .inr (by show b y ≤ b x; omega)⟩
theorem perms_chk {n : Nat} (h : n ≤ 5) : ((PR.perms n).all fun S => (JB.trn n n).contains S) = true ∧ ((JB.trn n n).all fun S => (PR.perms n).contains S) = true := by
  rcases n with _ | _ | _ | _ | _ | _ | n <;> first | (exfalso; omega) | decide +kernel
theorem perms_mem {n : Nat} {S : List Nat} (h : n ≤ 5) : S ∈ PR.perms n ↔ S.Perm (List.range n) := by
  obtain ⟨h1, h2⟩ := perms_chk h
  rw [← JB.trn_perm]
  refine ⟨fun q => ?_, fun q => ?_⟩
  · exact List.contains_iff_mem.mp (List.all_eq_true.mp h1 S q)
  · exact List.contains_iff_mem.mp (List.all_eq_true.mp h2 S q)
end JF
end jf2_
section pm6_
set_option maxRecDepth 100000
set_option maxHeartbeats 2000000
/-! plain reckoning: least pairs, products, lent lists -/
namespace PL
open PySem PySem.Spec PyProof.Rows L2 PySem.W
open Mir (ret bnd lift)
theorem minD2 {α : Type} {f g : α → Int} : ∀ (r : List α) (x : α), ∃ y ∈ x :: r, minD (e2 (f x) (g x)) (r.map fun x => e2 (f x) (g x)) = e2 (f y) (g y) ∧ ∀ z ∈ x :: r, f y < f z ∨ (f y = f z ∧ g y ≤ g z)
  | [], x => ⟨x, by simp, rfl, fun z hz => by rw [List.mem_singleton.mp hz]; exact .inr ⟨rfl, Int.le_refl _⟩⟩
  | z :: r, x => by
    unfold minD
    rw [List.map_cons, List.foldl_cons, dataLt_ii]
    by_cases q : f z < f x ∨ (f z = f x ∧ g z < g x)
    · rw [decide_eq_true q, if_pos rfl]
      obtain ⟨y, h1, h2, h3⟩ := minD2 (f := f) (g := g) r z
      refine ⟨y, List.mem_cons_of_mem _ h1, h2, fun u hu => ?_⟩
      rcases List.mem_cons.mp hu with rfl | hu
      · have := h3 z (by simp)
        omega
      · exact h3 u hu
    · rw [decide_eq_false q, if_neg (by simp)]
      obtain ⟨y, h1, h2, h3⟩ := minD2 (f := f) (g := g) r x
      refine ⟨y, ?_, h2, fun u hu => ?_⟩
      · rcases List.mem_cons.mp h1 with rfl | h1
        · simp
        · simp [h1]
      · rcases List.mem_cons.mp hu with rfl | hu
        · exact h3 u (by simp)
        · rcases List.mem_cons.mp hu with rfl | hu
          · have := h3 x (by simp)
            omega
          · exact h3 u (by simp [hu])
theorem dMin_22 {α : Type} {f g : α → Int} {x : D} {xs : List α} (hx : dItems x = some (xs.map fun x => e2 (f x) (g x))) (h : xs ≠ []) : ∃ y ∈ xs, dMin x = some (e2 (f y) (g y)) ∧ ∀ z ∈ xs, f y < f z ∨ (f y = f z ∧ g y ≤ g z) := by
  unfold dMin
  rw [hx, Option.bind_some]
  cases xs with
  | nil => exact absurd rfl h
  | cons x r =>
    obtain ⟨y, h1, h2, h3⟩ := minD2 (f := f) (g := g) r x
    refine ⟨y, h1, ?_, h3⟩
    show (if minB ((x :: r).map fun x => e2 (f x) (g x)) = true then some (minD (e2 (f x) (g x)) (r.map fun x => e2 (f x) (g x))) else none) = _
    rw [minB_2, if_pos rfl, h2]
/-- the least of pairs, its first member -/
theorem dMin_2m {α : Type} {f g : α → Int} {x : D} {xs : List α} (hx : dItems x = some (xs.map fun x => e2 (f x) (g x))) (h : xs ≠ []) : ∃ y ∈ xs, f y = minI (xs.map f) ∧ dMin x = some (e2 (minI (xs.map f)) (g y)) := by
  obtain ⟨y, h1, h2, h3⟩ := dMin_22 hx h
  have e : minI (xs.map f) = f y := minI_eq (List.mem_map.mpr ⟨y, h1, rfl⟩) fun z hz => by
    obtain ⟨u, hu, rfl⟩ := List.mem_map.mp hz
    have := h3 u hu
    omega
  exact ⟨y, h1, e.symm, by rw [e]; exact h2⟩
theorem dMul_l {i j : Int} (h1 : -1000000000 ≤ i) (h2 : i ≤ 1000000000) : dMul (.int i) (.int j) = some (.int (i * j)) := by
  have h : CMul i j := .inl ⟨Int.lt_of_lt_of_le (by decide) h1, Int.lt_of_le_of_lt h2 (by decide)⟩
  show (if CMul i j then some (PyData.int (i * j)) else none) = _
  rw [if_pos h]
theorem dDiv_i {i j : Int} (h1 : 0 < j) (h2 : j < 1000000000) : dDiv (.int i) (.int j) = some (.int (i / j)) := by
  have h : CDiv i j := ⟨h1, by omega⟩
  show (if CDiv i j then some (PyData.int (i / j)) else none) = _
  rw [if_pos h]
@[simp] theorem dMin2_i {i j : Int} : dMin2 (.int i) (.int j) = some (.int (if j < i then j else i)) := rfl
@[simp] theorem noL_i {i : Int} : noL (.int i) = some (.int i) := rfl
@[simp] theorem noL_b {i : Bool} : noL (.bool i) = some (.bool i) := rfl
theorem noL_of {d : D} (h : noLB d = true) : noL d = some d := if_pos h
theorem noLs_of {ds : List D} (h : noLAll ds = true) : noLs ds = some ds := if_pos h
theorem noLAll_m {α : Type} {e : α → D} : ∀ {xs : List α}, (∀ x ∈ xs, noLB (e x) = true) → noLAll (xs.map e) = true
  | [], _ => by simp [noLAll]
  | x :: xs, h => by
    rw [List.map_cons, noLAll, h x (by simp), noLAll_m fun y hy => h y (by simp [hy])]
    rfl
theorem dRem_n {S : List Nat} {j : Nat} (h : j ∈ S) : dRem (S.map eN) (eN j) = some ((S.erase j).map eN) := by
  unfold dRem
  have e1 : dInts (S.map eN) = some (S.map fun k : Nat => (k : Int)) := sum_map_cast (f := fun k : Nat => (k : Int))
  rw [e1, Option.bind_some, show dInt (eN j) = some (j : Int) from rfl, Option.bind_some, List.findIdx?_map]
  have : ((fun n : Int => n == (j : Int)) ∘ fun k : Nat => (k : Int)) = fun k : Nat => k == j := by
    funext k
    exact nat_eq
  rw [this]
  have h2 : S.findIdx? (fun k => k == j) = some (S.findIdx (· == j)) := by
    rw [List.findIdx?_eq_some_iff_findIdx_eq]
    exact ⟨List.findIdx_lt_length_of_exists ⟨j, h, by simp⟩, rfl⟩
  rw [h2, Option.map_some, eraseIdx_map', List.map_map, List.erase_eq_eraseIdx]
  have h3 : S.idxOf? j = some (S.findIdx (· == j)) := h2
  rw [h3]
  rfl
theorem dRange_ab {a b : Nat} (ha : a < 1000000000) (hb : b < 1000000000) : dRange (a : Int) (b : Int) = some ((List.range' a (b - a)).map eN) := by
  unfold dRange
  rw [if_pos ⟨Int.le_trans (by decide) (Int.natCast_nonneg a), small62 ha, Int.le_trans (by decide) (Int.natCast_nonneg b), small62 hb⟩]
  rw [show ((b : Int) - (a : Int)).toNat = b - a by omega, List.range'_eq_map_range, List.map_map]
  refine congrArg some (List.map_congr_left fun k _ => ?_)
  simp
theorem range'_split {a m k : Nat} {p post : List Nat} (h : List.range' a m = p ++ k :: post) : k = a + p.length ∧ p.length < m := by
  have hl := congrArg List.length h
  simp at hl
  have h2 : (List.range' a m)[p.length]? = some k := by rw [h]; simp
  rw [List.getElem?_range' (by omega)] at h2
  have := Option.some.inj h2
  omega
/-- a while loop by a measure -/
theorem whileF_ok {β γ : Type} {c : β → Option Bool} {f : β → Option (Fl β β)} (I : β → Prop) (m : β → Nat) : ∀ (n : Nat) {b : β}, I b → m b < n → (∀ b, I b → (c b = some false) ∨ (c b = some true ∧ OK (f b) fun r => ∃ b', r = .nx b' ∧ I b' ∧ m b' < m b)) → ∀ {k : Fl γ β → Prop}, (∀ b, I b → c b = some false → k (.nx b)) → OK (whileF (γ := γ) c f n b) k
  | 0, b, _, h, _, k, _ => absurd h (Nat.not_lt_zero _)
  | n + 1, b, hI, hm, hs, k, hk => by
    simp only [whileF, bnd_o]
    rcases hs b hI with h | ⟨h, r, h1, b', rfl, h2, h3⟩
    · rw [h]
      exact OK_some.mpr (hk b hI h)
    · rw [h]
      simp only [Option.bind_some, if_true, bnd_o, h1]
      exact whileF_ok I m n h2 (by omega) hs hk
theorem eqvAll_i {α β : Type} {f : α → Int} {g : β → Int} : ∀ {xs : List α} {ys : List β}, PyData.eqvAll (xs.map fun x => .int (f x)) (ys.map fun y => .int (g y)) = (xs.map f == ys.map g)
  | [], [] => by simp [PyData.eqvAll]
  | [], _ :: _ => by simp [PyData.eqvAll]
  | _ :: _, [] => by simp [PyData.eqvAll]
  | x :: xs, y :: ys => by
    rw [List.map_cons, List.map_cons, PyData.eqvAll, eqv_i, eqvAll_i, List.map_cons, List.map_cons]
    rfl
theorem dEq_li {α β : Type} {f : α → Int} {g : β → Int} {xs : List α} {ys : List β} : dEq (.list (xs.map fun x => .int (f x))) (.list (ys.map fun y => .int (g y))) = some (.bool (xs.map f == ys.map g)) := by
  unfold dEq
  rw [shaped_li, shaped_li, Bool.and_true, if_pos rfl, PyData.eqv, eqvAll_i]
theorem dEq_ti {α β : Type} {f : α → Int} {g : β → Int} {xs : List α} {ys : List β} : dEq (.tuple (xs.map fun x => .int (f x))) (.tuple (ys.map fun y => .int (g y))) = some (.bool (xs.map f == ys.map g)) := by
  unfold dEq
  rw [shaped_ti, shaped_ti, Bool.and_true, if_pos rfl, PyData.eqv, eqvAll_i]
theorem dEq_ln {S T : List Nat} : dEq (.list (S.map eN)) (.list (T.map eN)) = some (.bool (S == T)) := by
  rw [dEq_li (f := fun j : Nat => (j : Int)) (g := fun j : Nat => (j : Int))]
  congr 2
  rw [Bool.eq_iff_iff]
  simp
  constructor
  · intro h
    have := congrArg (List.map Int.toNat) h
    simpa [List.map_map, Function.comp_def] using this
  · intro h; rw [h]
/-- a sorted list of a turn -/
theorem srt_range {S : List Nat} {n : Nat} (h : S.Perm (List.range n)) : srt S = List.range n := by
  have h1 := srt_lt (h.nodup_iff.mpr List.nodup_range)
  have h2 : (List.range n).Pairwise (· < ·) := List.pairwise_lt_range
  exact (srt_perm.trans h).eq_of_pairwise (fun a b _ _ x y => absurd (Nat.lt_trans x y) (Nat.lt_irrefl _)) h1 h2
theorem zip_tab {φ ψ : Nat → D} {n : Nat} : dZipM (.tuple ((List.range n).map φ)) (.list ((List.range n).map ψ)) = some ((List.range n).map fun j => .tuple [φ j, ψ j]) := by
  have : ∀ l : List Nat, List.zipWith (fun x y => PyData.tuple [x, y]) (l.map φ) (l.map ψ) = l.map fun j => .tuple [φ j, ψ j] := fun l => by
    induction l with
    | nil => rfl
    | cons x r ih => simpa using ih
  unfold dZipM
  simp only [this]
@[simp] theorem dIxN_t2 {xs : List D} : dIxN (.tuple xs) (.int 2) = xs[2]? := by
  rw [show (2 : Int) = ((2 : Nat) : Int) from rfl]
  exact dIxN_t (by omega)
theorem dIx_last {xs : List D} {n : Nat} (h : xs.length = n + 1) : dIx (.tuple xs) (.int (-1)) = xs[n]? := by
  show atI xs (-1) = _
  unfold atI ixN
  rw [h, if_neg (by omega), if_pos (by omega), show ((-1 : Int) + ((n + 1 : Nat) : Int)).toNat = n by omega]
  rfl
theorem dIx_lastL {xs : List D} {n : Nat} (h : xs.length = n + 1) : dIx (.list xs) (.int (-1)) = xs[n]? := dIx_last h
end PL
end pm6_
section k78m1_
set_option maxRecDepth 100000
set_option maxHeartbeats 2000000
namespace K78
open PySem PySem.Spec PyProof.Rows L2 PySem.W PL
theorem turn_w {n : Nat} (hn : n ≤ 1000) {k : D → Prop} (h : ∀ T : List Nat, T.Perm (List.range n) → k (eS T)) : md__law_turn [.int (n : Int)] k := by
  have hz := sizeLine_eq
  unfold md__law_turn mb__law_turn b__law_turn
  simp -implicitDefEqProofs [dRg_n (n := n) (by omega), dRange_n (n := n) (by omega)]
  refine forF_w (e := eN) (I := fun p b => ∃ F L : List Nat, b = (F.map eN, L.map eN) ∧ (F ++ L).Perm (List.range n) ∧ F.length = p.length) [] ⟨[], List.range n, rfl, .refl _, rfl⟩ ?_ ?_
  · rintro p x post hp _ b ⟨F, L, rfl, hP, hl⟩ K hK
    have h1 := hP.length_eq
    have h2 := congrArg List.length hp
    simp at h1 h2
    simp -implicitDefEqProofs
    refine draw_w (n := L.length) (by omega) (by omega) fun r hr => ?_
    rw [dPopAt_n hr (by omega)]
    simp -implicitDefEqProofs
    rw [dApp_m (by omega)]
    simp -implicitDefEqProofs
    refine hK _ ⟨F ++ [L[r]], L.eraseIdx r, by simp, ?_, by simp; omega⟩
    refine List.Perm.trans ?_ hP
    rw [List.append_assoc]
    exact (eraseIdx_perm hr).append_left F
  · rintro b ⟨F, L, rfl, hP, hl⟩
    have h1 := hP.length_eq
    simp at h1 hl
    have : L = [] := List.eq_nil_of_length_eq_zero (by omega)
    subst this
    simp -implicitDefEqProofs
    exact h F (by simpa using hP)
@[simp] theorem is_integer_i {i : Int} : md_is_integer [.int i] = some (.bool true) := by
  unfold md_is_integer mb_is_integer b_is_integer
  simp -implicitDefEqProofs
theorem is_row_i {α : Type} {f : α → Int} {xs : List α} {n : Int} : md_is_row [.tuple (xs.map fun x => .int (f x)), .int n] = some (.bool ((xs.length : Int) == n)) := by
  unfold md_is_row mb_is_row b_is_row
  simp -implicitDefEqProofs
  by_cases h : (xs.length : Int) = n
  · simp -implicitDefEqProofs [h]
    rw [allF_o (e := fun x => .int (f x)) (c := fun x => .int (f x)) (q := fun _ => true) (fun _ _ => rfl) (fun _ _ => rfl) fun x _ => is_integer_i]
    simp -implicitDefEqProofs
  · simp -implicitDefEqProofs [h]
theorem is_order_eq {S : List Nat} {n : Nat} (h : S.Perm (List.range n)) (hn : n ≤ 1000) : md_is_order [.int (n : Int), eS S] = some (.bool true) := by
  have hl := h.length_eq
  simp at hl
  unfold md_is_order mb_is_order b_is_order
  simp -implicitDefEqProofs
  rw [show eS S = .tuple (S.map fun j : Nat => .int (j : Int)) from rfl, is_row_i (f := fun j : Nat => (j : Int)) (xs := S), hl]
  simp -implicitDefEqProofs
  rw [show (S.map fun j : Nat => PyData.int (j : Int)) = S.map eN from rfl, sort_n, srt_range h, dRg_n (n := n) (by omega)]
  simp -implicitDefEqProofs [dEq_ln]
theorem is_worded_t {x y : Str} {xs : List D} {n : Int} (hx : SeqAt.shaped (.str x) = true) (hy : SeqAt.shaped (.str y) = true) (hn : ((xs.length : Int) + 1 == n) = true) : md_is_worded [.tuple (.str x :: xs), .str y, .int n] = some (.bool (x == y)) := by
  unfold md_is_worded mb_is_worded b_is_worded
  simp at hn
  simp -implicitDefEqProofs [dEq_s hx hy, hn]
theorem draw3_w {a b c : Int} {k : D → Prop} (h : ∀ z : Int, (z = a ∨ z = b ∨ z = c) → k (.int z)) : md__law_draw [.int 3] fun i => OK (dIx (.tuple [.int a, .int b, .int c]) i) k := by
  refine draw_w (n := 3) (by omega) (by omega) fun r hr => ?_
  match r, hr with
  | 0, _ => simp -implicitDefEqProofs; exact h a (.inl rfl)
  | 1, _ => simp -implicitDefEqProofs; exact h b (.inr (.inl rfl))
  | 2, _ => simp -implicitDefEqProofs; exact h c (.inr (.inr rfl))
theorem drawI_w {n : Int} (h0 : 0 < n) (h1 : n < 1073741824) {k : D → Prop} (h : ∀ r : Int, 0 ≤ r → r < n → k (.int r)) : md__law_draw [.int n] k := ⟨h0, h1, h⟩
/-! ### sets -/
theorem power_eq {k : Nat} (h : k ≤ 1000) : md_power [.int (k : Int)] = some (.int ((2 ^ k : Nat) : Int)) := by
  rw [← OK_eq]
  unfold md_power mb_power b_power
  simp -implicitDefEqProofs [dRange_n (n := k) (by omega)]
  refine forF_ok (e := eN) (I := fun p b => b = .int ((2 ^ p.length : Nat) : Int)) [] rfl ?_ ?_
  · rintro p x post hp _ b rfl
    simp -implicitDefEqProofs [dMul_c (c := 2) (by omega) (by omega)]
    exact (Int.pow_succ _ _).symm
  · rintro b rfl
    simp -implicitDefEqProofs
theorem members_eq {s n : Nat} (hn : n ≤ 7) (hs : s < 1000000000) : md_members_of [.int (s : Int), .int (n : Int)] = some ((JB.mem s n).map eN) := by
  have hz := sizeLine_eq
  unfold md_members_of mb_members_of b_members_of
  simp -implicitDefEqProofs [dRange_n (n := n) (by omega)]
  rw [compF_o (e := eN) (c := eN) (p := JB.inS s) (g := eN) (by simp; omega) (fun _ _ => rfl) (fun k hk => ?_) (fun _ _ _ => rfl)]
  · simp -implicitDefEqProofs [JB.mem]
  · have hk' := List.mem_range.mp hk
    have h2 : 2 ^ k ≤ 2 ^ 7 := Nat.pow_le_pow_right (by omega) (by omega)
    have h0 : 0 < 2 ^ k := Nat.pow_pos (by omega)
    simp -implicitDefEqProofs [power_eq (k := k) (by omega)]
    rw [show ((2 : Int) ^ k) = ((2 ^ k : Nat) : Int) by simp, dDiv_i (by omega) (by omega), show ((s : Int) / ((2 ^ k : Nat) : Int)) = ((s / 2 ^ k : Nat) : Int) from rfl]
    rw [Option.bind_some, dMod_i (by omega), show (((s / 2 ^ k : Nat) : Int) % 2) = ((s / 2 ^ k % 2 : Nat) : Int) from rfl]
    rw [show JB.inS s k = (s / 2 ^ k % 2 == 1) from rfl]
    generalize s / 2 ^ k % 2 = z at *
    simp -implicitDefEqProofs
    exact nat_eq (i := z) (j := 1)
theorem sum_at_eq {n s : Nat} {g : Nat → Int} {x : D} (hn : n ≤ 7) (hs : s < 1000000000) (hx : x = .list ((List.range n).map fun j => .int (g j))) : md_sum_at [x, .int (s : Int)] = some (.int (JB.sp g (JB.mem s n))) := by
  have hz := sizeLine_eq
  have hl : (JB.mem s n).length ≤ n := Nat.le_trans (List.length_filter_le _ _) (by simp)
  subst hx
  unfold md_sum_at mb_sum_at b_sum_at
  simp -implicitDefEqProofs [members_eq hn hs]
  rw [compF_a (e := eN) (c := eN) (g := fun j => .int (g j)) (by omega) (fun _ _ => rfl) (fun _ _ => rfl) fun j hj => ?_]
  · simp -implicitDefEqProofs
    rw [dSum_l]
    simp -implicitDefEqProofs
    rfl
  · obtain ⟨h1, _⟩ := JB.mem_iff.mp hj
    simp -implicitDefEqProofs [h1]
end K78
end k78m1_
section k78m2_
set_option maxRecDepth 100000
set_option maxHeartbeats 2000000
namespace K78
open PySem PySem.Spec PyProof.Rows L2 PySem.W PL
/-! ### flows -/
def eR (r : List Int) : D := .tuple (r.map PyData.int)
def eF (F : List (List Int)) : D := .tuple (F.map eR)
def row (F : List (List Int)) (j : Nat) : List Int := F.getD j []
def el (r : List Int) (j : Nat) : Int := r.getD j 0
theorem itF {F : List (List Int)} : dItems (eF F) = some (F.map eR) := rfl
theorem lenF {F : List (List Int)} : dLen (eF F) = some (.int F.length) := by unfold eF; simp
theorem itR {r : List Int} : dItems (eR r) = some (r.map PyData.int) := rfl
theorem lenR {r : List Int} : dLen (eR r) = some (.int r.length) := by unfold eR; simp
theorem ixF {F : List (List Int)} {j : Nat} (h : j < F.length) : dIx (eF F) (.int (j : Int)) = some (eR (row F j)) := by
  unfold eF
  rw [dIx_t, List.getElem?_map, List.getElem?_eq_getElem h]
  show some (eR F[j]) = some (eR (F.getD j []))
  rw [List.getD_eq_getElem?_getD, List.getElem?_eq_getElem h]
  rfl
theorem ixF0 {F : List (List Int)} (h : 0 < F.length) : dIx (eF F) (.int 0) = some (eR (row F 0)) := ixF h
theorem ixR {r : List Int} {j : Nat} (h : j < r.length) : dIx (eR r) (.int (j : Int)) = some (.int (el r j)) := by
  unfold eR el
  rw [dIx_t, List.getElem?_map, List.getElem?_eq_getElem h, List.getD_eq_getElem?_getD, List.getElem?_eq_getElem h]
  rfl
theorem dSet_m {xs : List D} {i : Nat} {v : D} (h : i < xs.length) : dSet xs (.int (i : Int)) v = some (xs.set i v) := by
  unfold dSet
  rw [show dInt (.int (i : Int)) = some (i : Int) from rfl, Option.bind_some]
  have : ixN xs.length (i : Int) = some i := by
    unfold ixN
    rw [if_pos (by omega), if_pos (by omega)]
    simp
  rw [this, Option.map_some]
theorem tab_c {v : D} {n : Nat} : tab (fun _ => v) n = List.replicate n v := by
  unfold tab
  rw [List.map_const', List.length_range]
theorem zs_map {m : Nat} : (JF.zs m).map PyData.int = List.replicate m (.int 0) := by unfold JF.zs; simp
theorem row_ok {F : List (List Int)} {m j : Nat} (h : JF.Rows m F) (hj : j < F.length) : (row F j).length = m ∧ ∀ a ∈ row F j, 0 ≤ a := by
  refine h _ ?_
  show F.getD j [] ∈ F
  rw [List.getD_eq_getElem?_getD, List.getElem?_eq_getElem hj]
  exact List.getElem_mem hj
theorem rows_ok {F : List (List Int)} {m : Nat} {S : List Nat} (h : JF.Rows m F) (hS : ∀ j ∈ S, j < F.length) : JF.Rows m (S.map (row F)) := fun r hr => by
  obtain ⟨j, hj, rfl⟩ := List.mem_map.mp hr
  exact row_ok h (hS j hj)
theorem drop_cons {α : Type} {d : α} {xs : List α} {k : Nat} (h : k < xs.length) : xs.drop k = xs.getD k d :: xs.drop (k + 1) := by
  rw [List.drop_eq_getElem_cons h, List.getD_eq_getElem?_getD, List.getElem?_eq_getElem h]
  rfl
theorem flow_end_eq {F : List (List Int)} {m : Nat} {x : D} {S : List Nat} (hF : JF.Rows m F) (h0 : 0 < F.length) (hm : 0 < m) (hm2 : m ≤ 1000) (hx : dItems x = some (S.map eN)) (hS : ∀ j ∈ S, j < F.length) : md_flow_end [eF F, x] = some (.int (JF.En m (S.map (row F)))) := by
  have hz := sizeLine_eq
  rw [← OK_eq]
  unfold md_flow_end mb_flow_end b_flow_end
  simp -implicitDefEqProofs [ixF0 h0, lenR, (row_ok hF h0).1, dRep_i (n := m) (by omega), hx, tab_c]
  refine forF_ok (e := eN) (I := fun p b => b = (JF.fe (JF.zs m) (p.map (row F))).map PyData.int) [] (by rw [← zs_map]; rfl) ?_ ?_
  · rintro p j post hp _ b rfl
    rw [List.nil_append] at hp
    have hj : j < F.length := hS j (by rw [hp]; simp)
    have hr := row_ok hF hj
    have ok := (JF.Ok.zs m).fe (rows_ok (S := p) hF fun i hi => hS i (by rw [hp]; simp [hi]))
    generalize hu : JF.fe (JF.zs m) (p.map (row F)) = u at *
    have hfin : JF.fe (JF.zs m) ((p ++ [j]).map (row F)) = JF.re 0 u (row F j) := by rw [List.map_append, JF.fe_app, hu]; rfl
    simp -implicitDefEqProofs [ixF hj, itR]
    rw [enumL_m 0, hr.1]
    refine forF_ok (e := fun k => .tuple [eN k, .int (el (row F j) k)]) (I := fun p b => ∃ (t : Int) (pre : List Int), pre.length = p.length ∧ b = (.int t, (pre ++ u.drop p.length).map PyData.int) ∧ pre ++ JF.re t (u.drop p.length) ((row F j).drop p.length) = JF.re 0 u (row F j)) [] ⟨0, [], rfl, by simp, by simp⟩ ?_ ?_
    · rintro p k post hp _ b ⟨t, pre, hl, rfl, hI⟩
      obtain ⟨rfl, hk⟩ := range_split hp
      rw [List.length_range] at *
      have hku : k < u.length := by rw [ok.1]; exact hk
      have hix : (pre ++ u.drop k)[k]? = some (el u k) := by
        unfold el
        rw [List.getElem?_append_right (by omega), hl, Nat.sub_self, drop_cons (d := 0) hku]
        rfl
      simp -implicitDefEqProofs [-List.map_append]
      rw [hix, OK_some]
      rw [dSet_m (by rw [List.length_map, List.length_append, hl, List.length_drop]; omega), OK_some]
      refine ⟨_, _, ⟨rfl, rfl⟩, ?_⟩
      rw [drop_cons (d := 0) hku, drop_cons (d := 0) (show k < (row F j).length by rw [hr.1]; exact hk)] at hI
      refine ⟨JF.mx t (el u k) + el (row F j) k, pre ++ [JF.mx t (el u k) + el (row F j) k], by simp [hl], ⟨rfl, ?_⟩, ?_⟩
      · show List.set _ k _ = _
        rw [drop_cons (d := 0) hku, List.map_append, List.set_append_right _ _ (by rw [List.length_map, hl]; exact Nat.le_refl _), List.length_map, hl, Nat.sub_self]
        simp
        rfl
      · rw [List.append_assoc]
        exact hI
    · rintro b ⟨t, pre, hl, rfl, hI⟩
      rw [List.nil_append, List.length_range] at *
      rw [List.drop_eq_nil_of_le (by rw [ok.1]; exact Nat.le_refl _), List.append_nil]
      rw [List.drop_eq_nil_of_le (by rw [ok.1]; exact Nat.le_refl _), show ∀ l, JF.re t [] l = [] from fun l => rfl, List.append_nil] at hI
      simp -implicitDefEqProofs
      rw [hI, ← hfin, List.map_append]
      rfl
  · rintro b rfl
    have ok := (JF.Ok.zs m).fe (rows_ok (S := S) hF hS)
    rw [List.nil_append]
    simp -implicitDefEqProofs
    rw [dIx_lastL (n := m - 1) (by rw [List.length_map, ok.1]; omega), List.getElem?_map, List.getElem?_eq_getElem (by rw [ok.1]; omega)]
    show OK (some _) _
    rw [OK_some]
    unfold JF.En
    rw [List.getD_eq_getElem?_getD, List.getElem?_eq_getElem (by rw [ok.1]; omega)]
    rfl
end K78
end k78m2_
section k78m3_
set_option maxRecDepth 100000
set_option maxHeartbeats 2000000
namespace K78
open PySem PySem.Spec PyProof.Rows L2 PySem.W PL
/-! ### the longest way -/
theorem max_two {A B : Int} : dMax (.list [.int A, .int B]) = some (.int (JF.mx B A)) := by
  rw [dMax_i (f := fun z : Int => z) (xs := [A, B]) rfl (by simp)]
  refine congrArg (fun z => some (PyData.int z)) ?_
  show max A B = _
  unfold JF.mx
  split <;> omega
theorem sub1 {i : Nat} (h : 0 < i) : ((i : Int) - 1) = ((i - 1 : Nat) : Int) := by omega
abbrev lnD (u : List Int) : D := .list (u.map PyData.int)
def upTo (m : Nat) (R : List (List Int)) (i : Nat) : List Int := JF.fe (JF.zs m) (R.take i)
theorem upTo_succ {m : Nat} {R : List (List Int)} {i : Nat} (h : i < R.length) : upTo m R (i + 1) = JF.re 0 (upTo m R i) (row R i) := by
  unfold upTo
  rw [List.take_succ, List.getElem?_eq_getElem h, JF.fe_app]
  unfold row
  rw [List.getD_eq_getElem?_getD, List.getElem?_eq_getElem h]
  rfl
theorem upTo_ok {m : Nat} {R : List (List Int)} {i : Nat} (h : JF.Rows m R) : JF.Ok m (upTo m R i) := (JF.Ok.zs m).fe fun r hr => h r (List.mem_of_mem_take hr)
theorem upTo_0 {m k : Nat} {R : List (List Int)} : el (upTo m R 0) k = 0 := by
  unfold upTo el
  rw [List.take_zero]
  show (JF.zs m).getD k 0 = 0
  unfold JF.zs
  rw [List.getD_eq_getElem?_getD, List.getElem?_replicate]
  split <;> rfl
theorem getF {R : List (List Int)} {j : Nat} (h : j < R.length) : R[j]? = some (row R j) := by
  unfold row
  rw [List.getD_eq_getElem?_getD, List.getElem?_eq_getElem h]
  rfl
theorem get_el {u : List Int} {k : Nat} (h : k < u.length) : u[k]? = some (el u k) := by
  unfold el
  rw [List.getD_eq_getElem?_getD, List.getElem?_eq_getElem h]
  rfl
theorem longest_eq {R : List (List Int)} {m : Nat} (hR : JF.Rows m R) (h0 : 0 < R.length) (hm : 0 < m) (hm2 : m ≤ 1000) (hl : R.length ≤ 1000) : md__law_longest [.list (R.map eR)] = some (.int (JF.En m R)) := by
  have hz := sizeLine_eq
  rw [← OK_eq]
  unfold md__law_longest mb__law_longest b__law_longest
  simp -implicitDefEqProofs [dRange_n (n := R.length) (by omega)]
  refine forF_ok (e := eN) (I := fun p b => b = (List.range p.length).map fun k => lnD (upTo m R (k + 1))) [] rfl ?_ ?_
  · rintro p i post hp _ b rfl
    obtain ⟨rfl, hi⟩ := range_split hp
    rw [List.length_range]
    have hr := row_ok hR hi
    have ok := upTo_ok (i := i) hR
    simp -implicitDefEqProofs [getF h0, getF hi, lenR, (row_ok hR h0).1, dRange_n (n := m) (by omega)]
    generalize hu : upTo m R i = u at *
    have hA : ∀ k < m, (if 0 < i then (dIx (.list (List.map (fun k => lnD (upTo m R (k + 1))) (List.range i))) (.int ((i : Int) - 1))).bind fun x => dIx x (eN k) else some (.int 0)) = some (.int (el u k)) := by
      intro k hk
      by_cases c : 0 < i
      · rw [if_pos c, sub1 c, dIx_l, List.getElem?_map, List.getElem?_range (by omega), Option.map_some, Option.bind_some, show i - 1 + 1 = i by omega, hu, dIx_l, List.getElem?_map, get_el (by rw [ok.1]; exact hk), Option.map_some]
      · have : i = 0 := by omega
        subst this
        rw [if_neg c, ← hu, upTo_0]
    refine forF_ok (e := eN) (I := fun p b => ∃ (t : Int) (pre : List Int), pre.length = p.length ∧ b = pre.map PyData.int ∧ (p.length = 0 → t = 0) ∧ (0 < p.length → pre[p.length - 1]? = some t) ∧ pre ++ JF.re t (u.drop p.length) ((row R i).drop p.length) = JF.re 0 u (row R i)) [] ⟨0, [], rfl, rfl, fun _ => rfl, fun h => absurd h (Nat.lt_irrefl 0), by simp⟩ ?_ ?_
    · rintro p k post hp _ b ⟨t, pre, hl, rfl, hI0, hI1, hI⟩
      obtain ⟨rfl, hk⟩ := range_split hp
      rw [List.length_range] at *
      have hku : k < u.length := by rw [ok.1]; exact hk
      have hB : (if 0 < k then dIx (.list (pre.map PyData.int)) (.int ((k : Int) - 1)) else some (.int 0)) = some (.int t) := by
        by_cases c : 0 < k
        · rw [if_pos c, sub1 c, dIx_l, List.getElem?_map, hI1 c]; rfl
        · rw [if_neg c, hI0 (by omega)]
      simp -implicitDefEqProofs
      rw [hA k hk, OK_some, hB, OK_some, max_two, OK_some, ixR (by rw [hr.1]; exact hk), OK_some, dAdd_i, OK_some, dApp_m (e := PyData.int) (by omega), OK_some]
      rw [drop_cons (d := 0) hku, drop_cons (d := 0) (show k < (row R i).length by rw [hr.1]; exact hk)] at hI
      refine ⟨JF.mx t (el u k) + el (row R i) k, pre ++ [JF.mx t (el u k) + el (row R i) k], by simp [hl], rfl, ?_, ?_⟩
      · rw [List.getElem?_append_right (by omega), hl, Nat.sub_self]; rfl
      · rw [List.append_assoc]
        exact hI
    · rintro b ⟨t, pre, hl, rfl, _, _, hI⟩
      rw [List.nil_append, List.length_range] at *
      rw [List.drop_eq_nil_of_le (by rw [ok.1]; exact Nat.le_refl _), show ∀ l, JF.re t [] l = [] from fun l => rfl, List.append_nil] at hI
      rw [hI, ← hu, ← upTo_succ hi]
      simp -implicitDefEqProofs
      rw [show PyData.list ((upTo m R (i + 1)).map PyData.int) = (fun k => lnD (upTo m R (k + 1))) i from rfl, dApp_m (e := fun k => lnD (upTo m R (k + 1))) (by simp; omega), OK_some, List.range_succ]
  · rintro b rfl
    have ok := upTo_ok (m := m) (i := R.length) hR
    simp -implicitDefEqProofs [getF h0, lenR, (row_ok hR h0).1]
    rw [sub1 h0, dIx_l, List.getElem?_map, List.getElem?_range (by omega), Option.map_some, OK_some, sub1 hm, dIx_l, List.getElem?_map, show R.length - 1 + 1 = R.length by omega, get_el (by rw [ok.1]; omega), Option.map_some, OK_some]
    unfold JF.En el upTo
    rw [List.take_length]
end K78
end k78m3_
section k78m4_
set_option maxRecDepth 100000
set_option maxHeartbeats 2000000
namespace K78
open PySem PySem.Spec PyProof.Rows L2 PySem.W PL
/-! ### Johnson -/
def fa (F : List (List Int)) (j : Nat) : Int := el (row F j) 0
def fb (F : List (List Int)) (j : Nat) : Int := el (row F j) 1
theorem row_two {r : List Int} (h : r.length = 2) : r = [el r 0, el r 1] := by
  match r, h with
  | [x, y], _ => rfl
theorem eR_two {F : List (List Int)} {j : Nat} (hF : JF.Rows 2 F) (hj : j < F.length) : eR (row F j) = .tuple [.int (fa F j), .int (fb F j)] := by
  have := row_two (row_ok hF hj).1
  unfold eR
  rw [this]
  rfl
theorem enumF {F : List (List Int)} (hF : JF.Rows 2 F) : enumL (F.map eR) = (List.range F.length).map fun j => .tuple [eN j, .tuple [.int (fa F j), .int (fb F j)]] := by
  rw [enumL_m []]
  refine List.map_congr_left fun j hj => ?_
  rw [show F.getD j [] = row F j from rfl, eR_two hF (List.mem_range.mp hj)]
abbrev joO (F : List (List Int)) : List Nat := JF.johnO F.length (fa F) (fb F)
theorem ixNF {F : List (List Int)} {j : Nat} (hj : j < F.length) (hl : F.length ≤ 1000) : dIxN (eF F) (.int (j : Int)) = some (eR (row F j)) := by
  unfold eF
  rw [dIxN_t (by omega), List.getElem?_map, getF hj]
  rfl
theorem johnson_eq {F : List (List Int)} (hF : JF.Rows 2 F) (hl : F.length ≤ 1000) : md_johnson [eF F] = some (eS (joO F)) := by
  have hz := sizeLine_eq
  have hlen : (joO F).length = F.length := by have := (JF.johnO_perm (n := F.length) (a := fa F) (b := fb F)).length_eq; simpa using this
  unfold md_johnson mb_johnson b_johnson
  simp -implicitDefEqProofs [itF, enumF hF]
  rw [compF_o (e := fun j => .tuple [eN j, .tuple [.int (fa F j), .int (fb F j)]]) (c := fun j => (eN j, (PyData.int (fa F j), PyData.int (fb F j)))) (p := fun j => decide (fa F j < fb F j)) (g := eN) (by simp; omega) (fun _ _ => rfl) (fun j _ => by simp -implicitDefEqProofs) (fun _ _ _ => rfl)]
  rw [Option.bind_some, compF_o (e := fun j => .tuple [eN j, .tuple [.int (fa F j), .int (fb F j)]]) (c := fun j => (eN j, (PyData.int (fa F j), PyData.int (fb F j)))) (p := fun j => decide (fa F j ≥ fb F j)) (g := eN) (by simp; omega) (fun _ _ => rfl) (fun j _ => by simp -implicitDefEqProofs) (fun _ _ _ => rfl)]
  have m1 : ∀ j ∈ (List.range F.length).filter (fun j => decide (fa F j < fb F j)), j < F.length := fun j hj => by simp at hj; exact hj.1
  have m2 : ∀ j ∈ (List.range F.length).filter (fun j => decide (fa F j ≥ fb F j)), j < F.length := fun j hj => by simp at hj; exact hj.1
  rw [Option.bind_some, dSortK_2 (e := eN) (f := fa F) (g := fun j => (j : Int))]
  · rw [Option.bind_some, Option.bind_some, dSortK_2 (e := eN) (f := fun j => -fb F j) (g := fun j => (j : Int))]
    · simp -implicitDefEqProofs
      rw [← List.map_append, dSz_m (by show (joO F).length ≤ _; omega)]
      rfl
    · intro j hj
      simp -implicitDefEqProofs [ixNF (m2 j hj) hl, eR_two hF (m2 j hj)]
  · intro j hj
    simp -implicitDefEqProofs [ixNF (m1 j hj) hl, eR_two hF (m1 j hj)]
def pr2 (F : List (List Int)) (j : Nat) : Int × Int := (fa F j, fb F j)
theorem rows_two {F : List (List Int)} {S : List Nat} (hF : JF.Rows 2 F) (hS : ∀ j ∈ S, j < F.length) : S.map (row F) = (S.map (pr2 F)).map fun x => [x.1, x.2] := by
  rw [List.map_map]
  refine List.map_congr_left fun j hj => ?_
  exact row_two (row_ok hF (hS j hj)).1
theorem pr2_ok {F : List (List Int)} {j : Nat} (hF : JF.Rows 2 F) (hj : j < F.length) : 0 ≤ (pr2 F j).1 ∧ 0 ≤ (pr2 F j).2 := by
  obtain ⟨h1, h2⟩ := row_ok hF hj
  rw [row_two h1] at h2
  exact ⟨h2 _ (by simp; exact .inl rfl), h2 _ (by simp; exact .inr rfl)⟩
theorem En_pr {F : List (List Int)} {S : List Nat} (hF : JF.Rows 2 F) (hS : ∀ j ∈ S, j < F.length) : JF.En 2 (S.map (row F)) = JF.E2 0 0 (S.map (pr2 F)) := by
  rw [rows_two hF hS]
  exact JF.En_two fun x hx => by
    obtain ⟨j, hj, rfl⟩ := List.mem_map.mp hx
    exact pr2_ok hF (hS j hj)
theorem jo_lt {F : List (List Int)} : ∀ j ∈ joO F, j < F.length := fun j hj => List.mem_range.mp (JF.johnO_perm.mem_iff.mp hj)
abbrev en2 (F : List (List Int)) (S : List Nat) : Int := JF.En 2 (S.map (row F))
theorem jo_best {F : List (List Int)} {S : List Nat} (hF : JF.Rows 2 F) (hS : S.Perm (List.range F.length)) : en2 F (joO F) ≤ en2 F S := by
  unfold en2
  rw [En_pr hF jo_lt, En_pr hF fun j hj => List.mem_range.mp (hS.mem_iff.mp hj)]
  exact JF.E2_best JF.johnO_ok ((JF.johnO_perm.trans hS.symm).map _)
theorem best_flow_eq {F : List (List Int)} (hF : JF.Rows 2 F) (h0 : 0 < F.length) (hl : F.length ≤ 5) : ∃ S : List Nat, S.Perm (List.range F.length) ∧ md_best_flow [eF F] = some (eS S) ∧ en2 F S = en2 F (joO F) := by
  have key : OK (md_best_flow [eF F]) fun d => ∃ S ∈ PR.perms F.length, d = eS S ∧ ∀ T ∈ PR.perms F.length, en2 F S ≤ en2 F T := by
    have hmem : joO F ∈ PR.perms F.length := (JF.perms_mem hl).mpr JF.johnO_perm
    unfold md_best_flow mb_best_flow b_best_flow
    have hp : dPerms (.int (F.length : Int)) = some ((PR.perms F.length).map eS) := by
      show (if 0 ≤ (F.length : Int) ∧ (F.length : Int) ≤ 5 then some _ else none) = _
      rw [if_pos (by omega), Int.toNat_natCast]
      rfl
    simp -implicitDefEqProofs [lenF, hp]
    refine forF_ok (e := eS) (I := fun p b => (p = [] ∧ b = .none) ∨ ∃ S ∈ p, b = eS S ∧ ∀ T ∈ p, en2 F S ≤ en2 F T) [] (.inl ⟨rfl, rfl⟩) ?_ ?_
    · rintro p T post hp _ b hI
      rw [List.nil_append] at hp
      have lt : ∀ S ∈ p ++ [T], ∀ j ∈ S, j < F.length := fun S hS j hj => List.mem_range.mp (((JF.perms_mem hl).mp (by rw [hp]; simp at hS ⊢; rcases hS with q | q <;> simp [q])).mem_iff.mp hj)
      rcases hI with ⟨rfl, rfl⟩ | ⟨S, hS, rfl, hb⟩
      · simp -implicitDefEqProofs
      · simp -implicitDefEqProofs [flow_end_eq hF h0 (m := 2) (by omega) (by omega) (itS (S := T)) (lt T (by simp)), flow_end_eq hF h0 (m := 2) (by omega) (by omega) (itS (S := S)) (lt S (by simp [hS]))]
        rw [if_neg (by unfold eS; simp), OK_some]
        by_cases c : en2 F T < en2 F S
        · rw [if_pos (decide_eq_true c), OK_some]
          refine ⟨_, rfl, .inr ⟨rfl, fun V hV => ?_⟩⟩
          rcases hV with q | rfl
          · have := hb V q; omega
          · exact Int.le_refl _
        · rw [if_neg (by rw [decide_eq_false c]; decide), OK_some]
          refine ⟨_, rfl, .inl ⟨S, hS, rfl, fun V hV => ?_⟩⟩
          rcases hV with q | rfl
          · exact hb V q
          · omega
    · rintro b hI
      rw [List.nil_append] at hI
      rcases hI with ⟨e, _⟩ | ⟨S, hS, rfl, hb⟩
      · rw [e] at hmem; cases hmem
      · simp -implicitDefEqProofs
        rw [show dTup (eS S) = some (eS S) from rfl, OK_some]
        exact ⟨S, hS, rfl, hb⟩
  obtain ⟨d, hd, S, hS, rfl, hb⟩ := key
  have hP := (JF.perms_mem hl).mp hS
  refine ⟨S, hP, hd, ?_⟩
  have h1 : en2 F S ≤ en2 F (joO F) := hb _ ((JF.perms_mem hl).mpr (JF.johnO_perm (n := F.length) (a := fa F) (b := fb F)))
  have h2 := jo_best hF hP
  omega
end K78
end k78m4_
section k78m5_
set_option maxRecDepth 100000
set_option maxHeartbeats 2000000
namespace K78
open PySem PySem.Spec PyProof.Rows L2 PySem.W PL
/-! ### papers -/
theorem F_tab {α : Type} {F : List (List Int)} {f : List Int → α} : F.map f = (List.range F.length).map fun j => f (row F j) := by
  refine List.ext_getElem (by simp) fun j h1 h2 => ?_
  simp at h1
  simp [row, List.getElem?_eq_getElem h1]
theorem choices_eq {F : List (List Int)} {x : D} {s : Nat} {L : List Int} (hF : JF.Rows 2 F) (hx : x = .list (L.map PyData.int)) (hn : F.length ≤ 7) (hs : s < 2 ^ F.length) (hk : s ≤ L.length) :
    ∃ g : Nat → Int, md_choices_at [eF F, x, .int (s : Int)] = some ((JB.mem s F.length).map fun j => .int (g j)) := by
  have hz := sizeLine_eq
  have h7 : 2 ^ F.length ≤ 2 ^ 7 := Nat.pow_le_pow_right (by omega) hn
  have hl : (JB.mem s F.length).length ≤ F.length := Nat.le_trans (List.length_filter_le _ _) (by simp)
  refine ⟨fun j => JF.mx (JB.sp (fa F) (JB.mem s F.length)) (el L (s - 2 ^ j)) + fb F j, ?_⟩
  subst hx
  unfold md_choices_at mb_choices_at b_choices_at
  simp -implicitDefEqProofs [itF]
  rw [F_tab (F := F) (f := eR)]
  rw [compF_a (e := fun j => eR (row F j)) (c := fun j => eR (row F j)) (g := fun j => .int (fa F j)) (by simp; omega) (fun _ _ => rfl) (fun _ _ => rfl) fun j hj => by simp -implicitDefEqProofs [eR_two hF (List.mem_range.mp hj)]]
  simp -implicitDefEqProofs [sum_at_eq (g := fa F) (x := .list ((List.range F.length).map fun j => .int (fa F j))) hn (show s < 1000000000 by omega) rfl, members_eq hn (show s < 1000000000 by omega), lenF]
  rw [compF_a (e := eN) (c := eN) (g := fun j => .int (JF.mx (JB.sp (fa F) (JB.mem s F.length)) (el L (s - 2 ^ j)) + fb F j)) (by omega) (fun _ _ => rfl) (fun _ _ => rfl) fun j hj => ?_]
  · simp -implicitDefEqProofs
  · obtain ⟨h1, h2⟩ := JB.mem_iff.mp hj
    have h3 := JB.inS_pow h2
    have h4 : 0 < 2 ^ j := Nat.pow_pos (by omega)
    rw [power_eq (k := j) (by omega)]
    rw [Option.bind_some, dSub_i, Option.bind_some, show ((s : Int) - ((2 ^ j : Nat) : Int)) = ((s - 2 ^ j : Nat) : Int) by omega, dIx_l, List.getElem?_map, get_el (by omega), Option.map_some, Option.bind_some]
    simp -implicitDefEqProofs [ixF h1, eR_two hF h1]
    rfl
theorem flow_table_ok {F : List (List Int)} (hF : JF.Rows 2 F) (hn : F.length ≤ 7) : OK (md_flow_table [eF F]) fun _ => True := by
  have hz := sizeLine_eq
  have h7 : 2 ^ F.length ≤ 2 ^ 7 := Nat.pow_le_pow_right (by omega) hn
  have h0 : 0 < 2 ^ F.length := Nat.pow_pos (by omega)
  unfold md_flow_table mb_flow_table b_flow_table
  simp -implicitDefEqProofs [lenF]
  rw [power_eq (k := F.length) (by omega)]
  rw [OK_some, dInt_int, OK_some, show (1 : Int) = ((1 : Nat) : Int) from rfl, dRange_ab (by omega) (by omega), OK_some]
  refine forF_ok (e := eN) (I := fun p b => ∃ L : List Int, L.length = p.length + 1 ∧ b = L.map PyData.int) [] ⟨[0], rfl, rfl⟩ ?_ ?_
  · rintro p s post hp _ b ⟨L, hl, rfl⟩
    rw [List.nil_append] at hp
    obtain ⟨rfl, hlt⟩ := range'_split hp
    have hne : JB.mem (1 + p.length) F.length ≠ [] := by
      obtain ⟨j, q1, q2⟩ := JB.inS_ne (s := 1 + p.length) (n := F.length) (by omega) hn (by omega)
      exact List.ne_nil_of_mem (JB.mem_iff.mpr ⟨q1, q2⟩)
    obtain ⟨g, hc⟩ := choices_eq (F := F) (x := .list (L.map PyData.int)) (s := 1 + p.length) (L := L) hF rfl hn (by omega) (by omega)
    simp -implicitDefEqProofs [-Int.natCast_add]
    rw [hc, OK_some, dMin_i (f := g) (xs := JB.mem (1 + p.length) F.length) rfl hne]
    simp -implicitDefEqProofs
    rw [dApp_m (e := PyData.int) (by omega)]
    simp -implicitDefEqProofs
    exact ⟨L ++ [minI ((JB.mem (1 + p.length) F.length).map g)], by simp [hl], by simp⟩
  · rintro b ⟨L, hl, rfl⟩
    simp -implicitDefEqProofs
theorem shOrd : SeqAt.shaped (.str (PySem.Str.ofString "order")) = true := by kernel_rfl
theorem shNon : SeqAt.shaped (.str (PySem.Str.ofString "none")) = true := by kernel_rfl
theorem neON : (PySem.Str.ofString "order" == PySem.Str.ofString "none") = false := by rfl
theorem neNO : (PySem.Str.ofString "none" == PySem.Str.ofString "order") = false := by rfl
theorem flow_paper_ok {F : List (List Int)} {b : Int} (hF : JF.Rows 2 F) (h0 : 0 < F.length) (hn : F.length ≤ 7) : OK (md_flow_paper [eF F, .int b]) fun d => dIx d (.int 0) = some (.str (if en2 F (joO F) ≤ b then PySem.Str.ofString "order" else PySem.Str.ofString "none")) := by
  unfold md_flow_paper mb_flow_paper b_flow_paper
  simp -implicitDefEqProofs [johnson_eq hF (show F.length ≤ 1000 by omega), flow_end_eq hF h0 (m := 2) (by omega) (by omega) (itS (S := joO F)) jo_lt]
  by_cases c : en2 F (joO F) ≤ b
  · simp -implicitDefEqProofs [c]
  · obtain ⟨d, hd, _⟩ := flow_table_ok hF hn
    simp -implicitDefEqProofs [c, hd]
theorem check_flow_eq {F : List (List Int)} {S : List Nat} {b : Int} (hF : JF.Rows 2 F) (h0 : 0 < F.length) (hn : F.length ≤ 7) (hS : S.Perm (List.range F.length)) (hb : en2 F S ≤ b) : md_check_flow [eF F, .int b, .tuple [.str (PySem.Str.ofString "order"), eS S]] = some (.bool true) := by
  unfold md_check_flow mb_check_flow b_check_flow
  simp -implicitDefEqProofs [is_worded_t shOrd shOrd, lenF, is_order_eq hS (by omega), flow_end_eq hF h0 (m := 2) (by omega) (by omega) (itS (S := S)) (fun j hj => List.mem_range.mp (hS.mem_iff.mp hj)), hb]
theorem flow_w {z : Int} {k : D → Prop} (hz0 : z ≤ 4) (h : ∀ (F : List (List Int)) (m : Nat), JF.Rows m F → 0 < F.length → F.length ≤ 5 → 0 < m → m ≤ 4 → (0 < z → (m : Int) = z) → k (eF F)) : md__law_flow [.int z] k := by
  have hz := sizeLine_eq
  unfold md__law_flow mb__law_flow b__law_flow
  simp -implicitDefEqProofs
  refine draw_w (n := 5) (by omega) (by omega) fun r hr => ?_
  simp -implicitDefEqProofs
  have sp : ∀ (G : D → Prop), (∀ m : Nat, 0 < m → m ≤ 4 → (0 < z → (m : Int) = z) → G (.int m)) → (if 0 < z then Mir.ret (PyData.int z) else Mir.bnd (Mir.ret (PyData.int 1)) fun x => Mir.bnd (Mir.bnd (Mir.bnd (Mir.ret (PyData.int 4)) fun x => Mir.bnd (Mir.ret []) fun xs => Mir.ret (x :: xs)) md__law_draw) fun y => Mir.lift (dAdd x y) : WP D) G := by
    intro G hG
    by_cases c : 0 < z
    · rw [if_pos c]
      have := hG z.toNat (by omega) (by omega) (by omega)
      rw [Int.toNat_of_nonneg (by omega)] at this
      exact this
    · rw [if_neg c]
      simp -implicitDefEqProofs
      refine draw_w (n := 4) (by omega) (by omega) fun q hq => ?_
      simp -implicitDefEqProofs
      have := hG (1 + q) (by omega) (by omega) (by omega)
      rw [Int.natCast_add] at this
      exact this
  refine sp _ fun m hm1 hm2 hmz => ?_
  refine draw3_w fun top ht => ?_
  rw [show (1 : Int) + r = ((r + 1 : Nat) : Int) by omega, dRange_n (by omega), OK_some]
  refine compF_wall (e := eN) (E := eR) (R := fun _ y => y.length = m ∧ ∀ a ∈ y, 0 ≤ a) (by simp; omega) (fun x _ K hK => ?_) (fun ys hs => ?_)
  · unfold stepF
    simp -implicitDefEqProofs [dRange_n (n := m) (by omega)]
    refine compF_wall (e := eN) (E := PyData.int) (R := fun _ y => 0 ≤ y) (by simp; omega) (fun x _ K hK => ?_) (fun ys hs => ?_)
    · unfold stepF
      try simp -implicitDefEqProofs
      refine drawI_w (by omega) (by omega) fun q hq _ => ?_
      try simp -implicitDefEqProofs
      exact hK q hq
    · try simp -implicitDefEqProofs
      refine hK ys ⟨by have := hs.len; simpa using this, fun a ha => ?_⟩
      obtain ⟨_, _, q⟩ := hs.mem a ha
      exact q
  · have hl := hs.len
    simp at hl
    refine h ys m (fun y hy => ?_) (by omega) (by omega) hm1 hm2 hmz
    obtain ⟨_, _, q⟩ := hs.mem y hy
    exact q
end K78
end k78m5_
section k78m6_
set_option maxRecDepth 100000
set_option maxHeartbeats 4000000
namespace K78
open PySem PySem.Spec PyProof.Rows L2 PySem.W PL
theorem dTupL_R {r : List Int} : dTupL (eR r) = some (r.map PyData.int) := rfl
theorem eR_rev {r : List Int} : PyData.tuple (r.map PyData.int).reverse = eR r.reverse := by unfold eR; rw [List.map_reverse]
theorem rep0 {m : Nat} (hm : 0 < m) (h : m ≤ 1000) : dRepT' (.tuple [.int 0]) (.int (m : Int)) = some (eR (JF.zs m)) := by
  simp only [dRepT', dInt_int, Option.bind_some]
  rw [if_pos ⟨by simp, by omega, by omega, by simp⟩, Int.toNat_natCast]
  unfold eR
  rw [zs_map]
  simp
theorem addF {F : List (List Int)} {r : List Int} (hl : F.length ≤ 1000) : dAdd (eF F) (.tuple [eR r]) = some (eF (F ++ [r])) := by
  have hz := sizeLine_eq
  unfold eF
  rw [dAdd_t (by simp; omega)]
  simp
theorem row_app {F : List (List Int)} {r : List Int} {j : Nat} (h : j < F.length) : row (F ++ [r]) j = row F j := by
  unfold row
  rw [List.getD_eq_getElem?_getD, List.getElem?_append_left h, ← List.getD_eq_getElem?_getD]
theorem row_last {F : List (List Int)} {r : List Int} : row (F ++ [r]) F.length = r := by
  unfold row
  rw [List.getD_eq_getElem?_getD, List.getElem?_append_right (Nat.le_refl _)]
  simp
theorem slTo {S : List Nat} {r : Nat} : dSl (eS S) none (some (r : Int)) = some (eS (S.take r)) := by unfold eS; rw [dSl_to, List.map_take]
theorem slFrom {S : List Nat} {r : Nat} : dSl (eS S) (some (r : Int)) none = some (eS (S.drop r)) := by unfold eS; rw [dSl_from, List.map_drop]
theorem addS {S T : List Nat} (h : S.length + T.length ≤ 10000) : dAdd (eS S) (eS T) = some (eS (S ++ T)) := by
  have hz := sizeLine_eq
  unfold eS
  rw [dAdd_t (by simp; omega)]
  simp
theorem addS1 {S : List Nat} {j : Nat} (h : S.length ≤ 1000) : dAdd (eS S) (.tuple [.int (j : Int)]) = some (eS (S ++ [j])) := addS (T := [j]) (by simp; omega)
theorem sa_take {F : List (List Int)} {S : List Nat} {k : Nat} : ((S.take k).map (fa F)).sum = JF.sa ((S.map (pr2 F)).take k) := by
  unfold JF.sa
  rw [← List.map_take, List.map_map]
  rfl
theorem sb_drop {F : List (List Int)} {S : List Nat} {k : Nat} : ((S.drop k).map (fb F)).sum = JF.sb ((S.map (pr2 F)).drop k) := by
  unfold JF.sb
  rw [← List.map_drop, List.map_map]
  rfl
theorem sums_max {F : List (List Int)} (hF : JF.Rows 2 F) (h0 : 0 < F.length) : maxI ((List.range F.length).map fun k => JF.sa (((joO F).map (pr2 F)).take (k + 1)) + JF.sb (((joO F).map (pr2 F)).drop k)) = en2 F (joO F) := by
  have hl : (joO F).length = F.length := by have := (JF.johnO_perm (n := F.length) (a := fa F) (b := fb F)).length_eq; simpa using this
  unfold en2
  rw [En_pr hF jo_lt, JF.E2_max (by rw [← List.length_pos_iff, List.length_map, hl]; exact h0) (fun x hx => by
    obtain ⟨j, hj, rfl⟩ := List.mem_map.mp hx
    exact pr2_ok hF (jo_lt j hj)), List.length_map, hl]
theorem sum_perm {F : List (List Int)} {T : List Nat} {f : List Int → Int} (hT : T.Perm (List.range F.length)) : ((T.map (row F)).map f).sum = (F.map f).sum := by
  rw [F_tab (F := F) (f := f), List.map_map]
  exact JB.sumI_perm (hT.map _)
/-! late and swapped -/
def lateF (F : List (List Int)) : List (List Int) := F.map fun r => [0, el r 1]
def swapF (F : List (List Int)) : List (List Int) := F.map List.reverse
theorem late_rows {F : List (List Int)} (hF : JF.Rows 2 F) : JF.Rows 2 (lateF F) := fun r hr => by
  obtain ⟨y, hy, rfl⟩ := List.mem_map.mp hr
  have := (hF y hy).2
  rw [row_two (hF y hy).1] at this
  refine ⟨rfl, fun a ha => ?_⟩
  simp at ha
  rcases ha with rfl | rfl
  · exact Int.le_refl _
  · exact this _ (by simp)
theorem swap_rows {F : List (List Int)} (hF : JF.Rows 2 F) : JF.Rows 2 (swapF F) := fun r hr => by
  obtain ⟨y, hy, rfl⟩ := List.mem_map.mp hr
  exact ⟨by rw [List.length_reverse]; exact (hF y hy).1, fun a ha => (hF y hy).2 a (List.mem_reverse.mp ha)⟩
theorem row_map {F : List (List Int)} {g : List Int → List Int} {j : Nat} (h : j < F.length) : row (F.map g) j = g (row F j) := by
  unfold row
  rw [List.getD_eq_getElem?_getD, List.getElem?_map, List.getD_eq_getElem?_getD, List.getElem?_eq_getElem h]
  rfl
theorem late_end {F : List (List Int)} (hF : JF.Rows 2 F) : en2 (lateF F) (joO (lateF F)) = (F.map fun r => el r 1).sum := by
  have hl : (lateF F).length = F.length := List.length_map ..
  have hS := JF.johnO_perm (n := (lateF F).length) (a := fa (lateF F)) (b := fb (lateF F))
  unfold en2
  rw [En_pr (late_rows hF) jo_lt, JF.E2_late (fun x hx => ?_) (Int.le_refl _), Int.zero_add]
  · unfold JF.sb
    rw [List.map_map]
    rw [hl] at hS
    have e : ∀ j ∈ joO (lateF F), (fun x : Int × Int => x.2) (pr2 (lateF F) j) = el (row F j) 1 := fun j hj => by
      have := jo_lt j hj
      rw [hl] at this
      show el (row (lateF F) j) 1 = _
      unfold lateF
      rw [row_map this]
      rfl
    rw [show (joO (lateF F)).map ((fun x : Int × Int => x.2) ∘ pr2 (lateF F)) = (joO (lateF F)).map fun j => el (row F j) 1 from List.map_congr_left e]
    have := sum_perm (F := F) (f := fun r => el r 1) (T := joO (lateF F)) (by show (JF.johnO _ _ _).Perm _; rw [hl]; exact hS)
    rw [List.map_map] at this
    exact this
  · obtain ⟨j, hj, rfl⟩ := List.mem_map.mp hx
    have h := jo_lt j hj
    refine ⟨?_, (pr2_ok (late_rows hF) h).2⟩
    rw [hl] at h
    show el (row (lateF F) j) 0 = 0
    unfold lateF
    rw [row_map h]
    rfl
theorem swap_en {F : List (List Int)} {S : List Nat} (hF : JF.Rows 2 F) (hS : ∀ j ∈ S, j < F.length) : en2 (swapF F) S.reverse = en2 F S := by
  unfold en2
  have e : S.reverse.map (row (swapF F)) = ((S.map (row F)).map List.reverse).reverse := by
    rw [List.map_reverse, List.map_map]
    refine congrArg List.reverse (List.map_congr_left fun j hj => ?_)
    unfold swapF
    rw [row_map (hS j hj)]
    rfl
  rw [e]
  exact JF.En_rev (by omega) (rows_ok hF hS)
theorem swap_swap {F : List (List Int)} : swapF (swapF F) = F := by
  unfold swapF
  rw [List.map_map]
  have : (List.reverse ∘ List.reverse : List Int → List Int) = id := by funext x; simp
  rw [this, List.map_id]
theorem swap_end {F : List (List Int)} (hF : JF.Rows 2 F) : en2 (swapF F) (joO (swapF F)) = en2 F (joO F) := by
  have hl : (swapF F).length = F.length := List.length_map ..
  have p1 := JF.johnO_perm (n := (swapF F).length) (a := fa (swapF F)) (b := fb (swapF F))
  have p2 := JF.johnO_perm (n := F.length) (a := fa F) (b := fb F)
  have h1 := jo_best (S := (joO F).reverse) (swap_rows hF) (by rw [hl]; exact (List.reverse_perm _).trans p2)
  rw [swap_en hF jo_lt] at h1
  have h2 := jo_best (S := (joO (swapF F)).reverse) hF ((List.reverse_perm _).trans (by rw [← hl]; exact p1))
  have h3 := swap_en (F := swapF F) (S := joO (swapF F)) (swap_rows hF) jo_lt
  rw [swap_swap] at h3
  omega
theorem law_ok : b_law fun r => r = .rt (.bool true) := by
  have hz := sizeLine_eq
  unfold b_law
  simp -implicitDefEqProofs
  refine flow_w (z := 0) (by omega) fun F m hF hF0 hF5 hm hm4 hz0 => ?_
  simp -implicitDefEqProofs [lenF, ixF0 hF0, lenR, (row_ok hF hF0).1]
  rw [show dRange 0 3 = some ((List.range 3).map eN) from dRange_n (n := 3) (by omega), OK_some]
  refine forF_w (e := eN) (fun _ _ => True) [] trivial ?_ ?_
  · rintro p x post hp _ b _ K hK
    simp -implicitDefEqProofs
    refine turn_w (by omega) fun T hT => ?_
    have hlt : ∀ j ∈ T, j < F.length := fun j hj => List.mem_range.mp (hT.mem_iff.mp hj)
    have hTl : T.length = F.length := by have := hT.length_eq; simpa using this
    have hR := rows_ok hF hlt
    simp -implicitDefEqProofs
    rw [compF_aw (e := eN) (c := eN) (g := fun j => eR (row F j)) (by omega) (fun _ _ _ => rfl) (fun _ _ _ => rfl) fun j hj K => by simp -implicitDefEqProofs [ixF (hlt j hj)]]
    rw [show (T.map fun j => eR (row F j)) = (T.map (row F)).map eR by rw [List.map_map]; rfl]
    have e1 := flow_end_eq hF hF0 hm (by omega) (itS (S := T)) hlt
    have e2 := longest_eq hR (by rw [List.length_map]; omega) hm (by omega) (by rw [List.length_map]; omega)
    have hR' : JF.Rows m ((T.map (row F)).map List.reverse).reverse := fun x hx => by
      obtain ⟨y, hy, rfl⟩ := List.mem_map.mp (List.mem_reverse.mp hx)
      exact ⟨by rw [List.length_reverse]; exact (hR y hy).1, fun a ha => (hR y hy).2 a (List.mem_reverse.mp ha)⟩
    have e3 := longest_eq hR' (by rw [List.length_reverse, List.length_map, List.length_map]; omega) hm (by omega) (by rw [List.length_reverse, List.length_map, List.length_map]; omega)
    rw [JF.En_rev hm hR] at e3
    have hF' : JF.Rows m (F ++ [JF.zs m]) := fun r hr => by
      rcases List.mem_append.mp hr with q | q
      · exact hF r q
      · rw [List.mem_singleton.mp q]
        exact ⟨(JF.Ok.zs m).1, (JF.Ok.zs m).2.2⟩
    have e4 : ∀ r, md_flow_end [eF (F ++ [JF.zs m]), eS (T.take r ++ [F.length] ++ T.drop r)] = some (.int (JF.En m (T.map (row F)))) := by
      intro r
      have h1 : ∀ j ∈ T.take r, j < F.length := fun j hj => hlt j (List.mem_of_mem_take hj)
      have h2 : ∀ j ∈ T.drop r, j < F.length := fun j hj => hlt j (List.mem_of_mem_drop hj)
      rw [flow_end_eq hF' (by simp) hm (by omega) (itS (S := T.take r ++ [F.length] ++ T.drop r)) (fun j hj => by
        rw [List.length_append, List.length_singleton]
        simp only [List.mem_append, List.mem_singleton] at hj
        rcases hj with (q | q) | q
        · have := h1 j q; omega
        · omega
        · have := h2 j q; omega)]
      have m1 : (T.take r).map (row (F ++ [JF.zs m])) = (T.take r).map (row F) := List.map_congr_left fun j hj => row_app (h1 j hj)
      have m2 : (T.drop r).map (row (F ++ [JF.zs m])) = (T.drop r).map (row F) := List.map_congr_left fun j hj => row_app (h2 j hj)
      rw [List.map_append, List.map_append, m1, m2, List.map_singleton, row_last, List.append_assoc, List.singleton_append, JF.En_zero (rows_ok hF h1), ← List.map_append, List.take_append_drop]
    have hRl : (T.map (row F)).length = F.length := by rw [List.length_map, hTl]
    generalize T.map (row F) = R at *
    simp only [List.map_reverse, List.map_map] at e3
    simp -implicitDefEqProofs [e1, e2]
    rw [← List.map_reverse, compF_aw (e := eR) (c := eR) (g := fun r => eR r.reverse) (by rw [List.length_reverse]; omega) (fun _ _ _ => rfl) (fun _ _ _ => rfl) fun j hj K => by simp -implicitDefEqProofs [dTupL_R, eR_rev]]
    rw [show (R.reverse.map fun r => eR r.reverse) = (R.map List.reverse).reverse.map eR by rw [List.map_reverse, List.map_reverse, List.map_map]; rfl]
    simp -implicitDefEqProofs [e3, rep0 hm (by omega), addF (F := F) (by omega)]
    refine draw_w (n := F.length + 1) (by omega) (by omega) fun r hr => ?_
    simp -implicitDefEqProofs
    rw [slTo, OK_some, slFrom, addS1 (by rw [List.length_take]; omega), OK_some, OK_some, addS (by rw [List.length_append, List.length_take, List.length_drop]; simp; omega), OK_some, e4]
    simp -implicitDefEqProofs [e1]
    exact hK () trivial
  · rintro b _
    simp -implicitDefEqProofs
    have hG : JF.Rows 1 (F.map (List.take 1)) := fun r hr => by
      obtain ⟨y, hy, rfl⟩ := List.mem_map.mp hr
      exact ⟨by rw [List.length_take, (hF y hy).1]; omega, fun a ha => (hF y hy).2 a (List.mem_of_mem_take ha)⟩
    rw [itF, OK_some, compF_aw (e := eR) (c := eR) (g := fun r => eR (r.take 1)) (by omega) (fun _ _ _ => rfl) (fun _ _ _ => rfl) fun r hr K => ?_]
    · rw [show (F.map fun r => eR (r.take 1)) = (F.map (List.take 1)).map eR by rw [List.map_map]; rfl]
      generalize hGG : F.map (List.take 1) = G at *
      have hGl : G.length = F.length := by rw [← hGG, List.length_map]
      try simp -implicitDefEqProofs
      refine turn_w (by omega) fun T hT => ?_
      have hTl : ∀ j ∈ T, j < G.length := fun j hj => by rw [hGl]; exact List.mem_range.mp (hT.mem_iff.mp hj)
      rw [show PyData.tuple (G.map eR) = eF G from rfl, flow_end_eq hG (by omega) (by omega) (by omega) (itS (S := T)) hTl, OK_some]
      rw [compF_aw (e := eR) (c := eR) (g := fun r => .int (el r 0)) (by omega) (fun _ _ _ => rfl) (fun _ _ _ => rfl) fun r hr K => by
        have h1 := (hG r hr).1
        simp -implicitDefEqProofs
        rw [show dIx (eR r) (.int 0) = some (.int (el r 0)) from ixR (j := 0) (by omega), OK_some]]
      rw [dSum_l, OK_some, JF.En_one (rows_ok hG hTl), show ((T.map (row G)).map fun r => r.getD 0 0).sum = (G.map fun r => el r 0).sum from sum_perm (by rw [hGl]; exact hT)]
      simp -implicitDefEqProofs
      clear hz0 hT hTl T hGG hG hGl G hF hF0 hF5 hm hm4 F m
      refine flow_w (z := 2) (by omega) fun F m hF hF0 hF5 hm hm4 hm2 => ?_
      have : m = 2 := by have := hm2 (by omega); omega
      subst this
      clear hm hm4 hm2
      have hl : (joO F).length = F.length := by have := (JF.johnO_perm (n := F.length) (a := fa F) (b := fb F)).length_eq; simpa using this
      have e1 := flow_end_eq hF hF0 (m := 2) (by omega) (by omega) (itS (S := joO F)) jo_lt
      simp -implicitDefEqProofs [johnson_eq hF (show F.length ≤ 1000 by omega), e1, hl, dRange_n (n := F.length) (by omega)]
      rw [compF_aw (e := eN) (c := eN) (g := fun k => .int (JF.sa (((joO F).map (pr2 F)).take (k + 1)) + JF.sb (((joO F).map (pr2 F)).drop k))) (by simp; omega) (fun _ _ _ => rfl) (fun _ _ _ => rfl) fun k hk K => ?_]
      · try simp -implicitDefEqProofs
        rw [dMax_i (f := fun k => JF.sa (((joO F).map (pr2 F)).take (k + 1)) + JF.sb (((joO F).map (pr2 F)).drop k)) (xs := List.range F.length) rfl (fun e => absurd (congrArg List.length e) (by rw [List.length_range, List.length_nil]; omega)), OK_some, sums_max hF hF0]
        obtain ⟨S, hS, hb, hbe⟩ := best_flow_eq hF hF0 hF5
        have e2 := flow_end_eq hF hF0 (m := 2) (by omega) (by omega) (itS (S := S)) fun j hj => List.mem_range.mp (hS.mem_iff.mp hj)
        rw [show JF.En 2 (S.map (row F)) = JF.En 2 ((joO F).map (row F)) from hbe] at e2
        simp -implicitDefEqProofs [hb, e2]
        obtain ⟨d1, hd1, hx1⟩ := flow_paper_ok (b := en2 F (joO F)) hF hF0 (by omega)
        obtain ⟨d2, hd2, hx2⟩ := flow_paper_ok (b := en2 F (joO F) - 1) hF hF0 (by omega)
        rw [if_pos (Int.le_refl _)] at hx1
        rw [if_neg (by omega)] at hx2
        rw [hd1, OK_some, hx1, OK_some, dNe_s shOrd shOrd, OK_some]
        simp -implicitDefEqProofs
        rw [hd2, OK_some, hx2, OK_some, dNe_s shNon shNon, OK_some]
        simp -implicitDefEqProofs
        rw [check_flow_eq hF hF0 (by omega) JF.johnO_perm (Int.le_refl _), OK_some]
        simp -implicitDefEqProofs
        have two : ∀ r ∈ F, dIx (eR r) (.int 1) = some (.int (el r 1)) := fun r hr => ixR (j := 1) (by have := (hF r hr).1; omega)
        have l0 : (lateF F).length = F.length := List.length_map ..
        have l1 : (swapF F).length = F.length := List.length_map ..
        rw [itF, OK_some, compF_aw (e := eR) (c := eR) (g := fun r => eR [0, el r 1]) (by omega) (fun _ _ _ => rfl) (fun _ _ _ => rfl) fun r hr K => by
          simp -implicitDefEqProofs
          rw [two r hr, OK_some]
          rfl]
        rw [OK_some, compF_aw (e := eR) (c := eR) (g := fun r => eR r.reverse) (by omega) (fun _ _ _ => rfl) (fun _ _ _ => rfl) fun r hr K => by simp -implicitDefEqProofs [dTupL_R, eR_rev]]
        rw [show PyData.tuple (F.map fun r => eR [0, el r 1]) = eF (lateF F) by unfold eF lateF; rw [List.map_map]; rfl]
        rw [show PyData.tuple (F.map fun r => eR r.reverse) = eF (swapF F) by unfold eF swapF; rw [List.map_map]; rfl]
        rw [johnson_eq (late_rows hF) (by omega), OK_some, flow_end_eq (late_rows hF) (by omega) (m := 2) (by omega) (by omega) (itS (S := joO (lateF F))) jo_lt, OK_some, OK_some]
        rw [compF_aw (e := eR) (c := eR) (g := fun r => .int (el r 1)) (by omega) (fun _ _ _ => rfl) (fun _ _ _ => rfl) fun r hr K => by
          simp -implicitDefEqProofs
          rw [two r hr, OK_some]]
        rw [dSum_l, OK_some, show JF.En 2 ((joO (lateF F)).map (row (lateF F))) = _ from late_end hF]
        simp -implicitDefEqProofs
        rw [johnson_eq (swap_rows hF) (by omega), OK_some, flow_end_eq (swap_rows hF) (by omega) (m := 2) (by omega) (by omega) (itS (S := joO (swapF F))) jo_lt, OK_some, show JF.En 2 ((joO (swapF F)).map (row (swapF F))) = _ from swap_end hF]
        simp -implicitDefEqProofs
      · have hk' := List.mem_range.mp hk
        simp -implicitDefEqProofs
        rw [show (k : Int) + 1 = ((k + 1 : Nat) : Int) by omega, slTo, OK_some, itS, OK_some]
        rw [compF_aw (e := eN) (c := eN) (g := fun j => .int (fa F j)) (by rw [List.length_take]; omega) (fun _ _ _ => rfl) (fun _ _ _ => rfl) fun j hj K => by
          have h := jo_lt j (List.mem_of_mem_take hj)
          simp -implicitDefEqProofs [ixF h, eR_two hF h]]
        rw [dSum_l, OK_some, slFrom, OK_some, itS, OK_some]
        rw [compF_aw (e := eN) (c := eN) (g := fun j => .int (fb F j)) (by rw [List.length_drop]; omega) (fun _ _ _ => rfl) (fun _ _ _ => rfl) fun j hj K => by
          have h := jo_lt j (List.mem_of_mem_drop hj)
          simp -implicitDefEqProofs [ixF h, eR_two hF h]]
        rw [dSum_l, OK_some, sa_take, sb_drop]
        simp -implicitDefEqProofs
    · simp -implicitDefEqProofs
      unfold eR
      rw [show (1 : Int) = ((1 : Nat) : Int) from rfl, dSl_to, List.map_take]
      simp -implicitDefEqProofs
end K78
end k78m6_
section plh_
set_option maxRecDepth 100000
set_option maxHeartbeats 2000000
/-! the head: the facts at the top's end, the law's promise -/
namespace PL
open PySem PySem.Spec PyProof.Rows L2 GxR GenW LamX GX PySem.W
def exT (ex : List (Str × Value)) : Frag → Bool := fun K => ex.all fun p => He.eqO (nsIn K mainGlobals p.1) (some (some p.2))
def obX (n : Nat) (fa : List He.Fa) (fn : List He.DefD) (tf : List He.Defn) (ex : List (Str × Value)) (s : SharedT) : He.AlX := He.obsX n fa fn [] tf (exT ex) (HandSHeadRun.getT s)
theorem obX_eq {n : Nat} {fa : List He.Fa} {fn : List He.DefD} {tf : List He.Defn} {ex : List (Str × Value)} (s : SharedT) : obX n fa fn tf ex s = (He.hookX n fa fn [] tf (exT ex)).obs s.abs := He.obsX_eq (HandSHeadRun.getT_eq s)
def mdOf (P : Program) (w : World) (K : Frag) (mg : Str → Option Value) (base : Heap) (tf : List He.Defn) (q : Nat → Nat → Str) : Md := ⟨P, w, K, mg, base, (tf.map (He.cT K)).map (·.2), fun _ => q⟩
theorem law_at {l : OpenLaw} {w : World} {K : Frag} {mg : Str → Option Value} {f : Addr} {h : Heap} {k n : Nat} {fa : List He.Fa} {fn : List He.DefD} {tf : List He.Defn} {ex : List (Str × Value)} {q : Nat → Nat → Str} {d : He.DefD}
    (S : He.SaysX fa fn [] tf (exT ex) w h K) (X : K.In h) (G : h.Ns mainGlobals mg) (hf : mg ("law" : PySem.Str) = some (.ref f)) (hg : He.Fa.glo ("law" : PySem.Str) ∈ fa) (hd : d ∈ fn) (hat : d.at_ = (("law" : PySem.Str), none)) (hdv : d.dvs K = []) (hkw : d.kws K = [])
    (hb : ∀ (kV doc pm : Value) (an : Option Addr) (cdv ct : Value) (us : List Value), us.length = 1 → bindArgs (PySem.W.fnOf d.name d.qual d.params d.body d.scope .none kV doc pm an cdv ct) ⟨us, []⟩ = pure ((["script"] : List Str).zip us))
    (hfn : ∀ μ : Md, Fx μ fa fn tf ex → μ.qs = (fun _ => q) → ∀ fd : FuncData, FunD μ.K d.name d.qual d.params d.body d.scope (d.dvs μ.K) (d.kws μ.K) (He.fAd μ.K d.at_) fd → FnOk μ.prog μ.w μ.K μ.mg μ.base CX0 k (He.fAd μ.K d.at_) fd ["script"] (spLaw μ)) :
    LamX.LawAtS l w K CX0 k n "script" mg f h := by
  obtain ⟨fd, F⟩ := S.t.d.defs hd
  have e : f = He.fAd K d.at_ := by
    rw [hat]
    have z := hf.symm.trans (He.glo_ok X G (S.t.d.facts hg))
    exact Value.ref.inj (Option.some.inj z)
  have F' := F
  rw [hdv, hkw] at F'
  have hbd := FunD.bindsA (ps := ["script"]) F' fun kV doc pm an cdv ct us hl => hb kV doc pm an cdv ct us hl
  refine ⟨fd, tf.map (He.cT K), spLaw (mdOf l.prog w K mg h tf q), fun p hp => ?_, fun p hp => ?_, fun p hp => ?_, fun s u => hbd s [u] rfl, fun H a ns _ _ hT hS => ⟨a, ns, rfl, hS, fun P hP => TabA.nil ?_, fun _ => rfl⟩, fun base hK hN hTB => ?_⟩
  · obtain ⟨r, hr, rfl⟩ := List.mem_map.mp hp
    exact S.empty r hr
  · obtain ⟨r, hr, rfl⟩ := List.mem_map.mp hp
    exact S.out r hr
  · obtain ⟨r, hr, rfl⟩ := List.mem_map.mp hp
    exact PySem.W.codeHd_of_K X (S.hd r hr)
  · obtain ⟨r, hr, e2⟩ := List.mem_map.mp hP
    rw [← e2]
    exact hT r hr
  · rw [e]
    exact hfn (mdOf l.prog w K mg base tf q) ⟨fun i p hp => PySem.W.mg_of X G (He.eqO_ok (List.all_eq_true.mp S.more p (List.mem_of_getElem? hp))), ⟨h, X, G⟩, S.t.d, fun i p hp => ⟨hTB _ (List.mem_map.mpr ⟨p, List.mem_of_getElem? hp, rfl⟩), List.mem_map.mpr ⟨_, List.mem_map.mpr ⟨p, List.mem_of_getElem? hp, rfl⟩, rfl⟩⟩⟩ rfl fd F
end PL
end plh_
section k78h_
set_option maxRecDepth 100000
set_option maxHeartbeats 4000000
namespace K78
open PySem PySem.Spec PyProof.Rows L2 GxR GenW LamX GX PySem.W PL
abbrev R0 : PySem.W.OpenRow := PySem.W.OpenLaw.row PySem.Challenge.rw_jobsproved_k78_whole_ends_by_turning_poi
def looseL : List PySem.Str := [("permutations" : PySem.Str), ("__name__" : PySem.Str), ("is_integer" : PySem.Str), ("is_row" : PySem.Str), ("is_worded" : PySem.Str), ("__name__" : PySem.Str), ("is_order" : PySem.Str), ("__name__" : PySem.Str), ("power" : PySem.Str), ("members_of" : PySem.Str), ("sum_at" : PySem.Str), ("is_set_table" : PySem.Str), ("__name__" : PySem.Str), ("flow_end" : PySem.Str), ("johnson" : PySem.Str), ("choices_at" : PySem.Str), ("flow_table" : PySem.Str), ("flow_paper" : PySem.Str), ("check_flow" : PySem.Str), ("best_flow" : PySem.Str), ("__name__" : PySem.Str), ("_law_pool" : PySem.Str), ("_law_spread" : PySem.Str), ("_law_draw" : PySem.Str), ("_law_flow" : PySem.Str), ("_law_turn" : PySem.Str), ("_law_longest" : PySem.Str)]
theorem run (w : World) : HandSHeadRun.RunEqI R0 (PySem.W.view R0.prog [0, 27]) (He.hookX 4 faL fnL [] tfL (exT exL)) (obX 4 faL fnL tfL exL) 20000 looseL w := by
  unfold HandSHeadRun.RunEqI
  kernel_rfl
end K78
open PySem PySem.W PySem.Calls PyProof.Rows
theorem holds_K78 (hm : K78.b_law fun r => r = .rt (.bool true)) : PySem.Challenge.rw_jobsproved_k78_whole_ends_by_turning_poi.Holds := by
  w_on; o_law
  refine HandSHeadRun.head_imp (r := OpenLaw.row PySem.Challenge.rw_jobsproved_k78_whole_ends_by_turning_poi) (q := view (OpenLaw.row PySem.Challenge.rw_jobsproved_k78_whole_ends_by_turning_poi).prog [0, 27]) (H := He.hookX 4 K78.faL K78.fnL [] K78.tfL (PL.exT K78.exL)) (ob := PL.obX 4 K78.faL K78.fnL K78.tfL K78.exL) (M := 20000) (loose := K78.looseL) (d := HandSHeadRun.topDef (OpenLaw.row PySem.Challenge.rw_jobsproved_k78_whole_ends_by_turning_poi).prog 27) (kwd := []) PL.obX_eq
    K78.run (by kernel_rfl) (by kernel_rfl) (by kernel_rfl) (by rfl) (by first | assumption | decide +kernel) (by decide +kernel) ⟨rfl, rfl, rfl, rfl, rfl, by decide +kernel⟩ ?hw ?hc
  case hw => w_witness2
  case hc =>
    refine LamX.walk_ofTsE (l := PySem.Challenge.rw_jobsproved_k78_whole_ends_by_turning_poi) (n := 63) (k := K78.lawK) (x := "script") (CX := fun _ => L2.CX0) rfl (by decide) (by kernel_rfl) ⟨rfl, by decide, by decide⟩ ?F (fun _ _ _ _ _ z => z)
    intro w mg fa h Y G hmg0
    obtain ⟨K, KX, c⟩ := Y
    have hmg : mg ("law" : PySem.Str) = some (.ref fa) := by
      have e : (HandSHeadRun.topDef (OpenLaw.row PySem.Challenge.rw_jobsproved_k78_whole_ends_by_turning_poi).prog 27).name = ("law" : PySem.Str) := by kernel_rfl
      rw [← e]
      exact hmg0
    exact ⟨K, KX, PL.law_at (q := K78.qsT) (d := K78.d_law) c KX G hmg (List.mem_of_getLast? (by rfl)) (by simp [K78.fnL]) rfl rfl rfl (fun _ _ _ _ _ _ us hl => match us, hl with | [_], _ => rfl) fun μ Φ hq fd F => K78.fn_law Φ hq hm F⟩
end k78h_
theorem PySem.Challenge.cw_jobsproved_k78_whole_ends_by_turning_poi_holds : PySem.Challenge.rw_jobsproved_k78_whole_ends_by_turning_poi.Holds := by
  exact holds_K78 K78.law_ok
