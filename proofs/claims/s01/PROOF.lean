import PyProof.Rows.All
import Wide.All
import OpenK.AllK
import Wide.FinOn
import PyProof.EqAt
import PyProof.EqKinds
import PyProof.TupleCall
import Open.SpecLaws
import KE.OsGo
import HandS.ForSpec
import HandS.ForMost
import HandS.FStr
import HandS.ExcField
import HandS.Codes
import HandS.ExcSuper
import PySem.Challenge.RW_counterloops_s01_answers
import KE.KIntText
import HandS.Walk
import PyFlatLaws
set_option Elab.async false
set_option linter.all false
set_option maxRecDepth 100000
set_option maxHeartbeats 2000000
/-! ## Rules that the layer lacks -/
namespace CL
open PySem
section
variable {M : Model} {A : Around} {E : Value → Shared → Prop} {s : Shared} {env : Env}
/-- behind a comprehension's block; an error passes on from the frame F -/
def postF (M : Model) (A : Around) (E : Value → Shared → Prop) (use : Option (Value → Sem Unit)) (Q : Value → Shared → Prop) (acc : Value) (C : Addr) (F : Option Addr) (r : Result) (s' : Shared) : Prop :=
  match r with
  | .error x => ∃ m, s'.heap.Ns C m ∧ ∀ h', Heap.SameBut C s'.heap h' → ∀ ce : Env, ce.frame = F → wpAny M A (passOn "comprehension.variables-let-go" x ce : Sem Value) (fun _ _ => False) E { s' with heap := h' }
  | .ok f => compPost M A E use Q acc C (.ok f) s'
theorem comp_freeX {e : Expr} {scope : Scope} {pos : Pos} {newAcc first : Sem Value} {g : Comprehension} {gs : List Comprehension} {cl : List (Str × Addr)} {use : Option (Value → Sem Unit)} {Q : Value → Shared → Prop}
    (hcl : clausesOf e = g :: gs) (hs : ∀ x, foldedSetIterable g.iter env x = pure x) (hclos : closureFor scope env = pure cl) (hkind : scope.kind = .function) (hnames : ∀ x ∈ scope.names, x.2 = .local → scope.names.lookup x.1 = some .local)
    (h : wpAny M A first (fun x s1 => wpAny M A (pyIter x) (fun it s2 => wpAny M A newAcc (fun acc s3 => wpAny M A (newFunctionEnv scope env.globals cl [] env.qual none .none (some env)) (fun cenv s4 =>
        codeAny M A (.compStart e 0 it acc { cenv with scope := relabel scope env }) (postF M A E use Q acc cenv.locals cenv.frame) s4) E s3) E s2) E s1) E s) :
    wpAny M A (comprehension e scope env pos newAcc false first use) Q E s := by
  unfold comprehension
  rw [hclos, hcl]
  refine wpAny_bind (wpAny_mono h (fun x s1 h1 => wpAny_bind (wpAny_standAt (wpAny_bind (wpAny_of_eq (hs x) (wpAny_bind (wpAny_holding (wpAny_mono h1 (fun it s2 h2 =>
    wpAny_standIf (wpAny_bind (wpAny_mono h2 (fun acc s3 h3 => wpAny_bind (wpAny_pure (wpAny_bind (wpAny_mono h3 (fun cenv s4 h4 => ?_) fun _ _ q => q)))) fun _ _ q => q))) fun _ _ q => q))))))) fun _ _ q => q)
  dsimp only
  have hv : ∀ x ∈ (scope.names.filter fun x => (x.2 == .local || x.2 == .cell) && x.1 != (".0" : Str)).reverse, x.2 = .local → Env.kindOf { cenv with scope := relabel scope env } x.1 = some .local :=
    fun x hx hl => lookup_relabel_local (hnames x (List.mem_filter.mp (List.mem_reverse.mp hx)).1 hl)
  have hv2 : ∀ x ∈ (scope.names.filter fun x => (x.2 == .local || x.2 == .cell) && x.1 != (".0" : Str)).reverse.drop 1 ++ (scope.names.filter fun x => (x.2 == .local || x.2 == .cell) && x.1 != (".0" : Str)).reverse.take 1,
      x.2 = .local → Env.kindOf { cenv with scope := relabel scope env } x.1 = some .local := fun x hx hl => by
    rcases List.mem_append.mp hx with q | q
    · exact hv x (List.mem_of_mem_drop q) hl
    · exact hv x (List.mem_of_mem_take q) hl
  refine wpAny_holding (wpAny_bind (wpAny_attempt (wpAny_holding (wpAny_run (codeAny_mono h4 fun r s' hr => ?_)))))
  cases r with
  | ok f =>
    cases use with
    | none =>
      obtain ⟨m, hn, hr⟩ := hr
      exact wpAny_bind (wpAny_holding (wpAny_comp_letGo (cenv := { cenv with scope := relabel scope env }) hkind _ s' m hv hn fun h' m' _ q => wpAny_pure (hr h' q)))
    | some u =>
      refine wpAny_bind (wpAny_rule (wpAny_bind (wpAny_holding (wpAny_mono hr (fun _ s2 hr2 => ?_) fun _ _ q => q))))
      obtain ⟨m, hn, hr2⟩ := hr2
      exact wpAny_bind (wpAny_comp_letGo (cenv := { cenv with scope := relabel scope env }) hkind _ s2 m hv2 hn fun h' m' _ q => wpAny_pure (hr2 h' q))
  | error x =>
    obtain ⟨m, hn, hr⟩ := hr
    exact wpAny_bind (wpAny_holding (wpAny_comp_letGo (cenv := { cenv with scope := relabel scope env }) hkind _ s' m hv hn fun h' m' _ q => wpAny_mono (hr h' q { cenv with scope := relabel scope env } rfl) (fun _ _ f => f.elim) fun _ _ y => y))
end
end CL
namespace CL
open PySem PySem.Spec PyProof.Rows L2
/-- the block's context, with a wish about exceptions -/
abbrev blkX (X : Cx) (s : Shared) (H : Hp) (scope : Scope) (cenv : Env) (fp : List Addr) (xe : Value → Shared → Prop) : Cx := { X.blk s H scope cenv fp with xe := xe }
theorem noteFrame_frame {e : Value} {a b : Env} (h : a.frame = b.frame) : noteFrame e a = noteFrame e b := by
  unfold PySem.noteFrame PySem.frameOf
  rw [h]
section
variable {X : Cx} {pins : List (Addr × Obj)} {σ : L2.St} {H : Hp} {s s' : Shared}
/-- an exception out of a call in a comprehension's block: it is noted, the block's names are let go, it flies on -/
theorem blk_out {W : WX} {E : XK} {C : Addr} {ce : Env} {u : Value} {E1 : Value → Shared → Prop} {m0 : Str → Option Value} (hs : X.stack = X.env :: X.outer) (hf : X.env.frame = some X.env.locals) (tk : Takes X W) (hW : ∀ cls d σ H, E cls d H → W cls d σ H)
    (I : Inv X pins σ H s) (hC : s.heap.Ns C m0) (fC : FpOk X pins H C) (sC : C ∉ frs X.stack) (hce : ce.frame = X.env.frame) (c : L2.CX X.prog X.w X.stack H s E u s') :
    wpAny (model X.prog X.w) X.A (noteFrame u ce) (fun _ s2 => ∃ m, s2.heap.Ns C m ∧ ∀ h', Heap.SameBut C s2.heap h' → ∀ ce2 : Env, ce2.frame = X.env.frame →
      wpAny (model X.prog X.w) X.A (passOn "comprehension.variables-let-go" u ce2 : Sem Value) (fun _ _ => False) X.xe { s2 with heap := h' }) E1 s' := by
  obtain ⟨a, B, H', cls, d, rfl, fl, hok, ub, na, os, ag, hE⟩ := c
  obtain ⟨nC, lC, fsC, xC, cC, pC⟩ := fC
  obtain ⟨oC, esC, epC, eC, dC, rC⟩ := id hC
  have bC : B.get? C = some oC := ub.keep C oC eC nC sC
  have nC' : H' C = none := ub.free C oC eC nC
  -- the ground, with and without C
  obtain ⟨G, g1, g2⟩ := restrict s'.heap fun b => (B.get? b).isSome || decide (b ∈ frs X.stack)
  have st : B.StaysIn s'.heap := fl.1
  have gB : ∀ b o, B.get? b = some o → G.get? b = some o := fun b o e => by
    rw [g1 b (by simp [e])]
    exact st b o e
  have gF : ∀ b, b ∈ frs X.stack → G.get? b = s'.heap.get? b := fun b hb => g1 b (by simp [hb])
  have og : ∀ b o, G.get? b = some o → s'.heap.get? b = some o ∧ ((B.get? b).isSome = true ∨ b ∈ frs X.stack) := fun b o e => by
    cases q : ((B.get? b).isSome || decide (b ∈ frs X.stack)) with
    | false =>
      rw [g2 b q] at e
      cases e
    | true =>
      rw [g1 b q] at e
      exact ⟨e, by simpa [Bool.or_eq_true] using q⟩
  have J0 : Inv X pins σ H' { s with heap := G, gens := s'.gens, drawn := s'.drawn, toks := s'.toks } := by
    refine I.call (ch := []) ⟨fun b o e n hb _ => gB b o (ub.keep b o e n hb), fun b o e n hb _ => ?_, fun b o e n _ => ub.free b o e n, fun b o e _ => ?_, ub.tups, ub.frzs, ub.tbls⟩ (hok.kept gB) ag (fun _ z => nomatch z)
    · obtain ⟨sl, q⟩ := ub.slot b o e hb
      exact ⟨sl, by rw [gF b hb]; exact q⟩
    · by_cases hb : b ∈ frs X.stack
      · obtain ⟨sl, q⟩ := ub.slot b o e hb
        exact ⟨_, by rw [gF b hb]; exact q⟩
      · obtain ⟨o', q⟩ := ub.there b o e hb
        exact ⟨o', gB b o' q⟩
  obtain ⟨G2, k1, k2⟩ := restrict G fun b => decide (b ≠ C)
  obtain ⟨B2, b1, b2⟩ := restrict B fun b => decide (b ≠ C)
  have kG : ∀ b, b ≠ C → G2.get? b = G.get? b := fun b hb => k1 b (decide_eq_true hb)
  have kC : G2.get? C = none := k2 C (by simp)
  have kB : ∀ b, b ≠ C → B2.get? b = B.get? b := fun b hb => b1 b (decide_eq_true hb)
  have kBC : B2.get? C = none := b2 C (by simp)
  have J : Inv X pins σ H' { s with heap := G2, gens := s'.gens, drawn := s'.drawn, toks := s'.toks } := J0.turned (t' := s'.toks) (it := C) (fun b o hb e => by rw [kG b hb]; exact e) nC' lC xC cC pC
  have inB2 : ∀ b o, B2.get? b = some o → B.get? b = some o ∧ b ≠ C := fun b o e => by
    by_cases hb : b = C
    · rw [hb, kBC] at e
      cases e
    · rw [kB b hb] at e
      exact ⟨e, hb⟩
  have noneB2 : ∀ b, B.get? b = none → B2.get? b = none := fun b e => by
    by_cases hb : b = C
    · rw [hb]
      exact kBC
    · rw [kB b hb]
      exact e
  have hfr : X.A.frames = some (X.env :: X.outer) := by rw [I.ok.frames, hs]
  rw [noteFrame_frame hce]
  rw [hs] at fl
  refine HandSPX.looks_onZ Zc.steady hfr hf fl fun h1 hh up => ?_
  obtain ⟨st1, en1, fr1, tr1⟩ := hh
  refine ⟨m0, ⟨oC, esC, epC, st1 C oC bC, dC, rC⟩, fun h2 sb ce2 hf2 => ?_⟩
  have other : ∀ b, b ≠ C → h2.get? b = h1.get? b := fun b hb => sb.2 b hb
  have c1 : h1.get? C = some oC := st1 C oC bC
  have st2 : B2.StaysIn h2 := fun b o e => by
    obtain ⟨e1, hb⟩ := inB2 b o e
    rw [other b hb]
    exact st1 b o e1
  have fr2 : h2.FunFrames B2 (X.env :: X.outer) := by
    have all : ∀ l : List Env, (∀ b ∈ frs l, b ≠ C) → h1.FunFrames B l → h2.FunFrames B2 l := by
      intro l
      induction l with
      | nil => intro _ _; trivial
      | cons env r ih =>
        intro hn hl
        obtain ⟨hk, ⟨L, o, hfL, hnL, hoL, hdL⟩, hr⟩ := hl
        have hL : L ≠ C := hn L (by unfold frs; rw [List.filterMap_cons, hfL]; exact List.mem_cons_self)
        exact ⟨hk, ⟨L, o, hfL, noneB2 L hnL, (other L hL).trans hoL, hdL⟩, ih (fun b hb => hn b (by
          unfold frs
          rw [List.filterMap_cons, hfL]
          exact List.mem_cons_of_mem _ hb)) hr⟩
    refine all _ (fun b hb q => ?_) fr1
    rw [← hs] at hb
    exact sC (q ▸ hb)
  have notF : ∀ {b : Addr} {o : Obj} {vs : Array Value}, h1.get? b = some o → o.data = .fields vs → b ≠ C := fun {b o vs} e q z => by
    rw [z, c1] at e
    cases e
    rw [dC] at q
    cases q
  obtain ⟨oe, vs, T, oT, ts, he, hz, hd, h1', hnT, hTe, hT, hdT, h3⟩ := tr1
  have tr2 : HandSPX.TracedZ h2 B2 a (Zc cls d) (rawInt X.env.locals) := ⟨oe, vs, T, oT, ts, (other a (notF he hd)).trans he, hz, hd, h1', noneB2 T hnT, hTe, (other T (notF hT hdT)).trans hT, hdT, h3⟩
  unfold PySem.passOn
  refine wpAny_bind (wpAny_field ((other a (notF he hd)).trans he) hd h1' ?_)
  rw [if_neg (show ¬ ((Value.ref T == Value.none) = true) from by simp)]
  rw [hf2, hf]
  refine wpAny_bind (HandSPX.setFlight_anyZ st2 fr2 tr2 fun h4 q1 q2 q3 q4 => ?_)
  refine wpAny_throw ?_
  refine tk _ _ ⟨a, B2, _, pins, σ, H', cls, d, rfl, J, fun b o e hb => ?_, ?_, .inr (.inr ⟨q1, noneB2 a en1, by rw [hs]; exact q2, q3⟩), na, os, ag, hW _ _ _ _ hE⟩
  · have e : G2.get? b = some o := e
    by_cases hbC : b = C
    · rw [hbC, kC] at e
      cases e
    · rw [kG b hbC] at e
      rw [kB b hbC]
      obtain ⟨e', h⟩ := og b o e
      rcases h with h | h
      · obtain ⟨o', q⟩ := Option.isSome_iff_exists.mp h
        have z := st b o' q
        rw [e'] at z
        cases z
        exact q
      · exact absurd h hb
  · intro b o e hnf
    have e : G2.get? b = some o := e
    by_cases hbC : b = C
    · rw [hbC, kC] at e
      cases e
    · rw [kG b hbC] at e
      obtain ⟨e', _⟩ := og b o e
      obtain ⟨sl, x1⟩ := up b o e' hnf
      have x2 : h2.get? b = some { o with slots := sl } := (other b hbC).trans x1
      obtain ⟨sl2, x3⟩ := q4 b _ x2 hnf
      exact ⟨sl2, x3⟩
end
end CL
namespace CL
open PySem PySem.Spec PyProof.Rows L2
section
variable {X : Cx}
/-- a comprehension whose item may raise: its item is read in a block from which E leaves -/
theorem lc_coreX {pins : List (Addr × Obj)} {s : Shared} {σ : L2.St} {H : Hp} {Q : VK} {elt tg iter : Expr} {scope : Scope} {own : List (Str × Nat)} {pos pos' : Pos} {wi : TI} {g : TG} {te : TE} {use : Option (Value → Sem Unit)} {Qf : Value → Shared → Prop} {W : WX} {E : XK}
    (hs : X.stack = X.env :: X.outer) (hf : X.env.frame = some X.env.locals) (tk : Takes X W) (hW : ∀ cls d σ H, E cls d H → W cls d σ H)
    (hc : X.calm = true) (hN : X.N.Nodup) (I : Inv X pins σ H s) (hi : PI X tg iter wi) (ok : BlkOk X.N X.env.scope scope own)
    (hg : ∀ (s : Shared) (H : Hp) (C : Addr) (cl : List (Str × Addr)) (fp : List Addr) (xe : Value → Shared → Prop), PG (blkX X s H scope (compEnvC scope cl C X.env) fp xe) tg g)
    (he : ∀ (s : Shared) (H : Hp) (C : Addr) (cl : List (Str × Addr)) (fp : List Addr) (xe : Value → Shared → Prop), Passes (L2.CX X.prog X.w) (blkX X s H scope (compEnvC scope cl C X.env) fp xe) E → PE (blkX X s H scope (compEnvC scope cl C X.env) fp xe) elt te)
    (hfs : ∀ x, foldedSetIterable iter X.env x = pure x) (h : tLc wi g tYes te (own.map (·.2)) σ H Q)
    (hRR : ∀ D C s' m H', Inv X pins σ H' s' → Q (.ref D) H' → s'.heap.Ns C m → FpOk X pins H' C → compPost (model X.prog X.w) X.A X.xe use Qf (.ref D) C (.ok .next) s') :
    wpAny (model X.prog X.w) X.A (comprehension (.ListComp elt [⟨tg, iter, [], 0⟩] scope pos) scope X.env pos' (newList []) false (eval iter X.env) use) Qf X.xe s := by
  have hfree : ∀ y ∈ scope.names, y.2 = .free → ∃ c, X.env.cells.lookup y.1 = some c := fun y hy e => by
    rcases ok.free y hy e with k | k
    · exact I.ok.has _ (.inl k)
    · exact I.ok.has _ (.inr k)
  refine comp_freeX (use := use) rfl hfs (closure_ok hfree) ok.kind (fun y hy e => by rw [ok.uniq y hy, e]) (thn (hi.run pins s σ H _ I h) fun xv s1 hx => thn hx fun itv s2 h2 => ?_)
  obtain ⟨it, fp, tn, J, H2, e, I2, T, st2, f2, q⟩ := h2
  subst e
  refine wpAny_newObj_type (newEnv_comp ?_) (by show 0 ≤ sizeLine; decide)
  generalize hD : s2.heap.objs.size = D
  have hDn : H2 D = none := I2.hok.fresh (Nat.le_of_eq hD)
  obtain ⟨W0, ⟨m0, w0⟩, turn⟩ := q D hDn
  generalize hs3 : ({ s2 with heap := s2.heap.push { cls := .type "list", data := .seq ([] : List Value).toArray } } : Shared) = s3
  have I3 : Inv X pins σ (upd H2 D (.lst [])) s3 := by
    rw [← hs3]
    refine I2.laid (t' := s2.toks) (fun b o e => Heap.get?_push_of_some _ e) (Nat.le_of_eq hD) ⟨Nat.zero_le _, [], 0, .nil, ?_⟩
    rw [← hD]
    exact Heap.get?_push_size _ rfl
  have h3 : s3.heap = s2.heap.push { cls := .type "list", data := .seq ([] : List Value).toArray } := by rw [← hs3]
  have sz : ∀ b ∈ fp, b < s2.heap.objs.size := fun b hb => by
    obtain ⟨o, e, _⟩ := T.obj _ _ st2 b hb
    exact Heap.lt_size e
  have f3 : ∀ b ∈ fp, FpOk X pins (upd H2 D (.lst [])) b ∧ b < s3.heap.objs.size := fun b hb => by
    have hlt := sz b hb
    refine ⟨⟨?_, (f2 b hb).2⟩, by rw [h3, Heap.size_push]; exact Nat.lt_succ_of_lt hlt⟩
    rw [upd_ne (by rw [← hD]; exact Nat.ne_of_lt hlt)]
    exact (f2 b hb).1
  have st3 : tn 0 s3.heap := T.keep _ _ _ st2 fun b _ o e => by
    rw [h3]
    exact Heap.get?_push_of_some _ e
  have I4' := block_start I3 ok hN f3
  show codeAny _ _ (.compStart (.ListComp elt [⟨tg, iter, [], 0⟩] scope pos) 0 (.ref it) (.ref D) (compEnvC scope (cellsFrom (s3.heap.objs.size + 1) scope.names (cloFrom X.env.cells scope.names [])) s3.heap.objs.size X.env))
    (postF (model X.prog X.w) X.A X.xe use Qf (.ref D) s3.heap.objs.size X.env.frame) { s3 with heap := pushCells (s3.heap.push { cls := .type "dict", data := .dict #[] }) scope.names }
  have nfp : ∀ b ∈ fp, (upd H2 D (.lst [])) b = none := fun b hb => (f3 b hb).1.1
  -- what is wanted of an error within the block
  generalize hxe : (fun e s' => wpAny (model X.prog X.w) X.A (noteFrame e (compEnvC scope (cellsFrom (s3.heap.objs.size + 1) scope.names (cloFrom X.env.cells scope.names [])) s3.heap.objs.size X.env)) (fun _ s2 => postF (model X.prog X.w) X.A X.xe use Qf (.ref D) s3.heap.objs.size X.env.frame (.error e) s2) (fun _ _ => False) s' : Value → Shared → Prop) = xe
  have I4 : Inv (blkX X s3 (upd H2 D (.lst [])) scope (compEnvC scope (cellsFrom (s3.heap.objs.size + 1) scope.names (cloFrom X.env.cells scope.names [])) s3.heap.objs.size X.env) fp xe) [] (wipe σ (own.map (·.2))) (upd H2 D (.lst []))
      { s3 with heap := pushCells (s3.heap.push { cls := .type "dict", data := .dict #[] }) scope.names } := I4'.wish xe
  have pg := hg s3 (upd H2 D (.lst [])) s3.heap.objs.size (cellsFrom (s3.heap.objs.size + 1) scope.names (cloFrom X.env.cells scope.names [])) fp xe
  have pe := he s3 (upd H2 D (.lst [])) s3.heap.objs.size (cellsFrom (s3.heap.objs.size + 1) scope.names (cloFrom X.env.cells scope.names [])) fp xe
  have hfrm : (compEnvC scope (cellsFrom (s3.heap.objs.size + 1) scope.names (cloFrom X.env.cells scope.names [])) s3.heap.objs.size X.env).frame = X.env.frame := rfl
  generalize hce : compEnvC scope (cellsFrom (s3.heap.objs.size + 1) scope.names (cloFrom X.env.cells scope.names [])) s3.heap.objs.size X.env = ce at I4 pg pe hxe hfrm ⊢
  have cL : ce.locals = s3.heap.objs.size := by
    subst hce
    rfl
  generalize hH3 : upd H2 D (.lst []) = H3 at I3 I4 pg pe w0 nfp f3
  generalize hs4 : ({ s3 with heap := pushCells (s3.heap.push { cls := .type "dict", data := .dict #[] }) scope.names } : Shared) = s4 at I4 ⊢
  have st4 : tn 0 s4.heap := T.keep _ _ _ st3 fun b _ o e => by
    rw [← hs4]
    exact pushCells_keeps _ _ _ _ (Heap.get?_push_of_some _ e)
  have stat : ∀ {σ' : L2.St} {H' : Hp} {s' : Shared}, Inv (blkX X s3 H3 scope ce fp xe) [] σ' H' s' → (∀ b ∈ fp, H' b = none) → ∀ b ∈ fp, FpOk (blkX X s3 H3 scope ce fp xe) [] H' b := fun {σ' H' s'} I' hn b hb =>
    ⟨hn b hb, (I'.ok.exf b hb).1, I'.ok.exfs b hb, .inl hb, fun x c e => (I'.ok.exf b hb).2 x c e, fun p hp => absurd (show p ∈ ([] : List (Addr × Obj)) ++ [] from hp) (by simp)⟩
  -- the block's state is a state of the def's
  have back : ∀ {pn' : List (Addr × Obj)} {σ' : L2.St} {H' : Hp} {s' : Shared}, Inv (blkX X s3 H3 scope ce fp xe) pn' σ' H' s' → Inv X pins σ H' s' ∧ FpOk X pins H' s3.heap.objs.size ∧ ∃ m, s'.heap.Ns s3.heap.objs.size m := fun {pn' σ' H' s'} I' => by
    have I7 : Inv X pins σ H' s' := I3.call' (ch := fp) I'.os I'.base I'.hok I'.bare fun b hb => ⟨(f3 b hb).1.2.2.2.1, (f3 b hb).1.2.1, (f3 b hb).1.2.2.2.2.1, (f3 b hb).1.2.2.2.2.2⟩
    have nC : H' s3.heap.objs.size = none := by
      have z : H' ce.locals = none := I'.free
      rw [cL] at z
      exact z
    obtain ⟨m, hn, _⟩ := I'.loc
    have hn : s'.heap.Ns ce.locals m := hn
    rw [cL] at hn
    exact ⟨I7, I3.fpOk (Nat.le_refl _) nC, m, hn⟩
  have nstk : s3.heap.objs.size ∉ frs X.stack := fun hb => by
    rcases List.mem_cons.mp (I3.stkSub _ hb) with z | z
    · have q := I3.lt
      rw [← z] at q
      exact Nat.lt_irrefl _ q
    · exact I3.nofs (Nat.le_refl _) z
  have pass : Passes (L2.CX X.prog X.w) (blkX X s3 H3 scope ce fp xe) E := fun pn' σ' H' s' u s'' I' c => by
    obtain ⟨I7, fC, m, hn⟩ := back I'
    show xe u s''
    rw [← hxe]
    exact blk_out hs hf tk hW I7 hn fC nstk hfrm c
  have pe := pe pass
  have loop : codeAny (model X.prog X.w) X.A (.compLoop (.ListComp elt [⟨tg, iter, [], 0⟩] scope pos) 0 (.ref it) (.ref D) ce) (postF (model X.prog X.w) X.A X.xe use Qf (.ref D) s3.heap.objs.size X.env.frame) s4 := by
    refine compLoop_any (fun n s' => ∃ i H', Inv (blkX X s3 H3 scope ce fp xe) [] (wipe σ (own.map (·.2))) H' s' ∧ tn i s'.heap ∧ (∀ b ∈ fp, H' b = none) ∧ W0 i n H') ?_ m0 ⟨0, H3, I4, st4, nfp, w0⟩
    rintro n s5 ⟨i, H5, I5, st5, n5, w5⟩
    have xnote : ∀ u s', xe u s' → notedBy (model X.prog X.w) X.A ce (fun e s' => postF (model X.prog X.w) X.A X.xe use Qf (.ref D) s3.heap.objs.size X.env.frame (.error e) s') u s' := fun u s' q => by
      rw [← hxe] at q
      exact wpAny_mono q (fun _ _ z => z) fun _ _ z => z.elim
    rcases turn i n H5 w5 with ⟨stop, qq⟩ | ⟨go, Nx, hNx, step⟩
    · have td := T.done (blkX X s3 H3 scope ce fp xe) rfl rfl rfl hc i [] s5 _ H5 (fun _ _ => False) I5 (stat I5 n5) st5 stop
      refine thnF td fun r s6 ⟨hr, I6⟩ => ?_
      subst hr
      obtain ⟨I7, fC, m, hn⟩ := back I6
      exact hRR D s3.heap.objs.size s6 m H5 I7 qq hn fC
    · have ti := T.item (blkX X s3 H3 scope ce fp xe) rfl rfl rfl hc i [] s5 _ H5 (fun _ _ => False) I5 (stat I5 n5) st5 go
      refine thnF ti fun r s6 ⟨u, hr, h6⟩ => ?_
      subst hr
      refine thnF h6 fun _ s7 ⟨x, H7, I7, r7, y7, st7, n7⟩ => ?_
      have I7' := I7.pinned (stat I7 n7) (T.obj _ _ st7)
      refine wpAny_mono (pg.run _ s7 _ H7 x u _ I7' r7 (step x H7 y7)) (fun _ s8 ⟨σ8, H8, I8, hw8, q8⟩ => ?_) xnote
      refine wpAny_mono ((pts_nil (X := blkX X s3 H3 scope ce fp xe)).run _ s8 σ8 H8 _ I8 q8) (fun b s9 ⟨H9, I9, q9⟩ => ?_) xnote
      have fin : ∀ {s' : Shared} {H' : Hp}, Inv (blkX X s3 H3 scope ce fp xe) ([] ++ pinsAt fp s7.heap) σ8 H' s' → Nx H' → ∃ m, m < n ∧ ∃ i H', Inv (blkX X s3 H3 scope ce fp xe) [] (wipe σ (own.map (·.2))) H' s' ∧ tn i s'.heap ∧ (∀ b ∈ fp, H' b = none) ∧ W0 i m H' := fun {s' H'} I' nx => by
        obtain ⟨m', hm, w'⟩ := hNx H' nx
        have pin' : ∀ b ∈ fp, ∀ o, s7.heap.get? b = some o → s'.heap.get? b = some o ∧ H' b = none := fun b hb o e =>
          let z := I'.pin (b, o) (List.mem_append_right _ (List.mem_append_right _ (mem_pinsAt hb e)))
          ⟨z.1, z.2.1⟩
        have hl : (wipe σ (own.map (·.2))).length = σ8.length := by rw [← hw8, wipe_length]
        refine ⟨m', hm, i + 1, H', (I'.unpinned (pins := [])).weak hl (fun j v e => ?_), T.keep _ _ _ st7 fun b hb o e => (pin' b hb o e).1, fun b hb => ?_, w'⟩
        · rw [← hw8] at e
          exact (wipe_some e).1
        · obtain ⟨o, e, _⟩ := T.obj _ _ st7 b hb
          exact (pin' b hb o e).2
      cases b with
      | false =>
        simp only [Bool.false_eq_true, if_false] at q9 ⊢
        exact fin I9 q9
      | true =>
        simp only [if_true] at q9 ⊢
        refine wpAny_mono (pe.run _ s9 σ8 H9 _ I9 q9) (fun z s10 ⟨yv, H10, I10, r10, acc, hD10, hz10, nx⟩ => ?_) xnote
        exact app_ok (X := blkX X s3 H3 scope ce fp xe) I10 hD10 hz10 r10 fun s11 I11 => fin I11 nx
  exact codeAny_compStart_list loop (T.self X.A 0 _ _ _ st4 loop)
theorem pe_lcX {elt tg iter : Expr} {scope : Scope} {own : List (Str × Nat)} {pos : Pos} {wi : TI} {g : TG} {te : TE} {W : WX} {E : XK} (hs : X.stack = X.env :: X.outer) (hf : X.env.frame = some X.env.locals) (tk : Takes X W) (hW : ∀ cls d σ H, E cls d H → W cls d σ H)
    (hc : X.calm = true) (hN : X.N.Nodup) (hi : PI X tg iter wi) (ok : BlkOk X.N X.env.scope scope own)
    (hg : ∀ (s : Shared) (H : Hp) (C : Addr) (cl : List (Str × Addr)) (fp : List Addr) (xe : Value → Shared → Prop), PG (blkX X s H scope (compEnvC scope cl C X.env) fp xe) tg g)
    (he : ∀ (s : Shared) (H : Hp) (C : Addr) (cl : List (Str × Addr)) (fp : List Addr) (xe : Value → Shared → Prop), Passes (L2.CX X.prog X.w) (blkX X s H scope (compEnvC scope cl C X.env) fp xe) E → PE (blkX X s H scope (compEnvC scope cl C X.env) fp xe) elt te)
    (hfs : ∀ x, foldedSetIterable iter X.env x = pure x := by intro _; rfl) : PE X (.ListComp elt [⟨tg, iter, [], 0⟩] scope pos) (tLc wi g tYes te (own.map (·.2))) := by
  refine ⟨fun pins s σ H Q I h => ?_⟩
  rw [eval_ListComp]
  refine lc_coreX hs hf tk hW hc hN I hi ok hg he hfs h fun D C s' m H' I' q hn f => ⟨m, hn, fun h'' sb => ?_⟩
  obtain ⟨f0, f1, f2, f3, f4, f5⟩ := f
  exact ⟨.ref D, H', I'.turned (t' := s'.toks) (fun b o hb e => (sb.2 b hb).trans e) f0 f1 f3 f4 f5, rfl, q⟩
theorem ps_setLcX {i : Nat} {y : Str} {py : Pos} {elt tg iter : Expr} {scope : Scope} {own : List (Str × Nat)} {pos spos : Pos} {wi : TI} {g : TG} {te : TE} {W : WX} {E : XK} (hs : X.stack = X.env :: X.outer) (hf : X.env.frame = some X.env.locals) (tk : Takes X W) (hW : ∀ cls d σ H, E cls d H → W cls d σ H)
    (hc : X.calm = true) (hN : X.N.Nodup) (hy : X.N[i]? = some y) (hyl : X.env.scope.names.lookup y = some .local)
    (hsw : swapsWith (.ListComp elt [⟨tg, iter, [], 0⟩] scope pos) (some (.Name y py)) spos.line X.env = pure true) (hi : PI X tg iter wi) (ok : BlkOk X.N X.env.scope scope own)
    (hg : ∀ (s : Shared) (H : Hp) (C : Addr) (cl : List (Str × Addr)) (fp : List Addr) (xe : Value → Shared → Prop), PG (blkX X s H scope (compEnvC scope cl C X.env) fp xe) tg g)
    (he : ∀ (s : Shared) (H : Hp) (C : Addr) (cl : List (Str × Addr)) (fp : List Addr) (xe : Value → Shared → Prop), Passes (L2.CX X.prog X.w) (blkX X s H scope (compEnvC scope cl C X.env) fp xe) E → PE (blkX X s H scope (compEnvC scope cl C X.env) fp xe) elt te)
    (hfs : ∀ x, foldedSetIterable iter X.env x = pure x := by intro _; rfl) : PS X (.Assign [.Name y py] (.ListComp elt [⟨tg, iter, [], 0⟩] scope pos) spos) (tAsg (tLc wi g tYes te (own.map (·.2))) (gName i)) := by
  refine ⟨fun pins s σ H D I h => ?_⟩
  rw [exec_Assign_Name_used _ _ _ _ hsw]
  refine wpAny_bind (wpAny_standAt (wpAny_bind ?_))
  show wpAny _ X.A (do let _ ← comprehension (.ListComp elt [⟨tg, iter, [], 0⟩] scope pos) scope X.env (firstIterPos [⟨tg, iter, [], 0⟩] pos) (newList []) false (eval iter X.env) (some (assign (.Name y py) X.env))) _ _ s
  have h : tLc wi g tYes te (own.map (·.2)) σ H (fun x H1 => gName i x σ H1 D.nx) := h
  refine wpAny_bind (thn (lc_coreX (Qf := fun _ s' => SP X pins D .next s') hs hf tk hW hc hN I hi ok hg he hfs h fun L C s' m H' I' q hn f => ?_) fun _ s' hq => wpAny_pure (wpAny_pure hq))
  show wpAny _ _ (assign (.Name y py) X.env (.ref L)) _ _ _
  refine wpAny_assign_Name (store_ok2 (v := V.ref L) I' hN hy (.inl hyl) rfl (fun s2 I2 ⟨a, sb, ha⟩ => ?_) (.inr hyl))
  obtain ⟨f0, f1, f2, f3, f4, f5⟩ := f
  have haC : C ≠ a := by
    rcases ha with z | z
    · rw [z]
      exact f1
    · exact fun e => f4 y a z e.symm
  refine ⟨m, hn.sameBut sb haC, fun h3 sb3 => ?_⟩
  exact ⟨_, H', I2.turned (t' := s2.toks) (fun b o hb e => (sb3.2 b hb).trans e) f0 f1 f3 f4 f5, q⟩
end
end CL
/-! ## The text by places -/
namespace CL
open PySem PySem.Spec PyProof.Rows L2
def top (i : Nat) : Stmt := PySem.Challenge.pw_counterloops_s01_answers.main.body.getD i (.Pass ⟨0, 0, 0, 0⟩)
abbrev sFault : Stmt := inClass (top 13) 0
end CL
/-! ## Fault(kind, place): an own error over Exception whose __init__ stores two fields -/
namespace CL
open PySem PySem.W PySem.Calls PyProof.Rows PySem.HandSPX
abbrev exT : List Value := [.type "Exception", .type "BaseException", .type "object"]
/-- what the top has written of Fault -/
structure FaultTxt (K : Frag) (mg : Str → Option Value) (C fI : Addr) : Prop where
  gC : mg "Fault" = some (.ref C)
  cls : ∃ nm q N bs sn sub ab col dd k0 k1 k2 k3 k5, K.lookup C = some (excClassObj nm q C N bs exT true sn sub ab col dd k0 k1 k2 k3 k5 "Exception.__new__")
  sa : findIn K (.ref C) "__setattr__" = some (some (.builtin "object.__setattr__"))
  noK : findIn K (.ref C) "kind" = some none
  noP : findIn K (.ref C) "place" = some none
  iC : findIn K (.ref C) "__init__" = some (some (.ref fI))
  tC : typeIn K (.ref fI) = some (.type "function")
  kC : keepIn K (.ref C) = true
  tyC : typeIn K (.ref C) = some (.type "type")
  te : exmOne K (.ref C) (.ref C) = some true
  xf : L2.XfC K C
  fn : ∃ (oc : Value) (od : Option Addr) (kV doc pm : Value) (an : Option Addr) (cdv ct : Value) (osl : Array (Option Value)),
    K.lookup fI = some ⟨oc, od, .func (fnOf "__init__" "Fault.__init__" (L2.defArgs sFault) (L2.defBody sFault) (L2.defScope sFault) .none kV doc pm an cdv ct), osl⟩ ∧ codeIn K cdv "Fault.__init__" = true
theorem ldc {M : Model} {s : Shared} {name : Str} {scope : Scope} {L a : Addr} {cd : Value} {m : Str → Option Value} {x : Str} {pos : Pos} {v : Value} {Q : Value → Shared → Prop} {A : Around} {E : Value → Shared → Prop} (hn : s.heap.Ns L m) (hv : m x = some v) (h : Q v s)
    (hk : scope.kind = .function := by rfl) (hl : (envOfC name scope L a cd).kindOf x = some .local := by rfl) (hd : (x == ("__debug__" : Str)) = false := by decide) :
    wpAny M A (eval (.Name x pos) (envOfC name scope L a cd)) Q E s := wpAny_Name (wpAny_loadName_local hk hl hn hv h) hd
/-- what __init__ leaves of a fresh Fault at x -/
structure FEnd (h h' : Heap) (x C dx t1 : Addr) (v1 v2 : Value) : Prop where
  keep : ∀ b o, b ≠ x → h.get? b = some o → h'.get? b = some o
  obj : h'.get? x = some { cls := .ref C, dict := some dx, data := .fields #[.ref t1, .none, .none, .none, .bool false, .none] }
  dbig : h.objs.size ≤ dx
  dne : dx ≠ x
  ns : h'.Ns1 dx (fun y => if y = "place" then some v2 else if y = "kind" then some v1 else none)
/-- a made Fault -/
structure FMade (h h' : Heap) (e C d : Addr) (v1 v2 : Value) : Prop where
  keep : ∀ b o, h.get? b = some o → h'.get? b = some o
  new : h.objs.size ≤ e
  obj : ∃ oe vs, h'.get? e = some oe ∧ oe.cls = .ref C ∧ oe.dict = some d ∧ oe.data = .fields vs ∧ vs[1]? = some .none
  dbig : h.objs.size ≤ d
  dne : d ≠ e
  ns : h'.Ns1 d (fun y => if y = "place" then some v2 else if y = "kind" then some v1 else none)
section
variable {prog : Program} {w : World} {A : Around} {E : Value → Shared → Prop} {R : Result → Shared → Prop} {s : Shared} {K : Frag} {mg : Str → Option Value} {C fI : Addr}
theorem in_but {K : Frag} {h h' : Heap} {x : Addr} (X : K.In h) (hx : K.lookup x = none) (k : ∀ b o, b ≠ x → h.get? b = some o → h'.get? b = some o) : K.In h' := fun a o e =>
  k a o (fun z => by
    rw [z, hx] at e
    cases e) (X a o e)
theorem fault_init (T : FaultTxt K mg C fI) {x t0 : Addr} {v1 v2 : Value} (X : K.In s.heap) (hlim : s.heap.NoLimit) (hx : s.heap.get? x = some (excO C t0)) (hnx : K.lookup x = none) (hroom : A.depth < recursionLimit)
    (hq : ∀ h' tk dx, FEnd s.heap h' x C dx t0 v1 v2 → R (.ok (.ret .none)) { s with heap := h', toks := tk }) :
    codeAny (model prog w) A (.call (.ref fI) ⟨[.ref x, v1, v2], []⟩) R s := by
  obtain ⟨oc, od, kV, doc, pm, an, cdv, ct, osl, ho, hcd⟩ := T.fn
  obtain ⟨nm, q, N, bs, sn, sub, ab, col, dd, k0, k1, k2, k3, k5, hC⟩ := T.cls
  have hcl : clsIn K C = some { name := nm, bases := bs, mro := .ref C :: exT, ns := N, qualname := q, hasDict := true, slotNames := sn, subclasses := sub, abstract := ab, collection := col, hasDel := false } := by
    unfold clsIn
    rw [hC] <;> rfl
  obtain ⟨q1, q2, q3, q4, q5, q6, q7, q8, eb⟩ : ∃ q1 q2 q3 q4 q5 q6 q7 q8 : Pos, L2.defBody sFault = [.Assign [.Attribute (.Name "self" q1) "kind" q2] (.Name "kind" q3) q4, .Assign [.Attribute (.Name "self" q5) "place" q6] (.Name "place" q7) q8] := ⟨_, _, _, _, _, _, _, _, rfl⟩
  refine Att.call_fn (binds := [("self", .ref x), ("kind", v1), ("place", v2)]) X hlim ho hcd hroom (BindsTo.of_eq (by first | rfl | with_unfolding_all rfl)) (by first | rfl | decide | with_unfolding_all rfl) (fun s1 IC => ?_) rfl rfl rfl
  obtain ⟨h1, tk1, rfl⟩ := IC.toInCall.same
  have k : ∀ b o, s.heap.get? b = some o → h1.get? b = some o := IC.toInCall.keep
  have hn := IC.toInCall.ns
  have hxL : s.heap.objs.size ≠ x := Nat.ne_of_gt (Heap.lt_size hx)
  have X1 : K.In h1 := X.keeps k
  have hx1 := k _ _ hx
  show wpAny _ _ (execs (L2.defBody sFault) _) _ _ _
  rw [eb]
  refine wpAny_execs_cons (plainObj_wpAny_Assign_Attribute ?_)
  refine ldc (v := v1) hn (by first | rfl | with_unfolding_all rfl | kernel_rfl) (ldc (v := .ref x) hn (by first | rfl | with_unfolding_all rfl | kernel_rfl) ?_)
  refine set_plain X1 (ox := excO C t0) (od := none) ⟨hx1, rfl, rfl, trivial⟩ T.sa ?_
  refine ESX.osa_new X1 hx1 hcl rfl rfl T.noK (fun h3 tk3 dx k3 dn dne hx3 hn3 => ?_)
  have z : s.heap.objs.size < h1.objs.size := hn.lt
  have X3 : K.In h3 := in_but X1 hnx k3
  have hnL : h3.Ns s.heap.objs.size _ := hn.at fun o q => k3 _ o hxL q
  have hdL : dx ≠ s.heap.objs.size := fun e => by
    rw [e] at dn
    exact absurd (Nat.lt_of_lt_of_le z dn) (Nat.lt_irrefl _)
  show wpAny _ _ (execs [_] _) _ _ _
  refine wpAny_execs_cons (plainObj_wpAny_Assign_Attribute ?_)
  refine ldc (v := v2) hnL (by first | rfl | with_unfolding_all rfl | kernel_rfl) (ldc (v := .ref x) hnL (by first | rfl | with_unfolding_all rfl | kernel_rfl) ?_)
  have wi : Within (fun y => if y = ("kind" : Str) then some v1 else none) ["kind"] := Within.cons "kind" v1 Within.nil
  obtain ⟨oD, esD, epD, hoD, hdD, _⟩ := hn3.count wi
  refine set_plain X3 (od := some oD) ⟨hx3, rfl, rfl, hoD⟩ T.sa ?_
  refine ESX.osa_old X3 hx3 hn3 wi (by decide) hcl rfl rfl T.noP (fun h4 tk4 k4 hn4 => ?_)
  show wpAny _ _ (execs [] _) _ _ _
  exact wpAny_execs_nil (hq h4 tk4 dx ⟨fun b o hb e => k4 b o (fun e2 => by
    rw [e2] at e
    exact absurd (Nat.lt_of_lt_of_le (Heap.lt_size (k _ _ e)) dn) (Nat.lt_irrefl _)) (k3 b o hb (k b o e)), k4 x _ (Ne.symm dne) hx3, Nat.le_of_lt (Nat.lt_of_lt_of_le z dn), dne, hn4⟩)
theorem fault_made (T : FaultTxt K mg C fI) {v1 v2 : Value} (X : K.In s.heap) (hlim : s.heap.NoLimit) (hroom : A.depth + 1 < recursionLimit)
    (hq : ∀ h' tk e d, FMade s.heap h' e C d v1 v2 → R (.ok (.ret (.ref e))) { s with heap := h', toks := tk }) :
    codeAny (model prog w) A (.call (.ref C) ⟨[v1, v2], []⟩) R s := by
  obtain ⟨nm, q, N, bs, sn, sub, ab, col, dd, k0, k1, k2, k3, k5, hC⟩ := T.cls
  obtain ⟨hp, g, d, tk, os⟩ := s
  have k : ∀ b o, hp.get? b = some o → ((hp.push (kdv_tup [v1, v2])).push (excO C hp.objs.size)).get? b = some o := fun b o e => Heap.get?_push_of_some _ (Heap.get?_push_of_some _ e)
  have hget : ((hp.push (kdv_tup [v1, v2])).push (excO C hp.objs.size)).get? (hp.objs.size + 1) = some (excO C hp.objs.size) := by heap_get
  have hnx : K.lookup (hp.objs.size + 1) = none := by
    cases e : K.lookup (hp.objs.size + 1) with
    | none => rfl
    | some o =>
      have z : hp.get? (hp.objs.size + 1) = some o := X _ _ e
      exact absurd (Nat.lt_of_succ_lt (Heap.lt_size z)) (Nat.lt_irrefl _)
  refine call_own F.excBase_Exception (fun _ => rfl) (X _ _ hC) (looks_findIn X T.iC) (fun self => bind_fn X self T.tC) (by show 2 ≤ sizeLine; rw [sizeLine_eq]; omega) ?_
  refine fault_init (s := ⟨(hp.push (kdv_tup [v1, v2])).push (excO C hp.objs.size), g, d, tk, os⟩) T (X.keeps k) (hlim.keeps k) hget hnx ?_ fun h' tk' dx ⟨k', hx, dn, dne, hns⟩ => ?_
  · show A.depth + 1 < recursionLimit
    exact hroom
  · have old : ∀ b o, hp.get? b = some o → h'.get? b = some o := fun b o e => k' b o (Nat.ne_of_lt (Nat.lt_succ_of_lt (Heap.lt_size e))) (k b o e)
    have z : hp.objs.size + 1 + 1 ≤ dx := by
      first
        | (simpa only [Heap.size_push] using dn)
        | exact dn
        | (have q := dn; rw [Heap.size_push, Heap.size_push] at q; exact q)
    exact ⟨rfl, hq h' tk' (hp.objs.size + 1) dx ⟨old, Nat.le_succ _, ⟨_, _, hx, rfl, rfl, rfl, rfl⟩, Nat.le_trans (Nat.le_trans (Nat.le_succ _) (Nat.le_succ _)) z, dne, hns⟩⟩
end
end CL
namespace CL
open PySem PySem.Spec PyProof.Rows L2
/-- the own dict of a Fault -/
def fxd (k p : V) : HO := .xd [("kind", k), ("place", p)]
theorem relO_fault {k p : V} {k' p' : Value} (r1 : RelV k k') (r2 : RelV p p') (f : Str) : RelO (List.lookup f [(("kind" : Str), k), (("place" : Str), p)]) (if f = "place" then some p' else if f = "kind" then some k' else none) := by
  by_cases h1 : f = "place"
  · subst h1
    rw [if_pos rfl]
    exact r2
  · rw [if_neg h1]
    by_cases h2 : f = "kind"
    · subst h2
      rw [if_pos rfl]
      exact r1
    · rw [if_neg h2]
      have e1 : (f == ("kind" : Str)) = false := by simpa using h2
      have e2 : (f == ("place" : Str)) = false := by simpa using h1
      have e : List.lookup f [(("kind" : Str), k), (("place" : Str), p)] = none := by simp [List.lookup, e1, e2]
      rw [e]
      trivial
section
variable {X : Cx} {C fI : Addr}
/-- Fault(a, b) -/
def tMkF (C : Addr) (ta : TA) : L2.St → Hp → XK → Prop := fun σ H Q => ta σ H fun vs H1 => ∃ k p, vs = [k, p] ∧ ∀ d, H1 d = none → Q (.ref C) (some d) (upd H1 d (fxd k p))
theorem pmk_fault {a b : Expr} {ta : TA} {p pos : Pos} {k : Nat} (T : FaultTxt X.K X.mg C fI) (hr : Room k X.A) (ha : PA X [a, b] ta) (hg : Gl X "Fault" := by rfl)
    (he : starEach (a :: [b]) X.env = (false, eval a X.env) :: starEach [b] X.env := by rfl) (hpl : (backTo pos (starEach [b] X.env)).any (·.1) = false := by rfl) :
    PMk X (.Call (.Name "Fault" p) [a, b] [] pos) (tMkF C ta) := by
  intro pins s σ H Q I h
  refine wpAny_Call_Name_kw (ld_glob I hg T.gC ?_)
  refine PySem.W.callWith_K (h₀ := X.base) I.ok.mod.kin T.kC (thn (ha.run pos pins s σ H _ I h) fun us s1 hh => ?_) he hpl
  obtain ⟨vs, H1, I1, r1, kk, pp, ev, q1⟩ := hh
  subst ev
  refine ⟨I1.kIn, ?_⟩
  obtain ⟨k', p', eu, rk, rp⟩ := vals2 r1
  subst eu
  show wpAny _ _ (call (.ref C) [k', p']) _ _ _
  have hlim := I1.nolimit
  obtain ⟨hp, g, dr, tk, os⟩ := s1
  refine wpAny_call (fault_made T I1.kIn hlim (by have := hr.dp; omega) fun h' tk' e d M => ?_)
  show MkP X pins σ Q (.ref e) ⟨h', g, dr, tk', os⟩
  obtain ⟨oe, fv, hoe, hc, hd, hdat, h1⟩ := M.obj
  have hns := M.ns
  obtain ⟨G, g1, g2⟩ := restrict h' fun b => decide (b ≠ e)
  have gk : ∀ b, b ≠ e → G.get? b = h'.get? b := fun b hb => g1 b (decide_eq_true hb)
  have ge : G.get? e = none := g2 e (by simp)
  have old : ∀ b o, hp.get? b = some o → G.get? b = some o := fun b o q => (gk b (Nat.ne_of_lt (Nat.lt_of_lt_of_le (Heap.lt_size q) M.new))).trans (M.keep b o q)
  have ob : ObjOk X.prog X.w (upd H1 d (fxd kk pp)) G d (fxd kk pp) := ⟨_, hns.at (fun o q => (gk d M.dne).trans q), fun f => relO_fault rk rp f⟩
  have J : Inv X pins σ (upd H1 d (fxd kk pp)) ⟨G, g, dr, tk', os⟩ := I1.laid (t' := tk') old M.dbig ob
  refine ⟨e, oe, fv, ⟨G, g, dr, tk', os⟩, _, .ref C, some d, rfl, J, fun b o q => ?_, ge, hoe, ⟨hc, hd⟩, hdat, h1, ?_, rfl, I1.bare, raises_own T.xf.exC T.tyC, q1 d (I1.hok.fresh M.dbig)⟩
  · by_cases hb : b = e
    · have q' : G.get? b = some o := q
      rw [hb, ge] at q'
      cases q'
    · exact (gk b hb).symm.trans q
  · rw [upd_ne (Ne.symm M.dne)]
    exact I1.hok.fresh M.new
/-- raise Fault(a, b) -/
def tRaiseF (C : Addr) (W : WX) (ta : TA) : TS := fun _ σ H => tMkF C ta σ H fun cls d H' => W cls d σ H'
theorem ps_raiseF {a b : Expr} {ta : TA} {W : WX} {p pos pos2 : Pos} {k : Nat} (hc : X.calm = true) (T : FaultTxt X.K X.mg C fI) (hr : Room k X.A) (tk : Takes X W) (ha : PA X [a, b] ta) (hg : Gl X "Fault" := by rfl)
    (he : starEach (a :: [b]) X.env = (false, eval a X.env) :: starEach [b] X.env := by rfl) (hpl : (backTo pos (starEach [b] X.env)).any (·.1) = false := by rfl) :
    PS X (.Raise (some (.Call (.Name "Fault" p) [a, b] [] pos)) none pos2) (tRaiseF C W ta) := ps_raise hc tk (pmk_fault T hr ha hg he hpl)
end
/-! ## raise C() of an own class without __init__ -/
section
variable {X : Cx} {C : Addr} {bmB : List Value} {B newId initId : String}
theorem pmk_own0 {x : Str} {p pos : Pos} (F : ExcBaseFacts B newId initId bmB) (q : PySem.W.excIn X.K C bmB newId = true) (gC : X.mg x = some (.ref C)) (kC : PySem.W.keepIn X.K (.ref C) = true) (r : Raises X (.ref C)) (hg : Gl X x)
    (hdb : (x == ("__debug__" : Str)) = false := by decide) : PMk X (.Call (.Name x p) [] [] pos) (fun _ H Q => Q (.ref C) none H) := by
  intro pins s σ H Q I h
  refine wpAny_Call_Name_kw (ld_glob I hg gC ?_ hdb)
  refine PySem.W.callWith_K0 (first := []) I.kIn kC ?_
  show wpAny _ _ (call (.ref C) []) _ _ _
  obtain ⟨bm, N, nm, qn, bs, hdct, sn, sub, ab, col, dd, k0, k1, k2, k3, k5, mN, hC, hN, hni, T⟩ := exc_obj I.kIn q
  obtain ⟨hp, g, dr, tk, os⟩ := s
  refine wpAny_call_exc_subT F T hC hN hni (fun h' e hm => ?_) (Nat.zero_le _)
  exact mk_of I hm r h (I.hok.gone hm.new)
end
/-! ## xs[i] += e, of a list -/
section
variable {X : Cx}
def gList (K : PySem.W.Frag) : R2 := fun x y H Q => ∃ (p : Addr) (xs : List V) (j : Nat) (v : V), x = .ref p ∧ y = .int (j : Int) ∧ SqL K H p xs ∧ xs[j]? = some v ∧ Q v H
theorem get_list : PGet X (gList X.K) := by
  intro pins s σ H o i ov iv Q I ro ri h
  obtain ⟨p, xs, j, v, rfl, rfl, hq, he, q⟩ := h
  cases ro
  obtain ⟨t, rfl⟩ := ri
  obtain ⟨its, r, pl, hz⟩ := I.list hq
  obtain ⟨w, ew, rw'⟩ := r.get he
  have hl := r.length
  have hj : j < xs.length := (List.getElem?_eq_some_iff.mp he).1
  have hn := line63
  exact wpAny_getItem_list (k := (j : Int)) (x := w) (Q := EP X pins σ Q) pl.isList (Int.natCast_nonneg j) (by omega) (by simpa using ew) (show EP X pins σ Q w s from ⟨v, H, I, rw', q⟩)
end
end CL
/-! ## Bundles: a def or method with its promise -/
namespace CL
open PySem PySem.Spec PyProof.Rows L2
open C8 (Cal Met Mak pe_c pe_mk pe_mt pe_mt0 pe_gc)
/-- a def of the top, as it stands -/
def DefT (K : PySem.W.Frag) (mg : Str → Option Value) (x : Str) (st : Stmt) : Prop := ∃ (f : Addr) (fd : FuncData), mg x = some (.ref f) ∧ Fun K x x st f fd
/-- a method of the class at C -/
def MetT (K : PySem.W.Frag) (C : Addr) (m qual : Str) (st : Stmt) : Prop := ∃ (f : Addr) (fd : FuncData), Meth K C m f ∧ Fun K m qual st f fd
structure CalX (P : Program) (w : World) (K : PySem.W.Frag) (mg : Str → Option Value) (base : Heap) (k : Nat) (x : Str) (sp : Sp) : Prop where
  ex : ∃ (f : Addr) (fd : FuncData) (ps : List Str), FnOk P w K mg base (L2.CX P w) k f fd ps sp ∧ mg x = some (.ref f) ∧ PySem.W.keepIn K (.ref f) = true ∧ Binds K fd ps []
structure MetX (P : Program) (w : World) (K : PySem.W.Frag) (mg : Str → Option Value) (base : Heap) (k : Nat) (C : Addr) (m : Str) (sp : Sp) : Prop where
  ex : ∃ (f : Addr) (fd : FuncData) (ps : List Str), Cls K C ∧ Meth K C m f ∧ FnOk P w K mg base (L2.CX P w) k f fd ps sp ∧ Binds K fd ps []
section
variable {P : Program} {w : World} {K : PySem.W.Frag} {mg : Str → Option Value} {base : Heap}
theorem cal_mk {x : Str} {st : Stmt} {N ps : List Str} {k : Nat} {sp : Sp} (D : DefT K mg x st) (S : FnScope N ps (defScope st))
    (bn : ∀ (kV doc pm : Value) (an : Option Addr) (cdv ct : Value) (us : List Value), us.length = ps.length → bindArgs (PySem.W.fnOf x x (defArgs st) (defBody st) (defScope st) .none kV doc pm an cdv ct) ⟨us, []⟩ = pure (ps.zip us))
    (len : ∀ vs H Q E, sp vs H Q E → vs.length = ps.length)
    (hbody : ∀ (f : Addr) (cdv : Value) (A : Around) (outer : List Env) (s : Shared) (H : Hp) (vs : List V) (Q : VK) (E : XK), Room k (A.deeper (envOfC x (defScope st) s.heap.objs.size f cdv)) → sp vs H Q E →
      ∃ t, PSs (cxOf CX0 P w K mg base N x (defScope st) f cdv A outer s H E).nox (defBody st) t ∧ t { nx := fun _ H' => Q .non H', rt := Q } (start N vs) H) : Cal P w K mg base (k + 1) x sp [] := by
  obtain ⟨f, fd, hm, F⟩ := D
  exact ⟨f, fd, ps, [], F.ok S len (hbody f), hm, F.kp, F.binds bn, .nil⟩
theorem calX_mk {x : Str} {st : Stmt} {N ps : List Str} {k : Nat} {sp : Sp} (D : DefT K mg x st) (S : FnScope N ps (defScope st))
    (bn : ∀ (kV doc pm : Value) (an : Option Addr) (cdv ct : Value) (us : List Value), us.length = ps.length → bindArgs (PySem.W.fnOf x x (defArgs st) (defBody st) (defScope st) .none kV doc pm an cdv ct) ⟨us, []⟩ = pure (ps.zip us))
    (len : ∀ vs H Q E, sp vs H Q E → vs.length = ps.length)
    (hbody : ∀ (f : Addr) (cdv : Value) (A : Around) (outer : List Env) (s : Shared) (H : Hp) (vs : List V) (Q : VK) (E : XK), Room k (A.deeper (envOfC x (defScope st) s.heap.objs.size f cdv)) → sp vs H Q E →
      ∃ t, PSs (cxOf (L2.CX P w) P w K mg base N x (defScope st) f cdv A outer s H E) (defBody st) t ∧ t { nx := fun _ H' => Q .non H', rt := Q } (start N vs) H) : CalX P w K mg base (k + 1) x sp := by
  obtain ⟨f, fd, hm, F⟩ := D
  exact ⟨f, fd, ps, F.okX S len (hbody f), hm, F.kp, F.binds bn⟩
theorem met_mk {C : Addr} {m qual : Str} {st : Stmt} {N ps : List Str} {k : Nat} {sp : Sp} (c : Cls K C) (D : MetT K C m qual st) (S : FnScope N ps (defScope st))
    (bn : ∀ (kV doc pm : Value) (an : Option Addr) (cdv ct : Value) (us : List Value), us.length = ps.length → bindArgs (PySem.W.fnOf m qual (defArgs st) (defBody st) (defScope st) .none kV doc pm an cdv ct) ⟨us, []⟩ = pure (ps.zip us))
    (len : ∀ vs H Q E, sp vs H Q E → vs.length = ps.length)
    (hbody : ∀ (f : Addr) (cdv : Value) (A : Around) (outer : List Env) (s : Shared) (H : Hp) (vs : List V) (Q : VK) (E : XK), Room k (A.deeper (envOfC qual (defScope st) s.heap.objs.size f cdv)) → sp vs H Q E →
      ∃ t, PSs (cxOf CX0 P w K mg base N qual (defScope st) f cdv A outer s H E).nox (defBody st) t ∧ t { nx := fun _ H' => Q .non H', rt := Q } (start N vs) H) : Met P w K mg base (k + 1) C m sp [] := by
  obtain ⟨f, fd, hm, F⟩ := D
  exact ⟨f, fd, ps, [], c, hm, F.ok S len (hbody f), F.binds bn, .nil⟩
theorem metX_mk {C : Addr} {m qual : Str} {st : Stmt} {N ps : List Str} {k : Nat} {sp : Sp} (c : Cls K C) (D : MetT K C m qual st) (S : FnScope N ps (defScope st))
    (bn : ∀ (kV doc pm : Value) (an : Option Addr) (cdv ct : Value) (us : List Value), us.length = ps.length → bindArgs (PySem.W.fnOf m qual (defArgs st) (defBody st) (defScope st) .none kV doc pm an cdv ct) ⟨us, []⟩ = pure (ps.zip us))
    (len : ∀ vs H Q E, sp vs H Q E → vs.length = ps.length)
    (hbody : ∀ (f : Addr) (cdv : Value) (A : Around) (outer : List Env) (s : Shared) (H : Hp) (vs : List V) (Q : VK) (E : XK), Room k (A.deeper (envOfC qual (defScope st) s.heap.objs.size f cdv)) → sp vs H Q E →
      ∃ t, PSs (cxOf (L2.CX P w) P w K mg base N qual (defScope st) f cdv A outer s H E) (defBody st) t ∧ t { nx := fun _ H' => Q .non H', rt := Q } (start N vs) H) : MetX P w K mg base (k + 1) C m sp := by
  obtain ⟨f, fd, hm, F⟩ := D
  exact ⟨f, fd, ps, c, hm, F.okX S len (hbody f), F.binds bn⟩
/-- the __init__ of a class -/
def IniT (K : PySem.W.Frag) (mg : Str → Option Value) (x : Str) (C : Addr) (qual : Str) (st : Stmt) : Prop := mg x = some (.ref C) ∧ ∃ (f : Addr) (fd : FuncData), Mk K C f ∧ Fun K "__init__" qual st f fd
theorem mak_mk {x : Str} {C : Addr} {qual : Str} {st : Stmt} {N ps : List Str} {k : Nat} {sp : Sp} (D : IniT K mg x C qual st) (S : FnScope N ps (defScope st))
    (bn : ∀ (kV doc pm : Value) (an : Option Addr) (cdv ct : Value) (us : List Value), us.length = ps.length → bindArgs (PySem.W.fnOf "__init__" qual (defArgs st) (defBody st) (defScope st) .none kV doc pm an cdv ct) ⟨us, []⟩ = pure (ps.zip us))
    (len : ∀ vs H Q E, sp vs H Q E → vs.length = ps.length)
    (hbody : ∀ (f : Addr) (cdv : Value) (A : Around) (outer : List Env) (s : Shared) (H : Hp) (vs : List V) (Q : VK) (E : XK), Room k (A.deeper (envOfC qual (defScope st) s.heap.objs.size f cdv)) → sp vs H Q E →
      ∃ t, PSs (cxOf CX0 P w K mg base N qual (defScope st) f cdv A outer s H E).nox (defBody st) t ∧ t { nx := fun _ H' => Q .non H', rt := Q } (start N vs) H) : Mak P w K mg base (k + 1) x C sp [] := by
  obtain ⟨hm, f, fd, M, F⟩ := D
  exact ⟨f, fd, ps, [], M, F.ok S len (hbody f), hm, F.binds bn, .nil⟩
end
section
variable {X : Cx} {k j : Nat} {C : Addr} {x m : Str} {sp : Sp} {E : XK} {ES : L2.St → XK} {p pos apos : Pos} {e o : Expr} {es : List Expr} {ta : TE} {t : TA}
theorem pe_cX (c : CalX X.prog X.w X.K X.mg X.base k x sp) (hr : Room j X.A) (hk : k ≤ j) (hx : Passes (L2.CX X.prog X.w) X E) (hg : Gl X x) (ha : PA X (e :: es) t)
    (hdb : (x == ("__debug__" : Str)) = false := by decide) (he : starEach (e :: es) X.env = (false, eval e X.env) :: starEach es X.env := by rfl) (hpl : (backTo pos (starEach es X.env)).any (·.1) = false := by rfl) :
    PE X (.Call (.Name x p) (e :: es) [] pos) (tCall sp [] E t) := by
  obtain ⟨f, fd, ps, F, hm, kp, b⟩ := c.ex
  exact pe_call F (hr.mono hk) hg hm kp b .nil hx ha hdb he hpl
theorem pe_cS (c : CalX X.prog X.w X.K X.mg X.base k x sp) (hr : Room j X.A) (hk : k ≤ j) (hx : ∀ σ, PassesAt (L2.CX X.prog X.w) X σ (ES σ)) (hg : Gl X x) (ha : PA X (e :: es) t)
    (hdb : (x == ("__debug__" : Str)) = false := by decide) (he : starEach (e :: es) X.env = (false, eval e X.env) :: starEach es X.env := by rfl) (hpl : (backTo pos (starEach es X.env)).any (·.1) = false := by rfl) :
    PE X (.Call (.Name x p) (e :: es) [] pos) (tCallS sp ES t) := by
  obtain ⟨f, fd, ps, F, hm, kp, b⟩ := c.ex
  exact pe_callS F (hr.mono hk) hg hm kp b hx ha hdb he hpl
theorem pe_mk0 (c : Mak X.prog X.w X.K X.mg X.base k x C sp []) (hr : Room j X.A) (hk : k + 1 ≤ j) (hg : Gl X x) (hdb : (x == ("__debug__" : Str)) = false := by decide) : PE X (.Call (.Name x p) [] [] pos) (tMake C sp [] E0 tNil) := by
  obtain ⟨f, fd, ps, ds, M, F, hm, b, d⟩ := c.ex
  exact pe_make0 M F (hr.mono hk) hg hm b d pass0 hdb
theorem pe_mX {pl : Sem Bool} (c : MetX X.prog X.w X.K X.mg X.base k C m sp) (hr : Room j X.A) (hk : k ≤ j) (hx : Passes (L2.CX X.prog X.w) X E) (he : PE X o ta) (ha : PA X (e :: es) t)
    (hst : starEach (e :: es) X.env = (false, eval e X.env) :: starEach es X.env := by rfl) (hpl : (backTo pos (starEach es X.env)).any (·.1) = false := by rfl)
    (ht : eval (.Call (.Attribute o m apos) (e :: es) [] pos) X.env = (do
      let ov ← eval o X.env
      standAt apos.atName
      let (f, first) ← holding [ov] (getMethod ov m pl)
      callWith pos f first (backTo pos (starEach (e :: es) X.env)) (backToKw pos (keywordEach [] X.env))) := by rfl) :
    PE X (.Call (.Attribute o m apos) (e :: es) [] pos) (tMeth C m sp [] E ta t) := by
  obtain ⟨f, fd, ps, hc, hm, F, b⟩ := c.ex
  exact pe_meth (pl := pl) he hc hm F (hr.mono hk) b .nil hx ha hst hpl ht
theorem pe_mX0 {pl : Sem Bool} (c : MetX X.prog X.w X.K X.mg X.base k C m sp) (hr : Room j X.A) (hk : k ≤ j) (hx : Passes (L2.CX X.prog X.w) X E) (he : PE X o ta)
    (ht : eval (.Call (.Attribute o m apos) [] [] pos) X.env = (do
      let ov ← eval o X.env
      standAt apos.atName
      let (f, first) ← holding [ov] (getMethod ov m pl)
      callWith pos f first (backTo pos (starEach [] X.env)) (backToKw pos (keywordEach [] X.env))) := by rfl) :
    PE X (.Call (.Attribute o m apos) [] [] pos) (tMeth C m sp [] E ta tNil) := by
  obtain ⟨f, fd, ps, hc, hm, F, b⟩ := c.ex
  exact pe_meth0 (pl := pl) he hc hm F (hr.mono hk) b .nil hx ht
/-- o.m() in a try: its error is wished for at the slots as they stand -/
def tMethS0 (C : Addr) (m : Str) (sp : Sp) (ES : L2.St → XK) (ta : TE) : TE := fun σ H Q => ta σ H fun x H1 => ∃ a dx fs, x = .ref a ∧ H1 a = some (.ins C dx fs) ∧ fs.lookup m = none ∧ sp [x] H1 Q (ES σ)
theorem pe_mS0 {pl : Sem Bool} (c : MetX X.prog X.w X.K X.mg X.base k C m sp) (hr : Room j X.A) (hk : k ≤ j) (hx : ∀ σ, PassesAt (L2.CX X.prog X.w) X σ (ES σ)) (he : PE X o ta)
    (ht : eval (.Call (.Attribute o m apos) [] [] pos) X.env = (do
      let ov ← eval o X.env
      standAt apos.atName
      let (f, first) ← holding [ov] (getMethod ov m pl)
      callWith pos f first (backTo pos (starEach [] X.env)) (backToKw pos (keywordEach [] X.env))) := by rfl) :
    PE X (.Call (.Attribute o m apos) [] [] pos) (tMethS0 C m sp ES ta) := by
  obtain ⟨f, fd, ps, hc, hm, F, b⟩ := c.ex
  refine ⟨fun pins s σ H Q I h => ?_⟩
  refine PySem.W.methodCall_KW (pl := pl) (thn (he.run pins s σ H _ I h) fun u s1 ⟨x, H1, I1, rx, a, dx, fs, ex, ea, l, q⟩ => ?_) ht
  subst ex
  obtain rfl : u = Value.ref a := rx
  refine getmeth_ok I1 ea hc hm l ?_
  exact PySem.W.callWith_K0 (first := [.ref a]) I1.kIn hm.kp (run_fnS (us := [.ref a]) (vs := [.ref a]) F (hr.mono hk) b (hx σ) I1 (.cons rfl .nil) q)
end
end CL

set_option Elab.async false
set_option linter.all false
set_option maxRecDepth 100000
set_option maxHeartbeats 2000000
/-! ## Each def's place, names, arguments (printed by gen.py) -/
namespace CL
open PySem PySem.Spec PyProof.Rows L2

abbrev s_move_told : Stmt := top 2
abbrev N_move_told : List Str := ["move", "told", "kind", "counter", "number"]
theorem sc_move_told : FnScope N_move_told ["move"] (defScope s_move_told) := ⟨rfl, rfl, rfl, by decide +kernel, rfl, by decide +kernel, by decide +kernel⟩
theorem bn_move_told (kV doc pm : Value) (an : Option Addr) (cdv ct : Value) : ∀ us : List Value, us.length = (["move"] : List Str).length → bindArgs (PySem.W.fnOf "move_told" "move_told" (defArgs s_move_told) (defBody s_move_told) (defScope s_move_told) .none kV doc pm an cdv ct) ⟨us, []⟩ = pure ((["move"] : List Str).zip us) :=
  fun us hl => match us, hl with | [_], _ => rfl

abbrev s_test_told : Stmt := top 3
abbrev N_test_told : List Str := ["test", "kind", "counter", "first", "second"]
theorem sc_test_told : FnScope N_test_told ["test"] (defScope s_test_told) := ⟨rfl, rfl, rfl, by decide +kernel, rfl, by decide +kernel, by decide +kernel⟩
theorem bn_test_told (kV doc pm : Value) (an : Option Addr) (cdv ct : Value) : ∀ us : List Value, us.length = (["test"] : List Str).length → bindArgs (PySem.W.fnOf "test_told" "test_told" (defArgs s_test_told) (defBody s_test_told) (defScope s_test_told) .none kV doc pm an cdv ct) ⟨us, []⟩ = pure ((["test"] : List Str).zip us) :=
  fun us hl => match us, hl with | [_], _ => rfl

abbrev s_branch_told : Stmt := top 4
abbrev N_branch_told : List Str := ["branch", "tests", "move", "told", "test"]
theorem sc_branch_told : FnScope N_branch_told ["branch"] (defScope s_branch_told) := ⟨rfl, rfl, rfl, by decide +kernel, rfl, by decide +kernel, by decide +kernel⟩
theorem bn_branch_told (kV doc pm : Value) (an : Option Addr) (cdv ct : Value) : ∀ us : List Value, us.length = (["branch"] : List Str).length → bindArgs (PySem.W.fnOf "branch_told" "branch_told" (defArgs s_branch_told) (defBody s_branch_told) (defScope s_branch_told) .none kV doc pm an cdv ct) ⟨us, []⟩ = pure ((["branch"] : List Str).zip us) :=
  fun us hl => match us, hl with | [_], _ => rfl

abbrev s_piece_told : Stmt := top 5
abbrev N_piece_told : List Str := ["piece", "kind", "branches", "told", "branch"]
theorem sc_piece_told : FnScope N_piece_told ["piece"] (defScope s_piece_told) := ⟨rfl, rfl, rfl, by decide +kernel, rfl, by decide +kernel, by decide +kernel⟩
theorem bn_piece_told (kV doc pm : Value) (an : Option Addr) (cdv ct : Value) : ∀ us : List Value, us.length = (["piece"] : List Str).length → bindArgs (PySem.W.fnOf "piece_told" "piece_told" (defArgs s_piece_told) (defBody s_piece_told) (defScope s_piece_told) .none kV doc pm an cdv ct) ⟨us, []⟩ = pure ((["piece"] : List Str).zip us) :=
  fun us hl => match us, hl with | [_], _ => rfl

abbrev s_program_told : Stmt := top 6
abbrev N_program_told : List Str := ["counters", "pieces", "told", "piece"]
theorem sc_program_told : FnScope N_program_told ["counters", "pieces"] (defScope s_program_told) := ⟨rfl, rfl, rfl, by decide +kernel, rfl, by decide +kernel, by decide +kernel⟩
theorem bn_program_told (kV doc pm : Value) (an : Option Addr) (cdv ct : Value) : ∀ us : List Value, us.length = (["counters", "pieces"] : List Str).length → bindArgs (PySem.W.fnOf "program_told" "program_told" (defArgs s_program_told) (defBody s_program_told) (defScope s_program_told) .none kV doc pm an cdv ct) ⟨us, []⟩ = pure ((["counters", "pieces"] : List Str).zip us) :=
  fun us hl => match us, hl with | [_, _], _ => rfl

abbrev s_Numbers_init : Stmt := inClass (top 7) 0
abbrev N_Numbers_init : List Str := ["self", "numbers", "counters"]
theorem sc_Numbers_init : FnScope N_Numbers_init ["self", "numbers", "counters"] (defScope s_Numbers_init) := ⟨rfl, rfl, rfl, by decide +kernel, rfl, by decide +kernel, by decide +kernel⟩
theorem bn_Numbers_init (kV doc pm : Value) (an : Option Addr) (cdv ct : Value) : ∀ us : List Value, us.length = (["self", "numbers", "counters"] : List Str).length → bindArgs (PySem.W.fnOf "__init__" "Numbers.__init__" (defArgs s_Numbers_init) (defBody s_Numbers_init) (defScope s_Numbers_init) .none kV doc pm an cdv ct) ⟨us, []⟩ = pure ((["self", "numbers", "counters"] : List Str).zip us) :=
  fun us hl => match us, hl with | [_, _, _], _ => rfl

abbrev s_Numbers_take : Stmt := inClass (top 7) 1
abbrev N_Numbers_take : List Str := ["self", "low", "high", "number"]
theorem sc_Numbers_take : FnScope N_Numbers_take ["self", "low", "high"] (defScope s_Numbers_take) := ⟨rfl, rfl, rfl, by decide +kernel, rfl, by decide +kernel, by decide +kernel⟩
theorem bn_Numbers_take (kV doc pm : Value) (an : Option Addr) (cdv ct : Value) : ∀ us : List Value, us.length = (["self", "low", "high"] : List Str).length → bindArgs (PySem.W.fnOf "take" "Numbers.take" (defArgs s_Numbers_take) (defBody s_Numbers_take) (defScope s_Numbers_take) .none kV doc pm an cdv ct) ⟨us, []⟩ = pure ((["self", "low", "high"] : List Str).zip us) :=
  fun us hl => match us, hl with | [_, _, _], _ => rfl

abbrev s_Numbers_given : Stmt := inClass (top 7) 2
abbrev N_Numbers_given : List Str := ["self", "counter"]
theorem sc_Numbers_given : FnScope N_Numbers_given ["self"] (defScope s_Numbers_given) := ⟨rfl, rfl, rfl, by decide +kernel, rfl, by decide +kernel, by decide +kernel⟩
theorem bn_Numbers_given (kV doc pm : Value) (an : Option Addr) (cdv ct : Value) : ∀ us : List Value, us.length = (["self"] : List Str).length → bindArgs (PySem.W.fnOf "given" "Numbers.given" (defArgs s_Numbers_given) (defBody s_Numbers_given) (defScope s_Numbers_given) .none kV doc pm an cdv ct) ⟨us, []⟩ = pure ((["self"] : List Str).zip us) :=
  fun us hl => match us, hl with | [_], _ => rfl

abbrev s_Numbers_move : Stmt := inClass (top 7) 3
abbrev N_Numbers_move : List Str := ["self", "counter"]
theorem sc_Numbers_move : FnScope N_Numbers_move ["self"] (defScope s_Numbers_move) := ⟨rfl, rfl, rfl, by decide +kernel, rfl, by decide +kernel, by decide +kernel⟩
theorem bn_Numbers_move (kV doc pm : Value) (an : Option Addr) (cdv ct : Value) : ∀ us : List Value, us.length = (["self"] : List Str).length → bindArgs (PySem.W.fnOf "move" "Numbers.move" (defArgs s_Numbers_move) (defBody s_Numbers_move) (defScope s_Numbers_move) .none kV doc pm an cdv ct) ⟨us, []⟩ = pure ((["self"] : List Str).zip us) :=
  fun us hl => match us, hl with | [_], _ => rfl

abbrev s_Numbers_test : Stmt := inClass (top 7) 4
abbrev N_Numbers_test : List Str := ["self", "kind", "counter", "other", "modulus"]
theorem sc_Numbers_test : FnScope N_Numbers_test ["self"] (defScope s_Numbers_test) := ⟨rfl, rfl, rfl, by decide +kernel, rfl, by decide +kernel, by decide +kernel⟩
theorem bn_Numbers_test (kV doc pm : Value) (an : Option Addr) (cdv ct : Value) : ∀ us : List Value, us.length = (["self"] : List Str).length → bindArgs (PySem.W.fnOf "test" "Numbers.test" (defArgs s_Numbers_test) (defBody s_Numbers_test) (defScope s_Numbers_test) .none kV doc pm an cdv ct) ⟨us, []⟩ = pure ((["self"] : List Str).zip us) :=
  fun us hl => match us, hl with | [_], _ => rfl

abbrev s_Numbers_branch : Stmt := inClass (top 7) 5
abbrev N_Numbers_branch : List Str := ["self", "many", "tests", "turn"]
theorem sc_Numbers_branch : FnScope N_Numbers_branch ["self"] (defScope s_Numbers_branch) := ⟨rfl, rfl, rfl, by decide +kernel, rfl, by decide +kernel, by decide +kernel⟩
theorem bn_Numbers_branch (kV doc pm : Value) (an : Option Addr) (cdv ct : Value) : ∀ us : List Value, us.length = (["self"] : List Str).length → bindArgs (PySem.W.fnOf "branch" "Numbers.branch" (defArgs s_Numbers_branch) (defBody s_Numbers_branch) (defScope s_Numbers_branch) .none kV doc pm an cdv ct) ⟨us, []⟩ = pure ((["self"] : List Str).zip us) :=
  fun us hl => match us, hl with | [_], _ => rfl

abbrev s_Numbers_piece : Stmt := inClass (top 7) 6
abbrev N_Numbers_piece : List Str := ["self", "many", "turn"]
theorem sc_Numbers_piece : FnScope N_Numbers_piece ["self"] (defScope s_Numbers_piece) := ⟨rfl, rfl, rfl, by decide +kernel, rfl, by decide +kernel, by decide +kernel⟩
theorem bn_Numbers_piece (kV doc pm : Value) (an : Option Addr) (cdv ct : Value) : ∀ us : List Value, us.length = (["self"] : List Str).length → bindArgs (PySem.W.fnOf "piece" "Numbers.piece" (defArgs s_Numbers_piece) (defBody s_Numbers_piece) (defScope s_Numbers_piece) .none kV doc pm an cdv ct) ⟨us, []⟩ = pure ((["self"] : List Str).zip us) :=
  fun us hl => match us, hl with | [_], _ => rfl

abbrev s_piece_of : Stmt := top 8
abbrev N_piece_of : List Str := ["numbers", "counters", "taker", "piece"]
theorem sc_piece_of : FnScope N_piece_of ["numbers", "counters"] (defScope s_piece_of) := ⟨rfl, rfl, rfl, by decide +kernel, rfl, by decide +kernel, by decide +kernel⟩
theorem bn_piece_of (kV doc pm : Value) (an : Option Addr) (cdv ct : Value) : ∀ us : List Value, us.length = (["numbers", "counters"] : List Str).length → bindArgs (PySem.W.fnOf "piece_of" "piece_of" (defArgs s_piece_of) (defBody s_piece_of) (defScope s_piece_of) .none kV doc pm an cdv ct) ⟨us, []⟩ = pure ((["numbers", "counters"] : List Str).zip us) :=
  fun us hl => match us, hl with | [_, _], _ => rfl

abbrev s_is_blank : Stmt := top 14
abbrev N_is_blank : List Str := ["byte"]
theorem sc_is_blank : FnScope N_is_blank ["byte"] (defScope s_is_blank) := ⟨rfl, rfl, rfl, by decide +kernel, rfl, by decide +kernel, by decide +kernel⟩
theorem bn_is_blank (kV doc pm : Value) (an : Option Addr) (cdv ct : Value) : ∀ us : List Value, us.length = (["byte"] : List Str).length → bindArgs (PySem.W.fnOf "is_blank" "is_blank" (defArgs s_is_blank) (defBody s_is_blank) (defScope s_is_blank) .none kV doc pm an cdv ct) ⟨us, []⟩ = pure ((["byte"] : List Str).zip us) :=
  fun us hl => match us, hl with | [_], _ => rfl

abbrev s_is_letter : Stmt := top 15
abbrev N_is_letter : List Str := ["byte"]
theorem sc_is_letter : FnScope N_is_letter ["byte"] (defScope s_is_letter) := ⟨rfl, rfl, rfl, by decide +kernel, rfl, by decide +kernel, by decide +kernel⟩
theorem bn_is_letter (kV doc pm : Value) (an : Option Addr) (cdv ct : Value) : ∀ us : List Value, us.length = (["byte"] : List Str).length → bindArgs (PySem.W.fnOf "is_letter" "is_letter" (defArgs s_is_letter) (defBody s_is_letter) (defScope s_is_letter) .none kV doc pm an cdv ct) ⟨us, []⟩ = pure ((["byte"] : List Str).zip us) :=
  fun us hl => match us, hl with | [_], _ => rfl

abbrev s_is_digit : Stmt := top 16
abbrev N_is_digit : List Str := ["byte"]
theorem sc_is_digit : FnScope N_is_digit ["byte"] (defScope s_is_digit) := ⟨rfl, rfl, rfl, by decide +kernel, rfl, by decide +kernel, by decide +kernel⟩
theorem bn_is_digit (kV doc pm : Value) (an : Option Addr) (cdv ct : Value) : ∀ us : List Value, us.length = (["byte"] : List Str).length → bindArgs (PySem.W.fnOf "is_digit" "is_digit" (defArgs s_is_digit) (defBody s_is_digit) (defScope s_is_digit) .none kV doc pm an cdv ct) ⟨us, []⟩ = pure ((["byte"] : List Str).zip us) :=
  fun us hl => match us, hl with | [_], _ => rfl

abbrev s_sign_of : Stmt := top 17
abbrev N_sign_of : List Str := ["byte"]
theorem sc_sign_of : FnScope N_sign_of ["byte"] (defScope s_sign_of) := ⟨rfl, rfl, rfl, by decide +kernel, rfl, by decide +kernel, by decide +kernel⟩
theorem bn_sign_of (kV doc pm : Value) (an : Option Addr) (cdv ct : Value) : ∀ us : List Value, us.length = (["byte"] : List Str).length → bindArgs (PySem.W.fnOf "sign_of" "sign_of" (defArgs s_sign_of) (defBody s_sign_of) (defScope s_sign_of) .none kV doc pm an cdv ct) ⟨us, []⟩ = pure ((["byte"] : List Str).zip us) :=
  fun us hl => match us, hl with | [_], _ => rfl

abbrev s_letters_end : Stmt := top 18
abbrev N_letters_end : List Str := ["text", "start", "place"]
theorem sc_letters_end : FnScope N_letters_end ["text", "start"] (defScope s_letters_end) := ⟨rfl, rfl, rfl, by decide +kernel, rfl, by decide +kernel, by decide +kernel⟩
theorem bn_letters_end (kV doc pm : Value) (an : Option Addr) (cdv ct : Value) : ∀ us : List Value, us.length = (["text", "start"] : List Str).length → bindArgs (PySem.W.fnOf "letters_end" "letters_end" (defArgs s_letters_end) (defBody s_letters_end) (defScope s_letters_end) .none kV doc pm an cdv ct) ⟨us, []⟩ = pure ((["text", "start"] : List Str).zip us) :=
  fun us hl => match us, hl with | [_, _], _ => rfl

abbrev s_digits_end : Stmt := top 19
abbrev N_digits_end : List Str := ["text", "start", "place"]
theorem sc_digits_end : FnScope N_digits_end ["text", "start"] (defScope s_digits_end) := ⟨rfl, rfl, rfl, by decide +kernel, rfl, by decide +kernel, by decide +kernel⟩
theorem bn_digits_end (kV doc pm : Value) (an : Option Addr) (cdv ct : Value) : ∀ us : List Value, us.length = (["text", "start"] : List Str).length → bindArgs (PySem.W.fnOf "digits_end" "digits_end" (defArgs s_digits_end) (defBody s_digits_end) (defScope s_digits_end) .none kV doc pm an cdv ct) ⟨us, []⟩ = pure ((["text", "start"] : List Str).zip us) :=
  fun us hl => match us, hl with | [_, _], _ => rfl

abbrev s_name_end : Stmt := top 20
abbrev N_name_end : List Str := ["text", "start", "end"]
theorem sc_name_end : FnScope N_name_end ["text", "start"] (defScope s_name_end) := ⟨rfl, rfl, rfl, by decide +kernel, rfl, by decide +kernel, by decide +kernel⟩
theorem bn_name_end (kV doc pm : Value) (an : Option Addr) (cdv ct : Value) : ∀ us : List Value, us.length = (["text", "start"] : List Str).length → bindArgs (PySem.W.fnOf "name_end" "name_end" (defArgs s_name_end) (defBody s_name_end) (defScope s_name_end) .none kV doc pm an cdv ct) ⟨us, []⟩ = pure ((["text", "start"] : List Str).zip us) :=
  fun us hl => match us, hl with | [_, _], _ => rfl

abbrev s_number_end : Stmt := top 21
abbrev N_number_end : List Str := ["text", "start", "end"]
theorem sc_number_end : FnScope N_number_end ["text", "start"] (defScope s_number_end) := ⟨rfl, rfl, rfl, by decide +kernel, rfl, by decide +kernel, by decide +kernel⟩
theorem bn_number_end (kV doc pm : Value) (an : Option Addr) (cdv ct : Value) : ∀ us : List Value, us.length = (["text", "start"] : List Str).length → bindArgs (PySem.W.fnOf "number_end" "number_end" (defArgs s_number_end) (defBody s_number_end) (defScope s_number_end) .none kV doc pm an cdv ct) ⟨us, []⟩ = pure ((["text", "start"] : List Str).zip us) :=
  fun us hl => match us, hl with | [_, _], _ => rfl

abbrev s_token_end : Stmt := top 22
abbrev N_token_end : List Str := ["text", "start"]
theorem sc_token_end : FnScope N_token_end ["text", "start"] (defScope s_token_end) := ⟨rfl, rfl, rfl, by decide +kernel, rfl, by decide +kernel, by decide +kernel⟩
theorem bn_token_end (kV doc pm : Value) (an : Option Addr) (cdv ct : Value) : ∀ us : List Value, us.length = (["text", "start"] : List Str).length → bindArgs (PySem.W.fnOf "token_end" "token_end" (defArgs s_token_end) (defBody s_token_end) (defScope s_token_end) .none kV doc pm an cdv ct) ⟨us, []⟩ = pure ((["text", "start"] : List Str).zip us) :=
  fun us hl => match us, hl with | [_, _], _ => rfl

abbrev s_word_between : Stmt := top 23
abbrev N_word_between : List Str := ["text", "start", "end", "word", "place"]
theorem sc_word_between : FnScope N_word_between ["text", "start", "end"] (defScope s_word_between) := ⟨rfl, rfl, rfl, by decide +kernel, rfl, by decide +kernel, by decide +kernel⟩
theorem bn_word_between (kV doc pm : Value) (an : Option Addr) (cdv ct : Value) : ∀ us : List Value, us.length = (["text", "start", "end"] : List Str).length → bindArgs (PySem.W.fnOf "word_between" "word_between" (defArgs s_word_between) (defBody s_word_between) (defScope s_word_between) .none kV doc pm an cdv ct) ⟨us, []⟩ = pure ((["text", "start", "end"] : List Str).zip us) :=
  fun us hl => match us, hl with | [_, _, _], _ => rfl

abbrev s_number_between : Stmt := top 24
abbrev N_number_between : List Str := ["text", "start", "end", "number", "place"]
theorem sc_number_between : FnScope N_number_between ["text", "start", "end"] (defScope s_number_between) := ⟨rfl, rfl, rfl, by decide +kernel, rfl, by decide +kernel, by decide +kernel⟩
theorem bn_number_between (kV doc pm : Value) (an : Option Addr) (cdv ct : Value) : ∀ us : List Value, us.length = (["text", "start", "end"] : List Str).length → bindArgs (PySem.W.fnOf "number_between" "number_between" (defArgs s_number_between) (defBody s_number_between) (defScope s_number_between) .none kV doc pm an cdv ct) ⟨us, []⟩ = pure ((["text", "start", "end"] : List Str).zip us) :=
  fun us hl => match us, hl with | [_, _, _], _ => rfl

abbrev s_token_between : Stmt := top 25
abbrev N_token_between : List Str := ["text", "start", "end"]
theorem sc_token_between : FnScope N_token_between ["text", "start", "end"] (defScope s_token_between) := ⟨rfl, rfl, rfl, by decide +kernel, rfl, by decide +kernel, by decide +kernel⟩
theorem bn_token_between (kV doc pm : Value) (an : Option Addr) (cdv ct : Value) : ∀ us : List Value, us.length = (["text", "start", "end"] : List Str).length → bindArgs (PySem.W.fnOf "token_between" "token_between" (defArgs s_token_between) (defBody s_token_between) (defScope s_token_between) .none kV doc pm an cdv ct) ⟨us, []⟩ = pure ((["text", "start", "end"] : List Str).zip us) :=
  fun us hl => match us, hl with | [_, _, _], _ => rfl

abbrev s_tokens_of : Stmt := top 26
abbrev N_tokens_of : List Str := ["text", "tokens", "end", "start"]
theorem sc_tokens_of : FnScope N_tokens_of ["text"] (defScope s_tokens_of) := ⟨rfl, rfl, rfl, by decide +kernel, rfl, by decide +kernel, by decide +kernel⟩
theorem bn_tokens_of (kV doc pm : Value) (an : Option Addr) (cdv ct : Value) : ∀ us : List Value, us.length = (["text"] : List Str).length → bindArgs (PySem.W.fnOf "tokens_of" "tokens_of" (defArgs s_tokens_of) (defBody s_tokens_of) (defScope s_tokens_of) .none kV doc pm an cdv ct) ⟨us, []⟩ = pure ((["text"] : List Str).zip us) :=
  fun us hl => match us, hl with | [_], _ => rfl

abbrev s_Reader_init : Stmt := inClass (top 35) 0
abbrev N_Reader_init : List Str := ["self", "tokens"]
theorem sc_Reader_init : FnScope N_Reader_init ["self", "tokens"] (defScope s_Reader_init) := ⟨rfl, rfl, rfl, by decide +kernel, rfl, by decide +kernel, by decide +kernel⟩
theorem bn_Reader_init (kV doc pm : Value) (an : Option Addr) (cdv ct : Value) : ∀ us : List Value, us.length = (["self", "tokens"] : List Str).length → bindArgs (PySem.W.fnOf "__init__" "Reader.__init__" (defArgs s_Reader_init) (defBody s_Reader_init) (defScope s_Reader_init) .none kV doc pm an cdv ct) ⟨us, []⟩ = pure ((["self", "tokens"] : List Str).zip us) :=
  fun us hl => match us, hl with | [_, _], _ => rfl

abbrev s_Reader_here : Stmt := inClass (top 35) 1
abbrev N_Reader_here : List Str := ["self"]
theorem sc_Reader_here : FnScope N_Reader_here ["self"] (defScope s_Reader_here) := ⟨rfl, rfl, rfl, by decide +kernel, rfl, by decide +kernel, by decide +kernel⟩
theorem bn_Reader_here (kV doc pm : Value) (an : Option Addr) (cdv ct : Value) : ∀ us : List Value, us.length = (["self"] : List Str).length → bindArgs (PySem.W.fnOf "here" "Reader.here" (defArgs s_Reader_here) (defBody s_Reader_here) (defScope s_Reader_here) .none kV doc pm an cdv ct) ⟨us, []⟩ = pure ((["self"] : List Str).zip us) :=
  fun us hl => match us, hl with | [_], _ => rfl

abbrev s_Reader_is_word : Stmt := inClass (top 35) 2
abbrev N_Reader_is_word : List Str := ["self", "word"]
theorem sc_Reader_is_word : FnScope N_Reader_is_word ["self", "word"] (defScope s_Reader_is_word) := ⟨rfl, rfl, rfl, by decide +kernel, rfl, by decide +kernel, by decide +kernel⟩
theorem bn_Reader_is_word (kV doc pm : Value) (an : Option Addr) (cdv ct : Value) : ∀ us : List Value, us.length = (["self", "word"] : List Str).length → bindArgs (PySem.W.fnOf "is_word" "Reader.is_word" (defArgs s_Reader_is_word) (defBody s_Reader_is_word) (defScope s_Reader_is_word) .none kV doc pm an cdv ct) ⟨us, []⟩ = pure ((["self", "word"] : List Str).zip us) :=
  fun us hl => match us, hl with | [_, _], _ => rfl

abbrev s_Reader_is_number : Stmt := inClass (top 35) 3
abbrev N_Reader_is_number : List Str := ["self"]
theorem sc_Reader_is_number : FnScope N_Reader_is_number ["self"] (defScope s_Reader_is_number) := ⟨rfl, rfl, rfl, by decide +kernel, rfl, by decide +kernel, by decide +kernel⟩
theorem bn_Reader_is_number (kV doc pm : Value) (an : Option Addr) (cdv ct : Value) : ∀ us : List Value, us.length = (["self"] : List Str).length → bindArgs (PySem.W.fnOf "is_number" "Reader.is_number" (defArgs s_Reader_is_number) (defBody s_Reader_is_number) (defScope s_Reader_is_number) .none kV doc pm an cdv ct) ⟨us, []⟩ = pure ((["self"] : List Str).zip us) :=
  fun us hl => match us, hl with | [_], _ => rfl

abbrev s_Reader_is_end : Stmt := inClass (top 35) 4
abbrev N_Reader_is_end : List Str := ["self"]
theorem sc_Reader_is_end : FnScope N_Reader_is_end ["self"] (defScope s_Reader_is_end) := ⟨rfl, rfl, rfl, by decide +kernel, rfl, by decide +kernel, by decide +kernel⟩
theorem bn_Reader_is_end (kV doc pm : Value) (an : Option Addr) (cdv ct : Value) : ∀ us : List Value, us.length = (["self"] : List Str).length → bindArgs (PySem.W.fnOf "is_end" "Reader.is_end" (defArgs s_Reader_is_end) (defBody s_Reader_is_end) (defScope s_Reader_is_end) .none kV doc pm an cdv ct) ⟨us, []⟩ = pure ((["self"] : List Str).zip us) :=
  fun us hl => match us, hl with | [_], _ => rfl

abbrev s_Reader_skip : Stmt := inClass (top 35) 5
abbrev N_Reader_skip : List Str := ["self", "word"]
theorem sc_Reader_skip : FnScope N_Reader_skip ["self", "word"] (defScope s_Reader_skip) := ⟨rfl, rfl, rfl, by decide +kernel, rfl, by decide +kernel, by decide +kernel⟩
theorem bn_Reader_skip (kV doc pm : Value) (an : Option Addr) (cdv ct : Value) : ∀ us : List Value, us.length = (["self", "word"] : List Str).length → bindArgs (PySem.W.fnOf "skip" "Reader.skip" (defArgs s_Reader_skip) (defBody s_Reader_skip) (defScope s_Reader_skip) .none kV doc pm an cdv ct) ⟨us, []⟩ = pure ((["self", "word"] : List Str).zip us) :=
  fun us hl => match us, hl with | [_, _], _ => rfl

abbrev s_Reader_number : Stmt := inClass (top 35) 6
abbrev N_Reader_number : List Str := ["self", "low", "high", "number"]
theorem sc_Reader_number : FnScope N_Reader_number ["self", "low", "high"] (defScope s_Reader_number) := ⟨rfl, rfl, rfl, by decide +kernel, rfl, by decide +kernel, by decide +kernel⟩
theorem bn_Reader_number (kV doc pm : Value) (an : Option Addr) (cdv ct : Value) : ∀ us : List Value, us.length = (["self", "low", "high"] : List Str).length → bindArgs (PySem.W.fnOf "number" "Reader.number" (defArgs s_Reader_number) (defBody s_Reader_number) (defScope s_Reader_number) .none kV doc pm an cdv ct) ⟨us, []⟩ = pure ((["self", "low", "high"] : List Str).zip us) :=
  fun us hl => match us, hl with | [_, _, _], _ => rfl

abbrev s_Reader_modulus : Stmt := inClass (top 35) 7
abbrev N_Reader_modulus : List Str := ["self", "place", "number"]
theorem sc_Reader_modulus : FnScope N_Reader_modulus ["self"] (defScope s_Reader_modulus) := ⟨rfl, rfl, rfl, by decide +kernel, rfl, by decide +kernel, by decide +kernel⟩
theorem bn_Reader_modulus (kV doc pm : Value) (an : Option Addr) (cdv ct : Value) : ∀ us : List Value, us.length = (["self"] : List Str).length → bindArgs (PySem.W.fnOf "modulus" "Reader.modulus" (defArgs s_Reader_modulus) (defBody s_Reader_modulus) (defScope s_Reader_modulus) .none kV doc pm an cdv ct) ⟨us, []⟩ = pure ((["self"] : List Str).zip us) :=
  fun us hl => match us, hl with | [_], _ => rfl

abbrev s_Reader_counter_here : Stmt := inClass (top 35) 8
abbrev N_Reader_counter_here : List Str := ["self", "counter"]
theorem sc_Reader_counter_here : FnScope N_Reader_counter_here ["self"] (defScope s_Reader_counter_here) := ⟨rfl, rfl, rfl, by decide +kernel, rfl, by decide +kernel, by decide +kernel⟩
theorem bn_Reader_counter_here (kV doc pm : Value) (an : Option Addr) (cdv ct : Value) : ∀ us : List Value, us.length = (["self"] : List Str).length → bindArgs (PySem.W.fnOf "counter_here" "Reader.counter_here" (defArgs s_Reader_counter_here) (defBody s_Reader_counter_here) (defScope s_Reader_counter_here) .none kV doc pm an cdv ct) ⟨us, []⟩ = pure ((["self"] : List Str).zip us) :=
  fun us hl => match us, hl with | [_], _ => rfl

abbrev s_Reader_counter : Stmt := inClass (top 35) 9
abbrev N_Reader_counter : List Str := ["self", "counter"]
theorem sc_Reader_counter : FnScope N_Reader_counter ["self"] (defScope s_Reader_counter) := ⟨rfl, rfl, rfl, by decide +kernel, rfl, by decide +kernel, by decide +kernel⟩
theorem bn_Reader_counter (kV doc pm : Value) (an : Option Addr) (cdv ct : Value) : ∀ us : List Value, us.length = (["self"] : List Str).length → bindArgs (PySem.W.fnOf "counter" "Reader.counter" (defArgs s_Reader_counter) (defBody s_Reader_counter) (defScope s_Reader_counter) .none kV doc pm an cdv ct) ⟨us, []⟩ = pure ((["self"] : List Str).zip us) :=
  fun us hl => match us, hl with | [_], _ => rfl

abbrev s_Reader_whole : Stmt := inClass (top 35) 10
abbrev N_Reader_whole : List Str := ["self", "most"]
theorem sc_Reader_whole : FnScope N_Reader_whole ["self", "most"] (defScope s_Reader_whole) := ⟨rfl, rfl, rfl, by decide +kernel, rfl, by decide +kernel, by decide +kernel⟩
theorem bn_Reader_whole (kV doc pm : Value) (an : Option Addr) (cdv ct : Value) : ∀ us : List Value, us.length = (["self", "most"] : List Str).length → bindArgs (PySem.W.fnOf "whole" "Reader.whole" (defArgs s_Reader_whole) (defBody s_Reader_whole) (defScope s_Reader_whole) .none kV doc pm an cdv ct) ⟨us, []⟩ = pure ((["self", "most"] : List Str).zip us) :=
  fun us hl => match us, hl with | [_, _], _ => rfl

abbrev s_Reader_bound : Stmt := inClass (top 35) 11
abbrev N_Reader_bound : List Str := ["self", "most", "counter"]
theorem sc_Reader_bound : FnScope N_Reader_bound ["self", "most"] (defScope s_Reader_bound) := ⟨rfl, rfl, rfl, by decide +kernel, rfl, by decide +kernel, by decide +kernel⟩
theorem bn_Reader_bound (kV doc pm : Value) (an : Option Addr) (cdv ct : Value) : ∀ us : List Value, us.length = (["self", "most"] : List Str).length → bindArgs (PySem.W.fnOf "bound" "Reader.bound" (defArgs s_Reader_bound) (defBody s_Reader_bound) (defScope s_Reader_bound) .none kV doc pm an cdv ct) ⟨us, []⟩ = pure ((["self", "most"] : List Str).zip us) :=
  fun us hl => match us, hl with | [_, _], _ => rfl

abbrev s_Reader_test : Stmt := inClass (top 35) 12
abbrev N_Reader_test : List Str := ["self", "counter", "kind", "other", "number", "modulus"]
theorem sc_Reader_test : FnScope N_Reader_test ["self"] (defScope s_Reader_test) := ⟨rfl, rfl, rfl, by decide +kernel, rfl, by decide +kernel, by decide +kernel⟩
theorem bn_Reader_test (kV doc pm : Value) (an : Option Addr) (cdv ct : Value) : ∀ us : List Value, us.length = (["self"] : List Str).length → bindArgs (PySem.W.fnOf "test" "Reader.test" (defArgs s_Reader_test) (defBody s_Reader_test) (defScope s_Reader_test) .none kV doc pm an cdv ct) ⟨us, []⟩ = pure ((["self"] : List Str).zip us) :=
  fun us hl => match us, hl with | [_], _ => rfl

abbrev s_Reader_tests : Stmt := inClass (top 35) 13
abbrev N_Reader_tests : List Str := ["self", "tests"]
theorem sc_Reader_tests : FnScope N_Reader_tests ["self"] (defScope s_Reader_tests) := ⟨rfl, rfl, rfl, by decide +kernel, rfl, by decide +kernel, by decide +kernel⟩
theorem bn_Reader_tests (kV doc pm : Value) (an : Option Addr) (cdv ct : Value) : ∀ us : List Value, us.length = (["self"] : List Str).length → bindArgs (PySem.W.fnOf "tests" "Reader.tests" (defArgs s_Reader_tests) (defBody s_Reader_tests) (defScope s_Reader_tests) .none kV doc pm an cdv ct) ⟨us, []⟩ = pure ((["self"] : List Str).zip us) :=
  fun us hl => match us, hl with | [_], _ => rfl

abbrev s_Reader_give : Stmt := inClass (top 35) 14
abbrev N_Reader_give : List Str := ["self", "move", "done", "place", "counter"]
theorem sc_Reader_give : FnScope N_Reader_give ["self", "move", "done"] (defScope s_Reader_give) := ⟨rfl, rfl, rfl, by decide +kernel, rfl, by decide +kernel, by decide +kernel⟩
theorem bn_Reader_give (kV doc pm : Value) (an : Option Addr) (cdv ct : Value) : ∀ us : List Value, us.length = (["self", "move", "done"] : List Str).length → bindArgs (PySem.W.fnOf "give" "Reader.give" (defArgs s_Reader_give) (defBody s_Reader_give) (defScope s_Reader_give) .none kV doc pm an cdv ct) ⟨us, []⟩ = pure ((["self", "move", "done"] : List Str).zip us) :=
  fun us hl => match us, hl with | [_, _, _], _ => rfl

abbrev s_Reader_move : Stmt := inClass (top 35) 15
abbrev N_Reader_move : List Str := ["self", "move", "done", "counter"]
theorem sc_Reader_move : FnScope N_Reader_move ["self"] (defScope s_Reader_move) := ⟨rfl, rfl, rfl, by decide +kernel, rfl, by decide +kernel, by decide +kernel⟩
theorem bn_Reader_move (kV doc pm : Value) (an : Option Addr) (cdv ct : Value) : ∀ us : List Value, us.length = (["self"] : List Str).length → bindArgs (PySem.W.fnOf "move" "Reader.move" (defArgs s_Reader_move) (defBody s_Reader_move) (defScope s_Reader_move) .none kV doc pm an cdv ct) ⟨us, []⟩ = pure ((["self"] : List Str).zip us) :=
  fun us hl => match us, hl with | [_], _ => rfl

abbrev s_Reader_branch : Stmt := inClass (top 35) 16
abbrev N_Reader_branch : List Str := ["self", "tests", "move"]
theorem sc_Reader_branch : FnScope N_Reader_branch ["self"] (defScope s_Reader_branch) := ⟨rfl, rfl, rfl, by decide +kernel, rfl, by decide +kernel, by decide +kernel⟩
theorem bn_Reader_branch (kV doc pm : Value) (an : Option Addr) (cdv ct : Value) : ∀ us : List Value, us.length = (["self"] : List Str).length → bindArgs (PySem.W.fnOf "branch" "Reader.branch" (defArgs s_Reader_branch) (defBody s_Reader_branch) (defScope s_Reader_branch) .none kV doc pm an cdv ct) ⟨us, []⟩ = pure ((["self"] : List Str).zip us) :=
  fun us hl => match us, hl with | [_], _ => rfl

abbrev s_Reader_loop : Stmt := inClass (top 35) 17
abbrev N_Reader_loop : List Str := ["self", "branches"]
theorem sc_Reader_loop : FnScope N_Reader_loop ["self"] (defScope s_Reader_loop) := ⟨rfl, rfl, rfl, by decide +kernel, rfl, by decide +kernel, by decide +kernel⟩
theorem bn_Reader_loop (kV doc pm : Value) (an : Option Addr) (cdv ct : Value) : ∀ us : List Value, us.length = (["self"] : List Str).length → bindArgs (PySem.W.fnOf "loop" "Reader.loop" (defArgs s_Reader_loop) (defBody s_Reader_loop) (defScope s_Reader_loop) .none kV doc pm an cdv ct) ⟨us, []⟩ = pure ((["self"] : List Str).zip us) :=
  fun us hl => match us, hl with | [_], _ => rfl

abbrev s_Reader_piece : Stmt := inClass (top 35) 18
abbrev N_Reader_piece : List Str := ["self", "move"]
theorem sc_Reader_piece : FnScope N_Reader_piece ["self"] (defScope s_Reader_piece) := ⟨rfl, rfl, rfl, by decide +kernel, rfl, by decide +kernel, by decide +kernel⟩
theorem bn_Reader_piece (kV doc pm : Value) (an : Option Addr) (cdv ct : Value) : ∀ us : List Value, us.length = (["self"] : List Str).length → bindArgs (PySem.W.fnOf "piece" "Reader.piece" (defArgs s_Reader_piece) (defBody s_Reader_piece) (defScope s_Reader_piece) .none kV doc pm an cdv ct) ⟨us, []⟩ = pure ((["self"] : List Str).zip us) :=
  fun us hl => match us, hl with | [_], _ => rfl

abbrev s_Reader_program : Stmt := inClass (top 35) 19
abbrev N_Reader_program : List Str := ["self", "pieces"]
theorem sc_Reader_program : FnScope N_Reader_program ["self"] (defScope s_Reader_program) := ⟨rfl, rfl, rfl, by decide +kernel, rfl, by decide +kernel, by decide +kernel⟩
theorem bn_Reader_program (kV doc pm : Value) (an : Option Addr) (cdv ct : Value) : ∀ us : List Value, us.length = (["self"] : List Str).length → bindArgs (PySem.W.fnOf "program" "Reader.program" (defArgs s_Reader_program) (defBody s_Reader_program) (defScope s_Reader_program) .none kV doc pm an cdv ct) ⟨us, []⟩ = pure ((["self"] : List Str).zip us) :=
  fun us hl => match us, hl with | [_], _ => rfl

abbrev s_holds : Stmt := top 38
abbrev N_holds : List Str := ["test", "values", "kind", "counter", "first", "second"]
theorem sc_holds : FnScope N_holds ["test", "values"] (defScope s_holds) := ⟨rfl, rfl, rfl, by decide +kernel, rfl, by decide +kernel, by decide +kernel⟩
theorem bn_holds (kV doc pm : Value) (an : Option Addr) (cdv ct : Value) : ∀ us : List Value, us.length = (["test", "values"] : List Str).length → bindArgs (PySem.W.fnOf "holds" "holds" (defArgs s_holds) (defBody s_holds) (defScope s_holds) .none kV doc pm an cdv ct) ⟨us, []⟩ = pure ((["test", "values"] : List Str).zip us) :=
  fun us hl => match us, hl with | [_, _], _ => rfl

abbrev s_all_hold : Stmt := top 39
abbrev N_all_hold : List Str := ["tests", "values", "test"]
theorem sc_all_hold : FnScope N_all_hold ["tests", "values"] (defScope s_all_hold) := ⟨rfl, rfl, rfl, by decide +kernel, rfl, by decide +kernel, by decide +kernel⟩
theorem bn_all_hold (kV doc pm : Value) (an : Option Addr) (cdv ct : Value) : ∀ us : List Value, us.length = (["tests", "values"] : List Str).length → bindArgs (PySem.W.fnOf "all_hold" "all_hold" (defArgs s_all_hold) (defBody s_all_hold) (defScope s_all_hold) .none kV doc pm an cdv ct) ⟨us, []⟩ = pure ((["tests", "values"] : List Str).zip us) :=
  fun us hl => match us, hl with | [_, _], _ => rfl

abbrev s_chosen : Stmt := top 40
abbrev N_chosen : List Str := ["branches", "values", "branch"]
theorem sc_chosen : FnScope N_chosen ["branches", "values"] (defScope s_chosen) := ⟨rfl, rfl, rfl, by decide +kernel, rfl, by decide +kernel, by decide +kernel⟩
theorem bn_chosen (kV doc pm : Value) (an : Option Addr) (cdv ct : Value) : ∀ us : List Value, us.length = (["branches", "values"] : List Str).length → bindArgs (PySem.W.fnOf "chosen" "chosen" (defArgs s_chosen) (defBody s_chosen) (defScope s_chosen) .none kV doc pm an cdv ct) ⟨us, []⟩ = pure ((["branches", "values"] : List Str).zip us) :=
  fun us hl => match us, hl with | [_, _], _ => rfl

abbrev s_value_given : Stmt := top 41
abbrev N_value_given : List Str := ["bound", "values", "kind", "counter", "number"]
theorem sc_value_given : FnScope N_value_given ["bound", "values"] (defScope s_value_given) := ⟨rfl, rfl, rfl, by decide +kernel, rfl, by decide +kernel, by decide +kernel⟩
theorem bn_value_given (kV doc pm : Value) (an : Option Addr) (cdv ct : Value) : ∀ us : List Value, us.length = (["bound", "values"] : List Str).length → bindArgs (PySem.W.fnOf "value_given" "value_given" (defArgs s_value_given) (defBody s_value_given) (defScope s_value_given) .none kV doc pm an cdv ct) ⟨us, []⟩ = pure ((["bound", "values"] : List Str).zip us) :=
  fun us hl => match us, hl with | [_, _], _ => rfl

abbrev s_moved : Stmt := top 42
abbrev N_moved : List Str := ["move", "values", "bound"]
theorem sc_moved : FnScope N_moved ["move", "values"] (defScope s_moved) := ⟨rfl, rfl, rfl, by decide +kernel, rfl, by decide +kernel, by decide +kernel⟩
theorem bn_moved (kV doc pm : Value) (an : Option Addr) (cdv ct : Value) : ∀ us : List Value, us.length = (["move", "values"] : List Str).length → bindArgs (PySem.W.fnOf "moved" "moved" (defArgs s_moved) (defBody s_moved) (defScope s_moved) .none kV doc pm an cdv ct) ⟨us, []⟩ = pure ((["move", "values"] : List Str).zip us) :=
  fun us hl => match us, hl with | [_, _], _ => rfl

abbrev s_is_beyond : Stmt := top 43
abbrev N_is_beyond : List Str := ["values", "value"]
theorem sc_is_beyond : FnScope N_is_beyond ["values"] (defScope s_is_beyond) := ⟨rfl, rfl, rfl, by decide +kernel, rfl, by decide +kernel, by decide +kernel⟩
theorem bn_is_beyond (kV doc pm : Value) (an : Option Addr) (cdv ct : Value) : ∀ us : List Value, us.length = (["values"] : List Str).length → bindArgs (PySem.W.fnOf "is_beyond" "is_beyond" (defArgs s_is_beyond) (defBody s_is_beyond) (defScope s_is_beyond) .none kV doc pm an cdv ct) ⟨us, []⟩ = pure ((["values"] : List Str).zip us) :=
  fun us hl => match us, hl with | [_], _ => rfl

abbrev s_move_run : Stmt := top 44
abbrev N_move_run : List Str := ["at", "move", "values", "most", "rounds", "now"]
theorem sc_move_run : FnScope N_move_run ["at", "move", "values", "most", "rounds"] (defScope s_move_run) := ⟨rfl, rfl, rfl, by decide +kernel, rfl, by decide +kernel, by decide +kernel⟩
theorem bn_move_run (kV doc pm : Value) (an : Option Addr) (cdv ct : Value) : ∀ us : List Value, us.length = (["at", "move", "values", "most", "rounds"] : List Str).length → bindArgs (PySem.W.fnOf "move_run" "move_run" (defArgs s_move_run) (defBody s_move_run) (defScope s_move_run) .none kV doc pm an cdv ct) ⟨us, []⟩ = pure ((["at", "move", "values", "most", "rounds"] : List Str).zip us) :=
  fun us hl => match us, hl with | [_, _, _, _, _], _ => rfl

abbrev s_loop_run : Stmt := top 45
abbrev N_loop_run : List Str := ["at", "branches", "values", "most", "rounds", "now", "branch"]
theorem sc_loop_run : FnScope N_loop_run ["at", "branches", "values", "most", "rounds"] (defScope s_loop_run) := ⟨rfl, rfl, rfl, by decide +kernel, rfl, by decide +kernel, by decide +kernel⟩
theorem bn_loop_run (kV doc pm : Value) (an : Option Addr) (cdv ct : Value) : ∀ us : List Value, us.length = (["at", "branches", "values", "most", "rounds"] : List Str).length → bindArgs (PySem.W.fnOf "loop_run" "loop_run" (defArgs s_loop_run) (defBody s_loop_run) (defScope s_loop_run) .none kV doc pm an cdv ct) ⟨us, []⟩ = pure ((["at", "branches", "values", "most", "rounds"] : List Str).zip us) :=
  fun us hl => match us, hl with | [_, _, _, _, _], _ => rfl

abbrev s_piece_run : Stmt := top 46
abbrev N_piece_run : List Str := ["at", "piece", "values", "most", "rounds", "kind", "branches"]
theorem sc_piece_run : FnScope N_piece_run ["at", "piece", "values", "most", "rounds"] (defScope s_piece_run) := ⟨rfl, rfl, rfl, by decide +kernel, rfl, by decide +kernel, by decide +kernel⟩
theorem bn_piece_run (kV doc pm : Value) (an : Option Addr) (cdv ct : Value) : ∀ us : List Value, us.length = (["at", "piece", "values", "most", "rounds"] : List Str).length → bindArgs (PySem.W.fnOf "piece_run" "piece_run" (defArgs s_piece_run) (defBody s_piece_run) (defScope s_piece_run) .none kV doc pm an cdv ct) ⟨us, []⟩ = pure ((["at", "piece", "values", "most", "rounds"] : List Str).zip us) :=
  fun us hl => match us, hl with | [_, _, _, _, _], _ => rfl

abbrev s_run : Stmt := top 47
abbrev N_run : List Str := ["pieces", "values", "most", "now", "rounds", "at", "how"]
theorem sc_run : FnScope N_run ["pieces", "values", "most"] (defScope s_run) := ⟨rfl, rfl, rfl, by decide +kernel, rfl, by decide +kernel, by decide +kernel⟩
theorem bn_run (kV doc pm : Value) (an : Option Addr) (cdv ct : Value) : ∀ us : List Value, us.length = (["pieces", "values", "most"] : List Str).length → bindArgs (PySem.W.fnOf "run" "run" (defArgs s_run) (defBody s_run) (defScope s_run) .none kV doc pm an cdv ct) ⟨us, []⟩ = pure ((["pieces", "values", "most"] : List Str).zip us) :=
  fun us hl => match us, hl with | [_, _, _], _ => rfl

abbrev s_whole_shown : Stmt := top 50
abbrev N_whole_shown : List Str := ["number"]
theorem sc_whole_shown : FnScope N_whole_shown ["number"] (defScope s_whole_shown) := ⟨rfl, rfl, rfl, by decide +kernel, rfl, by decide +kernel, by decide +kernel⟩
theorem bn_whole_shown (kV doc pm : Value) (an : Option Addr) (cdv ct : Value) : ∀ us : List Value, us.length = (["number"] : List Str).length → bindArgs (PySem.W.fnOf "whole_shown" "whole_shown" (defArgs s_whole_shown) (defBody s_whole_shown) (defScope s_whole_shown) .none kV doc pm an cdv ct) ⟨us, []⟩ = pure ((["number"] : List Str).zip us) :=
  fun us hl => match us, hl with | [_], _ => rfl

abbrev s_sum_shown : Stmt := top 51
abbrev N_sum_shown : List Str := ["counter", "number"]
theorem sc_sum_shown : FnScope N_sum_shown ["counter", "number"] (defScope s_sum_shown) := ⟨rfl, rfl, rfl, by decide +kernel, rfl, by decide +kernel, by decide +kernel⟩
theorem bn_sum_shown (kV doc pm : Value) (an : Option Addr) (cdv ct : Value) : ∀ us : List Value, us.length = (["counter", "number"] : List Str).length → bindArgs (PySem.W.fnOf "sum_shown" "sum_shown" (defArgs s_sum_shown) (defBody s_sum_shown) (defScope s_sum_shown) .none kV doc pm an cdv ct) ⟨us, []⟩ = pure ((["counter", "number"] : List Str).zip us) :=
  fun us hl => match us, hl with | [_, _], _ => rfl

abbrev s_bound_shown : Stmt := top 52
abbrev N_bound_shown : List Str := ["bound", "kind", "counter", "number"]
theorem sc_bound_shown : FnScope N_bound_shown ["bound"] (defScope s_bound_shown) := ⟨rfl, rfl, rfl, by decide +kernel, rfl, by decide +kernel, by decide +kernel⟩
theorem bn_bound_shown (kV doc pm : Value) (an : Option Addr) (cdv ct : Value) : ∀ us : List Value, us.length = (["bound"] : List Str).length → bindArgs (PySem.W.fnOf "bound_shown" "bound_shown" (defArgs s_bound_shown) (defBody s_bound_shown) (defScope s_bound_shown) .none kV doc pm an cdv ct) ⟨us, []⟩ = pure ((["bound"] : List Str).zip us) :=
  fun us hl => match us, hl with | [_], _ => rfl

abbrev s_move_shown : Stmt := top 53
abbrev N_move_shown : List Str := ["move", "parts", "counter", "bound"]
theorem sc_move_shown : FnScope N_move_shown ["move"] (defScope s_move_shown) := ⟨rfl, rfl, rfl, by decide +kernel, rfl, by decide +kernel, by decide +kernel⟩
theorem bn_move_shown (kV doc pm : Value) (an : Option Addr) (cdv ct : Value) : ∀ us : List Value, us.length = (["move"] : List Str).length → bindArgs (PySem.W.fnOf "move_shown" "move_shown" (defArgs s_move_shown) (defBody s_move_shown) (defScope s_move_shown) .none kV doc pm an cdv ct) ⟨us, []⟩ = pure ((["move"] : List Str).zip us) :=
  fun us hl => match us, hl with | [_], _ => rfl

abbrev s_test_shown : Stmt := top 54
abbrev N_test_shown : List Str := ["test", "kind", "counter", "first", "second"]
theorem sc_test_shown : FnScope N_test_shown ["test"] (defScope s_test_shown) := ⟨rfl, rfl, rfl, by decide +kernel, rfl, by decide +kernel, by decide +kernel⟩
theorem bn_test_shown (kV doc pm : Value) (an : Option Addr) (cdv ct : Value) : ∀ us : List Value, us.length = (["test"] : List Str).length → bindArgs (PySem.W.fnOf "test_shown" "test_shown" (defArgs s_test_shown) (defBody s_test_shown) (defScope s_test_shown) .none kV doc pm an cdv ct) ⟨us, []⟩ = pure ((["test"] : List Str).zip us) :=
  fun us hl => match us, hl with | [_], _ => rfl

abbrev s_tests_shown : Stmt := top 55
abbrev N_tests_shown : List Str := ["tests", "test"]
theorem sc_tests_shown : FnScope N_tests_shown ["tests"] (defScope s_tests_shown) := ⟨rfl, rfl, rfl, by decide +kernel, rfl, by decide +kernel, by decide +kernel⟩
theorem bn_tests_shown (kV doc pm : Value) (an : Option Addr) (cdv ct : Value) : ∀ us : List Value, us.length = (["tests"] : List Str).length → bindArgs (PySem.W.fnOf "tests_shown" "tests_shown" (defArgs s_tests_shown) (defBody s_tests_shown) (defScope s_tests_shown) .none kV doc pm an cdv ct) ⟨us, []⟩ = pure ((["tests"] : List Str).zip us) :=
  fun us hl => match us, hl with | [_], _ => rfl

abbrev s_piece_lines : Stmt := top 56
abbrev N_piece_lines : List Str := ["piece", "kind", "branches", "lines", "tests", "move"]
theorem sc_piece_lines : FnScope N_piece_lines ["piece"] (defScope s_piece_lines) := ⟨rfl, rfl, rfl, by decide +kernel, rfl, by decide +kernel, by decide +kernel⟩
theorem bn_piece_lines (kV doc pm : Value) (an : Option Addr) (cdv ct : Value) : ∀ us : List Value, us.length = (["piece"] : List Str).length → bindArgs (PySem.W.fnOf "piece_lines" "piece_lines" (defArgs s_piece_lines) (defBody s_piece_lines) (defScope s_piece_lines) .none kV doc pm an cdv ct) ⟨us, []⟩ = pure ((["piece"] : List Str).zip us) :=
  fun us hl => match us, hl with | [_], _ => rfl

abbrev s_program_shown : Stmt := top 57
abbrev N_program_shown : List Str := ["counters", "pieces", "lines", "piece", "sign"]
theorem sc_program_shown : FnScope N_program_shown ["counters", "pieces"] (defScope s_program_shown) := ⟨rfl, rfl, rfl, by decide +kernel, rfl, by decide +kernel, by decide +kernel⟩
theorem bn_program_shown (kV doc pm : Value) (an : Option Addr) (cdv ct : Value) : ∀ us : List Value, us.length = (["counters", "pieces"] : List Str).length → bindArgs (PySem.W.fnOf "program_shown" "program_shown" (defArgs s_program_shown) (defBody s_program_shown) (defScope s_program_shown) .none kV doc pm an cdv ct) ⟨us, []⟩ = pure ((["counters", "pieces"] : List Str).zip us) :=
  fun us hl => match us, hl with | [_, _], _ => rfl

abbrev s_Box_init : Stmt := inClass (top 62) 0
abbrev N_Box_init : List Str := ["self"]
theorem sc_Box_init : FnScope N_Box_init ["self"] (defScope s_Box_init) := ⟨rfl, rfl, rfl, by decide +kernel, rfl, by decide +kernel, by decide +kernel⟩
theorem bn_Box_init (kV doc pm : Value) (an : Option Addr) (cdv ct : Value) : ∀ us : List Value, us.length = (["self"] : List Str).length → bindArgs (PySem.W.fnOf "__init__" "Box.__init__" (defArgs s_Box_init) (defBody s_Box_init) (defScope s_Box_init) .none kV doc pm an cdv ct) ⟨us, []⟩ = pure ((["self"] : List Str).zip us) :=
  fun us hl => match us, hl with | [_], _ => rfl

abbrev s_may_begin : Stmt := top 63
abbrev N_may_begin : List Str := ["counters", "values", "value"]
theorem sc_may_begin : FnScope N_may_begin ["counters", "values"] (defScope s_may_begin) := ⟨rfl, rfl, rfl, by decide +kernel, rfl, by decide +kernel, by decide +kernel⟩
theorem bn_may_begin (kV doc pm : Value) (an : Option Addr) (cdv ct : Value) : ∀ us : List Value, us.length = (["counters", "values"] : List Str).length → bindArgs (PySem.W.fnOf "may_begin" "may_begin" (defArgs s_may_begin) (defBody s_may_begin) (defScope s_may_begin) .none kV doc pm an cdv ct) ⟨us, []⟩ = pure ((["counters", "values"] : List Str).zip us) :=
  fun us hl => match us, hl with | [_, _], _ => rfl

abbrev s_load : Stmt := top 64
abbrev N_load : List Str := ["box", "text", "reader", "pieces", "fault"]
theorem sc_load : FnScope N_load ["box", "text"] (defScope s_load) := ⟨rfl, rfl, rfl, by decide +kernel, rfl, by decide +kernel, by decide +kernel⟩
theorem bn_load (kV doc pm : Value) (an : Option Addr) (cdv ct : Value) : ∀ us : List Value, us.length = (["box", "text"] : List Str).length → bindArgs (PySem.W.fnOf "load" "load" (defArgs s_load) (defBody s_load) (defScope s_load) .none kV doc pm an cdv ct) ⟨us, []⟩ = pure ((["box", "text"] : List Str).zip us) :=
  fun us hl => match us, hl with | [_, _], _ => rfl

abbrev s_show : Stmt := top 65
abbrev N_show : List Str := ["box", "shown"]
theorem sc_show : FnScope N_show ["box"] (defScope s_show) := ⟨rfl, rfl, rfl, by decide +kernel, rfl, by decide +kernel, by decide +kernel⟩
theorem bn_show (kV doc pm : Value) (an : Option Addr) (cdv ct : Value) : ∀ us : List Value, us.length = (["box"] : List Str).length → bindArgs (PySem.W.fnOf "show" "show" (defArgs s_show) (defBody s_show) (defScope s_show) .none kV doc pm an cdv ct) ⟨us, []⟩ = pure ((["box"] : List Str).zip us) :=
  fun us hl => match us, hl with | [_], _ => rfl

abbrev s_tell : Stmt := top 66
abbrev N_tell : List Str := ["box"]
theorem sc_tell : FnScope N_tell ["box"] (defScope s_tell) := ⟨rfl, rfl, rfl, by decide +kernel, rfl, by decide +kernel, by decide +kernel⟩
theorem bn_tell (kV doc pm : Value) (an : Option Addr) (cdv ct : Value) : ∀ us : List Value, us.length = (["box"] : List Str).length → bindArgs (PySem.W.fnOf "tell" "tell" (defArgs s_tell) (defBody s_tell) (defScope s_tell) .none kV doc pm an cdv ct) ⟨us, []⟩ = pure ((["box"] : List Str).zip us) :=
  fun us hl => match us, hl with | [_], _ => rfl

abbrev s_tell_piece : Stmt := top 67
abbrev N_tell_piece : List Str := ["box", "at"]
theorem sc_tell_piece : FnScope N_tell_piece ["box", "at"] (defScope s_tell_piece) := ⟨rfl, rfl, rfl, by decide +kernel, rfl, by decide +kernel, by decide +kernel⟩
theorem bn_tell_piece (kV doc pm : Value) (an : Option Addr) (cdv ct : Value) : ∀ us : List Value, us.length = (["box", "at"] : List Str).length → bindArgs (PySem.W.fnOf "tell_piece" "tell_piece" (defArgs s_tell_piece) (defBody s_tell_piece) (defScope s_tell_piece) .none kV doc pm an cdv ct) ⟨us, []⟩ = pure ((["box", "at"] : List Str).zip us) :=
  fun us hl => match us, hl with | [_, _], _ => rfl

abbrev s_choose : Stmt := top 68
abbrev N_choose : List Str := ["box", "at", "values", "kind", "branches"]
theorem sc_choose : FnScope N_choose ["box", "at", "values"] (defScope s_choose) := ⟨rfl, rfl, rfl, by decide +kernel, rfl, by decide +kernel, by decide +kernel⟩
theorem bn_choose (kV doc pm : Value) (an : Option Addr) (cdv ct : Value) : ∀ us : List Value, us.length = (["box", "at", "values"] : List Str).length → bindArgs (PySem.W.fnOf "choose" "choose" (defArgs s_choose) (defBody s_choose) (defScope s_choose) .none kV doc pm an cdv ct) ⟨us, []⟩ = pure ((["box", "at", "values"] : List Str).zip us) :=
  fun us hl => match us, hl with | [_, _, _], _ => rfl

abbrev s_try_tests : Stmt := top 69
abbrev N_try_tests : List Str := ["box", "at", "branch", "values", "kind", "branches", "tests", "test"]
theorem sc_try_tests : FnScope N_try_tests ["box", "at", "branch", "values"] (defScope s_try_tests) := ⟨rfl, rfl, rfl, by decide +kernel, rfl, by decide +kernel, by decide +kernel⟩
theorem bn_try_tests (kV doc pm : Value) (an : Option Addr) (cdv ct : Value) : ∀ us : List Value, us.length = (["box", "at", "branch", "values"] : List Str).length → bindArgs (PySem.W.fnOf "try_tests" "try_tests" (defArgs s_try_tests) (defBody s_try_tests) (defScope s_try_tests) .none kV doc pm an cdv ct) ⟨us, []⟩ = pure ((["box", "at", "branch", "values"] : List Str).zip us) :=
  fun us hl => match us, hl with | [_, _, _, _], _ => rfl

abbrev s_add_piece : Stmt := top 70
abbrev N_add_piece : List Str := ["box", "numbers", "piece"]
theorem sc_add_piece : FnScope N_add_piece ["box", "numbers"] (defScope s_add_piece) := ⟨rfl, rfl, rfl, by decide +kernel, rfl, by decide +kernel, by decide +kernel⟩
theorem bn_add_piece (kV doc pm : Value) (an : Option Addr) (cdv ct : Value) : ∀ us : List Value, us.length = (["box", "numbers"] : List Str).length → bindArgs (PySem.W.fnOf "add_piece" "add_piece" (defArgs s_add_piece) (defBody s_add_piece) (defScope s_add_piece) .none kV doc pm an cdv ct) ⟨us, []⟩ = pure ((["box", "numbers"] : List Str).zip us) :=
  fun us hl => match us, hl with | [_, _], _ => rfl

abbrev s_drop_piece : Stmt := top 71
abbrev N_drop_piece : List Str := ["box", "at"]
theorem sc_drop_piece : FnScope N_drop_piece ["box", "at"] (defScope s_drop_piece) := ⟨rfl, rfl, rfl, by decide +kernel, rfl, by decide +kernel, by decide +kernel⟩
theorem bn_drop_piece (kV doc pm : Value) (an : Option Addr) (cdv ct : Value) : ∀ us : List Value, us.length = (["box", "at"] : List Str).length → bindArgs (PySem.W.fnOf "drop_piece" "drop_piece" (defArgs s_drop_piece) (defBody s_drop_piece) (defScope s_drop_piece) .none kV doc pm an cdv ct) ⟨us, []⟩ = pure ((["box", "at"] : List Str).zip us) :=
  fun us hl => match us, hl with | [_, _], _ => rfl

abbrev s_run_told : Stmt := top 76
abbrev N_run_told : List Str := ["box", "values", "how", "last", "rounds"]
theorem sc_run_told : FnScope N_run_told ["box", "values"] (defScope s_run_told) := ⟨rfl, rfl, rfl, by decide +kernel, rfl, by decide +kernel, by decide +kernel⟩
theorem bn_run_told (kV doc pm : Value) (an : Option Addr) (cdv ct : Value) : ∀ us : List Value, us.length = (["box", "values"] : List Str).length → bindArgs (PySem.W.fnOf "run_told" "run_told" (defArgs s_run_told) (defBody s_run_told) (defScope s_run_told) .none kV doc pm an cdv ct) ⟨us, []⟩ = pure ((["box", "values"] : List Str).zip us) :=
  fun us hl => match us, hl with | [_, _], _ => rfl

abbrev s_trace : Stmt := top 77
abbrev N_trace : List Str := ["box", "values", "how", "last", "rounds", "told", "piece", "branch"]
theorem sc_trace : FnScope N_trace ["box", "values"] (defScope s_trace) := ⟨rfl, rfl, rfl, by decide +kernel, rfl, by decide +kernel, by decide +kernel⟩
theorem bn_trace (kV doc pm : Value) (an : Option Addr) (cdv ct : Value) : ∀ us : List Value, us.length = (["box", "values"] : List Str).length → bindArgs (PySem.W.fnOf "trace" "trace" (defArgs s_trace) (defBody s_trace) (defScope s_trace) .none kV doc pm an cdv ct) ⟨us, []⟩ = pure ((["box", "values"] : List Str).zip us) :=
  fun us hl => match us, hl with | [_, _], _ => rfl

abbrev s_after : Stmt := top 78
abbrev N_after : List Str := ["box", "many", "values", "how", "last", "rounds"]
theorem sc_after : FnScope N_after ["box", "many", "values"] (defScope s_after) := ⟨rfl, rfl, rfl, by decide +kernel, rfl, by decide +kernel, by decide +kernel⟩
theorem bn_after (kV doc pm : Value) (an : Option Addr) (cdv ct : Value) : ∀ us : List Value, us.length = (["box", "many", "values"] : List Str).length → bindArgs (PySem.W.fnOf "after" "after" (defArgs s_after) (defBody s_after) (defScope s_after) .none kV doc pm an cdv ct) ⟨us, []⟩ = pure ((["box", "many", "values"] : List Str).zip us) :=
  fun us hl => match us, hl with | [_, _, _], _ => rfl

abbrev s_counts : Stmt := top 79
abbrev N_counts : List Str := ["box", "values", "how", "last", "rounds", "own", "piece", "branch"]
theorem sc_counts : FnScope N_counts ["box", "values"] (defScope s_counts) := ⟨rfl, rfl, rfl, by decide +kernel, rfl, by decide +kernel, by decide +kernel⟩
theorem bn_counts (kV doc pm : Value) (an : Option Addr) (cdv ct : Value) : ∀ us : List Value, us.length = (["box", "values"] : List Str).length → bindArgs (PySem.W.fnOf "counts" "counts" (defArgs s_counts) (defBody s_counts) (defScope s_counts) .none kV doc pm an cdv ct) ⟨us, []⟩ = pure ((["box", "values"] : List Str).zip us) :=
  fun us hl => match us, hl with | [_, _], _ => rfl

abbrev s_many_values : Stmt := top 80
abbrev N_many_values : List Str := ["counters", "low", "high", "many", "counter"]
theorem sc_many_values : FnScope N_many_values ["counters", "low", "high"] (defScope s_many_values) := ⟨rfl, rfl, rfl, by decide +kernel, rfl, by decide +kernel, by decide +kernel⟩
theorem bn_many_values (kV doc pm : Value) (an : Option Addr) (cdv ct : Value) : ∀ us : List Value, us.length = (["counters", "low", "high"] : List Str).length → bindArgs (PySem.W.fnOf "many_values" "many_values" (defArgs s_many_values) (defBody s_many_values) (defScope s_many_values) .none kV doc pm an cdv ct) ⟨us, []⟩ = pure ((["counters", "low", "high"] : List Str).zip us) :=
  fun us hl => match us, hl with | [_, _, _], _ => rfl

abbrev s_longer_by_one : Stmt := top 81
abbrev N_longer_by_one : List Str := ["rows", "low", "high", "longer", "row", "number"]
theorem sc_longer_by_one : FnScope N_longer_by_one ["rows", "low", "high"] (defScope s_longer_by_one) := ⟨rfl, rfl, rfl, by decide +kernel, rfl, by decide +kernel, by decide +kernel⟩
theorem bn_longer_by_one (kV doc pm : Value) (an : Option Addr) (cdv ct : Value) : ∀ us : List Value, us.length = (["rows", "low", "high"] : List Str).length → bindArgs (PySem.W.fnOf "longer_by_one" "longer_by_one" (defArgs s_longer_by_one) (defBody s_longer_by_one) (defScope s_longer_by_one) .none kV doc pm an cdv ct) ⟨us, []⟩ = pure ((["rows", "low", "high"] : List Str).zip us) :=
  fun us hl => match us, hl with | [_, _, _], _ => rfl

abbrev s_all_values : Stmt := top 82
abbrev N_all_values : List Str := ["counters", "low", "high", "rows", "counter"]
theorem sc_all_values : FnScope N_all_values ["counters", "low", "high"] (defScope s_all_values) := ⟨rfl, rfl, rfl, by decide +kernel, rfl, by decide +kernel, by decide +kernel⟩
theorem bn_all_values (kV doc pm : Value) (an : Option Addr) (cdv ct : Value) : ∀ us : List Value, us.length = (["counters", "low", "high"] : List Str).length → bindArgs (PySem.W.fnOf "all_values" "all_values" (defArgs s_all_values) (defBody s_all_values) (defScope s_all_values) .none kV doc pm an cdv ct) ⟨us, []⟩ = pure ((["counters", "low", "high"] : List Str).zip us) :=
  fun us hl => match us, hl with | [_, _, _], _ => rfl

abbrev s_box_told : Stmt := top 83
abbrev N_box_told : List Str := ["box", "low", "high", "rows", "ends", "longest", "values", "how", "last", "rounds"]
theorem sc_box_told : FnScope N_box_told ["box", "low", "high"] (defScope s_box_told) := ⟨rfl, rfl, rfl, by decide +kernel, rfl, by decide +kernel, by decide +kernel⟩
theorem bn_box_told (kV doc pm : Value) (an : Option Addr) (cdv ct : Value) : ∀ us : List Value, us.length = (["box", "low", "high"] : List Str).length → bindArgs (PySem.W.fnOf "box_told" "box_told" (defArgs s_box_told) (defBody s_box_told) (defScope s_box_told) .none kV doc pm an cdv ct) ⟨us, []⟩ = pure ((["box", "low", "high"] : List Str).zip us) :=
  fun us hl => match us, hl with | [_, _, _], _ => rfl

abbrev s_answer_of_piece : Stmt := top 87
abbrev N_answer_of_piece : List Str := ["box", "call", "wholes", "row"]
theorem sc_answer_of_piece : FnScope N_answer_of_piece ["box", "call", "wholes", "row"] (defScope s_answer_of_piece) := ⟨rfl, rfl, rfl, by decide +kernel, rfl, by decide +kernel, by decide +kernel⟩
theorem bn_answer_of_piece (kV doc pm : Value) (an : Option Addr) (cdv ct : Value) : ∀ us : List Value, us.length = (["box", "call", "wholes", "row"] : List Str).length → bindArgs (PySem.W.fnOf "answer_of_piece" "answer_of_piece" (defArgs s_answer_of_piece) (defBody s_answer_of_piece) (defScope s_answer_of_piece) .none kV doc pm an cdv ct) ⟨us, []⟩ = pure ((["box", "call", "wholes", "row"] : List Str).zip us) :=
  fun us hl => match us, hl with | [_, _, _, _], _ => rfl

abbrev s_answer_of_run : Stmt := top 88
abbrev N_answer_of_run : List Str := ["box", "call", "wholes", "row"]
theorem sc_answer_of_run : FnScope N_answer_of_run ["box", "call", "wholes", "row"] (defScope s_answer_of_run) := ⟨rfl, rfl, rfl, by decide +kernel, rfl, by decide +kernel, by decide +kernel⟩
theorem bn_answer_of_run (kV doc pm : Value) (an : Option Addr) (cdv ct : Value) : ∀ us : List Value, us.length = (["box", "call", "wholes", "row"] : List Str).length → bindArgs (PySem.W.fnOf "answer_of_run" "answer_of_run" (defArgs s_answer_of_run) (defBody s_answer_of_run) (defScope s_answer_of_run) .none kV doc pm an cdv ct) ⟨us, []⟩ = pure ((["box", "call", "wholes", "row"] : List Str).zip us) :=
  fun us hl => match us, hl with | [_, _, _, _], _ => rfl

abbrev s_answer : Stmt := top 89
abbrev N_answer : List Str := ["box", "call", "wholes", "row"]
theorem sc_answer : FnScope N_answer ["box", "call", "wholes", "row"] (defScope s_answer) := ⟨rfl, rfl, rfl, by decide +kernel, rfl, by decide +kernel, by decide +kernel⟩
theorem bn_answer (kV doc pm : Value) (an : Option Addr) (cdv ct : Value) : ∀ us : List Value, us.length = (["box", "call", "wholes", "row"] : List Str).length → bindArgs (PySem.W.fnOf "answer" "answer" (defArgs s_answer) (defBody s_answer) (defScope s_answer) .none kV doc pm an cdv ct) ⟨us, []⟩ = pure ((["box", "call", "wholes", "row"] : List Str).zip us) :=
  fun us hl => match us, hl with | [_, _, _, _], _ => rfl

abbrev s_row_at : Stmt := top 90
abbrev N_row_at : List Str := ["calls", "place"]
theorem sc_row_at : FnScope N_row_at ["calls", "place"] (defScope s_row_at) := ⟨rfl, rfl, rfl, by decide +kernel, rfl, by decide +kernel, by decide +kernel⟩
theorem bn_row_at (kV doc pm : Value) (an : Option Addr) (cdv ct : Value) : ∀ us : List Value, us.length = (["calls", "place"] : List Str).length → bindArgs (PySem.W.fnOf "row_at" "row_at" (defArgs s_row_at) (defBody s_row_at) (defScope s_row_at) .none kV doc pm an cdv ct) ⟨us, []⟩ = pure ((["calls", "place"] : List Str).zip us) :=
  fun us hl => match us, hl with | [_, _], _ => rfl

abbrev s_answers : Stmt := top 91
abbrev N_answers : List Str := ["calls", "box", "told", "at", "call", "behind", "wholes", "row", "numbers"]
theorem sc_answers : FnScope N_answers ["calls"] (defScope s_answers) := ⟨rfl, rfl, rfl, by decide +kernel, rfl, by decide +kernel, by decide +kernel⟩
theorem bn_answers (kV doc pm : Value) (an : Option Addr) (cdv ct : Value) : ∀ us : List Value, us.length = (["calls"] : List Str).length → bindArgs (PySem.W.fnOf "answers" "answers" (defArgs s_answers) (defBody s_answers) (defScope s_answers) .none kV doc pm an cdv ct) ⟨us, []⟩ = pure ((["calls"] : List Str).zip us) :=
  fun us hl => match us, hl with | [_], _ => rfl

/-- the addresses that the top has given -/
structure Ad where
  CN : Addr
  CR : Addr
  CB : Addr
  CF : Addr
  CP : Addr
  fF : Addr
  aW : Addr
  aH : Addr
/-- what the top has written -/
structure Txt (K : PySem.W.Frag) (mg : Str → Option Value) (A : Ad) : Prop where
  fault : FaultTxt K mg A.CF A.fF
  xP : PySem.W.excIn K A.CP [.type "Exception", .type "BaseException", .type "object"] "Exception.__new__" = true
  gP : mg "NotAPiece" = some (.ref A.CP)
  kP : PySem.W.keepIn K (.ref A.CP) = true
  bP : PySem.W.subIn K (.ref A.CP) (.type "BaseException") = some true
  tP : PySem.W.typeIn K (.ref A.CP) = some (.type "type")
  eP : PySem.W.exmOne K (.ref A.CP) (.ref A.CP) = some true
  clN : Cls K A.CN
  clR : Cls K A.CR
  clB : Cls K A.CB
  aN_numbers : NoAttr K A.CN "numbers"
  aN_at : NoAttr K A.CN "at"
  aN_counters : NoAttr K A.CN "counters"
  aR_tokens : NoAttr K A.CR "tokens"
  aR_at : NoAttr K A.CR "at"
  aR_counters : NoAttr K A.CR "counters"
  aB_counters : NoAttr K A.CB "counters"
  aB_pieces : NoAttr K A.CB "pieces"
  b_len : mg "len" = none
  b_range : mg "range" = none
  b_max : mg "max" = none
  b_ord : mg "ord" = none
  b_enumerate : mg "enumerate" = none
  c_LETTERS : ∃ u, mg "LETTERS" = some u ∧ RelV (.str "abcdefghijklmnopqrstuvwxyz") u
  c_LONGEST_NAME : ∃ u, mg "LONGEST_NAME" = some u ∧ RelV (.int 8) u
  c_LONGEST_NUMBER : ∃ u, mg "LONGEST_NUMBER" = some u ∧ RelV (.int 6) u
  c_COUNTERS : ∃ u, mg "COUNTERS" = some u ∧ RelV (.str "abcd") u
  c_MOST_COUNTERS : ∃ u, mg "MOST_COUNTERS" = some u ∧ RelV (.int 4) u
  c_MOST_PIECES : ∃ u, mg "MOST_PIECES" = some u ∧ RelV (.int 5) u
  c_MOST_BRANCHES : ∃ u, mg "MOST_BRANCHES" = some u ∧ RelV (.int 3) u
  c_MOST_TESTS : ∃ u, mg "MOST_TESTS" = some u ∧ RelV (.int 3) u
  c_MOST_GIVEN : ∃ u, mg "MOST_GIVEN" = some u ∧ RelV (.int 99) u
  c_MOST_TESTED : ∃ u, mg "MOST_TESTED" = some u ∧ RelV (.int 999999) u
  c_BEYOND : ∃ u, mg "BEYOND" = some u ∧ RelV (.int 1000000000000) u
  c_NAMES : ∃ u, mg "NAMES" = some u ∧ RelV (.str "abcd") u
  c_LONGEST_TEXT : ∃ u, mg "LONGEST_TEXT" = some u ∧ RelV (.int 1500) u
  c_MOST_HELD : ∃ u, mg "MOST_HELD" = some u ∧ RelV (.int 5) u
  c_FURTHEST_START : ∃ u, mg "FURTHEST_START" = some u ∧ RelV (.int 1000000) u
  c_MOST_ROUNDS : ∃ u, mg "MOST_ROUNDS" = some u ∧ RelV (.int 2000) u
  c_MOST_TRACED : ∃ u, mg "MOST_TRACED" = some u ∧ RelV (.int 40) u
  c_MOST_IN_BOX : ∃ u, mg "MOST_IN_BOX" = some u ∧ RelV (.int 100) u
  c_WHOLES : ∃ u, mg "WHOLES" = some u ∧ RelV (.ref A.aW) u
  t_WHOLES : ∀ H : Hp, SqT K H A.aW [.int 0, .int 0, .int 0, .int 0, .int 1, .int 1, .int 2, .int 0, .int 1, .int 0, .int 2, .int 0, .int 1]
  c_HAS_ROW : ∃ u, mg "HAS_ROW" = some u ∧ RelV (.ref A.aH) u
  t_HAS_ROW : ∀ H : Hp, SqT K H A.aH [.bl true, .bl false, .bl false, .bl true, .bl false, .bl true, .bl true, .bl true, .bl true, .bl true, .bl false, .bl true, .bl false]
  d_move_told : DefT K mg "move_told" s_move_told
  d_test_told : DefT K mg "test_told" s_test_told
  d_branch_told : DefT K mg "branch_told" s_branch_told
  d_piece_told : DefT K mg "piece_told" s_piece_told
  d_program_told : DefT K mg "program_told" s_program_told
  i_Numbers : IniT K mg "Numbers" A.CN "Numbers.__init__" s_Numbers_init
  m_Numbers_take : MetT K A.CN "take" "Numbers.take" s_Numbers_take
  m_Numbers_given : MetT K A.CN "given" "Numbers.given" s_Numbers_given
  m_Numbers_move : MetT K A.CN "move" "Numbers.move" s_Numbers_move
  m_Numbers_test : MetT K A.CN "test" "Numbers.test" s_Numbers_test
  m_Numbers_branch : MetT K A.CN "branch" "Numbers.branch" s_Numbers_branch
  m_Numbers_piece : MetT K A.CN "piece" "Numbers.piece" s_Numbers_piece
  d_piece_of : DefT K mg "piece_of" s_piece_of
  d_is_blank : DefT K mg "is_blank" s_is_blank
  d_is_letter : DefT K mg "is_letter" s_is_letter
  d_is_digit : DefT K mg "is_digit" s_is_digit
  d_sign_of : DefT K mg "sign_of" s_sign_of
  d_letters_end : DefT K mg "letters_end" s_letters_end
  d_digits_end : DefT K mg "digits_end" s_digits_end
  d_name_end : DefT K mg "name_end" s_name_end
  d_number_end : DefT K mg "number_end" s_number_end
  d_token_end : DefT K mg "token_end" s_token_end
  d_word_between : DefT K mg "word_between" s_word_between
  d_number_between : DefT K mg "number_between" s_number_between
  d_token_between : DefT K mg "token_between" s_token_between
  d_tokens_of : DefT K mg "tokens_of" s_tokens_of
  i_Reader : IniT K mg "Reader" A.CR "Reader.__init__" s_Reader_init
  m_Reader_here : MetT K A.CR "here" "Reader.here" s_Reader_here
  m_Reader_is_word : MetT K A.CR "is_word" "Reader.is_word" s_Reader_is_word
  m_Reader_is_number : MetT K A.CR "is_number" "Reader.is_number" s_Reader_is_number
  m_Reader_is_end : MetT K A.CR "is_end" "Reader.is_end" s_Reader_is_end
  m_Reader_skip : MetT K A.CR "skip" "Reader.skip" s_Reader_skip
  m_Reader_number : MetT K A.CR "number" "Reader.number" s_Reader_number
  m_Reader_modulus : MetT K A.CR "modulus" "Reader.modulus" s_Reader_modulus
  m_Reader_counter_here : MetT K A.CR "counter_here" "Reader.counter_here" s_Reader_counter_here
  m_Reader_counter : MetT K A.CR "counter" "Reader.counter" s_Reader_counter
  m_Reader_whole : MetT K A.CR "whole" "Reader.whole" s_Reader_whole
  m_Reader_bound : MetT K A.CR "bound" "Reader.bound" s_Reader_bound
  m_Reader_test : MetT K A.CR "test" "Reader.test" s_Reader_test
  m_Reader_tests : MetT K A.CR "tests" "Reader.tests" s_Reader_tests
  m_Reader_give : MetT K A.CR "give" "Reader.give" s_Reader_give
  m_Reader_move : MetT K A.CR "move" "Reader.move" s_Reader_move
  m_Reader_branch : MetT K A.CR "branch" "Reader.branch" s_Reader_branch
  m_Reader_loop : MetT K A.CR "loop" "Reader.loop" s_Reader_loop
  m_Reader_piece : MetT K A.CR "piece" "Reader.piece" s_Reader_piece
  m_Reader_program : MetT K A.CR "program" "Reader.program" s_Reader_program
  d_holds : DefT K mg "holds" s_holds
  d_all_hold : DefT K mg "all_hold" s_all_hold
  d_chosen : DefT K mg "chosen" s_chosen
  d_value_given : DefT K mg "value_given" s_value_given
  d_moved : DefT K mg "moved" s_moved
  d_is_beyond : DefT K mg "is_beyond" s_is_beyond
  d_move_run : DefT K mg "move_run" s_move_run
  d_loop_run : DefT K mg "loop_run" s_loop_run
  d_piece_run : DefT K mg "piece_run" s_piece_run
  d_run : DefT K mg "run" s_run
  d_whole_shown : DefT K mg "whole_shown" s_whole_shown
  d_sum_shown : DefT K mg "sum_shown" s_sum_shown
  d_bound_shown : DefT K mg "bound_shown" s_bound_shown
  d_move_shown : DefT K mg "move_shown" s_move_shown
  d_test_shown : DefT K mg "test_shown" s_test_shown
  d_tests_shown : DefT K mg "tests_shown" s_tests_shown
  d_piece_lines : DefT K mg "piece_lines" s_piece_lines
  d_program_shown : DefT K mg "program_shown" s_program_shown
  i_Box : IniT K mg "Box" A.CB "Box.__init__" s_Box_init
  d_may_begin : DefT K mg "may_begin" s_may_begin
  d_load : DefT K mg "load" s_load
  d_show : DefT K mg "show" s_show
  d_tell : DefT K mg "tell" s_tell
  d_tell_piece : DefT K mg "tell_piece" s_tell_piece
  d_choose : DefT K mg "choose" s_choose
  d_try_tests : DefT K mg "try_tests" s_try_tests
  d_add_piece : DefT K mg "add_piece" s_add_piece
  d_drop_piece : DefT K mg "drop_piece" s_drop_piece
  d_run_told : DefT K mg "run_told" s_run_told
  d_trace : DefT K mg "trace" s_trace
  d_after : DefT K mg "after" s_after
  d_counts : DefT K mg "counts" s_counts
  d_many_values : DefT K mg "many_values" s_many_values
  d_longer_by_one : DefT K mg "longer_by_one" s_longer_by_one
  d_all_values : DefT K mg "all_values" s_all_values
  d_box_told : DefT K mg "box_told" s_box_told
  d_answer_of_piece : DefT K mg "answer_of_piece" s_answer_of_piece
  d_answer_of_run : DefT K mg "answer_of_run" s_answer_of_run
  d_answer : DefT K mg "answer" s_answer
  d_row_at : DefT K mg "row_at" s_row_at
  d_answers : DefT K mg "answers" s_answers
end CL

set_option Elab.async false
set_option linter.all false
set_option maxRecDepth 100000
set_option maxHeartbeats 4000000
/-! ## How the data lies in the heap -/
namespace CL
open PySem PySem.Spec PyProof.Rows L2
open C8 (Cal Met Mak pe_c pe_mk pe_mt pe_mt0 pe_gc)
open VaaclBase (Values Test Guard Branch Loop Piece okTest)
abbrev Prg := VaaclBase.Program
abbrev Gv := VaaclBase.Given
abbrev Mv := VaaclBase.Move
theorem Same.new {H : Hp} {p : Addr} {o : HO} (h : H p = none) : Same H (upd H p o) := fun b u e => by
  rw [upd_ne (ne_of_none e h)]
  exact e
theorem Same.mut {G H : Hp} {p : Addr} {o : HO} (s : Same G H) (h : G p = none) : Same G (upd H p o) := fun b u e => by
  rw [upd_ne (ne_of_none e h)]
  exact s b u e
/-- an if whose test is a decision -/
theorem ifD {p : Prop} [Decidable p] {A B : Prop} (h1 : p → A) (h2 : ¬ p → B) : if decide p = true then A else B := by
  by_cases h : p
  · rw [if_pos (decide_eq_true h)]
    exact h1 h
  · rw [decide_eq_false h, if_neg Bool.false_ne_true]
    exact h2 h
theorem ifT {p : Prop} [Decidable p] {A B : Prop} (h : p) (a : A) : if decide p = true then A else B := by
  rw [if_pos (decide_eq_true h)]
  exact a
theorem ifF {p : Prop} [Decidable p] {A B : Prop} (h : ¬ p) (b : B) : if decide p = true then A else B := by
  rw [decide_eq_false h, if_neg Bool.false_ne_true]
  exact b
theorem ifNT {p : Prop} [Decidable p] {A B : Prop} (h : ¬ p) (a : A) : if (!decide p) = true then A else B := by
  rw [decide_eq_false h]
  exact iteT a
theorem ifNF {p : Prop} [Decidable p] {A B : Prop} (h : p) (b : B) : if (!decide p) = true then A else B := by
  rw [decide_eq_true h]
  exact iteF b
theorem ifB {c : Bool} {A B : Prop} (h1 : c = true → A) (h2 : c = false → B) : if c = true then A else B := by
  cases c with
  | true => exact iteT (h1 rfl)
  | false => exact iteF (h2 rfl)
theorem ifBT {c : Bool} {A B : Prop} (h : c = true) (a : A) : if c = true then A else B := by
  rw [h]
  exact iteT a
theorem ifBF {c : Bool} {A B : Prop} (h : c = false) (b : B) : if c = true then A else B := by
  rw [h]
  exact iteF b
theorem int_ne {i j : Int} (h : i ≠ j) : ¬ (V.int i = V.int j) := fun e => h (V.int.inj e)
theorem int_eq {i j : Int} (h : i = j) : V.int i = V.int j := by rw [h]
theorem drop_at {α : Type} {l : List α} {i : Nat} {x : α} (h : l[i]? = some x) : l.drop i = x :: l.drop (i + 1) := by
  obtain ⟨h1, e⟩ := List.getElem?_eq_some_iff.mp h
  rw [List.drop_eq_getElem_cons h1, e]
theorem take_at {α : Type} {l : List α} {i : Nat} {x : α} (h : l[i]? = some x) : l.take (i + 1) = l.take i ++ [x] := by
  rw [List.take_succ, h]
  rfl
theorem lt_at {α : Type} {l : List α} {i : Nat} {x : α} (h : l[i]? = some x) : i < l.length := (List.getElem?_eq_some_iff.mp h).1
theorem pair_at {α β : Type} {F : α → β → Prop} : ∀ {xs : List α} {ys : List β} {i : Nat} {x : α}, Paired F xs ys → xs[i]? = some x → ∃ y, ys[i]? = some y ∧ F x y
  | _, _, _, _, .nil, e => by simp at e
  | _, _, 0, x, .cons h _, e => by
    simp at e
    subst e
    exact ⟨_, rfl, h⟩
  | _, _, i + 1, x, .cons _ t, e => by
    obtain ⟨y, h1, h2⟩ := pair_at (i := i) t (by simpa using e)
    exact ⟨y, by simpa using h1, h2⟩
theorem pair_at' {α β : Type} {F : α → β → Prop} : ∀ {xs : List α} {ys : List β} {i : Nat} {y : β}, Paired F xs ys → ys[i]? = some y → ∃ x, xs[i]? = some x ∧ F x y
  | _, _, _, _, .nil, e => by simp at e
  | _, _, 0, y, .cons h _, e => by
    simp at e
    subst e
    exact ⟨_, rfl, h⟩
  | _, _, i + 1, y, .cons _ t, e => by
    obtain ⟨x, h1, h2⟩ := pair_at' (i := i) t (by simpa using e)
    exact ⟨x, by simpa using h1, h2⟩
theorem pair_app {α β : Type} {F : α → β → Prop} : ∀ {xs xs' : List α} {ys ys' : List β}, Paired F xs ys → Paired F xs' ys' → Paired F (xs ++ xs') (ys ++ ys')
  | _, _, _, _, .nil, s => s
  | _, _, _, _, .cons r t, s => .cons r (pair_app t s)
theorem map_at {α β : Type} {f : α → β} {l : List α} {i : Nat} {y : β} (h : (l.map f)[i]? = some y) : ∃ x, l[i]? = some x ∧ y = f x := by
  rw [List.getElem?_map] at h
  cases e : l[i]? with
  | none =>
    rw [e] at h
    cases h
  | some x =>
    rw [e] at h
    exact ⟨x, rfl, (Option.some.inj h).symm⟩
theorem small {n : Nat} (h : n ≤ 1048576) : n ≤ sizeLine := by
  rw [sizeLine_eq]
  omega
theorem smallL {n : Nat} (h : n < 1048576) : n < sizeLine := by
  rw [sizeLine_eq]
  omega
/-- whole numbers as values -/
abbrev iV (l : List Int) : List V := l.map V.int
/-- a list whose items stand for xs -/
def ListAt {α : Type} (R : Hp → V → α → Prop) (H : Hp) (v : V) (xs : List α) : Prop := ∃ a vs, v = .ref a ∧ H a = some (.lst vs) ∧ Paired (R H) vs xs
theorem ListAt.mono {α : Type} {R : Hp → V → α → Prop} {H H' : Hp} {v : V} {xs : List α} (m : ∀ v x, R H v x → R H' v x) (s : Same H H') (h : ListAt R H v xs) : ListAt R H' v xs := by
  obtain ⟨a, vs, e, h1, h2⟩ := h
  exact ⟨a, vs, e, s _ _ h1, Paired.mapP h2 m⟩
/-- what a counter is given: kind, counter, number -/
def gT (g : Gv) : List V := match g.source with
  | none => [.int 0, .int 0, .int g.add]
  | some i => [.int 1, .int (i : Int), .int g.add]
def GivenAt (H : Hp) (v : V) (g : Gv) : Prop := ∃ a, v = .ref a ∧ H a = some (.tup (gT g))
abbrev MoveAt : Hp → V → Mv → Prop := ListAt GivenAt
def tT : Test → List V
  | .atMost x c => [.int 0, .int (x : Int), .int c, .int 0]
  | .atLeast x c => [.int 1, .int (x : Int), .int c, .int 0]
  | .below x y c => [.int 2, .int (x : Int), .int (y : Int), .int c]
  | .rem x m r => [.int 3, .int (x : Int), .int (m : Int), .int (r : Int)]
def TestAt (H : Hp) (v : V) (t : Test) : Prop := ∃ a, v = .ref a ∧ H a = some (.tup (tT t))
abbrev GuardAt : Hp → V → Guard → Prop := ListAt TestAt
def BranchAt (H : Hp) (v : V) (b : Branch) : Prop := ∃ a g m, v = .ref a ∧ H a = some (.tup [g, m]) ∧ GuardAt H g b.guard ∧ MoveAt H m b.move
abbrev BranchesAt : Hp → V → List Branch → Prop := ListAt BranchAt
def kindOf : Piece → Int
  | .move _ => 0
  | .loop _ => 1
def branchesOf : Piece → List Branch
  | .move m => [⟨[], m⟩]
  | .loop l => l
def PieceAt (H : Hp) (v : V) (p : Piece) : Prop := ∃ a b, v = .ref a ∧ H a = some (.tup [.int (kindOf p), b]) ∧ BranchesAt H b (branchesOf p)
abbrev PiecesAt : Hp → V → List Piece → Prop := ListAt PieceAt
theorem GivenAt.mono {H H' : Hp} (s : Same H H') (v : V) (g : Gv) (h : GivenAt H v g) : GivenAt H' v g := by
  obtain ⟨a, e, h1⟩ := h
  exact ⟨a, e, s _ _ h1⟩
theorem MoveAt.mono {H H' : Hp} (s : Same H H') (v : V) (m : Mv) (h : MoveAt H v m) : MoveAt H' v m := ListAt.mono (GivenAt.mono s) s h
theorem TestAt.mono {H H' : Hp} (s : Same H H') (v : V) (t : Test) (h : TestAt H v t) : TestAt H' v t := by
  obtain ⟨a, e, h1⟩ := h
  exact ⟨a, e, s _ _ h1⟩
theorem GuardAt.mono {H H' : Hp} (s : Same H H') (v : V) (m : Guard) (h : GuardAt H v m) : GuardAt H' v m := ListAt.mono (TestAt.mono s) s h
theorem BranchAt.mono {H H' : Hp} (s : Same H H') (v : V) (b : Branch) (h : BranchAt H v b) : BranchAt H' v b := by
  obtain ⟨a, g, m, e, h1, h2, h3⟩ := h
  exact ⟨a, g, m, e, s _ _ h1, h2.mono s, h3.mono s⟩
theorem BranchesAt.mono {H H' : Hp} (s : Same H H') (v : V) (l : List Branch) (h : BranchesAt H v l) : BranchesAt H' v l := ListAt.mono (BranchAt.mono s) s h
theorem PieceAt.mono {H H' : Hp} (s : Same H H') (v : V) (p : Piece) (h : PieceAt H v p) : PieceAt H' v p := by
  obtain ⟨a, b, e, h1, h2⟩ := h
  exact ⟨a, b, e, s _ _ h1, BranchesAt.mono s _ _ h2⟩
theorem PiecesAt.mono {H H' : Hp} (s : Same H H') (v : V) (l : List Piece) (h : PiecesAt H v l) : PiecesAt H' v l := ListAt.mono (PieceAt.mono s) s h
/-! ### what a program is made of -/
def OkGiven (n : Nat) (g : Gv) : Prop := (∀ i, g.source = some i → i < n) ∧ -99 ≤ g.add ∧ g.add ≤ 99
def OkMove (n : Nat) (m : Mv) : Prop := m.length = n ∧ ∀ g ∈ m, OkGiven n g
def OkGuard (n : Nat) (g : Guard) : Prop := g.length ≤ 3 ∧ ∀ t ∈ g, okTest n t = true
def OkBranch (n : Nat) (b : Branch) : Prop := OkGuard n b.guard ∧ OkMove n b.move
def OkBranches (n : Nat) (l : List Branch) : Prop := 1 ≤ l.length ∧ l.length ≤ 3 ∧ ∀ b ∈ l, OkBranch n b
def OkPiece (n : Nat) (p : Piece) : Prop := OkBranches n (branchesOf p)
def OkPieces (n : Nat) (l : List Piece) : Prop := l.length ≤ 5 ∧ ∀ p ∈ l, OkPiece n p
theorem mem_at {α : Type} {l : List α} {i : Nat} {x : α} (h : l[i]? = some x) : x ∈ l := List.mem_of_getElem? h
theorem atV {s : Values} {i : Nat} (h : i < s.length) : atI (iV s) (i : Int) = some (.int (VaaclBase.valueAt s i)) := by
  refine atI_nat ?_
  rw [List.getElem?_map]
  unfold VaaclBase.valueAt
  rw [List.getElem?_eq_getElem h]
  rfl
variable {P : PySem.Program} {w : World} {K : PySem.W.Frag} {mg : Str → Option Value} {base : Heap} {A : Ad}
/-! ## rounds.py -/
def spHolds : Sp := fun vs H Q _ => ∃ (t a : Addr) (ts : Test) (s : Values), vs = [.ref t, .ref a] ∧ H t = some (.tup (tT ts)) ∧ H a = some (.lst (iV s)) ∧ okTest s.length ts = true ∧ Q (.bl (VaaclBase.holds s ts)) H
theorem c_holds (T : Txt K mg A) : Cal P w K mg base 1 "holds" spHolds [] :=
  cal_mk T.d_holds sc_holds bn_holds (fun vs H Q E h => by
    obtain ⟨_, _, _, _, rfl, _⟩ := h
    rfl) (fun f cdv A' outer s H vs Q E hr h => by
    refine ⟨_, (pss_cons (ps_asg (pv 0) (pg_tup (by rfl) (pgs_cons (pg_name (i := 2) sc_holds.nd rfl (Or.inl rfl)) (pgs_cons (pg_name (i := 3) sc_holds.nd rfl (Or.inl rfl)) (pgs_cons (pg_name (i := 4) sc_holds.nd rfl (Or.inl rfl)) (pgs_cons (pg_name (i := 5) sc_holds.nd rfl (Or.inl rfl)) pgs_nil))))))
      (pss_cons (ps_if (pt_cmpR op_eq (pv 2) pe_int (nomark _)) (pss_one (ps_ret (pe_cmpR op_le (pe_ix ix_list (pv 1) (pv 3) (fun _ _ => rfl)) (pv 4) (nomark _)))) pss_nil)
      (pss_cons (ps_if (pt_cmpR op_eq (pv 2) pe_int (nomark _)) (pss_one (ps_ret (pe_cmpR op_ge (pe_ix ix_list (pv 1) (pv 3) (fun _ _ => rfl)) (pv 4) (nomark _)))) pss_nil)
      (pss_cons (ps_if (pt_cmpR op_eq (pv 2) pe_int (nomark _)) (pss_one (ps_ret (pe_cmpR op_le (pe_ix ix_list (pv 1) (pv 3) (fun _ _ => rfl)) (pe_op op_add (pe_ix ix_list (pv 1) (pv 4) (fun _ _ => rfl)) (pv 5)) (nomark _)))) pss_nil)
      (pss_one (ps_ret (pe_cmpR op_eq (pe_op op_modN (pe_ix ix_list (pv 1) (pv 3) (fun _ _ => rfl)) (pv 4)) (pv 5) (nomark _)))))))), ?_⟩
    obtain ⟨t, a, ts, s, rfl, ht, ha, ok, k⟩ := h
    cases ts with
    | atMost x c =>
      unfold okTest at ok
      simp only [Bool.and_eq_true, decide_eq_true_eq] at ok
      refine ⟨_, rfl, t, _, rfl, SqT.of ht, rfl, _, _, rfl, _, _, rfl, _, _, rfl, _, _, rfl, rfl, ?_⟩
      refine ⟨_, rfl, rfl, _, rfl, ifT rfl ?_⟩
      exact ⟨_, rfl, _, rfl, a, _, _, _, rfl, rfl, SqL.of ha, atV ok.1, _, rfl, _, _, rfl, rfl, k⟩
    | atLeast x c =>
      unfold okTest at ok
      simp only [Bool.and_eq_true, decide_eq_true_eq] at ok
      refine ⟨_, rfl, t, _, rfl, SqT.of ht, rfl, _, _, rfl, _, _, rfl, _, _, rfl, _, _, rfl, rfl, ?_⟩
      refine ⟨_, rfl, rfl, _, rfl, ifF (int_ne (by decide)) ?_⟩
      refine ⟨_, rfl, rfl, _, rfl, ifT rfl ?_⟩
      exact ⟨_, rfl, _, rfl, a, _, _, _, rfl, rfl, SqL.of ha, atV ok.1, _, rfl, _, _, rfl, rfl, k⟩
    | below x y c =>
      unfold okTest at ok
      simp only [Bool.and_eq_true, decide_eq_true_eq] at ok
      refine ⟨_, rfl, t, _, rfl, SqT.of ht, rfl, _, _, rfl, _, _, rfl, _, _, rfl, _, _, rfl, rfl, ?_⟩
      refine ⟨_, rfl, rfl, _, rfl, ifF (int_ne (by decide)) ?_⟩
      refine ⟨_, rfl, rfl, _, rfl, ifF (int_ne (by decide)) ?_⟩
      refine ⟨_, rfl, rfl, _, rfl, ifT rfl ?_⟩
      exact ⟨_, rfl, _, rfl, a, _, _, _, rfl, rfl, SqL.of ha, atV ok.1, _, rfl, _, rfl, a, _, _, _, rfl, rfl, SqL.of ha, atV ok.2.1, _, rfl, _, _, rfl, rfl, _, _, rfl, rfl, k⟩
    | rem x m r =>
      unfold okTest at ok
      simp only [Bool.and_eq_true, decide_eq_true_eq] at ok
      have hm : (m : Int) ≠ 0 := by
        intro e
        have e : m = 0 := by omega
        subst e
        exact absurd ok.2.1 (by decide)
      refine ⟨_, rfl, t, _, rfl, SqT.of ht, rfl, _, _, rfl, _, _, rfl, _, _, rfl, _, _, rfl, rfl, ?_⟩
      refine ⟨_, rfl, rfl, _, rfl, ifF (int_ne (by decide)) ?_⟩
      refine ⟨_, rfl, rfl, _, rfl, ifF (int_ne (by decide)) ?_⟩
      refine ⟨_, rfl, rfl, _, rfl, ifF (int_ne (by decide)) ?_⟩
      refine ⟨_, rfl, _, rfl, a, _, _, _, rfl, rfl, SqL.of ha, atV ok.1, _, rfl, _, _, rfl, rfl, hm, _, rfl, rfl, ?_⟩
      have e : decide (V.int ((VaaclBase.valueAt s x).fmod (m : Int)) = V.int (r : Int)) = VaaclBase.holds s (.rem x m r) := by
        show _ = (VaaclBase.valueAt s x % (m : Int) == (r : Int))
        rw [Int.fmod_eq_emod_of_nonneg _ (by omega), dec_int]
      rw [e]
      exact k)
def spAllHold : Sp := fun vs H Q _ => ∃ (g : V) (a : Addr) (gs : Guard) (s : Values), vs = [g, .ref a] ∧ GuardAt H g gs ∧ H a = some (.lst (iV s)) ∧ OkGuard s.length gs ∧ Q (.bl (VaaclBase.allHold s gs)) H
theorem c_all_hold (T : Txt K mg A) : Cal P w K mg base 2 "all_hold" spAllHold [] :=
  cal_mk T.d_all_hold sc_all_hold bn_all_hold (fun vs H Q E h => by
    obtain ⟨_, _, _, _, rfl, _⟩ := h
    rfl) (fun f cdv A' outer s H vs Q E hr h => by
    refine ⟨_, (pss_cons (ps_for PassesOwn.never rfl (pi_list (pv 0)) (pg_name (i := 2) sc_all_hold.nd rfl (Or.inl rfl)) (pss_one (ps_if (pt_not (pt_val (pe_c (c_holds T) hr (by decide) (by rfl) (pa_cons (pv 2) (pa_cons (pv 1) pa_nil))))) (pss_one (ps_ret pe_bl)) pss_nil)))
      (pss_one (ps_ret pe_bl))), ?_⟩
    obtain ⟨g, a, gs, s, rfl, ⟨ga, gvs, rfl, hg, hp⟩, ha, ok, k⟩ := h
    refine ⟨_, rfl, ga, rfl, ⟨_, SqL.of hg⟩, for_list (K := K) (a := ga) (xs := gvs) (fun i σ H' => H' = H ∧ (∃ v, σ = [some (.ref ga), some (.ref a), v]) ∧ VaaclBase.allHold s gs = VaaclBase.allHold s (gs.drop i))
      ⟨rfl, ⟨_, rfl⟩, rfl⟩ (fun i σ H' _ ⟨e, _, _⟩ => by rw [e]; exact SqL.of hg) ?_ ?_⟩
    · rintro i x σ H' hi ⟨rfl, ⟨v, rfl⟩, e⟩
      obtain ⟨t, ht, tv, rfl, hT⟩ := pair_at hp hi
      rw [drop_at ht] at e
      refine ⟨_, rfl, _, rfl, tv, a, t, s, rfl, hT, ha, ok.2 t (mem_at ht), _, rfl, ?_⟩
      have e2 : VaaclBase.allHold s (t :: gs.drop (i + 1)) = (VaaclBase.holds s t && VaaclBase.allHold s (gs.drop (i + 1))) := rfl
      rw [e2] at e
      cases ht2 : VaaclBase.holds s t with
      | true =>
        refine iteF ?_
        rw [ht2, Bool.true_and] at e
        exact ⟨rfl, ⟨_, rfl⟩, e⟩
      | false =>
        refine iteT ?_
        rw [ht2, Bool.false_and] at e
        rw [e] at k
        exact k
    · rintro σ H' ⟨rfl, ⟨v, rfl⟩, e⟩
      have hz : gs.drop gvs.length = [] := by
        rw [hp.length]
        exact List.drop_length
      rw [hz] at e
      rw [e] at k
      exact k)
end CL

set_option Elab.async false
set_option linter.all false
set_option maxRecDepth 100000
set_option maxHeartbeats 4000000
namespace CL
open PySem PySem.Spec PyProof.Rows L2
open C8 (Cal Met Mak pe_c pe_mk pe_mt pe_mt0 pe_gc)
open VaaclBase (Values Test Guard Branch Loop Piece okTest)
variable {P : PySem.Program} {w : World} {K : PySem.W.Frag} {mg : Str → Option Value} {base : Heap} {A : Ad}
theorem at0 {α : Type} {xs : List α} {i : Nat} {v : α} (h : xs[i]? = some v) : atI xs (0 + (i : Int)) = some v := by
  rw [Int.zero_add]
  exact atI_nat h
theorem get_lt {α : Type} {l : List α} {i : Nat} (h : i < l.length) : ∃ x, l[i]? = some x := ⟨l[i], by simp [h]⟩
/-- a number of things that is small -/
theorem rng_ok {n : Nat} (h : n ≤ 1048576) : -(2 ^ 62) ≤ ((n : Nat) : Int) ∧ ((n : Nat) : Int) < 2 ^ 62 := by
  constructor <;> omega
def spChosen : Sp := fun vs H Q _ => ∃ (b : V) (a : Addr) (bs : List Branch) (s : Values), vs = [b, .ref a] ∧ BranchesAt H b bs ∧ H a = some (.lst (iV s)) ∧ (∀ x ∈ bs, OkGuard s.length x.guard) ∧ bs.length ≤ 1000 ∧ Q (.int (VaaclBase.orNone (VaaclBase.chosen bs s))) H
theorem c_chosen (T : Txt K mg A) : Cal P w K mg base 3 "chosen" spChosen [] :=
  cal_mk T.d_chosen sc_chosen bn_chosen (fun vs H Q E h => by
    obtain ⟨_, _, _, _, rfl, _⟩ := h
    rfl) (fun f cdv A' outer s H vs Q E hr h => by
    refine ⟨_, (pss_cons (ps_for PassesOwn.never rfl (pi_range1 (by rfl) T.b_range (pa_cons (pe_callB call_len_seq (by rfl) T.b_len PySem.boot_len (pa_cons (pv 0) pa_nil)) pa_nil)) (pg_name (i := 2) sc_chosen.nd rfl (Or.inl rfl)) (pss_one (ps_if (pt_val (pe_c (c_all_hold T) hr (by decide) (by rfl) (pa_cons (pe_ix ix_tup (pe_ix ix_list (pv 0) (pv 2) (fun _ _ => rfl)) pe_int (fun _ _ => rfl)) (pa_cons (pv 1) pa_nil)))) (pss_one (ps_ret (pv 2))) pss_nil)))
      (pss_one (ps_ret (pe_un un_neg pe_int)))), ?_⟩
    obtain ⟨b, a, bs, s, rfl, ⟨ba, bvs, rfl, hb, hp⟩, ha, ok, hz, k⟩ := h
    have hl : bvs.length = bs.length := hp.length
    have ro := rng_ok (n := bvs.length) (by omega)
    refine ⟨_, rfl, ba, _, rfl, .inl (SqL.of hb), _, rfl, ro.1, ro.2, for_range (lo := 0) (fun i σ H' => H' = H ∧ (∃ v, σ = [some (.ref ba), some (.ref a), v]) ∧ ∀ j x, j < i → bs[j]? = some x → VaaclBase.allHold s x.guard = false)
      ⟨rfl, ⟨_, rfl⟩, fun j x hj => absurd hj (Nat.not_lt_zero _)⟩ ?_ ?_⟩
    · rintro i σ H' hi ⟨rfl, ⟨v, rfl⟩, no⟩
      have hi' : i < bvs.length := by omega
      obtain ⟨bv, hbv⟩ := get_lt hi'
      obtain ⟨br, hbr, t, g, m, rfl, ht, hg, hm⟩ := pair_at hp hbv
      refine ⟨_, rfl, _, rfl, ba, _, _, _, rfl, rfl, SqL.of hb, at0 hbv, t, _, (0 : Int), _, rfl, rfl, SqT.of ht, rfl, _, rfl, ?_⟩
      refine ⟨g, a, br.guard, s, rfl, hg, ha, ok br (mem_at hbr), _, rfl, ?_⟩
      refine ifB (fun e => ?_) (fun e => ?_)
      · have ec : VaaclBase.chosen bs s = some i := by
          unfold VaaclBase.chosen
          rw [List.findIdx?_eq_some_iff_getElem]
          obtain ⟨h1, h2⟩ := List.getElem?_eq_some_iff.mp hbr
          refine ⟨h1, by rw [h2]; exact e, fun j hj => ?_⟩
          have := no j bs[j] hj (by simp [Nat.lt_trans hj h1])
          simp [this]
        rw [ec] at k
        refine ⟨_, rfl, ?_⟩
        show Q (.int (0 + (i : Int))) _
        rw [Int.zero_add]
        exact k
      · refine ⟨rfl, ⟨_, rfl⟩, fun j x hj hx => ?_⟩
        rcases Nat.lt_succ_iff_lt_or_eq.mp hj with h | h
        · exact no j x h hx
        · subst h
          rw [hbr] at hx
          cases hx
          exact e
    · rintro σ H' ⟨rfl, ⟨v, rfl⟩, no⟩
      have ec : VaaclBase.chosen bs s = none := by
        unfold VaaclBase.chosen
        rw [List.findIdx?_eq_none_iff]
        intro x hx
        obtain ⟨j, hj, e⟩ := List.getElem_of_mem hx
        exact no j x (by omega) (by rw [List.getElem?_eq_getElem hj, e])
      rw [ec] at k
      exact ⟨_, rfl, k⟩)
def spValueGiven : Sp := fun vs H Q _ => ∃ (g a : Addr) (gv : Gv) (s : Values), vs = [.ref g, .ref a] ∧ H g = some (.tup (gT gv)) ∧ H a = some (.lst (iV s)) ∧ (∀ i, gv.source = some i → i < s.length) ∧ Q (.int (VaaclBase.given s gv)) H
theorem c_value_given (T : Txt K mg A) : Cal P w K mg base 1 "value_given" spValueGiven [] :=
  cal_mk T.d_value_given sc_value_given bn_value_given (fun vs H Q E h => by
    obtain ⟨_, _, _, _, rfl, _⟩ := h
    rfl) (fun f cdv A' outer s H vs Q E hr h => by
    refine ⟨_, (pss_cons (ps_asg (pv 0) (pg_tup (by rfl) (pgs_cons (pg_name (i := 2) sc_value_given.nd rfl (Or.inl rfl)) (pgs_cons (pg_name (i := 3) sc_value_given.nd rfl (Or.inl rfl)) (pgs_cons (pg_name (i := 4) sc_value_given.nd rfl (Or.inl rfl)) pgs_nil)))))
      (pss_cons (ps_if (pt_cmpR op_eq (pv 2) pe_int (nomark _)) (pss_one (ps_ret (pv 4))) pss_nil)
      (pss_one (ps_ret (pe_op op_add (pe_ix ix_list (pv 1) (pv 3) (fun _ _ => rfl)) (pv 4)))))), ?_⟩
    obtain ⟨g, a, ⟨src, add⟩, s, rfl, hg, ha, ok, k⟩ := h
    cases src with
    | none =>
      refine ⟨_, rfl, g, _, rfl, SqT.of hg, rfl, _, _, rfl, _, _, rfl, _, _, rfl, rfl, ?_⟩
      refine ⟨_, rfl, rfl, _, rfl, ifT rfl ?_⟩
      have e : VaaclBase.given s ⟨none, add⟩ = add := Int.zero_add _
      rw [e] at k
      exact ⟨_, rfl, k⟩
    | some i =>
      refine ⟨_, rfl, g, _, rfl, SqT.of hg, rfl, _, _, rfl, _, _, rfl, _, _, rfl, rfl, ?_⟩
      refine ⟨_, rfl, rfl, _, rfl, ifF (int_ne (by decide)) ?_⟩
      exact ⟨_, rfl, _, rfl, a, _, _, _, rfl, rfl, SqL.of ha, atV (ok i rfl), _, rfl, _, _, rfl, rfl, k⟩)
def spMoved : Sp := fun vs H Q _ => ∃ (m : V) (a : Addr) (mv : Mv) (s : Values), vs = [m, .ref a] ∧ MoveAt H m mv ∧ H a = some (.lst (iV s)) ∧ (∀ g ∈ mv, ∀ i, g.source = some i → i < s.length) ∧ mv.length ≤ 1000 ∧ ∀ p, H p = none → Q (.ref p) (upd H p (.lst (iV (VaaclBase.moved mv s))))
theorem c_moved (T : Txt K mg A) : Cal P w K mg base 2 "moved" spMoved [] :=
  cal_mk T.d_moved sc_moved bn_moved (fun vs H Q E h => by
    obtain ⟨_, _, _, _, rfl, _⟩ := h
    rfl) (fun f cdv A' outer s H vs Q E hr h => by
    refine ⟨_, (pss_one (ps_ret (pe_lc (own := [("bound", 2)]) (g := gName 2) (tt := tYes) rfl sc_moved.nd (pi_list (pv 0)) (blkOk_by (own := [("bound", 2)]) (N := N_moved) (sc := defScope s_moved) (by decide +kernel)) (fun _ _ _ _ _ => pg_name (i := 2) sc_moved.nd rfl (Or.inl rfl)) (fun _ _ _ _ _ => pts_nil) (fun _ _ _ _ _ => (pe_c (c_value_given T) hr (by decide) (by rfl) (pa_cons (pv 2) (pa_cons (pv 1) pa_nil))))))), ?_⟩
    obtain ⟨m, a, mv, s, rfl, ⟨ma, mvs, rfl, hm, hp⟩, ha, ok, hz, k⟩ := h
    have hl : mvs.length = mv.length := hp.length
    refine ⟨_, rfl, ma, rfl, ⟨_, SqL.of hm⟩, fun D hD => ?_⟩
    refine lc_list (K := K) (a := ma) (xs := mvs) (fun i H' => H' = upd H D (.lst (iV (VaaclBase.moved (mv.take i) s)))) rfl (fun i H' _ e => ?_) (fun i x H' hi e => ?_) (fun H' e => ?_)
    · rw [e]
      exact SqL.of ((upd_ne (ne_of_none hm hD)).trans hm)
    · subst e
      obtain ⟨gv, hgv, g, rfl, hg⟩ := pair_at hp hi
      refine ⟨rfl, ?_⟩
      refine ⟨_, rfl, _, rfl, g, a, gv, s, rfl, (upd_ne (ne_of_none hg hD)).trans hg, (upd_ne (ne_of_none ha hD)).trans ha, ok gv (mem_at hgv), _, upd_same, ?_, ?_⟩
      · simp only [List.length_map, VaaclBase.moved, List.length_take]
        exact smallL (by omega)
      · rw [upd_upd, take_at hgv]
        simp only [VaaclBase.moved, List.map_append, List.map_cons, List.map_nil, iV]
    · subst e
      have e : mv.take mvs.length = mv := by
        rw [hl]
        exact List.take_length
      rw [e]
      exact k D hD)
def spIsBeyond : Sp := fun vs H Q _ => ∃ (a : Addr) (s : Values), vs = [.ref a] ∧ H a = some (.lst (iV s)) ∧ Q (.bl (VaaclBase.isBeyond s)) H
theorem c_is_beyond (T : Txt K mg A) : Cal P w K mg base 1 "is_beyond" spIsBeyond [] :=
  cal_mk T.d_is_beyond sc_is_beyond bn_is_beyond (fun vs H Q E h => by
    obtain ⟨_, _, rfl, _⟩ := h
    rfl) (fun f cdv A' outer s H vs Q E hr h => by
    refine ⟨_, (pss_cons (ps_for PassesOwn.never rfl (pi_list (pv 0)) (pg_name (i := 1) sc_is_beyond.nd rfl (Or.inl rfl)) (pss_one (ps_if (PW.pt (pw_or (pt_cmpR op_gt (pv 1) (pe_gc (by rfl) T.c_BEYOND) (nomark _)) (pw_or1 (pt_cmpR op_lt (pv 1) (pe_un un_neg (pe_gc (by rfl) T.c_BEYOND)) (nomark _))))) (pss_one (ps_ret pe_bl)) pss_nil)))
      (pss_one (ps_ret pe_bl))), ?_⟩
    obtain ⟨a, s, rfl, ha, k⟩ := h
    refine ⟨_, rfl, a, rfl, ⟨_, SqL.of ha⟩, for_list (K := K) (a := a) (xs := iV s) (fun i σ H' => H' = H ∧ (∃ v, σ = [some (.ref a), v]) ∧ VaaclBase.isBeyond s = VaaclBase.isBeyond (s.drop i))
      ⟨rfl, ⟨_, rfl⟩, rfl⟩ (fun i σ H' _ ⟨e, _, _⟩ => by rw [e]; exact SqL.of ha) ?_ ?_⟩
    · rintro i x σ H' hi ⟨rfl, ⟨v, rfl⟩, e⟩
      obtain ⟨z, hz, rfl⟩ := map_at hi
      rw [drop_at hz] at e
      have e2 : VaaclBase.isBeyond (z :: s.drop (i + 1)) = ((decide (z < -1000000000000) || decide (1000000000000 < z)) || VaaclBase.isBeyond (s.drop (i + 1))) := rfl
      rw [e2] at e
      refine ⟨_, rfl, _, _, rfl, rfl, _, rfl, ifD (fun h => ?_) (fun h => ?_)⟩
      · rw [decide_eq_true h, Bool.or_true, Bool.true_or] at e
        rw [e] at k
        exact iteT k
      · refine ⟨_, rfl, _, rfl, _, _, rfl, rfl, _, rfl, ifD (fun h2 => ?_) (fun h2 => ?_)⟩
        · rw [decide_eq_true h2, Bool.true_or, Bool.true_or] at e
          rw [e] at k
          exact k
        · rw [decide_eq_false h, decide_eq_false h2, Bool.or_false, Bool.false_or] at e
          exact ⟨rfl, ⟨_, rfl⟩, e⟩
    · rintro σ H' ⟨rfl, ⟨v, rfl⟩, e⟩
      have hz : s.drop (iV s).length = [] := by simp [iV]
      rw [hz] at e
      rw [e] at k
      exact k)
end CL

set_option Elab.async false
set_option linter.all false
set_option maxRecDepth 100000
set_option maxHeartbeats 4000000
namespace CL
open PySem PySem.Spec PyProof.Rows L2
open C8 (Cal Met Mak pe_c pe_mk pe_mt pe_mt0 pe_gc)
open VaaclBase (Values Test Guard Branch Loop Piece okTest)
variable {P : PySem.Program} {w : World} {K : PySem.W.Frag} {mg : Str → Option Value} {base : Heap} {A : Ad}
/-! ### The mirror of a run: how it stands, the values, its rounds (piece, branch) -/
def loopM (l : Loop) : Nat → Values → Int × Values × List Nat
  | 0, s => match VaaclBase.chosen l s with
    | none => (0, s, [])
    | some _ => (2, s, [])
  | n + 1, s => match VaaclBase.chosen l s with
    | none => (0, s, [])
    | some i =>
      let t := VaaclBase.moved (VaaclBase.branchAt l i).move s
      if VaaclBase.isBeyond t = true then (1, t, [i]) else ((loopM l n t).1, (loopM l n t).2.1, i :: (loopM l n t).2.2)
def pieceM (at_ : Nat) (n : Nat) (s : Values) : Piece → Int × Values × List (Int × Int)
  | .move m => if n = 0 then (2, s, []) else (if VaaclBase.isBeyond (VaaclBase.moved m s) = true then 1 else 0, VaaclBase.moved m s, [((at_ : Int), -1)])
  | .loop l => ((loopM l n s).1, (loopM l n s).2.1, (loopM l n s).2.2.map fun (i : Nat) => ((at_ : Int), (i : Int)))
def runM : List Piece → Nat → Nat → Values → Int × Values × List (Int × Int)
  | [], _, _, s => (0, s, [])
  | p :: r, at_, n, s =>
    let o := pieceM at_ n s p
    if o.1 ≠ 0 then o else ((runM r (at_ + 1) (n - o.2.2.length) o.2.1).1, (runM r (at_ + 1) (n - o.2.2.length) o.2.1).2.1, o.2.2 ++ (runM r (at_ + 1) (n - o.2.2.length) o.2.1).2.2)
theorem loopM_len (l : Loop) : ∀ (n : Nat) (s : Values), (loopM l n s).2.2.length ≤ n
  | 0, s => by
    unfold loopM
    split <;> exact Nat.zero_le _
  | n + 1, s => by
    unfold loopM
    split
    · exact Nat.zero_le _
    · dsimp only
      split
      · show 1 ≤ n + 1
        omega
      · have := loopM_len l n (VaaclBase.moved (VaaclBase.branchAt l ‹_›).move s)
        simp only [List.length_cons]
        omega
theorem pieceM_len (at_ n : Nat) (s : Values) (p : Piece) : (pieceM at_ n s p).2.2.length ≤ n := by
  cases p with
  | move m =>
    show ((if n = 0 then (2, s, []) else (if VaaclBase.isBeyond (VaaclBase.moved m s) = true then 1 else 0, VaaclBase.moved m s, [((at_ : Int), (-1 : Int))]) : Int × Values × List (Int × Int))).2.2.length ≤ n
    split
    · exact Nat.zero_le _
    · show 1 ≤ n
      omega
  | loop l =>
    show ((loopM l n s).2.2.map _).length ≤ n
    rw [List.length_map]
    exact loopM_len l n s
/-! ### The heap with the list of rounds, which grows -/
def RoundAt (G : Hp) (v : V) (r : Int × Int) : Prop := ∃ t, v = .ref t ∧ G t = some (.tup [.int r.1, .int r.2])
theorem RoundAt.mono {H H' : Hp} (s : Same H H') (v : V) (g : Int × Int) (h : RoundAt H v g) : RoundAt H' v g := by
  obtain ⟨a, e, h1⟩ := h
  exact ⟨a, e, s _ _ h1⟩
structure RH (G H : Hp) (r : Addr) (rs : List (Int × Int)) : Prop where
  same : Same G H
  hole : G r = none
  at_ : ∃ vs, H r = some (.lst vs) ∧ Paired (RoundAt G) vs rs
/-- behind steps that leave all but r -/
theorem RH.new {G H : Hp} {r p : Addr} {rs : List (Int × Int)} {o : HO} (h : RH G H r rs) (hp : H p = none) : RH (upd G p o) (upd H p o) r rs := by
  obtain ⟨vs, h1, h2⟩ := h.at_
  have hpr : r ≠ p := ne_of_none h1 hp
  refine ⟨fun b u e => ?_, (upd_ne hpr).trans h.hole, vs, (upd_ne hpr).trans h1, Paired.mapP h2 (RoundAt.mono (Same.new (h.same.free hp)))⟩
  by_cases hb : b = p
  · subst hb
    rw [upd_same] at e ⊢
    exact e
  · rw [upd_ne hb] at e ⊢
    exact h.same _ _ e
theorem RH.app {G H : Hp} {r p : Addr} {rs : List (Int × Int)} {x : Int × Int} (h : RH G H r rs) (hx : G p = some (.tup [.int x.1, .int x.2])) : ∃ vs, H r = some (.lst vs) ∧ vs.length = rs.length ∧ RH G (upd H r (.lst (vs ++ [.ref p]))) r (rs ++ [x]) := by
  obtain ⟨vs, h1, h2⟩ := h.at_
  exact ⟨vs, h1, h2.length, Same.mut h.same h.hole, h.hole, _, upd_same, pair_app h2 (.cons ⟨p, rfl, hx⟩ .nil)⟩
/-- a callee that leaves all that is tracked -/
theorem RH.to {G H H' : Hp} {r : Addr} {rs : List (Int × Int)} (h : RH G H r rs) (s : Same H H') : RH G H' r rs := by
  obtain ⟨vs, h1, h2⟩ := h.at_
  exact ⟨h.same.trans s, h.hole, vs, s _ _ h1, h2⟩
/-- what a run's part hands back: (how, now) -/
def RunPost (G : Hp) (r : Addr) (Q : VK) (how : Int) (s : Values) (rs : List (Int × Int)) : Prop := ∀ (G' H' : Hp) (p b : Addr), Same G G' → RH G' H' r rs → G' p = some (.tup [.int how, .ref b]) → G' b = some (.lst (iV s)) → Q (.ref p) H'
/-- (how, now) is made -/
theorem RunPost.make {G G' H' : Hp} {r b p : Addr} {Q : VK} {how : Int} {s : Values} {rs : List (Int × Int)} (k : RunPost G r Q how s rs) (sg : Same G G') (h : RH G' H' r rs) (hb : G' b = some (.lst (iV s))) (hp : H' p = none) : Q (.ref p) (upd H' p (.tup [.int how, .ref b])) :=
  k _ _ p b (sg.trans (Same.new (h.same.free hp))) (h.new hp) upd_same ((upd_ne (ne_of_none hb (h.same.free hp))).trans hb)
def spMoveRun : Sp := fun vs H Q _ => ∃ (G : Hp) (at_ : Nat) (m : V) (a r : Addr) (mv : Mv) (s : Values) (most : Nat) (rs : List (Int × Int)), vs = [.int (at_ : Int), m, .ref a, .int (most : Int), .ref r] ∧ RH G H r rs ∧ MoveAt G m mv ∧ G a = some (.lst (iV s)) ∧
  OkMove s.length mv ∧ s.length ≤ 1000 ∧ rs.length ≤ most ∧ most ≤ 2000 ∧ RunPost G r Q (pieceM at_ (most - rs.length) s (.move mv)).1 (pieceM at_ (most - rs.length) s (.move mv)).2.1 (rs ++ (pieceM at_ (most - rs.length) s (.move mv)).2.2)
theorem c_move_run (T : Txt K mg A) : Cal P w K mg base 3 "move_run" spMoveRun [] :=
  cal_mk T.d_move_run sc_move_run bn_move_run (fun vs H Q E h => by
    obtain ⟨_, _, _, _, _, _, _, _, _, rfl, _⟩ := h
    rfl) (fun f cdv A' outer s H vs Q E hr h => by
    refine ⟨_, (pss_cons (ps_if (pt_cmpR op_eq (pe_callB call_len_seq (by rfl) T.b_len PySem.boot_len (pa_cons (pv 4) pa_nil)) (pv 3) (nomark _)) (pss_one (ps_ret (pe_tup (pa_cons pe_int (pa_cons (pv 2) pa_nil))))) pss_nil)
      (pss_cons (ps_set (i := 5) sc_move_run.nd rfl (Or.inl rfl) (pe_c (c_moved T) hr (by decide) (by rfl) (pa_cons (pv 1) (pa_cons (pv 2) pa_nil))))
      (pss_cons (ps_expr (pe_bm PySem.F.plainAttrs_list PySem.F.slot_list_append PySem.F.type_list_append mt_append (pv 4) (pa_cons (pe_tup (pa_cons (pv 0) (pa_cons (pe_un un_neg pe_int) pa_nil))) pa_nil)))
      (pss_cons (ps_if (pt_val (pe_c (c_is_beyond T) hr (by decide) (by rfl) (pa_cons (pv 5) pa_nil))) (pss_one (ps_ret (pe_tup (pa_cons pe_int (pa_cons (pv 5) pa_nil))))) pss_nil)
      (pss_one (ps_ret (pe_tup (pa_cons pe_int (pa_cons (pv 5) pa_nil))))))))), ?_⟩
    obtain ⟨G, at_, m, a, r, mv, s, most, rs, rfl, R, hm, ha, ok, hs, hn, hz, k⟩ := h
    obtain ⟨vs, h1, h2⟩ := id R.at_
    have hl : vs.length = rs.length := h2.length
    refine ⟨_, rfl, r, _, rfl, .inl (SqL.of h1), _, rfl, rfl, _, rfl, ifD (fun e => ?_) (fun e => ?_)⟩
    · have e := V.int.inj e
      have en : most - rs.length = 0 := by omega
      rw [en] at k
      have k : RunPost G r Q 2 s (rs ++ []) := k
      rw [List.append_nil] at k
      exact ⟨_, rfl, by show 2 ≤ sizeLine; exact small (by decide), fun p hp => k.make (Same.refl G) R ha hp⟩
    · have en : most - rs.length ≠ 0 := fun q => e (int_eq (by omega))
      have e1 : pieceM at_ (most - rs.length) s (.move mv) = (if VaaclBase.isBeyond (VaaclBase.moved mv s) = true then 1 else 0, VaaclBase.moved mv s, [((at_ : Int), -1)]) := if_neg en
      rw [e1] at k
      refine ⟨_, rfl, _, rfl, m, a, mv, s, rfl, hm.mono R.same, R.same _ _ ha, fun g hg i hi => (ok.2 g hg).1 i hi, by rw [ok.1]; exact hs, fun q hq => ?_⟩
      have R1 := R.new (o := .lst (iV (VaaclBase.moved mv s))) hq
      have s1 : Same G (upd G q (.lst (iV (VaaclBase.moved mv s)))) := Same.new (R.same.free hq)
      have hq1 : upd G q (.lst (iV (VaaclBase.moved mv s))) q = some (.lst (iV (VaaclBase.moved mv s))) := upd_same
      generalize upd G q (.lst (iV (VaaclBase.moved mv s))) = G1 at R1 s1 hq1
      generalize upd H q (.lst (iV (VaaclBase.moved mv s))) = H1 at R1 ⊢
      obtain ⟨vs1, h3, h4⟩ := id R1.at_
      refine ⟨_, rfl, .inl ⟨rfl, _, SqL.of h3⟩, _, rfl, _, rfl, by show 2 ≤ sizeLine; exact small (by decide), fun p hp => ?_⟩
      have R2 := R1.new (o := .tup [.int (at_ : Int), .int (-1)]) hp
      have s2 : Same G1 (upd G1 p (.tup [.int (at_ : Int), .int (-1)])) := Same.new (R1.same.free hp)
      have hp2 : upd G1 p (.tup [.int (at_ : Int), .int (-1)]) p = some (.tup [.int (at_ : Int), .int (-1)]) := upd_same
      generalize upd G1 p (.tup [.int (at_ : Int), .int (-1)]) = G2 at R2 s2 hp2
      obtain ⟨vs2, h5, hl5, R3⟩ := R2.app (p := p) (x := ((at_ : Int), -1)) hp2
      refine ⟨r, vs2, _, rfl, rfl, h5, smallL (by omega), ?_⟩
      have hq2 := s2 _ _ hq1
      refine ⟨_, rfl, q, _, rfl, R3.same _ _ hq2, _, rfl, ?_⟩
      refine ifB (fun e2 => ?_) (fun e2 => ?_)
      · rw [if_pos e2] at k
        exact ⟨_, rfl, by show 2 ≤ sizeLine; exact small (by decide), fun p hp => RunPost.make k (s1.trans s2) R3 hq2 hp⟩
      · rw [if_neg (by rw [e2]; exact Bool.false_ne_true)] at k
        exact ⟨_, rfl, by show 2 ≤ sizeLine; exact small (by decide), fun p hp => RunPost.make k (s1.trans s2) R3 hq2 hp⟩)
def spLoopRun : Sp := fun vs H Q _ => ∃ (G : Hp) (at_ : Nat) (b : V) (a r : Addr) (l : Loop) (s : Values) (most : Nat) (rs : List (Int × Int)), vs = [.int (at_ : Int), b, .ref a, .int (most : Int), .ref r] ∧ RH G H r rs ∧ BranchesAt G b l ∧ G a = some (.lst (iV s)) ∧
  OkBranches s.length l ∧ s.length ≤ 1000 ∧ rs.length ≤ most ∧ most ≤ 2000 ∧ RunPost G r Q (pieceM at_ (most - rs.length) s (.loop l)).1 (pieceM at_ (most - rs.length) s (.loop l)).2.1 (rs ++ (pieceM at_ (most - rs.length) s (.loop l)).2.2)
theorem orNone_neg {o : Option Nat} (h : o = none) : VaaclBase.orNone o = -1 := by
  rw [h]
  rfl
theorem orNone_nn {o : Option Nat} {i : Nat} (h : o = some i) : VaaclBase.orNone o = (i : Int) := by
  rw [h]
  rfl
theorem chosen_at {l : Loop} {s : Values} {i : Nat} (h : VaaclBase.chosen l s = some i) : ∃ b, l[i]? = some b ∧ VaaclBase.branchAt l i = b := by
  unfold VaaclBase.chosen at h
  rw [List.findIdx?_eq_some_iff_getElem] at h
  obtain ⟨h1, _⟩ := h
  refine ⟨l[i], by simp [h1], ?_⟩
  unfold VaaclBase.branchAt
  rw [List.getElem?_eq_getElem h1]
  rfl
theorem moved_len (m : Mv) (s : Values) : (VaaclBase.moved m s).length = m.length := List.length_map ..
/-- one round of the loop, then the rest -/
theorem loopM_step {l : Loop} {n i : Nat} {s : Values} (h : VaaclBase.chosen l s = some i) : loopM l (n + 1) s = (let t := VaaclBase.moved (VaaclBase.branchAt l i).move s
    if VaaclBase.isBeyond t = true then (1, t, [i]) else ((loopM l n t).1, (loopM l n t).2.1, i :: (loopM l n t).2.2)) := by
  rw [loopM]
  rw [h]
theorem loopM_none {l : Loop} {n : Nat} {s : Values} (h : VaaclBase.chosen l s = none) : loopM l n s = (0, s, []) := by
  cases n <;> (unfold loopM; rw [h])
theorem loopM_zero {l : Loop} {i : Nat} {s : Values} (h : VaaclBase.chosen l s = some i) : loopM l 0 s = (2, s, []) := by
  unfold loopM
  rw [h]
theorem c_loop_run (T : Txt K mg A) : Cal P w K mg base 4 "loop_run" spLoopRun [] :=
  cal_mk T.d_loop_run sc_loop_run bn_loop_run (fun vs H Q E h => by
    obtain ⟨_, _, _, _, _, _, _, _, _, rfl, _⟩ := h
    rfl) (fun f cdv A' outer s H vs Q E hr h => by
    refine ⟨_, (pss_cons (ps_set (i := 5) sc_loop_run.nd rfl (Or.inl rfl) (pv 2))
      (pss_cons (ps_set (i := 6) sc_loop_run.nd rfl (Or.inl rfl) (pe_c (c_chosen T) hr (by decide) (by rfl) (pa_cons (pv 1) (pa_cons (pv 5) pa_nil))))
      (pss_cons (ps_while PassesOwn.never (PW.pt (pw_and (pt_cmpR op_ge (pv 6) pe_int (nomark _)) (pw_and1 (pt_cmpR op_lt (pe_callB call_len_seq (by rfl) T.b_len PySem.boot_len (pa_cons (pv 4) pa_nil)) (pv 3) (nomark _))))) (pss_cons (ps_set (i := 5) sc_loop_run.nd rfl (Or.inl rfl) (pe_c (c_moved T) hr (by decide) (by rfl) (pa_cons (pe_ix ix_tup (pe_ix ix_list (pv 1) (pv 6) (fun _ _ => rfl)) pe_int (fun _ _ => rfl)) (pa_cons (pv 5) pa_nil))))
      (pss_cons (ps_expr (pe_bm PySem.F.plainAttrs_list PySem.F.slot_list_append PySem.F.type_list_append mt_append (pv 4) (pa_cons (pe_tup (pa_cons (pv 0) (pa_cons (pv 6) pa_nil))) pa_nil)))
      (pss_cons (ps_if (pt_val (pe_c (c_is_beyond T) hr (by decide) (by rfl) (pa_cons (pv 5) pa_nil))) (pss_one (ps_ret (pe_tup (pa_cons pe_int (pa_cons (pv 5) pa_nil))))) pss_nil)
      (pss_one (ps_set (i := 6) sc_loop_run.nd rfl (Or.inl rfl) (pe_c (c_chosen T) hr (by decide) (by rfl) (pa_cons (pv 1) (pa_cons (pv 5) pa_nil)))))))))
      (pss_cons (ps_if (pt_cmpR op_ge (pv 6) pe_int (nomark _)) (pss_one (ps_ret (pe_tup (pa_cons pe_int (pa_cons (pv 5) pa_nil))))) pss_nil)
      (pss_one (ps_ret (pe_tup (pa_cons pe_int (pa_cons (pv 5) pa_nil))))))))), ?_⟩
    obtain ⟨G, at_, b, a, r, l, s, most, rs, rfl, R, hb, ha, ok, hs, hn, hz, k⟩ := h
    have okg : ∀ x ∈ l, OkGuard s.length x.guard := fun x hx => (ok.2.2 x hx).1
    refine ⟨_, rfl, _, rfl, _, rfl, b, a, l, s, rfl, hb.mono R.same, R.same _ _ ha, okg, Nat.le_trans ok.2.1 (by decide), ?_⟩
    -- behind m rounds of the rest: the heap, the values, what is still to come
    refine ⟨fun m σ H' => ∃ (G' : Hp) (c : Addr) (s' : Values) (rs' : List (Int × Int)), σ = [some (.int (at_ : Int)), some b, some (.ref a), some (.int (most : Int)), some (.ref r), some (.ref c), some (.int (VaaclBase.orNone (VaaclBase.chosen l s')))] ∧
        Same G G' ∧ RH G' H' r rs' ∧ G' c = some (.lst (iV s')) ∧ s'.length = s.length ∧ rs'.length + m = most ∧ RunPost G r Q (loopM l m s').1 (loopM l m s').2.1 (rs' ++ (loopM l m s').2.2.map fun (i : Nat) => ((at_ : Int), (i : Int))),
      ⟨most - rs.length, G, a, s, rs, rfl, Same.refl G, R, ha, rfl, by omega, k⟩, ?_⟩
    rintro m σ H' ⟨G', c, s', rs', rfl, sg, R', hc, hsl, hm, k'⟩
    obtain ⟨vs1, h1, h2⟩ := id R'.at_
    have hl1 : vs1.length = rs'.length := h2.length
    have okg' : ∀ x ∈ l, OkGuard s'.length x.guard := fun x hx => by
      rw [hsl]
      exact okg x hx
    cases hch : VaaclBase.chosen l s' with
    | none =>
      refine ⟨_, rfl, _, _, rfl, rfl, _, rfl, ifF (by decide) ?_⟩
      refine ⟨_, rfl, _, _, rfl, rfl, _, rfl, ifF (by decide) ?_⟩
      rw [loopM_none hch] at k'
      have k' : RunPost G r Q 0 s' (rs' ++ []) := k'
      rw [List.append_nil] at k'
      exact ⟨_, rfl, by show 2 ≤ sizeLine; exact small (by decide), fun p hp => RunPost.make k' sg R' hc hp⟩
    | some i =>
      have hi0 : (0 : Int) ≤ VaaclBase.orNone (some i) := Int.natCast_nonneg i
      refine ⟨_, rfl, _, _, rfl, rfl, _, rfl, ifT hi0 ?_⟩
      refine ⟨_, rfl, r, _, rfl, .inl (SqL.of h1), _, rfl, _, _, rfl, rfl, _, rfl, ifD (fun hlt => ?_) (fun hlt => ?_)⟩
      · obtain ⟨m', rfl⟩ : ∃ m', m = m' + 1 := ⟨m - 1, by omega⟩
        refine ⟨_, fun σ' H' q => ⟨m', Nat.lt_succ_self _, q⟩, ?_⟩
        obtain ⟨br, hbr, ebr⟩ := chosen_at hch
        obtain ⟨ba, bvs, rfl, hB, hp⟩ := hb
        obtain ⟨bv, hbv, t, gd, mv, rfl, ht, hg, hmv⟩ := pair_at' hp hbr
        have okm : OkMove s.length br.move := (ok.2.2 br (mem_at hbr)).2
        refine ⟨_, rfl, _, rfl, ba, _, _, _, rfl, rfl, SqL.of (R'.same _ _ (sg _ _ hB)), atI_nat hbv, t, _, (1 : Int), mv, rfl, rfl, SqT.of (R'.same _ _ (sg _ _ ht)), rfl, _, rfl, ?_⟩
        refine ⟨mv, c, br.move, s', rfl, (hmv.mono sg).mono R'.same, R'.same _ _ hc, fun g hg i hi => by rw [hsl]; exact (okm.2 g hg).1 i hi, by rw [okm.1]; exact hs, fun q hq => ?_⟩
        have R1 := R'.new (o := .lst (iV (VaaclBase.moved br.move s'))) hq
        have s1 : Same G' (upd G' q (.lst (iV (VaaclBase.moved br.move s')))) := Same.new (R'.same.free hq)
        have hq1 : upd G' q (.lst (iV (VaaclBase.moved br.move s'))) q = some (.lst (iV (VaaclBase.moved br.move s'))) := upd_same
        generalize upd G' q (.lst (iV (VaaclBase.moved br.move s'))) = G1 at R1 s1 hq1
        generalize upd H' q (.lst (iV (VaaclBase.moved br.move s'))) = H1 at R1 ⊢
        obtain ⟨vs1, h3, h4⟩ := id R1.at_
        refine ⟨_, rfl, .inl ⟨rfl, _, SqL.of h3⟩, _, rfl, _, rfl, by show 2 ≤ sizeLine; exact small (by decide), fun p hp => ?_⟩
        have R2 := R1.new (o := .tup [.int (at_ : Int), .int (i : Int)]) hp
        have s2 : Same G1 (upd G1 p (.tup [.int (at_ : Int), .int (i : Int)])) := Same.new (R1.same.free hp)
        have hp2 : upd G1 p (.tup [.int (at_ : Int), .int (i : Int)]) p = some (.tup [.int (at_ : Int), .int (i : Int)]) := upd_same
        generalize upd G1 p (.tup [.int (at_ : Int), .int (i : Int)]) = G2 at R2 s2 hp2
        obtain ⟨vs2, h5, hl5, R3⟩ := R2.app (p := p) (x := ((at_ : Int), (i : Int))) hp2
        refine ⟨r, vs2, _, rfl, rfl, h5, smallL (by omega), ?_⟩
        have hq2 := s2 _ _ hq1
        have sg2 := (sg.trans s1).trans s2
        rw [loopM_step hch, ebr] at k'
        refine ⟨_, rfl, q, _, rfl, R3.same _ _ hq2, _, rfl, ?_⟩
        refine ifB (fun e2 => ?_) (fun e2 => ?_)
        · dsimp only at k'
          rw [if_pos e2] at k'
          exact ⟨_, rfl, by show 2 ≤ sizeLine; exact small (by decide), fun p hp => RunPost.make k' sg2 R3 hq2 hp⟩
        · dsimp only at k'
          rw [if_neg (by rw [e2]; exact Bool.false_ne_true)] at k'
          have hl' : (VaaclBase.moved br.move s').length = s.length := by rw [moved_len, okm.1]
          refine ⟨_, rfl, _, rfl, .ref ba, q, l, VaaclBase.moved br.move s', rfl, ?_, R3.same _ _ hq2, fun x hx => by rw [hl']; exact okg x hx, Nat.le_trans ok.2.1 (by decide), ?_⟩
          · exact BranchesAt.mono (sg2.trans R3.same) _ _ ⟨ba, bvs, rfl, hB, ‹Paired (BranchAt G) bvs l›⟩
          · refine ⟨G2, q, VaaclBase.moved br.move s', rs' ++ [((at_ : Int), (i : Int))], rfl, sg2, R3, hq2, hl', by rw [List.length_append, List.length_singleton]; omega, ?_⟩
            have k' : RunPost G r Q (loopM l m' (VaaclBase.moved br.move s')).1 (loopM l m' (VaaclBase.moved br.move s')).2.1 (rs' ++ (i :: (loopM l m' (VaaclBase.moved br.move s')).2.2).map fun (i : Nat) => ((at_ : Int), (i : Int))) := k'
            rw [List.map_cons, List.append_cons] at k'
            exact k'
      · obtain rfl : m = 0 := by omega
        refine ⟨_, rfl, _, _, rfl, rfl, _, rfl, ifT hi0 ?_⟩
        rw [loopM_zero hch] at k'
        have k' : RunPost G r Q 2 s' (rs' ++ []) := k'
        rw [List.append_nil] at k'
        exact ⟨_, rfl, by show 2 ≤ sizeLine; exact small (by decide), fun p hp => RunPost.make k' sg R' hc hp⟩)
end CL

set_option Elab.async false
set_option linter.all false
set_option maxRecDepth 100000
set_option maxHeartbeats 4000000
namespace CL
open PySem PySem.Spec PyProof.Rows L2
open C8 (Cal Met Mak pe_c pe_mk pe_mt pe_mt0 pe_gc)
open VaaclBase (Values Test Guard Branch Loop Piece okTest)
variable {P : PySem.Program} {w : World} {K : PySem.W.Frag} {mg : Str → Option Value} {base : Heap} {A : Ad}
def spPieceRun : Sp := fun vs H Q _ => ∃ (G : Hp) (at_ : Nat) (b : V) (a r : Addr) (p : Piece) (s : Values) (most : Nat) (rs : List (Int × Int)), vs = [.int (at_ : Int), b, .ref a, .int (most : Int), .ref r] ∧ RH G H r rs ∧ PieceAt G b p ∧ G a = some (.lst (iV s)) ∧
  OkPiece s.length p ∧ s.length ≤ 1000 ∧ rs.length ≤ most ∧ most ≤ 2000 ∧ RunPost G r Q (pieceM at_ (most - rs.length) s p).1 (pieceM at_ (most - rs.length) s p).2.1 (rs ++ (pieceM at_ (most - rs.length) s p).2.2)
theorem c_piece_run (T : Txt K mg A) : Cal P w K mg base 5 "piece_run" spPieceRun [] :=
  cal_mk T.d_piece_run sc_piece_run bn_piece_run (fun vs H Q E h => by
    obtain ⟨_, _, _, _, _, _, _, _, _, rfl, _⟩ := h
    rfl) (fun f cdv A' outer s H vs Q E hr h => by
    refine ⟨_, (pss_cons (ps_asg (pv 1) (pg_tup (by rfl) (pgs_cons (pg_name (i := 5) sc_piece_run.nd rfl (Or.inl rfl)) (pgs_cons (pg_name (i := 6) sc_piece_run.nd rfl (Or.inl rfl)) pgs_nil))))
      (pss_cons (ps_if (pt_cmpR op_eq (pv 5) pe_int (nomark _)) (pss_one (ps_ret (pe_c (c_move_run T) hr (by decide) (by rfl) (pa_cons (pv 0) (pa_cons (pe_ix ix_tup (pe_ix ix_list (pv 6) pe_int (fun _ _ => rfl)) pe_int (fun _ _ => rfl)) (pa_cons (pv 2) (pa_cons (pv 3) (pa_cons (pv 4) pa_nil)))))))) pss_nil)
      (pss_one (ps_ret (pe_c (c_loop_run T) hr (by decide) (by rfl) (pa_cons (pv 0) (pa_cons (pv 6) (pa_cons (pv 2) (pa_cons (pv 3) (pa_cons (pv 4) pa_nil)))))))))), ?_⟩
    obtain ⟨G, at_, b, a, r, p, s, most, rs, rfl, R, ⟨pa, bl, rfl, hpa, hbl⟩, ha, ok, hs, hn, hz, k⟩ := h
    refine ⟨_, rfl, pa, _, rfl, SqT.of (R.same _ _ hpa), rfl, _, _, rfl, _, _, rfl, rfl, ?_⟩
    cases p with
    | move m =>
      refine ⟨_, rfl, rfl, _, rfl, ifT rfl ?_⟩
      obtain ⟨ba, bvs, rfl, hB, hp⟩ := hbl
      obtain ⟨bv, hbv, t, gd, mv, rfl, ht, hg, hmv⟩ := pair_at' (i := 0) (y := (⟨[], m⟩ : Branch)) hp rfl
      have okm : OkMove s.length m := (ok.2.2 ⟨[], m⟩ (List.mem_cons_self)).2
      refine ⟨_, rfl, _, rfl, ba, _, (0 : Int), _, rfl, rfl, SqL.of (R.same _ _ hB), atI_nat hbv, t, _, (1 : Int), mv, rfl, rfl, SqT.of (R.same _ _ ht), rfl, _, rfl, _, rfl, _, rfl, ?_⟩
      exact ⟨G, at_, mv, a, r, m, s, most, rs, rfl, R, hmv, ha, okm, hs, hn, hz, k⟩
    | loop l =>
      refine ⟨_, rfl, rfl, _, rfl, ifF (int_ne (i := 1) (by decide)) ?_⟩
      exact ⟨_, rfl, _, rfl, _, rfl, _, rfl, _, rfl, G, at_, bl, a, r, l, s, most, rs, rfl, R, hbl, ha, ok, hs, hn, hz, k⟩)
theorem pieceM_vlen {at_ n : Nat} {s : Values} {p : Piece} (ok : OkPiece s.length p) : (pieceM at_ n s p).2.1.length = s.length := by
  cases p with
  | move m =>
    have okm : OkMove s.length m := (ok.2.2 ⟨[], m⟩ (List.mem_cons_self)).2
    show ((if n = 0 then (2, s, []) else (if VaaclBase.isBeyond (VaaclBase.moved m s) = true then 1 else 0, VaaclBase.moved m s, [((at_ : Int), (-1 : Int))]) : Int × Values × List (Int × Int))).2.1.length = s.length
    split
    · rfl
    · show (VaaclBase.moved m s).length = s.length
      rw [moved_len, okm.1]
  | loop l =>
    show (loopM l n s).2.1.length = s.length
    have : ∀ (n : Nat) (s' : Values), s'.length = s.length → (loopM l n s').2.1.length = s.length := by
      intro n
      induction n with
      | zero =>
        intro s' h
        unfold loopM
        split <;> exact h
      | succ n ih =>
        intro s' h
        cases hc : VaaclBase.chosen l s' with
        | none =>
          rw [loopM_none hc]
          exact h
        | some i =>
          rw [loopM_step hc]
          obtain ⟨b, hb, e⟩ := chosen_at hc
          have h' : (VaaclBase.moved (VaaclBase.branchAt l i).move s').length = s.length := by
            rw [moved_len, e]
            exact (ok.2.2 b (mem_at hb)).2.1
          dsimp only
          split
          · exact h'
          · exact ih _ h'
    exact this n s rfl
/-- what a whole run hands back: (how, now, rounds) -/
def RunEnd (H : Hp) (Q : VK) (o : Int × Values × List (Int × Int)) : Prop := ∀ (H' : Hp) (p b r : Addr), Same H H' → H' p = some (.tup [.int o.1, .ref b, .ref r]) → H' b = some (.lst (iV o.2.1)) → (∃ vs, H' r = some (.lst vs) ∧ Paired (RoundAt H') vs o.2.2) → Q (.ref p) H'
def spRun : Sp := fun vs H Q _ => ∃ (b : V) (a : Addr) (ps : List Piece) (s : Values) (most : Nat), vs = [b, .ref a, .int (most : Int)] ∧ PiecesAt H b ps ∧ H a = some (.lst (iV s)) ∧ OkPieces s.length ps ∧ s.length ≤ 1000 ∧ most ≤ 2000 ∧ RunEnd H Q (runM ps 0 most s)
theorem c_run (T : Txt K mg A) : Cal P w K mg base 6 "run" spRun [] :=
  cal_mk T.d_run sc_run bn_run (fun vs H Q E h => by
    obtain ⟨_, _, _, _, _, rfl, _⟩ := h
    rfl) (fun f cdv A' outer s H vs Q E hr h => by
    refine ⟨_, (pss_cons (ps_set (i := 3) sc_run.nd rfl (Or.inl rfl) (pv 1))
      (pss_cons (ps_set (i := 4) sc_run.nd rfl (Or.inl rfl) (pe_lst pa_nil))
      (pss_cons (ps_for PassesOwn.never rfl (pi_range1 (by rfl) T.b_range (pa_cons (pe_callB call_len_seq (by rfl) T.b_len PySem.boot_len (pa_cons (pv 0) pa_nil)) pa_nil)) (pg_name (i := 5) sc_run.nd rfl (Or.inl rfl)) (pss_cons (ps_asg (pe_c (c_piece_run T) hr (by decide) (by rfl) (pa_cons (pv 5) (pa_cons (pe_ix ix_list (pv 0) (pv 5) (fun _ _ => rfl)) (pa_cons (pv 3) (pa_cons (pv 2) (pa_cons (pv 4) pa_nil)))))) (pg_tup (by rfl) (pgs_cons (pg_name (i := 6) sc_run.nd rfl (Or.inl rfl)) (pgs_cons (pg_name (i := 3) sc_run.nd rfl (Or.inl rfl)) pgs_nil))))
      (pss_one (ps_if (pt_cmpR op_ne (pv 6) pe_int (nomark _)) (pss_one (ps_ret (pe_tup (pa_cons (pv 6) (pa_cons (pv 3) (pa_cons (pv 4) pa_nil)))))) pss_nil))))
      (pss_one (ps_ret (pe_tup (pa_cons pe_int (pa_cons (pv 3) (pa_cons (pv 4) pa_nil))))))))), ?_⟩
    obtain ⟨b, a, ps, s, most, rfl, ⟨ba, bvs, rfl, hb, hp⟩, ha, ok, hs, hz, k⟩ := h
    have hl : bvs.length = ps.length := hp.length
    have h5 := ok.1
    refine ⟨_, rfl, by show 0 ≤ sizeLine; exact Nat.zero_le _, fun r hr' => ?_⟩
    have R0 : RH H (upd H r (.lst [])) r [] := ⟨Same.new hr', hr', [], upd_same, .nil⟩
    have ro := rng_ok (n := bvs.length) (by omega)
    refine ⟨_, rfl, ba, _, rfl, .inl (SqL.of (R0.same _ _ hb)), _, rfl, ro.1, ro.2, for_range (lo := 0) (fun i σ H' => ∃ (G' : Hp) (c : Addr) (s' : Values) (rs' : List (Int × Int)) (x y : Option V), σ = [some (.ref ba), some (.ref a), some (.int (most : Int)), some (.ref c), some (.ref r), x, y] ∧
        Same H G' ∧ RH G' H' r rs' ∧ G' c = some (.lst (iV s')) ∧ s'.length = s.length ∧ rs'.length ≤ most ∧ runM ps 0 most s = ((runM (ps.drop i) i (most - rs'.length) s').1, (runM (ps.drop i) i (most - rs'.length) s').2.1, rs' ++ (runM (ps.drop i) i (most - rs'.length) s').2.2))
      ⟨H, a, s, [], none, none, rfl, Same.refl H, R0, ha, rfl, Nat.zero_le _, rfl⟩ ?_ ?_⟩
    · rintro i σ H' hi ⟨G', c, s', rs', x, y, rfl, sg, R', hc, hsl, hm, e⟩
      have hi' : i < bvs.length := by omega
      obtain ⟨bv, hbv⟩ := get_lt hi'
      obtain ⟨pc, hpc, hP⟩ := pair_at hp hbv
      have okp : OkPiece s'.length pc := by
        rw [hsl]
        exact ok.2 pc (mem_at hpc)
      rw [drop_at hpc] at e
      refine ⟨_, rfl, _, rfl, _, rfl, ba, _, _, _, rfl, rfl, SqL.of (R'.same _ _ (sg _ _ hb)), at0 hbv, _, rfl, _, rfl, _, rfl, ?_⟩
      rw [Int.zero_add]
      refine ⟨G', i, bv, c, r, pc, s', most, rs', rfl, R', PieceAt.mono sg _ _ hP, hc, okp, by omega, hm, hz, fun G2 H2 p b2 s2 R2 ht hb2 => ?_⟩
      have hlen := pieceM_len i (most - rs'.length) s' pc
      have hvl := pieceM_vlen (at_ := i) (n := most - rs'.length) okp
      refine ⟨p, _, rfl, SqT.of (R2.same _ _ ht), rfl, _, _, rfl, _, _, rfl, rfl, ?_⟩
      have e2 : runM (pc :: ps.drop (i + 1)) i (most - rs'.length) s' = (let o := pieceM i (most - rs'.length) s' pc
        if o.1 ≠ 0 then o else ((runM (ps.drop (i + 1)) (i + 1) ((most - rs'.length) - o.2.2.length) o.2.1).1, (runM (ps.drop (i + 1)) (i + 1) ((most - rs'.length) - o.2.2.length) o.2.1).2.1, o.2.2 ++ (runM (ps.drop (i + 1)) (i + 1) ((most - rs'.length) - o.2.2.length) o.2.1).2.2)) := rfl
      rw [e2] at e
      dsimp only at e
      generalize pieceM i (most - rs'.length) s' pc = o at e R2 ht hb2 hlen hvl
      refine ⟨_, rfl, rfl, _, rfl, ?_⟩
      by_cases h0 : o.1 = 0
      · refine ifNF (int_eq h0) ?_
        rw [if_neg (by simp [h0])] at e
        refine ⟨G2, b2, o.2.1, rs' ++ o.2.2, _, _, rfl, sg.trans s2, R2, hb2, hvl.trans hsl, by rw [List.length_append]; omega, ?_⟩
        rw [e]
        have e3 : most - rs'.length - o.2.2.length = most - (rs' ++ o.2.2).length := by
          rw [List.length_append]
          omega
        rw [e3]
        dsimp only
        rw [List.append_assoc]
      · refine ifNT (fun q => h0 (V.int.inj q)) ?_
        rw [if_pos h0] at e
        rw [e] at k
        refine ⟨_, rfl, _, rfl, _, rfl, by show 3 ≤ sizeLine; exact small (by decide), fun q hq => ?_⟩
        have s3 := Same.new (o := .tup [.int o.1, .ref b2, .ref r]) hq
        obtain ⟨vs, h1, h2⟩ := R2.at_
        exact k _ q b2 r (((sg.trans s2).trans R2.same).trans s3) upd_same (s3 _ _ (R2.same _ _ hb2)) ⟨vs, s3 _ _ h1, Paired.mapP h2 (RoundAt.mono (R2.same.trans s3))⟩
    · rintro σ H' ⟨G', c, s', rs', x, y, rfl, sg, R', hc, hsl, hm, e⟩
      have hz : ps.drop ((bvs.length : Nat) : Int).toNat = [] := by
        rw [Int.toNat_natCast, hl]
        exact List.drop_length
      rw [hz] at e
      have e : runM ps 0 most s = (0, s', rs' ++ []) := e
      rw [List.append_nil] at e
      rw [e] at k
      refine ⟨_, rfl, _, rfl, by show 3 ≤ sizeLine; exact small (by decide), fun q hq => ?_⟩
      have s3 := Same.new (o := .tup [.int 0, .ref c, .ref r]) hq
      obtain ⟨vs, h1, h2⟩ := R'.at_
      exact k _ q c r ((sg.trans R'.same).trans s3) upd_same (s3 _ _ (R'.same _ _ hc)) ⟨vs, s3 _ _ h1, Paired.mapP h2 (RoundAt.mono (R'.same.trans s3))⟩)
end CL

set_option Elab.async false
set_option linter.all false
set_option maxRecDepth 100000
set_option maxHeartbeats 4000000
namespace CL
open PySem PySem.Spec PyProof.Rows L2
open C8 (Cal Met Mak pe_c pe_mk pe_mt pe_mt0 pe_gc)
open VaaclBase (Values Test Guard Branch Loop Piece okTest)
variable {P : PySem.Program} {w : World} {K : PySem.W.Frag} {mg : Str → Option Value} {base : Heap} {A : Ad}
/-! ## listed.py: told -/
theorem flat_len {α β : Type} {f : α → List β} {c : Nat} : ∀ {l : List α}, (∀ x ∈ l, (f x).length ≤ c) → (l.flatMap f).length ≤ c * l.length
  | [], _ => Nat.zero_le _
  | a :: l, h => by
    have h1 := h a List.mem_cons_self
    have h2 := flat_len (l := l) fun x hx => h x (List.mem_cons_of_mem _ hx)
    rw [List.flatMap_cons, List.length_append, List.length_cons, Nat.mul_succ]
    omega
theorem flat_take {α β : Type} {f : α → List β} {l : List α} {i : Nat} {x : α} (h : l[i]? = some x) : (l.take (i + 1)).flatMap f = (l.take i).flatMap f ++ f x := by
  rw [take_at h, List.flatMap_append, List.flatMap_cons, List.flatMap_nil, List.append_nil]
theorem flat_take_len {α β : Type} {f : α → List β} {c i : Nat} {l : List α} (h : ∀ x ∈ l, (f x).length ≤ c) : ((l.take i).flatMap f).length ≤ c * l.length :=
  Nat.le_trans (flat_len (c := c) fun x hx => h x (List.mem_of_mem_take hx)) (Nat.mul_le_mul_left _ (by rw [List.length_take]; omega))
/-- a new list of ints is handed back; all else stands -/
def NewInts (H : Hp) (Q : VK) (l : List Int) : Prop := ∀ (H' : Hp) (p : Addr), Same H H' → H p = none → H' p = some (.lst (iV l)) → Q (.ref p) H'
theorem flatMove_len {m : Mv} : (VaaclBase.flatMove m).length ≤ 3 * m.length := flat_len fun g _ => by
  obtain ⟨src, add⟩ := g
  cases src
  · show 2 ≤ 3
    omega
  · show 3 ≤ 3
    omega
def spMoveTold : Sp := fun vs H Q _ => ∃ (m : V) (mv : Mv), vs = [m] ∧ MoveAt H m mv ∧ mv.length ≤ 1000 ∧ NewInts H Q (VaaclBase.flatMove mv)
theorem c_move_told (T : Txt K mg A) : Cal P w K mg base 1 "move_told" spMoveTold [] :=
  cal_mk T.d_move_told sc_move_told bn_move_told (fun vs H Q E h => by
    obtain ⟨_, _, rfl, _⟩ := h
    rfl) (fun f cdv A' outer s H vs Q E hr h => by
    refine ⟨_, (pss_cons (ps_set (i := 1) sc_move_told.nd rfl (Or.inl rfl) (pe_lst pa_nil))
      (pss_cons (ps_for PassesOwn.never rfl (pi_list (pv 0)) (pg_tup (by rfl) (pgs_cons (pg_name (i := 2) sc_move_told.nd rfl (Or.inl rfl)) (pgs_cons (pg_name (i := 3) sc_move_told.nd rfl (Or.inl rfl)) (pgs_cons (pg_name (i := 4) sc_move_told.nd rfl (Or.inl rfl)) pgs_nil)))) (pss_one (ps_if (pt_cmpR op_eq (pv 2) pe_int (nomark _)) (pss_one (ps_expr (pe_bm PySem.F.plainAttrs_list PySem.F.slot_list_extend PySem.F.type_list_extend mt_extend (pv 1) (pa_cons (pe_lst (pa_cons pe_int (pa_cons (pv 4) pa_nil))) pa_nil)))) (pss_one (ps_expr (pe_bm PySem.F.plainAttrs_list PySem.F.slot_list_extend PySem.F.type_list_extend mt_extend (pv 1) (pa_cons (pe_lst (pa_cons pe_int (pa_cons (pv 3) (pa_cons (pv 4) pa_nil)))) pa_nil)))))))
      (pss_one (ps_ret (pv 1))))), ?_⟩
    obtain ⟨m, mv, rfl, ⟨ma, mvs, rfl, hm, hp⟩, hz, k⟩ := h
    have hl : mvs.length = mv.length := hp.length
    have h3 : ∀ g ∈ mv, (VaaclBase.flatGiven g).length ≤ 3 := fun g _ => by
      obtain ⟨src, add⟩ := g
      cases src
      · show 2 ≤ 3
        omega
      · show 3 ≤ 3
        omega
    refine ⟨by show 0 ≤ sizeLine; exact Nat.zero_le _, fun t ht => ?_⟩
    refine ⟨_, rfl, ma, rfl, ⟨_, SqL.of ((Same.new ht) _ _ hm)⟩, for_list (K := K) (a := ma) (xs := mvs) (fun i σ H' => (∃ x y z, σ = [some (.ref ma), some (.ref t), x, y, z]) ∧ Same H H' ∧ H' t = some (.lst (iV (VaaclBase.flatMove (mv.take i)))))
      ⟨⟨_, _, _, rfl⟩, Same.new ht, upd_same⟩ (fun i σ H' _ ⟨_, s1, _⟩ => SqL.of (s1 _ _ hm)) ?_ ?_⟩
    · rintro i x σ H' hi ⟨⟨x1, y1, z1, rfl⟩, s1, h1⟩
      obtain ⟨gv, hgv, g, rfl, hg⟩ := pair_at hp hi
      have hb := flat_take_len (i := i) h3
      have hf : VaaclBase.flatMove (mv.take (i + 1)) = VaaclBase.flatMove (mv.take i) ++ VaaclBase.flatGiven gv := flat_take (f := VaaclBase.flatGiven) hgv
      obtain ⟨src, add⟩ := gv
      cases src with
      | none =>
        refine ⟨g, _, rfl, SqT.of (s1 _ _ hg), rfl, _, _, rfl, _, _, rfl, _, _, rfl, rfl, ?_⟩
        refine ⟨_, rfl, rfl, _, rfl, ifT rfl ?_⟩
        refine ⟨_, rfl, .inl ⟨rfl, _, SqL.of h1⟩, _, rfl, by show 2 ≤ sizeLine; exact small (by decide), fun q hq => ?_⟩
        have hqt : t ≠ q := ne_of_none h1 hq
        refine ⟨t, q, _, _, rfl, rfl, (upd_ne hqt).trans h1, upd_same, by simp only [List.length_map, VaaclBase.flatMove, List.length_cons, List.length_nil, iV]; exact small (by omega), ?_⟩
        refine ⟨⟨_, _, _, rfl⟩, Same.mut (s1.trans (Same.new hq)) ht, ?_⟩
        rw [upd_same, hf]
        simp only [iV, List.map_append, VaaclBase.flatGiven, List.map_cons, List.map_nil]
      | some j =>
        refine ⟨g, _, rfl, SqT.of (s1 _ _ hg), rfl, _, _, rfl, _, _, rfl, _, _, rfl, rfl, ?_⟩
        refine ⟨_, rfl, rfl, _, rfl, ifF (int_ne (by decide)) ?_⟩
        refine ⟨_, rfl, .inl ⟨rfl, _, SqL.of h1⟩, _, rfl, _, rfl, by show 3 ≤ sizeLine; exact small (by decide), fun q hq => ?_⟩
        have hqt : t ≠ q := ne_of_none h1 hq
        refine ⟨t, q, _, _, rfl, rfl, (upd_ne hqt).trans h1, upd_same, by simp only [List.length_map, VaaclBase.flatMove, List.length_cons, List.length_nil, iV]; exact small (by omega), ?_⟩
        refine ⟨⟨_, _, _, rfl⟩, Same.mut (s1.trans (Same.new hq)) ht, ?_⟩
        rw [upd_same, hf]
        simp only [iV, List.map_append, VaaclBase.flatGiven, List.map_cons, List.map_nil, VaaclBase.int]
    · rintro σ H' ⟨⟨x1, y1, z1, rfl⟩, s1, h1⟩
      rw [hl, List.take_length] at h1
      exact ⟨_, rfl, k _ _ s1 ht h1⟩)
def spTestTold : Sp := fun vs H Q _ => ∃ (t : Addr) (ts : Test), vs = [.ref t] ∧ H t = some (.tup (tT ts)) ∧ NewInts H Q (VaaclBase.flatTest ts)
theorem c_test_told (T : Txt K mg A) : Cal P w K mg base 1 "test_told" spTestTold [] :=
  cal_mk T.d_test_told sc_test_told bn_test_told (fun vs H Q E h => by
    obtain ⟨_, _, rfl, _⟩ := h
    rfl) (fun f cdv A' outer s H vs Q E hr h => by
    refine ⟨_, (pss_cons (ps_asg (pv 0) (pg_tup (by rfl) (pgs_cons (pg_name (i := 1) sc_test_told.nd rfl (Or.inl rfl)) (pgs_cons (pg_name (i := 2) sc_test_told.nd rfl (Or.inl rfl)) (pgs_cons (pg_name (i := 3) sc_test_told.nd rfl (Or.inl rfl)) (pgs_cons (pg_name (i := 4) sc_test_told.nd rfl (Or.inl rfl)) pgs_nil))))))
      (pss_cons (ps_if (pt_cmpR op_lt (pv 1) pe_int (nomark _)) (pss_one (ps_ret (pe_lst (pa_cons (pv 1) (pa_cons (pv 2) (pa_cons (pv 3) pa_nil)))))) pss_nil)
      (pss_one (ps_ret (pe_lst (pa_cons (pv 1) (pa_cons (pv 2) (pa_cons (pv 3) (pa_cons (pv 4) pa_nil))))))))), ?_⟩
    obtain ⟨t, ts, rfl, ht, k⟩ := h
    cases ts with
    | atMost x c =>
      refine ⟨_, rfl, t, _, rfl, SqT.of ht, rfl, _, _, rfl, _, _, rfl, _, _, rfl, _, _, rfl, rfl, ?_⟩
      refine ⟨_, rfl, _, _, rfl, rfl, _, rfl, ifT (by decide) ?_⟩
      exact ⟨_, rfl, _, rfl, _, rfl, by show 3 ≤ sizeLine; exact small (by decide), fun p hp => k _ p (Same.new hp) hp upd_same⟩
    | atLeast x c =>
      refine ⟨_, rfl, t, _, rfl, SqT.of ht, rfl, _, _, rfl, _, _, rfl, _, _, rfl, _, _, rfl, rfl, ?_⟩
      refine ⟨_, rfl, _, _, rfl, rfl, _, rfl, ifT (by decide) ?_⟩
      exact ⟨_, rfl, _, rfl, _, rfl, by show 3 ≤ sizeLine; exact small (by decide), fun p hp => k _ p (Same.new hp) hp upd_same⟩
    | below x y c =>
      refine ⟨_, rfl, t, _, rfl, SqT.of ht, rfl, _, _, rfl, _, _, rfl, _, _, rfl, _, _, rfl, rfl, ?_⟩
      refine ⟨_, rfl, _, _, rfl, rfl, _, rfl, ifF (by decide) ?_⟩
      exact ⟨_, rfl, _, rfl, _, rfl, _, rfl, by show 4 ≤ sizeLine; exact small (by decide), fun p hp => k _ p (Same.new hp) hp upd_same⟩
    | rem x m r =>
      refine ⟨_, rfl, t, _, rfl, SqT.of ht, rfl, _, _, rfl, _, _, rfl, _, _, rfl, _, _, rfl, rfl, ?_⟩
      refine ⟨_, rfl, _, _, rfl, rfl, _, rfl, ifF (by decide) ?_⟩
      exact ⟨_, rfl, _, rfl, _, rfl, _, rfl, by show 4 ≤ sizeLine; exact small (by decide), fun p hp => k _ p (Same.new hp) hp upd_same⟩)
theorem flatTest_len (t : Test) : (VaaclBase.flatTest t).length ≤ 4 := by
  cases t
  · show 3 ≤ 4
    omega
  · show 3 ≤ 4
    omega
  · show 4 ≤ 4
    omega
  · show 4 ≤ 4
    omega
def spBranchTold : Sp := fun vs H Q _ => ∃ (v : V) (b : Branch), vs = [v] ∧ BranchAt H v b ∧ b.guard.length ≤ 1000 ∧ b.move.length ≤ 1000 ∧ NewInts H Q (VaaclBase.flatBranch b)
theorem c_branch_told (T : Txt K mg A) : Cal P w K mg base 2 "branch_told" spBranchTold [] :=
  cal_mk T.d_branch_told sc_branch_told bn_branch_told (fun vs H Q E h => by
    obtain ⟨_, _, rfl, _⟩ := h
    rfl) (fun f cdv A' outer s H vs Q E hr h => by
    refine ⟨_, (pss_cons (ps_asg (pv 0) (pg_tup (by rfl) (pgs_cons (pg_name (i := 1) sc_branch_told.nd rfl (Or.inl rfl)) (pgs_cons (pg_name (i := 2) sc_branch_told.nd rfl (Or.inl rfl)) pgs_nil))))
      (pss_cons (ps_set (i := 3) sc_branch_told.nd rfl (Or.inl rfl) (pe_lst (pa_cons (pe_callB call_len_seq (by rfl) T.b_len PySem.boot_len (pa_cons (pv 1) pa_nil)) pa_nil)))
      (pss_cons (ps_for PassesOwn.never rfl (pi_list (pv 1)) (pg_name (i := 4) sc_branch_told.nd rfl (Or.inl rfl)) (pss_one (ps_expr (pe_bm PySem.F.plainAttrs_list PySem.F.slot_list_extend PySem.F.type_list_extend mt_extend (pv 3) (pa_cons (pe_c (c_test_told T) hr (by decide) (by rfl) (pa_cons (pv 4) pa_nil)) pa_nil)))))
      (pss_one (ps_ret (pe_op op_cat (pv 3) (pe_c (c_move_told T) hr (by decide) (by rfl) (pa_cons (pv 2) pa_nil)))))))), ?_⟩
    obtain ⟨v, b, rfl, ⟨ba, g, m, rfl, hb, ⟨ga, gvs, rfl, hg, hp⟩, hm⟩, hz1, hz2, k⟩ := h
    have hl : gvs.length = b.guard.length := hp.length
    have h3 : ∀ t ∈ b.guard, (VaaclBase.flatTest t).length ≤ 4 := fun t _ => flatTest_len t
    refine ⟨_, rfl, ba, _, rfl, SqT.of hb, rfl, _, _, rfl, _, _, rfl, rfl, ?_⟩
    refine ⟨_, rfl, ga, _, rfl, .inl (SqL.of hg), by show 1 ≤ sizeLine; exact small (by decide), fun t ht => ?_⟩
    have s0 := Same.new (o := .lst [.int (gvs.length : Int)]) ht
    refine ⟨_, rfl, ga, rfl, ⟨_, SqL.of (s0 _ _ hg)⟩, for_list (K := K) (a := ga) (xs := gvs) (fun i σ H' => (∃ x, σ = [some (.ref ba), some (.ref ga), some m, some (.ref t), x]) ∧ Same H H' ∧ H' t = some (.lst (iV (VaaclBase.int b.guard.length :: (b.guard.take i).flatMap VaaclBase.flatTest))))
      ⟨⟨_, rfl⟩, s0, by rw [← hl]; exact upd_same⟩ (fun i σ H' _ ⟨_, s1, _⟩ => SqL.of (s1 _ _ hg)) ?_ ?_⟩
    · rintro i x σ H' hi ⟨⟨x1, rfl⟩, s1, h1⟩
      obtain ⟨tv, htv, ta, rfl, hta⟩ := pair_at hp hi
      have hbd := flat_take_len (i := i) h3
      have hf := flat_take (f := VaaclBase.flatTest) htv
      have h4 := flatTest_len tv
      refine ⟨_, rfl, .inl ⟨rfl, _, SqL.of h1⟩, _, rfl, ta, tv, rfl, s1 _ _ hta, fun H2 q s2 nq2 hq => ?_⟩
      refine ⟨t, q, _, _, rfl, rfl, s2 _ _ h1, hq, by simp only [List.length_map, List.length_cons, iV]; exact small (by omega), ?_⟩
      refine ⟨⟨_, rfl⟩, Same.mut (s1.trans s2) ht, ?_⟩
      rw [upd_same, hf]
      simp only [iV, List.map_append, List.map_cons, List.cons_append]
    · rintro σ H' ⟨⟨x1, rfl⟩, s1, h1⟩
      rw [hl, List.take_length] at h1
      have hbd := flat_len h3
      have hb2 := flatMove_len (m := b.move)
      refine ⟨_, rfl, _, rfl, m, b.move, rfl, hm.mono s1, hz2, fun H2 q s2 nq2 hq => ?_⟩
      refine ⟨t, q, _, _, rfl, rfl, s2 _ _ h1, hq, by simp only [List.length_map, List.length_cons, iV]; exact small (by omega), fun p hp => ?_⟩
      refine k _ p ((s1.trans s2).trans (Same.new hp)) ((s1.trans s2).free hp) ?_
      rw [upd_same]
      simp only [iV, List.map_append, List.map_cons, List.cons_append, VaaclBase.flatBranch, VaaclBase.flatGuard])
theorem flatBranch_len {n : Nat} {b : Branch} (ok : OkBranch n b) (hn : n ≤ 4) : (VaaclBase.flatBranch b).length ≤ 25 := by
  have h1 := flat_len (l := b.guard) (c := 4) fun t _ => flatTest_len t
  have h2 := flatMove_len (m := b.move)
  have h3 := ok.1.1
  have h4 := ok.2.1
  show (VaaclBase.int b.guard.length :: b.guard.flatMap VaaclBase.flatTest ++ VaaclBase.flatMove b.move).length ≤ 25
  rw [List.length_append, List.length_cons]
  omega
def spPieceTold : Sp := fun vs H Q _ => ∃ (n : Nat) (v : V) (p : Piece), vs = [v] ∧ PieceAt H v p ∧ OkPiece n p ∧ n ≤ 4 ∧ NewInts H Q (VaaclBase.flatPiece p)
theorem c_piece_told (T : Txt K mg A) : Cal P w K mg base 3 "piece_told" spPieceTold [] :=
  cal_mk T.d_piece_told sc_piece_told bn_piece_told (fun vs H Q E h => by
    obtain ⟨_, _, _, rfl, _⟩ := h
    rfl) (fun f cdv A' outer s H vs Q E hr h => by
    refine ⟨_, (pss_cons (ps_asg (pv 0) (pg_tup (by rfl) (pgs_cons (pg_name (i := 1) sc_piece_told.nd rfl (Or.inl rfl)) (pgs_cons (pg_name (i := 2) sc_piece_told.nd rfl (Or.inl rfl)) pgs_nil))))
      (pss_cons (ps_if (pt_cmpR op_eq (pv 1) pe_int (nomark _)) (pss_one (ps_ret (pe_op op_cat (pe_lst (pa_cons pe_int pa_nil)) (pe_c (c_move_told T) hr (by decide) (by rfl) (pa_cons (pe_ix ix_tup (pe_ix ix_list (pv 2) pe_int (fun _ _ => rfl)) pe_int (fun _ _ => rfl)) pa_nil))))) pss_nil)
      (pss_cons (ps_set (i := 3) sc_piece_told.nd rfl (Or.inl rfl) (pe_lst (pa_cons pe_int (pa_cons (pe_callB call_len_seq (by rfl) T.b_len PySem.boot_len (pa_cons (pv 2) pa_nil)) pa_nil))))
      (pss_cons (ps_for PassesOwn.never rfl (pi_list (pv 2)) (pg_name (i := 4) sc_piece_told.nd rfl (Or.inl rfl)) (pss_one (ps_expr (pe_bm PySem.F.plainAttrs_list PySem.F.slot_list_extend PySem.F.type_list_extend mt_extend (pv 3) (pa_cons (pe_c (c_branch_told T) hr (by decide) (by rfl) (pa_cons (pv 4) pa_nil)) pa_nil)))))
      (pss_one (ps_ret (pv 3))))))), ?_⟩
    obtain ⟨n, v, p, rfl, ⟨pa, bl, rfl, hpa, ⟨ba, bvs, rfl, hb, hp⟩⟩, ok, hn, k⟩ := h
    have hl : bvs.length = (branchesOf p).length := hp.length
    refine ⟨_, rfl, pa, _, rfl, SqT.of hpa, rfl, _, _, rfl, _, _, rfl, rfl, ?_⟩
    cases p with
    | move m =>
      refine ⟨_, rfl, rfl, _, rfl, ifT rfl ?_⟩
      obtain ⟨bv, hbv, t, gd, mv, rfl, ht, hg, hmv⟩ := pair_at' (i := 0) (y := (⟨[], m⟩ : Branch)) hp rfl
      have okm : OkMove n m := (ok.2.2 ⟨[], m⟩ (List.mem_cons_self)).2
      refine ⟨by show 1 ≤ sizeLine; exact small (by decide), fun q hq => ?_⟩
      have s0 := Same.new (o := .lst [.int 0]) hq
      refine ⟨_, rfl, ba, _, (0 : Int), _, rfl, rfl, SqL.of (s0 _ _ hb), atI_nat hbv, t, _, (1 : Int), mv, rfl, rfl, SqT.of (s0 _ _ ht), rfl, ?_⟩
      refine ⟨mv, m, rfl, hmv.mono s0, by rw [okm.1]; omega, fun H2 r s2 nr2 hr2 => ?_⟩
      have hb2 := flatMove_len (m := m)
      have hm4 := okm.1
      refine ⟨q, r, _, _, rfl, rfl, s2 _ _ upd_same, hr2, by simp only [List.length_map, List.length_cons, List.length_nil, iV]; exact small (by omega), fun p hp => ?_⟩
      exact k _ p ((s0.trans s2).trans (Same.new hp)) ((s0.trans s2).free hp) upd_same
    | loop l =>
      refine ⟨_, rfl, rfl, _, rfl, ifF (int_ne (i := 1) (by decide)) ?_⟩
      have hl : bvs.length = l.length := hl
      have h3 : ∀ b ∈ l, (VaaclBase.flatBranch b).length ≤ 25 := fun b hb => flatBranch_len (ok.2.2 b hb) hn
      have hll : l.length ≤ 3 := ok.2.1
      refine ⟨_, rfl, ba, _, rfl, .inl (SqL.of hb), by show 2 ≤ sizeLine; exact small (by decide), fun t ht => ?_⟩
      have s0 := Same.new (o := .lst [.int 1, .int (bvs.length : Int)]) ht
      refine ⟨_, rfl, ba, rfl, ⟨_, SqL.of (s0 _ _ hb)⟩, for_list (K := K) (a := ba) (xs := bvs) (fun i σ H' => (∃ x, σ = [some (.ref pa), some (.int 1), some (.ref ba), some (.ref t), x]) ∧ Same H H' ∧ H' t = some (.lst (iV (1 :: VaaclBase.int l.length :: (l.take i).flatMap VaaclBase.flatBranch))))
        ⟨⟨_, rfl⟩, s0, by rw [← hl]; exact upd_same⟩ (fun i σ H' _ ⟨_, s1, _⟩ => SqL.of (s1 _ _ hb)) ?_ ?_⟩
      · rintro i x σ H' hi ⟨⟨x1, rfl⟩, s1, h1⟩
        obtain ⟨tv, htv, hB⟩ := pair_at hp hi
        have htv : l[i]? = some tv := htv
        have hbd := flat_take_len (i := i) h3
        have hf := flat_take (f := VaaclBase.flatBranch) htv
        have h4 := h3 tv (mem_at htv)
        have okb := ok.2.2 tv (mem_at htv)
        refine ⟨_, rfl, .inl ⟨rfl, _, SqL.of h1⟩, _, rfl, x, tv, rfl, BranchAt.mono s1 _ _ hB, Nat.le_trans okb.1.1 (by decide), by rw [okb.2.1]; omega, fun H2 q s2 nq2 hq => ?_⟩
        refine ⟨t, q, _, _, rfl, rfl, s2 _ _ h1, hq, by simp only [List.length_map, List.length_cons, iV]; exact small (by omega), ?_⟩
        refine ⟨⟨_, rfl⟩, Same.mut (s1.trans s2) ht, ?_⟩
        rw [upd_same, hf]
        simp only [iV, List.map_append, List.map_cons, List.cons_append]
      · rintro σ H' ⟨⟨x1, rfl⟩, s1, h1⟩
        rw [hl, List.take_length] at h1
        exact ⟨_, rfl, k _ _ s1 ht h1⟩)
theorem flatPiece_len {n : Nat} {p : Piece} (ok : OkPiece n p) (hn : n ≤ 4) : (VaaclBase.flatPiece p).length ≤ 77 := by
  cases p with
  | move m =>
    have okm : OkMove n m := (ok.2.2 ⟨[], m⟩ (List.mem_cons_self)).2
    have h := flatMove_len (m := m)
    have := okm.1
    show (0 :: VaaclBase.flatMove m).length ≤ 77
    rw [List.length_cons]
    omega
  | loop l =>
    have h := flat_len (f := VaaclBase.flatBranch) (l := l) (c := 25) fun b hb => flatBranch_len (ok.2.2 b hb) hn
    have hl : l.length ≤ 3 := ok.2.1
    show (1 :: VaaclBase.int l.length :: l.flatMap VaaclBase.flatBranch).length ≤ 77
    rw [List.length_cons, List.length_cons]
    omega
def spProgramTold : Sp := fun vs H Q _ => ∃ (n : Nat) (v : V) (ps : List Piece), vs = [.int (n : Int), v] ∧ PiecesAt H v ps ∧ OkPieces n ps ∧ n ≤ 4 ∧ NewInts H Q (VaaclBase.flatProgram ⟨n, ps⟩)
theorem c_program_told (T : Txt K mg A) : Cal P w K mg base 4 "program_told" spProgramTold [] :=
  cal_mk T.d_program_told sc_program_told bn_program_told (fun vs H Q E h => by
    obtain ⟨_, _, _, rfl, _⟩ := h
    rfl) (fun f cdv A' outer s H vs Q E hr h => by
    refine ⟨_, (pss_cons (ps_set (i := 2) sc_program_told.nd rfl (Or.inl rfl) (pe_lst (pa_cons (pv 0) (pa_cons (pe_callB call_len_seq (by rfl) T.b_len PySem.boot_len (pa_cons (pv 1) pa_nil)) pa_nil))))
      (pss_cons (ps_for PassesOwn.never rfl (pi_list (pv 1)) (pg_name (i := 3) sc_program_told.nd rfl (Or.inl rfl)) (pss_one (ps_expr (pe_bm PySem.F.plainAttrs_list PySem.F.slot_list_extend PySem.F.type_list_extend mt_extend (pv 2) (pa_cons (pe_c (c_piece_told T) hr (by decide) (by rfl) (pa_cons (pv 3) pa_nil)) pa_nil)))))
      (pss_one (ps_ret (pv 2))))), ?_⟩
    obtain ⟨n, v, ps, rfl, ⟨ba, bvs, rfl, hb, hp⟩, ok, hn, k⟩ := h
    have hl : bvs.length = ps.length := hp.length
    have h3 : ∀ b ∈ ps, (VaaclBase.flatPiece b).length ≤ 77 := fun b hb => flatPiece_len (ok.2 b hb) hn
    have hll := ok.1
    refine ⟨_, rfl, _, rfl, ba, _, rfl, .inl (SqL.of hb), by show 2 ≤ sizeLine; exact small (by decide), fun t ht => ?_⟩
    have s0 := Same.new (o := .lst [.int (n : Int), .int (bvs.length : Int)]) ht
    refine ⟨_, rfl, ba, rfl, ⟨_, SqL.of (s0 _ _ hb)⟩, for_list (K := K) (a := ba) (xs := bvs) (fun i σ H' => (∃ x, σ = [some (.int (n : Int)), some (.ref ba), some (.ref t), x]) ∧ Same H H' ∧ H' t = some (.lst (iV (VaaclBase.int n :: VaaclBase.int ps.length :: (ps.take i).flatMap VaaclBase.flatPiece))))
      ⟨⟨_, rfl⟩, s0, by rw [← hl]; exact upd_same⟩ (fun i σ H' _ ⟨_, s1, _⟩ => SqL.of (s1 _ _ hb)) ?_ ?_⟩
    · rintro i x σ H' hi ⟨⟨x1, rfl⟩, s1, h1⟩
      obtain ⟨tv, htv, hB⟩ := pair_at hp hi
      have hbd := flat_take_len (i := i) h3
      have hf := flat_take (f := VaaclBase.flatPiece) htv
      have h4 := h3 tv (mem_at htv)
      refine ⟨_, rfl, .inl ⟨rfl, _, SqL.of h1⟩, _, rfl, n, x, tv, rfl, PieceAt.mono s1 _ _ hB, ok.2 tv (mem_at htv), hn, fun H2 q s2 nq2 hq => ?_⟩
      refine ⟨t, q, _, _, rfl, rfl, s2 _ _ h1, hq, by simp only [List.length_map, List.length_cons, iV]; exact small (by omega), ?_⟩
      refine ⟨⟨_, rfl⟩, Same.mut (s1.trans s2) ht, ?_⟩
      rw [upd_same, hf]
      simp only [iV, List.map_append, List.map_cons, List.cons_append]
    · rintro σ H' ⟨⟨x1, rfl⟩, s1, h1⟩
      rw [hl, List.take_length] at h1
      exact ⟨_, rfl, k _ _ s1 ht h1⟩)
end CL

set_option Elab.async false
set_option linter.all false
set_option maxRecDepth 100000
set_option maxHeartbeats 4000000
namespace CL
open PySem PySem.Spec PyProof.Rows L2
open C8 (Cal Met Mak pe_c pe_mk pe_mt pe_mt0 pe_gc)
open VaaclBase (Values Test Guard Branch Loop Piece okTest)
variable {P : PySem.Program} {w : World} {K : PySem.W.Frag} {mg : Str → Option Value} {base : Heap} {A : Ad}
/-! ## shown.py -/
abbrev cps (z : Str) : List Nat := z.cps.toList
theorem cps_app (a b : Str) : cps (a ++ b) = cps a ++ cps b := Array.toList_append
theorem cps_empty : cps Str.empty = [] := rfl
theorem cps_lit (s : String) : cps (Str.ofString s) = Vaacla.word s := by
  show (Str.ofString s).cps.toList = _
  rw [Str.ofString_eq_toList]
  rfl
theorem cps_num (n : Nat) : cps (Str.ofString (toString ((n : Nat) : Int))) = Vaacla.numText n := PySem.W.KIN.signs_num n
theorem slen {z : Str} (h : (cps z).length ≤ 1000000) : z.length ≤ sizeLine := by
  have e : z.length = (cps z).length := TL.len_tl z
  rw [e]
  exact small (by omega)
theorem log_ok {n : Nat} (h : n ≤ 10000000) : n.log2 < 1920 := by
  by_cases h0 : n = 0
  · subst h0
    decide
  · rw [Nat.log2_lt h0]
    exact Nat.lt_of_le_of_lt h (Nat.lt_of_lt_of_le (by decide : 10000000 < 2 ^ 24) (Nat.pow_le_pow_right (by decide) (by decide)))
theorem num_len {n : Nat} (h : n ≤ 9999999) : (Vaacla.numText n).length ≤ 7 := by
  unfold Vaacla.numText
  rw [List.length_map, Nat.length_toDigits_le_iff (by decide) (by decide)]
  omega
theorem w_minus : Vaacla.word " minus" = [32, 109, 105, 110, 117, 115] := by decide +kernel
theorem w_minus1 : Vaacla.word "minus " = [109, 105, 110, 117, 115, 32] := by decide +kernel
theorem w_minus2 : Vaacla.word " minus " = [32, 109, 105, 110, 117, 115, 32] := by decide +kernel
theorem w_plus : Vaacla.word " plus" = [32, 112, 108, 117, 115] := by decide +kernel
theorem w_plus2 : Vaacla.word " plus " = [32, 112, 108, 117, 115, 32] := by decide +kernel
/-- the text l is handed back, the heap as it is -/
def TxtPost (H : Hp) (Q : VK) (l : List Nat) : Prop := ∀ z : Str, cps z = l → Q (.str z) H
/-- .., with new objects -/
def TxtPostS (H : Hp) (Q : VK) (l : List Nat) : Prop := ∀ (H' : Hp) (z : Str), Same H H' → cps z = l → Q (.str z) H'
theorem int_neg {z : Int} (h : z < 0) : Vaacla.intText z = 32 :: ([109, 105, 110, 117, 115, 32] ++ Vaacla.numText z.natAbs) := by
  unfold Vaacla.intText
  rw [if_pos h, w_minus]
  rfl
theorem int_nn {z : Int} (h : ¬ z < 0) : Vaacla.intText z = 32 :: Vaacla.numText z.natAbs := by
  unfold Vaacla.intText
  rw [if_neg h]
  rfl
def spWholeShown : Sp := fun vs H Q _ => ∃ n : Int, vs = [.int n] ∧ n.natAbs ≤ 999999 ∧ TxtPost H Q (Vaacla.intText n).tail
theorem c_whole_shown (T : Txt K mg A) : Cal P w K mg base 1 "whole_shown" spWholeShown [] :=
  cal_mk T.d_whole_shown sc_whole_shown bn_whole_shown (fun vs H Q E h => by
    obtain ⟨_, rfl, _⟩ := h
    rfl) (fun f cdv A' outer s H vs Q E hr h => by
    refine ⟨_, (pss_cons (ps_if (pt_cmpR op_lt (pv 0) pe_int (nomark _)) (pss_one (ps_ret (pe_joined (PJ.cons pe_str (PJ.cons (pe_fmt (pe_un un_neg (pv 0))) PJ.nil))))) pss_nil)
      (pss_one (ps_ret (pe_joined1 (pe_fmt (pv 0)))))), ?_⟩
    obtain ⟨n, rfl, hn, k⟩ := h
    refine ⟨_, rfl, _, _, rfl, rfl, _, rfl, ifD (fun h0 => ?_) (fun h0 => ?_)⟩
    · rw [int_neg h0] at k
      have e : -n = ((n.natAbs : Nat) : Int) := by omega
      have hl := num_len (n := n.natAbs) (by omega)
      refine ⟨_, rfl, slen (by rw [cps_app, cps_empty, cps_lit, w_minus1]; decide), _, rfl, n, rfl, .inr ⟨-n, rfl, log_ok (by omega), _, rfl, ?_, ?_⟩⟩
      · rw [e]
        exact slen (by rw [cps_app, cps_app, cps_empty, cps_lit, w_minus1, cps_num, List.length_append]; simp only [List.nil_append, List.length_cons, List.length_nil]; omega)
      · refine k _ ?_
        rw [e, cps_app, cps_app, cps_empty, cps_lit, w_minus1, cps_num]
        rfl
    · rw [int_nn h0] at k
      refine ⟨_, rfl, .inr ⟨n, rfl, log_ok (by omega), k _ ?_⟩⟩
      have e : n = ((n.natAbs : Nat) : Int) := by omega
      rw [e, cps_num]
      rfl)
theorem name_at {i : Nat} (h : i < 4) : ("abcd" : Str).length ≤ sizeLine ∧ atI (cps ("abcd" : Str)) (i : Int) = some (97 + i) ∧ Vaacla.nameText i = [32, 97 + i] := by
  have hc : cps ("abcd" : Str) = [97, 98, 99, 100] := by decide +kernel
  refine ⟨slen (by rw [hc]; decide), ?_, ?_⟩
  · rw [hc]
    refine atI_nat ?_
    match i, h with
    | 0, _ => rfl
    | 1, _ => rfl
    | 2, _ => rfl
    | 3, _ => rfl
  · match i, h with
    | 0, _ => decide +kernel
    | 1, _ => decide +kernel
    | 2, _ => decide +kernel
    | 3, _ => decide +kernel
theorem more_0 {i : Nat} {z : Int} (h : i < 4) (h0 : z = 0) : Vaacla.moreText i z = 32 :: [97 + i] := by
  unfold Vaacla.moreText
  rw [if_pos h0, (name_at h).2.2]
  rfl
theorem more_p {i : Nat} {z : Int} (h : i < 4) (h0 : 0 < z) : Vaacla.moreText i z = 32 :: ([97 + i, 32, 112, 108, 117, 115, 32] ++ Vaacla.numText z.natAbs) := by
  unfold Vaacla.moreText
  rw [if_neg (by omega), if_neg (by omega), (name_at h).2.2, w_plus]
  rfl
theorem more_n {i : Nat} {z : Int} (h : i < 4) (h0 : z < 0) : Vaacla.moreText i z = 32 :: ([97 + i, 32, 109, 105, 110, 117, 115, 32] ++ Vaacla.numText z.natAbs) := by
  unfold Vaacla.moreText
  rw [if_neg (by omega), if_pos (by omega), (name_at h).2.2, w_minus]
  rfl
def spSumShown : Sp := fun vs H Q _ => ∃ (i : Nat) (n : Int), vs = [.int (i : Int), .int n] ∧ i < 4 ∧ n.natAbs ≤ 999999 ∧ TxtPost H Q (Vaacla.moreText i n).tail
theorem cps_one (c : Nat) : cps (⟨#[c]⟩ : Str) = [c] := rfl
theorem c_sum_shown (T : Txt K mg A) : Cal P w K mg base 1 "sum_shown" spSumShown [] :=
  cal_mk T.d_sum_shown sc_sum_shown bn_sum_shown (fun vs H Q E h => by
    obtain ⟨_, _, rfl, _⟩ := h
    rfl) (fun f cdv A' outer s H vs Q E hr h => by
    refine ⟨_, (pss_cons (ps_if (pt_cmpR op_eq (pv 1) pe_int (nomark _)) (pss_one (ps_ret (pe_ix ix_str (pe_gc (by rfl) T.c_NAMES) (pv 0) (fun _ _ => rfl)))) pss_nil)
      (pss_cons (ps_if (pt_cmpR op_gt (pv 1) pe_int (nomark _)) (pss_one (ps_ret (pe_joined (PJ.cons (pe_fmt (pe_ix ix_str (pe_gc (by rfl) T.c_NAMES) (pv 0) (fun _ _ => rfl))) (PJ.cons pe_str (PJ.cons (pe_fmt (pv 1)) PJ.nil)))))) pss_nil)
      (pss_one (ps_ret (pe_joined (PJ.cons (pe_fmt (pe_ix ix_str (pe_gc (by rfl) T.c_NAMES) (pv 0) (fun _ _ => rfl))) (PJ.cons pe_str (PJ.cons (pe_fmt (pe_un un_neg (pv 1))) PJ.nil)))))))), ?_⟩
    obtain ⟨i, n, rfl, hi, hn, k⟩ := h
    obtain ⟨h1, h2, h3⟩ := name_at hi
    have hl := num_len (n := n.natAbs) (by omega)
    refine ⟨_, rfl, rfl, _, rfl, ifD (fun h0 => ?_) (fun h0 => ?_)⟩
    · rw [more_0 hi (V.int.inj h0)] at k
      exact ⟨_, rfl, _, _, _, rfl, rfl, h1, h2, k _ rfl⟩
    · have h0 : n ≠ 0 := fun q => h0 (int_eq q)
      refine ⟨_, rfl, _, _, rfl, rfl, _, rfl, ifD (fun hp => ?_) (fun hp => ?_)⟩
      · rw [more_p hi hp] at k
        have e : n = ((n.natAbs : Nat) : Int) := by omega
        refine ⟨_, rfl, _, _, _, rfl, rfl, h1, h2, .inl ⟨_, rfl, slen (by rw [cps_one]; simp), _, rfl, slen (by rw [cps_app, cps_empty, cps_one]; simp), _, rfl, slen (by rw [cps_app, cps_app, cps_empty, cps_one, cps_lit, w_plus2]; simp), ?_⟩⟩
        refine ⟨_, rfl, .inr ⟨n, rfl, log_ok (by omega), _, rfl, ?_, k _ ?_⟩⟩
        · rw [e]
          exact slen (by rw [cps_app, cps_app, cps_app, cps_empty, cps_one, cps_lit, w_plus2, cps_num, List.length_append]; simp only [List.nil_append, List.length_cons, List.length_nil, List.cons_append]; omega)
        · rw [e, cps_app, cps_app, cps_app, cps_empty, cps_one, cps_lit, w_plus2, cps_num]
          rfl
      · have hp : n < 0 := by omega
        rw [more_n hi hp] at k
        have e : -n = ((n.natAbs : Nat) : Int) := by omega
        refine ⟨_, rfl, _, _, _, rfl, rfl, h1, h2, .inl ⟨_, rfl, slen (by rw [cps_one]; simp), _, rfl, slen (by rw [cps_app, cps_empty, cps_one]; simp), _, rfl, slen (by rw [cps_app, cps_app, cps_empty, cps_one, cps_lit, w_minus2]; simp), ?_⟩⟩
        refine ⟨_, rfl, n, rfl, .inr ⟨-n, rfl, log_ok (by omega), _, rfl, ?_, k _ ?_⟩⟩
        · rw [e]
          exact slen (by rw [cps_app, cps_app, cps_app, cps_empty, cps_one, cps_lit, w_minus2, cps_num, List.length_append]; simp only [List.nil_append, List.length_cons, List.length_nil, List.cons_append]; omega)
        · rw [e, cps_app, cps_app, cps_app, cps_empty, cps_one, cps_lit, w_minus2, cps_num]
          rfl)
/-- what a counter is given, as a text -/
def boundT (g : Gv) : List Nat := match g.source with
  | none => (Vaacla.intText g.add).tail
  | some i => (Vaacla.moreText i g.add).tail
def spBoundShown : Sp := fun vs H Q _ => ∃ (g : Addr) (gv : Gv), vs = [.ref g] ∧ H g = some (.tup (gT gv)) ∧ OkGiven 4 gv ∧ TxtPost H Q (boundT gv)
theorem c_bound_shown (T : Txt K mg A) : Cal P w K mg base 2 "bound_shown" spBoundShown [] :=
  cal_mk T.d_bound_shown sc_bound_shown bn_bound_shown (fun vs H Q E h => by
    obtain ⟨_, _, rfl, _⟩ := h
    rfl) (fun f cdv A' outer s H vs Q E hr h => by
    refine ⟨_, (pss_cons (ps_asg (pv 0) (pg_tup (by rfl) (pgs_cons (pg_name (i := 1) sc_bound_shown.nd rfl (Or.inl rfl)) (pgs_cons (pg_name (i := 2) sc_bound_shown.nd rfl (Or.inl rfl)) (pgs_cons (pg_name (i := 3) sc_bound_shown.nd rfl (Or.inl rfl)) pgs_nil)))))
      (pss_cons (ps_if (pt_cmpR op_eq (pv 1) pe_int (nomark _)) (pss_one (ps_ret (pe_c (c_whole_shown T) hr (by decide) (by rfl) (pa_cons (pv 3) pa_nil)))) pss_nil)
      (pss_one (ps_ret (pe_c (c_sum_shown T) hr (by decide) (by rfl) (pa_cons (pv 2) (pa_cons (pv 3) pa_nil))))))), ?_⟩
    obtain ⟨g, ⟨src, add⟩, rfl, hg, ⟨ok1, ok2, ok3⟩, k⟩ := h
    have ok2 : -99 ≤ add := ok2
    have ok3 : add ≤ 99 := ok3
    cases src with
    | none =>
      refine ⟨_, rfl, g, _, rfl, SqT.of hg, rfl, _, _, rfl, _, _, rfl, _, _, rfl, rfl, ?_⟩
      refine ⟨_, rfl, rfl, _, rfl, ifT rfl ?_⟩
      exact ⟨_, rfl, add, rfl, by omega, k⟩
    | some i =>
      refine ⟨_, rfl, g, _, rfl, SqT.of hg, rfl, _, _, rfl, _, _, rfl, _, _, rfl, rfl, ?_⟩
      refine ⟨_, rfl, rfl, _, rfl, ifF (int_ne (by decide)) ?_⟩
      exact ⟨_, rfl, _, rfl, i, add, rfl, ok1 i rfl, by omega, k⟩)
end CL

set_option Elab.async false
set_option linter.all false
set_option maxRecDepth 100000
set_option maxHeartbeats 4000000
namespace CL
open PySem PySem.Spec PyProof.Rows L2
open C8 (Cal Met Mak pe_c pe_mk pe_mt pe_mt0 pe_gc)
open VaaclBase (Values Test Guard Branch Loop Piece okTest)
variable {P : PySem.Program} {w : World} {K : PySem.W.Frag} {mg : Str → Option Value} {base : Heap} {A : Ad}
/-! ### the texts' lengths, and how they begin -/
theorem int_len {z : Int} (h : z.natAbs ≤ 999999) : (Vaacla.intText z).length ≤ 14 := by
  have hl := num_len (n := z.natAbs) (by omega)
  by_cases h0 : z < 0
  · rw [int_neg h0]
    simp only [List.length_cons, List.length_append, List.length_nil]
    omega
  · rw [int_nn h0]
    simp only [List.length_cons]
    omega
theorem int_cons (z : Int) : Vaacla.intText z = 32 :: (Vaacla.intText z).tail := by
  by_cases h0 : z < 0
  · rw [int_neg h0]
    rfl
  · rw [int_nn h0]
    rfl
theorem more_len {i : Nat} {z : Int} (hi : i < 4) (h : z.natAbs ≤ 999999) : (Vaacla.moreText i z).length ≤ 16 := by
  have hl := num_len (n := z.natAbs) (by omega)
  rcases Int.lt_trichotomy z 0 with h0 | h0 | h0
  · rw [more_n hi h0]
    simp only [List.length_cons, List.length_append, List.length_nil]
    omega
  · rw [more_0 hi h0]
    simp
  · rw [more_p hi h0]
    simp only [List.length_cons, List.length_append, List.length_nil]
    omega
theorem more_cons {i : Nat} (z : Int) (hi : i < 4) : Vaacla.moreText i z = 32 :: (Vaacla.moreText i z).tail := by
  rcases Int.lt_trichotomy z 0 with h0 | h0 | h0
  · rw [more_n hi h0]
    rfl
  · rw [more_0 hi h0]
    rfl
  · rw [more_p hi h0]
    rfl
theorem bound_len {g : Gv} (ok : OkGiven 4 g) : (boundT g).length ≤ 16 := by
  obtain ⟨src, add⟩ := g
  obtain ⟨ok1, ok2, ok3⟩ := ok
  have ok2 : -99 ≤ add := ok2
  have ok3 : add ≤ 99 := ok3
  cases src with
  | none =>
    have := int_len (z := add) (by omega)
    show (Vaacla.intText add).tail.length ≤ 16
    rw [List.length_tail]
    omega
  | some i =>
    have := more_len (z := add) (ok1 i rfl) (by omega)
    show (Vaacla.moreText i add).tail.length ≤ 16
    rw [List.length_tail]
    omega
theorem w_is : Vaacla.word " is" = [32, 105, 115] := by decide +kernel
theorem w_is2 : Vaacla.word " is " = [32, 105, 115, 32] := by decide +kernel
theorem w_comma : Vaacla.word ", " = [44, 32] := by decide +kernel
theorem w_nothing : Vaacla.word " nothing" = 32 :: Vaacla.word "nothing" := by decide +kernel
/-- one thing that is given, as a text -/
def partT (x : Gv × Nat) : List Nat := [97 + x.2, 32, 105, 115, 32] ++ boundT x.1
theorem given_part {x : Gv × Nat} (hi : x.2 < 4) (ok : OkGiven 4 x.1) : Vaacla.givenText x = 32 :: partT x := by
  obtain ⟨⟨src, add⟩, i⟩ := x
  cases src with
  | none =>
    show Vaacla.nameText i ++ (Vaacla.word " is" ++ Vaacla.intText add) = _
    rw [(name_at hi).2.2, w_is, int_cons]
    rfl
  | some j =>
    show Vaacla.nameText i ++ (Vaacla.word " is" ++ Vaacla.moreText j add) = _
    rw [(name_at hi).2.2, w_is, more_cons add (ok.1 j rfl)]
    rfl
theorem part_len {x : Gv × Nat} (ok : OkGiven 4 x.1) : (partT x).length ≤ 21 := by
  have := bound_len ok
  unfold partT
  simp only [List.length_cons, List.length_append, List.length_nil]
  omega
/-- what is given anew -/
abbrev anew (m : Mv) : List (Gv × Nat) := m.zipIdx.filter fun x => x.1 != ⟨some x.2, 0⟩
theorem anew_take {m : Mv} {i : Nat} {g : Gv} (h : m[i]? = some g) : anew (m.take (i + 1)) = anew (m.take i) ++ (if (g != ⟨some i, 0⟩) = true then [(g, i)] else []) := by
  have hi := lt_at h
  unfold anew
  rw [take_at h, List.zipIdx_append, List.filter_append, List.length_take, Nat.min_eq_left (Nat.le_of_lt hi), Nat.zero_add]
  congr 1
  show List.filter _ [(g, i)] = _
  rw [List.filter_cons]
  dsimp only
  cases (g != ⟨some i, 0⟩) <;> rfl
theorem anew_mem {m : Mv} {n : Nat} (ok : OkMove n m) (hn : n ≤ 4) {x : Gv × Nat} (h : x ∈ anew m) : x.2 < 4 ∧ OkGiven 4 x.1 := by
  obtain ⟨h1, _⟩ := List.mem_filter.mp h
  have h2 := List.mem_zipIdx h1
  have h3 := ok.1
  refine ⟨by omega, ?_⟩
  have := ok.2 x.1 (by rw [h2.2.2]; exact List.getElem_mem _)
  exact ⟨fun i hi => Nat.lt_of_lt_of_le (this.1 i hi) hn, this.2⟩
theorem anew_len {m : Mv} : (anew m).length ≤ m.length := by
  have := List.length_filter_le (fun x : Gv × Nat => x.1 != ⟨some x.2, 0⟩) m.zipIdx
  rw [List.length_zipIdx] at this
  exact this
theorem joined_is : ∀ {l : List (Gv × Nat)}, (∀ x ∈ l, x.2 < 4 ∧ OkGiven 4 x.1) → l ≠ [] → Vaacla.joined (l.map Vaacla.givenText) = 32 :: TL.joinL [44, 32] (l.map partT)
  | [], _, h => absurd rfl h
  | [x], ok, _ => given_part (ok x List.mem_cons_self).1 (ok x List.mem_cons_self).2
  | x :: y :: r, ok, _ => by
    have ih := joined_is (l := y :: r) (fun z hz => ok z (List.mem_cons_of_mem _ hz)) (by simp)
    show Vaacla.givenText x ++ (44 :: Vaacla.joined ((y :: r).map Vaacla.givenText)) = 32 :: (partT x ++ ([44, 32] ++ TL.joinL [44, 32] ((y :: r).map partT)))
    rw [ih, given_part (ok x List.mem_cons_self).1 (ok x List.mem_cons_self).2]
    rfl
theorem joinL_len {S : List Nat} {c : Nat} : ∀ {l : List (List Nat)}, (∀ x ∈ l, x.length ≤ c) → (TL.joinL S l).length ≤ (c + S.length) * l.length
  | [], _ => Nat.zero_le _
  | [x], h => by
    have := h x List.mem_cons_self
    show x.length ≤ (c + S.length) * 1
    omega
  | x :: y :: r, h => by
    have h1 := h x List.mem_cons_self
    have ih := joinL_len (S := S) (c := c) (l := y :: r) fun z hz => h z (List.mem_cons_of_mem _ hz)
    show (x ++ (S ++ TL.joinL S (y :: r))).length ≤ (c + S.length) * ((y :: r).length + 1)
    rw [List.length_append, List.length_append, Nat.mul_succ]
    omega
theorem sum_len {c : Nat} : ∀ {ys : List Str}, (∀ l ∈ ys.map cps, l.length ≤ c) → (ys.map (·.length)).sum ≤ c * ys.length
  | [], _ => Nat.zero_le _
  | y :: r, h => by
    have h1 : y.length ≤ c := by
      have e : y.length = (cps y).length := TL.len_tl y
      rw [e]
      exact h _ List.mem_cons_self
    have ih := sum_len (c := c) (ys := r) fun l hl => h l (List.mem_cons_of_mem _ hl)
    rw [List.map_cons, List.sum_cons, List.length_cons, Nat.mul_succ]
    omega
theorem join_cps (y : Str) (parts : List Str) : cps (Txt.join y parts) = TL.joinL (cps y) (parts.map cps) := by
  rw [TL.join_eq]
  exact TL.tl_join y parts
theorem moveT_len {n : Nat} {m : Mv} (ok : OkMove n m) (hn : n ≤ 4) : (Vaacla.moveText m).length ≤ 100 := by
  show (Vaacla.joined ((anew m).map Vaacla.givenText)).length ≤ 100
  by_cases h : anew m = []
  · rw [h]
    show (Vaacla.word " nothing").length ≤ 100
    decide +kernel
  · rw [joined_is (fun x hx => anew_mem ok hn hx) h]
    have h1 := joinL_len (S := [44, 32]) (c := 21) (l := (anew m).map partT) (fun x hx => by
      obtain ⟨z, hz, rfl⟩ := List.mem_map.mp hx
      exact part_len (anew_mem ok hn hz).2)
    have h2 := anew_len (m := m)
    have h3 := ok.1
    rw [List.length_map] at h1
    rw [List.length_cons]
    have h4 : (21 + [44, 32].length) * (anew m).length ≤ 23 * 4 := Nat.mul_le_mul (by decide) (by omega)
    omega
theorem move_cons {n : Nat} {m : Mv} (ok : OkMove n m) (hn : n ≤ 4) : Vaacla.moveText m = 32 :: (Vaacla.moveText m).tail := by
  show Vaacla.joined ((anew m).map Vaacla.givenText) = 32 :: (Vaacla.joined ((anew m).map Vaacla.givenText)).tail
  by_cases h : anew m = []
  · rw [h]
    show Vaacla.word " nothing" = 32 :: (Vaacla.word " nothing").tail
    decide +kernel
  · rw [joined_is (fun x hx => anew_mem ok hn hx) h]
    rfl
def spMoveShown : Sp := fun vs H Q _ => ∃ (n : Nat) (m : V) (mv : Mv), vs = [m] ∧ MoveAt H m mv ∧ OkMove n mv ∧ n ≤ 4 ∧ TxtPostS H Q (Vaacla.moveText mv).tail
theorem c_move_shown (T : Txt K mg A) : Cal P w K mg base 3 "move_shown" spMoveShown [] :=
  cal_mk T.d_move_shown sc_move_shown bn_move_shown (fun vs H Q E h => by
    obtain ⟨_, _, _, rfl, _⟩ := h
    rfl) (fun f cdv A' outer s H vs Q E hr h => by
    refine ⟨_, (pss_cons (ps_set (i := 1) sc_move_shown.nd rfl (Or.inl rfl) (pe_lst pa_nil))
      (pss_cons (ps_for PassesOwn.never rfl (pi_enum (by rfl) T.b_enumerate (pa_cons (pv 0) pa_nil)) (pg_tup (by rfl) (pgs_cons (pg_name (i := 2) sc_move_shown.nd rfl (Or.inl rfl)) (pgs_cons (pg_name (i := 3) sc_move_shown.nd rfl (Or.inl rfl)) pgs_nil))) (pss_one (ps_if (pt_cmpR (op_neD hr.units) (pv 3) (pe_tup (pa_cons pe_int (pa_cons (pv 2) (pa_cons pe_int pa_nil)))) (nomark _)) (pss_one (ps_expr (pe_bm PySem.F.plainAttrs_list PySem.F.slot_list_append PySem.F.type_list_append mt_append (pv 1) (pa_cons (pe_joined (PJ.cons (pe_fmt (pe_ix ix_str (pe_gc (by rfl) T.c_NAMES) (pv 2) (fun _ _ => rfl))) (PJ.cons pe_str (PJ.cons (pe_fmt (pe_c (c_bound_shown T) hr (by decide) (by rfl) (pa_cons (pv 3) pa_nil))) PJ.nil)))) pa_nil)))) pss_nil)))
      (pss_cons (ps_if (pt_cmpR op_eq (pe_callB call_len_seq (by rfl) T.b_len PySem.boot_len (pa_cons (pv 1) pa_nil)) pe_int (nomark _)) (pss_one (ps_ret pe_str)) pss_nil)
      (pss_one (ps_ret (pe_join pe_str (pv 1))))))), ?_⟩
    obtain ⟨n, m, mv, rfl, ⟨ma, mvs, rfl, hm, hp⟩, ok, hn, k⟩ := h
    have hl : mvs.length = mv.length := hp.length
    have hl4 := ok.1
    refine ⟨by show 0 ≤ sizeLine; exact Nat.zero_le _, fun t ht => ?_⟩
    have s0 := Same.new (o := .lst []) ht
    refine ⟨_, rfl, ma, _, rfl, SqL.of (s0 _ _ hm), for_it (walk_enum (K := K) (a := ma) (xs := mvs)) (fun i σ H' => (∃ x y, σ = [some (.ref ma), some (.ref t), x, y]) ∧ Same H H' ∧ ∃ ys : List Str, H' t = some (.lst (ys.map V.str)) ∧ ys.map cps = (anew (mv.take i)).map partT)
      ⟨⟨_, _, rfl⟩, s0, [], upd_same, rfl⟩ (fun i σ H' _ ⟨_, s1, _⟩ => SqL.of (s1 _ _ hm)) ?_ ?_⟩
    · rintro i x σ H' H2 hi ⟨⟨x1, y1, rfl⟩, s1, ys, h1, e1⟩ ⟨Tp, xi, xv, rfl, hT, rfl, ei, ev⟩
      cases ei
      obtain ⟨gv, hgv, g, rfl, hg⟩ := pair_at hp ev
      have hi4 : i < 4 := by omega
      have okg : OkGiven 4 gv := ⟨fun j hj => Nat.lt_of_lt_of_le ((ok.2 gv (mem_at hgv)).1 j hj) hn, (ok.2 gv (mem_at hgv)).2⟩
      have s2 := s1.trans (Same.new (o := .tup [.int (i : Int), .ref g]) hT)
      have h1' : upd H' Tp (.tup [.int (i : Int), .ref g]) t = some (.lst (ys.map V.str)) := (upd_ne (ne_of_none h1 hT)).trans h1
      have hTT : upd H' Tp (.tup [.int (i : Int), .ref g]) Tp = some (.tup [.int (i : Int), .ref g]) := upd_same
      generalize upd H' Tp (.tup [.int (i : Int), .ref g]) = H2 at s2 h1' hTT
      refine ⟨Tp, _, rfl, SqT.of hTT, rfl, _, _, rfl, _, _, rfl, rfl, ?_⟩
      refine ⟨_, rfl, _, rfl, by show 3 ≤ sizeLine; exact small (by decide), fun q hq => ?_⟩
      have s3 := s2.trans (Same.new (o := .tup [.int 1, .int (i : Int), .int 0]) hq)
      have h1'' : upd H2 q (.tup [.int 1, .int (i : Int), .int 0]) t = some (.lst (ys.map V.str)) := (upd_ne (ne_of_none h1' hq)).trans h1'
      have hq' : upd H2 q (.tup [.int 1, .int (i : Int), .int 0]) q = some (.tup [.int 1, .int (i : Int), .int 0]) := upd_same
      generalize upd H2 q (.tup [.int 1, .int (i : Int), .int 0]) = H3 at s3 h1'' hq'
      have hg3 := s3 _ _ hg
      have ea := anew_take hgv
      have e0 : Dp K H3 (.ref q) (.tuple [.int 1, .int (i : Int), .int 0]) := .tup (SqT.of hq') (.cons (.int _) (.cons (.int _) (.cons (.int _) .nil)))
      -- whether it is given anew
      have key : ∃ d, Dp K H3 (.ref g) d ∧ SeqAt.shaped d = true ∧ (!PyData.eqv d (.tuple [.int 1, .int (i : Int), .int 0])) = (gv != ⟨some i, 0⟩) := by
        obtain ⟨src, add⟩ := gv
        cases src with
        | none =>
          refine ⟨.tuple [.int 0, .int 0, .int add], .tup (SqT.of hg3) (.cons (.int _) (.cons (.int _) (.cons (.int _) .nil))), rfl, ?_⟩
          have e2 : ((⟨none, add⟩ : Gv) != ⟨some i, 0⟩) = true := by
            rw [bne_iff_ne]
            intro q
            cases q
          rw [e2]
          rfl
        | some j =>
          refine ⟨.tuple [.int 1, .int (j : Int), .int add], .tup (SqT.of hg3) (.cons (.int _) (.cons (.int _) (.cons (.int _) .nil))), rfl, ?_⟩
          have e2 : PyData.eqv (.tuple [.int 1, .int (j : Int), .int add]) (.tuple [.int 1, .int (i : Int), .int 0]) = ((j : Int) == (i : Int) && (add == 0 && true)) := rfl
          rw [e2, Bool.and_true, Bool.eq_iff_iff, bne_iff_ne]
          simp only [Bool.not_eq_true', Bool.and_eq_false_imp, beq_iff_eq, beq_eq_false_iff_ne, ne_eq, VaaclBase.Given.mk.injEq, Option.some.injEq, not_and]
          constructor
          · intro q a
            exact q (by rw [a])
          · intro q a
            exact q (by omega)
      obtain ⟨d, hd, hsd, hde⟩ := key
      refine ⟨d, _, hd, e0, hsd, rfl, _, rfl, ?_⟩
      rw [hde]
      refine ifB (fun eb => ?_) (fun eb => ?_)
      · rw [if_pos eb] at ea
        obtain ⟨n1, n2, n3⟩ := name_at hi4
        have hbl := bound_len okg
        refine ⟨_, rfl, .inl ⟨rfl, _, SqL.of h1''⟩, _, rfl, _, _, _, rfl, rfl, n1, n2, .inl ⟨_, rfl, slen (by rw [cps_one]; simp), _, rfl, slen (by rw [cps_app, cps_empty, cps_one]; simp), _, rfl, slen (by rw [cps_app, cps_app, cps_empty, cps_one, cps_lit, w_is2]; simp), ?_⟩⟩
        refine ⟨_, rfl, g, gv, rfl, hg3, okg, fun z hz => .inl ⟨z, rfl, slen (by rw [hz]; omega), _, rfl, slen (by rw [cps_app, cps_app, cps_app, cps_empty, cps_one, cps_lit, w_is2, hz]; simp only [List.length_append, List.length_cons, List.length_nil]; omega), ?_⟩⟩
        have hyl : ys.length ≤ mv.length := by
          have := congrArg List.length e1
          rw [List.length_map, List.length_map] at this
          have h2 := anew_len (m := mv.take i)
          rw [List.length_take] at h2
          omega
        refine ⟨t, _, _, rfl, rfl, h1'', by rw [List.length_map]; exact smallL (by omega), ?_⟩
        refine ⟨⟨_, _, rfl⟩, Same.mut s3 ht, ys ++ [_], by rw [upd_same, List.map_append]; rfl, ?_⟩
        rw [List.map_append, e1, ea, List.map_append, List.map_cons, List.map_nil, List.map_cons, List.map_nil, cps_app, cps_app, cps_app, cps_empty, cps_one, cps_lit, w_is2, hz]
        rfl
      · rw [if_neg (by rw [eb]; exact Bool.false_ne_true), List.append_nil] at ea
        refine ⟨⟨_, _, rfl⟩, s3, ys, h1'', ?_⟩
        rw [e1, ea]
    · rintro σ H' ⟨⟨x1, y1, rfl⟩, s1, ys, h1, e1⟩
      rw [hl, List.take_length] at e1
      have hyl : ys.length = (anew mv).length := by
        have := congrArg List.length e1
        rwa [List.length_map, List.length_map] at this
      have hal := anew_len (m := mv)
      refine ⟨_, rfl, t, _, rfl, .inl (SqL.of h1), rfl, _, rfl, ifD (fun h0 => ?_) (fun h0 => ?_)⟩
      · have h0 := V.int.inj h0
        rw [List.length_map] at h0
        have ha : anew mv = [] := List.eq_nil_of_length_eq_zero (by omega)
        refine k _ _ s1 ?_
        show cps _ = (Vaacla.joined ((anew mv).map Vaacla.givenText)).tail
        rw [ha, cps_lit]
        show _ = (Vaacla.word " nothing").tail
        rw [w_nothing]
        rfl
      · have ha : anew mv ≠ [] := fun q => h0 (int_eq (by rw [List.length_map, hyl, q]; rfl))
        have hs := sum_len (c := 21) (ys := ys) (fun l hl => by
          rw [e1] at hl
          obtain ⟨z, hz, rfl⟩ := List.mem_map.mp hl
          exact part_len (anew_mem ok hn hz).2)
        have hc : (", " : Str).length = 2 := by decide +kernel
        refine ⟨⟨_, rfl⟩, _, rfl, _, t, ys, rfl, rfl, .inl (SqL.of h1), by rw [hc]; omega, ?_⟩
        refine k _ _ s1 ?_
        show _ = (Vaacla.joined ((anew mv).map Vaacla.givenText)).tail
        rw [joined_is (fun x hx => anew_mem ok hn hx) ha, join_cps, cps_lit, w_comma, e1]
        rfl)
end CL

set_option Elab.async false
set_option linter.all false
set_option maxRecDepth 100000
set_option maxHeartbeats 4000000
namespace CL
open PySem PySem.Spec PyProof.Rows L2
open C8 (Cal Met Mak pe_c pe_mk pe_mt pe_mt0 pe_gc)
open VaaclBase (Values Test Guard Branch Loop Piece okTest)
variable {P : PySem.Program} {w : World} {K : PySem.W.Frag} {mg : Str → Option Value} {base : Heap} {A : Ad}
theorem w_atmost : Vaacla.word " atmost" = [32, 97, 116, 109, 111, 115, 116] := by decide +kernel
theorem w_atmost2 : Vaacla.word " atmost " = [32, 97, 116, 109, 111, 115, 116, 32] := by decide +kernel
theorem w_atleast : Vaacla.word " atleast" = [32, 97, 116, 108, 101, 97, 115, 116] := by decide +kernel
theorem w_atleast2 : Vaacla.word " atleast " = [32, 97, 116, 108, 101, 97, 115, 116, 32] := by decide +kernel
theorem w_rem : Vaacla.word " rem" = [32, 114, 101, 109] := by decide +kernel
theorem w_rem2 : Vaacla.word " rem " = [32, 114, 101, 109, 32] := by decide +kernel
theorem w_blank : Vaacla.word " " = [32] := by decide +kernel
/-- a test as a text, without the blank ahead -/
def testT : Test → List Nat
  | .atMost x c => [97 + x] ++ [32, 97, 116, 109, 111, 115, 116, 32] ++ (Vaacla.intText c).tail
  | .atLeast x c => [97 + x] ++ [32, 97, 116, 108, 101, 97, 115, 116, 32] ++ (Vaacla.intText c).tail
  | .below x y c => [97 + x] ++ [32, 97, 116, 109, 111, 115, 116, 32] ++ (Vaacla.moreText y c).tail
  | .rem x m r => [97 + x] ++ [32, 114, 101, 109, 32] ++ Vaacla.numText m ++ [32] ++ Vaacla.numText r
theorem ok_atMost {n x : Nat} {c : Int} (h : okTest n (.atMost x c) = true) : x < n ∧ c.natAbs ≤ 999999 := by
  unfold okTest VaaclBase.LIMIT at h
  simp only [Bool.and_eq_true, decide_eq_true_eq] at h
  omega
theorem ok_atLeast {n x : Nat} {c : Int} (h : okTest n (.atLeast x c) = true) : x < n ∧ c.natAbs ≤ 999999 := by
  unfold okTest VaaclBase.LIMIT at h
  simp only [Bool.and_eq_true, decide_eq_true_eq] at h
  omega
theorem ok_below {n x y : Nat} {c : Int} (h : okTest n (.below x y c) = true) : x < n ∧ y < n ∧ c.natAbs ≤ 999999 := by
  unfold okTest VaaclBase.LIMIT at h
  simp only [Bool.and_eq_true, decide_eq_true_eq] at h
  omega
theorem ok_rem {n x m r : Nat} (h : okTest n (.rem x m r) = true) : x < n ∧ (m = 2 ∨ m = 3 ∨ m = 4 ∨ m = 6) ∧ r < m := by
  unfold okTest VaaclBase.MODULI at h
  simp only [Bool.and_eq_true, decide_eq_true_eq, List.contains_iff_mem, List.mem_cons, List.not_mem_nil, or_false] at h
  omega
theorem test_is {n : Nat} {t : Test} (ok : okTest n t = true) (hn : n ≤ 4) : Vaacla.testText t = 32 :: testT t := by
  cases t with
  | atMost x c =>
    have h := ok_atMost ok
    show Vaacla.nameText x ++ (Vaacla.word " atmost" ++ Vaacla.intText c) = _
    rw [(name_at (i := x) (by omega)).2.2, w_atmost, int_cons]
    rfl
  | atLeast x c =>
    have h := ok_atLeast ok
    show Vaacla.nameText x ++ (Vaacla.word " atleast" ++ Vaacla.intText c) = _
    rw [(name_at (i := x) (by omega)).2.2, w_atleast, int_cons]
    rfl
  | below x y c =>
    have h := ok_below ok
    show Vaacla.nameText x ++ (Vaacla.word " atmost" ++ Vaacla.moreText y c) = _
    rw [(name_at (i := x) (by omega)).2.2, w_atmost, more_cons c (by omega)]
    rfl
  | rem x m r =>
    have h := ok_rem ok
    show Vaacla.nameText x ++ (Vaacla.word " rem" ++ (32 :: Vaacla.numText m ++ (32 :: Vaacla.numText r))) = _
    rw [(name_at (i := x) (by omega)).2.2, w_rem]
    simp [testT]
theorem testT_len {n : Nat} {t : Test} (ok : okTest n t = true) (hn : n ≤ 4) : (testT t).length ≤ 30 := by
  cases t with
  | atMost x c =>
    have h := ok_atMost ok
    have := int_len h.2
    simp only [testT, List.length_append, List.length_cons, List.length_nil, List.length_tail]
    omega
  | atLeast x c =>
    have h := ok_atLeast ok
    have := int_len h.2
    simp only [testT, List.length_append, List.length_cons, List.length_nil, List.length_tail]
    omega
  | below x y c =>
    have h := ok_below ok
    have := more_len (i := y) (by omega) h.2.2
    simp only [testT, List.length_append, List.length_cons, List.length_nil, List.length_tail]
    omega
  | rem x m r =>
    have h := ok_rem ok
    have h1 := num_len (n := m) (by omega)
    have h2 := num_len (n := r) (by omega)
    simp only [testT, List.length_append, List.length_cons, List.length_nil]
    omega
def spTestShown : Sp := fun vs H Q _ => ∃ (n : Nat) (t : Addr) (ts : Test), vs = [.ref t] ∧ H t = some (.tup (tT ts)) ∧ okTest n ts = true ∧ n ≤ 4 ∧ TxtPost H Q (testT ts)
theorem c_test_shown (T : Txt K mg A) : Cal P w K mg base 2 "test_shown" spTestShown [] :=
  cal_mk T.d_test_shown sc_test_shown bn_test_shown (fun vs H Q E h => by
    obtain ⟨_, _, _, rfl, _⟩ := h
    rfl) (fun f cdv A' outer s H vs Q E hr h => by
    refine ⟨_, (pss_cons (ps_asg (pv 0) (pg_tup (by rfl) (pgs_cons (pg_name (i := 1) sc_test_shown.nd rfl (Or.inl rfl)) (pgs_cons (pg_name (i := 2) sc_test_shown.nd rfl (Or.inl rfl)) (pgs_cons (pg_name (i := 3) sc_test_shown.nd rfl (Or.inl rfl)) (pgs_cons (pg_name (i := 4) sc_test_shown.nd rfl (Or.inl rfl)) pgs_nil))))))
      (pss_cons (ps_if (pt_cmpR op_eq (pv 1) pe_int (nomark _)) (pss_one (ps_ret (pe_joined (PJ.cons (pe_fmt (pe_ix ix_str (pe_gc (by rfl) T.c_NAMES) (pv 2) (fun _ _ => rfl))) (PJ.cons pe_str (PJ.cons (pe_fmt (pe_c (c_whole_shown T) hr (by decide) (by rfl) (pa_cons (pv 3) pa_nil))) PJ.nil)))))) pss_nil)
      (pss_cons (ps_if (pt_cmpR op_eq (pv 1) pe_int (nomark _)) (pss_one (ps_ret (pe_joined (PJ.cons (pe_fmt (pe_ix ix_str (pe_gc (by rfl) T.c_NAMES) (pv 2) (fun _ _ => rfl))) (PJ.cons pe_str (PJ.cons (pe_fmt (pe_c (c_whole_shown T) hr (by decide) (by rfl) (pa_cons (pv 3) pa_nil))) PJ.nil)))))) pss_nil)
      (pss_cons (ps_if (pt_cmpR op_eq (pv 1) pe_int (nomark _)) (pss_one (ps_ret (pe_joined (PJ.cons (pe_fmt (pe_ix ix_str (pe_gc (by rfl) T.c_NAMES) (pv 2) (fun _ _ => rfl))) (PJ.cons pe_str (PJ.cons (pe_fmt (pe_c (c_sum_shown T) hr (by decide) (by rfl) (pa_cons (pv 3) (pa_cons (pv 4) pa_nil)))) PJ.nil)))))) pss_nil)
      (pss_one (ps_ret (pe_joined (PJ.cons (pe_fmt (pe_ix ix_str (pe_gc (by rfl) T.c_NAMES) (pv 2) (fun _ _ => rfl))) (PJ.cons pe_str (PJ.cons (pe_fmt (pv 3)) (PJ.cons pe_str (PJ.cons (pe_fmt (pv 4)) PJ.nil)))))))))))), ?_⟩
    obtain ⟨n, t, ts, rfl, ht, ok, hn, k⟩ := h
    cases ts with
    | atMost x c =>
      have h := ok_atMost ok
      have hl := int_len h.2
      obtain ⟨n1, n2, n3⟩ := name_at (i := x) (by omega)
      refine ⟨_, rfl, t, _, rfl, SqT.of ht, rfl, _, _, rfl, _, _, rfl, _, _, rfl, _, _, rfl, rfl, ?_⟩
      refine ⟨_, rfl, rfl, _, rfl, ifT rfl ?_⟩
      refine ⟨_, rfl, _, _, _, rfl, rfl, n1, n2, .inl ⟨_, rfl, slen (by rw [cps_one]; simp), _, rfl, slen (by rw [cps_app, cps_empty, cps_one]; simp), _, rfl, slen (by rw [cps_app, cps_app, cps_empty, cps_one, cps_lit, w_atmost2]; simp), ?_⟩⟩
      refine ⟨_, rfl, c, rfl, h.2, fun z hz => .inl ⟨z, rfl, slen (by rw [hz, List.length_tail]; omega), _, rfl, slen (by rw [cps_app, cps_app, cps_app, cps_empty, cps_one, cps_lit, w_atmost2, hz]; simp only [List.length_append, List.length_cons, List.length_nil, List.length_tail]; omega), k _ ?_⟩⟩
      rw [cps_app, cps_app, cps_app, cps_empty, cps_one, cps_lit, w_atmost2, hz]
      rfl
    | atLeast x c =>
      have h := ok_atLeast ok
      have hl := int_len h.2
      obtain ⟨n1, n2, n3⟩ := name_at (i := x) (by omega)
      refine ⟨_, rfl, t, _, rfl, SqT.of ht, rfl, _, _, rfl, _, _, rfl, _, _, rfl, _, _, rfl, rfl, ?_⟩
      refine ⟨_, rfl, rfl, _, rfl, ifF (int_ne (by decide)) ?_⟩
      refine ⟨_, rfl, rfl, _, rfl, ifT rfl ?_⟩
      refine ⟨_, rfl, _, _, _, rfl, rfl, n1, n2, .inl ⟨_, rfl, slen (by rw [cps_one]; simp), _, rfl, slen (by rw [cps_app, cps_empty, cps_one]; simp), _, rfl, slen (by rw [cps_app, cps_app, cps_empty, cps_one, cps_lit, w_atleast2]; simp), ?_⟩⟩
      refine ⟨_, rfl, c, rfl, h.2, fun z hz => .inl ⟨z, rfl, slen (by rw [hz, List.length_tail]; omega), _, rfl, slen (by rw [cps_app, cps_app, cps_app, cps_empty, cps_one, cps_lit, w_atleast2, hz]; simp only [List.length_append, List.length_cons, List.length_nil, List.length_tail]; omega), k _ ?_⟩⟩
      rw [cps_app, cps_app, cps_app, cps_empty, cps_one, cps_lit, w_atleast2, hz]
      rfl
    | below x y c =>
      have h := ok_below ok
      have hl := more_len (i := y) (by omega) h.2.2
      obtain ⟨n1, n2, n3⟩ := name_at (i := x) (by omega)
      refine ⟨_, rfl, t, _, rfl, SqT.of ht, rfl, _, _, rfl, _, _, rfl, _, _, rfl, _, _, rfl, rfl, ?_⟩
      refine ⟨_, rfl, rfl, _, rfl, ifF (int_ne (by decide)) ?_⟩
      refine ⟨_, rfl, rfl, _, rfl, ifF (int_ne (by decide)) ?_⟩
      refine ⟨_, rfl, rfl, _, rfl, ifT rfl ?_⟩
      refine ⟨_, rfl, _, _, _, rfl, rfl, n1, n2, .inl ⟨_, rfl, slen (by rw [cps_one]; simp), _, rfl, slen (by rw [cps_app, cps_empty, cps_one]; simp), _, rfl, slen (by rw [cps_app, cps_app, cps_empty, cps_one, cps_lit, w_atmost2]; simp), ?_⟩⟩
      refine ⟨_, rfl, _, rfl, y, c, rfl, by omega, h.2.2, fun z hz => .inl ⟨z, rfl, slen (by rw [hz, List.length_tail]; omega), _, rfl, slen (by rw [cps_app, cps_app, cps_app, cps_empty, cps_one, cps_lit, w_atmost2, hz]; simp only [List.length_append, List.length_cons, List.length_nil, List.length_tail]; omega), k _ ?_⟩⟩
      rw [cps_app, cps_app, cps_app, cps_empty, cps_one, cps_lit, w_atmost2, hz]
      rfl
    | rem x m r =>
      have h := ok_rem ok
      have h1 := num_len (n := m) (by omega)
      have h2 := num_len (n := r) (by omega)
      obtain ⟨n1, n2, n3⟩ := name_at (i := x) (by omega)
      refine ⟨_, rfl, t, _, rfl, SqT.of ht, rfl, _, _, rfl, _, _, rfl, _, _, rfl, _, _, rfl, rfl, ?_⟩
      refine ⟨_, rfl, rfl, _, rfl, ifF (int_ne (by decide)) ?_⟩
      refine ⟨_, rfl, rfl, _, rfl, ifF (int_ne (by decide)) ?_⟩
      refine ⟨_, rfl, rfl, _, rfl, ifF (int_ne (by decide)) ?_⟩
      refine ⟨_, rfl, _, _, _, rfl, rfl, n1, n2, .inl ⟨_, rfl, slen (by rw [cps_one]; simp), _, rfl, slen (by rw [cps_app, cps_empty, cps_one]; simp), _, rfl, slen (by rw [cps_app, cps_app, cps_empty, cps_one, cps_lit, w_rem2]; simp), ?_⟩⟩
      refine ⟨_, rfl, .inr ⟨(m : Int), rfl, log_ok (by omega), _, rfl, slen (by rw [cps_app, cps_app, cps_app, cps_empty, cps_one, cps_lit, w_rem2, cps_num]; simp only [List.length_append, List.length_cons, List.length_nil]; omega), ?_⟩⟩
      refine ⟨_, rfl, slen (by rw [cps_app, cps_app, cps_app, cps_app, cps_empty, cps_one, cps_lit " rem ", cps_lit " ", w_rem2, w_blank, cps_num]; simp only [List.length_append, List.length_cons, List.length_nil]; omega), ?_⟩
      refine ⟨_, rfl, .inr ⟨(r : Int), rfl, log_ok (by omega), _, rfl, slen (by rw [cps_app, cps_app, cps_app, cps_app, cps_app, cps_empty, cps_one, cps_lit " rem ", cps_lit " ", w_rem2, w_blank, cps_num, cps_num]; simp only [List.length_append, List.length_cons, List.length_nil]; omega), k _ ?_⟩⟩
      rw [cps_app, cps_app, cps_app, cps_app, cps_app, cps_empty, cps_one, cps_lit " rem ", cps_lit " ", w_rem2, w_blank, cps_num, cps_num]
      rfl)
theorem w_and : Vaacla.word " and" = [32, 97, 110, 100] := by decide +kernel
theorem w_and2 : Vaacla.word " and " = [32, 97, 110, 100, 32] := by decide +kernel
theorem w_any : Vaacla.word " any" = 32 :: Vaacla.word "any" := by decide +kernel
/-- a branch's tests as a text, without the blank ahead -/
def guardT : Guard → List Nat
  | [] => Vaacla.word "any"
  | g => TL.joinL [32, 97, 110, 100, 32] (g.map testT)
theorem guard_is {n : Nat} (hn : n ≤ 4) : ∀ {g : Guard}, (∀ t ∈ g, okTest n t = true) → Vaacla.guardText g = 32 :: guardT g
  | [], _ => w_any
  | [t], ok => test_is (ok t List.mem_cons_self) hn
  | t :: u :: r, ok => by
    have ih := guard_is hn (g := u :: r) fun z hz => ok z (List.mem_cons_of_mem _ hz)
    show Vaacla.testText t ++ (Vaacla.word " and" ++ Vaacla.guardText (u :: r)) = 32 :: (testT t ++ ([32, 97, 110, 100, 32] ++ TL.joinL [32, 97, 110, 100, 32] ((u :: r).map testT)))
    rw [ih, test_is (ok t List.mem_cons_self) hn, w_and]
    show _ = 32 :: (testT t ++ ([32, 97, 110, 100, 32] ++ guardT (u :: r)))
    simp
theorem guardT_len {n : Nat} {g : Guard} (ok : OkGuard n g) (hn : n ≤ 4) : (guardT g).length ≤ 110 := by
  cases g with
  | nil =>
    show (Vaacla.word "any").length ≤ 110
    decide +kernel
  | cons t r =>
    have h1 := joinL_len (S := [32, 97, 110, 100, 32]) (c := 30) (l := (t :: r).map testT) (fun x hx => by
      obtain ⟨z, hz, rfl⟩ := List.mem_map.mp hx
      exact testT_len (ok.2 z hz) hn)
    have h2 := ok.1
    rw [List.length_map] at h1
    have h4 : (30 + [32, 97, 110, 100, 32].length) * (t :: r).length ≤ 35 * 3 := Nat.mul_le_mul (by decide) h2
    show (TL.joinL [32, 97, 110, 100, 32] ((t :: r).map testT)).length ≤ 110
    omega
def spTestsShown : Sp := fun vs H Q _ => ∃ (n : Nat) (g : V) (gs : Guard), vs = [g] ∧ GuardAt H g gs ∧ OkGuard n gs ∧ n ≤ 4 ∧ TxtPostS H Q (guardT gs)
theorem c_tests_shown (T : Txt K mg A) : Cal P w K mg base 3 "tests_shown" spTestsShown [] :=
  cal_mk T.d_tests_shown sc_tests_shown bn_tests_shown (fun vs H Q E h => by
    obtain ⟨_, _, _, rfl, _⟩ := h
    rfl) (fun f cdv A' outer s H vs Q E hr h => by
    refine ⟨_, (pss_cons (ps_if (pt_cmpR op_eq (pe_callB call_len_seq (by rfl) T.b_len PySem.boot_len (pa_cons (pv 0) pa_nil)) pe_int (nomark _)) (pss_one (ps_ret pe_str)) pss_nil)
      (pss_one (ps_ret (pe_join pe_str (pe_lc (own := [("test", 1)]) (g := gName 1) (tt := tYes) rfl sc_tests_shown.nd (pi_list (pv 0)) (blkOk_by (own := [("test", 1)]) (N := N_tests_shown) (sc := defScope s_tests_shown) (by decide +kernel)) (fun _ _ _ _ _ => pg_name (i := 1) sc_tests_shown.nd rfl (Or.inl rfl)) (fun _ _ _ _ _ => pts_nil) (fun _ _ _ _ _ => (pe_c (c_test_shown T) hr (by decide) (by rfl) (pa_cons (pv 1) pa_nil)))))))), ?_⟩
    obtain ⟨n, g, gs, rfl, ⟨ga, gvs, rfl, hg, hp⟩, ok, hn, k⟩ := h
    have hl : gvs.length = gs.length := hp.length
    have hl3 := ok.1
    refine ⟨_, rfl, ga, _, rfl, .inl (SqL.of hg), rfl, _, rfl, ifD (fun h0 => ?_) (fun h0 => ?_)⟩
    · have h0 := V.int.inj h0
      obtain rfl : gs = [] := List.eq_nil_of_length_eq_zero (by omega)
      exact k _ _ (Same.refl H) (by rw [cps_lit]; rfl)
    · have hne : gs ≠ [] := fun q => h0 (int_eq (by rw [hl, q]; rfl))
      refine ⟨⟨_, rfl⟩, _, rfl, ga, rfl, ⟨_, SqL.of hg⟩, fun D hD => ?_⟩
      refine lc_list (K := K) (a := ga) (xs := gvs) (fun i H' => ∃ ys : List Str, H' = upd H D (.lst (ys.map V.str)) ∧ ys.map cps = (gs.take i).map testT) ⟨[], rfl, rfl⟩ (fun i H' _ e => ?_) (fun i x H' hi e => ?_) (fun H' e => ?_)
      · obtain ⟨ys, rfl, _⟩ := e
        exact SqL.of ((upd_ne (ne_of_none hg hD)).trans hg)
      · obtain ⟨ys, rfl, e1⟩ := e
        obtain ⟨tv, htv, ta, rfl, hta⟩ := pair_at hp hi
        refine ⟨rfl, ?_⟩
        have hyl : ys.length ≤ 3 := by
          have := congrArg List.length e1
          rw [List.length_map, List.length_map, List.length_take] at this
          omega
        refine ⟨_, rfl, n, ta, tv, rfl, (upd_ne (ne_of_none hta hD)).trans hta, ok.2 tv (mem_at htv), hn, fun z hz => ⟨_, upd_same, by rw [List.length_map]; exact smallL (by omega), ys ++ [z], by rw [upd_upd, List.map_append]; rfl, ?_⟩⟩
        rw [List.map_append, e1, take_at htv, List.map_append, List.map_cons, List.map_nil, List.map_cons, List.map_nil, hz]
      · obtain ⟨ys, rfl, e1⟩ := e
        rw [hl, List.take_length] at e1
        have hyl : ys.length = gs.length := by
          have := congrArg List.length e1
          rwa [List.length_map, List.length_map] at this
        have hs := sum_len (c := 30) (ys := ys) (fun l hl => by
          rw [e1] at hl
          obtain ⟨z, hz, rfl⟩ := List.mem_map.mp hl
          exact testT_len (ok.2 z hz) hn)
        have hc : (" and " : Str).length = 5 := by decide +kernel
        refine ⟨_, D, ys, rfl, rfl, .inl (SqL.of upd_same), by rw [hc]; omega, ?_⟩
        refine k _ _ (Same.new hD) ?_
        rw [join_cps, cps_lit, w_and2, e1]
        cases gs with
        | nil => exact absurd rfl hne
        | cons t r => rfl)
end CL

set_option Elab.async false
set_option linter.all false
set_option maxRecDepth 100000
set_option maxHeartbeats 4000000
namespace CL
open PySem PySem.Spec PyProof.Rows L2
open C8 (Cal Met Mak pe_c pe_mk pe_mt pe_mt0 pe_gc)
open VaaclBase (Values Test Guard Branch Loop Piece okTest)
variable {P : PySem.Program} {w : World} {K : PySem.W.Frag} {mg : Str → Option Value} {base : Heap} {A : Ad}
/-- texts are handed back that make up l -/
def LinesPost (H : Hp) (Q : VK) (l : List Nat) (most : Nat) : Prop := ∀ (H' : Hp) (p : Addr) (ys : List Str), Same H H' → H' p = some (.lst (ys.map V.str)) → ys.flatMap cps = l → ys.length ≤ most → Q (.ref p) H'
theorem w_do : Vaacla.word "do" = [100, 111] := by decide +kernel
theorem w_do2 : Vaacla.word "do " = [100, 111, 32] := by decide +kernel
theorem w_do3 : Vaacla.word " do " = [32, 100, 111, 32] := by decide +kernel
theorem w_do4 : Vaacla.word " do" = [32, 100, 111] := by decide +kernel
theorem w_end : Vaacla.word ";\n" = [59, 10] := by decide +kernel
theorem w_when : Vaacla.word "when" = [119, 104, 101, 110] := by decide +kernel
theorem w_when2 : Vaacla.word "when " = [119, 104, 101, 110, 32] := by decide +kernel
theorem w_counters : Vaacla.word "counters" = [99, 111, 117, 110, 116, 101, 114, 115] := by decide +kernel
theorem w_counters2 : Vaacla.word "counters " = [99, 111, 117, 110, 116, 101, 114, 115, 32] := by decide +kernel
theorem branchT_len {n : Nat} {b : Branch} (ok : OkBranch n b) (hn : n ≤ 4) : (Vaacla.branchText b).length ≤ 230 := by
  have h1 := guardT_len ok.1 hn
  have h2 := moveT_len ok.2 hn
  show (Vaacla.word "when" ++ (Vaacla.guardText b.guard ++ (Vaacla.word " do" ++ (Vaacla.moveText b.move ++ Vaacla.word ";\n")))).length ≤ 230
  rw [guard_is hn ok.1.2, w_when, w_do4, w_end]
  simp only [List.length_append, List.length_cons, List.length_nil]
  omega
theorem pieceT_len {n : Nat} {p : Piece} (ok : OkPiece n p) (hn : n ≤ 4) : (Vaacla.pieceText p).length ≤ 720 := by
  cases p with
  | move m =>
    have okm : OkMove n m := (ok.2.2 ⟨[], m⟩ (List.mem_cons_self)).2
    have h2 := moveT_len okm hn
    show (Vaacla.word "do" ++ (Vaacla.moveText m ++ Vaacla.word ";\n")).length ≤ 720
    rw [w_do, w_end]
    simp only [List.length_append, List.length_cons, List.length_nil]
    omega
  | loop l =>
    have h1 := flat_len (f := Vaacla.branchText) (l := l) (c := 230) fun b hb => branchT_len (ok.2.2 b hb) hn
    have hl : l.length ≤ 3 := ok.2.1
    have e1 : (Vaacla.word "loop {\n").length = 7 := by decide +kernel
    have e2 : (Vaacla.word "}\n").length = 2 := by decide +kernel
    show (Vaacla.word "loop {\n" ++ (l.flatMap Vaacla.branchText ++ Vaacla.word "}\n")).length ≤ 720
    rw [List.length_append, List.length_append, e1, e2]
    omega
def spPieceLines : Sp := fun vs H Q _ => ∃ (n : Nat) (v : V) (p : Piece), vs = [v] ∧ PieceAt H v p ∧ OkPiece n p ∧ n ≤ 4 ∧ LinesPost H Q (Vaacla.pieceText p) 5
theorem c_piece_lines (T : Txt K mg A) : Cal P w K mg base 4 "piece_lines" spPieceLines [] :=
  cal_mk T.d_piece_lines sc_piece_lines bn_piece_lines (fun vs H Q E h => by
    obtain ⟨_, _, _, rfl, _⟩ := h
    rfl) (fun f cdv A' outer s H vs Q E hr h => by
    refine ⟨_, (pss_cons (ps_asg (pv 0) (pg_tup (by rfl) (pgs_cons (pg_name (i := 1) sc_piece_lines.nd rfl (Or.inl rfl)) (pgs_cons (pg_name (i := 2) sc_piece_lines.nd rfl (Or.inl rfl)) pgs_nil))))
      (pss_cons (ps_if (pt_cmpR op_eq (pv 1) pe_int (nomark _)) (pss_one (ps_ret (pe_lst (pa_cons (pe_joined (PJ.cons pe_str (PJ.cons (pe_fmt (pe_c (c_move_shown T) hr (by decide) (by rfl) (pa_cons (pe_ix ix_tup (pe_ix ix_list (pv 2) pe_int (fun _ _ => rfl)) pe_int (fun _ _ => rfl)) pa_nil))) (PJ.cons pe_str PJ.nil)))) pa_nil)))) pss_nil)
      (pss_cons (ps_set (i := 3) sc_piece_lines.nd rfl (Or.inl rfl) (pe_lst (pa_cons pe_str pa_nil)))
      (pss_cons (ps_for PassesOwn.never rfl (pi_list (pv 2)) (pg_tup (by rfl) (pgs_cons (pg_name (i := 4) sc_piece_lines.nd rfl (Or.inl rfl)) (pgs_cons (pg_name (i := 5) sc_piece_lines.nd rfl (Or.inl rfl)) pgs_nil))) (pss_one (ps_expr (pe_bm PySem.F.plainAttrs_list PySem.F.slot_list_append PySem.F.type_list_append mt_append (pv 3) (pa_cons (pe_joined (PJ.cons pe_str (PJ.cons (pe_fmt (pe_c (c_tests_shown T) hr (by decide) (by rfl) (pa_cons (pv 4) pa_nil))) (PJ.cons pe_str (PJ.cons (pe_fmt (pe_c (c_move_shown T) hr (by decide) (by rfl) (pa_cons (pv 5) pa_nil))) (PJ.cons pe_str PJ.nil)))))) pa_nil)))))
      (pss_cons (ps_expr (pe_bm PySem.F.plainAttrs_list PySem.F.slot_list_append PySem.F.type_list_append mt_append (pv 3) (pa_cons pe_str pa_nil)))
      (pss_one (ps_ret (pv 3)))))))), ?_⟩
    obtain ⟨n, v, p, rfl, ⟨pa, bl, rfl, hpa, ⟨ba, bvs, rfl, hb, hp⟩⟩, ok, hn, k⟩ := h
    refine ⟨_, rfl, pa, _, rfl, SqT.of hpa, rfl, _, _, rfl, _, _, rfl, rfl, ?_⟩
    cases p with
    | move m =>
      refine ⟨_, rfl, rfl, _, rfl, ifT rfl ?_⟩
      obtain ⟨bv, hbv, t, gd, mv, rfl, ht, hg, hmv⟩ := pair_at' (i := 0) (y := (⟨[], m⟩ : Branch)) hp rfl
      have okm : OkMove n m := (ok.2.2 ⟨[], m⟩ (List.mem_cons_self)).2
      have h2 := moveT_len okm hn
      refine ⟨_, rfl, slen (by rw [cps_app, cps_empty, cps_lit, w_do2]; simp), ?_⟩
      refine ⟨_, rfl, ba, _, (0 : Int), _, rfl, rfl, SqL.of hb, atI_nat hbv, t, _, (1 : Int), mv, rfl, rfl, SqT.of ht, rfl, ?_⟩
      refine ⟨n, mv, m, rfl, hmv, okm, hn, fun H' z s1 hz => .inl ⟨z, rfl, slen (by rw [hz, List.length_tail]; omega), _, rfl, slen (by rw [cps_app, cps_app, cps_empty, cps_lit, w_do2, hz]; simp only [List.length_append, List.length_cons, List.length_nil, List.length_tail]; omega), ?_⟩⟩
      refine ⟨_, rfl, slen (by rw [cps_app, cps_app, cps_app, cps_empty, cps_lit "do ", cps_lit ";\n", w_do2, w_end, hz]; simp only [List.length_append, List.length_cons, List.length_nil, List.length_tail]; omega), ?_⟩
      refine ⟨by show 1 ≤ sizeLine; exact small (by decide), fun q hq => ?_⟩
      refine k _ q [_] (s1.trans (Same.new hq)) upd_same ?_ (by simp)
      rw [List.flatMap_cons, List.flatMap_nil, cps_app, cps_app, cps_app, cps_empty, cps_lit "do ", cps_lit ";\n", w_do2, w_end, hz]
      show _ = Vaacla.word "do" ++ (Vaacla.moveText m ++ Vaacla.word ";\n")
      rw [w_do, w_end, move_cons okm hn]
      simp
    | loop l =>
      refine ⟨_, rfl, rfl, _, rfl, ifF (int_ne (i := 1) (by decide)) ?_⟩
      have hl : bvs.length = l.length := hp.length
      have hll : l.length ≤ 3 := ok.2.1
      refine ⟨by show 1 ≤ sizeLine; exact small (by decide), fun t ht => ?_⟩
      have s0 := Same.new (o := .lst [.str ("loop {\n" : Str)]) ht
      refine ⟨_, rfl, ba, rfl, ⟨_, SqL.of (s0 _ _ hb)⟩, for_list (K := K) (a := ba) (xs := bvs) (fun i σ H' => (∃ x y, σ = [some (.ref pa), some (.int 1), some (.ref ba), some (.ref t), x, y]) ∧ Same H H' ∧ ∃ ys : List Str, H' t = some (.lst (ys.map V.str)) ∧ ys.flatMap cps = Vaacla.word "loop {\n" ++ (l.take i).flatMap Vaacla.branchText ∧ ys.length = i + 1)
        ⟨⟨_, _, rfl⟩, s0, [("loop {\n" : Str)], upd_same, by rw [List.flatMap_cons, List.flatMap_nil, cps_lit]; rfl, rfl⟩ (fun i σ H' _ ⟨_, s1, _⟩ => SqL.of (s1 _ _ hb)) ?_ ?_⟩
      · rintro i x σ H' hi ⟨⟨x1, y1, rfl⟩, s1, ys, h1, e1, hyl⟩
        obtain ⟨br, hbr, tb, g, m, rfl, htb, hg, hm⟩ := pair_at hp hi
        have hbr : l[i]? = some br := hbr
        have hi3 := lt_at hbr
        have okb := ok.2.2 br (mem_at hbr)
        have hgl := guardT_len okb.1 hn
        have hml := moveT_len okb.2 hn
        refine ⟨tb, _, rfl, SqT.of (s1 _ _ htb), rfl, _, _, rfl, _, _, rfl, rfl, ?_⟩
        refine ⟨_, rfl, .inl ⟨rfl, _, SqL.of h1⟩, ?_⟩
        refine ⟨_, rfl, slen (by rw [cps_app, cps_empty, cps_lit, w_when2]; simp), ?_⟩
        refine ⟨_, rfl, n, g, br.guard, rfl, hg.mono s1, okb.1, hn, fun H2 z s2 hz => .inl ⟨z, rfl, slen (by rw [hz]; omega), _, rfl, slen (by rw [cps_app, cps_app, cps_empty, cps_lit, w_when2, hz]; simp only [List.length_append, List.length_cons, List.length_nil]; omega), ?_⟩⟩
        refine ⟨_, rfl, slen (by rw [cps_app, cps_app, cps_app, cps_empty, cps_lit "when ", cps_lit " do ", w_when2, w_do3, hz]; simp only [List.length_append, List.length_cons, List.length_nil]; omega), ?_⟩
        refine ⟨_, rfl, n, m, br.move, rfl, hm.mono (s1.trans s2), okb.2, hn, fun H3 u s3 hu => .inl ⟨u, rfl, slen (by rw [hu, List.length_tail]; omega), _, rfl, slen (by rw [cps_app, cps_app, cps_app, cps_app, cps_empty, cps_lit "when ", cps_lit " do ", w_when2, w_do3, hz, hu]; simp only [List.length_append, List.length_cons, List.length_nil, List.length_tail]; omega), ?_⟩⟩
        refine ⟨_, rfl, slen (by rw [cps_app, cps_app, cps_app, cps_app, cps_app, cps_empty, cps_lit "when ", cps_lit " do ", cps_lit ";\n", w_when2, w_do3, w_end, hz, hu]; simp only [List.length_append, List.length_cons, List.length_nil, List.length_tail]; omega), ?_⟩
        refine ⟨t, _, _, rfl, rfl, s3 _ _ (s2 _ _ h1), by rw [List.length_map]; exact smallL (by omega), ?_⟩
        refine ⟨⟨_, _, rfl⟩, Same.mut ((s1.trans s2).trans s3) ht, ys ++ [_], by rw [upd_same, List.map_append]; rfl, ?_, by rw [List.length_append, List.length_singleton, hyl]⟩
        rw [List.flatMap_append, e1, flat_take hbr, List.flatMap_cons, List.flatMap_nil, cps_app, cps_app, cps_app, cps_app, cps_app, cps_empty, cps_lit "when ", cps_lit " do ", cps_lit ";\n", w_when2, w_do3, w_end, hz, hu, List.append_assoc]
        congr 2
        show _ = Vaacla.word "when" ++ (Vaacla.guardText br.guard ++ (Vaacla.word " do" ++ (Vaacla.moveText br.move ++ Vaacla.word ";\n")))
        rw [guard_is hn okb.1.2, w_when, w_do4, w_end, move_cons okb.2 hn]
        simp
      · rintro σ H' ⟨⟨x1, y1, rfl⟩, s1, ys, h1, e1, hyl⟩
        rw [hl, List.take_length] at e1
        refine ⟨_, rfl, .inl ⟨rfl, _, SqL.of h1⟩, t, _, _, rfl, rfl, h1, by rw [List.length_map]; exact smallL (by omega), ?_⟩
        refine ⟨_, rfl, ?_⟩
        refine k _ t (ys ++ [("}\n" : Str)]) (Same.mut s1 ht) (by rw [upd_same, List.map_append]; rfl) ?_ (by rw [List.length_append, List.length_singleton]; omega)
        rw [List.flatMap_append, e1, List.flatMap_cons, List.flatMap_nil, cps_lit, List.append_nil, List.append_assoc]
        rfl)
theorem joinL_nil : ∀ l : List (List Nat), TL.joinL [] l = l.flatMap id
  | [] => rfl
  | [x] => by
    show x = List.flatMap id [x]
    simp
  | x :: y :: r => by
    show x ++ ([] ++ TL.joinL [] (y :: r)) = _
    rw [joinL_nil (y :: r), List.nil_append]
    simp
def spProgramShown : Sp := fun vs H Q _ => ∃ (n : Nat) (v : V) (ps : List Piece), vs = [.int (n : Int), v] ∧ PiecesAt H v ps ∧ OkPieces n ps ∧ n ≤ 4 ∧ NewInts H Q ((Vaacla.programText ⟨n, ps⟩).map VaaclBase.int)
theorem c_program_shown (T : Txt K mg A) : Cal P w K mg base 5 "program_shown" spProgramShown [] :=
  cal_mk T.d_program_shown sc_program_shown bn_program_shown (fun vs H Q E h => by
    obtain ⟨_, _, _, rfl, _⟩ := h
    rfl) (fun f cdv A' outer s H vs Q E hr h => by
    refine ⟨_, (pss_cons (ps_set (i := 2) sc_program_shown.nd rfl (Or.inl rfl) (pe_lst (pa_cons (pe_joined (PJ.cons pe_str (PJ.cons (pe_fmt (pv 0)) (PJ.cons pe_str PJ.nil)))) pa_nil)))
      (pss_cons (ps_for PassesOwn.never rfl (pi_list (pv 1)) (pg_name (i := 3) sc_program_shown.nd rfl (Or.inl rfl)) (pss_one (ps_expr (pe_bm PySem.F.plainAttrs_list PySem.F.slot_list_extend PySem.F.type_list_extend mt_extend (pv 2) (pa_cons (pe_c (c_piece_lines T) hr (by decide) (by rfl) (pa_cons (pv 3) pa_nil)) pa_nil)))))
      (pss_one (ps_ret (pe_lc (own := [("sign", 4)]) (g := gName 4) (tt := tYes) rfl sc_program_shown.nd (pi_str (pe_join pe_str (pv 2))) (blkOk_by (own := [("sign", 4)]) (N := N_program_shown) (sc := defScope s_program_shown) (by decide +kernel)) (fun _ _ _ _ _ => pg_name (i := 4) sc_program_shown.nd rfl (Or.inl rfl)) (fun _ _ _ _ _ => pts_nil) (fun _ _ _ _ _ => (pe_callB call_ord (by rfl) T.b_ord (by decide +kernel) (pa_cons (pv 4) pa_nil)))))))), ?_⟩
    obtain ⟨n, v, ps, rfl, ⟨ba, bvs, rfl, hb, hp⟩, ok, hn, k⟩ := h
    have hl : bvs.length = ps.length := hp.length
    have hll := ok.1
    have h1l := num_len (n := n) (by omega)
    have h3 : ∀ p ∈ ps, (Vaacla.pieceText p).length ≤ 720 := fun p hp => pieceT_len (ok.2 p hp) hn
    refine ⟨_, rfl, slen (by rw [cps_app, cps_empty, cps_lit, w_counters2]; simp), ?_⟩
    refine ⟨_, rfl, .inr ⟨(n : Int), rfl, log_ok (by omega), _, rfl, slen (by rw [cps_app, cps_app, cps_empty, cps_lit, w_counters2, cps_num]; simp only [List.length_append, List.length_cons, List.length_nil]; omega), ?_⟩⟩
    refine ⟨_, rfl, slen (by rw [cps_app, cps_app, cps_app, cps_empty, cps_lit "counters ", cps_lit ";\n", w_counters2, w_end, cps_num]; simp only [List.length_append, List.length_cons, List.length_nil]; omega), ?_⟩
    refine ⟨by show 1 ≤ sizeLine; exact small (by decide), fun t ht => ?_⟩
    generalize hz0 : (Str.empty ++ ("counters " : Str) ++ (Str.ofString (toString ((n : Nat) : Int))) ++ (";\n" : Str)) = z0
    have ez0 : cps z0 = [99, 111, 117, 110, 116, 101, 114, 115, 32] ++ Vaacla.numText n ++ [59, 10] := by
      rw [← hz0, cps_app, cps_app, cps_app, cps_empty, cps_lit "counters ", cps_lit ";\n", w_counters2, w_end, cps_num]
      rfl
    have s0 := Same.new (o := .lst [.str z0]) ht
    refine ⟨_, rfl, ba, rfl, ⟨_, SqL.of (s0 _ _ hb)⟩, for_list (K := K) (a := ba) (xs := bvs) (fun i σ H' => (∃ x y, σ = [some (.int (n : Int)), some (.ref ba), some (.ref t), x, y]) ∧ Same H H' ∧ ∃ ys : List Str, H' t = some (.lst (ys.map V.str)) ∧ ys.flatMap cps = [99, 111, 117, 110, 116, 101, 114, 115, 32] ++ Vaacla.numText n ++ [59, 10] ++ (ps.take i).flatMap Vaacla.pieceText ∧ ys.length ≤ 5 * i + 1)
      ⟨⟨_, _, rfl⟩, s0, [z0], upd_same, by rw [List.flatMap_cons, List.flatMap_nil, ez0]; rfl, by simp⟩ (fun i σ H' _ ⟨_, s1, _⟩ => SqL.of (s1 _ _ hb)) ?_ ?_⟩
    · rintro i x σ H' hi ⟨⟨x1, y1, rfl⟩, s1, ys, h1, e1, hyl⟩
      obtain ⟨p, hpi, hP⟩ := pair_at hp hi
      have hi5 := lt_at hpi
      refine ⟨_, rfl, .inl ⟨rfl, _, SqL.of h1⟩, _, rfl, n, x, p, rfl, PieceAt.mono s1 _ _ hP, ok.2 p (mem_at hpi), hn, fun H2 q ys2 s2 hq e2 hl2 => ?_⟩
      refine ⟨t, q, _, _, rfl, rfl, s2 _ _ h1, hq, by rw [List.length_map, List.length_map]; exact small (by omega), ?_⟩
      refine ⟨⟨_, _, rfl⟩, Same.mut (s1.trans s2) ht, ys ++ ys2, by rw [upd_same, List.map_append], ?_, by rw [List.length_append]; omega⟩
      rw [List.flatMap_append, e1, e2, flat_take hpi, List.append_assoc]
    · rintro σ H' ⟨⟨x1, y1, rfl⟩, s1, ys, h1, e1, hyl⟩
      rw [hl, List.take_length] at e1
      have hfl := flat_len (f := Vaacla.pieceText) h3
      have hal : (ys.flatMap cps).length ≤ 4000 := by
        rw [e1]
        simp only [List.length_append, List.length_cons, List.length_nil]
        omega
      have hs := sum_len (c := 4000) (ys := ys) (fun l hl => by
        obtain ⟨z, hz, rfl⟩ := List.mem_map.mp hl
        refine Nat.le_trans ?_ hal
        clear hal e1 h1
        induction ys with
        | nil => cases hz
        | cons a r ih =>
          rw [List.flatMap_cons, List.length_append]
          rcases List.mem_cons.mp hz with rfl | hz
          · omega
          · have := ih (by simp only [List.length_cons] at hyl; omega) hz (by
              obtain ⟨q, hq⟩ := List.mem_map.mp (List.mem_map_of_mem (f := cps) hz)
              exact List.mem_map_of_mem hz)
            omega)
      have he : ("" : Str).length = 0 := by decide +kernel
      have hw : Vaacla.word "" = [] := by decide +kernel
      refine ⟨⟨_, rfl⟩, _, rfl, _, t, ys, rfl, rfl, .inl (SqL.of h1), by rw [he]; omega, ?_⟩
      generalize hz : Txt.join ("" : Str) ys = z
      have ez : cps z = Vaacla.programText ⟨n, ps⟩ := by
        rw [← hz, join_cps, cps_lit, hw, joinL_nil]
        have : (ys.map cps).flatMap id = ys.flatMap cps := by
          rw [List.flatMap_map]
          rfl
        rw [this, e1]
        show _ = Vaacla.word "counters" ++ (32 :: Vaacla.numText n ++ (Vaacla.word ";\n" ++ ps.flatMap Vaacla.pieceText))
        rw [w_counters, w_end]
        simp
      have hzl : z.cps.size ≤ 4000 := by
        have e : z.cps.size = (cps z).length := by simp
        rw [e, ez]
        have := hal
        rw [e1] at this
        show (Vaacla.word "counters" ++ (32 :: Vaacla.numText n ++ (Vaacla.word ";\n" ++ ps.flatMap Vaacla.pieceText))).length ≤ 4000
        rw [w_counters, w_end]
        simp only [List.length_append, List.length_cons, List.length_nil] at this ⊢
        omega
      refine ⟨z, rfl, fun D hD => ?_⟩
      refine lc_it (walk_str (z := z)) (fun i H2 => H2 = upd H' D (.lst (iV (((cps z).take i).map VaaclBase.int)))) rfl (fun _ _ _ _ => trivial) (fun i x H2 H3 hi e y => ?_) (fun H2 e => ?_)
      · subst e
        obtain ⟨rfl, c, hc, rfl⟩ := y
        refine ⟨rfl, ?_⟩
        refine ⟨_, rfl, _, rfl, rfl, _, upd_same, by simp only [List.length_map, List.length_take]; exact smallL (by omega), ?_⟩
        have hc' : (cps z)[i]? = some c := by
          rw [Array.getElem?_toList]
          exact hc
        rw [upd_upd, take_at hc']
        simp only [List.map_append, List.map_cons, List.map_nil, iV]
        rfl
      · subst e
        have e : (cps z).take z.cps.size = cps z := by
          have : z.cps.size = (cps z).length := by simp
          rw [this]
          exact List.take_length
        rw [e, ez]
        exact k _ D (s1.trans (Same.new hD)) (s1.free hD) upd_same)
end CL

set_option Elab.async false
set_option linter.all false
set_option maxRecDepth 100000
set_option maxHeartbeats 4000000
/-! ## The mirror of a run is the specification's -/
namespace CL
open VaaclBase (Values Test Guard Branch Loop Piece okTest)
def endOf (i : Int) : VaaclBase.End_ := if i = 0 then .over else if i = 1 then .beyond else .long
theorem pieceM_move (at_ n : Nat) (s : Values) (m : Mv) : pieceM at_ n s (.move m) = if n = 0 then (2, s, []) else (if VaaclBase.isBeyond (VaaclBase.moved m s) = true then 1 else 0, VaaclBase.moved m s, [((at_ : Int), -1)]) := rfl
theorem pieceM_loop (at_ n : Nat) (s : Values) (l : Loop) : pieceM at_ n s (.loop l) = ((loopM l n s).1, (loopM l n s).2.1, (loopM l n s).2.2.map fun (i : Nat) => ((at_ : Int), (i : Int))) := rfl
theorem runM_cons (p : Piece) (r : List Piece) (at_ n : Nat) (s : Values) : runM (p :: r) at_ n s = if (pieceM at_ n s p).1 ≠ 0 then pieceM at_ n s p else ((runM r (at_ + 1) (n - (pieceM at_ n s p).2.2.length) (pieceM at_ n s p).2.1).1, (runM r (at_ + 1) (n - (pieceM at_ n s p).2.2.length) (pieceM at_ n s p).2.1).2.1,
  (pieceM at_ n s p).2.2 ++ (runM r (at_ + 1) (n - (pieceM at_ n s p).2.2.length) (pieceM at_ n s p).2.1).2.2) := rfl
theorem runPiece_move (most : Nat) (o : VaaclBase.Out) (m : Mv) : VaaclBase.runPiece most o (.move m) = if most ≤ o.rounds then ⟨.long, o.values, o.rounds⟩ else ⟨if VaaclBase.isBeyond (VaaclBase.moved m o.values) then .beyond else .over, VaaclBase.moved m o.values, o.rounds + 1⟩ := rfl
theorem runPiece_loop (most : Nat) (o : VaaclBase.Out) (l : Loop) : VaaclBase.runPiece most o (.loop l) = VaaclBase.runLoop l (most - o.rounds) o.values o.rounds := rfl
theorem runLoop_is (l : Loop) : ∀ (n : Nat) (s : Values) (k : Nat), VaaclBase.runLoop l n s k = ⟨endOf (loopM l n s).1, (loopM l n s).2.1, k + (loopM l n s).2.2.length⟩
  | 0, s, k => by
    cases h : VaaclBase.chosen l s with
    | none =>
      rw [loopM_none h]
      unfold VaaclBase.runLoop
      rw [h]
      rfl
    | some i =>
      rw [loopM_zero h]
      unfold VaaclBase.runLoop
      rw [h]
      rfl
  | n + 1, s, k => by
    cases h : VaaclBase.chosen l s with
    | none =>
      rw [loopM_none h]
      unfold VaaclBase.runLoop
      rw [h]
      rfl
    | some i =>
      rw [loopM_step h]
      unfold VaaclBase.runLoop
      rw [h]
      dsimp only
      by_cases hb : VaaclBase.isBeyond (VaaclBase.moved (VaaclBase.branchAt l i).move s) = true
      · rw [if_pos hb, if_pos hb]
        rfl
      · rw [if_neg hb, if_neg hb, runLoop_is l n]
        dsimp only
        rw [List.length_cons]
        congr 1
        omega
theorem loopM_how (l : Loop) : ∀ (n : Nat) (s : Values), (loopM l n s).1 = 0 ∨ (loopM l n s).1 = 1 ∨ (loopM l n s).1 = 2
  | 0, s => by
    cases h : VaaclBase.chosen l s with
    | none =>
      rw [loopM_none h]
      exact .inl rfl
    | some i =>
      rw [loopM_zero h]
      exact .inr (.inr rfl)
  | n + 1, s => by
    cases h : VaaclBase.chosen l s with
    | none =>
      rw [loopM_none h]
      exact .inl rfl
    | some i =>
      rw [loopM_step h]
      dsimp only
      split
      · exact .inr (.inl rfl)
      · exact loopM_how l n _
theorem pieceM_how (at_ n : Nat) (s : Values) (p : Piece) : (pieceM at_ n s p).1 = 0 ∨ (pieceM at_ n s p).1 = 1 ∨ (pieceM at_ n s p).1 = 2 := by
  cases p with
  | move m =>
    rw [pieceM_move]
    by_cases h : n = 0
    · rw [if_pos h]
      exact .inr (.inr rfl)
    · rw [if_neg h]
      dsimp only
      split
      · exact .inr (.inl rfl)
      · exact .inl rfl
  | loop l => exact loopM_how l n s
theorem runPiece_is (most at_ : Nat) (o : VaaclBase.Out) (p : Piece) : VaaclBase.runPiece most o p = ⟨endOf (pieceM at_ (most - o.rounds) o.values p).1, (pieceM at_ (most - o.rounds) o.values p).2.1, o.rounds + (pieceM at_ (most - o.rounds) o.values p).2.2.length⟩ := by
  cases p with
  | move m =>
    rw [runPiece_move, pieceM_move]
    by_cases h : most ≤ o.rounds
    · have h' : most - o.rounds = 0 := by omega
      rw [if_pos h, if_pos h']
      rfl
    · have h' : ¬ most - o.rounds = 0 := by omega
      rw [if_neg h, if_neg h']
      by_cases hb : VaaclBase.isBeyond (VaaclBase.moved m o.values) = true
      · rw [if_pos hb, if_pos hb]
        rfl
      · rw [if_neg hb, if_neg hb]
        rfl
  | loop l =>
    rw [runPiece_loop, pieceM_loop, runLoop_is]
    dsimp only
    rw [List.length_map]
theorem endOf_over {i : Int} (h : i = 0 ∨ i = 1 ∨ i = 2) : endOf i = .over ↔ i = 0 := by
  rcases h with rfl | rfl | rfl <;> decide
theorem runFrom_stop (most : Nat) (ps : List Piece) (o : VaaclBase.Out) (h : o.how ≠ .over) : VaaclBase.runFrom most ps o = o := by
  cases ps with
  | nil => rfl
  | cons p r =>
    unfold VaaclBase.runFrom
    split
    · rename_i q
      exact absurd q h
    · rfl
theorem runM_how : ∀ (ps : List Piece) (at_ n : Nat) (s : Values), (runM ps at_ n s).1 = 0 ∨ (runM ps at_ n s).1 = 1 ∨ (runM ps at_ n s).1 = 2
  | [], _, _, _ => .inl rfl
  | p :: r, at_, n, s => by
    rw [runM_cons]
    split
    · exact pieceM_how at_ n s p
    · exact runM_how r _ _ _
theorem runFrom_is (most : Nat) : ∀ (ps : List Piece) (at_ : Nat) (s : Values) (k : Nat), k ≤ most → VaaclBase.runFrom most ps ⟨.over, s, k⟩ = ⟨endOf (runM ps at_ (most - k) s).1, (runM ps at_ (most - k) s).2.1, k + (runM ps at_ (most - k) s).2.2.length⟩
  | [], at_, s, k, _ => rfl
  | p :: r, at_, s, k, hk => by
    have e : VaaclBase.runFrom most (p :: r) ⟨.over, s, k⟩ = VaaclBase.runFrom most r (VaaclBase.runPiece most ⟨.over, s, k⟩ p) := rfl
    rw [e, runPiece_is most at_, runM_cons]
    dsimp only
    have hh := pieceM_how at_ (most - k) s p
    have hl := pieceM_len at_ (most - k) s p
    by_cases h0 : (pieceM at_ (most - k) s p).1 = 0
    · rw [if_neg (by simp [h0]), h0]
      show VaaclBase.runFrom most r ⟨.over, _, _⟩ = _
      rw [runFrom_is most r (at_ + 1) _ _ (by omega)]
      have e3 : most - (k + (pieceM at_ (most - k) s p).2.2.length) = most - k - (pieceM at_ (most - k) s p).2.2.length := by omega
      rw [e3, List.length_append]
      congr 1
      omega
    · rw [if_pos h0, runFrom_stop]
      intro q
      exact h0 ((endOf_over hh).mp q)
theorem run_is (p : VaaclBase.Program) (s : Values) : VaaclBase.run p s = ⟨endOf (runM p.pieces 0 2000 s).1, (runM p.pieces 0 2000 s).2.1, (runM p.pieces 0 2000 s).2.2.length⟩ := by
  unfold VaaclBase.run VaaclBase.ROUNDS
  rw [runFrom_is 2000 p.pieces 0 s 0 (by omega)]
  rw [Nat.zero_add]
theorem how_end {i : Int} (h : i = 0 ∨ i = 1 ∨ i = 2) : VaaclBase.howNumber (endOf i) = i := by
  rcases h with rfl | rfl | rfl <;> decide
/-! ### round by round -/
def keyR (r : Vaacla.Round) : Int × Int := ((r.piece : Int), VaaclBase.orNone r.branch)
def lastV (R : List Vaacla.Round) (s : Values) : Values := (R.getLast?.map fun x => x.values).getD s
theorem lastV_nil (s : Values) : lastV [] s = s := rfl
theorem lastV_cons (x : Vaacla.Round) (R : List Vaacla.Round) (s : Values) : lastV (x :: R) s = lastV R x.values := by
  unfold lastV
  cases R with
  | nil => rfl
  | cons y r => rw [List.getLast?_cons_cons]; cases h : (y :: r).getLast? with
    | none => simp at h
    | some z => rfl
theorem lastV_app (R R' : List Vaacla.Round) (s : Values) : lastV (R ++ R') s = lastV R' (lastV R s) := by
  induction R generalizing s with
  | nil => rfl
  | cons x r ih => rw [List.cons_append, lastV_cons, lastV_cons, ih]
theorem rounds_skip {p : Piece × Nat} {r : List (Piece × Nat)} {s : Values} {l : Loop} (hp : p.1 = .loop l) (h : VaaclBase.chosen l s = none) (n : Nat) : Vaacla.roundsFrom n ⟨p :: r, s⟩ = Vaacla.roundsFrom n ⟨r, s⟩ := by
  cases n with
  | zero => rfl
  | succ n =>
    have e : Vaacla.next (p :: r) s = Vaacla.next r s := by
      conv => lhs; unfold Vaacla.next
      rw [hp]
      dsimp only
      rw [h]
    unfold Vaacla.roundsFrom
    dsimp only
    rw [e]
theorem rounds_loop (l : Loop) (at_ : Nat) (r : List (Piece × Nat)) : ∀ (n : Nat) (s : Values), ∃ R, Vaacla.roundsFrom n ⟨(.loop l, at_) :: r, s⟩ = R ++ (if (loopM l n s).1 = 0 then Vaacla.roundsFrom (n - (loopM l n s).2.2.length) ⟨r, (loopM l n s).2.1⟩ else []) ∧
    R.map keyR = ((loopM l n s).2.2.map fun (i : Nat) => ((at_ : Int), (i : Int))) ∧ lastV R s = (loopM l n s).2.1
  | n, s => by
    cases h : VaaclBase.chosen l s with
    | none =>
      refine ⟨[], ?_, ?_, ?_⟩
      · rw [rounds_skip rfl h, loopM_none h, if_pos rfl]
        rfl
      · rw [loopM_none h]
        rfl
      · rw [loopM_none h]
        rfl
    | some i =>
      cases n with
      | zero =>
        refine ⟨[], ?_, ?_, ?_⟩
        · rw [loopM_zero h, if_neg (show ¬ ((2 : Int) = 0) by decide)]
          rfl
        · rw [loopM_zero h]
          rfl
        · rw [loopM_zero h]
          rfl
      | succ n =>
        obtain ⟨R, h1, h2, h3⟩ := rounds_loop l at_ r n (VaaclBase.moved (VaaclBase.branchAt l i).move s)
        have e : Vaacla.roundsFrom (n + 1) ⟨(.loop l, at_) :: r, s⟩ = ⟨at_, some i, VaaclBase.moved (VaaclBase.branchAt l i).move s⟩ :: (if VaaclBase.isBeyond (VaaclBase.moved (VaaclBase.branchAt l i).move s) = true then [] else Vaacla.roundsFrom n ⟨(.loop l, at_) :: r, VaaclBase.moved (VaaclBase.branchAt l i).move s⟩) := by
          conv => lhs; unfold Vaacla.roundsFrom
          have e2 : Vaacla.next ((.loop l, at_) :: r) s = some (⟨at_, some i, VaaclBase.moved (VaaclBase.branchAt l i).move s⟩, ⟨(.loop l, at_) :: r, VaaclBase.moved (VaaclBase.branchAt l i).move s⟩) := by
            unfold Vaacla.next
            dsimp only
            rw [h]
          dsimp only
          rw [e2]
        by_cases hb : VaaclBase.isBeyond (VaaclBase.moved (VaaclBase.branchAt l i).move s) = true
        · refine ⟨[⟨at_, some i, VaaclBase.moved (VaaclBase.branchAt l i).move s⟩], ?_, ?_, ?_⟩
          · rw [e, if_pos hb, loopM_step h]
            dsimp only
            rw [if_pos hb, if_neg (show ¬ ((1 : Int) = 0) by decide)]
            rfl
          · rw [loopM_step h]
            dsimp only
            rw [if_pos hb]
            rfl
          · rw [loopM_step h]
            dsimp only
            rw [if_pos hb]
            rfl
        · refine ⟨⟨at_, some i, VaaclBase.moved (VaaclBase.branchAt l i).move s⟩ :: R, ?_, ?_, ?_⟩
          · rw [e, if_neg hb, loopM_step h]
            dsimp only
            rw [if_neg hb]
            dsimp only
            rw [h1, List.cons_append, List.length_cons, Nat.add_sub_add_right]
          · rw [loopM_step h]
            dsimp only
            rw [if_neg hb]
            dsimp only
            rw [List.map_cons, h2]
            rfl
          · rw [loopM_step h]
            dsimp only
            rw [if_neg hb]
            rw [lastV_cons]
            exact h3
theorem rounds_all : ∀ (ps : List Piece) (at_ n : Nat) (s : Values), (Vaacla.roundsFrom n ⟨ps.zipIdx at_, s⟩).map keyR = (runM ps at_ n s).2.2 ∧ lastV (Vaacla.roundsFrom n ⟨ps.zipIdx at_, s⟩) s = (runM ps at_ n s).2.1
  | [], at_, n, s => by
    cases n <;> exact ⟨rfl, rfl⟩
  | p :: r, at_, n, s => by
    rw [List.zipIdx_cons, runM_cons]
    cases p with
    | move m =>
      rw [pieceM_move]
      cases n with
      | zero =>
        rw [if_pos rfl]
        dsimp only
        rw [if_pos (by decide)]
        exact ⟨rfl, rfl⟩
      | succ n =>
        rw [if_neg (Nat.succ_ne_zero n)]
        dsimp only
        have e : Vaacla.roundsFrom (n + 1) ⟨(.move m, at_) :: r.zipIdx (at_ + 1), s⟩ = ⟨at_, none, VaaclBase.moved m s⟩ :: (if VaaclBase.isBeyond (VaaclBase.moved m s) = true then [] else Vaacla.roundsFrom n ⟨r.zipIdx (at_ + 1), VaaclBase.moved m s⟩) := rfl
        rw [e]
        obtain ⟨h1, h2⟩ := rounds_all r (at_ + 1) n (VaaclBase.moved m s)
        by_cases hb : VaaclBase.isBeyond (VaaclBase.moved m s) = true
        · rw [if_pos hb, if_pos hb, if_pos (by decide)]
          exact ⟨rfl, rfl⟩
        · rw [if_neg hb, if_neg hb, if_neg (by decide)]
          dsimp only
          rw [List.map_cons, lastV_cons, List.length_singleton, Nat.add_sub_cancel]
          exact ⟨congrArg _ h1, h2⟩
    | loop l =>
      obtain ⟨R, h1, h2, h3⟩ := rounds_loop l at_ (r.zipIdx (at_ + 1)) n s
      rw [h1, pieceM_loop]
      dsimp only
      by_cases h0 : (loopM l n s).1 = 0
      · rw [if_pos h0, if_neg (by simp [h0])]
        obtain ⟨i1, i2⟩ := rounds_all r (at_ + 1) (n - (loopM l n s).2.2.length) (loopM l n s).2.1
        rw [List.map_append, lastV_app, h2, h3, List.length_map]
        exact ⟨congrArg _ i1, i2⟩
      · rw [if_neg h0, if_pos h0, List.append_nil]
        exact ⟨h2, h3⟩
theorem rounds_is (p : VaaclBase.Program) (s : Values) (n : Nat) : (Vaacla.rounds p s n).map keyR = (runM p.pieces 0 n s).2.2 ∧ lastV (Vaacla.rounds p s n) s = (runM p.pieces 0 n s).2.1 := rounds_all p.pieces 0 n s
end CL

set_option Elab.async false
set_option linter.all false
set_option maxRecDepth 100000
set_option maxHeartbeats 4000000
namespace CL
open PySem PySem.Spec PyProof.Rows L2
open C8 (Cal Met Mak pe_c pe_mk pe_mt pe_mt0 pe_gc)
open VaaclBase (Values Test Guard Branch Loop Piece okTest)
variable {P : PySem.Program} {w : World} {K : PySem.W.Frag} {mg : Str → Option Value} {base : Heap} {A : Ad}
/-! ## The object -/
theorem lk_here {k : Str} {v : V} {r : List (Str × V)} : List.lookup k ((k, v) :: r) = some v := by
  have e : (k == k) = true := beq_self_eq_true k
  simp only [List.lookup, e]
theorem lk_past {k g : Str} {v : V} {r : List (Str × V)} (h : (k == g) = false) : List.lookup k ((g, v) :: r) = List.lookup k r := by
  simp only [List.lookup, h]
theorem put_here {f : Str} {v x : V} {r : List (Str × V)} : putF f v ((f, x) :: r) = (f, v) :: r := if_pos rfl
theorem put_past {f g : Str} {v x : V} {r : List (Str × V)} (h : ¬ g = f) : putF f v ((g, x) :: r) = (g, x) :: putF f v r := if_neg h
def bF (c : Int) (v : V) : List (Str × V) := [("counters", .int c), ("pieces", v)]
theorem bF_c (c : Int) (v : V) : (bF c v).lookup ("counters" : Str) = some (.int c) := lk_here
theorem bF_p (c : Int) (v : V) : (bF c v).lookup ("pieces" : Str) = some v := (lk_past (by decide +kernel)).trans lk_here
def OkProg (p : Prg) : Prop := 1 ≤ p.counters ∧ p.counters ≤ 4 ∧ OkPieces p.counters p.pieces
/-- the object at b holds the program p -/
def BoxIn (A : Ad) (H : Hp) (b : Addr) (p : Prg) : Prop := ∃ dx pv, H b = some (.ins A.CB dx (bF (p.counters : Int) pv)) ∧ PiecesAt H pv p.pieces ∧ OkProg p
/-! ## runs.py -/
def mayB (n : Nat) (l : List Int) : Bool := decide (l.length = n) && l.all fun v => decide (-1000000 ≤ v) && decide (v ≤ 1000000)
theorem readTimes_int {lo hi : Int} : ∀ (n : Nat) (l : List Int), VaaclBase.readTimes (VaaclBase.readInt lo hi) n l = if n ≤ l.length ∧ (l.take n).all (fun v => decide (lo ≤ v) && decide (v ≤ hi)) = true then some (l.take n, l.drop n) else none
  | 0, l => by
    rw [if_pos ⟨Nat.zero_le _, rfl⟩]
    rfl
  | n + 1, [] => by
    rw [if_neg (by simp)]
    rfl
  | n + 1, z :: r => by
    have e : VaaclBase.readTimes (VaaclBase.readInt lo hi) (n + 1) (z :: r) = ((if lo ≤ z ∧ z ≤ hi then some (z, r) else none : Option (Int × List Int)).bind fun u => (VaaclBase.readTimes (VaaclBase.readInt lo hi) n u.2).map fun v => (u.1 :: v.1, v.2)) := rfl
    rw [e]
    by_cases h : lo ≤ z ∧ z ≤ hi
    · rw [if_pos h]
      show (VaaclBase.readTimes (VaaclBase.readInt lo hi) n r).map _ = _
      rw [readTimes_int n r]
      by_cases h2 : n ≤ r.length ∧ (r.take n).all (fun v => decide (lo ≤ v) && decide (v ≤ hi)) = true
      · rw [if_pos h2, if_pos]
        · rfl
        · refine ⟨by rw [List.length_cons]; omega, ?_⟩
          rw [List.take_succ_cons, List.all_cons, h2.2, decide_eq_true h.1, decide_eq_true h.2]
          rfl
      · rw [if_neg h2, if_neg]
        · rfl
        · intro q
          refine h2 ⟨by have := q.1; rw [List.length_cons] at this; omega, ?_⟩
          have q2 := q.2
          rw [List.take_succ_cons, List.all_cons, Bool.and_eq_true] at q2
          exact q2.2
    · rw [if_neg h, if_neg]
      · rfl
      · intro q
        have q2 := q.2
        rw [List.take_succ_cons, List.all_cons, Bool.and_eq_true, Bool.and_eq_true, decide_eq_true_eq, decide_eq_true_eq] at q2
        exact h q2.1
theorem whole_begin (n : Nat) (l : List Int) : VaaclBase.whole (VaaclBase.readBegin n) l = if mayB n l = true then some l else none := by
  unfold VaaclBase.whole VaaclBase.readBegin VaaclBase.BEGIN
  rw [readTimes_int]
  unfold mayB
  by_cases hl : l.length = n
  · have e1 : l.take n = l := by
      rw [← hl]
      exact List.take_length
    have e2 : l.drop n = [] := by
      rw [← hl]
      exact List.drop_length
    rw [e1, e2, decide_eq_true hl, Bool.true_and]
    by_cases ha : (l.all fun v => decide (-1000000 ≤ v) && decide (v ≤ 1000000)) = true
    · rw [if_pos ⟨by omega, ha⟩, if_pos ha]
    · rw [if_neg (fun q => ha q.2), if_neg ha]
  · rw [decide_eq_false hl, Bool.false_and, if_neg Bool.false_ne_true]
    split
    · rename_i u h
      split at h
      · rename_i q
        have := (Prod.mk.inj (Option.some.inj h)).2
        have := congrArg List.length this
        rw [List.length_drop, List.length_nil] at this
        omega
      · cases h
    · rfl
theorem mayB_len {n : Nat} {l : List Int} (h : mayB n l = true) : l.length = n := by
  unfold mayB at h
  rw [Bool.and_eq_true, decide_eq_true_eq] at h
  exact h.1
def spMayBegin : Sp := fun vs H Q _ => ∃ (n : Nat) (a : Addr) (l : List Int), vs = [.int (n : Int), .ref a] ∧ H a = some (.lst (iV l)) ∧ Q (.bl (mayB n l)) H
theorem c_may_begin (T : Txt K mg A) : Cal P w K mg base 1 "may_begin" spMayBegin [] :=
  cal_mk T.d_may_begin sc_may_begin bn_may_begin (fun vs H Q E h => by
    obtain ⟨_, _, _, rfl, _⟩ := h
    rfl) (fun f cdv A' outer s H vs Q E hr h => by
    refine ⟨_, (pss_cons (ps_if (pt_cmpR op_ne (pe_callB call_len_seq (by rfl) T.b_len PySem.boot_len (pa_cons (pv 1) pa_nil)) (pv 0) (nomark _)) (pss_one (ps_ret pe_bl)) pss_nil)
      (pss_cons (ps_for PassesOwn.never rfl (pi_list (pv 1)) (pg_name (i := 2) sc_may_begin.nd rfl (Or.inl rfl)) (pss_one (ps_if (PW.pt (pw_or (pt_cmpR op_lt (pv 2) (pe_un un_neg (pe_gc (by rfl) T.c_FURTHEST_START)) (nomark _)) (pw_or1 (pt_cmpR op_gt (pv 2) (pe_gc (by rfl) T.c_FURTHEST_START) (nomark _))))) (pss_one (ps_ret pe_bl)) pss_nil)))
      (pss_one (ps_ret pe_bl)))), ?_⟩
    obtain ⟨n, a, l, rfl, ha, k⟩ := h
    have hll : (iV l).length = l.length := by simp
    refine ⟨_, rfl, a, _, rfl, .inl (SqL.of ha), _, rfl, rfl, _, rfl, ?_⟩
    by_cases hl : l.length = n
    · refine ifNF (int_eq (by rw [hll, hl])) ?_
      unfold mayB at k
      rw [decide_eq_true hl, Bool.true_and] at k
      refine ⟨_, rfl, a, rfl, ⟨_, SqL.of ha⟩, for_list (K := K) (a := a) (xs := iV l) (fun i σ H' => H' = H ∧ (∃ v, σ = [some (.int (n : Int)), some (.ref a), v]) ∧ (l.all fun v => decide (-1000000 ≤ v) && decide (v ≤ 1000000)) = ((l.drop i).all fun v => decide (-1000000 ≤ v) && decide (v ≤ 1000000)))
        ⟨rfl, ⟨_, rfl⟩, rfl⟩ (fun i σ H' _ ⟨e, _, _⟩ => by rw [e]; exact SqL.of ha) ?_ ?_⟩
      · rintro i x σ H' hi ⟨rfl, ⟨v, rfl⟩, e⟩
        obtain ⟨z, hz, rfl⟩ := map_at hi
        rw [drop_at hz, List.all_cons] at e
        refine ⟨_, rfl, _, rfl, _, _, rfl, rfl, _, rfl, ifD (fun h => ?_) (fun h => ?_)⟩
        · have h : z < -1000000 := h
          rw [decide_eq_false (show ¬ -1000000 ≤ z by omega), Bool.false_and, Bool.false_and] at e
          rw [e] at k
          exact iteT k
        · have h : ¬ z < -1000000 := h
          refine ⟨_, rfl, _, _, rfl, rfl, _, rfl, ifD (fun h2 => ?_) (fun h2 => ?_)⟩
          · rw [decide_eq_false (show ¬ z ≤ 1000000 by omega), Bool.and_false, Bool.false_and] at e
            rw [e] at k
            exact k
          · rw [decide_eq_true (show -1000000 ≤ z by omega), decide_eq_true (show z ≤ 1000000 by omega), Bool.and_true, Bool.true_and] at e
            exact ⟨rfl, ⟨_, rfl⟩, e⟩
      · rintro σ H' ⟨rfl, ⟨v, rfl⟩, e⟩
        have hz : l.drop (iV l).length = [] := by simp [iV]
        rw [hz] at e
        rw [e] at k
        exact k
    · refine ifNT (fun q => hl (by have := V.int.inj q; rw [hll] at this; omega)) ?_
      unfold mayB at k
      rw [decide_eq_false hl, Bool.false_and] at k
      exact k)
theorem runM_len : ∀ (ps : List Piece) (at_ n : Nat) (s : Values), (runM ps at_ n s).2.2.length ≤ n
  | [], _, n, _ => Nat.zero_le _
  | p :: r, at_, n, s => by
    rw [runM_cons]
    have h1 := pieceM_len at_ n s p
    split
    · exact h1
    · have h2 := runM_len r (at_ + 1) (n - (pieceM at_ n s p).2.2.length) (pieceM at_ n s p).2.1
      dsimp only
      rw [List.length_append]
      omega
theorem pieceM_at {at_ n : Nat} {s : Values} {p : Piece} {x : Int × Int} (h : x ∈ (pieceM at_ n s p).2.2) : x.1 = (at_ : Int) := by
  cases p with
  | move m =>
    rw [pieceM_move] at h
    split at h
    · cases h
    · rcases List.mem_singleton.mp h with rfl
      rfl
  | loop l =>
    rw [pieceM_loop] at h
    obtain ⟨i, _, rfl⟩ := List.mem_map.mp h
    rfl
theorem runM_at : ∀ (ps : List Piece) (at_ n : Nat) (s : Values) (x : Int × Int), x ∈ (runM ps at_ n s).2.2 → ∃ j : Nat, x.1 = (j : Int) ∧ at_ ≤ j ∧ j < at_ + ps.length
  | [], _, _, _, _, h => by cases h
  | p :: r, at_, n, s, x, h => by
    rw [runM_cons] at h
    split at h
    · exact ⟨at_, pieceM_at h, Nat.le_refl _, by rw [List.length_cons]; omega⟩
    · rcases List.mem_append.mp h with h | h
      · exact ⟨at_, pieceM_at h, Nat.le_refl _, by rw [List.length_cons]; omega⟩
      · obtain ⟨j, e, h1, h2⟩ := runM_at r _ _ _ x h
        exact ⟨j, e, by omega, by rw [List.length_cons]; omega⟩
theorem refuse {H : Hp} {Q : VK} {n : Int} (k : NewInts H Q [n]) {p : Addr} (hp : H p = none) : Q (.ref p) (upd H p (.lst [.int n])) := k _ p (Same.new hp) hp upd_same
def spRunTold (A : Ad) : Sp := fun vs H Q _ => ∃ (b a : Addr) (p : Prg) (l : List Int), vs = [.ref b, .ref a] ∧ BoxIn A H b p ∧ H a = some (.lst (iV l)) ∧
  NewInts H Q (if mayB p.counters l = true then VaaclBase.flatOut (VaaclBase.run p l) else [-5])
theorem c_run_told (T : Txt K mg A) : Cal P w K mg base 7 "run_told" (spRunTold A) [] :=
  cal_mk T.d_run_told sc_run_told bn_run_told (fun vs H Q E h => by
    obtain ⟨_, _, _, _, rfl, _⟩ := h
    rfl) (fun f cdv A' outer s H vs Q E hr h => by
    refine ⟨_, (pss_cons (ps_if (pt_not (pt_val (pe_c (c_may_begin T) hr (by decide) (by rfl) (pa_cons (pe_fld (pv 0) rfl) (pa_cons (pv 1) pa_nil))))) (pss_one (ps_ret (pe_lst (pa_cons (pe_un un_neg pe_int) pa_nil)))) pss_nil)
      (pss_cons (ps_asg (pe_c (c_run T) hr (by decide) (by rfl) (pa_cons (pe_fld (pv 0) rfl) (pa_cons (pv 1) (pa_cons (pe_gc (by rfl) T.c_MOST_ROUNDS) pa_nil)))) (pg_tup (by rfl) (pgs_cons (pg_name (i := 2) sc_run_told.nd rfl (Or.inl rfl)) (pgs_cons (pg_name (i := 3) sc_run_told.nd rfl (Or.inl rfl)) (pgs_cons (pg_name (i := 4) sc_run_told.nd rfl (Or.inl rfl)) pgs_nil)))))
      (pss_one (ps_ret (pe_op op_cat (pe_lst (pa_cons (pv 2) (pa_cons (pe_callB call_len_seq (by rfl) T.b_len PySem.boot_len (pa_cons (pv 4) pa_nil)) pa_nil))) (pv 3)))))), ?_⟩
    obtain ⟨b, a, p, l, rfl, ⟨dx, pv, hb, hP, ok⟩, ha, k⟩ := h
    refine ⟨_, rfl, b, _, dx, _, _, rfl, hb, T.clB, T.aB_counters, bF_c _ _, _, rfl, p.counters, a, l, rfl, ha, _, rfl, ?_⟩
    cases hm : mayB p.counters l with
    | false =>
      rw [hm, if_neg Bool.false_ne_true] at k
      exact ⟨_, rfl, by show 1 ≤ sizeLine; exact small (by decide), fun q hq => refuse k hq⟩
    | true =>
      rw [hm, if_pos rfl] at k
      have hll := mayB_len hm
      refine ⟨_, rfl, b, _, dx, _, _, rfl, hb, T.clB, T.aB_pieces, bF_p _ _, _, rfl, pv, a, p.pieces, l, 2000, rfl, hP, ha, by rw [hll]; exact ok.2.2, by rw [hll]; exact Nat.le_trans ok.2.1 (by decide), by decide, ?_⟩
      intro H' q c r s1 hq hc ⟨rv, hrv, hpr⟩
      have hlen : rv.length = (runM p.pieces 0 2000 l).2.2.length := hpr.length
      have hle := runM_len p.pieces 0 2000 l
      refine ⟨q, _, rfl, SqT.of hq, rfl, _, _, rfl, _, _, rfl, _, _, rfl, rfl, ?_⟩
      refine ⟨_, rfl, _, rfl, r, _, rfl, .inl (SqL.of hrv), by show 2 ≤ sizeLine; exact small (by decide), fun t ht => ?_⟩
      have hvl : (runM p.pieces 0 2000 l).2.1.length ≤ 1000 := by
        have : ∀ (ps : List Piece) (at_ n : Nat) (s : Values), OkPieces s.length ps → (runM ps at_ n s).2.1.length = s.length := by
          intro ps
          induction ps with
          | nil => intros; rfl
          | cons x r ih =>
            intro at_ n s hok
            rw [runM_cons]
            have h1 := pieceM_vlen (at_ := at_) (n := n) (hok.2 x List.mem_cons_self)
            split
            · exact h1
            · dsimp only
              rw [ih _ _ _ ⟨by have := hok.1; rw [List.length_cons] at this; omega, fun y hy => by rw [h1]; exact hok.2 y (List.mem_cons_of_mem _ hy)⟩, h1]
        rw [this _ _ _ _ (by rw [hll]; exact ok.2.2), hll]
        exact Nat.le_trans ok.2.1 (by decide)
      refine ⟨_, rfl, t, c, _, _, rfl, rfl, upd_same, (upd_ne (ne_of_none hc ht)).trans hc, by simp only [List.length_cons, List.length_nil, List.length_map, iV]; exact small (by omega), fun u hu => ?_⟩
      refine k _ u ((s1.trans (Same.new ht)).trans (Same.new hu)) ((s1.trans (Same.new ht)).free hu) ?_
      rw [upd_same, hlen, run_is]
      unfold VaaclBase.flatOut
      dsimp only
      rw [how_end (runM_how _ _ _ _)]
      rfl)
def spTrace (A : Ad) : Sp := fun vs H Q _ => ∃ (b a : Addr) (p : Prg) (l : List Int), vs = [.ref b, .ref a] ∧ BoxIn A H b p ∧ H a = some (.lst (iV l)) ∧
  NewInts H Q (if mayB p.counters l = true then (VaaclBase.int (Vaacla.rounds p l 40).length :: (Vaacla.rounds p l 40).flatMap fun x => [VaaclBase.int x.piece, VaaclBase.orNone x.branch]) else [-5])
theorem c_trace (T : Txt K mg A) : Cal P w K mg base 7 "trace" (spTrace A) [] :=
  cal_mk T.d_trace sc_trace bn_trace (fun vs H Q E h => by
    obtain ⟨_, _, _, _, rfl, _⟩ := h
    rfl) (fun f cdv A' outer s H vs Q E hr h => by
    refine ⟨_, (pss_cons (ps_if (pt_not (pt_val (pe_c (c_may_begin T) hr (by decide) (by rfl) (pa_cons (pe_fld (pv 0) rfl) (pa_cons (pv 1) pa_nil))))) (pss_one (ps_ret (pe_lst (pa_cons (pe_un un_neg pe_int) pa_nil)))) pss_nil)
      (pss_cons (ps_asg (pe_c (c_run T) hr (by decide) (by rfl) (pa_cons (pe_fld (pv 0) rfl) (pa_cons (pv 1) (pa_cons (pe_gc (by rfl) T.c_MOST_TRACED) pa_nil)))) (pg_tup (by rfl) (pgs_cons (pg_name (i := 2) sc_trace.nd rfl (Or.inl rfl)) (pgs_cons (pg_name (i := 3) sc_trace.nd rfl (Or.inl rfl)) (pgs_cons (pg_name (i := 4) sc_trace.nd rfl (Or.inl rfl)) pgs_nil)))))
      (pss_cons (ps_set (i := 5) sc_trace.nd rfl (Or.inl rfl) (pe_lst (pa_cons (pe_callB call_len_seq (by rfl) T.b_len PySem.boot_len (pa_cons (pv 4) pa_nil)) pa_nil)))
      (pss_cons (ps_for PassesOwn.never rfl (pi_list (pv 4)) (pg_tup (by rfl) (pgs_cons (pg_name (i := 6) sc_trace.nd rfl (Or.inl rfl)) (pgs_cons (pg_name (i := 7) sc_trace.nd rfl (Or.inl rfl)) pgs_nil))) (pss_one (ps_expr (pe_bm PySem.F.plainAttrs_list PySem.F.slot_list_extend PySem.F.type_list_extend mt_extend (pv 5) (pa_cons (pe_lst (pa_cons (pv 6) (pa_cons (pv 7) pa_nil))) pa_nil)))))
      (pss_one (ps_ret (pv 5))))))), ?_⟩
    obtain ⟨b, a, p, l, rfl, ⟨dx, pv, hb, hP, ok⟩, ha, k⟩ := h
    refine ⟨_, rfl, b, _, dx, _, _, rfl, hb, T.clB, T.aB_counters, bF_c _ _, _, rfl, p.counters, a, l, rfl, ha, _, rfl, ?_⟩
    cases hm : mayB p.counters l with
    | false =>
      rw [hm, if_neg Bool.false_ne_true] at k
      exact ⟨_, rfl, by show 1 ≤ sizeLine; exact small (by decide), fun q hq => refuse k hq⟩
    | true =>
      rw [hm, if_pos rfl] at k
      have hll := mayB_len hm
      refine ⟨_, rfl, b, _, dx, _, _, rfl, hb, T.clB, T.aB_pieces, bF_p _ _, _, rfl, pv, a, p.pieces, l, 40, rfl, hP, ha, by rw [hll]; exact ok.2.2, by rw [hll]; exact Nat.le_trans ok.2.1 (by decide), by decide, ?_⟩
      intro H' q c r s1 hq hc ⟨rv, hrv, hpr⟩
      have hkey := (rounds_is p l 40).1
      have hle := runM_len p.pieces 0 40 l
      have ek : (VaaclBase.int (Vaacla.rounds p l 40).length :: (Vaacla.rounds p l 40).flatMap fun x => [VaaclBase.int x.piece, VaaclBase.orNone x.branch]) = ((runM p.pieces 0 40 l).2.2.length : Int) :: (runM p.pieces 0 40 l).2.2.flatMap fun x => [x.1, x.2] := by
        rw [← hkey, List.length_map, List.flatMap_map]
        rfl
      rw [ek] at k
      generalize (runM p.pieces 0 40 l).2.2 = ks at k hpr hle
      have hlen : rv.length = ks.length := hpr.length
      refine ⟨q, _, rfl, SqT.of hq, rfl, _, _, rfl, _, _, rfl, _, _, rfl, rfl, ?_⟩
      refine ⟨_, rfl, r, _, rfl, .inl (SqL.of hrv), by show 1 ≤ sizeLine; exact small (by decide), fun t ht => ?_⟩
      have s2 := Same.new (o := .lst [.int (rv.length : Int)]) ht
      have h2 : ∀ x ∈ ks, ([x.1, x.2] : List Int).length ≤ 2 := fun _ _ => Nat.le_refl _
      refine ⟨_, rfl, r, rfl, ⟨_, SqL.of (s2 _ _ hrv)⟩, for_list (K := K) (a := r) (xs := rv) (fun i σ H2 => (∃ x y, σ = [some (.ref b), some (.ref a), some (.int (runM p.pieces 0 40 l).1), some (.ref c), some (.ref r), some (.ref t), x, y]) ∧ Same H' H2 ∧ H2 t = some (.lst (iV ((ks.length : Int) :: (ks.take i).flatMap fun x => [x.1, x.2]))))
        ⟨⟨_, _, rfl⟩, s2, by rw [← hlen]; exact upd_same⟩ (fun i σ H2 _ ⟨_, s3, _⟩ => SqL.of (s3 _ _ hrv)) ?_ ?_⟩
      · rintro i x σ H2 hi ⟨⟨x1, y1, rfl⟩, s3, h1⟩
        obtain ⟨kx, hkx, ta, rfl, hta⟩ := pair_at hpr hi
        have hb := flat_take_len (i := i) h2
        have hf := flat_take (f := fun x : Int × Int => [x.1, x.2]) hkx
        refine ⟨ta, _, rfl, SqT.of (s3 _ _ hta), rfl, _, _, rfl, _, _, rfl, rfl, ?_⟩
        refine ⟨_, rfl, .inl ⟨rfl, _, SqL.of h1⟩, _, rfl, _, rfl, by show 2 ≤ sizeLine; exact small (by decide), fun u hu => ?_⟩
        refine ⟨t, u, _, _, rfl, rfl, (upd_ne (ne_of_none h1 hu)).trans h1, upd_same, by simp only [List.length_map, List.length_cons, List.length_nil, iV]; exact small (by omega), ?_⟩
        refine ⟨⟨_, _, rfl⟩, Same.mut (s3.trans (Same.new hu)) ht, ?_⟩
        rw [upd_same, hf]
        simp only [iV, List.map_append, List.map_cons, List.map_nil, List.cons_append]
      · rintro σ H2 ⟨⟨x1, y1, rfl⟩, s3, h1⟩
        rw [hlen, List.take_length] at h1
        exact ⟨_, rfl, k _ _ (s1.trans s3) (s1.free ht) h1⟩)
def spAfter (A : Ad) : Sp := fun vs H Q _ => ∃ (b a : Addr) (p : Prg) (n : Int) (l : List Int), vs = [.ref b, .int n, .ref a] ∧ BoxIn A H b p ∧ H a = some (.lst (iV l)) ∧
  NewInts H Q (if n < 0 ∨ 2000 < n then [-3] else if mayB p.counters l = true then (0 :: lastV (Vaacla.rounds p l n.toNat) l) else [-5])
theorem runM_vlen : ∀ (ps : List Piece) (at_ n : Nat) (s : Values), OkPieces s.length ps → (runM ps at_ n s).2.1.length = s.length
  | [], _, _, _, _ => rfl
  | x :: r, at_, n, s, hok => by
    rw [runM_cons]
    have h1 := pieceM_vlen (at_ := at_) (n := n) (hok.2 x List.mem_cons_self)
    split
    · exact h1
    · dsimp only
      rw [runM_vlen r _ _ _ ⟨by have := hok.1; rw [List.length_cons] at this; omega, fun y hy => by rw [h1]; exact hok.2 y (List.mem_cons_of_mem _ hy)⟩, h1]
theorem c_after (T : Txt K mg A) : Cal P w K mg base 7 "after" (spAfter A) [] :=
  cal_mk T.d_after sc_after bn_after (fun vs H Q E h => by
    obtain ⟨_, _, _, _, _, rfl, _⟩ := h
    rfl) (fun f cdv A' outer s H vs Q E hr h => by
    refine ⟨_, (pss_cons (ps_if (PW.pt (pw_or (pt_cmpR op_lt (pv 1) pe_int (nomark _)) (pw_or1 (pt_cmpR op_gt (pv 1) (pe_gc (by rfl) T.c_MOST_ROUNDS) (nomark _))))) (pss_one (ps_ret (pe_lst (pa_cons (pe_un un_neg pe_int) pa_nil)))) pss_nil)
      (pss_cons (ps_if (pt_not (pt_val (pe_c (c_may_begin T) hr (by decide) (by rfl) (pa_cons (pe_fld (pv 0) rfl) (pa_cons (pv 2) pa_nil))))) (pss_one (ps_ret (pe_lst (pa_cons (pe_un un_neg pe_int) pa_nil)))) pss_nil)
      (pss_cons (ps_asg (pe_c (c_run T) hr (by decide) (by rfl) (pa_cons (pe_fld (pv 0) rfl) (pa_cons (pv 2) (pa_cons (pv 1) pa_nil)))) (pg_tup (by rfl) (pgs_cons (pg_name (i := 3) sc_after.nd rfl (Or.inl rfl)) (pgs_cons (pg_name (i := 4) sc_after.nd rfl (Or.inl rfl)) (pgs_cons (pg_name (i := 5) sc_after.nd rfl (Or.inl rfl)) pgs_nil)))))
      (pss_one (ps_ret (pe_op op_cat (pe_lst (pa_cons pe_int pa_nil)) (pv 4))))))), ?_⟩
    obtain ⟨b, a, p, n, l, rfl, ⟨dx, pv, hb, hP, ok⟩, ha, k⟩ := h
    refine ⟨_, rfl, _, _, rfl, rfl, _, rfl, ifD (fun h0 => ?_) (fun h0 => ?_)⟩
    · rw [if_pos (.inl h0)] at k
      refine iteT ?_
      exact ⟨_, rfl, by show 1 ≤ sizeLine; exact small (by decide), fun q hq => refuse k hq⟩
    · refine ⟨_, rfl, _, _, rfl, rfl, _, rfl, ifD (fun h1 => ?_) (fun h1 => ?_)⟩
      · rw [if_pos (.inr h1)] at k
        exact ⟨_, rfl, by show 1 ≤ sizeLine; exact small (by decide), fun q hq => refuse k hq⟩
      · rw [if_neg (by omega)] at k
        refine ⟨_, rfl, b, _, dx, _, _, rfl, hb, T.clB, T.aB_counters, bF_c _ _, _, rfl, p.counters, a, l, rfl, ha, _, rfl, ?_⟩
        cases hm : mayB p.counters l with
        | false =>
          rw [hm, if_neg Bool.false_ne_true] at k
          exact ⟨_, rfl, by show 1 ≤ sizeLine; exact small (by decide), fun q hq => refuse k hq⟩
        | true =>
          rw [hm, if_pos rfl] at k
          have hll := mayB_len hm
          have hn : n = ((n.toNat : Nat) : Int) := by omega
          refine ⟨_, rfl, b, _, dx, _, _, rfl, hb, T.clB, T.aB_pieces, bF_p _ _, _, rfl, _, rfl, pv, a, p.pieces, l, n.toNat, by rw [← hn]; rfl, hP, ha, by rw [hll]; exact ok.2.2, by rw [hll]; exact Nat.le_trans ok.2.1 (by decide), by omega, ?_⟩
          intro H' q c r s1 hq hc ⟨rv, hrv, hpr⟩
          rw [(rounds_is p l n.toNat).2] at k
          have hvl := runM_vlen p.pieces 0 n.toNat l (by rw [hll]; exact ok.2.2)
          refine ⟨q, _, rfl, SqT.of hq, rfl, _, _, rfl, _, _, rfl, _, _, rfl, rfl, ?_⟩
          refine ⟨by show 1 ≤ sizeLine; exact small (by decide), fun t ht => ?_⟩
          have h4 := ok.2.1
          refine ⟨_, rfl, t, c, _, _, rfl, rfl, upd_same, (upd_ne (ne_of_none hc ht)).trans hc, by simp only [List.length_cons, List.length_nil, List.length_map, iV]; exact small (by omega), fun u hu => ?_⟩
          exact k _ u ((s1.trans (Same.new ht)).trans (Same.new hu)) ((s1.trans (Same.new ht)).free hu) upd_same)
end CL

set_option Elab.async false
set_option linter.all false
set_option maxRecDepth 100000
set_option maxHeartbeats 4000000
namespace CL
open PySem PySem.Spec PyProof.Rows L2
open C8 (Cal Met Mak pe_c pe_mk pe_mt pe_mt0 pe_gc)
open VaaclBase (Values Test Guard Branch Loop Piece okTest)
variable {P : PySem.Program} {w : World} {K : PySem.W.Frag} {mg : Str → Option Value} {base : Heap} {A : Ad}
/-- how many rounds each piece has -/
def countsOf (m : Nat) (ks : List (Int × Int)) : List Int := (List.range m).map fun (k : Nat) => ((ks.countP fun x => x.1 == (k : Int) : Nat) : Int)
theorem countsOf_len (m : Nat) (ks : List (Int × Int)) : (countsOf m ks).length = m := by simp [countsOf]
theorem countsOf_nil (m : Nat) : countsOf m [] = (List.range m).map fun _ => 0 := rfl
theorem countsOf_at {m j : Nat} {ks : List (Int × Int)} (h : j < m) : (countsOf m ks)[j]? = some ((ks.countP fun x => x.1 == (j : Int) : Nat) : Int) := by
  unfold countsOf
  rw [List.getElem?_map, List.getElem?_range h]
  rfl
theorem countsOf_snoc {m j : Nat} {ks : List (Int × Int)} {x : Int × Int} (hx : x.1 = (j : Int)) : countsOf m (ks ++ [x]) = (countsOf m ks).set j (((ks.countP fun x => x.1 == (j : Int) : Nat) : Int) + 1) := by
  apply List.ext_getElem?
  intro i
  rw [List.getElem?_set]
  by_cases hi : i < m
  · rw [countsOf_at hi, countsOf_len]
    rw [List.countP_append, List.countP_singleton]
    by_cases hj : j = i
    · subst hj
      rw [if_pos rfl, if_pos hi, hx]
      simp
    · rw [if_neg hj, countsOf_at hi, hx]
      have : ((j : Int) == (i : Int)) = false := by
        rw [beq_eq_false_iff_ne]
        omega
      rw [this]
      simp
  · have h1 : (countsOf m (ks ++ [x]))[i]? = none := List.getElem?_eq_none (by rw [countsOf_len]; omega)
    have h2 : (countsOf m ks)[i]? = none := List.getElem?_eq_none (by rw [countsOf_len]; omega)
    rw [h1, h2, countsOf_len]
    split
    · rw [if_neg (by omega)]
    · rfl
def spCounts (A : Ad) : Sp := fun vs H Q _ => ∃ (b a : Addr) (p : Prg) (l : List Int), vs = [.ref b, .ref a] ∧ BoxIn A H b p ∧ H a = some (.lst (iV l)) ∧
  NewInts H Q (if mayB p.counters l = true then (VaaclBase.int (Vaacla.rounds p l 2000).length :: (List.range p.pieces.length).map fun k => VaaclBase.int ((Vaacla.rounds p l 2000).countP fun x => x.piece == k)) else [-5])
theorem c_counts (T : Txt K mg A) : Cal P w K mg base 7 "counts" (spCounts A) [] :=
  cal_mk T.d_counts sc_counts bn_counts (fun vs H Q E h => by
    obtain ⟨_, _, _, _, rfl, _⟩ := h
    rfl) (fun f cdv A' outer s H vs Q E hr h => by
    refine ⟨_, (pss_cons (ps_if (pt_not (pt_val (pe_c (c_may_begin T) hr (by decide) (by rfl) (pa_cons (pe_fld (pv 0) rfl) (pa_cons (pv 1) pa_nil))))) (pss_one (ps_ret (pe_lst (pa_cons (pe_un un_neg pe_int) pa_nil)))) pss_nil)
      (pss_cons (ps_asg (pe_c (c_run T) hr (by decide) (by rfl) (pa_cons (pe_fld (pv 0) rfl) (pa_cons (pv 1) (pa_cons (pe_gc (by rfl) T.c_MOST_ROUNDS) pa_nil)))) (pg_tup (by rfl) (pgs_cons (pg_name (i := 2) sc_counts.nd rfl (Or.inl rfl)) (pgs_cons (pg_name (i := 3) sc_counts.nd rfl (Or.inl rfl)) (pgs_cons (pg_name (i := 4) sc_counts.nd rfl (Or.inl rfl)) pgs_nil)))))
      (pss_cons (ps_setLc (i := 5) (own := [("piece", 6)]) (g := gName 6) (tt := tYes) rfl sc_counts.nd rfl rfl (sw_true rfl rfl rfl (by decide +kernel)) (pi_list (pe_fld (pv 0) rfl)) (blkOk_by (own := [("piece", 6)]) (N := N_counts) (sc := defScope s_counts) (by decide +kernel)) (fun _ _ _ _ _ => pg_name (i := 6) sc_counts.nd rfl (Or.inl rfl)) (fun _ _ _ _ _ => pts_nil) (fun _ _ _ _ _ => pe_int))
      (pss_cons (ps_for PassesOwn.never rfl (pi_list (pv 4)) (pg_tup (by rfl) (pgs_cons (pg_name (i := 6) sc_counts.nd rfl (Or.inl rfl)) (pgs_cons (pg_name (i := 7) sc_counts.nd rfl (Or.inl rfl)) pgs_nil))) (pss_one (ps_augS (pv 5) (pv 6) get_list pe_int ip_add set_list)))
      (pss_one (ps_ret (pe_op op_cat (pe_lst (pa_cons (pe_callB call_len_seq (by rfl) T.b_len PySem.boot_len (pa_cons (pv 4) pa_nil)) pa_nil)) (pv 5)))))))), ?_⟩
    obtain ⟨b, a, p, l, rfl, ⟨dx, pv, hb, hP, ok⟩, ha, k⟩ := h
    refine ⟨_, rfl, b, _, dx, _, _, rfl, hb, T.clB, T.aB_counters, bF_c _ _, _, rfl, p.counters, a, l, rfl, ha, _, rfl, ?_⟩
    cases hm : mayB p.counters l with
    | false =>
      rw [hm, if_neg Bool.false_ne_true] at k
      exact ⟨_, rfl, by show 1 ≤ sizeLine; exact small (by decide), fun q hq => refuse k hq⟩
    | true =>
      rw [hm, if_pos rfl] at k
      have hll := mayB_len hm
      refine ⟨_, rfl, b, _, dx, _, _, rfl, hb, T.clB, T.aB_pieces, bF_p _ _, _, rfl, pv, a, p.pieces, l, 2000, rfl, hP, ha, by rw [hll]; exact ok.2.2, by rw [hll]; exact Nat.le_trans ok.2.1 (by decide), by decide, ?_⟩
      intro H' q c r s1 hq hc ⟨rv, hrv, hpr⟩
      have hkey := (rounds_is p l 2000).1
      have hat := runM_at p.pieces 0 2000 l
      have ek : (VaaclBase.int (Vaacla.rounds p l 2000).length :: (List.range p.pieces.length).map fun k => VaaclBase.int ((Vaacla.rounds p l 2000).countP fun x => x.piece == k)) = ((runM p.pieces 0 2000 l).2.2.length : Int) :: countsOf p.pieces.length (runM p.pieces 0 2000 l).2.2 := by
        rw [← hkey, List.length_map]
        unfold countsOf VaaclBase.int
        congr 1
        refine List.map_congr_left fun k _ => ?_
        rw [List.countP_map]
        congr 2
        funext x
        show (x.piece == k) = ((x.piece : Int) == (k : Int))
        rw [Bool.eq_iff_iff, beq_iff_eq, beq_iff_eq]
        omega
      rw [ek] at k
      generalize (runM p.pieces 0 2000 l).2.2 = ks at k hpr hat
      have hlen : rv.length = ks.length := hpr.length
      refine ⟨q, _, rfl, SqT.of hq, rfl, _, _, rfl, _, _, rfl, _, _, rfl, rfl, ?_⟩
      obtain ⟨pa, pvs, rfl, hpa, hpp⟩ := PiecesAt.mono s1 _ _ hP
      have hpl : pvs.length = p.pieces.length := hpp.length
      have h5 := ok.2.2.1
      refine ⟨_, rfl, b, _, dx, _, _, rfl, s1 _ _ hb, T.clB, T.aB_pieces, bF_p _ _, pa, rfl, ⟨_, SqL.of hpa⟩, fun D hD => ?_⟩
      refine lc_list (K := K) (a := pa) (xs := pvs) (fun i H2 => H2 = upd H' D (.lst (iV ((List.range i).map fun _ => 0)))) rfl (fun i H2 _ e => ?_) (fun i x H2 hi e => ?_) (fun H2 e => ?_)
      · rw [e]
        exact SqL.of ((upd_ne (ne_of_none hpa hD)).trans hpa)
      · subst e
        have hil := lt_at hi
        refine ⟨rfl, ?_⟩
        refine ⟨_, upd_same, by simp only [iV, List.length_map, List.length_range]; exact smallL (by omega), ?_⟩
        rw [upd_upd, List.range_succ]
        simp only [iV, List.map_append, List.map_cons, List.map_nil]
      · subst e
        rw [hpl, ← countsOf_nil]
        have s2 := Same.new (o := .lst (iV (countsOf p.pieces.length []))) hD
        refine ⟨_, rfl, r, rfl, ⟨_, SqL.of (s2 _ _ hrv)⟩, for_list (K := K) (a := r) (xs := rv) (fun i σ H3 => (∃ x y, σ = [some (.ref b), some (.ref a), some (.int (runM p.pieces 0 2000 l).1), some (.ref c), some (.ref r), some (.ref D), x, y]) ∧ Same H' H3 ∧ H3 D = some (.lst (iV (countsOf p.pieces.length (ks.take i)))))
          ⟨⟨_, _, rfl⟩, s2, upd_same⟩ (fun i σ H3 _ ⟨_, s3, _⟩ => SqL.of (s3 _ _ hrv)) ?_ ?_⟩
        · rintro i x σ H3 hi ⟨⟨x1, y1, rfl⟩, s3, h1⟩
          obtain ⟨kx, hkx, ta, rfl, hta⟩ := pair_at hpr hi
          obtain ⟨j, hj, _, hj2⟩ := hat kx (mem_at hkx)
          refine ⟨ta, _, rfl, SqT.of (s3 _ _ hta), rfl, _, _, rfl, _, _, rfl, rfl, ?_⟩
          have hjl : j < p.pieces.length := by omega
          have hat2 : (iV (countsOf p.pieces.length (ks.take i)))[j]? = some (.int (((ks.take i).countP fun x => x.1 == (j : Int) : Nat) : Int)) := by
            rw [List.getElem?_map, countsOf_at hjl]
            rfl
          refine ⟨_, rfl, _, rfl, D, _, j, _, rfl, by rw [hj], SqL.of h1, hat2, _, _, rfl, rfl, ?_⟩
          refine ⟨D, _, _, j, rfl, rfl, h1, ?_, ?_⟩
          · rw [hj]
            unfold ixN
            rw [if_pos (by omega), if_pos (by simp only [iV, List.length_map, countsOf_len]; omega)]
            simp
          · refine ⟨⟨_, _, rfl⟩, Same.mut s3 hD, ?_⟩
            rw [upd_same, take_at hkx, countsOf_snoc hj]
            simp only [iV, List.map_set]
        · rintro σ H3 ⟨⟨x1, y1, rfl⟩, s3, h1⟩
          rw [hlen, List.take_length] at h1
          refine ⟨_, rfl, r, _, rfl, .inl (SqL.of (s3 _ _ hrv)), by show 1 ≤ sizeLine; exact small (by decide), fun t ht => ?_⟩
          refine ⟨_, rfl, t, D, _, _, rfl, rfl, upd_same, (upd_ne (ne_of_none h1 ht)).trans h1, by simp only [List.length_cons, List.length_nil, List.length_map, iV, countsOf_len]; exact small (by omega), fun u hu => ?_⟩
          refine k _ u (((s1.trans s3).trans (Same.new ht)).trans (Same.new hu)) (((s1.trans s3).trans (Same.new ht)).free hu) ?_
          rw [upd_same, hlen]
          rfl)
/-! ### box -/
def manyV (lo hi : Int) (n : Nat) : Int := (hi - lo + 1) ^ n
theorem pow_bnd {x : Int} (h0 : 0 ≤ x) (h1 : x ≤ 2000001) : ∀ i : Nat, i < 4 → 0 ≤ x ^ i ∧ x ^ i ≤ 8000012000006000001
  | 0, _ => by simp
  | 1, _ => by
    rw [Int.pow_one] <;> omega
  | 2, _ => by
    have e : x ^ 2 = x * x := by rw [Int.pow_succ, Int.pow_one]
    rw [e]
    have a := Int.mul_nonneg h0 h0
    have b := Int.mul_le_mul h1 h1 h0 (by decide : (0 : Int) ≤ 2000001)
    omega
  | 3, _ => by
    have e : x ^ 3 = x * x * x := by rw [Int.pow_succ, Int.pow_succ, Int.pow_one]
    rw [e]
    have a := Int.mul_nonneg h0 h0
    have b := Int.mul_le_mul h1 h1 h0 (by decide : (0 : Int) ≤ 2000001)
    have c := Int.mul_nonneg a h0
    have d := Int.mul_le_mul b h1 h0 (by decide : (0 : Int) ≤ 2000001 * 2000001)
    omega
  | i + 4, h => by omega
def spManyValues : Sp := fun vs H Q _ => ∃ (n : Nat) (lo hi : Int), vs = [.int (n : Int), .int lo, .int hi] ∧ n ≤ 4 ∧ 0 ≤ hi - lo + 1 ∧ hi - lo + 1 ≤ 2000001 ∧ Q (.int (manyV lo hi n)) H
theorem c_many_values (T : Txt K mg A) : Cal P w K mg base 1 "many_values" spManyValues [] :=
  cal_mk T.d_many_values sc_many_values bn_many_values (fun vs H Q E h => by
    obtain ⟨_, _, _, rfl, _⟩ := h
    rfl) (fun f cdv A' outer s H vs Q E hr h => by
    refine ⟨_, (pss_cons (ps_set (i := 3) sc_many_values.nd rfl (Or.inl rfl) pe_int)
      (pss_cons (ps_for PassesOwn.never rfl (pi_range1 (by rfl) T.b_range (pa_cons (pv 0) pa_nil)) (pg_name (i := 4) sc_many_values.nd rfl (Or.inl rfl)) (pss_one (ps_set (i := 3) sc_many_values.nd rfl (Or.inl rfl) (pe_op op_mul (pv 3) (pe_op op_add (pe_op op_sub (pv 2) (pv 1)) pe_int)))))
      (pss_one (ps_ret (pv 3))))), ?_⟩
    obtain ⟨n, lo, hi, rfl, hn, h0, h1, k⟩ := h
    have ro := rng_ok (n := n) (by omega)
    refine ⟨_, rfl, _, rfl, ro.1, ro.2, for_range (lo := 0) (fun i σ H' => H' = H ∧ ∃ x, σ = [some (.int (n : Int)), some (.int lo), some (.int hi), some (.int (manyV lo hi i)), x]) ⟨rfl, none, by unfold manyV; rw [Int.pow_zero]; rfl⟩ ?_ ?_⟩
    · rintro i σ H' hi' ⟨rfl, x, rfl⟩
      have hb := pow_bnd h0 h1 i (by omega)
      refine ⟨_, rfl, _, rfl, _, rfl, _, _, rfl, rfl, _, _, rfl, rfl, _, _, rfl, rfl, .inl ⟨?_, ?_⟩, rfl, some (.int (0 + (i : Int))), ?_⟩
      · have := hb.1
        unfold manyV
        omega
      · have := hb.2
        unfold manyV
        omega
      · unfold manyV
        rw [Int.pow_succ]
        rfl
    · rintro σ H' ⟨rfl, x, rfl⟩
      rw [Int.toNat_natCast]
      exact ⟨_, rfl, k⟩)
/-- a list that grows, of things that stand in the rest of the heap -/
structure GW {α : Type} (R : Hp → V → α → Prop) (G H : Hp) (t : Addr) (xs : List α) : Prop where
  same : Same G H
  hole : G t = none
  at_ : ∃ vs, H t = some (.lst vs) ∧ Paired (R G) vs xs
theorem GW.to {α : Type} {R : Hp → V → α → Prop} {G H H' : Hp} {t : Addr} {xs : List α} (h : GW R G H t xs) (s : Same H H') : GW R G H' t xs := by
  obtain ⟨vs, h1, h2⟩ := h.at_
  exact ⟨h.same.trans s, h.hole, vs, s _ _ h1, h2⟩
theorem GW.new {α : Type} {R : Hp → V → α → Prop} (m : ∀ {H H' : Hp}, Same H H' → ∀ v x, R H v x → R H' v x) {G H : Hp} {t p : Addr} {xs : List α} {o : HO} (h : GW R G H t xs) (hp : H p = none) : GW R (upd G p o) (upd H p o) t xs := by
  obtain ⟨vs, h1, h2⟩ := h.at_
  have hpr : t ≠ p := ne_of_none h1 hp
  refine ⟨fun b u e => ?_, (upd_ne hpr).trans h.hole, vs, (upd_ne hpr).trans h1, Paired.mapP h2 (m (Same.new (h.same.free hp)))⟩
  by_cases hb : b = p
  · subst hb
    rw [upd_same] at e ⊢
    exact e
  · rw [upd_ne hb] at e ⊢
    exact h.same _ _ e
theorem GW.app {α : Type} {R : Hp → V → α → Prop} {G H : Hp} {t : Addr} {xs : List α} {v : V} {x : α} (h : GW R G H t xs) (hx : R G v x) : ∃ vs, H t = some (.lst vs) ∧ vs.length = xs.length ∧ GW R G (upd H t (.lst (vs ++ [v]))) t (xs ++ [x]) := by
  obtain ⟨vs, h1, h2⟩ := h.at_
  exact ⟨vs, h1, h2.length, Same.mut h.same h.hole, h.hole, _, upd_same, pair_app h2 (.cons hx .nil)⟩
/-- rows of values, one list a row -/
def RowAt (H : Hp) (v : V) (l : List Int) : Prop := ∃ a, v = .ref a ∧ H a = some (.lst (iV l))
theorem RowAt.mono {H H' : Hp} (s : Same H H') (v : V) (g : List Int) (h : RowAt H v g) : RowAt H' v g := by
  obtain ⟨a, e, h1⟩ := h
  exact ⟨a, e, s _ _ h1⟩
abbrev RowsAt : Hp → V → List (List Int) → Prop := ListAt RowAt
theorem RowsAt.mono {H H' : Hp} (s : Same H H') (v : V) (l : List (List Int)) (h : RowsAt H v l) : RowsAt H' v l := ListAt.mono (RowAt.mono s) s h
def numsOf (lo : Int) (n : Nat) : List Int := (List.range n).map fun (k : Nat) => lo + (k : Int)
def longerM (rows : List (List Int)) (lo : Int) (n : Nat) : List (List Int) := rows.flatMap fun row => (numsOf lo n).map fun x => row ++ [x]
def NewRows (H : Hp) (Q : VK) (l : List (List Int)) : Prop := ∀ (H' : Hp) (p : Addr) (vs : List V), Same H H' → H' p = some (.lst vs) → Paired (RowAt H') vs l → Q (.ref p) H'
def spLonger : Sp := fun vs H Q _ => ∃ (r : V) (rows : List (List Int)) (lo hi : Int), vs = [r, .int lo, .int hi] ∧ RowsAt H r rows ∧ -1000000 ≤ lo ∧ hi ≤ 1000000 ∧ lo ≤ hi ∧ rows.length * (hi - lo + 1).toNat ≤ 10000 ∧ (∀ x ∈ rows, x.length ≤ 10) ∧ NewRows H Q (longerM rows lo (hi - lo + 1).toNat)
theorem c_longer_by_one (T : Txt K mg A) : Cal P w K mg base 1 "longer_by_one" spLonger [] :=
  cal_mk T.d_longer_by_one sc_longer_by_one bn_longer_by_one (fun vs H Q E h => by
    obtain ⟨_, _, _, _, rfl, _⟩ := h
    rfl) (fun f cdv A' outer s H vs Q E hr h => by
    refine ⟨_, (pss_cons (ps_set (i := 3) sc_longer_by_one.nd rfl (Or.inl rfl) (pe_lst pa_nil))
      (pss_cons (ps_for PassesOwn.never rfl (pi_list (pv 0)) (pg_name (i := 4) sc_longer_by_one.nd rfl (Or.inl rfl)) (pss_one (ps_for PassesOwn.never rfl (pi_range2 (by rfl) T.b_range (pa_cons (pv 1) (pa_cons (pe_op op_add (pv 2) pe_int) pa_nil))) (pg_name (i := 5) sc_longer_by_one.nd rfl (Or.inl rfl)) (pss_one (ps_expr (pe_bm PySem.F.plainAttrs_list PySem.F.slot_list_append PySem.F.type_list_append mt_append (pv 3) (pa_cons (pe_op op_cat (pv 4) (pe_lst (pa_cons (pv 5) pa_nil))) pa_nil)))))))
      (pss_one (ps_ret (pv 3))))), ?_⟩
    obtain ⟨r, rows, lo, hi, rfl, ⟨ra, rvs, rfl, hrv, hpr⟩, h1, h2, h3, hz, hx, k⟩ := h
    generalize hm : (hi - lo + 1).toNat = m at k hz
    have hlen : rvs.length = rows.length := hpr.length
    refine ⟨by show 0 ≤ sizeLine; exact Nat.zero_le _, fun t ht => ?_⟩
    have s0 := Same.new (o := .lst []) ht
    have hll : ∀ i, i ≤ rows.length → (longerM (rows.take i) lo m).length = i * m := by
      intro i hi'
      unfold longerM numsOf
      rw [List.length_flatMap]
      have : (rows.take i).map (fun row => (((List.range m).map fun (k : Nat) => lo + (k : Int)).map fun x => row ++ [x]).length) = (rows.take i).map fun _ => m := by
        refine List.map_congr_left fun x _ => ?_
        simp
      rw [this, List.map_const', List.sum_replicate_nat, List.length_take, Nat.min_eq_left hi']
    refine ⟨_, rfl, ra, rfl, ⟨_, SqL.of (s0 _ _ hrv)⟩, for_list (K := K) (a := ra) (xs := rvs) (fun i σ H' => (∃ x y, σ = [some (.ref ra), some (.int lo), some (.int hi), some (.ref t), x, y]) ∧ ∃ G, Same H G ∧ GW RowAt G H' t (longerM (rows.take i) lo m))
      ⟨⟨_, _, rfl⟩, H, Same.refl H, s0, ht, [], upd_same, .nil⟩ (fun i σ H' _ ⟨_, G, s1, W⟩ => SqL.of (W.same _ _ (s1 _ _ hrv))) ?_ ?_⟩
    · rintro i x σ H' hi' ⟨⟨x1, y1, rfl⟩, G, s1, W⟩
      obtain ⟨row, hrow, ra2, rfl, hra2⟩ := pair_at hpr hi'
      have hil := lt_at hrow
      have hrl := hx row (mem_at hrow)
      have e1 : longerM (rows.take (i + 1)) lo m = longerM (rows.take i) lo m ++ (numsOf lo m).map fun x => row ++ [x] := flat_take hrow
      refine ⟨_, rfl, _, rfl, _, _, rfl, rfl, lo, hi + 1, rfl, ⟨by omega, by omega, by omega, by omega⟩, ?_⟩
      have hmm : (hi + 1 - lo).toNat = m := by omega
      rw [hmm]
      refine for_range (lo := lo) (n := m) (fun j σ H2 => (∃ y, σ = [some (.ref ra), some (.int lo), some (.int hi), some (.ref t), some (.ref ra2), y]) ∧ ∃ G, Same H G ∧ GW RowAt G H2 t (longerM (rows.take i) lo m ++ (numsOf lo j).map fun x => row ++ [x])) ⟨⟨_, rfl⟩, G, s1, by simpa [numsOf] using W⟩ ?_ ?_
      · rintro j σ H2 hj ⟨⟨y, rfl⟩, G2, s2, W2⟩
        obtain ⟨vs2, h6, h7⟩ := id W2.at_
        have hvl : vs2.length = i * m + j := by
          rw [h7.length, List.length_append, hll i (by omega)]
          simp [numsOf]
        have hb : i * m + j < 10000 := by
          have : (i + 1) * m ≤ rows.length * m := Nat.mul_le_mul_right m hil
          rw [Nat.succ_mul] at this
          omega
        refine ⟨_, rfl, .inl ⟨rfl, _, SqL.of h6⟩, _, rfl, _, rfl, by show 1 ≤ sizeLine; exact small (by decide), fun u hu => ?_⟩
        have W3 := W2.new (o := .lst [.int (lo + (j : Int))]) RowAt.mono hu
        have s3 := s2.trans (Same.new (o := .lst [.int (lo + (j : Int))]) (W2.same.free hu))
        refine ⟨ra2, u, _, _, rfl, rfl, W3.same _ _ (s3 _ _ hra2), upd_same, by simp only [List.length_cons, List.length_nil, List.length_map, iV]; exact small (by omega), fun q hq => ?_⟩
        have W4 := W3.new (o := .lst (iV row ++ [.int (lo + (j : Int))])) RowAt.mono hq
        have s4 := s3.trans (Same.new (o := .lst (iV row ++ [.int (lo + (j : Int))])) (W3.same.free hq))
        obtain ⟨vs4, h8, hl8, W5⟩ := W4.app (v := .ref q) (x := row ++ [lo + (j : Int)]) ⟨q, rfl, by rw [upd_same]; simp only [iV, List.map_append, List.map_cons, List.map_nil]⟩
        refine ⟨t, vs4, _, rfl, rfl, h8, smallL (by rw [hl8, List.length_append, hll i (by omega)]; simp only [numsOf, List.length_map, List.length_range]; omega), ?_⟩
        have e2 : numsOf lo (j + 1) = numsOf lo j ++ [lo + (j : Int)] := by
          unfold numsOf
          rw [List.range_succ, List.map_append]
          rfl
        refine ⟨⟨_, rfl⟩, _, s4, ?_⟩
        rw [e2, List.map_append, ← List.append_assoc]
        exact W5
      · rintro σ H2 ⟨⟨y, rfl⟩, G2, s2, W2⟩
        exact ⟨⟨_, _, rfl⟩, G2, s2, by rw [e1]; exact W2⟩
    · rintro σ H' ⟨⟨x1, y1, rfl⟩, G, s1, W⟩
      rw [hlen, List.take_length] at W
      obtain ⟨vs, h4, h5⟩ := W.at_
      exact ⟨_, rfl, k _ t vs (s1.trans W.same) h4 (Paired.mapP h5 (RowAt.mono W.same))⟩)
end CL

set_option Elab.async false
set_option linter.all false
set_option maxRecDepth 100000
set_option maxHeartbeats 4000000
namespace CL
open PySem PySem.Spec PyProof.Rows L2
open C8 (Cal Met Mak pe_c pe_mk pe_mt pe_mt0 pe_gc)
open VaaclBase (Values Test Guard Branch Loop Piece okTest)
variable {P : PySem.Program} {w : World} {K : PySem.W.Frag} {mg : Str → Option Value} {base : Heap} {A : Ad}
def allM (lo : Int) (m : Nat) : Nat → List (List Int)
  | 0 => [[]]
  | n + 1 => longerM (allM lo m n) lo m
theorem longer_len (rows : List (List Int)) (lo : Int) (m : Nat) : (longerM rows lo m).length = rows.length * m := by
  unfold longerM numsOf
  rw [List.length_flatMap]
  have : rows.map (fun row => (((List.range m).map fun (k : Nat) => lo + (k : Int)).map fun x => row ++ [x]).length) = rows.map fun _ => m := by
    refine List.map_congr_left fun x _ => ?_
    simp
  rw [this, List.map_const', List.sum_replicate_nat]
theorem allM_len (lo : Int) (m : Nat) : ∀ n, (allM lo m n).length = m ^ n
  | 0 => rfl
  | n + 1 => by
    show (longerM (allM lo m n) lo m).length = _
    rw [longer_len, allM_len lo m n, Nat.pow_succ]
theorem allM_row (lo : Int) (m : Nat) : ∀ n, ∀ x ∈ allM lo m n, x.length = n
  | 0, x, h => by
    rcases List.mem_singleton.mp h with rfl
    rfl
  | n + 1, x, h => by
    obtain ⟨row, hr, hx⟩ := List.mem_flatMap.mp (show x ∈ longerM (allM lo m n) lo m from h)
    obtain ⟨z, _, rfl⟩ := List.mem_map.mp hx
    rw [List.length_append, List.length_singleton, allM_row lo m n row hr]
theorem box_snoc (lo hi : Int) : ∀ n, Vaacla.boxOf lo hi (n + 1) = longerM (Vaacla.boxOf lo hi n) lo (hi - lo + 1).toNat
  | 0 => by
    show (List.range (hi - lo + 1).toNat).flatMap (fun (k : Nat) => ([[]] : List (List Int)).map fun s => (lo + (k : Int)) :: s) = ([[]] : List (List Int)).flatMap fun row => (numsOf lo (hi - lo + 1).toNat).map fun x => row ++ [x]
    unfold numsOf
    simp only [List.flatMap_cons, List.flatMap_nil, List.map_cons, List.map_nil, List.nil_append, List.append_nil, List.map_map]
    rw [← List.map_eq_flatMap]
    rfl
  | n + 1 => by
    have e1 : Vaacla.boxOf lo hi (n + 2) = (List.range (hi - lo + 1).toNat).flatMap fun (k : Nat) => (Vaacla.boxOf lo hi (n + 1)).map fun s => (lo + (k : Int)) :: s := rfl
    have e2 : Vaacla.boxOf lo hi (n + 1) = (List.range (hi - lo + 1).toNat).flatMap fun (k : Nat) => (Vaacla.boxOf lo hi n).map fun s => (lo + (k : Int)) :: s := rfl
    rw [e1, box_snoc lo hi n]
    conv => rhs; rw [← box_snoc lo hi n, e2]
    unfold longerM
    rw [List.flatMap_assoc]
    congr 1
    funext k
    rw [List.flatMap_map, List.map_flatMap]
    congr 1
    funext row
    rw [List.map_map]
    rfl
theorem allM_is (lo hi : Int) : ∀ n, allM lo (hi - lo + 1).toNat n = Vaacla.boxOf lo hi n
  | 0 => rfl
  | n + 1 => by
    rw [box_snoc, ← allM_is lo hi n]
    rfl
theorem pow_mono' {m i n : Nat} (hm : 1 ≤ m) (h : i ≤ n) : m ^ i ≤ m ^ n := Nat.pow_le_pow_right hm h
def spAllValues : Sp := fun vs H Q _ => ∃ (n : Nat) (lo hi : Int), vs = [.int (n : Int), .int lo, .int hi] ∧ -1000000 ≤ lo ∧ hi ≤ 1000000 ∧ lo ≤ hi ∧ 1 ≤ n ∧ n ≤ 4 ∧ (hi - lo + 1).toNat ^ n ≤ 100 ∧ NewRows H Q (allM lo (hi - lo + 1).toNat n)
theorem c_all_values (T : Txt K mg A) : Cal P w K mg base 2 "all_values" spAllValues [] :=
  cal_mk T.d_all_values sc_all_values bn_all_values (fun vs H Q E h => by
    obtain ⟨_, _, _, rfl, _⟩ := h
    rfl) (fun f cdv A' outer s H vs Q E hr h => by
    refine ⟨_, (pss_cons (ps_set (i := 3) sc_all_values.nd rfl (Or.inl rfl) (pe_lst (pa_cons (pe_lst pa_nil) pa_nil)))
      (pss_cons (ps_for PassesOwn.never rfl (pi_range1 (by rfl) T.b_range (pa_cons (pv 0) pa_nil)) (pg_name (i := 4) sc_all_values.nd rfl (Or.inl rfl)) (pss_one (ps_set (i := 3) sc_all_values.nd rfl (Or.inl rfl) (pe_c (c_longer_by_one T) hr (by decide) (by rfl) (pa_cons (pv 3) (pa_cons (pv 1) (pa_cons (pv 2) pa_nil)))))))
      (pss_one (ps_ret (pv 3))))), ?_⟩
    obtain ⟨n, lo, hi, rfl, h1, h2, h3, hn1, hn4, hp, k⟩ := h
    have ro := rng_ok (n := n) (by omega)
    have hm1 : 1 ≤ (hi - lo + 1).toNat := by omega
    generalize hm : (hi - lo + 1).toNat = m at k hp hm1
    have hm100 : m ≤ 100 := by
      have := pow_mono' hm1 hn1
      rw [Nat.pow_one] at this
      omega
    refine ⟨by show 0 ≤ sizeLine; exact Nat.zero_le _, fun q hq => ?_⟩
    have s0 := Same.new (o := .lst []) hq
    refine ⟨by show 1 ≤ sizeLine; exact small (by decide), fun t ht => ?_⟩
    have s1 := s0.trans (Same.new (o := .lst [.ref q]) ht)
    have hq2 : upd (upd H q (.lst [])) t (.lst [.ref q]) q = some (.lst []) := (upd_ne (ne_of_none upd_same ht)).trans upd_same
    refine ⟨_, rfl, _, rfl, ro.1, ro.2, for_range (lo := 0) (fun i σ H' => (∃ r x, σ = [some (.int (n : Int)), some (.int lo), some (.int hi), some r, x] ∧ RowsAt H' r (allM lo m i)) ∧ Same H H') ⟨⟨_, _, rfl, t, _, rfl, upd_same, .cons ⟨q, rfl, hq2⟩ .nil⟩, s1⟩ ?_ ?_⟩
    · rintro i σ H' hi' ⟨⟨r, x, rfl, hR⟩, s2⟩
      refine ⟨_, rfl, _, rfl, _, rfl, r, allM lo m i, lo, hi, rfl, hR, h1, h2, h3, ?_, fun x hx => ?_, fun H2 p vs s3 hp2 hP => ?_⟩
      · rw [allM_len, hm]
        have := pow_mono' (i := i) (n := n) hm1 (by omega)
        have := Nat.mul_le_mul (Nat.le_trans this hp) hm100
        omega
      · rw [allM_row lo m i x hx]
        omega
      · rw [hm] at hP
        exact ⟨⟨.ref p, _, rfl, p, vs, rfl, hp2, hP⟩, s2.trans s3⟩
    · rintro σ H' ⟨⟨r, x, rfl, p, vs, rfl, hp2, hP⟩, s2⟩
      rw [Int.toNat_natCast] at hP
      exact ⟨_, rfl, k _ p vs s2 hp2 hP⟩)
/-! ### how the runs of a box end -/
def howM (p : Prg) (s : List Int) : Int := (runM p.pieces 0 2000 s).1
def lenM (p : Prg) (s : List Int) : Nat := (runM p.pieces 0 2000 s).2.2.length
def cntM (p : Prg) (rows : List (List Int)) (k : Int) : Int := ((rows.countP fun s => howM p s == k : Nat) : Int)
def maxM (p : Prg) (rows : List (List Int)) : Nat := rows.foldl (fun n s => Nat.max n (lenM p s)) 0
theorem cnt_snoc (p : Prg) (rows : List (List Int)) (s : List Int) (k : Int) : cntM p (rows ++ [s]) k = cntM p rows k + (if howM p s = k then 1 else 0) := by
  unfold cntM
  rw [List.countP_append, List.countP_singleton]
  by_cases h : howM p s = k
  · rw [if_pos (by simpa using h), if_pos h]
    simp
  · rw [if_neg (by simpa using h), if_neg h]
    simp
theorem max_snoc (p : Prg) (rows : List (List Int)) (s : List Int) : maxM p (rows ++ [s]) = Nat.max (maxM p rows) (lenM p s) := by
  unfold maxM
  rw [List.foldl_append]
  rfl
theorem ends_is (p : Prg) (rows : List (List Int)) : ([VaaclBase.int (rows.map (VaaclBase.run p)).length, VaaclBase.int ((rows.map (VaaclBase.run p)).countP fun o => o.how == .over), VaaclBase.int ((rows.map (VaaclBase.run p)).countP fun o => o.how == .beyond), VaaclBase.int ((rows.map (VaaclBase.run p)).countP fun o => o.how == .long), VaaclBase.int ((rows.map (VaaclBase.run p)).foldl (fun n o => Nat.max n o.rounds) 0)] : List Int) =
    [(rows.length : Int), cntM p rows 0, cntM p rows 1, cntM p rows 2, (maxM p rows : Int)] := by
  have hc : ∀ (e : VaaclBase.End_) (k : Int), (∀ i : Int, (i = 0 ∨ i = 1 ∨ i = 2) → ((endOf i == e) = (i == k))) → VaaclBase.int ((rows.map (VaaclBase.run p)).countP fun o => o.how == e) = cntM p rows k := by
    intro e k h
    unfold cntM VaaclBase.int
    rw [List.countP_map]
    congr 2
    funext s
    show ((VaaclBase.run p s).how == e) = (howM p s == k)
    rw [run_is]
    exact h _ (runM_how _ _ _ _)
  rw [hc .over 0 (by rintro i (rfl | rfl | rfl) <;> decide), hc .beyond 1 (by rintro i (rfl | rfl | rfl) <;> decide), hc .long 2 (by rintro i (rfl | rfl | rfl) <;> decide), List.length_map, List.foldl_map]
  have : (fun (n : Nat) (s : List Int) => Nat.max n (VaaclBase.run p s).rounds) = fun n s => Nat.max n (lenM p s) := by
    funext n s
    rw [run_is]
    rfl
  rw [this]
  rfl
def boxA (p : Prg) (lo hi : Int) : List Int := if lo < -1000000 ∨ 1000000 < hi ∨ hi < lo then [-5] else if (hi - lo + 1).toNat ^ p.counters ≤ 100 then
  [((Vaacla.boxOf lo hi p.counters).length : Int), cntM p (Vaacla.boxOf lo hi p.counters) 0, cntM p (Vaacla.boxOf lo hi p.counters) 1, cntM p (Vaacla.boxOf lo hi p.counters) 2, (maxM p (Vaacla.boxOf lo hi p.counters) : Int)] else [-7]
def spBoxTold (A : Ad) : Sp := fun vs H Q _ => ∃ (b : Addr) (p : Prg) (lo hi : Int), vs = [.ref b, .int lo, .int hi] ∧ BoxIn A H b p ∧ NewInts H Q (boxA p lo hi)
theorem c_box_told (T : Txt K mg A) : Cal P w K mg base 7 "box_told" (spBoxTold A) [] :=
  cal_mk T.d_box_told sc_box_told bn_box_told (fun vs H Q E h => by
    obtain ⟨_, _, _, _, rfl, _⟩ := h
    rfl) (fun f cdv A' outer s H vs Q E hr h => by
    refine ⟨_, (pss_cons (ps_if (PW.pt (pw_or (pt_cmpR op_lt (pv 1) (pe_un un_neg (pe_gc (by rfl) T.c_FURTHEST_START)) (nomark _)) (pw_or (pt_cmpR op_gt (pv 2) (pe_gc (by rfl) T.c_FURTHEST_START) (nomark _)) (pw_or1 (pt_cmpR op_lt (pv 2) (pv 1) (nomark _)))))) (pss_one (ps_ret (pe_lst (pa_cons (pe_un un_neg pe_int) pa_nil)))) pss_nil)
      (pss_cons (ps_if (pt_cmpR op_gt (pe_c (c_many_values T) hr (by decide) (by rfl) (pa_cons (pe_fld (pv 0) rfl) (pa_cons (pv 1) (pa_cons (pv 2) pa_nil)))) (pe_gc (by rfl) T.c_MOST_IN_BOX) (nomark _)) (pss_one (ps_ret (pe_lst (pa_cons (pe_un un_neg pe_int) pa_nil)))) pss_nil)
      (pss_cons (ps_set (i := 3) sc_box_told.nd rfl (Or.inl rfl) (pe_c (c_all_values T) hr (by decide) (by rfl) (pa_cons (pe_fld (pv 0) rfl) (pa_cons (pv 1) (pa_cons (pv 2) pa_nil)))))
      (pss_cons (ps_set (i := 4) sc_box_told.nd rfl (Or.inl rfl) (pe_lst (pa_cons pe_int (pa_cons pe_int (pa_cons pe_int pa_nil)))))
      (pss_cons (ps_set (i := 5) sc_box_told.nd rfl (Or.inl rfl) pe_int)
      (pss_cons (ps_for PassesOwn.never rfl (pi_list (pv 3)) (pg_name (i := 6) sc_box_told.nd rfl (Or.inl rfl)) (pss_cons (ps_asg (pe_c (c_run T) hr (by decide) (by rfl) (pa_cons (pe_fld (pv 0) rfl) (pa_cons (pv 6) (pa_cons (pe_gc (by rfl) T.c_MOST_ROUNDS) pa_nil)))) (pg_tup (by rfl) (pgs_cons (pg_name (i := 7) sc_box_told.nd rfl (Or.inl rfl)) (pgs_cons (pg_name (i := 8) sc_box_told.nd rfl (Or.inl rfl)) (pgs_cons (pg_name (i := 9) sc_box_told.nd rfl (Or.inl rfl)) pgs_nil)))))
      (pss_cons (ps_augS (pv 4) (pv 7) get_list pe_int ip_add set_list)
      (pss_one (ps_set (i := 5) sc_box_told.nd rfl (Or.inl rfl) (pe_callB (call_max2 rfl) (by rfl) T.b_max (by decide +kernel) (pa_cons (pv 5) (pa_cons (pe_callB call_len_seq (by rfl) T.b_len PySem.boot_len (pa_cons (pv 9) pa_nil)) pa_nil))))))))
      (pss_one (ps_ret (pe_op op_cat (pe_op op_cat (pe_lst (pa_cons (pe_callB call_len_seq (by rfl) T.b_len PySem.boot_len (pa_cons (pv 3) pa_nil)) pa_nil)) (pv 4)) (pe_lst (pa_cons (pv 5) pa_nil))))))))))), ?_⟩
    obtain ⟨b, p, lo, hi, rfl, ⟨dx, pv, hb, hP, ok⟩, k⟩ := h
    obtain ⟨okc1, okc4, okp⟩ := id ok
    unfold boxA at k
    refine ⟨_, rfl, _, rfl, _, _, rfl, rfl, _, rfl, ifD (fun h0 => ?_) (fun h0 => ?_)⟩
    · have h0 : lo < -1000000 := h0
      rw [if_pos (.inl h0)] at k
      exact iteT ⟨_, rfl, by show 1 ≤ sizeLine; exact small (by decide), fun q hq => refuse k hq⟩
    have h0 : ¬ lo < -1000000 := h0
    refine ⟨_, rfl, _, _, rfl, rfl, _, rfl, ifD (fun h1 => ?_) (fun h1 => ?_)⟩
    · rw [if_pos (.inr (.inl h1))] at k
      exact iteT ⟨_, rfl, by show 1 ≤ sizeLine; exact small (by decide), fun q hq => refuse k hq⟩
    refine ⟨_, rfl, _, rfl, _, _, rfl, rfl, _, rfl, ifD (fun h2 => ?_) (fun h2 => ?_)⟩
    · rw [if_pos (.inr (.inr h2))] at k
      exact ⟨_, rfl, by show 1 ≤ sizeLine; exact small (by decide), fun q hq => refuse k hq⟩
    rw [if_neg (by omega)] at k
    have hm1 : 1 ≤ (hi - lo + 1).toNat := by omega
    have hmv : manyV lo hi p.counters = (((hi - lo + 1).toNat ^ p.counters : Nat) : Int) := by
      unfold manyV
      rw [Int.natCast_pow]
      congr 1
      omega
    refine ⟨_, rfl, b, _, dx, _, _, rfl, hb, T.clB, T.aB_counters, bF_c _ _, _, rfl, _, rfl, p.counters, lo, hi, rfl, okc4, by omega, by omega, ?_⟩
    refine ⟨_, _, rfl, rfl, _, rfl, ifD (fun h3 => ?_) (fun h3 => ?_)⟩
    · rw [hmv] at h3
      rw [if_neg (by omega)] at k
      exact ⟨_, rfl, by show 1 ≤ sizeLine; exact small (by decide), fun q hq => refuse k hq⟩
    rw [hmv] at h3
    have h3 : (hi - lo + 1).toNat ^ p.counters ≤ 100 := by omega
    rw [if_pos h3] at k
    rw [← allM_is] at k
    have hal := allM_len lo (hi - lo + 1).toNat p.counters
    have har := allM_row lo (hi - lo + 1).toNat p.counters
    refine ⟨_, rfl, b, _, dx, _, _, rfl, hb, T.clB, T.aB_counters, bF_c _ _, _, rfl, _, rfl, p.counters, lo, hi, rfl, by omega, by omega, by omega, okc1, okc4, h3, ?_⟩
    generalize allM lo (hi - lo + 1).toNat p.counters = rows at k hal har
    intro H1 rr rvs s1 hrr hpr
    have hlen : rvs.length = rows.length := hpr.length
    refine ⟨by show 3 ≤ sizeLine; exact small (by decide), fun e he => ?_⟩
    have s2 := Same.new (o := .lst [.int 0, .int 0, .int 0]) he
    refine ⟨_, rfl, rr, rfl, ⟨_, SqL.of (s2 _ _ hrr)⟩, for_list (K := K) (a := rr) (xs := rvs) (fun i σ H2 => (∃ x1 x2 x3 x4, σ = [some (.ref b), some (.int lo), some (.int hi), some (.ref rr), some (.ref e), some (.int (maxM p (rows.take i) : Int)), x1, x2, x3, x4]) ∧ Same H1 H2 ∧ H2 e = some (.lst (iV [cntM p (rows.take i) 0, cntM p (rows.take i) 1, cntM p (rows.take i) 2])))
      ⟨⟨_, _, _, _, rfl⟩, s2, upd_same⟩ (fun i σ H2 _ ⟨_, s3, _⟩ => SqL.of (s3 _ _ hrr)) ?_ ?_⟩
    · rintro i x σ H2 hi' ⟨⟨x1, x2, x3, x4, rfl⟩, s3, he2⟩
      obtain ⟨row, hrow, ra, rfl, hra⟩ := pair_at hpr hi'
      have hrl : row.length = p.counters := har row (mem_at hrow)
      have hb2 := s3 _ _ (s1 _ _ hb)
      refine ⟨_, rfl, b, _, dx, _, _, rfl, hb2, T.clB, T.aB_pieces, bF_p _ _, _, rfl, pv, ra, p.pieces, row, 2000, rfl, PiecesAt.mono (s1.trans s3) _ _ hP, s3 _ _ hra, by rw [hrl]; exact okp, by rw [hrl]; exact Nat.le_trans okc4 (by decide), by decide, ?_⟩
      intro H3 q c r s4 hq hc ⟨rv, hrv, hpr2⟩
      have hrvl : rv.length = lenM p row := hpr2.length
      refine ⟨q, _, rfl, SqT.of hq, rfl, _, _, rfl, _, _, rfl, _, _, rfl, rfl, ?_⟩
      have he3 := s4 _ _ he2
      have hhow : howM p row = 0 ∨ howM p row = 1 ∨ howM p row = 2 := runM_how _ _ _ _
      have her : r ≠ e := fun q => by
        subst q
        rw [he3] at hrv
        have q := (HO.lst.inj (Option.some.inj hrv)).symm
        obtain ⟨y, _, t, et, _⟩ := pair_at (i := 0) (x := V.int (cntM p (rows.take i) 0)) hpr2 (by rw [q]; rfl)
        cases et
      obtain ⟨j, hj, hj3⟩ : ∃ j : Nat, howM p row = (j : Int) ∧ j < 3 := by
        rcases hhow with h | h | h
        · exact ⟨0, h, by decide⟩
        · exact ⟨1, h, by decide⟩
        · exact ⟨2, h, by decide⟩
      have hcnt : ∃ c : Int, (iV [cntM p (rows.take i) 0, cntM p (rows.take i) 1, cntM p (rows.take i) 2])[j]? = some (.int c) ∧ (iV [cntM p (rows.take i) 0, cntM p (rows.take i) 1, cntM p (rows.take i) 2]).set j (.int (c + 1)) = iV [cntM p (rows.take (i + 1)) 0, cntM p (rows.take (i + 1)) 1, cntM p (rows.take (i + 1)) 2] := by
        rw [take_at hrow]
        simp only [cnt_snoc, hj]
        match j, hj3 with
        | 0, _ => exact ⟨_, rfl, by simp [iV]⟩
        | 1, _ => exact ⟨_, rfl, by simp [iV]⟩
        | 2, _ => exact ⟨_, rfl, by simp [iV]⟩
      obtain ⟨cc, hc1, hc2⟩ := hcnt
      refine ⟨_, rfl, _, rfl, e, _, j, _, rfl, congrArg V.int hj, SqL.of he3, hc1, _, _, rfl, rfl, e, _, (j : Int), j, rfl, congrArg V.int hj, he3, ?_, ?_⟩
      · unfold ixN
        rw [if_pos (by omega), if_pos (by simp only [iV, List.length_map, List.length_cons, List.length_nil]; omega)]
        simp
      · rw [hc2]
        refine ⟨_, rfl, _, rfl, r, _, rfl, .inl (SqL.of ((upd_ne her).trans hrv)), _, _, rfl, ?_⟩
        refine ⟨⟨some (.ref ra), some (.int (runM p.pieces 0 2000 row).1), some (.ref c), some (.ref r), ?_⟩, Same.mut (s3.trans s4) he, upd_same⟩
        have em : (if ((rv.length : Nat) : Int) > (maxM p (rows.take i) : Int) then ((rv.length : Nat) : Int) else (maxM p (rows.take i) : Int)) = (maxM p (rows.take (i + 1)) : Int) := by
          rw [take_at hrow, max_snoc, hrvl]
          show _ = ((max (maxM p (rows.take i)) (lenM p row) : Nat) : Int)
          rw [Nat.max_def]
          split <;> split <;> omega
        rw [← em]
        rfl
    · rintro σ H2 ⟨⟨x1, x2, x3, x4, rfl⟩, s3, he2⟩
      rw [hlen, List.take_length] at he2
      rw [hlen, List.take_length]
      refine ⟨_, rfl, rr, _, rfl, .inl (SqL.of (s3 _ _ hrr)), by show 1 ≤ sizeLine; exact small (by decide), fun t ht => ?_⟩
      have s4 := s3.trans (Same.new (o := .lst [.int (rvs.length : Int)]) ht)
      refine ⟨_, rfl, t, e, _, _, rfl, rfl, upd_same, (upd_ne (ne_of_none he2 ht)).trans he2, by simp only [List.length_cons, List.length_nil, List.length_map, iV]; exact small (by omega), fun u hu => ?_⟩
      have s5 := s4.trans (Same.new (o := .lst ([.int (rvs.length : Int)] ++ iV [cntM p rows 0, cntM p rows 1, cntM p rows 2])) hu)
      refine ⟨_, rfl, by show 1 ≤ sizeLine; exact small (by decide), fun v hv => ?_⟩
      have s6 := s5.trans (Same.new (o := .lst [.int (maxM p rows : Int)]) hv)
      refine ⟨u, v, _, _, rfl, rfl, (upd_ne (ne_of_none upd_same hv)).trans upd_same, upd_same, by simp only [List.length_cons, List.length_nil, List.length_map, List.length_append, iV]; exact small (by omega), fun x hx => ?_⟩
      refine k _ x ((s1.trans s6).trans (Same.new hx)) ((s1.trans s6).free hx) ?_
      rw [upd_same, hlen]
      rfl)
end CL

set_option Elab.async false
set_option linter.all false
set_option maxRecDepth 100000
set_option maxHeartbeats 4000000
namespace CL
open PySem PySem.Spec PyProof.Rows L2
open C8 (Cal Met Mak pe_c pe_mk pe_mt pe_mt0 pe_gc)
open VaaclBase (Values Test Guard Branch Loop Piece okTest)
variable {P : PySem.Program} {w : World} {K : PySem.W.Frag} {mg : Str → Option Value} {base : Heap} {A : Ad}
/-! ## desk.py: what reads -/
def spShow (A : Ad) : Sp := fun vs H Q _ => ∃ (b : Addr) (p : Prg), vs = [.ref b] ∧ BoxIn A H b p ∧ NewInts H Q (VaaclBase.listed (Vaacla.programText p))
theorem progT_len {p : Prg} (ok : OkProg p) : (Vaacla.programText p).length ≤ 4000 := by
  have hfl := flat_len (f := Vaacla.pieceText) (l := p.pieces) (c := 720) fun x hx => pieceT_len (ok.2.2.2 x hx) ok.2.1
  have h1 := ok.2.1
  have h5 := ok.2.2.1
  have h7 := num_len (n := p.counters) (by omega)
  show (Vaacla.word "counters" ++ (32 :: Vaacla.numText p.counters ++ (Vaacla.word ";\n" ++ p.pieces.flatMap Vaacla.pieceText))).length ≤ 4000
  rw [w_counters, w_end]
  simp only [List.length_append, List.length_cons, List.length_nil]
  omega
theorem c_show (T : Txt K mg A) : Cal P w K mg base 6 "show" (spShow A) [] :=
  cal_mk T.d_show sc_show bn_show (fun vs H Q E h => by
    obtain ⟨_, _, rfl, _⟩ := h
    rfl) (fun f cdv A' outer s H vs Q E hr h => by
    refine ⟨_, (pss_cons (ps_set (i := 1) sc_show.nd rfl (Or.inl rfl) (pe_c (c_program_shown T) hr (by decide) (by rfl) (pa_cons (pe_fld (pv 0) rfl) (pa_cons (pe_fld (pv 0) rfl) pa_nil))))
      (pss_one (ps_ret (pe_op op_cat (pe_lst (pa_cons (pe_callB call_len_seq (by rfl) T.b_len PySem.boot_len (pa_cons (pv 1) pa_nil)) pa_nil)) (pv 1))))), ?_⟩
    obtain ⟨b, p, rfl, ⟨dx, pv, hb, hP, ok⟩, k⟩ := h
    have hl := progT_len ok
    refine ⟨_, rfl, b, _, dx, _, _, rfl, hb, T.clB, T.aB_counters, bF_c _ _, _, rfl, b, _, dx, _, _, rfl, hb, T.clB, T.aB_pieces, bF_p _ _, ?_⟩
    refine ⟨p.counters, pv, p.pieces, rfl, hP, ok.2.2, ok.2.1, fun H1 q s1 nq1 hq => ?_⟩
    refine ⟨_, rfl, q, _, rfl, .inl (SqL.of hq), by show 1 ≤ sizeLine; exact small (by decide), fun t ht => ?_⟩
    refine ⟨_, rfl, t, q, _, _, rfl, rfl, upd_same, (upd_ne (ne_of_none hq ht)).trans hq, by simp only [List.length_cons, List.length_nil, List.length_map, iV]; exact small (by show 0 + 1 + (Vaacla.programText p).length ≤ 1048576; omega), fun u hu => ?_⟩
    refine k _ u ((s1.trans (Same.new ht)).trans (Same.new hu)) ((s1.trans (Same.new ht)).free hu) ?_
    rw [upd_same]
    simp only [VaaclBase.listed, iV, List.length_map, List.map_cons, List.cons_append, List.nil_append]
    rfl)
def spTell (A : Ad) : Sp := fun vs H Q _ => ∃ (b : Addr) (p : Prg), vs = [.ref b] ∧ BoxIn A H b p ∧ NewInts H Q (VaaclBase.flatProgram p)
theorem c_tell (T : Txt K mg A) : Cal P w K mg base 5 "tell" (spTell A) [] :=
  cal_mk T.d_tell sc_tell bn_tell (fun vs H Q E h => by
    obtain ⟨_, _, rfl, _⟩ := h
    rfl) (fun f cdv A' outer s H vs Q E hr h => by
    refine ⟨_, (pss_one (ps_ret (pe_c (c_program_told T) hr (by decide) (by rfl) (pa_cons (pe_fld (pv 0) rfl) (pa_cons (pe_fld (pv 0) rfl) pa_nil))))), ?_⟩
    obtain ⟨b, p, rfl, ⟨dx, pv, hb, hP, ok⟩, k⟩ := h
    refine ⟨_, rfl, b, _, dx, _, _, rfl, hb, T.clB, T.aB_counters, bF_c _ _, _, rfl, b, _, dx, _, _, rfl, hb, T.clB, T.aB_pieces, bF_p _ _, ?_⟩
    exact ⟨p.counters, pv, p.pieces, rfl, hP, ok.2.2, ok.2.1, k⟩)
theorem nth_lt {α : Type} {l : List α} {k : Int} (h : k < 0) : Vaacla.nth l k = none := if_pos h
theorem nth_ge {α : Type} {l : List α} {k : Int} (h : (l.length : Int) ≤ k) : Vaacla.nth l k = none := by
  unfold Vaacla.nth
  rw [if_neg (by omega)]
  exact List.getElem?_eq_none (by omega)
theorem nth_in {α : Type} {l : List α} {k : Int} (h : ¬ k < 0) (h2 : ¬ (l.length : Int) ≤ k) : ∃ (j : Nat) (x : α), k = (j : Int) ∧ l[j]? = some x ∧ Vaacla.nth l k = some x := by
  refine ⟨k.toNat, l[k.toNat]'(by omega), by omega, by simp, ?_⟩
  unfold Vaacla.nth
  rw [if_neg h]
  simp
def pieceA (p : Prg) (k : Int) : List Int := match Vaacla.nth p.pieces k with
  | none => [-2]
  | some x => VaaclBase.flatPiece x
def spTellPiece (A : Ad) : Sp := fun vs H Q _ => ∃ (b : Addr) (p : Prg) (k : Int), vs = [.ref b, .int k] ∧ BoxIn A H b p ∧ NewInts H Q (pieceA p k)
theorem c_tell_piece (T : Txt K mg A) : Cal P w K mg base 4 "tell_piece" (spTellPiece A) [] :=
  cal_mk T.d_tell_piece sc_tell_piece bn_tell_piece (fun vs H Q E h => by
    obtain ⟨_, _, _, rfl, _⟩ := h
    rfl) (fun f cdv A' outer s H vs Q E hr h => by
    refine ⟨_, (pss_cons (ps_if (PW.pt (pw_or (pt_cmpR op_lt (pv 1) pe_int (nomark _)) (pw_or1 (pt_cmpR op_ge (pv 1) (pe_callB call_len_seq (by rfl) T.b_len PySem.boot_len (pa_cons (pe_fld (pv 0) rfl) pa_nil)) (nomark _))))) (pss_one (ps_ret (pe_lst (pa_cons (pe_un un_neg pe_int) pa_nil)))) pss_nil)
      (pss_one (ps_ret (pe_c (c_piece_told T) hr (by decide) (by rfl) (pa_cons (pe_ix ix_list (pe_fld (pv 0) rfl) (pv 1) (fun _ _ => rfl)) pa_nil))))), ?_⟩
    obtain ⟨b, p, at_, rfl, ⟨dx, pv, hb, ⟨pa, pvs, rfl, hpa, hpp⟩, ok⟩, k⟩ := h
    have hpl : pvs.length = p.pieces.length := hpp.length
    unfold pieceA at k
    refine ⟨_, rfl, _, _, rfl, rfl, _, rfl, ifD (fun h0 => ?_) (fun h0 => ?_)⟩
    · rw [nth_lt h0] at k
      exact iteT ⟨_, rfl, by show 1 ≤ sizeLine; exact small (by decide), fun q hq => refuse k hq⟩
    refine ⟨_, rfl, _, rfl, b, _, dx, _, _, rfl, hb, T.clB, T.aB_pieces, bF_p _ _, pa, _, rfl, .inl (SqL.of hpa), _, _, rfl, rfl, _, rfl, ifD (fun h1 => ?_) (fun h1 => ?_)⟩
    · rw [nth_ge (by omega)] at k
      exact ⟨_, rfl, by show 1 ≤ sizeLine; exact small (by decide), fun q hq => refuse k hq⟩
    obtain ⟨j, x, rfl, hx, en⟩ := nth_in (l := p.pieces) h0 (by omega)
    rw [en] at k
    obtain ⟨xv, hxv, hX⟩ := pair_at' hpp hx
    refine ⟨_, rfl, b, _, dx, _, _, rfl, hb, T.clB, T.aB_pieces, bF_p _ _, _, rfl, pa, _, _, _, rfl, rfl, SqL.of hpa, atI_nat hxv, ?_⟩
    exact ⟨p.counters, xv, x, rfl, hX, ok.2.2.2 x (mem_at hx), ok.2.1, k⟩)
def chosenA (p : Prg) (k : Int) (l : List Int) : List Int := match Vaacla.nth p.pieces k with
  | none => [-2]
  | some (.move _) => [-4]
  | some (.loop x) => if mayB p.counters l = true then [VaaclBase.orNone (VaaclBase.chosen x l)] else [-5]
def spChoose (A : Ad) : Sp := fun vs H Q _ => ∃ (b a : Addr) (p : Prg) (k : Int) (l : List Int), vs = [.ref b, .int k, .ref a] ∧ BoxIn A H b p ∧ H a = some (.lst (iV l)) ∧ NewInts H Q (chosenA p k l)
theorem c_choose (T : Txt K mg A) : Cal P w K mg base 4 "choose" (spChoose A) [] :=
  cal_mk T.d_choose sc_choose bn_choose (fun vs H Q E h => by
    obtain ⟨_, _, _, _, _, rfl, _⟩ := h
    rfl) (fun f cdv A' outer s H vs Q E hr h => by
    refine ⟨_, (pss_cons (ps_if (PW.pt (pw_or (pt_cmpR op_lt (pv 1) pe_int (nomark _)) (pw_or1 (pt_cmpR op_ge (pv 1) (pe_callB call_len_seq (by rfl) T.b_len PySem.boot_len (pa_cons (pe_fld (pv 0) rfl) pa_nil)) (nomark _))))) (pss_one (ps_ret (pe_lst (pa_cons (pe_un un_neg pe_int) pa_nil)))) pss_nil)
      (pss_cons (ps_asg (pe_ix ix_list (pe_fld (pv 0) rfl) (pv 1) (fun _ _ => rfl)) (pg_tup (by rfl) (pgs_cons (pg_name (i := 3) sc_choose.nd rfl (Or.inl rfl)) (pgs_cons (pg_name (i := 4) sc_choose.nd rfl (Or.inl rfl)) pgs_nil))))
      (pss_cons (ps_if (pt_cmpR op_eq (pv 3) pe_int (nomark _)) (pss_one (ps_ret (pe_lst (pa_cons (pe_un un_neg pe_int) pa_nil)))) pss_nil)
      (pss_cons (ps_if (pt_not (pt_val (pe_c (c_may_begin T) hr (by decide) (by rfl) (pa_cons (pe_fld (pv 0) rfl) (pa_cons (pv 2) pa_nil))))) (pss_one (ps_ret (pe_lst (pa_cons (pe_un un_neg pe_int) pa_nil)))) pss_nil)
      (pss_one (ps_ret (pe_lst (pa_cons (pe_c (c_chosen T) hr (by decide) (by rfl) (pa_cons (pv 4) (pa_cons (pv 2) pa_nil))) pa_nil)))))))), ?_⟩
    obtain ⟨b, a, p, at_, l, rfl, ⟨dx, pv, hb, ⟨pa, pvs, rfl, hpa, hpp⟩, ok⟩, ha, k⟩ := h
    have hpl : pvs.length = p.pieces.length := hpp.length
    unfold chosenA at k
    refine ⟨_, rfl, _, _, rfl, rfl, _, rfl, ifD (fun h0 => ?_) (fun h0 => ?_)⟩
    · rw [nth_lt h0] at k
      exact iteT ⟨_, rfl, by show 1 ≤ sizeLine; exact small (by decide), fun q hq => refuse k hq⟩
    refine ⟨_, rfl, _, rfl, b, _, dx, _, _, rfl, hb, T.clB, T.aB_pieces, bF_p _ _, pa, _, rfl, .inl (SqL.of hpa), _, _, rfl, rfl, _, rfl, ifD (fun h1 => ?_) (fun h1 => ?_)⟩
    · rw [nth_ge (by omega)] at k
      exact ⟨_, rfl, by show 1 ≤ sizeLine; exact small (by decide), fun q hq => refuse k hq⟩
    obtain ⟨j, x, rfl, hx, en⟩ := nth_in (l := p.pieces) h0 (by omega)
    rw [en] at k
    obtain ⟨xv, hxv, t, bl, rfl, ht, hbl⟩ := pair_at' hpp hx
    refine ⟨_, rfl, b, _, dx, _, _, rfl, hb, T.clB, T.aB_pieces, bF_p _ _, _, rfl, pa, _, _, _, rfl, rfl, SqL.of hpa, atI_nat hxv, t, _, rfl, SqT.of ht, rfl, _, _, rfl, _, _, rfl, rfl, ?_⟩
    have okx := ok.2.2.2 x (mem_at hx)
    cases x with
    | move m => exact ⟨_, rfl, rfl, _, rfl, ifT rfl ⟨_, rfl, by show 1 ≤ sizeLine; exact small (by decide), fun q hq => refuse k hq⟩⟩
    | loop x =>
      refine ⟨_, rfl, rfl, _, rfl, ifF (int_ne (i := 1) (by decide)) ?_⟩
      refine ⟨_, rfl, b, _, dx, _, _, rfl, hb, T.clB, T.aB_counters, bF_c _ _, _, rfl, p.counters, a, l, rfl, ha, _, rfl, ?_⟩
      dsimp only at k
      cases hm : mayB p.counters l with
      | false =>
        rw [hm, if_neg Bool.false_ne_true] at k
        exact ⟨_, rfl, by show 1 ≤ sizeLine; exact small (by decide), fun q hq => refuse k hq⟩
      | true =>
        rw [hm, if_pos rfl] at k
        have hll := mayB_len hm
        refine ⟨_, rfl, _, rfl, bl, a, x, l, rfl, hbl, ha, fun y hy => by rw [hll]; exact (okx.2.2 y hy).1, Nat.le_trans okx.2.1 (by decide), ?_⟩
        exact ⟨by show 1 ≤ sizeLine; exact small (by decide), fun q hq => k _ q (Same.new hq) hq upd_same⟩)
def testsA (p : Prg) (k b : Int) (l : List Int) : List Int := match Vaacla.nth p.pieces k with
  | none => [-2]
  | some (.move _) => [-4]
  | some (.loop x) => match Vaacla.nth x b with
    | none => [-3]
    | some y => if mayB p.counters l = true then (VaaclBase.int y.guard.length :: y.guard.map fun t => Vaacla.bit (VaaclBase.holds l t)) else [-5]
def spTryTests (A : Ad) : Sp := fun vs H Q _ => ∃ (b a : Addr) (p : Prg) (k c : Int) (l : List Int), vs = [.ref b, .int k, .int c, .ref a] ∧ BoxIn A H b p ∧ H a = some (.lst (iV l)) ∧ NewInts H Q (testsA p k c l)
theorem c_try_tests (T : Txt K mg A) : Cal P w K mg base 2 "try_tests" (spTryTests A) [] :=
  cal_mk T.d_try_tests sc_try_tests bn_try_tests (fun vs H Q E h => by
    obtain ⟨_, _, _, _, _, _, rfl, _⟩ := h
    rfl) (fun f cdv A' outer s H vs Q E hr h => by
    refine ⟨_, (pss_cons (ps_if (PW.pt (pw_or (pt_cmpR op_lt (pv 1) pe_int (nomark _)) (pw_or1 (pt_cmpR op_ge (pv 1) (pe_callB call_len_seq (by rfl) T.b_len PySem.boot_len (pa_cons (pe_fld (pv 0) rfl) pa_nil)) (nomark _))))) (pss_one (ps_ret (pe_lst (pa_cons (pe_un un_neg pe_int) pa_nil)))) pss_nil)
      (pss_cons (ps_asg (pe_ix ix_list (pe_fld (pv 0) rfl) (pv 1) (fun _ _ => rfl)) (pg_tup (by rfl) (pgs_cons (pg_name (i := 4) sc_try_tests.nd rfl (Or.inl rfl)) (pgs_cons (pg_name (i := 5) sc_try_tests.nd rfl (Or.inl rfl)) pgs_nil))))
      (pss_cons (ps_if (pt_cmpR op_eq (pv 4) pe_int (nomark _)) (pss_one (ps_ret (pe_lst (pa_cons (pe_un un_neg pe_int) pa_nil)))) pss_nil)
      (pss_cons (ps_if (PW.pt (pw_or (pt_cmpR op_lt (pv 2) pe_int (nomark _)) (pw_or1 (pt_cmpR op_ge (pv 2) (pe_callB call_len_seq (by rfl) T.b_len PySem.boot_len (pa_cons (pv 5) pa_nil)) (nomark _))))) (pss_one (ps_ret (pe_lst (pa_cons (pe_un un_neg pe_int) pa_nil)))) pss_nil)
      (pss_cons (ps_if (pt_not (pt_val (pe_c (c_may_begin T) hr (by decide) (by rfl) (pa_cons (pe_fld (pv 0) rfl) (pa_cons (pv 3) pa_nil))))) (pss_one (ps_ret (pe_lst (pa_cons (pe_un un_neg pe_int) pa_nil)))) pss_nil)
      (pss_cons (ps_set (i := 6) sc_try_tests.nd rfl (Or.inl rfl) (pe_ix ix_tup (pe_ix ix_list (pv 5) (pv 2) (fun _ _ => rfl)) pe_int (fun _ _ => rfl)))
      (pss_one (ps_ret (pe_op op_cat (pe_lst (pa_cons (pe_callB call_len_seq (by rfl) T.b_len PySem.boot_len (pa_cons (pv 6) pa_nil)) pa_nil)) (pe_lc (own := [("test", 7)]) (g := gName 7) (tt := tYes) rfl sc_try_tests.nd (pi_list (pv 6)) (blkOk_by (own := [("test", 7)]) (N := N_try_tests) (sc := defScope s_try_tests) (by decide +kernel)) (fun _ _ _ _ _ => pg_name (i := 7) sc_try_tests.nd rfl (Or.inl rfl)) (fun _ _ _ _ _ => pts_nil) (fun _ _ _ _ _ => (pe_ifExp (pt_val (pe_c (c_holds T) hr (by decide) (by rfl) (pa_cons (pv 7) (pa_cons (pv 3) pa_nil)))) pe_int pe_int)))))))))))), ?_⟩
    obtain ⟨b, a, p, at_, c, l, rfl, ⟨dx, pv, hb, ⟨pa, pvs, rfl, hpa, hpp⟩, ok⟩, ha, k⟩ := h
    have hpl : pvs.length = p.pieces.length := hpp.length
    unfold testsA at k
    refine ⟨_, rfl, _, _, rfl, rfl, _, rfl, ifD (fun h0 => ?_) (fun h0 => ?_)⟩
    · rw [nth_lt h0] at k
      exact iteT ⟨_, rfl, by show 1 ≤ sizeLine; exact small (by decide), fun q hq => refuse k hq⟩
    refine ⟨_, rfl, _, rfl, b, _, dx, _, _, rfl, hb, T.clB, T.aB_pieces, bF_p _ _, pa, _, rfl, .inl (SqL.of hpa), _, _, rfl, rfl, _, rfl, ifD (fun h1 => ?_) (fun h1 => ?_)⟩
    · rw [nth_ge (by omega)] at k
      exact ⟨_, rfl, by show 1 ≤ sizeLine; exact small (by decide), fun q hq => refuse k hq⟩
    obtain ⟨j, x, rfl, hx, en⟩ := nth_in (l := p.pieces) h0 (by omega)
    rw [en] at k
    obtain ⟨xv, hxv, t, bl, rfl, ht, hbl⟩ := pair_at' hpp hx
    refine ⟨_, rfl, b, _, dx, _, _, rfl, hb, T.clB, T.aB_pieces, bF_p _ _, _, rfl, pa, _, _, _, rfl, rfl, SqL.of hpa, atI_nat hxv, t, _, rfl, SqT.of ht, rfl, _, _, rfl, _, _, rfl, rfl, ?_⟩
    have okx := ok.2.2.2 x (mem_at hx)
    cases x with
    | move m => exact ⟨_, rfl, rfl, _, rfl, ifT rfl ⟨_, rfl, by show 1 ≤ sizeLine; exact small (by decide), fun q hq => refuse k hq⟩⟩
    | loop x =>
      refine ⟨_, rfl, rfl, _, rfl, ifF (int_ne (i := 1) (by decide)) ?_⟩
      dsimp only at k
      obtain ⟨ba, bvs, rfl, hB, hbp⟩ := hbl
      have hbl : bvs.length = x.length := hbp.length
      refine ⟨_, rfl, _, _, rfl, rfl, _, rfl, ifD (fun h2 => ?_) (fun h2 => ?_)⟩
      · rw [nth_lt h2] at k
        exact iteT ⟨_, rfl, by show 1 ≤ sizeLine; exact small (by decide), fun q hq => refuse k hq⟩
      refine ⟨_, rfl, _, rfl, ba, _, rfl, .inl (SqL.of hB), _, _, rfl, rfl, _, rfl, ifD (fun h3 => ?_) (fun h3 => ?_)⟩
      · rw [nth_ge (by omega)] at k
        exact ⟨_, rfl, by show 1 ≤ sizeLine; exact small (by decide), fun q hq => refuse k hq⟩
      obtain ⟨j2, y, rfl, hy, en2⟩ := nth_in (l := x) h2 (by omega)
      rw [en2] at k
      dsimp only at k
      refine ⟨_, rfl, b, _, dx, _, _, rfl, hb, T.clB, T.aB_counters, bF_c _ _, _, rfl, p.counters, a, l, rfl, ha, _, rfl, ?_⟩
      cases hm : mayB p.counters l with
      | false =>
        rw [hm, if_neg Bool.false_ne_true] at k
        exact ⟨_, rfl, by show 1 ≤ sizeLine; exact small (by decide), fun q hq => refuse k hq⟩
      | true =>
        rw [hm, if_pos rfl] at k
        have hll := mayB_len hm
        obtain ⟨yv, hyv, tb, gd, mv, rfl, htb, ⟨ga, gvs, rfl, hg, hgp⟩, hmv⟩ := pair_at' hbp hy
        have hgl : gvs.length = y.guard.length := hgp.length
        have okg := (okx.2.2 y (mem_at hy)).1
        have hg3 := okg.1
        refine ⟨_, rfl, _, rfl, ba, _, _, _, rfl, rfl, SqL.of hB, atI_nat hyv, tb, _, (0 : Int), _, rfl, rfl, SqT.of htb, rfl, ?_⟩
        refine ⟨_, rfl, ga, _, rfl, .inl (SqL.of hg), by show 1 ≤ sizeLine; exact small (by decide), fun u hu => ?_⟩
        have s1 := Same.new (o := .lst [.int (gvs.length : Int)]) hu
        refine ⟨_, rfl, ga, rfl, ⟨_, SqL.of (s1 _ _ hg)⟩, fun D hD => ?_⟩
        generalize hH1 : upd H u (.lst [.int (gvs.length : Int)]) = H1 at s1 hD ⊢
        have hu1 : H1 u = some (.lst [.int (gvs.length : Int)]) := by
          rw [← hH1]
          exact upd_same
        have hg1 := s1 _ _ hg
        refine lc_list (K := K) (a := ga) (xs := gvs) (fun i H2 => H2 = upd H1 D (.lst (iV ((y.guard.take i).map fun t => Vaacla.bit (VaaclBase.holds l t))))) rfl (fun i H2 _ e => ?_) (fun i z H2 hi e => ?_) (fun H2 e => ?_)
        · rw [e]
          exact SqL.of ((upd_ne (ne_of_none hg1 hD)).trans hg1)
        · subst e
          obtain ⟨tv, htv, ta, rfl, hta⟩ := pair_at hgp hi
          have hta1 := s1 _ _ hta
          have ha1 := s1 _ _ ha
          refine ⟨rfl, ?_⟩
          refine ⟨_, rfl, _, rfl, ta, a, tv, l, rfl, (upd_ne (ne_of_none hta1 hD)).trans hta1, (upd_ne (ne_of_none ha1 hD)).trans ha1, by rw [hll]; exact okg.2 tv (mem_at htv), _, rfl, ?_⟩
          have hlt : (iV ((y.guard.take i).map fun t => Vaacla.bit (VaaclBase.holds l t))).length < sizeLine := by
            simp only [iV, List.length_map, List.length_take]
            exact smallL (by omega)
          have fin : ∀ z : Int, z = Vaacla.bit (VaaclBase.holds l tv) → upd (upd H1 D (.lst (iV ((y.guard.take i).map fun t => Vaacla.bit (VaaclBase.holds l t))))) D (.lst (iV ((y.guard.take i).map fun t => Vaacla.bit (VaaclBase.holds l t)) ++ [.int z])) = upd H1 D (.lst (iV ((y.guard.take (i + 1)).map fun t => Vaacla.bit (VaaclBase.holds l t)))) := by
            intro z hz
            rw [upd_upd, take_at htv, hz]
            simp only [iV, List.map_append, List.map_cons, List.map_nil]
          cases hh : VaaclBase.holds l tv with
          | true => exact ⟨_, upd_same, hlt, fin 1 (by rw [hh]; rfl)⟩
          | false => exact ⟨_, upd_same, hlt, fin 0 (by rw [hh]; rfl)⟩
        · subst e
          rw [hgl, List.take_length]
          refine ⟨u, D, _, _, rfl, rfl, (upd_ne (ne_of_none hu1 hD)).trans hu1, upd_same, by simp only [List.length_cons, List.length_nil, List.length_map, iV]; exact small (by omega), fun v hv => ?_⟩
          refine k _ v ((s1.trans (Same.new hD)).trans (Same.new hv)) ((s1.trans (Same.new hD)).free hv) ?_
          rw [upd_same, hgl]
          rfl)
end CL

set_option Elab.async false
set_option linter.all false
set_option maxRecDepth 100000
set_option maxHeartbeats 4000000
namespace CL
open PySem PySem.Spec PyProof.Rows L2
open C8 (Cal Met Mak pe_c pe_mk pe_mt pe_mt0 pe_gc)
open VaaclBase (Values Test Guard Branch Loop Piece okTest)
variable {P : PySem.Program} {w : World} {K : PySem.W.Frag} {mg : Str → Option Value} {base : Heap} {A : Ad}
/-! ## what a call leaves: all but the things at X stands; what is told of besides is new -/
def Keep (X : Addr → Prop) (H H' : Hp) : Prop := ∀ b o, ¬ X b → H b = some o → H' b = some o
structure Ext (X : Addr → Prop) (G H G' H' : Hp) : Prop where
  sg : Same G G'
  keep : Keep X H H'
  fresh : ∀ b o, G' b = some o → G b = some o ∨ H b = none
theorem Keep.refl (X : Addr → Prop) (H : Hp) : Keep X H H := fun _ _ _ h => h
theorem Keep.trans {X : Addr → Prop} {H H1 H2 : Hp} (a : Keep X H H1) (b : Keep X H1 H2) : Keep X H H2 := fun c o h e => b c o h (a c o h e)
theorem Keep.of {X : Addr → Prop} {H H' : Hp} (s : Same H H') : Keep X H H' := fun b o _ e => s b o e
theorem Keep.mut {X : Addr → Prop} {H : Hp} {a : Addr} {o : HO} (h : X a) : Keep X H (upd H a o) := fun b u hb e => by
  have hba : b ≠ a := fun q => by
    subst q
    exact hb h
  rw [upd_ne hba]
  exact e
theorem Ext.refl (X : Addr → Prop) (G H : Hp) : Ext X G H G H := ⟨Same.refl G, Keep.refl X H, fun _ _ h => .inl h⟩
theorem Ext.trans {X : Addr → Prop} {G H G1 H1 G2 H2 : Hp} (a : Ext X G H G1 H1) (b : Ext X G1 H1 G2 H2) (hX : ∀ c, X c → G2 c = none) : Ext X G H G2 H2 := by
  refine ⟨a.sg.trans b.sg, a.keep.trans b.keep, fun c o h => ?_⟩
  rcases b.fresh c o h with h1 | h1
  · exact a.fresh c o h1
  · right
    cases q : H c with
    | none => rfl
    | some u =>
      have nx : ¬ X c := fun z => by
        rw [hX c z] at h
        cases h
      rw [a.keep c u nx q] at h1
      cases h1
theorem Ext.new {X : Addr → Prop} {G H : Hp} {p : Addr} {o : HO} (s : Same G H) (hp : H p = none) : Ext X G H (upd G p o) (upd H p o) := by
  refine ⟨Same.new (s.free hp), Keep.of (Same.new hp), fun b u h => ?_⟩
  by_cases hb : b = p
  · right
    rw [hb]
    exact hp
  · rw [upd_ne hb] at h
    exact .inl h
theorem Ext.mut {X : Addr → Prop} {G H : Hp} {a : Addr} {o : HO} (h : X a) : Ext X G H G (upd H a o) := ⟨Same.refl G, Keep.mut h, fun _ _ h => .inl h⟩
theorem same_new {G H : Hp} {p : Addr} {o : HO} (s : Same G H) : Same (upd G p o) (upd H p o) := fun b u e => by
  by_cases hb : b = p
  · subst hb
    rw [upd_same] at e ⊢
    exact e
  · rw [upd_ne hb] at e ⊢
    exact s _ _ e
/-! ## Numbers: a list of numbers read -/
def nF (na : Addr) (i : Int) (c : Int) : List (Str × V) := [("numbers", .ref na), ("at", .int i), ("counters", .int c)]
theorem nF_n (na : Addr) (i c : Int) : (nF na i c).lookup ("numbers" : Str) = some (.ref na) := lk_here
theorem nF_a (na : Addr) (i c : Int) : (nF na i c).lookup ("at" : Str) = some (.int i) := (lk_past (by decide +kernel)).trans lk_here
theorem nF_c (na : Addr) (i c : Int) : (nF na i c).lookup ("counters" : Str) = some (.int c) := (lk_past (by decide +kernel)).trans ((lk_past (by decide +kernel)).trans lk_here)
theorem nF_put (na : Addr) (i j c : Int) : putF "at" (.int j) (nF na i c) = nF na j c := (put_past (by decide +kernel)).trans (congrArg _ put_here)
theorem nF_no (na : Addr) (i c : Int) {m : Str} (h1 : (m == ("numbers" : Str)) = false) (h2 : (m == ("at" : Str)) = false) (h3 : (m == ("counters" : Str)) = false) : (nF na i c).lookup m = none := (lk_past h1).trans ((lk_past h2).trans ((lk_past h3).trans rfl))
/-- the taker at a stands ahead of l -/
structure NAt (A : Ad) (G H : Hp) (a : Addr) (c t : Nat) (l : List Int) : Prop where
  same : Same G H
  hole : G a = none
  at_ : ∃ (dx na : Addr) (i : Nat) (ns : List Int), H a = some (.ins A.CN dx (nF na (i : Int) (c : Int))) ∧ G na = some (.lst (iV ns)) ∧ ns.drop i = l ∧ i ≤ ns.length ∧ ns.length = t ∧ t ≤ 1000
theorem NAt.new {G H : Hp} {a p : Addr} {c t : Nat} {l : List Int} {o : HO} (h : NAt A G H a c t l) (hp : H p = none) : NAt A (upd G p o) (upd H p o) a c t l := by
  obtain ⟨dx, na, i, ns, h1, h2, h3, h4, h5⟩ := h.at_
  refine ⟨same_new h.same, ?_, dx, na, i, ns, ?_, (upd_ne (ne_of_none h2 (h.same.free hp))).trans h2, h3, h4, h5⟩
  · rw [upd_ne (ne_of_none h1 hp)]
    exact h.hole
  · rw [upd_ne (ne_of_none h1 hp)]
    exact h1
abbrev XA (a : Addr) : Addr → Prop := fun b => b = a
/-- what reading r hands back, or the error that it isn't there -/
def OptP (A : Ad) {α : Type} (G H : Hp) (a : Addr) (c t : Nat) (r : Option (α × List Int)) (rep : Hp → V → α → Prop) (Q : VK) (E : XK) : Prop := match r with
  | some x => ∀ (G' H' : Hp) (v : V), Ext (XA a) G H G' H' → NAt A G' H' a c t x.2 → rep G' v x.1 → Q v H'
  | none => ∀ H' : Hp, Keep (XA a) H H' → E (.ref A.CP) none H'
section
variable {α β : Type} {G H G0 H0 : Hp} {a : Addr} {c t : Nat} {r : Option (α × List Int)} {rep : Hp → V → α → Prop} {Q : VK} {E : XK} {l : List Int}
theorem OptP.mono (k : OptP A G0 H0 a c t r rep Q E) (e : Ext (XA a) G0 H0 G H) : OptP A G H a c t r rep Q E := by
  cases r with
  | none => exact fun H' kp => k H' (e.keep.trans kp)
  | some x => exact fun G' H' v e' N hr => k G' H' v (e.trans e' fun b hb => by
      have hb : b = a := hb
      rw [hb]
      exact N.hole) N hr
theorem OptP.bind {f : α × List Int → Option (β × List Int)} {rep1 : Hp → V → β → Prop} {repa : Hp → V → α → Prop} {Q1 : VK} (k : OptP A G H a c t (r.bind f) rep1 Q E)
    (h : ∀ (x : α) (l' : List Int) (G' H' : Hp) (v : V), r = some (x, l') → Ext (XA a) G H G' H' → NAt A G' H' a c t l' → repa G' v x → OptP A G' H' a c t (f (x, l')) rep1 Q E → Q1 v H') : OptP A G H a c t r repa Q1 E := by
  cases r with
  | none => exact k
  | some x =>
    intro G' H' v e N hr
    exact h x.1 x.2 G' H' v rfl e N hr (OptP.mono (r := f x) k e)
theorem OptP.to {x : α} {v : V} (k : OptP A G H a c t (some (x, l)) rep Q E) (N : NAt A G H a c t l) (hr : rep G v x) : Q v H := k G H v (Ext.refl _ _ _) N hr
theorem OptP.no (k : OptP A G H a c t (none : Option (α × List Int)) rep Q E) : E (.ref A.CP) none H := k H (Keep.refl _ _)
end
def repI (_ : Hp) (v : V) (z : Int) : Prop := v = .int z
def spNumInit (A : Ad) : Sp := fun vs H Q _ => ∃ (G : Hp) (a dx na : Addr) (c : Nat) (ns : List Int), vs = [.ref a, .ref na, .int (c : Int)] ∧ Same G H ∧ G a = none ∧ H a = some (.ins A.CN dx []) ∧ G na = some (.lst (iV ns)) ∧ ns.length ≤ 1000 ∧
  ∀ H' : Hp, NAt A G H' a c ns.length ns → Keep (XA a) H H' → Q .non H'
theorem k_Numbers (T : Txt K mg A) : Mak P w K mg base 1 "Numbers" A.CN (spNumInit A) [] :=
  mak_mk T.i_Numbers sc_Numbers_init bn_Numbers_init (fun vs H Q E h => by
    obtain ⟨_, _, _, _, _, _, rfl, _⟩ := h
    rfl) (fun f cdv A' outer s H vs Q E hr h => by
    refine ⟨_, (pss_cons (ps_fld (pv 0) (pv 1) rfl)
      (pss_cons (ps_fld (pv 0) pe_int rfl)
      (pss_one (ps_fld (pv 0) (pv 2) rfl)))), ?_⟩
    obtain ⟨G, a, dx, na, c, ns, rfl, sg, ha, hi, hn, hz, k⟩ := h
    refine ⟨_, rfl, _, rfl, a, A.CN, dx, [], rfl, hi, T.clN, T.aN_numbers, (by show 0 < 1000; decide), ?_⟩
    refine ⟨_, rfl, a, A.CN, dx, _, rfl, upd_same, T.clN, T.aN_at, (by show 1 < 1000; decide), ?_⟩
    refine ⟨_, rfl, _, rfl, a, A.CN, dx, _, rfl, upd_same, T.clN, T.aN_counters, (by show 2 < 1000; decide), ?_⟩
    have ef : putF "counters" (.int (c : Int)) (putF "at" (.int 0) (putF "numbers" (.ref na) [])) = nF na ((0 : Nat) : Int) (c : Int) := by
      have e1 : putF ("numbers" : Str) (.ref na) [] = [(("numbers" : Str), V.ref na)] := rfl
      rw [e1]
      have e2 : putF ("at" : Str) (.int 0) [(("numbers" : Str), V.ref na)] = [(("numbers" : Str), V.ref na), (("at" : Str), V.int 0)] := put_past (by decide +kernel)
      rw [e2]
      exact (put_past (by decide +kernel)).trans (congrArg _ (put_past (by decide +kernel)))
    rw [ef, upd_upd, upd_upd]
    exact k _ ⟨Same.mut sg ha, ha, dx, na, 0, ns, upd_same, hn, rfl, Nat.zero_le _, rfl, hz⟩ (Keep.mut rfl))
def spTake (A : Ad) : Sp := fun vs H Q E => ∃ (G : Hp) (a : Addr) (c t : Nat) (l : List Int) (lo hi : Int), vs = [.ref a, .int lo, .int hi] ∧ NAt A G H a c t l ∧ OptP A G H a c t (VaaclBase.readInt lo hi l) repI Q E
theorem m_Numbers_take (T : Txt K mg A) : MetX P w K mg base 1 A.CN "take" (spTake A) :=
  metX_mk T.clN T.m_Numbers_take sc_Numbers_take bn_Numbers_take (fun vs H Q E h => by
    obtain ⟨_, _, _, _, _, _, _, rfl, _⟩ := h
    rfl) (fun f cdv A' outer s H vs Q E hr h => by
    refine ⟨_, (pss_cons (ps_if (pt_cmpR op_ge (pe_fld (pv 0) rfl) (pe_callB call_len_seq (by rfl) T.b_len PySem.boot_len (pa_cons (pe_fld (pv 0) rfl) pa_nil)) (nomark _)) (pss_one (ps_raise rfl (takes_of rfl rfl rfl rfl) (pmk_own0 PySem.F.excBase_Exception T.xP T.gP T.kP (raises_own T.bP T.tP) (by rfl)))) pss_nil)
      (pss_cons (ps_set (i := 3) sc_Numbers_take.nd rfl (Or.inl rfl) (pe_ix ix_list (pe_fld (pv 0) rfl) (pe_fld (pv 0) rfl) (fun _ _ => rfl)))
      (pss_cons (ps_if (PW.pt (pw_or (pt_cmpR op_lt (pv 3) (pv 1) (nomark _)) (pw_or1 (pt_cmpR op_gt (pv 3) (pv 2) (nomark _))))) (pss_one (ps_raise rfl (takes_of rfl rfl rfl rfl) (pmk_own0 PySem.F.excBase_Exception T.xP T.gP T.kP (raises_own T.bP T.tP) (by rfl)))) pss_nil)
      (pss_cons (ps_fldaug (pv 0) pe_int in_add)
      (pss_one (ps_ret (pv 3))))))), ?_⟩
    obtain ⟨G, a, c, t, l, lo, hi, rfl, N, k⟩ := h
    obtain ⟨dx, na, i, ns, h1, h2, h3, h4, h5⟩ := id N.at_
    have hnl : (iV ns).length = ns.length := by simp
    refine ⟨_, rfl, a, A.CN, dx, _, _, rfl, h1, T.clN, T.aN_at, nF_a _ _ _, _, rfl, a, A.CN, dx, _, _, rfl, h1, T.clN, T.aN_numbers, nF_n _ _ _, na, _, rfl, .inl (SqL.of (N.same _ _ h2)), _, _, rfl, rfl, _, rfl, ifD (fun h0 => ?_) (fun h0 => ?_)⟩
    · have : l = [] := by
        rw [← h3]
        exact List.drop_eq_nil_of_le (by omega)
      subst this
      exact k.no
    · have hil : i < ns.length := by omega
      obtain ⟨z, hz⟩ := get_lt hil
      have hd := drop_at hz
      rw [h3] at hd
      subst hd
      have hzv : (iV ns)[i]? = some (.int z) := by
        rw [List.getElem?_map, hz]
        rfl
      refine ⟨_, rfl, a, A.CN, dx, _, _, rfl, h1, T.clN, T.aN_numbers, nF_n _ _ _, _, rfl, a, A.CN, dx, _, _, rfl, h1, T.clN, T.aN_at, nF_a _ _ _, na, _, _, _, rfl, rfl, SqL.of (N.same _ _ h2), atI_nat hzv, ?_⟩
      have e : VaaclBase.readInt lo hi (z :: ns.drop (i + 1)) = if lo ≤ z ∧ z ≤ hi then some (z, ns.drop (i + 1)) else none := rfl
      rw [e] at k
      refine ⟨_, rfl, _, rfl, _, _, rfl, rfl, _, rfl, ifD (fun h6 => ?_) (fun h6 => ?_)⟩
      · rw [if_neg (by omega)] at k
        exact iteT k.no
      refine ⟨_, rfl, _, rfl, _, _, rfl, rfl, _, rfl, ifD (fun h7 => ?_) (fun h7 => ?_)⟩
      · rw [if_neg (by omega)] at k
        exact k.no
      rw [if_pos (by omega)] at k
      refine ⟨_, rfl, a, A.CN, dx, _, _, rfl, h1, T.clN, T.aN_at, nF_a _ _ _, _, _, rfl, rfl, ?_⟩
      refine ⟨dx, _, h1, (by show 3 < 1000; decide), ?_⟩
      rw [nF_put]
      refine ⟨_, rfl, ?_⟩
      exact k G _ _ (Ext.mut rfl) ⟨Same.mut N.same N.hole, N.hole, dx, na, i + 1, ns, upd_same, h2, rfl, by omega, h5⟩ rfl)
end CL

set_option Elab.async false
set_option linter.all false
set_option maxRecDepth 100000
set_option maxHeartbeats 4000000
namespace CL
open PySem PySem.Spec PyProof.Rows L2
open C8 (Cal Met Mak pe_c pe_mk pe_mt pe_mt0 pe_gc)
open VaaclBase (Values Test Guard Branch Loop Piece okTest)
variable {P : PySem.Program} {w : World} {K : PySem.W.Frag} {mg : Str → Option Value} {base : Heap} {A : Ad}
/-! ### the specification's readers, one number after the other -/
theorem readInt_cons (lo hi z : Int) (r : List Int) : VaaclBase.readInt lo hi (z :: r) = if lo ≤ z ∧ z ≤ hi then some (z, r) else none := rfl
theorem readGiven_is {n : Nat} (h1 : 1 ≤ n) (l : List Int) : VaaclBase.readGiven n l = (VaaclBase.readInt 0 1 l).bind fun k => if k.1 = 0 then (VaaclBase.readInt (-99) 99 k.2).bind fun u => some ((⟨none, u.1⟩ : Gv), u.2)
    else (VaaclBase.readInt 0 ((n : Int) - 1) k.2).bind fun x => (VaaclBase.readInt (-99) 99 x.2).bind fun u => some ((⟨some x.1.toNat, u.1⟩ : Gv), u.2) := by
  have hn : VaaclBase.int (n - 1) = (n : Int) - 1 := by
    unfold VaaclBase.int
    omega
  have e1 : ∀ r, VaaclBase.readGiven n (0 :: r) = (VaaclBase.readInt (-99) 99 r).map fun u => ((⟨none, u.1⟩ : Gv), u.2) := fun r => rfl
  have e2 : ∀ r, VaaclBase.readGiven n (1 :: r) = ((VaaclBase.readInt 0 (VaaclBase.int (n - 1)) r).map fun u => (u.1.toNat, u.2)).bind fun u => ((VaaclBase.readInt (-99) 99 u.2).map fun v => ((u.1, v.1), v.2)).map fun w => ((⟨some w.1.1, w.1.2⟩ : Gv), w.2) := fun r => by
    show (((VaaclBase.readInt 0 (VaaclBase.int (n - 1)) r).map fun u => (u.1.toNat, u.2)).bind fun u => (VaaclBase.readInt (-99) 99 u.2).map fun v => ((u.1, v.1), v.2)).map _ = _
    rw [Option.map_bind]
    rfl
  cases l with
  | nil => rfl
  | cons z r =>
    by_cases h0 : z = 0
    · subst h0
      have ez : VaaclBase.readInt 0 1 (0 :: r) = some (0, r) := (readInt_cons _ _ _ _).trans (if_pos (by decide))
      rw [e1, ez, Option.bind_some]
      dsimp only
      rw [if_pos rfl]
      cases VaaclBase.readInt (-99) 99 r <;> rfl
    · by_cases h1' : z = 1
      · subst h1'
        have ez : VaaclBase.readInt 0 1 (1 :: r) = some (1, r) := (readInt_cons _ _ _ _).trans (if_pos (by decide))
        rw [e2, hn, ez, Option.bind_some]
        dsimp only
        rw [if_neg (by decide)]
        cases VaaclBase.readInt 0 ((n : Int) - 1) r with
        | none => rfl
        | some u =>
          show ((VaaclBase.readInt (-99) 99 u.2).map _).map _ = (VaaclBase.readInt (-99) 99 u.2).bind _
          cases VaaclBase.readInt (-99) 99 u.2 <;> rfl
      · have e3 : VaaclBase.readInt 0 1 (z :: r) = none := (readInt_cons _ _ _ _).trans (if_neg (by omega))
        rw [e3]
        unfold VaaclBase.readGiven
        split
        · rename_i q
          exact absurd (List.cons.inj q).1 h0
        · rename_i q
          exact absurd (List.cons.inj q).1 h1'
        · rfl
section
variable {α β : Type} {G H G0 H0 : Hp} {a : Addr} {c t : Nat} {r : Option (α × List Int)} {rep : Hp → V → α → Prop} {Q : VK} {E : XK} {l : List Int}
/-- .. over the ground that the promise began with -/
theorem OptP.bind0 {f : α × List Int → Option (β × List Int)} {rep1 : Hp → V → β → Prop} {repa : Hp → V → α → Prop} {Q1 : VK} (k : OptP A G0 H0 a c t (r.bind f) rep1 Q E) (e0 : Ext (XA a) G0 H0 G H)
    (h : ∀ (x : α) (l' : List Int) (G' H' : Hp) (v : V), r = some (x, l') → Ext (XA a) G H G' H' → NAt A G' H' a c t l' → repa G' v x → OptP A G0 H0 a c t (f (x, l')) rep1 Q E → Q1 v H') : OptP A G H a c t r repa Q1 E := by
  cases r with
  | none => exact OptP.mono (r := none) k e0
  | some x =>
    intro G' H' v e N hr
    exact h x.1 x.2 G' H' v rfl e N hr k
theorem Ext.mutD {X : Addr → Prop} {G H G' H' : Hp} {D : Addr} {o : HO} (e : Ext X G H G' H') (h : H D = none) : Ext X G H G' (upd H' D o) := by
  refine ⟨e.sg, fun b u hb hu => ?_, e.fresh⟩
  rw [upd_ne (ne_of_none hu h)]
  exact e.keep b u hb hu
theorem NAt.mut {D : Addr} {o : HO} (N : NAt A G H a c t l) (hD : G D = none) (hne : a ≠ D) : NAt A G (upd H D o) a c t l := by
  obtain ⟨dx, na, i, ns, h1, h2⟩ := N.at_
  exact ⟨Same.mut N.same hD, N.hole, dx, na, i, ns, (upd_ne hne).trans h1, h2⟩
theorem NAt.put {D : Addr} {o : HO} (N : NAt A G H a c t l) (hD : H D = some o) (hG : G D = none) (hne : a ≠ D) : NAt A (upd G D o) H a c t l := by
  obtain ⟨dx, na, i, ns, h1, h2, h3⟩ := N.at_
  refine ⟨fun b u e => ?_, (upd_ne hne).trans N.hole, dx, na, i, ns, h1, (upd_ne (ne_of_none h2 hG)).trans h2, h3⟩
  by_cases hb : b = D
  · subst hb
    rw [upd_same] at e
    cases e
    exact hD
  · rw [upd_ne hb] at e
    exact N.same _ _ e
theorem NAt.ne {D : Addr} {o : HO} (N : NAt A G H a c t l) (hD : H D = some o) (hk : ∀ dx fs, o ≠ .ins A.CN dx fs) : a ≠ D := by
  obtain ⟨dx, na, i, ns, h1, _⟩ := N.at_
  intro q
  subst q
  rw [h1] at hD
  exact hk _ _ (Option.some.inj hD).symm
theorem NAt.ins (N : NAt A G H a c t l) : ∃ dx na i, H a = some (.ins A.CN dx (nF na i (c : Int))) := by
  obtain ⟨dx, na, i, ns, h1, _⟩ := N.at_
  exact ⟨dx, na, i, h1⟩
/-- [self.m() for .. in range(n)]: m reads one thing -/
theorem lc_take {rd : List Int → Option (α × List Int)} (rm : ∀ {H H' : Hp}, Same H H' → ∀ v x, rep H v x → rep H' v x) {n j : Nat} {m : Str} {sp : Sp} {σ : L2.St} {vs : List Nat} {lo : Int} (hn : n ≤ 1000) (N : NAt A G H a c t l)
    (k : OptP A G H a c t (VaaclBase.readTimes rd n l) (ListAt rep) Q E) (hsp : ∀ (G H : Hp) (l : List Int) (Q' : VK), NAt A G H a c t l → OptP A G H a c t (rd l) rep Q' E → sp [.ref a] H Q' E) (hno : ∀ (na : Addr) (i c : Int), (nF na i c).lookup m = none)
    (hw : ∀ x, wipe ((wipe σ vs).set j (some x)) vs = wipe σ vs) (h0 : ∀ x, ((wipe σ vs).set j (some x))[0]? = some (some (.ref a))) : ∀ D, H D = none → ∃ W : Nat → Nat → Hp → Prop, (∃ m, W 0 m (upd H D (.lst []))) ∧ ∀ i m' H, W i m' H →
      ((Itr lo n).stop i H ∧ Q (.ref D) H) ∨ ((Itr lo n).go i H ∧ ∃ Nx : Hp → Prop, (∀ H', Nx H' → ∃ m1, m1 < m' ∧ W (i + 1) m1 H') ∧ ∀ x H', (Itr lo n).yld i H x H' → gName j x (wipe σ vs) H' fun σ2 H2 => wipe σ2 vs = wipe σ vs ∧ tYes σ2 H2 fun b H3 =>
        if b = true then tMeth A.CN m sp [] E (tVar 0) tNil σ2 H3 fun y H4 => ∃ acc, H4 D = some (.lst acc) ∧ acc.length < sizeLine ∧ Nx (upd H4 D (.lst (acc ++ [y]))) else Nx H3) := by
  intro D hD
  have gD : G D = none := N.same.free hD
  have hne : a ≠ D := by
    obtain ⟨dx, na, i, h1⟩ := N.ins
    exact ne_of_none h1 hD
  refine lc_range (fun i H' => ∃ (G' : Hp) (acc : List α) (l' : List Int), Ext (XA a) G H G' H' ∧ NAt A G' H' a c t l' ∧ G' D = none ∧ (∃ vs, H' D = some (.lst vs) ∧ Paired (rep G') vs acc) ∧ acc.length = i ∧
      OptP A G H a c t ((VaaclBase.readTimes rd (n - i) l').bind fun u => some (acc ++ u.1, u.2)) (ListAt rep) Q E) ?_ ?_ ?_
  · refine ⟨G, [], l, (Ext.refl _ _ _).mutD hD, N.mut gD hne, gD, ⟨[], upd_same, .nil⟩, rfl, ?_⟩
    have e : ((VaaclBase.readTimes rd (n - 0) l).bind fun u => some ([] ++ u.1, u.2)) = VaaclBase.readTimes rd n l := by
      show ((VaaclBase.readTimes rd n l).bind fun u => some (u.1, u.2)) = _
      cases VaaclBase.readTimes rd n l <;> rfl
    rw [e]
    exact k
  · rintro i H' hi ⟨G', acc, l', e', N', gD', ⟨vs', hv, hp⟩, hl, k'⟩
    refine ⟨hw _, ?_⟩
    obtain ⟨dx, na, i0, h1⟩ := N'.ins
    refine ⟨_, h0 _, a, dx, _, rfl, h1, hno _ _ _, ?_⟩
    have en : n - i = (n - (i + 1)) + 1 := by omega
    rw [en] at k'
    have e2 : ((VaaclBase.readTimes rd ((n - (i + 1)) + 1) l').bind fun u => some (acc ++ u.1, u.2)) = (rd l').bind fun u => (VaaclBase.readTimes rd (n - (i + 1)) u.2).bind fun v => some ((acc ++ [u.1]) ++ v.1, v.2) := by
      show (((rd l').bind fun u => (VaaclBase.readTimes rd (n - (i + 1)) u.2).map fun v => (u.1 :: v.1, v.2)).bind fun u => some (acc ++ u.1, u.2)) = _
      cases rd l' with
      | none => rfl
      | some u =>
        show ((VaaclBase.readTimes rd (n - (i + 1)) u.2).map fun v => (u.1 :: v.1, v.2)).bind _ = (VaaclBase.readTimes rd (n - (i + 1)) u.2).bind _
        cases VaaclBase.readTimes rd (n - (i + 1)) u.2 with
        | none => rfl
        | some v =>
          show some (acc ++ u.1 :: v.1, v.2) = some (acc ++ [u.1] ++ v.1, v.2)
          rw [List.append_assoc]
          rfl
    rw [e2] at k'
    refine hsp G' H' l' _ N' (OptP.bind0 k' e' fun x l2 G2 H2 v er e3 N2 hr k2 => ?_)
    have hv2 : H2 D = some (.lst vs') := e3.keep D _ (fun q => hne q.symm) hv
    have gD2 : G2 D = none := by
      cases q : G2 D with
      | none => rfl
      | some o =>
        rcases e3.fresh D o q with z | z
        · rw [gD'] at z
          cases z
        · rw [hv] at z
          cases z
    refine ⟨vs', hv2, smallL (by rw [hp.length]; omega), G2, acc ++ [x], l2, ?_, N2.mut gD2 hne, gD2, ⟨_, upd_same, pair_app (Paired.mapP hp (rm e3.sg)) (.cons hr .nil)⟩, by rw [List.length_append, List.length_singleton, hl], k2⟩
    exact (e'.trans e3 fun b hb => by
      have hb : b = a := hb
      rw [hb]
      exact N2.hole).mutD hD
  · rintro H' ⟨G', acc, l', e', N', gD', ⟨vs', hv, hp⟩, hl, k'⟩
    rw [Nat.sub_self] at k'
    have k' : OptP A G H a c t (some (acc ++ [], l')) (ListAt rep) Q E := k'
    rw [List.append_nil] at k'
    refine k' (upd G' D (.lst vs')) H' (.ref D) ⟨fun b u q => ?_, e'.keep, fun b u q => ?_⟩ (N'.put hv gD' hne) ⟨D, vs', rfl, upd_same, Paired.mapP hp (rm (Same.new gD'))⟩
    · rw [upd_ne (ne_of_none q gD)]
      exact e'.sg _ _ q
    · by_cases hb : b = D
      · right
        rw [hb]
        exact hD
      · rw [upd_ne hb] at q
        exact e'.fresh b u q
end
theorem no_take (na : Addr) (i c : Int) : (nF na i c).lookup ("take" : Str) = none := nF_no _ _ _ (by decide +kernel) (by decide +kernel) (by decide +kernel)
theorem no_given (na : Addr) (i c : Int) : (nF na i c).lookup ("given" : Str) = none := nF_no _ _ _ (by decide +kernel) (by decide +kernel) (by decide +kernel)
theorem no_move (na : Addr) (i c : Int) : (nF na i c).lookup ("move" : Str) = none := nF_no _ _ _ (by decide +kernel) (by decide +kernel) (by decide +kernel)
theorem no_test (na : Addr) (i c : Int) : (nF na i c).lookup ("test" : Str) = none := nF_no _ _ _ (by decide +kernel) (by decide +kernel) (by decide +kernel)
theorem no_branch (na : Addr) (i c : Int) : (nF na i c).lookup ("branch" : Str) = none := nF_no _ _ _ (by decide +kernel) (by decide +kernel) (by decide +kernel)
theorem no_piece (na : Addr) (i c : Int) : (nF na i c).lookup ("piece" : Str) = none := nF_no _ _ _ (by decide +kernel) (by decide +kernel) (by decide +kernel)
/-- a reader's promise -/
def spRead (A : Ad) {α : Type} (rd : Nat → List Int → Option (α × List Int)) (rep : Hp → V → α → Prop) : Sp := fun vs H Q E => ∃ (G : Hp) (a : Addr) (c t : Nat) (l : List Int), vs = [.ref a] ∧ NAt A G H a c t l ∧ 1 ≤ c ∧ c ≤ 4 ∧ OptP A G H a c t (rd c l) rep Q E
abbrev spGiven (A : Ad) : Sp := spRead A VaaclBase.readGiven GivenAt
theorem readInt_in {lo hi : Int} {l l' : List Int} {x : Int} (h : VaaclBase.readInt lo hi l = some (x, l')) : lo ≤ x ∧ x ≤ hi := by
  cases l with
  | nil => cases h
  | cons z r =>
    have e : VaaclBase.readInt lo hi (z :: r) = if lo ≤ z ∧ z ≤ hi then some (z, r) else none := rfl
    rw [e] at h
    split at h
    · cases h
      assumption
    · cases h
theorem m_Numbers_given (T : Txt K mg A) : MetX P w K mg base 2 A.CN "given" (spGiven A) :=
  metX_mk T.clN T.m_Numbers_given sc_Numbers_given bn_Numbers_given (fun vs H Q E h => by
    obtain ⟨_, _, _, _, _, rfl, _⟩ := h
    rfl) (fun f cdv A' outer s H vs Q E hr h => by
    refine ⟨_, (pss_cons (ps_if (pt_cmpR op_eq (pe_mX (m_Numbers_take T) hr (by decide) (passes_call (takes_of rfl rfl rfl rfl) (fun _ _ _ _ q => q)) (pv 0) (pa_cons pe_int (pa_cons pe_int pa_nil))) pe_int (nomark _)) (pss_one (ps_ret (pe_tup (pa_cons pe_int (pa_cons pe_int (pa_cons (pe_mX (m_Numbers_take T) hr (by decide) (passes_call (takes_of rfl rfl rfl rfl) (fun _ _ _ _ q => q)) (pv 0) (pa_cons (pe_un un_neg pe_int) (pa_cons pe_int pa_nil))) pa_nil)))))) pss_nil)
      (pss_cons (ps_set (i := 1) sc_Numbers_given.nd rfl (Or.inl rfl) (pe_mX (m_Numbers_take T) hr (by decide) (passes_call (takes_of rfl rfl rfl rfl) (fun _ _ _ _ q => q)) (pv 0) (pa_cons pe_int (pa_cons (pe_op op_sub (pe_fld (pv 0) rfl) pe_int) pa_nil))))
      (pss_one (ps_ret (pe_tup (pa_cons pe_int (pa_cons (pv 1) (pa_cons (pe_mX (m_Numbers_take T) hr (by decide) (passes_call (takes_of rfl rfl rfl rfl) (fun _ _ _ _ q => q)) (pv 0) (pa_cons (pe_un un_neg pe_int) (pa_cons pe_int pa_nil))) pa_nil)))))))), ?_⟩
    obtain ⟨G, a, c, t, l, rfl, N, hc1, hc4, k⟩ := h
    rw [readGiven_is hc1] at k
    obtain ⟨dx, na, i, h1⟩ := N.ins
    refine ⟨_, rfl, a, dx, _, rfl, h1, no_take _ _ _, G, a, c, t, l, 0, 1, rfl, N, OptP.bind k fun x l1 G1 H1 v er e1 N1 hr1 k1 => ?_⟩
    subst hr1
    obtain ⟨dx1, na1, i1, h11⟩ := N1.ins
    have hx := readInt_in er
    refine ⟨rfl, _, rfl, ifD (fun h0 => ?_) (fun h0 => ?_)⟩
    · have h0 : x = 0 := V.int.inj h0
      dsimp only at k1
      rw [if_pos h0] at k1
      refine ⟨_, rfl, a, dx1, _, rfl, h11, no_take _ _ _, 99, rfl, G1, a, c, t, l1, -99, 99, rfl, N1, OptP.bind k1 fun u l2 G2 H2 v er2 e2 N2 hr2 k2 => ?_⟩
      subst hr2
      refine ⟨by show 3 ≤ sizeLine; exact small (by decide), fun p hp => ?_⟩
      exact (OptP.mono k2 (Ext.new N2.same hp)).to (N2.new hp) ⟨p, rfl, upd_same⟩
    · have h0 : x ≠ 0 := fun q => h0 (int_eq q)
      dsimp only at k1
      rw [if_neg h0] at k1
      refine ⟨_, rfl, a, dx1, _, rfl, h11, no_take _ _ _, _, rfl, a, A.CN, dx1, _, _, rfl, h11, T.clN, T.aN_counters, nF_c _ _ _, _, _, rfl, rfl, G1, a, c, t, l1, 0, _, rfl, N1, OptP.bind k1 fun y l2 G2 H2 v er2 e2 N2 hr2 k2 => ?_⟩
      subst hr2
      obtain ⟨dx2, na2, i2, h12⟩ := N2.ins
      have hy := readInt_in er2
      refine ⟨_, rfl, _, rfl, a, dx2, _, rfl, h12, no_take _ _ _, 99, rfl, G2, a, c, t, l2, -99, 99, rfl, N2, OptP.bind k2 fun u l3 G3 H3 v er3 e3 N3 hr3 k3 => ?_⟩
      subst hr3
      refine ⟨by show 3 ≤ sizeLine; exact small (by decide), fun p hp => ?_⟩
      refine (OptP.mono k3 (Ext.new N3.same hp)).to (N3.new hp) ⟨p, rfl, ?_⟩
      rw [upd_same]
      show some (HO.tup [.int 1, .int y, .int u]) = some (HO.tup [.int 1, .int ((y.toNat : Nat) : Int), .int u])
      rw [show ((y.toNat : Nat) : Int) = y by omega])
abbrev spReadMove (A : Ad) : Sp := spRead A VaaclBase.readMove MoveAt
theorem m_Numbers_move (T : Txt K mg A) : MetX P w K mg base 3 A.CN "move" (spReadMove A) :=
  metX_mk T.clN T.m_Numbers_move sc_Numbers_move bn_Numbers_move (fun vs H Q E h => by
    obtain ⟨_, _, _, _, _, rfl, _⟩ := h
    rfl) (fun f cdv A' outer s H vs Q E hr h => by
    refine ⟨_, (pss_one (ps_ret (pe_lcX (own := [("counter", 1)]) (g := gName 1) (E := E) rfl rfl (takes_of rfl rfl rfl rfl) (fun _ _ _ _ q => q) rfl sc_Numbers_move.nd (pi_range1 (by rfl) T.b_range (pa_cons (pe_fld (pv 0) rfl) pa_nil)) (blkOk_by (own := [("counter", 1)]) (N := N_Numbers_move) (sc := defScope s_Numbers_move) (by decide +kernel)) (fun _ _ _ _ _ _ => pg_name (i := 1) sc_Numbers_move.nd rfl (Or.inl rfl)) (fun _ _ _ _ _ _ hx => (pe_mX0 (m_Numbers_given T) hr (by decide) hx (pv 0)))))), ?_⟩
    obtain ⟨G, a, c, t, l, rfl, N, hc1, hc4, k⟩ := h
    obtain ⟨dx, na, i, h1⟩ := N.ins
    have ro := rng_ok (n := c) (by omega)
    refine ⟨_, rfl, a, A.CN, dx, _, _, rfl, h1, T.clN, T.aN_counters, nF_c _ _ _, _, rfl, ro.1, ro.2, ?_⟩
    exact lc_take (rd := VaaclBase.readGiven c) GivenAt.mono (n := c) (by omega) N k (fun G H l Q' N' k' => ⟨G, a, c, t, l, rfl, N', hc1, hc4, k'⟩) no_given (fun _ => rfl) (fun _ => rfl))
end CL

set_option Elab.async false
set_option linter.all false
set_option maxRecDepth 100000
set_option maxHeartbeats 4000000
namespace CL
open PySem PySem.Spec PyProof.Rows L2
open C8 (Cal Met Mak pe_c pe_mk pe_mt pe_mt0 pe_gc)
open VaaclBase (Values Test Guard Branch Loop Piece okTest)
variable {P : PySem.Program} {w : World} {K : PySem.W.Frag} {mg : Str → Option Value} {base : Heap} {A : Ad}
theorem readNat_is (lo hi : Nat) (l : List Int) : VaaclBase.readNat lo hi l = (VaaclBase.readInt (lo : Int) (hi : Int) l).bind fun u => some (u.1.toNat, u.2) := by
  show (VaaclBase.readInt (lo : Int) (hi : Int) l).map _ = _
  cases VaaclBase.readInt (lo : Int) (hi : Int) l <;> rfl
theorem pair_is {α β : Type} (a : VaaclBase.Reader α) (b : VaaclBase.Reader β) (l : List Int) : VaaclBase.readPair a b l = (a l).bind fun u => (b u.2).bind fun v => some ((u.1, v.1), v.2) := by
  show (a l).bind (fun u => (b u.2).map fun v => ((u.1, v.1), v.2)) = _
  congr 1
  funext u
  cases b u.2 <;> rfl
/-- what a test that was read has to be -/
def gotT (n : Nat) (o : Option (Test × List Int)) : Option (Test × List Int) := o.bind fun u => if okTest n u.1 then some u else none
theorem readTest_0 (n : Nat) (r : List Int) : VaaclBase.readTest n (0 :: r) = gotT n ((VaaclBase.readPair (VaaclBase.readNat 0 (n - 1)) (VaaclBase.readInt (-999999) 999999) r).map fun u => (.atMost u.1.1 u.1.2, u.2)) := rfl
theorem readTest_1 (n : Nat) (r : List Int) : VaaclBase.readTest n (1 :: r) = gotT n ((VaaclBase.readPair (VaaclBase.readNat 0 (n - 1)) (VaaclBase.readInt (-999999) 999999) r).map fun u => (.atLeast u.1.1 u.1.2, u.2)) := rfl
theorem readTest_2 (n : Nat) (r : List Int) : VaaclBase.readTest n (2 :: r) = gotT n ((VaaclBase.readPair (VaaclBase.readNat 0 (n - 1)) (VaaclBase.readPair (VaaclBase.readNat 0 (n - 1)) (VaaclBase.readInt (-999999) 999999)) r).map fun u => (.below u.1.1 u.1.2.1 u.1.2.2, u.2)) := rfl
theorem readTest_3 (n : Nat) (r : List Int) : VaaclBase.readTest n (3 :: r) = gotT n ((VaaclBase.readPair (VaaclBase.readNat 0 (n - 1)) (VaaclBase.readPair (VaaclBase.readNat 2 6) (VaaclBase.readNat 0 5)) r).map fun u => (.rem u.1.1 u.1.2.1 u.1.2.2, u.2)) := rfl
theorem readTest_is {n : Nat} (h1 : 1 ≤ n) (l : List Int) : VaaclBase.readTest n l = (VaaclBase.readInt 0 3 l).bind fun k => (VaaclBase.readInt 0 ((n : Int) - 1) k.2).bind fun x =>
    if k.1 < 2 then (VaaclBase.readInt (-999999) 999999 x.2).bind fun u => some ((if k.1 = 0 then Test.atMost x.1.toNat u.1 else Test.atLeast x.1.toNat u.1), u.2)
    else if k.1 = 2 then (VaaclBase.readInt 0 ((n : Int) - 1) x.2).bind fun y => (VaaclBase.readInt (-999999) 999999 y.2).bind fun u => some (Test.below x.1.toNat y.1.toNat u.1, u.2)
    else (VaaclBase.readInt 2 6 x.2).bind fun m => if m.1 = 5 then none else (VaaclBase.readInt 0 (m.1 - 1) m.2).bind fun r => some (Test.rem x.1.toNat m.1.toNat r.1.toNat, r.2) := by
  have hn : ((n - 1 : Nat) : Int) = (n : Int) - 1 := by omega
  have rn : ∀ l, VaaclBase.readNat 0 (n - 1) l = (VaaclBase.readInt 0 ((n : Int) - 1) l).bind fun u => some (u.1.toNat, u.2) := fun l => by
    rw [readNat_is, hn]
    rfl
  cases l with
  | nil => rfl
  | cons z r =>
    by_cases hz : 0 ≤ z ∧ z ≤ 3
    · have ez : VaaclBase.readInt 0 3 (z :: r) = some (z, r) := (readInt_cons _ _ _ _).trans (if_pos hz)
      rw [ez, Option.bind_some]
      dsimp only
      obtain rfl | rfl | rfl | rfl : z = 0 ∨ z = 1 ∨ z = 2 ∨ z = 3 := by omega
      · rw [readTest_0, pair_is, rn]
        cases hx : VaaclBase.readInt 0 ((n : Int) - 1) r with
        | none => rfl
        | some x =>
          have hxi := readInt_in hx
          rw [Option.bind_some, Option.bind_some, Option.bind_some, if_pos (by decide)]
          dsimp only
          cases hu : VaaclBase.readInt (-999999) 999999 x.2 with
          | none => rfl
          | some u =>
            have hui := readInt_in hu
            rw [Option.bind_some, Option.bind_some, if_pos rfl]
            show (if okTest n (.atMost x.1.toNat u.1) = true then _ else _) = _
            rw [if_pos]
            unfold okTest VaaclBase.LIMIT
            simp only [Bool.and_eq_true, decide_eq_true_eq]
            omega
      · rw [readTest_1, pair_is, rn]
        cases hx : VaaclBase.readInt 0 ((n : Int) - 1) r with
        | none => rfl
        | some x =>
          have hxi := readInt_in hx
          rw [Option.bind_some, Option.bind_some, Option.bind_some, if_pos (by decide)]
          dsimp only
          cases hu : VaaclBase.readInt (-999999) 999999 x.2 with
          | none => rfl
          | some u =>
            have hui := readInt_in hu
            rw [Option.bind_some, Option.bind_some, if_neg (by decide)]
            show (if okTest n (.atLeast x.1.toNat u.1) = true then _ else _) = _
            rw [if_pos]
            unfold okTest VaaclBase.LIMIT
            simp only [Bool.and_eq_true, decide_eq_true_eq]
            omega
      · rw [readTest_2, pair_is, rn]
        cases hx : VaaclBase.readInt 0 ((n : Int) - 1) r with
        | none => rfl
        | some x =>
          have hxi := readInt_in hx
          rw [Option.bind_some, Option.bind_some, Option.bind_some, if_neg (by decide), if_pos rfl, pair_is, rn]
          dsimp only
          cases hy : VaaclBase.readInt 0 ((n : Int) - 1) x.2 with
          | none => rfl
          | some y =>
            have hyi := readInt_in hy
            rw [Option.bind_some, Option.bind_some, Option.bind_some]
            dsimp only
            cases hu : VaaclBase.readInt (-999999) 999999 y.2 with
            | none => rfl
            | some u =>
              have hui := readInt_in hu
              rw [Option.bind_some, Option.bind_some, Option.bind_some]
              show (if okTest n (.below x.1.toNat y.1.toNat u.1) = true then _ else _) = _
              rw [if_pos]
              unfold okTest VaaclBase.LIMIT
              simp only [Bool.and_eq_true, decide_eq_true_eq]
              omega
      · rw [readTest_3, pair_is, rn]
        cases hx : VaaclBase.readInt 0 ((n : Int) - 1) r with
        | none => rfl
        | some x =>
          have hxi := readInt_in hx
          rw [Option.bind_some, Option.bind_some, Option.bind_some, if_neg (by decide), if_neg (by decide), pair_is, readNat_is]
          dsimp only
          cases hm : VaaclBase.readInt ((2 : Nat) : Int) ((6 : Nat) : Int) x.2 with
          | none => rfl
          | some m =>
            have hmi := readInt_in hm
            simp only [Option.bind_some]
            rw [readNat_is]
            cases hl : m.2 with
            | nil =>
              show none = (if m.1 = 5 then none else none)
              split <;> rfl
            | cons q t =>
              rw [readInt_cons, readInt_cons]
              have hok : ∀ b : Bool, b = okTest n (.rem x.1.toNat m.1.toNat q.toNat) → (b = true ↔ (m.1 = 2 ∨ m.1 = 3 ∨ m.1 = 4 ∨ m.1 = 6) ∧ q.toNat < m.1.toNat) := by
                rintro b rfl
                unfold okTest VaaclBase.MODULI
                simp only [Bool.and_eq_true, decide_eq_true_eq, List.contains_iff_mem, List.mem_cons, List.not_mem_nil, or_false]
                omega
              have hok := hok _ rfl
              by_cases hq : ((0 : Nat) : Int) ≤ q ∧ q ≤ ((5 : Nat) : Int)
              · rw [if_pos hq]
                show (if okTest n (.rem x.1.toNat m.1.toNat q.toNat) = true then some (Test.rem x.1.toNat m.1.toNat q.toNat, t) else none) = _
                by_cases h5 : m.1 = 5
                · rw [if_pos h5, if_neg (by rw [hok]; omega)]
                · rw [if_neg h5]
                  by_cases hqm : 0 ≤ q ∧ q ≤ m.1 - 1
                  · rw [if_pos hqm, if_pos (by rw [hok]; omega)]
                    rfl
                  · rw [if_neg hqm, if_neg (by rw [hok]; omega)]
                    rfl
              · rw [if_neg hq]
                by_cases h5 : m.1 = 5
                · rw [if_pos h5]
                  rfl
                · rw [if_neg h5, if_neg (by omega)]
                  rfl
    · have ez : VaaclBase.readInt 0 3 (z :: r) = none := (readInt_cons _ _ _ _).trans (if_neg hz)
      rw [ez]
      unfold VaaclBase.readTest
      dsimp only
      split
      · rename_i q
        have := (List.cons.inj q).1
        omega
      · rename_i q
        have := (List.cons.inj q).1
        omega
      · rename_i q
        have := (List.cons.inj q).1
        omega
      · rename_i q
        have := (List.cons.inj q).1
        omega
      · rfl
theorem readBranch_is (n : Nat) (l : List Int) : VaaclBase.readBranch n l = (VaaclBase.readInt 0 3 l).bind fun k => (VaaclBase.readTimes (VaaclBase.readTest n) k.1.toNat k.2).bind fun g => (VaaclBase.readMove n g.2).bind fun m => some ((⟨g.1, m.1⟩ : Branch), m.2) := by
  have e : VaaclBase.readBranch n l = (VaaclBase.readPair (VaaclBase.readGuard n) (VaaclBase.readMove n) l).map fun u => ((⟨u.1.1, u.1.2⟩ : Branch), u.2) := rfl
  have e2 : VaaclBase.readGuard n l = (VaaclBase.readNat 0 3 l).bind fun k => VaaclBase.readTimes (VaaclBase.readTest n) k.1 k.2 := rfl
  rw [e, pair_is, e2, readNat_is]
  show Option.map _ (Option.bind (Option.bind (Option.bind (VaaclBase.readInt 0 3 l) _) _) _) = _
  cases VaaclBase.readInt 0 3 l with
  | none => rfl
  | some k =>
    show Option.map _ (Option.bind (VaaclBase.readTimes (VaaclBase.readTest n) k.1.toNat k.2) _) = (VaaclBase.readTimes (VaaclBase.readTest n) k.1.toNat k.2).bind _
    cases VaaclBase.readTimes (VaaclBase.readTest n) k.1.toNat k.2 with
    | none => rfl
    | some g =>
      show Option.map _ (Option.bind (VaaclBase.readMove n g.2) _) = (VaaclBase.readMove n g.2).bind _
      cases VaaclBase.readMove n g.2 <;> rfl
theorem readPiece_is (n : Nat) (l : List Int) : VaaclBase.readPiece n l = (VaaclBase.readInt 0 1 l).bind fun k => if k.1 = 0 then (VaaclBase.readMove n k.2).bind fun m => some (Piece.move m.1, m.2)
    else (VaaclBase.readInt 1 3 k.2).bind fun j => (VaaclBase.readTimes (VaaclBase.readBranch n) j.1.toNat j.2).bind fun b => some (Piece.loop b.1, b.2) := by
  have e0 : ∀ r, VaaclBase.readPiece n (0 :: r) = (VaaclBase.readMove n r).map fun u => (Piece.move u.1, u.2) := fun _ => rfl
  have e1 : ∀ r, VaaclBase.readPiece n (1 :: r) = (((VaaclBase.readNat 1 3 r).bind fun k => VaaclBase.readTimes (VaaclBase.readBranch n) k.1 k.2)).map fun u => (Piece.loop u.1, u.2) := fun _ => rfl
  cases l with
  | nil => rfl
  | cons z r =>
    by_cases h0 : z = 0
    · subst h0
      have ez : VaaclBase.readInt 0 1 (0 :: r) = some (0, r) := (readInt_cons _ _ _ _).trans (if_pos (by decide))
      rw [e0, ez, Option.bind_some]
      dsimp only
      rw [if_pos rfl]
      cases VaaclBase.readMove n r <;> rfl
    · by_cases h1' : z = 1
      · subst h1'
        have ez : VaaclBase.readInt 0 1 (1 :: r) = some (1, r) := (readInt_cons _ _ _ _).trans (if_pos (by decide))
        rw [e1, ez, Option.bind_some, readNat_is]
        dsimp only
        rw [if_neg (by decide)]
        show Option.map _ (Option.bind (Option.bind (VaaclBase.readInt 1 3 r) _) _) = _
        cases VaaclBase.readInt 1 3 r with
        | none => rfl
        | some j =>
          show Option.map _ (VaaclBase.readTimes (VaaclBase.readBranch n) j.1.toNat j.2) = (VaaclBase.readTimes (VaaclBase.readBranch n) j.1.toNat j.2).bind _
          cases VaaclBase.readTimes (VaaclBase.readBranch n) j.1.toNat j.2 <;> rfl
      · have e3 : VaaclBase.readInt 0 1 (z :: r) = none := (readInt_cons _ _ _ _).trans (if_neg (by omega))
        rw [e3]
        unfold VaaclBase.readPiece
        split
        · rename_i q
          exact absurd (List.cons.inj q).1 h0
        · rename_i q
          exact absurd (List.cons.inj q).1 h1'
        · rfl
end CL

set_option Elab.async false
set_option linter.all false
set_option maxRecDepth 100000
set_option maxHeartbeats 4000000
namespace CL
open PySem PySem.Spec PyProof.Rows L2
open C8 (Cal Met Mak pe_c pe_mk pe_mt pe_mt0 pe_gc)
open VaaclBase (Values Test Guard Branch Loop Piece okTest)
variable {P : PySem.Program} {w : World} {K : PySem.W.Frag} {mg : Str → Option Value} {base : Heap} {A : Ad}
theorem tlc_take {α : Type} {G H : Hp} {a : Addr} {c t : Nat} {rep : Hp → V → α → Prop} {Q : VK} {E : XK} {l : List Int} {rd : List Int → Option (α × List Int)} (rm : ∀ {H H' : Hp}, Same H H' → ∀ v x, rep H v x → rep H' v x) {n j : Nat} {m : Str} {sp : Sp} {σ : L2.St} {vs : List Nat} {ta : TA}
    (hta : ∀ R : List V → Hp → Prop, R [.int (n : Int)] H → ta σ H R) (hn : n ≤ 1000) (N : NAt A G H a c t l) (k : OptP A G H a c t (VaaclBase.readTimes rd n l) (ListAt rep) Q E) (hsp : ∀ (G H : Hp) (l : List Int) (Q' : VK), NAt A G H a c t l → OptP A G H a c t (rd l) rep Q' E → sp [.ref a] H Q' E)
    (hno : ∀ (na : Addr) (i c : Int), (nF na i c).lookup m = none) (hw : ∀ x, wipe ((wipe σ vs).set j (some x)) vs = wipe σ vs) (h0 : ∀ x, ((wipe σ vs).set j (some x))[0]? = some (some (.ref a))) : tLc (iRng1 ta) (gName j) tYes (tMeth A.CN m sp [] E (tVar 0) tNil) vs σ H Q := by
  have ro := rng_ok (n := n) (by omega)
  refine hta _ ⟨(n : Int), rfl, ro.1, ro.2, ?_⟩
  rw [Int.toNat_natCast]
  exact lc_take rm hn N k hsp hno hw h0
theorem toNat_cast {z : Int} (h : 0 ≤ z) : ((z.toNat : Nat) : Int) = z := by omega
abbrev spReadTest (A : Ad) : Sp := spRead A VaaclBase.readTest TestAt
theorem m_Numbers_test (T : Txt K mg A) : MetX P w K mg base 2 A.CN "test" (spReadTest A) :=
  metX_mk T.clN T.m_Numbers_test sc_Numbers_test bn_Numbers_test (fun vs H Q E h => by
    obtain ⟨_, _, _, _, _, rfl, _⟩ := h
    rfl) (fun f cdv A' outer s H vs Q E hr h => by
    refine ⟨_, (pss_cons (ps_set (i := 1) sc_Numbers_test.nd rfl (Or.inl rfl) (pe_mX (m_Numbers_take T) hr (by decide) (passes_call (takes_of rfl rfl rfl rfl) (fun _ _ _ _ q => q)) (pv 0) (pa_cons pe_int (pa_cons pe_int pa_nil))))
      (pss_cons (ps_set (i := 2) sc_Numbers_test.nd rfl (Or.inl rfl) (pe_mX (m_Numbers_take T) hr (by decide) (passes_call (takes_of rfl rfl rfl rfl) (fun _ _ _ _ q => q)) (pv 0) (pa_cons pe_int (pa_cons (pe_op op_sub (pe_fld (pv 0) rfl) pe_int) pa_nil))))
      (pss_cons (ps_if (pt_cmpR op_lt (pv 1) pe_int (nomark _)) (pss_one (ps_ret (pe_tup (pa_cons (pv 1) (pa_cons (pv 2) (pa_cons (pe_mX (m_Numbers_take T) hr (by decide) (passes_call (takes_of rfl rfl rfl rfl) (fun _ _ _ _ q => q)) (pv 0) (pa_cons (pe_un un_neg pe_int) (pa_cons pe_int pa_nil))) (pa_cons pe_int pa_nil))))))) pss_nil)
      (pss_cons (ps_if (pt_cmpR op_eq (pv 1) pe_int (nomark _)) (pss_cons (ps_set (i := 3) sc_Numbers_test.nd rfl (Or.inl rfl) (pe_mX (m_Numbers_take T) hr (by decide) (passes_call (takes_of rfl rfl rfl rfl) (fun _ _ _ _ q => q)) (pv 0) (pa_cons pe_int (pa_cons (pe_op op_sub (pe_fld (pv 0) rfl) pe_int) pa_nil))))
      (pss_one (ps_ret (pe_tup (pa_cons pe_int (pa_cons (pv 2) (pa_cons (pv 3) (pa_cons (pe_mX (m_Numbers_take T) hr (by decide) (passes_call (takes_of rfl rfl rfl rfl) (fun _ _ _ _ q => q)) (pv 0) (pa_cons (pe_un un_neg pe_int) (pa_cons pe_int pa_nil))) pa_nil)))))))) pss_nil)
      (pss_cons (ps_set (i := 4) sc_Numbers_test.nd rfl (Or.inl rfl) (pe_mX (m_Numbers_take T) hr (by decide) (passes_call (takes_of rfl rfl rfl rfl) (fun _ _ _ _ q => q)) (pv 0) (pa_cons pe_int (pa_cons pe_int pa_nil))))
      (pss_cons (ps_if (pt_cmpR op_eq (pv 4) pe_int (nomark _)) (pss_one (ps_raise rfl (takes_of rfl rfl rfl rfl) (pmk_own0 PySem.F.excBase_Exception T.xP T.gP T.kP (raises_own T.bP T.tP) (by rfl)))) pss_nil)
      (pss_one (ps_ret (pe_tup (pa_cons pe_int (pa_cons (pv 2) (pa_cons (pv 4) (pa_cons (pe_mX (m_Numbers_take T) hr (by decide) (passes_call (takes_of rfl rfl rfl rfl) (fun _ _ _ _ q => q)) (pv 0) (pa_cons pe_int (pa_cons (pe_op op_sub (pv 4) pe_int) pa_nil))) pa_nil))))))))))))), ?_⟩
    obtain ⟨G, a, c, t, l, rfl, N, hc1, hc4, k⟩ := h
    rw [readTest_is hc1] at k
    obtain ⟨dx, na, i, h1⟩ := N.ins
    refine ⟨_, rfl, a, dx, _, rfl, h1, no_take _ _ _, G, a, c, t, l, 0, 3, rfl, N, OptP.bind k fun x l1 G1 H1 v er e1 N1 hr1 k1 => ?_⟩
    subst hr1
    obtain ⟨dx1, na1, i1, h11⟩ := N1.ins
    have hx := readInt_in er
    refine ⟨_, rfl, a, dx1, _, rfl, h11, no_take _ _ _, _, rfl, a, A.CN, dx1, _, _, rfl, h11, T.clN, T.aN_counters, nF_c _ _ _, _, _, rfl, rfl, G1, a, c, t, l1, 0, _, rfl, N1, OptP.bind k1 fun y l2 G2 H2 v er2 e2 N2 hr2 k2 => ?_⟩
    subst hr2
    obtain ⟨dx2, na2, i2, h12⟩ := N2.ins
    have hy := readInt_in er2
    dsimp only at k2
    refine ⟨_, rfl, _, _, rfl, rfl, _, rfl, ifD (fun h0 => ?_) (fun h0 => ?_)⟩
    · rw [if_pos h0] at k2
      refine ⟨_, rfl, _, rfl, _, rfl, a, dx2, _, rfl, h12, no_take _ _ _, 999999, rfl, G2, a, c, t, l2, -999999, 999999, rfl, N2, OptP.bind k2 fun u l3 G3 H3 v er3 e3 N3 hr3 k3 => ?_⟩
      subst hr3
      refine ⟨by show 4 ≤ sizeLine; exact small (by decide), fun p hp => ?_⟩
      refine (OptP.mono k3 (Ext.new N3.same hp)).to (N3.new hp) ⟨p, rfl, ?_⟩
      rw [upd_same]
      obtain rfl | rfl : x = 0 ∨ x = 1 := by omega
      · show _ = some (HO.tup (tT (if (0 : Int) = 0 then Test.atMost y.toNat u else Test.atLeast y.toNat u)))
        rw [if_pos rfl]
        show _ = some (HO.tup [.int 0, .int ((y.toNat : Nat) : Int), .int u, .int 0])
        rw [toNat_cast (by omega)]
      · show _ = some (HO.tup (tT (if (1 : Int) = 0 then Test.atMost y.toNat u else Test.atLeast y.toNat u)))
        rw [if_neg (by decide)]
        show _ = some (HO.tup [.int 1, .int ((y.toNat : Nat) : Int), .int u, .int 0])
        rw [toNat_cast (by omega)]
    · rw [if_neg h0] at k2
      refine ⟨_, rfl, rfl, _, rfl, ifD (fun h2 => ?_) (fun h2 => ?_)⟩
      · have h2 : x = 2 := V.int.inj h2
        rw [if_pos h2] at k2
        refine ⟨_, rfl, a, dx2, _, rfl, h12, no_take _ _ _, _, rfl, a, A.CN, dx2, _, _, rfl, h12, T.clN, T.aN_counters, nF_c _ _ _, _, _, rfl, rfl, G2, a, c, t, l2, 0, _, rfl, N2, OptP.bind k2 fun z l3 G3 H3 v er3 e3 N3 hr3 k3 => ?_⟩
        subst hr3
        obtain ⟨dx3, na3, i3, h13⟩ := N3.ins
        have hz := readInt_in er3
        refine ⟨_, rfl, _, rfl, _, rfl, a, dx3, _, rfl, h13, no_take _ _ _, 999999, rfl, G3, a, c, t, l3, -999999, 999999, rfl, N3, OptP.bind k3 fun u l4 G4 H4 v er4 e4 N4 hr4 k4 => ?_⟩
        subst hr4
        refine ⟨by show 4 ≤ sizeLine; exact small (by decide), fun p hp => ?_⟩
        refine (OptP.mono k4 (Ext.new N4.same hp)).to (N4.new hp) ⟨p, rfl, ?_⟩
        rw [upd_same]
        show _ = some (HO.tup [.int 2, .int ((y.toNat : Nat) : Int), .int ((z.toNat : Nat) : Int), .int u])
        rw [toNat_cast hy.1, toNat_cast hz.1]
      · have h2 : x ≠ 2 := fun q => h2 (int_eq q)
        rw [if_neg h2] at k2
        refine ⟨_, rfl, a, dx2, _, rfl, h12, no_take _ _ _, G2, a, c, t, l2, 2, 6, rfl, N2, OptP.bind k2 fun m l3 G3 H3 v er3 e3 N3 hr3 k3 => ?_⟩
        subst hr3
        obtain ⟨dx3, na3, i3, h13⟩ := N3.ins
        have hm := readInt_in er3
        dsimp only at k3
        refine ⟨_, rfl, rfl, _, rfl, ifD (fun h5 => ?_) (fun h5 => ?_)⟩
        · rw [if_pos (V.int.inj h5)] at k3
          exact k3.no
        · rw [if_neg (fun q => h5 (int_eq q))] at k3
          refine ⟨_, rfl, _, rfl, _, rfl, a, dx3, _, rfl, h13, no_take _ _ _, _, rfl, _, _, rfl, rfl, G3, a, c, t, l3, 0, _, rfl, N3, OptP.bind k3 fun u l4 G4 H4 v er4 e4 N4 hr4 k4 => ?_⟩
          subst hr4
          have hu := readInt_in er4
          refine ⟨by show 4 ≤ sizeLine; exact small (by decide), fun p hp => ?_⟩
          refine (OptP.mono k4 (Ext.new N4.same hp)).to (N4.new hp) ⟨p, rfl, ?_⟩
          rw [upd_same]
          show _ = some (HO.tup [.int 3, .int ((y.toNat : Nat) : Int), .int ((m.toNat : Nat) : Int), .int ((u.toNat : Nat) : Int)])
          rw [toNat_cast hy.1, toNat_cast (by omega), toNat_cast hu.1])
abbrev spReadBranch (A : Ad) : Sp := spRead A VaaclBase.readBranch BranchAt
theorem m_Numbers_branch (T : Txt K mg A) : MetX P w K mg base 4 A.CN "branch" (spReadBranch A) :=
  metX_mk T.clN T.m_Numbers_branch sc_Numbers_branch bn_Numbers_branch (fun vs H Q E h => by
    obtain ⟨_, _, _, _, _, rfl, _⟩ := h
    rfl) (fun f cdv A' outer s H vs Q E hr h => by
    refine ⟨_, (pss_cons (ps_set (i := 1) sc_Numbers_branch.nd rfl (Or.inl rfl) (pe_mX (m_Numbers_take T) hr (by decide) (passes_call (takes_of rfl rfl rfl rfl) (fun _ _ _ _ q => q)) (pv 0) (pa_cons pe_int (pa_cons pe_int pa_nil))))
      (pss_cons (ps_setLcX (i := 2) (own := [("turn", 3)]) (g := gName 3) (E := E) rfl rfl (takes_of rfl rfl rfl rfl) (fun _ _ _ _ q => q) rfl sc_Numbers_branch.nd rfl rfl (sw_true rfl rfl rfl (by decide +kernel)) (pi_range1 (by rfl) T.b_range (pa_cons (pv 1) pa_nil)) (blkOk_by (own := [("turn", 3)]) (N := N_Numbers_branch) (sc := defScope s_Numbers_branch) (by decide +kernel)) (fun _ _ _ _ _ _ => pg_name (i := 3) sc_Numbers_branch.nd rfl (Or.inl rfl)) (fun _ _ _ _ _ _ hx => (pe_mX0 (m_Numbers_test T) hr (by decide) hx (pv 0))))
      (pss_one (ps_ret (pe_tup (pa_cons (pv 2) (pa_cons (pe_mX0 (m_Numbers_move T) hr (by decide) (passes_call (takes_of rfl rfl rfl rfl) (fun _ _ _ _ q => q)) (pv 0)) pa_nil))))))), ?_⟩
    obtain ⟨G, a, c, t, l, rfl, N, hc1, hc4, k⟩ := h
    rw [readBranch_is] at k
    obtain ⟨dx, na, i, h1⟩ := N.ins
    refine ⟨_, rfl, a, dx, _, rfl, h1, no_take _ _ _, G, a, c, t, l, 0, 3, rfl, N, OptP.bind k fun x l1 G1 H1 v er e1 N1 hr1 k1 => ?_⟩
    subst hr1
    have hx := readInt_in er
    dsimp only [gName, tSeq, tAsg]
    refine tlc_take (rd := VaaclBase.readTest c) TestAt.mono (n := x.toNat) (fun R hR => ⟨.int x, rfl, by rw [toNat_cast hx.1] at hR; exact hR⟩) (by omega) N1 (OptP.bind k1 fun g l2 G2 H2 v er2 e2 N2 hr2 k2 => ?_) (fun G H l Q' N' k' => ⟨G, a, c, t, l, rfl, N', hc1, hc4, k'⟩) no_test (fun _ => rfl) (fun _ => rfl)
    obtain ⟨dx2, na2, i2, h12⟩ := N2.ins
    refine ⟨_, rfl, _, rfl, a, dx2, _, rfl, h12, no_move _ _ _, G2, a, c, t, l2, rfl, N2, hc1, hc4, OptP.bind k2 fun m l3 G3 H3 v3 er3 e3 N3 hr3 k3 => ?_⟩
    refine ⟨by show 2 ≤ sizeLine; exact small (by decide), fun p hp => ?_⟩
    have s3 := Same.new (o := .tup [v, v3]) (N3.same.free hp)
    exact (OptP.mono k3 (Ext.new N3.same hp)).to (N3.new hp) ⟨p, v, v3, rfl, upd_same, GuardAt.mono (e3.sg.trans s3) _ _ hr2, MoveAt.mono s3 _ _ hr3⟩)
abbrev spReadPiece (A : Ad) : Sp := spRead A VaaclBase.readPiece PieceAt
theorem m_Numbers_piece (T : Txt K mg A) : MetX P w K mg base 5 A.CN "piece" (spReadPiece A) :=
  metX_mk T.clN T.m_Numbers_piece sc_Numbers_piece bn_Numbers_piece (fun vs H Q E h => by
    obtain ⟨_, _, _, _, _, rfl, _⟩ := h
    rfl) (fun f cdv A' outer s H vs Q E hr h => by
    refine ⟨_, (pss_cons (ps_if (pt_cmpR op_eq (pe_mX (m_Numbers_take T) hr (by decide) (passes_call (takes_of rfl rfl rfl rfl) (fun _ _ _ _ q => q)) (pv 0) (pa_cons pe_int (pa_cons pe_int pa_nil))) pe_int (nomark _)) (pss_one (ps_ret (pe_tup (pa_cons pe_int (pa_cons (pe_lst (pa_cons (pe_tup (pa_cons (pe_lst pa_nil) (pa_cons (pe_mX0 (m_Numbers_move T) hr (by decide) (passes_call (takes_of rfl rfl rfl rfl) (fun _ _ _ _ q => q)) (pv 0)) pa_nil))) pa_nil)) pa_nil))))) pss_nil)
      (pss_cons (ps_set (i := 1) sc_Numbers_piece.nd rfl (Or.inl rfl) (pe_mX (m_Numbers_take T) hr (by decide) (passes_call (takes_of rfl rfl rfl rfl) (fun _ _ _ _ q => q)) (pv 0) (pa_cons pe_int (pa_cons pe_int pa_nil))))
      (pss_one (ps_ret (pe_tup (pa_cons pe_int (pa_cons (pe_lcX (own := [("turn", 2)]) (g := gName 2) (E := E) rfl rfl (takes_of rfl rfl rfl rfl) (fun _ _ _ _ q => q) rfl sc_Numbers_piece.nd (pi_range1 (by rfl) T.b_range (pa_cons (pv 1) pa_nil)) (blkOk_by (own := [("turn", 2)]) (N := N_Numbers_piece) (sc := defScope s_Numbers_piece) (by decide +kernel)) (fun _ _ _ _ _ _ => pg_name (i := 2) sc_Numbers_piece.nd rfl (Or.inl rfl)) (fun _ _ _ _ _ _ hx => (pe_mX0 (m_Numbers_branch T) hr (by decide) hx (pv 0)))) pa_nil))))))), ?_⟩
    obtain ⟨G, a, c, t, l, rfl, N, hc1, hc4, k⟩ := h
    rw [readPiece_is] at k
    obtain ⟨dx, na, i, h1⟩ := N.ins
    refine ⟨_, rfl, a, dx, _, rfl, h1, no_take _ _ _, G, a, c, t, l, 0, 1, rfl, N, OptP.bind k fun x l1 G1 H1 v er e1 N1 hr1 k1 => ?_⟩
    subst hr1
    have hx := readInt_in er
    obtain ⟨dx1, na1, i1, h11⟩ := N1.ins
    dsimp only at k1
    refine ⟨rfl, _, rfl, ifD (fun h0 => ?_) (fun h0 => ?_)⟩
    · rw [if_pos (V.int.inj h0)] at k1
      refine ⟨by show 0 ≤ sizeLine; exact Nat.zero_le _, fun g hg => ?_⟩
      have N2 := N1.new (o := .lst []) hg
      have k2 := OptP.mono k1 (Ext.new (o := .lst []) N1.same hg)
      have hg2 : upd G1 g (.lst []) g = some (.lst []) := upd_same
      generalize upd G1 g (.lst []) = G2 at N2 k2 hg2
      generalize upd H1 g (.lst []) = H2 at N2 k2 ⊢
      obtain ⟨dx2, na2, i2, h12⟩ := N2.ins
      refine ⟨_, rfl, a, dx2, _, rfl, h12, no_move _ _ _, G2, a, c, t, l1, rfl, N2, hc1, hc4, OptP.bind k2 fun m l3 G3 H3 v3 er3 e3 N3 hr3 k3 => ?_⟩
      refine ⟨by show 2 ≤ sizeLine; exact small (by decide), fun p hp => ?_⟩
      have N4 := N3.new (o := .tup [.ref g, v3]) hp
      have k4 := OptP.mono k3 (Ext.new (o := .tup [.ref g, v3]) N3.same hp)
      have s4 := Same.new (o := .tup [.ref g, v3]) (N3.same.free hp)
      have hp4 : upd G3 p (.tup [.ref g, v3]) p = some (.tup [.ref g, v3]) := upd_same
      have hg4 := s4 _ _ (e3.sg _ _ hg2)
      have hr4 := MoveAt.mono s4 _ _ hr3
      generalize upd G3 p (.tup [.ref g, v3]) = G4 at N4 k4 s4 hp4 hg4 hr4
      generalize upd H3 p (.tup [.ref g, v3]) = H4 at N4 k4 ⊢
      refine ⟨by show 1 ≤ sizeLine; exact small (by decide), fun q hq => ?_⟩
      have N5 := N4.new (o := .lst [.ref p]) hq
      have k5 := OptP.mono k4 (Ext.new (o := .lst [.ref p]) N4.same hq)
      have s5 := Same.new (o := .lst [.ref p]) (N4.same.free hq)
      have hq5 : upd G4 q (.lst [.ref p]) q = some (.lst [.ref p]) := upd_same
      have hb5 : BranchAt (upd G4 q (.lst [.ref p])) (.ref p) ⟨[], m⟩ := ⟨p, .ref g, v3, rfl, s5 _ _ hp4, ⟨g, [], rfl, s5 _ _ hg4, .nil⟩, MoveAt.mono s5 _ _ hr4⟩
      generalize upd G4 q (.lst [.ref p]) = G5 at N5 k5 hq5 hb5
      generalize upd H4 q (.lst [.ref p]) = H5 at N5 k5 ⊢
      refine ⟨by show 2 ≤ sizeLine; exact small (by decide), fun u hu => ?_⟩
      have s6 := Same.new (o := .tup [.int 0, .ref q]) (N5.same.free hu)
      exact (OptP.mono k5 (Ext.new N5.same hu)).to (N5.new hu) ⟨u, .ref q, rfl, upd_same, q, [.ref p], rfl, s6 _ _ hq5, .cons (BranchAt.mono s6 _ _ hb5) .nil⟩
    · rw [if_neg (fun q => h0 (int_eq q))] at k1
      refine ⟨_, rfl, a, dx1, _, rfl, h11, no_take _ _ _, G1, a, c, t, l1, 1, 3, rfl, N1, OptP.bind k1 fun j l2 G2 H2 v er2 e2 N2 hr2 k2 => ?_⟩
      subst hr2
      have hj := readInt_in er2
      dsimp only [gName, tRet, tTup, tCons, tC]
      refine tlc_take (rd := VaaclBase.readBranch c) BranchAt.mono (n := j.toNat) (fun R hR => ⟨.int j, rfl, by rw [toNat_cast (by omega)] at hR; exact hR⟩) (by omega) N2 (OptP.bind k2 fun b l3 G3 H3 v er3 e3 N3 hr3 k3 => ?_) (fun G H l Q' N' k' => ⟨G, a, c, t, l, rfl, N', hc1, hc4, k'⟩) no_branch (fun _ => rfl) (fun _ => rfl)
      refine ⟨by show 2 ≤ sizeLine; exact small (by decide), fun p hp => ?_⟩
      have s3 := Same.new (o := .tup [.int 1, v]) (N3.same.free hp)
      exact (OptP.mono k3 (Ext.new N3.same hp)).to (N3.new hp) ⟨p, v, rfl, upd_same, BranchesAt.mono s3 _ _ hr3⟩)
def spPieceOf (A : Ad) : Sp := fun vs H Q E => ∃ (G : Hp) (na : Addr) (c : Nat) (ns : List Int), vs = [.ref na, .int (c : Int)] ∧ Same G H ∧ G na = some (.lst (iV ns)) ∧ ns.length ≤ 1000 ∧ 1 ≤ c ∧ c ≤ 4 ∧
  (match VaaclBase.whole (VaaclBase.readPiece c) ns with
    | some p => ∀ (G' H' : Hp) (v : V), Ext (fun _ => False) G H G' H' → Same G' H' → PieceAt G' v p → Q v H'
    | none => ∀ H' : Hp, Same H H' → E (.ref A.CP) none H')
theorem c_piece_of (T : Txt K mg A) : CalX P w K mg base 6 "piece_of" (spPieceOf A) :=
  calX_mk T.d_piece_of sc_piece_of bn_piece_of (fun vs H Q E h => by
    obtain ⟨_, _, _, _, rfl, _⟩ := h
    rfl) (fun f cdv A' outer s H vs Q E hr h => by
    refine ⟨_, (pss_cons (ps_set (i := 2) sc_piece_of.nd rfl (Or.inl rfl) (pe_mk (k_Numbers T) hr (by decide) (by rfl) (pa_cons (pv 0) (pa_cons (pv 1) pa_nil))))
      (pss_cons (ps_set (i := 3) sc_piece_of.nd rfl (Or.inl rfl) (pe_mX0 (m_Numbers_piece T) hr (by decide) (passes_call (takes_of rfl rfl rfl rfl) (fun _ _ _ _ q => q)) (pv 2)))
      (pss_cons (ps_if (pt_cmpR op_ne (pe_fld (pv 2) rfl) (pe_callB call_len_seq (by rfl) T.b_len PySem.boot_len (pa_cons (pv 0) pa_nil)) (nomark _)) (pss_one (ps_raise rfl (takes_of rfl rfl rfl rfl) (pmk_own0 PySem.F.excBase_Exception T.xP T.gP T.kP (raises_own T.bP T.tP) (by rfl)))) pss_nil)
      (pss_one (ps_ret (pv 3)))))), ?_⟩
    obtain ⟨G, na, c, ns, rfl, sg, hn, hz, hc1, hc4, k⟩ := h
    refine ⟨_, rfl, _, rfl, fun x dx nx ndx nex => ?_⟩
    have sH : Same H (upd (upd H dx (.own x)) x (.ins A.CN dx [])) := (Same.new ndx).trans (Same.new ((upd_ne nex.symm).trans nx))
    refine ⟨G, x, dx, na, c, ns, rfl, sg.trans sH, sg.free nx, upd_same, hn, hz, fun H1 N kp => ⟨rfl, ?_⟩⟩
    obtain ⟨dx1, na1, i1, h11⟩ := N.ins
    refine ⟨_, rfl, x, dx1, _, rfl, h11, no_piece _ _ _, G, x, c, ns.length, ns, rfl, N, hc1, hc4, ?_⟩
    unfold VaaclBase.whole at k
    have nxb : ∀ {b : Addr} {o : HO}, H b = some o → ¬ XA x b := fun {b o} e q => by
      have q : b = x := q
      rw [q, nx] at e
      cases e
    have toS : ∀ H2, Keep (XA x) H1 H2 → Same H H2 := fun H2 kp2 b o e => kp2 b o (nxb e) (kp b o (nxb e) (sH b o e))
    cases hrp : VaaclBase.readPiece c ns with
    | none =>
      rw [hrp] at k
      exact fun H2 kp2 => k H2 (toS H2 kp2)
    | some u =>
      obtain ⟨p, l'⟩ := u
      rw [hrp] at k
      intro G2 H2 v e2 N2 hr2
      obtain ⟨dx2, na2, i2, ns2, h12, h22, h32, h42, h52, h62⟩ := N2.at_
      have hnl : (iV ns).length = ns.length := by simp
      have hn2 := toS H2 e2.keep _ _ (sg _ _ hn)
      have ee : Ext (fun _ => False) G H G2 H2 := ⟨e2.sg, fun b o _ e => toS H2 e2.keep b o e, fun b o e => by
        rcases e2.fresh b o e with q | q
        · exact .inl q
        · right
          cases z : H b with
          | none => rfl
          | some o' =>
            rw [kp b o' (nxb z) (sH b o' z)] at q
            cases q⟩
      refine ⟨_, rfl, x, A.CN, dx2, _, _, rfl, h12, T.clN, T.aN_at, nF_a _ _ _, _, rfl, na, _, rfl, .inl (SqL.of hn2), rfl, _, rfl, ?_⟩
      cases l' with
      | nil =>
        have hi : i2 = ns.length := by
          have := congrArg List.length h32
          rw [List.length_drop, List.length_nil] at this
          omega
        refine ifNF (int_eq (by omega)) ?_
        exact ⟨_, rfl, k G2 H2 v ee N2.same hr2⟩
      | cons z r =>
        have hi : i2 ≠ ns.length := by
          have := congrArg List.length h32
          rw [List.length_drop, List.length_cons] at this
          omega
        refine ifNT (fun q => hi (by have := V.int.inj q; omega)) ?_
        exact k H2 (toS H2 e2.keep))
end CL

set_option Elab.async false
set_option linter.all false
set_option maxRecDepth 100000
set_option maxHeartbeats 4000000
namespace CL
open PySem PySem.Spec PyProof.Rows L2
open C8 (Cal Met Mak pe_c pe_mk pe_mt pe_mt0 pe_gc)
open VaaclBase (Values Test Guard Branch Loop Piece okTest)
variable {P : PySem.Program} {w : World} {K : PySem.W.Frag} {mg : Str → Option Value} {base : Heap} {A : Ad}
/-! ## The object, changed -/
def cOf : Option Prg → Nat
  | none => 0
  | some p => p.counters
def psOf : Option Prg → List Piece
  | none => []
  | some p => p.pieces
structure BoxG (A : Ad) (G H : Hp) (b : Addr) (s : Option Prg) : Prop where
  same : Same G H
  hole : G b = none
  at_ : ∃ dx pv, H b = some (.ins A.CB dx (bF ((cOf s : Nat) : Int) pv)) ∧ PiecesAt G pv (psOf s)
  ok : ∀ p, s = some p → OkProg p
theorem BoxG.inn {G H : Hp} {b : Addr} {p : Prg} (B : BoxG A G H b (some p)) : BoxIn A H b p := by
  obtain ⟨dx, pv, h1, h2⟩ := B.at_
  exact ⟨dx, pv, h1, PiecesAt.mono B.same _ _ h2, B.ok p rfl⟩
theorem BoxG.to {G H H' : Hp} {b : Addr} {s : Option Prg} (B : BoxG A G H b s) (e : Same H H') : BoxG A G H' b s := by
  obtain ⟨dx, pv, h1, h2⟩ := B.at_
  exact ⟨B.same.trans e, B.hole, ⟨dx, pv, e _ _ h1, h2⟩, B.ok⟩
theorem BoxG.new {G H : Hp} {b p : Addr} {s : Option Prg} {o : HO} (B : BoxG A G H b s) (hp : H p = none) : BoxG A (upd G p o) (upd H p o) b s := by
  obtain ⟨dx, pv, h1, h2⟩ := B.at_
  have hbp := ne_of_none h1 hp
  exact ⟨same_new B.same, (upd_ne hbp).trans B.hole, ⟨dx, pv, (upd_ne hbp).trans h1, PiecesAt.mono (Same.new (B.same.free hp)) _ _ h2⟩, B.ok⟩
/-- what a call answers, and makes of the object -/
def AnsPost (A : Ad) (G H : Hp) (b : Addr) (Q : VK) (s : Option Prg) (l : List Int) : Prop := ∀ (G' H' : Hp) (r : Addr), Ext (XA b) G H G' H' → BoxG A G' H' b s → H r = none → H' r = some (.lst (iV l)) → Q (.ref r) H'
theorem AnsPost.read {G H : Hp} {b : Addr} {Q : VK} {s : Option Prg} {l : List Int} (k : AnsPost A G H b Q s l) (B : BoxG A G H b s) : NewInts H Q l := fun H' p sh np hp =>
  k G H' p ⟨Same.refl G, Keep.of sh, fun _ _ h => .inl h⟩ (B.to sh) np hp
theorem Keep.free {X : Addr → Prop} {H H' : Hp} {r : Addr} (k : Keep X H H') (h : H' r = none) (hx : ¬ X r) : H r = none := by
  cases q : H r with
  | none => rfl
  | some o =>
    rw [k r o hx q] at h
    cases h
theorem not_at {H : Hp} {b r : Addr} {o : HO} (h : upd H b o r = none) : ¬ XA b r := fun q => by
  have q : r = b := q
  rw [q, upd_same] at h
  cases h
def spBoxInit (A : Ad) : Sp := fun vs H Q _ => ∃ (G : Hp) (b dx : Addr), vs = [.ref b] ∧ Same G H ∧ G b = none ∧ H b = some (.ins A.CB dx []) ∧ ∀ G' H' : Hp, Ext (XA b) G H G' H' → BoxG A G' H' b none → Q .non H'
theorem k_Box (T : Txt K mg A) : Mak P w K mg base 1 "Box" A.CB (spBoxInit A) [] :=
  mak_mk T.i_Box sc_Box_init bn_Box_init (fun vs H Q E h => by
    obtain ⟨_, _, _, rfl, _⟩ := h
    rfl) (fun f cdv A' outer s H vs Q E hr h => by
    refine ⟨_, (pss_cons (ps_fld (pv 0) pe_int rfl)
      (pss_one (ps_fld (pv 0) (pe_lst pa_nil) rfl))), ?_⟩
    obtain ⟨G, b, dx, rfl, sg, hb, hi, k⟩ := h
    refine ⟨_, rfl, b, A.CB, dx, [], rfl, hi, T.clB, T.aB_counters, (by show 0 < 1000; decide), ?_⟩
    refine ⟨by show 0 ≤ sizeLine; exact Nat.zero_le _, fun l hl => ?_⟩
    have hbl : b ≠ l := ne_of_none upd_same hl
    have hlH : H l = none := (upd_ne hbl.symm).symm.trans hl
    refine ⟨_, rfl, b, A.CB, dx, _, rfl, (upd_ne hbl).trans upd_same, T.clB, T.aB_pieces, (by show 1 < 1000; decide), ?_⟩
    have ef : putF "pieces" (.ref l) (putF "counters" (.int 0) []) = bF ((0 : Nat) : Int) (.ref l) := put_past (by decide +kernel)
    rw [ef]
    have e1 : Ext (XA b) G H G (upd H b (.ins A.CB dx (putF "counters" (.int 0) []))) := Ext.mut rfl
    have e2 := Ext.new (X := XA b) (o := .lst []) (Same.mut sg hb) hl
    have e3 : Ext (XA b) (upd G l (.lst [])) (upd (upd H b (.ins A.CB dx (putF "counters" (.int 0) []))) l (.lst [])) (upd G l (.lst [])) (upd (upd (upd H b (.ins A.CB dx (putF "counters" (.int 0) []))) l (.lst [])) b (.ins A.CB dx (bF ((0 : Nat) : Int) (.ref l)))) := Ext.mut rfl
    have hX : ∀ c, XA b c → upd G l (.lst []) c = none := fun c hc => by
      have hc : c = b := hc
      rw [hc, upd_ne hbl]
      exact hb
    refine k _ _ ((e1.trans e2 hX).trans e3 hX) ⟨Same.mut (same_new (Same.mut sg hb)) (hX b rfl), hX b rfl, ⟨dx, .ref l, upd_same, l, [], rfl, upd_same, .nil⟩, fun p q => by cases q⟩)
def addA (p : Prg) (l : List Int) : Option Prg × List Int := match VaaclBase.whole (VaaclBase.readPiece p.counters) l with
  | none => (some p, [-5])
  | some x => if 5 ≤ p.pieces.length then (some p, [-6]) else (some { p with pieces := p.pieces ++ [x] }, [VaaclBase.int p.pieces.length])
def spAddPiece (A : Ad) : Sp := fun vs H Q _ => ∃ (G : Hp) (b na : Addr) (p : Prg) (ns : List Int), vs = [.ref b, .ref na] ∧ BoxG A G H b (some p) ∧ G na = some (.lst (iV ns)) ∧ ns.length ≤ 1000 ∧ (∀ x, (addA p ns).1 = some x → OkProg x) ∧ AnsPost A G H b Q (addA p ns).1 (addA p ns).2
theorem c_add_piece (T : Txt K mg A) : Cal P w K mg base 7 "add_piece" (spAddPiece A) [] :=
  cal_mk T.d_add_piece sc_add_piece bn_add_piece (fun vs H Q E h => by
    obtain ⟨_, _, _, _, _, rfl, _⟩ := h
    rfl) (fun f cdv A' outer s H vs Q E hr h => by
    refine ⟨_, pss_cons (ps_try_only (tb := fun W => tAsg (tCallS (spPieceOf A) (WE W) (tCons (tVar 1) (tCons (tFld K (tVar 0) "counters") tNil))) (gName 2)) (ts := fun _ _ _ => tRet (tLst (tCons (tUn (rU fun i => .int (-i)) (tC (.int 5))) tNil))) (Wout := fun _ _ _ _ => False) rfl rfl ⟨rfl, by decide, Or.inl T.gP⟩ takes0
        (fun W pn xe tk _ => pss_one (ps_set (i := 2) sc_add_piece.nd rfl (Or.inl rfl) (by exact (pe_cS (c_piece_of T) hr (by decide) (fun σ => passAt tk σ) (by rfl) (by exact (pa_cons (pv 1) (pa_cons (pe_fld (pv 0) rfl) pa_nil)))))))
        (fun _ _ _ _ _ _ _ => pss_one (ps_ret (by exact (pe_lst (by exact (pa_cons (pe_un un_neg pe_int) pa_nil)))))))
      (pss_cons (ps_if (pt_cmpR op_ge (pe_callB call_len_seq (by rfl) T.b_len PySem.boot_len (pa_cons (pe_fld (pv 0) rfl) pa_nil)) (pe_gc (by rfl) T.c_MOST_HELD) (nomark _)) (pss_one (ps_ret (pe_lst (pa_cons (pe_un un_neg pe_int) pa_nil)))) pss_nil)
      (pss_cons (ps_fld (pv 0) (pe_op op_cat (pe_fld (pv 0) rfl) (pe_lst (pa_cons (pv 2) pa_nil))) rfl)
      (pss_one (ps_ret (pe_lst (pa_cons (pe_op op_sub (pe_callB call_len_seq (by rfl) T.b_len PySem.boot_len (pa_cons (pe_fld (pv 0) rfl) pa_nil)) pe_int) pa_nil)))))), ?_⟩
    obtain ⟨G, b, na, p, ns, rfl, B, hn, hz, okx, k⟩ := h
    obtain ⟨dx, pv, hb, hP⟩ := id B.at_
    have okp := B.ok p rfl
    have hb : H b = some (.ins A.CB dx (bF (p.counters : Int) pv)) := hb
    have hP : PiecesAt G pv p.pieces := hP
    refine ⟨_, rfl, _, rfl, b, A.CB, dx, _, _, rfl, hb, T.clB, T.aB_counters, bF_c _ _, ?_⟩
    refine ⟨G, na, p.counters, ns, rfl, B.same, hn, hz, okp.1, okp.2.1, ?_⟩
    unfold addA at k okx
    cases hw : VaaclBase.whole (VaaclBase.readPiece p.counters) ns with
    | none =>
      rw [hw] at k
      intro H1 s1
      refine ⟨true, T.eP, fun _ a0 _ => ?_, fun q => Bool.noConfusion q⟩
      refine ⟨_, rfl, by show 1 ≤ sizeLine; exact small (by decide), fun q hq => ?_⟩
      exact refuse (AnsPost.read (s := some p) (l := [-5]) (fun G' H' r e B' nr hr' => k G' H' r ⟨e.sg, (Keep.of s1).trans e.keep, fun c o h => by
        rcases e.fresh c o h with z | z
        · exact .inl z
        · right
          exact s1.free z⟩ B' (s1.free nr) hr') (B.to s1)) hq
    | some x =>
      rw [hw] at k okx
      dsimp only at k okx
      intro G1 H1 v e1 s1 hx
      have k1 : ∀ (G' H' : Hp) (r : Addr) , Ext (XA b) G1 H1 G' H' → (∀ c, XA b c → G' c = none) → Ext (XA b) G H G' H' := fun G' H' r e hX => by
        refine Ext.trans (G1 := G1) (H1 := H1) ⟨e1.sg, fun c o _ h => e1.keep c o (fun z => z) h, e1.fresh⟩ e hX
      have hb1 : H1 b = some (.ins A.CB dx (bF (p.counters : Int) pv)) := e1.keep b _ (fun z => z) hb
      have g1b : G1 b = none := by
        cases q : G1 b with
        | none => rfl
        | some o =>
          rcases e1.fresh b o q with z | z
          · rw [B.hole] at z
            cases z
          · rw [hb] at z
            cases z
      have B1 : BoxG A G1 H1 b (some p) := ⟨s1, g1b, ⟨dx, pv, hb1, PiecesAt.mono e1.sg _ _ hP⟩, B.ok⟩
      obtain ⟨pa, pvs, rfl, hpa, hpp⟩ := PiecesAt.mono e1.sg _ _ hP
      have hpl : pvs.length = p.pieces.length := hpp.length
      refine ⟨_, rfl, b, A.CB, dx, _, _, rfl, hb1, T.clB, T.aB_pieces, bF_p _ _, pa, _, rfl, .inl (SqL.of (s1 _ _ hpa)), _, _, rfl, rfl, _, rfl, ifD (fun h5 => ?_) (fun h5 => ?_)⟩
      · rw [if_pos (by omega)] at k
        refine ⟨_, rfl, by show 1 ≤ sizeLine; exact small (by decide), fun q hq => ?_⟩
        exact refuse (AnsPost.read (s := some p) (l := [-6]) (fun G' H' r e B' nr hr' => k G' H' r (k1 G' H' r e fun c hc => by
          have hc : c = b := hc
          rw [hc]
          exact B'.hole) B' (e1.keep.free nr fun q => q) hr') B1) hq
      · rw [if_neg (by omega)] at k okx
        have okx := okx _ rfl
        refine ⟨_, rfl, b, A.CB, dx, _, _, rfl, hb1, T.clB, T.aB_pieces, bF_p _ _, _, rfl, by show 1 ≤ sizeLine; exact small (by decide), fun t ht => ?_⟩
        have ht' : upd H1 t (.lst [v]) t = some (.lst [v]) := upd_same
        have hpt : pa ≠ t := ne_of_none (s1 _ _ hpa) ht
        have hbt : b ≠ t := ne_of_none hb1 ht
        refine ⟨pa, t, _, _, rfl, rfl, (upd_ne hpt).trans (s1 _ _ hpa), ht', by simp only [List.length_cons, List.length_nil]; exact small (by omega), fun u hu => ?_⟩
        have e2 := Ext.new (X := XA b) (o := .lst [v]) s1 ht
        have s2 := same_new (o := .lst [v]) (p := t) s1
        have e3 := Ext.new (X := XA b) (o := .lst (pvs ++ [v])) s2 hu
        have s3 := same_new (o := .lst (pvs ++ [v])) (p := u) s2
        have hbu : b ≠ u := ne_of_none ((upd_ne hbt).trans hb1) hu
        have g3b : upd (upd G1 t (.lst [v])) u (.lst (pvs ++ [v])) b = none := by
          rw [upd_ne hbu, upd_ne hbt]
          exact g1b
        have h3b : upd (upd H1 t (.lst [v])) u (.lst (pvs ++ [v])) b = some (.ins A.CB dx (bF (p.counters : Int) (.ref pa))) := by
          rw [upd_ne hbu, upd_ne hbt]
          exact hb1
        have s13 : Same G1 (upd (upd G1 t (.lst [v])) u (.lst (pvs ++ [v]))) := (Same.new (s1.free ht)).trans (Same.new (s2.free hu))
        have hu3 : upd (upd G1 t (.lst [v])) u (.lst (pvs ++ [v])) u = some (.lst (pvs ++ [v])) := upd_same
        generalize upd (upd G1 t (.lst [v])) u (.lst (pvs ++ [v])) = G3 at e3 s3 g3b s13 hu3
        generalize upd (upd H1 t (.lst [v])) u (.lst (pvs ++ [v])) = H3 at e3 s3 h3b ⊢
        have hX3 : ∀ c, XA b c → G3 c = none := fun c hc => by
          have hc : c = b := hc
          rw [hc]
          exact g3b
        refine ⟨_, rfl, b, A.CB, dx, _, rfl, h3b, T.clB, T.aB_pieces, (by show 2 < 1000; decide), ?_⟩
        have ef : putF "pieces" (.ref u) (bF (p.counters : Int) (.ref pa)) = bF (p.counters : Int) (.ref u) := (put_past (by decide +kernel)).trans (congrArg _ put_here)
        rw [ef]
        have e4 : Ext (XA b) G3 H3 G3 (upd H3 b (.ins A.CB dx (bF (p.counters : Int) (.ref u)))) := Ext.mut rfl
        have s4 := Same.mut (o := .ins A.CB dx (bF (p.counters : Int) (.ref u))) s3 g3b
        have B4 : BoxG A G3 (upd H3 b (.ins A.CB dx (bF (p.counters : Int) (.ref u)))) b (some { p with pieces := p.pieces ++ [x] }) :=
          ⟨s4, g3b, ⟨dx, .ref u, upd_same, u, _, rfl, hu3, pair_app (Paired.mapP hpp (PieceAt.mono s13)) (.cons (PieceAt.mono s13 _ _ hx) .nil)⟩, fun q hq => by cases hq; exact okx⟩
        refine ⟨_, rfl, b, A.CB, dx, _, _, rfl, upd_same, T.clB, T.aB_pieces, bF_p _ _, u, _, rfl, .inl (SqL.of (s4 _ _ hu3)), _, _, rfl, rfl, by show 1 ≤ sizeLine; exact small (by decide), fun r hr' => ?_⟩
        refine k _ _ r ?_ (B4.to (Same.new hr')) ((k1 _ _ r (Ext.trans (Ext.trans e2 e3 hX3) e4 hX3) hX3).keep.free hr' (not_at hr')) ?_
        · refine k1 _ _ r (Ext.trans (Ext.trans (Ext.trans e2 e3 hX3) e4 hX3) ⟨Same.refl _, Keep.of (Same.new hr'), fun _ _ h => .inl h⟩ hX3) hX3
        · rw [upd_same]
          have : (((pvs ++ [v]).length : Nat) : Int) - 1 = VaaclBase.int p.pieces.length := by
            rw [List.length_append, List.length_singleton, hpl]
            unfold VaaclBase.int
            omega
          show some (HO.lst [V.int ((((pvs ++ [v]).length : Nat) : Int) - 1)]) = _
          rw [this]
          rfl)
def dropA (p : Prg) (k : Int) : Option Prg × List Int := if k < 0 ∨ VaaclBase.int p.pieces.length ≤ k then (some p, [-2]) else (some { p with pieces := p.pieces.eraseIdx k.toNat }, [VaaclBase.int p.pieces.length - 1])
def spDropPiece (A : Ad) : Sp := fun vs H Q _ => ∃ (G : Hp) (b : Addr) (p : Prg) (at_ : Int), vs = [.ref b, .int at_] ∧ BoxG A G H b (some p) ∧ (∀ x, (dropA p at_).1 = some x → OkProg x) ∧ AnsPost A G H b Q (dropA p at_).1 (dropA p at_).2
theorem pair_take {α β : Type} {F : α → β → Prop} : ∀ {xs : List α} {ys : List β} (n : Nat), Paired F xs ys → Paired F (xs.take n) (ys.take n)
  | _, _, 0, _ => .nil
  | _, _, _ + 1, .nil => .nil
  | _, _, n + 1, .cons r t => .cons r (pair_take n t)
theorem pair_drop {α β : Type} {F : α → β → Prop} : ∀ {xs : List α} {ys : List β} (n : Nat), Paired F xs ys → Paired F (xs.drop n) (ys.drop n)
  | _, _, 0, r => r
  | _, _, _ + 1, .nil => .nil
  | _, _, n + 1, .cons _ t => pair_drop n t
theorem cut_to {xs : List V} {j : Nat} (h : j ≤ xs.length) : cutV xs none (some (j : Int)) = xs.take j := by
  unfold cutV
  rw [HT.sIx_none, HT.sIx_nat, Nat.min_eq_left h, List.drop_zero, Nat.sub_zero]
theorem cut_from {xs : List V} {j : Nat} (h : j ≤ xs.length) : cutV xs (some (j : Int)) none = xs.drop j := by
  unfold cutV
  rw [HT.sIx_none, HT.sIx_nat, Nat.min_eq_left h]
  exact List.take_of_length_le (by rw [List.length_drop]; omega)
theorem c_drop_piece (T : Txt K mg A) : Cal P w K mg base 1 "drop_piece" (spDropPiece A) [] :=
  cal_mk T.d_drop_piece sc_drop_piece bn_drop_piece (fun vs H Q E h => by
    obtain ⟨_, _, _, _, rfl, _⟩ := h
    rfl) (fun f cdv A' outer s H vs Q E hr h => by
    refine ⟨_, (pss_cons (ps_if (PW.pt (pw_or (pt_cmpR op_lt (pv 1) pe_int (nomark _)) (pw_or1 (pt_cmpR op_ge (pv 1) (pe_callB call_len_seq (by rfl) T.b_len PySem.boot_len (pa_cons (pe_fld (pv 0) rfl) pa_nil)) (nomark _))))) (pss_one (ps_ret (pe_lst (pa_cons (pe_un un_neg pe_int) pa_nil)))) pss_nil)
      (pss_cons (ps_fld (pv 0) (pe_op op_cat (pe_slice sl_list (pe_fld (pv 0) rfl) po_none (po_some (pv 1))) (pe_slice sl_list (pe_fld (pv 0) rfl) (po_some (pe_op op_add (pv 1) pe_int)) po_none)) rfl)
      (pss_one (ps_ret (pe_lst (pa_cons (pe_callB call_len_seq (by rfl) T.b_len PySem.boot_len (pa_cons (pe_fld (pv 0) rfl) pa_nil)) pa_nil)))))), ?_⟩
    obtain ⟨G, b, p, at_, rfl, B, okx, k⟩ := h
    obtain ⟨dx, pv, hb, hP⟩ := id B.at_
    have okp := B.ok p rfl
    have hb : H b = some (.ins A.CB dx (bF (p.counters : Int) pv)) := hb
    obtain ⟨pa, pvs, rfl, hpa, hpp⟩ : PiecesAt G pv p.pieces := hP
    have hpl : pvs.length = p.pieces.length := hpp.length
    have h5 := okp.2.2.1
    have hpaH := B.same _ _ hpa
    unfold dropA VaaclBase.int at k okx
    refine ⟨_, rfl, _, _, rfl, rfl, _, rfl, ifD (fun h0 => ?_) (fun h0 => ?_)⟩
    · rw [if_pos (.inl h0)] at k
      exact iteT ⟨_, rfl, by show 1 ≤ sizeLine; exact small (by decide), fun q hq => refuse (AnsPost.read k B) hq⟩
    refine ⟨_, rfl, _, rfl, b, _, dx, _, _, rfl, hb, T.clB, T.aB_pieces, bF_p _ _, pa, _, rfl, .inl (SqL.of hpaH), _, _, rfl, rfl, _, rfl, ifD (fun h1 => ?_) (fun h1 => ?_)⟩
    · rw [if_pos (.inr (by omega))] at k
      exact ⟨_, rfl, by show 1 ≤ sizeLine; exact small (by decide), fun q hq => refuse (AnsPost.read k B) hq⟩
    rw [if_neg (by omega)] at k okx
    have okx := okx _ rfl
    obtain ⟨j, rfl⟩ : ∃ j : Nat, at_ = (j : Int) := ⟨at_.toNat, by omega⟩
    rw [Int.toNat_natCast] at k okx
    have hj : j < pvs.length := by omega
    refine ⟨_, rfl, b, _, dx, _, _, rfl, hb, T.clB, T.aB_pieces, bF_p _ _, _, rfl, _, rfl, pa, _, rfl, SqL.of hpaH, fun t ht => ?_⟩
    rw [cut_to (by omega)]
    have hbt := ne_of_none hb ht
    have hpt := ne_of_none hpaH ht
    have s1 := same_new (o := .lst (pvs.take j)) (p := t) B.same
    have e1 := Ext.new (X := XA b) (o := .lst (pvs.take j)) B.same ht
    have hb1 : upd H t (.lst (pvs.take j)) b = some (.ins A.CB dx (bF (p.counters : Int) (.ref pa))) := (upd_ne hbt).trans hb
    have hpa1 : upd H t (.lst (pvs.take j)) pa = some (.lst pvs) := (upd_ne hpt).trans hpaH
    refine ⟨_, rfl, b, _, dx, _, _, rfl, hb1, T.clB, T.aB_pieces, bF_p _ _, _, rfl, _, _, rfl, rfl, _, rfl, pa, _, rfl, SqL.of hpa1, fun u hu => ?_⟩
    have ej : ((j : Int) + 1) = ((j + 1 : Nat) : Int) := by omega
    rw [ej, cut_from (by omega)]
    have hbu := ne_of_none hb1 hu
    have htu : t ≠ u := ne_of_none upd_same hu
    have s2 := same_new (o := .lst (pvs.drop (j + 1))) (p := u) s1
    have e2 := Ext.new (X := XA b) (o := .lst (pvs.drop (j + 1))) s1 hu
    refine ⟨t, u, _, _, rfl, rfl, (upd_ne htu).trans upd_same, upd_same, by rw [List.length_take, List.length_drop]; exact small (by omega), fun q hq => ?_⟩
    have hbq : b ≠ q := ne_of_none ((upd_ne hbu).trans hb1) hq
    have s3 := same_new (o := .lst (pvs.take j ++ pvs.drop (j + 1))) (p := q) s2
    have e3 := Ext.new (X := XA b) (o := .lst (pvs.take j ++ pvs.drop (j + 1))) s2 hq
    have g3b : upd (upd (upd G t (.lst (pvs.take j))) u (.lst (pvs.drop (j + 1)))) q (.lst (pvs.take j ++ pvs.drop (j + 1))) b = none := by
      rw [upd_ne hbq, upd_ne hbu, upd_ne hbt]
      exact B.hole
    have h3b : upd (upd (upd H t (.lst (pvs.take j))) u (.lst (pvs.drop (j + 1)))) q (.lst (pvs.take j ++ pvs.drop (j + 1))) b = some (.ins A.CB dx (bF (p.counters : Int) (.ref pa))) := by
      rw [upd_ne hbq, upd_ne hbu, upd_ne hbt]
      exact hb
    have s03 : Same G (upd (upd (upd G t (.lst (pvs.take j))) u (.lst (pvs.drop (j + 1)))) q (.lst (pvs.take j ++ pvs.drop (j + 1)))) := ((Same.new (B.same.free ht)).trans (Same.new (s1.free hu))).trans (Same.new (s2.free hq))
    have hq3 : upd (upd (upd G t (.lst (pvs.take j))) u (.lst (pvs.drop (j + 1)))) q (.lst (pvs.take j ++ pvs.drop (j + 1))) q = some (.lst (pvs.take j ++ pvs.drop (j + 1))) := upd_same
    generalize upd (upd (upd G t (.lst (pvs.take j))) u (.lst (pvs.drop (j + 1)))) q (.lst (pvs.take j ++ pvs.drop (j + 1))) = G3 at e3 s3 g3b s03 hq3
    generalize upd (upd (upd H t (.lst (pvs.take j))) u (.lst (pvs.drop (j + 1)))) q (.lst (pvs.take j ++ pvs.drop (j + 1))) = H3 at e3 s3 h3b ⊢
    have hX3 : ∀ c, XA b c → G3 c = none := fun c hc => by
      have hc : c = b := hc
      rw [hc]
      exact g3b
    refine ⟨_, rfl, b, A.CB, dx, _, rfl, h3b, T.clB, T.aB_pieces, (by show 2 < 1000; decide), ?_⟩
    have ef : putF "pieces" (.ref q) (bF (p.counters : Int) (.ref pa)) = bF (p.counters : Int) (.ref q) := (put_past (by decide +kernel)).trans (congrArg _ put_here)
    rw [ef]
    have e4 : Ext (XA b) G3 H3 G3 (upd H3 b (.ins A.CB dx (bF (p.counters : Int) (.ref q)))) := Ext.mut rfl
    have s4 := Same.mut (o := .ins A.CB dx (bF (p.counters : Int) (.ref q))) s3 g3b
    have B4 : BoxG A G3 (upd H3 b (.ins A.CB dx (bF (p.counters : Int) (.ref q)))) b (some { p with pieces := p.pieces.eraseIdx j }) :=
      ⟨s4, g3b, ⟨dx, .ref q, upd_same, q, _, rfl, hq3, by
        show Paired (PieceAt G3) _ (p.pieces.eraseIdx j)
        rw [List.eraseIdx_eq_take_drop_succ]
        exact pair_app (pair_take j (Paired.mapP hpp (PieceAt.mono s03))) (pair_drop (j + 1) (Paired.mapP hpp (PieceAt.mono s03)))⟩, fun q hq => by cases hq; exact okx⟩
    refine ⟨_, rfl, b, A.CB, dx, _, _, rfl, upd_same, T.clB, T.aB_pieces, bF_p _ _, q, _, rfl, .inl (SqL.of (s4 _ _ hq3)), by show 1 ≤ sizeLine; exact small (by decide), fun r hr' => ?_⟩
    have hXb : ∀ c, XA b c → upd (upd G t (.lst (pvs.take j))) u (.lst (pvs.drop (j + 1))) c = none := by
      intro c hc
      have hc : c = b := hc
      rw [hc, upd_ne hbu, upd_ne hbt]
      exact B.hole
    have eT := Ext.trans (Ext.trans (Ext.trans e1 e2 hXb) e3 hX3) e4 hX3
    refine k _ _ r (Ext.trans eT ⟨Same.refl _, Keep.of (Same.new hr'), fun _ _ h => .inl h⟩ hX3) (B4.to (Same.new hr')) (eT.keep.free hr' (not_at hr')) ?_
    · rw [upd_same]
      have : (((pvs.take j ++ pvs.drop (j + 1)).length : Nat) : Int) = ((p.pieces.length : Nat) : Int) - 1 := by
        rw [List.length_append, List.length_take, List.length_drop]
        omega
      rw [this]
      rfl)
end CL

set_option Elab.async false
set_option linter.all false
set_option maxRecDepth 100000
set_option maxHeartbeats 4000000
namespace CL
open PySem PySem.Spec PyProof.Rows L2
open C8 (Cal Met Mak pe_c pe_mk pe_mt pe_mt0 pe_gc)
open VaaclBase (Values Test Guard Branch Loop Piece okTest)
open Vaacla (isLetter isDigit isBlank SIGNS numberOf)
variable {P : PySem.Program} {w : World} {K : PySem.W.Frag} {mg : Str → Option Value} {base : Heap} {A : Ad}
/-! ## tokens.py: bytes -/
abbrev tV (t : List Nat) : List V := t.map fun (n : Nat) => V.int (n : Int)
theorem tvAt {t : List Nat} {i b : Nat} (h : t[i]? = some b) : (tV t)[i]? = some (.int (b : Int)) := by
  rw [List.getElem?_map, h]
  rfl
theorem atS {α : Type} {xs : List α} {s i : Nat} {v : α} (h : xs[s + i]? = some v) : atI xs ((s : Int) + (i : Int)) = some v := by
  rw [show (s : Int) + (i : Int) = ((s + i : Nat) : Int) by omega]
  exact atI_nat h
theorem tvLen (t : List Nat) : (tV t).length = t.length := by simp
def spByteB (f : Nat → Bool) : Sp := fun vs H Q _ => ∃ b : Nat, vs = [.int (b : Int)] ∧ Q (.bl (f b)) H
theorem c_is_blank (T : Txt K mg A) : Cal P w K mg base 1 "is_blank" (spByteB isBlank) [] :=
  cal_mk T.d_is_blank sc_is_blank bn_is_blank (fun vs H Q E h => by
    obtain ⟨_, rfl, _⟩ := h
    rfl) (fun f cdv A' outer s H vs Q E hr h => by
    refine ⟨_, (pss_one (ps_ret (pe_or (pe_cmpR op_eq (pv 0) pe_int (nomark _)) (pe_one (pe_cmpR op_eq (pv 0) pe_int (nomark _)))))), ?_⟩
    obtain ⟨b, rfl, k⟩ := h
    unfold isBlank at k
    refine ⟨_, rfl, rfl, _, rfl, ifD (fun h => ?_) (fun h => ?_)⟩
    · have h : b = 32 := by have := V.int.inj h; omega
      subst h
      exact k
    · have h : b ≠ 32 := fun q => h (int_eq (by omega))
      have e : (b == 32) = false := by simp [h]
      rw [e, Bool.false_or] at k
      refine ⟨_, rfl, rfl, ?_⟩
      have e2 : decide (V.int (b : Int) = V.int 10) = (b == 10) := by
        rw [Bool.eq_iff_iff]
        simp
        omega
      rw [e2]
      exact k)
theorem c_is_letter (T : Txt K mg A) : Cal P w K mg base 1 "is_letter" (spByteB isLetter) [] :=
  cal_mk T.d_is_letter sc_is_letter bn_is_letter (fun vs H Q E h => by
    obtain ⟨_, rfl, _⟩ := h
    rfl) (fun f cdv A' outer s H vs Q E hr h => by
    refine ⟨_, (pss_one (ps_ret (pe_chain op_le op_le pe_int (pv 0) pe_int))), ?_⟩
    obtain ⟨b, rfl, k⟩ := h
    unfold isLetter at k
    refine ⟨_, rfl, _, _, rfl, rfl, _, rfl, ifD (fun h => ?_) (fun h => ?_)⟩
    · refine ⟨_, _, rfl, rfl, ?_⟩
      have e : decide ((b : Int) ≤ 122) = (decide (97 ≤ b) && decide (b ≤ 122)) := by
        rw [Bool.eq_iff_iff]
        simp
        omega
      show Q (.bl (decide ((b : Int) ≤ 122))) _
      rw [e]
      exact k
    · have e : decide (97 ≤ b) = false := by simp; omega
      rw [e, Bool.false_and] at k
      exact k)
theorem c_is_digit (T : Txt K mg A) : Cal P w K mg base 1 "is_digit" (spByteB isDigit) [] :=
  cal_mk T.d_is_digit sc_is_digit bn_is_digit (fun vs H Q E h => by
    obtain ⟨_, rfl, _⟩ := h
    rfl) (fun f cdv A' outer s H vs Q E hr h => by
    refine ⟨_, (pss_one (ps_ret (pe_chain op_le op_le pe_int (pv 0) pe_int))), ?_⟩
    obtain ⟨b, rfl, k⟩ := h
    unfold isDigit at k
    refine ⟨_, rfl, _, _, rfl, rfl, _, rfl, ifD (fun h => ?_) (fun h => ?_)⟩
    · refine ⟨_, _, rfl, rfl, ?_⟩
      have e : decide ((b : Int) ≤ 57) = (decide (48 ≤ b) && decide (b ≤ 57)) := by
        rw [Bool.eq_iff_iff]
        simp
        omega
      show Q (.bl (decide ((b : Int) ≤ 57))) _
      rw [e]
      exact k
    · have e : decide (48 ≤ b) = false := by simp; omega
      rw [e, Bool.false_and] at k
      exact k)
theorem signs_is : SIGNS = [44, 59, 123, 125] := by decide +kernel
def spSignOf : Sp := fun vs H Q _ => ∃ b : Nat, vs = [.int (b : Int)] ∧ TxtPost H Q (if SIGNS.contains b = true then [b] else [])
theorem c_sign_of (T : Txt K mg A) : Cal P w K mg base 1 "sign_of" spSignOf [] :=
  cal_mk T.d_sign_of sc_sign_of bn_sign_of (fun vs H Q E h => by
    obtain ⟨_, rfl, _⟩ := h
    rfl) (fun f cdv A' outer s H vs Q E hr h => by
    refine ⟨_, (pss_cons (ps_if (pt_cmpR op_eq (pv 0) pe_int (nomark _)) (pss_one (ps_ret pe_str)) pss_nil)
      (pss_cons (ps_if (pt_cmpR op_eq (pv 0) pe_int (nomark _)) (pss_one (ps_ret pe_str)) pss_nil)
      (pss_cons (ps_if (pt_cmpR op_eq (pv 0) pe_int (nomark _)) (pss_one (ps_ret pe_str)) pss_nil)
      (pss_cons (ps_if (pt_cmpR op_eq (pv 0) pe_int (nomark _)) (pss_one (ps_ret pe_str)) pss_nil)
      (pss_one (ps_ret pe_str)))))), ?_⟩
    obtain ⟨b, rfl, k⟩ := h
    rw [signs_is] at k
    refine ⟨_, rfl, rfl, _, rfl, ifD (fun h => ?_) (fun h1 => ?_)⟩
    · obtain rfl : b = 44 := by have := V.int.inj h; omega
      exact k _ (by decide +kernel)
    have h1 : b ≠ 44 := fun q => h1 (int_eq (by omega))
    refine ⟨_, rfl, rfl, _, rfl, ifD (fun h => ?_) (fun h2 => ?_)⟩
    · obtain rfl : b = 59 := by have := V.int.inj h; omega
      exact k _ (by decide +kernel)
    have h2 : b ≠ 59 := fun q => h2 (int_eq (by omega))
    refine ⟨_, rfl, rfl, _, rfl, ifD (fun h => ?_) (fun h3 => ?_)⟩
    · obtain rfl : b = 123 := by have := V.int.inj h; omega
      exact k _ (by decide +kernel)
    have h3 : b ≠ 123 := fun q => h3 (int_eq (by omega))
    refine ⟨_, rfl, rfl, _, rfl, ifD (fun h => ?_) (fun h4 => ?_)⟩
    · obtain rfl : b = 125 := by have := V.int.inj h; omega
      exact k _ (by decide +kernel)
    have h4 : b ≠ 125 := fun q => h4 (int_eq (by omega))
    refine k _ ?_
    have e : ([44, 59, 123, 125] : List Nat).contains b = false := by simp [h1, h2, h3, h4]
    rw [e]
    rfl)
/-- how many in front are so -/
abbrev runs (p : Nat → Bool) (l : List Nat) : Nat := (l.takeWhile p).length
theorem runs_le (p : Nat → Bool) (l : List Nat) : runs p l ≤ l.length := (List.takeWhile_prefix p).length_le
theorem runs_take (p : Nat → Bool) : ∀ l : List Nat, l.take (runs p l) = l.takeWhile p
  | [] => rfl
  | b :: r => by
    unfold runs
    rw [List.takeWhile_cons]
    cases p b with
    | true =>
      rw [if_pos rfl, List.length_cons, List.take_succ_cons]
      exact congrArg _ (runs_take p r)
    | false => rfl
theorem all_take (p : Nat → Bool) : ∀ l : List Nat, ∀ x ∈ l.takeWhile p, p x = true
  | [], x, h => by simp at h
  | b :: r, x, h => by
    rw [List.takeWhile_cons] at h
    cases e : p b with
    | true =>
      rw [e, if_pos rfl] at h
      rcases List.mem_cons.mp h with q | q
      · rw [q]
        exact e
      · exact all_take p r x q
    | false =>
      rw [e, if_neg Bool.false_ne_true] at h
      simp at h
def spEnd (p : Nat → Bool) : Sp := fun vs H Q _ => ∃ (a : Addr) (t : List Nat) (i : Nat), vs = [.ref a, .int (i : Int)] ∧ H a = some (.lst (tV t)) ∧ t.length ≤ 1048576 ∧ i ≤ t.length ∧ Q (.int ((i + runs p (t.drop i) : Nat) : Int)) H
theorem c_letters_end (T : Txt K mg A) : Cal P w K mg base 2 "letters_end" (spEnd isLetter) [] :=
  cal_mk T.d_letters_end sc_letters_end bn_letters_end (fun vs H Q E h => by
    obtain ⟨_, _, _, rfl, _⟩ := h
    rfl) (fun f cdv A' outer s H vs Q E hr h => by
    refine ⟨_, (pss_cons (ps_for PassesOwn.never rfl (pi_range2 (by rfl) T.b_range (pa_cons (pv 1) (pa_cons (pe_callB call_len_seq (by rfl) T.b_len PySem.boot_len (pa_cons (pv 0) pa_nil)) pa_nil))) (pg_name (i := 2) sc_letters_end.nd rfl (Or.inl rfl)) (pss_one (ps_if (pt_not (pt_val (pe_c (c_is_letter T) hr (by decide) (by rfl) (pa_cons (pe_ix ix_list (pv 0) (pv 2) (fun _ _ => rfl)) pa_nil)))) (pss_one (ps_ret (pv 2))) pss_nil)))
      (pss_one (ps_ret (pe_callB call_len_seq (by rfl) T.b_len PySem.boot_len (pa_cons (pv 0) pa_nil))))), ?_⟩
    obtain ⟨a, t, i, rfl, ha, hz, hi, k⟩ := h
    have ro := rng_ok (n := (tV t).length) (by rw [tvLen]; exact hz)
    have ro2 := rng_ok (n := i) (by omega)
    refine ⟨_, rfl, _, rfl, a, _, rfl, .inl (SqL.of ha), _, _, rfl, ⟨ro2.1, ro2.2, ro.1, ro.2⟩, for_range (fun j σ H' => H' = H ∧ (∃ v, σ = [some (.ref a), some (.int (i : Int)), v]) ∧ runs isLetter (t.drop i) = j + runs isLetter (t.drop (i + j)))
      ⟨rfl, ⟨_, rfl⟩, by rw [Nat.zero_add, Nat.add_zero]⟩ ?_ ?_⟩
    · rintro j σ H' hj ⟨rfl, ⟨v, rfl⟩, e⟩
      have hj' : i + j < t.length := by rw [tvLen] at hj; omega
      obtain ⟨b, hb⟩ := get_lt hj'
      rw [drop_at hb] at e
      have e2 : runs isLetter (b :: t.drop (i + j + 1)) = if isLetter b = true then runs isLetter (t.drop (i + j + 1)) + 1 else 0 := by
        unfold runs
        rw [List.takeWhile_cons]
        cases isLetter b <;> rfl
      rw [e2] at e
      refine ⟨_, rfl, _, rfl, a, _, _, _, rfl, rfl, SqL.of ha, atS (tvAt hb), b, rfl, ?_⟩
      refine ⟨_, rfl, ?_⟩
      cases hl : isLetter b with
      | true =>
        rw [hl, if_pos rfl] at e
        exact ⟨rfl, ⟨_, rfl⟩, by rw [e, Nat.add_assoc i j 1]; omega⟩
      | false =>
        rw [hl, if_neg Bool.false_ne_true] at e
        rw [e] at k
        refine ⟨_, rfl, ?_⟩
        rw [show (i : Int) + (j : Int) = ((i + (j + 0) : Nat) : Int) by omega]
        exact k
    · rintro σ H' ⟨rfl, ⟨v, rfl⟩, e⟩
      refine ⟨_, rfl, a, _, rfl, .inl (SqL.of ha), ?_⟩
      have hn : i + ((((tV t).length : Nat) : Int) - (i : Int)).toNat = t.length := by rw [tvLen]; omega
      rw [hn, List.drop_length] at e
      have e : runs isLetter (t.drop i) = ((((tV t).length : Nat) : Int) - (i : Int)).toNat + 0 := e
      rw [e, Nat.add_zero, hn] at k
      rw [tvLen]
      exact k)
theorem c_digits_end (T : Txt K mg A) : Cal P w K mg base 2 "digits_end" (spEnd isDigit) [] :=
  cal_mk T.d_digits_end sc_digits_end bn_digits_end (fun vs H Q E h => by
    obtain ⟨_, _, _, rfl, _⟩ := h
    rfl) (fun f cdv A' outer s H vs Q E hr h => by
    refine ⟨_, (pss_cons (ps_for PassesOwn.never rfl (pi_range2 (by rfl) T.b_range (pa_cons (pv 1) (pa_cons (pe_callB call_len_seq (by rfl) T.b_len PySem.boot_len (pa_cons (pv 0) pa_nil)) pa_nil))) (pg_name (i := 2) sc_digits_end.nd rfl (Or.inl rfl)) (pss_one (ps_if (pt_not (pt_val (pe_c (c_is_digit T) hr (by decide) (by rfl) (pa_cons (pe_ix ix_list (pv 0) (pv 2) (fun _ _ => rfl)) pa_nil)))) (pss_one (ps_ret (pv 2))) pss_nil)))
      (pss_one (ps_ret (pe_callB call_len_seq (by rfl) T.b_len PySem.boot_len (pa_cons (pv 0) pa_nil))))), ?_⟩
    obtain ⟨a, t, i, rfl, ha, hz, hi, k⟩ := h
    have ro := rng_ok (n := (tV t).length) (by rw [tvLen]; exact hz)
    have ro2 := rng_ok (n := i) (by omega)
    refine ⟨_, rfl, _, rfl, a, _, rfl, .inl (SqL.of ha), _, _, rfl, ⟨ro2.1, ro2.2, ro.1, ro.2⟩, for_range (fun j σ H' => H' = H ∧ (∃ v, σ = [some (.ref a), some (.int (i : Int)), v]) ∧ runs isDigit (t.drop i) = j + runs isDigit (t.drop (i + j)))
      ⟨rfl, ⟨_, rfl⟩, by rw [Nat.zero_add, Nat.add_zero]⟩ ?_ ?_⟩
    · rintro j σ H' hj ⟨rfl, ⟨v, rfl⟩, e⟩
      have hj' : i + j < t.length := by rw [tvLen] at hj; omega
      obtain ⟨b, hb⟩ := get_lt hj'
      rw [drop_at hb] at e
      have e2 : runs isDigit (b :: t.drop (i + j + 1)) = if isDigit b = true then runs isDigit (t.drop (i + j + 1)) + 1 else 0 := by
        unfold runs
        rw [List.takeWhile_cons]
        cases isDigit b <;> rfl
      rw [e2] at e
      refine ⟨_, rfl, _, rfl, a, _, _, _, rfl, rfl, SqL.of ha, atS (tvAt hb), b, rfl, ?_⟩
      refine ⟨_, rfl, ?_⟩
      cases hl : isDigit b with
      | true =>
        rw [hl, if_pos rfl] at e
        exact ⟨rfl, ⟨_, rfl⟩, by rw [e, Nat.add_assoc i j 1]; omega⟩
      | false =>
        rw [hl, if_neg Bool.false_ne_true] at e
        rw [e] at k
        refine ⟨_, rfl, ?_⟩
        rw [show (i : Int) + (j : Int) = ((i + (j + 0) : Nat) : Int) by omega]
        exact k
    · rintro σ H' ⟨rfl, ⟨v, rfl⟩, e⟩
      refine ⟨_, rfl, a, _, rfl, .inl (SqL.of ha), ?_⟩
      have hn : i + ((((tV t).length : Nat) : Int) - (i : Int)).toNat = t.length := by rw [tvLen]; omega
      rw [hn, List.drop_length] at e
      have e : runs isDigit (t.drop i) = ((((tV t).length : Nat) : Int) - (i : Int)).toNat + 0 := e
      rw [e, Nat.add_zero, hn] at k
      rw [tvLen]
      exact k)
/-- a cut of the text, each byte so -/
def spCut (p : Nat → Bool) (n : Nat) (R : List Nat → VK → Hp → Prop) : Sp := fun vs H Q _ => ∃ (a : Addr) (t : List Nat) (i j : Nat), vs = [.ref a, .int (i : Int), .int ((i + j : Nat) : Int)] ∧ H a = some (.lst (tV t)) ∧ t.length ≤ 1048576 ∧ j ≤ n ∧ i + j ≤ t.length ∧ (∀ x ∈ (t.drop i).take j, p x = true) ∧ R ((t.drop i).take j) Q H
theorem cut_at {t : List Nat} {i j m : Nat} {b : Nat} (h : t[i + m]? = some b) (hm : m < j) : ((t.drop i).take j)[m]? = some b := by
  rw [List.getElem?_take_of_lt hm, List.getElem?_drop]
  exact h
theorem letters_is : cps ("abcdefghijklmnopqrstuvwxyz" : Str) = (List.range 26).map (97 + ·) := by decide +kernel
theorem c_word_between (T : Txt K mg A) : Cal P w K mg base 1 "word_between" (spCut isLetter 8 fun l Q H => TxtPost H Q l) [] :=
  cal_mk T.d_word_between sc_word_between bn_word_between (fun vs H Q E h => by
    obtain ⟨_, _, _, _, rfl, _⟩ := h
    rfl) (fun f cdv A' outer s H vs Q E hr h => by
    refine ⟨_, (pss_cons (ps_set (i := 3) sc_word_between.nd rfl (Or.inl rfl) pe_str)
      (pss_cons (ps_for PassesOwn.never rfl (pi_range2 (by rfl) T.b_range (pa_cons (pv 1) (pa_cons (pv 2) pa_nil))) (pg_name (i := 4) sc_word_between.nd rfl (Or.inl rfl)) (pss_one (ps_set (i := 3) sc_word_between.nd rfl (Or.inl rfl) (pe_op op_add_str (pv 3) (pe_ix ix_str (pe_gc (by rfl) T.c_LETTERS) (pe_op op_sub (pe_ix ix_list (pv 0) (pv 4) (fun _ _ => rfl)) pe_int) (fun _ _ => rfl))))))
      (pss_one (ps_ret (pv 3))))), ?_⟩
    obtain ⟨a, t, i, j, rfl, ha, hz, hj, hij, hp, k⟩ := h
    have ro := rng_ok (n := i) (by omega)
    have ro2 := rng_ok (n := i + j) (by omega)
    refine ⟨_, rfl, _, rfl, _, _, rfl, ⟨ro.1, ro.2, ro2.1, ro2.2⟩, for_range (fun m σ H' => H' = H ∧ ∃ (z : Str) (v : Option V), σ = [some (.ref a), some (.int (i : Int)), some (.int ((i + j : Nat) : Int)), some (.str z), v] ∧ cps z = (t.drop i).take m)
      ⟨rfl, _, _, rfl, rfl⟩ ?_ ?_⟩
    · rintro m σ H' hm ⟨rfl, z, v, rfl, e⟩
      have hm : m < j := by omega
      obtain ⟨b, hb⟩ := get_lt (l := t) (i := i + m) (by omega)
      have hbl := hp b (mem_at (cut_at hb hm))
      unfold isLetter at hbl
      have h1 : 97 ≤ b ∧ b ≤ 122 := by simpa using hbl
      have hc : atI (cps ("abcdefghijklmnopqrstuvwxyz" : Str)) ((b : Int) - 97) = some b := by
        rw [letters_is, show (b : Int) - 97 = ((b - 97 : Nat) : Int) by omega]
        refine atI_nat ?_
        rw [List.getElem?_map, List.getElem?_range (by omega)]
        show some (97 + (b - 97)) = some b
        rw [show 97 + (b - 97) = b by omega]
      refine ⟨_, rfl, _, rfl, _, rfl, a, _, _, _, rfl, rfl, SqL.of ha, atS (tvAt hb), _, _, rfl, rfl, _, _, _, rfl, rfl, slen (by rw [letters_is]; simp), hc, _, _, rfl, rfl, ?_, rfl, _, _, rfl, ?_⟩
      · have hz : z.length = m := by
          rw [show z.length = (cps z).length from TL.len_tl z, e, List.length_take, List.length_drop]
          omega
        rw [hz]
        exact small (by show m + 1 ≤ _; omega)
      · rw [cps_app, e, cps_one]
        have : (t.drop i)[m]? = some b := by rw [List.getElem?_drop]; exact hb
        exact (take_at this).symm
    · rintro σ H' ⟨rfl, z, v, rfl, e⟩
      rw [show (((i + j : Nat) : Int) - (i : Int)).toNat = j by omega] at e
      exact ⟨_, rfl, k z e⟩)
theorem c_number_between (T : Txt K mg A) : Cal P w K mg base 1 "number_between" (spCut isDigit 6 fun l Q H => Q (.int ((numberOf l : Nat) : Int)) H) [] :=
  cal_mk T.d_number_between sc_number_between bn_number_between (fun vs H Q E h => by
    obtain ⟨_, _, _, _, rfl, _⟩ := h
    rfl) (fun f cdv A' outer s H vs Q E hr h => by
    refine ⟨_, (pss_cons (ps_set (i := 3) sc_number_between.nd rfl (Or.inl rfl) pe_int)
      (pss_cons (ps_for PassesOwn.never rfl (pi_range2 (by rfl) T.b_range (pa_cons (pv 1) (pa_cons (pv 2) pa_nil))) (pg_name (i := 4) sc_number_between.nd rfl (Or.inl rfl)) (pss_one (ps_set (i := 3) sc_number_between.nd rfl (Or.inl rfl) (pe_op op_add (pe_op op_mul pe_int (pv 3)) (pe_op op_sub (pe_ix ix_list (pv 0) (pv 4) (fun _ _ => rfl)) pe_int)))))
      (pss_one (ps_ret (pv 3))))), ?_⟩
    obtain ⟨a, t, i, j, rfl, ha, hz, hj, hij, hp, k⟩ := h
    have ro := rng_ok (n := i) (by omega)
    have ro2 := rng_ok (n := i + j) (by omega)
    refine ⟨_, rfl, _, rfl, _, _, rfl, ⟨ro.1, ro.2, ro2.1, ro2.2⟩, for_range (fun m σ H' => H' = H ∧ ∃ (v : Option V), σ = [some (.ref a), some (.int (i : Int)), some (.int ((i + j : Nat) : Int)), some (.int ((numberOf ((t.drop i).take m) : Nat) : Int)), v])
      ⟨rfl, _, rfl⟩ ?_ ?_⟩
    · rintro m σ H' hm ⟨rfl, v, rfl⟩
      have hm : m < j := by omega
      obtain ⟨b, hb⟩ := get_lt (l := t) (i := i + m) (by omega)
      have hbl := hp b (mem_at (cut_at hb hm))
      unfold isDigit at hbl
      have h1 : 48 ≤ b ∧ b ≤ 57 := by simpa using hbl
      have hd : (t.drop i)[m]? = some b := by rw [List.getElem?_drop]; exact hb
      refine ⟨_, rfl, _, _, rfl, rfl, .inl ⟨by decide, by decide⟩, _, rfl, _, rfl, a, _, _, _, rfl, rfl, SqL.of ha, atS (tvAt hb), _, _, rfl, rfl, _, _, rfl, rfl, rfl, some (.int ((i : Int) + (m : Int))), ?_⟩
      have e : ((numberOf ((t.drop i).take (m + 1)) : Nat) : Int) = 10 * ((numberOf ((t.drop i).take m) : Nat) : Int) + ((b : Int) - 48) := by
        rw [take_at hd]
        unfold numberOf
        rw [List.foldl_append, List.foldl_cons, List.foldl_nil]
        omega
      rw [e]
      rfl
    · rintro σ H' ⟨rfl, v, rfl⟩
      rw [show (((i + j : Nat) : Int) - (i : Int)).toNat = j by omega]
      exact ⟨_, rfl, k⟩)
end CL

set_option Elab.async false
set_option linter.all false
set_option maxRecDepth 100000
set_option maxHeartbeats 4000000
namespace CL
open PySem PySem.Spec PyProof.Rows L2
open C8 (Cal Met Mak pe_c pe_mk pe_mt pe_mt0 pe_gc)
open VaaclBase (Values Test Guard Branch Loop Piece okTest)
open Vaacla (isLetter isDigit isBlank SIGNS numberOf Token Toks tokens tokensFrom)
abbrev VTok := Vaacla.Tok
variable {P : PySem.Program} {w : World} {K : PySem.W.Frag} {mg : Str → Option Value} {base : Heap} {A : Ad}
/-! ## tokens.py: the tokens, as the specification has them -/
/-- how long the token in front is -/
def tokLen : List Nat → Option Nat
  | [] => none
  | b :: r => if isLetter b = true then (if 8 < runs isLetter (b :: r) then none else some (runs isLetter (b :: r))) else if isDigit b = true then (if 6 < runs isDigit (b :: r) ∨ (b = 48 ∧ 1 < runs isDigit (b :: r)) then none else some (runs isDigit (b :: r)))
    else if SIGNS.contains b = true then some 1 else none
def tokOf : List Nat → Nat → VTok
  | [], _ => .ending
  | b :: r, n => if isLetter b = true then .word ((b :: r).take n) else if isDigit b = true then .num (numberOf ((b :: r).take n)) else .sign b
theorem tokLen_cons (b : Nat) (r : List Nat) : tokLen (b :: r) = if isLetter b = true then (if 8 < runs isLetter (b :: r) then none else some (runs isLetter (b :: r))) else if isDigit b = true then (if 6 < runs isDigit (b :: r) ∨ (b = 48 ∧ 1 < runs isDigit (b :: r)) then none else some (runs isDigit (b :: r)))
    else if SIGNS.contains b = true then some 1 else none := rfl
theorem tokOf_cons (b n : Nat) (r : List Nat) : tokOf (b :: r) n = if isLetter b = true then .word ((b :: r).take n) else if isDigit b = true then .num (numberOf ((b :: r).take n)) else .sign b := rfl
def tk (p : Nat) (t : List Nat) : Vaacla.Got Toks := tokensFrom (t.length + 1) p t
theorem runs_pos {p : Nat → Bool} {b : Nat} {r : List Nat} (h : p b = true) : 1 ≤ runs p (b :: r) := by
  unfold runs
  rw [List.takeWhile_cons, if_pos h]
  simp
theorem tokLen_in {l : List Nat} {n : Nat} (h : tokLen l = some n) : 1 ≤ n ∧ n ≤ l.length := by
  cases l with
  | nil => cases h
  | cons b r =>
    rw [tokLen_cons] at h
    by_cases hl : isLetter b = true
    · rw [if_pos hl] at h
      split at h
      · cases h
      · cases h
        exact ⟨runs_pos hl, runs_le _ _⟩
    · rw [if_neg hl] at h
      by_cases hd : isDigit b = true
      · rw [if_pos hd] at h
        split at h
        · cases h
        · cases h
          exact ⟨runs_pos hd, runs_le _ _⟩
      · rw [if_neg hd] at h
        split at h
        · cases h
          exact ⟨Nat.le_refl _, by simp⟩
        · cases h
theorem tkF (f p b : Nat) (r : List Nat) : tokensFrom (f + 1) p (b :: r) = if isBlank b = true then tokensFrom f (p + 1) r else match tokLen (b :: r) with
    | none => .error ⟨1, p⟩
    | some n => (tokensFrom f (p + n) ((b :: r).drop n)).map fun l => ⟨p, tokOf (b :: r) n⟩ :: l := by
  show (if isBlank b = true then tokensFrom f (p + 1) r
      else if isLetter b = true then (if 8 < runs isLetter (b :: r) then .error ⟨1, p⟩ else (tokensFrom f (p + runs isLetter (b :: r)) ((b :: r).drop (runs isLetter (b :: r)))).map fun l => ⟨p, .word ((b :: r).takeWhile isLetter)⟩ :: l)
      else if isDigit b = true then (if 6 < runs isDigit (b :: r) ∨ (b = 48 ∧ 1 < runs isDigit (b :: r)) then .error ⟨1, p⟩ else (tokensFrom f (p + runs isDigit (b :: r)) ((b :: r).drop (runs isDigit (b :: r)))).map fun l => ⟨p, .num (numberOf ((b :: r).takeWhile isDigit))⟩ :: l)
      else if SIGNS.contains b = true then (tokensFrom f (p + 1) r).map fun l => ⟨p, .sign b⟩ :: l
      else .error ⟨1, p⟩) = _
  by_cases hb : isBlank b = true
  · rw [if_pos hb, if_pos hb]
  rw [if_neg hb, if_neg hb]
  rw [tokLen_cons]
  by_cases hl : isLetter b = true
  · rw [if_pos hl, if_pos hl]
    by_cases h8 : 8 < runs isLetter (b :: r)
    · rw [if_pos h8, if_pos h8]
    · rw [if_neg h8, if_neg h8]
      dsimp only
      rw [tokOf_cons, if_pos hl, runs_take]
  rw [if_neg hl, if_neg hl]
  by_cases hd : isDigit b = true
  · rw [if_pos hd, if_pos hd]
    by_cases h8 : 6 < runs isDigit (b :: r) ∨ (b = 48 ∧ 1 < runs isDigit (b :: r))
    · rw [if_pos h8, if_pos h8]
    · rw [if_neg h8, if_neg h8]
      dsimp only
      rw [tokOf_cons, if_neg hl, if_pos hd, runs_take]
  rw [if_neg hd, if_neg hd]
  by_cases hs : SIGNS.contains b = true
  · rw [if_pos hs, if_pos hs]
    dsimp only
    rw [tokOf_cons, if_neg hl, if_neg hd]
    rfl
  · rw [if_neg hs, if_neg hs]
theorem tk_fuel : ∀ (f p : Nat) (t : List Nat), t.length < f → tokensFrom f p t = tk p t
  | 0, _, _, h => absurd h (Nat.not_lt_zero _)
  | f + 1, p, [], h => rfl
  | f + 1, p, b :: r, h => by
    have h : r.length < f := by simpa using h
    unfold tk
    rw [tkF, List.length_cons, tkF]
    by_cases hb : isBlank b = true
    · rw [if_pos hb, if_pos hb, tk_fuel f _ _ h]
      rfl
    rw [if_neg hb, if_neg hb]
    cases e : tokLen (b :: r) with
    | none => rfl
    | some n =>
      have hn := tokLen_in e
      have hl : ((b :: r).drop n).length ≤ r.length := by rw [List.length_drop, List.length_cons]; omega
      dsimp only
      rw [tk_fuel f _ _ (by omega), tk_fuel (r.length + 1) _ _ (by omega)]
theorem tk_nil (p : Nat) : tk p [] = .ok [⟨p, .ending⟩] := rfl
theorem tk_cons (p b : Nat) (r : List Nat) : tk p (b :: r) = if isBlank b = true then tk (p + 1) r else match tokLen (b :: r) with
    | none => .error ⟨1, p⟩
    | some n => (tk (p + n) ((b :: r).drop n)).map fun l => ⟨p, tokOf (b :: r) n⟩ :: l := by
  conv => lhs; unfold tk
  rw [List.length_cons, tkF]
  by_cases hb : isBlank b = true
  · rw [if_pos hb, if_pos hb]
    rfl
  rw [if_neg hb, if_neg hb]
  cases e : tokLen (b :: r) with
  | none => rfl
  | some n =>
    have hn := tokLen_in e
    have hl : ((b :: r).drop n).length ≤ r.length := by rw [List.length_drop, List.length_cons]; omega
    dsimp only
    rw [tk_fuel (r.length + 1) _ _ (by omega)]
/-! ### the code -/
/-- this fault comes out -/
def FaultP (A : Ad) (X : Addr → Prop) (H : Hp) (E : XK) (f : Vaacla.Fault) : Prop := ∀ (H' : Hp) (d : Addr), Keep X H H' → H' d = some (fxd (.int (f.kind : Int)) (.int (f.place : Int))) → E (.ref A.CF) (some d) H'
theorem FaultP.at {X : Addr → Prop} {H : Hp} {E : XK} {f : Vaacla.Fault} (k : FaultP A X H E f) {k' p' : Int} (h1 : k' = (f.kind : Int)) (h2 : p' = (f.place : Int)) : ∃ x y, ([.int k', .int p'] : List V) = [x, y] ∧ ∀ d, H d = none → E (.ref A.CF) (some d) (upd H d (fxd x y)) := by
  subst h1; subst h2
  exact ⟨_, _, rfl, fun d hd => k _ d (Keep.of (Same.new hd)) upd_same⟩
theorem FaultP.mono {X : Addr → Prop} {H H1 : Hp} {E : XK} {f : Vaacla.Fault} (k : FaultP A X H E f) (e : Keep X H H1) : FaultP A X H1 E f := fun H' d s h => k H' d (e.trans s) h
def spNameEnd (A : Ad) : Sp := fun vs H Q E => ∃ (a : Addr) (t : List Nat) (i : Nat), vs = [.ref a, .int (i : Int)] ∧ H a = some (.lst (tV t)) ∧ t.length ≤ 1048576 ∧ i ≤ t.length ∧
  if 8 < runs isLetter (t.drop i) then FaultP A (fun _ => False) H E ⟨1, i⟩ else Q (.int ((i + runs isLetter (t.drop i) : Nat) : Int)) H
theorem c_name_end (T : Txt K mg A) : CalX P w K mg base 3 "name_end" (spNameEnd A) :=
  calX_mk T.d_name_end sc_name_end bn_name_end (fun vs H Q E h => by
    obtain ⟨_, _, _, rfl, _⟩ := h
    rfl) (fun f cdv A' outer s H vs Q E hr h => by
    refine ⟨_, (pss_cons (ps_set (i := 2) sc_name_end.nd rfl (Or.inl rfl) (pe_c (c_letters_end T) hr (by decide) (by rfl) (pa_cons (pv 0) (pa_cons (pv 1) pa_nil))))
      (pss_cons (ps_if (pt_cmpR op_gt (pe_op op_sub (pv 2) (pv 1)) (pe_gc (by rfl) T.c_LONGEST_NAME) (nomark _)) (pss_one (ps_raiseF rfl T.fault hr (takes_of rfl rfl rfl rfl) (pa_cons pe_int (pa_cons (pv 1) pa_nil)))) pss_nil)
      (pss_one (ps_ret (pv 2))))), ?_⟩
    obtain ⟨a, t, i, rfl, ha, hz, hi, k⟩ := h
    refine ⟨_, rfl, _, rfl, a, t, i, rfl, ha, hz, hi, ?_⟩
    refine ⟨_, rfl, _, rfl, _, _, rfl, rfl, _, _, rfl, rfl, _, rfl, ifD (fun h8 => ?_) (fun h8 => ?_)⟩
    · rw [if_pos (by omega)] at k
      exact ⟨_, rfl, k.at rfl rfl⟩
    · rw [if_neg (by omega)] at k
      exact ⟨_, rfl, k⟩)
def spNumberEnd (A : Ad) : Sp := fun vs H Q E => ∃ (a : Addr) (t : List Nat) (i b : Nat), vs = [.ref a, .int (i : Int)] ∧ H a = some (.lst (tV t)) ∧ t.length ≤ 1048576 ∧ t[i]? = some b ∧
  if 6 < runs isDigit (t.drop i) ∨ (b = 48 ∧ 1 < runs isDigit (t.drop i)) then FaultP A (fun _ => False) H E ⟨1, i⟩ else Q (.int ((i + runs isDigit (t.drop i) : Nat) : Int)) H
theorem c_number_end (T : Txt K mg A) : CalX P w K mg base 3 "number_end" (spNumberEnd A) :=
  calX_mk T.d_number_end sc_number_end bn_number_end (fun vs H Q E h => by
    obtain ⟨_, _, _, _, rfl, _⟩ := h
    rfl) (fun f cdv A' outer s H vs Q E hr h => by
    refine ⟨_, (pss_cons (ps_set (i := 2) sc_number_end.nd rfl (Or.inl rfl) (pe_c (c_digits_end T) hr (by decide) (by rfl) (pa_cons (pv 0) (pa_cons (pv 1) pa_nil))))
      (pss_cons (ps_if (pt_cmpR op_gt (pe_op op_sub (pv 2) (pv 1)) (pe_gc (by rfl) T.c_LONGEST_NUMBER) (nomark _)) (pss_one (ps_raiseF rfl T.fault hr (takes_of rfl rfl rfl rfl) (pa_cons pe_int (pa_cons (pv 1) pa_nil)))) pss_nil)
      (pss_cons (ps_if (PW.pt (pw_and (pt_cmpR op_eq (pe_ix ix_list (pv 0) (pv 1) (fun _ _ => rfl)) pe_int (nomark _)) (pw_and1 (pt_cmpR op_gt (pe_op op_sub (pv 2) (pv 1)) pe_int (nomark _))))) (pss_one (ps_raiseF rfl T.fault hr (takes_of rfl rfl rfl rfl) (pa_cons pe_int (pa_cons (pv 1) pa_nil)))) pss_nil)
      (pss_one (ps_ret (pv 2)))))), ?_⟩
    obtain ⟨a, t, i, b, rfl, ha, hz, hi, k⟩ := h
    refine ⟨_, rfl, _, rfl, a, t, i, rfl, ha, hz, by have := lt_at hi; omega, ?_⟩
    refine ⟨_, rfl, _, rfl, _, _, rfl, rfl, _, _, rfl, rfl, _, rfl, ifD (fun h8 => ?_) (fun h8 => ?_)⟩
    · rw [if_pos (.inl (by omega))] at k
      exact ⟨_, rfl, k.at rfl rfl⟩
    refine ⟨_, rfl, _, rfl, a, _, _, _, rfl, rfl, SqL.of ha, atI_nat (tvAt hi), rfl, _, rfl, ifD (fun hb => ?_) (fun hb => ?_)⟩
    · have hb : b = 48 := by have := V.int.inj hb; omega
      refine ⟨_, rfl, _, rfl, _, _, rfl, rfl, _, _, rfl, rfl, _, rfl, ifD (fun h1 => ?_) (fun h1 => ?_)⟩
      · rw [if_pos (.inr ⟨hb, by omega⟩)] at k
        exact ⟨_, rfl, k.at rfl rfl⟩
      · rw [if_neg (by omega)] at k
        exact ⟨_, rfl, k⟩
    · have hb : b ≠ 48 := fun q => hb (int_eq (by omega))
      rw [if_neg (by omega)] at k
      exact iteF ⟨_, rfl, k⟩)
def spTokenEnd (A : Ad) : Sp := fun vs H Q E => ∃ (a : Addr) (t : List Nat) (i : Nat), vs = [.ref a, .int (i : Int)] ∧ H a = some (.lst (tV t)) ∧ t.length ≤ 1048576 ∧ i < t.length ∧
  match tokLen (t.drop i) with
    | none => FaultP A (fun _ => False) H E ⟨1, i⟩
    | some n => Q (.int ((i + n : Nat) : Int)) H
theorem c_token_end (T : Txt K mg A) : CalX P w K mg base 4 "token_end" (spTokenEnd A) :=
  calX_mk T.d_token_end sc_token_end bn_token_end (fun vs H Q E h => by
    obtain ⟨_, _, _, rfl, _⟩ := h
    rfl) (fun f cdv A' outer s H vs Q E hr h => by
    refine ⟨_, (pss_cons (ps_if (pt_val (pe_c (c_is_letter T) hr (by decide) (by rfl) (pa_cons (pe_ix ix_list (pv 0) (pv 1) (fun _ _ => rfl)) pa_nil))) (pss_one (ps_ret (pe_cX (c_name_end T) hr (by decide) (passes_call (takes_of rfl rfl rfl rfl) (fun _ _ _ _ q => q)) (by rfl) (pa_cons (pv 0) (pa_cons (pv 1) pa_nil))))) pss_nil)
      (pss_cons (ps_if (pt_val (pe_c (c_is_digit T) hr (by decide) (by rfl) (pa_cons (pe_ix ix_list (pv 0) (pv 1) (fun _ _ => rfl)) pa_nil))) (pss_one (ps_ret (pe_cX (c_number_end T) hr (by decide) (passes_call (takes_of rfl rfl rfl rfl) (fun _ _ _ _ q => q)) (by rfl) (pa_cons (pv 0) (pa_cons (pv 1) pa_nil))))) pss_nil)
      (pss_cons (ps_if (pt_cmpR op_ne (pe_c (c_sign_of T) hr (by decide) (by rfl) (pa_cons (pe_ix ix_list (pv 0) (pv 1) (fun _ _ => rfl)) pa_nil)) pe_str (nomark _)) (pss_one (ps_ret (pe_op op_add (pv 1) pe_int))) pss_nil)
      (pss_one (ps_raiseF rfl T.fault hr (takes_of rfl rfl rfl rfl) (pa_cons pe_int (pa_cons (pv 1) pa_nil))))))), ?_⟩
    obtain ⟨a, t, i, rfl, ha, hz, hi, k⟩ := h
    obtain ⟨b, hb⟩ := get_lt hi
    have ed := drop_at hb
    have e0 : tokLen (t.drop i) = if isLetter b = true then (if 8 < runs isLetter (t.drop i) then none else some (runs isLetter (t.drop i))) else if isDigit b = true then (if 6 < runs isDigit (t.drop i) ∨ (b = 48 ∧ 1 < runs isDigit (t.drop i)) then none else some (runs isDigit (t.drop i)))
        else if SIGNS.contains b = true then some 1 else none := by
      rw [ed]
      rfl
    rw [e0] at k
    refine ⟨_, rfl, _, rfl, a, _, _, _, rfl, rfl, SqL.of ha, atI_nat (tvAt hb), b, rfl, _, rfl, ?_⟩
    cases hl : isLetter b with
    | true =>
      rw [hl, if_pos rfl] at k
      refine iteT ⟨_, rfl, _, rfl, a, t, i, rfl, ha, hz, by omega, ?_⟩
      by_cases h8 : 8 < runs isLetter (t.drop i)
      · rw [if_pos h8] at k ⊢
        exact k
      · rw [if_neg h8] at k ⊢
        exact k
    | false =>
      rw [hl, if_neg Bool.false_ne_true] at k
      refine iteF ⟨_, rfl, _, rfl, a, _, _, _, rfl, rfl, SqL.of ha, atI_nat (tvAt hb), b, rfl, _, rfl, ?_⟩
      cases hd : isDigit b with
      | true =>
        rw [hd, if_pos rfl] at k
        refine iteT ⟨_, rfl, _, rfl, a, t, i, b, rfl, ha, hz, hb, ?_⟩
        by_cases h8 : 6 < runs isDigit (t.drop i) ∨ (b = 48 ∧ 1 < runs isDigit (t.drop i))
        · rw [if_pos h8] at k ⊢
          exact k
        · rw [if_neg h8] at k ⊢
          exact k
      | false =>
        rw [hd, if_neg Bool.false_ne_true] at k
        refine iteF ⟨_, rfl, _, rfl, a, _, _, _, rfl, rfl, SqL.of ha, atI_nat (tvAt hb), b, rfl, fun z hz' => ?_⟩
        refine ⟨rfl, _, rfl, ?_⟩
        cases hs : SIGNS.contains b with
        | true =>
          rw [hs, if_pos rfl] at k hz'
          refine ifNT (fun q => ?_) ⟨_, rfl, _, _, rfl, rfl, ?_⟩
          · have := V.str.inj q
            subst this
            cases hz'
          · exact k
        | false =>
          rw [hs, if_neg Bool.false_ne_true] at k hz'
          refine ifNF ?_ ⟨_, rfl, k.at rfl rfl⟩
          have : z = ("" : Str) := by
            obtain ⟨c⟩ := z
            have hz' : c.toList = [] := hz'
            have : c = #[] := by simpa using hz'
            rw [this]
            decide +kernel
          rw [this])
def tokText : VTok → List Nat
  | .word t => t
  | .num _ => []
  | .sign b => [b]
  | .ending => []
def tokNum : VTok → Int
  | .num n => (n : Int)
  | _ => -1
def TokIs (vs : List V) (x : Token) : Prop := ∃ z, cps z = tokText x.tok ∧ vs = [.str z, .int (tokNum x.tok), .int (x.place : Int)]
def TokAt (H : Hp) (v : V) (x : Token) : Prop := ∃ p vs, v = .ref p ∧ H p = some (.tup vs) ∧ TokIs vs x
theorem TokAt.mono {H H' : Hp} (s : Same H H') (v : V) (x : Token) (h : TokAt H v x) : TokAt H' v x := by
  obtain ⟨p, vs, e, h1, h2⟩ := h
  exact ⟨p, vs, e, s _ _ h1, h2⟩
abbrev ToksAt : Hp → V → Toks → Prop := ListAt TokAt
def spTokenBetween : Sp := fun vs H Q _ => ∃ (a : Addr) (t : List Nat) (i n : Nat), vs = [.ref a, .int (i : Int), .int ((i + n : Nat) : Int)] ∧ H a = some (.lst (tV t)) ∧ t.length ≤ 1048576 ∧ i < t.length ∧ tokLen (t.drop i) = some n ∧
  ∀ us p, TokIs us ⟨i, tokOf (t.drop i) n⟩ → H p = none → Q (.ref p) (upd H p (.tup us))
theorem c_token_between (T : Txt K mg A) : Cal P w K mg base 2 "token_between" spTokenBetween [] :=
  cal_mk T.d_token_between sc_token_between bn_token_between (fun vs H Q E h => by
    obtain ⟨_, _, _, _, rfl, _⟩ := h
    rfl) (fun f cdv A' outer s H vs Q E hr h => by
    refine ⟨_, (pss_cons (ps_if (pt_val (pe_c (c_is_letter T) hr (by decide) (by rfl) (pa_cons (pe_ix ix_list (pv 0) (pv 1) (fun _ _ => rfl)) pa_nil))) (pss_one (ps_ret (pe_tup (pa_cons (pe_c (c_word_between T) hr (by decide) (by rfl) (pa_cons (pv 0) (pa_cons (pv 1) (pa_cons (pv 2) pa_nil)))) (pa_cons (pe_un un_neg pe_int) (pa_cons (pv 1) pa_nil)))))) pss_nil)
      (pss_cons (ps_if (pt_val (pe_c (c_is_digit T) hr (by decide) (by rfl) (pa_cons (pe_ix ix_list (pv 0) (pv 1) (fun _ _ => rfl)) pa_nil))) (pss_one (ps_ret (pe_tup (pa_cons pe_str (pa_cons (pe_c (c_number_between T) hr (by decide) (by rfl) (pa_cons (pv 0) (pa_cons (pv 1) (pa_cons (pv 2) pa_nil)))) (pa_cons (pv 1) pa_nil)))))) pss_nil)
      (pss_one (ps_ret (pe_tup (pa_cons (pe_c (c_sign_of T) hr (by decide) (by rfl) (pa_cons (pe_ix ix_list (pv 0) (pv 1) (fun _ _ => rfl)) pa_nil)) (pa_cons (pe_un un_neg pe_int) (pa_cons (pv 1) pa_nil)))))))), ?_⟩
    obtain ⟨a, t, i, n, rfl, ha, hz, hi, he, k⟩ := h
    obtain ⟨b, hb⟩ := get_lt hi
    have ed := drop_at hb
    have hn := tokLen_in he
    rw [List.length_drop] at hn
    have e0 : tokLen (t.drop i) = if isLetter b = true then (if 8 < runs isLetter (t.drop i) then none else some (runs isLetter (t.drop i))) else if isDigit b = true then (if 6 < runs isDigit (t.drop i) ∨ (b = 48 ∧ 1 < runs isDigit (t.drop i)) then none else some (runs isDigit (t.drop i)))
        else if SIGNS.contains b = true then some 1 else none := by
      rw [ed]
      rfl
    have e1 : tokOf (t.drop i) n = if isLetter b = true then .word ((t.drop i).take n) else if isDigit b = true then .num (numberOf ((t.drop i).take n)) else .sign b := by
      rw [ed]
      rfl
    rw [e0] at he
    rw [e1] at k
    refine ⟨_, rfl, _, rfl, a, _, _, _, rfl, rfl, SqL.of ha, atI_nat (tvAt hb), b, rfl, _, rfl, ?_⟩
    cases hl : isLetter b with
    | true =>
      rw [hl, if_pos rfl] at k he
      by_cases h8 : 8 < runs isLetter (t.drop i)
      · rw [if_pos h8] at he
        cases he
      rw [if_neg h8] at he
      cases he
      refine iteT ⟨_, rfl, _, rfl, _, rfl, a, t, i, _, rfl, ha, hz, by omega, by omega, by rw [runs_take]; exact all_take _ _, fun z hz' => ?_⟩
      refine ⟨_, rfl, _, rfl, by show 3 ≤ sizeLine; exact small (by decide), fun p hp => ?_⟩
      exact k _ p ⟨z, hz', rfl⟩ hp
    | false =>
      rw [hl, if_neg Bool.false_ne_true] at k he
      refine iteF ⟨_, rfl, _, rfl, a, _, _, _, rfl, rfl, SqL.of ha, atI_nat (tvAt hb), b, rfl, _, rfl, ?_⟩
      cases hd : isDigit b with
      | true =>
        rw [hd, if_pos rfl] at k he
        by_cases h8 : 6 < runs isDigit (t.drop i) ∨ (b = 48 ∧ 1 < runs isDigit (t.drop i))
        · rw [if_pos h8] at he
          cases he
        rw [if_neg h8] at he
        cases he
        refine iteT ⟨_, rfl, _, rfl, _, rfl, a, t, i, _, rfl, ha, hz, by omega, by omega, by rw [runs_take]; exact all_take _ _, ?_⟩
        refine ⟨_, rfl, by show 3 ≤ sizeLine; exact small (by decide), fun p hp => ?_⟩
        exact k _ p ⟨Str.ofString "", by rw [cps_lit]; rfl, rfl⟩ hp
      | false =>
        rw [hd, if_neg Bool.false_ne_true] at k he
        refine iteF ⟨_, rfl, _, rfl, a, _, _, _, rfl, rfl, SqL.of ha, atI_nat (tvAt hb), b, rfl, fun z hz' => ?_⟩
        cases hs : SIGNS.contains b with
        | true =>
          rw [hs, if_pos rfl] at hz'
          refine ⟨_, rfl, _, rfl, by show 3 ≤ sizeLine; exact small (by decide), fun p hp => ?_⟩
          exact k _ p ⟨z, hz', rfl⟩ hp
        | false =>
          rw [hs, if_neg Bool.false_ne_true] at he
          cases he)
end CL

set_option Elab.async false
set_option linter.all false
set_option maxRecDepth 100000
set_option maxHeartbeats 4000000
namespace CL
open PySem PySem.Spec PyProof.Rows L2
open C8 (Cal Met Mak pe_c pe_mk pe_mt pe_mt0 pe_gc)
open VaaclBase (Values Test Guard Branch Loop Piece okTest)
open Vaacla (isLetter isDigit isBlank SIGNS numberOf Token Toks tokens tokensFrom)
variable {P : PySem.Program} {w : World} {K : PySem.W.Frag} {mg : Str → Option Value} {base : Heap} {A : Ad}
/-! ## a list that grows -/
structure Grow {α : Type} (X : Addr → Prop) (R : Hp → V → α → Prop) (G0 H0 G H : Hp) (D : Addr) (xs : List α) : Prop where
  ext : Ext X G0 H0 G H
  hole : G D = none
  new : H0 D = none
  g0 : G0 D = none
  nX : ¬ X D
  at_ : ∃ vs, H D = some (.lst vs) ∧ Paired (R G) vs xs
section
variable {α : Type} {X : Addr → Prop} {R : Hp → V → α → Prop} {G0 H0 G H G' H' : Hp} {D : Addr} {xs : List α}
theorem Grow.start (e : Ext X G0 H0 G H) (hG : G D = none) (h0 : H0 D = none) (g0 : G0 D = none) (hX : ¬ X D) : Grow X R G0 H0 G (upd H D (.lst [])) D [] :=
  ⟨e.mutD h0, hG, h0, g0, hX, [], upd_same, .nil⟩
theorem Grow.to (g : Grow X R G0 H0 G H D xs) (rm : ∀ {H H' : Hp}, Same H H' → ∀ v x, R H v x → R H' v x) (e : Ext X G H G' H') (hX : ∀ c, X c → G' c = none) : Grow X R G0 H0 G' H' D xs := by
  obtain ⟨vs, h1, h2⟩ := g.at_
  refine ⟨g.ext.trans e hX, ?_, g.new, g.g0, g.nX, vs, e.keep D _ g.nX h1, Paired.mapP h2 (rm e.sg)⟩
  cases q : G' D with
  | none => rfl
  | some o =>
    rcases e.fresh D o q with z | z
    · rw [g.hole] at z
      cases z
    · rw [h1] at z
      cases z
theorem Grow.app (g : Grow X R G0 H0 G H D xs) {v : V} {x : α} {vs : List V} (h : H D = some (.lst vs)) (r : R G v x) : Grow X R G0 H0 G (upd H D (.lst (vs ++ [v]))) D (xs ++ [x]) := by
  obtain ⟨us, h1, h2⟩ := g.at_
  have e : us = vs := by
    rw [h1] at h
    cases h
    rfl
  subst e
  exact ⟨g.ext.mutD g.new, g.hole, g.new, g.g0, g.nX, _, upd_same, pair_app h2 (.cons r .nil)⟩
theorem Grow.done (g : Grow X R G0 H0 G H D xs) (s : Same G H) (rm : ∀ {H H' : Hp}, Same H H' → ∀ v x, R H v x → R H' v x) {vs : List V} (h : H D = some (.lst vs)) : Ext X G0 H0 (upd G D (.lst vs)) H ∧ Same (upd G D (.lst vs)) H ∧ ListAt R (upd G D (.lst vs)) (.ref D) xs := by
  obtain ⟨us, h1, h2⟩ := g.at_
  have e : us = vs := by
    rw [h1] at h
    cases h
    rfl
  subst e
  refine ⟨⟨fun b u q => ?_, g.ext.keep, fun b u q => ?_⟩, fun b u q => ?_, D, us, rfl, upd_same, Paired.mapP h2 (rm (Same.new g.hole))⟩
  · rw [upd_ne (ne_of_none q g.g0)]
    exact g.ext.sg _ _ q
  · by_cases hb : b = D
    · right
      rw [hb]
      exact g.new
    · rw [upd_ne hb] at q
      exact g.ext.fresh b u q
  · by_cases hb : b = D
    · subst hb
      rw [upd_same] at q
      cases q
      exact h1
    · rw [upd_ne hb] at q
      exact s _ _ q
theorem Grow.len (g : Grow X R G0 H0 G H D xs) {vs : List V} (h : H D = some (.lst vs)) : vs.length = xs.length := by
  obtain ⟨us, h1, h2⟩ := g.at_
  rw [h1] at h
  cases h
  exact h2.length
end
/-! ## tokens_of -/
def okTok : VTok → Prop
  | .word t => ∀ x ∈ t, isLetter x = true
  | .num _ => True
  | .sign b => SIGNS.contains b = true
  | .ending => False
def OkL : Toks → Prop
  | [] => False
  | x :: r => (x.tok = .ending ∧ r = []) ∨ (okTok x.tok ∧ OkL r)
theorem tokOf_ok {l : List Nat} {n : Nat} (h : tokLen l = some n) : okTok (tokOf l n) := by
  cases l with
  | nil => cases h
  | cons b r =>
    rw [tokLen_cons] at h
    rw [tokOf_cons]
    by_cases hl : isLetter b = true
    · rw [if_pos hl] at h ⊢
      split at h
      · cases h
      · cases h
        show ∀ x ∈ List.take _ _, _
        rw [runs_take]
        exact all_take _ _
    · rw [if_neg hl] at h ⊢
      by_cases hd : isDigit b = true
      · rw [if_pos hd]
        trivial
      · rw [if_neg hd] at h ⊢
        split at h
        · assumption
        · cases h
theorem tk_ok : ∀ (n p : Nat) (t : List Nat) (l : Toks), t.length ≤ n → tk p t = .ok l → OkL l
  | n, p, [], l, _, h => by
    rw [tk_nil] at h
    cases h
    exact .inl ⟨rfl, rfl⟩
  | 0, p, b :: r, l, hn, _ => by simp at hn
  | n + 1, p, b :: r, l, hn, h => by
    have hn : r.length ≤ n := by simpa using hn
    rw [tk_cons] at h
    by_cases hb : isBlank b = true
    · rw [if_pos hb] at h
      exact tk_ok n _ r l hn h
    · rw [if_neg hb] at h
      cases e : tokLen (b :: r) with
      | none =>
        rw [e] at h
        cases h
      | some m =>
        rw [e] at h
        have hm := tokLen_in e
        have hl : ((b :: r).drop m).length ≤ n := by rw [List.length_drop, List.length_cons]; omega
        dsimp only at h
        cases e2 : tk (p + m) ((b :: r).drop m) with
        | error f =>
          rw [e2] at h
          cases h
        | ok l' =>
          rw [e2] at h
          cases h
          exact .inr ⟨tokOf_ok e, tk_ok n _ _ _ hl e2⟩
theorem tk_len : ∀ (n p : Nat) (t : List Nat) (l : Toks), t.length ≤ n → tk p t = .ok l → l.length ≤ t.length + 1
  | n, p, [], l, _, h => by
    rw [tk_nil] at h
    cases h
    simp
  | 0, p, b :: r, l, hn, _ => by simp at hn
  | n + 1, p, b :: r, l, hn, h => by
    have hn : r.length ≤ n := by simpa using hn
    rw [tk_cons] at h
    by_cases hb : isBlank b = true
    · rw [if_pos hb] at h
      have := tk_len n _ r l hn h
      simp
      omega
    · rw [if_neg hb] at h
      cases e : tokLen (b :: r) with
      | none =>
        rw [e] at h
        cases h
      | some m =>
        rw [e] at h
        have hm := tokLen_in e
        have hl : ((b :: r).drop m).length ≤ n := by rw [List.length_drop, List.length_cons]; omega
        dsimp only at h
        cases e2 : tk (p + m) ((b :: r).drop m) with
        | error f =>
          rw [e2] at h
          cases h
        | ok l' =>
          rw [e2] at h
          cases h
          have := tk_len n _ _ _ hl e2
          rw [List.length_drop, List.length_cons] at this
          simp
          omega
theorem map_app (x : Token) (acc : Toks) (r : Vaacla.Got Toks) : ((r.map fun l => x :: l).map fun l => acc ++ l) = r.map fun l => (acc ++ [x]) ++ l := by
  cases r with
  | error f => rfl
  | ok l =>
    show Except.ok (acc ++ x :: l) = Except.ok (acc ++ [x] ++ l)
    rw [List.append_assoc]
    rfl
def spTokensOf (A : Ad) : Sp := fun vs H Q E => ∃ (G : Hp) (a : Addr) (t : List Nat), vs = [.ref a] ∧ Same G H ∧ G a = some (.lst (tV t)) ∧ t.length ≤ 100000 ∧
  match tokens t with
    | .error f => FaultP A (fun _ => False) H E f
    | .ok l => ∀ (G' H' : Hp) (v : V), Ext (fun _ => False) G H G' H' → Same G' H' → ToksAt G' v l → Q v H'
theorem c_tokens_of (T : Txt K mg A) : CalX P w K mg base 5 "tokens_of" (spTokensOf A) :=
  calX_mk T.d_tokens_of sc_tokens_of bn_tokens_of (fun vs H Q E h => by
    obtain ⟨_, _, _, rfl, _⟩ := h
    rfl) (fun f cdv A' outer s H vs Q E hr h => by
    refine ⟨_, (pss_cons (ps_set (i := 1) sc_tokens_of.nd rfl (Or.inl rfl) (pe_lst pa_nil))
      (pss_cons (ps_set (i := 2) sc_tokens_of.nd rfl (Or.inl rfl) pe_int)
      (pss_cons (ps_for (passes_of rfl) rfl (pi_range1 (by rfl) T.b_range (pa_cons (pe_callB call_len_seq (by rfl) T.b_len PySem.boot_len (pa_cons (pv 0) pa_nil)) pa_nil)) (pg_name (i := 3) sc_tokens_of.nd rfl (Or.inl rfl)) (pss_one (ps_if (PW.pt (pw_and (pt_cmpR op_ge (pv 3) (pv 2) (nomark _)) (pw_and1 (pt_not (pt_val (pe_c (c_is_blank T) hr (by decide) (by rfl) (pa_cons (pe_ix ix_list (pv 0) (pv 3) (fun _ _ => rfl)) pa_nil))))))) (pss_cons (ps_set (i := 2) sc_tokens_of.nd rfl (Or.inl rfl) (pe_cX (c_token_end T) hr (by decide) (passes_call (takes_of rfl rfl rfl rfl) (fun _ _ _ _ q => q)) (by rfl) (pa_cons (pv 0) (pa_cons (pv 3) pa_nil))))
      (pss_one (ps_expr (pe_bm PySem.F.plainAttrs_list PySem.F.slot_list_append PySem.F.type_list_append mt_append (pv 1) (pa_cons (pe_c (c_token_between T) hr (by decide) (by rfl) (pa_cons (pv 0) (pa_cons (pv 3) (pa_cons (pv 2) pa_nil)))) pa_nil))))) pss_nil)))
      (pss_cons (ps_expr (pe_bm PySem.F.plainAttrs_list PySem.F.slot_list_append PySem.F.type_list_append mt_append (pv 1) (pa_cons (pe_tup (pa_cons pe_str (pa_cons (pe_un un_neg pe_int) (pa_cons (pe_callB call_len_seq (by rfl) T.b_len PySem.boot_len (pa_cons (pv 0) pa_nil)) pa_nil)))) pa_nil)))
      (pss_one (ps_ret (pv 1))))))), ?_⟩
    obtain ⟨G, a, t, rfl, sg, ha, hz, k⟩ := h
    have ro := rng_ok (n := t.length) (by omega)
    have hl := tvLen t
    have k0 : tokens t = tk 0 t := rfl
    refine ⟨by show 0 ≤ sizeLine; exact Nat.zero_le _, fun D hD => ?_⟩
    have hDg := sg.free hD
    have haD : a ≠ D := ne_of_none (sg _ _ ha) hD
    refine ⟨_, rfl, a, _, rfl, .inl (SqL.of ((upd_ne haD).trans (sg _ _ ha))), _, rfl, by rw [hl]; exact ro.1, by rw [hl]; exact ro.2, ?_⟩
    rw [Int.toNat_natCast, hl]
    refine for_range (lo := 0) (fun i σ H' => ∃ (G' : Hp) (acc : Toks) (e : Nat) (v : Option V), σ = [some (.ref a), some (.ref D), some (.int (e : Int)), v] ∧ Same G' H' ∧ Grow (fun _ => False) TokAt G H G' H' D acc ∧ e ≤ t.length ∧ acc.length ≤ i ∧ tk 0 t = (tk (max i e) (t.drop (max i e))).map fun l => acc ++ l)
      ⟨G, [], 0, none, rfl, Same.mut sg hDg, Grow.start (Ext.refl _ _ _) hDg hD hDg (fun q => q), Nat.zero_le _, Nat.zero_le _, by
        show tk 0 t = (tk 0 t).map fun l => l
        cases tk 0 t <;> rfl⟩ ?_ ?_
    · rintro i σ H' hi ⟨G', acc, e, v, rfl, s', g, he, hacc, et⟩
      rw [Int.zero_add]
      obtain ⟨b, hb⟩ := get_lt hi
      have haG := g.ext.sg _ _ ha
      have haH := s' _ _ haG
      refine ⟨_, rfl, _, rfl, _, _, rfl, rfl, _, rfl, ifD (fun h1 => ?_) (fun h1 => ?_)⟩
      · have h1 : e ≤ i := by omega
        rw [Nat.max_eq_left h1, drop_at hb, tk_cons] at et
        refine ⟨_, rfl, _, rfl, a, _, _, _, rfl, rfl, SqL.of haH, atI_nat (tvAt hb), b, rfl, _, rfl, ?_⟩
        cases hbl : isBlank b with
        | true =>
          rw [hbl, if_pos rfl] at et
          refine iteF ⟨G', acc, e, _, rfl, s', g, he, by omega, ?_⟩
          rw [Nat.max_eq_left (by omega : e ≤ i + 1)]
          exact et
        | false =>
          rw [hbl, if_neg Bool.false_ne_true, ← drop_at hb] at et
          refine iteT ⟨_, rfl, _, rfl, a, t, i, rfl, haH, by omega, hi, ?_⟩
          cases hk : tokLen (t.drop i) with
          | none =>
            rw [hk] at et
            rw [k0, et] at k
            refine FaultP.mono k ?_
            exact g.ext.keep
          | some n =>
            rw [hk] at et
            dsimp only at et
            rw [map_app] at et
            have hn := tokLen_in hk
            rw [List.length_drop] at hn
            obtain ⟨vs, hvs, _⟩ := g.at_
            refine ⟨_, rfl, .inl ⟨rfl, _, SqL.of hvs⟩, _, rfl, _, rfl, _, rfl, a, t, i, n, rfl, haH, by omega, hi, hk, fun us p hu hp => ?_⟩
            have hDp : D ≠ p := ne_of_none hvs hp
            refine ⟨D, vs, _, rfl, rfl, (upd_ne hDp).trans hvs, smallL (by rw [g.len hvs]; omega), ?_⟩
            have e2 := Ext.new (X := fun _ => False) (o := .tup us) s' hp
            have s2 := same_new (o := .tup us) (p := p) s'
            have g2 := g.to TokAt.mono e2 (fun c hc => hc.elim)
            refine ⟨upd G' p (.tup us), acc ++ [⟨i, tokOf (t.drop i) n⟩], i + n, _, rfl, Same.mut s2 g2.hole, g2.app ((upd_ne hDp).trans hvs) ⟨p, us, rfl, upd_same, hu⟩, by omega, by rw [List.length_append, List.length_singleton]; omega, ?_⟩
            rw [Nat.max_eq_right (by omega : i + 1 ≤ i + n), ← List.drop_drop]
            exact et
      · have h1 : i < e := by omega
        refine iteF ⟨G', acc, e, _, rfl, s', g, he, by omega, ?_⟩
        rw [Nat.max_eq_right (by omega : i + 1 ≤ e)]
        rw [Nat.max_eq_right (by omega : i ≤ e)] at et
        exact et
    · rintro σ H' ⟨G', acc, e, v, rfl, s', g, he, hacc, et⟩
      rw [Nat.max_eq_left he, List.drop_length, tk_nil] at et
      have et : tk 0 t = .ok (acc ++ [⟨t.length, .ending⟩]) := et
      rw [k0, et] at k
      have haH := s' _ _ (g.ext.sg _ _ ha)
      obtain ⟨vs, hvs, _⟩ := g.at_
      refine ⟨_, rfl, .inl ⟨rfl, _, SqL.of hvs⟩, _, rfl, _, rfl, a, _, rfl, .inl (SqL.of haH), by show 3 ≤ sizeLine; exact small (by decide), fun p hp => ?_⟩
      have hDp : D ≠ p := ne_of_none hvs hp
      have hvs1 : ∀ o, upd H' p o D = some (.lst vs) := fun o => (upd_ne hDp).trans hvs
      refine ⟨D, vs, _, rfl, rfl, hvs1 _, smallL (by rw [g.len hvs]; omega), _, rfl, ?_⟩
      rw [hl]
      have e2 := Ext.new (X := fun _ => False) (o := .tup [.str (Str.ofString ""), .int (-1), .int (t.length : Int)]) s' hp
      have s2 := same_new (o := .tup [.str (Str.ofString ""), .int (-1), .int (t.length : Int)]) (p := p) s'
      have g2 := g.to TokAt.mono e2 (fun c hc => hc.elim)
      have g3 := g2.app (x := ⟨t.length, .ending⟩) (hvs1 _) ⟨p, _, rfl, upd_same, Str.ofString "", by rw [cps_lit]; rfl, rfl⟩
      have d := g3.done (Same.mut s2 g2.hole) TokAt.mono upd_same
      exact k _ _ _ d.1 d.2.1 d.2.2)
end CL

set_option Elab.async false
set_option linter.all false
set_option maxRecDepth 100000
set_option maxHeartbeats 4000000
namespace CL
open PySem PySem.Spec PyProof.Rows L2
open VaaclBase (Values Test Guard Branch Loop Piece okTest)
open Vaacla (isLetter isDigit isBlank SIGNS numberOf Token Toks tokens tokensFrom Got wordIs signIs here wrong takeSign takeWord takeNum takeInt NAMES nameAt takeName takeMore takeGiven takeGivens takeMove takeModulus takeTest takeTests takeGuard takeBranches takePieces)
/-! ## the specification's reader of tokens -/
section
variable {α β γ : Type}
theorem got_bind {r : Got α} {f : α → Got β} {y : β} (h : r.bind f = .ok y) : ∃ x, r = .ok x ∧ f x = .ok y := by
  cases r with
  | error e => cases h
  | ok x => exact ⟨x, rfl, h⟩
theorem got_map {r : Got α} {f : α → β} {y : β} (h : r.map f = .ok y) : ∃ x, r = .ok x ∧ f x = y := by
  cases r with
  | error e => cases h
  | ok x =>
    cases h
    exact ⟨x, rfl, rfl⟩
theorem map_bind (r : Got α) (f : α → β) (g : β → Got γ) : (r.map f).bind g = r.bind fun x => g (f x) := by cases r <;> rfl
theorem bind_map (r : Got α) (f : α → Got β) (g : β → γ) : (r.bind f).map g = r.bind fun x => (f x).map g := by cases r <;> rfl
theorem map_is (r : Got α) (f : α → β) : r.map f = r.bind fun x => .ok (f x) := by cases r <;> rfl
theorem bind_bind (r : Got α) (f : α → Got β) (g : β → Got γ) : (r.bind f).bind g = r.bind fun x => (f x).bind g := by cases r <;> rfl
end
theorem w_nil (w : String) : wordIs w [] = false := rfl
theorem s_nil (b : Nat) : signIs b [] = false := rfl
theorem takeWord_ok {w : String} {l l' : Toks} (h : takeWord w l = .ok l') : wordIs w l = true ∧ l' = l.drop 1 ∧ l'.length < l.length := by
  unfold takeWord at h
  cases e : wordIs w l with
  | false =>
    rw [e, if_neg Bool.false_ne_true] at h
    cases h
  | true =>
    rw [e, if_pos rfl] at h
    cases h
    cases l with
    | nil => cases e
    | cons x r => exact ⟨rfl, rfl, by simp⟩
theorem takeSign_ok {b : Nat} {l l' : Toks} (h : takeSign b l = .ok l') : signIs b l = true ∧ l' = l.drop 1 ∧ l'.length < l.length := by
  unfold takeSign at h
  cases e : signIs b l with
  | false =>
    rw [e, if_neg Bool.false_ne_true] at h
    cases h
  | true =>
    rw [e, if_pos rfl] at h
    cases h
    cases l with
    | nil => cases e
    | cons x r => exact ⟨rfl, rfl, by simp⟩
theorem takeNum_num (lo hi p n : Nat) (r : Toks) : takeNum lo hi (⟨p, .num n⟩ :: r) = if lo ≤ n ∧ n ≤ hi then .ok (n, r) else .error ⟨3, p⟩ := rfl
theorem takeNum_ok {lo hi n : Nat} {l l' : Toks} (h : takeNum lo hi l = .ok (n, l')) : lo ≤ n ∧ n ≤ hi ∧ l'.length < l.length := by
  unfold takeNum at h
  split at h
  · rename_i p m r
    split at h
    · cases h
      rename_i q
      exact ⟨q.1, q.2, by simp⟩
    · cases h
  · cases h
theorem takeInt_ok {m : Nat} {z : Int} {l l' : Toks} (h : takeInt m l = .ok (z, l')) : -(m : Int) ≤ z ∧ z ≤ m ∧ l'.length < l.length := by
  unfold takeInt at h
  split at h
  · obtain ⟨⟨n, q⟩, h1, h2⟩ := got_map h
    try dsimp only at h2
    cases h2
    have := takeNum_ok h1
    rw [List.length_drop] at this
    omega
  · obtain ⟨⟨n, q⟩, h1, h2⟩ := got_map h
    try dsimp only at h2
    cases h2
    have := takeNum_ok h1
    omega
theorem nameAt_is (l : Toks) : nameAt l = if wordIs "a" l = true then some 0 else if wordIs "b" l = true then some 1 else if wordIs "c" l = true then some 2 else if wordIs "d" l = true then some 3 else none := by
  unfold Vaacla.nameAt NAMES
  simp only [List.findIdx?_cons, List.findIdx?_nil]
  cases wordIs "a" l <;> cases wordIs "b" l <;> cases wordIs "c" l <;> cases wordIs "d" l <;> rfl
theorem nameAt_nil : nameAt [] = none := by
  rw [nameAt_is]
  rfl
theorem takeName_ok {n i : Nat} {l l' : Toks} (h : takeName n l = .ok (i, l')) : i < n ∧ nameAt l = some i ∧ l' = l.drop 1 ∧ l'.length < l.length := by
  unfold takeName at h
  cases e : nameAt l with
  | none =>
    rw [e] at h
    cases h
  | some j =>
    rw [e] at h
    dsimp only at h
    split at h
    · cases h
      rename_i q
      refine ⟨q, rfl, rfl, ?_⟩
      cases l with
      | nil =>
        rw [nameAt_nil] at e
        cases e
      | cons x r => simp
    · cases h
theorem takeMore_ok {m : Nat} {z : Int} {l l' : Toks} (h : takeMore m l = .ok (z, l')) : -(m : Int) ≤ z ∧ z ≤ m ∧ l'.length ≤ l.length := by
  unfold takeMore at h
  split at h
  · obtain ⟨⟨n, q⟩, h1, h2⟩ := got_map h
    try dsimp only at h2
    cases h2
    have := takeNum_ok h1
    rw [List.length_drop] at this
    omega
  · split at h
    · obtain ⟨⟨n, q⟩, h1, h2⟩ := got_map h
      try dsimp only at h2
      cases h2
      have := takeNum_ok h1
      rw [List.length_drop] at this
      omega
    · cases h
      omega
/-- a whole number, or a counter and what may stand behind it -/
def takeBound (n most : Nat) (l : Toks) : Got (Gv × Toks) := match nameAt l with
  | some _ => (takeName n l).bind fun i => (takeMore most i.2).map fun k => (⟨some i.1, k.1⟩, k.2)
  | none => (takeInt most l).map fun k => (⟨none, k.1⟩, k.2)
theorem takeGiven_is (n : Nat) (l : Toks) : takeGiven n l = takeBound n 99 l := rfl
theorem takeBound_ok {n m : Nat} {g : Gv} {l l' : Toks} (h : takeBound n m l = .ok (g, l')) : (∀ i, g.source = some i → i < n) ∧ -(m : Int) ≤ g.add ∧ g.add ≤ m ∧ l'.length < l.length := by
  unfold takeBound at h
  split at h
  · obtain ⟨⟨i, l1⟩, h1, h2⟩ := got_bind h
    obtain ⟨⟨k, l2⟩, h3, h4⟩ := got_map h2
    try dsimp only at h4
    cases h4
    have a := takeName_ok h1
    have b := takeMore_ok h3
    dsimp only at b
    refine ⟨fun j q => ?_, b.1, b.2.1, by omega⟩
    cases q
    exact a.1
  · obtain ⟨⟨k, l2⟩, h3, h4⟩ := got_map h
    try dsimp only at h4
    cases h4
    have b := takeInt_ok h3
    exact ⟨fun j q => (by cases q), b.1, b.2.1, b.2.2⟩
def testOf (x : Nat) (g : Gv) : Test := match g.source with
  | none => .atMost x g.add
  | some y => .below x y g.add
theorem takeTest_is (n : Nat) (l : Toks) : takeTest n l = (takeName n l).bind fun x => if wordIs "atmost" x.2 = true then (takeBound n 999999 (x.2.drop 1)).bind fun g => .ok (testOf x.1 g.1, g.2)
    else if wordIs "atleast" x.2 = true then (takeInt 999999 (x.2.drop 1)).bind fun k => .ok (.atLeast x.1 k.1, k.2)
    else if wordIs "rem" x.2 = true then (takeModulus (x.2.drop 1)).bind fun m => (takeNum 0 (m.1 - 1) m.2).bind fun k => .ok (.rem x.1 m.1 k.1, k.2) else wrong x.2 := by
  unfold takeTest
  congr 1
  funext x
  dsimp only
  split
  · unfold takeBound
    cases e : Vaacla.nameAt (x.2.drop 1) with
    | some j =>
      dsimp only
      rw [bind_bind]
      congr 1
      funext y
      rw [map_is, map_is, bind_bind]
      rfl
    | none =>
      dsimp only
      rw [map_is, map_is, bind_bind]
      rfl
  · split
    · rw [map_is]
    · split
      · congr 1
      · rfl
theorem takeModulus_ok {n : Nat} {l l' : Toks} (h : takeModulus l = .ok (n, l')) : VaaclBase.MODULI.contains n = true ∧ l'.length < l.length := by
  unfold takeModulus at h
  split at h
  · split at h
    · cases h
      rename_i q
      exact ⟨q, by simp⟩
    · cases h
  · cases h
theorem modulus_in {m : Nat} (h : VaaclBase.MODULI.contains m = true) : 2 ≤ m ∧ m ≤ 6 := by
  unfold VaaclBase.MODULI at h
  simp at h
  omega
theorem takeTest_ok {n : Nat} {t : Test} {l l' : Toks} (h : takeTest n l = .ok (t, l')) : okTest n t = true ∧ l'.length < l.length ∧ (nameAt l).isSome = true := by
  rw [takeTest_is] at h
  obtain ⟨⟨x, l1⟩, h1, h2⟩ := got_bind h
  have a := takeName_ok h1
  dsimp only at h2
  have ha : (nameAt l).isSome = true := by rw [a.2.1]; rfl
  split at h2
  · obtain ⟨⟨g, l2⟩, h3, h4⟩ := got_bind h2
    try dsimp only at h4
    cases h4
    have b := takeBound_ok h3
    rw [List.length_drop] at b
    refine ⟨?_, by omega, ha⟩
    unfold testOf
    cases e : g.source with
    | none =>
      unfold okTest VaaclBase.LIMIT
      simp only [Bool.and_eq_true, decide_eq_true_eq]
      omega
    | some y =>
      unfold okTest VaaclBase.LIMIT
      have := b.1 y e
      simp only [Bool.and_eq_true, decide_eq_true_eq]
      omega
  · split at h2
    · obtain ⟨⟨k, l2⟩, h3, h4⟩ := got_bind h2
      try dsimp only at h4
      cases h4
      have b := takeInt_ok h3
      rw [List.length_drop] at b
      refine ⟨?_, by omega, ha⟩
      unfold okTest VaaclBase.LIMIT
      simp only [Bool.and_eq_true, decide_eq_true_eq]
      omega
    · split at h2
      · obtain ⟨⟨m, l2⟩, h3, h4⟩ := got_bind h2
        obtain ⟨⟨k, l3⟩, h5, h6⟩ := got_bind h4
        try dsimp only at h6
        cases h6
        have b := takeModulus_ok h3
        have c := takeNum_ok h5
        have d := modulus_in b.1
        rw [List.length_drop] at b
        refine ⟨?_, by dsimp only at c; omega, ha⟩
        unfold okTest
        simp only [Bool.and_eq_true, decide_eq_true_eq]
        exact ⟨a.1, b.1, by dsimp only at c; omega⟩
      · cases h2
theorem takeTests_s (n f : Nat) (done : Guard) (l : Toks) : takeTests n (f + 1) done l = if (decide (3 ≤ done.length) && (nameAt l).isSome) = true then .error ⟨4, here l⟩ else (takeTest n l).bind fun t => if wordIs "and" t.2 = true then takeTests n f (done ++ [t.1]) (t.2.drop 1) else .ok (done ++ [t.1], t.2) := rfl
theorem takeTest_nil (n : Nat) : takeTest n [] = wrong [] := by
  rw [takeTest_is]
  unfold takeName
  rw [nameAt_nil]
  rfl
theorem tests_fuel (n : Nat) : ∀ (f g : Nat) (done : Guard) (l : Toks), l.length ≤ f → l.length ≤ g → takeTests n f done l = takeTests n g done l
  | 0, 0, _, _, _, _ => rfl
  | 0, g + 1, done, l, h, _ => by
    have h : l = [] := List.length_eq_zero_iff.mp (Nat.le_zero.mp h)
    subst h
    rw [takeTests_s, nameAt_nil, takeTest_nil]
    show wrong [] = if (decide (3 ≤ done.length) && false) = true then _ else _
    rw [Bool.and_false, if_neg Bool.false_ne_true]
    rfl
  | f + 1, 0, done, l, _, h => by
    have h : l = [] := List.length_eq_zero_iff.mp (Nat.le_zero.mp h)
    subst h
    rw [takeTests_s, nameAt_nil, takeTest_nil]
    show (if (decide (3 ≤ done.length) && false) = true then _ else _) = wrong []
    rw [Bool.and_false, if_neg Bool.false_ne_true]
    rfl
  | f + 1, g + 1, done, l, h1, h2 => by
    rw [takeTests_s, takeTests_s]
    split
    · rfl
    · cases e : takeTest n l with
      | error q => rfl
      | ok t =>
        have := takeTest_ok (t := t.1) (l' := t.2) e
        show (if wordIs "and" t.2 = true then _ else _) = if wordIs "and" t.2 = true then _ else _
        split
        · exact tests_fuel n f g _ _ (by rw [List.length_drop]; omega) (by rw [List.length_drop]; omega)
        · rfl
/-- the tests, the fuel being enough -/
def tsF (n : Nat) (done : Guard) (l : Toks) : Got (Guard × Toks) := takeTests n l.length done l
theorem tsF_is (n : Nat) (done : Guard) {l : Toks} (hl : l ≠ []) : tsF n done l = if (decide (3 ≤ done.length) && (nameAt l).isSome) = true then .error ⟨4, here l⟩ else (takeTest n l).bind fun t => if wordIs "and" t.2 = true then tsF n (done ++ [t.1]) (t.2.drop 1) else .ok (done ++ [t.1], t.2) := by
  have hp : l.length ≠ 0 := fun q => hl (List.length_eq_zero_iff.mp q)
  obtain ⟨f, hf⟩ : ∃ f, l.length = f + 1 := ⟨l.length - 1, by omega⟩
  unfold tsF
  rw [hf, takeTests_s]
  split
  · rfl
  · cases e : takeTest n l with
    | error q => rfl
    | ok t =>
      have := takeTest_ok (t := t.1) (l' := t.2) e
      show (if wordIs "and" t.2 = true then _ else _) = if wordIs "and" t.2 = true then _ else _
      split
      · exact tests_fuel n _ _ _ _ (by rw [List.length_drop]; omega) (Nat.le_refl _)
      · rfl
theorem takeTests_ok {n : Nat} : ∀ (f : Nat) (done g : Guard) (l l' : Toks), done.length ≤ 3 → (∀ t ∈ done, okTest n t = true) → takeTests n f done l = .ok (g, l') → OkGuard n g ∧ l'.length < l.length
  | 0, _, _, _, _, _, _, h => by cases h
  | f + 1, done, g, l, l', h3, hd, h => by
    rw [takeTests_s] at h
    split at h
    · cases h
    · rename_i q
      obtain ⟨⟨t, l1⟩, h1, h2⟩ := got_bind h
      have a := takeTest_ok h1
      have h3' : done.length < 3 := by
        rw [a.2.2, Bool.and_true, decide_eq_true_eq] at q
        omega
      have hd' : ∀ u ∈ done ++ [t], okTest n u = true := fun u hu => by
        rcases List.mem_append.mp hu with z | z
        · exact hd u z
        · rw [List.mem_singleton.mp z]
          exact a.1
      dsimp only at h2
      split at h2
      · have := takeTests_ok f _ g _ l' (by rw [List.length_append, List.length_singleton]; omega) hd' h2
        rw [List.length_drop] at this
        exact ⟨this.1, by omega⟩
      · cases h2
        exact ⟨⟨by rw [List.length_append, List.length_singleton]; omega, hd'⟩, a.2.1⟩
theorem takeGuard_ok {n : Nat} {g : Guard} {l l' : Toks} (h : takeGuard n l = .ok (g, l')) : OkGuard n g ∧ l'.length ≤ l.length := by
  unfold takeGuard at h
  split at h
  · cases h
    exact ⟨⟨Nat.zero_le _, fun t q => by cases q⟩, by rw [List.length_drop]; omega⟩
  · have := takeTests_ok _ _ _ _ _ (Nat.zero_le _) (fun t q => by cases q) h
    exact ⟨this.1, by omega⟩
theorem takeGivens_s (n f : Nat) (done : List Nat) (m : Mv) (l : Toks) : takeGivens n (f + 1) done m l = (takeName n l).bind fun i => if done.contains i.1 = true then .error ⟨5, here l⟩ else (takeWord "is" i.2).bind fun q => (takeGiven n q).bind fun g =>
    if signIs 44 g.2 = true then takeGivens n f (i.1 :: done) (m.set i.1 g.1) (g.2.drop 1) else .ok (m.set i.1 g.1, g.2) := rfl
/-- one counter that's given something -/
def takeGive (n : Nat) (done : List Nat) (m : Mv) (l : Toks) : Got ((List Nat × Mv) × Toks) := (takeName n l).bind fun i => if done.contains i.1 = true then .error ⟨5, here l⟩ else (takeWord "is" i.2).bind fun q => (takeBound n 99 q).bind fun g => .ok ((i.1 :: done, m.set i.1 g.1), g.2)
theorem takeGivens_g (n f : Nat) (done : List Nat) (m : Mv) (l : Toks) : takeGivens n (f + 1) done m l = (takeGive n done m l).bind fun u => if signIs 44 u.2 = true then takeGivens n f u.1.1 u.1.2 (u.2.drop 1) else .ok (u.1.2, u.2) := by
  rw [takeGivens_s]
  unfold takeGive
  rw [bind_bind]
  congr 1
  funext i
  split
  · rfl
  · rw [bind_bind]
    congr 1
    funext q
    rw [bind_bind, takeGiven_is]
    rfl
theorem takeGive_ok {n : Nat} {done d' : List Nat} {m m' : Mv} {l l' : Toks} (hm : OkMove n m) (h : takeGive n done m l = .ok ((d', m'), l')) : OkMove n m' ∧ l'.length < l.length ∧ ∃ i, i < n ∧ d' = i :: done ∧ done.contains i = false := by
  unfold takeGive at h
  obtain ⟨⟨i, l1⟩, h1, h2⟩ := got_bind h
  have a := takeName_ok h1
  dsimp only at h2
  split at h2
  · cases h2
  · rename_i hc
    obtain ⟨q, h3, h4⟩ := got_bind h2
    have b := takeWord_ok h3
    obtain ⟨⟨g, l2⟩, h5, h6⟩ := got_bind h4
    have c := takeBound_ok h5
    try dsimp only at h6
    cases h6
    refine ⟨⟨by rw [List.length_set]; exact hm.1, fun u hu => ?_⟩, by omega, i, a.1, rfl, by simpa using hc⟩
    rcases List.mem_or_eq_of_mem_set hu with z | z
    · exact hm.2 u z
    · rw [z]
      exact ⟨c.1, c.2.1, c.2.2.1⟩
theorem takeGive_nil (n : Nat) (done : List Nat) (m : Mv) : takeGive n done m [] = wrong [] := by
  unfold takeGive takeName
  rw [nameAt_nil]
  rfl
theorem takeGive_len {n : Nat} {done d' : List Nat} {m m' : Mv} {l l' : Toks} (h : takeGive n done m l = .ok ((d', m'), l')) : l'.length < l.length := by
  unfold takeGive at h
  obtain ⟨⟨i, l1⟩, h1, h2⟩ := got_bind h
  have a := takeName_ok h1
  dsimp only at h2
  split at h2
  · cases h2
  · obtain ⟨q, h3, h4⟩ := got_bind h2
    have b := takeWord_ok h3
    obtain ⟨⟨g, l2⟩, h5, h6⟩ := got_bind h4
    have c := takeBound_ok h5
    try dsimp only at h6
    cases h6
    omega
theorem givens_fuel (n : Nat) : ∀ (f g : Nat) (done : List Nat) (m : Mv) (l : Toks), l.length ≤ f → l.length ≤ g → takeGivens n f done m l = takeGivens n g done m l
  | 0, 0, _, _, _, _, _ => rfl
  | 0, g + 1, done, m, l, h, _ => by
    have h : l = [] := List.length_eq_zero_iff.mp (Nat.le_zero.mp h)
    subst h
    rw [takeGivens_g, takeGive_nil]
    rfl
  | f + 1, 0, done, m, l, _, h => by
    have h : l = [] := List.length_eq_zero_iff.mp (Nat.le_zero.mp h)
    subst h
    rw [takeGivens_g, takeGive_nil]
    rfl
  | f + 1, g + 1, done, m, l, h1, h2 => by
    rw [takeGivens_g, takeGivens_g]
    cases e : takeGive n done m l with
    | error q => rfl
    | ok u =>
      have := takeGive_len (d' := u.1.1) (m' := u.1.2) (l' := u.2) e
      show (if signIs 44 u.2 = true then _ else _) = if signIs 44 u.2 = true then _ else _
      split
      · exact givens_fuel n f g _ _ _ (by rw [List.length_drop]; omega) (by rw [List.length_drop]; omega)
      · rfl
def gvF (n : Nat) (done : List Nat) (m : Mv) (l : Toks) : Got (Mv × Toks) := takeGivens n l.length done m l
theorem gvF_is (n : Nat) (done : List Nat) (m : Mv) {l : Toks} (hl : l ≠ []) : gvF n done m l = (takeGive n done m l).bind fun u => if signIs 44 u.2 = true then gvF n u.1.1 u.1.2 (u.2.drop 1) else .ok (u.1.2, u.2) := by
  have hp : l.length ≠ 0 := fun q => hl (List.length_eq_zero_iff.mp q)
  obtain ⟨f, hf⟩ : ∃ f, l.length = f + 1 := ⟨l.length - 1, by omega⟩
  unfold gvF
  rw [hf, takeGivens_g]
  cases e : takeGive n done m l with
  | error q => rfl
  | ok u =>
    have := takeGive_len (d' := u.1.1) (m' := u.1.2) (l' := u.2) e
    show (if signIs 44 u.2 = true then _ else _) = if signIs 44 u.2 = true then _ else _
    split
    · exact givens_fuel n _ _ _ _ _ (by rw [List.length_drop]; omega) (Nat.le_refl _)
    · rfl
theorem takeGivens_ok {n : Nat} : ∀ (f : Nat) (done : List Nat) (m m' : Mv) (l l' : Toks), OkMove n m → takeGivens n f done m l = .ok (m', l') → OkMove n m' ∧ l'.length < l.length
  | 0, _, _, _, _, _, _, h => by cases h
  | f + 1, done, m, m', l, l', hm, h => by
    rw [takeGivens_g] at h
    obtain ⟨⟨⟨d1, m1⟩, l1⟩, h1, h2⟩ := got_bind h
    have a := takeGive_ok hm h1
    dsimp only at h2
    split at h2
    · have := takeGivens_ok f _ _ m' _ l' a.1 h2
      rw [List.length_drop] at this
      exact ⟨this.1, by omega⟩
    · cases h2
      exact ⟨a.1, a.2.1⟩
theorem still_ok (n : Nat) : OkMove n (VaaclBase.still n) := by
  unfold VaaclBase.still
  refine ⟨by simp, fun g hg => ?_⟩
  obtain ⟨i, hi, rfl⟩ := List.mem_map.mp hg
  refine ⟨fun j q => ?_, (by decide : (-99 : Int) ≤ 0), (by decide : (0 : Int) ≤ 99)⟩
  cases q
  exact List.mem_range.mp hi
theorem takeMove_is (n : Nat) (l : Toks) : takeMove n l = if wordIs "nothing" l = true then .ok (VaaclBase.still n, l.drop 1) else gvF n [] (VaaclBase.still n) l := rfl
theorem takeMove_ok {n : Nat} {m : Mv} {l l' : Toks} (h : takeMove n l = .ok (m, l')) : OkMove n m ∧ l'.length ≤ l.length := by
  rw [takeMove_is] at h
  split at h
  · cases h
    exact ⟨still_ok n, by rw [List.length_drop]; omega⟩
  · have := takeGivens_ok _ _ _ _ _ _ (still_ok n) h
    exact ⟨this.1, by omega⟩
/-- one branch -/
def takeBranch (n : Nat) (l : Toks) : Got (Branch × Toks) := (takeWord "when" l).bind fun l => (takeGuard n l).bind fun g => (takeWord "do" g.2).bind fun q => (takeMove n q).bind fun m => (takeSign 59 m.2).bind fun z => .ok (⟨g.1, m.1⟩, z)
theorem takeBranch_ok {n : Nat} {b : Branch} {l l' : Toks} (h : takeBranch n l = .ok (b, l')) : OkBranch n b ∧ l'.length < l.length ∧ wordIs "when" l = true := by
  unfold takeBranch at h
  obtain ⟨l1, h1, h⟩ := got_bind h
  obtain ⟨⟨g, l2⟩, h2, h⟩ := got_bind h
  obtain ⟨l3, h3, h⟩ := got_bind h
  obtain ⟨⟨m, l4⟩, h4, h⟩ := got_bind h
  obtain ⟨l5, h5, h⟩ := got_bind h
  try dsimp only at h
  cases h
  have a1 := takeWord_ok h1
  have a2 := takeGuard_ok h2
  have a3 := takeWord_ok h3
  have a4 := takeMove_ok h4
  have a5 := takeSign_ok h5
  exact ⟨⟨a2.1, a4.1⟩, by dsimp only at a3 a5; omega, a1.1⟩
theorem takeBranches_s (n f : Nat) (done : List Branch) (l : Toks) : takeBranches n (f + 1) done l = if (signIs 125 l && !done.isEmpty) = true then .ok (done, l.drop 1) else if (!wordIs "when" l) = true then wrong l else if 3 ≤ done.length then .error ⟨4, here l⟩ else
    (takeBranch n l).bind fun b => takeBranches n f (done ++ [b.1]) b.2 := by
  have e : takeBranches n (f + 1) done l = if (signIs 125 l && !done.isEmpty) = true then .ok (done, l.drop 1) else if (!wordIs "when" l) = true then wrong l else if 3 ≤ done.length then .error ⟨4, here l⟩ else
    (takeGuard n (l.drop 1)).bind fun g => (takeWord "do" g.2).bind fun q => (takeMove n q).bind fun m => (takeSign 59 m.2).bind fun z => takeBranches n f (done ++ [⟨g.1, m.1⟩]) z := rfl
  rw [e]
  split
  · rfl
  · split
    · rfl
    · rename_i hw
      split
      · rfl
      · have hw : wordIs "when" l = true := by simpa using hw
        unfold takeBranch
        have e2 : takeWord "when" l = .ok (l.drop 1) := by unfold takeWord; rw [if_pos hw]
        rw [e2]
        show _ = (((takeGuard n (l.drop 1)).bind _).bind _)
        rw [bind_bind]
        congr 1
        funext g
        rw [bind_bind]
        congr 1
        funext q
        rw [bind_bind]
        congr 1
        funext m
        rw [bind_bind]
        rfl
theorem br_nil (n f : Nat) (done : List Branch) : takeBranches n (f + 1) done [] = wrong [] := by
  rw [takeBranches_s, s_nil, w_nil]
  rfl
theorem branches_fuel (n : Nat) : ∀ (f g : Nat) (done : List Branch) (l : Toks), l.length ≤ f → l.length ≤ g → takeBranches n f done l = takeBranches n g done l
  | 0, 0, _, _, _, _ => rfl
  | 0, g + 1, done, l, h, _ => by
    have h : l = [] := List.length_eq_zero_iff.mp (Nat.le_zero.mp h)
    subst h
    rw [br_nil]
    rfl
  | f + 1, 0, done, l, _, h => by
    have h : l = [] := List.length_eq_zero_iff.mp (Nat.le_zero.mp h)
    subst h
    rw [br_nil]
    rfl
  | f + 1, g + 1, done, l, h1, h2 => by
    rw [takeBranches_s, takeBranches_s]
    split
    · rfl
    split
    · rfl
    split
    · rfl
    cases e : takeBranch n l with
    | error q => rfl
    | ok t =>
      have := takeBranch_ok (b := t.1) (l' := t.2) e
      exact branches_fuel n f g _ t.2 (by omega) (by omega)
def brF (n : Nat) (done : List Branch) (l : Toks) : Got (Loop × Toks) := takeBranches n l.length done l
theorem brF_is (n : Nat) (done : List Branch) {l : Toks} (hl : l ≠ []) : brF n done l = if (signIs 125 l && !done.isEmpty) = true then .ok (done, l.drop 1) else if (!wordIs "when" l) = true then wrong l else if 3 ≤ done.length then .error ⟨4, here l⟩ else
    (takeBranch n l).bind fun b => brF n (done ++ [b.1]) b.2 := by
  have hp : l.length ≠ 0 := fun q => hl (List.length_eq_zero_iff.mp q)
  obtain ⟨f, hf⟩ : ∃ f, l.length = f + 1 := ⟨l.length - 1, by omega⟩
  unfold brF
  rw [hf, takeBranches_s]
  split
  · rfl
  split
  · rfl
  split
  · rfl
  cases e : takeBranch n l with
  | error q => rfl
  | ok t =>
    have := takeBranch_ok (b := t.1) (l' := t.2) e
    exact branches_fuel n _ _ _ t.2 (by omega) (Nat.le_refl _)
theorem takeBranches_ok {n : Nat} : ∀ (f : Nat) (done b : List Branch) (l l' : Toks), done.length ≤ 3 → (∀ t ∈ done, OkBranch n t) → takeBranches n f done l = .ok (b, l') → OkBranches n b ∧ l'.length < l.length
  | 0, _, _, _, _, _, _, h => by cases h
  | f + 1, done, b, l, l', h3, hd, h => by
    rw [takeBranches_s] at h
    split at h
    · rename_i q
      cases h
      rw [Bool.and_eq_true] at q
      cases l with
      | nil =>
        rw [s_nil] at q
        exact absurd q.1 (by decide)
      | cons x r =>
        refine ⟨⟨?_, h3, hd⟩, by simp⟩
        cases done with
        | nil => exact absurd q.2 (by decide)
        | cons y s => simp
    split at h
    · cases h
    split at h
    · cases h
    obtain ⟨⟨x, l1⟩, h1, h2⟩ := got_bind h
    have a := takeBranch_ok h1
    have := takeBranches_ok f _ b _ l' (by rw [List.length_append, List.length_singleton]; omega) (fun u hu => by
      rcases List.mem_append.mp hu with z | z
      · exact hd u z
      · rw [List.mem_singleton.mp z]
        exact a.1) h2
    exact ⟨this.1, by dsimp only at this; omega⟩
/-- one piece -/
def takePiece (n : Nat) (l : Toks) : Got (Piece × Toks) := if wordIs "do" l = true then (takeMove n (l.drop 1)).bind fun m => (takeSign 59 m.2).bind fun z => .ok (.move m.1, z)
  else (takeWord "loop" l).bind fun l => (takeSign 123 l).bind fun q => (brF n [] q).bind fun b => .ok (.loop b.1, b.2)
theorem takePiece_ok {n : Nat} {p : Piece} {l l' : Toks} (h : takePiece n l = .ok (p, l')) : OkPiece n p ∧ l'.length < l.length ∧ (wordIs "do" l || wordIs "loop" l) = true := by
  unfold takePiece at h
  split at h
  · rename_i hw
    obtain ⟨⟨m, l1⟩, h1, h⟩ := got_bind h
    obtain ⟨l2, h2, h⟩ := got_bind h
    try dsimp only at h
    cases h
    have a := takeMove_ok h1
    have b := takeSign_ok h2
    rw [List.length_drop] at a
    refine ⟨⟨Nat.le_refl _, (by decide : 1 ≤ 3), fun x hx => ?_⟩, by dsimp only at b; omega, by rw [hw]; rfl⟩
    rw [List.mem_singleton.mp hx]
    exact ⟨⟨Nat.zero_le _, fun t q => by cases q⟩, a.1⟩
  · obtain ⟨l1, h1, h⟩ := got_bind h
    obtain ⟨l2, h2, h⟩ := got_bind h
    obtain ⟨⟨b, l3⟩, h3, h⟩ := got_bind h
    try dsimp only at h
    cases h
    have a1 := takeWord_ok h1
    have a2 := takeSign_ok h2
    have a3 := takeBranches_ok _ _ _ _ _ (Nat.zero_le _) (fun t q => by cases q) h3
    exact ⟨a3.1, by omega, by rw [a1.1, Bool.or_true]⟩
def isEnding (l : Toks) : Bool := match l with
  | ⟨_, .ending⟩ :: _ => true
  | _ => false
theorem takePieces_s (n f : Nat) (done : List Piece) (l : Toks) : takePieces n (f + 1) done l = if isEnding l = true then .ok done else if (!wordIs "do" l && !wordIs "loop" l) = true then wrong l else if 5 ≤ done.length then .error ⟨4, here l⟩ else
    (takePiece n l).bind fun b => takePieces n f (done ++ [b.1]) b.2 := by
  have e : takePieces n (f + 1) done l = match l with
    | ⟨_, .ending⟩ :: _ => .ok done
    | _ => if (!wordIs "do" l && !wordIs "loop" l) = true then wrong l else if 5 ≤ done.length then .error ⟨4, here l⟩
      else if wordIs "do" l = true then (takeMove n (l.drop 1)).bind fun m => (takeSign 59 m.2).bind fun z => takePieces n f (done ++ [.move m.1]) z
      else (takeSign 123 (l.drop 1)).bind fun q => (takeBranches n l.length [] q).bind fun b => takePieces n f (done ++ [.loop b.1]) b.2 := rfl
  have e2 : (if (!wordIs "do" l && !wordIs "loop" l) = true then wrong l else if 5 ≤ done.length then .error ⟨4, here l⟩
      else if wordIs "do" l = true then (takeMove n (l.drop 1)).bind fun m => (takeSign 59 m.2).bind fun z => takePieces n f (done ++ [.move m.1]) z
      else (takeSign 123 (l.drop 1)).bind fun q => (takeBranches n l.length [] q).bind fun b => takePieces n f (done ++ [.loop b.1]) b.2) = (if (!wordIs "do" l && !wordIs "loop" l) = true then wrong l else if 5 ≤ done.length then .error ⟨4, here l⟩ else
    (takePiece n l).bind fun b => takePieces n f (done ++ [b.1]) b.2) := by
    split
    · rfl
    rename_i hw
    split
    · rfl
    unfold takePiece
    cases hd : wordIs "do" l with
    | true =>
      rw [if_pos rfl, if_pos rfl, bind_bind]
      congr 1
      funext m
      rw [bind_bind]
      rfl
    | false =>
      rw [hd] at hw
      have hl : wordIs "loop" l = true := by simpa using hw
      rw [if_neg Bool.false_ne_true, if_neg Bool.false_ne_true]
      have e3 : takeWord "loop" l = .ok (l.drop 1) := by unfold takeWord; rw [if_pos hl]
      rw [e3]
      show _ = ((takeSign 123 (l.drop 1)).bind _).bind _
      rw [bind_bind]
      cases e4 : takeSign 123 (l.drop 1) with
      | error q => rfl
      | ok q =>
        show (takeBranches n l.length [] q).bind _ = ((brF n [] q).bind _).bind _
        rw [bind_bind]
        have a := takeSign_ok e4
        rw [List.length_drop] at a
        unfold brF
        rw [branches_fuel n l.length q.length [] q (by omega) (Nat.le_refl _)]
        rfl
  rw [e, ← e2]
  unfold isEnding
  split <;> rfl
theorem pieces_fuel (n : Nat) : ∀ (f g : Nat) (done : List Piece) (l : Toks), l.length ≤ f → l.length ≤ g → takePieces n f done l = takePieces n g done l
  | 0, 0, _, _, _, _ => rfl
  | 0, g + 1, done, l, h, _ => by
    have h : l = [] := List.length_eq_zero_iff.mp (Nat.le_zero.mp h)
    subst h
    rw [takePieces_s, w_nil, w_nil]
    rfl
  | f + 1, 0, done, l, _, h => by
    have h : l = [] := List.length_eq_zero_iff.mp (Nat.le_zero.mp h)
    subst h
    rw [takePieces_s, w_nil, w_nil]
    rfl
  | f + 1, g + 1, done, l, h1, h2 => by
    rw [takePieces_s, takePieces_s]
    split
    · rfl
    split
    · rfl
    split
    · rfl
    cases e : takePiece n l with
    | error q => rfl
    | ok t =>
      have := takePiece_ok (p := t.1) (l' := t.2) e
      exact pieces_fuel n f g _ t.2 (by omega) (by omega)
def pcF (n : Nat) (done : List Piece) (l : Toks) : Got (List Piece) := takePieces n l.length done l
theorem pcF_is (n : Nat) (done : List Piece) {l : Toks} (hl : l ≠ []) : pcF n done l = if isEnding l = true then .ok done else if (!wordIs "do" l && !wordIs "loop" l) = true then wrong l else if 5 ≤ done.length then .error ⟨4, here l⟩ else
    (takePiece n l).bind fun b => pcF n (done ++ [b.1]) b.2 := by
  have hp : l.length ≠ 0 := fun q => hl (List.length_eq_zero_iff.mp q)
  obtain ⟨f, hf⟩ : ∃ f, l.length = f + 1 := ⟨l.length - 1, by omega⟩
  unfold pcF
  rw [hf, takePieces_s]
  split
  · rfl
  split
  · rfl
  split
  · rfl
  cases e : takePiece n l with
  | error q => rfl
  | ok t =>
    have := takePiece_ok (p := t.1) (l' := t.2) e
    exact pieces_fuel n _ _ _ t.2 (by omega) (Nat.le_refl _)
theorem takePieces_ok {n : Nat} : ∀ (f : Nat) (done b : List Piece) (l : Toks), done.length ≤ 5 → (∀ t ∈ done, OkPiece n t) → takePieces n f done l = .ok b → OkPieces n b
  | 0, _, _, _, _, _, h => by cases h
  | f + 1, done, b, l, h3, hd, h => by
    rw [takePieces_s] at h
    split at h
    · cases h
      exact ⟨h3, hd⟩
    split at h
    · cases h
    split at h
    · cases h
    obtain ⟨⟨x, l1⟩, h1, h2⟩ := got_bind h
    have a := takePiece_ok h1
    exact takePieces_ok f _ b _ (by rw [List.length_append, List.length_singleton]; omega) (fun u hu => by
      rcases List.mem_append.mp hu with z | z
      · exact hd u z
      · rw [List.mem_singleton.mp z]
        exact a.1) h2
/-- the program of these tokens -/
def takeProg (l : Toks) : Got Prg := (takeWord "counters" l).bind fun q => (takeNum 1 4 q).bind fun n => (takeSign 59 n.2).bind fun z => (pcF n.1 [] z).bind fun p => .ok ⟨n.1, p⟩
theorem read_is (t : List Nat) : Vaacla.read t = (tokens t).bind takeProg := by
  show (tokens t).bind (fun l => (takeWord "counters" l).bind fun q => (takeNum 1 4 q).bind fun n => (takeSign 59 n.2).bind fun z => (takePieces n.1 (l.length + 1) [] z).map fun p => (⟨n.1, p⟩ : Prg)) = _
  congr 1
  funext l
  unfold takeProg
  cases e1 : takeWord "counters" l with
  | error q => rfl
  | ok q =>
    have a1 := takeWord_ok e1
    show (takeNum 1 4 q).bind _ = (takeNum 1 4 q).bind _
    cases e2 : takeNum 1 4 q with
    | error z => rfl
    | ok u =>
      have a2 := takeNum_ok (n := u.1) (l' := u.2) e2
      show (takeSign 59 u.2).bind _ = (takeSign 59 u.2).bind _
      cases e3 : takeSign 59 u.2 with
      | error z => rfl
      | ok z =>
        have a3 := takeSign_ok e3
        show (takePieces u.1 (l.length + 1) [] z).map _ = (pcF u.1 [] z).bind _
        unfold pcF
        rw [pieces_fuel u.1 (l.length + 1) z.length [] z (by omega) (Nat.le_refl _), map_is]
theorem takeProg_ok {l : Toks} {p : Prg} (h : takeProg l = .ok p) : OkProg p := by
  unfold takeProg at h
  obtain ⟨q, h1, h⟩ := got_bind h
  obtain ⟨⟨n, l2⟩, h2, h⟩ := got_bind h
  obtain ⟨z, h3, h⟩ := got_bind h
  obtain ⟨ps, h4, h⟩ := got_bind h
  try dsimp only at h
  cases h
  have a := takeNum_ok h2
  exact ⟨a.1, a.2.1, takePieces_ok _ _ _ _ (Nat.zero_le _) (fun t q => by cases q) h4⟩
end CL

set_option Elab.async false
set_option linter.all false
set_option maxRecDepth 100000
set_option maxHeartbeats 4000000
namespace CL
open PySem PySem.Spec PyProof.Rows L2
open C8 (Cal Met Mak pe_c pe_mk pe_mt pe_mt0 pe_gc)
open VaaclBase (Values Test Guard Branch Loop Piece okTest)
open Vaacla (isLetter SIGNS Token Toks Got wordIs signIs here wrong takeSign takeWord takeNum takeInt takeName takeMore takeMove takeModulus takeTest takeGuard)
variable {P : PySem.Program} {w : World} {K : PySem.W.Frag} {mg : Str → Option Value} {base : Heap} {A : Ad}
/-! ## Reader: a list of tokens read -/
def rF (ta : Addr) (i : Int) (c : Int) : List (Str × V) := [("tokens", .ref ta), ("at", .int i), ("counters", .int c)]
theorem rF_t (ta : Addr) (i c : Int) : (rF ta i c).lookup ("tokens" : Str) = some (.ref ta) := lk_here
theorem rF_a (ta : Addr) (i c : Int) : (rF ta i c).lookup ("at" : Str) = some (.int i) := (lk_past (by decide +kernel)).trans lk_here
theorem rF_c (ta : Addr) (i c : Int) : (rF ta i c).lookup ("counters" : Str) = some (.int c) := (lk_past (by decide +kernel)).trans ((lk_past (by decide +kernel)).trans lk_here)
theorem rF_put (ta : Addr) (i j c : Int) : putF "at" (.int j) (rF ta i c) = rF ta j c := (put_past (by decide +kernel)).trans (congrArg _ put_here)
theorem rF_putc (ta : Addr) (i c d : Int) : putF "counters" (.int d) (rF ta i c) = rF ta i d := (put_past (by decide +kernel)).trans (congrArg _ ((put_past (by decide +kernel)).trans (congrArg _ put_here)))
theorem rF_no (ta : Addr) (i c : Int) {m : Str} (h1 : (m == ("tokens" : Str)) = false) (h2 : (m == ("at" : Str)) = false) (h3 : (m == ("counters" : Str)) = false) : (rF ta i c).lookup m = none := (lk_past h1).trans ((lk_past h2).trans ((lk_past h3).trans rfl))
/-- the reader at a stands ahead of l -/
structure RAt (A : Ad) (G H : Hp) (a : Addr) (c : Nat) (l : Toks) : Prop where
  same : Same G H
  hole : G a = none
  at_ : ∃ (dx ta : Addr) (i : Nat) (tvs : List V) (toks : Toks), H a = some (.ins A.CR dx (rF ta (i : Int) (c : Int))) ∧ G ta = some (.lst tvs) ∧ Paired (TokAt G) tvs toks ∧ toks.drop i = l ∧ toks.length ≤ 1000000
  ok : OkL l
section
variable {G H G' H' G0 H0 : Hp} {a : Addr} {c : Nat} {l : Toks}
theorem RAt.mono {D : Addr} (h : RAt A G H a c l) (s : Same G G') (s' : Same G' H) (hole : G' a = none) : RAt A G' H a c l := by
  obtain ⟨dx, ta, i, tvs, toks, h1, h2, h3, h4⟩ := h.at_
  exact ⟨s', hole, ⟨dx, ta, i, tvs, toks, h1, s _ _ h2, Paired.mapP h3 (TokAt.mono s), h4⟩, h.ok⟩
theorem RAt.new {p : Addr} {o : HO} (h : RAt A G H a c l) (hp : H p = none) : RAt A (upd G p o) (upd H p o) a c l := by
  obtain ⟨dx, ta, i, tvs, toks, h1, h2, h3, h4⟩ := h.at_
  have s := Same.new (o := o) (h.same.free hp)
  have hap := ne_of_none h1 hp
  exact ⟨same_new h.same, (upd_ne hap).trans h.hole, ⟨dx, ta, i, tvs, toks, (upd_ne hap).trans h1, s _ _ h2, Paired.mapP h3 (TokAt.mono s), h4⟩, h.ok⟩
theorem RAt.ins (R : RAt A G H a c l) : ∃ dx ta i, H a = some (.ins A.CR dx (rF ta i (c : Int))) := by
  obtain ⟨dx, ta, i, tvs, toks, h1, _⟩ := R.at_
  exact ⟨dx, ta, i, h1⟩
theorem RAt.mut {D : Addr} {o : HO} (N : RAt A G H a c l) (hD : G D = none) (hne : a ≠ D) : RAt A G (upd H D o) a c l := by
  obtain ⟨dx, ta, i, tvs, toks, h1, h2⟩ := N.at_
  exact ⟨Same.mut N.same hD, N.hole, ⟨dx, ta, i, tvs, toks, (upd_ne hne).trans h1, h2⟩, N.ok⟩
theorem RAt.put {D : Addr} {o : HO} (N : RAt A G H a c l) (hD : H D = some o) (hG : G D = none) (hne : a ≠ D) : RAt A (upd G D o) H a c l := by
  obtain ⟨dx, ta, i, tvs, toks, h1, h2, h3, h4⟩ := N.at_
  have s := Same.new (o := o) hG
  refine ⟨fun b u e => ?_, (upd_ne hne).trans N.hole, ⟨dx, ta, i, tvs, toks, h1, s _ _ h2, Paired.mapP h3 (TokAt.mono s), h4⟩, N.ok⟩
  by_cases hb : b = D
  · subst hb
    rw [upd_same] at e
    cases e
    exact hD
  · rw [upd_ne hb] at e
    exact N.same _ _ e
theorem RAt.ne {D : Addr} {o : HO} (N : RAt A G H a c l) (hD : H D = some o) (hk : ∀ dx fs, o ≠ .ins A.CR dx fs) : a ≠ D := by
  obtain ⟨dx, ta, i, h1⟩ := N.ins
  intro q
  subst q
  rw [h1] at hD
  exact hk _ _ (Option.some.inj hD).symm
theorem RAt.nn (N : RAt A G H a c l) : l ≠ [] := by
  have := N.ok
  intro q
  subst q
  exact this
/-- the next token -/
theorem RAt.tok (R : RAt A G H a c l) : ∃ (x : Token) (r : Toks) (dx ta : Addr) (i : Nat) (tvs : List V) (toks : Toks) (p : Addr) (z : Str), l = x :: r ∧ H a = some (.ins A.CR dx (rF ta (i : Int) (c : Int))) ∧ H ta = some (.lst tvs) ∧ tvs[i]? = some (.ref p) ∧
    H p = some (.tup [.str z, .int (tokNum x.tok), .int (x.place : Int)]) ∧ cps z = tokText x.tok ∧ G ta = some (.lst tvs) ∧ Paired (TokAt G) tvs toks ∧ toks.drop i = l ∧ toks.length ≤ 1000000 := by
  obtain ⟨dx, ta, i, tvs, toks, h1, h2, h3, h4, h5⟩ := R.at_
  cases l with
  | nil => exact absurd rfl R.nn
  | cons x r =>
    have hx : toks[i]? = some x := by
      have := congrArg (fun l => l[0]?) h4
      simpa using this
    obtain ⟨v, hv, p, us, rfl, hp, z, hz, rfl⟩ := pair_at' h3 hx
    exact ⟨x, r, dx, ta, i, tvs, toks, p, z, rfl, h1, R.same _ _ h2, hv, R.same _ _ hp, hz, h2, h3, h4, h5⟩
/-- a token passed -/
theorem RAt.step {x : Token} {r : Toks} {dx ta : Addr} {i : Nat} {tvs : List V} {toks : Toks} (R : RAt A G H a c (x :: r)) (h2 : G ta = some (.lst tvs)) (h3 : Paired (TokAt G) tvs toks) (h4 : toks.drop i = x :: r) (h5 : toks.length ≤ 1000000) (hx : x.tok ≠ .ending) :
    RAt A G (upd H a (.ins A.CR dx (rF ta ((i : Int) + 1) (c : Int)))) a c r := by
  refine ⟨Same.mut R.same R.hole, R.hole, ⟨dx, ta, i + 1, tvs, toks, upd_same, h2, h3, ?_, h5⟩, ?_⟩
  · rw [← List.drop_drop, h4]
    rfl
  · rcases R.ok with ⟨q, _⟩ | ⟨_, q⟩
    · exact absurd q hx
    · exact q
end
/-- what reading r hands back, or the fault that comes out -/
def GotP (A : Ad) {α : Type} (G H : Hp) (a : Addr) (c : Nat) (r : Got (α × Toks)) (rep : Hp → V → α → Prop) (Q : VK) (E : XK) : Prop := match r with
  | .ok x => ∀ (G' H' : Hp) (v : V), Ext (XA a) G H G' H' → RAt A G' H' a c x.2 → rep G' v x.1 → Q v H'
  | .error f => FaultP A (XA a) H E f
def GotU (A : Ad) (G H : Hp) (a : Addr) (c : Nat) (r : Got Toks) (Q : VK) (E : XK) : Prop := match r with
  | .ok l => ∀ (G' H' : Hp), Ext (XA a) G H G' H' → RAt A G' H' a c l → Q .non H'
  | .error f => FaultP A (XA a) H E f
section
variable {α β : Type} {G H G0 H0 : Hp} {a : Addr} {c : Nat} {r : Got (α × Toks)} {rep : Hp → V → α → Prop} {Q : VK} {E : XK} {l : Toks}
theorem xa_hole {G : Hp} {a : Addr} (h : G a = none) : ∀ b, XA a b → G b = none := fun b hb => by
  have hb : b = a := hb
  rw [hb]
  exact h
theorem GotP.mono (k : GotP A G0 H0 a c r rep Q E) (e : Ext (XA a) G0 H0 G H) : GotP A G H a c r rep Q E := by
  cases r with
  | error f => exact FaultP.mono k e.keep
  | ok x => exact fun G' H' v e' N hr => k G' H' v (e.trans e' (xa_hole N.hole)) N hr
theorem GotP.bind {f : α × Toks → Got (β × Toks)} {rep1 : Hp → V → β → Prop} {repa : Hp → V → α → Prop} {Q1 : VK} (k : GotP A G H a c (r.bind f) rep1 Q E)
    (h : ∀ (x : α) (l' : Toks) (G' H' : Hp) (v : V), r = .ok (x, l') → Ext (XA a) G H G' H' → RAt A G' H' a c l' → repa G' v x → GotP A G' H' a c (f (x, l')) rep1 Q E → Q1 v H') : GotP A G H a c r repa Q1 E := by
  cases r with
  | error f => exact k
  | ok x =>
    intro G' H' v e N hr
    exact h x.1 x.2 G' H' v rfl e N hr (GotP.mono (r := f x) k e)
theorem GotP.bind0 {f : α × Toks → Got (β × Toks)} {rep1 : Hp → V → β → Prop} {repa : Hp → V → α → Prop} {Q1 : VK} (k : GotP A G0 H0 a c (r.bind f) rep1 Q E) (e0 : Ext (XA a) G0 H0 G H)
    (h : ∀ (x : α) (l' : Toks) (G' H' : Hp) (v : V), r = .ok (x, l') → Ext (XA a) G H G' H' → RAt A G' H' a c l' → repa G' v x → GotP A G0 H0 a c (f (x, l')) rep1 Q E → Q1 v H') : GotP A G H a c r repa Q1 E := by
  cases r with
  | error f => exact FaultP.mono k e0.keep
  | ok x =>
    intro G' H' v e N hr
    exact h x.1 x.2 G' H' v rfl e N hr k
theorem GotP.bindU {r : Got Toks} {f : Toks → Got (β × Toks)} {rep1 : Hp → V → β → Prop} {Q1 : VK} (k : GotP A G H a c (r.bind f) rep1 Q E)
    (h : ∀ (l' : Toks) (G' H' : Hp), r = .ok l' → Ext (XA a) G H G' H' → RAt A G' H' a c l' → GotP A G' H' a c (f l') rep1 Q E → Q1 .non H') : GotU A G H a c r Q1 E := by
  cases r with
  | error f => exact k
  | ok x =>
    intro G' H' e N
    exact h x G' H' rfl e N (GotP.mono (r := f x) k e)
theorem GotP.to {x : α} {v : V} (k : GotP A G H a c (.ok (x, l)) rep Q E) (N : RAt A G H a c l) (hr : rep G v x) : Q v H := k G H v (Ext.refl _ _ _) N hr
theorem GotP.flt {f : Vaacla.Fault} (k : GotP A G H a c (.error f : Got (α × Toks)) rep Q E) : FaultP A (XA a) H E f := k
end
theorem no_r (ta : Addr) (i c : Int) : (rF ta i c).lookup ("here" : Str) = none ∧ (rF ta i c).lookup ("is_word" : Str) = none ∧ (rF ta i c).lookup ("is_number" : Str) = none ∧ (rF ta i c).lookup ("is_end" : Str) = none ∧ (rF ta i c).lookup ("skip" : Str) = none ∧ (rF ta i c).lookup ("number" : Str) = none ∧ (rF ta i c).lookup ("modulus" : Str) = none ∧ (rF ta i c).lookup ("counter_here" : Str) = none ∧ (rF ta i c).lookup ("counter" : Str) = none ∧ (rF ta i c).lookup ("whole" : Str) = none :=
  ⟨rF_no _ _ _ (by decide +kernel) (by decide +kernel) (by decide +kernel), rF_no _ _ _ (by decide +kernel) (by decide +kernel) (by decide +kernel), rF_no _ _ _ (by decide +kernel) (by decide +kernel) (by decide +kernel), rF_no _ _ _ (by decide +kernel) (by decide +kernel) (by decide +kernel), rF_no _ _ _ (by decide +kernel) (by decide +kernel) (by decide +kernel), rF_no _ _ _ (by decide +kernel) (by decide +kernel) (by decide +kernel), rF_no _ _ _ (by decide +kernel) (by decide +kernel) (by decide +kernel), rF_no _ _ _ (by decide +kernel) (by decide +kernel) (by decide +kernel), rF_no _ _ _ (by decide +kernel) (by decide +kernel) (by decide +kernel), rF_no _ _ _ (by decide +kernel) (by decide +kernel) (by decide +kernel)⟩
theorem n_here (ta : Addr) (i c : Int) : (rF ta i c).lookup ("here" : Str) = none := (no_r ta i c).1
theorem n_is_word (ta : Addr) (i c : Int) : (rF ta i c).lookup ("is_word" : Str) = none := (no_r ta i c).2.1
theorem n_is_number (ta : Addr) (i c : Int) : (rF ta i c).lookup ("is_number" : Str) = none := (no_r ta i c).2.2.1
theorem n_is_end (ta : Addr) (i c : Int) : (rF ta i c).lookup ("is_end" : Str) = none := (no_r ta i c).2.2.2.1
theorem n_skip (ta : Addr) (i c : Int) : (rF ta i c).lookup ("skip" : Str) = none := (no_r ta i c).2.2.2.2.1
theorem n_number (ta : Addr) (i c : Int) : (rF ta i c).lookup ("number" : Str) = none := (no_r ta i c).2.2.2.2.2.1
theorem n_modulus (ta : Addr) (i c : Int) : (rF ta i c).lookup ("modulus" : Str) = none := (no_r ta i c).2.2.2.2.2.2.1
theorem n_counter_here (ta : Addr) (i c : Int) : (rF ta i c).lookup ("counter_here" : Str) = none := (no_r ta i c).2.2.2.2.2.2.2.1
theorem n_counter (ta : Addr) (i c : Int) : (rF ta i c).lookup ("counter" : Str) = none := (no_r ta i c).2.2.2.2.2.2.2.2.1
theorem n_whole (ta : Addr) (i c : Int) : (rF ta i c).lookup ("whole" : Str) = none := (no_r ta i c).2.2.2.2.2.2.2.2.2
/-! ### what's next -/
def isTxt (t : List Nat) (l : Toks) : Bool := match l with
  | [] => false
  | x :: _ => decide (tokText x.tok = t)
def isNum (l : Toks) : Bool := match l with
  | ⟨_, .num _⟩ :: _ => true
  | _ => false
theorem isW {s : String} {l : Toks} (h : OkL l) (h1 : (Vaacla.word s).all isLetter = true) (h0 : Vaacla.word s ≠ []) : isTxt (cps (Str.ofString s)) l = wordIs s l := by
  rw [cps_lit]
  cases l with
  | nil => rfl
  | cons x r =>
    have e : wordIs s (x :: r) = decide (x.tok = .word (Vaacla.word s)) := by
      unfold wordIs
      rw [List.head?_cons, Option.map_some, Bool.eq_iff_iff]
      simp
    rw [e]
    show decide (tokText x.tok = Vaacla.word s) = _
    obtain ⟨p, t⟩ := x
    cases t with
    | word t =>
      rw [Bool.eq_iff_iff, decide_eq_true_eq, decide_eq_true_eq]
      exact ⟨fun q => congrArg _ q, fun q => Vaacla.Tok.word.inj q⟩
    | num n =>
      rw [decide_eq_false (fun q => h0 q.symm), decide_eq_false (fun q => Vaacla.Tok.noConfusion q)]
    | ending =>
      rw [decide_eq_false (fun q => h0 q.symm), decide_eq_false (fun q => Vaacla.Tok.noConfusion q)]
    | sign b =>
      have hb : SIGNS.contains b = true := by
        rcases h with ⟨q, _⟩ | ⟨q, _⟩
        · cases q
        · exact q
      rw [decide_eq_false, decide_eq_false (fun q => Vaacla.Tok.noConfusion q)]
      intro q
      have q : [b] = Vaacla.word s := q
      rw [← q] at h1
      rw [signs_is] at hb
      simp at hb
      unfold isLetter at h1
      simp at h1
      omega
theorem isS {s : String} {b : Nat} {l : Toks} (h : OkL l) (h1 : Vaacla.word s = [b]) (hb : isLetter b = false) : isTxt (cps (Str.ofString s)) l = signIs b l := by
  rw [cps_lit, h1]
  cases l with
  | nil => rfl
  | cons x r =>
    have e : signIs b (x :: r) = decide (x.tok = .sign b) := by
      unfold Vaacla.signIs
      rw [List.head?_cons, Option.map_some, Bool.eq_iff_iff]
      simp
    rw [e]
    show decide (tokText x.tok = [b]) = _
    obtain ⟨p, t⟩ := x
    cases t with
    | sign t =>
      rw [Bool.eq_iff_iff, decide_eq_true_eq, decide_eq_true_eq]
      exact ⟨fun q => congrArg _ (List.cons.inj q).1, fun q => congrArg (fun x => [x]) (Vaacla.Tok.sign.inj q)⟩
    | num n => rw [decide_eq_false (fun q => by cases q), decide_eq_false (fun q => Vaacla.Tok.noConfusion q)]
    | ending => rw [decide_eq_false (fun q => by cases q), decide_eq_false (fun q => Vaacla.Tok.noConfusion q)]
    | word t =>
      have ht : ∀ x ∈ t, isLetter x = true := by
        rcases h with ⟨q, _⟩ | ⟨q, _⟩
        · cases q
        · exact q
      rw [decide_eq_false, decide_eq_false (fun q => Vaacla.Tok.noConfusion q)]
      intro q
      have q : t = [b] := q
      subst q
      have := ht b (by simp)
      rw [hb] at this
      cases this
/-! ### the methods that only look -/
def spHere (A : Ad) : Sp := fun vs H Q _ => ∃ (G : Hp) (a : Addr) (c : Nat) (l : Toks), vs = [.ref a] ∧ RAt A G H a c l ∧ Q (.int (here l : Int)) H
theorem m_Reader_here (T : Txt K mg A) : Met P w K mg base 1 A.CR "here" (spHere A) [] :=
  met_mk T.clR T.m_Reader_here sc_Reader_here bn_Reader_here (fun vs H Q E h => by
    obtain ⟨_, _, _, _, rfl, _⟩ := h
    rfl) (fun f cdv A' outer s H vs Q E hr h => by
    refine ⟨_, (pss_one (ps_ret (pe_ix ix_tup (pe_ix ix_list (pe_fld (pv 0) rfl) (pe_fld (pv 0) rfl) (fun _ _ => rfl)) pe_int (fun _ _ => rfl)))), ?_⟩
    obtain ⟨G, a, c, l, rfl, R, k⟩ := h
    obtain ⟨x, r, dx, ta, i, tvs, toks, p, z, rfl, h1, h2, h3, h4, h5, _⟩ := R.tok
    exact ⟨_, rfl, a, A.CR, dx, _, _, rfl, h1, T.clR, T.aR_tokens, rF_t _ _ _, _, rfl, a, A.CR, dx, _, _, rfl, h1, T.clR, T.aR_at, rF_a _ _ _, ta, _, _, _, rfl, rfl, SqL.of h2, atI_nat h3, p, _, _, _, rfl, rfl, SqT.of h4, rfl, k⟩)
def spIsWord (A : Ad) : Sp := fun vs H Q _ => ∃ (G : Hp) (a : Addr) (c : Nat) (l : Toks) (z : Str), vs = [.ref a, .str z] ∧ RAt A G H a c l ∧ Q (.bl (isTxt (cps z) l)) H
theorem m_Reader_is_word (T : Txt K mg A) : Met P w K mg base 1 A.CR "is_word" (spIsWord A) [] :=
  met_mk T.clR T.m_Reader_is_word sc_Reader_is_word bn_Reader_is_word (fun vs H Q E h => by
    obtain ⟨_, _, _, _, _, rfl, _⟩ := h
    rfl) (fun f cdv A' outer s H vs Q E hr h => by
    refine ⟨_, (pss_one (ps_ret (pe_cmpR op_eq (pe_ix ix_tup (pe_ix ix_list (pe_fld (pv 0) rfl) (pe_fld (pv 0) rfl) (fun _ _ => rfl)) pe_int (fun _ _ => rfl)) (pv 1) (nomark _)))), ?_⟩
    obtain ⟨G, a, c, l, u, rfl, R, k⟩ := h
    obtain ⟨x, r, dx, ta, i, tvs, toks, p, z, rfl, h1, h2, h3, h4, h5, _⟩ := R.tok
    refine ⟨_, rfl, a, A.CR, dx, _, _, rfl, h1, T.clR, T.aR_tokens, rF_t _ _ _, _, rfl, a, A.CR, dx, _, _, rfl, h1, T.clR, T.aR_at, rF_a _ _ _, ta, _, _, _, rfl, rfl, SqL.of h2, atI_nat h3, p, _, _, _, rfl, rfl, SqT.of h4, rfl, _, rfl, rfl, ?_⟩
    have e : decide (V.str z = V.str u) = isTxt (cps u) (x :: r) := by
      show _ = decide (tokText x.tok = cps u)
      rw [← h5, Bool.eq_iff_iff, decide_eq_true_eq, decide_eq_true_eq]
      refine ⟨fun q => congrArg _ (V.str.inj q), fun q => ?_⟩
      obtain ⟨z⟩ := z
      obtain ⟨u⟩ := u
      have q : z = u := Array.toList_inj.mp q
      rw [q]
    rw [e]
    exact k)
def spIsNumber (A : Ad) (f : Toks → Bool) : Sp := fun vs H Q _ => ∃ (G : Hp) (a : Addr) (c : Nat) (l : Toks), vs = [.ref a] ∧ RAt A G H a c l ∧ Q (.bl (f l)) H
theorem m_Reader_is_number (T : Txt K mg A) : Met P w K mg base 1 A.CR "is_number" (spIsNumber A isNum) [] :=
  met_mk T.clR T.m_Reader_is_number sc_Reader_is_number bn_Reader_is_number (fun vs H Q E h => by
    obtain ⟨_, _, _, _, rfl, _⟩ := h
    rfl) (fun f cdv A' outer s H vs Q E hr h => by
    refine ⟨_, (pss_one (ps_ret (pe_cmpR op_ge (pe_ix ix_tup (pe_ix ix_list (pe_fld (pv 0) rfl) (pe_fld (pv 0) rfl) (fun _ _ => rfl)) pe_int (fun _ _ => rfl)) pe_int (nomark _)))), ?_⟩
    obtain ⟨G, a, c, l, rfl, R, k⟩ := h
    obtain ⟨x, r, dx, ta, i, tvs, toks, p, z, rfl, h1, h2, h3, h4, h5, _⟩ := R.tok
    refine ⟨_, rfl, a, A.CR, dx, _, _, rfl, h1, T.clR, T.aR_tokens, rF_t _ _ _, _, rfl, a, A.CR, dx, _, _, rfl, h1, T.clR, T.aR_at, rF_a _ _ _, ta, _, _, _, rfl, rfl, SqL.of h2, atI_nat h3, p, _, _, _, rfl, rfl, SqT.of h4, rfl, _, _, rfl, rfl, ?_⟩
    show Q (.bl (decide (0 ≤ tokNum x.tok))) _
    have e : decide (0 ≤ tokNum x.tok) = isNum (x :: r) := by
      obtain ⟨p, t⟩ := x
      cases t with
      | num n => exact decide_eq_true (Int.natCast_nonneg n)
      | word t => rfl
      | sign b => rfl
      | ending => rfl
    rw [e]
    exact k)
theorem end_is {l : Toks} (h : OkL l) : decide (l.length = 1) = isEnding l := by
  cases l with
  | nil => exact h.elim
  | cons x r =>
    obtain ⟨p, t⟩ := x
    rcases h with ⟨q, q2⟩ | ⟨q, q2⟩
    · subst q2
      have q : t = .ending := q
      subst q
      rfl
    · cases r with
      | nil => exact q2.elim
      | cons y s =>
        rw [decide_eq_false (by simp)]
        cases t with
        | ending => exact q.elim
        | num n => rfl
        | word t => rfl
        | sign b => rfl
theorem m_Reader_is_end (T : Txt K mg A) : Met P w K mg base 1 A.CR "is_end" (spIsNumber A isEnding) [] :=
  met_mk T.clR T.m_Reader_is_end sc_Reader_is_end bn_Reader_is_end (fun vs H Q E h => by
    obtain ⟨_, _, _, _, rfl, _⟩ := h
    rfl) (fun f cdv A' outer s H vs Q E hr h => by
    refine ⟨_, (pss_one (ps_ret (pe_cmpR op_eq (pe_fld (pv 0) rfl) (pe_op op_sub (pe_callB call_len_seq (by rfl) T.b_len PySem.boot_len (pa_cons (pe_fld (pv 0) rfl) pa_nil)) pe_int) (nomark _)))), ?_⟩
    obtain ⟨G, a, c, l, rfl, R, k⟩ := h
    rw [← end_is R.ok] at k
    obtain ⟨x, r, dx, ta, i, tvs, toks, p, z, e0, h1, h2, h3, h4, h5, _, h6, h7, _⟩ := R.tok
    refine ⟨_, rfl, a, A.CR, dx, _, _, rfl, h1, T.clR, T.aR_at, rF_a _ _ _, _, rfl, a, A.CR, dx, _, _, rfl, h1, T.clR, T.aR_tokens, rF_t _ _ _, ta, _, rfl, .inl (SqL.of h2), _, _, rfl, rfl, rfl, ?_⟩
    have e : decide (V.int (i : Int) = V.int (((tvs.length : Nat) : Int) - 1)) = decide (l.length = 1) := by
      have := lt_at h3
      have hl := h6.length
      rw [Bool.eq_iff_iff, decide_eq_true_eq, decide_eq_true_eq, ← h7, List.length_drop]
      constructor
      · intro q
        have := V.int.inj q
        omega
      · intro q
        exact int_eq (by omega)
    rw [← e] at k
    exact k)
def spSkip (A : Ad) : Sp := fun vs H Q E => ∃ (G : Hp) (a : Addr) (c : Nat) (l : Toks) (z : Str), vs = [.ref a, .str z] ∧ RAt A G H a c l ∧ cps z ≠ [] ∧ GotU A G H a c (if isTxt (cps z) l = true then .ok (l.drop 1) else wrong l) Q E
theorem m_Reader_skip (T : Txt K mg A) : MetX P w K mg base 3 A.CR "skip" (spSkip A) :=
  metX_mk T.clR T.m_Reader_skip sc_Reader_skip bn_Reader_skip (fun vs H Q E h => by
    obtain ⟨_, _, _, _, _, rfl, _⟩ := h
    rfl) (fun f cdv A' outer s H vs Q E hr h => by
    refine ⟨_, (pss_cons (ps_if (pt_not (pt_val (pe_mt (m_Reader_is_word T) hr (by decide) (pv 0) (pa_cons (pv 1) pa_nil)))) (pss_one (ps_raiseF rfl T.fault hr (takes_of rfl rfl rfl rfl) (pa_cons pe_int (pa_cons (pe_mt0 (m_Reader_here T) hr (by decide) (pv 0)) pa_nil)))) pss_nil)
      (pss_one (ps_fldaug (pv 0) pe_int in_add))), ?_⟩
    obtain ⟨G, a, c, l, u, rfl, R, hu, k⟩ := h
    obtain ⟨x, r, dx, ta, i, tvs, toks, p, z, e0, h1, h2, h3, h4, h5, h6, h7, h8, h9⟩ := R.tok
    refine ⟨_, rfl, a, dx, _, rfl, h1, n_is_word _ _ _, _, rfl, G, a, c, l, u, rfl, R, _, rfl, ?_⟩
    cases ht : isTxt (cps u) l with
    | false =>
      rw [ht, if_neg Bool.false_ne_true] at k
      refine iteT ⟨_, rfl, a, dx, _, rfl, h1, n_here _ _ _, G, a, c, l, rfl, R, ?_⟩
      exact FaultP.at (f := ⟨2, here l⟩) k rfl rfl
    | true =>
      rw [ht, if_pos rfl] at k
      refine iteF ⟨_, rfl, a, A.CR, dx, _, _, rfl, h1, T.clR, T.aR_at, rF_a _ _ _, _, _, rfl, rfl, dx, _, h1, (by show 3 < 1000; decide), ?_⟩
      rw [rF_put]
      subst e0
      refine k G _ (Ext.mut rfl) (RAt.step R h6 h7 h8 h9 fun q => hu ?_)
      have ht : decide (tokText x.tok = cps u) = true := ht
      rw [decide_eq_true_eq] at ht
      rw [← ht, q]
      rfl)
def repN (_ : Hp) (v : V) (n : Nat) : Prop := v = .int (n : Int)
def spNumber (A : Ad) : Sp := fun vs H Q E => ∃ (G : Hp) (a : Addr) (c : Nat) (l : Toks) (lo hi : Nat), vs = [.ref a, .int (lo : Int), .int (hi : Int)] ∧ RAt A G H a c l ∧ GotP A G H a c (takeNum lo hi l) repN Q E
theorem m_Reader_number (T : Txt K mg A) : MetX P w K mg base 3 A.CR "number" (spNumber A) :=
  metX_mk T.clR T.m_Reader_number sc_Reader_number bn_Reader_number (fun vs H Q E h => by
    obtain ⟨_, _, _, _, _, _, rfl, _⟩ := h
    rfl) (fun f cdv A' outer s H vs Q E hr h => by
    refine ⟨_, (pss_cons (ps_if (pt_not (pt_val (pe_mt0 (m_Reader_is_number T) hr (by decide) (pv 0)))) (pss_one (ps_raiseF rfl T.fault hr (takes_of rfl rfl rfl rfl) (pa_cons pe_int (pa_cons (pe_mt0 (m_Reader_here T) hr (by decide) (pv 0)) pa_nil)))) pss_nil)
      (pss_cons (ps_set (i := 3) sc_Reader_number.nd rfl (Or.inl rfl) (pe_ix ix_tup (pe_ix ix_list (pe_fld (pv 0) rfl) (pe_fld (pv 0) rfl) (fun _ _ => rfl)) pe_int (fun _ _ => rfl)))
      (pss_cons (ps_if (PW.pt (pw_or (pt_cmpR op_lt (pv 3) (pv 1) (nomark _)) (pw_or1 (pt_cmpR op_gt (pv 3) (pv 2) (nomark _))))) (pss_one (ps_raiseF rfl T.fault hr (takes_of rfl rfl rfl rfl) (pa_cons pe_int (pa_cons (pe_mt0 (m_Reader_here T) hr (by decide) (pv 0)) pa_nil)))) pss_nil)
      (pss_cons (ps_fldaug (pv 0) pe_int in_add)
      (pss_one (ps_ret (pv 3))))))), ?_⟩
    obtain ⟨G, a, c, l, lo, hi, rfl, R, k⟩ := h
    obtain ⟨x, r, dx, ta, i, tvs, toks, p, z, e0, h1, h2, h3, h4, h5, h6, h7, h8, h9⟩ := R.tok
    refine ⟨_, rfl, a, dx, _, rfl, h1, n_is_number _ _ _, G, a, c, l, rfl, R, _, rfl, ?_⟩
    subst e0
    obtain ⟨pl, t⟩ := x
    have no : ∀ t, (∀ n, t ≠ Vaacla.Tok.num n) → isNum (⟨pl, t⟩ :: r) = false ∧ takeNum lo hi (⟨pl, t⟩ :: r) = wrong (⟨pl, t⟩ :: r) := fun t h => by
      cases t with
      | num n => exact absurd rfl (h n)
      | word t => exact ⟨rfl, rfl⟩
      | sign b => exact ⟨rfl, rfl⟩
      | ending => exact ⟨rfl, rfl⟩
    by_cases hn : ∃ n, t = .num n
    · obtain ⟨n, rfl⟩ := hn
      rw [takeNum_num] at k
      have e1 : isNum (⟨pl, .num n⟩ :: r) = true := rfl
      rw [e1]
      refine iteF ⟨_, rfl, a, A.CR, dx, _, _, rfl, h1, T.clR, T.aR_tokens, rF_t _ _ _, _, rfl, a, A.CR, dx, _, _, rfl, h1, T.clR, T.aR_at, rF_a _ _ _, ta, _, _, _, rfl, rfl, SqL.of h2, atI_nat h3, p, _, _, _, rfl, rfl, SqT.of h4, rfl, ?_⟩
      have flt : ¬ (lo ≤ n ∧ n ≤ hi) → ∃ x y, ([.int 3, .int (here (⟨pl, .num n⟩ :: r) : Int)] : List V) = [x, y] ∧ ∀ d, H d = none → E (.ref A.CF) (some d) (upd H d (fxd x y)) := fun q => by
        rw [if_neg q] at k
        exact FaultP.at (f := ⟨3, pl⟩) k rfl rfl
      refine ⟨_, rfl, _, rfl, _, _, rfl, rfl, _, rfl, ifD (fun q1 => ?_) (fun q1 => ?_)⟩
      · have q1 : (n : Int) < (lo : Int) := q1
        exact iteT ⟨_, rfl, a, dx, _, rfl, h1, n_here _ _ _, G, a, c, _, rfl, R, flt (by omega)⟩
      · have q1 : ¬ (n : Int) < (lo : Int) := q1
        refine ⟨_, rfl, _, rfl, _, _, rfl, rfl, _, rfl, ifD (fun q2 => ?_) (fun q2 => ?_)⟩
        · have q2 : (hi : Int) < (n : Int) := q2
          exact ⟨_, rfl, a, dx, _, rfl, h1, n_here _ _ _, G, a, c, _, rfl, R, flt (by omega)⟩
        · have q2 : ¬ (hi : Int) < (n : Int) := q2
          rw [if_pos ⟨by omega, by omega⟩] at k
          refine ⟨_, rfl, a, A.CR, dx, _, _, rfl, h1, T.clR, T.aR_at, rF_a _ _ _, _, _, rfl, rfl, dx, _, h1, (by show 3 < 1000; decide), ?_⟩
          rw [rF_put]
          refine ⟨_, rfl, ?_⟩
          exact k G _ _ (Ext.mut rfl) (RAt.step R h6 h7 h8 h9 fun q => by cases q) rfl
    · obtain ⟨e1, e2⟩ := no t fun n q => hn ⟨n, q⟩
      rw [e2] at k
      rw [e1]
      refine iteT ⟨_, rfl, a, dx, _, rfl, h1, n_here _ _ _, G, a, c, _, rfl, R, ?_⟩
      exact FaultP.at (f := ⟨2, here (⟨pl, t⟩ :: r)⟩) k rfl rfl)
end CL

set_option Elab.async false
set_option linter.all false
set_option maxRecDepth 100000
set_option maxHeartbeats 4000000
namespace CL
open PySem PySem.Spec PyProof.Rows L2
open C8 (Cal Met Mak pe_c pe_mk pe_mt pe_mt0 pe_gc)
open VaaclBase (Values Test Guard Branch Loop Piece okTest)
open Vaacla (isLetter SIGNS Token Toks Got wordIs here wrong takeSign takeWord takeNum takeInt takeName takeMore takeMove takeModulus takeTest takeGuard)
variable {P : PySem.Program} {w : World} {K : PySem.W.Frag} {mg : Str → Option Value} {base : Heap} {A : Ad}
theorem cw {s : String} (h : Vaacla.word s ≠ []) : cps (Str.ofString s) ≠ [] := by
  rw [cps_lit]
  exact h
theorem iw_minus {l : Toks} (h : OkL l) : isTxt (cps ("minus" : Str)) l = wordIs "minus" l := isW h (by decide +kernel) (by decide +kernel)
theorem cw_minus : cps ("minus" : Str) ≠ [] := cw (by decide +kernel)
theorem iw_plus {l : Toks} (h : OkL l) : isTxt (cps ("plus" : Str)) l = wordIs "plus" l := isW h (by decide +kernel) (by decide +kernel)
theorem cw_plus : cps ("plus" : Str) ≠ [] := cw (by decide +kernel)
theorem iw_atmost {l : Toks} (h : OkL l) : isTxt (cps ("atmost" : Str)) l = wordIs "atmost" l := isW h (by decide +kernel) (by decide +kernel)
theorem cw_atmost : cps ("atmost" : Str) ≠ [] := cw (by decide +kernel)
theorem iw_atleast {l : Toks} (h : OkL l) : isTxt (cps ("atleast" : Str)) l = wordIs "atleast" l := isW h (by decide +kernel) (by decide +kernel)
theorem cw_atleast : cps ("atleast" : Str) ≠ [] := cw (by decide +kernel)
theorem iw_rem {l : Toks} (h : OkL l) : isTxt (cps ("rem" : Str)) l = wordIs "rem" l := isW h (by decide +kernel) (by decide +kernel)
theorem cw_rem : cps ("rem" : Str) ≠ [] := cw (by decide +kernel)
theorem iw_any {l : Toks} (h : OkL l) : isTxt (cps ("any" : Str)) l = wordIs "any" l := isW h (by decide +kernel) (by decide +kernel)
theorem cw_any : cps ("any" : Str) ≠ [] := cw (by decide +kernel)
theorem iw_and {l : Toks} (h : OkL l) : isTxt (cps ("and" : Str)) l = wordIs "and" l := isW h (by decide +kernel) (by decide +kernel)
theorem cw_and : cps ("and" : Str) ≠ [] := cw (by decide +kernel)
theorem iw_nothing {l : Toks} (h : OkL l) : isTxt (cps ("nothing" : Str)) l = wordIs "nothing" l := isW h (by decide +kernel) (by decide +kernel)
theorem cw_nothing : cps ("nothing" : Str) ≠ [] := cw (by decide +kernel)
theorem iw_is {l : Toks} (h : OkL l) : isTxt (cps ("is" : Str)) l = wordIs "is" l := isW h (by decide +kernel) (by decide +kernel)
theorem cw_is : cps ("is" : Str) ≠ [] := cw (by decide +kernel)
theorem iw_when {l : Toks} (h : OkL l) : isTxt (cps ("when" : Str)) l = wordIs "when" l := isW h (by decide +kernel) (by decide +kernel)
theorem cw_when : cps ("when" : Str) ≠ [] := cw (by decide +kernel)
theorem iw_do {l : Toks} (h : OkL l) : isTxt (cps ("do" : Str)) l = wordIs "do" l := isW h (by decide +kernel) (by decide +kernel)
theorem cw_do : cps ("do" : Str) ≠ [] := cw (by decide +kernel)
theorem iw_loop {l : Toks} (h : OkL l) : isTxt (cps ("loop" : Str)) l = wordIs "loop" l := isW h (by decide +kernel) (by decide +kernel)
theorem cw_loop : cps ("loop" : Str) ≠ [] := cw (by decide +kernel)
theorem iw_counters {l : Toks} (h : OkL l) : isTxt (cps ("counters" : Str)) l = wordIs "counters" l := isW h (by decide +kernel) (by decide +kernel)
theorem cw_counters : cps ("counters" : Str) ≠ [] := cw (by decide +kernel)
theorem iw_comma {l : Toks} (h : OkL l) : isTxt (cps ("," : Str)) l = Vaacla.signIs 44 l := isS h (by decide +kernel) (by decide +kernel)
theorem cw_comma : cps ("," : Str) ≠ [] := cw (by decide +kernel)
theorem iw_semi {l : Toks} (h : OkL l) : isTxt (cps (";" : Str)) l = Vaacla.signIs 59 l := isS h (by decide +kernel) (by decide +kernel)
theorem cw_semi : cps (";" : Str) ≠ [] := cw (by decide +kernel)
theorem iw_open {l : Toks} (h : OkL l) : isTxt (cps ("{" : Str)) l = Vaacla.signIs 123 l := isS h (by decide +kernel) (by decide +kernel)
theorem cw_open : cps ("{" : Str) ≠ [] := cw (by decide +kernel)
theorem iw_close {l : Toks} (h : OkL l) : isTxt (cps ("}" : Str)) l = Vaacla.signIs 125 l := isS h (by decide +kernel) (by decide +kernel)
theorem cw_close : cps ("}" : Str) ≠ [] := cw (by decide +kernel)
theorem gu_to {G H : Hp} {a : Addr} {c : Nat} {l : Toks} {Q : VK} {E : XK} {b : Bool} (hb : b = true) (k : ∀ G' H', Ext (XA a) G H G' H' → RAt A G' H' a c (l.drop 1) → Q .non H') : GotU A G H a c (if b = true then .ok (l.drop 1) else wrong l) Q E := by
  rw [if_pos hb]
  exact k
theorem word_eq {s : String} {l : Toks} (h : wordIs s l = true) : ∃ p r, l = ⟨p, .word (Vaacla.word s)⟩ :: r := by
  cases l with
  | nil => cases h
  | cons x r =>
    obtain ⟨p, t⟩ := x
    have h : (some t == some (.word (Vaacla.word s))) = true := h
    have h : t = .word (Vaacla.word s) := by simpa using h
    exact ⟨p, r, by rw [h]⟩
theorem word_ne {s u : String} {l : Toks} (h : wordIs s l = true) (hne : Vaacla.word s ≠ Vaacla.word u) : wordIs u l = false := by
  obtain ⟨p, r, rfl⟩ := word_eq h
  show (some (Vaacla.Tok.word (Vaacla.word s)) == some (.word (Vaacla.word u))) = false
  simpa using hne
theorem num_word {u : String} {l : Toks} (h : isNum l = true) : wordIs u l = false := by
  unfold isNum at h
  split at h
  · rfl
  · cases h
theorem name_num {l : Toks} (h : isNum l = true) : Vaacla.nameAt l = none := by
  rw [nameAt_is, num_word h, num_word h, num_word h, num_word h]
  rfl
theorem name_minus {l : Toks} (h : wordIs "minus" l = true) : Vaacla.nameAt l = none := by
  rw [nameAt_is, word_ne h (by decide +kernel), word_ne h (by decide +kernel), word_ne h (by decide +kernel), word_ne h (by decide +kernel)]
  rfl
theorem takeNum_no {lo hi : Nat} {l : Toks} (h : isNum l = false) : takeNum lo hi l = wrong l := by
  unfold takeNum
  split
  · cases h
  · rfl
theorem modulus_is (l : Toks) : takeModulus l = (takeNum 2 6 l).bind fun x => if x.1 = 5 then .error ⟨3, here l⟩ else .ok (x.1, x.2) := by
  cases hn : isNum l with
  | false =>
    rw [takeNum_no hn]
    unfold takeModulus
    split
    · cases hn
    · rfl
  | true =>
    unfold isNum at hn
    split at hn
    · rename_i p n r
      show (if VaaclBase.MODULI.contains n = true then Except.ok (n, r) else .error ⟨3, p⟩) = (if 2 ≤ n ∧ n ≤ 6 then Except.ok (n, r) else .error ⟨3, p⟩ : Got (Nat × Toks)).bind _
      by_cases h : 2 ≤ n ∧ n ≤ 6
      · rw [if_pos h]
        show _ = if n = 5 then Except.error (⟨3, p⟩ : Vaacla.Fault) else .ok (n, r)
        obtain rfl | rfl | rfl | rfl | rfl : n = 2 ∨ n = 3 ∨ n = 4 ∨ n = 5 ∨ n = 6 := by omega
        all_goals rfl
      · rw [if_neg h, if_neg]
        · rfl
        · intro q
          exact h (modulus_in q)
    · cases hn
def spModulus (A : Ad) : Sp := fun vs H Q E => ∃ (G : Hp) (a : Addr) (c : Nat) (l : Toks), vs = [.ref a] ∧ RAt A G H a c l ∧ GotP A G H a c (takeModulus l) repN Q E
theorem m_Reader_modulus (T : Txt K mg A) : MetX P w K mg base 4 A.CR "modulus" (spModulus A) :=
  metX_mk T.clR T.m_Reader_modulus sc_Reader_modulus bn_Reader_modulus (fun vs H Q E h => by
    obtain ⟨_, _, _, _, rfl, _⟩ := h
    rfl) (fun f cdv A' outer s H vs Q E hr h => by
    refine ⟨_, (pss_cons (ps_set (i := 1) sc_Reader_modulus.nd rfl (Or.inl rfl) (pe_mt0 (m_Reader_here T) hr (by decide) (pv 0)))
      (pss_cons (ps_set (i := 2) sc_Reader_modulus.nd rfl (Or.inl rfl) (pe_mX (m_Reader_number T) hr (by decide) (passes_call (takes_of rfl rfl rfl rfl) (fun _ _ _ _ q => q)) (pv 0) (pa_cons pe_int (pa_cons pe_int pa_nil))))
      (pss_cons (ps_if (pt_cmpR op_eq (pv 2) pe_int (nomark _)) (pss_one (ps_raiseF rfl T.fault hr (takes_of rfl rfl rfl rfl) (pa_cons pe_int (pa_cons (pv 1) pa_nil)))) pss_nil)
      (pss_one (ps_ret (pv 2)))))), ?_⟩
    obtain ⟨G, a, c, l, rfl, R, k⟩ := h
    rw [modulus_is] at k
    obtain ⟨dx, ta, i, h1⟩ := R.ins
    refine ⟨_, rfl, a, dx, _, rfl, h1, n_here _ _ _, G, a, c, l, rfl, R, ?_⟩
    refine ⟨_, rfl, a, dx, _, rfl, h1, n_number _ _ _, G, a, c, l, 2, 6, rfl, R, GotP.bind k fun x l1 G1 H1 v er e1 R1 hr1 k1 => ?_⟩
    subst hr1
    dsimp only at k1
    refine ⟨_, rfl, rfl, _, rfl, ifD (fun h5 => ?_) (fun h5 => ?_)⟩
    · have h5 : x = 5 := by have := V.int.inj h5; omega
      rw [if_pos h5] at k1
      exact ⟨_, rfl, FaultP.at (f := ⟨3, here l⟩) k1 rfl rfl⟩
    · have h5 : x ≠ 5 := fun q => h5 (int_eq (by omega))
      rw [if_neg h5] at k1
      exact ⟨_, rfl, k1.to R1 rfl⟩)
theorem nm_a (l : Toks) (h : OkL l) : isTxt [97] l = wordIs "a" l := by
  rw [← isW h (by decide +kernel) (by decide +kernel), cps_lit]
  rfl
theorem nm_b (l : Toks) (h : OkL l) : isTxt [98] l = wordIs "b" l := by
  rw [← isW h (by decide +kernel) (by decide +kernel), cps_lit]
  rfl
theorem nm_c (l : Toks) (h : OkL l) : isTxt [99] l = wordIs "c" l := by
  rw [← isW h (by decide +kernel) (by decide +kernel), cps_lit]
  rfl
theorem nm_d (l : Toks) (h : OkL l) : isTxt [100] l = wordIs "d" l := by
  rw [← isW h (by decide +kernel) (by decide +kernel), cps_lit]
  rfl
theorem nm_at {l : Toks} (h : OkL l) : Vaacla.nameAt l = if isTxt [97] l = true then some 0 else if isTxt [98] l = true then some 1 else if isTxt [99] l = true then some 2 else if isTxt [100] l = true then some 3 else none := by
  rw [nameAt_is, nm_a l h, nm_b l h, nm_c l h, nm_d l h]
theorem nm_some {l : Toks} (h : OkL l) {i : Nat} (hi : i < 4) (no : ∀ j, j < i → isTxt [97 + j] l = false) (y : isTxt [97 + i] l = true) : Vaacla.nameAt l = some i := by
  rw [nm_at h]
  match i, hi with
  | 0, _ => rw [if_pos y]
  | 1, _ => rw [no 0 (by decide), if_neg Bool.false_ne_true, if_pos y]
  | 2, _ => rw [no 0 (by decide), if_neg Bool.false_ne_true, no 1 (by decide), if_neg Bool.false_ne_true, if_pos y]
  | 3, _ => rw [no 0 (by decide), if_neg Bool.false_ne_true, no 1 (by decide), if_neg Bool.false_ne_true, no 2 (by decide), if_neg Bool.false_ne_true, if_pos y]
theorem nm_none {l : Toks} (h : OkL l) (no : ∀ j, j < 4 → isTxt [97 + j] l = false) : Vaacla.nameAt l = none := by
  rw [nm_at h, no 0 (by decide), if_neg Bool.false_ne_true, no 1 (by decide), if_neg Bool.false_ne_true, no 2 (by decide), if_neg Bool.false_ne_true, no 3 (by decide), if_neg Bool.false_ne_true]
def spCounterHere (A : Ad) : Sp := fun vs H Q _ => ∃ (G : Hp) (a : Addr) (c : Nat) (l : Toks), vs = [.ref a] ∧ RAt A G H a c l ∧ Q (.int (VaaclBase.orNone (Vaacla.nameAt l))) H
theorem m_Reader_counter_here (T : Txt K mg A) : Met P w K mg base 2 A.CR "counter_here" (spCounterHere A) [] :=
  met_mk T.clR T.m_Reader_counter_here sc_Reader_counter_here bn_Reader_counter_here (fun vs H Q E h => by
    obtain ⟨_, _, _, _, rfl, _⟩ := h
    rfl) (fun f cdv A' outer s H vs Q E hr h => by
    refine ⟨_, (pss_cons (ps_for PassesOwn.never rfl (pi_range1 (by rfl) T.b_range (pa_cons (pe_gc (by rfl) T.c_MOST_COUNTERS) pa_nil)) (pg_name (i := 1) sc_Reader_counter_here.nd rfl (Or.inl rfl)) (pss_one (ps_if (pt_val (pe_mt (m_Reader_is_word T) hr (by decide) (pv 0) (pa_cons (pe_ix ix_str (pe_gc (by rfl) T.c_COUNTERS) (pv 1) (fun _ _ => rfl)) pa_nil))) (pss_one (ps_ret (pv 1))) pss_nil)))
      (pss_one (ps_ret (pe_un un_neg pe_int)))), ?_⟩
    obtain ⟨G, a, c, l, rfl, R, k⟩ := h
    obtain ⟨dx, ta, i0, h1⟩ := R.ins
    have ro := rng_ok (n := 4) (by omega)
    refine ⟨_, rfl, ro.1, ro.2, for_range (lo := 0) (fun i σ H' => H' = H ∧ (∃ v, σ = [some (.ref a), v]) ∧ ∀ j, j < i → isTxt [97 + j] l = false) ⟨rfl, ⟨_, rfl⟩, fun j hj => absurd hj (Nat.not_lt_zero _)⟩ ?_ ?_⟩
    · rintro i σ H' hi ⟨rfl, ⟨v, rfl⟩, no⟩
      have hi : i < 4 := hi
      rw [Int.zero_add]
      obtain ⟨n1, n2, _⟩ := name_at hi
      refine ⟨_, rfl, a, dx, _, rfl, h1, n_is_word _ _ _, _, rfl, _, _, _, rfl, rfl, n1, n2, G, a, c, l, _, rfl, R, _, rfl, ?_⟩
      rw [cps_one]
      refine ifB (fun e => ?_) (fun e => ?_)
      · rw [nm_some R.ok hi no e] at k
        exact ⟨_, rfl, k⟩
      · refine ⟨rfl, ⟨_, rfl⟩, fun j hj => ?_⟩
        rcases Nat.lt_succ_iff_lt_or_eq.mp hj with q | q
        · exact no j q
        · rw [q]
          exact e
    · rintro σ H' ⟨rfl, ⟨v, rfl⟩, no⟩
      rw [nm_none R.ok no] at k
      exact ⟨_, rfl, k⟩)
theorem name_tok {x : Token} {r : Toks} {j : Nat} (h : Vaacla.nameAt (x :: r) = some j) : x.tok ≠ .ending := by
  obtain ⟨p, t⟩ := x
  intro q
  have q : t = .ending := q
  subst q
  rw [nameAt_is] at h
  cases h
def spCounter (A : Ad) : Sp := fun vs H Q E => ∃ (G : Hp) (a : Addr) (c : Nat) (l : Toks), vs = [.ref a] ∧ RAt A G H a c l ∧ GotP A G H a c (takeName c l) repN Q E
theorem m_Reader_counter (T : Txt K mg A) : MetX P w K mg base 3 A.CR "counter" (spCounter A) :=
  metX_mk T.clR T.m_Reader_counter sc_Reader_counter bn_Reader_counter (fun vs H Q E h => by
    obtain ⟨_, _, _, _, rfl, _⟩ := h
    rfl) (fun f cdv A' outer s H vs Q E hr h => by
    refine ⟨_, (pss_cons (ps_set (i := 1) sc_Reader_counter.nd rfl (Or.inl rfl) (pe_mt0 (m_Reader_counter_here T) hr (by decide) (pv 0)))
      (pss_cons (ps_if (pt_cmpR op_lt (pv 1) pe_int (nomark _)) (pss_one (ps_raiseF rfl T.fault hr (takes_of rfl rfl rfl rfl) (pa_cons pe_int (pa_cons (pe_mt0 (m_Reader_here T) hr (by decide) (pv 0)) pa_nil)))) pss_nil)
      (pss_cons (ps_if (pt_cmpR op_ge (pv 1) (pe_fld (pv 0) rfl) (nomark _)) (pss_one (ps_raiseF rfl T.fault hr (takes_of rfl rfl rfl rfl) (pa_cons pe_int (pa_cons (pe_mt0 (m_Reader_here T) hr (by decide) (pv 0)) pa_nil)))) pss_nil)
      (pss_cons (ps_fldaug (pv 0) pe_int in_add)
      (pss_one (ps_ret (pv 1))))))), ?_⟩
    obtain ⟨G, a, c, l, rfl, R, k⟩ := h
    obtain ⟨x, r, dx, ta, i, tvs, toks, p, z, e0, h1, h2, h3, h4, h5, h6, h7, h8, h9⟩ := R.tok
    refine ⟨_, rfl, a, dx, _, rfl, h1, n_counter_here _ _ _, G, a, c, l, rfl, R, ?_⟩
    unfold takeName at k
    cases hn : Vaacla.nameAt l with
    | none =>
      rw [hn] at k
      refine ⟨_, rfl, _, _, rfl, rfl, _, rfl, ifT (by show (-1 : Int) < 0; decide) ⟨_, rfl, a, dx, _, rfl, h1, n_here _ _ _, G, a, c, l, rfl, R, ?_⟩⟩
      exact FaultP.at (f := ⟨2, here l⟩) k rfl rfl
    | some j =>
      rw [hn] at k
      dsimp only at k
      refine ⟨_, rfl, _, _, rfl, rfl, _, rfl, ifF (by show ¬ ((j : Nat) : Int) < 0; omega) ?_⟩
      refine ⟨_, rfl, _, rfl, a, A.CR, dx, _, _, rfl, h1, T.clR, T.aR_counters, rF_c _ _ _, _, _, rfl, rfl, _, rfl, ifD (fun q => ?_) (fun q => ?_)⟩
      · have q : (c : Int) ≤ (j : Int) := q
        rw [if_neg (by omega)] at k
        refine ⟨_, rfl, a, dx, _, rfl, h1, n_here _ _ _, G, a, c, l, rfl, R, ?_⟩
        exact FaultP.at (f := ⟨3, here l⟩) k rfl rfl
      · have q : ¬ (c : Int) ≤ (j : Int) := q
        rw [if_pos (by omega)] at k
        refine ⟨_, rfl, a, A.CR, dx, _, _, rfl, h1, T.clR, T.aR_at, rF_a _ _ _, _, _, rfl, rfl, dx, _, h1, (by show 3 < 1000; decide), ?_⟩
        rw [rF_put]
        subst e0
        refine ⟨_, rfl, ?_⟩
        refine k G _ _ (Ext.mut rfl) (RAt.step R h6 h7 h8 h9 fun q => ?_) rfl
        exact name_tok hn q)
theorem takeInt_is (m : Nat) (l : Toks) : takeInt m l = if wordIs "minus" l = true then (takeNum 0 m (l.drop 1)).bind fun n => .ok (-(n.1 : Int), n.2) else (takeNum 0 m l).bind fun n => .ok ((n.1 : Int), n.2) := by
  unfold takeInt
  rw [map_is, map_is]
def spWhole (A : Ad) : Sp := fun vs H Q E => ∃ (G : Hp) (a : Addr) (c : Nat) (l : Toks) (m : Nat), vs = [.ref a, .int (m : Int)] ∧ RAt A G H a c l ∧ GotP A G H a c (takeInt m l) repI Q E
theorem m_Reader_whole (T : Txt K mg A) : MetX P w K mg base 4 A.CR "whole" (spWhole A) :=
  metX_mk T.clR T.m_Reader_whole sc_Reader_whole bn_Reader_whole (fun vs H Q E h => by
    obtain ⟨_, _, _, _, _, rfl, _⟩ := h
    rfl) (fun f cdv A' outer s H vs Q E hr h => by
    refine ⟨_, (pss_cons (ps_if (pt_val (pe_mt (m_Reader_is_word T) hr (by decide) (pv 0) (pa_cons pe_str pa_nil))) (pss_cons (ps_expr (pe_mX (m_Reader_skip T) hr (by decide) (passes_call (takes_of rfl rfl rfl rfl) (fun _ _ _ _ q => q)) (pv 0) (pa_cons pe_str pa_nil)))
      (pss_one (ps_ret (pe_un un_neg (pe_mX (m_Reader_number T) hr (by decide) (passes_call (takes_of rfl rfl rfl rfl) (fun _ _ _ _ q => q)) (pv 0) (pa_cons pe_int (pa_cons (pv 1) pa_nil))))))) pss_nil)
      (pss_one (ps_ret (pe_mX (m_Reader_number T) hr (by decide) (passes_call (takes_of rfl rfl rfl rfl) (fun _ _ _ _ q => q)) (pv 0) (pa_cons pe_int (pa_cons (pv 1) pa_nil)))))), ?_⟩
    obtain ⟨G, a, c, l, m, rfl, R, k⟩ := h
    rw [takeInt_is] at k
    obtain ⟨dx, ta, i, h1⟩ := R.ins
    refine ⟨_, rfl, a, dx, _, rfl, h1, n_is_word _ _ _, G, a, c, l, _, rfl, R, _, rfl, ifB (fun hw => ?_) (fun hw => ?_)⟩
    all_goals rw [iw_minus R.ok] at hw
    · rw [if_pos hw] at k
      refine ⟨_, rfl, a, dx, _, rfl, h1, n_skip _ _ _, G, a, c, l, _, rfl, R, cw_minus, gu_to ((iw_minus R.ok).trans hw) fun G1 H1 e1 R1 => ?_⟩
      have k := GotP.mono k e1
      obtain ⟨dx1, ta1, i1, h11⟩ := R1.ins
      refine ⟨_, rfl, a, dx1, _, rfl, h11, n_number _ _ _, _, rfl, G1, a, c, _, 0, m, rfl, R1, GotP.bind k fun x l2 G2 H2 v er e2 R2 hr2 k2 => ?_⟩
      subst hr2
      exact ⟨_, rfl, k2.to R2 rfl⟩
    · rw [hw, if_neg Bool.false_ne_true] at k
      refine ⟨_, rfl, a, dx, _, rfl, h1, n_number _ _ _, _, rfl, G, a, c, _, 0, m, rfl, R, GotP.bind k fun x l2 G2 H2 v er e2 R2 hr2 k2 => ?_⟩
      subst hr2
      exact k2.to R2 rfl)
theorem bound_num {n m : Nat} {l : Toks} (h : Vaacla.nameAt l = none) : takeBound n m l = (takeInt m l).bind fun k => .ok (⟨none, k.1⟩, k.2) := by
  unfold takeBound
  rw [h]
  exact map_is _ _
theorem bound_name {n m : Nat} {l : Toks} (h1 : isNum l = false) (h2 : wordIs "minus" l = false) : takeBound n m l = (takeName n l).bind fun i => (takeMore m i.2).bind fun k => .ok (⟨some i.1, k.1⟩, k.2) := by
  unfold takeBound
  cases e : Vaacla.nameAt l with
  | none =>
    dsimp only
    unfold takeName takeInt
    rw [e, h2, if_neg Bool.false_ne_true, takeNum_no h1]
    rfl
  | some j =>
    dsimp only
    congr 1
theorem takeMore_is (m : Nat) (l : Toks) : takeMore m l = if wordIs "plus" l = true then (takeNum 0 m (l.drop 1)).bind fun k => .ok ((k.1 : Int), k.2) else if wordIs "minus" l = true then (takeNum 0 m (l.drop 1)).bind fun k => .ok (-(k.1 : Int), k.2) else .ok (0, l) := by
  unfold takeMore
  rw [map_is, map_is]
def spBound (A : Ad) : Sp := fun vs H Q E => ∃ (G : Hp) (a : Addr) (c : Nat) (l : Toks) (m : Nat), vs = [.ref a, .int (m : Int)] ∧ RAt A G H a c l ∧ GotP A G H a c (takeBound c m l) GivenAt Q E
theorem m_Reader_bound (T : Txt K mg A) : MetX P w K mg base 5 A.CR "bound" (spBound A) :=
  metX_mk T.clR T.m_Reader_bound sc_Reader_bound bn_Reader_bound (fun vs H Q E h => by
    obtain ⟨_, _, _, _, _, rfl, _⟩ := h
    rfl) (fun f cdv A' outer s H vs Q E hr h => by
    refine ⟨_, (pss_cons (ps_if (PW.pt (pw_or (pt_val (pe_mt0 (m_Reader_is_number T) hr (by decide) (pv 0))) (pw_or1 (pt_val (pe_mt (m_Reader_is_word T) hr (by decide) (pv 0) (pa_cons pe_str pa_nil)))))) (pss_one (ps_ret (pe_tup (pa_cons pe_int (pa_cons pe_int (pa_cons (pe_mX (m_Reader_whole T) hr (by decide) (passes_call (takes_of rfl rfl rfl rfl) (fun _ _ _ _ q => q)) (pv 0) (pa_cons (pv 1) pa_nil)) pa_nil)))))) pss_nil)
      (pss_cons (ps_set (i := 2) sc_Reader_bound.nd rfl (Or.inl rfl) (pe_mX0 (m_Reader_counter T) hr (by decide) (passes_call (takes_of rfl rfl rfl rfl) (fun _ _ _ _ q => q)) (pv 0)))
      (pss_cons (ps_if (pt_val (pe_mt (m_Reader_is_word T) hr (by decide) (pv 0) (pa_cons pe_str pa_nil))) (pss_cons (ps_expr (pe_mX (m_Reader_skip T) hr (by decide) (passes_call (takes_of rfl rfl rfl rfl) (fun _ _ _ _ q => q)) (pv 0) (pa_cons pe_str pa_nil)))
      (pss_one (ps_ret (pe_tup (pa_cons pe_int (pa_cons (pv 2) (pa_cons (pe_mX (m_Reader_number T) hr (by decide) (passes_call (takes_of rfl rfl rfl rfl) (fun _ _ _ _ q => q)) (pv 0) (pa_cons pe_int (pa_cons (pv 1) pa_nil))) pa_nil))))))) pss_nil)
      (pss_cons (ps_if (pt_val (pe_mt (m_Reader_is_word T) hr (by decide) (pv 0) (pa_cons pe_str pa_nil))) (pss_cons (ps_expr (pe_mX (m_Reader_skip T) hr (by decide) (passes_call (takes_of rfl rfl rfl rfl) (fun _ _ _ _ q => q)) (pv 0) (pa_cons pe_str pa_nil)))
      (pss_one (ps_ret (pe_tup (pa_cons pe_int (pa_cons (pv 2) (pa_cons (pe_un un_neg (pe_mX (m_Reader_number T) hr (by decide) (passes_call (takes_of rfl rfl rfl rfl) (fun _ _ _ _ q => q)) (pv 0) (pa_cons pe_int (pa_cons (pv 1) pa_nil)))) pa_nil))))))) pss_nil)
      (pss_one (ps_ret (pe_tup (pa_cons pe_int (pa_cons (pv 2) (pa_cons pe_int pa_nil)))))))))), ?_⟩
    obtain ⟨G, a, c, l, m, rfl, R, k⟩ := h
    obtain ⟨dx, ta, i, h1⟩ := R.ins
    have wh : Vaacla.nameAt l = none → spWhole A [.ref a, .int (m : Int)] H (fun v H1 => [V.int 0, .int 0, v].length ≤ sizeLine ∧ ∀ p, H1 p = none → Q (.ref p) (upd H1 p (.tup [.int 0, .int 0, v]))) E := fun hn => by
      rw [bound_num hn] at k
      refine ⟨G, a, c, l, m, rfl, R, GotP.bind k fun x l2 G2 H2 v er e2 R2 hr2 k2 => ?_⟩
      subst hr2
      refine ⟨by show 3 ≤ sizeLine; exact small (by decide), fun p hp => ?_⟩
      exact (GotP.mono k2 (Ext.new R2.same hp)).to (R2.new hp) ⟨p, rfl, upd_same⟩
    refine ⟨_, rfl, a, dx, _, rfl, h1, n_is_number _ _ _, G, a, c, l, rfl, R, _, rfl, ifB (fun hn => ?_) (fun hn => ?_)⟩
    · exact iteT ⟨_, rfl, a, dx, _, rfl, h1, n_whole _ _ _, _, rfl, wh (name_num hn)⟩
    refine ⟨_, rfl, a, dx, _, rfl, h1, n_is_word _ _ _, G, a, c, l, _, rfl, R, _, rfl, ifB (fun hw => ?_) (fun hw => ?_)⟩
    all_goals rw [iw_minus R.ok] at hw
    · exact ⟨_, rfl, a, dx, _, rfl, h1, n_whole _ _ _, _, rfl, wh (name_minus hw)⟩
    rw [bound_name hn hw] at k
    refine ⟨_, rfl, a, dx, _, rfl, h1, n_counter _ _ _, G, a, c, l, rfl, R, GotP.bind k fun x l1 G1 H1 v er e1 R1 hr1 k1 => ?_⟩
    subst hr1
    rw [takeMore_is] at k1
    obtain ⟨dx1, ta1, i1, h11⟩ := R1.ins
    dsimp only at k1
    refine ⟨_, rfl, a, dx1, _, rfl, h11, n_is_word _ _ _, G1, a, c, l1, _, rfl, R1, _, rfl, ifB (fun hp => ?_) (fun hp => ?_)⟩
    all_goals rw [iw_plus R1.ok] at hp
    · rw [if_pos hp, bind_bind] at k1
      refine ⟨_, rfl, a, dx1, _, rfl, h11, n_skip _ _ _, G1, a, c, l1, _, rfl, R1, cw_plus, gu_to ((iw_plus R1.ok).trans hp) fun G2 H2 e2 R2 => ?_⟩
      have k2 := GotP.mono k1 e2
      obtain ⟨dx2, ta2, i2, h12⟩ := R2.ins
      refine ⟨_, rfl, _, rfl, a, dx2, _, rfl, h12, n_number _ _ _, _, rfl, G2, a, c, _, 0, m, rfl, R2, GotP.bind k2 fun y l3 G3 H3 v er3 e3 R3 hr3 k3 => ?_⟩
      subst hr3
      refine ⟨by show 3 ≤ sizeLine; exact small (by decide), fun p hp => ?_⟩
      exact (GotP.mono k3 (Ext.new R3.same hp)).to (R3.new hp) ⟨p, rfl, upd_same⟩
    rw [hp, if_neg Bool.false_ne_true] at k1
    refine ⟨_, rfl, a, dx1, _, rfl, h11, n_is_word _ _ _, G1, a, c, l1, _, rfl, R1, _, rfl, ifB (fun hm => ?_) (fun hm => ?_)⟩
    all_goals rw [iw_minus R1.ok] at hm
    · rw [if_pos hm, bind_bind] at k1
      refine ⟨_, rfl, a, dx1, _, rfl, h11, n_skip _ _ _, G1, a, c, l1, _, rfl, R1, cw_minus, gu_to ((iw_minus R1.ok).trans hm) fun G2 H2 e2 R2 => ?_⟩
      have k2 := GotP.mono k1 e2
      obtain ⟨dx2, ta2, i2, h12⟩ := R2.ins
      refine ⟨_, rfl, _, rfl, a, dx2, _, rfl, h12, n_number _ _ _, _, rfl, G2, a, c, _, 0, m, rfl, R2, GotP.bind k2 fun y l3 G3 H3 v er3 e3 R3 hr3 k3 => ?_⟩
      subst hr3
      refine ⟨_, rfl, by show 3 ≤ sizeLine; exact small (by decide), fun p hp => ?_⟩
      exact (GotP.mono k3 (Ext.new R3.same hp)).to (R3.new hp) ⟨p, rfl, upd_same⟩
    · rw [hm, if_neg Bool.false_ne_true] at k1
      refine ⟨_, rfl, by show 3 ≤ sizeLine; exact small (by decide), fun p hp => ?_⟩
      exact (GotP.mono k1 (Ext.new R1.same hp)).to (R1.new hp) ⟨p, rfl, upd_same⟩)
end CL

set_option Elab.async false
set_option linter.all false
set_option maxRecDepth 100000
set_option maxHeartbeats 4000000
namespace CL
open PySem PySem.Spec PyProof.Rows L2
open C8 (Cal Met Mak pe_c pe_mk pe_mt pe_mt0 pe_gc)
open VaaclBase (Values Test Guard Branch Loop Piece okTest)
open Vaacla (isLetter SIGNS Token Toks Got wordIs here wrong takeSign takeWord takeNum takeInt takeName takeMore takeMove takeModulus takeTest takeGuard)
variable {P : PySem.Program} {w : World} {K : PySem.W.Frag} {mg : Str → Option Value} {base : Heap} {A : Ad}
theorem n_bound (ta : Addr) (i c : Int) : (rF ta i c).lookup ("bound" : Str) = none := rF_no _ _ _ (by decide +kernel) (by decide +kernel) (by decide +kernel)
theorem n_test (ta : Addr) (i c : Int) : (rF ta i c).lookup ("test" : Str) = none := rF_no _ _ _ (by decide +kernel) (by decide +kernel) (by decide +kernel)
theorem n_tests (ta : Addr) (i c : Int) : (rF ta i c).lookup ("tests" : Str) = none := rF_no _ _ _ (by decide +kernel) (by decide +kernel) (by decide +kernel)
theorem n_give (ta : Addr) (i c : Int) : (rF ta i c).lookup ("give" : Str) = none := rF_no _ _ _ (by decide +kernel) (by decide +kernel) (by decide +kernel)
theorem n_move (ta : Addr) (i c : Int) : (rF ta i c).lookup ("move" : Str) = none := rF_no _ _ _ (by decide +kernel) (by decide +kernel) (by decide +kernel)
theorem n_branch (ta : Addr) (i c : Int) : (rF ta i c).lookup ("branch" : Str) = none := rF_no _ _ _ (by decide +kernel) (by decide +kernel) (by decide +kernel)
theorem n_loop (ta : Addr) (i c : Int) : (rF ta i c).lookup ("loop" : Str) = none := rF_no _ _ _ (by decide +kernel) (by decide +kernel) (by decide +kernel)
theorem n_piece (ta : Addr) (i c : Int) : (rF ta i c).lookup ("piece" : Str) = none := rF_no _ _ _ (by decide +kernel) (by decide +kernel) (by decide +kernel)
theorem n_program (ta : Addr) (i c : Int) : (rF ta i c).lookup ("program" : Str) = none := rF_no _ _ _ (by decide +kernel) (by decide +kernel) (by decide +kernel)
/-- a reader's method -/
def spTake1 (A : Ad) {α : Type} (rd : Nat → Toks → Got (α × Toks)) (rep : Hp → V → α → Prop) : Sp := fun vs H Q E => ∃ (G : Hp) (a : Addr) (c : Nat) (l : Toks), vs = [.ref a] ∧ RAt A G H a c l ∧ c ≤ 4 ∧ GotP A G H a c (rd c l) rep Q E
abbrev spTest (A : Ad) : Sp := spTake1 A takeTest TestAt
theorem m_Reader_test (T : Txt K mg A) : MetX P w K mg base 6 A.CR "test" (spTest A) :=
  metX_mk T.clR T.m_Reader_test sc_Reader_test bn_Reader_test (fun vs H Q E h => by
    obtain ⟨_, _, _, _, rfl, _⟩ := h
    rfl) (fun f cdv A' outer s H vs Q E hr h => by
    refine ⟨_, (pss_cons (ps_set (i := 1) sc_Reader_test.nd rfl (Or.inl rfl) (pe_mX0 (m_Reader_counter T) hr (by decide) (passes_call (takes_of rfl rfl rfl rfl) (fun _ _ _ _ q => q)) (pv 0)))
      (pss_cons (ps_if (pt_val (pe_mt (m_Reader_is_word T) hr (by decide) (pv 0) (pa_cons pe_str pa_nil))) (pss_cons (ps_expr (pe_mX (m_Reader_skip T) hr (by decide) (passes_call (takes_of rfl rfl rfl rfl) (fun _ _ _ _ q => q)) (pv 0) (pa_cons pe_str pa_nil)))
      (pss_cons (ps_asg (pe_mX (m_Reader_bound T) hr (by decide) (passes_call (takes_of rfl rfl rfl rfl) (fun _ _ _ _ q => q)) (pv 0) (pa_cons (pe_gc (by rfl) T.c_MOST_TESTED) pa_nil)) (pg_tup (by rfl) (pgs_cons (pg_name (i := 2) sc_Reader_test.nd rfl (Or.inl rfl)) (pgs_cons (pg_name (i := 3) sc_Reader_test.nd rfl (Or.inl rfl)) (pgs_cons (pg_name (i := 4) sc_Reader_test.nd rfl (Or.inl rfl)) pgs_nil)))))
      (pss_cons (ps_if (pt_cmpR op_eq (pv 2) pe_int (nomark _)) (pss_one (ps_ret (pe_tup (pa_cons pe_int (pa_cons (pv 1) (pa_cons (pv 4) (pa_cons pe_int pa_nil))))))) pss_nil)
      (pss_one (ps_ret (pe_tup (pa_cons pe_int (pa_cons (pv 1) (pa_cons (pv 3) (pa_cons (pv 4) pa_nil)))))))))) pss_nil)
      (pss_cons (ps_if (pt_val (pe_mt (m_Reader_is_word T) hr (by decide) (pv 0) (pa_cons pe_str pa_nil))) (pss_cons (ps_expr (pe_mX (m_Reader_skip T) hr (by decide) (passes_call (takes_of rfl rfl rfl rfl) (fun _ _ _ _ q => q)) (pv 0) (pa_cons pe_str pa_nil)))
      (pss_one (ps_ret (pe_tup (pa_cons pe_int (pa_cons (pv 1) (pa_cons (pe_mX (m_Reader_whole T) hr (by decide) (passes_call (takes_of rfl rfl rfl rfl) (fun _ _ _ _ q => q)) (pv 0) (pa_cons (pe_gc (by rfl) T.c_MOST_TESTED) pa_nil)) (pa_cons pe_int pa_nil)))))))) pss_nil)
      (pss_cons (ps_expr (pe_mX (m_Reader_skip T) hr (by decide) (passes_call (takes_of rfl rfl rfl rfl) (fun _ _ _ _ q => q)) (pv 0) (pa_cons pe_str pa_nil)))
      (pss_cons (ps_set (i := 5) sc_Reader_test.nd rfl (Or.inl rfl) (pe_mX0 (m_Reader_modulus T) hr (by decide) (passes_call (takes_of rfl rfl rfl rfl) (fun _ _ _ _ q => q)) (pv 0)))
      (pss_one (ps_ret (pe_tup (pa_cons pe_int (pa_cons (pv 1) (pa_cons (pv 5) (pa_cons (pe_mX (m_Reader_number T) hr (by decide) (passes_call (takes_of rfl rfl rfl rfl) (fun _ _ _ _ q => q)) (pv 0) (pa_cons pe_int (pa_cons (pe_op op_sub (pv 5) pe_int) pa_nil))) pa_nil)))))))))))), ?_⟩
    obtain ⟨G, a, c, l, rfl, R, hc, k⟩ := h
    rw [takeTest_is] at k
    obtain ⟨dx, ta, i, h1⟩ := R.ins
    refine ⟨_, rfl, a, dx, _, rfl, h1, n_counter _ _ _, G, a, c, l, rfl, R, GotP.bind k fun x l1 G1 H1 v er e1 R1 hr1 k1 => ?_⟩
    subst hr1
    dsimp only at k1
    obtain ⟨dx1, ta1, i1, h11⟩ := R1.ins
    refine ⟨_, rfl, a, dx1, _, rfl, h11, n_is_word _ _ _, G1, a, c, l1, _, rfl, R1, _, rfl, ifB (fun hp => ?_) (fun hp => ?_)⟩
    all_goals rw [iw_atmost R1.ok] at hp
    · rw [if_pos hp] at k1
      refine ⟨_, rfl, a, dx1, _, rfl, h11, n_skip _ _ _, G1, a, c, l1, _, rfl, R1, cw_atmost, gu_to ((iw_atmost R1.ok).trans hp) fun G2 H2 e2 R2 => ?_⟩
      have k2 := GotP.mono k1 e2
      obtain ⟨dx2, ta2, i2, h12⟩ := R2.ins
      refine ⟨_, rfl, a, dx2, _, rfl, h12, n_bound _ _ _, G2, a, c, _, 999999, rfl, R2, GotP.bind k2 fun g l3 G3 H3 v er3 e3 R3 hr3 k3 => ?_⟩
      obtain ⟨src, add⟩ := g
      obtain ⟨t, rfl, ht⟩ := hr3
      have ht := R3.same _ _ ht
      cases src with
      | none =>
        have ht : H3 t = some (.tup [.int 0, .int 0, .int add]) := ht
        refine ⟨t, _, rfl, SqT.of ht, rfl, _, _, rfl, _, _, rfl, _, _, rfl, rfl, ?_⟩
        refine ⟨_, rfl, rfl, _, rfl, ifT rfl ?_⟩
        refine ⟨_, rfl, _, rfl, by show 4 ≤ sizeLine; exact small (by decide), fun p hp => ?_⟩
        exact (GotP.mono k3 (Ext.new R3.same hp)).to (R3.new hp) ⟨p, rfl, upd_same⟩
      | some y =>
        have ht : H3 t = some (.tup [.int 1, .int (y : Int), .int add]) := ht
        refine ⟨t, _, rfl, SqT.of ht, rfl, _, _, rfl, _, _, rfl, _, _, rfl, rfl, ?_⟩
        refine ⟨_, rfl, rfl, _, rfl, ifF (int_ne (by decide)) ?_⟩
        refine ⟨_, rfl, _, rfl, _, rfl, by show 4 ≤ sizeLine; exact small (by decide), fun p hp => ?_⟩
        exact (GotP.mono k3 (Ext.new R3.same hp)).to (R3.new hp) ⟨p, rfl, upd_same⟩
    rw [hp, if_neg Bool.false_ne_true] at k1
    refine ⟨_, rfl, a, dx1, _, rfl, h11, n_is_word _ _ _, G1, a, c, l1, _, rfl, R1, _, rfl, ifB (fun hq => ?_) (fun hq => ?_)⟩
    all_goals rw [iw_atleast R1.ok] at hq
    · rw [if_pos hq] at k1
      refine ⟨_, rfl, a, dx1, _, rfl, h11, n_skip _ _ _, G1, a, c, l1, _, rfl, R1, cw_atleast, gu_to ((iw_atleast R1.ok).trans hq) fun G2 H2 e2 R2 => ?_⟩
      have k2 := GotP.mono k1 e2
      obtain ⟨dx2, ta2, i2, h12⟩ := R2.ins
      refine ⟨_, rfl, _, rfl, a, dx2, _, rfl, h12, n_whole _ _ _, G2, a, c, _, 999999, rfl, R2, GotP.bind k2 fun y l3 G3 H3 v er3 e3 R3 hr3 k3 => ?_⟩
      subst hr3
      refine ⟨by show 4 ≤ sizeLine; exact small (by decide), fun p hp => ?_⟩
      exact (GotP.mono k3 (Ext.new R3.same hp)).to (R3.new hp) ⟨p, rfl, upd_same⟩
    rw [hq, if_neg Bool.false_ne_true] at k1
    refine ⟨_, rfl, a, dx1, _, rfl, h11, n_skip _ _ _, G1, a, c, l1, _, rfl, R1, cw_rem, ?_⟩
    rw [iw_rem R1.ok]
    by_cases hw : wordIs "rem" l1 = true
    · rw [if_pos hw] at k1
      refine gu_to hw fun G2 H2 e2 R2 => ?_
      have k2 := GotP.mono k1 e2
      obtain ⟨dx2, ta2, i2, h12⟩ := R2.ins
      refine ⟨_, rfl, a, dx2, _, rfl, h12, n_modulus _ _ _, G2, a, c, _, rfl, R2, GotP.bind k2 fun m l3 G3 H3 v er3 e3 R3 hr3 k3 => ?_⟩
      subst hr3
      obtain ⟨dx3, ta3, i3, h13⟩ := R3.ins
      have hm := modulus_in (takeModulus_ok er3).1
      refine ⟨_, rfl, _, rfl, _, rfl, a, dx3, _, rfl, h13, n_number _ _ _, _, rfl, _, _, rfl, rfl, G3, a, c, _, 0, m - 1, by rw [show ((m - 1 : Nat) : Int) = (m : Int) - 1 by omega]; rfl, R3, GotP.bind k3 fun r l4 G4 H4 v er4 e4 R4 hr4 k4 => ?_⟩
      subst hr4
      refine ⟨by show 4 ≤ sizeLine; exact small (by decide), fun p hp => ?_⟩
      exact (GotP.mono k4 (Ext.new R4.same hp)).to (R4.new hp) ⟨p, rfl, upd_same⟩
    · rw [if_neg hw] at k1 ⊢
      exact k1)
theorem Grow.begin {α : Type} {X : Addr → Prop} {R : Hp → V → α → Prop} {G0 H0 G H : Hp} {D : Addr} {xs : List α} {vs : List V} (e : Ext X G0 H0 G H) (hG : G D = none) (h0 : H0 D = none) (g0 : G0 D = none) (hX : ¬ X D) (p : Paired (R G) vs xs) : Grow X R G0 H0 G (upd H D (.lst vs)) D xs :=
  ⟨e.mutD h0, hG, h0, g0, hX, vs, upd_same, p⟩
/-- the tests are taken: the loop -/
def TsInv (A : Ad) (a D : Addr) (c : Nat) (G0 H0 : Hp) (Q : VK) (E : XK) (m : Nat) (σ : L2.St) (H : Hp) : Prop := ∃ (G : Hp) (acc : Guard) (l : Toks), m = l.length ∧ σ = [some (.ref a), some (.ref D)] ∧ RAt A G H a c l ∧ Grow (XA a) TestAt G0 H0 G H D acc ∧ acc.length ≤ 3 ∧
  GotP A G0 H0 a c (if wordIs "and" l = true then tsF c acc (l.drop 1) else .ok (acc, l)) GuardAt Q E
abbrev spTests (A : Ad) : Sp := spTake1 A takeGuard GuardAt
theorem m_Reader_tests (T : Txt K mg A) : MetX P w K mg base 7 A.CR "tests" (spTests A) :=
  metX_mk T.clR T.m_Reader_tests sc_Reader_tests bn_Reader_tests (fun vs H Q E h => by
    obtain ⟨_, _, _, _, rfl, _⟩ := h
    rfl) (fun f cdv A' outer s H vs Q E hr h => by
    refine ⟨_, (pss_cons (ps_if (pt_val (pe_mt (m_Reader_is_word T) hr (by decide) (pv 0) (pa_cons pe_str pa_nil))) (pss_cons (ps_expr (pe_mX (m_Reader_skip T) hr (by decide) (passes_call (takes_of rfl rfl rfl rfl) (fun _ _ _ _ q => q)) (pv 0) (pa_cons pe_str pa_nil)))
      (pss_one (ps_ret (pe_lst pa_nil)))) pss_nil)
      (pss_cons (ps_set (i := 1) sc_Reader_tests.nd rfl (Or.inl rfl) (pe_lst (pa_cons (pe_mX0 (m_Reader_test T) hr (by decide) (passes_call (takes_of rfl rfl rfl rfl) (fun _ _ _ _ q => q)) (pv 0)) pa_nil)))
      (pss_cons (ps_while (passes_of rfl) (pt_val (pe_mt (m_Reader_is_word T) hr (by decide) (pv 0) (pa_cons pe_str pa_nil))) (pss_cons (ps_expr (pe_mX (m_Reader_skip T) hr (by decide) (passes_call (takes_of rfl rfl rfl rfl) (fun _ _ _ _ q => q)) (pv 0) (pa_cons pe_str pa_nil)))
      (pss_cons (ps_if (PW.pt (pw_and (pt_cmpR op_eq (pe_callB call_len_seq (by rfl) T.b_len PySem.boot_len (pa_cons (pv 1) pa_nil)) (pe_gc (by rfl) T.c_MOST_TESTS) (nomark _)) (pw_and1 (pt_cmpR op_ge (pe_mt0 (m_Reader_counter_here T) hr (by decide) (pv 0)) pe_int (nomark _))))) (pss_one (ps_raiseF rfl T.fault hr (takes_of rfl rfl rfl rfl) (pa_cons pe_int (pa_cons (pe_mt0 (m_Reader_here T) hr (by decide) (pv 0)) pa_nil)))) pss_nil)
      (pss_one (ps_expr (pe_bm PySem.F.plainAttrs_list PySem.F.slot_list_append PySem.F.type_list_append mt_append (pv 1) (pa_cons (pe_mX0 (m_Reader_test T) hr (by decide) (passes_call (takes_of rfl rfl rfl rfl) (fun _ _ _ _ q => q)) (pv 0)) pa_nil)))))))
      (pss_one (ps_ret (pv 1)))))), ?_⟩
    obtain ⟨G, a, c, l, rfl, R, hc, k⟩ := h
    have k : GotP A G H a c (if wordIs "any" l = true then .ok ([], l.drop 1) else tsF c [] l) GuardAt Q E := k
    obtain ⟨dx, ta, i, h1⟩ := R.ins
    refine ⟨_, rfl, a, dx, _, rfl, h1, n_is_word _ _ _, G, a, c, l, _, rfl, R, _, rfl, ifB (fun hp => ?_) (fun hp => ?_)⟩
    all_goals rw [iw_any R.ok] at hp
    · rw [if_pos hp] at k
      refine ⟨_, rfl, a, dx, _, rfl, h1, n_skip _ _ _, G, a, c, l, _, rfl, R, cw_any, gu_to ((iw_any R.ok).trans hp) fun G2 H2 e2 R2 => ?_⟩
      have k2 := GotP.mono k e2
      refine ⟨by show 0 ≤ sizeLine; exact Nat.zero_le _, fun p hp => ?_⟩
      exact (GotP.mono k2 (Ext.new R2.same hp)).to (R2.new hp) ⟨p, [], rfl, upd_same, .nil⟩
    rw [hp, if_neg Bool.false_ne_true, tsF_is c [] R.nn] at k
    have ez : (decide (3 ≤ ([] : Guard).length) && (Vaacla.nameAt l).isSome) = false := rfl
    rw [ez, if_neg Bool.false_ne_true] at k
    refine ⟨_, rfl, a, dx, _, rfl, h1, n_test _ _ _, G, a, c, l, rfl, R, hc, GotP.bind k fun x l1 G1 H1 v er e1 R1 hr1 k1 => ?_⟩
    refine ⟨by show 1 ≤ sizeLine; exact small (by decide), fun D hD => ?_⟩
    have gD := R1.same.free hD
    obtain ⟨dx1, ta1, i1, h11⟩ := R1.ins
    have haD : a ≠ D := ne_of_none h11 hD
    refine ⟨TsInv A a D c G1 H1 Q E, ⟨_, G1, [x], l1, rfl, rfl, R1.mut gD haD, Grow.begin (Ext.refl _ _ _) gD hD gD (fun q => haD q.symm) (.cons hr1 .nil), (by decide : 1 ≤ 3), k1⟩, ?_⟩
    rintro m σ H2 ⟨G2, acc, l2, rfl, rfl, R2, g, ha3, k2⟩
    obtain ⟨dx2, ta2, i2, h12⟩ := R2.ins
    obtain ⟨vs, hvs, _⟩ := id g.at_
    refine ⟨_, rfl, a, dx2, _, rfl, h12, n_is_word _ _ _, G2, a, c, l2, _, rfl, R2, _, rfl, ?_⟩
    rw [iw_and R2.ok]
    cases hw : wordIs "and" l2 with
    | false =>
      rw [hw, if_neg Bool.false_ne_true] at k2
      refine iteF ⟨_, rfl, ?_⟩
      have d := g.done R2.same TestAt.mono hvs
      exact k2 _ _ _ d.1 (R2.put hvs g.hole haD) d.2.2
    | true =>
      rw [hw, if_pos rfl] at k2
      refine iteT ⟨fun σ' H' => ∃ m', m' < l2.length ∧ TsInv A a D c G1 H1 Q E m' σ' H', fun _ _ h => h, ?_⟩
      refine ⟨_, rfl, a, dx2, _, rfl, h12, n_skip _ _ _, G2, a, c, l2, _, rfl, R2, cw_and, gu_to ((iw_and R2.ok).trans hw) fun G3 H3 e3 R3 => ?_⟩
      have g3 := g.to TestAt.mono e3 (xa_hole R3.hole)
      obtain ⟨dx3, ta3, i3, h13⟩ := R3.ins
      obtain ⟨us, hus, _⟩ := id g3.at_
      have hul := g3.len hus
      rw [tsF_is c acc R3.nn] at k2
      have app : (decide (3 ≤ acc.length) && (Vaacla.nameAt (l2.drop 1)).isSome) = false → GotP A G3 H3 a c (takeTest c (l2.drop 1)) TestAt (fun v H4 => ∃ (t : Addr) (vs : List V) (y : V), V.ref D = .ref t ∧ [v] = [y] ∧ H4 t = some (.lst vs) ∧ vs.length < sizeLine ∧ ∃ m', m' < l2.length ∧ TsInv A a D c G1 H1 Q E m' [some (.ref a), some (.ref D)] (upd H4 t (.lst (vs ++ [y])))) E := fun hz => by
        rw [hz, if_neg Bool.false_ne_true] at k2
        refine GotP.bind0 k2 g3.ext fun x l4 G4 H4 v er4 e4 R4 hr4 k4 => ?_
        have g4 := g3.to TestAt.mono e4 (xa_hole R4.hole)
        obtain ⟨ws, hws, _⟩ := id g4.at_
        have hwl := g4.len hws
        have ok4 := takeTest_ok er4
        rw [ok4.2.2, Bool.and_true, decide_eq_false_iff_not] at hz
        rw [List.length_drop] at ok4
        refine ⟨D, ws, v, rfl, rfl, hws, smallL (by omega), l4.length, by omega, G4, acc ++ [x], l4, rfl, rfl, R4.mut g4.hole haD, g4.app hws hr4, by rw [List.length_append, List.length_singleton]; omega, k4⟩
      refine ⟨_, rfl, D, _, rfl, .inl (SqL.of hus), rfl, _, rfl, ifD (fun h3 => ?_) (fun h3 => ?_)⟩
      · have h3 : 3 ≤ acc.length := by have := V.int.inj h3; omega
        refine ⟨_, rfl, a, dx3, _, rfl, h13, n_counter_here _ _ _, G3, a, c, _, rfl, R3, _, _, rfl, rfl, _, rfl, ?_⟩
        cases hn : Vaacla.nameAt (l2.drop 1) with
        | some j =>
          rw [hn, decide_eq_true h3] at k2
          refine ifT (by show (0 : Int) ≤ (j : Int); omega) ⟨_, rfl, a, dx3, _, rfl, h13, n_here _ _ _, G3, a, c, _, rfl, R3, ?_⟩
          have k2 : FaultP A (XA a) H1 E ⟨4, here (l2.drop 1)⟩ := k2
          exact FaultP.at (FaultP.mono k2 g3.ext.keep) rfl rfl
        | none =>
          refine ifF (by show ¬ (0 : Int) ≤ -1; decide) ?_
          exact ⟨_, rfl, .inl ⟨rfl, _, SqL.of hus⟩, _, rfl, a, dx3, _, rfl, h13, n_test _ _ _, G3, a, c, _, rfl, R3, hc, app (by rw [hn]; exact Bool.and_false _)⟩
      · have h3 : ¬ 3 ≤ acc.length := fun q => h3 (int_eq (by omega))
        refine iteF ?_
        exact ⟨_, rfl, .inl ⟨rfl, _, SqL.of hus⟩, _, rfl, a, dx3, _, rfl, h13, n_test _ _ _, G3, a, c, _, rfl, R3, hc, app (by rw [decide_eq_false h3]; rfl)⟩)
end CL

set_option Elab.async false
set_option linter.all false
set_option maxRecDepth 100000
set_option maxHeartbeats 4000000
namespace CL
open PySem PySem.Spec PyProof.Rows L2
open C8 (Cal Met Mak pe_c pe_mk pe_mt pe_mt0 pe_gc)
open VaaclBase (Values Test Guard Branch Loop Piece okTest)
open Vaacla (isLetter SIGNS Token Toks Got wordIs here wrong takeSign takeWord takeNum takeInt takeName takeMore takeMove takeModulus takeTest takeGuard)
variable {P : PySem.Program} {w : World} {K : PySem.W.Frag} {mg : Str → Option Value} {base : Heap} {A : Ad}
/-! ## give: two lists are changed -/
abbrev X3 (a m d : Addr) : Addr → Prop := fun b => b = a ∨ b = m ∨ b = d
theorem xn_nat {n j : Nat} (hj : j < n) : ixN n (j : Int) = some j := by
  unfold ixN
  rw [if_pos (by omega), if_pos (by omega)]
  rfl
theorem pair_set {α β : Type} {F : α → β → Prop} {x : α} {y : β} (r : F x y) : ∀ {xs : List α} {ys : List β} (i : Nat), Paired F xs ys → Paired F (xs.set i x) (ys.set i y)
  | _, _, _, .nil => .nil
  | _, _, 0, .cons _ t => .cons r t
  | _, _, i + 1, .cons h t => .cons h (pair_set r i t)
structure GiveAt (G H : Hp) (m d : Addr) (c : Nat) (mv : Mv) (done : List Nat) : Prop where
  gm : G m = none
  gd : G d = none
  ne : m ≠ d
  mv_ : ∃ ms, H m = some (.lst ms) ∧ Paired (GivenAt G) ms mv
  dn_ : ∃ dn : List Bool, H d = some (.lst (dn.map V.bl)) ∧ dn.length = c ∧ ∀ i, i < c → dn[i]? = some (done.contains i)
  lm : mv.length = c
theorem gone {X : Addr → Prop} {G H G' H' : Hp} {D : Addr} {o : HO} (e : Ext X G H G' H') (hG : G D = none) (hH : H D = some o) : G' D = none := by
  cases q : G' D with
  | none => rfl
  | some u =>
    rcases e.fresh D u q with z | z
    · rw [hG] at z
      cases z
    · rw [hH] at z
      cases z
theorem GiveAt.to {G H G' H' : Hp} {a m d : Addr} {c : Nat} {mv : Mv} {done : List Nat} (g : GiveAt G H m d c mv done) (e : Ext (XA a) G H G' H') (h1 : a ≠ m) (h2 : a ≠ d) : GiveAt G' H' m d c mv done := by
  obtain ⟨ms, hm, hp⟩ := g.mv_
  obtain ⟨dn, hd, hl, hq⟩ := g.dn_
  exact ⟨gone e g.gm hm, gone e g.gd hd, g.ne, ⟨ms, e.keep m _ (fun q => h1 q.symm) hm, Paired.mapP hp (GivenAt.mono e.sg)⟩, ⟨dn, e.keep d _ (fun q => h2 q.symm) hd, hl, hq⟩, g.lm⟩
def GvP (A : Ad) (G H : Hp) (a m d : Addr) (c : Nat) (r : Got ((List Nat × Mv) × Toks)) (Q : VK) (E : XK) : Prop := match r with
  | .ok x => ∀ (G' H' : Hp), Ext (X3 a m d) G H G' H' → RAt A G' H' a c x.2 → GiveAt G' H' m d c x.1.2 x.1.1 → Q .non H'
  | .error f => FaultP A (X3 a m d) H E f
section
variable {α β : Type} {G H G0 H0 G' H' : Hp} {a m d : Addr} {c : Nat} {Q : VK} {E : XK} {l : Toks}
theorem keep3 (k : Keep (XA a) H H') : Keep (X3 a m d) H H' := fun b o h e => k b o (fun q => h (.inl q)) e
theorem ext3 (e : Ext (XA a) G H G' H') : Ext (X3 a m d) G H G' H' := ⟨e.sg, keep3 e.keep, e.fresh⟩
theorem x3_hole {mv : Mv} {done : List Nat} (h : G a = none) (g : GiveAt G H m d c mv done) : ∀ b, X3 a m d b → G b = none := fun b hb => by
  rcases hb with q | q | q
  · rw [q]
    exact h
  · rw [q]
    exact g.gm
  · rw [q]
    exact g.gd
theorem GvP.mono {r : Got ((List Nat × Mv) × Toks)} (k : GvP A G0 H0 a m d c r Q E) (e : Ext (X3 a m d) G0 H0 G H) : GvP A G H a m d c r Q E := by
  cases r with
  | error f => exact FaultP.mono k e.keep
  | ok x => exact fun G' H' e' N g => k G' H' (e.trans e' (x3_hole N.hole g)) N g
theorem GvP.bind {r : Got (α × Toks)} {repa : Hp → V → α → Prop} {Q1 : VK} {f : α × Toks → Got ((List Nat × Mv) × Toks)} (k : GvP A G H a m d c (r.bind f) Q E)
    (h : ∀ (x : α) (l' : Toks) (G' H' : Hp) (v : V), r = .ok (x, l') → Ext (XA a) G H G' H' → RAt A G' H' a c l' → repa G' v x → GvP A G' H' a m d c (f (x, l')) Q E → Q1 v H') : GotP A G H a c r repa Q1 E := by
  cases r with
  | error f => exact fun H' d' kp hd => k H' d' (keep3 kp) hd
  | ok x =>
    intro G' H' v e N hr
    exact h x.1 x.2 G' H' v rfl e N hr (GvP.mono (r := f x) k (ext3 e))
theorem GvP.bindU {r : Got Toks} {Q1 : VK} {f : Toks → Got ((List Nat × Mv) × Toks)} (k : GvP A G H a m d c (r.bind f) Q E)
    (h : ∀ (l' : Toks) (G' H' : Hp), r = .ok l' → Ext (XA a) G H G' H' → RAt A G' H' a c l' → GvP A G' H' a m d c (f l') Q E → Q1 .non H') : GotU A G H a c r Q1 E := by
  cases r with
  | error f => exact fun H' d' kp hd => k H' d' (keep3 kp) hd
  | ok x =>
    intro G' H' e N
    exact h x G' H' rfl e N (GvP.mono (r := f x) k (ext3 e))
theorem keep_less (hm : H0 m = none) (hd : H0 d = none) (k0 : Keep (XA a) H0 H) (k : Keep (X3 a m d) H H') : Keep (XA a) H0 H' := fun b o h e => by
  refine k b o (fun q => ?_) (k0 b o h e)
  rcases q with q | q | q
  · exact h q
  · rw [q, hm] at e
    cases e
  · rw [q, hd] at e
    cases e
theorem ext_less (hm : H0 m = none) (hd : H0 d = none) (ha : G' a = none) (e0 : Ext (XA a) G0 H0 G H) (e : Ext (X3 a m d) G H G' H') : Ext (XA a) G0 H0 G' H' := by
  refine ⟨e0.sg.trans e.sg, keep_less hm hd e0.keep e.keep, fun b o h => ?_⟩
  rcases e.fresh b o h with z | z
  · exact e0.fresh b o z
  · right
    cases q : H0 b with
    | none => rfl
    | some u =>
      have hb : ¬ XA a b := fun z => by
        have z : b = a := z
        rw [z, ha] at h
        cases h
      rw [e0.keep b u hb q] at z
      cases z
/-- a call of give within move -/
theorem gv_call {mv : Mv} {done : List Nat} {rep : Hp → V → β → Prop} {Q1 : VK} {F : (List Nat × Mv) × Toks → Got (β × Toks)} (k : GotP A G0 H0 a c ((takeGive c done mv l).bind F) rep Q E) (e0 : Ext (XA a) G0 H0 G H) (hm : H0 m = none) (hd : H0 d = none)
    (h : ∀ (done' : List Nat) (mv' : Mv) (l' : Toks) (G' H' : Hp), takeGive c done mv l = .ok ((done', mv'), l') → Ext (XA a) G0 H0 G' H' → RAt A G' H' a c l' → GiveAt G' H' m d c mv' done' → GotP A G0 H0 a c (F ((done', mv'), l')) rep Q E → Q1 .non H') : GvP A G H a m d c (takeGive c done mv l) Q1 E := by
  cases e : takeGive c done mv l with
  | error f =>
    rw [e] at k
    exact fun H' d' kp hd' => k H' d' (keep_less hm hd e0.keep kp) hd'
  | ok x =>
    rw [e] at k
    intro G' H' e' N g
    exact h x.1.1 x.1.2 x.2 G' H' e (ext_less hm hd N.hole e0 e') N g k
end
def spGive (A : Ad) : Sp := fun vs H Q E => ∃ (G : Hp) (a m d : Addr) (c : Nat) (l : Toks) (mv : Mv) (done : List Nat), vs = [.ref a, .ref m, .ref d] ∧ RAt A G H a c l ∧ GiveAt G H m d c mv done ∧ c ≤ 4 ∧ GvP A G H a m d c (takeGive c done mv l) Q E
theorem m_Reader_give (T : Txt K mg A) : MetX P w K mg base 6 A.CR "give" (spGive A) :=
  metX_mk T.clR T.m_Reader_give sc_Reader_give bn_Reader_give (fun vs H Q E h => by
    obtain ⟨_, _, _, _, _, _, _, _, rfl, _⟩ := h
    rfl) (fun f cdv A' outer s H vs Q E hr h => by
    refine ⟨_, (pss_cons (ps_set (i := 3) sc_Reader_give.nd rfl (Or.inl rfl) (pe_mt0 (m_Reader_here T) hr (by decide) (pv 0)))
      (pss_cons (ps_set (i := 4) sc_Reader_give.nd rfl (Or.inl rfl) (pe_mX0 (m_Reader_counter T) hr (by decide) (passes_call (takes_of rfl rfl rfl rfl) (fun _ _ _ _ q => q)) (pv 0)))
      (pss_cons (ps_if (pt_val (pe_ix ix_list (pv 2) (pv 4) (fun _ _ => rfl))) (pss_one (ps_raiseF rfl T.fault hr (takes_of rfl rfl rfl rfl) (pa_cons pe_int (pa_cons (pv 3) pa_nil)))) pss_nil)
      (pss_cons (ps_asg pe_bl (pg_sub (pv 2) (pv 4) set_list))
      (pss_cons (ps_expr (pe_mX (m_Reader_skip T) hr (by decide) (passes_call (takes_of rfl rfl rfl rfl) (fun _ _ _ _ q => q)) (pv 0) (pa_cons pe_str pa_nil)))
      (pss_one (ps_asg (pe_mX (m_Reader_bound T) hr (by decide) (passes_call (takes_of rfl rfl rfl rfl) (fun _ _ _ _ q => q)) (pv 0) (pa_cons (pe_gc (by rfl) T.c_MOST_GIVEN) pa_nil)) (pg_sub (pv 1) (pv 4) set_list)))))))), ?_⟩
    obtain ⟨G, a, m, d, c, l, mv, done, rfl, R, gv, hc, k⟩ := h
    obtain ⟨dx, ta, i, h1⟩ := R.ins
    have ham : a ≠ m := by
      obtain ⟨ms, hm, _⟩ := gv.mv_
      exact R.ne hm fun dx fs q => by cases q
    have had : a ≠ d := by
      obtain ⟨dn, hd, _⟩ := gv.dn_
      exact R.ne hd fun dx fs q => by cases q
    unfold takeGive at k
    refine ⟨_, rfl, a, dx, _, rfl, h1, n_here _ _ _, G, a, c, l, rfl, R, ?_⟩
    refine ⟨_, rfl, a, dx, _, rfl, h1, n_counter _ _ _, G, a, c, l, rfl, R, GvP.bind k fun x l1 G1 H1 v er e1 R1 hr1 k1 => ?_⟩
    subst hr1
    have hx := (takeName_ok er).1
    have g1 := gv.to e1 ham had
    obtain ⟨dn, hd, hdl, hdq⟩ := id g1.dn_
    have hdv : (dn.map V.bl)[x]? = some (.bl (done.contains x)) := by
      rw [List.getElem?_map, hdq x hx]
      rfl
    dsimp only at k1
    refine ⟨_, rfl, _, rfl, d, _, _, _, rfl, rfl, SqL.of hd, atI_nat hdv, _, rfl, ?_⟩
    cases hdc : done.contains x with
    | true =>
      rw [hdc, if_pos rfl] at k1
      exact iteT ⟨_, rfl, FaultP.at (f := ⟨5, here l⟩) k1 rfl rfl⟩
    | false =>
      rw [hdc, if_neg Bool.false_ne_true] at k1
      refine iteF ⟨_, rfl, _, rfl, d, _, _, x, rfl, rfl, hd, xn_nat (by rw [List.length_map]; omega), ?_⟩
      rw [← List.map_set]
      have hdn : ∀ i, i < c → (dn.set x true)[i]? = some ((x :: done).contains i) := fun i hi => by
        rw [List.getElem?_set, List.contains_cons]
        by_cases q : x = i
        · subst q
          rw [if_pos rfl, if_pos (by omega)]
          simp
        · rw [if_neg q, hdq i hi]
          have : (i == x) = false := by simp; omega
          rw [this, Bool.false_or]
      have R2 := R1.mut (o := .lst ((dn.set x true).map V.bl)) g1.gd had
      have g2 : GiveAt G1 (upd H1 d (.lst ((dn.set x true).map V.bl))) m d c mv (x :: done) := by
        obtain ⟨ms, hm, hp⟩ := g1.mv_
        exact ⟨g1.gm, g1.gd, g1.ne, ⟨ms, (upd_ne g1.ne).trans hm, hp⟩, ⟨_, upd_same, by rw [List.length_set]; exact hdl, hdn⟩, g1.lm⟩
      have k2 := GvP.mono k1 (Ext.mut (X := X3 a m d) (G := G1) (a := d) (o := .lst ((dn.set x true).map V.bl)) (.inr (.inr rfl)))
      generalize upd H1 d (.lst ((dn.set x true).map V.bl)) = H2 at R2 g2 k2 ⊢
      obtain ⟨dx2, ta2, i2, h12⟩ := R2.ins
      refine ⟨_, rfl, a, dx2, _, rfl, h12, n_skip _ _ _, G1, a, c, l1, _, rfl, R2, cw_is, ?_⟩
      rw [iw_is R2.ok]
      refine GvP.bindU (r := takeWord "is" l1) k2 fun l3 G3 H3 er3 e3 R3 k3 => ?_
      have g3 := g2.to e3 ham had
      obtain ⟨dx3, ta3, i3, h13⟩ := R3.ins
      refine ⟨_, rfl, a, dx3, _, rfl, h13, n_bound _ _ _, G3, a, c, l3, 99, rfl, R3, GvP.bind k3 fun g l4 G4 H4 v er4 e4 R4 hr4 k4 => ?_⟩
      have g4 := g3.to e4 ham had
      obtain ⟨ms, hm, hp⟩ := id g4.mv_
      refine ⟨_, rfl, _, rfl, m, ms, _, x, rfl, rfl, hm, xn_nat (by rw [hp.length, g4.lm]; exact hx), ?_⟩
      refine k4 G4 _ (Ext.mut (.inr (.inl rfl))) (R4.mut g4.gm ham) ?_
      obtain ⟨dn4, hd4, hq4⟩ := g4.dn_
      exact ⟨g4.gm, g4.gd, g4.ne, ⟨_, upd_same, pair_set hr4 x hp⟩, ⟨dn4, (upd_ne g4.ne.symm).trans hd4, hq4⟩, by rw [List.length_set]; exact g4.lm⟩)
end CL

set_option Elab.async false
set_option linter.all false
set_option maxRecDepth 100000
set_option maxHeartbeats 4000000
namespace CL
open PySem PySem.Spec PyProof.Rows L2
open C8 (Cal Met Mak pe_c pe_mk pe_mt pe_mt0 pe_gc)
open VaaclBase (Values Test Guard Branch Loop Piece okTest)
open Vaacla (isLetter SIGNS Token Toks Got wordIs here wrong takeSign takeWord takeNum takeInt takeName takeMore takeMove takeModulus takeTest takeGuard)
variable {P : PySem.Program} {w : World} {K : PySem.W.Frag} {mg : Str → Option Value} {base : Heap} {A : Ad}
theorem still_at {c i : Nat} (h : i < c) : (VaaclBase.still c)[i]? = some ⟨some i, 0⟩ := by
  unfold VaaclBase.still
  rw [List.getElem?_map, List.getElem?_range h]
  rfl
theorem still_len (c : Nat) : (VaaclBase.still c).length = c := by
  unfold VaaclBase.still
  simp
/-- counters are given something: the loop -/
def MvInv (A : Ad) (a D D2 : Addr) (c : Nat) (G0 H0 : Hp) (Q : VK) (E : XK) (m : Nat) (σ : L2.St) (H : Hp) : Prop := ∃ (G : Hp) (done : List Nat) (mv : Mv) (l : Toks) (x : Option V), m = l.length ∧ σ = [some (.ref a), some (.ref D), some (.ref D2), x] ∧ RAt A G H a c l ∧ GiveAt G H D D2 c mv done ∧
  Ext (XA a) G0 H0 G H ∧ GotP A G0 H0 a c (if Vaacla.signIs 44 l = true then gvF c done mv (l.drop 1) else .ok (mv, l)) MoveAt Q E
abbrev spMove (A : Ad) : Sp := spTake1 A takeMove MoveAt
theorem m_Reader_move (T : Txt K mg A) : MetX P w K mg base 7 A.CR "move" (spMove A) :=
  metX_mk T.clR T.m_Reader_move sc_Reader_move bn_Reader_move (fun vs H Q E h => by
    obtain ⟨_, _, _, _, rfl, _⟩ := h
    rfl) (fun f cdv A' outer s H vs Q E hr h => by
    refine ⟨_, (pss_cons (ps_setLc (i := 1) (own := [("counter", 3)]) (g := gName 3) (tt := tYes) rfl sc_Reader_move.nd rfl rfl (sw_true rfl rfl rfl (by decide +kernel)) (pi_range1 (by rfl) T.b_range (pa_cons (pe_fld (pv 0) rfl) pa_nil)) (blkOk_by (own := [("counter", 3)]) (N := N_Reader_move) (sc := defScope s_Reader_move) (by decide +kernel)) (fun _ _ _ _ _ => pg_name (i := 3) sc_Reader_move.nd rfl (Or.inl rfl)) (fun _ _ _ _ _ => pts_nil) (fun _ _ _ _ _ => (pe_tup (pa_cons pe_int (pa_cons (pv 3) (pa_cons pe_int pa_nil))))))
      (pss_cons (ps_if (pt_val (pe_mt (m_Reader_is_word T) hr (by decide) (pv 0) (pa_cons pe_str pa_nil))) (pss_cons (ps_expr (pe_mX (m_Reader_skip T) hr (by decide) (passes_call (takes_of rfl rfl rfl rfl) (fun _ _ _ _ q => q)) (pv 0) (pa_cons pe_str pa_nil)))
      (pss_one (ps_ret (pv 1)))) pss_nil)
      (pss_cons (ps_setLc (i := 2) (own := [("counter", 3)]) (g := gName 3) (tt := tYes) rfl sc_Reader_move.nd rfl rfl (sw_true rfl rfl rfl (by decide +kernel)) (pi_range1 (by rfl) T.b_range (pa_cons (pe_fld (pv 0) rfl) pa_nil)) (blkOk_by (own := [("counter", 3)]) (N := N_Reader_move) (sc := defScope s_Reader_move) (by decide +kernel)) (fun _ _ _ _ _ => pg_name (i := 3) sc_Reader_move.nd rfl (Or.inl rfl)) (fun _ _ _ _ _ => pts_nil) (fun _ _ _ _ _ => pe_bl))
      (pss_cons (ps_expr (pe_mX (m_Reader_give T) hr (by decide) (passes_call (takes_of rfl rfl rfl rfl) (fun _ _ _ _ q => q)) (pv 0) (pa_cons (pv 1) (pa_cons (pv 2) pa_nil))))
      (pss_cons (ps_while (passes_of rfl) (pt_val (pe_mt (m_Reader_is_word T) hr (by decide) (pv 0) (pa_cons pe_str pa_nil))) (pss_cons (ps_expr (pe_mX (m_Reader_skip T) hr (by decide) (passes_call (takes_of rfl rfl rfl rfl) (fun _ _ _ _ q => q)) (pv 0) (pa_cons pe_str pa_nil)))
      (pss_one (ps_expr (pe_mX (m_Reader_give T) hr (by decide) (passes_call (takes_of rfl rfl rfl rfl) (fun _ _ _ _ q => q)) (pv 0) (pa_cons (pv 1) (pa_cons (pv 2) pa_nil)))))))
      (pss_one (ps_ret (pv 1)))))))), ?_⟩
    obtain ⟨G, a, c, l, rfl, R, hc, k⟩ := h
    rw [takeMove_is] at k
    obtain ⟨dx, ta, i, h1⟩ := R.ins
    have ro := rng_ok (n := c) (by omega)
    refine ⟨_, rfl, a, A.CR, dx, _, _, rfl, h1, T.clR, T.aR_counters, rF_c _ _ _, _, rfl, ro.1, ro.2, fun D hD => ?_⟩
    rw [Int.toNat_natCast]
    have gD := R.same.free hD
    have haD : a ≠ D := ne_of_none h1 hD
    refine lc_range (lo := 0) (fun i H' => ∃ G', RAt A G' H' a c l ∧ Grow (XA a) GivenAt G H G' H' D ((VaaclBase.still c).take i)) ⟨G, R.mut gD haD, Grow.start (Ext.refl _ _ _) gD hD gD fun q => haD q.symm⟩ ?_ ?_
    · rintro i H1 hi ⟨G1, R1, g⟩
      obtain ⟨vs, hvs, _⟩ := id g.at_
      refine ⟨rfl, _, rfl, by show 3 ≤ sizeLine; exact small (by decide), fun p hp => ?_⟩
      have hDp := ne_of_none hvs hp
      have e2 := Ext.new (X := XA a) (o := .tup [.int 1, .int (0 + (i : Int)), .int 0]) R1.same hp
      have R2 := R1.new (o := .tup [.int 1, .int (0 + (i : Int)), .int 0]) hp
      have g2 := g.to GivenAt.mono e2 (xa_hole R2.hole)
      refine ⟨vs, (upd_ne hDp).trans hvs, smallL (by rw [g.len hvs, List.length_take]; omega), _, R2.mut g2.hole haD, ?_⟩
      rw [take_at (still_at hi)]
      refine g2.app ((upd_ne hDp).trans hvs) ⟨p, rfl, ?_⟩
      rw [upd_same, Int.zero_add]
      rfl
    · rintro H1 ⟨G1, R1, g⟩
      rw [List.take_of_length_le (by rw [still_len]; exact Nat.le_refl _)] at g
      have k1 := GotP.mono k g.ext
      obtain ⟨vs, hvs, hpp⟩ := id g.at_
      obtain ⟨dx1, ta1, i1, h11⟩ := R1.ins
      refine ⟨_, rfl, a, dx1, _, rfl, h11, n_is_word _ _ _, G1, a, c, l, _, rfl, R1, _, rfl, ifB (fun hp => ?_) (fun hp => ?_)⟩
      all_goals rw [iw_nothing R1.ok] at hp
      · rw [if_pos hp] at k
        refine ⟨_, rfl, a, dx1, _, rfl, h11, n_skip _ _ _, G1, a, c, l, _, rfl, R1, cw_nothing, gu_to ((iw_nothing R1.ok).trans hp) fun G2 H2 e2 R2 => ?_⟩
        have g2 := g.to GivenAt.mono e2 (xa_hole R2.hole)
        obtain ⟨us, hus, _⟩ := id g2.at_
        have d := g2.done R2.same GivenAt.mono hus
        exact ⟨_, rfl, k _ _ _ d.1 (R2.put hus g2.hole haD) d.2.2⟩
      · rw [hp, if_neg Bool.false_ne_true, gvF_is c [] _ R.nn] at k
        refine ⟨_, rfl, a, A.CR, dx1, _, _, rfl, h11, T.clR, T.aR_counters, rF_c _ _ _, _, rfl, ro.1, ro.2, fun D2 hD2 => ?_⟩
        rw [Int.toNat_natCast]
        have hDD : D ≠ D2 := ne_of_none hvs hD2
        have haD2 : a ≠ D2 := ne_of_none h11 hD2
        have gD2 := R1.same.free hD2
        have hD20 : H D2 = none := by
          cases q : H D2 with
          | none => rfl
          | some o =>
            rw [g.ext.keep D2 o (fun z => haD2 z.symm) q] at hD2
            cases hD2
        refine lc_range (lo := 0) (fun i H' => H' = upd H1 D2 (.lst ((List.replicate i false).map V.bl))) rfl ?_ ?_
        · rintro i H2 hi rfl
          refine ⟨rfl, _, upd_same, smallL (by rw [List.length_map, List.length_replicate]; omega), ?_⟩
          rw [upd_upd, List.replicate_succ', List.map_append]
          rfl
        · rintro H2 rfl
          have R2 := R1.mut (o := .lst ((List.replicate c false).map V.bl)) gD2 haD2
          have gv : GiveAt G1 (upd H1 D2 (.lst ((List.replicate c false).map V.bl))) D D2 c (VaaclBase.still c) [] :=
            ⟨g.hole, gD2, hDD, ⟨vs, (upd_ne hDD).trans hvs, hpp⟩, ⟨_, upd_same, by simp, fun i hi => by rw [List.getElem?_replicate, if_pos hi]; rfl⟩, still_len c⟩
          have e2 : Ext (XA a) G H G1 (upd H1 D2 (.lst ((List.replicate c false).map V.bl))) := g.ext.mutD hD20
          generalize upd H1 D2 (.lst ((List.replicate c false).map V.bl)) = H2 at R2 gv e2 ⊢
          obtain ⟨dx2, ta2, i2, h12⟩ := R2.ins
          refine ⟨_, rfl, a, dx2, _, rfl, h12, n_give _ _ _, _, rfl, _, rfl, G1, a, D, D2, c, l, _, _, rfl, R2, gv, hc, gv_call k e2 hD hD20 fun done3 mv3 l3 G3 H3 er3 e3 R3 gv3 k3 => ?_⟩
          refine ⟨MvInv A a D D2 c G H Q E, ⟨_, G3, done3, mv3, l3, _, rfl, rfl, R3, gv3, e3, k3⟩, ?_⟩
          rintro m σ H4 ⟨G4, done4, mv4, l4, x, rfl, rfl, R4, gv4, e4, k4⟩
          obtain ⟨dx4, ta4, i4, h14⟩ := R4.ins
          refine ⟨_, rfl, a, dx4, _, rfl, h14, n_is_word _ _ _, G4, a, c, l4, _, rfl, R4, _, rfl, ?_⟩
          rw [iw_comma R4.ok]
          cases hw : Vaacla.signIs 44 l4 with
          | false =>
            rw [hw, if_neg Bool.false_ne_true] at k4
            refine iteF ⟨_, rfl, ?_⟩
            obtain ⟨ms, hm, hmp⟩ := gv4.mv_
            refine k4 (upd G4 D (.lst ms)) H4 (.ref D) ⟨fun b u q => ?_, e4.keep, fun b u q => ?_⟩ (R4.put hm gv4.gm haD) ⟨D, ms, rfl, upd_same, Paired.mapP hmp (GivenAt.mono (Same.new gv4.gm))⟩
            · rw [upd_ne (ne_of_none q gD)]
              exact e4.sg _ _ q
            · by_cases hb : b = D
              · right
                rw [hb]
                exact hD
              · rw [upd_ne hb] at q
                exact e4.fresh b u q
          | true =>
            rw [hw, if_pos rfl] at k4
            refine iteT ⟨fun σ' H' => ∃ m', m' < l4.length ∧ MvInv A a D D2 c G H Q E m' σ' H', fun _ _ h => h, ?_⟩
            refine ⟨_, rfl, a, dx4, _, rfl, h14, n_skip _ _ _, G4, a, c, l4, _, rfl, R4, cw_comma, gu_to ((iw_comma R4.ok).trans hw) fun G5 H5 e5 R5 => ?_⟩
            obtain ⟨dx5, ta5, i5, h15⟩ := R5.ins
            have gv5 := gv4.to e5 haD haD2
            have e05 := e4.trans e5 (xa_hole R5.hole)
            rw [gvF_is c done4 mv4 R5.nn] at k4
            refine ⟨_, rfl, a, dx5, _, rfl, h15, n_give _ _ _, _, rfl, _, rfl, G5, a, D, D2, c, _, _, _, rfl, R5, gv5, hc, gv_call k4 e05 hD hD20 fun done6 mv6 l6 G6 H6 er6 e6 R6 gv6 k6 => ?_⟩
            have hl := takeGive_len er6
            rw [List.length_drop] at hl
            exact ⟨l6.length, by omega, G6, done6, mv6, l6, _, rfl, rfl, R6, gv6, e6, k6⟩)
abbrev spBranch (A : Ad) : Sp := spTake1 A takeBranch BranchAt
theorem m_Reader_branch (T : Txt K mg A) : MetX P w K mg base 8 A.CR "branch" (spBranch A) :=
  metX_mk T.clR T.m_Reader_branch sc_Reader_branch bn_Reader_branch (fun vs H Q E h => by
    obtain ⟨_, _, _, _, rfl, _⟩ := h
    rfl) (fun f cdv A' outer s H vs Q E hr h => by
    refine ⟨_, (pss_cons (ps_expr (pe_mX (m_Reader_skip T) hr (by decide) (passes_call (takes_of rfl rfl rfl rfl) (fun _ _ _ _ q => q)) (pv 0) (pa_cons pe_str pa_nil)))
      (pss_cons (ps_set (i := 1) sc_Reader_branch.nd rfl (Or.inl rfl) (pe_mX0 (m_Reader_tests T) hr (by decide) (passes_call (takes_of rfl rfl rfl rfl) (fun _ _ _ _ q => q)) (pv 0)))
      (pss_cons (ps_expr (pe_mX (m_Reader_skip T) hr (by decide) (passes_call (takes_of rfl rfl rfl rfl) (fun _ _ _ _ q => q)) (pv 0) (pa_cons pe_str pa_nil)))
      (pss_cons (ps_set (i := 2) sc_Reader_branch.nd rfl (Or.inl rfl) (pe_mX0 (m_Reader_move T) hr (by decide) (passes_call (takes_of rfl rfl rfl rfl) (fun _ _ _ _ q => q)) (pv 0)))
      (pss_cons (ps_expr (pe_mX (m_Reader_skip T) hr (by decide) (passes_call (takes_of rfl rfl rfl rfl) (fun _ _ _ _ q => q)) (pv 0) (pa_cons pe_str pa_nil)))
      (pss_one (ps_ret (pe_tup (pa_cons (pv 1) (pa_cons (pv 2) pa_nil)))))))))), ?_⟩
    obtain ⟨G, a, c, l, rfl, R, hc, k⟩ := h
    unfold takeBranch at k
    obtain ⟨dx, ta, i, h1⟩ := R.ins
    refine ⟨_, rfl, a, dx, _, rfl, h1, n_skip _ _ _, G, a, c, l, _, rfl, R, cw_when, ?_⟩
    rw [iw_when R.ok]
    refine GotP.bindU (r := takeWord "when" l) k fun l1 G1 H1 er1 e1 R1 k1 => ?_
    obtain ⟨dx1, ta1, i1, h11⟩ := R1.ins
    refine ⟨_, rfl, a, dx1, _, rfl, h11, n_tests _ _ _, G1, a, c, l1, rfl, R1, hc, GotP.bind k1 fun g l2 G2 H2 vg er2 e2 R2 hg k2 => ?_⟩
    obtain ⟨dx2, ta2, i2, h12⟩ := R2.ins
    refine ⟨_, rfl, a, dx2, _, rfl, h12, n_skip _ _ _, G2, a, c, l2, _, rfl, R2, cw_do, ?_⟩
    rw [iw_do R2.ok]
    refine GotP.bindU (r := takeWord "do" l2) k2 fun l3 G3 H3 er3 e3 R3 k3 => ?_
    obtain ⟨dx3, ta3, i3, h13⟩ := R3.ins
    refine ⟨_, rfl, a, dx3, _, rfl, h13, n_move _ _ _, G3, a, c, l3, rfl, R3, hc, GotP.bind k3 fun m l4 G4 H4 vm er4 e4 R4 hm k4 => ?_⟩
    obtain ⟨dx4, ta4, i4, h14⟩ := R4.ins
    refine ⟨_, rfl, a, dx4, _, rfl, h14, n_skip _ _ _, G4, a, c, l4, _, rfl, R4, cw_semi, ?_⟩
    rw [iw_semi R4.ok]
    refine GotP.bindU (r := takeSign 59 l4) k4 fun l5 G5 H5 er5 e5 R5 k5 => ?_
    refine ⟨_, rfl, _, rfl, by show 2 ≤ sizeLine; exact small (by decide), fun p hp => ?_⟩
    have s6 := Same.new (o := .tup [vg, vm]) (R5.same.free hp)
    exact (GotP.mono k5 (Ext.new R5.same hp)).to (R5.new hp) ⟨p, vg, vm, rfl, upd_same, GuardAt.mono (((e3.sg.trans e4.sg).trans e5.sg).trans s6) _ _ hg, MoveAt.mono (e5.sg.trans s6) _ _ hm⟩)
end CL

set_option Elab.async false
set_option linter.all false
set_option maxRecDepth 100000
set_option maxHeartbeats 4000000
namespace CL
open PySem PySem.Spec PyProof.Rows L2
open C8 (Cal Met Mak pe_c pe_mk pe_mt pe_mt0 pe_gc)
open VaaclBase (Values Test Guard Branch Loop Piece okTest)
open Vaacla (isLetter SIGNS Token Toks Got wordIs here wrong takeSign takeWord takeNum takeInt takeName takeMore takeMove takeModulus takeTest takeGuard)
variable {P : PySem.Program} {w : World} {K : PySem.W.Frag} {mg : Str → Option Value} {base : Heap} {A : Ad}
theorem branch_no {n : Nat} {l : Toks} (h : wordIs "when" l = false) : takeBranch n l = wrong l := by
  unfold takeBranch takeWord
  rw [h, if_neg Bool.false_ne_true]
  rfl
theorem br_first (n : Nat) {l : Toks} (hl : l ≠ []) : brF n [] l = (takeBranch n l).bind fun b => brF n ([] ++ [b.1]) b.2 := by
  rw [brF_is n [] hl]
  have e : (Vaacla.signIs 125 l && !([] : List Branch).isEmpty) = false := Bool.and_false _
  rw [e, if_neg Bool.false_ne_true]
  cases hw : wordIs "when" l with
  | false =>
    rw [branch_no hw]
    rfl
  | true => rfl
theorem br_next (n : Nat) {acc : List Branch} {l : Toks} (hl : l ≠ []) (hc : Vaacla.signIs 125 l = false) (h : ¬ (3 ≤ acc.length ∧ wordIs "when" l = true)) : brF n acc l = (takeBranch n l).bind fun b => brF n (acc ++ [b.1]) b.2 := by
  rw [brF_is n acc hl, hc, Bool.false_and, if_neg Bool.false_ne_true]
  cases hw : wordIs "when" l with
  | false =>
    rw [branch_no hw]
    rfl
  | true =>
    rw [hw] at h
    show (if 3 ≤ acc.length then _ else _) = _
    rw [if_neg fun q => h ⟨q, rfl⟩]
theorem br_more (n : Nat) {acc : List Branch} {l : Toks} (hl : l ≠ []) (hc : Vaacla.signIs 125 l = false) (h : 3 ≤ acc.length) (hw : wordIs "when" l = true) : brF n acc l = .error ⟨4, here l⟩ := by
  rw [brF_is n acc hl, hc, Bool.false_and, if_neg Bool.false_ne_true, hw]
  show (if 3 ≤ acc.length then _ else _) = _
  rw [if_pos h]
theorem br_end (n : Nat) {acc : List Branch} {l : Toks} (hl : l ≠ []) (hc : Vaacla.signIs 125 l = true) (h : 1 ≤ acc.length) : brF n acc l = .ok (acc, l.drop 1) := by
  rw [brF_is n acc hl, hc]
  cases acc with
  | nil => exact absurd h (by decide)
  | cons x r => rfl
theorem piece_no {n : Nat} {l : Toks} (h : (wordIs "do" l || wordIs "loop" l) = false) : takePiece n l = wrong l := by
  rw [Bool.or_eq_false_iff] at h
  unfold takePiece takeWord
  rw [h.1, if_neg Bool.false_ne_true, h.2, if_neg Bool.false_ne_true]
  rfl
theorem pc_next (n : Nat) {acc : List Piece} {l : Toks} (hl : l ≠ []) (hc : isEnding l = false) (h : ¬ (5 ≤ acc.length ∧ (wordIs "do" l || wordIs "loop" l) = true)) : pcF n acc l = (takePiece n l).bind fun b => pcF n (acc ++ [b.1]) b.2 := by
  rw [pcF_is n acc hl, hc, if_neg Bool.false_ne_true, ← Bool.not_or]
  cases hw : (wordIs "do" l || wordIs "loop" l) with
  | false =>
    rw [piece_no hw]
    rfl
  | true =>
    rw [hw] at h
    show (if 5 ≤ acc.length then _ else _) = _
    rw [if_neg fun q => h ⟨q, rfl⟩]
theorem pc_more (n : Nat) {acc : List Piece} {l : Toks} (hl : l ≠ []) (hc : isEnding l = false) (h : 5 ≤ acc.length) (hw : (wordIs "do" l || wordIs "loop" l) = true) : pcF n acc l = .error ⟨4, here l⟩ := by
  rw [pcF_is n acc hl, hc, if_neg Bool.false_ne_true, ← Bool.not_or, hw]
  show (if 5 ≤ acc.length then _ else _) = _
  rw [if_pos h]
theorem pc_end (n : Nat) {acc : List Piece} {l : Toks} (hl : l ≠ []) (hc : isEnding l = true) : pcF n acc l = .ok acc := by
  rw [pcF_is n acc hl, hc]
  rfl
/-- a loop -/
def takeLoop (n : Nat) (l : Toks) : Got (Piece × Toks) := (takeWord "loop" l).bind fun l => (takeSign 123 l).bind fun q => (brF n [] q).bind fun b => .ok (.loop b.1, b.2)
theorem takePiece_is (n : Nat) (l : Toks) : takePiece n l = if wordIs "do" l = true then (takeMove n (l.drop 1)).bind fun m => (takeSign 59 m.2).bind fun z => .ok (.move m.1, z) else takeLoop n l := rfl
def LpInv (A : Ad) (a D : Addr) (c : Nat) (G0 H0 : Hp) (Q : VK) (E : XK) (m : Nat) (σ : L2.St) (H : Hp) : Prop := ∃ (G : Hp) (acc : List Branch) (l : Toks), m = l.length ∧ σ = [some (.ref a), some (.ref D)] ∧ RAt A G H a c l ∧ Grow (XA a) BranchAt G0 H0 G H D acc ∧ 1 ≤ acc.length ∧ acc.length ≤ 3 ∧
  GotP A G0 H0 a c ((brF c acc l).bind fun b => (.ok (.loop b.1, b.2) : Got (Piece × Toks))) PieceAt Q E
abbrev spLoop (A : Ad) : Sp := spTake1 A takeLoop PieceAt
theorem m_Reader_loop (T : Txt K mg A) : MetX P w K mg base 9 A.CR "loop" (spLoop A) :=
  metX_mk T.clR T.m_Reader_loop sc_Reader_loop bn_Reader_loop (fun vs H Q E h => by
    obtain ⟨_, _, _, _, rfl, _⟩ := h
    rfl) (fun f cdv A' outer s H vs Q E hr h => by
    refine ⟨_, (pss_cons (ps_expr (pe_mX (m_Reader_skip T) hr (by decide) (passes_call (takes_of rfl rfl rfl rfl) (fun _ _ _ _ q => q)) (pv 0) (pa_cons pe_str pa_nil)))
      (pss_cons (ps_expr (pe_mX (m_Reader_skip T) hr (by decide) (passes_call (takes_of rfl rfl rfl rfl) (fun _ _ _ _ q => q)) (pv 0) (pa_cons pe_str pa_nil)))
      (pss_cons (ps_set (i := 1) sc_Reader_loop.nd rfl (Or.inl rfl) (pe_lst (pa_cons (pe_mX0 (m_Reader_branch T) hr (by decide) (passes_call (takes_of rfl rfl rfl rfl) (fun _ _ _ _ q => q)) (pv 0)) pa_nil)))
      (pss_cons (ps_while (passes_of rfl) (pt_not (pt_val (pe_mt (m_Reader_is_word T) hr (by decide) (pv 0) (pa_cons pe_str pa_nil)))) (pss_cons (ps_if (PW.pt (pw_and (pt_cmpR op_eq (pe_callB call_len_seq (by rfl) T.b_len PySem.boot_len (pa_cons (pv 1) pa_nil)) (pe_gc (by rfl) T.c_MOST_BRANCHES) (nomark _)) (pw_and1 (pt_val (pe_mt (m_Reader_is_word T) hr (by decide) (pv 0) (pa_cons pe_str pa_nil)))))) (pss_one (ps_raiseF rfl T.fault hr (takes_of rfl rfl rfl rfl) (pa_cons pe_int (pa_cons (pe_mt0 (m_Reader_here T) hr (by decide) (pv 0)) pa_nil)))) pss_nil)
      (pss_one (ps_expr (pe_bm PySem.F.plainAttrs_list PySem.F.slot_list_append PySem.F.type_list_append mt_append (pv 1) (pa_cons (pe_mX0 (m_Reader_branch T) hr (by decide) (passes_call (takes_of rfl rfl rfl rfl) (fun _ _ _ _ q => q)) (pv 0)) pa_nil))))))
      (pss_cons (ps_expr (pe_mX (m_Reader_skip T) hr (by decide) (passes_call (takes_of rfl rfl rfl rfl) (fun _ _ _ _ q => q)) (pv 0) (pa_cons pe_str pa_nil)))
      (pss_one (ps_ret (pe_tup (pa_cons pe_int (pa_cons (pv 1) pa_nil)))))))))), ?_⟩
    obtain ⟨G, a, c, l, rfl, R, hc, k⟩ := h
    unfold takeLoop at k
    obtain ⟨dx, ta, i, h1⟩ := R.ins
    refine ⟨_, rfl, a, dx, _, rfl, h1, n_skip _ _ _, G, a, c, l, _, rfl, R, cw_loop, ?_⟩
    rw [iw_loop R.ok]
    refine GotP.bindU (r := takeWord "loop" l) k fun l1 G1 H1 er1 e1 R1 k1 => ?_
    obtain ⟨dx1, ta1, i1, h11⟩ := R1.ins
    refine ⟨_, rfl, a, dx1, _, rfl, h11, n_skip _ _ _, G1, a, c, l1, _, rfl, R1, cw_open, ?_⟩
    rw [iw_open R1.ok]
    refine GotP.bindU (r := takeSign 123 l1) k1 fun l2 G2 H2 er2 e2 R2 k2 => ?_
    obtain ⟨dx2, ta2, i2, h12⟩ := R2.ins
    rw [br_first c R2.nn, bind_bind] at k2
    refine ⟨_, rfl, a, dx2, _, rfl, h12, n_branch _ _ _, G2, a, c, l2, rfl, R2, hc, GotP.bind k2 fun x l3 G3 H3 v er3 e3 R3 hr3 k3 => ?_⟩
    refine ⟨by show 1 ≤ sizeLine; exact small (by decide), fun D hD => ?_⟩
    have gD := R3.same.free hD
    obtain ⟨dx3, ta3, i3, h13⟩ := R3.ins
    have haD : a ≠ D := ne_of_none h13 hD
    refine ⟨LpInv A a D c G3 H3 Q E, ⟨_, G3, [x], l3, rfl, rfl, R3.mut gD haD, Grow.begin (Ext.refl _ _ _) gD hD gD (fun q => haD q.symm) (.cons hr3 .nil), Nat.le_refl _, (by decide : 1 ≤ 3), k3⟩, ?_⟩
    rintro m σ H4 ⟨G4, acc, l4, rfl, rfl, R4, g, ha1, ha3, k4⟩
    obtain ⟨dx4, ta4, i4, h14⟩ := R4.ins
    obtain ⟨vs, hvs, _⟩ := id g.at_
    have hul := g.len hvs
    refine ⟨_, rfl, a, dx4, _, rfl, h14, n_is_word _ _ _, G4, a, c, l4, _, rfl, R4, _, rfl, ?_⟩
    rw [iw_close R4.ok]
    cases hw : Vaacla.signIs 125 l4 with
    | true =>
      rw [br_end c R4.nn hw ha1] at k4
      refine iteF ⟨_, rfl, a, dx4, _, rfl, h14, n_skip _ _ _, G4, a, c, l4, _, rfl, R4, cw_close, gu_to ((iw_close R4.ok).trans hw) fun G5 H5 e5 R5 => ?_⟩
      have g5 := g.to BranchAt.mono e5 (xa_hole R5.hole)
      obtain ⟨us, hus, _⟩ := id g5.at_
      have d := g5.done R5.same BranchAt.mono hus
      have R6 := R5.put hus g5.hole haD
      have d3 : BranchesAt (upd G5 D (.lst us)) (.ref D) acc := d.2.2
      have d1 := d.1
      generalize upd G5 D (.lst us) = G6 at R6 d1 d3
      refine ⟨_, rfl, by show 2 ≤ sizeLine; exact small (by decide), fun p hp => ?_⟩
      have s7 := Same.new (o := .tup [.int 1, .ref D]) (R6.same.free hp)
      exact k4 _ _ _ (d1.trans (Ext.new R6.same hp) (xa_hole (R6.new hp).hole)) (R6.new hp) ⟨p, .ref D, rfl, upd_same, BranchesAt.mono s7 _ _ d3⟩
    | false =>
      refine iteT ⟨fun σ' H' => ∃ m', m' < l4.length ∧ LpInv A a D c G3 H3 Q E m' σ' H', fun _ _ h => h, ?_⟩
      have app : ¬ (3 ≤ acc.length ∧ wordIs "when" l4 = true) → GotP A G4 H4 a c (takeBranch c l4) BranchAt (fun v H4 => ∃ (t : Addr) (vs : List V) (y : V), V.ref D = .ref t ∧ [v] = [y] ∧ H4 t = some (.lst vs) ∧ vs.length < sizeLine ∧ ∃ m', m' < l4.length ∧ LpInv A a D c G3 H3 Q E m' [some (.ref a), some (.ref D)] (upd H4 t (.lst (vs ++ [y])))) E := fun hz => by
        rw [br_next c R4.nn hw hz, bind_bind] at k4
        refine GotP.bind0 k4 g.ext fun x l5 G5 H5 v er5 e5 R5 hr5 k5 => ?_
        have g5 := g.to BranchAt.mono e5 (xa_hole R5.hole)
        obtain ⟨ws, hws, _⟩ := id g5.at_
        have hwl := g5.len hws
        have ok5 := takeBranch_ok er5
        have h3 : acc.length < 3 := by
          rcases Nat.lt_or_ge acc.length 3 with q | q
          · exact q
          · exact absurd ⟨q, ok5.2.2⟩ hz
        exact ⟨D, ws, v, rfl, rfl, hws, smallL (by omega), l5.length, ok5.2.1, G5, acc ++ [x], l5, rfl, rfl, R5.mut g5.hole haD, g5.app hws hr5, by rw [List.length_append, List.length_singleton]; omega, by rw [List.length_append, List.length_singleton]; omega, k5⟩
      refine ⟨_, rfl, D, _, rfl, .inl (SqL.of hvs), rfl, _, rfl, ifD (fun h3 => ?_) (fun h3 => ?_)⟩
      · have h3 : 3 ≤ acc.length := by have := V.int.inj h3; omega
        refine ⟨_, rfl, a, dx4, _, rfl, h14, n_is_word _ _ _, G4, a, c, l4, _, rfl, R4, _, rfl, ?_⟩
        rw [iw_when R4.ok]
        cases hn : wordIs "when" l4 with
        | true =>
          rw [br_more c R4.nn hw h3 hn] at k4
          have k4 : FaultP A (XA a) H3 E ⟨4, here l4⟩ := k4
          exact iteT ⟨_, rfl, a, dx4, _, rfl, h14, n_here _ _ _, G4, a, c, _, rfl, R4, FaultP.at (FaultP.mono k4 g.ext.keep) rfl rfl⟩
        | false =>
          exact iteF ⟨_, rfl, .inl ⟨rfl, _, SqL.of hvs⟩, _, rfl, a, dx4, _, rfl, h14, n_branch _ _ _, G4, a, c, _, rfl, R4, hc, app (by rw [hn]; exact fun q => Bool.noConfusion q.2)⟩
      · have h3 : ¬ 3 ≤ acc.length := fun q => h3 (int_eq (by omega))
        exact iteF ⟨_, rfl, .inl ⟨rfl, _, SqL.of hvs⟩, _, rfl, a, dx4, _, rfl, h14, n_branch _ _ _, G4, a, c, _, rfl, R4, hc, app fun q => h3 q.1⟩)
abbrev spPiece (A : Ad) : Sp := spTake1 A takePiece PieceAt
theorem m_Reader_piece (T : Txt K mg A) : MetX P w K mg base 10 A.CR "piece" (spPiece A) :=
  metX_mk T.clR T.m_Reader_piece sc_Reader_piece bn_Reader_piece (fun vs H Q E h => by
    obtain ⟨_, _, _, _, rfl, _⟩ := h
    rfl) (fun f cdv A' outer s H vs Q E hr h => by
    refine ⟨_, (pss_cons (ps_if (pt_not (pt_val (pe_mt (m_Reader_is_word T) hr (by decide) (pv 0) (pa_cons pe_str pa_nil)))) (pss_one (ps_ret (pe_mX0 (m_Reader_loop T) hr (by decide) (passes_call (takes_of rfl rfl rfl rfl) (fun _ _ _ _ q => q)) (pv 0)))) pss_nil)
      (pss_cons (ps_expr (pe_mX (m_Reader_skip T) hr (by decide) (passes_call (takes_of rfl rfl rfl rfl) (fun _ _ _ _ q => q)) (pv 0) (pa_cons pe_str pa_nil)))
      (pss_cons (ps_set (i := 1) sc_Reader_piece.nd rfl (Or.inl rfl) (pe_mX0 (m_Reader_move T) hr (by decide) (passes_call (takes_of rfl rfl rfl rfl) (fun _ _ _ _ q => q)) (pv 0)))
      (pss_cons (ps_expr (pe_mX (m_Reader_skip T) hr (by decide) (passes_call (takes_of rfl rfl rfl rfl) (fun _ _ _ _ q => q)) (pv 0) (pa_cons pe_str pa_nil)))
      (pss_one (ps_ret (pe_tup (pa_cons pe_int (pa_cons (pe_lst (pa_cons (pe_tup (pa_cons (pe_lst pa_nil) (pa_cons (pv 1) pa_nil))) pa_nil)) pa_nil))))))))), ?_⟩
    obtain ⟨G, a, c, l, rfl, R, hc, k⟩ := h
    rw [takePiece_is] at k
    obtain ⟨dx, ta, i, h1⟩ := R.ins
    refine ⟨_, rfl, a, dx, _, rfl, h1, n_is_word _ _ _, G, a, c, l, _, rfl, R, _, rfl, ?_⟩
    rw [iw_do R.ok]
    cases hw : wordIs "do" l with
    | false =>
      rw [hw, if_neg Bool.false_ne_true] at k
      exact iteT ⟨_, rfl, a, dx, _, rfl, h1, n_loop _ _ _, G, a, c, l, rfl, R, hc, k⟩
    | true =>
      rw [hw, if_pos rfl] at k
      refine iteF ⟨_, rfl, a, dx, _, rfl, h1, n_skip _ _ _, G, a, c, l, _, rfl, R, cw_do, gu_to ((iw_do R.ok).trans hw) fun G1 H1 e1 R1 => ?_⟩
      have k1 := GotP.mono k e1
      obtain ⟨dx1, ta1, i1, h11⟩ := R1.ins
      refine ⟨_, rfl, a, dx1, _, rfl, h11, n_move _ _ _, G1, a, c, _, rfl, R1, hc, GotP.bind k1 fun m l2 G2 H2 vm er2 e2 R2 hm k2 => ?_⟩
      obtain ⟨dx2, ta2, i2, h12⟩ := R2.ins
      refine ⟨_, rfl, a, dx2, _, rfl, h12, n_skip _ _ _, G2, a, c, l2, _, rfl, R2, cw_semi, ?_⟩
      rw [iw_semi R2.ok]
      refine GotP.bindU (r := takeSign 59 l2) k2 fun l3 G3 H3 er3 e3 R3 k3 => ?_
      have hm := MoveAt.mono e3.sg _ _ hm
      refine ⟨by show 0 ≤ sizeLine; exact Nat.zero_le _, fun g hg => ?_⟩
      have N2 := R3.new (o := .lst []) hg
      have k4 := GotP.mono k3 (Ext.new (o := .lst []) R3.same hg)
      have hg2 : upd G3 g (.lst []) g = some (.lst []) := upd_same
      have hm2 := MoveAt.mono (Same.new (o := .lst []) (R3.same.free hg)) _ _ hm
      generalize upd G3 g (.lst []) = G4 at N2 k4 hg2 hm2
      generalize upd H3 g (.lst []) = H4 at N2 k4 ⊢
      refine ⟨_, rfl, by show 2 ≤ sizeLine; exact small (by decide), fun p hp => ?_⟩
      have N5 := N2.new (o := .tup [.ref g, vm]) hp
      have k5 := GotP.mono k4 (Ext.new (o := .tup [.ref g, vm]) N2.same hp)
      have s4 := Same.new (o := .tup [.ref g, vm]) (N2.same.free hp)
      have hp4 : upd G4 p (.tup [.ref g, vm]) p = some (.tup [.ref g, vm]) := upd_same
      have hg4 := s4 _ _ hg2
      have hr4 := MoveAt.mono s4 _ _ hm2
      generalize upd G4 p (.tup [.ref g, vm]) = G5 at N5 k5 s4 hp4 hg4 hr4
      generalize upd H4 p (.tup [.ref g, vm]) = H5 at N5 k5 ⊢
      refine ⟨by show 1 ≤ sizeLine; exact small (by decide), fun q hq => ?_⟩
      have N6 := N5.new (o := .lst [.ref p]) hq
      have k6 := GotP.mono k5 (Ext.new (o := .lst [.ref p]) N5.same hq)
      have s5 := Same.new (o := .lst [.ref p]) (N5.same.free hq)
      have hq5 : upd G5 q (.lst [.ref p]) q = some (.lst [.ref p]) := upd_same
      have hb5 : BranchAt (upd G5 q (.lst [.ref p])) (.ref p) ⟨[], m⟩ := ⟨p, .ref g, vm, rfl, s5 _ _ hp4, ⟨g, [], rfl, s5 _ _ hg4, .nil⟩, MoveAt.mono s5 _ _ hr4⟩
      generalize upd G5 q (.lst [.ref p]) = G6 at N6 k6 hq5 hb5
      generalize upd H5 q (.lst [.ref p]) = H6 at N6 k6 ⊢
      refine ⟨by show 2 ≤ sizeLine; exact small (by decide), fun u hu => ?_⟩
      have s6 := Same.new (o := .tup [.int 0, .ref q]) (N6.same.free hu)
      exact (GotP.mono k6 (Ext.new N6.same hu)).to (N6.new hu) ⟨u, .ref q, rfl, upd_same, q, [.ref p], rfl, s6 _ _ hq5, .cons (BranchAt.mono s6 _ _ hb5) .nil⟩)
end CL

set_option Elab.async false
set_option linter.all false
set_option maxRecDepth 100000
set_option maxHeartbeats 4000000
namespace CL
open PySem PySem.Spec PyProof.Rows L2
open C8 (Cal Met Mak pe_c pe_mk pe_mt pe_mt0 pe_gc)
open VaaclBase (Values Test Guard Branch Loop Piece okTest)
open Vaacla (isLetter SIGNS Token Toks Got wordIs here wrong takeSign takeWord takeNum takeInt takeName takeMore takeMove takeModulus takeTest takeGuard)
variable {P : PySem.Program} {w : World} {K : PySem.W.Frag} {mg : Str → Option Value} {base : Heap} {A : Ad}
/-! ## the whole text -/
def PgP (A : Ad) (G H : Hp) (a : Addr) (r : Got Prg) (Q : VK) (E : XK) : Prop := match r with
  | .ok p => ∀ (G' H' : Hp) (v : V) (l : Toks), Ext (XA a) G H G' H' → RAt A G' H' a p.counters l → PiecesAt G' v p.pieces → Q v H'
  | .error f => FaultP A (XA a) H E f
section
variable {α β : Type} {G H G0 H0 : Hp} {a : Addr} {c : Nat} {Q : VK} {E : XK} {l : Toks}
theorem PgP.mono {r : Got Prg} (k : PgP A G0 H0 a r Q E) (e : Ext (XA a) G0 H0 G H) : PgP A G H a r Q E := by
  cases r with
  | error f => exact FaultP.mono k e.keep
  | ok x => exact fun G' H' v l e' N hr => k G' H' v l (e.trans e' (xa_hole N.hole)) N hr
theorem PgP.bind {r : Got (α × Toks)} {f : α × Toks → Got Prg} {repa : Hp → V → α → Prop} {Q1 : VK} (k : PgP A G H a (r.bind f) Q E)
    (h : ∀ (x : α) (l' : Toks) (G' H' : Hp) (v : V), r = .ok (x, l') → Ext (XA a) G H G' H' → RAt A G' H' a c l' → repa G' v x → PgP A G' H' a (f (x, l')) Q E → Q1 v H') : GotP A G H a c r repa Q1 E := by
  cases r with
  | error f => exact k
  | ok x =>
    intro G' H' v e N hr
    exact h x.1 x.2 G' H' v rfl e N hr (PgP.mono (r := f x) k e)
theorem PgP.bind0 {r : Got (α × Toks)} {f : α × Toks → Got Prg} {repa : Hp → V → α → Prop} {Q1 : VK} (k : PgP A G0 H0 a (r.bind f) Q E) (e0 : Ext (XA a) G0 H0 G H)
    (h : ∀ (x : α) (l' : Toks) (G' H' : Hp) (v : V), r = .ok (x, l') → Ext (XA a) G H G' H' → RAt A G' H' a c l' → repa G' v x → PgP A G0 H0 a (f (x, l')) Q E → Q1 v H') : GotP A G H a c r repa Q1 E := by
  cases r with
  | error f => exact FaultP.mono k e0.keep
  | ok x =>
    intro G' H' v e N hr
    exact h x.1 x.2 G' H' v rfl e N hr k
theorem PgP.bindU {r : Got Toks} {f : Toks → Got Prg} {Q1 : VK} (k : PgP A G H a (r.bind f) Q E)
    (h : ∀ (l' : Toks) (G' H' : Hp), r = .ok l' → Ext (XA a) G H G' H' → RAt A G' H' a c l' → PgP A G' H' a (f l') Q E → Q1 .non H') : GotU A G H a c r Q1 E := by
  cases r with
  | error f => exact k
  | ok x =>
    intro G' H' e N
    exact h x G' H' rfl e N (PgP.mono (r := f x) k e)
end
def PgInv (A : Ad) (a D : Addr) (c : Nat) (G0 H0 : Hp) (Q : VK) (E : XK) (m : Nat) (σ : L2.St) (H : Hp) : Prop := ∃ (G : Hp) (acc : List Piece) (l : Toks), m = l.length ∧ σ = [some (.ref a), some (.ref D)] ∧ RAt A G H a c l ∧ Grow (XA a) PieceAt G0 H0 G H D acc ∧ acc.length ≤ 5 ∧
  PgP A G0 H0 a ((pcF c acc l).bind fun p => .ok ⟨c, p⟩) Q E
def spProgram (A : Ad) : Sp := fun vs H Q E => ∃ (G : Hp) (a : Addr) (l : Toks), vs = [.ref a] ∧ RAt A G H a 0 l ∧ PgP A G H a (takeProg l) Q E
theorem m_Reader_program (T : Txt K mg A) : MetX P w K mg base 11 A.CR "program" (spProgram A) :=
  metX_mk T.clR T.m_Reader_program sc_Reader_program bn_Reader_program (fun vs H Q E h => by
    obtain ⟨_, _, _, rfl, _⟩ := h
    rfl) (fun f cdv A' outer s H vs Q E hr h => by
    refine ⟨_, (pss_cons (ps_expr (pe_mX (m_Reader_skip T) hr (by decide) (passes_call (takes_of rfl rfl rfl rfl) (fun _ _ _ _ q => q)) (pv 0) (pa_cons pe_str pa_nil)))
      (pss_cons (ps_fld (pv 0) (pe_mX (m_Reader_number T) hr (by decide) (passes_call (takes_of rfl rfl rfl rfl) (fun _ _ _ _ q => q)) (pv 0) (pa_cons pe_int (pa_cons (pe_gc (by rfl) T.c_MOST_COUNTERS) pa_nil))) rfl)
      (pss_cons (ps_expr (pe_mX (m_Reader_skip T) hr (by decide) (passes_call (takes_of rfl rfl rfl rfl) (fun _ _ _ _ q => q)) (pv 0) (pa_cons pe_str pa_nil)))
      (pss_cons (ps_set (i := 1) sc_Reader_program.nd rfl (Or.inl rfl) (pe_lst pa_nil))
      (pss_cons (ps_while (passes_of rfl) (pt_not (pt_val (pe_mt0 (m_Reader_is_end T) hr (by decide) (pv 0)))) (pss_cons (ps_if (PW.pt (pw_and (pt_cmpR op_eq (pe_callB call_len_seq (by rfl) T.b_len PySem.boot_len (pa_cons (pv 1) pa_nil)) (pe_gc (by rfl) T.c_MOST_PIECES) (nomark _)) (pw_and1 (PW.pt (pw_or (pt_val (pe_mt (m_Reader_is_word T) hr (by decide) (pv 0) (pa_cons pe_str pa_nil))) (pw_or1 (pt_val (pe_mt (m_Reader_is_word T) hr (by decide) (pv 0) (pa_cons pe_str pa_nil))))))))) (pss_one (ps_raiseF rfl T.fault hr (takes_of rfl rfl rfl rfl) (pa_cons pe_int (pa_cons (pe_mt0 (m_Reader_here T) hr (by decide) (pv 0)) pa_nil)))) pss_nil)
      (pss_one (ps_expr (pe_bm PySem.F.plainAttrs_list PySem.F.slot_list_append PySem.F.type_list_append mt_append (pv 1) (pa_cons (pe_mX0 (m_Reader_piece T) hr (by decide) (passes_call (takes_of rfl rfl rfl rfl) (fun _ _ _ _ q => q)) (pv 0)) pa_nil))))))
      (pss_one (ps_ret (pv 1)))))))), ?_⟩
    obtain ⟨G, a, l, rfl, R, k⟩ := h
    unfold takeProg at k
    obtain ⟨dx, ta, i, h1⟩ := R.ins
    refine ⟨_, rfl, a, dx, _, rfl, h1, n_skip _ _ _, G, a, 0, l, _, rfl, R, cw_counters, ?_⟩
    rw [iw_counters R.ok]
    refine PgP.bindU (r := takeWord "counters" l) k fun l1 G1 H1 er1 e1 R1 k1 => ?_
    obtain ⟨dx1, ta1, i1, h11⟩ := R1.ins
    refine ⟨_, rfl, a, dx1, _, rfl, h11, n_number _ _ _, G1, a, 0, l1, 1, 4, rfl, R1, PgP.bind k1 fun c l2 G2 H2 v er2 e2 R2 hv k2 => ?_⟩
    subst hv
    have hc := takeNum_ok er2
    obtain ⟨dx2, ta2, i2, tvs, toks, h12, g12, g13, g14⟩ := id R2.at_
    refine ⟨_, rfl, a, A.CR, dx2, _, rfl, h12, T.clR, T.aR_counters, (by show 3 < 1000; decide), ?_⟩
    rw [rF_putc]
    have R3 : RAt A G2 (upd H2 a (.ins A.CR dx2 (rF ta2 (i2 : Int) (c : Int)))) a c l2 := ⟨Same.mut R2.same R2.hole, R2.hole, ⟨dx2, ta2, i2, tvs, toks, upd_same, g12, g13, g14⟩, R2.ok⟩
    have k3 := PgP.mono k2 (Ext.mut (X := XA a) (G := G2) (H := H2) (a := a) (o := .ins A.CR dx2 (rF ta2 (i2 : Int) (c : Int))) rfl)
    generalize upd H2 a (.ins A.CR dx2 (rF ta2 (i2 : Int) (c : Int))) = H3 at R3 k3 ⊢
    obtain ⟨dx3, ta3, i3, h13⟩ := R3.ins
    refine ⟨_, rfl, a, dx3, _, rfl, h13, n_skip _ _ _, G2, a, c, l2, _, rfl, R3, cw_semi, ?_⟩
    rw [iw_semi R3.ok]
    refine PgP.bindU (r := takeSign 59 l2) k3 fun l4 G4 H4 er4 e4 R4 k4 => ?_
    obtain ⟨dx4, ta4, i4, h14⟩ := R4.ins
    refine ⟨by show 0 ≤ sizeLine; exact Nat.zero_le _, fun D hD => ?_⟩
    have gD := R4.same.free hD
    have haD : a ≠ D := ne_of_none h14 hD
    refine ⟨PgInv A a D c G4 H4 Q E, ⟨_, G4, [], l4, rfl, rfl, R4.mut gD haD, Grow.begin (Ext.refl _ _ _) gD hD gD (fun q => haD q.symm) .nil, Nat.zero_le _, k4⟩, ?_⟩
    rintro m σ H5 ⟨G5, acc, l5, rfl, rfl, R5, g, ha5, k5⟩
    obtain ⟨dx5, ta5, i5, h15⟩ := R5.ins
    obtain ⟨vs, hvs, _⟩ := id g.at_
    have hul := g.len hvs
    refine ⟨_, rfl, a, dx5, _, rfl, h15, n_is_end _ _ _, G5, a, c, l5, rfl, R5, _, rfl, ?_⟩
    cases hw : isEnding l5 with
    | true =>
      rw [pc_end c R5.nn hw] at k5
      refine iteF ⟨_, rfl, ?_⟩
      have d := g.done R5.same PieceAt.mono hvs
      exact k5 _ _ _ l5 d.1 (R5.put hvs g.hole haD) d.2.2
    | false =>
      refine iteT ⟨fun σ' H' => ∃ m', m' < l5.length ∧ PgInv A a D c G4 H4 Q E m' σ' H', fun _ _ h => h, ?_⟩
      have app : ¬ (5 ≤ acc.length ∧ (wordIs "do" l5 || wordIs "loop" l5) = true) → GotP A G5 H5 a c (takePiece c l5) PieceAt (fun v H4' => ∃ (t : Addr) (vs : List V) (y : V), V.ref D = .ref t ∧ [v] = [y] ∧ H4' t = some (.lst vs) ∧ vs.length < sizeLine ∧ ∃ m', m' < l5.length ∧ PgInv A a D c G4 H4 Q E m' [some (.ref a), some (.ref D)] (upd H4' t (.lst (vs ++ [y])))) E := fun hz => by
        rw [pc_next c R5.nn hw hz, bind_bind] at k5
        refine PgP.bind0 k5 g.ext fun x l6 G6 H6 v er6 e6 R6 hr6 k6 => ?_
        have g6 := g.to PieceAt.mono e6 (xa_hole R6.hole)
        obtain ⟨ws, hws, _⟩ := id g6.at_
        have hwl := g6.len hws
        have ok6 := takePiece_ok er6
        have h3 : acc.length < 5 := by
          rcases Nat.lt_or_ge acc.length 5 with q | q
          · exact q
          · exact absurd ⟨q, ok6.2.2⟩ hz
        exact ⟨D, ws, v, rfl, rfl, hws, smallL (by omega), l6.length, ok6.2.1, G6, acc ++ [x], l6, rfl, rfl, R6.mut g6.hole haD, g6.app hws hr6, by rw [List.length_append, List.length_singleton]; omega, k6⟩
      refine ⟨_, rfl, D, _, rfl, .inl (SqL.of hvs), rfl, _, rfl, ifD (fun h3 => ?_) (fun h3 => ?_)⟩
      · have h3 : 5 ≤ acc.length := by have := V.int.inj h3; omega
        have flt : (wordIs "do" l5 || wordIs "loop" l5) = true → ∃ x y, ([.int 4, .int (here l5 : Int)] : List V) = [x, y] ∧ ∀ d, H5 d = none → E (.ref A.CF) (some d) (upd H5 d (fxd x y)) := fun hn => by
          rw [pc_more c R5.nn hw h3 hn] at k5
          have k5 : FaultP A (XA a) H4 E ⟨4, here l5⟩ := k5
          exact FaultP.at (FaultP.mono k5 g.ext.keep) rfl rfl
        refine ⟨_, rfl, a, dx5, _, rfl, h15, n_is_word _ _ _, G5, a, c, l5, _, rfl, R5, _, rfl, ?_⟩
        rw [iw_do R5.ok]
        cases hd : wordIs "do" l5 with
        | true =>
          exact iteT (iteT ⟨_, rfl, a, dx5, _, rfl, h15, n_here _ _ _, G5, a, c, _, rfl, R5, flt (by rw [hd]; rfl)⟩)
        | false =>
          refine iteF ⟨_, rfl, a, dx5, _, rfl, h15, n_is_word _ _ _, G5, a, c, l5, _, rfl, R5, _, rfl, ?_⟩
          rw [iw_loop R5.ok]
          cases hn : wordIs "loop" l5 with
          | true =>
            exact iteT ⟨_, rfl, a, dx5, _, rfl, h15, n_here _ _ _, G5, a, c, _, rfl, R5, flt (by rw [hn]; exact Bool.or_true _)⟩
          | false =>
            exact iteF ⟨_, rfl, .inl ⟨rfl, _, SqL.of hvs⟩, _, rfl, a, dx5, _, rfl, h15, n_piece _ _ _, G5, a, c, _, rfl, R5, hc.2.1, app (by rw [hd, hn]; exact fun q => Bool.noConfusion q.2)⟩
      · have h3 : ¬ 5 ≤ acc.length := fun q => h3 (int_eq (by omega))
        exact iteF ⟨_, rfl, .inl ⟨rfl, _, SqL.of hvs⟩, _, rfl, a, dx5, _, rfl, h15, n_piece _ _ _, G5, a, c, _, rfl, R5, hc.2.1, app fun q => h3 q.1⟩)
def spReaderInit (A : Ad) : Sp := fun vs H Q _ => ∃ (G : Hp) (a dx ta : Addr) (tvs : List V) (toks : Toks), vs = [.ref a, .ref ta] ∧ Same G H ∧ G a = none ∧ H a = some (.ins A.CR dx []) ∧ G ta = some (.lst tvs) ∧ Paired (TokAt G) tvs toks ∧ toks.length ≤ 1000000 ∧ OkL toks ∧
  ∀ H' : Hp, RAt A G H' a 0 toks → Keep (XA a) H H' → Q .non H'
theorem k_Reader (T : Txt K mg A) : Mak P w K mg base 1 "Reader" A.CR (spReaderInit A) [] :=
  mak_mk T.i_Reader sc_Reader_init bn_Reader_init (fun vs H Q E h => by
    obtain ⟨_, _, _, _, _, _, rfl, _⟩ := h
    rfl) (fun f cdv A' outer s H vs Q E hr h => by
    refine ⟨_, (pss_cons (ps_fld (pv 0) (pv 1) rfl)
      (pss_cons (ps_fld (pv 0) pe_int rfl)
      (pss_one (ps_fld (pv 0) pe_int rfl)))), ?_⟩
    obtain ⟨G, a, dx, ta, tvs, toks, rfl, sg, ha, hi, ht, hp, hz, ok, k⟩ := h
    refine ⟨_, rfl, _, rfl, a, A.CR, dx, [], rfl, hi, T.clR, T.aR_tokens, (by show 0 < 1000; decide), ?_⟩
    refine ⟨_, rfl, a, A.CR, dx, _, rfl, upd_same, T.clR, T.aR_at, (by show 1 < 1000; decide), ?_⟩
    refine ⟨_, rfl, a, A.CR, dx, _, rfl, upd_same, T.clR, T.aR_counters, (by show 2 < 1000; decide), ?_⟩
    have ef : putF "counters" (.int 0) (putF "at" (.int 0) (putF "tokens" (.ref ta) [])) = rF ta ((0 : Nat) : Int) ((0 : Nat) : Int) := by
      have e1 : putF ("tokens" : Str) (.ref ta) [] = [(("tokens" : Str), V.ref ta)] := rfl
      rw [e1]
      have e2 : putF ("at" : Str) (.int 0) [(("tokens" : Str), V.ref ta)] = [(("tokens" : Str), V.ref ta), (("at" : Str), V.int 0)] := put_past (by decide +kernel)
      rw [e2]
      exact (put_past (by decide +kernel)).trans (congrArg _ (put_past (by decide +kernel)))
    rw [ef, upd_upd, upd_upd]
    exact k _ ⟨Same.mut sg ha, ha, ⟨dx, ta, 0, tvs, toks, upd_same, ht, hp, rfl, hz⟩, ok⟩ (Keep.mut rfl))
end CL

set_option Elab.async false
set_option linter.all false
set_option maxRecDepth 100000
set_option maxHeartbeats 4000000
namespace CL
open PySem PySem.Spec PyProof.Rows L2
open C8 (Cal Met Mak pe_c pe_mk pe_mt pe_mt0 pe_gc)
open VaaclBase (Values Test Guard Branch Loop Piece okTest)
open Vaacla (isLetter SIGNS Token Toks Got wordIs here wrong takeSign takeWord takeNum takeInt takeName takeMore takeMove takeModulus takeTest takeGuard)
variable {P : PySem.Program} {w : World} {K : PySem.W.Frag} {mg : Str → Option Value} {base : Heap} {A : Ad}
/-! ## load -/
def ansOf (s : Option Prg) (r : Got Prg) : Option Prg × List Int := match r with
  | .error f => (s, [1, (f.kind : Int), (f.place : Int)])
  | .ok p => (some p, [0, (p.counters : Int), (p.pieces.length : Int)])
def loadA (s : Option Prg) (t : List Nat) : Option Prg × List Int := if 1500 < t.length then (s, [-1]) else ansOf s (Vaacla.read t)
def spLoad (A : Ad) : Sp := fun vs H Q _ => ∃ (G : Hp) (b na : Addr) (s : Option Prg) (t : List Nat), vs = [.ref b, .ref na] ∧ BoxG A G H b s ∧ G na = some (.lst (tV t)) ∧ t.length ≤ 100000 ∧ AnsPost A G H b Q (loadA s t).1 (loadA s t).2
theorem c_load (T : Txt K mg A) : Cal P w K mg base 12 "load" (spLoad A) [] :=
  cal_mk T.d_load sc_load bn_load (fun vs H Q E h => by
    obtain ⟨_, _, _, _, _, rfl, _⟩ := h
    rfl) (fun f cdv A' outer s H vs Q E hr h => by
    refine ⟨_, pss_cons (ps_if (pt_cmpR op_gt (pe_callB call_len_seq (by rfl) T.b_len PySem.boot_len (pa_cons (pv 1) pa_nil)) (pe_gc (by rfl) T.c_LONGEST_TEXT) (nomark _)) (pss_one (ps_ret (pe_lst (pa_cons (pe_un un_neg pe_int) pa_nil)))) pss_nil)
      (pss_cons (ps_try_as (i := 4) (tb := fun W => tSeq (tAsg (tMake A.CR (spReaderInit A) [] C8.E0 (tCons (tCallS (spTokensOf A) (WE W) (tCons (tVar 1) tNil)) tNil)) (gName 2)) (tAsg (tMethS0 A.CR "program" (spProgram A) (WE W) (tVar 2)) (gName 3)))
        (ts := fun a cls d => tRet (tLst (tCons (tC (.int 1)) (tCons (tXf a cls d A.CF "kind" (tVar 4)) (tCons (tXf a cls d A.CF "place" (tVar 4)) tNil))))) (Wout := fun _ _ _ _ => False) rfl rfl sc_load.nd rfl rfl ⟨rfl, by decide, Or.inl T.fault.gC⟩ takes0
        (fun W pn xe tk _ => pss_cons (ps_set (i := 2) sc_load.nd rfl (Or.inl rfl) (by exact (pe_mk (k_Reader T) hr (by decide) (by rfl) (pa_cons (pe_cS (c_tokens_of T) hr (by decide) (fun σ => passAt tk σ) (by rfl) (by exact (pa_cons (pv 1) pa_nil))) pa_nil))))
          (pss_one (ps_set (i := 3) sc_load.nd rfl (Or.inl rfl) (by exact (pe_mS0 (m_Reader_program T) hr (by decide) (fun σ => passAt tk σ) (pv 2))))))
        (fun a oe cls d pn hz hf => pss_one (ps_ret (by exact (pe_lst (pa_cons pe_int (pa_cons (pe_xf T.fault.xf T.fault.noK hz hf (pv 4)) (pa_cons (pe_xf T.fault.xf T.fault.noP hz hf (pv 4)) pa_nil))))))))
      (pss_cons (ps_fld (pv 0) (pe_fld (pv 2) rfl) rfl)
      (pss_cons (ps_fld (pv 0) (pv 3) rfl)
      (pss_one (ps_ret (pe_lst (pa_cons pe_int (pa_cons (pe_fld (pv 0) rfl) (pa_cons (pe_callB call_len_seq (by rfl) T.b_len PySem.boot_len (pa_cons (pe_fld (pv 0) rfl) pa_nil)) pa_nil))))))))), ?_⟩
    obtain ⟨G, b, na, st, t, rfl, B, hn, hz, k⟩ := h
    obtain ⟨dx, pv, hb, hP⟩ := id B.at_
    have hnH := B.same _ _ hn
    have hl := tvLen t
    refine ⟨_, rfl, na, _, rfl, .inl (SqL.of hnH), _, _, rfl, rfl, _, rfl, ifD (fun h5 => ?_) (fun h5 => ?_)⟩
    · have h5 : 1500 < t.length := by rw [hl] at h5; omega
      unfold loadA at k
      rw [if_pos h5] at k
      refine ⟨_, rfl, by show 1 ≤ sizeLine; exact small (by decide), fun q hq => refuse (AnsPost.read k B) hq⟩
    have h5 : ¬ 1500 < t.length := by rw [hl] at h5; omega
    unfold loadA at k
    rw [if_neg h5, read_is] at k
    have err : ∀ (f : Vaacla.Fault) (H1 : Hp) (d : Addr), ansOf st ((Vaacla.tokens t).bind takeProg) = (st, [1, (f.kind : Int), (f.place : Int)]) → Same H H1 → H1 d = some (fxd (.int (f.kind : Int)) (.int (f.place : Int))) →
        ∀ (q : Addr), H1 q = none → Q (.ref q) (upd H1 q (.lst [.int 1, .int (f.kind : Int), .int (f.place : Int)])) := fun f H1 d e s1 hd q hq => by
      rw [e] at k
      exact (AnsPost.read k B) (upd H1 q _) q (s1.trans (Same.new hq)) (s1.free hq) upd_same
    refine ⟨_, rfl, G, na, t, rfl, B.same, hn, hz, ?_⟩
    cases htk : Vaacla.tokens t with
    | error f =>
      intro H1 d kp hd
      refine ⟨true, T.fault.te, fun _ a0 _ => ?_, fun q => Bool.noConfusion q⟩
      refine ⟨_, rfl, rfl, rfl, d, _, _, rfl, hd, rfl, _, rfl, rfl, rfl, d, _, _, rfl, hd, rfl, by show 3 ≤ sizeLine; exact small (by decide), fun q hq => ?_⟩
      exact err f H1 d (by rw [htk]; rfl) (fun c o e => kp c o (fun z => z) e) hd q hq
    | ok toks =>
      have hok := tk_ok t.length 0 t toks (Nat.le_refl _) htk
      have hlen := tk_len t.length 0 t toks (Nat.le_refl _) htk
      rintro G1 H1 v e1 s1 ⟨ta, tvs, rfl, hta, htp⟩
      intro x dxr nx ndx nex
      have nx1 : G1 x = none := s1.free nx
      have s2 : Same H1 (upd (upd H1 dxr (.own x)) x (.ins A.CR dxr [])) := (Same.new ndx).trans (Same.new ((upd_ne nex.symm).trans nx))
      have hi2 : upd (upd H1 dxr (.own x)) x (.ins A.CR dxr []) x = some (.ins A.CR dxr []) := upd_same
      generalize upd (upd H1 dxr (.own x)) x (.ins A.CR dxr []) = H2 at s2 hi2 ⊢
      refine ⟨G1, x, dxr, ta, tvs, toks, rfl, s1.trans s2, nx1, hi2, hta, htp, by omega, hok, fun H3 R3 kp3 => ⟨rfl, ?_⟩⟩
      obtain ⟨dx3, ta3, i3, h13⟩ := R3.ins
      have sH1 : Same H H1 := fun c o e => e1.keep c o (fun z => z) e
      have hxH : H x = none := sH1.free nx
      have hxb : x ≠ b := fun q => by
        rw [q, hb] at hxH
        cases hxH
      have toS : ∀ H4, Keep (XA x) H3 H4 → Same H H4 := fun H4 kp c o e => by
        have hcx : ¬ XA x c := fun q => by
          have q : c = x := q
          rw [q, hxH] at e
          cases e
        exact kp c o hcx (kp3 c o hcx (s2 _ _ (sH1 _ _ e)))
      refine ⟨_, rfl, x, dx3, _, rfl, h13, n_program _ _ _, G1, x, toks, rfl, R3, ?_⟩
      cases hpg : takeProg toks with
      | error f =>
        intro H4 d kp hd
        refine ⟨true, T.fault.te, fun _ a0 _ => ?_, fun q => Bool.noConfusion q⟩
        refine ⟨_, rfl, rfl, rfl, d, _, _, rfl, hd, rfl, _, rfl, rfl, rfl, d, _, _, rfl, hd, rfl, by show 3 ≤ sizeLine; exact small (by decide), fun q hq => ?_⟩
        exact err f H4 d (by rw [htk]; show ansOf st (takeProg toks) = _; rw [hpg]; rfl) (toS H4 kp) hd q hq
      | ok p =>
        have okp := takeProg_ok hpg
        have k : AnsPost A G H b Q (some p) [0, (p.counters : Int), (p.pieces.length : Int)] := by
          have e : ansOf st ((Vaacla.tokens t).bind takeProg) = (some p, [0, (p.counters : Int), (p.pieces.length : Int)]) := by
            rw [htk]
            show ansOf st (takeProg toks) = _
            rw [hpg]
            rfl
          rw [e] at k
          exact k
        intro G4 H4 v l4 e4 R4 hpv
        have s4 : Same H H4 := toS H4 e4.keep
        obtain ⟨dx4, ta4, i4, h14⟩ := R4.ins
        have hb4 := s4 _ _ hb
        have e04 : Ext (XA b) G H G4 H4 := by
          refine ⟨e1.sg.trans e4.sg, Keep.of s4, fun c o h => ?_⟩
          rcases e4.fresh c o h with z | z
          · exact e1.fresh c o z
          · right
            cases q : H c with
            | none => rfl
            | some u =>
              have hcx : ¬ XA x c := fun z => by
                have z : c = x := z
                rw [z, hxH] at q
                cases q
              rw [kp3 c u hcx (s2 _ _ (sH1 _ _ q))] at z
              cases z
        have g4b : G4 b = none := gone e04 B.hole hb
        refine ⟨_, rfl, x, A.CR, dx4, _, _, rfl, h14, T.clR, T.aR_counters, rF_c _ _ _, _, rfl, b, A.CB, dx, _, rfl, hb4, T.clB, T.aB_counters, (by show 2 < 1000; decide), ?_⟩
        have ef1 : putF "counters" (.int (p.counters : Int)) (bF ((cOf st : Nat) : Int) pv) = bF (p.counters : Int) pv := put_here
        rw [ef1]
        refine ⟨_, rfl, _, rfl, b, A.CB, dx, _, rfl, upd_same, T.clB, T.aB_pieces, (by show 2 < 1000; decide), ?_⟩
        have ef2 : putF "pieces" v (bF (p.counters : Int) pv) = bF (p.counters : Int) v := (put_past (by decide +kernel)).trans (congrArg _ put_here)
        rw [ef2, upd_upd]
        have e5 : Ext (XA b) G4 H4 G4 (upd H4 b (.ins A.CB dx (bF (p.counters : Int) v))) := Ext.mut rfl
        have B5 : BoxG A G4 (upd H4 b (.ins A.CB dx (bF (p.counters : Int) v))) b (some p) := ⟨Same.mut R4.same g4b, g4b, ⟨dx, v, upd_same, hpv⟩, fun q hq => by cases hq; exact okp⟩
        have hb5 : upd H4 b (.ins A.CB dx (bF (p.counters : Int) v)) b = some (.ins A.CB dx (bF (p.counters : Int) v)) := upd_same
        have e05 := e04.trans e5 (xa_hole g4b)
        generalize upd H4 b (.ins A.CB dx (bF (p.counters : Int) v)) = H5 at B5 hb5 e05 ⊢
        obtain ⟨pa, pvs, rfl, hpa, hpp⟩ := hpv
        refine ⟨_, rfl, b, A.CB, dx, _, _, rfl, hb5, T.clB, T.aB_counters, bF_c _ _, _, rfl, b, A.CB, dx, _, _, rfl, hb5, T.clB, T.aB_pieces, bF_p _ _, pa, _, rfl, .inl (SqL.of (B5.same _ _ hpa)), by show 3 ≤ sizeLine; exact small (by decide), fun q hq => ?_⟩
        refine k G4 _ q (e05.trans ⟨Same.refl _, Keep.of (Same.new hq), fun _ _ h => .inl h⟩ (xa_hole g4b)) (B5.to (Same.new hq)) (e05.keep.free hq fun z => ?_) ?_
        · have z : q = b := z
          rw [z, hb5] at hq
          cases hq
        rw [upd_same, hpp.length]
        rfl)
end CL

set_option Elab.async false
set_option linter.all false
set_option maxRecDepth 100000
set_option maxHeartbeats 4000000
namespace CL
open PySem PySem.Spec PyProof.Rows L2
open C8 (Cal Met Mak pe_c pe_mk pe_mt pe_mt0 pe_gc)
open VaaclBase (Values Test Guard Branch Loop Piece okTest)
variable {P : PySem.Program} {w : World} {K : PySem.W.Frag} {mg : Str → Option Value} {base : Heap} {A : Ad}
/-! ## a piece that was read is within the limits -/
theorem opt_bind {α β : Type} {r : Option α} {f : α → Option β} {y : β} (h : r.bind f = some y) : ∃ x, r = some x ∧ f x = some y := by
  cases r with
  | none => cases h
  | some x => exact ⟨x, rfl, h⟩
theorem times_ok {α : Type} {rd : List Int → Option (α × List Int)} {Pr : α → Prop} (hr : ∀ l x l', rd l = some (x, l') → Pr x) : ∀ (n : Nat) (l : List Int) (xs : List α) (l' : List Int), VaaclBase.readTimes rd n l = some (xs, l') → xs.length = n ∧ ∀ x ∈ xs, Pr x
  | 0, l, xs, l', h => by
    cases h
    exact ⟨rfl, fun x q => by cases q⟩
  | n + 1, l, xs, l', h => by
    have h : ((rd l).bind fun u => (VaaclBase.readTimes rd n u.2).map fun v => (u.1 :: v.1, v.2)) = some (xs, l') := h
    obtain ⟨⟨x, l1⟩, h1, h2⟩ := opt_bind h
    dsimp only at h2
    cases h3 : VaaclBase.readTimes rd n l1 with
    | none =>
      rw [h3] at h2
      cases h2
    | some v =>
      rw [h3] at h2
      cases h2
      have := times_ok hr n l1 v.1 v.2 h3
      refine ⟨by rw [List.length_cons, this.1], fun y hy => ?_⟩
      rcases List.mem_cons.mp hy with q | q
      · rw [q]
        exact hr _ _ _ h1
      · exact this.2 y q
theorem readGiven_ok {n : Nat} (h1 : 1 ≤ n) {l l' : List Int} {g : Gv} (h : VaaclBase.readGiven n l = some (g, l')) : OkGiven n g := by
  rw [readGiven_is h1] at h
  obtain ⟨⟨k, l1⟩, e1, h⟩ := opt_bind h
  dsimp only at h
  split at h
  · obtain ⟨⟨u, l2⟩, e2, h⟩ := opt_bind h
    cases h
    have := readInt_in e2
    exact ⟨fun i q => (by cases q), this.1, this.2⟩
  · obtain ⟨⟨x, l2⟩, e2, h⟩ := opt_bind h
    obtain ⟨⟨u, l3⟩, e3, h⟩ := opt_bind h
    cases h
    have a := readInt_in e2
    have b := readInt_in e3
    refine ⟨fun i q => ?_, b.1, b.2⟩
    cases q
    omega
theorem readMove_ok {n : Nat} (h1 : 1 ≤ n) {l l' : List Int} {m : Mv} (h : VaaclBase.readMove n l = some (m, l')) : OkMove n m :=
  times_ok (Pr := OkGiven n) (fun _ _ _ q => readGiven_ok h1 q) n l m l' h
theorem gotT_ok {n : Nat} {o : Option (Test × List Int)} {t : Test} {l' : List Int} (h : gotT n o = some (t, l')) : okTest n t = true := by
  unfold gotT at h
  obtain ⟨u, _, h⟩ := opt_bind h
  split at h
  · cases h
    assumption
  · cases h
theorem readTest_ok {n : Nat} {l l' : List Int} {t : Test} (h : VaaclBase.readTest n l = some (t, l')) : okTest n t = true := by
  cases l with
  | nil => cases h
  | cons z r =>
    by_cases h0 : z = 0
    · subst h0
      exact gotT_ok h
    by_cases h1 : z = 1
    · subst h1
      exact gotT_ok h
    by_cases h2 : z = 2
    · subst h2
      exact gotT_ok h
    by_cases h3 : z = 3
    · subst h3
      exact gotT_ok h
    unfold VaaclBase.readTest at h
    dsimp only at h
    split at h
    · rename_i q
      exact absurd (List.cons.inj q).1 h0
    · rename_i q
      exact absurd (List.cons.inj q).1 h1
    · rename_i q
      exact absurd (List.cons.inj q).1 h2
    · rename_i q
      exact absurd (List.cons.inj q).1 h3
    · cases h
theorem readBranch_ok {n : Nat} (h1 : 1 ≤ n) {l l' : List Int} {b : Branch} (h : VaaclBase.readBranch n l = some (b, l')) : OkBranch n b := by
  rw [readBranch_is] at h
  obtain ⟨⟨k, l1⟩, e1, h⟩ := opt_bind h
  obtain ⟨⟨g, l2⟩, e2, h⟩ := opt_bind h
  obtain ⟨⟨m, l3⟩, e3, h⟩ := opt_bind h
  cases h
  have a := readInt_in e1
  have b := times_ok (Pr := fun t => okTest n t = true) (fun _ _ _ q => readTest_ok q) _ _ _ _ e2
  refine ⟨⟨?_, b.2⟩, readMove_ok h1 e3⟩
  have := b.1
  dsimp only at this ⊢
  omega
theorem readPiece_ok {n : Nat} (h1 : 1 ≤ n) {l l' : List Int} {p : Piece} (h : VaaclBase.readPiece n l = some (p, l')) : OkPiece n p := by
  rw [readPiece_is] at h
  obtain ⟨⟨k, l1⟩, e1, h⟩ := opt_bind h
  dsimp only at h
  split at h
  · obtain ⟨⟨m, l2⟩, e2, h⟩ := opt_bind h
    cases h
    refine ⟨Nat.le_refl _, (by decide : 1 ≤ 3), fun x hx => ?_⟩
    rw [List.mem_singleton.mp hx]
    exact ⟨⟨Nat.zero_le _, fun t q => by cases q⟩, readMove_ok h1 e2⟩
  · obtain ⟨⟨j, l2⟩, e2, h⟩ := opt_bind h
    obtain ⟨⟨b, l3⟩, e3, h⟩ := opt_bind h
    cases h
    have a := readInt_in e2
    have ob := times_ok (Pr := OkBranch n) (fun _ _ _ q => readBranch_ok h1 q) _ _ _ _ e3
    have hb := ob.1
    dsimp only at hb
    exact ⟨by show 1 ≤ b.length; omega, by show b.length ≤ 3; omega, ob.2⟩
theorem addA_ok {p : Prg} (ok : OkProg p) (l : List Int) : ∀ x, (addA p l).1 = some x → OkProg x := by
  intro x h
  unfold addA at h
  cases e : VaaclBase.whole (VaaclBase.readPiece p.counters) l with
  | none =>
    rw [e] at h
    cases h
    exact ok
  | some y =>
    rw [e] at h
    dsimp only at h
    split at h
    · cases h
      exact ok
    · rename_i h5
      cases h
      have hy : OkPiece p.counters y := by
        unfold VaaclBase.whole at e
        cases e2 : VaaclBase.readPiece p.counters l with
        | none =>
          rw [e2] at e
          cases e
        | some u =>
          obtain ⟨v, l'⟩ := u
          rw [e2] at e
          cases l' with
          | nil =>
            cases e
            exact readPiece_ok ok.1 e2
          | cons z r => cases e
      refine ⟨ok.1, ok.2.1, by show (p.pieces ++ [y]).length ≤ 5; rw [List.length_append, List.length_singleton]; omega, fun q hq => ?_⟩
      rcases List.mem_append.mp hq with z | z
      · exact ok.2.2.2 q z
      · rw [List.mem_singleton.mp z]
        exact hy
theorem dropA_ok {p : Prg} (ok : OkProg p) (k : Int) : ∀ x, (dropA p k).1 = some x → OkProg x := by
  intro x h
  unfold dropA at h
  split at h
  · cases h
    exact ok
  · cases h
    refine ⟨ok.1, ok.2.1, ?_, fun q hq => ok.2.2.2 q (List.mem_of_mem_eraseIdx hq)⟩
    have := ok.2.2.1
    show (p.pieces.eraseIdx _).length ≤ 5
    have := List.length_eraseIdx_le p.pieces k.toNat
    omega
/-! ## a call, and what it answers -/
abbrev Cll := Vaacla.Call
def callNum : Cll → Int
  | .load _ => 0
  | .shown => 1
  | .told => 2
  | .run _ => 3
  | .piece _ => 4
  | .chosen _ _ => 5
  | .tests _ _ _ => 6
  | .trace _ => 7
  | .after _ _ => 8
  | .counts _ => 9
  | .box _ _ => 10
  | .add _ => 11
  | .drop _ => 12
def callWs : Cll → List Int
  | .piece k => [k]
  | .chosen k _ => [k]
  | .tests k b _ => [k, b]
  | .after n _ => [n]
  | .box lo hi => [lo, hi]
  | .drop k => [k]
  | _ => []
def callRow : Cll → List Int
  | .load t => t.map fun (n : Nat) => (n : Int)
  | .run s => s
  | .chosen _ s => s
  | .tests _ _ s => s
  | .trace s => s
  | .after _ s => s
  | .counts s => s
  | .add l => l
  | _ => []
def fits : Cll → Prop
  | .load t => t.length ≤ 100000
  | c => (callRow c).length ≤ 1000
def stepP (p : Prg) : Cll → Option Prg × List Int
  | .load t => loadA (some p) t
  | .shown => (some p, VaaclBase.listed (Vaacla.programText p))
  | .told => (some p, VaaclBase.flatProgram p)
  | .run l => (some p, if mayB p.counters l = true then VaaclBase.flatOut (VaaclBase.run p l) else [-5])
  | .piece k => (some p, pieceA p k)
  | .chosen k l => (some p, chosenA p k l)
  | .tests k b l => (some p, testsA p k b l)
  | .trace l => (some p, if mayB p.counters l = true then (VaaclBase.int (Vaacla.rounds p l 40).length :: (Vaacla.rounds p l 40).flatMap fun x => [VaaclBase.int x.piece, VaaclBase.orNone x.branch]) else [-5])
  | .after n l => (some p, if n < 0 ∨ 2000 < n then [-3] else if mayB p.counters l = true then (0 :: lastV (Vaacla.rounds p l n.toNat) l) else [-5])
  | .counts l => (some p, if mayB p.counters l = true then (VaaclBase.int (Vaacla.rounds p l 2000).length :: (List.range p.pieces.length).map fun k => VaaclBase.int ((Vaacla.rounds p l 2000).countP fun x => x.piece == k)) else [-5])
  | .box lo hi => (some p, boxA p lo hi)
  | .add l => addA p l
  | .drop k => dropA p k
def stepA (s : Option Prg) (c : Cll) : Option Prg × List Int := match s with
  | some p => stepP p c
  | none => match c with
    | .load t => loadA none t
    | _ => (none, [-8])
theorem AnsPost.keep {G H H1 : Hp} {b : Addr} {Q : VK} {s : Option Prg} {l : List Int} (k : AnsPost A G H b Q s l) (e : Same H H1) : AnsPost A G H1 b Q s l := fun G' H' r x B nr hr =>
  k G' H' r ⟨x.sg, (Keep.of e).trans x.keep, fun c o h => by
    rcases x.fresh c o h with z | z
    · exact .inl z
    · exact .inr (e.free z)⟩ B (e.free nr) hr
theorem nq {i j : Int} (h : decide (i = j) = false) : ¬ (V.int i = V.int j) := fun e => of_decide_eq_false h (V.int.inj e)
/-- the calls on a piece -/
def isP : Cll → Bool
  | .piece _ => true
  | .chosen _ _ => true
  | .tests _ _ _ => true
  | .drop _ => true
  | _ => false
/-- the calls that run -/
def isR : Cll → Bool
  | .run _ => true
  | .trace _ => true
  | .after _ _ => true
  | .counts _ => true
  | .box _ _ => true
  | _ => false
def spAnsP (A : Ad) (f : Cll → Bool) : Sp := fun vs H Q _ => ∃ (G : Hp) (b wa ra : Addr) (p : Prg) (c : Cll), vs = [.ref b, .int (callNum c), .ref wa, .ref ra] ∧ f c = true ∧ BoxG A G H b (some p) ∧ G wa = some (.lst (iV (callWs c))) ∧ G ra = some (.lst (iV (callRow c))) ∧ fits c ∧ AnsPost A G H b Q (stepP p c).1 (stepP p c).2
theorem c_answer_of_piece (T : Txt K mg A) : Cal P w K mg base 5 "answer_of_piece" (spAnsP A isP) [] :=
  cal_mk T.d_answer_of_piece sc_answer_of_piece bn_answer_of_piece (fun vs H Q E h => by
    obtain ⟨_, _, _, _, _, _, rfl, _⟩ := h
    rfl) (fun f cdv A' outer s H vs Q E hr h => by
    refine ⟨_, (pss_cons (ps_if (pt_cmpR op_eq (pv 1) pe_int (nomark _)) (pss_one (ps_ret (pe_c (c_tell_piece T) hr (by decide) (by rfl) (pa_cons (pv 0) (pa_cons (pe_ix ix_list (pv 2) pe_int (fun _ _ => rfl)) pa_nil))))) pss_nil)
      (pss_cons (ps_if (pt_cmpR op_eq (pv 1) pe_int (nomark _)) (pss_one (ps_ret (pe_c (c_choose T) hr (by decide) (by rfl) (pa_cons (pv 0) (pa_cons (pe_ix ix_list (pv 2) pe_int (fun _ _ => rfl)) (pa_cons (pv 3) pa_nil)))))) pss_nil)
      (pss_cons (ps_if (pt_cmpR op_eq (pv 1) pe_int (nomark _)) (pss_one (ps_ret (pe_c (c_try_tests T) hr (by decide) (by rfl) (pa_cons (pv 0) (pa_cons (pe_ix ix_list (pv 2) pe_int (fun _ _ => rfl)) (pa_cons (pe_ix ix_list (pv 2) pe_int (fun _ _ => rfl)) (pa_cons (pv 3) pa_nil))))))) pss_nil)
      (pss_one (ps_ret (pe_c (c_drop_piece T) hr (by decide) (by rfl) (pa_cons (pv 0) (pa_cons (pe_ix ix_list (pv 2) pe_int (fun _ _ => rfl)) pa_nil)))))))), ?_⟩
    obtain ⟨G, b, wa, ra, p, c, rfl, hf, B, hw, hra, ft, k⟩ := h
    have hwH := B.same _ _ hw
    have hrH := B.same _ _ hra
    cases c with
    | piece x =>
      exact ⟨_, rfl, rfl, _, rfl, ifT rfl ⟨_, rfl, _, rfl, wa, _, _, _, rfl, rfl, SqL.of hwH, rfl, b, p, x, rfl, B.inn, AnsPost.read k B⟩⟩
    | chosen x l =>
      refine ⟨_, rfl, rfl, _, rfl, ifF (nq rfl) ?_⟩
      exact ⟨_, rfl, rfl, _, rfl, ifT rfl ⟨_, rfl, _, rfl, wa, _, _, _, rfl, rfl, SqL.of hwH, rfl, _, rfl, b, ra, p, x, l, rfl, B.inn, hrH, AnsPost.read k B⟩⟩
    | tests x y l =>
      refine ⟨_, rfl, rfl, _, rfl, ifF (nq rfl) ?_⟩
      refine ⟨_, rfl, rfl, _, rfl, ifF (nq rfl) ?_⟩
      exact ⟨_, rfl, rfl, _, rfl, ifT rfl ⟨_, rfl, _, rfl, wa, _, _, _, rfl, rfl, SqL.of hwH, rfl, _, rfl, wa, _, _, _, rfl, rfl, SqL.of hwH, rfl, _, rfl, b, ra, p, x, y, l, rfl, B.inn, hrH, AnsPost.read k B⟩⟩
    | drop x =>
      refine ⟨_, rfl, rfl, _, rfl, ifF (nq rfl) ?_⟩
      refine ⟨_, rfl, rfl, _, rfl, ifF (nq rfl) ?_⟩
      refine ⟨_, rfl, rfl, _, rfl, ifF (nq rfl) ?_⟩
      exact ⟨_, rfl, _, rfl, wa, _, _, _, rfl, rfl, SqL.of hwH, rfl, G, b, p, x, rfl, B, dropA_ok (B.ok p rfl) x, k⟩
    | load _ => cases hf
    | shown => cases hf
    | told => cases hf
    | run _ => cases hf
    | trace _ => cases hf
    | after _ _ => cases hf
    | counts _ => cases hf
    | box _ _ => cases hf
    | add _ => cases hf)
theorem c_answer_of_run (T : Txt K mg A) : Cal P w K mg base 8 "answer_of_run" (spAnsP A isR) [] :=
  cal_mk T.d_answer_of_run sc_answer_of_run bn_answer_of_run (fun vs H Q E h => by
    obtain ⟨_, _, _, _, _, _, rfl, _⟩ := h
    rfl) (fun f cdv A' outer s H vs Q E hr h => by
    refine ⟨_, (pss_cons (ps_if (pt_cmpR op_eq (pv 1) pe_int (nomark _)) (pss_one (ps_ret (pe_c (c_run_told T) hr (by decide) (by rfl) (pa_cons (pv 0) (pa_cons (pv 3) pa_nil))))) pss_nil)
      (pss_cons (ps_if (pt_cmpR op_eq (pv 1) pe_int (nomark _)) (pss_one (ps_ret (pe_c (c_trace T) hr (by decide) (by rfl) (pa_cons (pv 0) (pa_cons (pv 3) pa_nil))))) pss_nil)
      (pss_cons (ps_if (pt_cmpR op_eq (pv 1) pe_int (nomark _)) (pss_one (ps_ret (pe_c (c_after T) hr (by decide) (by rfl) (pa_cons (pv 0) (pa_cons (pe_ix ix_list (pv 2) pe_int (fun _ _ => rfl)) (pa_cons (pv 3) pa_nil)))))) pss_nil)
      (pss_cons (ps_if (pt_cmpR op_eq (pv 1) pe_int (nomark _)) (pss_one (ps_ret (pe_c (c_counts T) hr (by decide) (by rfl) (pa_cons (pv 0) (pa_cons (pv 3) pa_nil))))) pss_nil)
      (pss_one (ps_ret (pe_c (c_box_told T) hr (by decide) (by rfl) (pa_cons (pv 0) (pa_cons (pe_ix ix_list (pv 2) pe_int (fun _ _ => rfl)) (pa_cons (pe_ix ix_list (pv 2) pe_int (fun _ _ => rfl)) pa_nil)))))))))), ?_⟩
    obtain ⟨G, b, wa, ra, p, c, rfl, hf, B, hw, hra, ft, k⟩ := h
    have hwH := B.same _ _ hw
    have hrH := B.same _ _ hra
    cases c with
    | run l =>
      exact ⟨_, rfl, rfl, _, rfl, ifT rfl ⟨_, rfl, _, rfl, b, ra, p, l, rfl, B.inn, hrH, AnsPost.read k B⟩⟩
    | trace l =>
      refine ⟨_, rfl, rfl, _, rfl, ifF (nq rfl) ?_⟩
      exact ⟨_, rfl, rfl, _, rfl, ifT rfl ⟨_, rfl, _, rfl, b, ra, p, l, rfl, B.inn, hrH, AnsPost.read k B⟩⟩
    | after x l =>
      refine ⟨_, rfl, rfl, _, rfl, ifF (nq rfl) ?_⟩
      refine ⟨_, rfl, rfl, _, rfl, ifF (nq rfl) ?_⟩
      exact ⟨_, rfl, rfl, _, rfl, ifT rfl ⟨_, rfl, _, rfl, wa, _, _, _, rfl, rfl, SqL.of hwH, rfl, _, rfl, b, ra, p, x, l, rfl, B.inn, hrH, AnsPost.read k B⟩⟩
    | counts l =>
      refine ⟨_, rfl, rfl, _, rfl, ifF (nq rfl) ?_⟩
      refine ⟨_, rfl, rfl, _, rfl, ifF (nq rfl) ?_⟩
      refine ⟨_, rfl, rfl, _, rfl, ifF (nq rfl) ?_⟩
      exact ⟨_, rfl, rfl, _, rfl, ifT rfl ⟨_, rfl, _, rfl, b, ra, p, l, rfl, B.inn, hrH, AnsPost.read k B⟩⟩
    | box x y =>
      refine ⟨_, rfl, rfl, _, rfl, ifF (nq rfl) ?_⟩
      refine ⟨_, rfl, rfl, _, rfl, ifF (nq rfl) ?_⟩
      refine ⟨_, rfl, rfl, _, rfl, ifF (nq rfl) ?_⟩
      refine ⟨_, rfl, rfl, _, rfl, ifF (nq rfl) ?_⟩
      exact ⟨_, rfl, _, rfl, wa, _, _, _, rfl, rfl, SqL.of hwH, rfl, _, rfl, wa, _, _, _, rfl, rfl, SqL.of hwH, rfl, b, p, x, y, rfl, B.inn, AnsPost.read k B⟩
    | load _ => cases hf
    | shown => cases hf
    | told => cases hf
    | piece _ => cases hf
    | chosen _ _ => cases hf
    | tests _ _ _ => cases hf
    | add _ => cases hf
    | drop _ => cases hf)
end CL

set_option Elab.async false
set_option linter.all false
set_option maxRecDepth 100000
set_option maxHeartbeats 4000000
namespace CL
open PySem PySem.Spec PyProof.Rows L2
open C8 (Cal Met Mak pe_c pe_mk pe_mt pe_mt0 pe_gc)
open VaaclBase (Values Test Guard Branch Loop Piece okTest)
variable {P : PySem.Program} {w : World} {K : PySem.W.Frag} {mg : Str → Option Value} {base : Heap} {A : Ad}
/-! ## answer -/
def isL : Cll → Bool
  | .load _ => true
  | _ => false
theorem num_load {c : Cll} (h : isL c = false) : decide (callNum c = 0) = false := by
  cases c <;> first | rfl | cases h
theorem step_none {c : Cll} (h : isL c = false) : stepA none c = (none, [-8]) := by
  cases c <;> first | rfl | cases h
theorem num_P {c : Cll} (h : isP c = true) : decide (callNum c = 1) = false ∧ decide (callNum c = 2) = false ∧ decide (callNum c = 11) = false ∧ inV (.int (callNum c)) [.int 4, .int 5, .int 6, .int 12] = true := by
  cases c <;> first | exact ⟨rfl, rfl, rfl, rfl⟩ | cases h
theorem num_R {c : Cll} (h : isR c = true) : decide (callNum c = 1) = false ∧ decide (callNum c = 2) = false ∧ decide (callNum c = 11) = false ∧ inV (.int (callNum c)) [.int 4, .int 5, .int 6, .int 12] = false := by
  cases c <;> first | exact ⟨rfl, rfl, rfl, rfl⟩ | cases h
theorem tv_row (t : List Nat) : iV (t.map fun (n : Nat) => (n : Int)) = tV t := List.map_map ..
def spAnswer (A : Ad) : Sp := fun vs H Q _ => ∃ (G : Hp) (b wa ra : Addr) (s : Option Prg) (c : Cll), vs = [.ref b, .int (callNum c), .ref wa, .ref ra] ∧ BoxG A G H b s ∧ G wa = some (.lst (iV (callWs c))) ∧ G ra = some (.lst (iV (callRow c))) ∧ fits c ∧ AnsPost A G H b Q (stepA s c).1 (stepA s c).2
theorem c_answer (T : Txt K mg A) : Cal P w K mg base 13 "answer" (spAnswer A) [] :=
  cal_mk T.d_answer sc_answer bn_answer (fun vs H Q E h => by
    obtain ⟨_, _, _, _, _, _, rfl, _⟩ := h
    rfl) (fun f cdv A' outer s H vs Q E hr h => by
    refine ⟨_, (pss_cons (ps_if (pt_cmpR op_eq (pv 1) pe_int (nomark _)) (pss_one (ps_ret (pe_c (c_load T) hr (by decide) (by rfl) (pa_cons (pv 0) (pa_cons (pv 3) pa_nil))))) pss_nil)
      (pss_cons (ps_if (pt_cmpR op_eq (pe_fld (pv 0) rfl) pe_int (nomark _)) (pss_one (ps_ret (pe_lst (pa_cons (pe_un un_neg pe_int) pa_nil)))) pss_nil)
      (pss_cons (ps_if (pt_cmpR op_eq (pv 1) pe_int (nomark _)) (pss_one (ps_ret (pe_c (c_show T) hr (by decide) (by rfl) (pa_cons (pv 0) pa_nil)))) pss_nil)
      (pss_cons (ps_if (pt_cmpR op_eq (pv 1) pe_int (nomark _)) (pss_one (ps_ret (pe_c (c_tell T) hr (by decide) (by rfl) (pa_cons (pv 0) pa_nil)))) pss_nil)
      (pss_cons (ps_if (pt_cmpR op_eq (pv 1) pe_int (nomark _)) (pss_one (ps_ret (pe_c (c_add_piece T) hr (by decide) (by rfl) (pa_cons (pv 0) (pa_cons (pv 3) pa_nil))))) pss_nil)
      (pss_cons (ps_if (pt_cmpR op_in_seq (pv 1) (pe_tup (pa_cons pe_int (pa_cons pe_int (pa_cons pe_int (pa_cons pe_int pa_nil))))) (by rfl)) (pss_one (ps_ret (pe_c (c_answer_of_piece T) hr (by decide) (by rfl) (pa_cons (pv 0) (pa_cons (pv 1) (pa_cons (pv 2) (pa_cons (pv 3) pa_nil))))))) pss_nil)
      (pss_one (ps_ret (pe_c (c_answer_of_run T) hr (by decide) (by rfl) (pa_cons (pv 0) (pa_cons (pv 1) (pa_cons (pv 2) (pa_cons (pv 3) pa_nil))))))))))))), ?_⟩
    obtain ⟨G, b, wa, ra, st, c, rfl, B, hw, hra, ft, k⟩ := h
    obtain ⟨dx, pv, hb, hP⟩ := id B.at_
    cases hl : isL c with
    | true =>
      cases c with
      | load t =>
        have e : stepA st (.load t) = loadA st t := by cases st <;> rfl
        rw [e] at k
        have hra : G ra = some (.lst (tV t)) := by
          rw [← tv_row]
          exact hra
        exact ⟨_, rfl, rfl, _, rfl, ifT rfl ⟨_, rfl, _, rfl, G, b, ra, st, t, rfl, B, hra, ft, k⟩⟩
      | _ => cases hl
    | false =>
      refine ⟨_, rfl, rfl, _, rfl, ifF (nq (num_load hl)) ?_⟩
      refine ⟨_, rfl, b, A.CB, dx, _, _, rfl, hb, T.clB, T.aB_counters, bF_c _ _, rfl, _, rfl, ?_⟩
      cases st with
      | none =>
        rw [step_none hl] at k
        refine ifT rfl ⟨_, rfl, by show 1 ≤ sizeLine; exact small (by decide), fun q hq => refuse (AnsPost.read k B) hq⟩
      | some p =>
        have ok := B.ok p rfl
        refine ifF (int_ne (by have := ok.1; show ((p.counters : Nat) : Int) ≠ 0; omega)) ?_
        have k : AnsPost A G H b Q (stepP p c).1 (stepP p c).2 := k
        cases hP' : isP c with
        | true =>
          obtain ⟨n1, n2, n3, n4⟩ := num_P hP'
          refine ⟨_, rfl, rfl, _, rfl, ifF (nq n1) ⟨_, rfl, rfl, _, rfl, ifF (nq n2) ⟨_, rfl, rfl, _, rfl, ifF (nq n3) ?_⟩⟩⟩
          refine ⟨_, rfl, by show 4 ≤ sizeLine; exact small (by decide), fun q hq => ⟨q, _, rfl, .inr (SqT.of upd_same), rfl, rfl, _, rfl, ifBT n4 ?_⟩⟩
          exact ⟨_, rfl, _, rfl, _, rfl, _, rfl, G, b, wa, ra, p, c, rfl, hP', B.to (Same.new hq), hw, hra, ft, AnsPost.keep k (Same.new hq)⟩
        | false =>
          cases hR : isR c with
          | true =>
            obtain ⟨n1, n2, n3, n4⟩ := num_R hR
            refine ⟨_, rfl, rfl, _, rfl, ifF (nq n1) ⟨_, rfl, rfl, _, rfl, ifF (nq n2) ⟨_, rfl, rfl, _, rfl, ifF (nq n3) ?_⟩⟩⟩
            refine ⟨_, rfl, by show 4 ≤ sizeLine; exact small (by decide), fun q hq => ⟨q, _, rfl, .inr (SqT.of upd_same), rfl, rfl, _, rfl, ifBF n4 ?_⟩⟩
            exact ⟨_, rfl, _, rfl, _, rfl, _, rfl, G, b, wa, ra, p, c, rfl, hR, B.to (Same.new hq), hw, hra, ft, AnsPost.keep k (Same.new hq)⟩
          | false =>
            cases c with
            | shown => exact ⟨_, rfl, rfl, _, rfl, ifT rfl ⟨_, rfl, b, p, rfl, B.inn, AnsPost.read k B⟩⟩
            | told =>
              refine ⟨_, rfl, rfl, _, rfl, ifF (nq rfl) ?_⟩
              exact ⟨_, rfl, rfl, _, rfl, ifT rfl ⟨_, rfl, b, p, rfl, B.inn, AnsPost.read k B⟩⟩
            | add l =>
              refine ⟨_, rfl, rfl, _, rfl, ifF (nq rfl) ?_⟩
              refine ⟨_, rfl, rfl, _, rfl, ifF (nq rfl) ?_⟩
              exact ⟨_, rfl, rfl, _, rfl, ifT rfl ⟨_, rfl, _, rfl, G, b, ra, p, l, rfl, B, hra, ft, addA_ok ok l, k⟩⟩
            | load _ => cases hl
            | run _ => cases hR
            | piece _ => cases hP'
            | chosen _ _ => cases hP'
            | tests _ _ _ => cases hP'
            | trace _ => cases hR
            | after _ _ => cases hR
            | counts _ => cases hR
            | box _ _ => cases hR
            | drop _ => cases hP')
theorem cut_mid {xs : List V} {i j : Nat} (hi : i ≤ xs.length) (hj : j ≤ xs.length) : cutV xs (some (i : Int)) (some (j : Int)) = (xs.drop i).take (j - i) := by
  unfold cutV
  rw [HT.sIx_nat, HT.sIx_nat, Nat.min_eq_left hi, Nat.min_eq_left hj]
def spRowAt (K : PySem.W.Frag) : Sp := fun vs H Q _ => ∃ (a : Addr) (ns : List Int) (i m : Nat), vs = [.ref a, .int (i : Int)] ∧ SqL K H a (iV ns) ∧ ns[i]? = some (m : Int) ∧ i + 1 + m ≤ ns.length ∧ ∀ p, H p = none → Q (.ref p) (upd H p (.lst (iV ((ns.drop (i + 1)).take m))))
theorem c_row_at (T : Txt K mg A) : Cal P w K mg base 1 "row_at" (spRowAt K) [] :=
  cal_mk T.d_row_at sc_row_at bn_row_at (fun vs H Q E h => by
    obtain ⟨_, _, _, _, rfl, _⟩ := h
    rfl) (fun f cdv A' outer s H vs Q E hr h => by
    refine ⟨_, (pss_one (ps_ret (pe_slice sl_list (pv 0) (po_some (pe_op op_add (pv 1) pe_int)) (po_some (pe_op op_add (pe_op op_add (pv 1) pe_int) (pe_ix ix_list (pv 0) (pv 1) (fun _ _ => rfl))))))), ?_⟩
    obtain ⟨a, ns, i, m, rfl, ha, hm, hz, k⟩ := h
    have hv : (iV ns)[i]? = some (.int (m : Int)) := by
      rw [List.getElem?_map, hm]
      rfl
    have hl : (iV ns).length = ns.length := List.length_map ..
    refine ⟨_, rfl, _, rfl, _, _, rfl, rfl, _, rfl, _, rfl, _, _, rfl, rfl, _, rfl, _, rfl, a, _, _, _, rfl, rfl, ha, atI_nat hv, _, _, rfl, rfl, _, rfl, a, _, rfl, ha, fun p hp => ?_⟩
    rw [show (i : Int) + 1 = ((i + 1 : Nat) : Int) by omega, show ((i + 1 : Nat) : Int) + (m : Int) = ((i + 1 + m : Nat) : Int) by omega, cut_mid (by omega) (by omega), show i + 1 + m - (i + 1) = m by omega, ← List.map_drop, ← List.map_take]
    exact k p hp)
end CL

set_option Elab.async false
set_option linter.all false
set_option maxRecDepth 100000
set_option maxHeartbeats 4000000
namespace CL
open PySem PySem.Spec PyProof.Rows L2
open VaaclBase (Values Test Guard Branch Loop Piece okTest)
/-! ## the plain law: what the code answers is what the specification answers -/
def OkS (s : Option Prg) : Prop := ∀ p, s = some p → OkProg p
theorem on_begin (s : Vaacla.State) (p : Prg) (l : List Int) (f : List Int → List Int) : Vaacla.onBegin s p l f = (s, if mayB p.counters l = true then f l else [-5]) := by
  unfold Vaacla.onBegin
  rw [whole_begin]
  cases mayB p.counters l <;> rfl
theorem fold_pow (w : Nat) : ∀ n, (List.range n).foldl (fun k (_ : Nat) => k * w) 1 = w ^ n
  | 0 => rfl
  | n + 1 => by
    rw [List.range_succ, List.foldl_append, fold_pow w n, Nat.pow_succ]
    rfl
theorem few_is {lo hi : Int} {n : Nat} (h : lo ≤ hi) (hn : 1 ≤ n) : Vaacla.fewIn lo hi n = decide ((hi - lo + 1).toNat ^ n ≤ 100) := by
  have hm1 : 1 ≤ (hi - lo + 1).toNat := by omega
  unfold Vaacla.fewIn Vaacla.BOX
  dsimp only
  rw [fold_pow, Bool.eq_iff_iff, Bool.and_eq_true, decide_eq_true_eq, decide_eq_true_eq]
  refine ⟨fun h => h.2, fun h => ⟨?_, h⟩⟩
  have := pow_mono' hm1 hn
  rw [Nat.pow_one] at this
  omega
theorem stepP_is (p : Prg) (ok : OkProg p) (c : Cll) : Vaacla.step ⟨some p⟩ c = (⟨(stepP p c).1⟩, (stepP p c).2) := by
  cases c with
  | load t =>
    show (if 1500 < t.length then ((⟨some p⟩ : Vaacla.State), [-1]) else match Vaacla.read t with
      | .error f => (⟨some p⟩, [1, VaaclBase.int f.kind, VaaclBase.int f.place])
      | .ok p => (⟨some p⟩, [0, VaaclBase.int p.counters, VaaclBase.int p.pieces.length])) = (⟨(loadA (some p) t).1⟩, (loadA (some p) t).2)
    unfold loadA ansOf
    by_cases h : 1500 < t.length
    · rw [if_pos h, if_pos h]
    · rw [if_neg h, if_neg h]
      cases Vaacla.read t <;> rfl
  | shown => rfl
  | told => rfl
  | run l =>
    show Vaacla.onBegin ⟨some p⟩ p l _ = _
    rw [on_begin]
    rfl
  | piece k =>
    show (match Vaacla.nth p.pieces k with
      | none => (⟨some p⟩, [-2])
      | some x => (⟨some p⟩, VaaclBase.flatPiece x)) = ((⟨some p⟩ : Vaacla.State), pieceA p k)
    unfold pieceA
    cases Vaacla.nth p.pieces k <;> rfl
  | chosen k l =>
    show (match Vaacla.nth p.pieces k with
      | none => (⟨some p⟩, [-2])
      | some (.move _) => (⟨some p⟩, [-4])
      | some (.loop x) => Vaacla.onBegin ⟨some p⟩ p l fun v => [VaaclBase.orNone (VaaclBase.chosen x v)]) = ((⟨some p⟩ : Vaacla.State), chosenA p k l)
    unfold chosenA
    cases Vaacla.nth p.pieces k with
    | none => rfl
    | some x =>
      cases x with
      | move m => rfl
      | loop x =>
        dsimp only
        rw [on_begin]
  | tests k b l =>
    show (match Vaacla.nth p.pieces k with
      | none => (⟨some p⟩, [-2])
      | some (.move _) => (⟨some p⟩, [-4])
      | some (.loop x) => match Vaacla.nth x b with
        | none => (⟨some p⟩, [-3])
        | some y => Vaacla.onBegin ⟨some p⟩ p l fun v => VaaclBase.int y.guard.length :: y.guard.map fun t => Vaacla.bit (VaaclBase.holds v t)) = ((⟨some p⟩ : Vaacla.State), testsA p k b l)
    unfold testsA
    cases Vaacla.nth p.pieces k with
    | none => rfl
    | some x =>
      cases x with
      | move m => rfl
      | loop x =>
        dsimp only
        cases Vaacla.nth x b with
        | none => rfl
        | some y =>
          dsimp only
          rw [on_begin]
  | trace l =>
    show Vaacla.onBegin ⟨some p⟩ p l _ = _
    rw [on_begin]
    rfl
  | after n l =>
    show (if n < 0 ∨ 2000 < n then (⟨some p⟩, [-3]) else Vaacla.onBegin ⟨some p⟩ p l fun v => 0 :: lastV (Vaacla.rounds p v n.toNat) v) = ((⟨some p⟩ : Vaacla.State), if n < 0 ∨ 2000 < n then [-3] else if mayB p.counters l = true then (0 :: lastV (Vaacla.rounds p l n.toNat) l) else [-5])
    by_cases h : n < 0 ∨ 2000 < n
    · rw [if_pos h, if_pos h]
    · rw [if_neg h, if_neg h, on_begin]
  | counts l =>
    show Vaacla.onBegin ⟨some p⟩ p l _ = _
    rw [on_begin]
    rfl
  | box lo hi =>
    show (if lo < -1000000 ∨ 1000000 < hi ∨ hi < lo then (⟨some p⟩, [-5]) else if (!Vaacla.fewIn lo hi p.counters) = true then (⟨some p⟩, [-7]) else
      (⟨some p⟩, [VaaclBase.int ((Vaacla.boxOf lo hi p.counters).map (VaaclBase.run p)).length, VaaclBase.int (((Vaacla.boxOf lo hi p.counters).map (VaaclBase.run p)).countP fun o => o.how == .over), VaaclBase.int (((Vaacla.boxOf lo hi p.counters).map (VaaclBase.run p)).countP fun o => o.how == .beyond), VaaclBase.int (((Vaacla.boxOf lo hi p.counters).map (VaaclBase.run p)).countP fun o => o.how == .long), VaaclBase.int (((Vaacla.boxOf lo hi p.counters).map (VaaclBase.run p)).foldl (fun n o => Nat.max n o.rounds) 0)])) = ((⟨some p⟩ : Vaacla.State), boxA p lo hi)
    unfold boxA
    by_cases h : lo < -1000000 ∨ 1000000 < hi ∨ hi < lo
    · rw [if_pos h, if_pos h]
    · rw [if_neg h, if_neg h, few_is (by omega) ok.1, ends_is]
      by_cases h2 : (hi - lo + 1).toNat ^ p.counters ≤ 100
      · rw [decide_eq_true h2, if_pos h2]
        rfl
      · rw [decide_eq_false h2, if_neg h2]
        rfl
  | add l =>
    show (match VaaclBase.whole (VaaclBase.readPiece p.counters) l with
      | none => (⟨some p⟩, [-5])
      | some x => if 5 ≤ p.pieces.length then (⟨some p⟩, [-6]) else (⟨some { p with pieces := p.pieces ++ [x] }⟩, [VaaclBase.int p.pieces.length])) = ((⟨(addA p l).1⟩ : Vaacla.State), (addA p l).2)
    unfold addA
    cases VaaclBase.whole (VaaclBase.readPiece p.counters) l with
    | none => rfl
    | some x =>
      dsimp only
      by_cases h : 5 ≤ p.pieces.length
      · rw [if_pos h, if_pos h]
      · rw [if_neg h, if_neg h]
  | drop k =>
    show (if k < 0 ∨ VaaclBase.int p.pieces.length ≤ k then (⟨some p⟩, [-2]) else (⟨some { p with pieces := p.pieces.eraseIdx k.toNat }⟩, [VaaclBase.int p.pieces.length - 1])) = ((⟨(dropA p k).1⟩ : Vaacla.State), (dropA p k).2)
    unfold dropA
    by_cases h : k < 0 ∨ VaaclBase.int p.pieces.length ≤ k
    · rw [if_pos h, if_pos h]
    · rw [if_neg h, if_neg h]
theorem step_is (s : Option Prg) (ok : OkS s) (c : Cll) : Vaacla.step ⟨s⟩ c = (⟨(stepA s c).1⟩, (stepA s c).2) := by
  cases s with
  | some p => exact stepP_is p (ok p rfl) c
  | none =>
    cases c with
    | load t =>
      show (if 1500 < t.length then ((⟨none⟩ : Vaacla.State), [-1]) else match Vaacla.read t with
        | .error f => (⟨none⟩, [1, VaaclBase.int f.kind, VaaclBase.int f.place])
        | .ok p => (⟨some p⟩, [0, VaaclBase.int p.counters, VaaclBase.int p.pieces.length])) = (⟨(loadA none t).1⟩, (loadA none t).2)
      unfold loadA ansOf
      by_cases h : 1500 < t.length
      · rw [if_pos h, if_pos h]
      · rw [if_neg h, if_neg h]
        cases Vaacla.read t <;> rfl
    | _ => rfl
/-! ### the calls, laid flat -/
def hasRow : Cll → Bool
  | .shown => false
  | .told => false
  | .piece _ => false
  | .box _ _ => false
  | .drop _ => false
  | _ => true
def flatC (c : Cll) : List Int := callNum c :: (callWs c ++ (if hasRow c = true then ((callRow c).length : Int) :: callRow c else []))
theorem nat_back {t : List Int} (h : t.all (fun (z : Int) => VaaclaNeutral.natural z 8) = true) : (t.map Int.toNat).map (fun (n : Nat) => (n : Int)) = t := by
  rw [List.map_map]
  have : ∀ z ∈ t, ((fun (n : Nat) => (n : Int)) ∘ Int.toNat) z = z := fun z hz => by
    have q := List.all_eq_true.mp h z hz
    unfold VaaclaNeutral.natural at q
    rw [Bool.and_eq_true, decide_eq_true_eq] at q
    show ((z.toNat : Nat) : Int) = z
    omega
  rw [List.map_congr_left this]
  exact List.map_id' t
theorem nat_bytes {t : List Int} (h : t.all (fun (z : Int) => VaaclaNeutral.natural z 8) = true) : NeutralIO.bytes t = true := by
  unfold NeutralIO.bytes
  rw [List.all_eq_true]
  intro z hz
  have q := List.all_eq_true.mp h z hz
  unfold VaaclaNeutral.natural at q
  rw [Bool.and_eq_true, decide_eq_true_eq, decide_eq_true_eq] at q
  rw [Bool.and_eq_true, decide_eq_true_eq, decide_eq_true_eq]
  have : (2 : Int) ^ 8 = 256 := by decide
  omega
theorem list_len {l : List Int} {n : Nat} (h : VaaclaNeutral.listOk l n = true) : l.length ≤ n := by
  unfold VaaclaNeutral.listOk at h
  rw [Bool.and_eq_true, decide_eq_true_eq] at h
  exact h.2
theorem raw_is {c : List (List Int)} (h : VaaclaNeutral.asked1 c = true) : ∃ k, VaaclaNeutral.callOf c = some k ∧ PyFlat.put1 c = flatC k ∧ fits k := by
  have e0 : ∀ (x r : List Int), PyFlat.put1 [x, r] = x ++ ((r.length : Int) :: r) := fun x r => by
    show x ++ (((r.length : Int) :: r) ++ []) = _
    rw [List.append_nil]
  have e1 : ∀ (x : List Int), PyFlat.put1 [x] = x := fun x => List.append_nil x
  unfold VaaclaNeutral.asked1 at h
  split at h
  · rename_i t
    rw [Bool.and_eq_true, decide_eq_true_eq] at h
    refine ⟨.load (t.map Int.toNat), ?_, ?_, ?_⟩
    · show (if NeutralIO.bytes t = true then _ else _) = _
      rw [if_pos (nat_bytes h.1)]
    · rw [e0]
      show _ = (0 : Int) :: ([] ++ ((((t.map Int.toNat).map fun (n : Nat) => (n : Int)).length : Int) :: (t.map Int.toNat).map fun (n : Nat) => (n : Int)))
      rw [nat_back h.1]
      rfl
    · show (t.map Int.toNat).length ≤ 100000
      rw [List.length_map]
      omega
  · exact ⟨.shown, rfl, rfl, by show 0 ≤ 1000; omega⟩
  · exact ⟨.told, rfl, rfl, by show 0 ≤ 1000; omega⟩
  · rename_i s
    exact ⟨.run s, rfl, e0 _ _, by have := list_len h; show s.length ≤ 1000; omega⟩
  · rename_i k
    exact ⟨.piece k, rfl, rfl, by show 0 ≤ 1000; omega⟩
  · rename_i k s
    rw [Bool.and_eq_true] at h
    exact ⟨.chosen k s, rfl, e0 _ _, by have := list_len h.2; show s.length ≤ 1000; omega⟩
  · rename_i k b s
    rw [Bool.and_eq_true, Bool.and_eq_true] at h
    exact ⟨.tests k b s, rfl, e0 _ _, by have := list_len h.2.2; show s.length ≤ 1000; omega⟩
  · rename_i s
    exact ⟨.trace s, rfl, e0 _ _, by have := list_len h; show s.length ≤ 1000; omega⟩
  · rename_i n s
    rw [Bool.and_eq_true] at h
    exact ⟨.after n s, rfl, e0 _ _, by have := list_len h.2; show s.length ≤ 1000; omega⟩
  · rename_i s
    exact ⟨.counts s, rfl, e0 _ _, by have := list_len h; show s.length ≤ 1000; omega⟩
  · rename_i a b
    exact ⟨.box a b, rfl, rfl, by show 0 ≤ 1000; omega⟩
  · rename_i l
    exact ⟨.add l, rfl, e0 _ _, by have := list_len h; show l.length ≤ 1000; omega⟩
  · rename_i k
    exact ⟨.drop k, rfl, rfl, by show 0 ≤ 1000; omega⟩
  · cases h
theorem whole_id (c : List (List Int)) : PyVaacla.whole c = c := by
  unfold PyVaacla.whole
  split <;> rfl
/-- what is still to be answered -/
def due (s : Option Prg) (cs : List (List (List Int))) : List Int := PyFlat.told (PyFlat.played VaaclaNeutral.step ⟨s⟩ cs)
theorem due_nil (s : Option Prg) : due s [] = [] := rfl
theorem due_cons {s : Option Prg} {c : List (List Int)} {k : Cll} (cs : List (List (List Int))) (ok : OkS s) (h : VaaclaNeutral.callOf c = some k) : due s (c :: cs) = ((stepA s k).2.length : Int) :: ((stepA s k).2 ++ due (stepA s k).1 cs) := by
  have e : VaaclaNeutral.step ⟨s⟩ c = (⟨(stepA s k).1⟩, (stepA s k).2) := by
    unfold VaaclaNeutral.step
    rw [h]
    dsimp only
    rw [step_is s ok k]
    rfl
  show PyFlat.told ((VaaclaNeutral.step ⟨s⟩ c).2 :: PyFlat.played VaaclaNeutral.step (VaaclaNeutral.step ⟨s⟩ c).1 cs) = _
  rw [e]
  show (((stepA s k).2.length : Int) :: (stepA s k).2) ++ due (stepA s k).1 cs = _
  rfl
/-- a list that may be handed in: calls, laid flat; the answers are short -/
theorem asked_is {ns : List Int} (h : PyVaacla.answers_asked ns = true) : ∃ cs : List (List (List Int)), ns = PyFlat.put cs ∧ (∀ c ∈ cs, VaaclaNeutral.asked1 c = true) ∧ PyVaacla.answers ns = due none cs ∧ (due none cs).length ≤ 10000000 := by
  unfold PyVaacla.answers_asked at h
  cases e : PyFlat.calls PyVaacla.shape ns.length ns with
  | none =>
    rw [e] at h
    cases h
  | some raw =>
    rw [e] at h
    dsimp only at h
    simp only [Bool.and_eq_true] at h
    obtain ⟨⟨⟨⟨_, _⟩, _⟩, ha⟩, hs⟩ := h
    have hm : raw.map PyVaacla.whole = raw := by
      have : (fun c => PyVaacla.whole c) = fun c => c := funext whole_id
      show raw.map (fun c => PyVaacla.whole c) = raw
      rw [this]
      exact List.map_id' raw
    have he : PyVaacla.answers ns = due none raw := by
      unfold PyVaacla.answers PyVaacla.calls
      rw [e]
      show PyFlat.told (PyFlat.played _ _ (raw.map PyVaacla.whole)) = _
      rw [hm]
      rfl
    rw [hm] at ha
    unfold VaaclaNeutral.asked at ha
    rw [Bool.and_eq_true] at ha
    refine ⟨raw, (PyFlat.put_calls _ _ _ e).1, fun c hc => List.all_eq_true.mp ha.1 c hc, he, ?_⟩
    rw [he] at hs
    exact of_decide_eq_true hs
end CL

set_option Elab.async false
set_option linter.all false
set_option maxRecDepth 100000
set_option maxHeartbeats 4000000
namespace CL
open PySem PySem.Spec PyProof.Rows L2
open C8 (Cal Met Mak pe_c pe_mk pe_mt pe_mt0 pe_gc)
open VaaclBase (Values Test Guard Branch Loop Piece okTest)
variable {P : PySem.Program} {w : World} {K : PySem.W.Frag} {mg : Str → Option Value} {base : Heap} {A : Ad}
/-! ## answers: the loop over the calls -/
structure Lp (A : Ad) (H0 G H : Hp) (b D : Addr) (s : Option Prg) (acc : List Int) : Prop where
  box : BoxG A G H b s
  hole : G D = none
  told : H D = some (.lst (iV acc))
  s0 : Same H0 H
  b0 : H0 b = none
  d0 : H0 D = none
  ne : b ≠ D
section
variable {H0 G H G' H' : Hp} {b D : Addr} {s s' : Option Prg} {acc : List Int}
theorem Lp.new {p : Addr} {o : HO} (h : Lp A H0 G H b D s acc) (hp : H p = none) : Lp A H0 (upd G p o) (upd H p o) b D s acc := by
  have hDp := ne_of_none h.told hp
  exact ⟨h.box.new hp, (upd_ne hDp).trans h.hole, (upd_ne hDp).trans h.told, h.s0.trans (Same.new hp), h.b0, h.d0, h.ne⟩
theorem Lp.step (h : Lp A H0 G H b D s acc) (e : Ext (XA b) G H G' H') (B : BoxG A G' H' b s') : Lp A H0 G' H' b D s' acc := by
  refine ⟨B, gone e h.hole h.told, e.keep D _ (fun q => h.ne q.symm) h.told, fun c o q => ?_, h.b0, h.d0, h.ne⟩
  refine e.keep c o (fun z => ?_) (h.s0 c o q)
  have z : c = b := z
  rw [z, h.b0] at q
  cases q
theorem Lp.tell (h : Lp A H0 G H b D s acc) (acc' : List Int) : Lp A H0 G (upd H D (.lst (iV acc'))) b D s acc' := by
  obtain ⟨dx, pv, h1, h2⟩ := h.box.at_
  refine ⟨⟨Same.mut h.box.same h.hole, h.box.hole, ⟨dx, pv, (upd_ne h.ne).trans h1, h2⟩, h.box.ok⟩, h.hole, upd_same, fun c o q => ?_, h.b0, h.d0, h.ne⟩
  rw [upd_ne (ne_of_none q h.d0)]
  exact h.s0 c o q
end
theorem wholes_at (c : Cll) : atI ([.int 0, .int 0, .int 0, .int 0, .int 1, .int 1, .int 2, .int 0, .int 1, .int 0, .int 2, .int 0, .int 1] : List V) (callNum c) = some (.int ((callWs c).length : Int)) := by
  cases c <;> rfl
theorem hasrow_at (c : Cll) : atI ([.bl true, .bl false, .bl false, .bl true, .bl false, .bl true, .bl true, .bl true, .bl true, .bl true, .bl false, .bl true, .bl false] : List V) (callNum c) = some (.bl (hasRow c)) := by
  cases c <;> rfl
theorem norow {c : Cll} (h : hasRow c = false) : callRow c = [] := by
  cases c <;> first | rfl | cases h
theorem put_cons (c : List (List Int)) (cs : List (List (List Int))) : PyFlat.put (c :: cs) = PyFlat.put1 c ++ PyFlat.put cs := rfl
def AnInv (A : Ad) (H0 : Hp) (ns : List Int) (total : List Int) (a b D : Addr) (m : Nat) (σ : L2.St) (H : Hp) : Prop := ∃ (G : Hp) (s : Option Prg) (acc : List Int) (i : Nat) (cs : List (List (List Int))) (x4 x5 x6 x7 x8 : Option V), m = cs.length ∧ σ = [some (.ref a), some (.ref b), some (.ref D), some (.int (i : Int)), x4, x5, x6, x7, x8] ∧
  Lp A H0 G H b D s acc ∧ ns.drop i = PyFlat.put cs ∧ i ≤ ns.length ∧ (∀ c ∈ cs, VaaclaNeutral.asked1 c = true) ∧ total = acc ++ due s cs
def spAnswers (K : PySem.W.Frag) : Sp := fun vs H Q _ => ∃ (a : Addr) (ns : List Int), vs = [.ref a] ∧ SqL K H a (iV ns) ∧ PyVaacla.answers_asked ns = true ∧ ∀ (H' : Hp) (p : Addr), H' p = some (.lst (iV (PyVaacla.answers ns))) → Q (.ref p) H'
theorem flat_cut {k : Cll} {l r : List Int} (h : l = flatC k ++ r) : l[0]? = some (callNum k) ∧ (l.drop 1).take (callWs k).length = callWs k ∧ (hasRow k = true → l[1 + (callWs k).length]? = some ((callRow k).length : Int) ∧ (l.drop (1 + (callWs k).length + 1)).take (callRow k).length = callRow k ∧ l.drop (1 + (callWs k).length + 1 + (callRow k).length) = r ∧ 1 + (callWs k).length + 1 + (callRow k).length ≤ l.length) ∧
    (hasRow k = false → l.drop (1 + (callWs k).length) = r) ∧ 1 + (callWs k).length ≤ l.length := by
  subst h
  unfold flatC
  refine ⟨rfl, ?_, fun hr => ?_, fun hr => ?_, ?_⟩
  · show ((callWs k ++ _) ++ r).take (callWs k).length = _
    rw [List.append_assoc]
    exact List.take_left
  · rw [if_pos hr]
    have e : (callNum k :: (callWs k ++ (((callRow k).length : Int) :: callRow k))) ++ r = (callNum k :: callWs k) ++ (((callRow k).length : Int) :: (callRow k ++ r)) := by
      simp
    rw [e]
    have hl : (callNum k :: callWs k).length = 1 + (callWs k).length := by
      rw [List.length_cons]
      omega
    refine ⟨?_, ?_, ?_, ?_⟩
    · rw [← hl, List.getElem?_append_right (Nat.le_refl _), Nat.sub_self]
      rfl
    · rw [← hl, ← List.drop_drop, List.drop_left]
      show (callRow k ++ r).take _ = _
      exact List.take_left
    · rw [Nat.add_assoc, ← hl, ← List.drop_drop, List.drop_left, Nat.add_comm 1]
      show (callRow k ++ r).drop _ = _
      exact List.drop_left
    · rw [List.length_append, hl, List.length_cons, List.length_append]
      omega
  · rw [hr, if_neg Bool.false_ne_true, List.append_nil, Nat.add_comm]
    show (callWs k ++ r).drop _ = _
    exact List.drop_left
  · simp
    omega
theorem ok_answers (T : Txt K mg A) {f : Addr} {fd : FuncData} (F : Fun K "answers" "answers" s_answers f fd) : FnOk P w K mg base CX0 14 f fd ["calls"] (spAnswers K) :=
  F.ok sc_answers (fun vs H Q E h => by
    obtain ⟨_, _, rfl, _⟩ := h
    rfl) (fun cdv A' outer s H vs Q E hr h => by
    refine ⟨_, (pss_cons (ps_set (i := 1) sc_answers.nd rfl (Or.inl rfl) (pe_mk0 (k_Box T) hr (by decide) (by rfl)))
      (pss_cons (ps_set (i := 2) sc_answers.nd rfl (Or.inl rfl) (pe_lst pa_nil))
      (pss_cons (ps_set (i := 3) sc_answers.nd rfl (Or.inl rfl) pe_int)
      (pss_cons (ps_while PassesOwn.never (pt_cmpR op_lt (pv 3) (pe_callB call_len_seq (by rfl) T.b_len PySem.boot_len (pa_cons (pv 0) pa_nil)) (nomark _)) (pss_cons (ps_set (i := 4) sc_answers.nd rfl (Or.inl rfl) (pe_ix ix_list (pv 0) (pv 3) (fun _ _ => rfl)))
      (pss_cons (ps_set (i := 5) sc_answers.nd rfl (Or.inl rfl) (pe_op op_add (pe_op op_add (pv 3) pe_int) (pe_ix ix_tup (pe_gc (by rfl) T.c_WHOLES) (pv 4) (fun _ _ => rfl))))
      (pss_cons (ps_set (i := 6) sc_answers.nd rfl (Or.inl rfl) (pe_slice sl_list (pv 0) (po_some (pe_op op_add (pv 3) pe_int)) (po_some (pv 5))))
      (pss_cons (ps_set (i := 7) sc_answers.nd rfl (Or.inl rfl) (pe_lst pa_nil))
      (pss_cons (ps_if (pt_val (pe_ix ix_tup (pe_gc (by rfl) T.c_HAS_ROW) (pv 4) (fun _ _ => rfl))) (pss_cons (ps_set (i := 7) sc_answers.nd rfl (Or.inl rfl) (pe_c (c_row_at T) hr (by decide) (by rfl) (pa_cons (pv 0) (pa_cons (pv 5) pa_nil))))
      (pss_one (ps_set (i := 5) sc_answers.nd rfl (Or.inl rfl) (pe_op op_add (pe_op op_add (pv 5) pe_int) (pe_callB call_len_seq (by rfl) T.b_len PySem.boot_len (pa_cons (pv 7) pa_nil)))))) pss_nil)
      (pss_cons (ps_set (i := 8) sc_answers.nd rfl (Or.inl rfl) (pe_c (c_answer T) hr (by decide) (by rfl) (pa_cons (pv 1) (pa_cons (pv 4) (pa_cons (pv 6) (pa_cons (pv 7) pa_nil))))))
      (pss_cons (ps_expr (pe_bm PySem.F.plainAttrs_list PySem.F.slot_list_append PySem.F.type_list_append mt_append (pv 2) (pa_cons (pe_callB call_len_seq (by rfl) T.b_len PySem.boot_len (pa_cons (pv 8) pa_nil)) pa_nil)))
      (pss_cons (ps_expr (pe_bm PySem.F.plainAttrs_list PySem.F.slot_list_extend PySem.F.type_list_extend mt_extend (pv 2) (pa_cons (pv 8) pa_nil)))
      (pss_one (ps_set (i := 3) sc_answers.nd rfl (Or.inl rfl) (pv 5))))))))))))
      (pss_one (ps_ret (pv 2))))))), ?_⟩
    obtain ⟨a, ns, rfl, hS, hask, k⟩ := h
    obtain ⟨cs0, en, hak, ea, hsz⟩ := asked_is hask
    rw [ea] at k
    generalize hT : due none cs0 = total at k hsz
    have hnl : (iV ns).length = ns.length := List.length_map ..
    intro b dxb nb ndb neb
    have sb : Same H (upd (upd H dxb (.own b)) b (.ins A.CB dxb [])) := (Same.new ndb).trans (Same.new ((upd_ne neb.symm).trans nb))
    refine ⟨H, b, dxb, rfl, sb, nb, upd_same, fun G1 H1 e1 B1 => ⟨rfl, ?_⟩⟩
    have s1 : Same H H1 := fun c o q => e1.keep c o (fun z => by
      have z : c = b := z
      rw [z, nb] at q
      cases q) (sb c o q)
    refine ⟨by show 0 ≤ sizeLine; exact Nat.zero_le _, fun D hD => ?_⟩
    obtain ⟨dx1, pv1, hb1, hp1⟩ := id B1.at_
    have gD := B1.same.free hD
    have hbD : b ≠ D := ne_of_none hb1 hD
    have L1 : Lp A H G1 (upd H1 D (.lst (iV []))) b D none [] := by
      refine ⟨⟨Same.mut B1.same gD, B1.hole, ⟨dx1, pv1, (upd_ne hbD).trans hb1, hp1⟩, B1.ok⟩, gD, upd_same, s1.trans (Same.new hD), nb, s1.free hD, hbD⟩
    refine ⟨AnInv A H ns total a b D, ⟨cs0.length, G1, none, [], 0, cs0, _, _, _, _, _, rfl, rfl, L1, en, Nat.zero_le _, hak, hT.symm⟩, ?_⟩
    rintro m σ H2 ⟨G2, st, acc, i, cs, x4, x5, x6, x7, x8, rfl, rfl, L, hd, hi, hak2, et⟩
    have hSq := L.s0.seq hS
    refine ⟨_, rfl, _, rfl, a, _, rfl, .inl hSq, _, _, rfl, rfl, _, rfl, ifD (fun hlt => ?_) (fun hge => ?_)⟩
    · rw [hnl] at hlt
      have hlt : i < ns.length := by omega
      cases cs with
      | nil =>
        have := congrArg List.length hd
        rw [List.length_drop] at this
        have h0 : (PyFlat.put ([] : List (List (List Int)))).length = 0 := rfl
        omega
      | cons c cs =>
        obtain ⟨kc, hk, hput, hfit⟩ := raw_is (hak2 c List.mem_cons_self)
        rw [put_cons, hput] at hd
        obtain ⟨f1, f2, f3, f4, f5⟩ := flat_cut hd
        rw [List.length_drop] at f5
        have hnum : ns[i]? = some (callNum kc) := by
          rw [List.getElem?_drop] at f1
          exact f1
        have hnumV : (iV ns)[i]? = some (.int (callNum kc)) := by
          rw [List.getElem?_map, hnum]
          rfl
        rw [due_cons cs (fun p q => L.box.ok p q) hk] at et
        refine ⟨fun σ' H' => ∃ m', m' < (c :: cs).length ∧ AnInv A H ns total a b D m' σ' H', fun _ _ h => h, ?_⟩
        refine ⟨_, rfl, _, rfl, a, _, _, _, rfl, rfl, hSq, atI_nat hnumV, ?_⟩
        refine ⟨_, rfl, _, _, rfl, rfl, _, rfl, A.aW, _, _, _, rfl, rfl, T.t_WHOLES _, wholes_at kc, _, _, rfl, rfl, ?_⟩
        have eb : (i : Int) + 1 + ((callWs kc).length : Int) = ((i + 1 + (callWs kc).length : Nat) : Int) := by omega
        have ew : cutV (iV ns) (some ((i : Int) + 1)) (some ((i : Int) + 1 + ((callWs kc).length : Int))) = iV (callWs kc) := by
          rw [eb, show (i : Int) + 1 = ((i + 1 : Nat) : Int) by omega, cut_mid (by omega) (by omega), show i + 1 + (callWs kc).length - (i + 1) = (callWs kc).length by omega, ← List.map_drop, ← List.map_take, ← List.drop_drop, f2]
        refine ⟨_, rfl, _, rfl, _, _, rfl, rfl, _, rfl, _, rfl, _, rfl, a, _, rfl, hSq, fun wp hwp => ?_⟩
        rw [ew]
        have L2' := L.new (o := .lst (iV (callWs kc))) hwp
        have hw2 : upd G2 wp (.lst (iV (callWs kc))) wp = some (.lst (iV (callWs kc))) := upd_same
        generalize upd G2 wp (.lst (iV (callWs kc))) = G3 at L2' hw2
        generalize upd H2 wp (.lst (iV (callWs kc))) = H3 at L2' ⊢
        refine ⟨by show 0 ≤ sizeLine; exact Nat.zero_le _, fun rp0 hrp0 => ?_⟩
        have L3 := L2'.new (o := .lst []) hrp0
        have hw3 := Same.new (o := .lst []) (L2'.box.same.free hrp0) _ _ hw2
        have hr3 : upd G3 rp0 (.lst []) rp0 = some (.lst []) := upd_same
        generalize upd G3 rp0 (.lst []) = G4 at L3 hw3 hr3
        generalize upd H3 rp0 (.lst []) = H4 at L3 ⊢
        have hSq4 := L3.s0.seq hS
        have szs : acc.length + (stepA st kc).2.length + 1 ≤ 10000000 := by
          rw [et, List.length_append, List.length_cons, List.length_append] at hsz
          omega
        -- what is told grows, and the next call stands ahead
        have fin : ∀ (G6 H6 : Hp) (r : Addr) (j : Nat) (z : Int) (y4 y5 y6 y7 y8 : Option V), Lp A H G6 H6 b D (stepA st kc).1 acc → ns.drop j = PyFlat.put cs → j ≤ ns.length → z = (j : Int) →
            ∃ m', m' < (c :: cs).length ∧ AnInv A H ns total a b D m' [some (.ref a), some (.ref b), some (.ref D), some (.int z), y4, y5, y6, y7, y8] (upd (upd H6 D (.lst (iV acc ++ [.int ((iV (stepA st kc).2).length : Int)]))) D (.lst (iV acc ++ [.int ((iV (stepA st kc).2).length : Int)] ++ iV (stepA st kc).2))) := fun G6 H6 r j z y4 y5 y6 y7 y8 L6 hj hjl hz => by
          have ev : iV acc ++ [.int ((iV (stepA st kc).2).length : Int)] ++ iV (stepA st kc).2 = iV (acc ++ ((stepA st kc).2.length : Int) :: (stepA st kc).2) := by
            simp
          subst hz
          rw [upd_upd, ev]
          refine ⟨cs.length, by rw [List.length_cons]; omega, G6, (stepA st kc).1, _, j, cs, _, _, _, _, _, rfl, rfl, L6.tell _, hj, hjl, fun c' hc' => hak2 c' (List.mem_cons_of_mem _ hc'), ?_⟩
          rw [et, List.append_assoc]
          rfl
        refine ⟨_, rfl, A.aH, _, _, _, rfl, rfl, T.t_HAS_ROW _, hasrow_at kc, _, rfl, ?_⟩
        cases hR : hasRow kc with
        | true =>
          obtain ⟨g1, g2, g3, g4⟩ := f3 hR
          rw [List.length_drop] at g4
          rw [List.getElem?_drop, ← Nat.add_assoc] at g1
          rw [List.drop_drop] at g2 g3
          have ej : i + (1 + (callWs kc).length + 1) = i + 1 + (callWs kc).length + 1 := by omega
          have ej2 : i + (1 + (callWs kc).length + 1 + (callRow kc).length) = i + 1 + (callWs kc).length + 1 + (callRow kc).length := by omega
          rw [ej] at g2
          rw [ej2] at g3
          refine iteT ⟨_, rfl, _, rfl, a, ns, i + 1 + (callWs kc).length, (callRow kc).length, congrArg (fun z => [V.ref a, V.int z]) eb, hSq4, g1, by omega, fun ra hra => ?_⟩
          rw [g2]
          have L5 := L3.new (o := .lst (iV (callRow kc))) hra
          have hw5 := Same.new (o := .lst (iV (callRow kc))) (L3.box.same.free hra) _ _ hw3
          have hr5 : upd G4 ra (.lst (iV (callRow kc))) ra = some (.lst (iV (callRow kc))) := upd_same
          generalize upd G4 ra (.lst (iV (callRow kc))) = G5 at L5 hw5 hr5
          generalize upd H4 ra (.lst (iV (callRow kc))) = H5 at L5 ⊢
          refine ⟨_, rfl, _, _, rfl, rfl, _, rfl, ra, _, rfl, .inl (SqL.of (L5.box.same _ _ hr5)), _, _, rfl, rfl, ?_⟩
          refine ⟨_, rfl, _, rfl, _, rfl, _, rfl, G5, b, wp, ra, st, kc, rfl, L5.box, hw5, hr5, hfit, fun G6 H6 r e6 B6 nr hr6 => ?_⟩
          have L6 := L5.step e6 B6
          have hDr : D ≠ r := ne_of_none L5.told nr
          refine ⟨_, rfl, .inl ⟨rfl, _, SqL.of L6.told⟩, _, rfl, r, _, rfl, .inl (SqL.of hr6), D, _, _, rfl, rfl, L6.told, by rw [List.length_map, sizeLine_eq]; omega, ?_⟩
          refine ⟨_, rfl, .inl ⟨rfl, _, SqL.of upd_same⟩, _, rfl, D, r, _, _, rfl, rfl, upd_same, (upd_ne hDr.symm).trans hr6, by rw [List.length_append, List.length_singleton, List.length_map, List.length_map, sizeLine_eq]; omega, ?_⟩
          refine ⟨_, rfl, ?_⟩
          exact fin G6 H6 r _ _ _ _ _ _ _ L6 g3 (by omega) (by rw [List.length_map]; omega)
        | false =>
          have hcr := norow hR
          have g3 := f4 hR
          rw [List.drop_drop, ← Nat.add_assoc] at g3
          have hr3 : G4 rp0 = some (.lst (iV (callRow kc))) := by
            rw [hcr]
            exact hr3
          refine iteF ⟨_, rfl, _, rfl, _, rfl, _, rfl, G4, b, wp, rp0, st, kc, rfl, L3.box, hw3, hr3, hfit, fun G6 H6 r e6 B6 nr hr6 => ?_⟩
          have L6 := L3.step e6 B6
          have hDr : D ≠ r := ne_of_none L3.told nr
          refine ⟨_, rfl, .inl ⟨rfl, _, SqL.of L6.told⟩, _, rfl, r, _, rfl, .inl (SqL.of hr6), D, _, _, rfl, rfl, L6.told, by rw [List.length_map, sizeLine_eq]; omega, ?_⟩
          refine ⟨_, rfl, .inl ⟨rfl, _, SqL.of upd_same⟩, _, rfl, D, r, _, _, rfl, rfl, upd_same, (upd_ne hDr.symm).trans hr6, by rw [List.length_append, List.length_singleton, List.length_map, List.length_map, sizeLine_eq]; omega, ?_⟩
          refine ⟨_, rfl, ?_⟩
          exact fin G6 H6 r _ _ _ _ _ _ _ L6 g3 (by omega) eb
    · rw [hnl] at hge
      have hge : ¬ i < ns.length := by omega
      cases cs with
      | cons c cs =>
        obtain ⟨kc, hk, hput, hfit⟩ := raw_is (hak2 c List.mem_cons_self)
        rw [put_cons, hput] at hd
        obtain ⟨f1, f2, f3, f4, f5⟩ := flat_cut hd
        rw [List.length_drop] at f5
        omega
      | nil =>
        refine ⟨_, rfl, k H2 D ?_⟩
        rw [L.told, et, due_nil, List.append_nil])
end CL

set_option Elab.async false
set_option linter.all false
set_option maxRecDepth 100000
set_option maxHeartbeats 4000000
/-! ## The end: what the top has written -/
namespace CL
open PySem PySem.Spec PyProof.Rows L2
section
variable {P : PySem.Program} {w : World} {K : PySem.W.Frag} {h : Heap} {mg : Str → Option Value} {C : Addr} {x m qual : Str} {st : Stmt} {f : Addr} {oc kV doc pm cdv ct : Value} {od an : Option Addr} {osl : Array (Option Value)}
theorem def_of (X : K.In h) (G : h.Ns mainGlobals mg) (a : PySem.W.nsIn K mainGlobals x = some (some (.ref f))) (l : K.lookup f = some ⟨oc, od, .func (PySem.W.fnOf x x (defArgs st) (defBody st) (defScope st) .none kV doc pm an cdv ct), osl⟩)
    (c : PySem.W.codeIn K cdv x = true) (k : PySem.W.keepIn K (.ref f) = true) : DefT K mg x st := ⟨f, _, PySem.W.mg_of X G a, fun_mk l c k⟩
theorem met_of (a : PySem.W.findIn K (.ref C) m = some (some (.ref f))) (i : PySem.W.isFn K (.ref f) = true) (l : K.lookup f = some ⟨oc, od, .func (PySem.W.fnOf m qual (defArgs st) (defBody st) (defScope st) .none kV doc pm an cdv ct), osl⟩)
    (c : PySem.W.codeIn K cdv qual = true) (k : PySem.W.keepIn K (.ref f) = true) : MetT K C m qual st := ⟨f, _, ⟨a, i, k⟩, fun_mk l c k⟩
theorem ini_of (X : K.In h) (G : h.Ns mainGlobals mg) (aC : PySem.W.nsIn K mainGlobals x = some (some (.ref C))) (mk : PySem.W.makesIn K C = true) (kc : PySem.W.keepIn K (.ref C) = true) (a : PySem.W.findIn K (.ref C) "__init__" = some (some (.ref f))) (i : PySem.W.isFn K (.ref f) = true) (l : K.lookup f = some ⟨oc, od, .func (PySem.W.fnOf "__init__" qual (defArgs st) (defBody st) (defScope st) .none kV doc pm an cdv ct), osl⟩)
    (c : PySem.W.codeIn K cdv qual = true) (k : PySem.W.keepIn K (.ref f) = true) : IniT K mg x C qual st := ⟨PySem.W.mg_of X G aC, f, _, ⟨mk, a, i, kc⟩, fun_mk l c k⟩
theorem no_of (a : PySem.W.findIn K (.ref C) x = some none) : NoAttr K C x := a
theorem int_of {i : Int} {t : PySem.Tok} (X : K.In h) (G : h.Ns mainGlobals mg) (a : PySem.W.nsIn K mainGlobals x = some (some (.int i t))) : ∃ u, mg x = some u ∧ RelV (.int i) u := ⟨_, PySem.W.mg_of X G a, t, rfl⟩
theorem str_of {z : Str} {t : PySem.Tok} (X : K.In h) (G : h.Ns mainGlobals mg) (a : PySem.W.nsIn K mainGlobals x = some (some (.str z t))) : ∃ u, mg x = some u ∧ RelV (.str z) u := ⟨_, PySem.W.mg_of X G a, t, rfl⟩
theorem ref_of (X : K.In h) (G : h.Ns mainGlobals mg) (a : PySem.W.nsIn K mainGlobals x = some (some (.ref f))) : ∃ u, mg x = some u ∧ RelV (.ref f) u := ⟨_, PySem.W.mg_of X G a, rfl⟩
theorem whl_of {n : Nat} {t0 t1 t2 t3 t4 t5 t6 t7 t8 t9 t10 t11 t12 : PySem.Tok} (l : K.lookup f = some ⟨.type "tuple", od, .seq #[.int 0 t0, .int 0 t1, .int 0 t2, .int 0 t3, .int 1 t4, .int 1 t5, .int 2 t6, .int 0 t7, .int 1 t8, .int 0 t9, .int 2 t10, .int 0 t11, .int 1 t12] n, osl⟩) :
    ∀ H : Hp, SqT K H f [.int 0, .int 0, .int 0, .int 0, .int 1, .int 1, .int 2, .int 0, .int 1, .int 0, .int 2, .int 0, .int 1] := fun H => .inr ⟨_, _, _, l, rfl, rfl, by show 13 ≤ sizeLine; exact small (by decide),
      .cons ⟨_, rfl⟩ (.cons ⟨_, rfl⟩ (.cons ⟨_, rfl⟩ (.cons ⟨_, rfl⟩ (.cons ⟨_, rfl⟩ (.cons ⟨_, rfl⟩ (.cons ⟨_, rfl⟩ (.cons ⟨_, rfl⟩ (.cons ⟨_, rfl⟩ (.cons ⟨_, rfl⟩ (.cons ⟨_, rfl⟩ (.cons ⟨_, rfl⟩ (.cons ⟨_, rfl⟩ .nil))))))))))))⟩
theorem row_of {n : Nat} (l : K.lookup f = some ⟨.type "tuple", od, .seq #[.bool true, .bool false, .bool false, .bool true, .bool false, .bool true, .bool true, .bool true, .bool true, .bool true, .bool false, .bool true, .bool false] n, osl⟩) :
    ∀ H : Hp, SqT K H f [.bl true, .bl false, .bl false, .bl true, .bl false, .bl true, .bl true, .bl true, .bl true, .bl true, .bl false, .bl true, .bl false] := fun H => .inr ⟨_, _, _, l, rfl, rfl, by show 13 ≤ sizeLine; exact small (by decide),
      .cons rfl (.cons rfl (.cons rfl (.cons rfl (.cons rfl (.cons rfl (.cons rfl (.cons rfl (.cons rfl (.cons rfl (.cons rfl (.cons rfl (.cons rfl .nil))))))))))))⟩
/-- an error of the class at S is what «except S» names -/
theorem exm_self {S : Addr} (h1 : PySem.W.subIn K (.ref S) (.type "BaseException") = some true) (h2 : PySem.W.isClsIn K S = true) (h3 : PySem.W.typeIn K (.ref S) = some (.type "type")) (h4 : PySem.W.subIn K (.ref S) (.ref S) = some true) :
    PySem.W.exmOne K (.ref S) (.ref S) = some true := by
  have e1 : (PySem.W.subIn K (.ref S) (.type "BaseException") == some true) = true := by rw [h1] <;> rfl
  have e2 : ((PySem.W.clsIn K S).isSome && PySem.W.typeIn K (.ref S) == some (.type "type")) = true := by
    have h2' : (PySem.W.clsIn K S).isSome = true := h2
    rw [h2', h3] <;> rfl
  show (if (PySem.W.subIn K (.ref S) (.type "BaseException") == some true) = true then (if ((PySem.W.clsIn K S).isSome && PySem.W.typeIn K (.ref S) == some (.type "type")) = true then PySem.W.subIn K (.ref S) (.ref S) else none) else none) = some true
  rw [if_pos e1, if_pos e2]
  exact h4
theorem fault_of {fI : Addr} {nm q : Str} {N : Addr} {bs : List Value} {sn : List Str} {sub : List Value} {ab : Bool} {col : Option Bool} {dd : Option Addr} {m0 m1 m2 m3 m5 : Option Value} (X : K.In h) (G : h.Ns mainGlobals mg) (aC : PySem.W.nsIn K mainGlobals "Fault" = some (some (.ref C)))
    (xL : K.lookup C = some (excClassObj nm q C N bs [.type "Exception", .type "BaseException", .type "object"] true sn sub ab col dd m0 m1 m2 m3 m5 "Exception.__new__"))
    (sa : PySem.W.findIn K (.ref C) "__setattr__" = some (some (.builtin "object.__setattr__"))) (ga : PySem.W.findIn K (.ref C) "__getattribute__" = some (some (.builtin "BaseException.__getattribute__"))) (gg : PySem.W.findIn K (.ref C) "__getattr__" = some none) (nk : PySem.W.findIn K (.ref C) "kind" = some none) (np : PySem.W.findIn K (.ref C) "place" = some none)
    (a1 : PySem.W.findIn K (.ref C) "__init__" = some (some (.ref fI))) (t1 : PySem.W.typeIn K (.ref fI) = some (.type "function")) (l1 : K.lookup fI = some ⟨oc, od, .func (PySem.W.fnOf "__init__" "Fault.__init__" (defArgs sFault) (defBody sFault) (defScope sFault) .none kV doc pm an cdv ct), osl⟩) (c1 : PySem.W.codeIn K cdv "Fault.__init__" = true)
    (kC : PySem.W.keepIn K (.ref C) = true) (eC : PySem.W.subIn K (.ref C) (.type "BaseException") = some true) (tC : PySem.W.typeIn K (.ref C) = some (.type "type")) (hC : PySem.W.hasDictIn K C = true) (iC : PySem.W.isClsIn K C = true) (sC : PySem.W.subIn K (.ref C) (.ref C) = some true) : FaultTxt K mg C fI :=
  { gC := PySem.W.mg_of X G aC, cls := ⟨nm, q, N, bs, sn, sub, ab, col, dd, m0, m1, m2, m3, m5, xL⟩, sa := sa, noK := nk, noP := np, iC := a1, tC := t1, kC := kC, tyC := tC, te := exm_self eC iC tC sC, xf := ⟨ga, gg, eC, hC⟩, fn := ⟨_, _, _, _, _, _, _, _, _, l1, c1⟩ }
theorem end_of {CN CR CB CF CP fF aW aH fa : Addr} (X : K.In h) (G : h.Ns mainGlobals mg) (hfa : mg "answers" = some (.ref fa)) (aN : PySem.W.nsIn K mainGlobals "Numbers" = some (some (.ref CN))) (aR : PySem.W.nsIn K mainGlobals "Reader" = some (some (.ref CR))) (aB : PySem.W.nsIn K mainGlobals "Box" = some (some (.ref CB)))
    (aF : PySem.W.nsIn K mainGlobals "Fault" = some (some (.ref CF))) (aP : PySem.W.nsIn K mainGlobals "NotAPiece" = some (some (.ref CP))) (aI : PySem.W.findIn K (.ref CF) "__init__" = some (some (.ref fF))) (aWh : PySem.W.nsIn K mainGlobals "WHOLES" = some (some (.ref aW))) (aHr : PySem.W.nsIn K mainGlobals "HAS_ROW" = some (some (.ref aH))) (T : Txt K mg ⟨CN, CR, CB, CF, CP, fF, aW, aH⟩)
    (a : PySem.W.nsIn K mainGlobals "answers" = some (some (.ref f))) (l : K.lookup f = some ⟨oc, od, .func (PySem.W.fnOf "answers" "answers" (defArgs s_answers) (defBody s_answers) (defScope s_answers) .none kV doc pm an cdv ct), osl⟩) (c : PySem.W.codeIn K cdv "answers" = true) (k : PySem.W.keepIn K (.ref f) = true) :
    ∃ fd : FuncData, (∀ (s : Shared) (us : List Value), us.length = (["calls"] : List Str).length → BindsTo s fd ⟨us, []⟩ ((["calls"] : List Str).zip us)) ∧ ∀ base : Heap, K.In base → base.Ns mainGlobals mg → FnOk P w K mg base CX0 14 fa fd ["calls"] (spAnswers K) := by
  have e := hfa.symm.trans (PySem.W.mg_of X G a)
  cases e
  exact ⟨PySem.W.fnOf "answers" "answers" (defArgs s_answers) (defBody s_answers) (defScope s_answers) .none kV doc pm an cdv ct, fun s us hu => match us, hu with | [_], _ => .of_eq rfl, fun base _ _ => ok_answers T (fun_mk l c k)⟩
end
end CL

open PySem PySem.W PyProof.Rows
set_option maxRecDepth 100000 in
set_option maxHeartbeats 0 in
theorem PySem.Challenge.cw_counterloops_s01_answers_holds : PySem.Challenge.rw_counterloops_s01_answers.Holds := by
  w_on; k_headS; (case hw => exact ⟨[.list [.int 1]], by decide +kernel, by decide +kernel⟩)
  k_fillS
  refine L2.walk_specK (r := PySem.Challenge.rw_counterloops_s01_answers) (k := 14) (CX := L2.CX0) (ps := ["calls"]) (sp := CL.spAnswers) (by decide +kernel) rfl rfl ⟨rfl, by decide, by decide⟩ (fun w h Y => PySem.W.kIn_of Y) ?F ?S (fun _ _ _ _ z => z)
  case F =>
    intro w mg fa h Y KX G hmg
    refine' CL.end_of KX G hmg ?y1 ?y2 ?y3 ?y4 ?y5 ?y6 ?y7 ?y8 ?T ?za ?zl ?zc ?zk
    (case y1 => k_is); (case y2 => k_is); (case y3 => k_is); (case y4 => k_is); (case y5 => k_is); (case y6 => k_is); (case y7 => k_is); (case y8 => k_is)
    (case za => k_is); (case zl => k_is); (case zc => k_is); (case zk => k_is)
    case T =>
      refine' CL.Txt.mk ?f_fault ?f_xP ?f_gP ?f_kP ?f_bP ?f_tP ?f_eP ?f_clN ?f_clR ?f_clB ?f_aN_numbers ?f_aN_at ?f_aN_counters ?f_aR_tokens ?f_aR_at ?f_aR_counters ?f_aB_counters ?f_aB_pieces ?f_b_len ?f_b_range ?f_b_max ?f_b_ord ?f_b_enumerate ?f_c_LETTERS ?f_c_LONGEST_NAME ?f_c_LONGEST_NUMBER ?f_c_COUNTERS ?f_c_MOST_COUNTERS ?f_c_MOST_PIECES ?f_c_MOST_BRANCHES ?f_c_MOST_TESTS ?f_c_MOST_GIVEN ?f_c_MOST_TESTED ?f_c_BEYOND ?f_c_NAMES ?f_c_LONGEST_TEXT ?f_c_MOST_HELD ?f_c_FURTHEST_START ?f_c_MOST_ROUNDS ?f_c_MOST_TRACED ?f_c_MOST_IN_BOX ?f_c_WHOLES ?f_t_WHOLES ?f_c_HAS_ROW ?f_t_HAS_ROW ?f_d_move_told ?f_d_test_told ?f_d_branch_told ?f_d_piece_told ?f_d_program_told ?f_i_Numbers ?f_m_Numbers_take ?f_m_Numbers_given ?f_m_Numbers_move ?f_m_Numbers_test ?f_m_Numbers_branch ?f_m_Numbers_piece ?f_d_piece_of ?f_d_is_blank ?f_d_is_letter ?f_d_is_digit ?f_d_sign_of ?f_d_letters_end ?f_d_digits_end ?f_d_name_end ?f_d_number_end ?f_d_token_end ?f_d_word_between ?f_d_number_between ?f_d_token_between ?f_d_tokens_of ?f_i_Reader ?f_m_Reader_here ?f_m_Reader_is_word ?f_m_Reader_is_number ?f_m_Reader_is_end ?f_m_Reader_skip ?f_m_Reader_number ?f_m_Reader_modulus ?f_m_Reader_counter_here ?f_m_Reader_counter ?f_m_Reader_whole ?f_m_Reader_bound ?f_m_Reader_test ?f_m_Reader_tests ?f_m_Reader_give ?f_m_Reader_move ?f_m_Reader_branch ?f_m_Reader_loop ?f_m_Reader_piece ?f_m_Reader_program ?f_d_holds ?f_d_all_hold ?f_d_chosen ?f_d_value_given ?f_d_moved ?f_d_is_beyond ?f_d_move_run ?f_d_loop_run ?f_d_piece_run ?f_d_run ?f_d_whole_shown ?f_d_sum_shown ?f_d_bound_shown ?f_d_move_shown ?f_d_test_shown ?f_d_tests_shown ?f_d_piece_lines ?f_d_program_shown ?f_i_Box ?f_d_may_begin ?f_d_load ?f_d_show ?f_d_tell ?f_d_tell_piece ?f_d_choose ?f_d_try_tests ?f_d_add_piece ?f_d_drop_piece ?f_d_run_told ?f_d_trace ?f_d_after ?f_d_counts ?f_d_many_values ?f_d_longer_by_one ?f_d_all_values ?f_d_box_told ?f_d_answer_of_piece ?f_d_answer_of_run ?f_d_answer ?f_d_row_at ?f_d_answers
      case f_i_Numbers => ((try dsimp only); refine' CL.ini_of KX G ?aC_0 ?mk_0 ?kc_0 ?a_0 ?i_0 ?l_0 ?c_0 ?k_0; (case aC_0 => k_is); (case mk_0 => k_is); (case kc_0 => k_is); (case a_0 => k_is); (case i_0 => k_is); (case l_0 => k_is); (case c_0 => k_is); (case k_0 => k_is))
      case f_i_Reader => ((try dsimp only); refine' CL.ini_of KX G ?aC_1 ?mk_1 ?kc_1 ?a_1 ?i_1 ?l_1 ?c_1 ?k_1; (case aC_1 => k_is); (case mk_1 => k_is); (case kc_1 => k_is); (case a_1 => k_is); (case i_1 => k_is); (case l_1 => k_is); (case c_1 => k_is); (case k_1 => k_is))
      case f_i_Box => ((try dsimp only); refine' CL.ini_of KX G ?aC_2 ?mk_2 ?kc_2 ?a_2 ?i_2 ?l_2 ?c_2 ?k_2; (case aC_2 => k_is); (case mk_2 => k_is); (case kc_2 => k_is); (case a_2 => k_is); (case i_2 => k_is); (case l_2 => k_is); (case c_2 => k_is); (case k_2 => k_is))
      case f_fault => ((try dsimp only); refine' CL.fault_of KX G ?aC_3 ?xL_3 ?sa_3 ?ga_3 ?gg_3 ?nk_3 ?np_3 ?a1_3 ?t1_3 ?l1_3 ?c1_3 ?kC_3 ?eC_3 ?tC_3 ?hC_3 ?iC_3 ?sC_3; (case aC_3 => k_is); (case xL_3 => k_is); (case sa_3 => k_is); (case ga_3 => k_is); (case gg_3 => k_is); (case nk_3 => k_is); (case np_3 => k_is); (case a1_3 => k_is); (case t1_3 => k_is); (case l1_3 => k_is); (case c1_3 => k_is); (case kC_3 => k_is); (case eC_3 => k_is); (case tC_3 => k_is); (case hC_3 => k_is); (case iC_3 => k_is); (case sC_3 => first | rfl | k_is))
      case f_gP => ((try dsimp only); refine' PySem.W.mg_of KX G ?a_4; (case a_4 => k_is))
      case f_c_WHOLES => ((try dsimp only); refine' CL.ref_of KX G ?a_5; (case a_5 => k_is))
      case f_c_HAS_ROW => ((try dsimp only); refine' CL.ref_of KX G ?a_6; (case a_6 => k_is))
      case f_xP => ((try dsimp only); k_exc)
      case f_kP => ((try dsimp only); k_is)
      case f_bP => ((try dsimp only); k_is)
      case f_tP => ((try dsimp only); k_is)
      case f_eP => ((try dsimp only); refine' CL.exm_self ?e1_11 ?e2_11 ?e3_11 ?e4_11; (case e1_11 => k_is); (case e2_11 => k_is); (case e3_11 => k_is); (case e4_11 => first | rfl | k_is))
      case f_clN => ((try dsimp only); refine' ⟨?pg_12, ?hd_12, ?po_12, ?sa_12⟩; (case pg_12 => k_is); (case hd_12 => k_is); (case po_12 => k_is); (case sa_12 => k_is))
      case f_clR => ((try dsimp only); refine' ⟨?pg_13, ?hd_13, ?po_13, ?sa_13⟩; (case pg_13 => k_is); (case hd_13 => k_is); (case po_13 => k_is); (case sa_13 => k_is))
      case f_clB => ((try dsimp only); refine' ⟨?pg_14, ?hd_14, ?po_14, ?sa_14⟩; (case pg_14 => k_is); (case hd_14 => k_is); (case po_14 => k_is); (case sa_14 => k_is))
      case f_aN_numbers => ((try dsimp only); refine' CL.no_of ?a_15; (case a_15 => k_is))
      case f_aN_at => ((try dsimp only); refine' CL.no_of ?a_16; (case a_16 => k_is))
      case f_aN_counters => ((try dsimp only); refine' CL.no_of ?a_17; (case a_17 => k_is))
      case f_aR_tokens => ((try dsimp only); refine' CL.no_of ?a_18; (case a_18 => k_is))
      case f_aR_at => ((try dsimp only); refine' CL.no_of ?a_19; (case a_19 => k_is))
      case f_aR_counters => ((try dsimp only); refine' CL.no_of ?a_20; (case a_20 => k_is))
      case f_aB_counters => ((try dsimp only); refine' CL.no_of ?a_21; (case a_21 => k_is))
      case f_aB_pieces => ((try dsimp only); refine' CL.no_of ?a_22; (case a_22 => k_is))
      case f_b_len => ((try dsimp only); refine' PySem.W.mg_none_of KX G ?a_23; (case a_23 => k_is))
      case f_b_range => ((try dsimp only); refine' PySem.W.mg_none_of KX G ?a_24; (case a_24 => k_is))
      case f_b_max => ((try dsimp only); refine' PySem.W.mg_none_of KX G ?a_25; (case a_25 => k_is))
      case f_b_ord => ((try dsimp only); refine' PySem.W.mg_none_of KX G ?a_26; (case a_26 => k_is))
      case f_b_enumerate => ((try dsimp only); refine' PySem.W.mg_none_of KX G ?a_27; (case a_27 => k_is))
      case f_c_LETTERS => ((try dsimp only); refine' CL.str_of KX G ?a_28; (case a_28 => k_is))
      case f_c_LONGEST_NAME => ((try dsimp only); refine' CL.int_of KX G ?a_29; (case a_29 => k_is))
      case f_c_LONGEST_NUMBER => ((try dsimp only); refine' CL.int_of KX G ?a_30; (case a_30 => k_is))
      case f_c_COUNTERS => ((try dsimp only); refine' CL.str_of KX G ?a_31; (case a_31 => k_is))
      case f_c_MOST_COUNTERS => ((try dsimp only); refine' CL.int_of KX G ?a_32; (case a_32 => k_is))
      case f_c_MOST_PIECES => ((try dsimp only); refine' CL.int_of KX G ?a_33; (case a_33 => k_is))
      case f_c_MOST_BRANCHES => ((try dsimp only); refine' CL.int_of KX G ?a_34; (case a_34 => k_is))
      case f_c_MOST_TESTS => ((try dsimp only); refine' CL.int_of KX G ?a_35; (case a_35 => k_is))
      case f_c_MOST_GIVEN => ((try dsimp only); refine' CL.int_of KX G ?a_36; (case a_36 => k_is))
      case f_c_MOST_TESTED => ((try dsimp only); refine' CL.int_of KX G ?a_37; (case a_37 => k_is))
      case f_c_BEYOND => ((try dsimp only); refine' CL.int_of KX G ?a_38; (case a_38 => k_is))
      case f_c_NAMES => ((try dsimp only); refine' CL.str_of KX G ?a_39; (case a_39 => k_is))
      case f_c_LONGEST_TEXT => ((try dsimp only); refine' CL.int_of KX G ?a_40; (case a_40 => k_is))
      case f_c_MOST_HELD => ((try dsimp only); refine' CL.int_of KX G ?a_41; (case a_41 => k_is))
      case f_c_FURTHEST_START => ((try dsimp only); refine' CL.int_of KX G ?a_42; (case a_42 => k_is))
      case f_c_MOST_ROUNDS => ((try dsimp only); refine' CL.int_of KX G ?a_43; (case a_43 => k_is))
      case f_c_MOST_TRACED => ((try dsimp only); refine' CL.int_of KX G ?a_44; (case a_44 => k_is))
      case f_c_MOST_IN_BOX => ((try dsimp only); refine' CL.int_of KX G ?a_45; (case a_45 => k_is))
      case f_t_WHOLES => ((try dsimp only); refine' CL.whl_of ?l_46; (case l_46 => k_is))
      case f_t_HAS_ROW => ((try dsimp only); refine' CL.row_of ?l_47; (case l_47 => k_is))
      case f_d_move_told => ((try dsimp only); refine' CL.def_of KX G ?a_48 ?l_48 ?c_48 ?k_48; (case a_48 => k_is); (case l_48 => k_is); (case c_48 => k_is); (case k_48 => k_is))
      case f_d_test_told => ((try dsimp only); refine' CL.def_of KX G ?a_49 ?l_49 ?c_49 ?k_49; (case a_49 => k_is); (case l_49 => k_is); (case c_49 => k_is); (case k_49 => k_is))
      case f_d_branch_told => ((try dsimp only); refine' CL.def_of KX G ?a_50 ?l_50 ?c_50 ?k_50; (case a_50 => k_is); (case l_50 => k_is); (case c_50 => k_is); (case k_50 => k_is))
      case f_d_piece_told => ((try dsimp only); refine' CL.def_of KX G ?a_51 ?l_51 ?c_51 ?k_51; (case a_51 => k_is); (case l_51 => k_is); (case c_51 => k_is); (case k_51 => k_is))
      case f_d_program_told => ((try dsimp only); refine' CL.def_of KX G ?a_52 ?l_52 ?c_52 ?k_52; (case a_52 => k_is); (case l_52 => k_is); (case c_52 => k_is); (case k_52 => k_is))
      case f_m_Numbers_take => ((try dsimp only); refine' CL.met_of ?a_53 ?i_53 ?l_53 ?c_53 ?k_53; (case a_53 => k_is); (case i_53 => k_is); (case l_53 => k_is); (case c_53 => k_is); (case k_53 => k_is))
      case f_m_Numbers_given => ((try dsimp only); refine' CL.met_of ?a_54 ?i_54 ?l_54 ?c_54 ?k_54; (case a_54 => k_is); (case i_54 => k_is); (case l_54 => k_is); (case c_54 => k_is); (case k_54 => k_is))
      case f_m_Numbers_move => ((try dsimp only); refine' CL.met_of ?a_55 ?i_55 ?l_55 ?c_55 ?k_55; (case a_55 => k_is); (case i_55 => k_is); (case l_55 => k_is); (case c_55 => k_is); (case k_55 => k_is))
      case f_m_Numbers_test => ((try dsimp only); refine' CL.met_of ?a_56 ?i_56 ?l_56 ?c_56 ?k_56; (case a_56 => k_is); (case i_56 => k_is); (case l_56 => k_is); (case c_56 => k_is); (case k_56 => k_is))
      case f_m_Numbers_branch => ((try dsimp only); refine' CL.met_of ?a_57 ?i_57 ?l_57 ?c_57 ?k_57; (case a_57 => k_is); (case i_57 => k_is); (case l_57 => k_is); (case c_57 => k_is); (case k_57 => k_is))
      case f_m_Numbers_piece => ((try dsimp only); refine' CL.met_of ?a_58 ?i_58 ?l_58 ?c_58 ?k_58; (case a_58 => k_is); (case i_58 => k_is); (case l_58 => k_is); (case c_58 => k_is); (case k_58 => k_is))
      case f_d_piece_of => ((try dsimp only); refine' CL.def_of KX G ?a_59 ?l_59 ?c_59 ?k_59; (case a_59 => k_is); (case l_59 => k_is); (case c_59 => k_is); (case k_59 => k_is))
      case f_d_is_blank => ((try dsimp only); refine' CL.def_of KX G ?a_60 ?l_60 ?c_60 ?k_60; (case a_60 => k_is); (case l_60 => k_is); (case c_60 => k_is); (case k_60 => k_is))
      case f_d_is_letter => ((try dsimp only); refine' CL.def_of KX G ?a_61 ?l_61 ?c_61 ?k_61; (case a_61 => k_is); (case l_61 => k_is); (case c_61 => k_is); (case k_61 => k_is))
      case f_d_is_digit => ((try dsimp only); refine' CL.def_of KX G ?a_62 ?l_62 ?c_62 ?k_62; (case a_62 => k_is); (case l_62 => k_is); (case c_62 => k_is); (case k_62 => k_is))
      case f_d_sign_of => ((try dsimp only); refine' CL.def_of KX G ?a_63 ?l_63 ?c_63 ?k_63; (case a_63 => k_is); (case l_63 => k_is); (case c_63 => k_is); (case k_63 => k_is))
      case f_d_letters_end => ((try dsimp only); refine' CL.def_of KX G ?a_64 ?l_64 ?c_64 ?k_64; (case a_64 => k_is); (case l_64 => k_is); (case c_64 => k_is); (case k_64 => k_is))
      case f_d_digits_end => ((try dsimp only); refine' CL.def_of KX G ?a_65 ?l_65 ?c_65 ?k_65; (case a_65 => k_is); (case l_65 => k_is); (case c_65 => k_is); (case k_65 => k_is))
      case f_d_name_end => ((try dsimp only); refine' CL.def_of KX G ?a_66 ?l_66 ?c_66 ?k_66; (case a_66 => k_is); (case l_66 => k_is); (case c_66 => k_is); (case k_66 => k_is))
      case f_d_number_end => ((try dsimp only); refine' CL.def_of KX G ?a_67 ?l_67 ?c_67 ?k_67; (case a_67 => k_is); (case l_67 => k_is); (case c_67 => k_is); (case k_67 => k_is))
      case f_d_token_end => ((try dsimp only); refine' CL.def_of KX G ?a_68 ?l_68 ?c_68 ?k_68; (case a_68 => k_is); (case l_68 => k_is); (case c_68 => k_is); (case k_68 => k_is))
      case f_d_word_between => ((try dsimp only); refine' CL.def_of KX G ?a_69 ?l_69 ?c_69 ?k_69; (case a_69 => k_is); (case l_69 => k_is); (case c_69 => k_is); (case k_69 => k_is))
      case f_d_number_between => ((try dsimp only); refine' CL.def_of KX G ?a_70 ?l_70 ?c_70 ?k_70; (case a_70 => k_is); (case l_70 => k_is); (case c_70 => k_is); (case k_70 => k_is))
      case f_d_token_between => ((try dsimp only); refine' CL.def_of KX G ?a_71 ?l_71 ?c_71 ?k_71; (case a_71 => k_is); (case l_71 => k_is); (case c_71 => k_is); (case k_71 => k_is))
      case f_d_tokens_of => ((try dsimp only); refine' CL.def_of KX G ?a_72 ?l_72 ?c_72 ?k_72; (case a_72 => k_is); (case l_72 => k_is); (case c_72 => k_is); (case k_72 => k_is))
      case f_m_Reader_here => ((try dsimp only); refine' CL.met_of ?a_73 ?i_73 ?l_73 ?c_73 ?k_73; (case a_73 => k_is); (case i_73 => k_is); (case l_73 => k_is); (case c_73 => k_is); (case k_73 => k_is))
      case f_m_Reader_is_word => ((try dsimp only); refine' CL.met_of ?a_74 ?i_74 ?l_74 ?c_74 ?k_74; (case a_74 => k_is); (case i_74 => k_is); (case l_74 => k_is); (case c_74 => k_is); (case k_74 => k_is))
      case f_m_Reader_is_number => ((try dsimp only); refine' CL.met_of ?a_75 ?i_75 ?l_75 ?c_75 ?k_75; (case a_75 => k_is); (case i_75 => k_is); (case l_75 => k_is); (case c_75 => k_is); (case k_75 => k_is))
      case f_m_Reader_is_end => ((try dsimp only); refine' CL.met_of ?a_76 ?i_76 ?l_76 ?c_76 ?k_76; (case a_76 => k_is); (case i_76 => k_is); (case l_76 => k_is); (case c_76 => k_is); (case k_76 => k_is))
      case f_m_Reader_skip => ((try dsimp only); refine' CL.met_of ?a_77 ?i_77 ?l_77 ?c_77 ?k_77; (case a_77 => k_is); (case i_77 => k_is); (case l_77 => k_is); (case c_77 => k_is); (case k_77 => k_is))
      case f_m_Reader_number => ((try dsimp only); refine' CL.met_of ?a_78 ?i_78 ?l_78 ?c_78 ?k_78; (case a_78 => k_is); (case i_78 => k_is); (case l_78 => k_is); (case c_78 => k_is); (case k_78 => k_is))
      case f_m_Reader_modulus => ((try dsimp only); refine' CL.met_of ?a_79 ?i_79 ?l_79 ?c_79 ?k_79; (case a_79 => k_is); (case i_79 => k_is); (case l_79 => k_is); (case c_79 => k_is); (case k_79 => k_is))
      case f_m_Reader_counter_here => ((try dsimp only); refine' CL.met_of ?a_80 ?i_80 ?l_80 ?c_80 ?k_80; (case a_80 => k_is); (case i_80 => k_is); (case l_80 => k_is); (case c_80 => k_is); (case k_80 => k_is))
      case f_m_Reader_counter => ((try dsimp only); refine' CL.met_of ?a_81 ?i_81 ?l_81 ?c_81 ?k_81; (case a_81 => k_is); (case i_81 => k_is); (case l_81 => k_is); (case c_81 => k_is); (case k_81 => k_is))
      case f_m_Reader_whole => ((try dsimp only); refine' CL.met_of ?a_82 ?i_82 ?l_82 ?c_82 ?k_82; (case a_82 => k_is); (case i_82 => k_is); (case l_82 => k_is); (case c_82 => k_is); (case k_82 => k_is))
      case f_m_Reader_bound => ((try dsimp only); refine' CL.met_of ?a_83 ?i_83 ?l_83 ?c_83 ?k_83; (case a_83 => k_is); (case i_83 => k_is); (case l_83 => k_is); (case c_83 => k_is); (case k_83 => k_is))
      case f_m_Reader_test => ((try dsimp only); refine' CL.met_of ?a_84 ?i_84 ?l_84 ?c_84 ?k_84; (case a_84 => k_is); (case i_84 => k_is); (case l_84 => k_is); (case c_84 => k_is); (case k_84 => k_is))
      case f_m_Reader_tests => ((try dsimp only); refine' CL.met_of ?a_85 ?i_85 ?l_85 ?c_85 ?k_85; (case a_85 => k_is); (case i_85 => k_is); (case l_85 => k_is); (case c_85 => k_is); (case k_85 => k_is))
      case f_m_Reader_give => ((try dsimp only); refine' CL.met_of ?a_86 ?i_86 ?l_86 ?c_86 ?k_86; (case a_86 => k_is); (case i_86 => k_is); (case l_86 => k_is); (case c_86 => k_is); (case k_86 => k_is))
      case f_m_Reader_move => ((try dsimp only); refine' CL.met_of ?a_87 ?i_87 ?l_87 ?c_87 ?k_87; (case a_87 => k_is); (case i_87 => k_is); (case l_87 => k_is); (case c_87 => k_is); (case k_87 => k_is))
      case f_m_Reader_branch => ((try dsimp only); refine' CL.met_of ?a_88 ?i_88 ?l_88 ?c_88 ?k_88; (case a_88 => k_is); (case i_88 => k_is); (case l_88 => k_is); (case c_88 => k_is); (case k_88 => k_is))
      case f_m_Reader_loop => ((try dsimp only); refine' CL.met_of ?a_89 ?i_89 ?l_89 ?c_89 ?k_89; (case a_89 => k_is); (case i_89 => k_is); (case l_89 => k_is); (case c_89 => k_is); (case k_89 => k_is))
      case f_m_Reader_piece => ((try dsimp only); refine' CL.met_of ?a_90 ?i_90 ?l_90 ?c_90 ?k_90; (case a_90 => k_is); (case i_90 => k_is); (case l_90 => k_is); (case c_90 => k_is); (case k_90 => k_is))
      case f_m_Reader_program => ((try dsimp only); refine' CL.met_of ?a_91 ?i_91 ?l_91 ?c_91 ?k_91; (case a_91 => k_is); (case i_91 => k_is); (case l_91 => k_is); (case c_91 => k_is); (case k_91 => k_is))
      case f_d_holds => ((try dsimp only); refine' CL.def_of KX G ?a_92 ?l_92 ?c_92 ?k_92; (case a_92 => k_is); (case l_92 => k_is); (case c_92 => k_is); (case k_92 => k_is))
      case f_d_all_hold => ((try dsimp only); refine' CL.def_of KX G ?a_93 ?l_93 ?c_93 ?k_93; (case a_93 => k_is); (case l_93 => k_is); (case c_93 => k_is); (case k_93 => k_is))
      case f_d_chosen => ((try dsimp only); refine' CL.def_of KX G ?a_94 ?l_94 ?c_94 ?k_94; (case a_94 => k_is); (case l_94 => k_is); (case c_94 => k_is); (case k_94 => k_is))
      case f_d_value_given => ((try dsimp only); refine' CL.def_of KX G ?a_95 ?l_95 ?c_95 ?k_95; (case a_95 => k_is); (case l_95 => k_is); (case c_95 => k_is); (case k_95 => k_is))
      case f_d_moved => ((try dsimp only); refine' CL.def_of KX G ?a_96 ?l_96 ?c_96 ?k_96; (case a_96 => k_is); (case l_96 => k_is); (case c_96 => k_is); (case k_96 => k_is))
      case f_d_is_beyond => ((try dsimp only); refine' CL.def_of KX G ?a_97 ?l_97 ?c_97 ?k_97; (case a_97 => k_is); (case l_97 => k_is); (case c_97 => k_is); (case k_97 => k_is))
      case f_d_move_run => ((try dsimp only); refine' CL.def_of KX G ?a_98 ?l_98 ?c_98 ?k_98; (case a_98 => k_is); (case l_98 => k_is); (case c_98 => k_is); (case k_98 => k_is))
      case f_d_loop_run => ((try dsimp only); refine' CL.def_of KX G ?a_99 ?l_99 ?c_99 ?k_99; (case a_99 => k_is); (case l_99 => k_is); (case c_99 => k_is); (case k_99 => k_is))
      case f_d_piece_run => ((try dsimp only); refine' CL.def_of KX G ?a_100 ?l_100 ?c_100 ?k_100; (case a_100 => k_is); (case l_100 => k_is); (case c_100 => k_is); (case k_100 => k_is))
      case f_d_run => ((try dsimp only); refine' CL.def_of KX G ?a_101 ?l_101 ?c_101 ?k_101; (case a_101 => k_is); (case l_101 => k_is); (case c_101 => k_is); (case k_101 => k_is))
      case f_d_whole_shown => ((try dsimp only); refine' CL.def_of KX G ?a_102 ?l_102 ?c_102 ?k_102; (case a_102 => k_is); (case l_102 => k_is); (case c_102 => k_is); (case k_102 => k_is))
      case f_d_sum_shown => ((try dsimp only); refine' CL.def_of KX G ?a_103 ?l_103 ?c_103 ?k_103; (case a_103 => k_is); (case l_103 => k_is); (case c_103 => k_is); (case k_103 => k_is))
      case f_d_bound_shown => ((try dsimp only); refine' CL.def_of KX G ?a_104 ?l_104 ?c_104 ?k_104; (case a_104 => k_is); (case l_104 => k_is); (case c_104 => k_is); (case k_104 => k_is))
      case f_d_move_shown => ((try dsimp only); refine' CL.def_of KX G ?a_105 ?l_105 ?c_105 ?k_105; (case a_105 => k_is); (case l_105 => k_is); (case c_105 => k_is); (case k_105 => k_is))
      case f_d_test_shown => ((try dsimp only); refine' CL.def_of KX G ?a_106 ?l_106 ?c_106 ?k_106; (case a_106 => k_is); (case l_106 => k_is); (case c_106 => k_is); (case k_106 => k_is))
      case f_d_tests_shown => ((try dsimp only); refine' CL.def_of KX G ?a_107 ?l_107 ?c_107 ?k_107; (case a_107 => k_is); (case l_107 => k_is); (case c_107 => k_is); (case k_107 => k_is))
      case f_d_piece_lines => ((try dsimp only); refine' CL.def_of KX G ?a_108 ?l_108 ?c_108 ?k_108; (case a_108 => k_is); (case l_108 => k_is); (case c_108 => k_is); (case k_108 => k_is))
      case f_d_program_shown => ((try dsimp only); refine' CL.def_of KX G ?a_109 ?l_109 ?c_109 ?k_109; (case a_109 => k_is); (case l_109 => k_is); (case c_109 => k_is); (case k_109 => k_is))
      case f_d_may_begin => ((try dsimp only); refine' CL.def_of KX G ?a_110 ?l_110 ?c_110 ?k_110; (case a_110 => k_is); (case l_110 => k_is); (case c_110 => k_is); (case k_110 => k_is))
      case f_d_load => ((try dsimp only); refine' CL.def_of KX G ?a_111 ?l_111 ?c_111 ?k_111; (case a_111 => k_is); (case l_111 => k_is); (case c_111 => k_is); (case k_111 => k_is))
      case f_d_show => ((try dsimp only); refine' CL.def_of KX G ?a_112 ?l_112 ?c_112 ?k_112; (case a_112 => k_is); (case l_112 => k_is); (case c_112 => k_is); (case k_112 => k_is))
      case f_d_tell => ((try dsimp only); refine' CL.def_of KX G ?a_113 ?l_113 ?c_113 ?k_113; (case a_113 => k_is); (case l_113 => k_is); (case c_113 => k_is); (case k_113 => k_is))
      case f_d_tell_piece => ((try dsimp only); refine' CL.def_of KX G ?a_114 ?l_114 ?c_114 ?k_114; (case a_114 => k_is); (case l_114 => k_is); (case c_114 => k_is); (case k_114 => k_is))
      case f_d_choose => ((try dsimp only); refine' CL.def_of KX G ?a_115 ?l_115 ?c_115 ?k_115; (case a_115 => k_is); (case l_115 => k_is); (case c_115 => k_is); (case k_115 => k_is))
      case f_d_try_tests => ((try dsimp only); refine' CL.def_of KX G ?a_116 ?l_116 ?c_116 ?k_116; (case a_116 => k_is); (case l_116 => k_is); (case c_116 => k_is); (case k_116 => k_is))
      case f_d_add_piece => ((try dsimp only); refine' CL.def_of KX G ?a_117 ?l_117 ?c_117 ?k_117; (case a_117 => k_is); (case l_117 => k_is); (case c_117 => k_is); (case k_117 => k_is))
      case f_d_drop_piece => ((try dsimp only); refine' CL.def_of KX G ?a_118 ?l_118 ?c_118 ?k_118; (case a_118 => k_is); (case l_118 => k_is); (case c_118 => k_is); (case k_118 => k_is))
      case f_d_run_told => ((try dsimp only); refine' CL.def_of KX G ?a_119 ?l_119 ?c_119 ?k_119; (case a_119 => k_is); (case l_119 => k_is); (case c_119 => k_is); (case k_119 => k_is))
      case f_d_trace => ((try dsimp only); refine' CL.def_of KX G ?a_120 ?l_120 ?c_120 ?k_120; (case a_120 => k_is); (case l_120 => k_is); (case c_120 => k_is); (case k_120 => k_is))
      case f_d_after => ((try dsimp only); refine' CL.def_of KX G ?a_121 ?l_121 ?c_121 ?k_121; (case a_121 => k_is); (case l_121 => k_is); (case c_121 => k_is); (case k_121 => k_is))
      case f_d_counts => ((try dsimp only); refine' CL.def_of KX G ?a_122 ?l_122 ?c_122 ?k_122; (case a_122 => k_is); (case l_122 => k_is); (case c_122 => k_is); (case k_122 => k_is))
      case f_d_many_values => ((try dsimp only); refine' CL.def_of KX G ?a_123 ?l_123 ?c_123 ?k_123; (case a_123 => k_is); (case l_123 => k_is); (case c_123 => k_is); (case k_123 => k_is))
      case f_d_longer_by_one => ((try dsimp only); refine' CL.def_of KX G ?a_124 ?l_124 ?c_124 ?k_124; (case a_124 => k_is); (case l_124 => k_is); (case c_124 => k_is); (case k_124 => k_is))
      case f_d_all_values => ((try dsimp only); refine' CL.def_of KX G ?a_125 ?l_125 ?c_125 ?k_125; (case a_125 => k_is); (case l_125 => k_is); (case c_125 => k_is); (case k_125 => k_is))
      case f_d_box_told => ((try dsimp only); refine' CL.def_of KX G ?a_126 ?l_126 ?c_126 ?k_126; (case a_126 => k_is); (case l_126 => k_is); (case c_126 => k_is); (case k_126 => k_is))
      case f_d_answer_of_piece => ((try dsimp only); refine' CL.def_of KX G ?a_127 ?l_127 ?c_127 ?k_127; (case a_127 => k_is); (case l_127 => k_is); (case c_127 => k_is); (case k_127 => k_is))
      case f_d_answer_of_run => ((try dsimp only); refine' CL.def_of KX G ?a_128 ?l_128 ?c_128 ?k_128; (case a_128 => k_is); (case l_128 => k_is); (case c_128 => k_is); (case k_128 => k_is))
      case f_d_answer => ((try dsimp only); refine' CL.def_of KX G ?a_129 ?l_129 ?c_129 ?k_129; (case a_129 => k_is); (case l_129 => k_is); (case c_129 => k_is); (case k_129 => k_is))
      case f_d_row_at => ((try dsimp only); refine' CL.def_of KX G ?a_130 ?l_130 ?c_130 ?k_130; (case a_130 => k_is); (case l_130 => k_is); (case c_130 => k_is); (case k_130 => k_is))
      case f_d_answers => ((try dsimp only); refine' CL.def_of KX G ?a_131 ?l_131 ?c_131 ?k_131; (case a_131 => k_is); (case l_131 => k_is); (case c_131 => k_is); (case k_131 => k_is))
  case S =>
    intro K H xs a hO hwi hask hx
    cases hx with
    | cons h1 h2 =>
      cases h2
      cases h1 with
      | lst hs ha =>
        have e := L2.ints_dw a.1 _ ha
        subst e
        exact ⟨_, a.1, rfl, hs, hask, fun H' p hp => .lst (L2.SqL.of hp) (L2.dw_ints _)⟩

