import PyProof.Rows.All
import Wide.All
import OpenK.AllK
import Wide.FinOn
import HandS.ForMost
import HandS.Exc
import HandS.Words
import HandS.Style
import HandS.TupLe
import HandS.More
import HandS.Text
import HandS.WordsExc
import HandS.Defaults
import HandS.RaiseMore
import HandS.IsInst
import HandS.OwnEq
import HandS.Walk
import HandS.Codes
import KE.IntTextLaws
import PyProof.StrOps2
import KE.KExcSuper
import KE.KExcIs
import HandS.ExcInit
import HandS.ExcField
import HandS.HeadHook1
import HandS.Star
import HandS.FStr
import KE.GoesZip
import KE.GoesMore
import HandS.Wide
import HandS.Lambda
import PyProof.ReprRoads
import PyProof.ReprLen
import KE.KStateDown
import HandS.Head0
import HandS.Head1
import HandS.Head2
import HandS.HeadEnd
import HandS.HeadHook4
import HandS.HeadHook2
import HandS.HeadHook3
import KE.KLam
import HandS.EndBits
import HandS.EndTab
import PySem.Challenge.RW_ownseen_k80_scripts_and_their_texts
set_option Elab.async false
set_option linter.all false
set_option maxRecDepth 100000
set_option maxHeartbeats 4000000
section
/-! Ow4: list comprehensions whose element calls something that may raise. -/
namespace Ow
open PySem L2
open PySem.Spec PyProof.Rows

/-! ### the block's frame is the def's -/
theorem noteFrame_at {e : Value} {env env' : Env} (h : env.frame = env'.frame) : noteFrame e env = noteFrame e env' := by
  unfold noteFrame PySem.frameOf
  rw [h]

/-- an exception that flies over a block, told from the state s ahead of the block (its iterator's cells fp) -/
theorem air_of {X : Cx} {W : WX} {pins : List (Addr × Obj)} {σ : L2.St} {H H' : Hp} {s s' : Shared} {fp : List Addr} {a : Addr} {B : Heap} {cls : Value} {d : Option Addr} (I : L2.Inv X pins σ H s)
    (hfp : ∀ b ∈ fp, (b ∈ X.ex ∨ X.s_0.heap.objs.size ≤ b) ∧ b ≠ X.env.locals ∧ (∀ x c, X.env.cells.lookup x = some c → c ≠ b) ∧ ∀ p ∈ X.pn ++ pins, p.1 ≠ b)
    (keep : ∀ b o, s.heap.get? b = some o → H b = none → b ∉ frs X.stack → b ∉ fp → B.get? b = some o) (slot : ∀ b o, s.heap.get? b = some o → H b = none → b ∈ frs X.stack → b ∉ fp → ∃ sl, s'.heap.get? b = some { o with slots := sl })
    (free : ∀ b o, s.heap.get? b = some o → H b = none → b ∉ fp → H' b = none) (there : ∀ b o, s.heap.get? b = some o → b ∉ frs X.stack → b ∉ fp → ∃ o', B.get? b = some o') (thereF : ∀ b o, s.heap.get? b = some o → b ∈ frs X.stack → b ∉ fp → ∃ o', s'.heap.get? b = some o')
    (tups : ∀ b xs, H b = some (.tup xs) → H' b = some (.tup xs)) (frzs : ∀ b o u, H b = some (.frz o u) → H' b = some (.frz o u)) (tbls : ∀ b ps, H b = some (.tbl ps) → ∃ more, H' b = some (.tbl (ps ++ more)))
    (hok : HOk X.prog X.w H' B) (st : B.StaysIn s'.heap) (sky : Sky B X.stack a (Zc cls d) X.env.locals s'.heap) (na : H' a = none) (os : s'.os = s.os) (ag : AllBare s'.gens) (hW : W cls d σ H') : XE X W (.ref a) s' := by
  obtain ⟨G, in1, out1⟩ := restrict s'.heap fun b => (B.get? b).isSome || decide (b ∈ frs X.stack)
  have fromB : ∀ b o, B.get? b = some o → G.get? b = some o := fun b o e => by
    rw [in1 b (by rw [e] <;> rfl)]
    exact st b o e
  have fromF : ∀ b, b ∈ frs X.stack → G.get? b = s'.heap.get? b := fun b hb => in1 b (by rw [decide_eq_true hb, Bool.or_true])
  have back : ∀ b o, G.get? b = some o → s'.heap.get? b = some o ∧ ((B.get? b).isSome = true ∨ b ∈ frs X.stack) := fun b o e => by
    by_cases q : ((B.get? b).isSome || decide (b ∈ frs X.stack)) = true
    · rw [in1 b q] at e
      refine ⟨e, ?_⟩
      rcases Bool.or_eq_true_iff.mp q with z | z
      · exact .inl z
      · exact .inr (of_decide_eq_true z)
    · rw [out1 b (by simpa using q)] at e
      cases e
  refine ⟨a, B, { s with heap := G, gens := s'.gens, drawn := s'.drawn, toks := s'.toks }, pins, σ, H', cls, d, rfl, ?_, fun b o e hb => ?_, Heap.UpToSlots.of_keeps fun b o e => (back b o e).1, sky, na, os, ag, hW⟩
  · refine I.call (ch := fp) ⟨fun b o e n hb hx => fromB b o (keep b o e n hb hx), fun b o e n hb hx => ?_, free, fun b o e hx => ?_, tups, frzs, tbls⟩ (hok.kept fromB) ag hfp
    · obtain ⟨sl, q⟩ := slot b o e n hb hx
      exact ⟨sl, (fromF b hb).trans q⟩
    · by_cases hb : b ∈ frs X.stack
      · obtain ⟨o', q⟩ := thereF b o e hb hx
        exact ⟨o', (fromF b hb).trans q⟩
      · obtain ⟨o', q⟩ := there b o e hb hx
        exact ⟨o', fromB b o' q⟩
  · obtain ⟨e', h⟩ := back b o e
    rcases h with h | h
    · obtain ⟨o', q⟩ := Option.isSome_iff_exists.mp h
      have z := st b o' q
      rw [e'] at z
      cases z
      exact q
    · exact absurd h hb

/-- what is asked behind a comprehension's block, its variables' dict at cenv.locals -/
def cPost (M : Model) (A : Around) (E : Value → Shared → Prop) (use : Option (Value → Sem Unit)) (Q : Value → Shared → Prop) (acc : Value) (cenv : Env) (r : Result) (s' : Shared) : Prop :=
  match r, use with
  | .ok _, none => ∃ m, s'.heap.Ns cenv.locals m ∧ ∀ h', Heap.SameBut cenv.locals s'.heap h' → Q acc { s' with heap := h' }
  | .ok _, some u => wpAny M A (u acc) (fun _ s'' => ∃ m, s''.heap.Ns cenv.locals m ∧ ∀ h', Heap.SameBut cenv.locals s''.heap h' → Q .none { s'' with heap := h' }) E s'
  | .error x, _ => ∃ m, s'.heap.Ns cenv.locals m ∧ ∀ h', Heap.SameBut cenv.locals s'.heap h' → wpAny M A (passOn "comprehension.variables-let-go" x cenv : Sem Value) (fun _ _ => False) E { s' with heap := h' }

/-- a dict's object is no record -/
theorem ns_not {h : Heap} {a : Addr} {m : Str → Option Value} (n : h.Ns a m) {o : Obj} {vs : Array Value} (e : h.get? a = some o) (d : o.data = .fields vs) : False := by
  obtain ⟨o', es, ep, e', d', _⟩ := n
  rw [e] at e'
  cases e'
  rw [d] at d'
  cases d'

/-- the frames that run stand though a dict that is none of theirs changes -/
theorem frames_but {base h h' : Heap} {C : Addr} : ∀ {l : List Env}, h.FunFrames base l → C ∉ frs l → Heap.SameBut C h h' → h'.FunFrames base l
  | [], _, _, _ => trivial
  | env :: l, x, hn, sb => by
    obtain ⟨hk, ⟨L, o, hf, n, e, hd⟩, hr⟩ := x
    have hL : L ≠ C := fun z => hn (by unfold frs; rw [List.filterMap_cons, hf, z]; exact List.mem_cons_self)
    exact ⟨hk, ⟨L, o, hf, n, (sb.2 L hL).trans e, hd⟩, frames_but hr (fun z => hn (by unfold frs; rw [List.filterMap_cons, hf]; exact List.mem_cons_of_mem _ z)) sb⟩

/-- an exception of the block's element: noted, then passed on by the def's own frame -/
theorem block_air {X : Cx} {W : WX} {E : XK} {pins pB : List (Addr × Obj)} {σ σB : L2.St} {H3 HB : Hp} {s3 sB s' : Shared} {fp : List Addr} {scope : Scope} {ce : Env} {u : Value} {xe E' : Value → Shared → Prop}
    (I3 : L2.Inv X pins σ H3 s3) (hst : X.stack = X.env :: X.outer) (hfr : X.env.frame = some X.env.locals) (hce : ce.frame = X.env.frame) (hC : ce.locals = s3.heap.objs.size) (tk : Takes X W) (hW : ∀ cls d H', E cls d H' → W cls d σ H')
    (hfp : ∀ b ∈ fp, FpOk X pins H3 b) (IB : L2.Inv ((X.blk s3 H3 scope ce fp).wish xe) pB σB HB sB) (c : L2.CX X.prog X.w X.stack HB sB E u s') :
    wpAny (model X.prog X.w) X.A (noteFrame u ce) (fun _ s2 => ∃ m, s2.heap.Ns ce.locals m ∧ ∀ h', Heap.SameBut ce.locals s2.heap h' → wpAny (model X.prog X.w) X.A (passOn "comprehension.variables-let-go" u ce : Sem Value) (fun _ _ => False) X.xe { s2 with heap := h' }) E' s' := by
  obtain ⟨a, B, H', cls, d, rfl, fl, hok, ub, na, os, ag, hE⟩ := c
  have Xok := I3.ok
  have frames : X.A.frames = some (X.env :: X.outer) := by rw [Xok.frames, hst]
  -- the variables' dict
  obtain ⟨mB, nB, _⟩ := IB.loc
  have nB' : sB.heap.Ns ce.locals mB := nB
  have fC : HB ce.locals = none := IB.free
  have C3 : s3.heap.get? ce.locals = none := by
    cases q : s3.heap.get? ce.locals with
    | none => rfl
    | some o =>
      have z := Heap.lt_size q
      rw [hC] at z
      exact absurd z (Nat.lt_irrefl _)
  have nfC : ce.locals ∉ frs X.stack := fun hm => by
    obtain ⟨_, o, e, _⟩ := I3.stack.mem hm
    rw [C3] at e
    cases e
  -- the ground without it
  obtain ⟨B', b1, b2⟩ := restrict B fun b => decide (b ≠ ce.locals)
  have bk : ∀ b, b ≠ ce.locals → B'.get? b = B.get? b := fun b hb => b1 b (decide_eq_true hb)
  have bC : B'.get? ce.locals = none := b2 _ (decide_eq_false fun z => z rfl)
  have bs : ∀ b o, B'.get? b = some o → B.get? b = some o ∧ b ≠ ce.locals := fun b o e => by
    by_cases hb : b = ce.locals
    · rw [hb, bC] at e
      cases e
    · rw [bk b hb] at e
      exact ⟨e, hb⟩
  have none' : ∀ b, B.get? b = none → B'.get? b = none := fun b e => by
    cases q : B'.get? b with
    | none => rfl
    | some o =>
      rw [(bs b o q).1] at e
      cases e
  have fl' : HandSPX.FlyingZ B' X.stack a (Zc cls d) s'.heap := by
    obtain ⟨x1, x2, x3, oe, vs, T, oT, ts, y1, y2, y3, y4, y5, y6, y7, y8, y9⟩ := fl
    refine ⟨fun b o e => x1 b o (bs b o e).1, none' a x2, funFrames_none x3 fun L hL => ?_, oe, vs, T, oT, ts, y1, y2, y3, y4, none' T y5, y6, y7, y8, y9⟩
    obtain ⟨e, he, q⟩ := List.mem_filterMap.mp hL
    exact none' L (x3.mem (List.mem_filterMap.mpr ⟨e, he, q⟩)).1
  have hok' : HOk X.prog X.w H' B' := fun b o e => by
    have cH : H' ce.locals = none := by
      obtain ⟨o, es, ep, e1, _⟩ := nB'
      exact ub.free _ o e1 fC
    refine (hok b o e).stay (fun v w hv q => ?_) (fun _ q => q) fun _ _ q => q
    have hne : v ≠ ce.locals := fun z => by
      rcases hv with hv | hv
      · rw [← hv, z, cH] at e
        cases e
      · rw [z, cH] at hv
        cases hv
    rw [bk v hne]
    exact q
  have nsS : s'.heap.Ns ce.locals mB := by
    obtain ⟨o, es, ep, e1, r⟩ := nB'
    exact ⟨o, es, ep, fl.1 _ o (ub.keep _ o e1 fC nfC), r⟩
  rw [noteFrame_at hce]
  rw [hst] at fl'
  refine HandSPX.looks_onZ Zc.steady frames hfr fl' fun h3 hd3 up3 => ?_
  have nsL : h3.Ns ce.locals mB := up3.ns nsS
  refine ⟨mB, nsL, fun h4 sb => ?_⟩
  have hd4 : HandSPX.HeldZ B' (X.env :: X.outer) a (Zc cls d) X.env.locals h4 := by
    obtain ⟨x1, x2, x3, oe, vs, T, oT, ts, y1, y2, y3, y4, y5, y6, y7, y8, y9⟩ := hd3
    have na' : a ≠ ce.locals := fun z => ns_not nsL (by rw [← z]; exact y1) y3
    have nT' : T ≠ ce.locals := fun z => ns_not nsL (by rw [← z]; exact y7) y8
    exact ⟨fun b o e => (sb.2 b (bs b o e).2).trans (x1 b o e), x2, frames_but x3 (by rw [← hst]; exact nfC) sb, oe, vs, T, oT, ts, (sb.2 a na').trans y1, y2, y3, y4, y5, y6, (sb.2 T nT').trans y7, y8, y9⟩
  have U1 : Un (frs X.stack) fp H3 HB s3.heap sB.heap := IB.base
  have nb3 : ∀ b o, s3.heap.get? b = some o → b ≠ ce.locals := fun b o e z => by
    rw [z, C3] at e
    cases e
  obtain ⟨_, _, _, oe, vs, T, oT, ts, y1, y2, y3, y4, y5, y6, y7, y8, y9⟩ := id hd4
  have done : wpAny (model X.prog X.w) X.A (setFlight (.ref a) ce.frame) (fun _ s5 => wpAny (model X.prog X.w) X.A (throw (.ref a) : Sem Value) (fun _ _ => False) X.xe s5) X.xe { s' with heap := h4 } := by
    rw [hce, hfr]
    refine HandSPX.setFlight_onZ hd4 fun h5 hd5 up5 => wpAny_throw (tk _ _ ?_)
    have slot5 : ∀ b o, s3.heap.get? b = some o → H3 b = none → b ∈ frs X.stack → b ∉ fp → ∃ sl, h5.get? b = some { o with slots := sl } := fun b o e n hb hx => by
      obtain ⟨_, o2, e2, hnf⟩ := I3.stack.mem hb
      rw [e] at e2
      cases e2
      obtain ⟨l1, z1⟩ := U1.slot b o e n hb hx
      obtain ⟨l2, z2⟩ := ub.slot b _ z1 hb
      obtain ⟨l3, z3⟩ := up3 b _ z2 hnf
      obtain ⟨l4, z4⟩ := up5 b _ ((sb.2 b (nb3 b o e)).trans z3) hnf
      exact ⟨l4, z4⟩
    exact air_of (s' := { s' with heap := h5 }) I3 (fun b hb => ⟨(hfp b hb).2.2.2.1, (hfp b hb).2.1, (hfp b hb).2.2.2.2.1, (hfp b hb).2.2.2.2.2⟩)
      (fun b o e n hb hx => (bk b (nb3 b o e)).trans (ub.keep b o (U1.keep b o e n hb hx) (U1.free b o e n hx) hb)) slot5 (fun b o e n hx => by
        obtain ⟨o', z⟩ := U1.there b o e hx
        exact ub.free b o' z (U1.free b o e n hx)) (fun b o e hb hx => by
        obtain ⟨o', z⟩ := U1.there b o e hx
        obtain ⟨o2, z2⟩ := ub.there b o' z hb
        exact ⟨o2, (bk b (nb3 b o e)).trans z2⟩) (fun b o e hb hx => by
        obtain ⟨sl, z⟩ := slot5 b o e (I3.stkFree b hb) hb hx
        exact ⟨_, z⟩) (fun b xs e => ub.tups b xs (U1.tups b xs e)) (fun b o u e => ub.frzs b o u (U1.frzs b o u e)) (fun b ps e => by
        obtain ⟨m1, z1⟩ := U1.tbls b ps e
        obtain ⟨m2, z2⟩ := ub.tbls b _ z1
        exact ⟨m1 ++ m2, by rw [z2, Array.append_assoc]⟩) hok' hd5.1 (.inr (.inr (by rw [hst]; exact hd5))) na (os.trans IB.os) ag (hW _ _ _ hE)
  unfold PySem.passOn
  refine wpAny_bind (wpAny_field y1 y3 y4 ?_)
  rw [if_neg (show ¬ ((Value.ref T == Value.none) = true) from by simp)]
  first
    | exact wpAny_bind (wpAny_pure (wpAny_bind done))
    | exact wpAny_bind done
end Ow

end
section
/-! Ow5: the rule of list comprehensions whose element may raise. -/
namespace Ow
open PySem L2
open PySem.Spec PyProof.Rows

section
variable {M : Model} {A : Around} {E : Value → Shared → Prop} {s : Shared} {env : Env}
/-- a comprehension by what its block reaches, told of the block's own frame -/
theorem compX_free {e : Expr} {scope : Scope} {pos : Pos} {nw fst : Sem Value} {g : Comprehension} {gs : List Comprehension} {cl : List (Str × Addr)} {use : Option (Value → Sem Unit)} {Q : Value → Shared → Prop}
    (hc : clausesOf e = g :: gs) (hs : ∀ x, foldedSetIterable g.iter env x = pure x) (ho : closureFor scope env = pure cl) (hk : scope.kind = .function) (hn : ∀ x ∈ scope.names, x.2 = .local → scope.names.lookup x.1 = some .local)
    (h : wpAny M A fst (fun x t1 => wpAny M A (pyIter x) (fun it t2 => wpAny M A nw (fun acc t3 => wpAny M A (newFunctionEnv scope env.globals cl [] env.qual none .none (some env)) (fun cenv t4 =>
      codeAny M A (.compStart e 0 it acc { cenv with scope := relabel scope env }) (cPost M A E use Q acc { cenv with scope := relabel scope env }) t4) E t3) E t2) E t1) E s) :
    wpAny M A (comprehension e scope env pos nw false fst use) Q E s := by
  unfold comprehension
  rw [ho, hc]
  refine wpAny_bind (thn h fun x t1 h1 => wpAny_bind (wpAny_standAt (wpAny_bind (wpAny_of_eq (hs x) (wpAny_bind (wpAny_holding (thn h1 fun it t2 h2 => wpAny_standIf (wpAny_bind (thn h2 fun acc t3 h3 => wpAny_bind (wpAny_pure (wpAny_bind (thn h3 fun cenv t4 h4 => ?_))))))))))))
  dsimp only
  have own : ∀ x ∈ (scope.names.filter fun x => (x.2 == .local || x.2 == .cell) && x.1 != (".0" : Str)).reverse, x.2 = .local → Env.kindOf { cenv with scope := relabel scope env } x.1 = some .local := fun x hx hl => lookup_relabel_local (hn x (List.mem_filter.mp (List.mem_reverse.mp hx)).1 hl)
  have own' : ∀ x ∈ (scope.names.filter fun x => (x.2 == .local || x.2 == .cell) && x.1 != (".0" : Str)).reverse.drop 1 ++ (scope.names.filter fun x => (x.2 == .local || x.2 == .cell) && x.1 != (".0" : Str)).reverse.take 1, x.2 = .local → Env.kindOf { cenv with scope := relabel scope env } x.1 = some .local := fun x hx hl =>
    (List.mem_append.mp hx).elim (fun q => own x (List.mem_of_mem_drop q) hl) fun q => own x (List.mem_of_mem_take q) hl
  refine wpAny_holding (wpAny_bind (wpAny_attempt (wpAny_holding (wpAny_run (codeAny_mono h4 fun r s5 hr => ?_)))))
  cases r with
  | error x =>
    have hr' : ∃ m, s5.heap.Ns cenv.locals m ∧ ∀ h', Heap.SameBut cenv.locals s5.heap h' → wpAny M A (passOn "comprehension.variables-let-go" x { cenv with scope := relabel scope env } : Sem Value) (fun _ _ => False) E { s5 with heap := h' } := by cases use <;> exact hr
    obtain ⟨m, ns, q⟩ := hr'
    exact wpAny_bind (wpAny_holding (wpAny_comp_letGo (cenv := { cenv with scope := relabel scope env }) hk _ s5 m own ns fun h' m' _ sb => wpAny_mono (q h' sb) (fun _ _ f => f.elim) fun _ _ y => y))
  | ok f =>
    cases use with
    | none =>
      obtain ⟨m, ns, q⟩ := hr
      exact wpAny_bind (wpAny_holding (wpAny_comp_letGo (cenv := { cenv with scope := relabel scope env }) hk _ s5 m own ns fun h' m' _ sb => wpAny_pure (q h' sb)))
    | some u =>
      refine wpAny_bind (wpAny_rule (wpAny_bind (wpAny_holding (thn hr fun _ s6 ⟨m, ns, q⟩ => ?_))))
      exact wpAny_bind (wpAny_comp_letGo (cenv := { cenv with scope := relabel scope env }) hk _ s6 m own' ns fun h' m' _ sb => wpAny_pure (q h' sb))
end

section
variable {X : Cx}
/-- the block's element, with any wish that the def's exceptions reach -/
abbrev EltX (X : Cx) (E : XK) (elt : Expr) (scope : Scope) (te : TE) : Prop := ∀ (s : Shared) (H : Hp) (C : Addr) (cl : List (Str × Addr)) (fp : List Addr) (xe : Value → Shared → Prop),
  Passes (L2.CX X.prog X.w) ((X.blk s H scope (compEnvC scope cl C X.env) fp).wish xe) E → PE ((X.blk s H scope (compEnvC scope cl C X.env) fp).wish xe) elt te

theorem lcX_core {W : WX} {E : XK} {pins : List (Addr × Obj)} {s : Shared} {σ : L2.St} {H : Hp} {Q : VK} {elt tg iter : Expr} {ifs : List Expr} {scope : Scope} {own : List (Str × Nat)} {pos pos' : Pos} {wi : TI} {g : TG} {tt : TT} {te : TE} {use : Option (Value → Sem Unit)} {Qf : Value → Shared → Prop}
    (hst : X.stack = X.env :: X.outer) (hfr : X.env.frame = some X.env.locals) (tk : Takes X W) (hW : ∀ cls d H', E cls d H' → W cls d σ H') (hc : X.calm = true) (hN : X.N.Nodup) (J0 : L2.Inv X pins σ H s) (hi : PI X tg iter wi) (ok : BlkOk X.N X.env.scope scope own)
    (hg : ∀ (s : Shared) (H : Hp) (C : Addr) (cl : List (Str × Addr)) (fp : List Addr), PG (X.blk s H scope (compEnvC scope cl C X.env) fp) tg g) (ht : ∀ (s : Shared) (H : Hp) (C : Addr) (cl : List (Str × Addr)) (fp : List Addr), PTs (X.blk s H scope (compEnvC scope cl C X.env) fp) ifs tt)
    (he : EltX X E elt scope te) (hs : ∀ x, foldedSetIterable iter X.env x = pure x) (h : tLc wi g tt te (own.map (·.2)) σ H Q)
    (hRR : ∀ D (ce : Env) s' m H', L2.Inv X pins σ H' s' → Q (.ref D) H' → s'.heap.Ns ce.locals m → FpOk X pins H' ce.locals → cPost (model X.prog X.w) X.A X.xe use Qf (.ref D) ce (.ok .next) s') :
    wpAny (model X.prog X.w) X.A (comprehension (.ListComp elt [⟨tg, iter, ifs, 0⟩] scope pos) scope X.env pos' (newList []) false (eval iter X.env) use) Qf X.xe s := by
  have hfree : ∀ y ∈ scope.names, y.2 = .free → ∃ c, X.env.cells.lookup y.1 = some c := fun y hy e => (ok.free y hy e).elim (fun k => J0.ok.has _ (.inl k)) fun k => J0.ok.has _ (.inr k)
  refine compX_free (use := use) rfl hs (closure_ok hfree) ok.kind (fun y hy e => by rw [ok.uniq y hy, e]) (thn (hi.run pins s σ H _ J0 h) fun xv s1 hx => thn hx fun itv s2 h2 => ?_)
  obtain ⟨it, fp, tn, Jt, H2, e, J2, T, st2, f2, q⟩ := h2
  subst e
  refine wpAny_newObj_type (newEnv_comp ?_) (by show 0 ≤ sizeLine; decide)
  generalize hD : s2.heap.objs.size = D
  have hDn : H2 D = none := J2.hok.fresh (Nat.le_of_eq hD)
  obtain ⟨Wl, ⟨m0, w0⟩, turn⟩ := q D hDn
  generalize hs3 : ({ s2 with heap := s2.heap.push { cls := .type "list", data := .seq ([] : List Value).toArray } } : Shared) = s3
  have J3 : L2.Inv X pins σ (upd H2 D (.lst [])) s3 := by
    rw [← hs3]
    refine J2.laid (t' := s2.toks) (fun b o e => Heap.get?_push_of_some _ e) (Nat.le_of_eq hD) ⟨Nat.zero_le _, [], 0, .nil, ?_⟩
    rw [← hD]
    exact Heap.get?_push_size _ rfl
  have h3 : s3.heap = s2.heap.push { cls := .type "list", data := .seq ([] : List Value).toArray } := by rw [← hs3]
  have sz : ∀ b ∈ fp, b < s2.heap.objs.size := fun b hb => (T.obj _ _ st2 b hb).elim fun o z => Heap.lt_size z.1
  have f3 : ∀ b ∈ fp, FpOk X pins (upd H2 D (.lst [])) b ∧ b < s3.heap.objs.size := fun b hb => by
    have hlt := sz b hb
    exact ⟨⟨(upd_ne (by rw [← hD]; exact Nat.ne_of_lt hlt)).trans (f2 b hb).1, (f2 b hb).2⟩, by rw [h3, Heap.size_push]; exact Nat.lt_succ_of_lt hlt⟩
  have st3 : tn 0 s3.heap := T.keep _ _ _ st2 fun b _ o e => by rw [h3]; exact Heap.get?_push_of_some _ e
  have J4 := block_start J3 ok hN f3
  generalize hcl : cellsFrom (s3.heap.objs.size + 1) scope.names (cloFrom X.env.cells scope.names []) = cl at J4 ⊢
  have pg := hg s3 (upd H2 D (.lst [])) s3.heap.objs.size cl fp
  have pt := ht s3 (upd H2 D (.lst [])) s3.heap.objs.size cl fp
  have pe := he s3 (upd H2 D (.lst [])) s3.heap.objs.size cl fp
  show codeAny _ _ (.compStart (.ListComp elt [⟨tg, iter, ifs, 0⟩] scope pos) 0 (.ref it) (.ref D) (compEnvC scope cl s3.heap.objs.size X.env)) (cPost (model X.prog X.w) X.A X.xe use Qf (.ref D) (compEnvC scope cl s3.heap.objs.size X.env)) { s3 with heap := pushCells (s3.heap.push { cls := .type "dict", data := .dict #[] }) scope.names }
  have nfp : ∀ b ∈ fp, (upd H2 D (.lst [])) b = none := fun b hb => (f3 b hb).1.1
  have hcf : (compEnvC scope cl s3.heap.objs.size X.env).frame = X.env.frame := rfl
  generalize hce : compEnvC scope cl s3.heap.objs.size X.env = ce at J4 pg pt pe hcf ⊢
  have cL : ce.locals = s3.heap.objs.size := by subst hce; rfl
  generalize hH3 : upd H2 D (.lst []) = H3 at J3 J4 pg pt pe w0 nfp f3
  generalize hs4 : ({ s3 with heap := pushCells (s3.heap.push { cls := .type "dict", data := .dict #[] }) scope.names } : Shared) = s4 at J4 ⊢
  have st4 : tn 0 s4.heap := T.keep _ _ _ st3 fun b _ o e => by rw [← hs4]; exact pushCells_keeps _ _ _ _ (Heap.get?_push_of_some _ e)
  have stat : ∀ {σ' : L2.St} {H' : Hp} {s' : Shared}, L2.Inv (X.blk s3 H3 scope ce fp) [] σ' H' s' → (∀ b ∈ fp, H' b = none) → ∀ b ∈ fp, FpOk (X.blk s3 H3 scope ce fp) [] H' b := fun {σ' H' s'} J' hn b hb =>
    ⟨hn b hb, (J'.ok.exf b hb).1, J'.ok.exfs b hb, .inl hb, fun x c e => (J'.ok.exf b hb).2 x c e, fun p hp => absurd (show p ∈ ([] : List (Addr × Obj)) ++ [] from hp) (by simp)⟩
  have elem : PE ((X.blk s3 H3 scope ce fp).wish (notedBy (model X.prog X.w) X.A ce fun e s' => cPost (model X.prog X.w) X.A X.xe use Qf (.ref D) ce (.error e) s')) elt te :=
    pe _ fun pB σB HB sB u s' IB c => by
      have z := block_air (E' := fun e s' => cPost (model X.prog X.w) X.A X.xe use Qf (.ref D) ce (.error e) s') J3 hst hfr hcf cL tk hW (fun b hb => (f3 b hb).1) IB c
      unfold notedBy
      exact thn z fun _ s2 hq => by cases use <;> exact hq
  have loop : codeAny (model X.prog X.w) X.A (.compLoop (.ListComp elt [⟨tg, iter, ifs, 0⟩] scope pos) 0 (.ref it) (.ref D) ce) (cPost (model X.prog X.w) X.A X.xe use Qf (.ref D) ce) s4 := by
    refine compLoop_any (fun n t => ∃ i G, L2.Inv (X.blk s3 H3 scope ce fp) [] (wipe σ (own.map (·.2))) G t ∧ tn i t.heap ∧ (∀ b ∈ fp, G b = none) ∧ Wl i n G) ?_ m0 ⟨0, H3, J4, st4, nfp, w0⟩
    rintro n s5 ⟨i, H5, J5, st5, n5, w5⟩
    rcases turn i n H5 w5 with ⟨stop, qq⟩ | ⟨go, Nx, hNx, step⟩
    · refine thnF (T.done (X.blk s3 H3 scope ce fp) rfl rfl rfl hc i [] s5 _ H5 (fun _ _ => False) J5 (stat J5 n5) st5 stop) fun r s6 ⟨hr, J6⟩ => ?_
      subst hr
      have J7 : L2.Inv X pins σ H5 s6 := J3.call' (ch := fp) J6.os J6.base J6.hok J6.bare fun b hb => ⟨(f3 b hb).1.2.2.2.1, (f3 b hb).1.2.1, (f3 b hb).1.2.2.2.2.1, (f3 b hb).1.2.2.2.2.2⟩
      have nC : H5 ce.locals = none := J6.free
      obtain ⟨m, hn, _⟩ := J6.loc
      exact hRR D ce s6 m H5 J7 qq hn (J3.fpOk (Nat.le_of_eq cL.symm) nC)
    · refine thnF (T.item (X.blk s3 H3 scope ce fp) rfl rfl rfl hc i [] s5 _ H5 (fun _ _ => False) J5 (stat J5 n5) st5 go) fun r s6 ⟨u, hr, h6⟩ => ?_
      subst hr
      refine thnF h6 fun _ s7 ⟨x, H7, J7, r7, y7, st7, n7⟩ => ?_
      refine thnF (pg.run _ s7 _ H7 x u _ (J7.pinned (stat J7 n7) (T.obj _ _ st7)) r7 (step x H7 y7)) fun _ s8 ⟨σ8, H8, J8, hw8, q8⟩ => ?_
      refine thnF (pt.run _ s8 σ8 H8 _ J8 q8) fun b s9 ⟨H9, J9, q9⟩ => ?_
      have fin : ∀ {t : Shared} {G : Hp}, L2.Inv (X.blk s3 H3 scope ce fp) ([] ++ pinsAt fp s7.heap) σ8 G t → Nx G → ∃ m, m < n ∧ ∃ i G, L2.Inv (X.blk s3 H3 scope ce fp) [] (wipe σ (own.map (·.2))) G t ∧ tn i t.heap ∧ (∀ b ∈ fp, G b = none) ∧ Wl i m G := fun {t G} J' nx => by
        obtain ⟨m', hm, w'⟩ := hNx G nx
        have held : ∀ b ∈ fp, ∀ o, s7.heap.get? b = some o → t.heap.get? b = some o ∧ G b = none := fun b hb o e =>
          have z := J'.pin (b, o) (List.mem_append_right _ (List.mem_append_right _ (mem_pinsAt hb e)))
          ⟨z.1, z.2.1⟩
        have hl : (wipe σ (own.map (·.2))).length = σ8.length := by rw [← hw8, wipe_length]
        refine ⟨m', hm, i + 1, G, (J'.unpinned (pins := [])).weak hl (fun j v e => (wipe_some (vs := own.map (·.2)) (by rw [hw8]; exact e)).1), T.keep _ _ _ st7 fun b hb o e => (held b hb o e).1, fun b hb => ?_, w'⟩
        obtain ⟨o, e, _⟩ := T.obj _ _ st7 b hb
        exact (held b hb o e).2
      cases b with
      | false => exact fin J9 q9
      | true =>
        refine thn (elem.run _ s9 σ8 H9 _ (J9.wish _) q9) fun z s10 ⟨yv, H10, J10, r10, acc, hD10, hz10, nx⟩ => ?_
        exact app_ok (X := X.blk s3 H3 scope ce fp) J10.unwish hD10 hz10 r10 fun s11 J11 => fin J11 nx
  exact codeAny_compStart_list loop (T.self X.A 0 _ _ _ st4 loop)

/-- the wish of a def that E leaves, for each stand of its slots -/
theorem pe_lcX {W : WX} {E : XK} {elt tg iter : Expr} {ifs : List Expr} {scope : Scope} {own : List (Str × Nat)} {pos : Pos} {wi : TI} {g : TG} {tt : TT} {te : TE} (hst : X.stack = X.env :: X.outer) (hfr : X.env.frame = some X.env.locals) (tk : Takes X W) (hW : ∀ cls d σ H', E cls d H' → W cls d σ H')
    (hc : X.calm = true) (hN : X.N.Nodup) (hi : PI X tg iter wi) (ok : BlkOk X.N X.env.scope scope own) (hg : ∀ (s : Shared) (H : Hp) (C : Addr) (cl : List (Str × Addr)) (fp : List Addr), PG (X.blk s H scope (compEnvC scope cl C X.env) fp) tg g)
    (ht : ∀ (s : Shared) (H : Hp) (C : Addr) (cl : List (Str × Addr)) (fp : List Addr), PTs (X.blk s H scope (compEnvC scope cl C X.env) fp) ifs tt) (he : EltX X E elt scope te) (hs : ∀ x, foldedSetIterable iter X.env x = pure x := by intro _; rfl) :
    PE X (.ListComp elt [⟨tg, iter, ifs, 0⟩] scope pos) (tLc wi g tt te (own.map (·.2))) := by
  refine ⟨fun pins s σ H Q J h => ?_⟩
  rw [eval_ListComp]
  refine lcX_core hst hfr tk (fun cls d H' => hW cls d σ H') hc hN J hi ok hg ht he hs h fun D ce s' m H' J' q hn f => ⟨m, hn, fun h2 sb => ?_⟩
  exact ⟨.ref D, H', J'.turned (t' := s'.toks) (fun b o hb e => (sb.2 b hb).trans e) f.1 f.2.1 f.2.2.2.1 f.2.2.2.2.1 f.2.2.2.2.2, rfl, q⟩

/-- name = [..] on one row, the name a local, the element one that may raise -/
theorem ps_setLcX {W : WX} {E : XK} {i : Nat} {y : Str} {py : Pos} {elt tg iter : Expr} {ifs : List Expr} {scope : Scope} {own : List (Str × Nat)} {pos spos : Pos} {wi : TI} {g : TG} {tt : TT} {te : TE} (hst : X.stack = X.env :: X.outer) (hfr : X.env.frame = some X.env.locals) (tk : Takes X W) (hW : ∀ cls d σ H', E cls d H' → W cls d σ H')
    (hc : X.calm = true) (hN : X.N.Nodup) (hy : X.N[i]? = some y) (hyl : X.env.scope.names.lookup y = some .local) (hsw : swapsWith (.ListComp elt [⟨tg, iter, ifs, 0⟩] scope pos) (some (.Name y py)) spos.line X.env = pure true) (hi : PI X tg iter wi) (ok : BlkOk X.N X.env.scope scope own)
    (hg : ∀ (s : Shared) (H : Hp) (C : Addr) (cl : List (Str × Addr)) (fp : List Addr), PG (X.blk s H scope (compEnvC scope cl C X.env) fp) tg g) (ht : ∀ (s : Shared) (H : Hp) (C : Addr) (cl : List (Str × Addr)) (fp : List Addr), PTs (X.blk s H scope (compEnvC scope cl C X.env) fp) ifs tt)
    (he : EltX X E elt scope te) (hs : ∀ x, foldedSetIterable iter X.env x = pure x := by intro _; rfl) : PS X (.Assign [.Name y py] (.ListComp elt [⟨tg, iter, ifs, 0⟩] scope pos) spos) (tAsg (tLc wi g tt te (own.map (·.2))) (gName i)) := by
  refine ⟨fun pins s σ H D J h => ?_⟩
  rw [exec_Assign_Name_used _ _ _ _ hsw]
  refine wpAny_bind (wpAny_standAt (wpAny_bind ?_))
  show wpAny _ X.A (do let _ ← comprehension (.ListComp elt [⟨tg, iter, ifs, 0⟩] scope pos) scope X.env (firstIterPos [⟨tg, iter, ifs, 0⟩] pos) (newList []) false (eval iter X.env) (some (assign (.Name y py) X.env))) _ _ s
  have h : tLc wi g tt te (own.map (·.2)) σ H (fun x H1 => gName i x σ H1 D.nx) := h
  refine wpAny_bind (thn (lcX_core (Qf := fun _ s' => SP X pins D .next s') hst hfr tk (fun cls d H' => hW cls d σ H') hc hN J hi ok hg ht he hs h fun L ce s' m H' J' q hn f => ?_) fun _ s' hq => wpAny_pure (wpAny_pure hq))
  show wpAny _ _ (assign (.Name y py) X.env (.ref L)) _ _ _
  refine wpAny_assign_Name (store_ok2 (v := V.ref L) J' hN hy (.inl hyl) rfl (fun s2 J2 ⟨a, sb, ha⟩ => ?_) (.inr hyl))
  have haC : ce.locals ≠ a := ha.elim (fun z => by rw [z]; exact f.2.1) fun z e => f.2.2.2.2.1 y a z e.symm
  refine ⟨m, hn.sameBut sb haC, fun h3 sb3 => ?_⟩
  exact ⟨_, H', J2.turned (t' := s2.toks) (fun b o hb e => (sb3.2 b hb).trans e) f.1 f.2.1 f.2.2.2.1 f.2.2.2.2.1 f.2.2.2.2.2, q⟩
end
end Ow

end
section
/-! Ow6: defs, methods, makers by their names: one fact each. -/
namespace Ow
open PySem L2
open PySem.Spec PyProof.Rows

abbrev FnQ (K : W.Frag) (x q : Str) (st : Stmt) (f : Addr) (fd : FuncData) : Prop := FunD K x q (defArgs st) (defBody st) (defScope st) [] [] f fd
/-- a def of the text under a global name -/
structure Dfn (K : W.Frag) (mg : Str → Option Value) (x : Str) (st : Stmt) (ps : List Str) : Prop where
  ex : ∃ (f : Addr) (fd : FuncData), FnQ K x x st f fd ∧ mg x = some (.ref f) ∧ Binds K fd ps [] ∧ ∀ (p : Str), ps = [p] → ∀ (s : Shared) (u : Value), BindsTo s fd ⟨[], [(p, u)]⟩ [(p, u)]
/-- a method of the text -/
structure Mdf (K : W.Frag) (C : Addr) (m q : Str) (st : Stmt) (ps : List Str) : Prop where
  ex : ∃ (f : Addr) (fd : FuncData), FnQ K m q st f fd ∧ Meth K C m f ∧ Binds K fd ps []
/-- a plain class's __init__ -/
structure Idf (K : W.Frag) (mg : Str → Option Value) (x : Str) (C : Addr) (q : Str) (st : Stmt) (ps : List Str) : Prop where
  ex : ∃ (f : Addr) (fd : FuncData), FnQ K "__init__" q st f fd ∧ Mk K C f ∧ Binds K fd ps []
  gl : mg x = some (.ref C)
/-- what may be called by the name x -/
structure Cal (P : Program) (w : World) (K : W.Frag) (mg : Str → Option Value) (base : Heap) (CX : CXT) (k : Nat) (x : Str) (ps : List Str) (sp : Sp) : Prop where
  ex : ∃ (f : Addr) (fd : FuncData), FnOk P w K mg base CX k f fd ps sp ∧ mg x = some (.ref f) ∧ W.keepIn K (.ref f) = true ∧ Binds K fd ps [] ∧ ∀ (p : Str), ps = [p] → ∀ (s : Shared) (u : Value), BindsTo s fd ⟨[], [(p, u)]⟩ [(p, u)]
structure Met (P : Program) (w : World) (K : W.Frag) (mg : Str → Option Value) (base : Heap) (CX : CXT) (k : Nat) (C : Addr) (m : Str) (ps : List Str) (sp : Sp) : Prop where
  ex : ∃ (f : Addr) (fd : FuncData), FnOk P w K mg base CX k f fd ps sp ∧ Meth K C m f ∧ Binds K fd ps []
structure Ini (P : Program) (w : World) (K : W.Frag) (mg : Str → Option Value) (base : Heap) (CX : CXT) (k : Nat) (x : Str) (C : Addr) (ps : List Str) (sp : Sp) : Prop where
  ex : ∃ (f : Addr) (fd : FuncData), FnOk P w K mg base CX k f fd ps sp ∧ Mk K C f ∧ Binds K fd ps []
  gl : mg x = some (.ref C)
section
variable {P : Program} {w : World} {K : W.Frag} {mg : Str → Option Value} {base : Heap} {CX : CXT} {k : Nat} {x m q : Str} {C : Addr} {st : Stmt} {N ps : List Str} {sp : Sp}
/-- what is to be shown of a body -/
abbrev Body (P : Program) (w : World) (K : W.Frag) (mg : Str → Option Value) (base : Heap) (CX : CXT) (k : Nat) (q : Str) (st : Stmt) (N : List Str) (sp : Sp) : Prop :=
  ∀ (f : Addr) (cdv : Value) (A : Around) (outer : List Env) (s : Shared) (H : Hp) (vs : List V) (Q : VK) (E : XK), Room k (A.deeper (envOfC q (defScope st) s.heap.objs.size f cdv)) → sp vs H Q E →
    ∃ t, PSs (cxOf CX P w K mg base N q (defScope st) f cdv A outer s H E) (defBody st) t ∧ t { nx := fun _ H' => Q .non H', rt := Q } (L2.start N vs) H
theorem Dfn.cal (D : Dfn K mg x st ps) (S : FnScope N ps (defScope st)) (len : ∀ vs H Q E, sp vs H Q E → vs.length = ps.length) (b : Body P w K mg base CX k x st N sp) : Cal P w K mg base CX (k + 1) x ps sp := by
  obtain ⟨f, fd, F, g, bd, kb⟩ := D.ex
  exact ⟨f, fd, F.ok S len (b f), g, F.kp, bd, kb⟩
theorem Mdf.met (D : Mdf K C m q st ps) (S : FnScope N ps (defScope st)) (len : ∀ vs H Q E, sp vs H Q E → vs.length = ps.length) (b : Body P w K mg base CX k q st N sp) : Met P w K mg base CX (k + 1) C m ps sp := by
  obtain ⟨f, fd, F, g, bd⟩ := D.ex
  exact ⟨f, fd, F.ok S len (b f), g, bd⟩
theorem Idf.ini (D : Idf K mg x C q st ps) (S : FnScope N ps (defScope st)) (len : ∀ vs H Q E, sp vs H Q E → vs.length = ps.length) (b : Body P w K mg base CX k q st N sp) : Ini P w K mg base CX (k + 1) x C ps sp := by
  obtain ⟨f, fd, F, g, bd⟩ := D.ex
  exact ⟨⟨f, fd, F.ok S len (b f), g, bd⟩, D.gl⟩
end

section
variable {X : Cx} {CX : CXT} {k : Nat} {x m : Str} {C : Addr} {ps : List Str} {sp : Sp} {E : XK} {p pos apos : Pos} {e o : Expr} {es : List Expr} {ta t : TA} {te : TE}
def tCl (sp : Sp) (E : XK) (t : TA) : TE := fun σ H Q => t σ H fun vs H1 => sp vs H1 Q E
theorem nil_end {sp : Sp} {Q : VK} {E : XK} : (fun (vs : List V) H1 => sp (vs ++ []) H1 Q E) = fun vs H1 => sp vs H1 Q E := by
  funext vs H1
  rw [List.append_nil]
/-- f(e, ..) -/
theorem pe_cl (G : Cal X.prog X.w X.K X.mg X.base CX k x ps sp) (hr : Room k X.A) (hx : Passes CX X E) (ha : PA X (e :: es) t) (hg : Gl X x := by rfl) (hdb : (x == ("__debug__" : Str)) = false := by decide)
    (he : starEach (e :: es) X.env = (false, eval e X.env) :: starEach es X.env := by rfl) (hpl : (backTo pos (starEach es X.env)).any (·.1) = false := by rfl) : PE X (.Call (.Name x p) (e :: es) [] pos) (tCl sp E t) := by
  obtain ⟨f, fd, F, g, kp, bd, _⟩ := G.ex
  refine ⟨fun pins s σ H Q I h => (pe_call F hr hg g kp bd .nil hx ha hdb he hpl).run pins s σ H Q I ?_⟩
  show t σ H fun vs H1 => sp (vs ++ []) H1 Q E
  rw [nil_end]
  exact h
/-- f() -/
theorem pe_cl0 (G : Cal X.prog X.w X.K X.mg X.base CX k x ps sp) (hr : Room k X.A) (hx : Passes CX X E) (hg : Gl X x := by rfl) (hdb : (x == ("__debug__" : Str)) = false := by decide) : PE X (.Call (.Name x p) [] [] pos) (fun _ H Q => sp [] H Q E) := by
  obtain ⟨f, fd, F, g, kp, bd, _⟩ := G.ex
  exact ⟨fun pins s σ H Q I h => (pe_call0 F hr hg g kp bd .nil hx hdb).run pins s σ H Q I h⟩
/-- one keyword's value alone -/
def lone {α : Type} (us ws : List α) : List α := match us, ws with
  | [], [u] => [u]
  | _, _ => []
/-- f(p = e), p the only parameter -/
theorem pe_clK {y : Str} {kp kpos : Pos} (G : Cal X.prog X.w X.K X.mg X.base CX k x [y] sp) (hr : Room k X.A) (hx : Passes CX X E) (ha : PE X e te) (hg : Gl X x := by rfl) (hdb : (x == ("__debug__" : Str)) = false := by decide)
    (hall : (backToKw pos (keywordEach [⟨some y, e, kpos⟩] X.env)).all (·.1.isSome) = true := by rfl) (hks : (backToKw pos (keywordEach [⟨some y, e, kpos⟩] X.env)).filterMap (·.1) = [y] := by rfl)
    (hpl : ((backTo pos (starEach [] X.env)).any (·.1) || (backToKw pos (keywordEach [⟨some y, e, kpos⟩] X.env)).any (·.1.isNone)) = false := by rfl) :
    PE X (.Call (.Name x p) [] [⟨some y, e, kpos⟩] pos) (fun σ H Q => te σ H fun v H1 => sp [v] H1 Q E) := by
  obtain ⟨f, fd, F, g, kf, _, kb⟩ := G.ex
  refine ⟨fun pins s σ H Q I h => ?_⟩
  refine wpAny_Call_Name_kw (ld_glob I hg g ?_ hdb)
  refine W.callWith_KW0 (h₀ := X.base) I.ok.mod.kin kf hall (thn ((pk_cons ha pk_nil).run pos pins s σ H (fun vs H1 => ∃ v, vs = [v] ∧ sp [v] H1 Q E) I ?_) fun ws s2 ⟨zs, H2, I2, rz, v, ez, q⟩ => ⟨I2.kIn, ?_⟩) hpl
  · show te σ H fun v H1 => ∃ u, [v] = [u] ∧ sp [u] H1 Q E
    have e2 : (fun (v : V) (H1 : Hp) => ∃ u, [v] = [u] ∧ sp [u] H1 Q E) = fun v H1 => sp [v] H1 Q E := by
      funext v H1
      refine propext ⟨fun ⟨u, eu, q⟩ => ?_, fun q => ⟨v, rfl, q⟩⟩
      cases eu
      exact q
    rw [e2]
    exact h
  · rw [hks]
    subst ez
    obtain ⟨u, rfl, ru⟩ := vals1 rz
    have kB : KBinds X.K fd [y] [y] lone lone := by
      refine ⟨fun s us ws _ hl => ?_, fun {vs us zs ws} r1 r2 => ?_⟩
      · cases us with
        | cons _ _ => cases hl
        | nil =>
          cases ws with
          | nil => cases hl
          | cons u r =>
            cases r with
            | nil => exact kb y rfl s u
            | cons _ _ => cases hl
      · cases r1 with
        | cons _ _ => exact .nil
        | nil =>
          cases r2 with
          | nil => exact .nil
          | cons r r' =>
            cases r' with
            | nil => exact .cons r .nil
            | cons _ _ => exact .nil
    exact run_fnk (us := []) (vs := []) F hr kB hx I2 .nil rz q
def tMt (C : Addr) (m : Str) (sp : Sp) (E : XK) (ta : TE) (t : TA) : TE := fun σ H Q => ta σ H fun x H1 => ∃ a dx fs, x = .ref a ∧ H1 a = some (.ins C dx fs) ∧ fs.lookup m = none ∧ t σ H1 fun vs H2 => sp (x :: vs) H2 Q E
/-- o.m(e, ..) -/
theorem pe_mt {pl : Sem Bool} {to : TE} (he : PE X o to) (c : Cls X.K C) (G : Met X.prog X.w X.K X.mg X.base CX k C m ps sp) (hr : Room k X.A) (hx : Passes CX X E) (ha : PA X (e :: es) t)
    (hst : starEach (e :: es) X.env = (false, eval e X.env) :: starEach es X.env := by rfl) (hpl : (backTo pos (starEach es X.env)).any (·.1) = false := by rfl)
    (ht : eval (.Call (.Attribute o m apos) (e :: es) [] pos) X.env = (do
      let ov ← eval o X.env
      standAt apos.atName
      let (f, first) ← holding [ov] (getMethod ov m pl)
      callWith pos f first (backTo pos (starEach (e :: es) X.env)) (backToKw pos (keywordEach [] X.env))) := by rfl) : PE X (.Call (.Attribute o m apos) (e :: es) [] pos) (tMt C m sp E to t) := by
  obtain ⟨f, fd, F, hm, bd⟩ := G.ex
  refine ⟨fun pins s σ H Q I h => (pe_meth he c hm F hr bd .nil hx ha hst hpl ht).run pins s σ H Q I ?_⟩
  show to σ H fun x H1 => ∃ a dx fs, x = .ref a ∧ H1 a = some (.ins C dx fs) ∧ fs.lookup m = none ∧ t σ H1 fun vs H2 => sp (x :: (vs ++ [])) H2 Q E
  simp only [List.append_nil]
  exact h
/-- o.m() -/
theorem pe_mt0 {pl : Sem Bool} {to : TE} (he : PE X o to) (c : Cls X.K C) (G : Met X.prog X.w X.K X.mg X.base CX k C m ps sp) (hr : Room k X.A) (hx : Passes CX X E)
    (ht : eval (.Call (.Attribute o m apos) [] [] pos) X.env = (do
      let ov ← eval o X.env
      standAt apos.atName
      let (f, first) ← holding [ov] (getMethod ov m pl)
      callWith pos f first (backTo pos (starEach [] X.env)) (backToKw pos (keywordEach [] X.env))) := by rfl) : PE X (.Call (.Attribute o m apos) [] [] pos) (tMt C m sp E to tNil) := by
  obtain ⟨f, fd, F, hm, bd⟩ := G.ex
  exact ⟨fun pins s σ H Q I h => (pe_meth0 he c hm F hr bd .nil hx ht).run pins s σ H Q I h⟩
def tMk (C : Addr) (sp : Sp) (E : XK) (t : TA) : TE := fun σ H Q => t σ H fun vs H1 => ∀ x dx, H1 x = none → H1 dx = none → dx ≠ x → sp (.ref x :: vs) (upd (upd H1 dx (.own x)) x (.ins C dx [])) (fun v H2 => v = .non ∧ Q (.ref x) H2) E
/-- C(e, ..) -/
theorem pe_mk (G : Ini X.prog X.w X.K X.mg X.base CX k x C ps sp) (hr : Room (k + 1) X.A) (hx : Passes CX X E) (ha : PA X (e :: es) t) (hg : Gl X x := by rfl) (hdb : (x == ("__debug__" : Str)) = false := by decide)
    (he : starEach (e :: es) X.env = (false, eval e X.env) :: starEach es X.env := by rfl) (hpl : (backTo pos (starEach es X.env)).any (·.1) = false := by rfl) : PE X (.Call (.Name x p) (e :: es) [] pos) (tMk C sp E t) := by
  obtain ⟨f, fd, F, M, bd⟩ := G.ex
  refine ⟨fun pins s σ H Q I h => (pe_make M F hr hg G.gl bd .nil hx ha hdb he hpl).run pins s σ H Q I ?_⟩
  show t σ H fun vs H1 => ∀ x dx, H1 x = none → H1 dx = none → dx ≠ x → sp (.ref x :: (vs ++ [])) (upd (upd H1 dx (.own x)) x (.ins C dx [])) (fun v H2 => v = .non ∧ Q (.ref x) H2) E
  simp only [List.append_nil]
  exact h
/-- a call that raises nothing, of a def that may -/
theorem passN {P : Program} {w : World} {X : Cx} : Passes (L2.CX P w) X E0 := fun _ _ _ _ _ _ _ ⟨_, _, _, _, _, _, _, _, _, _, _, _, z⟩ => z.elim
/-- within a def that may raise -/
theorem passX {X : Cx} {W : WX} {E : XK} (tk : Takes X W) (hW : ∀ cls d σ H, E cls d H → W cls d σ H) : Passes (L2.CX X.prog X.w) X E := passes_call tk hW
end
end Ow

end
section
/-! Ow7: data at any depth: its type, its order, repr. -/
namespace Ow
open PySem L2
open PySem.Spec PyProof.Rows

/-! ### data -/
/-- a datum, or an empty dict -/
def Vd (K : W.Frag) (H : Hp) (v : V) (d : PyData) : Prop := Dp K H v d ∨ ∃ a, v = .ref a ∧ H a = some (.dK []) ∧ d = .dict []
theorem Vd.of {K : W.Frag} {H : Hp} {v : V} {d : PyData} (h : Dp K H v d) : Vd K H v d := .inl h
mutual
theorem Dp.ext {K : W.Frag} {H H' : Hp} (e : Ext H H') : ∀ {d : PyData} {v : V}, Dp K H v d → Dp K H' v d
  | .none, _, h => by cases h; exact .non
  | .bool b, _, h => by cases h; exact .bl b
  | .int i, _, h => by cases h; exact .int i
  | .str x, _, h => by cases h; exact .str x
  | .list ds, _, h => by
    cases h with
    | lst q r => exact .lst (q.ext e) (DpAll.ext e r)
  | .tuple ds, _, h => by
    cases h with
    | tup q r => exact .tup (q.ext e) (DpAll.ext e r)
  | .dict _, _, h => by cases h
theorem DpAll.ext {K : W.Frag} {H H' : Hp} (e : Ext H H') : ∀ {ds : List PyData} {vs : List V}, DpAll K H vs ds → DpAll K H' vs ds
  | [], _, h => by cases h; exact .nil
  | _ :: _, _, h => by
    cases h with
    | cons q r => exact .cons (Dp.ext e q) (DpAll.ext e r)
end
theorem Vd.ext {K : W.Frag} {H H' : Hp} (e : Ext H H') {d : PyData} {v : V} (h : Vd K H v d) : Vd K H' v d := by
  rcases h with h | ⟨a, h1, h2, h3⟩
  · exact .inl (Dp.ext e h)
  · exact .inr ⟨a, h1, e _ _ h2, h3⟩
theorem DpAll.length {K : W.Frag} {H : Hp} : ∀ {ds : List PyData} {vs : List V}, DpAll K H vs ds → vs.length = ds.length
  | [], _, h => by cases h; rfl
  | _ :: _, _, h => by
    cases h with
    | cons _ r => rw [List.length_cons, List.length_cons, DpAll.length r]
theorem DpAll.get {K : W.Frag} {H : Hp} : ∀ {ds : List PyData} {vs : List V} {i : Nat} {d : PyData}, DpAll K H vs ds → ds[i]? = some d → ∃ v, vs[i]? = some v ∧ Dp K H v d
  | [], _, i, d, h, e => by simp at e
  | x :: r, _, 0, d, h, e => by
    cases h with
    | cons q _ =>
      cases e
      exact ⟨_, rfl, q⟩
  | x :: r, _, i + 1, d, h, e => by
    cases h with
    | cons _ q => exact DpAll.get (i := i) q (by simpa using e)
theorem DpAll.getV {K : W.Frag} {H : Hp} : ∀ {ds : List PyData} {vs : List V} {i : Nat} {v : V}, DpAll K H vs ds → vs[i]? = some v → ∃ d, ds[i]? = some d ∧ Dp K H v d
  | _, [], i, v, h, e => by simp at e
  | _, x :: r, 0, v, h, e => by
    cases h with
    | cons q _ =>
      cases e
      exact ⟨_, rfl, q⟩
  | _, x :: r, i + 1, v, h, e => by
    cases h with
    | cons _ q => exact DpAll.getV (i := i) q (by simpa using e)
theorem DpAll.app {K : W.Frag} {H : Hp} : ∀ {ds es : List PyData} {vs us : List V}, DpAll K H vs ds → DpAll K H us es → DpAll K H (vs ++ us) (ds ++ es)
  | [], _, _, _, h, g => by cases h; exact g
  | _ :: _, _, _, _, h, g => by
    cases h with
    | cons q r => exact .cons q (DpAll.app r g)
theorem DpAll.one {K : W.Frag} {H : Hp} {v : V} {d : PyData} (h : Dp K H v d) : DpAll K H [v] [d] := .cons h .nil
theorem DpAll.drop {K : W.Frag} {H : Hp} : ∀ (n : Nat) {ds : List PyData} {vs : List V}, DpAll K H vs ds → DpAll K H (vs.drop n) (ds.drop n)
  | 0, _, _, h => h
  | n + 1, [], _, h => by cases h; exact .nil
  | n + 1, _ :: _, _, h => by
    cases h with
    | cons _ r => exact DpAll.drop n r
theorem DpAll.take {K : W.Frag} {H : Hp} : ∀ (n : Nat) {ds : List PyData} {vs : List V}, DpAll K H vs ds → DpAll K H (vs.take n) (ds.take n)
  | 0, _, _, h => .nil
  | n + 1, [], _, h => by cases h; exact .nil
  | n + 1, _ :: _, _, h => by
    cases h with
    | cons q r => exact .cons q (DpAll.take n r)
theorem DpAll.strs {K : W.Frag} {H : Hp} : ∀ (l : List Str), DpAll K H (l.map V.str) (l.map PyData.str)
  | [] => .nil
  | x :: r => .cons (.str x) (DpAll.strs r)
theorem DpAll.ints {K : W.Frag} {H : Hp} : ∀ (l : List Int), DpAll K H (l.map V.int) (l.map PyData.int)
  | [] => .nil
  | x :: r => .cons (.int x) (DpAll.ints r)
/-- a text's datum is a text -/
theorem Vd.str {K : W.Frag} {H : Hp} {v : V} {x : Str} (h : Vd K H v (.str x)) : v = .str x := by
  rcases h with h | ⟨_, _, _, h⟩
  · cases h; rfl
  · cases h
theorem Vd.int {K : W.Frag} {H : Hp} {v : V} {i : Int} (h : Vd K H v (.int i)) : v = .int i := by
  rcases h with h | ⟨_, _, _, h⟩
  · cases h; rfl
  · cases h
theorem Dp.strV {K : W.Frag} {H : Hp} {v : V} {x : Str} (h : Dp K H v (.str x)) : v = .str x := by cases h; rfl
theorem Dp.intV {K : W.Frag} {H : Hp} {v : V} {i : Int} (h : Dp K H v (.int i)) : v = .int i := by cases h; rfl
theorem Dp.nonV {K : W.Frag} {H : Hp} {v : V} (h : Dp K H v .none) : v = .non := by cases h; rfl
theorem Dp.blV {K : W.Frag} {H : Hp} {v : V} {b : Bool} (h : Dp K H v (.bool b)) : v = .bl b := by cases h; rfl
theorem Dp.lstV {K : W.Frag} {H : Hp} {v : V} {ds : List PyData} (h : Dp K H v (.list ds)) : ∃ a xs, v = .ref a ∧ SqL K H a xs ∧ DpAll K H xs ds := by
  cases h with
  | lst q r => exact ⟨_, _, rfl, q, r⟩
theorem Dp.tupV {K : W.Frag} {H : Hp} {v : V} {ds : List PyData} (h : Dp K H v (.tuple ds)) : ∃ a xs, v = .ref a ∧ SqT K H a xs ∧ DpAll K H xs ds := by
  cases h with
  | tup q r => exact ⟨_, _, rfl, q, r⟩

/-! ### types -/
def tyName : PyData → String
  | .none => "NoneType"
  | .bool _ => "bool"
  | .int _ => "int"
  | .str _ => "str"
  | .list _ => "list"
  | .tuple _ => "tuple"
  | .dict _ => "dict"
theorem SqL.tyx {K : W.Frag} {H : Hp} {a : Addr} {xs : List V} (h : SqL K H a xs) : TyX K H (.ref a) (.type "list") := by
  rcases h with (h | ⟨o, h⟩) | ⟨o, its, n, h, c, _⟩
  · exact .base (.lst h)
  · exact .base (.frz h)
  · exact .kList h c
theorem SqT.tyx {K : W.Frag} {H : Hp} {a : Addr} {xs : List V} (h : SqT K H a xs) : TyX K H (.ref a) (.type "tuple") := by
  rcases h with (h | ⟨o, h⟩) | ⟨o, its, n, h, c, _⟩
  · exact .base (.tup h)
  · exact .fTuple h
  · exact .kTuple h c
theorem Vd.tyx {K : W.Frag} {H : Hp} {v : V} {d : PyData} (h : Vd K H v d) : TyX K H v (.type (tyName d)) := by
  rcases h with h | ⟨a, rfl, h, rfl⟩
  · cases h with
    | non => exact .base .non
    | bl b => exact .base (.bl b)
    | int i => exact .base (.int i)
    | str x => exact .base (.str x)
    | lst q _ => exact SqL.tyx q
    | tup q _ => exact SqT.tyx q
  · exact .base (.dK h)
def dInt : PyData → Bool
  | .int _ => true
  | _ => false
def dBool : PyData → Bool
  | .bool _ => true
  | _ => false
def dStr : PyData → Bool
  | .str _ => true
  | _ => false
def dSeq : PyData → Bool
  | .list _ => true
  | .tuple _ => true
  | _ => false
theorem kit_int (d : PyData) : kitB (tyName d) "int" = some (dInt d || dBool d) := by cases d <;> simp only [tyName, dInt, dBool, Bool.or_true, Bool.or_false] <;> decide +kernel
theorem kit_bool (d : PyData) : kitB (tyName d) "bool" = some (dBool d) := by cases d <;> simp only [tyName, dBool] <;> decide +kernel
theorem kit_str (d : PyData) : kitB (tyName d) "str" = some (dStr d) := by cases d <;> simp only [tyName, dStr] <;> decide +kernel
def dLst : PyData → Bool
  | .list _ => true
  | _ => false
def dTup : PyData → Bool
  | .tuple _ => true
  | _ => false
theorem kit_list (d : PyData) : kitB (tyName d) "list" = some (dLst d) := by cases d <;> simp only [tyName, dLst] <;> decide +kernel
theorem kit_tuple (d : PyData) : kitB (tyName d) "tuple" = some (dTup d) := by cases d <;> simp only [tyName, dTup] <;> decide +kernel
/-- isinstance(x, T) of a datum -/
theorem isi_rd {K : W.Frag} {H : Hp} {v : V} {d : PyData} {n : String} {b : Bool} {Q : VK} (h : Vd K H v d) (e : kitB (tyName d) n = some b) (q : Q (.bl b) H) : rIsi K [v, .ty n] H Q :=
  ⟨v, .ty n, _, _, b, rfl, .ty n, h.tyx, kit_ty e, q⟩
theorem isi2_rd {K : W.Frag} {H : Hp} {v : V} {d : PyData} {tp : Addr} {Q : VK} (h : Vd K H v d) (ht : H tp = some (.tup [.ty "list", .ty "tuple"])) (q : Q (.bl (dSeq d)) H) : rIsiT K [v, .ref tp] H Q := by
  refine ⟨v, tp, _, _, [.type "list", .type "tuple"], dSeq d, rfl, ht, .cons (.ty _) (.cons (.ty _) .nil), h.tyx, ?_, q⟩
  refine kitAny_cons (kit_ty (kit_list d)) (fun e1 => kitAny_cons (kit_ty (kit_tuple d)) (fun e2 => ?_) fun e2 => ?_) fun e1 => ?_
  · rw [kitAny_nil]
    cases d <;> simp_all [dSeq, dLst, dTup]
  · cases d <;> simp_all [dSeq, dTup]
  · cases d <;> simp_all [dSeq, dLst]
end Ow

end
section
/-! Ow8: readings cut in two: a statement's own, what comes behind. -/
namespace Ow
open PySem L2
open PySem.Spec PyProof.Rows
section
variable {te : TE} {tt : TT} {g : TG} {i : Nat} {t a b tb : TS} {D : Ends} {σ : L2.St} {H : Hp}
theorem cut_asg (P : V → Hp → Prop) (h : ∀ Q : VK, (∀ v H', P v H' → Q v H') → te σ H Q) (k : ∀ v H', P v H' → t D (σ.set i (some v)) H') : tSeq (tAsg te (gName i)) t D σ H := h _ k
theorem cut_drop (P : V → Hp → Prop) (h : ∀ Q : VK, (∀ v H', P v H' → Q v H') → te σ H Q) (k : ∀ v H', P v H' → t D σ H') : tSeq (tDrop te) t D σ H := h _ k
theorem cut_if (P : Bool → Hp → Prop) (h : ∀ Q : Bool → Hp → Prop, (∀ c H', P c H' → Q c H') → tt σ H Q) (k : ∀ c H', P c H' → if c = true then a { D with nx := t D } σ H' else b { D with nx := t D } σ H') : tSeq (tIfS tt a b) t D σ H := h _ k
theorem cut_if1 (P : Bool → Hp → Prop) (h : ∀ Q : Bool → Hp → Prop, (∀ c H', P c H' → Q c H') → tt σ H Q) (k : ∀ c H', P c H' → if c = true then a D σ H' else b D σ H') : tIfS tt a b D σ H := h _ k
theorem cut_ifn (P : Bool → Hp → Prop) (h : ∀ Q : Bool → Hp → Prop, (∀ c H', P c H' → Q c H') → tt σ H Q) (k : ∀ c H', P c H' → if c = true then a { D with nx := t D } σ H' else t D σ H') : tSeq (tIfS tt a tNext) t D σ H := h _ k
/-- a statement that only goes on -/
theorem cut_tseq {st : TS} (P : L2.St → Hp → Prop) (h : ∀ nx : L2.St → Hp → Prop, (∀ σ' H', P σ' H' → nx σ' H') → st { D with nx := nx } σ H) (k : ∀ σ' H', P σ' H' → t D σ' H') : tSeq st t D σ H := h _ k
/-- a value -/
theorem cut_te (P : V → Hp → Prop) {Q : VK} (h : ∀ Q : VK, (∀ v H', P v H' → Q v H') → te σ H Q) (k : ∀ v H', P v H' → Q v H') : te σ H Q := h _ k
theorem cut_tt (P : Bool → Hp → Prop) {Q : Bool → Hp → Prop} (h : ∀ Q : Bool → Hp → Prop, (∀ v H', P v H' → Q v H') → tt σ H Q) (k : ∀ v H', P v H' → Q v H') : tt σ H Q := h _ k
end

theorem map_of {α β : Type} {g : α → β} {a : List α} {ys : List β} (hl : ys.length = a.length) (h : ∀ (i : Nat) (y : β), ys[i]? = some y → ∃ c, a[i]? = some c ∧ y = g c) : ys = a.map g := by
  refine List.ext_getElem? fun i => ?_
  rw [List.getElem?_map]
  cases e : ys[i]? with
  | none =>
    rw [List.getElem?_eq_none (by have := List.getElem?_eq_none_iff.mp e; omega)]
    rfl
  | some y =>
    obtain ⟨c, e1, e2⟩ := h i y e
    rw [e1, e2]
    rfl
/-- all of a comprehension's answers -/
theorem all_rd {K : W.Frag} {H : Hp} {D : Addr} {bs : List Bool} {Q : VK} (h : H D = some (.lst (bs.map V.bl))) (q : Q (.bl (bs.all id)) H) : rAll K [.ref D] H Q := ⟨D, bs, rfl, SqL.of h, q⟩
section
variable {J : It} {n : Nat} {G : Hp → Prop} {Y : Nat → Hp → V → Hp → Prop}
/-- a comprehension whose element's values are told without the heap -/
theorem lc_scal (w : Walk J n G Y) {g : TG} {te : TE} {vs : List Nat} {σ : L2.St} {H1 : Hp} {D : Addr} {Qd : Hp → Prop} (hD : H1 D = none) (R : Nat → V → Prop) (hn : n < sizeLine) (hG : ∀ H, Ext H1 H → G H) (hY : ∀ i H x H', Y i H x H' → Ext H H')
    (hs : ∀ i x H H', i < n → Ext H1 H → Y i H x H' → ∀ Q' : VK, (∀ y H2, Ext H' H2 → R i y → Q' y H2) → g x (wipe σ vs) H' fun σ2 H2 => wipe σ2 vs = wipe σ vs ∧ te σ2 H2 Q')
    (hd : ∀ ys H, ys.length = n → (∀ i y, ys[i]? = some y → R i y) → Ext H1 H → H D = some (.lst ys) → Qd H) :
    ∃ W : Nat → Nat → Hp → Prop, (∃ m, W 0 m (upd H1 D (.lst []))) ∧ ∀ i m H, W i m H →
      (J.stop i H ∧ Qd H) ∨ (J.go i H ∧ ∃ Nx : Hp → Prop, (∀ H', Nx H' → ∃ m', m' < m ∧ W (i + 1) m' H') ∧ ∀ x H', J.yld i H x H' → g x (wipe σ vs) H' fun σ2 H2 => wipe σ2 vs = wipe σ vs ∧ tYes σ2 H2 fun b H3 =>
        if b = true then te σ2 H3 fun y H4 => ∃ acc, H4 D = some (.lst acc) ∧ acc.length < sizeLine ∧ Nx (upd H4 D (.lst (acc ++ [y]))) else Nx H3) := by
  have k0 : ∀ {H2 : Hp} {o : HO}, Ext H1 H2 → Ext H1 (upd H2 D o) := fun {H2 o} e b u hb => by
    rw [upd_ne (ne_of_none hb hD)]
    exact e b u hb
  refine lc_it w (fun i H => ∃ ys, ys.length = i ∧ (∀ j y, ys[j]? = some y → R j y) ∧ Ext H1 H ∧ H D = some (.lst ys)) ⟨[], rfl, fun j y e => by simp at e, k0 Ext.rfl', upd_same⟩ (fun i H _ ⟨_, _, _, e, _⟩ => hG H e) ?_ ?_
  · rintro i x H H' hi ⟨ys, hl, hR, e, hDy⟩ y
    refine hs i x H H' hi e y (fun z H4 => ∃ acc, H4 D = some (.lst acc) ∧ acc.length < sizeLine ∧ ∃ ys, ys.length = i + 1 ∧ (∀ j y, ys[j]? = some y → R j y) ∧ Ext H1 (upd H4 D (.lst (acc ++ [z]))) ∧ upd H4 D (.lst (acc ++ [z])) D = some (.lst ys)) fun z H4 e4 hz => ?_
    have e5 : Ext H H4 := (hY i H x H' y).trans e4
    refine ⟨ys, e5 _ _ hDy, by rw [hl]; exact Nat.lt_trans hi hn, ys ++ [z], by rw [List.length_append, hl]; rfl, fun j u hj => ?_, k0 (e.trans e5), upd_same⟩
    by_cases c : j < i
    · rw [List.getElem?_append_left (by omega)] at hj
      exact hR j u hj
    · rw [List.getElem?_append_right (by omega)] at hj
      have c2 : j = i := by
        by_cases c3 : j - ys.length = 0
        · omega
        · rw [List.getElem?_eq_none (by simp; omega)] at hj
          cases hj
      subst c2
      rw [hl, Nat.sub_self] at hj
      cases hj
      exact hz
  · rintro H ⟨ys, hl, hR, e, hDy⟩
    exact hd ys H hl hR e hDy
end
end Ow

end
section
/-! Ow9: texts as lists of code points: slices, comparisons, signs. -/
namespace Ow
open PySem L2
open PySem.Spec PyProof.Rows
abbrev S (l : List Nat) : Str := SX.S l
theorem S_of (x : Str) : x = S x.cps.toList := by cases x; simp [S, SX.S]
theorem S_len (a : List Nat) : (S a).length = a.length := SX.S_len a
theorem S_inj {a b : List Nat} (h : S a = S b) : a = b := SX.S_inj h
theorem dec_S {a b : List Nat} : decide (V.str (S a) = V.str (S b)) = decide (a = b) := by
  by_cases c : a = b
  · subst c
    simp
  · rw [decide_eq_false c, decide_eq_false]
    intro z
    cases z
    exact c rfl
theorem rEq_S {a b : List Nat} {s : Str} {H : Hp} {Q : VK} (e : s = S b) (q : Q (.bl (decide (a = b))) H) : rEq (.str (S a)) (.str s) H Q := by
  subst e
  refine ⟨rfl, ?_⟩
  rw [dec_S]
  exact q
theorem rNe_S {a b : List Nat} {s : Str} {H : Hp} {Q : VK} (e : s = S b) (q : Q (.bl (!decide (a = b))) H) : rNe (.str (S a)) (.str s) H Q := by
  subst e
  refine ⟨rfl, ?_⟩
  rw [dec_S]
  exact q
theorem S_take {a : List Nat} {n : Nat} : cutS (S a) none (some (n : Int)) = S (a.take n) := by
  unfold cutS
  rw [S_len, HT.sIx_none, HT.sIx_nat, Nat.sub_zero, List.drop_zero]
  have e : (S a).cps.toList = a := by simp [S, SX.S]
  rw [e]
  by_cases c : n ≤ a.length
  · rw [Nat.min_eq_left c]
  · rw [Nat.min_eq_right (by omega), List.take_of_length_le (Nat.le_refl _), List.take_of_length_le (by omega)]
theorem S_drop {a : List Nat} {n : Nat} : cutS (S a) (some (n : Int)) none = S (a.drop n) := by
  unfold cutS
  rw [S_len, HT.sIx_none, HT.sIx_nat]
  have e : (S a).cps.toList = a := by simp [S, SX.S]
  rw [e]
  by_cases c : n ≤ a.length
  · rw [Nat.min_eq_left c, List.take_of_length_le (by simp)]
  · rw [Nat.min_eq_right (by omega), Nat.sub_self, List.take_zero, List.drop_of_length_le (by omega)]
/-- s[:n], s[n:] -/
theorem rTake_S {a : List Nat} {n : Nat} {H : Hp} {Q : VK} (hl : a.length ≤ sizeLine) (q : Q (.str (S (a.take n))) H) : rSlS (.str (S a)) none (some (n : Int)) H Q := ⟨S a, rfl, by rw [S_len]; exact hl, by rw [S_take]; exact q⟩
theorem rDrop_S {a : List Nat} {n : Nat} {H : Hp} {Q : VK} (hl : a.length ≤ sizeLine) (q : Q (.str (S (a.drop n))) H) : rSlS (.str (S a)) (some (n : Int)) none H Q := ⟨S a, rfl, by rw [S_len]; exact hl, by rw [S_drop]; exact q⟩
/-- s[i] -/
theorem rAt_S {a : List Nat} {n : Nat} {c : Nat} {H : Hp} {Q : VK} (hl : a.length ≤ sizeLine) (hc : a[n]? = some c) (q : Q (.str (S [c])) H) : rIxS (.str (S a)) (.int (n : Int)) H Q :=
  ⟨S a, (n : Int), c, rfl, rfl, by rw [S_len]; exact hl, atI_nat (by simpa [S, SX.S] using hc), q⟩
theorem lt_one {c d : Nat} : (([c] : List Nat) < [d]) ↔ c < d := by
  rw [List.cons_lt_cons_iff]
  simp
/-- one sign against a written one -/
theorem sign_lt {c d : Nat} {s : Str} (e : s = S [d]) : decide (({ cps := #[c] } : Str).cps.toList < s.cps.toList) = decide (c < d) := by
  subst e
  rw [Bool.eq_iff_iff, decide_eq_true_eq, decide_eq_true_eq]
  exact lt_one
theorem sign_gt {c d : Nat} {s : Str} (e : s = S [d]) : decide (s.cps.toList < ({ cps := #[c] } : Str).cps.toList) = decide (d < c) := by
  subst e
  rw [Bool.eq_iff_iff, decide_eq_true_eq, decide_eq_true_eq]
  exact lt_one
theorem if_t {c : Bool} {A B : Prop} (hc : c = true) (h : A) : if c = true then A else B := by rw [if_pos hc]; exact h
theorem if_f {c : Bool} {A B : Prop} (hc : c = false) (h : B) : if c = true then A else B := by rw [hc, if_neg Bool.false_ne_true]; exact h

/-! ### numbers in texts -/
def isDig (c : Nat) : Bool := decide (48 ≤ c) && decide (c ≤ 57)
/-- a text's signs behind a minus -/
def dgl (a : List Nat) : List Nat := if a.take 1 = [45] then a.drop 1 else a
def okD (d : List Nat) : Bool := decide (d ≠ []) && (decide (d.length ≤ 60) && d.all isDig)
def okN (a : List Nat) : Bool := okD (dgl a) && (decide ((dgl a).head? ≠ some 48) || decide (a = [48]))
def numOf (a : List Nat) : Int := if a.take 1 = [45] then -((NumText.digitsVal (a.drop 1) : Nat) : Int) else ((NumText.digitsVal a : Nat) : Int)
def numIn (a : List Nat) : Option Int := if okN a = true then some (numOf a) else none
theorem dgl_len (a : List Nat) : (dgl a).length ≤ a.length ∧ a.length ≤ (dgl a).length + 1 := by
  unfold dgl
  split
  · simp
    omega
  · omega
theorem num_text {a : List Nat} (h : okD (dgl a) = true) : PySem.intText? (S a) = some (numOf a) := by
  simp only [okD, Bool.and_eq_true, decide_eq_true_eq] at h
  obtain ⟨h1, h2, h3⟩ := h
  have hl := dgl_len a
  have ad : NumText.AllDigits (dgl a) := fun c hc => by
    have z := List.all_eq_true.mp h3 c hc
    simpa [isDig] using z
  have el : (S a).cps.toList = a := by simp [S, SX.S]
  have hlen : (S a).length ≤ 4300 := by
    rw [S_len]
    omega
  unfold numOf
  by_cases c : a.take 1 = [45]
  · rw [if_pos c]
    have e : dgl a = a.drop 1 := by rw [dgl, if_pos c]
    rw [e] at ad h1
    refine intText_neg ?_ ad h1 hlen
    rw [el]
    conv => lhs; rw [← List.take_append_drop 1 a]
    rw [c]
    rfl
  · rw [if_neg c]
    have e : dgl a = a := by rw [dgl, if_neg c]
    rw [e] at ad h1
    have z := intText_digits (x := S a) (by rw [el]; exact ad) (by rw [el]; exact h1) hlen
    rw [el] at z
    exact z
/-! ### one sign many times -/
theorem rep_fold (c : Nat) : ∀ (n : Nat) (acc : Array Nat), (List.replicate n #[c]).foldl (· ++ ·) acc = acc ++ (List.replicate n c).toArray
  | 0, acc => by simp
  | n + 1, acc => by
    rw [List.replicate_succ, List.foldl_cons, rep_fold c n, List.replicate_succ, Array.append_assoc]
    congr 1
    simp
def rRepS : R2 := fun x y H Q => ∃ (c : Nat) (n : Int), x = .str (S [c]) ∧ y = .int n ∧ 2 ≤ n ∧ n ≤ 1000 ∧ Q (.str (S (List.replicate n.toNat c))) H
theorem op_repS {X : Cx} : OpR X (binaryOp .Mult) rRepS := by
  intro pins s σ H x y v u Q I rx ry h
  obtain ⟨c, n, rfl, rfl, h1, h2, q⟩ := h
  obtain ⟨t, rfl⟩ := rx
  obtain ⟨t', rfl⟩ := ry
  have hn : ¬ n < 1 := by omega
  have e1 : (n == 1 || (S [c]).length == 0) = false := by
    rw [S_len]
    have : (n == 1) = false := by
      rw [beq_eq_false_iff_ne]
      omega
    rw [this]
    rfl
  have e2 : (⟨(List.replicate n.toNat (S [c]).cps).foldl (· ++ ·) #[]⟩ : Str) = S (List.replicate n.toNat c) := by
    show (⟨(List.replicate n.toNat #[c]).foldl (· ++ ·) #[]⟩ : Str) = _
    rw [rep_fold]
    simp [S, SX.S]
  have hlen : (S (List.replicate n.toNat c)).length ≤ 1000 := by
    rw [S_len, List.length_replicate]
    omega
  refine PySem.P.mul_str (by
    rw [decide_eq_false (by omega), decide_eq_false (by omega)]
    rfl) (fun _ _ => ?_) (fun _ _ => ?_) ?_
  · rw [S_len]
    have : (1 : Int) ≤ (2 ^ 63 - 1) / n := Int.le_ediv_of_mul_le (by omega) (by omega)
    show ¬ ((1 : Int) > _)
    omega
  · rw [S_len]
    show decide (1 * n.toNat > sizeLine) = false
    refine decide_eq_false ?_
    have := small1000 (n := n.toNat) (by omega)
    omega
  · rw [if_neg hn, e1, if_neg Bool.false_ne_true, e2]
    exact ⟨Nat.le_of_lt (small1000 hlen), ⟨.str _, H, I.tok _, ⟨_, rfl⟩, q⟩⟩
end Ow

end
section
/-! Ow1: own exceptions whose __init__ says super().__init__(text); self.f = p, under a base of one's own over ValueError. -/
namespace Ow
open PySem L2
open PySem.Spec PyProof.Rows

/-- a one-way wish: the context of such an __init__ -/
def cxSup (P : Program) (w : World) (K : W.Frag) (mg : Str → Option Value) (base : Heap) (N : List Str)
    (qual : Str) (scope : Scope) (f : Addr) (cd : Value) (cc : Addr) (A : Around) (outer : List Env) (s : Shared) (H : Hp)
    (xe : Value → Shared → Prop) : Cx where
  prog := P
  w := w
  K := K
  mg := mg
  base := base
  A := A.deeper (W.ksEnv qual scope s.heap.objs.size f cd cc)
  N := N
  s_0 := s
  H_0 := H
  env := W.ksEnv qual scope s.heap.objs.size f cd cc
  outer := outer
  stack := W.ksEnv qual scope s.heap.objs.size f cd cc :: outer
  ex := []
  calm := true
  fn := fun _ => false
  pn := []
  xe := xe

/-- what the written part says of such a class and its __init__ -/
structure SupInit (P : Program) (K : W.Frag) (D : Addr) (qual : Str) (params : Arguments) (body : List Stmt) (scope : Scope) (f : Addr) (fd : FuncData) (cc cda : Addr) : Prop where
  lk : ∃ (oc : Value) (od : Option Addr) (osl : Array (Option Value)) (kV doc pm ct : Value) (an : Option Addr),
    fd = W.ksFn "__init__" qual params body scope .none kV doc pm an (.ref cda) ct cc ∧ K.lookup f = some ⟨oc, od, .func fd, osl⟩
  code : W.codeIn K (.ref cda) qual = true
  cfile : ∃ (ccl : Value) (cdd : Option Addr) (ccs : Array (Option Value)) (vs : Array Value) (tf : Tok), K.lookup cda = some ⟨ccl, cdd, .fields vs, ccs⟩ ∧ vs[2]? = some (.str P.main.file tf)
  cell : ∃ (cl : Value) (cld : Option Addr) (csl : Array (Option Value)), K.lookup cc = some ⟨cl, cld, .cell (some (.ref D)), csl⟩
  opq : W.nsIn K cStatics "thirdparty.any" = some none
  found : W.ks_superIn K D D "__init__" = some (some (.builtin "ValueError.__init__"))
  sup : W.nsIn K mainGlobals "super" = some none

/-- __init__(self, p): the field f is laid in a new dict -/
def spSup (C : Addr) (f : Str) : Sp := fun vs H Q _ => ∃ (a : Addr) (v : V), vs = [.ref a, v] ∧ H a = some (exo a C none) ∧
  ∀ dx, H dx = none → dx ≠ a → Q .non (upd (upd H dx (exd dx [(f, v)])) a (exo a C (some dx)))

section
variable {P : Program} {w : World} {K : W.Frag} {mg : Str → Option Value} {base : Heap}
/-- the state at the entry of such an __init__ -/
theorem sup_start {N ps : List Str} {qual : Str} {scope : Scope} {f : Addr} {cd : Value} {cc D : Addr} {A : Around} {outer : List Env} {s : Shared} {H : Hp}
    {xe : Value → Shared → Prop} {us : List Value} {vs : List V} {h₁ : Heap} {tk : Nat} (hk : scope.kind = .function) (hN : N = ps) (hnd : ps.Nodup) (hloc : ∀ x ∈ ps, scope.names.lookup x = some .local)
    (hfree : ∀ x : Str, scope.names.lookup x = some .cell ∨ scope.names.lookup x = some .free → x = "__class__") (hd : A.handled = none) (e0 : Env0 P w K mg base A outer s H) (hl : vs.length = ps.length) (r : Vals vs us)
    (hcell : ∃ (cl : Value) (cld : Option Addr) (csl : Array (Option Value)), K.lookup cc = some ⟨cl, cld, .cell (some (.ref D)), csl⟩)
    (hns : h₁.Ns s.heap.objs.size fun y => (ps.zip us).reverse.lookup y) (kp : ∀ b o, s.heap.get? b = some o → h₁.get? b = some o) :
    Inv (cxSup P w K mg base N qual scope f cd cc A outer s H xe) [] (L2.start N vs) H { s with heap := h₁, toks := tk } := by
  subst hN
  obtain ⟨cl, cld, csl, hc⟩ := hcell
  have hcb : base.get? cc = some ⟨cl, cld, .cell (some (.ref D)), csl⟩ := e0.mod.kin _ _ hc
  have hcs := e0.bs _ _ hcb
  have only : ∀ {x c}, (cxSup P w K mg base N qual scope f cd cc A outer s H xe).env.cells.lookup x = some c → x = "__class__" ∧ c = cc := fun {x c} e => by
    have e' : List.lookup x [(("__class__" : Str), cc)] = some c := e
    by_cases hx : x = "__class__"
    · rw [hx] at e'
      simp [List.lookup] at e'
      exact ⟨hx, e'.symm⟩
    · have hb : (x == ("__class__" : Str)) = false := by simpa using hx
      simp [List.lookup, hb] at e'
  have noA : ∀ b : Addr, b ∉ (cxSup P w K mg base N qual scope f cd cc A outer s H xe).ex := fun b z => absurd (show b ∈ ([] : List Addr) from z) (by simp)
  refine ⟨⟨e0.mod, hk, rfl, rfl, Nat.le_refl _, fun y z c h1 h2 => ?_, fun y hy => ?_, fun y c z _ => ?_, fun _ => hd, Around.frames_deeper e0.frames, .inr ⟨rfl, rfl⟩, fun b z => absurd z (noA b), e0.bs, e0.bsz, fun b _ _ => noA b, fun b z => absurd z (noA b), e0.funs, e0.frf⟩,
    rfl, e0.bare, Un.kept kp, ⟨_, hns, fun i y v h1 h2 h3 => ?_⟩, fun y c h => ?_, e0.hok.fresh (Nat.le_refl _), fun y c h => ?_, fun p hp => absurd (show p ∈ ([] : List (Addr × Obj)) from hp) (by simp), e0.hok.kept kp, ?_⟩
  · rw [(only h1).1, (only h2).1]
  · rw [hfree y hy]
    exact ⟨cc, by show List.lookup _ [(("__class__" : Str), cc)] = _; simp [List.lookup]⟩
  · exact absurd (show false = true from z) (by decide)
  · have hi : i < vs.length := by
      unfold L2.start at h2
      by_cases hi : i < vs.length
      · exact hi
      · rw [List.getElem?_append_right (by simpa using hi), List.getElem?_replicate] at h2
        split at h2 <;> cases h2
    have ha : vs[i]? = some v := by
      unfold L2.start at h2
      rw [List.getElem?_append_left (by simpa using hi), List.getElem?_map] at h2
      cases e : vs[i]? with
      | none => rw [e] at h2; cases h2
      | some a => rw [e] at h2; cases h2; rfl
    obtain ⟨u, hu, rv⟩ := r.get ha
    have hy : N[i]? = some y := h1
    have hm : (N.zip us)[i]? = some (y, u) := by
      rw [List.getElem?_zip_eq_some]
      exact ⟨hy, hu⟩
    refine ⟨u, rv, .inl ⟨hloc y (List.mem_of_getElem? hy), ?_⟩⟩
    have ndz : ((N.zip us).map (·.1)).Nodup := by
      have hlen : us.length = N.length := by rw [← r.length]; exact hl
      rw [List.map_fst_zip (by omega)]
      exact hnd
    have key : ∀ (l : List (Str × Value)), (l.map (·.1)).Nodup → (y, u) ∈ l → l.lookup y = some u := by
      intro l
      induction l with
      | nil => intro _ h; cases h
      | cons p l ih =>
        intro nd h
        obtain ⟨a, b⟩ := p
        rw [List.map_cons, List.nodup_cons] at nd
        rcases List.mem_cons.mp h with e | e
        · cases e
          simp [List.lookup]
        · have hne : (y == a) = false := by
            have : y ≠ a := fun z => nd.1 (by rw [← z]; exact List.mem_map.mpr ⟨_, e, rfl⟩)
            simpa using this
          simp [List.lookup, hne]
          exact ih nd.2 e
    refine key _ ?_ (List.mem_reverse.mpr (List.mem_of_getElem? hm))
    rw [List.map_reverse]
    exact List.pairwise_reverse.mpr (List.Pairwise.imp (fun h => Ne.symm h) ndz)
  · obtain ⟨_, e⟩ := only h
    rw [e]
    exact ⟨_, _, kp _ _ hcs.1, rfl⟩
  · obtain ⟨_, e⟩ := only h
    rw [e]
    exact hcs.2
  · unfold L2.start
    rw [List.length_append, List.length_map, List.length_replicate]
    show _ = N.length
    omega
theorem not_exo {e C : Addr} {d : Option Addr} {h : Heap} {P : Program} {w : World} {H : Hp} (hok : HOk P w H h) (he : H e = some (exo e C d)) : ∀ c, h.get? e ≠ some c ∨ ∀ cd, c.data ≠ .cls cd := fun c => by
  obtain ⟨t1, g⟩ := exo_at hok he
  by_cases hc : h.get? e = some c
  · right
    rw [g] at hc
    cases hc
    intro cd z
    cases z
  · exact .inl hc

/-- the bound ValueError.__init__ called: the exception's arguments are laid anew -/
theorem call_bound {A : Around} {E : Value → Shared → Prop} {s : Shared} {D N e t0 u : Addr} {nm q : Str} {bs bm : List Value} {sn : List Str} {sub : List Value} {ab : Bool} {col : Option Bool} {dd : Option Addr} {k0 k1 k2 k3 k5 : Option Value} {rest : List Value} {Q : Value → Shared → Prop}
    (hC : s.heap.get? D = some (excClassObj nm q D N bs bm true sn sub ab col dd k0 k1 k2 k3 k5 "ValueError.__new__")) (he : s.heap.get? e = some (HandSPX.excO D t0)) (hu : s.heap.get? u = some (W.kxs_mw "ValueError.__init__" e)) (hz : rest.length ≤ sizeLine)
    (hq : ∀ h' t1, (∀ b o, b ≠ e → s.heap.get? b = some o → h'.get? b = some o) → h'.get? e = some (HandSPX.excO D t1) → Q .none { s with heap := h' }) :
    wpAny (model P w) A (call (.ref u) rest) Q E s := by
  obtain ⟨hh, g, d, tk, os⟩ := s
  refine wpAny_call (codeAny_of_tree ?_)
  show wpAny _ A.in1 (callAny (.ref u) ⟨rest, []⟩) _ _ _
  simp only [callAny]
  refine wpAny_bind (wpAny_load hu ?_)
  simp only [W.kxs_mw, show (Value.type "method-wrapper" == Value.type "method" || Value.type "method-wrapper" == Value.type "builtin_function_or_method" || Value.type "method-wrapper" == Value.type "method-wrapper") = true by decide, if_true]
  refine W.KFB.if_so (by decide) ?_
  refine wpAny_bind (W.check_bound_init F.excBase_ValueError.toExcCallFacts hC he rfl ?_)
  refine wpAny_bind (wpAny_pure (wpAny_pure ?_))
  refine ⟨plainId_quiet F.excBase_ValueError.init.plain _, codeAny_builtin F.excBase_ValueError.initEntry ?_⟩
  refine W.exc_init_tree (cls := .ref D) (t0 := t0) (dv := none) (c2 := .none) (c3 := .none) (b4 := .bool false) he hz fun h' k1 k2 k3 => hq h' _ k1 k2

/-- THE RULE: such an __init__ keeps its promise -/
theorem ok_sup {D : Addr} {qual : Str} {params : Arguments} {scope : Scope} {f : Addr} {fd : FuncData} {cc cda : Addr} {fld msg par : Str} {j k : Nat} {a1 a2 : Arg} {p0 p1 p2 p3 p4 p5 p6 p7 p8 p9 : Pos}
    (S : SupInit P K D qual params [.Expr (.Call (.Attribute (.Call (.Name "super" p0) [] [] p1) "__init__" p2) [.Constant (.str msg) j p3] [] p4) p5, .Assign [.Attribute (.Name "self" p6) fld p7] (.Name par p8) p9] scope f fd cc cda)
    (T : OexC K D) (hno : W.findIn K (.ref D) fld = some none) (hk : scope.kind = .function) (hco : scope.isCoroutine = false) (hgen : scope.isGenerator = false)
    (hself : scope.names.lookup ("self" : Str) = some .local) (hpar : scope.names.lookup par = some .local) (hcl : scope.names.lookup ("__class__" : Str) = some .free) (hsu : scope.names.lookup ("super" : Str) = some .globalImplicit)
    (hfree : ∀ x : Str, scope.names.lookup x = some .cell ∨ scope.names.lookup x = some .free → x = "__class__") (hnoc : ∀ x ∈ scope.names, x.2 ≠ .cell) (hne : ("self" : Str) ≠ par)
    (hp : (params.posonlyargs ++ params.args).head? = some a1) (ha1 : a1.arg = "self") (htop : (P.main.scope.names.lookup ("super" : Str)).isSome = false) (hdbg : (par == ("__debug__" : Str)) = false) (hcd2 : (par == ("__classdict__" : Str)) = false)
    (pl : Env → Sem Bool) (hev : ∀ env : Env, eval (.Call (.Attribute (.Call (.Name "super" p0) [] [] p1) "__init__" p2) [.Constant (.str msg) j p3] [] p4) env = (do
      let ov ← attributeBase (.Call (.Name "super" p0) [] [] p1) "__init__" env (eval (.Call (.Name "super" p0) [] [] p1) env)
      standAt p2.atName
      let (f, first) ← holding [ov] (getMethod ov "__init__" (pl env))
      callWith p4 f first (backTo p4 (starEach [.Constant (.str msg) j p3] env)) [])) :
    FnOk P w K mg base CX0 1 f fd ["self", par] (spSup D fld) := by
  obtain ⟨⟨oc, od, osl, kV, doc, pm, ct, an, rfl, lk⟩, hcode, ⟨ccl, cdd, ccs, fvs, tf, lcode, hfile⟩, hcell, hopq, hfound, hsup⟩ := S
  refine ⟨fun vs H Q E h => ?_, fun A outer s H args us vs Q E hr e0 hb r hsp => ?_⟩
  · obtain ⟨a, v, rfl, _⟩ := h
    rfl
  obtain ⟨a, v, rfl, hexo, hq⟩ := hsp
  have hl : ([V.ref a, v] : List V).length = (["self", par] : List Str).length := rfl
  have KX : K.In s.heap := e0.mod.kin.keeps fun b o e => (e0.bs b o e).1
  have lim : s.heap.NoLimit := e0.mod.nolimit.keeps fun b o e => (e0.bs b o e).1
  have hnd : (["self", par] : List Str).Nodup := by
    refine List.nodup_cons.mpr ⟨fun h => ?_, List.nodup_cons.mpr ⟨fun h => (by cases h), List.nodup_nil⟩⟩
    exact hne (List.mem_singleton.mp h)
  have hloc : ∀ x ∈ (["self", par] : List Str), scope.names.lookup x = some .local := fun x hx => by
    rcases List.mem_cons.mp hx with e | e
    · rw [e]; exact hself
    · rw [List.mem_singleton.mp e]; exact hpar
  refine ks_codeAny_call_defAt hr.depth (KX _ _ lk) rfl lim (W.codeRec_of KX hcode) rfl hb hnoc (fun y hy => hloc y.1 (List.of_mem_zip (show (y.1, y.2) ∈ _ from hy)).1) (fun h₀ hns hkp => ?_) hco hgen hk
  have I := sup_start (N := ["self", par]) (qual := qual) (f := f) (cd := .ref cda) (cc := cc) (D := D) (tk := s.toks + ((["self", par] : List Str).zip us).length) (xe := fun e s' => wpAny (model P w) (A.deeper (W.ksEnv qual scope s.heap.objs.size f (.ref cda) cc)) (leaving (W.ksEnv qual scope s.heap.objs.size f (.ref cda) cc) e) (fun _ s'' => CX0 outer H s E e s'') (fun e' s'' => CX0 outer H s E e' s'') s')
    hk rfl hnd hloc hfree hr.hd e0 hl r hcell hns hkp
  obtain ⟨nm, q, N0, bs, bm, sn, sub, ab, col, dd, k0, k1, k2, k3, k5, hD, hbm⟩ := T.cls
  have hcld : W.clsIn K D = some { name := nm, bases := bs, mro := .ref D :: bm, ns := N0, qualname := q, hasDict := true, slotNames := sn, subclasses := sub, abstract := ab, collection := col, hasDel := false } := by
    unfold W.clsIn
    rw [hD] <;> rfl
  have hmro : ∀ {b : Value}, (Value.ref D :: bm).contains b = true → W.mroIn K D b = some true := fun {b} hb => by
    unfold W.mroIn
    rw [hcld, Option.bind_some, if_neg (show ¬ (List.isEmpty (Value.ref D :: bm) = true) from Bool.false_ne_true), hb]
  have hcVE : (Value.ref D :: bm).contains (.type "ValueError") = true := by
    rw [List.contains_cons, HandSPX.refsVE_contains "ValueError" bm hbm]
    rfl
  have hcD : (Value.ref D :: bm).contains (.ref D) = true := by simp
  have hint : interactive (callEnv (W.ksFn "__init__" qual params [.Expr (.Call (.Attribute (.Call (.Name "super" p0) [] [] p1) "__init__" p2) [.Constant (.str msg) j p3] [] p4) p5, .Assign [.Attribute (.Name "self" p6) fld p7] (.Name par p8) p9] scope .none kV doc pm an (.ref cda) ct cc) s.heap.objs.size f) = false := by
    show (scope.kind == .module && _) = false
    rw [hk]
    rfl
  refine ks_wpAt_execs_cons (ks_wpAt_Expr_any (ks_wpAt_MethodCall ?_ (hev _)) hint rfl)
  obtain ⟨cl, cld, csl, hcc⟩ := hcell
  refine ks_wpAt_super_base (ar := a1) (f := f) (of := ⟨oc, od, .func (W.ksFn "__init__" qual params _ scope .none kV doc pm an (.ref cda) ct cc), osl⟩) (cc := cda) hsu hcl (by decide) rfl (I.kIn _ _ lk) rfl hp rfl (I.kIn _ _ lcode) rfl hfile (by simp) htop ?_
  obtain ⟨mb, hmb, hbb⟩ := e0.mod.blt
  refine W.ks_loadName_global hk hsu (Calls.loadGlobal_builtin (e0.mod.glob.keeps I.bk) (W.mg_none_of e0.mod.kin e0.mod.glob hsup) (hmb.keeps I.bk) ((hbb _ (by decide +kernel)).trans PyProof.Rows.Boot.super) ⟨rfl, ?_⟩)
  refine wpAny_loadName_free hk hcl rfl ⟨_, I.kIn _ _ hcc, rfl⟩ ?_
  obtain ⟨m, hm, hlk⟩ := I.loc
  obtain ⟨u0, ru0, lu0⟩ := hlk 0 "self" (.ref a) rfl rfl (.inl hself)
  obtain rfl : u0 = Value.ref a := ru0
  have lv0 : m "self" = some (.ref a) := by
    rcases lu0 with ⟨_, z⟩ | ⟨z, _⟩
    · exact z
    · exfalso
      have hself' : (W.ksEnv qual scope s.heap.objs.size f (.ref cda) cc).kindOf "self" = some .local := hself
      rcases z with z | z
      · exact absurd (hself'.symm.trans z) (by decide)
      · exact absurd (hself'.symm.trans z) (by decide)
  rw [ha1]
  refine wpAny_loadName_local hk hself hm lv0 ?_
  obtain ⟨t1, hae⟩ := exo_at I.hok hexo
  have hDh := I.kIn _ _ hD
  have hmroL : ∀ {h' : Heap} {b : Value} (hb : (Value.ref D :: bm).contains b = true), K.In h' → W.Looks (model P w) h' (isSubtype (.ref D) b) true := fun hb X => W.looks_mroIn X (hmro hb)
  refine ks_wpAny_isType_cls hDh rfl ⟨rfl, ?_⟩
  refine ks_wpAny_call_super hDh rfl hae rfl (fun c z => by cases z) (hmroL hcD I.kIn) (fun h1 e1 k1 => ?_)
  have I1 := I.kept (t' := s.toks + ((["self", par] : List Str).zip us).length) k1
  have J1 : W.InstAt h1 a _ D none := ⟨k1 _ _ hae, rfl, rfl, trivial⟩
  have naD : a ≠ D := fun z => by
    rw [z] at hexo
    have q1 := (e0.bs _ _ (e0.mod.kin _ _ hD)).2
    rw [hexo] at q1
    cases q1
  have hfnd : W.alongIn K "__init__" (((Value.ref D :: bm).dropWhile (· != .ref D)).drop 1) = some (some (.builtin "ValueError.__init__")) := by
    unfold W.ks_superIn at hfound
    rw [hcld] at hfound
    exact hfound
  refine W.kxs_getMethod (l₀ := .ref D :: bm) W.kxs_ValueError e1 (W.looks_opaque I1.kIn hopq) ?_ rfl I1.kIn hfnd (J1.type.andThen (hmroL hcVE I1.kIn)) naD (by decide) ?_
  · exact fun A' Q' E' s' k q => wpAny_bind ((W.looks_clsIn I1.kIn hcld) A' _ E' s' k (wpAny_pure q))
  have k2 : ∀ b o, h1.get? b = some o → (h1.push (W.kxs_mw "ValueError.__init__" a)).get? b = some o := fun b o e => Heap.get?_push_of_some _ e
  have I2 := I1.kept (t' := s.toks + ((["self", par] : List Str).zip us).length + 1) k2
  have hmw : (h1.push (W.kxs_mw "ValueError.__init__" a)).get? h1.objs.size = some (W.kxs_mw "ValueError.__init__" a) := Heap.get?_push_at rfl rfl
  refine W.kxs_callWith (u := h1.objs.size) (i := "ValueError.__init__") (x := a) rfl ?_
  refine Calls.evalArgs_plain (x := eval (.Constant (.str msg) j p3) _) (rest := backTo p4 (starEach [] _)) ?_
  refine Calls.spliced_cons (Calls.Constant_str ?_)
  refine Calls.spliced_nil ⟨hmw, ?_⟩
  refine call_bound (t0 := t1) (I2.kIn _ _ hD) (k2 _ _ (k1 _ _ hae)) hmw (by show 1 ≤ sizeLine; decide) (fun h3 t3 k3 e3 => ?_)
  have J3 := (I2.tok (s.toks + ((["self", par] : List Str).zip us).length + 1 + 1)).write (t' := s.toks + ((["self", par] : List Str).zip us).length + 1 + 1) (x := a) (e := a) (o := exo a D none) (by rw [hexo]; exact True.intro) (.inl rfl) k3 ⟨_, e3⟩ (exo_ok e3)
  have eu : upd H a (exo a D none) = H := by
    funext b
    by_cases hb : b = a
    · rw [hb, upd_same, hexo]
    · rw [upd_ne hb]
  rw [eu] at J3
  refine wpAt_of_wpAny ?_
  have body : PSs (cxSup P w K mg base ["self", par] qual scope f (.ref cda) cc A outer s H (fun e s' => wpAny (model P w) (A.deeper (W.ksEnv qual scope s.heap.objs.size f (.ref cda) cc)) (leaving (W.ksEnv qual scope s.heap.objs.size f (.ref cda) cc) e) (fun _ s'' => CX0 outer H s E e s'') (fun e' s'' => CX0 outer H s E e' s'') s'))
      [.Assign [.Attribute (.Name "self" p6) fld p7] (.Name par p8) p9] (tOst K fld (tVar 0) (tVar 1)) :=
    pss_one (ps_ost (pe_var (i := 0) rfl (.inl hself)) (pe_var (i := 1) rfl (.inl hpar) hdbg hcd2) rfl)
  refine wpAny_mono (body.run [] _ _ H { nx := fun _ H' => Q .non H', rt := Q } J3 ?_) (fun fl s' hs => ?_) fun e s' hs => hs
  · exact ⟨v, rfl, .ref a, rfl, a, D, rfl, T, hno, .inl ⟨hexo, fun dx n1 n2 => hq dx n1 n2⟩⟩
  · have fin : ∀ {σ' : L2.St} {H' : Hp} {v' : V} {u : Value} {s' : Shared}, L2.Inv (cxSup P w K mg base ["self", par] qual scope f (.ref cda) cc A outer s H (fun e s' => wpAny (model P w) (A.deeper (W.ksEnv qual scope s.heap.objs.size f (.ref cda) cc)) (leaving (W.ksEnv qual scope s.heap.objs.size f (.ref cda) cc) e) (fun _ s'' => CX0 outer H s E e s'') (fun e' s'' => CX0 outer H s E e' s'') s')) [] σ' H' s' → RelV v' u → Q v' H' → CE outer P w H s Q u s' :=
      fun {σ' H' v' u s'} J rv q => ⟨v', H', J.os, J.bare, J.base, J.hok, rv, q⟩
    cases fl with
    | ret u =>
      obtain ⟨v', σ', H', J, rv, q⟩ := hs
      exact fin J rv q
    | next =>
      obtain ⟨σ', H', J, q⟩ := hs
      exact fin (v' := V.non) (u := Value.none) J rfl q
    | brk =>
      obtain ⟨_, _, _, q⟩ := hs
      exact False.elim q
    | cont =>
      obtain ⟨_, _, _, q⟩ := hs
      exact False.elim q
end

end Ow

end
section
/-! Ow2: a caught exception of an own class that is held on behind its suite: try .. except X as n: y = n; then isinstance(y, C), y.f. Raising with a promise in short. -/
namespace Ow
open PySem L2
open PySem.Spec PyProof.Rows

/-- the caught exception's object stands at a: its class, its own dict's address -/
def ExH (cls : Value) (d : Option Addr) (a : Addr) : HO := .ext fun h => ∃ (oe : Obj) (vs : Array Value), h.get? a = some oe ∧ Zc cls d oe ∧ oe.data = .fields vs
theorem exH_ok {P : Program} {w : World} {H : Hp} {h : Heap} {a : Addr} {cls : Value} {d : Option Addr} {oe : Obj} {vs : Array Value} (e : h.get? a = some oe) (z : Zc cls d oe) (hd : oe.data = .fields vs) : ObjOk P w H h a (ExH cls d a) :=
  ⟨⟨oe, vs, e, z, hd⟩, ⟨oe, e⟩, fun _ _ ⟨o, v, q, r⟩ k => ⟨o, v, k o q, r⟩⟩
theorem exH_at {P : Program} {w : World} {H : Hp} {h : Heap} {a : Addr} {cls : Value} {d : Option Addr} (hok : HOk P w H h) (he : H a = some (ExH cls d a)) : ∃ (oe : Obj) (vs : Array Value), h.get? a = some oe ∧ Zc cls d oe ∧ oe.data = .fields vs := by
  have x : ObjOk P w H h a (.ext fun h => ∃ (oe : Obj) (vs : Array Value), h.get? a = some oe ∧ Zc cls d oe ∧ oe.data = .fields vs) := hok a _ he
  exact x.1

section
variable {X : Cx} {pins : List (Addr × Obj)} {σ : L2.St} {H : Hp} {s : Shared}
/-- an object that stands, untracked, new since the entry: tracked from now on -/
theorem inv_track {a : Addr} {o : HO} (I : L2.Inv X pins σ H s) (hn : H a = none) (h0 : X.s_0.heap.get? a = none) (hL : a ≠ X.env.locals)
    (hc : ∀ x c, X.env.cells.lookup x = some c → c ≠ a) (hp : ∀ p ∈ X.pn ++ pins, p.1 ≠ a) (new : ObjOk X.prog X.w (upd H a o) s.heap a o) : L2.Inv X pins σ (upd H a o) s := by
  have ne0 : ∀ b u, X.s_0.heap.get? b = some u → b ≠ a := fun b u e z => by
    rw [z, h0] at e
    cases e
  have neH : ∀ b u, H b = some u → b ≠ a := fun b u e => ne_of_none e hn
  refine ⟨I.ok, I.os, I.bare, ⟨I.base.keep, I.base.slot, fun b u e n hx => ?_, I.base.there, fun b xs e => ?_, fun b u v e => ?_, fun b ps e => ?_⟩, I.loc, I.cell, ?_, fun x c e => ?_, fun p h => ?_, fun b u e => ?_, I.len⟩
  · rw [upd_ne (ne0 b u e)]
    exact I.base.free b u e n hx
  · have q := I.base.tups b xs e
    rw [upd_ne (neH b _ q)]
    exact q
  · have q := I.base.frzs b u v e
    rw [upd_ne (neH b _ q)]
    exact q
  · obtain ⟨m, q⟩ := I.base.tbls b ps e
    exact ⟨m, by rw [upd_ne (neH b _ q)]; exact q⟩
  · rw [upd_ne (Ne.symm hL)]
    exact I.free
  · rw [upd_ne (hc x c e)]
    exact I.freeC x c e
  · obtain ⟨e, n, r⟩ := I.pin p h
    exact ⟨e, by rw [upd_ne (hp p h)]; exact n, r⟩
  · by_cases hb : b = a
    · rw [hb, upd_same] at e
      cases e
      rw [hb]
      exact new
    · rw [upd_ne hb] at e
      exact (I.hok b u e).stay (fun c v _ q => q) (fun c q => by rw [upd_ne (neH c _ q)]; exact q) fun c xs q => by rw [upd_ne (neH c _ q)]; exact q
end
/-- what the clause «except x as n: suite» wishes where what it caught is held on: slot i is n's; behind the suite the object is tracked -/
def wHold (K : W.Frag) (c : Value) (i : Nat) (ts : Addr → Value → Option Addr → TS) (Wout : WX) (D : Ends) : WX := fun cls d σ H =>
  ∃ b, W.exmOne K cls c = some b ∧
    (b = true → ∀ a, H a = none → ts a cls d { nx := fun σ2 H2 => D.nx (σ2.set i none) (upd H2 a (ExH cls d a)), rt := fun v H2 => D.rt v (upd H2 a (ExH cls d a)), bk := fun σ2 H2 => D.bk (σ2.set i none) (upd H2 a (ExH cls d a)), ct := fun σ2 H2 => D.ct (σ2.set i none) (upd H2 a (ExH cls d a)) } (σ.set i (some (.ref a))) H) ∧
    (b = false → Wout cls d σ H)
section
variable {X : Cx} {x n : Str} {c : Value} {i : Nat} {body suite : List Stmt} {st0 : Stmt} {q1 q2 q3 : Pos} {tb : WX → TS} {ts : Addr → Value → Option Addr → TS} {Wout : WX}
theorem ps_try_hold (hst : X.stack = X.env :: X.outer) (hfr : X.env.frame = some X.env.locals) (hex : X.ex = []) (hN : X.N.Nodup) (hi : X.N[i]? = some n) (hl : X.env.kindOf n = some .local) (hnm : Names X x c) (tk : Takes X Wout)
    (hb : ∀ (W : WX) (pn : List (Addr × Obj)) (xe : Value → Shared → Prop), Takes (X.tr pn xe) W → PassesOwn (model X.prog X.w) X.A X.env xe → PSs (X.tr pn xe) body (tb W))
    (hs : ∀ (a : Addr) (oe : Obj) (cls : Value) (d : Option Addr) (pn : List (Addr × Obj)), Zc cls d oe → (∃ vs, oe.data = .fields vs) → PSs (X.suite a ((a, oe) :: pn)) (st0 :: suite) (ts a cls d)) :
    PS X (.Try body [.ExceptHandler (some (.Name x q1)) (some n) (st0 :: suite) q2] [] [] q3) (fun D σ H => tb (wHold X.K c i ts Wout D) D σ H) := by
  refine ⟨fun pins s σ H D I ht => ?_⟩
  have Xok := I.ok
  have frames : X.A.frames = some (X.env :: X.outer) := by rw [Xok.frames, hst]
  refine wpAny_Try_except (wpAny_mono ((hb (wHold X.K c i ts Wout D) (X.pn ++ pins) (fun ev z => wpAny (model X.prog X.w) X.A (noteFrame ev X.env) (fun _ z2 => wpAny (model X.prog X.w) X.A (setFlight ev none) (fun _ z3 =>
    wpAny (model X.prog X.w) X.A (handleBy ev X.env [.ExceptHandler (some (.Name x q1)) (some n) (st0 :: suite) q2]) (SP X pins D) X.xe z3) X.xe z2) X.xe z) (fun u s' air => ?_) PassesOwn.looking).run [] s σ H D (I.toTry _) ht) (fun fl s1 hfl => ?_) (fun _ _ z => z))
  · obtain ⟨a, B, sI, pi', σ', H', cls, d, rfl, JT, nb, up, sky, na, hos, hag, b, hb1, hyes, hno⟩ := air
    have J : L2.Inv X pins σ' H' sI := JT.ofTry Xok
    show wpAny (model X.prog X.w) X.A (noteFrame (.ref a) X.env) _ _ _
    refine Sky.land Zc.steady frames hfr (by rw [← hst]; exact sky) fun h3 fl3 up3 => ?_
    have J3 : L2.Inv X pins σ' H' { s' with heap := h3 } := J.landed nb fl3.1 (up.trans up3) hos hag
    obtain ⟨oe3, vs3, he3, hz3, hd3⟩ := fl3.there
    have nfr : a ∉ frs (X.env :: X.outer) := fun hm => by
      obtain ⟨_, o2, e2, hnf⟩ := fl3.2.2.1.mem hm
      rw [he3] at e2
      cases e2
      exact hnf _ hd3
    have nL : a ≠ X.env.locals := fun z => nfr (List.mem_filterMap.mpr ⟨X.env, List.mem_cons_self, by rw [hfr, z]⟩)
    have nF : a ∉ X.fs := fun hm => by
      obtain ⟨ev, hev, q⟩ := List.mem_filterMap.mp hm
      exact nfr (List.mem_filterMap.mpr ⟨ev, List.mem_cons_of_mem _ hev, q⟩)
    -- it is new
    have nI : sI.heap.get? a = none := by
      cases q : sI.heap.get? a with
      | none => rfl
      | some o =>
        have z := nb a o q (by rw [hst]; exact nfr)
        rw [fl3.2.1] at z
        cases z
    have n0 : X.s_0.heap.get? a = none := by
      cases q : X.s_0.heap.get? a with
      | none => rfl
      | some o =>
        obtain ⟨o2, z⟩ := J.base.there a o q (by rw [hex]; exact fun z => nomatch z)
        rw [nI] at z
        cases z
    have nC : ∀ y c', X.env.cells.lookup y = some c' → c' ≠ a := fun y c' e z => by
      obtain ⟨v, o, ho, _⟩ := J.cell y c' e
      rw [z, nI] at ho
      cases ho
    have nP : ∀ p ∈ X.pn ++ pins, p.1 ≠ a := fun p hp z => by
      have e := (J.pin p hp).1
      rw [z, nI] at e
      cases e
    have S3 := J3.suite he3 hd3 na nL nF
    refine wpAny_handleBy_cons (codeAny_handlers_test ?_) (by intro q; cases q)
    have LM := W.exm_one (M := model X.prog X.w) J3.kIn (show W.Looks (model X.prog X.w) h3 (typeOf (.ref a)) cls from fun A Q E s k q => wpAny_typeOf_ref (k _ _ he3) (by rw [hz3.1]; exact q)) hb1
    have clause : ∀ {Q : Value → Shared → Prop} {E : Value → Shared → Prop}, Q c { s' with heap := h3 } → wpAny (model X.prog X.w) (X.A.mark (some (.ref a))) (eval (.Name x q1) X.env) Q E { s' with heap := h3 } := fun {Q E} q => by
      obtain ⟨hg, hdbg, hm | ⟨hm, hv, hnn⟩⟩ := hnm
      · exact ld_glob (X := X.suite a ((a, oe3) :: (X.pn ++ pins))) S3 hg hm q hdbg
      · exact ld_blt (X := X.suite a ((a, oe3) :: (X.pn ++ pins))) S3 hg hm hv q hnn hdbg
    refine clause (LM.here ?_)
    cases b with
    | true =>
      refine codeAny_handlers_suite_as (HandSPX.lands_againZ fl3 fun h4 fl4 up4 => ?_)
      have J4 : L2.Inv X pins σ' H' { s' with heap := h4 } := J.landed nb fl4.1 ((up.trans up3).trans up4) hos hag
      obtain ⟨oe4, vs4, he4, hz4, hd4⟩ := fl4.there
      refine store_ok (X := X.suite a ((a, oe4) :: (X.pn ++ pins))) (v := .ref a) (J4.suite he4 hd4 na nL nF) hN hi (.inl hl) rfl (fun s5 S5 => ?_) (.inr hl)
      refine wpAny_mono ((hs a oe4 cls d (X.pn ++ pins) hz4 ⟨_, hd4⟩).run [] s5 _ H' _ S5 (hyes rfl a na)) (fun fl s6 h6 => ?_) (fun _ _ z => False.elim z)
      have go : ∀ {σ6 : L2.St} {H6 : Hp} {Q : Shared → Prop}, L2.Inv (X.suite a ((a, oe4) :: (X.pn ++ pins))) [] σ6 H6 s6 → (∀ s7, L2.Inv X pins (σ6.set i none) (upd H6 a (ExH cls d a)) s7 → Q s7) →
          wpAny (model X.prog X.w) X.A (do bindName X.env n .none; unbindBehindTheSuite X.env n q2) (fun _ s7 => Q s7) X.xe s6 := fun {σ6 H6 Q} S6 hq => by
        obtain ⟨g6, n6, _⟩ := S6.pin (a, oe4) (List.mem_append_left _ List.mem_cons_self)
        exact gone_ok (inv_track (o := ExH cls d a) (S6.unsuite Xok) n6 n0 nL nC nP (exH_ok g6 hz4 hd4)) hN hi hl hq
      cases fl with
      | next => obtain ⟨_, _, S6, q6⟩ := h6; exact go S6 fun _ J7 => ⟨_, _, J7, q6⟩
      | brk => obtain ⟨_, _, S6, q6⟩ := h6; exact go S6 fun _ J7 => ⟨_, _, J7, q6⟩
      | cont => obtain ⟨_, _, S6, q6⟩ := h6; exact go S6 fun _ J7 => ⟨_, _, J7, q6⟩
      | ret u => obtain ⟨_, _, _, S6, r6, q6⟩ := h6; exact go S6 fun _ J7 => ⟨_, _, _, J7, r6, q6⟩
    | false =>
      show wpAny _ X.A (handleBy (.ref a) X.env []) _ _ _
      refine wpAny_handleBy_nil ?_
      obtain ⟨_, _, _, oe, vs, T, oT, tt, he, hz, hd, h1, hr⟩ := id fl3
      unfold PySem.passOn
      refine wpAny_bind (wpAny_field he hd h1 ?_)
      rw [if_neg (show ¬ ((Value.ref T == Value.none) = true) from by simp)]
      have out : wpAny (model X.prog X.w) X.A (setFlight (.ref a) X.env.frame) (fun _ s4 => wpAny (model X.prog X.w) X.A (throw (.ref a) : Sem Flow) (SP X pins D) X.xe s4) X.xe { s' with heap := h3 } := by
        rw [hfr]
        exact HandSPX.setFlight_upZ fl3 fun h4 hh4 up4 => wpAny_throw (tk _ _ ⟨a, B, sI, pins, σ', H', cls, d, rfl, J, nb, (up.trans up3).trans up4, .inr (.inr (by rw [hst]; exact hh4)), na, hos, hag, hno rfl⟩)
      first
        | exact wpAny_bind (wpAny_pure (wpAny_bind out))
        | exact wpAny_bind out
  · cases fl with
    | next => obtain ⟨_, _, J, q⟩ := hfl; exact wpAny_execs_nil ⟨_, _, J.ofTry Xok, q⟩
    | brk => obtain ⟨_, _, J, q⟩ := hfl; exact ⟨_, _, J.ofTry Xok, q⟩
    | cont => obtain ⟨_, _, J, q⟩ := hfl; exact ⟨_, _, J.ofTry Xok, q⟩
    | ret u => obtain ⟨_, _, _, J, r, q⟩ := hfl; exact ⟨_, _, _, J.ofTry Xok, r, q⟩
end

/-! ### what is held: isinstance, its fields -/
/-- what its class must say -/
structure HeldC (K : W.Frag) (C : Addr) : Prop where
  cl : (W.clsIn K C).isSome = true
  ga : W.findIn K (.ref C) "__getattribute__" = some (some (.builtin "BaseException.__getattribute__"))
  gg : W.findIn K (.ref C) "__getattr__" = some none
  ex : W.subIn K (.ref C) (.type "BaseException") = some true
  hd : W.hasDictIn K C = true
  ca : W.findIn K (.ref C) "__class__" = some (some (.builtin "object.__class__"))
  sp : W.specialIn K (.builtin "object.__class__") "__get__" = some (some (.builtin "getset_descriptor.__get__"))
  tk : W.takesIn K (.builtin "object.__class__") = some true
  ob : W.mroIn K C (.type "object") = some true
/-- isinstance(y, c) of such an object -/
def rIsH (K : W.Frag) : List V → Hp → VK → Prop := fun xs H Q => ∃ (a C : Addr) (dd : Addr) (fs : List (Str × V)) (c : V) (u : Value) (b : Bool), xs = [.ref a, c] ∧ H a = some (ExH (.ref C) (some dd) a) ∧ H dd = some (.xd fs) ∧ HeldC K C ∧ ClsV c u ∧ W.kitOne K (.ref C) u = some b ∧ Q (.bl b) H
section
variable {X : Cx}
theorem call_isH : CallR X (.builtin "isinstance") (rIsH X.K) := by
  intro pins s σ H xs us Q I r h
  obtain ⟨a, C, dd, fs, c, u, b, rfl, ha, hdd, T, k, e, q⟩ := h
  obtain ⟨u1, u2, rfl, r1, r2⟩ := vals2 r
  have e2 := k.eq r2
  subst e2
  obtain rfl : u1 = Value.ref a := r1
  obtain ⟨oe, vs, g, hz, hd⟩ := exH_at I.hok ha
  have hx : ObjOk X.prog X.w H s.heap dd (.xd fs) := I.hok dd _ hdd
  obtain ⟨mA, hns, _⟩ := hx
  obtain ⟨od, ho, _⟩ := lookIn_ns hns
  have J : W.InstAt s.heap a oe C (some od) := ⟨g, hz.1, by unfold W.notCls; rw [hd] <;> rfl, by rw [hz.2]; exact ho⟩
  exact W.kia_one (W.kitx_exc T.cl T.ga T.gg T.ex T.ca T.sp T.tk T.ob) I.kIn J e (fun z => nomatch z) fun tk => ⟨.bl b, H, I.tok tk, rfl, q⟩
/-- y.f -/
def tHeld (K : W.Frag) (f : Str) (te : TE) : TE := fun σ H Q => te σ H fun x H1 => ∃ (a C dd : Addr) (fs : List (Str × V)) (v : V), x = .ref a ∧ H1 a = some (ExH (.ref C) (some dd) a) ∧ H1 dd = some (.xd fs) ∧ HeldC K C ∧ W.findIn K (.ref C) f = some none ∧ fs.lookup f = some v ∧ Q v H1
theorem pe_held {e : Expr} {te : TE} {n : Str} {pos : Pos} (he : PE X e te) (hb : attributeBase e n X.env (eval e X.env) = eval e X.env := by rfl) : PE X (.Attribute e n pos) (tHeld X.K n te) := by
  refine ⟨fun pins s σ H Q I h => ?_⟩
  refine attr_of hb (thn (he.run pins s σ H _ I h) fun u s1 hh => ?_)
  obtain ⟨x, H1, I1, rx, a, C, dd, fs, v, rfl, ha, hdd, T, hno, l, q⟩ := hh
  obtain rfl : u = Value.ref a := rx
  obtain ⟨oe, vs, g, hz, hd⟩ := exH_at I1.hok ha
  have hx : ObjOk X.prog X.w H1 s1.heap dd (.xd fs) := I1.hok dd _ hdd
  obtain ⟨mA, hns, hr⟩ := hx
  obtain ⟨od, ho, hl⟩ := lookIn_ns hns
  obtain ⟨u, hu, ru⟩ := RelO.some_of (v := v) (o := mA n) (by rw [← l]; exact hr n)
  have J : W.InstAt s1.heap a oe C (some od) := ⟨g, hz.1, by unfold W.notCls; rw [hd] <;> rfl, by rw [hz.2]; exact ho⟩
  exact HandSPX.exc_get I1.kIn J T.ga T.gg T.ex (W.findObj_own T.hd hno rfl (by rw [hl, hu])) (handed_of ru) ⟨v, H1, I1.tok _, ru, q⟩
end

/-! ### raise C(e) -/
/-- C(e): the exception's own dict is new, it holds e -/
def tMkS (C : Addr) (f : Str) (ta : TA) : L2.St → Hp → XK → Prop := fun σ H Q => ta σ H fun vs H1 => ∃ v, vs = [v] ∧ ∀ d, H1 d = none → Q (.ref C) (some d) (upd H1 d (.xd [(f, v)]))
theorem pmk_sup {X : Cx} {x : Str} {C fI : Addr} {fd : FuncData} {par fld : Str} {e : Expr} {ta : TA} {p pos : Pos} (T : OexC X.K C) (iC : W.findIn X.K (.ref C) "__init__" = some (some (.ref fI))) (tI : W.typeIn X.K (.ref fI) = some (.type "function"))
    (F1 : FnOk X.prog X.w X.K X.mg X.base CX0 1 fI fd ["self", par] (spSup C fld)) (hr : Room 2 X.A) (hb : Binds X.K fd ["self", par] []) (hg : Gl X x) (hm : X.mg x = some (.ref C)) (ha : PA X [e] ta)
    (hdb : (x == ("__debug__" : Str)) = false := by decide) (he : starEach [e] X.env = (false, eval e X.env) :: starEach [] X.env := by rfl) :
    PMk X (.Call (.Name x p) [e] [] pos) (tMkS C fld ta) := by
  have hcl : PA X [e] (fun σ H Q => ∃ Q1, ta σ H Q1 ∧ ∀ vs H1, Q1 vs H1 → Q vs H1) := ⟨fun pos pins s σ H Q I ⟨Q1, h1, h2⟩ => thn (ha.run pos pins s σ H Q1 I h1) fun us s' ⟨vs, H1, J, r, q⟩ => ⟨vs, H1, J, r, h2 vs H1 q⟩⟩
  have base := pmk_oex (pos := pos) (p := p) T iC tI F1 hr hb .nil pass0 hg hm hcl hdb he rfl
  refine fun pins s σ H Q I h => base pins s σ H Q I ⟨_, h, fun vs H1 hv => ?_⟩
  obtain ⟨v, rfl, hq⟩ := hv
  refine ⟨by show 1 ≤ 1000; decide, fun a hna => ?_⟩
  refine ⟨a, v, rfl, upd_same, fun dx hdx hne => ⟨rfl, dx, [(fld, v)], upd_same, by rw [upd_ne hne, upd_same], ?_, ?_⟩⟩
  · rw [upd_ne hne] at hdx
    exact hdx
  · rw [upd_ne hne] at hdx
    have e1 : upd (del (upd (upd (upd H1 a (exo a C none)) dx (exd dx [(fld, v)])) a (exo a C (some dx))) a) dx (.xd [(fld, v)]) = upd H1 dx (.xd [(fld, v)]) := by
      funext b
      by_cases hb1 : b = dx
      · rw [hb1, upd_same, upd_same]
      · rw [upd_ne hb1, upd_ne hb1]
        by_cases hb2 : b = a
        · rw [hb2, del_same, hna]
        · rw [del_ne hb2, upd_ne hb2, upd_ne hb1, upd_ne hb2]
    rw [e1]
    exact hq dx hdx
end Ow

end
section
/-! Ow10: own exception classes by one fact each. -/
namespace Ow
open PySem L2
open PySem.Spec PyProof.Rows
/-- what the head says of an own exception class and its __init__ -/
structure ErrD (P : Program) (K : W.Frag) (mg : Str → Option Value) (x qual : Str) (st : Stmt) (fld : Str) : Prop where
  gl : mg x = some (.ref (He.ga K x))
  ox : OexC K (He.ga K x)
  no : W.findIn K (.ref (He.ga K x)) fld = some none
  iC : W.findIn K (.ref (He.ga K x)) "__init__" = some (some (.ref (He.ma K (He.ga K x) "__init__")))
  tI : W.typeIn K (.ref (He.ma K (He.ga K x) "__init__")) = some (.type "function")
  si : ∃ (fd : FuncData) (cc cda : Addr), SupInit P K (He.ga K x) qual (defArgs st) (defBody st) (defScope st) (He.ma K (He.ga K x) "__init__") fd cc cda
/-- such a class, its __init__'s promise kept -/
structure Err (P : Program) (w : World) (K : W.Frag) (mg : Str → Option Value) (base : Heap) (x fld : Str) : Prop where
  gl : mg x = some (.ref (He.ga K x))
  ox : OexC K (He.ga K x)
  iC : W.findIn K (.ref (He.ga K x)) "__init__" = some (some (.ref (He.ma K (He.ga K x) "__init__")))
  tI : W.typeIn K (.ref (He.ma K (He.ga K x) "__init__")) = some (.type "function")
  ok : ∃ (fd : FuncData) (par : Str), FnOk P w K mg base CX0 1 (He.ma K (He.ga K x) "__init__") fd ["self", par] (spSup (He.ga K x) fld) ∧ Binds K fd ["self", par] []
theorem ErrD.err {P : Program} {w : World} {K : W.Frag} {mg : Str → Option Value} {base : Heap} {x qual fld par : Str} {st : Stmt} (D : ErrD P K mg x qual st fld)
    (h : ∀ fd cc cda, SupInit P K (He.ga K x) qual (defArgs st) (defBody st) (defScope st) (He.ma K (He.ga K x) "__init__") fd cc cda → FnOk P w K mg base CX0 1 (He.ma K (He.ga K x) "__init__") fd ["self", par] (spSup (He.ga K x) fld))
    (hb : ∀ (kV doc pm ct : Value) (an : Option Addr) (cda cc : Addr) (us : List Value), us.length = (["self", par] : List Str).length → bindArgs (W.ksFn "__init__" qual (defArgs st) (defBody st) (defScope st) .none kV doc pm an (.ref cda) ct cc) ⟨us, []⟩ = pure ((["self", par] : List Str).zip us)) :
    Err P w K mg base x fld := by
  obtain ⟨fd, cc, cda, Si⟩ := D.si
  refine ⟨D.gl, D.ox, D.iC, D.tI, fd, par, h fd cc cda Si, ?_⟩
  obtain ⟨⟨oc, od, osl, kV, doc, pm, ct, an, rfl, lk⟩, _⟩ := Si
  exact .all (hb kV doc pm ct an cda cc)
/-- C(e) -/
theorem pmk_err {X : Cx} {x fld : Str} {e : Expr} {ta : TA} {p pos : Pos} (G : Err X.prog X.w X.K X.mg X.base x fld) (hr : Room 2 X.A) (ha : PA X [e] ta) (hg : Gl X x := by rfl) (hdb : (x == ("__debug__" : Str)) = false := by decide)
    (he : starEach [e] X.env = (false, eval e X.env) :: starEach [] X.env := by rfl) : PMk X (.Call (.Name x p) [e] [] pos) (tMkS (He.ga X.K x) fld ta) := by
  obtain ⟨fd, par, F, b⟩ := G.ok
  exact pmk_sup G.ox G.iC G.tI F hr b hg G.gl ha hdb he
end Ow

end
section
/-! K80a: the text of law_k80; its first defs. -/
namespace K80
open PySem L2 Ow
open PySem.Spec PyProof.Rows
abbrev prg : Program := PySem.Challenge.pw_ownseen_k80_scripts_and_their_texts
def top (i : Nat) : Stmt := prg.main.body.getD i (.Pass ⟨0, 0, 0, 0⟩)
def clsB : Stmt → List Stmt
  | .ClassDef (body := b) .. => b
  | _ => []
def sub (i j : Nat) : Stmt := (clsB (top i)).getD j (.Pass ⟨0, 0, 0, 0⟩)
abbrev s_BadScript_init : Stmt := sub 3 0
abbrev s_BadText_init : Stmt := sub 4 0
abbrev s_is_integer : Stmt := top 6
abbrev s_is_within : Stmt := top 7
abbrev s_number_in : Stmt := top 11
abbrev s_Scan_init : Stmt := sub 12 0
abbrev s_Scan_ahead : Stmt := sub 12 1
abbrev s_Scan_refuse : Stmt := sub 12 2
abbrev s_Scan_take_just : Stmt := sub 12 4
abbrev s_Scan_take_number : Stmt := sub 12 5
abbrev s_Scan_finish : Stmt := sub 12 7
abbrev s_bounds_of : Stmt := top 21
abbrev s_is_step : Stmt := top 22
abbrev s_is_script : Stmt := top 23
abbrev s_script_text : Stmt := top 24
abbrev s_step_in : Stmt := top 25
abbrev s_read_script : Stmt := top 26
abbrev s_law_quiver : Stmt := top 28
abbrev s_law_shoot : Stmt := top 29
abbrev s_law_pick : Stmt := top 30
abbrev s_law_bounds : Stmt := top 31
abbrev s_law_is_step : Stmt := top 32
abbrev s_law_is_script : Stmt := top 33
abbrev s_law_step : Stmt := top 34
abbrev s_law_bent : Stmt := top 35
abbrev s_law_is_number : Stmt := top 36
abbrev s_law_items : Stmt := top 37
abbrev s_law_text : Stmt := top 38
abbrev s_law_heard : Stmt := top 39
abbrev s_law : Stmt := top 40
/-- the bounds of each word's numbers -/
def boundsOf : List (List Nat × List (Option Int)) :=
  [([115, 101, 110, 100], [some 3]), ([98, 114, 105, 110, 103], [none]), ([108, 111, 115, 101], [none]), ([116, 119, 105, 99, 101], [none]), ([99, 117, 116], [some 4, none]), ([102, 117, 115, 101], [some 4, none]), ([114, 105, 115, 101], [some 4]), ([100, 114, 111, 112], [some 3, some 7]), ([97, 103, 97, 105, 110], [some 4]), ([115, 119, 101, 101, 112], [some 3]), ([113, 117, 105, 116], [some 7])]
def mostD : Option Int → PyData
  | none => .none
  | some i => .int i
/-- nothing tracked -/
abbrev H00 : Hp := fun _ => none
theorem ext00 {H : Hp} : Ext H00 H := fun _ _ h => nomatch h
def boundsD : PyData := .tuple (boundsOf.map fun p => .tuple [.str (S p.1), .tuple (p.2.map mostD)])
structure Txt (K : W.Frag) (mg : Str → Option Value) : Prop where
  f_int : mg "int" = none
  f_bool : mg "bool" = none
  f_str : mg "str" = none
  f_list : mg "list" = none
  f_tuple : mg "tuple" = none
  f_len : mg "len" = none
  f_isinstance : mg "isinstance" = none
  f_abs : mg "abs" = none
  f_all : mg "all" = none
  f_repr : mg "repr" = none
  f_range : mg "range" = none
  f_zip : mg "zip" = none
  g_BAR : ∃ t, mg "BAR" = some (.str "/" t)
  g_MOST_DIGITS : ∃ t, mg "MOST_DIGITS" = some (.int 60 t)
  g_MOST_STEPS : ∃ t, mg "MOST_STEPS" = some (.int 400 t)
  x_BadScript : ErrD prg K mg "BadScript" "BadScript.__init__" s_BadScript_init "part"
  x_BadText : ErrD prg K mg "BadText" "BadText.__init__" s_BadText_init "item"
  d_is_integer : Dfn K mg "is_integer" s_is_integer ["value"]
  d_is_within : Dfn K mg "is_within" s_is_within ["value", "least", "most"]
  d_number_in : Dfn K mg "number_in" s_number_in ["item"]
  d_Scan_init : Idf K mg "Scan" (He.ga K "Scan") "Scan.__init__" s_Scan_init ["self", "text"]
  d_Scan_ahead : Mdf K (He.ga K "Scan") "ahead" "Scan.ahead" s_Scan_ahead ["self"]
  d_Scan_refuse : Mdf K (He.ga K "Scan") "refuse" "Scan.refuse" s_Scan_refuse ["self"]
  d_Scan_take_just : Mdf K (He.ga K "Scan") "take_just" "Scan.take_just" s_Scan_take_just ["self", "word"]
  d_Scan_take_number : Mdf K (He.ga K "Scan") "take_number" "Scan.take_number" s_Scan_take_number ["self", "least", "most"]
  d_Scan_finish : Mdf K (He.ga K "Scan") "finish" "Scan.finish" s_Scan_finish ["self"]
  d_bounds_of : Dfn K mg "bounds_of" s_bounds_of ["word"]
  d_is_step : Dfn K mg "is_step" s_is_step ["value"]
  d_is_script : Dfn K mg "is_script" s_is_script ["value"]
  d_script_text : Dfn K mg "script_text" s_script_text ["script"]
  d_step_in : Dfn K mg "step_in" s_step_in ["scan"]
  d_read_script : Dfn K mg "read_script" s_read_script ["text"]
  d_law_quiver : Dfn K mg "_law_quiver" s_law_quiver ["_law_script"]
  d_law_shoot : Dfn K mg "_law_shoot" s_law_shoot ["_law_quiver_here", "_law_many"]
  d_law_pick : Dfn K mg "_law_pick" s_law_pick ["_law_quiver_here", "_law_some"]
  d_law_bounds : Dfn K mg "_law_bounds" s_law_bounds ["_law_word"]
  d_law_is_step : Dfn K mg "_law_is_step" s_law_is_step ["_law_value"]
  d_law_is_script : Dfn K mg "_law_is_script" s_law_is_script ["_law_value"]
  d_law_step : Dfn K mg "_law_step" s_law_step ["_law_quiver_here"]
  d_law_bent : Dfn K mg "_law_bent" s_law_bent ["_law_quiver_here", "_law_script"]
  d_law_is_number : Dfn K mg "_law_is_number" s_law_is_number ["_law_item"]
  d_law_items : Dfn K mg "_law_items" s_law_items ["_law_text_here"]
  d_law_text : Dfn K mg "_law_text" s_law_text ["_law_quiver_here", "_law_script"]
  d_law_heard : Dfn K mg "_law_heard" s_law_heard ["_law_ask"]
  d_law : Dfn K mg "law" s_law ["_law_script"]
  cl_Scan : Cls K (He.ga K "Scan")
  na_Scan_words : NoAttr K (He.ga K "Scan") "words"
  na_Scan_at : NoAttr K (He.ga K "Scan") "at"
  g_BOUNDS : mg "BOUNDS" = some (.ref (He.ga K "BOUNDS"))
  b_BOUNDS : Dp K H00 (.ref (He.ga K "BOUNDS")) boundsD
theorem sc_is_integer : FnScope ["value"] ["value"] (defScope s_is_integer) := ⟨rfl, rfl, rfl, by decide +kernel, rfl, by decide +kernel, by decide +kernel⟩
theorem sc_is_within : FnScope ["value", "least", "most"] ["value", "least", "most"] (defScope s_is_within) := ⟨rfl, rfl, rfl, by decide +kernel, rfl, by decide +kernel, by decide +kernel⟩
theorem sc_number_in : FnScope ["item", "digits", "sign"] ["item"] (defScope s_number_in) := ⟨rfl, rfl, rfl, by decide +kernel, rfl, by decide +kernel, by decide +kernel⟩
theorem sc_Scan_init : FnScope ["self", "text"] ["self", "text"] (defScope s_Scan_init) := ⟨rfl, rfl, rfl, by decide +kernel, rfl, by decide +kernel, by decide +kernel⟩
theorem sc_Scan_ahead : FnScope ["self"] ["self"] (defScope s_Scan_ahead) := ⟨rfl, rfl, rfl, by decide +kernel, rfl, by decide +kernel, by decide +kernel⟩
theorem sc_Scan_refuse : FnScope ["self"] ["self"] (defScope s_Scan_refuse) := ⟨rfl, rfl, rfl, by decide +kernel, rfl, by decide +kernel, by decide +kernel⟩
theorem sc_Scan_take_just : FnScope ["self", "word"] ["self", "word"] (defScope s_Scan_take_just) := ⟨rfl, rfl, rfl, by decide +kernel, rfl, by decide +kernel, by decide +kernel⟩
theorem sc_Scan_take_number : FnScope ["self", "least", "most", "item", "number"] ["self", "least", "most"] (defScope s_Scan_take_number) := ⟨rfl, rfl, rfl, by decide +kernel, rfl, by decide +kernel, by decide +kernel⟩
theorem sc_Scan_finish : FnScope ["self"] ["self"] (defScope s_Scan_finish) := ⟨rfl, rfl, rfl, by decide +kernel, rfl, by decide +kernel, by decide +kernel⟩
theorem sc_bounds_of : FnScope ["word", "known", "bounds"] ["word"] (defScope s_bounds_of) := ⟨rfl, rfl, rfl, by decide +kernel, rfl, by decide +kernel, by decide +kernel⟩
theorem sc_is_step : FnScope ["value", "bounds", "number", "most"] ["value"] (defScope s_is_step) := ⟨rfl, rfl, rfl, by decide +kernel, rfl, by decide +kernel, by decide +kernel⟩
theorem sc_is_script : FnScope ["value", "step"] ["value"] (defScope s_is_script) := ⟨rfl, rfl, rfl, by decide +kernel, rfl, by decide +kernel, by decide +kernel⟩
theorem sc_script_text : FnScope ["script", "step", "item"] ["script"] (defScope s_script_text) := ⟨rfl, rfl, rfl, by decide +kernel, rfl, by decide +kernel, by decide +kernel⟩
theorem sc_step_in : FnScope ["scan", "word", "bounds", "numbers", "most"] ["scan"] (defScope s_step_in) := ⟨rfl, rfl, rfl, by decide +kernel, rfl, by decide +kernel, by decide +kernel⟩
theorem sc_read_script : FnScope ["text", "scan", "script"] ["text"] (defScope s_read_script) := ⟨rfl, rfl, rfl, by decide +kernel, rfl, by decide +kernel, by decide +kernel⟩
theorem sc_law_quiver : FnScope ["_law_script", "_law_cell"] ["_law_script"] (defScope s_law_quiver) := ⟨rfl, rfl, rfl, by decide +kernel, rfl, by decide +kernel, by decide +kernel⟩
theorem sc_law_shoot : FnScope ["_law_quiver_here", "_law_many", "_law_rest", "_law_at", "_law_cell", "_law_mixed"] ["_law_quiver_here", "_law_many"] (defScope s_law_shoot) := ⟨rfl, rfl, rfl, by decide +kernel, rfl, by decide +kernel, by decide +kernel⟩
theorem sc_law_pick : FnScope ["_law_quiver_here", "_law_some"] ["_law_quiver_here", "_law_some"] (defScope s_law_pick) := ⟨rfl, rfl, rfl, by decide +kernel, rfl, by decide +kernel, by decide +kernel⟩
theorem sc_law_bounds : FnScope ["_law_word", "_law_words"] ["_law_word"] (defScope s_law_bounds) := ⟨rfl, rfl, rfl, by decide +kernel, rfl, by decide +kernel, by decide +kernel⟩
theorem sc_law_is_step : FnScope ["_law_value", "_law_bounds_here", "_law_number", "_law_most"] ["_law_value"] (defScope s_law_is_step) := ⟨rfl, rfl, rfl, by decide +kernel, rfl, by decide +kernel, by decide +kernel⟩
theorem sc_law_is_script : FnScope ["_law_value", "_law_step_here"] ["_law_value"] (defScope s_law_is_script) := ⟨rfl, rfl, rfl, by decide +kernel, rfl, by decide +kernel, by decide +kernel⟩
theorem sc_law_step : FnScope ["_law_quiver_here", "_law_word", "_law_numbers", "_law_most"] ["_law_quiver_here"] (defScope s_law_step) := ⟨rfl, rfl, rfl, by decide +kernel, rfl, by decide +kernel, by decide +kernel⟩
theorem sc_law_bent : FnScope ["_law_quiver_here", "_law_script", "_law_kind", "_law_rows", "_law_at", "_law_place", "_law_odd", "_law_step_here"] ["_law_quiver_here", "_law_script"] (defScope s_law_bent) := ⟨rfl, rfl, rfl, by decide +kernel, rfl, by decide +kernel, by decide +kernel⟩
theorem sc_law_is_number : FnScope ["_law_item", "_law_digits", "_law_sign"] ["_law_item"] (defScope s_law_is_number) := ⟨rfl, rfl, rfl, by decide +kernel, rfl, by decide +kernel, by decide +kernel⟩
theorem sc_law_items : FnScope ["_law_text_here", "_law_words", "_law_at", "_law_steps", "_law_step_here", "_law_bounds_here", "_law_most"] ["_law_text_here"] (defScope s_law_items) := ⟨rfl, rfl, rfl, by decide +kernel, rfl, by decide +kernel, by decide +kernel⟩
theorem sc_law_text : FnScope ["_law_quiver_here", "_law_script", "_law_kind", "_law_text_here", "_law_words", "_law_place", "_law_at", "_law_other", "_law_item", "_law_step_here"] ["_law_quiver_here", "_law_script"] (defScope s_law_text) := ⟨rfl, rfl, rfl, by decide +kernel, rfl, by decide +kernel, by decide +kernel⟩
theorem sc_law_heard : FnScope ["_law_ask", "_law_found", "_law_caught", "error"] ["_law_ask"] (defScope s_law_heard) := ⟨rfl, rfl, rfl, by decide +kernel, rfl, by decide +kernel, by decide +kernel⟩
theorem sc_law : FnScope ["_law_script", "_law_quiver_here", "_law_turn", "_law_steps", "_law_text_here", "_law_value", "_law_due", "_law_told", "_law_item", "_law_read", "_law_each", "_law_step_here"] ["_law_script"] (defScope s_law) := ⟨rfl, rfl, rfl, by decide +kernel, rfl, by decide +kernel, by decide +kernel⟩
section
variable {w : World} {K : W.Frag} {mg : Str → Option Value} {base : Heap}
def sp_is_integer (K : W.Frag) : Sp := fun vs H Q _ => ∃ v d, vs = [v] ∧ Vd K H v d ∧ Q (.bl (dInt d)) H
theorem c_is_integer (T : Txt K mg) : Cal prg w K mg base CX0 1 "is_integer" ["value"] (sp_is_integer K) := by
  refine T.d_is_integer.cal sc_is_integer (fun vs H Q E ⟨v, d, e, _⟩ => by rw [e]; rfl) fun f cdv A outer s H vs Q E hr h => ?_
  have nd := sc_is_integer.nd
  obtain ⟨v, d, rfl, hv, q⟩ := h
  refine ⟨_, PSs.nox (pss_one (ps_ret (pe_and (pe_callB call_isi (by rfl) T.f_isinstance (by decide +kernel) (pa_cons (pv 0) (pa_cons (pe_bltn (v := .ty "int") (by rfl) T.f_int (by decide +kernel) rfl) pa_nil))) (pe_one (pe_not (pe_callB call_isi (by rfl) T.f_isinstance (by decide +kernel) (pa_cons (pv 0) (pa_cons (pe_bltn (v := .ty "bool") (by rfl) T.f_bool (by decide +kernel) rfl) pa_nil)))))))), ?_⟩
  dsimp only [tRet, tRetN, tSeq, tAsg, tOp, tVar, tC, tCB, tCons, tNil, tAndV, tOrV, tNotV, tAnd, tOr, tNot, tTest, tIf, tIfS, tB, tChain, tSl, tPart, tNoPart, tLst, tTup, tFld, tCl, tMt, tMk, gName, tNext, tBM, tBM0, tUn, tSub, tPar, tPar3, gTup, gCons, gNil, tDrop, tMkS, tM1, sFld, StX.tStar, tYes, gSub, cxOf, Cx.wish, Cx.nox, Cx.blk]
  refine ⟨_, rfl, isi_rd hv (kit_int d) ⟨_, rfl, ?_⟩⟩
  refine ite2 (fun c => ⟨_, rfl, isi_rd hv (kit_bool d) ⟨_, rfl, ?_⟩⟩) fun c => ?_
  · rw [show (!dBool d) = dInt d by cases d <;> simp_all [dInt, dBool]]
    exact q
  · rw [show false = dInt d by cases d <;> simp_all [dInt, dBool]]
    exact q
/-- a bound: None is none -/
def mostV : Option Int → V
  | none => .non
  | some i => .int i
def within (d : PyData) (l : Int) (m : Option Int) : Bool := match d with
  | .int i => decide (l ≤ i) && (match m with | none => true | some m => decide (i ≤ m))
  | _ => false
def sp_is_within (K : W.Frag) : Sp := fun vs H Q _ => ∃ v d l m, vs = [v, .int l, mostV m] ∧ Vd K H v d ∧ Q (.bl (within d l m)) H
theorem c_is_within (T : Txt K mg) : Cal prg w K mg base CX0 2 "is_within" ["value", "least", "most"] (sp_is_within K) := by
  refine T.d_is_within.cal sc_is_within (fun vs H Q E ⟨v, d, l, m, e, _⟩ => by rw [e]; rfl) fun f cdv A outer s H vs Q E hr h => ?_
  have nd := sc_is_within.nd
  obtain ⟨v, d, l, m, rfl, hv, q⟩ := h
  refine ⟨_, PSs.nox (pss_cons (ps_if (pt_not (pt_val (pe_cl (c_is_integer T) (hr.mono (by decide)) pass0 (pa_cons (pv 0) pa_nil)))) (pss_one (ps_ret pe_bl)) pss_nil)
      (pss_one (ps_ret (pe_and (pe_or (pe_cmpR L2.op_isN (pv 1) pe_non (nomark _)) (pe_one (pe_cmpR op_ge (pv 0) (pv 1) (nomark _)))) (pe_one (pe_or (pe_cmpR L2.op_isN (pv 2) pe_non (nomark _)) (pe_one (pe_cmpR op_le (pv 0) (pv 2) (nomark _))))))))), ?_⟩
  dsimp only [tRet, tRetN, tSeq, tAsg, tOp, tVar, tC, tCB, tCons, tNil, tAndV, tOrV, tNotV, tAnd, tOr, tNot, tTest, tIf, tIfS, tB, tChain, tSl, tPart, tNoPart, tLst, tTup, tFld, tCl, tMt, tMk, gName, tNext, tBM, tBM0, tUn, tSub, tPar, tPar3, gTup, gCons, gNil, tDrop, tMkS, tM1, sFld, StX.tStar, tYes, gSub, cxOf, Cx.wish, Cx.nox, Cx.blk]
  refine ⟨_, rfl, v, d, rfl, hv, _, rfl, ?_⟩
  cases d with
  | int i =>
    obtain rfl := hv.int
    cases m with
    | none => by_cases c : l ≤ i <;> simp [L2.start, rI0, rI, mostV, within, dInt, c] at q ⊢ <;> exact q
    | some m => by_cases c : l ≤ i <;> simp [L2.start, rI0, rI, mostV, within, dInt, c] at q ⊢ <;> exact q
  | _ => simpa [dInt, within] using q
def sp_number_in : Sp := fun vs H Q _ => ∃ a, vs = [.str (S a)] ∧ a.length ≤ sizeLine ∧ ∀ H', Ext H H' → Q (mostV (numIn a)) H'
theorem c_number_in (T : Txt K mg) : Cal prg w K mg base CX0 1 "number_in" ["item"] (sp_number_in) := by
  refine T.d_number_in.cal sc_number_in (fun vs H Q E ⟨x, e, _⟩ => by rw [e]; rfl) fun f cdv A outer s H vs Q E hr h => ?_
  have nd := sc_number_in.nd
  obtain ⟨a, rfl, hl, q⟩ := h
  refine ⟨_, PSs.nox (pss_cons (ps_set (i := 1) nd rfl (Or.inl rfl) (pe_ifExp (pt_cmpR op_eq (pe_slice sl_str (pv 0) po_none (po_some pe_int)) pe_str (nomark _)) (pe_slice sl_str (pv 0) (po_some pe_int) po_none) (pv 0)))
      (pss_cons (ps_if (PW.pt (pw_or (pt_cmpR op_eq (pv 1) pe_str (nomark _)) (pw_or (pt_cmpR op_gt (pe_callB call_len_str (by rfl) T.f_len (by decide +kernel) (pa_cons (pv 1) pa_nil)) (pe_glob (v := .int 60) rfl T.g_MOST_DIGITS.choose_spec ⟨_, rfl⟩) (nomark _)) (pw_or1 (pt_not (pt_val (pe_callB (cr_all rfl) (by rfl) T.f_all (by decide +kernel) (pa_cons (pe_lc (own := [("sign", 2)]) (tt := tYes) (g := gName 2) rfl nd (pi_str (pv 1)) (blkOk_by (own := [("sign", 2)]) (N := ["item", "digits", "sign"]) (sc := defScope s_number_in) (by decide +kernel)) (fun _ _ _ _ _ => (pg_name (i := 2) nd rfl (Or.inl rfl))) (fun _ _ _ _ _ => pts_nil) (fun _ _ _ _ _ => (pe_chain op_le_str op_le_str pe_str (pv 2) pe_str))) pa_nil)))))))) (pss_one (ps_ret pe_non)) pss_nil)
      (pss_cons (ps_if (PW.pt (pw_and (pt_cmpR op_eq (pe_ix ix_str (pv 1) pe_int (fun _ _ => rfl)) pe_str (nomark _)) (pw_and1 (pt_cmpR op_ne (pv 0) pe_str (nomark _))))) (pss_one (ps_ret pe_non)) pss_nil)
      (pss_one (ps_ret (pe_callTy call_int_str (by rfl) T.f_int (by decide +kernel) (pa_cons (pv 0) pa_nil))))))), ?_⟩
  refine cut_asg (fun v H' => v = .str (S (dgl a)) ∧ H' = H) (fun Q1 k1 => ?_) fun v H1 ⟨ev, eH⟩ => ?_
  · dsimp only [tRet, tRetN, tSeq, tAsg, tOp, tVar, tC, tCB, tCons, tNil, tAndV, tOrV, tNotV, tAnd, tOr, tNot, tTest, tIf, tIfS, tB, tChain, tSl, tPart, tNoPart, tLst, tTup, tFld, tCl, tMt, tMk, gName, tNext, tBM, tBM0, tUn, tSub, tPar, tPar3, gTup, gCons, gNil, tDrop, tMkS, tM1, sFld, StX.tStar, tYes, gSub, cxOf, Cx.wish, Cx.nox, Cx.blk]
    refine ⟨_, rfl, _, rfl, rTake_S (n := 1) hl (rEq_S (b := [45]) (by decide +kernel) ⟨_, rfl, ?_⟩)⟩
    refine ite2 (fun c => ⟨_, rfl, _, rfl, rDrop_S (n := 1) hl (k1 _ _ ⟨?_, rfl⟩)⟩) fun c => ⟨_, rfl, k1 _ _ ⟨?_, rfl⟩⟩
    · rw [dgl, if_pos (of_decide_eq_true c)]
    · rw [dgl, if_neg (by simpa using c)]
  subst ev eH
  have hl2 : (dgl a).length ≤ sizeLine := Nat.le_trans (dgl_len a).1 hl
  refine cut_if (fun c H' => c = !okD (dgl a) ∧ Ext H1 H') (fun Q1 k1 => ?_) fun c H2 ⟨ec, e2⟩ => ?_
  · dsimp only [tRet, tRetN, tSeq, tAsg, tOp, tVar, tC, tCB, tCons, tNil, tAndV, tOrV, tNotV, tAnd, tOr, tNot, tTest, tIf, tIfS, tB, tChain, tSl, tPart, tNoPart, tLst, tTup, tFld, tCl, tMt, tMk, gName, tNext, tBM, tBM0, tUn, tSub, tPar, tPar3, gTup, gCons, gNil, tDrop, tMkS, tM1, sFld, StX.tStar, tYes, gSub, cxOf, Cx.wish, Cx.nox, Cx.blk]
    refine ⟨_, rfl, rEq_S (b := []) (by decide +kernel) ⟨_, rfl, ?_⟩⟩
    refine ite2 (fun c => k1 _ _ ⟨?_, Ext.rfl'⟩) fun c => ⟨_, rfl, _, rfl, by rw [S_len]; exact hl2, _, _, rfl, rfl, _, rfl, ?_⟩
    · rw [okD, of_decide_eq_true c]
      rfl
    rw [S_len]
    refine ite2 (fun c2 => k1 _ _ ⟨?_, Ext.rfl'⟩) fun c2 => ?_
    · have : ¬ (dgl a).length ≤ 60 := by
        have := of_decide_eq_true c2
        omega
      simp [okD, this]
    have h60 : (dgl a).length ≤ 60 := by
      have z : ¬ (60 : Int) < ((dgl a).length : Int) := by simpa using c2
      omega
    refine ⟨_, rfl, _, rfl, fun D hD => lc_scal walk_str (R := fun i y => ∃ c, (dgl a)[i]? = some c ∧ y = .bl (isDig c)) hD ?_ (fun _ _ => trivial) (fun i H x H' y => by rw [y.1]; exact Ext.rfl') ?_ ?_⟩
    · show (dgl a).length < sizeLine
      exact small1000 (by omega)
    · rintro i x H H' hi e ⟨rfl, c, hc, rfl⟩ Q2 k2
      have hc : (dgl a)[i]? = some c := by simpa [S, SX.S] using hc
      refine ⟨rfl, ?_⟩
      dsimp only [tRet, tRetN, tSeq, tAsg, tOp, tVar, tC, tCB, tCons, tNil, tAndV, tOrV, tNotV, tAnd, tOr, tNot, tTest, tIf, tIfS, tB, tChain, tSl, tPart, tNoPart, tLst, tTup, tFld, tCl, tMt, tMk, gName, tNext, tBM, tBM0, tUn, tSub, tPar, tPar3, gTup, gCons, gNil, tDrop, tMkS, tM1, sFld, StX.tStar, tYes, gSub, cxOf, Cx.wish, Cx.nox, Cx.blk]
      refine ⟨_, rfl, _, _, rfl, rfl, _, rfl, ?_⟩
      refine ite2 (fun c3 => ⟨_, _, rfl, rfl, k2 _ _ Ext.rfl' ⟨c, hc, ?_⟩⟩) fun c3 => k2 _ _ Ext.rfl' ⟨c, hc, ?_⟩
      · rw [sign_lt (by decide +kernel : ("0" : Str) = S [48])] at c3
        rw [sign_gt (by decide +kernel : ("9" : Str) = S [57])]
        have : 48 ≤ c := by
          by_cases z : c < 48
          · simp [z] at c3
          · omega
        by_cases z : c ≤ 57
        · simp [isDig, this, z]
        · simp [isDig, z]
          omega
      · rw [sign_lt (by decide +kernel : ("0" : Str) = S [48])] at c3
        have : ¬ 48 ≤ c := by
          by_cases z : c < 48
          · omega
          · simp [z] at c3
        simp [isDig, this]
    · intro ys H hy hR e hDy
      have ey : ys = ((dgl a).map isDig).map V.bl := by
        rw [List.map_map]
        exact map_of (by simpa [S, SX.S] using hy) hR
      subst ey
      refine all_rd hDy ⟨_, rfl, k1 _ _ ⟨?_, e⟩⟩
      have h1 : dgl a ≠ [] := by simpa using c
      simp [okD, h1, h60, List.all_map]
  subst ec
  cases hd : okD (dgl a) with
  | false =>
    rw [if_pos (by rfl)]
    dsimp only [tRet, tRetN, tSeq, tAsg, tOp, tVar, tC, tCB, tCons, tNil, tAndV, tOrV, tNotV, tAnd, tOr, tNot, tTest, tIf, tIfS, tB, tChain, tSl, tPart, tNoPart, tLst, tTup, tFld, tCl, tMt, tMk, gName, tNext, tBM, tBM0, tUn, tSub, tPar, tPar3, gTup, gCons, gNil, tDrop, tMkS, tM1, sFld, StX.tStar, tYes, gSub, cxOf, Cx.wish, Cx.nox, Cx.blk]
    have z := q H2 e2
    rw [show numIn a = none by simp [numIn, okN, hd]] at z
    exact z
  | true =>
    rw [if_neg (by simp)]
    dsimp only [tRet, tRetN, tSeq, tAsg, tOp, tVar, tC, tCB, tCons, tNil, tAndV, tOrV, tNotV, tAnd, tOr, tNot, tTest, tIf, tIfS, tB, tChain, tSl, tPart, tNoPart, tLst, tTup, tFld, tCl, tMt, tMk, gName, tNext, tBM, tBM0, tUn, tSub, tPar, tPar3, gTup, gCons, gNil, tDrop, tMkS, tM1, sFld, StX.tStar, tYes, gSub, cxOf, Cx.wish, Cx.nox, Cx.blk]
    have hd2 := hd
    simp only [okD, Bool.and_eq_true, decide_eq_true_eq] at hd2
    obtain ⟨h1, h2, h3⟩ := hd2
    obtain ⟨d0, dr, ed⟩ := List.exists_cons_of_ne_nil h1
    have h640 : a.length ≤ 640 := by
      have := (dgl_len a).2
      omega
    have hnum : intText? (S a) = some (numOf a) := num_text hd
    refine ⟨_, rfl, rAt_S (n := 0) (c := d0) hl2 (by rw [ed]; rfl) (rEq_S (a := [d0]) (b := [48]) (by decide +kernel) ⟨_, rfl, ?_⟩)⟩
    refine ite2 (fun c => ⟨_, rfl, rNe_S (b := [48]) (by decide +kernel) ⟨_, rfl, ?_⟩⟩) fun c => ?_
    · have c : d0 = 48 := by simpa using c
      refine ite2 (fun c2 => ?_) fun c2 => ⟨_, rfl, _, _, rfl, hnum, by rw [S_len]; exact h640, ?_⟩
      · have c2 : a ≠ [48] := by simpa using c2
        have z := q H2 e2
        rw [show numIn a = none by simp [numIn, okN, hd, ed, c, c2]] at z
        exact z
      · have c2 : a = [48] := by simpa using c2
        have z := q H2 e2
        rw [show numIn a = some (numOf a) by rw [numIn, if_pos]; simp [okN, hd]; exact .inr c2] at z
        exact z
    · have c : d0 ≠ 48 := by simpa using c
      refine if_f rfl ⟨_, rfl, _, _, rfl, hnum, by rw [S_len]; exact h640, ?_⟩
      have z := q H2 e2
      rw [show numIn a = some (numOf a) by rw [numIn, if_pos]; rw [okN, hd, ed]; simp [c]] at z
      exact z
end
end K80

end
section
/-! Ow3: zip of two sequences, each a list or a tuple. -/
namespace Ow
open PySem L2
open PySem.Spec PyProof.Rows

/-- a list (fl) or a tuple of xs is to be read at a -/
def SqF (K : W.Frag) (fl : Bool) (H : Hp) (a : Addr) (xs : List V) : Prop := match fl with
  | true => SqL K H a xs
  | false => SqT K H a xs
/-- .. on the heap; its iterator's state -/
def SeqH (fl : Bool) (h : Heap) (a : Addr) (its : Array Value) : Prop := match fl with
  | true => h.IsList a its
  | false => h.IsTuple a its
def ItH (fl : Bool) (h : Heap) (it a : Addr) (i : Nat) : Prop := match fl with
  | true => h.IsListIter it a i
  | false => h.IsTupleIter it a i
theorem SeqH.at' {fl : Bool} {h h' : Heap} {a : Addr} {its : Array Value} (x : SeqH fl h a its) (k : ∀ o, h.get? a = some o → h'.get? a = some o) : SeqH fl h' a its := by
  cases fl
  · obtain ⟨o, e, r⟩ := x; exact ⟨o, k o e, r⟩
  · obtain ⟨o, e, r⟩ := x; exact ⟨o, k o e, r⟩
theorem ItH.at' {fl : Bool} {h h' : Heap} {it a : Addr} {i : Nat} (x : ItH fl h it a i) (k : ∀ o, h.get? it = some o → h'.get? it = some o) : ItH fl h' it a i := by
  cases fl
  · obtain ⟨o, e, r⟩ := x; exact ⟨o, k o e, r⟩
  · obtain ⟨o, e, r⟩ := x; exact ⟨o, k o e, r⟩
theorem ItH.obj {fl : Bool} {h : Heap} {it a : Addr} {i : Nat} (x : ItH fl h it a i) : ∃ o, h.get? it = some o ∧ ∀ v, o.data ≠ .cell v := by
  cases fl <;> (obtain ⟨o, e, _, d⟩ := x; exact ⟨o, e, fun v q => by rw [d] at q; cases q⟩)
theorem draws_f {prog : Program} {w : World} {A : Around} (fl : Bool) (hh : A.handled = none) (it a : Addr) (hne : a ≠ it) (its : Array Value) :
    Draws prog w A it [it, a] its.size (fun i v => its[i]? = some v) (fun i h => ItH fl h it a i ∧ SeqH fl h a its) := by
  cases fl
  · exact Draws.tuple hh it a hne its
  · exact Draws.list hh it a hne its
def beginO (fl : Bool) (a : Addr) : Obj := { cls := .type (if fl then "list_iterator" else "tuple_iterator"), data := .fields #[.ref a, .int 0 0] }
theorem begins_f (fl : Bool) (a : Addr) (its : Array Value) : Begins (.ref a) (beginO fl a) (fun h => SeqH fl h a its) := by
  cases fl
  · exact begins_tuple a its
  · exact begins_list a its
theorem begin_it {fl : Bool} {h : Heap} {it a : Addr} (e : h.get? it = some (beginO fl a)) : ItH fl h it a 0 := by
  cases fl <;> exact ⟨_, e, rfl, rfl⟩

section
variable {X : Cx} {pins : List (Addr × Obj)} {σ : L2.St} {H : Hp} {s : Shared} {fl : Bool} {a : Addr} {xs ys : List V}
theorem SqF.on (I : L2.Inv X pins σ H s) (h : SqF X.K fl H a xs) : ∃ its : List Value, Vals xs its ∧ SeqH fl s.heap a its.toArray ∧ xs.length ≤ sizeLine := by
  cases fl
  · obtain ⟨its, r, p, z⟩ := I.tuple h; exact ⟨its, r, p, z⟩
  · obtain ⟨its, r, p, z⟩ := I.list h; exact ⟨its, r, p.isList, z⟩
theorem SqF.inj (I : L2.Inv X pins σ H s) (h : SqF X.K fl H a xs) (h' : SqF X.K fl H a ys) : xs = ys := by
  cases fl
  · exact I.tuple_inj h h'
  · exact I.list_inj h h'
end
/-- the two as they stand at each turn, the items in new pairs -/
def ItzF (K : W.Frag) (f1 f2 : Bool) (a b : Addr) : It :=
  ⟨fun i H => ∃ (xs ys : List V) (x y : V), SqF K f1 H a xs ∧ SqF K f2 H b ys ∧ xs[i]? = some x ∧ ys[i]? = some y,
    fun i H v H' => ∃ T x y, v = .ref T ∧ H T = none ∧ H' = upd H T (.tup [x, y]) ∧ (∀ xs, SqF K f1 H a xs → xs[i]? = some x) ∧ ∀ ys, SqF K f2 H b ys → ys[i]? = some y,
    fun i H => ∃ xs ys : List V, SqF K f1 H a xs ∧ SqF K f2 H b ys ∧ i ≤ xs.length ∧ i ≤ ys.length ∧ (i = xs.length ∨ i = ys.length)⟩

theorem sep_of {z TI TO i1 i2 a b : Nat} (hz : z ≠ TI ∧ z ≠ TO ∧ z ≠ i1 ∧ z ≠ i2 ∧ z ≠ a ∧ z ≠ b) (hT : TI ≠ TO ∧ TI ≠ i1 ∧ TI ≠ i2) (hO : TO ≠ i1 ∧ TO ≠ i2 ∧ TO ≠ a ∧ TO ≠ b) (hi : i1 ≠ i2 ∧ i1 ≠ b ∧ i2 ≠ a) : ZipSep2 z TI TO i1 i2 [i1, a] [i2, b] where
  TIz := hz.1.symm
  TOz := hz.2.1.symm
  TITO := hT.1
  TIi1 := hT.2.1
  mem1 := by simp
  zf1 := by simp [hz.2.2.1, hz.2.2.2.2.1]
  Tf1 := by simp [hO.1, hO.2.2.1]
  TIi2 := hT.2.2
  mem2 := by simp
  zf2 := by simp [hz.2.2.2.1, hz.2.2.2.2.2]
  Tf2 := by simp [hO.2.1, hO.2.2.2]
  sep1_2 := by simp [hi.1, hi.2.1]
  sep2_1 := by simp [hi.1.symm, hi.2.2]
/-- five cells in a row from n, two addresses below -/
structure Five (n z TI TO i1 i2 a b : Addr) : Prop where
  ha : a < n
  hb : b < n
  e : i1 = n ∧ i2 = n + 1 ∧ TI = n + 2 ∧ TO = n + 3 ∧ z = n + 4
theorem Five.sep {n z TI TO i1 i2 a b : Nat} (F : Five n z TI TO i1 i2 a b) : ZipSep2 z TI TO i1 i2 [i1, a] [i2, b] ∧ a ≠ i1 ∧ b ≠ i2 := by
  obtain ⟨ha, hb, h1, h2, h3, h4, h5⟩ := F
  have ha' : @LT.lt Nat _ a n := ha
  have hb' : @LT.lt Nat _ b n := hb
  have k1 : @Eq Nat i1 n := h1
  have k2 : @Eq Nat i2 (n + 1) := h2
  have k3 : @Eq Nat TI (n + 2) := h3
  have k4 : @Eq Nat TO (n + 3) := h4
  have k5 : @Eq Nat z (n + 4) := h5
  exact ⟨sep_of ⟨by omega, by omega, by omega, by omega, by omega, by omega⟩ ⟨by omega, by omega, by omega⟩ ⟨by omega, by omega, by omega, by omega⟩ ⟨by omega, by omega, by omega⟩, by omega, by omega⟩

theorem turn_zipF {P : Program} {w : World} {K : W.Frag} {elts : List Expr} {kk : Nat} {tpos : Pos} {f1 f2 : Bool} {n a b z TI TO i1 i2 : Addr} (F5 : Five n z TI TO i1 i2 a b) :
    Turn P w K (.Tuple elts kk tpos) (ItzF K f1 f2 a b) [z, TI, TO, i1, i2] z (fun i h => IsZip h z TI TO .none ∧ IsTupOf2 h TI (.ref i1) (.ref i2) ∧ (∃ x y, IsTupOf2 h TO x y) ∧ ItH f1 h i1 a i ∧ ItH f2 h i2 b i) := by
  obtain ⟨S, nai, nbi⟩ := F5.sep
  have five : ∀ {c : Addr}, c ∈ [z, TI, TO, i1, i2] → c = z ∨ c = TI ∨ c = TO ∨ c = i1 ∨ c = i2 := fun hc => by simpa using hc
  have live : ∀ {i : Nat} {h : Heap}, (IsZip h z TI TO .none ∧ IsTupOf2 h TI (.ref i1) (.ref i2) ∧ (∃ x y, IsTupOf2 h TO x y) ∧ ItH f1 h i1 a i ∧ ItH f2 h i2 b i) → ∀ c ∈ [z, TI, TO, i1, i2], ∃ o, h.get? c = some o ∧ ∀ v, o.data ≠ .cell v := fun {i h} st c hc => by
    obtain ⟨hz, hTI, ⟨x, y, hTO⟩, h1, h2⟩ := st
    rcases five hc with q | q | q | q | q <;> subst q
    · exact ⟨_, hz, fun v z => by cases z⟩
    · exact ⟨_, hTI, fun v z => by cases z⟩
    · exact ⟨_, hTO, fun v z => by cases z⟩
    · exact h1.obj
    · exact h2.obj
  refine ⟨by simp, fun i h st c hc => live st c hc, fun i h h' st k => ?_, ?_, ?_, fun A i s Q E st h => wpAny_pyIter_zip st.1 h⟩
  · obtain ⟨hz, hTI, ⟨x, y, hTO⟩, h1, h2⟩ := st
    exact ⟨k z (by simp) _ hz, k TI (by simp) _ hTI, ⟨x, y, k TO (by simp) _ hTO⟩, h1.at' (fun o q => k i1 (by simp) o q), h2.at' (fun o q => k i2 (by simp) o q)⟩
  · rintro X rfl rfl rfl hc i pins s σ H E I hf st ⟨xs, ys, x, y, qx, qy, hx, hy⟩
    have lv := live st
    obtain ⟨hz, hTI, ⟨x0, y0, hTO⟩, h1, h2⟩ := st
    obtain ⟨ix, rx, px, _⟩ := qx.on I
    obtain ⟨iy, ry, py, _⟩ := qy.on I
    obtain ⟨u, hu, ru⟩ := rx.get hx
    obtain ⟨v, hv, rv⟩ := ry.get hy
    have l1 : i < ix.toArray.size := by
      have := (List.getElem?_eq_some_iff.mp hu).1
      simpa using this
    have l2 : i < iy.toArray.size := by
      have := (List.getElem?_eq_some_iff.mp hv).1
      simpa using this
    refine wpAny_pyNext_zipD2_item S (draws_f (A := X.A.in1) f1 (I.ok.hd hc) i1 a nai ix.toArray) (draws_f (A := X.A.in1) f2 (I.ok.hd hc) i2 b nbi iy.toArray) hz hTI hTO ⟨h1, px⟩ ⟨h2, py⟩ l1 l2 fun y1 y2 h' tk p1 p2 z' TO' s1 s2 hT hsz hk => ?_
    have e1 : y1 = u := by
      have q : ix.toArray[i]? = some u := by simpa using hu
      rw [q] at p1
      exact (Option.some.inj p1).symm
    have e2 : y2 = v := by
      have q : iy.toArray[i]? = some v := by simpa using hv
      rw [q] at p2
      exact (Option.some.inj p2).symm
    subst e1 e2
    have below : ∀ c ∈ [z, TI, TO, i1, i2], c < s.heap.objs.size := fun c hcm => by
      obtain ⟨o, e, _⟩ := lv c hcm
      exact Heap.lt_size e
    have bz : s.heap.objs.size ≠ z := Nat.ne_of_gt (below z (by simp))
    refine ⟨_, rfl, wpAny_letOwnedTupleGo_zip (s := { s with heap := h', toks := tk }) z' fun h2' z2 sb => ?_⟩
    have hT2 := (sb.2 _ bz).trans hT
    have I1 : L2.Inv X pins σ (upd H s.heap.objs.size (.tup [x, y])) { s with heap := h2', toks := tk } :=
      I.turnedNew (ch := [z, TI, TO, i1, i2]) (fun c o nb q => (sb.2 c (fun q' => nb (by simp [q']))).trans (hk c o (fun q' => nb (by simp [q'])) (fun q' => nb (by simp [q'])) (fun q' => nb (by simp [q'])) (fun q' => nb (by simp [q'])) q)) hf (Nat.le_refl _)
        ⟨by show 2 ≤ sizeLine; decide, [y1, y2], .cons ru (.cons rv .nil), ⟨_, hT2, rfl, _, rfl⟩⟩
    refine ⟨.ref s.heap.objs.size, _, I1, rfl, ⟨_, x, y, rfl, I.hok.fresh (Nat.le_refl _), rfl, fun l hl => by rw [SqF.inj I hl qx]; exact hx, fun l hl => by rw [SqF.inj I hl qy]; exact hy⟩, ⟨z2, ?_, ⟨y1, y2, (sb.2 _ S.TOz).trans TO'⟩, s1.1.at' fun o q => (sb.2 _ (Ne.symm S.zi1)).trans q, s2.1.at' fun o q => (sb.2 _ (Ne.symm S.zi2)).trans q⟩, fun c hcm => ?_⟩
    · exact (sb.2 _ S.TIz).trans (hk _ _ S.TIz S.TITO S.TIi1 S.TIi2 hTI)
    · rw [upd_ne (Nat.ne_of_lt (below c hcm))]
      exact (hf c hcm).1
  · rintro X rfl rfl rfl hc i pins s σ H E I hf st ⟨xs, ys, qx, qy, m1, m2, hend⟩
    obtain ⟨hz, hTI, ⟨x0, y0, hTO⟩, h1, h2⟩ := st
    obtain ⟨ix, rx, px, _⟩ := qx.on I
    obtain ⟨iy, ry, py, _⟩ := qy.on I
    have l1 := rx.length
    have l2 := ry.length
    have z1 : ix.toArray.size = xs.length := by simp [l1]
    have z2 : iy.toArray.size = ys.length := by simp [l2]
    refine wpAny_pyNext_zipD2_end S (draws_f (A := X.A.in1) f1 (I.ok.hd hc) i1 a nai ix.toArray) (draws_f (A := X.A.in1) f2 (I.ok.hd hc) i2 b nbi iy.toArray) hz hTI hTO ⟨h1, px⟩ ⟨h2, py⟩ (by omega) (by omega) (by omega) fun h' tk hk => ⟨rfl, ?_⟩
    exact I.turnedL (ch := [z, TI, TO, i1, i2]) (fun c o nb q => hk c o (fun q' => nb (by simp [q'])) (fun q' => nb (by simp [q'])) (fun q' => nb (by simp [q'])) (fun q' => nb (by simp [q'])) q) hf

/-- for .. in zip(e, e2) -/
def iZipF (K : W.Frag) (ta : TA) : TI := fun σ H R => ta σ H fun vs H1 => ∃ (a b : Addr) (xs ys : List V) (f1 f2 : Bool), vs = [.ref a, .ref b] ∧ SqF K f1 H1 a xs ∧ SqF K f2 H1 b ys ∧ R (ItzF K f1 f2 a b) H1
theorem pi_zipF {X : Cx} {e e2 : Expr} {ta : TA} {p pos tpos : Pos} {elts : List Expr} {kk : Nat} (hg : Gl X "zip") (hm : X.mg "zip" = none) (ha : PA X [e, e2] ta)
    (hs : starEach [e, e2] X.env = (false, eval e X.env) :: starEach [e2] X.env := by rfl) (hpl : (backTo pos (starEach [e2] X.env)).any (·.1) = false := by rfl) :
    PI X (.Tuple elts kk tpos) (.Call (.Name "zip" p) [e, e2] [] pos) (iZipF X.K ta) := by
  refine ⟨fun pins s σ H R I h => ?_⟩
  refine Call_ (ld_blt I hg hm PyProof.Rows.boot_zip (PyProof.Rows.callWith_type1 (thn (ha.run pos pins s σ H _ I h) fun us s1 ⟨vs, H1, I1, r1, q1⟩ => ?_) hs hpl))
  obtain ⟨a, b, xs, ys, f1, f2, ex, qx, qy, q⟩ := q1
  subst ex
  obtain ⟨u1, u2, rfl, ra, rb⟩ := vals2 r1
  cases (show u1 = Value.ref a from ra)
  cases (show u2 = Value.ref b from rb)
  obtain ⟨ix, rx, px, _⟩ := qx.on I1
  obtain ⟨iy, ry, py, _⟩ := qy.on I1
  have lt : ∀ {fl : Bool} {c : Addr} {its : Array Value}, SeqH fl s1.heap c its → c < s1.heap.objs.size := fun {fl c its} z => by
    cases fl <;> (obtain ⟨o, e, _⟩ := z; exact Heap.lt_size e)
  refine zip_begins2 (begins_f f1 a ix.toArray) (begins_f f2 b iy.toArray) px py fun h' hz hTI hTO g1 g2 hsz hk => wpAny_pyIter_zip hz ?_
  have I2 : L2.Inv X pins σ H1 { s1 with heap := h' } := I1.kept (t' := s1.toks) hk
  refine ⟨s1.heap.objs.size + 4, [s1.heap.objs.size + 4, s1.heap.objs.size + 2, s1.heap.objs.size + 3, s1.heap.objs.size, s1.heap.objs.size + 1], _, _, H1, rfl, I2, turn_zipF ⟨lt px, lt py, rfl, rfl, rfl, rfl, rfl⟩, ⟨hz, hTI, ⟨_, _, hTO⟩, begin_it g1, begin_it g2⟩, fun c hcm => ?_, q⟩
  have hle : s1.heap.objs.size ≤ c := by
    have e' : c = s1.heap.objs.size + 4 ∨ c = s1.heap.objs.size + 2 ∨ c = s1.heap.objs.size + 3 ∨ c = s1.heap.objs.size ∨ c = s1.heap.objs.size + 1 := by simpa using hcm
    rcases e' with z | z | z | z | z <;> rw [z] <;> first | exact Nat.le_refl _ | exact Nat.le_add_right _ _
  exact I1.fpOk hle (I1.hok.fresh hle)
theorem walk_zipF {K : W.Frag} {f1 f2 : Bool} {a b : Addr} {xs ys : List V} {n : Nat} (hn : n = min xs.length ys.length) : Walk (ItzF K f1 f2 a b) n (fun H => SqF K f1 H a xs ∧ SqF K f2 H b ys) (YPair (fun i => xs[i]?) (fun i => ys[i]?)) := by
  subst hn
  refine ⟨fun i _ hi q => ?_, fun _ q => ⟨xs, ys, q.1, q.2, Nat.min_le_left _ _, Nat.min_le_right _ _, by omega⟩, fun i H v H' _ q y => ?_⟩
  · have h1 : i < xs.length := by omega
    have h2 : i < ys.length := by omega
    exact ⟨xs, ys, xs[i], ys[i], q.1, q.2, by simp [h1], by simp [h2]⟩
  · obtain ⟨T, x, z, h1, h2, h3, h4, h5⟩ := y
    exact ⟨T, x, z, h1, h2, h3, h4 xs q.1, h5 ys q.2⟩
end Ow

end
section
/-! Ow11: a list or a tuple, whichever. -/
namespace Ow
open PySem L2
open PySem.Spec PyProof.Rows
section
variable {K : W.Frag} {H H' : Hp} {fl : Bool} {a : Addr} {xs : List V} {Q : VK}
theorem SqF.or (h : SqF K fl H a xs) : SqL K H a xs ∨ SqT K H a xs := by
  cases fl
  · exact .inr h
  · exact .inl h
theorem SqF.ext (h : SqF K fl H a xs) (e : Ext H H') : SqF K fl H' a xs := by
  cases fl
  · exact SqT.ext h e
  · exact SqL.ext h e
def dItems : PyData → List PyData
  | .list ds => ds
  | .tuple ds => ds
  | _ => []
theorem seq_of {v : V} {d : PyData} (h : Vd K H v d) (hs : dSeq d = true) : ∃ fl a xs, v = .ref a ∧ SqF K fl H a xs ∧ DpAll K H xs (dItems d) := by
  rcases h with h | ⟨_, _, _, rfl⟩
  · cases h with
    | lst q r => exact ⟨true, _, _, rfl, q, r⟩
    | tup q r => exact ⟨false, _, _, rfl, q, r⟩
    | _ => cases hs
  · cases hs
theorem at0 {x : V} {r : List V} : atI (x :: r) 0 = some x := atI_nat (j := 0) rfl
theorem ixF {i : Int} {v : V} (h : SqF K fl H a xs) (e : atI xs i = some v) (q : Q v H) : rIx K (.ref a) (.int i) H Q := by
  rcases h.or with h | h
  · exact .inl ⟨a, xs, i, v, rfl, rfl, h, e, q⟩
  · exact .inr (.inl ⟨a, xs, i, v, rfl, rfl, h, e, q⟩)
theorem cut1 {xs : List V} : cutV xs (some 1) none = xs.drop 1 := by
  unfold cutV
  rw [HT.sIx_none, show (some (1 : Int)) = some ((1 : Nat) : Int) from rfl, HT.sIx_nat]
  by_cases c : 1 ≤ xs.length
  · rw [Nat.min_eq_left c, List.take_of_length_le (by simp)]
  · rw [Nat.min_eq_right (by omega), List.drop_of_length_le (Nat.le_refl _), List.drop_of_length_le (by omega), List.take_nil]
/-- s[1:] of what isn't empty: a new one of the same kind -/
theorem slF1 (h : SqF K fl H a xs) (hn : xs ≠ []) (q : ∀ p H', Ext H H' → SqF K fl H' p (xs.drop 1) → Q (.ref p) H') : rSlL K (.ref a) (some 1) none H Q ∨ rSlT K (.ref a) (some 1) none H Q := by
  cases fl
  · refine .inr ⟨a, xs, rfl, h, fun z => ?_, fun p hp => ?_⟩
    · have z1 := z.1
      rw [show (some (1 : Int)) = some ((1 : Nat) : Int) from rfl, HT.sIx_nat] at z1
      have : xs.length ≠ 0 := fun e => hn (List.length_eq_zero_iff.mp e)
      omega
    · rw [cut1]
      exact q p _ (Ext.upd hp) (SqT.of upd_same)
  · refine .inl ⟨a, xs, rfl, h, fun p hp => ?_⟩
    rw [cut1]
    exact q p _ (Ext.upd hp) (SqL.of upd_same)
end
def ItF (K : W.Frag) (fl : Bool) (a : Addr) : It := if fl = true then Itl K a else Itt K a
/-- for x in s, s a list or a tuple -/
def iSeqF (K : W.Frag) (tl : TE) : TI := fun σ H R => tl σ H fun x H1 => ∃ (fl : Bool) (a : Addr) (xs : List V), x = .ref a ∧ SqF K fl H1 a xs ∧ R (ItF K fl a) H1
theorem pi_seqF {X : Cx} {tg l : Expr} {tl : TE} (hl : PE X l tl) : PI X tg l (iSeqF X.K tl) := by
  refine ⟨fun pins s σ H R J h => thn (hl.run pins s σ H _ J h) fun v s1 ⟨x, H1, J1, r1, fl, a, xs, ex, hq, q⟩ => ?_⟩
  subst ex
  cases r1
  have fp : ∀ b ∈ [s1.heap.objs.size], FpOk X pins H1 b := fun b hb => by
    rw [List.mem_singleton.mp hb]
    exact J1.fpOk (Nat.le_refl _) (J1.hok.fresh (Nat.le_refl _))
  cases fl with
  | true =>
    obtain ⟨its, rv, p, hz⟩ := J1.list hq
    exact wpAny_pyIter_list p.isList ⟨s1.heap.objs.size, [s1.heap.objs.size], _, _, H1, rfl, J1.kept (t' := s1.toks) fun b o e => Heap.get?_push_of_some _ e, turn_list a _, ⟨_, Heap.get?_push_size _ rfl, rfl, rfl⟩, fp, q⟩
  | false =>
    obtain ⟨its, rv, p, hz⟩ := J1.tuple hq
    exact wpAny_pyIter_tuple (show s1.heap.IsTuple a its.toArray from p) ⟨s1.heap.objs.size, [s1.heap.objs.size], _, _, H1, rfl, J1.kept (t' := s1.toks) fun b o e => Heap.get?_push_of_some _ e, turn_tuple a _, ⟨_, Heap.get?_push_size _ rfl, rfl, rfl⟩, fp, q⟩
/-- the same, K said -/
theorem pi_seqFK {X : Cx} {K : W.Frag} {tg l : Expr} {tl : TE} (hK : X.K = K) (hl : PE X l tl) : PI X tg l (iSeqF K tl) := by
  subst hK
  exact pi_seqF hl
theorem call_list_ofK {X : Cx} {K : W.Frag} (hK : X.K = K) : CallR X (.type "list") (fun xs H Q => ∃ p ys, xs = [.ref p] ∧ (SqL K H p ys ∨ SqT K H p ys) ∧ ∀ l, H l = none → Q (.ref l) (upd H l (.lst ys))) := by
  subst hK
  exact call_list_of
theorem call_tuple_ofK {X : Cx} {K : W.Frag} (hK : X.K = K) : CallR X (.type "tuple") (fun xs H Q => ∃ p ys, xs = [.ref p] ∧ ((SqL K H p ys ∧ ∀ l, H l = none → Q (.ref l) (upd H l (.tup ys))) ∨ (SqT K H p ys ∧ Q (.ref p) H))) := by
  subst hK
  exact call_tuple_of
theorem walk_seqF {K : W.Frag} {fl : Bool} {a : Addr} {xs : List V} : Walk (ItF K fl a) xs.length (fun H => SqF K fl H a xs) (YAt xs) := by
  cases fl
  · exact walk_tup
  · exact walk_list
end Ow

end
section
/-! K80b: bounds, steps, scripts. -/
namespace K80
open PySem L2 Ow
open PySem.Spec PyProof.Rows
section
variable {w : World} {K : W.Frag} {mg : Str → Option Value} {base : Heap}
/-- what bounds_of gives -/
def lookB (a : List Nat) : Option (List (Option Int)) := boundsOf.lookup a
theorem lk_mem {α β : Type} [BEq α] [LawfulBEq α] {a : α} {b : β} : ∀ {l : List (α × β)}, l.lookup a = some b → (a, b) ∈ l
  | [], h => by cases h
  | (x, y) :: r, h => by
    rw [List.lookup_cons] at h
    split at h
    · rename_i q
      cases h
      rw [eq_of_beq q]
      exact List.mem_cons_self
    · exact List.mem_cons_of_mem _ (lk_mem h)
theorem lookB_mem {a : List Nat} {bs : List (Option Int)} (h : lookB a = some bs) : (a, bs) ∈ boundsOf := lk_mem h
theorem lookB_len {a : List Nat} {bs : List (Option Int)} (h : lookB a = some bs) : bs.length ≤ 2 := by
  have z : boundsOf.all (fun p => decide (p.2.length ≤ 2)) = true := by decide +kernel
  exact of_decide_eq_true (List.all_eq_true.mp z _ (lookB_mem h))
def BV (K : W.Frag) (a : List Nat) (v : V) : Prop := match lookB a with
  | none => v = .non
  | some bs => Dp K H00 v (.tuple (bs.map mostD))
def sp_bounds_of (K : W.Frag) : Sp := fun vs H Q _ => ∃ a, vs = [.str (S a)] ∧ ∀ v, BV K a v → Q v H
theorem c_bounds_of (T : Txt K mg) : Cal prg w K mg base CX0 1 "bounds_of" ["word"] (sp_bounds_of K) := by
  refine T.d_bounds_of.cal sc_bounds_of (fun vs H Q E ⟨a, e, _⟩ => by rw [e]; rfl) fun f cdv A outer s H vs Q E hr h => ?_
  have nd := sc_bounds_of.nd
  obtain ⟨a, rfl, q⟩ := h
  refine ⟨_, PSs.nox (pss_cons (ps_for PassesOwn.never rfl (pi_tup (pe_glob (v := .ref (He.ga K "BOUNDS")) rfl T.g_BOUNDS rfl)) (pg_tup (by rfl) (pgs_cons (pg_name (i := 1) nd rfl (Or.inl rfl)) (pgs_cons (pg_name (i := 2) nd rfl (Or.inl rfl)) pgs_nil))) (pss_one (ps_if (pt_cmpR op_eq (pv 1) (pv 0) (nomark _)) (pss_one (ps_ret (pv 2))) pss_nil)))
      (pss_one (ps_ret pe_non))), ?_⟩
  obtain ⟨p0, xs, e0, hT, hA⟩ := Dp.tupV T.b_BOUNDS
  have hT : SqT K H p0 xs := hT.ext ext00
  have hlen : xs.length = boundsOf.length := by rw [DpAll.length hA, List.length_map]
  rw [e0]
  refine ⟨p0, rfl, ⟨xs, hT⟩, for_it walk_tup (fun i σ G => G = H ∧ (∃ x y, σ = [some (.str (S a)), x, y]) ∧ lookB a = (boundsOf.drop i).lookup a) ⟨rfl, ⟨_, _, rfl⟩, rfl⟩ (fun i σ G _ h => by rw [h.1]; exact hT) ?_ ?_⟩
  · rintro i x σ G G' hi ⟨rfl, ⟨x1, y1, rfl⟩, hlk⟩ ⟨rfl, hx⟩
    obtain ⟨d, hd, hp⟩ := DpAll.getV hA hx
    rw [List.getElem?_map] at hd
    cases eb : boundsOf[i]? with
    | none =>
      rw [eb] at hd
      cases hd
    | some b =>
      obtain ⟨wd, bs⟩ := b
      rw [eb] at hd
      cases hd
      obtain ⟨p1, ys, rfl, hT1, hA1⟩ := Dp.tupV hp
      cases hA1 with
      | cons k1 r1 => cases r1 with
        | cons k2 r2 =>
          cases r2
          have ek := Dp.strV k1
          subst ek
          have hdr : (boundsOf.drop i).lookup a = if a = wd then some bs else (boundsOf.drop (i + 1)).lookup a := by
            rw [List.drop_eq_getElem?_toList_append, eb]
            show List.lookup a ((wd, bs) :: boundsOf.drop (i + 1)) = _
            rw [List.lookup_cons]
            by_cases c : a = wd
            · rw [if_pos c, c]
              simp
            · have c2 : (a == wd) = false := by simpa using c
              rw [if_neg c, c2]
          dsimp only [tRet, tRetN, tSeq, tAsg, tOp, tVar, tC, tCB, tCons, tNil, tAndV, tOrV, tNotV, tAnd, tOr, tNot, tTest, tIf, tIfS, tB, tChain, tSl, tPart, tNoPart, tLst, tTup, tFld, tCl, tMt, tMk, gName, tNext, tBM, tBM0, tUn, tSub, tPar, tPar3, gTup, gCons, gNil, tDrop, tMkS, tM1, sFld, StX.tStar, tYes, gSub, cxOf, Cx.wish, Cx.nox, Cx.blk]
          refine ⟨p1, _, rfl, hT1.ext ext00, rfl, _, _, rfl, _, _, rfl, rfl, _, rfl, _, rfl, rEq_S rfl ⟨_, rfl, ?_⟩⟩
          refine ite2 (fun c => ?_) fun c => ?_
          · have c : wd = a := of_decide_eq_true c
            refine ⟨_, rfl, q _ ?_⟩
            unfold BV
            rw [hlk, hdr, if_pos c.symm]
            exact k2
          · have c : ¬ wd = a := by simpa using c
            refine ⟨rfl, ⟨_, _, rfl⟩, ?_⟩
            rw [hlk, hdr, if_neg fun z => c z.symm]
  · rintro σ G ⟨rfl, ⟨x1, y1, rfl⟩, hlk⟩
    dsimp only [tRet, tRetN, tSeq, tAsg, tOp, tVar, tC, tCB, tCons, tNil, tAndV, tOrV, tNotV, tAnd, tOr, tNot, tTest, tIf, tIfS, tB, tChain, tSl, tPart, tNoPart, tLst, tTup, tFld, tCl, tMt, tMk, gName, tNext, tBM, tBM0, tUn, tSub, tPar, tPar3, gTup, gCons, gNil, tDrop, tMkS, tM1, sFld, StX.tStar, tYes, gSub, cxOf, Cx.wish, Cx.nox, Cx.blk]
    refine q _ ?_
    unfold BV
    rw [hlk, hlen, List.drop_length]
    rfl
/-! ### is_step -/
def headStr (ds : List PyData) : Bool := match ds with
  | .str _ :: _ => true
  | _ => false
def stepItems (ds : List PyData) : Bool := match ds with
  | .str x :: ns => (match lookB x.cps.toList with
    | none => false
    | some bs => decide (ns.length = bs.length) && (ns.zip bs).all fun p => within p.1 0 p.2)
  | _ => false
theorem stepItems_no : ∀ {ds : List PyData}, headStr ds = false → stepItems ds = false
  | [], _ => rfl
  | .str _ :: _, h => by cases h
  | .none :: _, _ => rfl
  | .bool _ :: _, _ => rfl
  | .int _ :: _, _ => rfl
  | .list _ :: _, _ => rfl
  | .tuple _ :: _, _ => rfl
  | .dict _ :: _, _ => rfl
def isStep (d : PyData) : Bool := dSeq d && stepItems (dItems d)
def sp_is_step (K : W.Frag) : Sp := fun vs H Q _ => ∃ v d, vs = [v] ∧ Vd K H v d ∧ ∀ H', Ext H H' → Q (.bl (isStep d)) H'
theorem c_is_step (T : Txt K mg) : Cal prg w K mg base CX0 3 "is_step" ["value"] (sp_is_step K) := by
  refine T.d_is_step.cal sc_is_step (fun vs H Q E ⟨v, d, e, _⟩ => by rw [e]; rfl) fun f cdv A outer s H vs Q E hr h => ?_
  have nd := sc_is_step.nd
  obtain ⟨v, d, rfl, hv, q⟩ := h
  refine ⟨_, PSs.nox (pss_cons (ps_if (PW.pt (pw_or (pt_not (pt_val (pe_callB call_isiT (by rfl) T.f_isinstance (by decide +kernel) (pa_cons (pv 0) (pa_cons (pe_tup (pa_cons (pe_bltn (v := .ty "list") (by rfl) T.f_list (by decide +kernel) rfl) (pa_cons (pe_bltn (v := .ty "tuple") (by rfl) T.f_tuple (by decide +kernel) rfl) pa_nil))) pa_nil))))) (pw_or (pt_cmpR op_eq (pe_callB call_len_seq (by rfl) T.f_len (by decide +kernel) (pa_cons (pv 0) pa_nil)) pe_int (nomark _)) (pw_or1 (pt_not (pt_val (pe_callB call_isi (by rfl) T.f_isinstance (by decide +kernel) (pa_cons (pe_ix ix_seq (pv 0) pe_int (fun _ _ => rfl)) (pa_cons (pe_bltn (v := .ty "str") (by rfl) T.f_str (by decide +kernel) rfl) pa_nil))))))))) (pss_one (ps_ret pe_bl)) pss_nil)
      (pss_cons (ps_set (i := 1) nd rfl (Or.inl rfl) (pe_cl (c_bounds_of T) (hr.mono (by decide)) pass0 (pa_cons (pe_ix ix_seq (pv 0) pe_int (fun _ _ => rfl)) pa_nil)))
      (pss_cons (ps_if (PW.pt (pw_or (pt_cmpR L2.op_isN (pv 1) pe_non (nomark _)) (pw_or1 (pt_cmpR op_ne (pe_callB call_len_seq (by rfl) T.f_len (by decide +kernel) (pa_cons (pv 0) pa_nil)) (pe_op op_add (pe_callB call_len_seq (by rfl) T.f_len (by decide +kernel) (pa_cons (pv 1) pa_nil)) pe_int) (nomark _))))) (pss_one (ps_ret pe_bl)) pss_nil)
      (pss_one (ps_ret (pe_callB (cr_all rfl) (by rfl) T.f_all (by decide +kernel) (pa_cons (pe_lc (own := [("number", 2), ("most", 3)]) (tt := tYes) (g := gTup K 2 (gCons (gName 2) (gCons (gName 3) gNil))) rfl nd (pi_zipF (by rfl) T.f_zip (pa_cons (pe_slice (sl_list.or sl_tup) (pv 0) (po_some pe_int) po_none) (pa_cons (pv 1) pa_nil))) (blkOk_by (own := [("number", 2), ("most", 3)]) (N := ["value", "bounds", "number", "most"]) (sc := defScope s_is_step) (by decide +kernel)) (fun _ _ _ _ _ => (pg_tup (by rfl) (pgs_cons (pg_name (i := 2) nd rfl (Or.inl rfl)) (pgs_cons (pg_name (i := 3) nd rfl (Or.inl rfl)) pgs_nil)))) (fun _ _ _ _ _ => pts_nil) (fun _ _ _ _ _ => (pe_cl (c_is_within T) (hr.mono (by decide)) pass0 (pa_cons (pv 2) (pa_cons pe_int (pa_cons (pv 3) pa_nil)))))) pa_nil))))))), ?_⟩
  refine cut_ifn (fun c H' => c = !(dSeq d && headStr (dItems d)) ∧ Ext H H') (fun Q1 k1 => ?_) fun c H1 ⟨ec, e1⟩ => ?_
  · dsimp only [tRet, tRetN, tSeq, tAsg, tOp, tVar, tC, tCB, tCons, tNil, tAndV, tOrV, tNotV, tAnd, tOr, tNot, tTest, tIf, tIfS, tB, tChain, tSl, tPart, tNoPart, tLst, tTup, tFld, tCl, tMt, tMk, gName, tNext, tBM, tBM0, tUn, tSub, tPar, tPar3, gTup, gCons, gNil, tDrop, tMkS, tM1, sFld, StX.tStar, tYes, gSub, cxOf, Cx.wish, Cx.nox, Cx.blk]
    refine ⟨_, rfl, (by show 2 ≤ sizeLine; decide), fun tp htp => isi2_rd (Vd.ext (Ext.upd htp) hv) upd_same ⟨_, rfl, ?_⟩⟩
    have e1 : Ext H (upd H tp (.tup [.ty "list", .ty "tuple"])) := Ext.upd htp
    cases hs : dSeq d with
    | false => exact if_t rfl (k1 _ _ ⟨by rw [hs]; rfl, e1⟩)
    | true =>
      refine if_f rfl ?_
      obtain ⟨fl, a, xs, rfl, hx, hA⟩ := seq_of (Vd.ext e1 hv) hs
      refine ⟨_, rfl, a, xs, rfl, hx.or, rfl, _, rfl, ?_⟩
      cases xs with
      | nil =>
        have z := DpAll.length hA
        have z2 : dItems d = [] := List.length_eq_zero_iff.mp z.symm
        exact if_t rfl (k1 _ _ ⟨by rw [hs, z2]; rfl, e1⟩)
      | cons x0 xr =>
        refine if_f (by simp; omega) ⟨_, rfl, ixF hx at0 ?_⟩
        generalize dItems d = ds at hA k1 ⊢
        cases hA with
        | cons h0 hr0 =>
          rename_i d0 dr
          refine isi_rd (Vd.of h0) (kit_str d0) ⟨_, rfl, k1 _ _ ⟨?_, e1⟩⟩
          rw [hs]
          cases d0 <;> rfl
  subst ec
  have hv1 := Vd.ext e1 hv
  cases hg : dSeq d && headStr (dItems d) with
  | false =>
    refine if_t rfl ?_
    have z := q H1 e1
    have hz : isStep d = false := by
      unfold isStep
      cases hs : dSeq d with
      | false => rfl
      | true =>
        rw [hs] at hg
        have hg : headStr (dItems d) = false := hg
        exact stepItems_no hg
    rw [hz] at z
    exact z
  | true =>
    refine if_f rfl ?_
    obtain ⟨hs, hh⟩ := Bool.and_eq_true_iff.mp hg
    obtain ⟨fl, a, xs, rfl, hx, hA⟩ := seq_of hv1 hs
    have hz : isStep d = stepItems (dItems d) := by rw [isStep, hs]; rfl
    rw [hz] at q
    generalize dItems d = ds at hA hh q
    unfold headStr at hh
    split at hh
    case h_2 => cases hh
    rename_i x0 ns
    cases hA with
    | cons h0 hA =>
      rename_i v0 vs
      have ev := Dp.strV h0
      subst ev
      refine cut_asg (fun u H' => BV K x0.cps.toList u ∧ H' = H1) (fun Q1 k1 => ?_) fun u H2 ⟨hb, eH⟩ => ?_
      · dsimp only [tRet, tRetN, tSeq, tAsg, tOp, tVar, tC, tCB, tCons, tNil, tAndV, tOrV, tNotV, tAnd, tOr, tNot, tTest, tIf, tIfS, tB, tChain, tSl, tPart, tNoPart, tLst, tTup, tFld, tCl, tMt, tMk, gName, tNext, tBM, tBM0, tUn, tSub, tPar, tPar3, gTup, gCons, gNil, tDrop, tMkS, tM1, sFld, StX.tStar, tYes, gSub, cxOf, Cx.wish, Cx.nox, Cx.blk]
        exact ⟨_, rfl, ixF hx at0 ⟨x0.cps.toList, by rw [← S_of], fun u hu => k1 _ _ ⟨hu, rfl⟩⟩⟩
      subst eH
      have hq : ∀ b, b = stepItems (.str x0 :: ns) → ∀ H', Ext H2 H' → Q (.bl b) H' := fun b e H' e' => by rw [e]; exact q H' (e1.trans e')
      unfold stepItems at hq
      unfold BV at hb
      cases hk : lookB x0.cps.toList with
      | none =>
        simp only [hk] at hb hq
        subst hb
        refine cut_ifn (fun c H' => c = true ∧ H' = H2) (fun Q1 k1 => ?_) fun c H3 ⟨ec, eH⟩ => ?_
        · dsimp only [tRet, tRetN, tSeq, tAsg, tOp, tVar, tC, tCB, tCons, tNil, tAndV, tOrV, tNotV, tAnd, tOr, tNot, tTest, tIf, tIfS, tB, tChain, tSl, tPart, tNoPart, tLst, tTup, tFld, tCl, tMt, tMk, gName, tNext, tBM, tBM0, tUn, tSub, tPar, tPar3, gTup, gCons, gNil, tDrop, tMkS, tM1, sFld, StX.tStar, tYes, gSub, cxOf, Cx.wish, Cx.nox, Cx.blk]
          exact ⟨_, rfl, rfl, _, rfl, if_t (by simp) (k1 _ _ ⟨rfl, rfl⟩)⟩
        subst ec eH
        exact if_t rfl (hq _ rfl _ Ext.rfl')
      | some bs =>
        simp only [hk] at hb hq
        obtain ⟨p1, ys, rfl, hT, hB⟩ := Dp.tupV hb
        have hT : SqT K H2 p1 ys := hT.ext ext00
        have l1 : vs.length = ns.length := DpAll.length hA
        have l2 : ys.length = bs.length := by rw [DpAll.length hB, List.length_map]
        refine cut_ifn (fun c H' => c = !decide (ns.length = bs.length) ∧ H' = H2) (fun Q1 k1 => ?_) fun c H3 ⟨ec, eH⟩ => ?_
        · dsimp only [tRet, tRetN, tSeq, tAsg, tOp, tVar, tC, tCB, tCons, tNil, tAndV, tOrV, tNotV, tAnd, tOr, tNot, tTest, tIf, tIfS, tB, tChain, tSl, tPart, tNoPart, tLst, tTup, tFld, tCl, tMt, tMk, gName, tNext, tBM, tBM0, tUn, tSub, tPar, tPar3, gTup, gCons, gNil, tDrop, tMkS, tM1, sFld, StX.tStar, tYes, gSub, cxOf, Cx.wish, Cx.nox, Cx.blk]
          refine ⟨_, rfl, rfl, _, rfl, if_f (by simp) ⟨_, rfl, a, _, rfl, hx.or, _, rfl, p1, ys, rfl, .inr hT, _, _, rfl, rfl, rfl, _, rfl, k1 _ _ ⟨?_, rfl⟩⟩⟩
          rw [dec_int, List.length_cons, l1, l2, Bool.eq_iff_iff]
          simp
          omega
        subst ec eH
        cases hl : decide (ns.length = bs.length) with
        | false =>
          refine if_t rfl ?_
          exact hq _ (by rw [hl]; rfl) _ Ext.rfl'
        | true =>
          refine if_f rfl ?_
          have hl' : ns.length = bs.length := of_decide_eq_true hl
          dsimp only [tRet, tRetN, tSeq, tAsg, tOp, tVar, tC, tCB, tCons, tNil, tAndV, tOrV, tNotV, tAnd, tOr, tNot, tTest, tIf, tIfS, tB, tChain, tSl, tPart, tNoPart, tLst, tTup, tFld, tCl, tMt, tMk, gName, tNext, tBM, tBM0, tUn, tSub, tPar, tPar3, gTup, gCons, gNil, tDrop, tMkS, tM1, sFld, StX.tStar, tYes, gSub, cxOf, Cx.wish, Cx.nox, Cx.blk]
          refine ⟨_, rfl, _, rfl, slF1 hx (by simp) fun p H4 e4 hp => ⟨_, rfl, p, p1, vs, ys, fl, false, rfl, hp, hT.ext e4, fun D hD => ?_⟩⟩
          have hn : min vs.length ys.length = ns.length := by omega
          refine lc_scal (walk_zipF (xs := vs) (ys := ys) rfl) (R := fun i y => ∃ c, (ns.zip bs)[i]? = some c ∧ y = .bl (within c.1 0 c.2)) hD ?_ (fun H e => ⟨hp.ext e, SqT.ext hT (e4.trans e)⟩) ?_ ?_ ?_
          · rw [hn, hl']
            exact small1000 (Nat.le_trans (lookB_len hk) (by decide))
          · rintro i H x H' ⟨T', x1, y1, rfl, hT', rfl, _⟩
            exact Ext.upd hT'
          · rintro i x H H' hi e ⟨T', x1, y1, rfl, hT', rfl, hx1, hy1⟩ Q2 k2
            obtain ⟨d1, hd1, hp1⟩ := DpAll.getV hA hx1
            obtain ⟨d2, hd2, hp2⟩ := DpAll.getV hB hy1
            rw [List.getElem?_map] at hd2
            cases eb : bs[i]? with
            | none =>
              rw [eb] at hd2
              cases hd2
            | some m =>
              rw [eb] at hd2
              cases hd2
              have ey : y1 = mostV m := by
                cases m with
                | none => exact Dp.nonV hp2
                | some m => exact Dp.intV hp2
              subst ey
              dsimp only [tRet, tRetN, tSeq, tAsg, tOp, tVar, tC, tCB, tCons, tNil, tAndV, tOrV, tNotV, tAnd, tOr, tNot, tTest, tIf, tIfS, tB, tChain, tSl, tPart, tNoPart, tLst, tTup, tFld, tCl, tMt, tMk, gName, tNext, tBM, tBM0, tUn, tSub, tPar, tPar3, gTup, gCons, gNil, tDrop, tMkS, tM1, sFld, StX.tStar, tYes, gSub, cxOf, Cx.wish, Cx.nox, Cx.blk]
              refine ⟨T', _, rfl, SqT.of upd_same, rfl, _, _, rfl, _, _, rfl, rfl, rfl, _, rfl, _, rfl, _, d1, 0, m, rfl, Vd.of (Dp.ext (((e4.trans e)).trans (Ext.upd hT')) hp1), k2 _ _ Ext.rfl' ⟨(d1, m), ?_, rfl⟩⟩
              rw [List.getElem?_zip_eq_some]
              exact ⟨hd1, eb⟩
          · intro zs G hz1 hz2 e hDz
            have ez : zs = ((ns.zip bs).map fun c => within c.1 0 c.2).map V.bl := by
              rw [List.map_map]
              exact map_of (by rw [hz1, hn, List.length_zip]; omega) hz2
            subst ez
            refine all_rd hDz (hq _ ?_ _ (e4.trans e))
            rw [hl, List.all_map]
            rfl
/-! ### is_script -/
def isScript (d : PyData) : Bool := dSeq d && (decide ((dItems d).length ≤ 400) && (dItems d).all isStep)
def sp_is_script (K : W.Frag) : Sp := fun vs H Q _ => ∃ v d, vs = [v] ∧ Vd K H v d ∧ ∀ H', Ext H H' → Q (.bl (isScript d)) H'
theorem c_is_script (T : Txt K mg) : Cal prg w K mg base CX0 4 "is_script" ["value"] (sp_is_script K) := by
  refine T.d_is_script.cal sc_is_script (fun vs H Q E ⟨v, d, e, _⟩ => by rw [e]; rfl) fun f cdv A outer s H vs Q E hr h => ?_
  have nd := sc_is_script.nd
  obtain ⟨v, d, rfl, hv, q⟩ := h
  refine ⟨_, PSs.nox (pss_one (ps_ret (pe_and (pe_callB call_isiT (by rfl) T.f_isinstance (by decide +kernel) (pa_cons (pv 0) (pa_cons (pe_tup (pa_cons (pe_bltn (v := .ty "list") (by rfl) T.f_list (by decide +kernel) rfl) (pa_cons (pe_bltn (v := .ty "tuple") (by rfl) T.f_tuple (by decide +kernel) rfl) pa_nil))) pa_nil))) (pe_and (pe_cmpR op_le (pe_callB call_len_seq (by rfl) T.f_len (by decide +kernel) (pa_cons (pv 0) pa_nil)) (pe_glob (v := .int 400) rfl T.g_MOST_STEPS.choose_spec ⟨_, rfl⟩) (nomark _)) (pe_one (pe_callB (cr_all rfl) (by rfl) T.f_all (by decide +kernel) (pa_cons (pe_lc (own := [("step", 1)]) (tt := tYes) (g := gName 1) rfl nd (pi_seqF (pv 0)) (blkOk_by (own := [("step", 1)]) (N := ["value", "step"]) (sc := defScope s_is_script) (by decide +kernel)) (fun _ _ _ _ _ => (pg_name (i := 1) nd rfl (Or.inl rfl))) (fun _ _ _ _ _ => pts_nil) (fun _ _ _ _ _ => (pe_cl (c_is_step T) (hr.mono (by decide)) pass0 (pa_cons (pv 1) pa_nil)))) pa_nil))))))), ?_⟩
  dsimp only [tRet, tRetN, tSeq, tAsg, tOp, tVar, tC, tCB, tCons, tNil, tAndV, tOrV, tNotV, tAnd, tOr, tNot, tTest, tIf, tIfS, tB, tChain, tSl, tPart, tNoPart, tLst, tTup, tFld, tCl, tMt, tMk, gName, tNext, tBM, tBM0, tUn, tSub, tPar, tPar3, gTup, gCons, gNil, tDrop, tMkS, tM1, sFld, StX.tStar, tYes, gSub, cxOf, Cx.wish, Cx.nox, Cx.blk]
  refine ⟨_, rfl, (by show 2 ≤ sizeLine; decide), fun tp htp => isi2_rd (Vd.ext (Ext.upd htp) hv) upd_same ⟨_, rfl, ?_⟩⟩
  have e1 : Ext H (upd H tp (.tup [.ty "list", .ty "tuple"])) := Ext.upd htp
  cases hs : dSeq d with
  | false =>
    have z := q _ e1
    rw [show isScript d = false by rw [isScript, hs]; rfl] at z
    exact if_f rfl z
  | true =>
    refine if_t rfl ?_
    obtain ⟨fl, a, xs, rfl, hx, hA⟩ := seq_of (Vd.ext e1 hv) hs
    have hlen : xs.length = (dItems d).length := DpAll.length hA
    have hz : isScript d = (decide ((dItems d).length ≤ 400) && (dItems d).all isStep) := by rw [isScript, hs]; rfl
    refine ⟨_, rfl, a, xs, rfl, hx.or, _, _, rfl, rfl, _, rfl, ?_⟩
    refine ite2 (fun c => ?_) fun c => ?_
    · have c : (dItems d).length ≤ 400 := by
        have z := of_decide_eq_true c
        omega
      refine ⟨_, rfl, fl, a, xs, rfl, hx, fun D hD => ?_⟩
      refine lc_scal walk_seqF (R := fun i y => ∃ c, (dItems d)[i]? = some c ∧ y = .bl (isStep c)) hD (small1000 (by omega)) (fun H e => hx.ext e) (fun i H x H' y => by rw [y.1]; exact Ext.rfl') ?_ ?_
      · rintro i x G G' hi e ⟨rfl, hx1⟩ Q2 k2
        obtain ⟨d1, hd1, hp1⟩ := DpAll.getV hA hx1
        dsimp only [tRet, tRetN, tSeq, tAsg, tOp, tVar, tC, tCB, tCons, tNil, tAndV, tOrV, tNotV, tAnd, tOr, tNot, tTest, tIf, tIfS, tB, tChain, tSl, tPart, tNoPart, tLst, tTup, tFld, tCl, tMt, tMk, gName, tNext, tBM, tBM0, tUn, tSub, tPar, tPar3, gTup, gCons, gNil, tDrop, tMkS, tM1, sFld, StX.tStar, tYes, gSub, cxOf, Cx.wish, Cx.nox, Cx.blk]
        exact ⟨rfl, _, rfl, _, d1, rfl, Vd.of (Dp.ext e hp1), fun G2 e2 => k2 _ _ e2 ⟨d1, hd1, rfl⟩⟩
      · intro zs G hz1 hz2 e hDz
        have ez : zs = ((dItems d).map isStep).map V.bl := by
          rw [List.map_map]
          exact map_of (by rw [hz1, hlen]) hz2
        subst ez
        refine all_rd hDz ?_
        have z := q G (e1.trans e)
        rw [hz, decide_eq_true c, Bool.true_and] at z
        rw [List.all_map]
        exact z
    · have c : ¬ (dItems d).length ≤ 400 := fun z => c (decide_eq_true (by omega))
      have z := q _ e1
      rw [hz, decide_eq_false c] at z
      exact z
end
end K80

end
section
/-! K80c: texts of scripts. -/
namespace K80
open PySem L2 Ow
open PySem.Spec PyProof.Rows
/-- str(x), x a text or a number -/
def rStrAny : List V → Hp → VK → Prop := fun xs H Q => (∃ a, xs = [.str a] ∧ Q (.str a) H) ∨ ∃ i : Int, xs = [.int i] ∧ i.natAbs.log2 < 1920 ∧ Q (.str (toString i)) H
theorem call_str_any {X : Cx} : CallR X (.type "str") rStrAny := by
  intro pins s σ H xs us Q I r h
  rcases h with ⟨a, e, q⟩ | ⟨i, e, hl, q⟩
  · exact SkE.call_str_str pins s σ H xs us Q I r ⟨a, e, q⟩
  · exact call_str_int pins s σ H xs us Q I r ⟨i, e, hl, q⟩
abbrev rJoinT (K : W.Frag) : V → List V → Hp → VK → Prop := fun x xs H Q => ∃ a p, ∃ ys : List Str, x = .str a ∧ xs = [.ref p] ∧ (SqL K H p (ys.map V.str) ∨ SqT K H p (ys.map V.str)) ∧ (ys.map (·.length)).sum + ys.length * a.length ≤ 16777216 ∧ Q (.str (Txt.join a ys)) H
theorem pe_joinK {X : Cx} {K : W.Frag} {o e : Expr} {to te : TE} {apos pos : Pos} (hK : X.K = K) (ho : PE X o to) (he : PE X e te) (hs : starEach [e] X.env = [(false, eval e X.env)] := by rfl) (hbase : attributeBase o "join" X.env (eval o X.env) = eval o X.env := by rfl) (hline : (apos.endLine == pos.line) = true := by rfl) :
    PE X (.Call (.Attribute o "join" apos) [e] [] pos) (tM1 (rJoinT K) to te) := by
  subst hK
  exact pe_join ho he hs hbase hline
/-- an item's text -/
def itemText : PyData → List Nat
  | .str x => x.cps.toList
  | .int i => TL.numL i.toNat
  | _ => []
/-- an item that has one: a text, not too long, or a number from 0 on, not too great -/
def itemOk : PyData → Prop
  | .str x => x.length ≤ 1000
  | .int i => 0 ≤ i ∧ i.toNat < 10 ^ 60
  | _ => False
def stepText (ds : List PyData) : List Nat := TL.joinL [32] (ds.map itemText)
def scriptText (ds : List PyData) : List Nat := TL.joinL [32, 47, 32] (ds.map fun d => stepText (dItems d))
theorem itemText_len {d : PyData} (h : itemOk d) : (itemText d).length ≤ 1000 := by
  cases d with
  | str x => exact h
  | int i => exact Nat.le_trans (TL.numL_len (k := 60) (by decide) h.2) (by decide)
  | _ => exact h.elim
theorem small_log {n : Nat} (h : n < 10 ^ 60) : n.log2 < 1920 := by
  have h2 : n < 2 ^ 200 := Nat.lt_of_lt_of_le h (by decide)
  by_cases c : n = 0
  · subst c
    decide
  · have := (Nat.log2_lt c).mpr h2
    omega
theorem sum_le {l : List Nat} {k : Nat} (h : ∀ n ∈ l, n ≤ k) : l.sum ≤ l.length * k := by
  induction l with
  | nil => simp
  | cons a r ih =>
    have h1 := h a List.mem_cons_self
    have h2 := ih fun n hn => h n (List.mem_cons_of_mem _ hn)
    rw [List.sum_cons, List.length_cons, Nat.add_mul]
    omega
theorem joinL_len (sep : List Nat) : ∀ (l : List (List Nat)), (TL.joinL sep l).length ≤ (l.map (·.length)).sum + l.length * sep.length
  | [] => Nat.zero_le _
  | [p] => by
    show p.length ≤ _
    simp
  | p :: q :: r => by
    have ih := joinL_len sep (q :: r)
    show (p ++ (sep ++ TL.joinL sep (q :: r))).length ≤ _
    rw [List.length_append, List.length_append, List.map_cons, List.sum_cons, List.length_cons, Nat.add_mul]
    omega
theorem stepText_len {ds : List PyData} (h : ∀ d ∈ ds, itemOk d) (hl : ds.length ≤ 3) : (stepText ds).length ≤ 3003 := by
  unfold stepText
  have h1 := joinL_len [32] (ds.map itemText)
  have h2 := sum_le (l := (ds.map itemText).map (·.length)) (k := 1000) (fun n hn => by
    obtain ⟨x, hx, rfl⟩ := List.mem_map.mp hn
    obtain ⟨d, hd, rfl⟩ := List.mem_map.mp hx
    exact itemText_len (h d hd))
  simp only [List.length_map, List.length_singleton] at h1 h2
  omega
section
variable {K : W.Frag} {H : Hp} {σ : L2.St} {b c : Nat} {a : Addr} {fl : Bool} {xs : List V} {ds : List PyData} {Q : VK}
theorem wipe1 {x : Option V} : wipe ((wipe σ [c]).set c x) [c] = wipe σ [c] := by
  show ((σ.set c none).set c x).set c none = σ.set c none
  rw [List.set_set, List.set_set]
/-- ' '.join([str(item) for item in step]) -/
theorem step_rd (hb : σ[b]? = some (some (.ref a))) (hc : c < σ.length) (h : SqF K fl H a xs) (hA : DpAll K H xs ds) (hok : ∀ d ∈ ds, itemOk d) (hl : ds.length ≤ 1000) (q : ∀ H', Ext H H' → Q (.str (S (stepText ds))) H') :
    tM1 (rJoinT K) (tC (.str " ")) (tLc (iSeqF K (tVar b)) (gName c) tYes (tCB rStrAny (tCons (tVar c) tNil)) [c]) σ H Q := by
  have hlen : xs.length = ds.length := DpAll.length hA
  refine ⟨⟨_, rfl⟩, _, hb, fl, a, xs, rfl, h, fun D hD => ?_⟩
  refine lc_scal walk_seqF (R := fun i y => ∃ d, ds[i]? = some d ∧ y = .str (S (itemText d))) hD (small1000 (by omega)) (fun H e => h.ext e) (fun i H x H' y => by rw [y.1]; exact Ext.rfl') ?_ ?_
  · rintro i x G G' hi e ⟨rfl, hx1⟩ Q2 k2
    obtain ⟨d, hd, hp⟩ := DpAll.getV hA hx1
    have ho := hok d (List.mem_of_getElem? hd)
    refine ⟨wipe1, x, ?_, ?_⟩
    · rw [List.getElem?_set_self (by rw [wipe_length]; exact hc)]
    · cases d with
      | str z =>
        have ex := Dp.strV hp
        subst ex
        exact .inl ⟨z, rfl, k2 _ _ Ext.rfl' ⟨_, hd, by rw [itemText, ← S_of]⟩⟩
      | int i =>
        have ex := Dp.intV hp
        subst ex
        obtain ⟨h0, h1⟩ := ho
        refine .inr ⟨i, rfl, ?_, k2 _ _ Ext.rfl' ⟨_, hd, ?_⟩⟩
        · exact small_log (by omega)
        · obtain ⟨n, rfl⟩ := Int.eq_ofNat_of_zero_le h0
          rw [itemText, Int.toNat_natCast]
          exact congrArg V.str (SX.num_S n)
      | _ => exact ho.elim
  · intro zs G hz1 hz2 e hDz
    have ez : zs = ((ds.map itemText).map S).map V.str := by
      rw [List.map_map, List.map_map]
      exact map_of (by rw [hz1, hlen]) hz2
    subst ez
    refine ⟨S [32], D, (ds.map itemText).map S, congrArg V.str (by decide +kernel), rfl, .inl (SqL.of hDz), ?_, ?_⟩
    · have h2 := sum_le (l := ((ds.map itemText).map S).map (·.length)) (k := 1000) (fun n hn => by
        obtain ⟨x, hx, rfl⟩ := List.mem_map.mp hn
        obtain ⟨y, hy, rfl⟩ := List.mem_map.mp hx
        obtain ⟨d, hd, rfl⟩ := List.mem_map.mp hy
        rw [S_len]
        exact itemText_len (hok d hd))
      simp only [List.length_map, S_len, List.length_singleton] at h2 ⊢
      omega
    · rw [SX.join_S]
      exact q G e
/-- sep.join([' '.join([str(item) for item in step]) for step in script]) -/
theorem script_rd {sep : Str} {b : Nat} {te : TE} (hsep : sep = S [32, 47, 32]) (ht : ∀ Q : VK, Q (.str sep) H → te σ H Q) (hb : σ[b]? = some (some (.ref a))) {c d : Nat} (hc : c < σ.length) (hd : d < σ.length) (h : SqF K fl H a xs) (hA : DpAll K H xs ds)
    (hok : ∀ e ∈ ds, dSeq e = true ∧ (dItems e).length ≤ 3 ∧ ∀ x ∈ dItems e, itemOk x) (hl : ds.length ≤ 400) (q : ∀ H', Ext H H' → Q (.str (S (scriptText ds))) H') :
    tM1 (rJoinT K) te (tLc (iSeqF K (tVar b)) (gName c) tYes (tM1 (rJoinT K) (tC (.str " ")) (tLc (iSeqF K (tVar c)) (gName d) tYes (tCB rStrAny (tCons (tVar d) tNil)) [d])) [c]) σ H Q := by
  have hlen : xs.length = ds.length := DpAll.length hA
  refine ht _ ⟨⟨_, rfl⟩, _, hb, fl, a, xs, rfl, h, fun D hD => ?_⟩
  refine lc_scal walk_seqF (R := fun i y => ∃ e, ds[i]? = some e ∧ y = .str (S (stepText (dItems e)))) hD (small1000 (by omega)) (fun H e => h.ext e) (fun i H x H' y => by rw [y.1]; exact Ext.rfl') ?_ ?_
  · rintro i x G G' hi e ⟨rfl, hx1⟩ Q2 k2
    obtain ⟨d1, hd1, hp⟩ := DpAll.getV hA hx1
    obtain ⟨o1, o2, o3⟩ := hok d1 (List.mem_of_getElem? hd1)
    obtain ⟨f1, a1, ys, rfl, hy, hB⟩ := seq_of (Vd.of (Dp.ext e hp)) o1
    refine ⟨wipe1, step_rd (a := a1) (fl := f1) (xs := ys) (ds := dItems d1) ?_ (by rw [List.length_set, wipe_length]; exact hd) hy hB o3 (by omega) fun G2 e2 => k2 _ _ e2 ⟨d1, hd1, rfl⟩⟩
    rw [List.getElem?_set_self (by rw [wipe_length]; exact hc)]
  · intro zs G hz1 hz2 e hDz
    have ez : zs = ((ds.map fun e => stepText (dItems e)).map S).map V.str := by
      rw [List.map_map, List.map_map]
      exact map_of (by rw [hz1, hlen]) hz2
    subst ez
    refine ⟨S [32, 47, 32], D, (ds.map fun e => stepText (dItems e)).map S, congrArg V.str hsep, rfl, .inl (SqL.of hDz), ?_, ?_⟩
    · have h2 := sum_le (l := ((ds.map fun e => stepText (dItems e)).map S).map (·.length)) (k := 3003) (fun n hn => by
        obtain ⟨x, hx, rfl⟩ := List.mem_map.mp hn
        obtain ⟨y, hy, rfl⟩ := List.mem_map.mp hx
        obtain ⟨e, he, rfl⟩ := List.mem_map.mp hy
        rw [S_len]
        obtain ⟨o1, o2, o3⟩ := hok e he
        exact stepText_len o3 o2)
      simp only [List.length_map, S_len, List.length_cons, List.length_nil] at h2 ⊢
      omega
    · rw [SX.join_S]
      exact q G e
end
section
variable {w : World} {K : W.Frag} {mg : Str → Option Value} {base : Heap}
theorem only_free {names : List (Str × NameKind)} {c : Str} (h : names.all (fun y => (!(decide (y.2 = .cell) || decide (y.2 = .free))) || decide (y.1 = c)) = true) : ∀ x : Str, names.lookup x = some .cell ∨ names.lookup x = some .free → x = c := fun x hx => by
  have key : ∀ k, names.lookup x = some k → (k = .cell ∨ k = .free) → x = c := fun k e hk => by
    have z := List.all_eq_true.mp h _ (lk_mem e)
    simp only [Bool.or_eq_true, Bool.not_eq_true', Bool.or_eq_false_iff, decide_eq_true_eq, decide_eq_false_iff_not] at z
    rcases z with z | z
    · rcases hk with hk | hk
      · exact absurd hk z.1
      · exact absurd hk z.2
    · exact z
  rcases hx with e | e
  · exact key _ e (.inl rfl)
  · exact key _ e (.inr rfl)
theorem isStep_seq {d : PyData} (h : isStep d = true) : dSeq d = true ∧ (dItems d).length ≤ 3 := by
  unfold isStep at h
  obtain ⟨h1, h2⟩ := Bool.and_eq_true_iff.mp h
  refine ⟨h1, ?_⟩
  generalize dItems d = ds at h2
  unfold stepItems at h2
  split at h2
  · split at h2
    · cases h2
    · rename_i bs hb
      obtain ⟨h3, _⟩ := Bool.and_eq_true_iff.mp h2
      have h3 := of_decide_eq_true h3
      have h4 := lookB_len hb
      rw [List.length_cons]
      omega
  · cases h2
/-- a script whose numbers aren't too great -/
def scriptOk (d : PyData) : Prop := ∀ e ∈ dItems d, ∀ x ∈ dItems e, itemOk x
/-- raised: no script -/
def EBad (K : W.Frag) (H : Hp) (E : XK) (C f : Str) (v : V) : Prop := ∀ d H', Ext H H' → H' d = some (.xd [(f, v)]) → E (.ref (He.ga K C)) (some d) H'
def sp_script_text (K : W.Frag) : Sp := fun vs H Q E => ∃ v d, vs = [v] ∧ Vd K H v d ∧ (isScript d = true → scriptOk d ∧ ∀ H', Ext H H' → Q (.str (S (scriptText (dItems d)))) H') ∧ (isScript d = false → EBad K H E "BadScript" "part" (.str "script"))
theorem e_BadText (T : Txt K mg) : Err prg w K mg base "BadText" "item" := by
  refine T.x_BadText.err (par := "item") (fun fd cc cda Si => ok_sup (a2 := ⟨"x", none, ⟨0, 0, 0, 0⟩⟩) (k := 0) Si T.x_BadText.ox T.x_BadText.no rfl rfl rfl rfl rfl rfl rfl ?_ (by decide +kernel) (by decide) rfl rfl (by rfl) rfl rfl _ fun env => by rfl) fun _ _ _ _ _ _ _ us hl => match us, hl with | [_, _], _ => rfl
  exact only_free (by decide +kernel)
theorem e_BadScript (T : Txt K mg) : Err prg w K mg base "BadScript" "part" := by
  refine T.x_BadScript.err (par := "part") (fun fd cc cda Si => ok_sup (a2 := ⟨"x", none, ⟨0, 0, 0, 0⟩⟩) (k := 0) Si T.x_BadScript.ox T.x_BadScript.no rfl rfl rfl rfl rfl rfl rfl ?_ (by decide +kernel) (by decide) rfl rfl (by rfl) rfl rfl _ fun env => by rfl) fun _ _ _ _ _ _ _ us hl => match us, hl with | [_, _], _ => rfl
  exact only_free (by decide +kernel)
theorem c_script_text (T : Txt K mg) : Cal prg w K mg base (L2.CX prg w) 5 "script_text" ["script"] (sp_script_text K) := by
  refine T.d_script_text.cal sc_script_text (fun vs H Q E ⟨v, d, e, _⟩ => by rw [e]; rfl) fun f cdv A outer s H vs Q E hr h => ?_
  have nd := sc_script_text.nd
  obtain ⟨v, d, rfl, hv, q1, q2⟩ := h
  refine ⟨_, (pss_cons (ps_if (pt_not (pt_val (pe_cl (c_is_script T) (hr.mono (by decide)) pass0 (pa_cons (pv 0) pa_nil)))) (pss_one (ps_raise rfl (takes_of rfl rfl rfl rfl) (pmk_err (e_BadScript T) (hr.mono (by decide)) (pa_cons pe_str pa_nil)))) pss_nil)
      (pss_one (ps_ret (pe_join (pe_joined (.cons pe_str (.cons (pe_fmt (pe_glob (v := .str "/") rfl T.g_BAR.choose_spec ⟨_, rfl⟩)) (.cons pe_str .nil)))) (pe_lc (own := [("step", 1)]) (tt := tYes) (g := gName 1) rfl nd (pi_seqF (pv 0)) (blkOk_by (own := [("step", 1)]) (N := ["script", "step", "item"]) (sc := defScope s_script_text) (by decide +kernel)) (fun _ _ _ _ _ => (pg_name (i := 1) nd rfl (Or.inl rfl))) (fun _ _ _ _ _ => pts_nil) (fun _ _ _ _ _ => (pe_joinK (K := K) rfl pe_str (pe_lc (own := [("item", 2)]) (tt := tYes) (g := gName 2) rfl nd (pi_seqFK (K := K) rfl (pv 1)) (blkOk_by (own := [("item", 2)]) (N := ["script", "step", "item"]) (by rfl)) (fun _ _ _ _ _ => (pg_name (i := 2) nd rfl (Or.inl rfl))) (fun _ _ _ _ _ => pts_nil) (fun _ _ _ _ _ => (pe_callTy call_str_any (by rfl) T.f_str (by decide +kernel) (pa_cons (pv 2) pa_nil))))))))))), ?_⟩
  refine cut_ifn (fun c H' => c = !isScript d ∧ Ext H H') (fun Q1 k1 => ?_) fun c H1 ⟨ec, e1⟩ => ?_
  · dsimp only [tRet, tRetN, tSeq, tAsg, tOp, tVar, tC, tCB, tCons, tNil, tAndV, tOrV, tNotV, tAnd, tOr, tNot, tTest, tIf, tIfS, tB, tChain, tSl, tPart, tNoPart, tLst, tTup, tFld, tCl, tMt, tMk, gName, tNext, tBM, tBM0, tUn, tSub, tPar, tPar3, gTup, gCons, gNil, tDrop, tMkS, tM1, sFld, StX.tStar, tYes, gSub, cxOf, Cx.wish, Cx.nox, Cx.blk]
    exact ⟨_, rfl, v, d, rfl, hv, fun H' e => ⟨_, rfl, k1 _ _ ⟨rfl, e⟩⟩⟩
  subst ec
  cases hs : isScript d with
  | false =>
    refine if_t rfl ?_
    exact ⟨_, rfl, fun d hd => q2 hs d _ (e1.trans (Ext.upd hd)) upd_same⟩
  | true =>
    refine if_f rfl ?_
    obtain ⟨hok, q⟩ := q1 hs
    unfold isScript at hs
    simp only [Bool.and_eq_true, decide_eq_true_eq] at hs
    obtain ⟨h1, h2, h3⟩ := hs
    obtain ⟨fl, a, xs, rfl, hx, hA⟩ := seq_of (Vd.ext e1 hv) h1
    have h3 := List.all_eq_true.mp h3
    refine script_rd (sep := S [32, 47, 32]) (b := 0) (fl := fl) (a := a) (xs := xs) rfl (fun Q hQ => ?_) rfl (by show 1 < 3; decide) (by show 2 < 3; decide) hx hA (fun e he => ⟨(isStep_seq (h3 e he)).1, (isStep_seq (h3 e he)).2, hok e he⟩) h2 fun H' e => q H' (e1.trans e)
    refine ⟨_, rfl, by decide +kernel, .inl ⟨_, rfl, by decide +kernel, _, rfl, by decide +kernel, _, rfl, by decide +kernel, ?_⟩⟩
    have e0 : Str.empty ++ ((" " : Str)) ++ ("/" : Str) ++ (" " : Str) = S [32, 47, 32] := by decide +kernel
    rw [e0]
    exact hQ
end
end K80

end
section
/-! K80d: Scan. -/
namespace K80
open PySem L2 Ow
open PySem.Spec PyProof.Rows
abbrev CS (K : W.Frag) : Addr := He.ga K "Scan"
def scF (l : Addr) (i : Int) : List (Str × V) := putF "at" (.int i) (putF "words" (.ref l) [])
theorem wa_ : ¬ (("words" : Str) = "at") := by decide +kernel
theorem aw_ : ¬ (("at" : Str) = "words") := by decide +kernel
theorem scF_eq (l : Addr) (i : Int) : scF l i = ([("words", V.ref l), ("at", V.int i)] : List (Str × V)) := by
  show (if ("words" : Str) = "at" then [(("words" : Str), V.int i)] else (("words" : Str), V.ref l) :: putF "at" (V.int i) []) = ([("words", V.ref l), ("at", V.int i)] : List (Str × V))
  rw [if_neg wa_]
  rfl
theorem scF_words (l : Addr) (i : Int) : (scF l i).lookup ("words" : Str) = some (.ref l) := by
  unfold scF
  rw [lookup_putF, if_neg wa_, lookup_putF, if_pos rfl]
theorem scF_at (l : Addr) (i : Int) : (scF l i).lookup ("at" : Str) = some (.int i) := by
  unfold scF
  rw [lookup_putF, if_pos rfl]
theorem scF_no (l : Addr) (i : Int) {m : Str} (h1 : ¬ m = "at") (h2 : ¬ m = "words") : (scF l i).lookup m = none := by
  unfold scF
  rw [lookup_putF, if_neg h1, lookup_putF, if_neg h2]
  rfl
theorem scF_put (l : Addr) (i j : Int) : putF "at" (.int j) (scF l i) = scF l j := by
  rw [scF_eq, scF_eq]
  show (if ("words" : Str) = "at" then _ else (("words" : Str), V.ref l) :: (if ("at" : Str) = "at" then [(("at" : Str), V.int j)] else _)) = ([("words", V.ref l), ("at", V.int j)] : List (Str × V))
  rw [if_neg wa_, if_pos rfl]
/-- a scan stands at p: its words ws, at the i-th -/
def ScanAt (K : W.Frag) (H : Hp) (p : Addr) (ws : List (List Nat)) (i : Nat) : Prop := ∃ dx l, H p = some (.ins (CS K) dx (scF l i)) ∧ H l = some (.lst ((ws.map S).map V.str)) ∧ ∀ a ∈ ws, a.length ≤ sizeLine
/-- all but p stays -/
def ExtP (p : Addr) (H H' : Hp) : Prop := ∀ b o, b ≠ p → H b = some o → H' b = some o
theorem ExtP.of {p : Addr} {H H' : Hp} (e : Ext H H') : ExtP p H H' := fun b o _ h => e b o h
theorem ExtP.refl (p : Addr) (H : Hp) : ExtP p H H := fun _ _ _ h => h
theorem ExtP.trans {p : Addr} {H H1 H2 : Hp} (a : ExtP p H H1) (b : ExtP p H1 H2) : ExtP p H H2 := fun c o n h => b c o n (a c o n h)
theorem ScanAt.ext {K : W.Frag} {H H' : Hp} {p : Addr} {ws : List (List Nat)} {i : Nat} (h : ScanAt K H p ws i) (e : Ext H H') : ScanAt K H' p ws i := by
  obtain ⟨dx, l, h1, h2, h3⟩ := h
  exact ⟨dx, l, e _ _ h1, e _ _ h2, h3⟩
section
variable {w : World} {K : W.Frag} {mg : Str → Option Value} {base : Heap}
/-! ### ahead -/
def wordV (ws : List (List Nat)) (i : Nat) : V := match ws[i]? with
  | some a => .str (S a)
  | none => .non
def sp_ahead (K : W.Frag) : Sp := fun vs H Q _ => ∃ p ws i, vs = [.ref p] ∧ ScanAt K H p ws i ∧ Q (wordV ws i) H
theorem c_Scan_ahead (T : Txt K mg) : Met prg w K mg base CX0 1 (CS K) "ahead" ["self"] (sp_ahead K) := by
  refine T.d_Scan_ahead.met sc_Scan_ahead (fun vs H Q E ⟨p, ws, i, e, _⟩ => by rw [e]; rfl) fun f cdv A outer s H vs Q E hr h => ?_
  have nd := sc_Scan_ahead.nd
  obtain ⟨p, ws, i, rfl, ⟨dx, l, h1, h2, h3⟩, q⟩ := h
  refine ⟨_, PSs.nox (pss_one (ps_ret (pe_ifExp (pt_cmpR op_lt (pe_fld (pv 0) rfl) (pe_callB call_len_seq (by rfl) T.f_len (by decide +kernel) (pa_cons (pe_fld (pv 0) rfl) pa_nil)) (nomark _)) (pe_ix ix_list (pe_fld (pv 0) rfl) (pe_fld (pv 0) rfl) (fun _ _ => rfl)) pe_non))), ?_⟩
  dsimp only [tRet, tRetN, tSeq, tAsg, tOp, tVar, tC, tCB, tCons, tNil, tAndV, tOrV, tNotV, tAnd, tOr, tNot, tTest, tIf, tIfS, tB, tChain, tSl, tPart, tNoPart, tLst, tTup, tFld, tCl, tMt, tMk, gName, tNext, tBM, tBM0, tUn, tSub, tPar, tPar3, gTup, gCons, gNil, tDrop, tMkS, tM1, sFld, StX.tStar, tYes, gSub, cxOf, Cx.wish, Cx.nox, Cx.blk]
  refine ⟨_, rfl, p, CS K, dx, _, _, rfl, h1, T.cl_Scan, T.na_Scan_at, scF_at _ _, _, rfl, p, CS K, dx, _, _, rfl, h1, T.cl_Scan, T.na_Scan_words, scF_words _ _, l, _, rfl, .inl (SqL.of h2), _, _, rfl, rfl, _, rfl, ?_⟩
  have hlen : ((ws.map S).map V.str).length = ws.length := by rw [List.length_map, List.length_map]
  rw [hlen]
  refine ite2 (fun c => ?_) fun c => ?_
  · have c : i < ws.length := by
      have z := of_decide_eq_true c
      omega
    have e : ((ws.map S).map V.str)[i]? = some (wordV ws i) := by
      rw [List.getElem?_map, List.getElem?_map, wordV, List.getElem?_eq_getElem c]
      rfl
    exact ⟨_, rfl, p, CS K, dx, _, _, rfl, h1, T.cl_Scan, T.na_Scan_words, scF_words _ _, _, rfl, p, CS K, dx, _, _, rfl, h1, T.cl_Scan, T.na_Scan_at, scF_at _ _, l, _, _, _, rfl, rfl, SqL.of h2, atI_nat e, q⟩
  · have c : ws.length ≤ i := by
      have z : ¬ ((i : Int) < (ws.length : Int)) := by simpa using c
      omega
    rw [wordV, List.getElem?_eq_none c] at q
    exact q
/-! ### refuse -/
def sp_refuse (K : W.Frag) : Sp := fun vs H Q E => ∃ p ws i, vs = [.ref p] ∧ ScanAt K H p ws i ∧ EBad K H E "BadText" "item" (.int (i : Nat))
theorem c_Scan_refuse (T : Txt K mg) : Met prg w K mg base (L2.CX prg w) 3 (CS K) "refuse" ["self"] (sp_refuse K) := by
  refine T.d_Scan_refuse.met sc_Scan_refuse (fun vs H Q E ⟨p, ws, i, e, _⟩ => by rw [e]; rfl) fun f cdv A outer s H vs Q E hr h => ?_
  have nd := sc_Scan_refuse.nd
  obtain ⟨p, ws, i, rfl, ⟨dx, l, h1, h2, h3⟩, q⟩ := h
  refine ⟨_, (pss_one (ps_raise rfl (takes_of rfl rfl rfl rfl) (pmk_err (e_BadText T) (hr.mono (by decide)) (pa_cons (pe_fld (pv 0) rfl) pa_nil)))), ?_⟩
  dsimp only [tRet, tRetN, tSeq, tAsg, tOp, tVar, tC, tCB, tCons, tNil, tAndV, tOrV, tNotV, tAnd, tOr, tNot, tTest, tIf, tIfS, tB, tChain, tSl, tPart, tNoPart, tLst, tTup, tFld, tCl, tMt, tMk, gName, tNext, tBM, tBM0, tUn, tSub, tPar, tPar3, gTup, gCons, gNil, tDrop, tMkS, tM1, sFld, StX.tStar, tYes, gSub, cxOf, Cx.wish, Cx.nox, Cx.blk]
  exact ⟨_, rfl, p, CS K, dx, _, _, rfl, h1, T.cl_Scan, T.na_Scan_at, scF_at _ _, _, rfl, fun d hd => q d _ (Ext.upd hd) upd_same⟩
/-! ### take_just -/
theorem wordV_ne {ws : List (List Nat)} {i : Nat} {a : List Nat} {H : Hp} {Q : VK} (q : Q (.bl (!decide (ws[i]? = some a))) H) : rNe (wordV ws i) (.str (S a)) H Q := by
  unfold wordV
  cases hw : ws[i]? with
  | none =>
    rw [hw] at q
    refine ⟨rfl, ?_⟩
    have e1 : decide (V.non = V.str (S a)) = false := decide_eq_false (fun z => by cases z)
    have e2 : decide ((none : Option (List Nat)) = some a) = false := decide_eq_false (fun z => by cases z)
    rw [e2] at q
    rw [e1]
    exact q
  | some b =>
    rw [hw] at q
    refine rNe_S rfl ?_
    have e2 : decide (some b = some a) = decide (b = a) := by
      rw [Bool.eq_iff_iff]
      simp
    rw [e2] at q
    exact q
theorem extP_upd (p : Addr) (H : Hp) (o : HO) : ExtP p H (upd H p o) := fun b u hb e => by rw [upd_ne hb]; exact e
theorem scan_step {K : W.Frag} {H : Hp} {p l dx : Addr} {ws : List (List Nat)} {i : Nat} (h : ScanAt K H p ws i) (h1 : H p = some (.ins (CS K) dx (scF l i))) (h2 : H l = some (.lst ((ws.map S).map V.str))) : ScanAt K (upd H p (.ins (CS K) dx (scF l ((i : Int) + 1)))) p ws (i + 1) := by
  obtain ⟨_, _, _, _, h3⟩ := h
  refine ⟨dx, l, ?_, ?_, h3⟩
  · rw [upd_same]
    rfl
  · rw [upd_ne (ne_of h2 h1 (by intro z; cases z))]
    exact h2
theorem ahead_no (l : Addr) (i : Int) : (scF l i).lookup ("ahead" : Str) = none := scF_no l i (by decide +kernel) (by decide +kernel)
theorem refuse_no (l : Addr) (i : Int) : (scF l i).lookup ("refuse" : Str) = none := scF_no l i (by decide +kernel) (by decide +kernel)
theorem sc_few (l : Addr) (i : Int) : (scF l i).length < 1000 := by rw [scF_eq]; show 2 < 1000; decide
def sp_take_just (K : W.Frag) : Sp := fun vs H Q E => ∃ p ws i a, vs = [.ref p, .str (S a)] ∧ ScanAt K H p ws i ∧ (ws[i]? = some a → ∀ H', ExtP p H H' → ScanAt K H' p ws (i + 1) → Q .non H') ∧ (ws[i]? ≠ some a → EBad K H E "BadText" "item" (.int (i : Nat)))
theorem c_Scan_take_just (T : Txt K mg) : Met prg w K mg base (L2.CX prg w) 4 (CS K) "take_just" ["self", "word"] (sp_take_just K) := by
  refine T.d_Scan_take_just.met sc_Scan_take_just (fun vs H Q E ⟨p, ws, i, a, e, _⟩ => by rw [e]; rfl) fun f cdv A outer s H vs Q E hr h => ?_
  have nd := sc_Scan_take_just.nd
  obtain ⟨p, ws, i, a, rfl, hs, q1, q2⟩ := h
  obtain ⟨dx, l, h1, h2, h3⟩ := id hs
  refine ⟨_, (pss_cons (ps_if (pt_cmpR op_ne (pe_mt0 (pv 0) T.cl_Scan (c_Scan_ahead T) (hr.mono (by decide)) pass0) (pv 1) (nomark _)) (pss_one (ps_expr (pe_mt0 (pv 0) T.cl_Scan (c_Scan_refuse T) (hr.mono (by decide)) (passX (takes_of rfl rfl rfl rfl) fun _ _ _ _ h => h)))) pss_nil)
      (pss_one (ps_fld (pv 0) (pe_op op_add (pe_fld (pv 0) rfl) pe_int) rfl))), ?_⟩
  refine cut_ifn (fun c H' => c = !decide (ws[i]? = some a) ∧ H' = H) (fun Q1 k1 => ?_) fun c H1 ⟨ec, eH⟩ => ?_
  · dsimp only [tRet, tRetN, tSeq, tAsg, tOp, tVar, tC, tCB, tCons, tNil, tAndV, tOrV, tNotV, tAnd, tOr, tNot, tTest, tIf, tIfS, tB, tChain, tSl, tPart, tNoPart, tLst, tTup, tFld, tCl, tMt, tMk, gName, tNext, tBM, tBM0, tUn, tSub, tPar, tPar3, gTup, gCons, gNil, tDrop, tMkS, tM1, sFld, StX.tStar, tYes, gSub, cxOf, Cx.wish, Cx.nox, Cx.blk]
    refine ⟨_, rfl, p, dx, _, rfl, h1, ahead_no _ _, p, ws, i, rfl, hs, _, rfl, ?_⟩
    exact wordV_ne (i := i) (a := a) ⟨_, rfl, k1 _ _ ⟨rfl, rfl⟩⟩
  subst ec eH
  by_cases c : ws[i]? = some a
  · refine if_f (by simp [c]) ?_
    dsimp only [tRet, tRetN, tSeq, tAsg, tOp, tVar, tC, tCB, tCons, tNil, tAndV, tOrV, tNotV, tAnd, tOr, tNot, tTest, tIf, tIfS, tB, tChain, tSl, tPart, tNoPart, tLst, tTup, tFld, tCl, tMt, tMk, gName, tNext, tBM, tBM0, tUn, tSub, tPar, tPar3, gTup, gCons, gNil, tDrop, tMkS, tM1, sFld, StX.tStar, tYes, gSub, cxOf, Cx.wish, Cx.nox, Cx.blk]
    refine ⟨_, rfl, p, CS K, dx, _, _, rfl, h1, T.cl_Scan, T.na_Scan_at, scF_at _ _, _, _, rfl, rfl, _, rfl, p, CS K, dx, _, rfl, h1, T.cl_Scan, T.na_Scan_at, sc_few _ _, ?_⟩
    rw [scF_put]
    exact q1 c _ (extP_upd _ _ _) (scan_step hs h1 h2)
  · refine if_t (by simp [c]) ?_
    dsimp only [tRet, tRetN, tSeq, tAsg, tOp, tVar, tC, tCB, tCons, tNil, tAndV, tOrV, tNotV, tAnd, tOr, tNot, tTest, tIf, tIfS, tB, tChain, tSl, tPart, tNoPart, tLst, tTup, tFld, tCl, tMt, tMk, gName, tNext, tBM, tBM0, tUn, tSub, tPar, tPar3, gTup, gCons, gNil, tDrop, tMkS, tM1, sFld, StX.tStar, tYes, gSub, cxOf, Cx.wish, Cx.nox, Cx.blk]
    exact ⟨_, rfl, p, dx, _, rfl, h1, refuse_no _ _, p, ws, i, rfl, hs, q2 c⟩
/-! ### take_number -/
def numW (ws : List (List Nat)) (i : Nat) (m : Option Int) : Option Int := match ws[i]? with
  | some a => (match numIn a with
    | some n => if within (.int n) 0 m = true then some n else none
    | none => none)
  | none => none
def sp_take_number (K : W.Frag) : Sp := fun vs H Q E => ∃ p ws i m, vs = [.ref p, .int 0, mostV m] ∧ ScanAt K H p ws i ∧ (∀ n, numW ws i m = some n → ∀ H', ExtP p H H' → ScanAt K H' p ws (i + 1) → Q (.int n) H') ∧ (numW ws i m = none → EBad K H E "BadText" "item" (.int (i : Nat)))
theorem c_Scan_take_number (T : Txt K mg) : Met prg w K mg base (L2.CX prg w) 4 (CS K) "take_number" ["self", "least", "most"] (sp_take_number K) := by
  refine T.d_Scan_take_number.met sc_Scan_take_number (fun vs H Q E ⟨p, ws, i, m, e, _⟩ => by rw [e]; rfl) fun f cdv A outer s H vs Q E hr h => ?_
  have nd := sc_Scan_take_number.nd
  obtain ⟨p, ws, i, m, rfl, hs, q1, q2⟩ := h
  obtain ⟨dx, l, h1, h2, h3⟩ := id hs
  refine ⟨_, (pss_cons (ps_set (i := 3) nd rfl (Or.inl rfl) (pe_mt0 (pv 0) T.cl_Scan (c_Scan_ahead T) (hr.mono (by decide)) pass0))
      (pss_cons (ps_set (i := 4) nd rfl (Or.inl rfl) (pe_ifExp (pt_cmpR L2.op_isN (pv 3) pe_non (nomark _)) pe_non (pe_cl (c_number_in T) (hr.mono (by decide)) pass0 (pa_cons (pv 3) pa_nil))))
      (pss_cons (ps_if (pt_not (pt_val (pe_cl (c_is_within T) (hr.mono (by decide)) pass0 (pa_cons (pv 4) (pa_cons (pv 1) (pa_cons (pv 2) pa_nil)))))) (pss_one (ps_expr (pe_mt0 (pv 0) T.cl_Scan (c_Scan_refuse T) (hr.mono (by decide)) (passX (takes_of rfl rfl rfl rfl) fun _ _ _ _ h => h)))) pss_nil)
      (pss_cons (ps_fld (pv 0) (pe_op op_add (pe_fld (pv 0) rfl) pe_int) rfl)
      (pss_one (ps_ret (pv 4))))))), ?_⟩
  refine cut_asg (fun v H' => v = wordV ws i ∧ H' = H) (fun Q1 k1 => ?_) fun v H1 ⟨ev, eH⟩ => ?_
  · dsimp only [tRet, tRetN, tSeq, tAsg, tOp, tVar, tC, tCB, tCons, tNil, tAndV, tOrV, tNotV, tAnd, tOr, tNot, tTest, tIf, tIfS, tB, tChain, tSl, tPart, tNoPart, tLst, tTup, tFld, tCl, tMt, tMk, gName, tNext, tBM, tBM0, tUn, tSub, tPar, tPar3, gTup, gCons, gNil, tDrop, tMkS, tM1, sFld, StX.tStar, tYes, gSub, cxOf, Cx.wish, Cx.nox, Cx.blk]
    exact ⟨_, rfl, p, dx, _, rfl, h1, ahead_no _ _, p, ws, i, rfl, hs, k1 _ _ ⟨rfl, rfl⟩⟩
  subst ev eH
  refine cut_asg (fun v H' => v = mostV (ws[i]?.bind numIn) ∧ Ext H1 H') (fun Q1 k1 => ?_) fun v H2 ⟨ev, e2⟩ => ?_
  · dsimp only [tRet, tRetN, tSeq, tAsg, tOp, tVar, tC, tCB, tCons, tNil, tAndV, tOrV, tNotV, tAnd, tOr, tNot, tTest, tIf, tIfS, tB, tChain, tSl, tPart, tNoPart, tLst, tTup, tFld, tCl, tMt, tMk, gName, tNext, tBM, tBM0, tUn, tSub, tPar, tPar3, gTup, gCons, gNil, tDrop, tMkS, tM1, sFld, StX.tStar, tYes, gSub, cxOf, Cx.wish, Cx.nox, Cx.blk]
    refine ⟨_, rfl, rfl, _, rfl, ?_⟩
    unfold wordV at k1 ⊢
    cases hw : ws[i]? with
    | none =>
      rw [hw] at k1
      exact if_t (by simp) (k1 _ _ ⟨rfl, Ext.rfl'⟩)
    | some a =>
      rw [hw] at k1
      exact if_f (by simp) ⟨_, rfl, a, rfl, h3 a (List.mem_of_getElem? hw), fun H' e => k1 _ _ ⟨rfl, e⟩⟩
  subst ev
  have hs2 := hs.ext e2
  obtain ⟨dx2, l2, g1, g2, g3⟩ := id hs2
  refine cut_ifn (fun c H' => c = !(numW ws i m).isSome ∧ H' = H2) (fun Q1 k1 => ?_) fun c H3 ⟨ec, eH⟩ => ?_
  · dsimp only [tRet, tRetN, tSeq, tAsg, tOp, tVar, tC, tCB, tCons, tNil, tAndV, tOrV, tNotV, tAnd, tOr, tNot, tTest, tIf, tIfS, tB, tChain, tSl, tPart, tNoPart, tLst, tTup, tFld, tCl, tMt, tMk, gName, tNext, tBM, tBM0, tUn, tSub, tPar, tPar3, gTup, gCons, gNil, tDrop, tMkS, tM1, sFld, StX.tStar, tYes, gSub, cxOf, Cx.wish, Cx.nox, Cx.blk]
    refine ⟨_, rfl, _, rfl, _, rfl, _, mostD (ws[i]?.bind numIn), 0, m, rfl, Vd.of ?_, _, rfl, k1 _ _ ⟨?_, rfl⟩⟩
    · cases ws[i]?.bind numIn with
      | none => exact .non
      | some n => exact .int n
    · unfold numW
      cases ws[i]? with
      | none => rfl
      | some a =>
        show (!within (mostD (numIn a)) 0 m) = _
        simp only
        cases numIn a with
        | none => rfl
        | some n =>
          simp only [mostD]
          cases within (.int n) 0 m <;> rfl
  subst ec eH
  cases hn : numW ws i m with
  | none =>
    refine if_t rfl ?_
    dsimp only [tRet, tRetN, tSeq, tAsg, tOp, tVar, tC, tCB, tCons, tNil, tAndV, tOrV, tNotV, tAnd, tOr, tNot, tTest, tIf, tIfS, tB, tChain, tSl, tPart, tNoPart, tLst, tTup, tFld, tCl, tMt, tMk, gName, tNext, tBM, tBM0, tUn, tSub, tPar, tPar3, gTup, gCons, gNil, tDrop, tMkS, tM1, sFld, StX.tStar, tYes, gSub, cxOf, Cx.wish, Cx.nox, Cx.blk]
    refine ⟨_, rfl, p, dx2, _, rfl, g1, refuse_no _ _, p, ws, i, rfl, hs2, fun d H' e h => q2 hn d H' (e2.trans e) h⟩
  | some n =>
    refine if_f rfl ?_
    dsimp only [tRet, tRetN, tSeq, tAsg, tOp, tVar, tC, tCB, tCons, tNil, tAndV, tOrV, tNotV, tAnd, tOr, tNot, tTest, tIf, tIfS, tB, tChain, tSl, tPart, tNoPart, tLst, tTup, tFld, tCl, tMt, tMk, gName, tNext, tBM, tBM0, tUn, tSub, tPar, tPar3, gTup, gCons, gNil, tDrop, tMkS, tM1, sFld, StX.tStar, tYes, gSub, cxOf, Cx.wish, Cx.nox, Cx.blk]
    refine ⟨_, rfl, p, CS K, dx2, _, _, rfl, g1, T.cl_Scan, T.na_Scan_at, scF_at _ _, _, _, rfl, rfl, _, rfl, p, CS K, dx2, _, rfl, g1, T.cl_Scan, T.na_Scan_at, sc_few _ _, ?_⟩
    rw [scF_put]
    have en : ws[i]?.bind numIn = some n := by
      unfold numW at hn
      split at hn
      · rename_i a ha
        rw [ha]
        split at hn
        · rename_i z hz
          split at hn
          · cases hn
            exact hz
          · cases hn
        · cases hn
      · cases hn
    rw [en]
    exact ⟨_, rfl, q1 n hn _ ((ExtP.of e2).trans (extP_upd _ _ _)) (scan_step hs2 g1 g2)⟩
/-! ### finish -/
def sp_finish (K : W.Frag) : Sp := fun vs H Q E => ∃ p ws i, vs = [.ref p] ∧ ScanAt K H p ws i ∧ (ws.length ≤ i → Q .non H) ∧ (i < ws.length → EBad K H E "BadText" "item" (.int (i : Nat)))
theorem c_Scan_finish (T : Txt K mg) : Met prg w K mg base (L2.CX prg w) 4 (CS K) "finish" ["self"] (sp_finish K) := by
  refine T.d_Scan_finish.met sc_Scan_finish (fun vs H Q E ⟨p, ws, i, e, _⟩ => by rw [e]; rfl) fun f cdv A outer s H vs Q E hr h => ?_
  have nd := sc_Scan_finish.nd
  obtain ⟨p, ws, i, rfl, hs, q1, q2⟩ := h
  obtain ⟨dx, l, h1, h2, h3⟩ := id hs
  refine ⟨_, (pss_one (ps_if (pt_cmpR op_notN (pe_mt0 (pv 0) T.cl_Scan (c_Scan_ahead T) (hr.mono (by decide)) pass0) pe_non (nomark _)) (pss_one (ps_expr (pe_mt0 (pv 0) T.cl_Scan (c_Scan_refuse T) (hr.mono (by decide)) (passX (takes_of rfl rfl rfl rfl) fun _ _ _ _ h => h)))) pss_nil)), ?_⟩
  dsimp only [tRet, tRetN, tSeq, tAsg, tOp, tVar, tC, tCB, tCons, tNil, tAndV, tOrV, tNotV, tAnd, tOr, tNot, tTest, tIf, tIfS, tB, tChain, tSl, tPart, tNoPart, tLst, tTup, tFld, tCl, tMt, tMk, gName, tNext, tBM, tBM0, tUn, tSub, tPar, tPar3, gTup, gCons, gNil, tDrop, tMkS, tM1, sFld, StX.tStar, tYes, gSub, cxOf, Cx.wish, Cx.nox, Cx.blk]
  refine ⟨_, rfl, p, dx, _, rfl, h1, ahead_no _ _, p, ws, i, rfl, hs, rfl, _, rfl, ?_⟩
  by_cases c : i < ws.length
  · refine if_t (by rw [wordV, List.getElem?_eq_getElem c]; simp) ?_
    exact ⟨_, rfl, p, dx, _, rfl, h1, refuse_no _ _, p, ws, i, rfl, hs, q2 c⟩
  · refine if_f (by rw [wordV, List.getElem?_eq_none (by omega)]; simp) ?_
    exact q1 (by omega)
end
end K80

end
section
/-! K80e: Scan(text), step_in, read_script. -/
namespace K80
open PySem L2 Ow
open PySem.Spec PyProof.Rows
/-- a text's words -/
def splitW (a : List Nat) : List (List Nat) := TL.spl [32] 0 [] a
theorem spl_len : ∀ (a acc : List Nat), (∀ w ∈ TL.spl [32] 0 acc a, w.length ≤ acc.length + a.length) ∧ (TL.spl [32] 0 acc a).length ≤ a.length + 1
  | [], acc => by
    rw [TL.spl_nil]
    refine ⟨fun w hw => ?_, Nat.le_refl _⟩
    rw [List.mem_singleton.mp hw]
    exact Nat.le_add_right _ _
  | c :: r, acc => by
    by_cases h : TL.pre [32] (c :: r) = true
    · rw [TL.spl_hit h]
      obtain ⟨h1, h2⟩ := spl_len r []
      refine ⟨fun w hw => ?_, ?_⟩
      · rcases List.mem_cons.mp hw with e | e
        · rw [e]
          exact Nat.le_add_right _ _
        · have := h1 w e
          simp only [List.length_nil, List.length_cons] at this ⊢
          omega
      · simp only [List.length_cons] at h2 ⊢
        show (TL.spl [32] 0 [] r).length + 1 ≤ _
        omega
    · have e : TL.spl [32] 0 acc (c :: r) = TL.spl [32] 0 (acc ++ [c]) r := by
        show (if TL.pre [32] (c :: r) = true then _ else _) = _
        rw [if_neg h]
      rw [e]
      obtain ⟨h1, h2⟩ := spl_len r (acc ++ [c])
      refine ⟨fun w hw => ?_, ?_⟩
      · have := h1 w hw
        simp only [List.length_append, List.length_cons, List.length_nil] at this ⊢
        omega
      · simp only [List.length_cons]
        omega
theorem splitW_len {a : List Nat} {n : Nat} (h : a.length ≤ n) : ∀ w ∈ splitW a, w.length ≤ n := fun w hw => by
  have := (spl_len a []).1 w hw
  simp only [List.length_nil] at this
  omega
/-- raised, the scan at p may have gone on -/
def EBadP (K : W.Frag) (p : Addr) (H : Hp) (E : XK) (C f : Str) (v : V) : Prop := ∀ d H', ExtP p H H' → H' d = some (.xd [(f, v)]) → E (.ref (He.ga K C)) (some d) H'
theorem EBadP.ext {K : W.Frag} {p : Addr} {H H1 : Hp} {E : XK} {C f : Str} {v : V} (e : ExtP p H H1) (h : EBadP K p H E C f v) : EBad K H1 E C f v := fun d H' e' hd => h d H' (e.trans (ExtP.of e')) hd
section
variable {w : World} {K : W.Frag} {mg : Str → Option Value} {base : Heap}
def sp_Scan_init (K : W.Frag) : Sp := fun vs H Q E => ∃ p dx v d, vs = [.ref p, v] ∧ Vd K H v d ∧ H p = some (.ins (CS K) dx []) ∧ (∀ a, d = .str (S a) → a.length + 2 ≤ sizeLine ∧ ∀ H', ExtP p H H' → ScanAt K H' p (splitW a) 0 → Q .non H') ∧ (dStr d = false → EBad K H E "BadText" "item" (.int ((0 : Nat) : Int)))
theorem c_Scan_init (T : Txt K mg) : Ini prg w K mg base (L2.CX prg w) 3 "Scan" (CS K) ["self", "text"] (sp_Scan_init K) := by
  refine T.d_Scan_init.ini sc_Scan_init (fun vs H Q E ⟨p, dx, v, d, e, _⟩ => by rw [e]; rfl) fun f cdv A outer s H vs Q E hr h => ?_
  have nd := sc_Scan_init.nd
  obtain ⟨p, dx, v, d, rfl, hv, hp, q1, q2⟩ := h
  refine ⟨_, (pss_cons (ps_if (pt_not (pt_val (pe_callB call_isi (by rfl) T.f_isinstance (by decide +kernel) (pa_cons (pv 1) (pa_cons (pe_bltn (v := .ty "str") (by rfl) T.f_str (by decide +kernel) rfl) pa_nil))))) (pss_one (ps_raise rfl (takes_of rfl rfl rfl rfl) (pmk_err (e_BadText T) (hr.mono (by decide)) (pa_cons pe_int pa_nil)))) pss_nil)
      (pss_cons (ps_fld (pv 0) (pe_split (pv 1) pe_str) rfl)
      (pss_one (ps_fld (pv 0) pe_int rfl)))), ?_⟩
  refine cut_ifn (fun c H' => c = !dStr d ∧ H' = H) (fun Q1 k1 => ?_) fun c H1 ⟨ec, eH⟩ => ?_
  · dsimp only [tRet, tRetN, tSeq, tAsg, tOp, tVar, tC, tCB, tCons, tNil, tAndV, tOrV, tNotV, tAnd, tOr, tNot, tTest, tIf, tIfS, tB, tChain, tSl, tPart, tNoPart, tLst, tTup, tFld, tCl, tMt, tMk, gName, tNext, tBM, tBM0, tUn, tSub, tPar, tPar3, gTup, gCons, gNil, tDrop, tMkS, tM1, sFld, StX.tStar, tYes, gSub, cxOf, Cx.wish, Cx.nox, Cx.blk]
    exact ⟨_, rfl, isi_rd hv (kit_str d) ⟨_, rfl, k1 _ _ ⟨rfl, rfl⟩⟩⟩
  subst ec eH
  cases hd : dStr d with
  | false =>
    refine if_t rfl ?_
    dsimp only [tRet, tRetN, tSeq, tAsg, tOp, tVar, tC, tCB, tCons, tNil, tAndV, tOrV, tNotV, tAnd, tOr, tNot, tTest, tIf, tIfS, tB, tChain, tSl, tPart, tNoPart, tLst, tTup, tFld, tCl, tMt, tMk, gName, tNext, tBM, tBM0, tUn, tSub, tPar, tPar3, gTup, gCons, gNil, tDrop, tMkS, tM1, sFld, StX.tStar, tYes, gSub, cxOf, Cx.wish, Cx.nox, Cx.blk]
    exact ⟨_, rfl, fun d hd' => q2 hd d _ (Ext.upd hd') upd_same⟩
  | true =>
    refine if_f rfl ?_
    cases d with
    | str x =>
      obtain ⟨hl, q⟩ := q1 x.cps.toList (by rw [← S_of])
      have ev := hv.str
      subst ev
      dsimp only [tRet, tRetN, tSeq, tAsg, tOp, tVar, tC, tCB, tCons, tNil, tAndV, tOrV, tNotV, tAnd, tOr, tNot, tTest, tIf, tIfS, tB, tChain, tSl, tPart, tNoPart, tLst, tTup, tFld, tCl, tMt, tMk, gName, tNext, tBM, tBM0, tUn, tSub, tPar, tPar3, gTup, gCons, gNil, tDrop, tMkS, tM1, sFld, StX.tStar, tYes, gSub, cxOf, Cx.wish, Cx.nox, Cx.blk]
      refine ⟨_, rfl, ⟨_, rfl⟩, S x.cps.toList, S [32], by rw [← S_of], congrArg (fun z => [V.str z]) (by decide +kernel), rfl, by rw [S_len]; exact hl, fun l hl0 => ?_⟩
      rw [SX.split_S (by simp) (by decide)]
      have npl : p ≠ l := ne_of_none hp hl0
      refine ⟨_, rfl, p, CS K, dx, [], rfl, by rw [upd_ne npl]; exact hp, T.cl_Scan, T.na_Scan_words, by show 0 < 1000; decide, _, rfl, p, CS K, dx, _, rfl, upd_same, T.cl_Scan, T.na_Scan_at, by show 1 < 1000; decide, ?_⟩
      refine q _ (fun b o hb e => ?_) ⟨dx, l, upd_same, ?_, splitW_len (by omega)⟩
      · rw [upd_ne hb, upd_ne hb, upd_ne (ne_of_none e hl0)]
        exact e
      · rw [upd_ne npl.symm, upd_ne npl.symm, upd_same]
        rfl
    | _ => cases hd
/-! ### step_in -/
/-- the numbers from the i-th word on; where it stopped -/
def takeN (ws : List (List Nat)) : Nat → List (Option Int) → Option (List Int) × Nat
  | i, [] => (some [], i)
  | i, m :: ms => match numW ws i m with
    | none => (none, i)
    | some n => match takeN ws (i + 1) ms with
      | (some l, j) => (some (n :: l), j)
      | (none, j) => (none, j)
/-- a step from the i-th word on; where it stopped -/
def stepW (ws : List (List Nat)) (i : Nat) : Option (List Nat × List Int) × Nat := match ws[i]? with
  | none => (none, i)
  | some a => match lookB a with
    | none => (none, i)
    | some bs => match takeN ws (i + 1) bs with
      | (some l, j) => (some (a, l), j)
      | (none, j) => (none, j)
/-- first one part, then another -/
def takeM (ws : List (List Nat)) (ys : List (Option Int)) : Option (List Int) × Nat → Option (List Int) × Nat
  | (some l, j) => (match takeN ws j ys with
    | (some l2, j2) => (some (l ++ l2), j2)
    | (none, j2) => (none, j2))
  | (none, j) => (none, j)
theorem takeN_app (ws : List (List Nat)) : ∀ (xs ys : List (Option Int)) (i : Nat), takeN ws i (xs ++ ys) = takeM ws ys (takeN ws i xs)
  | [], ys, i => by
    show takeN ws i ys = (match takeN ws i ys with
      | (some l2, j2) => (some ([] ++ l2), j2)
      | (none, j2) => (none, j2))
    rcases takeN ws i ys with ⟨l, j⟩
    cases l <;> rfl
  | x :: xs, ys, i => by
    simp only [List.cons_append, takeN]
    cases numW ws i x with
    | none => rfl
    | some n =>
      simp only
      rw [takeN_app ws xs ys (i + 1)]
      rcases takeN ws (i + 1) xs with ⟨l, j⟩
      cases l with
      | none => rfl
      | some l =>
        unfold takeM
        simp only
        rcases takeN ws j ys with ⟨l2, j2⟩
        cases l2 <;> rfl
theorem takeN_pos (ws : List (List Nat)) : ∀ (xs : List (Option Int)) (i j : Nat) (l : List Int), takeN ws i xs = (some l, j) → j = i + xs.length ∧ l.length = xs.length
  | [], i, j, l, h => by
    simp only [takeN, Prod.mk.injEq, Option.some.injEq] at h
    simp [← h.1, ← h.2]
  | x :: xs, i, j, l, h => by
    simp only [takeN] at h
    split at h
    · simp at h
    · split at h
      · rename_i l2 j2 h2
        obtain ⟨a, b⟩ := takeN_pos ws xs _ _ _ h2
        simp only [Prod.mk.injEq, Option.some.injEq] at h
        obtain ⟨h3, h4⟩ := h
        subst h3 h4
        rw [List.length_cons, List.length_cons, b, a]
        omega
      · simp at h
theorem takeN_at (ws : List (List Nat)) {bs : List (Option Int)} {i k : Nat} {m : Option Int} {l : List Int} (hm : bs[k]? = some m) (h : takeN ws i (bs.take k) = (some l, i + k)) :
    (∀ n, numW ws (i + k) m = some n → takeN ws i (bs.take (k + 1)) = (some (l ++ [n]), i + k + 1)) ∧ (numW ws (i + k) m = none → takeN ws i bs = (none, i + k)) := by
  have hk : k < bs.length := (List.getElem?_eq_some_iff.mp hm).1
  have em : bs[k] = m := (List.getElem?_eq_some_iff.mp hm).2
  refine ⟨fun n hn => ?_, fun hn => ?_⟩
  · rw [List.take_succ_eq_append_getElem hk, em, takeN_app, h]
    simp only [takeM, takeN, hn]
  · conv => lhs; rw [← List.take_append_drop k bs]
    rw [takeN_app, h, List.drop_eq_getElem_cons hk, em]
    simp only [takeM, takeN, hn]
def stepD (s : List Nat × List Int) : PyData := .tuple (.str (S s.1) :: s.2.map .int)
def sp_step_in (K : W.Frag) : Sp := fun vs H Q E => ∃ p ws i, vs = [.ref p] ∧ ScanAt K H p ws i ∧ (∀ s j, stepW ws i = (some s, j) → ∀ v H', ExtP p H H' → ScanAt K H' p ws j → Dp K H' v (stepD s) → (∀ a, v = .ref a → H a = none) → Q v H') ∧ (∀ j, stepW ws i = (none, j) → EBadP K p H E "BadText" "item" (.int (j : Nat)))
theorem c_step_in (T : Txt K mg) : Cal prg w K mg base (L2.CX prg w) 5 "step_in" ["scan"] (sp_step_in K) := by
  refine T.d_step_in.cal sc_step_in (fun vs H Q E ⟨p, ws, i, e, _⟩ => by rw [e]; rfl) fun f cdv A outer s H vs Q E hr h => ?_
  have nd := sc_step_in.nd
  obtain ⟨p, ws, i, rfl, hs, q1, q2⟩ := h
  refine ⟨_, (pss_cons (ps_set (i := 1) nd rfl (Or.inl rfl) (pe_mt0 (pv 0) T.cl_Scan (c_Scan_ahead T) (hr.mono (by decide)) pass0))
      (pss_cons (ps_set (i := 2) nd rfl (Or.inl rfl) (pe_ifExp (pt_cmpR L2.op_isN (pv 1) pe_non (nomark _)) pe_non (pe_cl (c_bounds_of T) (hr.mono (by decide)) pass0 (pa_cons (pv 1) pa_nil))))
      (pss_cons (ps_if (pt_cmpR L2.op_isN (pv 2) pe_non (nomark _)) (pss_one (ps_expr (pe_mt0 (pv 0) T.cl_Scan (c_Scan_refuse T) (hr.mono (by decide)) (passX (takes_of rfl rfl rfl rfl) fun _ _ _ _ h => h)))) pss_nil)
      (pss_cons (ps_expr (pe_mt (pv 0) T.cl_Scan (c_Scan_take_just T) (hr.mono (by decide)) (passX (takes_of rfl rfl rfl rfl) fun _ _ _ _ h => h) (pa_cons (pv 1) pa_nil)))
      (pss_cons (ps_setLcX (i := 3) (own := [("most", 4)]) (tt := tYes) (g := gName 4) rfl rfl (takes_of rfl rfl rfl rfl) (fun _ _ _ _ h => h) rfl nd rfl rfl (sw_true rfl rfl rfl (by decide +kernel)) (pi_tup (pv 2)) (blkOk_by (own := [("most", 4)]) (N := ["scan", "word", "bounds", "numbers", "most"]) (sc := defScope s_step_in) (by decide +kernel)) (fun _ _ _ _ _ => (pg_name (i := 4) nd rfl (Or.inl rfl))) (fun _ _ _ _ _ => pts_nil) (fun _ _ _ _ _ _ hx => (pe_mt (pv 0) T.cl_Scan (c_Scan_take_number T) (hr.mono (by decide)) hx (pa_cons pe_int (pa_cons (pv 4) pa_nil)))))
      (pss_one (ps_ret (pe_tup (pa_cons (pv 1) (StX.pa_star (pv 3) pa_nil)))))))))), ?_⟩
  obtain ⟨dx, l, h1, h2, h3⟩ := id hs
  refine cut_asg (fun v H' => v = wordV ws i ∧ H' = H) (fun Q1 k1 => ?_) fun v H1 ⟨ev, eH⟩ => ?_
  · dsimp only [tRet, tRetN, tSeq, tAsg, tOp, tVar, tC, tCB, tCons, tNil, tAndV, tOrV, tNotV, tAnd, tOr, tNot, tTest, tIf, tIfS, tB, tChain, tSl, tPart, tNoPart, tLst, tTup, tFld, tCl, tMt, tMk, gName, tNext, tBM, tBM0, tUn, tSub, tPar, tPar3, gTup, gCons, gNil, tDrop, tMkS, tM1, sFld, StX.tStar, tYes, gSub, cxOf, Cx.wish, Cx.nox, Cx.blk]
    exact ⟨_, rfl, p, dx, _, rfl, h1, ahead_no _ _, p, ws, i, rfl, hs, k1 _ _ ⟨rfl, rfl⟩⟩
  subst ev eH
  refine cut_asg (fun v H' => (match ws[i]? with | none => v = .non | some a => BV K a v) ∧ H' = H1) (fun Q1 k1 => ?_) fun bv H2 ⟨hb, eH⟩ => ?_
  · dsimp only [tRet, tRetN, tSeq, tAsg, tOp, tVar, tC, tCB, tCons, tNil, tAndV, tOrV, tNotV, tAnd, tOr, tNot, tTest, tIf, tIfS, tB, tChain, tSl, tPart, tNoPart, tLst, tTup, tFld, tCl, tMt, tMk, gName, tNext, tBM, tBM0, tUn, tSub, tPar, tPar3, gTup, gCons, gNil, tDrop, tMkS, tM1, sFld, StX.tStar, tYes, gSub, cxOf, Cx.wish, Cx.nox, Cx.blk]
    refine ⟨_, rfl, rfl, _, rfl, ?_⟩
    unfold wordV
    cases hw : ws[i]? with
    | none =>
      rw [hw] at k1
      exact if_t (by simp) (k1 _ _ ⟨rfl, rfl⟩)
    | some a =>
      rw [hw] at k1
      exact if_f (by simp) ⟨_, rfl, a, rfl, fun v hv => k1 _ _ ⟨hv, rfl⟩⟩
  subst eH
  cases hw : ws[i]? with
  | none =>
    rw [hw] at hb
    have hb : bv = .non := hb
    subst hb
    refine cut_ifn (fun c H' => c = true ∧ H' = H2) (fun Q1 k1 => ?_) fun c H3 ⟨ec, eH⟩ => ?_
    · dsimp only [tRet, tRetN, tSeq, tAsg, tOp, tVar, tC, tCB, tCons, tNil, tAndV, tOrV, tNotV, tAnd, tOr, tNot, tTest, tIf, tIfS, tB, tChain, tSl, tPart, tNoPart, tLst, tTup, tFld, tCl, tMt, tMk, gName, tNext, tBM, tBM0, tUn, tSub, tPar, tPar3, gTup, gCons, gNil, tDrop, tMkS, tM1, sFld, StX.tStar, tYes, gSub, cxOf, Cx.wish, Cx.nox, Cx.blk]
      exact ⟨_, rfl, rfl, _, rfl, k1 _ _ ⟨by simp, rfl⟩⟩
    subst ec eH
    refine if_t rfl ?_
    dsimp only [tRet, tRetN, tSeq, tAsg, tOp, tVar, tC, tCB, tCons, tNil, tAndV, tOrV, tNotV, tAnd, tOr, tNot, tTest, tIf, tIfS, tB, tChain, tSl, tPart, tNoPart, tLst, tTup, tFld, tCl, tMt, tMk, gName, tNext, tBM, tBM0, tUn, tSub, tPar, tPar3, gTup, gCons, gNil, tDrop, tMkS, tM1, sFld, StX.tStar, tYes, gSub, cxOf, Cx.wish, Cx.nox, Cx.blk]
    exact ⟨_, rfl, p, dx, _, rfl, h1, refuse_no _ _, p, ws, i, rfl, hs, EBadP.ext (ExtP.refl _ _) (q2 i (by rw [stepW, hw]))⟩
  | some a =>
    rw [hw] at hb
    have hb : BV K a bv := hb
    unfold BV at hb
    cases hk : lookB a with
    | none =>
      rw [hk] at hb
      have hb : bv = .non := hb
      subst hb
      refine cut_ifn (fun c H' => c = true ∧ H' = H2) (fun Q1 k1 => ?_) fun c H3 ⟨ec, eH⟩ => ?_
      · dsimp only [tRet, tRetN, tSeq, tAsg, tOp, tVar, tC, tCB, tCons, tNil, tAndV, tOrV, tNotV, tAnd, tOr, tNot, tTest, tIf, tIfS, tB, tChain, tSl, tPart, tNoPart, tLst, tTup, tFld, tCl, tMt, tMk, gName, tNext, tBM, tBM0, tUn, tSub, tPar, tPar3, gTup, gCons, gNil, tDrop, tMkS, tM1, sFld, StX.tStar, tYes, gSub, cxOf, Cx.wish, Cx.nox, Cx.blk]
        exact ⟨_, rfl, rfl, _, rfl, k1 _ _ ⟨by simp, rfl⟩⟩
      subst ec eH
      refine if_t rfl ?_
      dsimp only [tRet, tRetN, tSeq, tAsg, tOp, tVar, tC, tCB, tCons, tNil, tAndV, tOrV, tNotV, tAnd, tOr, tNot, tTest, tIf, tIfS, tB, tChain, tSl, tPart, tNoPart, tLst, tTup, tFld, tCl, tMt, tMk, gName, tNext, tBM, tBM0, tUn, tSub, tPar, tPar3, gTup, gCons, gNil, tDrop, tMkS, tM1, sFld, StX.tStar, tYes, gSub, cxOf, Cx.wish, Cx.nox, Cx.blk]
      exact ⟨_, rfl, p, dx, _, rfl, h1, refuse_no _ _, p, ws, i, rfl, hs, EBadP.ext (ExtP.refl _ _) (q2 i (by rw [stepW, hw]; simp only [hk]))⟩
    | some bs =>
      rw [hk] at hb
      have hb : Dp K H00 bv (.tuple (bs.map mostD)) := hb
      obtain ⟨p1, ys, rfl, hT, hB⟩ := Dp.tupV hb
      refine cut_ifn (fun c H' => c = false ∧ H' = H2) (fun Q1 k1 => ?_) fun c H3 ⟨ec, eH⟩ => ?_
      · dsimp only [tRet, tRetN, tSeq, tAsg, tOp, tVar, tC, tCB, tCons, tNil, tAndV, tOrV, tNotV, tAnd, tOr, tNot, tTest, tIf, tIfS, tB, tChain, tSl, tPart, tNoPart, tLst, tTup, tFld, tCl, tMt, tMk, gName, tNext, tBM, tBM0, tUn, tSub, tPar, tPar3, gTup, gCons, gNil, tDrop, tMkS, tM1, sFld, StX.tStar, tYes, gSub, cxOf, Cx.wish, Cx.nox, Cx.blk]
        exact ⟨_, rfl, rfl, _, rfl, k1 _ _ ⟨by simp, rfl⟩⟩
      subst ec eH
      refine if_f rfl ?_
      refine cut_drop (fun v H' => ExtP p H3 H' ∧ ScanAt K H' p ws (i + 1)) (fun Q1 k1 => ?_) fun v H4 ⟨e4, hs4⟩ => ?_
      · dsimp only [tRet, tRetN, tSeq, tAsg, tOp, tVar, tC, tCB, tCons, tNil, tAndV, tOrV, tNotV, tAnd, tOr, tNot, tTest, tIf, tIfS, tB, tChain, tSl, tPart, tNoPart, tLst, tTup, tFld, tCl, tMt, tMk, gName, tNext, tBM, tBM0, tUn, tSub, tPar, tPar3, gTup, gCons, gNil, tDrop, tMkS, tM1, sFld, StX.tStar, tYes, gSub, cxOf, Cx.wish, Cx.nox, Cx.blk]
        refine ⟨_, rfl, p, dx, _, rfl, h1, scF_no _ _ (by decide +kernel) (by decide +kernel), _, rfl, p, ws, i, a, ?_, hs, fun _ H' e' h' => k1 _ _ ⟨e', h'⟩, fun z => absurd hw z⟩
        rw [wordV, hw]
      have hT4 : ∀ H', SqT K H' p1 ys := fun H' => hT.ext ext00
      have hst : stepW ws i = match takeN ws (i + 1) bs with
        | (some l, j) => (some (a, l), j)
        | (none, j) => (none, j) := by rw [stepW, hw]; simp only [hk]
      refine cut_asg (fun v H' => ∃ D l, v = .ref D ∧ takeN ws (i + 1) bs = (some l, i + 1 + bs.length) ∧ ExtP p H3 H' ∧ H3 D = none ∧ ScanAt K H' p ws (i + 1 + bs.length) ∧ H' D = some (.lst (l.map V.int))) (fun Q1 k1 => ?_) fun v H5 ⟨D, l5, ev, hl5, e5, n5, hs5, hD5⟩ => ?_
      · have nD : ∀ D, H4 D = none → H3 D = none ∧ D ≠ p := fun D hD => by
          obtain ⟨dx4, l4, g1, _⟩ := hs4
          have hp : D ≠ p := fun z => by
            rw [z, g1] at hD
            cases hD
          refine ⟨?_, hp⟩
          cases hz : H3 D with
          | none => rfl
          | some o =>
            rw [e4 D o hp hz] at hD
            cases hD
        refine ⟨_, rfl, p1, rfl, ⟨ys, hT4 _⟩, fun D hD => ?_⟩
        obtain ⟨n3, hDp⟩ := nD D hD
        have hlen : ys.length = bs.length := by rw [DpAll.length hB, List.length_map]
        have l2 := lookB_len hk
        refine lc_it walk_tup (fun k H' => ∃ l, takeN ws (i + 1) (bs.take k) = (some l, i + 1 + k) ∧ ExtP p H4 H' ∧ ScanAt K H' p ws (i + 1 + k) ∧ H' D = some (.lst (l.map V.int))) ⟨[], rfl, fun b o hb e => ?_, hs4.ext (Ext.upd hD), upd_same⟩ (fun _ _ _ _ => hT4 _) ?_ ?_
        · rw [upd_ne (ne_of_none e hD)]
          exact e
        · rintro k x G G' hk ⟨l, hl, e, hsk, hDk⟩ ⟨rfl, hx⟩
          obtain ⟨d, hd, hp⟩ := DpAll.getV hB hx
          rw [List.getElem?_map] at hd
          cases em : bs[k]? with
          | none =>
            rw [em] at hd
            cases hd
          | some m =>
            rw [em] at hd
            cases hd
            have ex : x = mostV m := by
              cases m with
              | none => exact Dp.nonV hp
              | some m => exact Dp.intV hp
            subst ex
            obtain ⟨good, bad⟩ := takeN_at ws em hl
            obtain ⟨dxk, lk, g1, _⟩ := id hsk
            refine ⟨rfl, ?_⟩
            dsimp only [tRet, tRetN, tSeq, tAsg, tOp, tVar, tC, tCB, tCons, tNil, tAndV, tOrV, tNotV, tAnd, tOr, tNot, tTest, tIf, tIfS, tB, tChain, tSl, tPart, tNoPart, tLst, tTup, tFld, tCl, tMt, tMk, gName, tNext, tBM, tBM0, tUn, tSub, tPar, tPar3, gTup, gCons, gNil, tDrop, tMkS, tM1, sFld, StX.tStar, tYes, gSub, cxOf, Cx.wish, Cx.nox, Cx.blk]
            refine if_t rfl ?_
            refine ⟨_, rfl, p, dxk, _, rfl, g1, scF_no _ _ (by decide +kernel) (by decide +kernel), _, rfl, p, ws, i + 1 + k, m, rfl, hsk, fun n hn G2 e2 hs2 => ⟨_, e2 _ _ hDp hDk, ?_, l ++ [n], good n hn, fun b o hb eb => ?_, ?_, ?_⟩, fun hn => EBadP.ext (e4.trans e) (q2 _ (by rw [hst, bad hn]))⟩
            · have h1 : k < bs.length := (List.getElem?_eq_some_iff.mp em).1
              have h2 := (takeN_pos ws _ _ _ _ hl).2
              rw [List.length_take] at h2
              rw [List.length_map, h2]
              exact small1000 (by omega)
            · rw [upd_ne (ne_of_none eb hD)]
              exact e2 _ _ hb (e _ _ hb eb)
            · obtain ⟨dx2, l2', k1', k2', k3'⟩ := hs2
              refine ⟨dx2, l2', by rw [upd_ne hDp.symm]; exact k1', ?_, k3'⟩
              by_cases c : l2' = D
              · have z1 := e2 _ _ hDp hDk
                rw [c, z1] at k2'
                have z2 : l.map V.int = (ws.map S).map V.str := HO.lst.inj (Option.some.inj k2')
                cases ws with
                | nil => simp at hw
                | cons w0 wr =>
                  cases l with
                  | nil => cases z2
                  | cons n0 nr => cases z2
              · rw [upd_ne c]
                exact k2'
            · rw [upd_same, List.map_append]
              rfl
        · rintro G ⟨l, hl, e, hsk, hDk⟩
          rw [hlen] at hl hsk
          rw [List.take_of_length_le (Nat.le_refl _)] at hl
          exact k1 _ _ ⟨D, l, rfl, hl, e4.trans e, n3, hsk, hDk⟩
      subst ev
      dsimp only [tRet, tRetN, tSeq, tAsg, tOp, tVar, tC, tCB, tCons, tNil, tAndV, tOrV, tNotV, tAnd, tOr, tNot, tTest, tIf, tIfS, tB, tChain, tSl, tPart, tNoPart, tLst, tTup, tFld, tCl, tMt, tMk, gName, tNext, tBM, tBM0, tUn, tSub, tPar, tPar3, gTup, gCons, gNil, tDrop, tMkS, tM1, sFld, StX.tStar, tYes, gSub, cxOf, Cx.wish, Cx.nox, Cx.blk]
      refine ⟨_, rfl, _, rfl, D, _, rfl, .inr (SqL.of hD5), ?_, fun t ht => ?_⟩
      · have h2 := (takeN_pos ws _ _ _ _ hl5).2
        have l2 := lookB_len hk
        rw [List.append_nil, List.length_cons, List.length_map, h2]
        exact Nat.le_of_lt (small1000 (by omega))
      · have n3 : H3 t = none := by
          obtain ⟨dx4, l4, g1, _⟩ := hs5
          have hp : t ≠ p := fun z => by
            rw [z, g1] at ht
            cases ht
          cases hz : H3 t with
          | none => rfl
          | some o =>
            rw [e5 t o hp hz] at ht
            cases ht
        refine q1 (a, l5) _ (by rw [hst, hl5]) _ _ (fun b o hb e => ?_) (hs5.ext (Ext.upd ht)) (.tup (SqT.of upd_same) ?_) fun b hb => ?_
        · rw [upd_ne (ne_of_none e n3)]
          exact e5 _ _ hb e
        · rw [wordV, hw, List.append_nil]
          exact .cons (.str _) (DpAll.ints _)
        · cases hb
          exact n3
end
end K80

end
section
/-! K80f: read_script. -/
namespace K80
open PySem L2 Ow
open PySem.Spec PyProof.Rows
/-- the steps behind the first ones, n more at most -/
def restW (ws : List (List Nat)) : Nat → Nat → Option (List (List Nat × List Int)) × Nat
  | 0, i => if i < ws.length then (none, i) else (some [], i)
  | n + 1, i => if i < ws.length then (if ws[i]? = some [47] then (match stepW ws (i + 1) with
      | (some s, j) => (match restW ws n j with
        | (some l, k) => (some (s :: l), k)
        | (none, k) => (none, k))
      | (none, j) => (none, j)) else (none, i)) else (some [], i)
def readW (ws : List (List Nat)) : Option (List (List Nat × List Int)) × Nat := match stepW ws 0 with
  | (some s, j) => (match restW ws 399 j with
    | (some l, k) => (some (s :: l), k)
    | (none, k) => (none, k))
  | (none, j) => (none, j)
/-- what a text says, or the item at which it is refused -/
def readT (a : List Nat) : Option (List (List Nat × List Int)) × Nat := if a = [] then (some [], 0) else readW (splitW a)
def pre1 (l : List (List Nat × List Int)) : Option (List (List Nat × List Int)) × Nat → Option (List (List Nat × List Int)) × Nat
  | (some l2, k) => (some (l ++ l2), k)
  | (none, k) => (none, k)
theorem readW_go {ws : List (List Nat)} {s : List Nat × List Int} {j : Nat} (h : stepW ws 0 = (some s, j)) : readW ws = pre1 [s] (restW ws 399 j) := by
  rw [readW, h]
  simp only
  rcases restW ws 399 j with ⟨l, k⟩
  cases l <;> rfl
theorem restW_end {ws : List (List Nat)} {n i : Nat} (h : ¬ i < ws.length) : restW ws n i = (some [], i) := by
  cases n <;> (unfold restW; rw [if_neg h])
theorem restW_full {ws : List (List Nat)} {i : Nat} (h : i < ws.length) : restW ws 0 i = (none, i) := by
  unfold restW
  rw [if_pos h]
theorem restW_no {ws : List (List Nat)} {n i : Nat} (h : i < ws.length) (h2 : ws[i]? ≠ some [47]) : restW ws (n + 1) i = (none, i) := by
  unfold restW
  rw [if_pos h, if_neg h2]
theorem restW_bad {ws : List (List Nat)} {n i j : Nat} (h : i < ws.length) (h2 : ws[i]? = some [47]) (h3 : stepW ws (i + 1) = (none, j)) : restW ws (n + 1) i = (none, j) := by
  unfold restW
  rw [if_pos h, if_pos h2, h3]
theorem restW_go {ws : List (List Nat)} {n i j : Nat} {s : List Nat × List Int} (l : List (List Nat × List Int)) (h : i < ws.length) (h2 : ws[i]? = some [47]) (h3 : stepW ws (i + 1) = (some s, j)) : pre1 l (restW ws (n + 1) i) = pre1 (l ++ [s]) (restW ws n j) := by
  conv => lhs; unfold restW
  rw [if_pos h, if_pos h2, h3]
  simp only
  rcases restW ws n j with ⟨l2, k⟩
  cases l2 with
  | none => rfl
  | some l2 => simp [pre1]
section
variable {K : W.Frag} {H H' : Hp} {q D p : Addr} {v : V} {vs : List V} {ws : List (List Nat)} {i : Nat}
theorem sqT_extP {a : Addr} {xs : List V} (h : SqT K H a xs) (e : ExtP q H H') (hq : ∀ ys, ¬ Rd H q (.tup ys)) : SqT K H' a xs := by
  rcases h with h | h
  · have hne : a ≠ q := fun z => hq xs (by rw [← z]; exact h)
    rcases h with h | ⟨o, h⟩
    · exact .inl (.inl (e _ _ hne h))
    · exact .inl (.inr ⟨o, e _ _ hne h⟩)
  · exact .inr h
theorem ints_any {H'' : Hp} : ∀ {l : List Int} {vs : List V}, DpAll K H vs (l.map PyData.int) → DpAll K H'' vs (l.map PyData.int)
  | [], _, h => by cases h; exact .nil
  | _ :: _, _, h => by
    cases h with
    | cons h1 h2 =>
      have := Dp.intV h1
      subst this
      exact .cons (.int _) (ints_any h2)
theorem step_extP {s : List Nat × List Int} (h : Dp K H v (stepD s)) (e : ExtP q H H') (hq : ∀ ys, ¬ Rd H q (.tup ys)) : Dp K H' v (stepD s) := by
  obtain ⟨a, xs, rfl, hT, hA⟩ := Dp.tupV h
  cases hA with
  | cons h1 h2 =>
    have := Dp.strV h1
    subst this
    exact .tup (sqT_extP hT e hq) (.cons (.str _) (ints_any h2))
theorem steps_extP (e : ExtP q H H') (hq : ∀ ys, ¬ Rd H q (.tup ys)) : ∀ {l : List (List Nat × List Int)} {vs : List V}, DpAll K H vs (l.map stepD) → DpAll K H' vs (l.map stepD)
  | [], _, h => by cases h; exact .nil
  | _ :: _, _, h => by
    cases h with
    | cons h1 h2 => exact .cons (step_extP h1 e hq) (steps_extP e hq h2)
theorem lst_noT {xs : List V} (h : H q = some (.lst xs)) : ∀ ys, ¬ Rd H q (.tup ys) := fun ys z => by
  rcases z with z | ⟨o, z⟩ <;> (rw [h] at z; cases z)
theorem ins_noT {C dx : Addr} {fs : List (Str × V)} (h : H q = some (.ins C dx fs)) : ∀ ys, ¬ Rd H q (.tup ys) := fun ys z => by
  rcases z with z | ⟨o, z⟩ <;> (rw [h] at z; cases z)
/-- the scan stands though the steps' list changes -/
theorem scan_keep {t : Addr} {r : List V} {u : List V} (h : ScanAt K H p ws i) (hD : H D = some (.lst (.ref t :: r))) : ScanAt K (upd H D (.lst u)) p ws i := by
  obtain ⟨dx, l, h1, h2, h3⟩ := h
  refine ⟨dx, l, by rw [upd_ne (ne_of h1 hD (by intro z; cases z))]; exact h1, ?_, h3⟩
  by_cases c : l = D
  · rw [c, hD] at h2
    have z := HO.lst.inj (Option.some.inj h2)
    cases ws with
    | nil => cases z
    | cons _ _ => cases z
  · rw [upd_ne c]
    exact h2
end
theorem sh_empty : SeqAt.shaped (.str ("" : Str)) = true := by decide +kernel
theorem eqv_str {x y : Str} : PyData.eqv (.str x) (.str y) = (x == y) := by
  simp [PyData.eqv]
/-- the steps read so far: l, in the list at D; the scan at p is at i -/
def RI (K : W.Frag) (H1 : Hp) (p D : Addr) (ws : List (List Nat)) (l : List (List Nat × List Int)) (i : Nat) (G : Hp) : Prop :=
  Ext H1 G ∧ ScanAt K G p ws i ∧ (∃ t r, G D = some (.lst (.ref t :: r)) ∧ DpAll K G (.ref t :: r) (l.map stepD)) ∧ l.length ≤ 400 ∧ l ≠ [] ∧ readW ws = pre1 l (restW ws (400 - l.length) i)
section
variable {w : World} {K : W.Frag} {mg : Str → Option Value} {base : Heap}
def sp_read_script (K : W.Frag) : Sp := fun vs H Q E => ∃ v d, vs = [v] ∧ Dp K H v d ∧ SeqAt.shaped d = true ∧ (∀ a, d = .str (S a) → a.length + 2 ≤ sizeLine ∧ (∀ l, (readT a).1 = some l → ∀ u H', Ext H H' → Dp K H' u (.tuple (l.map stepD)) → Q u H') ∧ ((readT a).1 = none → EBad K H E "BadText" "item" (.int ((readT a).2 : Nat)))) ∧
  (dStr d = false → EBad K H E "BadText" "item" (.int ((0 : Nat) : Int)))
theorem c_read_script (T : Txt K mg) : Cal prg w K mg base (L2.CX prg w) 6 "read_script" ["text"] (sp_read_script K) := by
  refine T.d_read_script.cal sc_read_script (fun vs H Q E ⟨v, d, e, _⟩ => by rw [e]; rfl) fun f cdv A outer s H vs Q E hr h => ?_
  have nd := sc_read_script.nd
  obtain ⟨v, d, rfl, hv, hsh, q1, q2⟩ := h
  refine ⟨_, (pss_cons (ps_if (pt_cmpR (op_eqD hr.units) (pv 0) pe_str (nomark _)) (pss_one (ps_ret (pe_tup pa_nil))) pss_nil)
      (pss_cons (ps_set (i := 1) nd rfl (Or.inl rfl) (pe_mk (c_Scan_init T) (hr.mono (by decide)) (passX (takes_of rfl rfl rfl rfl) fun _ _ _ _ h => h) (pa_cons (pv 0) pa_nil)))
      (pss_cons (ps_set (i := 2) nd rfl (Or.inl rfl) (pe_lst (pa_cons (pe_cl (c_step_in T) (hr.mono (by decide)) (passX (takes_of rfl rfl rfl rfl) fun _ _ _ _ h => h) (pa_cons (pv 1) pa_nil)) pa_nil)))
      (pss_cons (ps_while (passes_of rfl) (PW.pt (pw_and (pt_cmpR op_notN (pe_mt0 (pv 1) T.cl_Scan (c_Scan_ahead T) (hr.mono (by decide)) pass0) pe_non (nomark _)) (pw_and1 (pt_cmpR op_lt (pe_callB call_len_seq (by rfl) T.f_len (by decide +kernel) (pa_cons (pv 2) pa_nil)) (pe_glob (v := .int 400) rfl T.g_MOST_STEPS.choose_spec ⟨_, rfl⟩) (nomark _))))) (pss_cons (ps_expr (pe_mt (pv 1) T.cl_Scan (c_Scan_take_just T) (hr.mono (by decide)) (passX (takes_of rfl rfl rfl rfl) fun _ _ _ _ h => h) (pa_cons (pe_glob (v := .str "/") rfl T.g_BAR.choose_spec ⟨_, rfl⟩) pa_nil)))
      (pss_one (ps_expr (pe_bm PySem.F.plainAttrs_list PySem.F.slot_list_append PySem.F.type_list_append mt_append (pv 2) (pa_cons (pe_cl (c_step_in T) (hr.mono (by decide)) (passX (takes_of rfl rfl rfl rfl) fun _ _ _ _ h => h) (pa_cons (pv 1) pa_nil)) pa_nil))))))
      (pss_cons (ps_expr (pe_mt0 (pv 1) T.cl_Scan (c_Scan_finish T) (hr.mono (by decide)) (passX (takes_of rfl rfl rfl rfl) fun _ _ _ _ h => h)))
      (pss_one (ps_ret (pe_callTy call_tuple_of (by rfl) T.f_tuple (by decide +kernel) (pa_cons (pv 2) pa_nil))))))))), ?_⟩
  refine cut_ifn (fun c H' => c = PyData.eqv d (.str (S [])) ∧ H' = H) (fun Q1 k1 => ?_) fun c H1 ⟨ec, eH⟩ => ?_
  · dsimp only [tRet, tRetN, tSeq, tAsg, tOp, tVar, tC, tCB, tCons, tNil, tAndV, tOrV, tNotV, tAnd, tOr, tNot, tTest, tIf, tIfS, tB, tChain, tSl, tPart, tNoPart, tLst, tTup, tFld, tCl, tMt, tMk, gName, tNext, tBM, tBM0, tUn, tSub, tPar, tPar3, gTup, gCons, gNil, tDrop, tMkS, tM1, sFld, StX.tStar, tYes, gSub, cxOf, Cx.wish, Cx.nox, Cx.blk]
    exact ⟨_, rfl, d, _, hv, .str _, hsh, sh_empty, _, rfl, k1 _ _ ⟨rfl, rfl⟩⟩
  subst ec eH
  cases hd : dStr d with
  | false =>
    have e0 : PyData.eqv d (.str (S [])) = false := by
      cases d <;> first | rfl | cases hd
    rw [e0]
    refine if_f rfl ?_
    refine cut_asg (fun _ _ => False) (fun Q1 k1 => ?_) fun v H1 z => z.elim
    dsimp only [tRet, tRetN, tSeq, tAsg, tOp, tVar, tC, tCB, tCons, tNil, tAndV, tOrV, tNotV, tAnd, tOr, tNot, tTest, tIf, tIfS, tB, tChain, tSl, tPart, tNoPart, tLst, tTup, tFld, tCl, tMt, tMk, gName, tNext, tBM, tBM0, tUn, tSub, tPar, tPar3, gTup, gCons, gNil, tDrop, tMkS, tM1, sFld, StX.tStar, tYes, gSub, cxOf, Cx.wish, Cx.nox, Cx.blk]
    refine ⟨_, rfl, fun p dx hp hdx hne => ⟨p, dx, v, d, rfl, ?_, upd_same, fun a z => ?_, fun _ d' H' e' h' => q2 hd d' H' (fun b o hb => e' b o ?_) h'⟩⟩
    · refine Vd.ext (fun b o hb => ?_) (Vd.of hv)
      rw [upd_ne (ne_of_none hb hp), upd_ne (ne_of_none hb hdx)]
      exact hb
    · rw [z] at hd
      cases hd
    · rw [upd_ne (ne_of_none hb hp), upd_ne (ne_of_none hb hdx)]
      exact hb
  | true =>
    cases d with
    | str x =>
      obtain ⟨hlen, qg, qb⟩ := q1 x.cps.toList (by rw [← S_of])
      have ev := Dp.strV hv
      subst ev
      cases he : PyData.eqv (.str x) (.str (S [])) with
      | true =>
        have ex : x.cps.toList = [] := by
          rw [eqv_str] at he
          rw [eq_of_beq he]
        refine if_t rfl ?_
        dsimp only [tRet, tRetN, tSeq, tAsg, tOp, tVar, tC, tCB, tCons, tNil, tAndV, tOrV, tNotV, tAnd, tOr, tNot, tTest, tIf, tIfS, tB, tChain, tSl, tPart, tNoPart, tLst, tTup, tFld, tCl, tMt, tMk, gName, tNext, tBM, tBM0, tUn, tSub, tPar, tPar3, gTup, gCons, gNil, tDrop, tMkS, tM1, sFld, StX.tStar, tYes, gSub, cxOf, Cx.wish, Cx.nox, Cx.blk]
        refine ⟨Nat.zero_le _, fun p hp => qg [] ?_ _ _ (Ext.upd hp) (.tup (SqT.of upd_same) .nil)⟩
        rw [readT, if_pos ex]
      | false =>
        have ex : x.cps.toList ≠ [] := fun z => by
          rw [eqv_str, S_of x, z] at he
          simp at he
        have hrt : readT x.cps.toList = readW (splitW x.cps.toList) := by rw [readT, if_neg ex]
        rw [hrt] at qg qb
        obtain ⟨ws, hws⟩ : ∃ ws, ws = splitW x.cps.toList := ⟨_, rfl⟩
        rw [← hws] at qg qb
        refine if_f rfl ?_
        refine cut_asg (fun v G => ∃ p, v = .ref p ∧ H1 p = none ∧ Ext H1 G ∧ ScanAt K G p ws 0) (fun Q1 k1 => ?_) fun v G1 ⟨p, ev, hp, e1, hs1⟩ => ?_
        · dsimp only [tRet, tRetN, tSeq, tAsg, tOp, tVar, tC, tCB, tCons, tNil, tAndV, tOrV, tNotV, tAnd, tOr, tNot, tTest, tIf, tIfS, tB, tChain, tSl, tPart, tNoPart, tLst, tTup, tFld, tCl, tMt, tMk, gName, tNext, tBM, tBM0, tUn, tSub, tPar, tPar3, gTup, gCons, gNil, tDrop, tMkS, tM1, sFld, StX.tStar, tYes, gSub, cxOf, Cx.wish, Cx.nox, Cx.blk]
          refine ⟨_, rfl, fun p dx hp hdx hne => ⟨p, dx, .str x, .str x, rfl, .inl (.str x), upd_same, fun a z => ⟨?_, fun G e h => ⟨rfl, k1 _ _ ⟨p, rfl, hp, fun b o hb => ?_, ?_⟩⟩⟩, fun z => by cases z⟩⟩
          · cases z
            simpa [S, SX.S] using hlen
          · refine e b o (ne_of_none hb hp) ?_
            rw [upd_ne (ne_of_none hb hp), upd_ne (ne_of_none hb hdx)]
            exact hb
          · rw [hws]
            cases z
            simpa [S, SX.S] using h
        subst ev
        -- what a way out asks
        have out : ∀ G, Ext H1 G → ∀ k, readW ws = (none, k) → EBadP K p G E "BadText" "item" (.int (k : Nat)) := fun G e k hk d H' e' hd' => by
          rw [hk] at qb
          exact qb rfl d H' (fun b o hb => e' b o (ne_of_none hb hp) (e b o hb)) hd'
        refine cut_asg (fun v G => ∃ D s j, v = .ref D ∧ H1 D = none ∧ RI K H1 p D ws [s] j G) (fun Q1 k1 => ?_) fun v G2 ⟨D, s1, j1, ev, hD1, hRI⟩ => ?_
        · dsimp only [tRet, tRetN, tSeq, tAsg, tOp, tVar, tC, tCB, tCons, tNil, tAndV, tOrV, tNotV, tAnd, tOr, tNot, tTest, tIf, tIfS, tB, tChain, tSl, tPart, tNoPart, tLst, tTup, tFld, tCl, tMt, tMk, gName, tNext, tBM, tBM0, tUn, tSub, tPar, tPar3, gTup, gCons, gNil, tDrop, tMkS, tM1, sFld, StX.tStar, tYes, gSub, cxOf, Cx.wish, Cx.nox, Cx.blk]
          refine ⟨_, rfl, p, ws, 0, rfl, hs1, fun s j hst v G e hs2 hv2 _ => ⟨by show 1 ≤ sizeLine; decide, fun D hD => ?_⟩, fun j hst => out G1 e1 j (by rw [readW, hst])⟩
          have eG : Ext H1 G := fun b o hb => e b o (ne_of_none hb hp) (e1 b o hb)
          obtain ⟨t, xs, rfl, hT, hA⟩ := Dp.tupV hv2
          have hD1 : H1 D = none := by
            cases hz : H1 D with
            | none => rfl
            | some o =>
              rw [eG _ _ hz] at hD
              cases hD
          refine k1 _ _ ⟨D, s, j, rfl, hD1, eG.trans (Ext.upd hD), hs2.ext (Ext.upd hD), ⟨t, [], upd_same, .cons (Dp.ext (Ext.upd hD) hv2) .nil⟩, (by show 1 ≤ 400; decide), by simp, readW_go hst⟩
        subst ev
        refine cut_tseq (fun σ G => σ = [some (.str x), some (.ref p), some (.ref D)] ∧ ∃ l i, RI K H1 p D ws l i G ∧ ¬ (i < ws.length ∧ l.length < 400)) (fun D2 k2 => ?_) fun σ G3 ⟨eσ, l3, i3, hRI3, hend⟩ => ?_
        · refine ⟨fun m σ G => σ = [some (.str x), some (.ref p), some (.ref D)] ∧ ∃ l i, RI K H1 p D ws l i G ∧ m = 400 - l.length, ⟨_, rfl, [s1], j1, hRI, rfl⟩, ?_⟩
          rintro m σ G ⟨rfl, l, i, hR, rfl⟩
          obtain ⟨eG, hsG, ⟨t, r, hDG, hAG⟩, hl, hne, hrd⟩ := id hR
          refine cut_tt (fun c G' => c = decide (i < ws.length ∧ l.length < 400) ∧ G' = G) (fun Q1 k1 => ?_) fun c G' ⟨ec, eG'⟩ => ?_
          · obtain ⟨dx, ll, g1, _⟩ := id hsG
            have hlen := DpAll.length hAG
            rw [List.length_map] at hlen
            dsimp only [tRet, tRetN, tSeq, tAsg, tOp, tVar, tC, tCB, tCons, tNil, tAndV, tOrV, tNotV, tAnd, tOr, tNot, tTest, tIf, tIfS, tB, tChain, tSl, tPart, tNoPart, tLst, tTup, tFld, tCl, tMt, tMk, gName, tNext, tBM, tBM0, tUn, tSub, tPar, tPar3, gTup, gCons, gNil, tDrop, tMkS, tM1, sFld, StX.tStar, tYes, gSub, cxOf, Cx.wish, Cx.nox, Cx.blk]
            refine ⟨_, rfl, p, dx, _, rfl, g1, ahead_no _ _, p, ws, i, rfl, hsG, rfl, _, rfl, ?_⟩
            by_cases hi : i < ws.length
            · refine if_t (by rw [wordV, List.getElem?_eq_getElem hi]; simp) ⟨_, rfl, D, _, rfl, .inl (SqL.of hDG), _, _, rfl, rfl, _, rfl, k1 _ _ ⟨?_, rfl⟩⟩
              rw [hlen, Bool.eq_iff_iff]
              simp [hi]
              omega
            · exact if_f (by rw [wordV, List.getElem?_eq_none (by omega)]; simp) (k1 _ _ ⟨by simp [hi], rfl⟩)
          subst ec eG'
          by_cases c : i < ws.length ∧ l.length < 400
          · refine if_t (by simp [c]) ⟨fun σ' H' => ∃ m', m' < 400 - l.length ∧ _, fun _ _ h => h, ?_⟩
            obtain ⟨hi, hl4⟩ := c
            obtain ⟨dx, ll, g1, _⟩ := id hsG
            have hDp : D ≠ p := ne_of hDG g1 (by intro z; cases z)
            obtain ⟨n, hn⟩ : ∃ n, 400 - l.length = n + 1 := ⟨400 - l.length - 1, by omega⟩
            refine cut_drop (fun _ H' => ws[i]? = some [47] ∧ ExtP p G' H' ∧ ScanAt K H' p ws (i + 1)) (fun Q1 k1 => ?_) fun v G4 ⟨hw, e4, hs4⟩ => ?_
            · dsimp only [tRet, tRetN, tSeq, tAsg, tOp, tVar, tC, tCB, tCons, tNil, tAndV, tOrV, tNotV, tAnd, tOr, tNot, tTest, tIf, tIfS, tB, tChain, tSl, tPart, tNoPart, tLst, tTup, tFld, tCl, tMt, tMk, gName, tNext, tBM, tBM0, tUn, tSub, tPar, tPar3, gTup, gCons, gNil, tDrop, tMkS, tM1, sFld, StX.tStar, tYes, gSub, cxOf, Cx.wish, Cx.nox, Cx.blk]
              refine ⟨_, rfl, p, dx, _, rfl, g1, scF_no _ _ (by decide +kernel) (by decide +kernel), p, ws, i, [47], congrArg (fun z => [V.ref p, V.str z]) (by decide +kernel), hsG, fun hw H' e h => k1 _ _ ⟨hw, e, h⟩, fun hw => EBadP.ext (ExtP.refl _ _) (out G' eG i ?_)⟩
              rw [hrd, hn, restW_no hi hw]
              rfl
            obtain ⟨dx4, ll4, g4, _⟩ := id hs4
            have hD4 := e4 _ _ hDp hDG
            have e14 : Ext H1 G4 := fun b o hb => e4 b o (ne_of_none hb hp) (eG b o hb)
            dsimp only [tRet, tRetN, tSeq, tAsg, tOp, tVar, tC, tCB, tCons, tNil, tAndV, tOrV, tNotV, tAnd, tOr, tNot, tTest, tIf, tIfS, tB, tChain, tSl, tPart, tNoPart, tLst, tTup, tFld, tCl, tMt, tMk, gName, tNext, tBM, tBM0, tUn, tSub, tPar, tPar3, gTup, gCons, gNil, tDrop, tMkS, tM1, sFld, StX.tStar, tYes, gSub, cxOf, Cx.wish, Cx.nox, Cx.blk]
            refine ⟨_, rfl, .inl ⟨rfl, _, SqL.of hD4⟩, _, rfl, p, ws, i + 1, rfl, hs4, fun s j hst v G5 e5 hs5 hv5 _ => ⟨D, _, v, rfl, rfl, e5 _ _ hDp hD4, ?_, 400 - (l ++ [s]).length, ?_, rfl, l ++ [s], j, ?_, rfl⟩, fun j hst => out G4 e14 j ?_⟩
            · have hlen := DpAll.length hAG
              rw [List.length_map] at hlen
              rw [hlen]
              exact small1000 (by omega)
            · rw [List.length_append, List.length_singleton]
              omega
            · have hD5 := e5 _ _ hDp hD4
              have hA5 := steps_extP e5 (ins_noT g4) (steps_extP e4 (ins_noT g1) hAG)
              refine ⟨fun b o hb => ?_, scan_keep hs5 hD5, ⟨t, r ++ [v], upd_same, ?_⟩, by rw [List.length_append, List.length_singleton]; omega, by simp, ?_⟩
              · rw [upd_ne (ne_of_none hb hD1)]
                exact e5 _ _ (ne_of_none hb hp) (e14 b o hb)
              · rw [List.map_append]
                exact DpAll.app (steps_extP (extP_upd D G5 _) (lst_noT hD5) hA5) (.cons (step_extP hv5 (extP_upd D G5 _) (lst_noT hD5)) .nil)
              · rw [hrd, hn, restW_go l hi hw hst, List.length_append, List.length_singleton]
                congr 2
                omega
            · rw [hrd, hn, restW_bad hi hw hst]
              rfl
          · refine if_f (by simp only [c, decide_false]) (k2 _ _ ⟨rfl, l, i, hR, c⟩)
        · subst eσ
          obtain ⟨e3, hs3, ⟨t, r, hD3, hA3⟩, hl3, hne3, hrd3⟩ := hRI3
          obtain ⟨dx, ll, g1, _⟩ := id hs3
          refine cut_drop (fun _ H' => ws.length ≤ i3 ∧ H' = G3) (fun Q1 k1 => ?_) fun v G4 ⟨hw, eG⟩ => ?_
          · dsimp only [tRet, tRetN, tSeq, tAsg, tOp, tVar, tC, tCB, tCons, tNil, tAndV, tOrV, tNotV, tAnd, tOr, tNot, tTest, tIf, tIfS, tB, tChain, tSl, tPart, tNoPart, tLst, tTup, tFld, tCl, tMt, tMk, gName, tNext, tBM, tBM0, tUn, tSub, tPar, tPar3, gTup, gCons, gNil, tDrop, tMkS, tM1, sFld, StX.tStar, tYes, gSub, cxOf, Cx.wish, Cx.nox, Cx.blk]
            refine ⟨_, rfl, p, dx, _, rfl, g1, scF_no _ _ (by decide +kernel) (by decide +kernel), p, ws, i3, rfl, hs3, fun h => k1 _ _ ⟨h, rfl⟩, fun h => EBadP.ext (ExtP.refl _ _) (out G3 e3 i3 ?_)⟩
            have hz : 400 - l3.length = 0 := by
              by_cases c : l3.length < 400
              · exact absurd ⟨h, c⟩ hend
              · omega
            rw [hrd3, hz, restW_full h]
            rfl
          subst eG
          dsimp only [tRet, tRetN, tSeq, tAsg, tOp, tVar, tC, tCB, tCons, tNil, tAndV, tOrV, tNotV, tAnd, tOr, tNot, tTest, tIf, tIfS, tB, tChain, tSl, tPart, tNoPart, tLst, tTup, tFld, tCl, tMt, tMk, gName, tNext, tBM, tBM0, tUn, tSub, tPar, tPar3, gTup, gCons, gNil, tDrop, tMkS, tM1, sFld, StX.tStar, tYes, gSub, cxOf, Cx.wish, Cx.nox, Cx.blk]
          refine ⟨_, rfl, D, _, rfl, .inl ⟨SqL.of hD3, fun q hq => qg l3 ?_ _ _ (e3.trans (Ext.upd hq)) (.tup (SqT.of upd_same) (DpAll.ext (Ext.upd hq) hA3))⟩⟩
          rw [hrd3, restW_end (by omega)]
          simp [pre1]
    | _ => cases hd
end
end K80

end
section
/-! K80g: draws. -/
namespace K80
open PySem L2 Ow
open PySem.Spec PyProof.Rows
/-- the quiver at q: at most b numbers drawn -/
def QAt (K : W.Frag) (H : Hp) (q c : Addr) (ns : List Int) (b : Nat) : Prop := ∃ (at_ : Nat) (rest : Int), H q = some (.lst [.ref c, .int (at_ : Nat), .int rest]) ∧ SqL K H c (ns.map V.int) ∧ ns.length ≤ 63 ∧ at_ ≤ b ∧ 0 ≤ rest ∧ c ≠ q
theorem sqL_extP {K : W.Frag} {H H' : Hp} {q a : Addr} {xs : List V} (h : SqL K H a xs) (e : ExtP q H H') (hne : a ≠ q) : SqL K H' a xs := by
  rcases h with (h | ⟨o, h⟩) | h
  · exact .inl (.inl (e _ _ hne h))
  · exact .inl (.inr ⟨o, e _ _ hne h⟩)
  · exact .inr h
theorem QAt.mono {K : W.Frag} {H : Hp} {q c : Addr} {ns : List Int} {b b' : Nat} (h : QAt K H q c ns b) (hb : b ≤ b') : QAt K H q c ns b' := by
  obtain ⟨at_, rest, h1, h2, h3, h4, h5, h6⟩ := h
  exact ⟨at_, rest, h1, h2, h3, Nat.le_trans h4 hb, h5, h6⟩
theorem QAt.ext {K : W.Frag} {H H' : Hp} {q c : Addr} {ns : List Int} {b : Nat} (h : QAt K H q c ns b) (e : Ext H H') : QAt K H' q c ns b := by
  obtain ⟨at_, rest, h1, h2, h3, h4, h5, h6⟩ := h
  exact ⟨at_, rest, e _ _ h1, h2.ext e, h3, h4, h5, h6⟩
/-- though another object changes that wasn't there when the quiver was told -/
theorem QAt.but {K : W.Frag} {H G : Hp} {q c D : Addr} {ns : List Int} {b b' : Nat} {u : HO} (h : QAt K H q c ns b) (e : ExtP q H G) (hg : QAt K G q c ns b') (hD : H D = none) : QAt K (upd G D u) q c ns b' := by
  obtain ⟨_, _, g1, h2, h3, _, _, h6⟩ := h
  obtain ⟨at_, rest, k1, _, _, k4, k5, _⟩ := hg
  refine ⟨at_, rest, by rw [upd_ne (ne_of_none g1 hD)]; exact k1, sqL_extP h2 (fun b o hb hbo => ?_) h6, h3, k4, k5, h6⟩
  rw [upd_ne (ne_of_none hbo hD)]
  exact e _ _ hb hbo
/-- the quiver's own object -/
theorem QAt.here {K : W.Frag} {H : Hp} {q c : Addr} {ns : List Int} {b : Nat} (h : QAt K H q c ns b) : ∃ xs, H q = some (.lst xs) := by
  obtain ⟨_, _, h1, _⟩ := h
  exact ⟨_, h1⟩
theorem QAt.ne {K : W.Frag} {H : Hp} {q c D : Addr} {ns : List Int} {b : Nat} (h : QAt K H q c ns b) (hD : H D = none) : D ≠ q := by
  obtain ⟨_, h1⟩ := h.here
  exact fun z => by rw [z, h1] at hD; cases hD
section
variable {w : World} {K : W.Frag} {mg : Str → Option Value} {base : Heap}
def sp_law_quiver (K : W.Frag) : Sp := fun vs H Q _ => ∃ (a : Addr) (ns : List Int), vs = [.ref a] ∧ SqL K H a (ns.map V.int) ∧ ns.length ≤ 63 ∧ ∀ q c H', Ext H H' → H q = none → QAt K H' q c ns 0 → Q (.ref q) H'
theorem cutV_take {xs : List V} {n : Nat} : cutV xs none (some (n : Int)) = xs.take n := by
  unfold cutV
  rw [HT.sIx_none, HT.sIx_nat, Nat.sub_zero, List.drop_zero]
  by_cases c : n ≤ xs.length
  · rw [Nat.min_eq_left c]
  · rw [Nat.min_eq_right (by omega), List.take_of_length_le (Nat.le_refl _), List.take_of_length_le (by omega)]
theorem c_law_quiver (T : Txt K mg) : Cal prg w K mg base CX0 1 "_law_quiver" ["_law_script"] (sp_law_quiver K) := by
  refine T.d_law_quiver.cal sc_law_quiver (fun vs H Q E ⟨v, d, e, _⟩ => by rw [e]; rfl) fun f cdv A outer s H vs Q E hr h => ?_
  have nd := sc_law_quiver.nd
  obtain ⟨a, ns, rfl, hs, hl, q⟩ := h
  refine ⟨_, PSs.nox (pss_one (ps_ret (pe_lst (pa_cons (pe_lc (own := [("_law_cell", 1)]) (tt := tYes) (g := gName 1) rfl nd (pi_list (pe_slice sl_list (pv 0) po_none (po_some pe_int))) (blkOk_by (own := [("_law_cell", 1)]) (N := ["_law_script", "_law_cell"]) (sc := defScope s_law_quiver) (by decide +kernel)) (fun _ _ _ _ _ => (pg_name (i := 1) nd rfl (Or.inl rfl))) (fun _ _ _ _ _ => pts_nil) (fun _ _ _ _ _ => (pe_callTy call_int1 (by rfl) T.f_int (by decide +kernel) (pa_cons (pv 1) pa_nil)))) (pa_cons pe_int (pa_cons pe_int pa_nil)))))), ?_⟩
  dsimp only [tRet, tRetN, tSeq, tAsg, tOp, tVar, tC, tCB, tCons, tNil, tAndV, tOrV, tNotV, tAnd, tOr, tNot, tTest, tIf, tIfS, tB, tChain, tSl, tPart, tNoPart, tLst, tTup, tFld, tCl, tMt, tMk, gName, tNext, tBM, tBM0, tUn, tSub, tPar, tPar3, gTup, gCons, gNil, tDrop, tMkS, tM1, sFld, StX.tStar, tYes, gSub, cxOf, Cx.wish, Cx.nox, Cx.blk]
  refine ⟨_, rfl, _, rfl, a, _, rfl, hs, fun p hp => ?_⟩
  have ec : cutV (ns.map V.int) none (some 63) = ns.map V.int := by
    have z := cutV_take (xs := ns.map V.int) (n := 63)
    rw [List.take_of_length_le (by rw [List.length_map]; exact hl)] at z
    exact z
  rw [ec]
  refine ⟨p, rfl, ⟨_, SqL.of upd_same⟩, fun D hD => ?_⟩
  refine lc_scal (walk_list (xs := ns.map V.int)) (R := fun i y => ∃ n, ns[i]? = some n ∧ y = .int n) hD (small1000 (by rw [List.length_map]; omega)) (fun G e => SqL.of (e _ _ upd_same)) (fun i G x G' y => by rw [y.1]; exact Ext.rfl') ?_ ?_
  · rintro i x G G' hi e ⟨rfl, hx⟩ Q2 k2
    rw [List.getElem?_map] at hx
    cases en : ns[i]? with
    | none =>
      rw [en] at hx
      cases hx
    | some n =>
      rw [en] at hx
      cases hx
      exact ⟨rfl, _, rfl, .inl ⟨_, rfl, k2 _ _ Ext.rfl' ⟨n, en, rfl⟩⟩⟩
  · intro zs G hz1 hz2 e hDz
    have ez : zs = ns.map V.int := map_of (by rw [hz1, List.length_map]) hz2
    subst ez
    have hpq : ∀ r, G r = none → H r = none := fun r hr => by
      cases hz : H r with
      | none => rfl
      | some o =>
        rw [e _ _ (Ext.upd hp _ _ hz)] at hr
        cases hr
    refine ⟨by show 3 ≤ sizeLine; decide, fun r hr => q r D _ ((Ext.upd hp).trans (e.trans (Ext.upd hr))) (hpq r hr) ⟨0, 0, upd_same, SqL.of ?_, hl, Nat.le_refl _, by decide, ?_⟩⟩
    · rw [upd_ne (ne_of_none hDz hr)]
      exact hDz
    · exact ne_of_none hDz hr
theorem ints_lay : ∀ ns : List Int, PyData.canLayAll0 (ns.map PyData.int) = true ∧ PyData.depthAll (ns.map PyData.int) = 0
  | [] => ⟨rfl, rfl⟩
  | n :: r => by
    obtain ⟨h1, h2⟩ := ints_lay r
    simp [PyData.canLayAll0, PyData.depthAll, PyData.canLay0, PyData.depth, h1, h2]
theorem ints_shaped (ns : List Int) : SeqAt.shaped (.list (ns.map PyData.int)) = true := by
  obtain ⟨h1, h2⟩ := ints_lay ns
  simp [SeqAt.shaped, PyData.canLay0, PyData.depth, h1, h2]
theorem fm {a m : Int} (h : 0 < m) : 0 ≤ a.fmod m ∧ a.fmod m < m := by
  rw [Int.fmod_eq_emod_of_nonneg _ (Int.le_of_lt h)]
  exact ⟨Int.emod_nonneg _ (by omega), Int.emod_lt_of_pos _ h⟩
theorem z1 : (2147483587 : Int) ≠ 0 := by decide
theorem z2 : (2147483563 : Int) ≠ 0 := by decide
theorem z3 : (2147483629 : Int) ≠ 0 := by decide
theorem qi0 {a b c : V} : atI [a, b, c] 0 = some a := atI_nat (j := 0) rfl
theorem qi1 {a b c : V} : atI [a, b, c] 1 = some b := atI_nat (j := 1) rfl
theorem qi2 {a b c : V} : atI [a, b, c] 2 = some c := atI_nat (j := 2) rfl
def sp_law_shoot (K : W.Frag) : Sp := fun vs H Q _ => ∃ q c ns many b, vs = [.ref q, .int many] ∧ QAt K H q c ns b ∧ b ≤ 100000 ∧ 0 < many ∧ many.natAbs < 2 ^ 9000 ∧ ∀ r H', 0 ≤ r → r < many → ExtP q H H' → QAt K H' q c ns (b + 1) → Q (.int r) H'
theorem c_law_shoot (T : Txt K mg) : Cal prg w K mg base CX0 1 "_law_shoot" ["_law_quiver_here", "_law_many"] (sp_law_shoot K) := by
  refine T.d_law_shoot.cal sc_law_shoot (fun vs H Q E ⟨v, d, b, m, n, e, _⟩ => by rw [e]; rfl) fun f cdv A outer s H vs Q E hr h => ?_
  have nd := sc_law_shoot.nd
  obtain ⟨q, c, ns, many, b, rfl, hq, hb, hm, hm2, k⟩ := h
  refine ⟨_, PSs.nox (pss_cons (ps_if (pt_cmpR op_gt (pe_ix ix_list (pv 0) pe_int (fun _ _ => rfl)) pe_int (nomark _)) (pss_cons (ps_set (i := 2) nd rfl (Or.inl rfl) (pe_callTy call_int1 (by rfl) T.f_int (by decide +kernel) (pa_cons (pe_ix ix_list (pv 0) pe_int (fun _ _ => rfl)) pa_nil)))
      (pss_cons (ps_asg (pe_op op_fdivW (pv 2) (pv 1)) (pg_sub (pv 0) pe_int set_list))
      (pss_one (ps_ret (pe_op op_modN (pe_callTy call_int1 (by rfl) T.f_int (by decide +kernel) (pa_cons (pv 2) pa_nil)) (pv 1)))))) pss_nil)
      (pss_cons (ps_set (i := 3) nd rfl (Or.inl rfl) (pe_ix ix_list (pv 0) pe_int (fun _ _ => rfl)))
      (pss_cons (ps_asg (pe_op op_add (pv 3) pe_int) (pg_sub (pv 0) pe_int set_list))
      (pss_cons (ps_set (i := 4) nd rfl (Or.inl rfl) (pe_op op_add (pe_op op_mul pe_int (pv 3)) pe_int))
      (pss_cons (ps_if (pt_cmpR (op_neD hr.units) (pe_ix ix_list (pv 0) pe_int (fun _ _ => rfl)) (pe_lst pa_nil) (nomark _)) (pss_one (ps_set (i := 4) nd rfl (Or.inl rfl) (pe_ix ix_list (pe_ix ix_list (pv 0) pe_int (fun _ _ => rfl)) (pe_op op_modN (pe_callTy call_int1 (by rfl) T.f_int (by decide +kernel) (pa_cons (pv 3) pa_nil)) (pe_callB call_len_seq (by rfl) T.f_len (by decide +kernel) (pa_cons (pe_ix ix_list (pv 0) pe_int (fun _ _ => rfl)) pa_nil))) (fun _ _ => rfl)))) pss_nil)
      (pss_cons (ps_if (PW.pt (pw_and (pt_cmpR op_lt (pv 3) (pe_callB call_len_seq (by rfl) T.f_len (by decide +kernel) (pa_cons (pe_ix ix_list (pv 0) pe_int (fun _ _ => rfl)) pa_nil)) (nomark _)) (pw_and1 (pt_cmpR op_ge (pe_callB call_abs (by rfl) T.f_abs (by decide +kernel) (pa_cons (pv 4) pa_nil)) (pe_op op_pow pe_int pe_int) (nomark _))))) (pss_cons (ps_set (i := 2) nd rfl (Or.inl rfl) (pe_op op_add (pe_op op_mul pe_int (pe_op op_sub (pe_callB call_abs (by rfl) T.f_abs (by decide +kernel) (pa_cons (pv 4) pa_nil)) (pe_op op_pow pe_int pe_int))) (pe_callTy call_int1 (by rfl) T.f_int (by decide +kernel) (pa_cons (pe_cmpR op_lt (pv 4) pe_int (nomark _)) pa_nil))))
      (pss_cons (ps_asg (pe_op op_fdivW (pe_callTy call_int1 (by rfl) T.f_int (by decide +kernel) (pa_cons (pv 2) pa_nil)) (pv 1)) (pg_sub (pv 0) pe_int set_list))
      (pss_one (ps_ret (pe_op op_modN (pe_callTy call_int1 (by rfl) T.f_int (by decide +kernel) (pa_cons (pv 2) pa_nil)) (pv 1)))))) pss_nil)
      (pss_cons (ps_set (i := 5) nd rfl (Or.inl rfl) (pe_op op_modN (pe_callTy call_int1 (by rfl) T.f_int (by decide +kernel) (pa_cons (pe_op op_pow (pe_op op_add (pe_op op_add (pe_op op_modN (pe_callTy call_int1 (by rfl) T.f_int (by decide +kernel) (pa_cons (pv 4) pa_nil)) pe_int) (pe_op op_mul pe_int (pv 3))) pe_int) pe_int) pa_nil)) pe_int))
      (pss_cons (ps_set (i := 5) nd rfl (Or.inl rfl) (pe_op op_modN (pe_callTy call_int1 (by rfl) T.f_int (by decide +kernel) (pa_cons (pe_op op_pow (pe_op op_add (pe_op op_add (pe_op op_mul (pv 5) (pe_op op_add (pe_op op_mul pe_int (pv 3)) pe_int)) (pe_op op_mul (pe_op op_mul pe_int (pv 3)) (pv 3))) pe_int) pe_int) pa_nil)) pe_int))
      (pss_one (ps_ret (pe_op op_modN (pe_callTy call_int1 (by rfl) T.f_int (by decide +kernel) (pa_cons (pe_op op_fdivN (pv 5) pe_int) pa_nil)) (pv 1)))))))))))), ?_⟩
  obtain ⟨at_, rest, h1, h2, h3, h4, h5, h6⟩ := id hq
  refine cut_ifn (fun c H' => c = decide (0 < rest) ∧ H' = H) (fun Q1 k1 => ?_) fun c H1 ⟨ec, eH⟩ => ?_
  · dsimp only [tRet, tRetN, tSeq, tAsg, tOp, tVar, tC, tCB, tCons, tNil, tAndV, tOrV, tNotV, tAnd, tOr, tNot, tTest, tIf, tIfS, tB, tChain, tSl, tPart, tNoPart, tLst, tTup, tFld, tCl, tMt, tMk, gName, tNext, tBM, tBM0, tUn, tSub, tPar, tPar3, gTup, gCons, gNil, tDrop, tMkS, tM1, sFld, StX.tStar, tYes, gSub, cxOf, Cx.wish, Cx.nox, Cx.blk]
    exact ⟨_, rfl, q, _, _, _, rfl, rfl, SqL.of h1, qi2, _, _, rfl, rfl, _, rfl, k1 _ _ ⟨rfl, rfl⟩⟩
  subst ec eH
  by_cases c0 : 0 < rest
  · refine if_t (decide_eq_true c0) ?_
    dsimp only [tRet, tRetN, tSeq, tAsg, tOp, tVar, tC, tCB, tCons, tNil, tAndV, tOrV, tNotV, tAnd, tOr, tNot, tTest, tIf, tIfS, tB, tChain, tSl, tPart, tNoPart, tLst, tTup, tFld, tCl, tMt, tMk, gName, tNext, tBM, tBM0, tUn, tSub, tPar, tPar3, gTup, gCons, gNil, tDrop, tMkS, tM1, sFld, StX.tStar, tYes, gSub, cxOf, Cx.wish, Cx.nox, Cx.blk]
    refine ⟨_, rfl, q, _, _, _, rfl, rfl, SqL.of h1, qi2, .inl ⟨_, rfl, _, rfl, _, rfl, _, _, rfl, rfl, wide_div hm hm2 (by decide) (by decide), _, rfl, q, _, _, _, rfl, rfl, h1, rfl, ?_⟩⟩
    dsimp only [tRet, tRetN, tSeq, tAsg, tOp, tVar, tC, tCB, tCons, tNil, tAndV, tOrV, tNotV, tAnd, tOr, tNot, tTest, tIf, tIfS, tB, tChain, tSl, tPart, tNoPart, tLst, tTup, tFld, tCl, tMt, tMk, gName, tNext, tBM, tBM0, tUn, tSub, tPar, tPar3, gTup, gCons, gNil, tDrop, tMkS, tM1, sFld, StX.tStar, tYes, gSub, cxOf, Cx.wish, Cx.nox, Cx.blk]
    refine ⟨_, rfl, .inl ⟨_, rfl, _, rfl, _, _, rfl, rfl, by omega, k _ _ (fm hm).1 (fm hm).2 (extP_upd _ _ _) ?_⟩⟩
    exact ⟨at_, rest / many, upd_same, sqL_extP h2 (extP_upd _ _ _) h6, h3, by omega, Int.ediv_nonneg h5 (by omega), h6⟩
  · refine if_f (decide_eq_false c0) ?_
    refine cut_asg (fun v H' => v = .int (at_ : Nat) ∧ H' = H1) (fun Q1 k1 => ?_) fun v H2 ⟨ev, eH⟩ => ?_
    · dsimp only [tRet, tRetN, tSeq, tAsg, tOp, tVar, tC, tCB, tCons, tNil, tAndV, tOrV, tNotV, tAnd, tOr, tNot, tTest, tIf, tIfS, tB, tChain, tSl, tPart, tNoPart, tLst, tTup, tFld, tCl, tMt, tMk, gName, tNext, tBM, tBM0, tUn, tSub, tPar, tPar3, gTup, gCons, gNil, tDrop, tMkS, tM1, sFld, StX.tStar, tYes, gSub, cxOf, Cx.wish, Cx.nox, Cx.blk]
      exact ⟨_, rfl, q, _, _, _, rfl, rfl, SqL.of h1, qi1, k1 _ _ ⟨rfl, rfl⟩⟩
    subst ev eH
    refine cut_tseq (fun σ H' => σ = [some (.ref q), some (.int many), none, some (.int (at_ : Nat)), none, none] ∧ H' = upd H2 q (.lst [.ref c, .int ((at_ + 1 : Nat) : Int), .int rest])) (fun D1 k1 => ?_) fun σ H3 ⟨eσ, eH⟩ => ?_
    · dsimp only [tRet, tRetN, tSeq, tAsg, tOp, tVar, tC, tCB, tCons, tNil, tAndV, tOrV, tNotV, tAnd, tOr, tNot, tTest, tIf, tIfS, tB, tChain, tSl, tPart, tNoPart, tLst, tTup, tFld, tCl, tMt, tMk, gName, tNext, tBM, tBM0, tUn, tSub, tPar, tPar3, gTup, gCons, gNil, tDrop, tMkS, tM1, sFld, StX.tStar, tYes, gSub, cxOf, Cx.wish, Cx.nox, Cx.blk]
      refine ⟨_, rfl, _, _, rfl, rfl, _, rfl, q, _, _, _, rfl, rfl, h1, rfl, k1 _ _ ⟨rfl, rfl⟩⟩
    subst eσ
    have e3 : ExtP q H2 H3 := by rw [eH]; exact extP_upd _ _ _
    have g1 : H3 q = some (.lst [.ref c, .int ((at_ + 1 : Nat) : Int), .int rest]) := by rw [eH, upd_same]
    have g2 : SqL K H3 c (ns.map V.int) := sqL_extP h2 e3 h6
    clear eH
    refine cut_asg (fun v H' => v = .int (53381 * (at_ : Int) + 4703) ∧ H' = H3) (fun Q1 k1 => ?_) fun v H4 ⟨ev, eH⟩ => ?_
    · dsimp only [tRet, tRetN, tSeq, tAsg, tOp, tVar, tC, tCB, tCons, tNil, tAndV, tOrV, tNotV, tAnd, tOr, tNot, tTest, tIf, tIfS, tB, tChain, tSl, tPart, tNoPart, tLst, tTup, tFld, tCl, tMt, tMk, gName, tNext, tBM, tBM0, tUn, tSub, tPar, tPar3, gTup, gCons, gNil, tDrop, tMkS, tM1, sFld, StX.tStar, tYes, gSub, cxOf, Cx.wish, Cx.nox, Cx.blk]
      exact ⟨_, rfl, _, _, rfl, rfl, .inl ⟨by decide, by decide⟩, _, _, rfl, rfl, k1 _ _ ⟨rfl, rfl⟩⟩
    subst ev eH
    -- the cell
    refine cut_tseq (fun σ H' => ∃ cell : Int, σ = [some (.ref q), some (.int many), none, some (.int (at_ : Nat)), some (.int cell), none] ∧ Ext H4 H') (fun D1 k1 => ?_) fun σ H5 ⟨cell, eσ, e5⟩ => ?_
    · have hD : Dp K H4 (.ref c) (.list (ns.map PyData.int)) := .lst g2 (DpAll.ints ns)
      refine cut_if1 (fun cc H' => cc = !decide (ns = []) ∧ Ext H4 H') (fun Q1 k2 => ?_) fun cc H' ⟨ec, e'⟩ => ?_
      · dsimp only [tRet, tRetN, tSeq, tAsg, tOp, tVar, tC, tCB, tCons, tNil, tAndV, tOrV, tNotV, tAnd, tOr, tNot, tTest, tIf, tIfS, tB, tChain, tSl, tPart, tNoPart, tLst, tTup, tFld, tCl, tMt, tMk, gName, tNext, tBM, tBM0, tUn, tSub, tPar, tPar3, gTup, gCons, gNil, tDrop, tMkS, tM1, sFld, StX.tStar, tYes, gSub, cxOf, Cx.wish, Cx.nox, Cx.blk]
        refine ⟨_, rfl, q, _, _, _, rfl, rfl, SqL.of g1, qi0, Nat.zero_le _, fun D hDn => ⟨.list (ns.map PyData.int), .list [], Dp.ext (Ext.upd hDn) hD, .lst (SqL.of upd_same) .nil, ints_shaped ns, rfl, _, rfl, k2 _ _ ⟨?_, Ext.upd hDn⟩⟩⟩
        cases ns <;> simp [PyData.eqv, PyData.eqvAll]
      subst ec
      by_cases cn : ns = []
      · exact if_f (by simp [cn]) (k1 _ _ ⟨_, rfl, e'⟩)
      · refine if_t (by simp [cn]) ?_
        have hpos : 0 < ns.length := List.length_pos_iff.mpr cn
        have hm := fm (a := (at_ : Int)) (m := (ns.length : Int)) (by omega)
        obtain ⟨j, hj⟩ := Int.eq_ofNat_of_zero_le hm.1
        have hjl : j < ns.length := by omega
        have hat : atI (ns.map V.int) ((at_ : Int).fmod (ns.length : Int)) = some (.int ns[j]) := by
          rw [hj]
          exact atI_nat (by rw [List.getElem?_map, List.getElem?_eq_getElem hjl]; rfl)
        dsimp only [tRet, tRetN, tSeq, tAsg, tOp, tVar, tC, tCB, tCons, tNil, tAndV, tOrV, tNotV, tAnd, tOr, tNot, tTest, tIf, tIfS, tB, tChain, tSl, tPart, tNoPart, tLst, tTup, tFld, tCl, tMt, tMk, gName, tNext, tBM, tBM0, tUn, tSub, tPar, tPar3, gTup, gCons, gNil, tDrop, tMkS, tM1, sFld, StX.tStar, tYes, gSub, cxOf, Cx.wish, Cx.nox, Cx.blk]
        refine ⟨_, rfl, q, _, _, _, rfl, rfl, SqL.of (e' _ _ g1), qi0, _, rfl, .inl ⟨_, rfl, _, rfl, q, _, _, _, rfl, rfl, SqL.of (e' _ _ g1), qi0, c, _, rfl, .inl (g2.ext e'), _, _, rfl, rfl, ?_, c, _, _, _, rfl, rfl, g2.ext e', ?_, k1 _ _ ⟨ns[j], rfl, e'⟩⟩⟩
        · rw [List.length_map]
          omega
        · rw [List.length_map]
          exact hat
    subst eσ
    have g1 := e5 _ _ g1
    have g2 := g2.ext e5
    have e35 : ExtP q H2 H5 := e3.trans (ExtP.of e5)
    refine cut_ifn (fun c H' => c = (decide (at_ < ns.length) && decide (10 ^ 18 ≤ (cell.natAbs : Int))) ∧ H' = H5) (fun Q1 k1 => ?_) fun c H6 ⟨ec, eH⟩ => ?_
    · dsimp only [tRet, tRetN, tSeq, tAsg, tOp, tVar, tC, tCB, tCons, tNil, tAndV, tOrV, tNotV, tAnd, tOr, tNot, tTest, tIf, tIfS, tB, tChain, tSl, tPart, tNoPart, tLst, tTup, tFld, tCl, tMt, tMk, gName, tNext, tBM, tBM0, tUn, tSub, tPar, tPar3, gTup, gCons, gNil, tDrop, tMkS, tM1, sFld, StX.tStar, tYes, gSub, cxOf, Cx.wish, Cx.nox, Cx.blk]
      refine ⟨_, rfl, _, rfl, q, _, _, _, rfl, rfl, SqL.of g1, qi0, c, _, rfl, .inl g2, _, _, rfl, rfl, _, rfl, ?_⟩
      rw [List.length_map]
      refine ite2 (fun c1 => ⟨_, rfl, _, rfl, _, _, rfl, rfl, ⟨by decide, by decide, by decide⟩, _, _, rfl, rfl, _, rfl, k1 _ _ ⟨?_, rfl⟩⟩) fun c1 => k1 _ _ ⟨?_, rfl⟩
      · have c1 : at_ < ns.length := by
          have := of_decide_eq_true c1
          omega
        have e10 : (10 : Int) ^ Int.toNat 18 = 10 ^ 18 := rfl
        rw [decide_eq_true c1, Bool.true_and, e10, Bool.eq_iff_iff, decide_eq_true_eq, decide_eq_true_eq]
        split <;> omega
      · have c1 : ¬ at_ < ns.length := fun z => c1 (decide_eq_true (by omega))
        simp [c1]
    subst ec eH
    by_cases cc : at_ < ns.length ∧ 10 ^ 18 ≤ (cell.natAbs : Int)
    · refine if_t (by rw [decide_eq_true cc.1, decide_eq_true cc.2]; rfl) ?_
      have hr0 : 0 ≤ 2 * ((if cell < 0 then -cell else cell) - 10 ^ 18) + (if decide (cell < 0) = true then (1 : Int) else 0) := by
        have h2 := cc.2
        split <;> split <;> omega
      dsimp only [tRet, tRetN, tSeq, tAsg, tOp, tVar, tC, tCB, tCons, tNil, tAndV, tOrV, tNotV, tAnd, tOr, tNot, tTest, tIf, tIfS, tB, tChain, tSl, tPart, tNoPart, tLst, tTup, tFld, tCl, tMt, tMk, gName, tNext, tBM, tBM0, tUn, tSub, tPar, tPar3, gTup, gCons, gNil, tDrop, tMkS, tM1, sFld, StX.tStar, tYes, gSub, cxOf, Cx.wish, Cx.nox, Cx.blk]
      refine ⟨_, rfl, _, rfl, _, _, rfl, rfl, ⟨by decide, by decide, by decide⟩, _, _, rfl, rfl, _, _, rfl, rfl, .inl ⟨by decide, by decide⟩, _, rfl, _, _, rfl, rfl, .inr ⟨_, rfl, _, _, rfl, rfl, _, rfl, .inl ⟨_, rfl, _, rfl, _, _, rfl, rfl, wide_div hm hm2 (by decide) (by decide), _, rfl, q, _, _, _, rfl, rfl, g1, rfl, ?_⟩⟩⟩
      dsimp only [tRet, tRetN, tSeq, tAsg, tOp, tVar, tC, tCB, tCons, tNil, tAndV, tOrV, tNotV, tAnd, tOr, tNot, tTest, tIf, tIfS, tB, tChain, tSl, tPart, tNoPart, tLst, tTup, tFld, tCl, tMt, tMk, gName, tNext, tBM, tBM0, tUn, tSub, tPar, tPar3, gTup, gCons, gNil, tDrop, tMkS, tM1, sFld, StX.tStar, tYes, gSub, cxOf, Cx.wish, Cx.nox, Cx.blk]
      refine ⟨_, rfl, .inl ⟨_, rfl, _, rfl, _, _, rfl, rfl, by omega, k _ _ (fm hm).1 (fm hm).2 (e35.trans (extP_upd _ _ _)) ?_⟩⟩
      exact ⟨at_ + 1, _, upd_same, sqL_extP g2 (extP_upd _ _ _) h6, h3, by omega, Int.ediv_nonneg hr0 (by omega), h6⟩
    · refine if_f ?_ ?_
      · by_cases c1 : at_ < ns.length
        · have c2 : ¬ 10 ^ 18 ≤ (cell.natAbs : Int) := fun z => cc ⟨c1, z⟩
          rw [decide_eq_false c2, Bool.and_false]
        · rw [decide_eq_false c1, Bool.false_and]
      have hq6 : QAt K H6 q c ns (b + 1) := ⟨at_ + 1, rest, g1, g2, h3, by omega, h5, h6⟩
      obtain ⟨ha1, ha2⟩ := fm (a := cell) (m := 2147483587) (by decide)
      refine cut_asg (fun v H' => ∃ m : Int, v = .int m ∧ 0 ≤ m ∧ m < 2147483563 ∧ H' = H6) (fun Q1 k1 => ?_) fun v H7 ⟨m, ev, hm0, hm1, eH⟩ => ?_
      · dsimp only [tRet, tRetN, tSeq, tAsg, tOp, tVar, tC, tCB, tCons, tNil, tAndV, tOrV, tNotV, tAnd, tOr, tNot, tTest, tIf, tIfS, tB, tChain, tSl, tPart, tNoPart, tLst, tTup, tFld, tCl, tMt, tMk, gName, tNext, tBM, tBM0, tUn, tSub, tPar, tPar3, gTup, gCons, gNil, tDrop, tMkS, tM1, sFld, StX.tStar, tYes, gSub, cxOf, Cx.wish, Cx.nox, Cx.blk]
        refine ⟨_, rfl, .inl ⟨_, rfl, _, _, rfl, rfl, z1, _, rfl, _, _, rfl, rfl, .inl ⟨by decide, by decide⟩, _, _, rfl, rfl, _, _, rfl, rfl, _, _, rfl, rfl, ⟨by decide, by decide, ?_⟩, .inl ⟨_, rfl, _, _, rfl, rfl, z2, k1 _ _ ⟨_, rfl, (fm (by decide)).1, (fm (by decide)).2, rfl⟩⟩⟩⟩
        omega
      subst ev eH
      refine cut_asg (fun v H' => ∃ m : Int, v = .int m ∧ 0 ≤ m ∧ H' = H7) (fun Q1 k1 => ?_) fun v H8 ⟨m2, ev, hm2, eH⟩ => ?_
      · dsimp only [tRet, tRetN, tSeq, tAsg, tOp, tVar, tC, tCB, tCons, tNil, tAndV, tOrV, tNotV, tAnd, tOr, tNot, tTest, tIf, tIfS, tB, tChain, tSl, tPart, tNoPart, tLst, tTup, tFld, tCl, tMt, tMk, gName, tNext, tBM, tBM0, tUn, tSub, tPar, tPar3, gTup, gCons, gNil, tDrop, tMkS, tM1, sFld, StX.tStar, tYes, gSub, cxOf, Cx.wish, Cx.nox, Cx.blk]
        refine ⟨_, rfl, _, rfl, _, _, rfl, rfl, .inl ⟨by decide, by decide⟩, _, _, rfl, rfl, _, _, rfl, rfl, .inl ⟨by omega, by omega⟩, _, rfl, _, _, rfl, rfl, .inl ⟨by decide, by decide⟩, _, rfl, _, _, rfl, rfl, .inl ⟨by omega, by omega⟩, _, _, rfl, rfl, _, _, rfl, rfl, _, _, rfl, rfl, ⟨by decide, by decide, ?_⟩, .inl ⟨_, rfl, _, _, rfl, rfl, z3, k1 _ _ ⟨_, rfl, (fm (by decide)).1, rfl⟩⟩⟩
        have b1 : m * (2 * (at_ : Int) + 4703) ≤ 2147483563 * 204703 := by
          refine Int.mul_le_mul (by omega) (by omega) (by omega) (by decide)
        have b0 : 0 ≤ m * (2 * (at_ : Int) + 4703) := Int.mul_nonneg hm0 (by omega)
        have b2 : 53381 * (at_ : Int) * (at_ : Int) ≤ 5338100000 * 100000 := Int.mul_le_mul (by omega) (by omega) (by omega) (by decide)
        have b3 : 0 ≤ 53381 * (at_ : Int) * (at_ : Int) := Int.mul_nonneg (by omega) (by omega)
        omega
      subst ev eH
      dsimp only [tRet, tRetN, tSeq, tAsg, tOp, tVar, tC, tCB, tCons, tNil, tAndV, tOrV, tNotV, tAnd, tOr, tNot, tTest, tIf, tIfS, tB, tChain, tSl, tPart, tNoPart, tLst, tTup, tFld, tCl, tMt, tMk, gName, tNext, tBM, tBM0, tUn, tSub, tPar, tPar3, gTup, gCons, gNil, tDrop, tMkS, tM1, sFld, StX.tStar, tYes, gSub, cxOf, Cx.wish, Cx.nox, Cx.blk]
      refine ⟨_, rfl, _, _, rfl, rfl, ⟨by decide, by decide⟩, .inl ⟨_, rfl, _, rfl, _, _, rfl, rfl, by omega, k _ _ (fm hm).1 (fm hm).2 e35 hq6⟩⟩
end
end K80

end
section
/-! Ow12: written data: displays of constants, at any depth, in new objects alone. -/
namespace Ow
open PySem L2
open PySem.Spec PyProof.Rows
/-- what H' tracks that H doesn't -/
def nw (H H' : Hp) : Hp := fun b => match H b with
  | none => H' b
  | some _ => none
theorem nw_eq {H H' : Hp} {b : Addr} (h : H b = none) : nw H H' b = H' b := by unfold nw; rw [h]
theorem nw_some {H H' : Hp} {b : Addr} {o : HO} (h : nw H H' b = some o) : H b = none ∧ H' b = some o := by
  unfold nw at h
  cases e : H b with
  | none =>
    rw [e] at h
    exact ⟨rfl, h⟩
  | some u =>
    rw [e] at h
    cases h
theorem nw_all {H H' : Hp} : Ext (nw H H') H' := fun b o h => (nw_some h).2
/-- only what was not in H matters -/
theorem nw_ext {H H1 H2 : Hp} (h : ∀ b o, H b = none → H1 b = some o → H2 b = some o) : Ext (nw H H1) (nw H H2) := fun b o e => by
  obtain ⟨e1, e2⟩ := nw_some e
  rw [nw_eq e1]
  exact h b o e1 e2
theorem nw_fst {H H1 H2 : Hp} (e : Ext H H1) : Ext (nw H1 H2) (nw H H2) := fun b o h => by
  obtain ⟨e1, e2⟩ := nw_some h
  have e0 : H b = none := by
    cases z : H b with
    | none => rfl
    | some u =>
      rw [e _ _ z] at e1
      cases e1
  rw [nw_eq e0]
  exact e2
theorem nw_snd {H H1 H2 : Hp} (e : Ext H1 H2) : Ext (nw H H1) (nw H H2) := nw_ext fun b o _ h => e _ _ h
theorem nw_del {H H' : Hp} {q : Addr} (hq : H q ≠ none) : Ext (nw H H') (del H' q) := fun b o h => by
  obtain ⟨e1, e2⟩ := nw_some h
  rw [del_ne (fun z => hq (by rw [← z]; exact e1))]
  exact e2
/-- t gives the datum d, in new objects -/
def GD (K : W.Frag) (t : TE) (d : PyData) : Prop := ∀ (σ : L2.St) (H : Hp) (Q : VK), (∀ v H', Ext H H' → Dp K (nw H H') v d → Q v H') → t σ H Q
def GDs (K : W.Frag) (t : TA) (ds : List PyData) : Prop := ∀ (σ : L2.St) (H : Hp) (Q : List V → Hp → Prop), (∀ vs H', Ext H H' → DpAll K (nw H H') vs ds → Q vs H') → t σ H Q
/-- the same, items that may be empty dicts -/
inductive VdAll (K : W.Frag) (H : Hp) : List V → List PyData → Prop where
  | nil : VdAll K H [] []
  | cons {v : V} {vs : List V} {d : PyData} {ds : List PyData} : Vd K H v d → VdAll K H vs ds → VdAll K H (v :: vs) (d :: ds)
def GV (K : W.Frag) (t : TE) (d : PyData) : Prop := ∀ (σ : L2.St) (H : Hp) (Q : VK), (∀ v H', Ext H H' → Vd K (nw H H') v d → Q v H') → t σ H Q
def GVs (K : W.Frag) (t : TA) (ds : List PyData) : Prop := ∀ (σ : L2.St) (H : Hp) (Q : List V → Hp → Prop), (∀ vs H', Ext H H' → VdAll K (nw H H') vs ds → Q vs H') → t σ H Q
section
variable {K : W.Frag} {t : TE} {ts : TA} {d : PyData} {ds : List PyData}
theorem none_of {H H' : Hp} {p : Addr} (e : Ext H H') (h : H' p = none) : H p = none := by
  cases z : H p with
  | none => rfl
  | some o =>
    rw [e _ _ z] at h
    cases h
theorem nw_upd {H H1 : Hp} {p : Addr} {o : HO} (e : Ext H H1) (hp : H1 p = none) : nw H (upd H1 p o) p = some o := by rw [nw_eq (none_of e hp), upd_same]
theorem gd_c {v : V} (h : ∀ H, Dp K H v d) : GD K (tC v) d := fun σ H Q q => q v H Ext.rfl' (h _)
theorem gd_non : GD K (tC .non) .none := gd_c fun _ => .non
theorem gd_bl {b : Bool} : GD K (tC (.bl b)) (.bool b) := gd_c fun _ => .bl b
theorem gd_int {i : Int} : GD K (tC (.int i)) (.int i) := gd_c fun _ => .int i
theorem gd_str {x : Str} : GD K (tC (.str x)) (.str x) := gd_c fun _ => .str x
theorem gd_neg {i : Int} : GD K (tUn (rU fun i => .int (-i)) (tC (.int i))) (.int (-i)) := fun σ H Q q => ⟨i, rfl, q _ _ Ext.rfl' (.int _)⟩
theorem gd_pow {i j : Int} (h : CPow i j) : GD K (tOp (rI CPow fun i j => .int (i ^ j.toNat)) (tC (.int i)) (tC (.int j))) (.int (i ^ j.toNat)) := fun σ H Q q => ⟨i, j, rfl, rfl, h, q _ _ Ext.rfl' (.int _)⟩
theorem gds_nil : GDs K tNil [] := fun σ H Q q => q [] H Ext.rfl' .nil
theorem gds_cons (h : GD K t d) (hs : GDs K ts ds) : GDs K (tCons t ts) (d :: ds) := fun σ H Q q => h σ H _ fun v H1 e1 h1 => hs σ H1 _ fun vs H2 e2 h2 => q _ H2 (e1.trans e2) (.cons (Dp.ext (nw_snd e2) h1) (DpAll.ext (nw_fst e1) h2))
theorem gd_lst (hs : GDs K ts ds) (hl : ds.length ≤ 1000 := by decide) : GD K (tLst ts) (.list ds) := fun σ H Q q => hs σ H _ fun vs H1 e1 h1 => ⟨by rw [DpAll.length h1]; exact Nat.le_of_lt (small1000 hl), fun p hp => q _ _ (e1.trans (Ext.upd hp)) (.lst (SqL.of (nw_upd e1 hp)) (DpAll.ext (nw_snd (Ext.upd hp)) h1))⟩
theorem gd_tup (hs : GDs K ts ds) (hl : ds.length ≤ 1000 := by decide) : GD K (tTup ts) (.tuple ds) := fun σ H Q q => hs σ H _ fun vs H1 e1 h1 => ⟨by rw [DpAll.length h1]; exact Nat.le_of_lt (small1000 hl), fun p hp => q _ _ (e1.trans (Ext.upd hp)) (.tup (SqT.of (nw_upd e1 hp)) (DpAll.ext (nw_snd (Ext.upd hp)) h1))⟩
theorem VdAll.ext {H H' : Hp} (e : Ext H H') : ∀ {ds : List PyData} {vs : List V}, VdAll K H vs ds → VdAll K H' vs ds
  | [], _, h => by cases h; exact .nil
  | _ :: _, _, h => by
    cases h with
    | cons q r => exact .cons (Vd.ext e q) (VdAll.ext e r)
theorem VdAll.length {H : Hp} : ∀ {ds : List PyData} {vs : List V}, VdAll K H vs ds → vs.length = ds.length
  | [], _, h => by cases h; rfl
  | _ :: _, _, h => by
    cases h with
    | cons _ r => rw [List.length_cons, List.length_cons, VdAll.length r]
theorem VdAll.getV {H : Hp} : ∀ {ds : List PyData} {vs : List V} {i : Nat} {v : V}, VdAll K H vs ds → vs[i]? = some v → ∃ d, ds[i]? = some d ∧ Vd K H v d
  | _, [], i, v, h, e => by simp at e
  | _, x :: r, 0, v, h, e => by
    cases h with
    | cons q _ =>
      cases e
      exact ⟨_, rfl, q⟩
  | _, x :: r, i + 1, v, h, e => by
    cases h with
    | cons _ q => exact VdAll.getV (i := i) q (by simpa using e)
theorem gv_d (h : GD K t d) : GV K t d := fun σ H Q q => h σ H Q fun v H' e h => q v H' e (.inl h)
theorem gv_dict : GV K tDNewK (.dict []) := fun σ H Q q p hp => q _ _ (Ext.upd hp) (.inr ⟨p, rfl, nw_upd Ext.rfl' hp, rfl⟩)
theorem gvs_nil : GVs K tNil [] := fun σ H Q q => q [] H Ext.rfl' .nil
theorem gvs_cons (h : GV K t d) (hs : GVs K ts ds) : GVs K (tCons t ts) (d :: ds) := fun σ H Q q => h σ H _ fun v H1 e1 h1 => hs σ H1 _ fun vs H2 e2 h2 => q _ H2 (e1.trans e2) (.cons (Vd.ext (nw_snd e2) h1) (VdAll.ext (nw_fst e1) h2))
/-- a written list whose items may be empty dicts -/
theorem gv_list (hs : GVs K ts ds) {σ : L2.St} {H : Hp} {Q : VK} (q : ∀ l vs H', Ext H H' → H l = none → H' l = some (.lst vs) → VdAll K (nw H H') vs ds → Q (.ref l) H') (hl : ds.length ≤ 1000 := by decide) : tLst ts σ H Q := hs σ H _ fun vs H1 e1 h1 =>
  ⟨by rw [VdAll.length h1]; exact Nat.le_of_lt (small1000 hl), fun p hp => q p vs _ (e1.trans (Ext.upd hp)) (none_of e1 hp) upd_same (VdAll.ext (nw_snd (Ext.upd hp)) h1)⟩
end
end Ow

end
section
/-! K80h: the law's own steps and scripts. -/
namespace K80
open PySem L2 Ow
open PySem.Spec PyProof.Rows
section
variable {w : World} {K : W.Frag} {mg : Str → Option Value} {base : Heap}
def sp_law_pick (K : W.Frag) : Sp := fun vs H Q _ => ∃ q c ns l xs b, vs = [.ref q, .ref l] ∧ QAt K H q c ns b ∧ b ≤ 100000 ∧ (∀ H', ExtP q H H' → SqL K H' l xs) ∧ 0 < xs.length ∧ xs.length ≤ 1000 ∧ ∀ (i : Nat) v H', xs[i]? = some v → ExtP q H H' → QAt K H' q c ns (b + 1) → Q v H'
theorem c_law_pick (T : Txt K mg) : Cal prg w K mg base CX0 2 "_law_pick" ["_law_quiver_here", "_law_some"] (sp_law_pick K) := by
  refine T.d_law_pick.cal sc_law_pick (fun vs H Q E ⟨q, c, ns, l, xs, b, e, _⟩ => by rw [e]; rfl) fun f cdv A outer s H vs Q E hr h => ?_
  have nd := sc_law_pick.nd
  obtain ⟨q, c, ns, l, xs, b, rfl, hq, hb, hs, h0, h1, k⟩ := h
  refine ⟨_, PSs.nox (pss_one (ps_ret (pe_ix ix_list (pv 1) (pe_cl (c_law_shoot T) (hr.mono (by decide)) pass0 (pa_cons (pv 0) (pa_cons (pe_callB call_len_seq (by rfl) T.f_len (by decide +kernel) (pa_cons (pv 1) pa_nil)) pa_nil))) (fun _ _ => rfl)))), ?_⟩
  dsimp only [tRet, tRetN, tSeq, tAsg, tOp, tVar, tC, tCB, tCons, tNil, tAndV, tOrV, tNotV, tAnd, tOr, tNot, tTest, tIf, tIfS, tB, tChain, tSl, tPart, tNoPart, tLst, tTup, tFld, tCl, tMt, tMk, gName, tNext, tBM, tBM0, tUn, tSub, tPar, tPar3, gTup, gCons, gNil, tDrop, tMkS, tM1, sFld, StX.tStar, tYes, gSub, cxOf, Cx.wish, Cx.nox, Cx.blk]
  refine ⟨_, rfl, _, rfl, _, rfl, l, xs, rfl, .inl (hs _ (ExtP.refl _ _)), q, c, ns, _, b, rfl, hq, hb, by omega, ?_, fun r H' r0 r1 e hq' => ?_⟩
  · have : ((xs.length : Int)).natAbs < 2 ^ 10 := by omega
    exact Nat.lt_of_lt_of_le this (Nat.pow_le_pow_right (by decide) (by decide))
  · obtain ⟨j, rfl⟩ := Int.eq_ofNat_of_zero_le r0
    have hj : j < xs.length := by omega
    exact ⟨l, xs, _, xs[j], rfl, rfl, hs _ e, atI_nat (List.getElem?_eq_getElem hj), k j _ _ (List.getElem?_eq_getElem hj) e hq'⟩
/-! ### _law_bounds -/
def lawWords : List (List Nat) := [[115, 101, 110, 100], [114, 105, 115, 101], [97, 103, 97, 105, 110], [115, 119, 101, 101, 112], [113, 117, 105, 116], [98, 114, 105, 110, 103], [108, 111, 115, 101], [116, 119, 105, 99, 101], [99, 117, 116], [102, 117, 115, 101], [100, 114, 111, 112]]
def lawBs : List (List (Option Int)) := [[some 3], [some 4], [some 4], [some 3], [some 7], [none], [none], [none], [some 4, none], [some 4, none], [some 3, some 7]]
theorem wordsStr : (["send", "rise", "again", "sweep", "quit", "bring", "lose", "twice", "cut", "fuse", "drop"] : List Str) = lawWords.map S := by decide +kernel
theorem inV_strs {a : List Nat} : ∀ l : List (List Nat), inV (.str (S a)) ((l.map S).map V.str) = decide (a ∈ l)
  | [] => rfl
  | b :: r => by
    have ih := inV_strs (a := a) r
    unfold inV at ih ⊢
    rw [List.map_cons, List.map_cons, List.any_cons, ih]
    have e : eqV (.str (S b)) (.str (S a)) = decide (a = b) := by
      show ((S b) == (S a)) = _
      rw [Bool.eq_iff_iff, beq_iff_eq, decide_eq_true_eq]
      exact ⟨fun z => (S_inj z).symm, fun z => by rw [z]⟩
    rw [e, Bool.eq_iff_iff]
    simp
theorem flat_strs : ∀ l : List (List Nat), ((l.map S).map V.str).all flatV = true
  | [] => rfl
  | b :: r => by
    rw [List.map_cons, List.map_cons, List.all_cons, flat_strs r]
    rfl
theorem lawB_at {j : Nat} (hj : j < lawWords.length) : lookB lawWords[j] = some (lawBs.getD j []) := by
  have z : (List.range 11).all (fun j => decide (lookB (lawWords.getD j []) = some (lawBs.getD j []))) = true := by decide +kernel
  have z2 := of_decide_eq_true (List.all_eq_true.mp z j (List.mem_range.mpr hj))
  rw [List.getD_eq_getElem?_getD, List.getElem?_eq_getElem hj] at z2
  exact z2
theorem lawB_no {a : List Nat} (h : a ∉ lawWords) : lookB a = none := by
  cases e : lookB a with
  | none => rfl
  | some bs =>
    have z : boundsOf.all (fun p => decide (p.1 ∈ lawWords)) = true := by decide +kernel
    exact absurd (of_decide_eq_true (List.all_eq_true.mp z _ (lookB_mem e))) h
def LBV (K : W.Frag) (H : Hp) (a : List Nat) (v : V) : Prop := match lookB a with
  | none => v = .non
  | some bs => Dp K H v (.list (bs.map mostD))
def sp_law_bounds (K : W.Frag) : Sp := fun vs H Q _ => ∃ a, vs = [.str (S a)] ∧ ∀ v H', Ext H H' → LBV K H' a v → Q v H'
theorem c_law_bounds (T : Txt K mg) : Cal prg w K mg base CX0 1 "_law_bounds" ["_law_word"] (sp_law_bounds K) := by
  refine T.d_law_bounds.cal sc_law_bounds (fun vs H Q E ⟨a, e, _⟩ => by rw [e]; rfl) fun f cdv A outer s H vs Q E hr h => ?_
  have nd := sc_law_bounds.nd
  obtain ⟨a, rfl, k⟩ := h
  refine ⟨_, PSs.nox (pss_cons (ps_set (i := 1) nd rfl (Or.inl rfl) (pe_lst (pa_cons pe_str (pa_cons pe_str (pa_cons pe_str (pa_cons pe_str (pa_cons pe_str (pa_cons pe_str (pa_cons pe_str (pa_cons pe_str (pa_cons pe_str (pa_cons pe_str (pa_cons pe_str pa_nil)))))))))))))
      (pss_cons (ps_if (pt_cmpR op_notIn_seq (pv 0) (pv 1) rfl) (pss_one (ps_ret pe_non)) pss_nil)
      (pss_one (ps_ret (pe_ix ix_list (pe_lst (pa_cons (pe_lst (pa_cons pe_int pa_nil)) (pa_cons (pe_lst (pa_cons pe_int pa_nil)) (pa_cons (pe_lst (pa_cons pe_int pa_nil)) (pa_cons (pe_lst (pa_cons pe_int pa_nil)) (pa_cons (pe_lst (pa_cons pe_int pa_nil)) (pa_cons (pe_lst (pa_cons pe_non pa_nil)) (pa_cons (pe_lst (pa_cons pe_non pa_nil)) (pa_cons (pe_lst (pa_cons pe_non pa_nil)) (pa_cons (pe_lst (pa_cons pe_int (pa_cons pe_non pa_nil))) (pa_cons (pe_lst (pa_cons pe_int (pa_cons pe_non pa_nil))) (pa_cons (pe_lst (pa_cons pe_int (pa_cons pe_int pa_nil))) pa_nil)))))))))))) (pe_bm PySem.F.plainAttrs_list PySem.F.slot_list_index PySem.F.type_list_index mt_index (pv 1) (pa_cons (pv 0) pa_nil)) (fun _ _ => rfl)))))), ?_⟩
  refine cut_asg (fun v G => ∃ D, v = .ref D ∧ Ext H G ∧ G D = some (.lst ((lawWords.map S).map V.str))) (fun Q1 k1 => ?_) fun v G1 ⟨D, ev, e1, hD⟩ => ?_
  · dsimp only [tRet, tRetN, tSeq, tAsg, tOp, tVar, tC, tCB, tCons, tNil, tAndV, tOrV, tNotV, tAnd, tOr, tNot, tTest, tIf, tIfS, tB, tChain, tSl, tPart, tNoPart, tLst, tTup, tFld, tCl, tMt, tMk, gName, tNext, tBM, tBM0, tUn, tSub, tPar, tPar3, gTup, gCons, gNil, tDrop, tMkS, tM1, sFld, StX.tStar, tYes, gSub, cxOf, Cx.wish, Cx.nox, Cx.blk]
    refine ⟨by show 11 ≤ sizeLine; decide, fun D hD => k1 _ _ ⟨D, rfl, Ext.upd hD, ?_⟩⟩
    rw [upd_same]
    rw [← wordsStr]
    rfl
  subst ev
  refine cut_ifn (fun c G => c = !decide (a ∈ lawWords) ∧ G = G1) (fun Q1 k1 => ?_) fun c G2 ⟨ec, eG⟩ => ?_
  · dsimp only [tRet, tRetN, tSeq, tAsg, tOp, tVar, tC, tCB, tCons, tNil, tAndV, tOrV, tNotV, tAnd, tOr, tNot, tTest, tIf, tIfS, tB, tChain, tSl, tPart, tNoPart, tLst, tTup, tFld, tCl, tMt, tMk, gName, tNext, tBM, tBM0, tUn, tSub, tPar, tPar3, gTup, gCons, gNil, tDrop, tMkS, tM1, sFld, StX.tStar, tYes, gSub, cxOf, Cx.wish, Cx.nox, Cx.blk]
    refine ⟨_, rfl, _, rfl, D, _, rfl, .inl (SqL.of hD), rfl, ?_, _, rfl, k1 _ _ ⟨?_, rfl⟩⟩
    · exact flat_strs _
    · rw [if_pos rfl, inV_strs]
  subst ec eG
  by_cases c : a ∈ lawWords
  · refine if_f (by simp [c]) ?_
    dsimp only [tRet, tOp]
    refine (gd_lst (K := K) (ds := lawBs.map fun bs => .list (bs.map mostD)) ?_) _ _ _ fun v G3 e3 h => ?_
    · repeat (first | exact gds_nil | exact gd_int | exact gd_non | refine gds_cons ?_ ?_ | refine gd_lst ?_ (by decide))
    obtain ⟨L, xs, rfl, hL, hA⟩ := Dp.lstV (Dp.ext nw_all h)
    have hfirst : ∃ j, ∃ hj : j < lawWords.length, lawWords[j] = a ∧ ∀ m (hm : m < j), lawWords[m]'(Nat.lt_trans hm hj) ≠ a := by
      refine ⟨lawWords.idxOf a, List.idxOf_lt_length_of_mem c, List.getElem_idxOf _, fun m hm z => ?_⟩
      have := List.not_of_lt_findIdx (p := fun x => x == a) (xs := lawWords) hm
      simp at this
      exact this z
    obtain ⟨j, hj, ej, hno⟩ := hfirst
    have hlen : xs.length = 11 := by rw [DpAll.length hA, List.length_map]; rfl
    have hj2 : j < xs.length := by rw [hlen]; exact hj
    obtain ⟨d, hd, hp⟩ := DpAll.getV hA (List.getElem?_eq_getElem hj2)
    have hd2 : d = .list ((lawBs.getD j []).map mostD) := by
      rw [List.getElem?_map] at hd
      have hj3 : j < lawBs.length := hj
      rw [List.getElem?_eq_getElem hj3] at hd
      cases hd
      rw [List.getD_eq_getElem?_getD, List.getElem?_eq_getElem hj3]
      rfl
    dsimp only [tRet, tRetN, tSeq, tAsg, tOp, tVar, tC, tCB, tCons, tNil, tAndV, tOrV, tNotV, tAnd, tOr, tNot, tTest, tIf, tIfS, tB, tChain, tSl, tPart, tNoPart, tLst, tTup, tFld, tCl, tMt, tMk, gName, tNext, tBM, tBM0, tUn, tSub, tPar, tPar3, gTup, gCons, gNil, tDrop, tMkS, tM1, sFld, StX.tStar, tYes, gSub, cxOf, Cx.wish, Cx.nox, Cx.blk]
    refine ⟨_, rfl, .inl ⟨rfl, _, SqL.of (e3 _ _ hD)⟩, _, rfl, D, _, _, j, .str (S a), rfl, rfl, SqL.of (e3 _ _ hD), rfl, flat_strs _, ?_, ?_, fun m z' hm hz' => ?_, L, xs, _, xs[j], rfl, rfl, hL, atI_nat (List.getElem?_eq_getElem hj2), k _ _ (e1.trans e3) ?_⟩
    · rw [List.getElem?_map, List.getElem?_map, List.getElem?_eq_getElem hj, ej]
      rfl
    · show (S a == S a) = true
      simp
    · have hml : m < lawWords.length := Nat.lt_trans hm hj
      rw [List.getElem?_map, List.getElem?_map, List.getElem?_eq_getElem hml] at hz'
      cases hz'
      show (S _ == S a) = false
      rw [beq_eq_false_iff_ne]
      exact fun z => hno m hm (S_inj z)
    · unfold LBV
      rw [← ej, lawB_at hj]
      rw [hd2] at hp
      exact hp
  · refine if_t (by simp [c]) ?_
    dsimp only [tRet, tRetN, tSeq, tAsg, tOp, tVar, tC, tCB, tCons, tNil, tAndV, tOrV, tNotV, tAnd, tOr, tNot, tTest, tIf, tIfS, tB, tChain, tSl, tPart, tNoPart, tLst, tTup, tFld, tCl, tMt, tMk, gName, tNext, tBM, tBM0, tUn, tSub, tPar, tPar3, gTup, gCons, gNil, tDrop, tMkS, tM1, sFld, StX.tStar, tYes, gSub, cxOf, Cx.wish, Cx.nox, Cx.blk]
    refine k _ _ e1 ?_
    unfold LBV
    rw [lawB_no c]
/-! ### _law_is_step -/
/-- a known word ahead -/
def headWord (ds : List PyData) : Bool := match ds with
  | .str x :: _ => (lookB x.cps.toList).isSome
  | _ => false
theorem headWord_yes : ∀ {ds : List PyData}, headWord ds = true → ∃ x ns bs, ds = .str x :: ns ∧ lookB x.cps.toList = some bs
  | .str x :: ns, h => by
    obtain ⟨bs, hb⟩ := Option.isSome_iff_exists.mp h
    exact ⟨x, ns, bs, rfl, hb⟩
  | [], h => by cases h
  | .none :: _, h => by cases h
  | .bool _ :: _, h => by cases h
  | .int _ :: _, h => by cases h
  | .list _ :: _, h => by cases h
  | .tuple _ :: _, h => by cases h
  | .dict _ :: _, h => by cases h
theorem all_false {α : Type} {l : List α} {p : α → Bool} {i : Nat} {a : α} (h : l[i]? = some a) (hp : p a = false) : l.all p = false := by
  cases e : l.all p with
  | false => rfl
  | true =>
    rw [List.all_eq_true.mp e a (List.mem_of_getElem? h)] at hp
    cases hp
theorem all_next {α : Type} {l : List α} {p : α → Bool} {i : Nat} {a : α} (h : l[i]? = some a) (hall : (l.take i).all p = true) (hp : p a = true) : (l.take (i + 1)).all p = true := by
  obtain ⟨hi, rfl⟩ := List.getElem?_eq_some_iff.mp h
  rw [List.take_succ_eq_append_getElem hi, List.all_append, hall]
  simp [hp]
theorem headWord_no {d : PyData} (h : (dSeq d && headWord (dItems d)) = false) : isStep d = false := by
  unfold isStep
  cases hs : dSeq d with
  | false => rfl
  | true =>
    rw [hs] at h
    have h : headWord (dItems d) = false := h
    generalize dItems d = ds at h
    show stepItems ds = false
    by_cases hh : headStr ds = true
    · unfold headStr at hh
      split at hh
      · rename_i x ns
        have h2 : lookB x.cps.toList = none := by
          cases e : lookB x.cps.toList with
          | none => rfl
          | some bs =>
            have h3 : (lookB x.cps.toList).isSome = false := h
            rw [e] at h3
            cases h3
        unfold stepItems
        simp only [h2]
      · cases hh
    · exact stepItems_no (by simpa using hh)

theorem c_law_is_step (T : Txt K mg) : Cal prg w K mg base CX0 2 "_law_is_step" ["_law_value"] (sp_is_step K) := by
  refine T.d_law_is_step.cal sc_law_is_step (fun vs H Q E ⟨v, d, e, _⟩ => by rw [e]; rfl) fun f cdv A outer s H vs Q E hr h => ?_
  have nd := sc_law_is_step.nd
  obtain ⟨v, d, rfl, hv, q⟩ := h
  refine ⟨_, PSs.nox (pss_cons (ps_if (PW.pt (pw_or (pt_not (pt_val (pe_callB call_isiT (by rfl) T.f_isinstance (by decide +kernel) (pa_cons (pv 0) (pa_cons (pe_tup (pa_cons (pe_bltn (v := .ty "list") (by rfl) T.f_list (by decide +kernel) rfl) (pa_cons (pe_bltn (v := .ty "tuple") (by rfl) T.f_tuple (by decide +kernel) rfl) pa_nil))) pa_nil))))) (pw_or (pt_cmpR op_eq (pe_callB call_len_seq (by rfl) T.f_len (by decide +kernel) (pa_cons (pv 0) pa_nil)) pe_int (nomark _)) (pw_or (pt_not (pt_val (pe_callB call_isi (by rfl) T.f_isinstance (by decide +kernel) (pa_cons (pe_ix ix_seq (pv 0) pe_int (fun _ _ => rfl)) (pa_cons (pe_bltn (v := .ty "str") (by rfl) T.f_str (by decide +kernel) rfl) pa_nil))))) (pw_or1 (pt_cmpR L2.op_isN (pe_cl (c_law_bounds T) (hr.mono (by decide)) pass0 (pa_cons (pe_ix ix_seq (pv 0) pe_int (fun _ _ => rfl)) pa_nil)) pe_non (nomark _))))))) (pss_one (ps_ret pe_bl)) pss_nil)
      (pss_cons (ps_set (i := 1) nd rfl (Or.inl rfl) (pe_cl (c_law_bounds T) (hr.mono (by decide)) pass0 (pa_cons (pe_ix ix_seq (pv 0) pe_int (fun _ _ => rfl)) pa_nil)))
      (pss_cons (ps_if (pt_cmpR op_ne (pe_callB call_len_seq (by rfl) T.f_len (by decide +kernel) (pa_cons (pv 0) pa_nil)) (pe_op op_add (pe_callB call_len_seq (by rfl) T.f_len (by decide +kernel) (pa_cons (pv 1) pa_nil)) pe_int) (nomark _)) (pss_one (ps_ret pe_bl)) pss_nil)
      (pss_cons (ps_for PassesOwn.never rfl (pi_zipF (by rfl) T.f_zip (pa_cons (pe_slice (sl_list.or sl_tup) (pv 0) (po_some pe_int) po_none) (pa_cons (pv 1) pa_nil))) (pg_tup (by rfl) (pgs_cons (pg_name (i := 2) nd rfl (Or.inl rfl)) (pgs_cons (pg_name (i := 3) nd rfl (Or.inl rfl)) pgs_nil))) (pss_one (ps_if (PW.pt (pw_or (pt_val (pe_callB call_isi (by rfl) T.f_isinstance (by decide +kernel) (pa_cons (pv 2) (pa_cons (pe_bltn (v := .ty "bool") (by rfl) T.f_bool (by decide +kernel) rfl) pa_nil)))) (pw_or (pt_not (pt_val (pe_callB call_isi (by rfl) T.f_isinstance (by decide +kernel) (pa_cons (pv 2) (pa_cons (pe_bltn (v := .ty "int") (by rfl) T.f_int (by decide +kernel) rfl) pa_nil))))) (pw_or (pt_cmpR op_lt (pv 2) pe_int (nomark _)) (pw_or1 (PW.pt (pw_and (pt_cmpR op_notN (pv 3) pe_non (nomark _)) (pw_and1 (pt_cmpR op_gt (pv 2) (pv 3) (nomark _)))))))))) (pss_one (ps_ret pe_bl)) pss_nil)))
      (pss_one (ps_ret pe_bl)))))), ?_⟩
  -- the first test: what is no list with a known word
  refine cut_ifn (fun c H' => c = !(dSeq d && headWord (dItems d)) ∧ Ext H H') (fun Q1 k1 => ?_) fun c H1 ⟨ec, e1⟩ => ?_
  · dsimp only [tRet, tRetN, tSeq, tAsg, tOp, tVar, tC, tCB, tCons, tNil, tAndV, tOrV, tNotV, tAnd, tOr, tNot, tTest, tIf, tIfS, tB, tChain, tSl, tPart, tNoPart, tLst, tTup, tFld, tCl, tMt, tMk, gName, tNext, tBM, tBM0, tUn, tSub, tPar, tPar3, gTup, gCons, gNil, tDrop, tMkS, tM1, sFld, StX.tStar, tYes, gSub, cxOf, Cx.wish, Cx.nox, Cx.blk]
    refine ⟨_, rfl, (by show 2 ≤ sizeLine; decide), fun tp htp => isi2_rd (Vd.ext (Ext.upd htp) hv) upd_same ⟨_, rfl, ?_⟩⟩
    have e1 : Ext H (upd H tp (.tup [.ty "list", .ty "tuple"])) := Ext.upd htp
    cases hs : dSeq d with
    | false => exact if_t (by rfl) (k1 _ _ ⟨by rw [hs]; rfl, e1⟩)
    | true =>
      refine if_f (by rfl) ?_
      obtain ⟨fl, a, xs, rfl, hx, hA⟩ := seq_of (Vd.ext e1 hv) hs
      refine ⟨_, rfl, a, xs, rfl, hx.or, rfl, _, rfl, ?_⟩
      cases xs with
      | nil =>
        have z := DpAll.length hA
        have z2 : dItems d = [] := List.length_eq_zero_iff.mp z.symm
        exact if_t (by rfl) (k1 _ _ ⟨by rw [hs, z2]; rfl, e1⟩)
      | cons x0 xr =>
        refine if_f (by simp; omega) ⟨_, rfl, ixF hx at0 ?_⟩
        generalize dItems d = ds at hA k1 ⊢
        cases hA with
        | cons h0 hr0 =>
          rename_i d0 dr
          refine isi_rd (Vd.of h0) (kit_str d0) ⟨_, rfl, ?_⟩
          cases d0 with
          | str x =>
            refine if_f (by rfl) ⟨_, rfl, ixF hx at0 ?_⟩
            have ex := Dp.strV h0
            subst ex
            refine ⟨x.cps.toList, by rw [← S_of], fun u G eG hu => ⟨rfl, _, rfl, k1 _ _ ⟨?_, e1.trans eG⟩⟩⟩
            rw [hs]
            unfold LBV at hu
            cases hk : lookB x.cps.toList with
            | none =>
              rw [hk] at hu
              have hu : u = .non := hu
              rw [hu]
              simp [headWord, hk]
            | some bs =>
              rw [hk] at hu
              obtain ⟨L, ys, rfl, _⟩ := Dp.lstV hu
              simp [headWord, hk]
          | _ => exact if_t (by rfl) (k1 _ _ ⟨by rw [hs]; rfl, e1⟩)
  subst ec
  have hv1 := Vd.ext e1 hv
  cases hg : dSeq d && headWord (dItems d) with
  | false =>
    refine if_t rfl ?_
    have z := q H1 e1
    rw [show isStep d = false from headWord_no hg] at z
    exact z
  | true =>
    refine if_f rfl ?_
    obtain ⟨hs, hh⟩ := Bool.and_eq_true_iff.mp hg
    obtain ⟨fl, a, xs, rfl, hx, hA⟩ := seq_of hv1 hs
    have hz : isStep d = stepItems (dItems d) := by rw [isStep, hs]; rfl
    rw [hz] at q
    generalize dItems d = ds at hA hh q
    obtain ⟨x0, ns, bs, rfl, hk⟩ := headWord_yes hh
    have hq : ∀ b, b = stepItems (.str x0 :: ns) → ∀ H', Ext H1 H' → Q (.bl b) H' := fun b e H' e' => by rw [e]; exact q H' (e1.trans e')
    unfold stepItems at hq
    simp only [hk] at hq
    cases hA with
    | cons h0 hA =>
      rename_i v0 vs
      have ev := Dp.strV h0
      subst ev
      refine cut_asg (fun u H' => Ext H1 H' ∧ Dp K H' u (.list (bs.map mostD))) (fun Q1 k1 => ?_) fun u H2 ⟨e2, hb⟩ => ?_
      · dsimp only [tRet, tRetN, tSeq, tAsg, tOp, tVar, tC, tCB, tCons, tNil, tAndV, tOrV, tNotV, tAnd, tOr, tNot, tTest, tIf, tIfS, tB, tChain, tSl, tPart, tNoPart, tLst, tTup, tFld, tCl, tMt, tMk, gName, tNext, tBM, tBM0, tUn, tSub, tPar, tPar3, gTup, gCons, gNil, tDrop, tMkS, tM1, sFld, StX.tStar, tYes, gSub, cxOf, Cx.wish, Cx.nox, Cx.blk]
        refine ⟨_, rfl, ixF hx at0 ⟨x0.cps.toList, by rw [← S_of], fun u G eG hu => k1 _ _ ⟨eG, ?_⟩⟩⟩
        unfold LBV at hu
        rw [hk] at hu
        exact hu
      obtain ⟨p1, ys, rfl, hT, hB⟩ := Dp.lstV hb
      have l1 : vs.length = ns.length := DpAll.length hA
      have l2 : ys.length = bs.length := by rw [DpAll.length hB, List.length_map]
      refine cut_ifn (fun c H' => c = !decide (ns.length = bs.length) ∧ H' = H2) (fun Q1 k1 => ?_) fun c H3 ⟨ec, eH⟩ => ?_
      · dsimp only [tRet, tRetN, tSeq, tAsg, tOp, tVar, tC, tCB, tCons, tNil, tAndV, tOrV, tNotV, tAnd, tOr, tNot, tTest, tIf, tIfS, tB, tChain, tSl, tPart, tNoPart, tLst, tTup, tFld, tCl, tMt, tMk, gName, tNext, tBM, tBM0, tUn, tSub, tPar, tPar3, gTup, gCons, gNil, tDrop, tMkS, tM1, sFld, StX.tStar, tYes, gSub, cxOf, Cx.wish, Cx.nox, Cx.blk]
        refine ⟨_, rfl, a, _, rfl, (hx.ext e2).or, _, rfl, p1, ys, rfl, .inl hT, _, _, rfl, rfl, rfl, _, rfl, k1 _ _ ⟨?_, rfl⟩⟩
        rw [dec_int, List.length_cons, l1, l2, Bool.eq_iff_iff]
        simp
        omega
      subst ec eH
      cases hl : decide (ns.length = bs.length) with
      | false =>
        refine if_t rfl ?_
        exact hq _ (by rw [hl]; rfl) _ e2
      | true =>
        refine if_f rfl ?_
        rw [hl] at hq
        have hl' : ns.length = bs.length := of_decide_eq_true hl
        have hn : min vs.length ys.length = ns.length := by omega
        have hx3 := hx.ext e2
        dsimp only [tSeq]
        refine ⟨_, rfl, _, rfl, slF1 hx3 (by simp) fun p H4 e4 hp => ⟨_, rfl, p, p1, vs, ys, fl, true, rfl, hp, SqL.ext hT e4, ?_⟩⟩
        refine for_it (walk_zipF (xs := vs) (ys := ys) rfl) (fun i σ G => Ext H4 G ∧ (∃ x y, σ = [some (.ref a), some (.ref p1), x, y]) ∧ ((ns.zip bs).take i).all (fun p => within p.1 0 p.2) = true) ⟨Ext.rfl', ⟨_, _, rfl⟩, rfl⟩ (fun i σ G _ h => ⟨hp.ext h.1, SqL.ext hT (e4.trans h.1)⟩) ?_ ?_
        · rintro i x σ G G' hi ⟨eG, ⟨u1, u2, rfl⟩, hall⟩ ⟨T', x1, y1, rfl, hT', rfl, hx1, hy1⟩
          obtain ⟨d1, hd1, hp1⟩ := DpAll.getV hA hx1
          obtain ⟨d2, hd2, hp2⟩ := DpAll.getV hB hy1
          rw [List.getElem?_map] at hd2
          cases eb : bs[i]? with
          | none =>
            rw [eb] at hd2
            cases hd2
          | some m =>
            rw [eb] at hd2
            cases hd2
            have ey : y1 = mostV m := by
              cases m with
              | none => exact Dp.nonV hp2
              | some m => exact Dp.intV hp2
            subst ey
            have eT : Ext H3 (upd G T' (.tup [x1, mostV m])) := (e4.trans eG).trans (Ext.upd hT')
            have hd : Dp K (upd G T' (.tup [x1, mostV m])) x1 d1 := Dp.ext (e2.trans eT) hp1
            have hzip : (ns.zip bs)[i]? = some (d1, m) := by
              rw [List.getElem?_zip_eq_some]
              exact ⟨hd1, eb⟩
            refine ⟨T', _, rfl, SqT.of upd_same, rfl, _, _, rfl, _, _, rfl, rfl, ?_⟩
            refine cut_if1 (fun c G' => c = !within d1 0 m ∧ G' = upd G T' (.tup [x1, mostV m])) (fun Q1 k1 => ?_) fun c G2 ⟨ec, eG2⟩ => ?_
            · dsimp only [tRet, tRetN, tSeq, tAsg, tOp, tVar, tC, tCB, tCons, tNil, tAndV, tOrV, tNotV, tAnd, tOr, tNot, tTest, tIf, tIfS, tB, tChain, tSl, tPart, tNoPart, tLst, tTup, tFld, tCl, tMt, tMk, gName, tNext, tBM, tBM0, tUn, tSub, tPar, tPar3, gTup, gCons, gNil, tDrop, tMkS, tM1, sFld, StX.tStar, tYes, gSub, cxOf, Cx.wish, Cx.nox, Cx.blk]
              refine ⟨_, rfl, isi_rd (Vd.of hd) (kit_bool d1) ⟨_, rfl, ?_⟩⟩
              cases d1 with
              | bool b => exact if_t (by rfl) (k1 _ _ ⟨rfl, rfl⟩)
              | int n =>
                refine if_f (by rfl) ⟨_, rfl, isi_rd (Vd.of hd) (kit_int _) ⟨_, rfl, if_f (by rfl) ?_⟩⟩
                have ex := Dp.intV hd
                subst ex
                refine ⟨_, rfl, _, _, rfl, rfl, _, rfl, ?_⟩
                refine ite2 (fun c => ?_) fun c => ?_
                · have c : n < 0 := of_decide_eq_true c
                  exact k1 _ _ ⟨by simp [within]; omega, rfl⟩
                · have c : ¬ n < 0 := by simpa using c
                  have c0 : 0 ≤ n := by omega
                  cases m with
                  | none => exact ⟨_, rfl, rfl, _, rfl, if_f (by simp [mostV]) (k1 _ _ ⟨by simp [within, c0], rfl⟩)⟩
                  | some m =>
                    refine ⟨_, rfl, rfl, _, rfl, if_t (by simp [mostV]) ⟨_, rfl, _, rfl, _, _, rfl, rfl, _, rfl, k1 _ _ ⟨?_, rfl⟩⟩⟩
                    simp only [within, c0, decide_true, Bool.true_and]
                    rw [Bool.eq_iff_iff]
                    simp
              | _ => exact if_f (by rfl) ⟨_, rfl, isi_rd (Vd.of hd) (kit_int _) ⟨_, rfl, if_t (by rfl) (k1 _ _ ⟨rfl, rfl⟩)⟩⟩
            subst ec eG2
            cases hw : within d1 0 m with
            | false =>
              refine if_t rfl ?_
              refine hq _ ?_ _ (e2.trans eT)
              rw [Bool.true_and]
              exact (all_false hzip hw).symm
            | true =>
              refine if_f rfl ⟨(eG.trans (Ext.upd hT')), ⟨_, _, rfl⟩, ?_⟩
              exact all_next hzip hall hw
        · rintro σ G ⟨eG, ⟨u1, u2, rfl⟩, hall⟩
          refine hq _ ?_ _ (e2.trans (e4.trans eG))
          rw [hn, List.take_of_length_le (by rw [List.length_zip]; omega)] at hall
          rw [hall]
          rfl
end
end K80

end
section
/-! K80i: the law's own scripts: what is one, drawn ones. -/
namespace K80
open PySem L2 Ow
open PySem.Spec PyProof.Rows
/-! ### shapes -/
theorem lay_all : ∀ {ds : List PyData} {n : Nat}, (PyData.canLayAll0 ds = true ∧ PyData.depthAll ds ≤ n) ↔ ∀ x ∈ ds, PyData.canLay0 x = true ∧ PyData.depth x ≤ n
  | [], n => by simp [PyData.canLayAll0, PyData.depthAll]
  | d :: r, n => by
    have ih := lay_all (ds := r) (n := n)
    simp only [PyData.canLayAll0, PyData.depthAll, Bool.and_eq_true, List.mem_cons, forall_eq_or_imp]
    rw [← ih, Nat.max_le]
    exact ⟨fun ⟨⟨a, b⟩, c, e⟩ => ⟨⟨a, c⟩, b, e⟩, fun ⟨⟨a, c⟩, b, e⟩ => ⟨⟨a, b⟩, c, e⟩⟩
theorem shaped_seq {d : PyData} (hs : dSeq d = true) : SeqAt.shaped d = true ↔ ∀ x ∈ dItems d, PyData.canLay0 x = true ∧ PyData.depth x ≤ 63 := by
  rw [← lay_all]
  cases d with
  | list xs => simp [SeqAt.shaped, PyData.canLay0, PyData.depth, dItems]
  | tuple xs => simp [SeqAt.shaped, PyData.canLay0, PyData.depth, dItems]
  | _ => cases hs
theorem shaped_sub {d : PyData} (hs : dSeq d = true) (h : SeqAt.shaped d = true) {fs : List PyData} (hf : ∀ x ∈ fs, x ∈ dItems d) : SeqAt.shaped (.list fs) = true := (shaped_seq rfl).mpr fun x hx => (shaped_seq hs).mp h x (hf x hx)
theorem eqv_nil {fs : List PyData} : PyData.eqv (.list fs) (.list []) = fs.isEmpty := by
  cases fs <;> simp [PyData.eqv, PyData.eqvAll]
section
variable {w : World} {K : W.Frag} {mg : Str → Option Value} {base : Heap}
def sp_law_is_script (K : W.Frag) : Sp := fun vs H Q _ => ∃ v d, vs = [v] ∧ Vd K H v d ∧ (dSeq d = true → SeqAt.shaped d = true) ∧ ∀ H', Ext H H' → Q (.bl (isScript d)) H'
theorem c_law_is_script (T : Txt K mg) : Cal prg w K mg base CX0 3 "_law_is_script" ["_law_value"] (sp_law_is_script K) := by
  refine T.d_law_is_script.cal sc_law_is_script (fun vs H Q E ⟨v, d, e, _⟩ => by rw [e]; rfl) fun f cdv A outer s H vs Q E hr h => ?_
  have nd := sc_law_is_script.nd
  obtain ⟨v, d, rfl, hv, hsh, q⟩ := h
  refine ⟨_, PSs.nox (pss_one (ps_ret (pe_and (pe_callB call_isiT (by rfl) T.f_isinstance (by decide +kernel) (pa_cons (pv 0) (pa_cons (pe_tup (pa_cons (pe_bltn (v := .ty "list") (by rfl) T.f_list (by decide +kernel) rfl) (pa_cons (pe_bltn (v := .ty "tuple") (by rfl) T.f_tuple (by decide +kernel) rfl) pa_nil))) pa_nil))) (pe_and (pe_cmpR op_le (pe_callB call_len_seq (by rfl) T.f_len (by decide +kernel) (pa_cons (pv 0) pa_nil)) pe_int (nomark _)) (pe_one (pe_cmpR (op_eqD hr.units) (pe_lc (own := [("_law_step_here", 1)]) (g := gName 1) rfl nd (pi_seqF (pv 0)) (blkOk_by (own := [("_law_step_here", 1)]) (N := ["_law_value", "_law_step_here"]) (sc := defScope s_law_is_script) (by decide +kernel)) (fun _ _ _ _ _ => (pg_name (i := 1) nd rfl (Or.inl rfl))) (fun _ _ _ _ _ => (pts_one (pt_not (pt_val (pe_cl (c_law_is_step T) (hr.mono (by decide)) pass0 (pa_cons (pv 1) pa_nil)))))) (fun _ _ _ _ _ => (pv 1))) (pe_lst pa_nil) (nomark _))))))), ?_⟩
  dsimp only [tRet, tRetN, tSeq, tAsg, tOp, tVar, tC, tCB, tCons, tNil, tAndV, tOrV, tNotV, tAnd, tOr, tNot, tTest, tIf, tIfS, tB, tChain, tSl, tPart, tNoPart, tLst, tTup, tFld, tCl, tMt, tMk, gName, tNext, tBM, tBM0, tUn, tSub, tPar, tPar3, gTup, gCons, gNil, tDrop, tMkS, tM1, sFld, StX.tStar, tYes, gSub, cxOf, Cx.wish, Cx.nox, Cx.blk]
  refine ⟨_, rfl, (by show 2 ≤ sizeLine; decide), fun tp htp => isi2_rd (Vd.ext (Ext.upd htp) hv) upd_same ⟨_, rfl, ?_⟩⟩
  have e1 : Ext H (upd H tp (.tup [.ty "list", .ty "tuple"])) := Ext.upd htp
  cases hs : dSeq d with
  | false =>
    have z := q _ e1
    rw [show isScript d = false by rw [isScript, hs]; rfl] at z
    exact if_f rfl z
  | true =>
    refine if_t rfl ?_
    obtain ⟨fl, a, xs, rfl, hx, hA⟩ := seq_of (Vd.ext e1 hv) hs
    have hlen : xs.length = (dItems d).length := DpAll.length hA
    have hz : isScript d = (decide ((dItems d).length ≤ 400) && (dItems d).all isStep) := by rw [isScript, hs]; rfl
    refine ⟨_, rfl, a, xs, rfl, hx.or, _, _, rfl, rfl, _, rfl, ?_⟩
    refine ite2 (fun c => ?_) fun c => ?_
    · have c : (dItems d).length ≤ 400 := by
        have z := of_decide_eq_true c
        omega
      generalize hG0 : upd H tp (.tup [.ty "list", .ty "tuple"]) = G0 at *
      refine ⟨_, rfl, fl, a, xs, rfl, hx, fun D hD => ?_⟩
      refine lc_it walk_seqF (fun i G => ∃ ys, Ext G0 G ∧ G D = some (.lst ys) ∧ DpAll K G0 ys (((dItems d).take i).filter fun x => !isStep x)) ⟨[], Ext.upd hD, upd_same, .nil⟩ (fun i G _ ⟨_, e, _⟩ => hx.ext e) ?_ ?_
      · rintro i x G G' hi ⟨ys, e, hDy, hys⟩ ⟨rfl, hx1⟩
        obtain ⟨d1, hd1, hp1⟩ := DpAll.getV hA hx1
        have hil : i < (dItems d).length := by omega
        have htk : ((dItems d).take (i + 1)).filter (fun x => !isStep x) = ((dItems d).take i).filter (fun x => !isStep x) ++ (if isStep d1 = true then [] else [d1]) := by
          have ed : (dItems d)[i] = d1 := (List.getElem?_eq_some_iff.mp hd1).2
          rw [List.take_succ_eq_append_getElem hil, List.filter_append, ed]
          cases hz : isStep d1 <;> simp [hz]
        dsimp only [tRet, tRetN, tSeq, tAsg, tOp, tVar, tC, tCB, tCons, tNil, tAndV, tOrV, tNotV, tAnd, tOr, tNot, tTest, tIf, tIfS, tB, tChain, tSl, tPart, tNoPart, tLst, tTup, tFld, tCl, tMt, tMk, gName, tNext, tBM, tBM0, tUn, tSub, tPar, tPar3, gTup, gCons, gNil, tDrop, tMkS, tM1, sFld, StX.tStar, tYes, gSub, cxOf, Cx.wish, Cx.nox, Cx.blk]
        refine ⟨rfl, _, rfl, _, d1, rfl, Vd.of (Dp.ext e hp1), fun G2 e2 => ⟨_, rfl, ?_⟩⟩
        cases hst : isStep d1 with
        | true =>
          refine if_f rfl ⟨ys, e.trans e2, e2 _ _ hDy, ?_⟩
          rw [htk, if_pos hst, List.append_nil]
          exact hys
        | false =>
          refine if_t rfl ⟨_, rfl, ys, e2 _ _ hDy, ?_, ys ++ [x], ?_, upd_same, ?_⟩
          · have := DpAll.length hys
            have h2 := List.length_filter_le (fun x => !isStep x) ((dItems d).take i)
            rw [List.length_take] at h2
            exact small1000 (by omega)
          · intro b o hb
            rw [upd_ne (ne_of_none hb hD)]
            exact e2 _ _ (e _ _ hb)
          · rw [htk, if_neg (by rw [hst]; simp)]
            exact DpAll.app hys (.cons hp1 .nil)
      · rintro G ⟨ys, e, hDy, hys⟩
        rw [hlen, List.take_of_length_le (Nat.le_refl _)] at hys
        refine ⟨Nat.zero_le _, fun D2 hD2 => ?_⟩
        have e3 : Ext G0 (upd G D2 (.lst [])) := e.trans (Ext.upd hD2)
        refine ⟨.list ((dItems d).filter fun x => !isStep x), .list [], .lst (SqL.of ?_) (DpAll.ext e3 hys), .lst (SqL.of upd_same) .nil, ?_, rfl, ?_⟩
        · rw [upd_ne (ne_of_none hDy hD2)]
          exact hDy
        · exact shaped_sub hs (hsh hs) fun x hx => (List.mem_filter.mp hx).1
        · rw [eqv_nil]
          have z := q _ (e1.trans e3)
          rw [hz, decide_eq_true c, Bool.true_and] at z
          have eb : ((dItems d).filter fun x => !isStep x).isEmpty = (dItems d).all isStep := by
            rw [Bool.eq_iff_iff, List.isEmpty_iff, List.filter_eq_nil_iff, List.all_eq_true]
            simp
          rw [eb]
          exact z
    · have c : ¬ (dItems d).length ≤ 400 := fun z => c (decide_eq_true (by omega))
      have z := q _ e1
      rw [hz, decide_eq_false c] at z
      exact z
/-! ### _law_step -/
/-- a drawn step's numbers -/
def StepOk (s : List Nat × List Int) : Prop := ∃ bs, lookB s.1 = some bs ∧ s.2.length = bs.length ∧ ∀ (i : Nat) n m, s.2[i]? = some n → bs[i]? = some m → 0 ≤ n ∧ n < 10 ^ 30 ∧ ∀ k, m = some k → n ≤ k
theorem sqL_extQ {H H' : Hp} {q a : Addr} {xs : List V} (h : SqL K H a xs) (e : ExtP q H H') (hq : ∀ ys, Rd H q (.lst ys) → ys ≠ xs) : SqL K H' a xs := by
  rcases h with h | h
  · have hne : a ≠ q := fun z => hq xs (by rw [← z]; exact h) rfl
    exact sqL_extP (.inl h) e hne
  · exact .inr h
theorem QAt.noScal {H : Hp} {q c : Addr} {ns : List Int} {b : Nat} (h : QAt K H q c ns b) {x : V} {xs : List V} (hx : ∀ c, x ≠ .ref c) : ∀ ys, Rd H q (.lst ys) → ys ≠ x :: xs := by
  obtain ⟨at_, rest, h1, _⟩ := h
  intro ys hy e
  rcases hy with hy | ⟨o, hy⟩
  · rw [h1] at hy
    have z := HO.lst.inj (Option.some.inj hy)
    rw [e] at z
    injection z with z1 z2
    exact hx c z1.symm
  · rw [h1] at hy
    cases hy
theorem stepWords : (["send", "bring", "lose", "twice", "cut", "fuse", "rise", "drop", "again", "sweep", "quit"] : List Str) = (boundsOf.map (·.1)).map S := by decide +kernel
theorem lookB_at {p : List Nat × List (Option Int)} (h : p ∈ boundsOf) : lookB p.1 = some p.2 := by
  have z : boundsOf.all (fun p => decide (lookB p.1 = some p.2)) = true := by decide +kernel
  exact of_decide_eq_true (List.all_eq_true.mp z p h)
theorem lookB_ne {a : List Nat} {bs : List (Option Int)} (h : lookB a = some bs) : bs ≠ [] := by
  have z : boundsOf.all (fun p => decide (p.2 ≠ [])) = true := by decide +kernel
  exact of_decide_eq_true (List.all_eq_true.mp z _ (lookB_mem h))
theorem lookB_small {a : List Nat} {bs : List (Option Int)} (h : lookB a = some bs) {k : Int} (hk : some k ∈ bs) : 0 ≤ k ∧ k ≤ 7 := by
  have z : boundsOf.all (fun p => p.2.all fun m => match m with | some k => decide (0 ≤ k) && decide (k ≤ 7) | none => true) = true := by decide +kernel
  have z2 := List.all_eq_true.mp (List.all_eq_true.mp z _ (lookB_mem h)) _ hk
  simpa using z2
def sp_law_step (K : W.Frag) : Sp := fun vs H Q _ => ∃ q c ns b, vs = [.ref q] ∧ QAt K H q c ns b ∧ b + 6 ≤ 100000 ∧ ∀ s l H', StepOk s → ExtP q H H' → QAt K H' q c ns (b + 6) → H l = none → H' l = some (.lst (.str (S s.1) :: s.2.map .int)) → Q (.ref l) H'
theorem c_law_step (T : Txt K mg) : Cal prg w K mg base CX0 3 "_law_step" ["_law_quiver_here"] (sp_law_step K) := by
  refine T.d_law_step.cal sc_law_step (fun vs H Q E ⟨q, c, ns, b, e, _⟩ => by rw [e]; rfl) fun f cdv A outer s H vs Q E hr h => ?_
  have nd := sc_law_step.nd
  obtain ⟨q, c, ns, b, rfl, hq, hb, k⟩ := h
  refine ⟨_, PSs.nox (pss_cons (ps_set (i := 1) nd rfl (Or.inl rfl) (pe_cl (c_law_pick T) (hr.mono (by decide)) pass0 (pa_cons (pv 0) (pa_cons (pe_lst (pa_cons pe_str (pa_cons pe_str (pa_cons pe_str (pa_cons pe_str (pa_cons pe_str (pa_cons pe_str (pa_cons pe_str (pa_cons pe_str (pa_cons pe_str (pa_cons pe_str (pa_cons pe_str pa_nil)))))))))))) pa_nil))))
      (pss_cons (ps_setLc (i := 2) (own := [("_law_most", 3)]) (tt := tYes) (g := gName 3) rfl nd rfl rfl (sw_true rfl rfl rfl (by decide +kernel)) (pi_list (pe_cl (c_law_bounds T) (hr.mono (by decide)) pass0 (pa_cons (pv 1) pa_nil))) (blkOk_by (own := [("_law_most", 3)]) (N := ["_law_quiver_here", "_law_word", "_law_numbers", "_law_most"]) (sc := defScope s_law_step) (by decide +kernel)) (fun _ _ _ _ _ => (pg_name (i := 3) nd rfl (Or.inl rfl))) (fun _ _ _ _ _ => pts_nil) (fun _ _ _ _ _ => (pe_cl (c_law_shoot T) (hr.mono (by decide)) pass0 (pa_cons (pv 0) (pa_cons (pe_ifExp (pt_cmpR op_notN (pv 3) pe_non (nomark _)) (pe_op op_add pe_int (pv 3)) (pe_cl (c_law_pick T) (hr.mono (by decide)) pass0 (pa_cons (pv 0) (pa_cons (pe_lst (pa_cons pe_int (pa_cons pe_int (pa_cons (pe_op op_pow pe_int pe_int) pa_nil)))) pa_nil)))) pa_nil)))))
      (pss_one (ps_ret (pe_op op_cat (pe_lst (pa_cons (pv 1) pa_nil)) (pv 2)))))), ?_⟩
  refine cut_asg (fun v G => ∃ a bs, v = .str (S a) ∧ lookB a = some bs ∧ ExtP q H G ∧ QAt K G q c ns (b + 1)) (fun Q1 k1 => ?_) fun v G1 ⟨a, bs, ev, hk, e1, hq1⟩ => ?_
  · dsimp only [tRet, tRetN, tSeq, tAsg, tOp, tVar, tC, tCB, tCons, tNil, tAndV, tOrV, tNotV, tAnd, tOr, tNot, tTest, tIf, tIfS, tB, tChain, tSl, tPart, tNoPart, tLst, tTup, tFld, tCl, tMt, tMk, gName, tNext, tBM, tBM0, tUn, tSub, tPar, tPar3, gTup, gCons, gNil, tDrop, tMkS, tM1, sFld, StX.tStar, tYes, gSub, cxOf, Cx.wish, Cx.nox, Cx.blk]
    refine ⟨_, rfl, by show 11 ≤ sizeLine; decide, fun L hL => ?_⟩
    have hLq : q ≠ L := (hq.ne hL).symm
    refine ⟨q, c, ns, L, _, b, rfl, hq.ext (Ext.upd hL), by omega, fun H' e => SqL.of (e _ _ hLq.symm upd_same), by decide, by decide, fun i v H' hv e hq' => ?_⟩
    have hv2 : ([("send" : Str), "bring", "lose", "twice", "cut", "fuse", "rise", "drop", "again", "sweep", "quit"].map V.str)[i]? = some v := hv
    rw [stepWords, List.getElem?_map, List.getElem?_map, List.getElem?_map] at hv2
    cases ep : boundsOf[i]? with
    | none =>
      rw [ep] at hv2
      cases hv2
    | some p =>
      rw [ep] at hv2
      cases hv2
      exact k1 _ _ ⟨p.1, p.2, rfl, lookB_at (List.mem_of_getElem? ep), (ExtP.of (Ext.upd hL)).trans e, hq'⟩
  subst ev
  refine cut_asg (fun v G => ∃ D l, v = .ref D ∧ StepOk (a, l) ∧ ExtP q H G ∧ QAt K G q c ns (b + 6) ∧ G D = some (.lst (l.map V.int)) ∧ H D = none) (fun Q1 k1 => ?_) fun v G2 ⟨D, l, ev, hl, e2, hq2, hD2, hD0⟩ => ?_
  · refine ⟨_, rfl, a, rfl, fun u G2 e2 hu => ?_⟩
    unfold LBV at hu
    rw [hk] at hu
    obtain ⟨L, ys, rfl, hL, hA⟩ := Dp.lstV hu
    have hlen : ys.length = bs.length := by rw [DpAll.length hA, List.length_map]
    have hl2 := lookB_len hk
    have hq2 : QAt K G2 q c ns (b + 1) := hq1.ext e2
    refine ⟨L, rfl, ⟨ys, hL⟩, fun D hD => ?_⟩
    have hDq : D ≠ q := hq2.ne hD
    have nD : H D = none := by
      cases hz : H D with
      | none => rfl
      | some o =>
        rw [e2 _ _ (e1 _ _ hDq hz)] at hD
        cases hD
    have stay : ∀ G, ExtP q G2 G → SqL K G L ys := fun G e => by
      cases ys with
      | nil =>
        have : bs = [] := List.length_eq_zero_iff.mp hlen.symm
        exact absurd this (lookB_ne hk)
      | cons y yr =>
        refine sqL_extQ hL e (hq2.noScal fun c hc => ?_)
        cases bs with
        | nil => cases hA
        | cons m mr =>
          cases hA with
          | cons h1 _ =>
            rw [hc] at h1
            cases m with
            | none => cases h1
            | some m => cases h1
    refine lc_it (walk_list (xs := ys)) (fun i G => ∃ l : List Int, l.length = i ∧ (∀ (j : Nat) n m, l[j]? = some n → bs[j]? = some m → 0 ≤ n ∧ n < 10 ^ 30 ∧ ∀ k, m = some k → n ≤ k) ∧ ExtP q G2 G ∧ QAt K G q c ns (b + 1 + 2 * i) ∧ G D = some (.lst (l.map V.int))) ⟨[], rfl, fun j n m h => by simp at h, ExtP.of (Ext.upd hD), hq2.ext (Ext.upd hD), upd_same⟩ (fun i G _ ⟨_, _, _, e, _⟩ => stay G e) ?_ ?_
    · rintro i x G G' hi ⟨l, hl, hok, e, hqG, hDG⟩ ⟨rfl, hx⟩
      obtain ⟨d, hd, hp⟩ := DpAll.getV hA hx
      rw [List.getElem?_map] at hd
      cases em : bs[i]? with
      | none =>
        rw [em] at hd
        cases hd
      | some m =>
        rw [em] at hd
        cases hd
        have ex : x = mostV m := by
          cases m with
          | none => exact Dp.nonV hp
          | some m => exact Dp.intV hp
        subst ex
        refine ⟨rfl, ?_⟩
        dsimp only [tRet, tRetN, tSeq, tAsg, tOp, tVar, tC, tCB, tCons, tNil, tAndV, tOrV, tNotV, tAnd, tOr, tNot, tTest, tIf, tIfS, tB, tChain, tSl, tPart, tNoPart, tLst, tTup, tFld, tCl, tMt, tMk, gName, tNext, tBM, tBM0, tUn, tSub, tPar, tPar3, gTup, gCons, gNil, tDrop, tMkS, tM1, sFld, StX.tStar, tYes, gSub, cxOf, Cx.wish, Cx.nox, Cx.blk]
        refine if_t rfl ⟨_, rfl, _, rfl, rfl, _, rfl, ?_⟩
        -- behind the draw
        have fin : ∀ (many : Int) (b2 : Nat) (G3 : Hp), 0 < many → many ≤ 10 ^ 20 → (∀ k, m = some k → many ≤ k + 1) → b2 ≤ b + 1 + 2 * i + 1 → ExtP q G' G3 → QAt K G3 q c ns b2 → sp_law_shoot K [.ref q, .int many] G3 (fun y H4 => ∃ acc, H4 D = some (HO.lst acc) ∧ acc.length < sizeLine ∧ ∃ l : List Int, l.length = i + 1 ∧ (∀ (j : Nat) n m, l[j]? = some n → bs[j]? = some m → 0 ≤ n ∧ n < 10 ^ 30 ∧ ∀ k, m = some k → n ≤ k) ∧ ExtP q G2 (upd H4 D (.lst (acc ++ [y]))) ∧ QAt K (upd H4 D (.lst (acc ++ [y]))) q c ns (b + 1 + 2 * (i + 1)) ∧ upd H4 D (.lst (acc ++ [y])) D = some (HO.lst (l.map V.int))) E0 := by
          intro many b2 G3 hm0 hm1 hmk hb2 e3 hq3
          refine ⟨q, c, ns, many, b2, rfl, hq3, by omega, hm0, ?_, fun r G4 r0 r1 e4 hq4 => ?_⟩
          · have : many.natAbs < 2 ^ 70 := by omega
            exact Nat.lt_of_lt_of_le this (Nat.pow_le_pow_right (by decide) (by decide))
          · have hD4 := e4 _ _ hDq (e3 _ _ hDq hDG)
            refine ⟨_, hD4, by rw [List.length_map]; exact small1000 (by omega), l ++ [r], by rw [List.length_append, hl]; rfl, fun j n m' hj hm' => ?_, fun o u ho eo => ?_, ?_, by rw [upd_same, List.map_append]; rfl⟩
            · by_cases c : j < i
              · rw [List.getElem?_append_left (by omega)] at hj
                exact hok j n m' hj hm'
              · rw [List.getElem?_append_right (by omega)] at hj
                have c2 : j = i := by
                  by_cases c3 : j - l.length = 0
                  · omega
                  · rw [List.getElem?_eq_none (by simp; omega)] at hj
                    cases hj
                subst c2
                rw [hl, Nat.sub_self] at hj
                cases hj
                rw [em] at hm'
                cases hm'
                exact ⟨r0, by omega, fun k hk => by have := hmk k hk; omega⟩
            · rw [upd_ne (ne_of_none eo hD)]
              exact e4 _ _ ho (e3 _ _ ho (e _ _ ho eo))
            · exact (hq2.but ((e.trans e3).trans e4) hq4 hD).mono (by omega)
        cases m with
        | none =>
          refine if_f (by simp [mostV]) ⟨_, rfl, _, _, rfl, rfl, ⟨by decide, by decide, by decide⟩, by show 3 ≤ sizeLine; decide, fun L2 hL2 => ?_⟩
          have hL2q : L2 ≠ q := hqG.ne hL2
          refine ⟨q, c, ns, L2, _, b + 1 + 2 * i, rfl, hqG.ext (Ext.upd hL2), by omega, fun H' e => SqL.of (e _ _ hL2q upd_same), by decide, by decide, fun j v G3 hv e3 hq3 => ?_⟩
          have e03 : ExtP q G' G3 := (ExtP.of (Ext.upd hL2)).trans e3
          have key : ∃ many : Int, v = .int many ∧ 0 < many ∧ many ≤ 10 ^ 20 := by
            match j, hv with
            | 0, hv => cases hv; exact ⟨3, rfl, by decide, by decide⟩
            | 1, hv => cases hv; exact ⟨100, rfl, by decide, by decide⟩
            | 2, hv => cases hv; exact ⟨10 ^ 20, rfl, by decide, by decide⟩
            | j + 3, hv => cases hv
          obtain ⟨many, rfl, h0, h1⟩ := key
          exact fin many _ G3 h0 h1 (fun k hk => by cases hk) (Nat.le_refl _) e03 hq3
        | some m =>
          refine if_t (by simp [mostV]) ⟨_, rfl, _, _, rfl, rfl, ?_⟩
          have := lookB_small hk (List.mem_of_getElem? em)
          exact fin _ _ _ (by omega) (by omega) (fun k hk => by cases hk; omega) (Nat.le_succ _) (ExtP.refl _ _) hqG
    · rintro G ⟨l, hl, hok, e, hqG, hDG⟩
      refine k1 _ _ ⟨D, l, rfl, ⟨bs, hk, by rw [hl, hlen], hok⟩, (e1.trans (ExtP.of e2)).trans e, hqG.mono (by omega), hDG, nD⟩
  subst ev
  dsimp only [tRet, tRetN, tSeq, tAsg, tOp, tVar, tC, tCB, tCons, tNil, tAndV, tOrV, tNotV, tAnd, tOr, tNot, tTest, tIf, tIfS, tB, tChain, tSl, tPart, tNoPart, tLst, tTup, tFld, tCl, tMt, tMk, gName, tNext, tBM, tBM0, tUn, tSub, tPar, tPar3, gTup, gCons, gNil, tDrop, tMkS, tM1, sFld, StX.tStar, tYes, gSub, cxOf, Cx.wish, Cx.nox, Cx.blk]
  refine ⟨_, rfl, by show 1 ≤ sizeLine; decide, fun p hp => ⟨_, rfl, ?_⟩⟩
  have hDp : D ≠ p := ne_of_none hD2 hp
  obtain ⟨bs2, hk2, hlen2, _⟩ := id hl
  have hl3 := lookB_len hk2
  have hlen2 : l.length = bs2.length := hlen2
  refine ⟨p, D, _, _, rfl, rfl, upd_same, by rw [upd_ne hDp]; exact hD2, by rw [List.length_map]; show 1 + l.length ≤ sizeLine; exact Nat.le_of_lt (small1000 (by omega)), fun r hr => ?_⟩
  have er : Ext G2 (upd (upd G2 p (.lst [.str (S a)])) r (.lst ([.str (S a)] ++ l.map V.int))) := (Ext.upd hp).trans (Ext.upd hr)
  refine k (a, l) r _ hl (e2.trans (ExtP.of er)) (hq2.ext er) ?_ upd_same
  have hrq : r ≠ q := (hq2.ext (Ext.upd hp)).ne hr
  cases hz : H r with
  | none => rfl
  | some o =>
    rw [Ext.upd hp _ _ (e2 _ _ hrq hz)] at hr
    cases hr
end
end K80

end
section
/-! K80j: the law's own reading of a text. -/
namespace K80
open PySem L2 Ow
open PySem.Spec PyProof.Rows
/-- code points that may be -/
def Valid (a : List Nat) : Prop := ∀ c ∈ a, c < 0x110000
theorem digs : (Str.ofString "0123456789").cps.toList = [48, 49, 50, 51, 52, 53, 54, 55, 56, 57] := by decide +kernel
theorem in_digs {c : Nat} : decide (c ∈ (Str.ofString "0123456789").cps.toList) = isDig c := by
  rw [digs, Bool.eq_iff_iff, decide_eq_true_eq]
  simp only [isDig, Bool.and_eq_true, decide_eq_true_eq, List.mem_cons, List.not_mem_nil, or_false]
  omega
theorem strs_shaped {l : List (List Nat)} (h : ∀ a ∈ l, Valid a) : SeqAt.shaped (.list ((l.map S).map PyData.str)) = true := (shaped_seq rfl).mpr fun x hx => by
  obtain ⟨y, hy, rfl⟩ := List.mem_map.mp hx
  obtain ⟨a, ha, rfl⟩ := List.mem_map.mp hy
  refine ⟨?_, Nat.zero_le _⟩
  show PyData.strOk (S a) = true
  unfold PyData.strOk
  rw [← Array.all_toList, List.all_eq_true]
  intro c hc
  have hc : c ∈ a := by simpa [S, SX.S] using hc
  exact decide_eq_true (h a ha c hc)
section
variable {w : World} {K : W.Frag} {mg : Str → Option Value} {base : Heap}
def sp_law_is_number (K : W.Frag) : Sp := fun vs H Q _ => ∃ a, vs = [.str (S a)] ∧ a.length ≤ sizeLine ∧ Valid a ∧ ∀ H', Ext H H' → Q (.bl (okN a)) H'
theorem c_law_is_number (T : Txt K mg) : Cal prg w K mg base CX0 1 "_law_is_number" ["_law_item"] (sp_law_is_number K) := by
  refine T.d_law_is_number.cal sc_law_is_number (fun vs H Q E ⟨x, e, _⟩ => by rw [e]; rfl) fun f cdv A outer s H vs Q E hr h => ?_
  have nd := sc_law_is_number.nd
  obtain ⟨a, rfl, hl, hv, q⟩ := h
  refine ⟨_, PSs.nox (pss_cons (ps_set (i := 1) nd rfl (Or.inl rfl) (pe_ifExp (pt_cmpR op_eq (pe_slice sl_str (pv 0) po_none (po_some pe_int)) pe_str (nomark _)) (pe_slice sl_str (pv 0) (po_some pe_int) po_none) (pv 0)))
      (pss_cons (ps_if (PW.pt (pw_or (pt_cmpR op_eq (pv 1) pe_str (nomark _)) (pw_or (pt_cmpR op_gt (pe_callB call_len_str (by rfl) T.f_len (by decide +kernel) (pa_cons (pv 1) pa_nil)) pe_int (nomark _)) (pw_or1 (pt_cmpR (op_neD hr.units) (pe_lc (own := [("_law_sign", 2)]) (g := gName 2) rfl nd (pi_str (pv 1)) (blkOk_by (own := [("_law_sign", 2)]) (N := ["_law_item", "_law_digits", "_law_sign"]) (sc := defScope s_law_is_number) (by decide +kernel)) (fun _ _ _ _ _ => (pg_name (i := 2) nd rfl (Or.inl rfl))) (fun _ _ _ _ _ => (pts_one (pt_cmpR op_notIn_sign (pv 2) pe_str rfl))) (fun _ _ _ _ _ => (pv 2))) (pe_lst pa_nil) (nomark _)))))) (pss_one (ps_ret pe_bl)) pss_nil)
      (pss_one (ps_ret (pe_or (pe_cmpR op_eq (pv 0) pe_str (nomark _)) (pe_one (pe_cmpR op_ne (pe_ix ix_str (pv 1) pe_int (fun _ _ => rfl)) pe_str (nomark _)))))))), ?_⟩
  refine cut_asg (fun v H' => v = .str (S (dgl a)) ∧ H' = H) (fun Q1 k1 => ?_) fun v H1 ⟨ev, eH⟩ => ?_
  · dsimp only [tRet, tRetN, tSeq, tAsg, tOp, tVar, tC, tCB, tCons, tNil, tAndV, tOrV, tNotV, tAnd, tOr, tNot, tTest, tIf, tIfS, tB, tChain, tSl, tPart, tNoPart, tLst, tTup, tFld, tCl, tMt, tMk, gName, tNext, tBM, tBM0, tUn, tSub, tPar, tPar3, gTup, gCons, gNil, tDrop, tMkS, tM1, sFld, StX.tStar, tYes, gSub, cxOf, Cx.wish, Cx.nox, Cx.blk]
    refine ⟨_, rfl, _, rfl, rTake_S (n := 1) hl (rEq_S (b := [45]) (by decide +kernel) ⟨_, rfl, ?_⟩)⟩
    refine ite2 (fun c => ⟨_, rfl, _, rfl, rDrop_S (n := 1) hl (k1 _ _ ⟨?_, rfl⟩)⟩) fun c => ⟨_, rfl, k1 _ _ ⟨?_, rfl⟩⟩
    · rw [dgl, if_pos (of_decide_eq_true c)]
    · rw [dgl, if_neg (by simpa using c)]
  subst ev eH
  have hl2 : (dgl a).length ≤ sizeLine := Nat.le_trans (dgl_len a).1 hl
  have hv2 : ∀ c ∈ dgl a, c < 0x110000 := fun c hc => by
    unfold dgl at hc
    split at hc
    · exact hv c (List.mem_of_mem_drop hc)
    · exact hv c hc
  refine cut_ifn (fun c H' => c = !okD (dgl a) ∧ Ext H1 H') (fun Q1 k1 => ?_) fun c H2 ⟨ec, e2⟩ => ?_
  · dsimp only [tRet, tRetN, tSeq, tAsg, tOp, tVar, tC, tCB, tCons, tNil, tAndV, tOrV, tNotV, tAnd, tOr, tNot, tTest, tIf, tIfS, tB, tChain, tSl, tPart, tNoPart, tLst, tTup, tFld, tCl, tMt, tMk, gName, tNext, tBM, tBM0, tUn, tSub, tPar, tPar3, gTup, gCons, gNil, tDrop, tMkS, tM1, sFld, StX.tStar, tYes, gSub, cxOf, Cx.wish, Cx.nox, Cx.blk]
    refine ⟨_, rfl, rEq_S (b := []) (by decide +kernel) ⟨_, rfl, ?_⟩⟩
    refine ite2 (fun c => k1 _ _ ⟨?_, Ext.rfl'⟩) fun c => ⟨_, rfl, _, rfl, by rw [S_len]; exact hl2, _, _, rfl, rfl, _, rfl, ?_⟩
    · rw [okD, of_decide_eq_true c]
      rfl
    rw [S_len]
    refine ite2 (fun c2 => k1 _ _ ⟨?_, Ext.rfl'⟩) fun c2 => ?_
    · have : ¬ (dgl a).length ≤ 60 := by
        have := of_decide_eq_true c2
        omega
      simp [okD, this]
    have h60 : (dgl a).length ≤ 60 := by
      have z : ¬ (60 : Int) < ((dgl a).length : Int) := by simpa using c2
      omega
    refine ⟨_, rfl, _, rfl, fun D hD => ?_⟩
    refine lc_it walk_str (fun i G => Ext H1 G ∧ G D = some (.lst (((((dgl a).take i).filter fun c => !isDig c).map fun c => S [c]).map V.str))) ⟨Ext.upd hD, upd_same⟩ (fun _ _ _ _ => trivial) ?_ ?_
    · rintro i x G G' hi ⟨e, hDG⟩ ⟨rfl, c, hc, rfl⟩
      have hc : (dgl a)[i]? = some c := by simpa [S, SX.S] using hc
      obtain ⟨hil, ec⟩ := List.getElem?_eq_some_iff.mp hc
      dsimp only [tRet, tRetN, tSeq, tAsg, tOp, tVar, tC, tCB, tCons, tNil, tAndV, tOrV, tNotV, tAnd, tOr, tNot, tTest, tIf, tIfS, tB, tChain, tSl, tPart, tNoPart, tLst, tTup, tFld, tCl, tMt, tMk, gName, tNext, tBM, tBM0, tUn, tSub, tPar, tPar3, gTup, gCons, gNil, tDrop, tMkS, tM1, sFld, StX.tStar, tYes, gSub, cxOf, Cx.wish, Cx.nox, Cx.blk]
      refine ⟨rfl, _, rfl, c, _, rfl, rfl, _, rfl, ?_⟩
      rw [in_digs]
      have htk : ((dgl a).take (i + 1)).filter (fun c => !isDig c) = ((dgl a).take i).filter (fun c => !isDig c) ++ (if isDig c = true then [] else [c]) := by
        rw [List.take_succ_eq_append_getElem hil, List.filter_append, ec]
        cases hz : isDig c <;> simp [hz]
      cases hz : isDig c with
      | true =>
        refine if_f rfl ⟨e, ?_⟩
        rw [htk, if_pos hz, List.append_nil]
        exact hDG
      | false =>
        refine if_t rfl ⟨_, rfl, _, hDG, ?_, fun b o hb => ?_, ?_⟩
        · rw [List.length_map, List.length_map]
          have := List.length_filter_le (fun c => !isDig c) ((dgl a).take i)
          rw [List.length_take] at this
          exact small1000 (by omega)
        · rw [upd_ne (ne_of_none hb hD)]
          exact e _ _ hb
        · rw [upd_same, htk, if_neg (by rw [hz]; simp), List.map_append, List.map_append]
          rfl
    · rintro G ⟨e, hDG⟩
      have hsz : (S (dgl a)).cps.size = (dgl a).length := by simp [S, SX.S]
      rw [hsz, List.take_of_length_le (Nat.le_refl _)] at hDG
      refine ⟨Nat.zero_le _, fun p hp => ?_⟩
      have ep : Ext H1 (upd G p (.lst [])) := e.trans (Ext.upd hp)
      have hDp : D ≠ p := ne_of_none hDG hp
      have hmap : ((dgl a).filter fun c => !isDig c).map (fun c => S [c]) = (((dgl a).filter fun c => !isDig c).map fun c => [c]).map S := by rw [List.map_map]; rfl
      rw [hmap] at hDG
      refine ⟨.list (((((dgl a).filter fun c => !isDig c).map fun c => [c]).map S).map PyData.str), .list [], .lst (SqL.of ?_) (DpAll.strs _), .lst (SqL.of upd_same) .nil, strs_shaped ?_, rfl, _, rfl, k1 _ _ ⟨?_, ep⟩⟩
      · rw [upd_ne hDp]
        exact hDG
      · intro b hb
        obtain ⟨c, hc, rfl⟩ := List.mem_map.mp hb
        intro c2 hc2
        rw [List.mem_singleton.mp hc2]
        exact hv2 c (List.mem_filter.mp hc).1
      · rw [eqv_nil]
        have h1 : dgl a ≠ [] := by simpa using c
        rw [okD, decide_eq_true h1, decide_eq_true h60, Bool.true_and, Bool.true_and]
        congr 1
        rw [Bool.eq_iff_iff, List.isEmpty_iff, List.map_eq_nil_iff, List.map_eq_nil_iff, List.map_eq_nil_iff, List.filter_eq_nil_iff, List.all_eq_true]
        simp
  subst ec
  cases hd : okD (dgl a) with
  | false =>
    refine if_t rfl ?_
    have z := q H2 e2
    rw [show okN a = false by rw [okN, hd]; rfl] at z
    exact z
  | true =>
    refine if_f rfl ?_
    have hd2 := hd
    simp only [okD, Bool.and_eq_true, decide_eq_true_eq] at hd2
    obtain ⟨h1, h2, h3⟩ := hd2
    obtain ⟨d0, dr, ed⟩ := List.exists_cons_of_ne_nil h1
    have z := q H2 e2
    dsimp only [tRet, tRetN, tSeq, tAsg, tOp, tVar, tC, tCB, tCons, tNil, tAndV, tOrV, tNotV, tAnd, tOr, tNot, tTest, tIf, tIfS, tB, tChain, tSl, tPart, tNoPart, tLst, tTup, tFld, tCl, tMt, tMk, gName, tNext, tBM, tBM0, tUn, tSub, tPar, tPar3, gTup, gCons, gNil, tDrop, tMkS, tM1, sFld, StX.tStar, tYes, gSub, cxOf, Cx.wish, Cx.nox, Cx.blk]
    refine ⟨_, rfl, rEq_S (b := [48]) (by decide +kernel) ⟨_, rfl, ?_⟩⟩
    refine ite2 (fun c => ?_) fun c => ⟨_, rfl, rAt_S (n := 0) (c := d0) hl2 (by rw [ed]; rfl) (rNe_S (a := [d0]) (b := [48]) (by decide +kernel) ?_)⟩
    · rw [show okN a = true by rw [okN, hd, c]; simp] at z
      exact z
    · have c : a ≠ [48] := by simpa using c
      rw [show okN a = (!decide ([d0] = [48])) by rw [okN, hd, ed]; simp [c]] at z
      exact z
/-! ### _law_items -/
theorem spl_valid : ∀ (a acc : List Nat), Valid a → Valid acc → ∀ w ∈ TL.spl [32] 0 acc a, Valid w
  | [], acc, _, h2, w, hw => by
    rw [TL.spl_nil] at hw
    rw [List.mem_singleton.mp hw]
    exact h2
  | c :: r, acc, h1, h2, w, hw => by
    have hr : Valid r := fun x hx => h1 x (List.mem_cons_of_mem _ hx)
    by_cases h : TL.pre [32] (c :: r) = true
    · rw [TL.spl_hit h] at hw
      rcases List.mem_cons.mp hw with e | e
      · rw [e]
        exact h2
      · exact spl_valid r [] hr (fun x hx => by cases hx) w e
    · have e : TL.spl [32] 0 acc (c :: r) = TL.spl [32] 0 (acc ++ [c]) r := by
        show (if TL.pre [32] (c :: r) = true then _ else _) = _
        rw [if_neg h]
      rw [e] at hw
      refine spl_valid r (acc ++ [c]) hr (fun x hx => ?_) w hw
      rcases List.mem_append.mp hx with hx | hx
      · exact h2 x hx
      · rw [List.mem_singleton.mp hx]
        exact h1 c List.mem_cons_self
theorem splitW_valid {a : List Nat} (h : Valid a) : ∀ w ∈ splitW a, Valid w := spl_valid a [] h (fun x hx => by cases hx)
theorem spl_ne : ∀ (a acc : List Nat), TL.spl [32] 0 acc a ≠ []
  | [], acc => by rw [TL.spl_nil]; simp
  | c :: r, acc => by
    by_cases h : TL.pre [32] (c :: r) = true
    · rw [TL.spl_hit h]
      simp
    · have e : TL.spl [32] 0 acc (c :: r) = TL.spl [32] 0 (acc ++ [c]) r := by
        show (if TL.pre [32] (c :: r) = true then _ else _) = _
        rw [if_neg h]
      rw [e]
      exact spl_ne r _
theorem splitW_ne (a : List Nat) : splitW a ≠ [] := spl_ne a []

/-- the steps from the i-th word on, n at most -/
def goW (ws : List (List Nat)) (n i : Nat) : Option (List (List Nat × List Int)) × Nat := match stepW ws i with
  | (some s, j) => pre1 [s] (restW ws n j)
  | (none, j) => (none, j)
theorem readW_goW (ws : List (List Nat)) : readW ws = goW ws 399 0 := by
  unfold readW goW
  rcases stepW ws 0 with ⟨s, j⟩
  cases s with
  | none => rfl
  | some s =>
    simp only
    rcases restW ws 399 j with ⟨l, k⟩
    cases l <;> rfl
theorem pre1_pre1 (l m : List (List Nat × List Int)) (r : Option (List (List Nat × List Int)) × Nat) : pre1 l (pre1 m r) = pre1 (l ++ m) r := by
  rcases r with ⟨o, k⟩
  cases o with
  | none => rfl
  | some o => simp [pre1]
theorem restW_goW {ws : List (List Nat)} {n i : Nat} (h : i < ws.length) (h2 : ws[i]? = some [47]) : restW ws (n + 1) i = goW ws n (i + 1) := by
  unfold restW goW
  rw [if_pos h, if_pos h2]
  rcases stepW ws (i + 1) with ⟨s, j⟩
  cases s with
  | none => rfl
  | some s =>
    simp only
    rcases restW ws n j with ⟨l, k⟩
    cases l <;> rfl
/-- what _law_items gives -/
def itemsD (r : Option (List (List Nat × List Int)) × Nat) : PyData := match r with
  | (some l, _) => .tuple [.none, .list (l.map stepD)]
  | (none, k) => .tuple [.int (k : Nat), .list []]
theorem numW_some {ws : List (List Nat)} {j : Nat} {m : Option Int} {n : Int} (h : numW ws j m = some n) : ∃ b, ws[j]? = some b ∧ okD (dgl b) = true ∧ n = numOf b := by
  unfold numW at h
  cases hb : ws[j]? with
  | none =>
    rw [hb] at h
    cases h
  | some b =>
    rw [hb] at h
    simp only at h
    unfold numIn at h
    by_cases c : okN b = true
    · rw [if_pos c] at h
      simp only at h
      split at h
      · refine ⟨b, rfl, ?_, (Option.some.inj h).symm⟩
        unfold okN at c
        exact (Bool.and_eq_true_iff.mp c).1
      · cases h
    · rw [if_neg c] at h
      cases h
def sp_law_items (K : W.Frag) : Sp := fun vs H Q _ => ∃ a, vs = [.str (S a)] ∧ a.length + 2 ≤ sizeLine ∧ Valid a ∧ ∀ v H', Ext H H' → Dp K H' v (itemsD (readW (splitW a))) → Q v H'
theorem c_law_items (T : Txt K mg) : Cal prg w K mg base CX0 2 "_law_items" ["_law_text_here"] (sp_law_items K) := by
  refine T.d_law_items.cal sc_law_items (fun vs H Q E ⟨a, e, _⟩ => by rw [e]; rfl) fun f cdv A outer s H vs Q E hr h => ?_
  have nd := sc_law_items.nd
  obtain ⟨a, rfl, hl, hv, q⟩ := h
  refine ⟨_, PSs.nox (pss_cons (ps_par3 (i := 1) (j := 2) (l := 3) rfl nd rfl rfl rfl (by decide) (by decide) (by decide) rfl rfl rfl (pa_cons (pe_split (pv 0) pe_str) (pa_cons pe_int (pa_cons (pe_lst pa_nil) pa_nil))) (by rfl))
      (pss_one (ps_while PassesOwn.never (pt_val pe_bl) (pss_cons (ps_if (PW.pt (pw_or (pt_cmpR op_ge (pv 2) (pe_callB call_len_seq (by rfl) T.f_len (by decide +kernel) (pa_cons (pv 1) pa_nil)) (nomark _)) (pw_or1 (pt_cmpR L2.op_isN (pe_cl (c_law_bounds T) (hr.mono (by decide)) pass0 (pa_cons (pe_ix ix_list (pv 1) (pv 2) (fun _ _ => rfl)) pa_nil)) pe_non (nomark _))))) (pss_one (ps_ret (pe_tup (pa_cons (pv 2) (pa_cons (pe_lst pa_nil) pa_nil))))) pss_nil)
      (pss_cons (ps_par (i := 4) (j := 5) rfl nd rfl rfl (by decide) rfl rfl (pa_cons (pe_lst (pa_cons (pe_ix ix_list (pv 1) (pv 2) (fun _ _ => rfl)) pa_nil)) (pa_cons (pe_cl (c_law_bounds T) (hr.mono (by decide)) pass0 (pa_cons (pe_ix ix_list (pv 1) (pv 2) (fun _ _ => rfl)) pa_nil)) pa_nil)) (by rfl))
      (pss_cons (ps_for PassesOwn.never rfl (pi_list (pv 5)) (pg_name (i := 6) nd rfl (Or.inl rfl)) (pss_cons (ps_set (i := 2) nd rfl (Or.inl rfl) (pe_op op_add (pv 2) pe_int))
      (pss_cons (ps_if (PW.pt (pw_or (pt_cmpR op_ge (pv 2) (pe_callB call_len_seq (by rfl) T.f_len (by decide +kernel) (pa_cons (pv 1) pa_nil)) (nomark _)) (pw_or (pt_not (pt_val (pe_cl (c_law_is_number T) (hr.mono (by decide)) pass0 (pa_cons (pe_ix ix_list (pv 1) (pv 2) (fun _ _ => rfl)) pa_nil)))) (pw_or (pt_cmpR op_lt (pe_callTy call_int_str (by rfl) T.f_int (by decide +kernel) (pa_cons (pe_ix ix_list (pv 1) (pv 2) (fun _ _ => rfl)) pa_nil)) pe_int (nomark _)) (pw_or1 (PW.pt (pw_and (pt_cmpR op_notN (pv 6) pe_non (nomark _)) (pw_and1 (pt_cmpR op_gt (pe_callTy call_int_str (by rfl) T.f_int (by decide +kernel) (pa_cons (pe_ix ix_list (pv 1) (pv 2) (fun _ _ => rfl)) pa_nil)) (pv 6) (nomark _)))))))))) (pss_one (ps_ret (pe_tup (pa_cons (pv 2) (pa_cons (pe_lst pa_nil) pa_nil))))) pss_nil)
      (pss_one (ps_expr (pe_bm PySem.F.plainAttrs_list PySem.F.slot_list_append PySem.F.type_list_append mt_append (pv 4) (pa_cons (pe_callTy call_int_str (by rfl) T.f_int (by decide +kernel) (pa_cons (pe_ix ix_list (pv 1) (pv 2) (fun _ _ => rfl)) pa_nil)) pa_nil)))))))
      (pss_cons (ps_set (i := 2) nd rfl (Or.inl rfl) (pe_op op_add (pv 2) pe_int))
      (pss_cons (ps_expr (pe_bm PySem.F.plainAttrs_list PySem.F.slot_list_append PySem.F.type_list_append mt_append (pv 3) (pa_cons (pe_callTy call_tuple_of (by rfl) T.f_tuple (by decide +kernel) (pa_cons (pv 4) pa_nil)) pa_nil)))
      (pss_cons (ps_if (pt_cmpR op_ge (pv 2) (pe_callB call_len_seq (by rfl) T.f_len (by decide +kernel) (pa_cons (pv 1) pa_nil)) (nomark _)) (pss_one (ps_ret (pe_tup (pa_cons pe_non (pa_cons (pv 3) pa_nil))))) pss_nil)
      (pss_cons (ps_if (PW.pt (pw_or (pt_cmpR op_ne (pe_ix ix_list (pv 1) (pv 2) (fun _ _ => rfl)) pe_str (nomark _)) (pw_or1 (pt_cmpR op_eq (pe_callB call_len_seq (by rfl) T.f_len (by decide +kernel) (pa_cons (pv 3) pa_nil)) pe_int (nomark _))))) (pss_one (ps_ret (pe_tup (pa_cons (pv 2) (pa_cons (pe_lst pa_nil) pa_nil))))) pss_nil)
      (pss_one (ps_set (i := 2) nd rfl (Or.inl rfl) (pe_op op_add (pv 2) pe_int))))))))))))), ?_⟩
  obtain ⟨ws, hws⟩ : ∃ ws, ws = splitW a := ⟨_, rfl⟩
  have hwl : ∀ w ∈ ws, w.length ≤ sizeLine := by rw [hws]; exact splitW_len (by omega)
  have hwv : ∀ w ∈ ws, Valid w := by rw [hws]; exact splitW_valid hv
  have hwn : ws ≠ [] := by rw [hws]; exact splitW_ne a
  rw [← hws] at q
  refine cut_tseq (fun σ G => ∃ W D, σ = [some (.str (S a)), some (.ref W), some (.int ((0 : Nat) : Int)), some (.ref D), none, none, none] ∧ Ext H G ∧ H W = none ∧ H D = none ∧ W ≠ D ∧ G W = some (.lst ((ws.map S).map V.str)) ∧ G D = some (.lst [])) (fun D1 k1 => ?_) fun σ G1 ⟨W, D, eσ, e1, hW, hD, hWD, g1, g2⟩ => ?_
  · dsimp only [tRet, tRetN, tSeq, tAsg, tOp, tVar, tC, tCB, tCons, tNil, tAndV, tOrV, tNotV, tAnd, tOr, tNot, tTest, tIf, tIfS, tB, tChain, tSl, tPart, tNoPart, tLst, tTup, tFld, tCl, tMt, tMk, gName, tNext, tBM, tBM0, tUn, tSub, tPar, tPar3, gTup, gCons, gNil, tDrop, tMkS, tM1, sFld, StX.tStar, tYes, gSub, cxOf, Cx.wish, Cx.nox, Cx.blk]
    refine ⟨_, rfl, ⟨_, rfl⟩, S a, S [32], rfl, congrArg (fun z => [V.str z]) (by decide +kernel), rfl, by rw [S_len]; exact hl, fun W hW => ⟨Nat.zero_le _, fun D hD => ?_⟩⟩
    rw [SX.split_S (by simp) (by decide)] at hD ⊢
    have hWD : W ≠ D := ne_of_none upd_same hD
    refine ⟨_, _, _, rfl, k1 _ _ ⟨W, D, rfl, (Ext.upd hW).trans (Ext.upd hD), hW, ?_, hWD, ?_, upd_same⟩⟩
    · rw [upd_ne hWD.symm] at hD
      exact hD
    · rw [upd_ne hWD, upd_same, hws]
      rfl
  subst eσ
  -- the loop: at the head a step is to be read from the i-th word on
  refine ⟨fun m σ G => ∃ (i : Nat) (l : List (List Nat × List Int)) (vs : List V) (z1 z2 z3 : Option V), σ = [some (.str (S a)), some (.ref W), some (.int (i : Nat)), some (.ref D), z1, z2, z3] ∧ Ext H G ∧ G W = some (.lst ((ws.map S).map V.str)) ∧ G D = some (.lst vs) ∧ DpAll K G vs (l.map stepD) ∧ l.length < 400 ∧ readW ws = pre1 l (goW ws (399 - l.length) i) ∧ m = 400 - l.length, ⟨400, 0, [], [], _, _, _, rfl, e1, g1, g2, .nil, by decide, ?_, rfl⟩, ?_⟩
  · rw [readW_goW]
    show _ = pre1 [] (goW ws 399 0)
    rcases goW ws 399 0 with ⟨o, k⟩
    cases o <;> rfl
  rintro m σ G ⟨i, l, vs, z1, z2, z3, rfl, eG, hWG, hDG, hAG, hl4, hrd, rfl⟩
  refine ⟨_, rfl, if_t rfl ⟨fun σ' H' => ∃ m', m' < 400 - l.length ∧ _, fun _ _ h => h, ?_⟩⟩
  have wlen : ((ws.map S).map V.str).length = ws.length := by rw [List.length_map, List.length_map]
  have wat : ∀ {j : Nat} {b : List Nat}, ws[j]? = some b → atI ((ws.map S).map V.str) ((j : Nat) : Int) = some (.str (S b)) := fun {j b} h => atI_nat (by rw [List.getElem?_map, List.getElem?_map, h]; rfl)
  -- an answer (at, [])
  have ans : ∀ (σ' : L2.St) (D' : Ends) (G' : Hp) (k : Nat), D'.rt = Q → σ'[2]? = some (some (.int (k : Nat))) → Ext H G' → readW ws = (none, k) → tRet (tTup (tCons (tVar 2) (tCons (tLst tNil) tNil))) D' σ' G' := by
    intro σ' D' G' k hD' hσ e hr
    refine ⟨_, hσ, Nat.zero_le _, fun p hp => ⟨by show 2 ≤ sizeLine; decide, fun t ht => ?_⟩⟩
    rw [hD']
    have e2 : Ext G' (upd (upd G' p (.lst [])) t (.tup [.int (k : Nat), .ref p])) := (Ext.upd hp).trans (Ext.upd ht)
    refine q _ _ (e.trans e2) ?_
    rw [hr]
    refine .tup (SqT.of upd_same) (.cons (.int _) (.cons (.lst (SqL.of ?_) .nil) .nil))
    rw [upd_ne (ne_of_none upd_same ht), upd_same]
  refine cut_ifn (fun c G2 => c = (match ws[i]? with | none => true | some b => (lookB b).isNone) ∧ Ext G G2) (fun Q1 k1 => ?_) fun c G2 ⟨ec, e2⟩ => ?_
  · dsimp only [tRet, tRetN, tSeq, tAsg, tOp, tVar, tC, tCB, tCons, tNil, tAndV, tOrV, tNotV, tAnd, tOr, tNot, tTest, tIf, tIfS, tB, tChain, tSl, tPart, tNoPart, tLst, tTup, tFld, tCl, tMt, tMk, gName, tNext, tBM, tBM0, tUn, tSub, tPar, tPar3, gTup, gCons, gNil, tDrop, tMkS, tM1, sFld, StX.tStar, tYes, gSub, cxOf, Cx.wish, Cx.nox, Cx.blk]
    refine ⟨_, rfl, _, rfl, W, _, rfl, .inl (SqL.of hWG), _, _, rfl, rfl, _, rfl, ?_⟩
    rw [wlen]
    refine ite2 (fun c => k1 _ _ ⟨?_, Ext.rfl'⟩) fun c => ?_
    · have c : ws.length ≤ i := by
        have := of_decide_eq_true c
        omega
      rw [List.getElem?_eq_none c]
    · have c : i < ws.length := by
        have z : ¬ ((ws.length : Int) ≤ (i : Int)) := by simpa using c
        omega
      have hb : ws[i]? = some ws[i] := List.getElem?_eq_getElem c
      refine ⟨_, rfl, _, rfl, W, _, _, _, rfl, rfl, SqL.of hWG, wat hb, ws[i], rfl, fun u G2 e2 hu => ⟨rfl, _, rfl, k1 _ _ ⟨?_, e2⟩⟩⟩
      rw [hb]
      unfold LBV at hu
      cases hk : lookB ws[i] with
      | none =>
        rw [hk] at hu
        have hu : u = .non := hu
        rw [hu]
        simp [hk]
      | some bs =>
        rw [hk] at hu
        obtain ⟨L, ys, rfl, _⟩ := Dp.lstV hu
        simp [hk]
  have hno : (match ws[i]? with | none => true | some b => (lookB b).isNone) = true → stepW ws i = (none, i) := by
    unfold stepW
    cases ws[i]? with
    | none => exact fun _ => rfl
    | some b =>
      intro h
      have h : (lookB b).isNone = true := h
      rw [Option.isNone_iff_eq_none] at h
      simp only [h]
  have hyes : (match ws[i]? with | none => true | some b => (lookB b).isNone) = false → ∃ b bs, ws[i]? = some b ∧ lookB b = some bs := by
    cases ws[i]? with
    | none => exact fun z => by cases z
    | some b =>
      intro h
      have h : (lookB b).isNone = false := h
      cases e : lookB b with
      | none =>
        rw [e] at h
        cases h
      | some bs => exact ⟨b, bs, rfl, e⟩
  have eG2 : Ext H G2 := eG.trans e2
  cases hc : (match ws[i]? with | none => true | some b => (lookB b).isNone) with
  | true =>
    rw [hc] at ec
    refine if_t ec (ans _ _ _ i rfl rfl eG2 ?_)
    rw [hrd, goW, hno hc]
    rfl
  | false =>
    rw [hc] at ec
    refine if_f ec ?_
    obtain ⟨b, bs, hb, hk⟩ := hyes hc
    have hi : i < ws.length := (List.getElem?_eq_some_iff.mp hb).1
    have hst : stepW ws i = match takeN ws (i + 1) bs with
      | (some l, j) => (some (b, l), j)
      | (none, j) => (none, j) := by
        rw [stepW, hb]
        simp only [hk]
        all_goals rfl
    have hW2 := e2 _ _ hWG
    have hD2 := e2 _ _ hDG
    refine cut_tseq (fun σ G3 => ∃ T L, σ = [some (.str (S a)), some (.ref W), some (.int (i : Nat)), some (.ref D), some (.ref T), some (.ref L), z3] ∧ Ext G2 G3 ∧ G2 T = none ∧ G3 T = some (.lst [.str (S b)]) ∧ Dp K G3 (.ref L) (.list (bs.map mostD))) (fun D1 k1 => ?_) fun σ G3 ⟨T, L, eσ, e3, hT2, hT3, hL3⟩ => ?_
    · dsimp only [tRet, tRetN, tSeq, tAsg, tOp, tVar, tC, tCB, tCons, tNil, tAndV, tOrV, tNotV, tAnd, tOr, tNot, tTest, tIf, tIfS, tB, tChain, tSl, tPart, tNoPart, tLst, tTup, tFld, tCl, tMt, tMk, gName, tNext, tBM, tBM0, tUn, tSub, tPar, tPar3, gTup, gCons, gNil, tDrop, tMkS, tM1, sFld, StX.tStar, tYes, gSub, cxOf, Cx.wish, Cx.nox, Cx.blk]
      refine ⟨_, rfl, _, rfl, W, _, _, _, rfl, rfl, SqL.of hW2, wat hb, by show 1 ≤ sizeLine; decide, fun T hT => ?_⟩
      refine ⟨_, rfl, _, rfl, W, _, _, _, rfl, rfl, SqL.of (Ext.upd hT _ _ hW2), wat hb, b, rfl, fun u G3 e3 hu => ?_⟩
      unfold LBV at hu
      rw [hk] at hu
      have hu : Dp K G3 u (.list (bs.map mostD)) := hu
      obtain ⟨L, ys, rfl, _⟩ := Dp.lstV hu
      exact ⟨_, _, rfl, k1 _ _ ⟨T, L, rfl, (Ext.upd hT).trans e3, hT, e3 _ _ upd_same, hu⟩⟩
    subst eσ
    obtain ⟨L', ys, eL, hL, hA⟩ := Dp.lstV hL3
    cases eL
    have hlen : ys.length = bs.length := by rw [DpAll.length hA, List.length_map]
    have hl2 := lookB_len hk
    have hWT : W ≠ T := ne_of_none hW2 hT2
    have hDT : D ≠ T := ne_of_none hD2 hT2
    have hHT : ∀ bb o, H bb = some o → bb ≠ T := fun bb o h => ne_of_none (eG2 _ _ h) hT2
    have stay : ∀ G, ExtP T G3 G → SqL K G L ys := fun G e => by
      refine sqL_extQ hL e fun ys' hr => ?_
      have hys : ys' = [.str (S b)] := by
        rcases hr with hr | ⟨o, hr⟩
        · rw [hT3] at hr
          exact (HO.lst.inj (Option.some.inj hr)).symm
        · rw [hT3] at hr
          cases hr
      rw [hys]
      intro z
      rw [← z] at hA
      cases bs with
      | nil => cases hA
      | cons m mr =>
        cases hA with
        | cons h1 _ => cases m <;> cases h1
    refine cut_tseq (fun σ G4 => ∃ l2 z, σ = [some (.str (S a)), some (.ref W), some (.int ((i + bs.length : Nat) : Int)), some (.ref D), some (.ref T), some (.ref L), z] ∧ takeN ws (i + 1) bs = (some l2, i + 1 + bs.length) ∧ ExtP T G3 G4 ∧ G4 T = some (.lst (.str (S b) :: l2.map .int))) (fun D1 k1 => ?_) fun σ G4 ⟨l2, z, eσ, hl, e4, hT4⟩ => ?_
    · refine ⟨_, rfl, L, rfl, ⟨ys, hL⟩, for_it (walk_list (xs := ys)) (fun k σ G4 => ∃ l2 z, σ = [some (.str (S a)), some (.ref W), some (.int ((i + k : Nat) : Int)), some (.ref D), some (.ref T), some (.ref L), z] ∧ takeN ws (i + 1) (bs.take k) = (some l2, i + 1 + k) ∧ ExtP T G3 G4 ∧ G4 T = some (.lst (.str (S b) :: l2.map .int))) ⟨[], _, rfl, rfl, ExtP.refl _ _, hT3⟩ (fun k σ G _ ⟨_, _, _, _, e, _⟩ => stay G e) ?_ ?_⟩
      · rintro k x σ G4 G5 hk2 ⟨l2, z, rfl, hl, e4, hT4⟩ ⟨rfl, hx⟩
        obtain ⟨d, hd, hp⟩ := DpAll.getV hA hx
        rw [List.getElem?_map] at hd
        cases em : bs[k]? with
        | none =>
          rw [em] at hd
          cases hd
        | some m =>
          rw [em] at hd
          cases hd
          have ex : x = mostV m := by
            cases m with
            | none => exact Dp.nonV hp
            | some m => exact Dp.intV hp
          subst ex
          obtain ⟨good, bad⟩ := takeN_at ws em hl
          have hW5 := e4 _ _ hWT (e3 _ _ hW2)
          have e05 : Ext H G5 := fun o u h => e4 _ _ (hHT _ _ h) (e3 _ _ (eG2 _ _ h))
          dsimp only [gName]
          refine cut_asg (fun v G => v = .int ((i + 1 + k : Nat) : Int) ∧ G = G5) (fun Q1 k1 => ?_) fun v G6 ⟨ev, eG6⟩ => ?_
          · dsimp only [tRet, tRetN, tSeq, tAsg, tOp, tVar, tC, tCB, tCons, tNil, tAndV, tOrV, tNotV, tAnd, tOr, tNot, tTest, tIf, tIfS, tB, tChain, tSl, tPart, tNoPart, tLst, tTup, tFld, tCl, tMt, tMk, gName, tNext, tBM, tBM0, tUn, tSub, tPar, tPar3, gTup, gCons, gNil, tDrop, tMkS, tM1, sFld, StX.tStar, tYes, gSub, cxOf, Cx.wish, Cx.nox, Cx.blk]
            exact ⟨_, rfl, _, _, rfl, rfl, k1 _ _ ⟨congrArg V.int (by push_cast; omega), rfl⟩⟩
          subst ev eG6
          refine cut_ifn (fun c G7 => c = (numW ws (i + 1 + k) m).isNone ∧ Ext G6 G7) (fun Q1 k1 => ?_) fun c G7 ⟨ec, e7⟩ => ?_
          · dsimp only [tRet, tRetN, tSeq, tAsg, tOp, tVar, tC, tCB, tCons, tNil, tAndV, tOrV, tNotV, tAnd, tOr, tNot, tTest, tIf, tIfS, tB, tChain, tSl, tPart, tNoPart, tLst, tTup, tFld, tCl, tMt, tMk, gName, tNext, tBM, tBM0, tUn, tSub, tPar, tPar3, gTup, gCons, gNil, tDrop, tMkS, tM1, sFld, StX.tStar, tYes, gSub, cxOf, Cx.wish, Cx.nox, Cx.blk]
            refine ⟨_, rfl, _, rfl, W, _, rfl, .inl (SqL.of hW5), _, _, rfl, rfl, _, rfl, ?_⟩
            rw [wlen]
            refine ite2 (fun c => k1 _ _ ⟨?_, Ext.rfl'⟩) fun c => ?_
            · have c : ws.length ≤ i + 1 + k := by
                have := of_decide_eq_true c
                omega
              rw [numW, List.getElem?_eq_none c]
              rfl
            · have c : i + 1 + k < ws.length := by
                have z : ¬ ((ws.length : Int) ≤ ((i + 1 + k : Nat) : Int)) := by simpa using c
                omega
              have hb2 : ws[i + 1 + k]? = some ws[i + 1 + k] := List.getElem?_eq_getElem c
              have hmem : ws[i + 1 + k] ∈ ws := List.getElem_mem c
              refine ⟨_, rfl, _, rfl, W, _, _, _, rfl, rfl, SqL.of hW5, wat hb2, ws[i + 1 + k], rfl, hwl _ hmem, hwv _ hmem, fun G7 e7 => ⟨_, rfl, ?_⟩⟩
              have hnw : numW ws (i + 1 + k) m = match numIn ws[i + 1 + k] with
                | some n => if within (.int n) 0 m = true then some n else none
                | none => none := by
                unfold numW
                rw [hb2]
                all_goals rfl
              cases hok : okN ws[i + 1 + k] with
              | false =>
                refine if_t rfl (k1 _ _ ⟨?_, e7⟩)
                rw [hnw, numIn, hok]
                rfl
              | true =>
                refine if_f rfl ?_
                rw [numIn, if_pos hok] at hnw
                have hokd : okD (dgl ws[i + 1 + k]) = true := by
                  unfold okN at hok
                  exact (Bool.and_eq_true_iff.mp hok).1
                have h640 : (S ws[i + 1 + k]).length ≤ 640 := by
                  rw [S_len]
                  have h1 := (dgl_len ws[i + 1 + k]).2
                  unfold okD at hokd
                  simp only [Bool.and_eq_true, decide_eq_true_eq] at hokd
                  omega
                have hW7 := e7 _ _ hW5
                refine ⟨_, rfl, _, rfl, W, _, _, _, rfl, rfl, SqL.of hW7, wat hb2, _, _, rfl, num_text hokd, h640, _, _, rfl, rfl, _, rfl, ?_⟩
                refine ite2 (fun c1 => k1 _ _ ⟨?_, e7⟩) fun c1 => ?_
                · have c1 : ¬ 0 ≤ numOf ws[i + 1 + k] := by
                    have := of_decide_eq_true c1
                    omega
                  rw [hnw]
                  simp [within, c1]
                · have c1 : 0 ≤ numOf ws[i + 1 + k] := by
                    have z : ¬ numOf ws[i + 1 + k] < 0 := by simpa using c1
                    omega
                  cases m with
                  | none => exact ⟨_, rfl, rfl, _, rfl, if_f (by simp [mostV]) (k1 _ _ ⟨by rw [hnw]; simp [within, c1], e7⟩)⟩
                  | some m =>
                    refine ⟨_, rfl, rfl, _, rfl, if_t (by simp [mostV]) ⟨_, rfl, _, rfl, W, _, _, _, rfl, rfl, SqL.of hW7, wat hb2, _, _, rfl, num_text hokd, h640, _, rfl, _, _, rfl, rfl, _, rfl, k1 _ _ ⟨?_, e7⟩⟩⟩
                    rw [hnw]
                    simp only [within, c1, decide_true, Bool.true_and]
                    by_cases c2 : numOf ws[i + 1 + k] ≤ m
                    · simp [c2]
                    · simp [c2]
                      omega
          cases hn : numW ws (i + 1 + k) m with
          | none =>
            rw [hn] at ec
            refine if_t ec (ans _ _ _ (i + 1 + k) rfl rfl (e05.trans e7) ?_)
            rw [hrd, goW, hst, bad hn]
            rfl
          | some n =>
            rw [hn] at ec
            refine if_f ec ?_
            have hT7 := e7 _ _ hT4
            have hW7 := e7 _ _ hW5
            obtain ⟨b2, hb2, hokd, en⟩ := numW_some hn
            have h640 : (S b2).length ≤ 640 := by
              rw [S_len]
              have h1 := (dgl_len b2).2
              unfold okD at hokd
              simp only [Bool.and_eq_true, decide_eq_true_eq] at hokd
              omega
            subst en
            dsimp only [tRet, tRetN, tSeq, tAsg, tOp, tVar, tC, tCB, tCons, tNil, tAndV, tOrV, tNotV, tAnd, tOr, tNot, tTest, tIf, tIfS, tB, tChain, tSl, tPart, tNoPart, tLst, tTup, tFld, tCl, tMt, tMk, gName, tNext, tBM, tBM0, tUn, tSub, tPar, tPar3, gTup, gCons, gNil, tDrop, tMkS, tM1, sFld, StX.tStar, tYes, gSub, cxOf, Cx.wish, Cx.nox, Cx.blk]
            refine ⟨_, rfl, .inl ⟨rfl, _, SqL.of hT7⟩, _, rfl, _, rfl, W, _, _, _, rfl, rfl, SqL.of hW7, wat hb2, _, _, rfl, num_text hokd, h640, T, _, _, rfl, rfl, hT7, ?_, l2 ++ [numOf b2], some (mostV m), ?_, good _ hn, fun o u ho h => ?_, ?_⟩
            · have h1 : k < bs.length := (List.getElem?_eq_some_iff.mp em).1
              have h2 := (takeN_pos ws _ _ _ _ hl).2
              rw [List.length_take] at h2
              rw [List.length_cons, List.length_map, h2]
              exact small1000 (by omega)
            · show _ = [some (.str (S a)), some (.ref W), some (.int ((i + (k + 1) : Nat) : Int)), some (.ref D), some (.ref T), some (.ref L), some (mostV m)]
              rw [show i + (k + 1) = i + 1 + k by omega]
              rfl
            · rw [upd_ne ho]
              exact e7 _ _ (e4 _ _ ho h)
            · rw [upd_same, List.map_append]
              rfl
      · rintro σ G4 ⟨l2, z, rfl, hl, e4, hT4⟩
        rw [hlen, List.take_of_length_le (Nat.le_refl _)] at hl
        rw [hlen]
        exact k1 _ _ ⟨l2, z, rfl, hl, e4, hT4⟩
    subst eσ
    have hj : i + 1 + bs.length = i + bs.length + 1 := by omega
    have hst2 : stepW ws i = (some (b, l2), i + 1 + bs.length) := by rw [hst, hl]
    have hrd2 : readW ws = pre1 (l ++ [(b, l2)]) (restW ws (399 - l.length) (i + 1 + bs.length)) := by
      rw [hrd, goW, hst2]
      exact pre1_pre1 _ _ _
    have hW4 := e4 _ _ hWT (e3 _ _ hW2)
    have hD4 := e4 _ _ hDT (e3 _ _ hD2)
    have e04 : Ext H G4 := fun o u h => e4 _ _ (hHT _ _ h) (e3 _ _ (eG2 _ _ h))
    have hA4 : DpAll K G4 vs (l.map stepD) := steps_extP e4 (lst_noT hT3) (DpAll.ext (e2.trans e3) hAG)
    have hl22 : l2.length ≤ 2 := by
      have := (takeN_pos ws _ _ _ _ hl).2
      omega
    refine cut_asg (fun v G => v = .int ((i + 1 + bs.length : Nat) : Int) ∧ G = G4) (fun Q1 k1 => ?_) fun v G5 ⟨ev, eG5⟩ => ?_
    · dsimp only [tRet, tRetN, tSeq, tAsg, tOp, tVar, tC, tCB, tCons, tNil, tAndV, tOrV, tNotV, tAnd, tOr, tNot, tTest, tIf, tIfS, tB, tChain, tSl, tPart, tNoPart, tLst, tTup, tFld, tCl, tMt, tMk, gName, tNext, tBM, tBM0, tUn, tSub, tPar, tPar3, gTup, gCons, gNil, tDrop, tMkS, tM1, sFld, StX.tStar, tYes, gSub, cxOf, Cx.wish, Cx.nox, Cx.blk]
      exact ⟨_, rfl, _, _, rfl, rfl, k1 _ _ ⟨congrArg V.int (by push_cast; omega), rfl⟩⟩
    subst ev eG5
    refine cut_drop (fun _ G6 => ∃ p, Ext H G6 ∧ G6 W = some (.lst ((ws.map S).map V.str)) ∧ G6 D = some (.lst (vs ++ [.ref p])) ∧ DpAll K G6 (vs ++ [.ref p]) ((l ++ [(b, l2)]).map stepD)) (fun Q1 k1 => ?_) fun v G6 ⟨p, e6, hW6, hD6, hA6⟩ => ?_
    · dsimp only [tRet, tRetN, tSeq, tAsg, tOp, tVar, tC, tCB, tCons, tNil, tAndV, tOrV, tNotV, tAnd, tOr, tNot, tTest, tIf, tIfS, tB, tChain, tSl, tPart, tNoPart, tLst, tTup, tFld, tCl, tMt, tMk, gName, tNext, tBM, tBM0, tUn, tSub, tPar, tPar3, gTup, gCons, gNil, tDrop, tMkS, tM1, sFld, StX.tStar, tYes, gSub, cxOf, Cx.wish, Cx.nox, Cx.blk]
      refine ⟨_, rfl, .inl ⟨rfl, _, SqL.of hD4⟩, _, rfl, T, _, rfl, .inl ⟨SqL.of hT4, fun p hp => ⟨D, vs, _, rfl, rfl, Ext.upd hp _ _ hD4, ?_, k1 _ _ ⟨p, fun o u h => ?_, ?_, upd_same, ?_⟩⟩⟩⟩
      · have := DpAll.length hA4
        rw [List.length_map] at this
        exact small1000 (by omega)
      · rw [upd_ne (ne_of_none h hD)]
        exact Ext.upd hp _ _ (e04 _ _ h)
      · rw [upd_ne hWD]
        exact Ext.upd hp _ _ hW4
      · have hDp : D ≠ p := ne_of_none hD4 hp
        have hD5 : upd G5 p (.tup (.str (S b) :: l2.map .int)) D = some (.lst vs) := by
          rw [upd_ne hDp]
          exact hD4
        rw [List.map_append]
        refine DpAll.app (steps_extP (extP_upd D _ _) (lst_noT hD5) (DpAll.ext (Ext.upd hp) hA4)) (.cons (step_extP (s := (b, l2)) (.tup (SqT.of upd_same) (.cons (.str _) (DpAll.ints _))) (extP_upd D _ _) (lst_noT hD5)) .nil)
    refine cut_ifn (fun c G => c = decide (ws.length ≤ i + 1 + bs.length) ∧ G = G6) (fun Q1 k1 => ?_) fun c G7 ⟨ec, eG7⟩ => ?_
    · dsimp only [tRet, tRetN, tSeq, tAsg, tOp, tVar, tC, tCB, tCons, tNil, tAndV, tOrV, tNotV, tAnd, tOr, tNot, tTest, tIf, tIfS, tB, tChain, tSl, tPart, tNoPart, tLst, tTup, tFld, tCl, tMt, tMk, gName, tNext, tBM, tBM0, tUn, tSub, tPar, tPar3, gTup, gCons, gNil, tDrop, tMkS, tM1, sFld, StX.tStar, tYes, gSub, cxOf, Cx.wish, Cx.nox, Cx.blk]
      refine ⟨_, rfl, _, rfl, W, _, rfl, .inl (SqL.of hW6), _, _, rfl, rfl, _, rfl, k1 _ _ ⟨?_, rfl⟩⟩
      rw [wlen, Bool.eq_iff_iff, decide_eq_true_eq, decide_eq_true_eq]
      omega
    subst ec eG7
    by_cases c1 : ws.length ≤ i + 1 + bs.length
    · refine if_t (decide_eq_true c1) ?_
      dsimp only [tRet, tRetN, tSeq, tAsg, tOp, tVar, tC, tCB, tCons, tNil, tAndV, tOrV, tNotV, tAnd, tOr, tNot, tTest, tIf, tIfS, tB, tChain, tSl, tPart, tNoPart, tLst, tTup, tFld, tCl, tMt, tMk, gName, tNext, tBM, tBM0, tUn, tSub, tPar, tPar3, gTup, gCons, gNil, tDrop, tMkS, tM1, sFld, StX.tStar, tYes, gSub, cxOf, Cx.wish, Cx.nox, Cx.blk]
      refine ⟨_, rfl, by show 2 ≤ sizeLine; decide, fun t ht => q _ _ (e6.trans (Ext.upd ht)) ?_⟩
      rw [hrd2, restW_end (by omega)]
      show Dp K _ _ (.tuple [.none, .list ((l ++ [(b, l2)] ++ []).map stepD)])
      rw [List.append_nil]
      exact .tup (SqT.of upd_same) (.cons .non (.cons (.lst (SqL.of (Ext.upd ht _ _ hD6)) (DpAll.ext (Ext.upd ht) hA6)) .nil))
    · refine if_f (decide_eq_false c1) ?_
      have c1 : i + 1 + bs.length < ws.length := by omega
      have hb2 : ws[i + 1 + bs.length]? = some ws[i + 1 + bs.length] := List.getElem?_eq_getElem c1
      have hlen6 : (vs ++ [V.ref p]).length = l.length + 1 := by
        have := DpAll.length hA6
        rw [List.length_map] at this
        rw [this, List.length_append]
        rfl
      refine cut_ifn (fun c G => c = (!decide (ws[i + 1 + bs.length] = [47]) || decide (l.length = 399)) ∧ G = G7) (fun Q1 k1 => ?_) fun c G8 ⟨ec, eG8⟩ => ?_
      · dsimp only [tRet, tRetN, tSeq, tAsg, tOp, tVar, tC, tCB, tCons, tNil, tAndV, tOrV, tNotV, tAnd, tOr, tNot, tTest, tIf, tIfS, tB, tChain, tSl, tPart, tNoPart, tLst, tTup, tFld, tCl, tMt, tMk, gName, tNext, tBM, tBM0, tUn, tSub, tPar, tPar3, gTup, gCons, gNil, tDrop, tMkS, tM1, sFld, StX.tStar, tYes, gSub, cxOf, Cx.wish, Cx.nox, Cx.blk]
        refine ⟨_, rfl, _, rfl, W, _, _, _, rfl, rfl, SqL.of hW6, wat hb2, rNe_S (b := [47]) (by decide +kernel) ⟨_, rfl, ?_⟩⟩
        refine ite2 (fun c => k1 _ _ ⟨?_, rfl⟩) fun c => ⟨_, rfl, D, _, rfl, .inl (SqL.of hD6), rfl, _, rfl, k1 _ _ ⟨?_, rfl⟩⟩
        · rw [c]
          rfl
        · rw [hlen6, dec_int, show (!decide (ws[i + 1 + bs.length] = [47])) = false by simpa using c, Bool.false_or, Bool.eq_iff_iff]
          simp
          omega
      subst ec eG8
      by_cases c2 : ws[i + 1 + bs.length] = [47] ∧ l.length ≠ 399
      · refine if_f (by simp [c2.1, c2.2]) ?_
        dsimp only [tRet, tRetN, tSeq, tAsg, tOp, tVar, tC, tCB, tCons, tNil, tAndV, tOrV, tNotV, tAnd, tOr, tNot, tTest, tIf, tIfS, tB, tChain, tSl, tPart, tNoPart, tLst, tTup, tFld, tCl, tMt, tMk, gName, tNext, tBM, tBM0, tUn, tSub, tPar, tPar3, gTup, gCons, gNil, tDrop, tMkS, tM1, sFld, StX.tStar, tYes, gSub, cxOf, Cx.wish, Cx.nox, Cx.blk]
        refine ⟨_, rfl, _, _, rfl, rfl, 400 - (l ++ [(b, l2)]).length, ?_, i + 1 + bs.length + 1, l ++ [(b, l2)], _, _, _, _, rfl, e6, hW6, hD6, hA6, ?_, ?_, rfl⟩
        · rw [List.length_append, List.length_singleton]
          omega
        · rw [List.length_append, List.length_singleton]
          omega
        · rw [hrd2, List.length_append, List.length_singleton]
          obtain ⟨n, hn⟩ : ∃ n, 399 - l.length = n + 1 := ⟨399 - l.length - 1, by omega⟩
          rw [hn, restW_goW c1 (by rw [hb2, c2.1])]
          congr 2
          omega
      · refine if_t ?_ (ans _ _ _ (i + 1 + bs.length) rfl rfl e6 ?_)
        · by_cases c3 : ws[i + 1 + bs.length] = [47]
          · have : l.length = 399 := by
              by_cases c4 : l.length = 399
              · exact c4
              · exact absurd ⟨c3, c4⟩ c2
            simp [c3, this]
          · simp [c3]
        · rw [hrd2]
          by_cases c3 : ws[i + 1 + bs.length] = [47]
          · have : l.length = 399 := by
              by_cases c4 : l.length = 399
              · exact c4
              · exact absurd ⟨c3, c4⟩ c2
            rw [this, restW_full c1]
            rfl
          · cases h399 : 399 - l.length with
            | zero =>
              rw [restW_full c1]
              rfl
            | succ n =>
              rw [restW_no c1 (by rw [hb2]; exact fun z => c3 (Option.some.inj z))]
              rfl
end
end K80

end
section
/-! K80k: bent scripts. -/
namespace K80
open PySem L2 Ow
open PySem.Spec PyProof.Rows
/-! ### small data -/
def fineB : Nat → PyData → Bool
  | _, .none => true
  | _, .bool _ => true
  | _, .int i => decide (i.natAbs < 10 ^ 59)
  | _, .str x => decide (x.length ≤ 1000) && PyData.strOk x
  | _, .dict _ => false
  | n + 1, .list xs => xs.all (fineB n)
  | n + 1, .tuple xs => xs.all (fineB n)
  | 0, .list _ => false
  | 0, .tuple _ => false
theorem fine_lay : ∀ (n : Nat) (d : PyData), fineB n d = true → PyData.canLay0 d = true ∧ PyData.depth d ≤ n + 1
  | _, .none, _ => ⟨rfl, Nat.zero_le _⟩
  | _, .bool _, _ => ⟨rfl, Nat.zero_le _⟩
  | _, .int _, _ => ⟨rfl, Nat.zero_le _⟩
  | _, .str x, h => by
    simp only [fineB, Bool.and_eq_true] at h
    exact ⟨h.2, Nat.zero_le _⟩
  | _, .dict _, h => by simp [fineB] at h
  | n + 1, .list xs, h => by
    simp only [fineB] at h
    have z := lay_all (ds := xs) (n := n + 1) |>.mpr fun x hx => fine_lay n x (List.all_eq_true.mp h x hx)
    simp only [PyData.canLay0, PyData.depth]
    exact ⟨z.1, by have := z.2; omega⟩
  | n + 1, .tuple xs, h => by
    simp only [fineB] at h
    have z := lay_all (ds := xs) (n := n + 1) |>.mpr fun x hx => fine_lay n x (List.all_eq_true.mp h x hx)
    simp only [PyData.canLay0, PyData.depth]
    exact ⟨z.1, by have := z.2; omega⟩
  | 0, .list _, h => by simp [fineB] at h
  | 0, .tuple _, h => by simp [fineB] at h
theorem fine_shaped {n : Nat} {d : PyData} (h : fineB n d = true) (hn : n ≤ 63) : SeqAt.shaped d = true := by
  obtain ⟨h1, h2⟩ := fine_lay n d h
  simp [SeqAt.shaped, h1]
  omega
theorem fine_items {n : Nat} {d : PyData} (h : fineB (n + 1) d = true) : ∀ x ∈ dItems d, fineB n x = true := by
  cases d with
  | list xs =>
    simp only [fineB] at h
    exact fun x hx => List.all_eq_true.mp h x hx
  | tuple xs =>
    simp only [fineB] at h
    exact fun x hx => List.all_eq_true.mp h x hx
  | _ => exact fun x hx => by cases hx
theorem fine_item {n : Nat} {d : PyData} (h : fineB n d = true) (hs : dStr d = true ∨ ∃ i, d = .int i ∧ 0 ≤ i) : itemOk d := by
  cases d with
  | str x =>
    cases n <;> (simp only [fineB, Bool.and_eq_true, decide_eq_true_eq] at h; exact h.1)
  | int i =>
    rcases hs with hs | ⟨j, e, hj⟩
    · cases hs
    · cases e
      refine ⟨hj, ?_⟩
      have h2 : i.natAbs < 10 ^ 59 := by cases n <;> simpa [fineB] using h
      omega
  | _ =>
    rcases hs with hs | ⟨j, e, _⟩
    · cases hs
    · cases e
/-- a script of fine data has a text -/
theorem step_items {d : PyData} (h : isStep d = true) : ∀ x ∈ dItems d, dStr x = true ∨ ∃ i, x = .int i ∧ 0 ≤ i := by
  unfold isStep at h
  obtain ⟨_, h⟩ := Bool.and_eq_true_iff.mp h
  generalize dItems d = ds at h
  unfold stepItems at h
  split at h
  · rename_i x ns
    split at h
    · cases h
    · rename_i bs hb
      obtain ⟨h1, h2⟩ := Bool.and_eq_true_iff.mp h
      have h1 := of_decide_eq_true h1
      intro y hy
      rcases List.mem_cons.mp hy with e | e
      · rw [e]
        exact .inl rfl
      · obtain ⟨i, hi, ei⟩ := List.getElem_of_mem e
        have hib : i < bs.length := by omega
        have hz : (ns.zip bs)[i]? = some (y, bs[i]) := by
          rw [List.getElem?_zip_eq_some]
          exact ⟨by rw [← ei]; exact List.getElem?_eq_getElem hi, List.getElem?_eq_getElem hib⟩
        have hw := List.all_eq_true.mp h2 _ (List.mem_of_getElem? hz)
        cases y with
        | int n =>
          simp only [within, Bool.and_eq_true, decide_eq_true_eq] at hw
          exact .inr ⟨n, rfl, hw.1⟩
        | _ => cases hw
  · cases h
theorem fine_script {d : PyData} (h : fineB 4 d = true) (hs : isScript d = true) : scriptOk d := by
  unfold isScript at hs
  simp only [Bool.and_eq_true] at hs
  intro e he x hx
  have h1 := fine_items (n := 3) h e he
  exact fine_item (fine_items (n := 2) h1 x hx) (step_items (List.all_eq_true.mp hs.2.2 e he) x hx)
/-! ### rows -/
abbrev stepL (s : List Nat × List Int) : List V := .str (S s.1) :: s.2.map .int
abbrev stepDL (s : List Nat × List Int) : List PyData := .str (S s.1) :: s.2.map .int
theorem stepL_dp {K : W.Frag} {H : Hp} (s : List Nat × List Int) : DpAll K H (stepL s) (stepDL s) := .cons (.str _) (DpAll.ints _)
theorem word_fine {a : List Nat} {bs : List (Option Int)} (h : lookB a = some bs) : a.length ≤ 5 ∧ ∀ c ∈ a, 97 ≤ c ∧ c ≤ 122 := by
  have z : boundsOf.all (fun p => decide (p.1.length ≤ 5) && p.1.all fun c => decide (97 ≤ c) && decide (c ≤ 122)) = true := by decide +kernel
  have z2 := List.all_eq_true.mp z _ (lookB_mem h)
  simp only [Bool.and_eq_true, decide_eq_true_eq, List.all_eq_true] at z2
  exact ⟨z2.1, fun c hc => z2.2 c hc⟩
theorem step_fine {s : List Nat × List Int} (h : StepOk s) : ∀ x ∈ stepDL s, fineB 2 x = true := by
  obtain ⟨bs, hk, hl, hn⟩ := h
  obtain ⟨h1, h2⟩ := word_fine hk
  intro x hx
  rcases List.mem_cons.mp hx with e | e
  · rw [e]
    simp only [fineB, Bool.and_eq_true, decide_eq_true_eq]
    refine ⟨by rw [S_len]; omega, ?_⟩
    unfold PyData.strOk
    rw [← Array.all_toList, List.all_eq_true]
    intro c hc
    have hc : c ∈ s.1 := by simpa [S, SX.S] using hc
    exact decide_eq_true (by have := h2 c hc; omega)
  · obtain ⟨n, hnn, rfl⟩ := List.mem_map.mp e
    obtain ⟨i, hi, ei⟩ := List.getElem_of_mem hnn
    have hib : i < bs.length := by omega
    obtain ⟨g1, g2, _⟩ := hn i n bs[i] (by rw [← ei]; exact List.getElem?_eq_getElem hi) (List.getElem?_eq_getElem hib)
    simp only [fineB, decide_eq_true_eq]
    omega
/-- the rows ls stand at R, each a list of its own, at rs -/
structure RowsAt (H G : Hp) (R : Addr) (rs : List Addr) (ls : List (List Nat × List Int)) : Prop where
  at_ : G R = some (.lst (rs.map V.ref))
  len : rs.length = ls.length
  row : ∀ (i : Nat) r s, rs[i]? = some r → ls[i]? = some s → G r = some (.lst (stepL s))
  nd : rs.Nodup
  out : R ∉ rs
  new : ∀ r ∈ rs, H r = none
  newR : H R = none
section
variable {w : World} {K : W.Frag} {mg : Str → Option Value} {base : Heap}
theorem DpAll.of_get {H : Hp} : ∀ {vs : List V} {ds : List PyData}, vs.length = ds.length → (∀ (i : Nat) v d, vs[i]? = some v → ds[i]? = some d → Dp K H v d) → DpAll K H vs ds
  | [], [], _, _ => .nil
  | [], _ :: _, h, _ => by cases h
  | _ :: _, [], h, _ => by cases h
  | v :: vs, d :: ds, h, g => .cons (g 0 v d rfl rfl) (DpAll.of_get (by simpa using h) fun i v' d' h1 h2 => g (i + 1) v' d' h1 h2)
theorem DpAll.set {H : Hp} {v : V} {d : PyData} (hv : Dp K H v d) : ∀ {vs : List V} {ds : List PyData} (i : Nat), DpAll K H vs ds → DpAll K H (vs.set i v) (ds.set i d)
  | _, _, _, .nil => .nil
  | _, _, 0, .cons _ r => .cons hv r
  | _, _, i + 1, .cons q r => .cons q (DpAll.set hv i r)
theorem RowsAt.get {H G : Hp} {R : Addr} {rs : List Addr} {ls : List (List Nat × List Int)} (h : RowsAt H G R rs ls) {i : Nat} {s : List Nat × List Int} (hs : ls[i]? = some s) : ∃ r, rs[i]? = some r ∧ G r = some (.lst (stepL s)) ∧ H r = none ∧ r ≠ R := by
  have hi : i < rs.length := by rw [h.len]; exact (List.getElem?_eq_some_iff.mp hs).1
  have hr : rs[i]? = some rs[i] := List.getElem?_eq_getElem hi
  exact ⟨rs[i], hr, h.row i _ s hr hs, h.new _ (List.getElem_mem hi), fun z => h.out (by rw [← z]; exact List.getElem_mem hi)⟩
/-- the rows as data, in any heap that has their objects -/
theorem RowsAt.dp {H G M : Hp} {R : Addr} {rs : List Addr} {ls : List (List Nat × List Int)} (h : RowsAt H G R rs ls) (e : ∀ r ∈ rs, ∀ o, G r = some o → M r = some o) : DpAll K M (rs.map V.ref) (ls.map fun s => .list (stepDL s)) := by
  refine DpAll.of_get (by rw [List.length_map, List.length_map, h.len]) fun i v d hv hd => ?_
  rw [List.getElem?_map] at hv hd
  cases er : rs[i]? with
  | none =>
    rw [er] at hv
    cases hv
  | some r =>
    cases es : ls[i]? with
    | none =>
      rw [es] at hd
      cases hd
    | some s =>
      rw [er] at hv
      rw [es] at hd
      cases hv
      cases hd
      exact .lst (SqL.of (e r (List.mem_of_getElem? er) _ (h.row i r s er es))) (stepL_dp s)
theorem RowsAt.mono {H G G' : Hp} {R : Addr} {rs : List Addr} {ls : List (List Nat × List Int)} (h : RowsAt H G R rs ls) (e : ∀ r o, G r = some o → G' r = some o) : RowsAt H G' R rs ls :=
  ⟨e _ _ h.at_, h.len, fun i r s h1 h2 => e _ _ (h.row i r s h1 h2), h.nd, h.out, h.new, h.newR⟩
theorem rows_fine {ls : List (List Nat × List Int)} (h : ∀ s ∈ ls, StepOk s) : fineB 4 (.list (ls.map fun s => .list (stepDL s))) = true := by
  simp only [fineB, List.all_eq_true]
  intro x hx
  obtain ⟨s, hs, rfl⟩ := List.mem_map.mp hx
  simp only [fineB, List.all_eq_true]
  exact fun y hy => step_fine (h s hs) y hy
theorem RowsAt.monoP {H G G' : Hp} {q R : Addr} {rs : List Addr} {ls : List (List Nat × List Int)} (h : RowsAt H G R rs ls) (e : ExtP q G G') (hR : R ≠ q) (hr : ∀ r ∈ rs, r ≠ q) : RowsAt H G' R rs ls :=
  ⟨e _ _ hR h.at_, h.len, fun i r s h1 h2 => e _ _ (hr r (List.mem_of_getElem? h1)) (h.row i r s h1 h2), h.nd, h.out, h.new, h.newR⟩
theorem few_bits {i : Int} (h : i.natAbs < 2 ^ 10) : i.natAbs < 2 ^ 9000 := Nat.lt_of_lt_of_le h (Nat.pow_le_pow_right (by decide) (by decide))
/-- the chain of changes: the n-th is to come -/
def BentAt (K : W.Frag) (H G3 : Hp) (q c : Addr) (ns : List Int) (b : Nat) (sl R : Addr) (rs : List Addr) (ls : List (List Nat × List Int)) (kind : Int) (a0 p0 : Nat) (odd : V) (dO : PyData) (n : Int) (σ : L2.St) (G : Hp) : Prop :=
  ∃ R', σ = [some (.ref q), some (.ref sl), some (.int kind), some (.ref R'), some (.int (a0 : Nat)), some (.int (p0 : Nat)), some odd, none] ∧ ExtP q H G ∧ QAt K G q c ns b ∧ (∃ ds, Dp K (del G q) (.ref R') (.list ds) ∧ fineB 4 (.list ds) = true) ∧ (n ≤ kind → R' = R ∧ RowsAt H G R rs ls ∧ Dp K (nw G3 G) odd dO)
/-- what a value may be: data that's small -/
def Good (d : PyData) : Prop := dSeq d = true → fineB 4 d = true
theorem seq_at {n j : Nat} (h : j < n) : seqIndex? (j : Int) n = some j := by
  have z := (L2.ixN_seq (n := n) (i := (j : Int)) (j := j) (by
    unfold ixN
    rw [if_pos (by omega), if_pos (by omega)]
    simp)).1
  exact z
theorem fine_up : ∀ {n : Nat} {d : PyData}, fineB n d = true → fineB (n + 1) d = true
  | _, .none, _ => rfl
  | _, .bool _, _ => rfl
  | n, .int _, h => by cases n <;> exact h
  | n, .str _, h => by cases n <;> exact h
  | n, .dict _, h => by cases n <;> exact h
  | n + 1, .list xs, h => by
    simp only [fineB, List.all_eq_true] at h ⊢
    exact fun x hx => fine_up (h x hx)
  | n + 1, .tuple xs, h => by
    simp only [fineB, List.all_eq_true] at h ⊢
    exact fun x hx => fine_up (h x hx)
  | 0, .list _, h => by simp [fineB] at h
  | 0, .tuple _, h => by simp [fineB] at h
theorem set_fine {n i : Nat} {ds : List PyData} {d : PyData} (h : fineB (n + 1) (.list ds) = true) (hd : fineB n d = true) : fineB (n + 1) (.list (ds.set i d)) = true := by
  simp only [fineB, List.all_eq_true] at h ⊢
  intro x hx
  rcases List.mem_or_eq_of_mem_set hx with hx | hx
  · exact h x hx
  · rw [hx]
    exact hd
theorem ixN_nat {n j : Nat} (h : j < n) : ixN n (j : Int) = some j := by
  unfold ixN
  rw [if_pos (by omega), if_pos (by omega)]
  simp
theorem bent_if {H G3 : Hp} {q c : Addr} {ns : List Int} {b : Nat} {sl R : Addr} {rs : List Addr} {ls : List (List Nat × List Int)} {kind : Int} {a0 p0 : Nat} {odd : V} {dO : PyData} {n : Int} {σ : L2.St} {G : Hp} {body : TS} {D : Ends}
    (h : BentAt K H G3 q c ns b sl R rs ls kind a0 p0 odd dO n σ G) (no : BentAt K H G3 q c ns b sl R rs ls kind a0 p0 odd dO (n + 1) σ G → D.nx σ G)
    (yes : kind = n → σ = [some (.ref q), some (.ref sl), some (.int kind), some (.ref R), some (.int (a0 : Nat)), some (.int (p0 : Nat)), some odd, none] → ExtP q H G → QAt K G q c ns b → RowsAt H G R rs ls → Dp K (nw G3 G) odd dO → body D σ G) :
    tIfS (tTest (tOp rEq (tVar 2) (tC (.int n)))) body tNext D σ G := by
  obtain ⟨R', rfl, e, hq, hd, hk⟩ := id h
  refine ⟨_, rfl, rfl, _, rfl, ?_⟩
  refine ite2 (fun z => ?_) fun z => ?_
  · have z : kind = n := by simpa using z
    obtain ⟨rfl, hR, hO⟩ := hk (by omega)
    exact yes z rfl e hq hR hO
  · have z : kind ≠ n := by simpa using z
    exact no ⟨R', rfl, e, hq, hd, fun hn => hk (by omega)⟩
/-- one row's list has changed -/
theorem row_new {H G : Hp} {q R r : Addr} {rs : List Addr} {ls : List (List Nat × List Int)} (h : RowsAt H G R rs ls) {a0 : Nat} (hr : rs[a0]? = some r) (ha : a0 < ls.length) (hRq : R ≠ q) (hrq : ∀ r ∈ rs, r ≠ q) {xs' : List V} {ds' : List PyData} (hx : DpAll K (del (upd G r (.lst xs')) q) xs' ds')
    (hf : ∀ s ∈ ls, StepOk s) (hf' : ∀ x ∈ ds', fineB 2 x = true) : ∃ ds, Dp K (del (upd G r (.lst xs')) q) (.ref R) (.list ds) ∧ fineB 4 (.list ds) = true := by
  have hrm := List.mem_of_getElem? hr
  have hrR : R ≠ r := fun z => h.out (by rw [z]; exact hrm)
  refine ⟨(ls.map fun s => .list (stepDL s)).set a0 (.list ds'), .lst (xs := rs.map V.ref) (SqL.of ?_) ?_, ?_⟩
  · rw [del_ne hRq, upd_ne hrR]
    exact h.at_
  · refine DpAll.of_get (by rw [List.length_map, List.length_set, List.length_map, h.len]) fun i v d hv hd => ?_
    rw [List.getElem?_map] at hv
    cases er : rs[i]? with
    | none =>
      rw [er] at hv
      cases hv
    | some r' =>
      rw [er] at hv
      cases hv
      by_cases c : a0 = i
      · subst c
        rw [hr] at er
        cases er
        rw [List.getElem?_set_self (by rw [List.length_map]; exact ha)] at hd
        cases hd
        refine .lst (SqL.of ?_) hx
        rw [del_ne (hrq _ hrm), upd_same]
      · rw [List.getElem?_set_ne c, List.getElem?_map] at hd
        cases es : ls[i]? with
        | none =>
          rw [es] at hd
          cases hd
        | some s =>
          rw [es] at hd
          cases hd
          have hne : r' ≠ r := fun z => by
            rw [z] at er
            have g1 := List.getElem?_eq_some_iff.mp hr
            have g2 := List.getElem?_eq_some_iff.mp er
            exact c ((List.getElem_inj h.nd).mp (g1.2.trans g2.2.symm))
          refine .lst (SqL.of ?_) (stepL_dp s)
          rw [del_ne (hrq _ (List.mem_of_getElem? er)), upd_ne hne]
          exact h.row i r' s er es
  · simp only [fineB, List.all_eq_true]
    intro x hx
    rcases List.mem_or_eq_of_mem_set hx with hx | hx
    · have z := rows_fine hf
      simp only [fineB, List.all_eq_true] at z
      exact z x hx
    · rw [hx]
      simp only [fineB, List.all_eq_true]
      exact hf'
theorem DpAll.erase {H : Hp} : ∀ {vs : List V} {ds : List PyData} (i : Nat), DpAll K H vs ds → DpAll K H (vs.eraseIdx i) (ds.eraseIdx i)
  | _, _, _, .nil => .nil
  | _, _, 0, .cons _ r => r
  | _, _, i + 1, .cons q r => .cons q (DpAll.erase i r)
theorem DpAll.rep {H : Hp} {v : V} {d : PyData} (h : Dp K H v d) : ∀ n : Nat, DpAll K H (List.replicate n v) (List.replicate n d)
  | 0 => .nil
  | n + 1 => .cons h (DpAll.rep h n)
def sp_law_bent (K : W.Frag) : Sp := fun vs H Q _ => ∃ (q c : Addr) (ns : List Int) (b : Nat) (sl : Addr) (srs : List Addr) (ls : List (List Nat × List Int)), vs = [.ref q, .ref sl] ∧ QAt K H q c ns b ∧ b + 10 ≤ 100000 ∧ H sl = some (.lst (srs.map V.ref)) ∧ sl ≠ q ∧ srs.length = ls.length ∧ ls.length ≤ 10 ∧ (∀ (i : Nat) r s, srs[i]? = some r → ls[i]? = some s → H r = some (.lst (stepL s)) ∧ r ≠ q) ∧ (∀ s ∈ ls, StepOk s) ∧
  ∀ v d H', Good d → ExtP q H H' → QAt K H' q c ns (b + 10) → Vd K (del H' q) v d → Q v H'
theorem c_law_bent (T : Txt K mg) : Cal prg w K mg base CX0 3 "_law_bent" ["_law_quiver_here", "_law_script"] (sp_law_bent K) := by
  refine T.d_law_bent.cal sc_law_bent (fun vs H Q E ⟨q, c, ns, b, sl, srs, ls, e, _⟩ => by rw [e]; rfl) fun f cdv A outer s H vs Q E hr h => ?_
  have nd := sc_law_bent.nd
  obtain ⟨q, c, ns, b, sl, srs, ls, rfl, hq, hb, hsl, hslq, hlen, hl10, hrow, hok, k⟩ := h
  refine ⟨_, PSs.nox (pss_cons (ps_par (i := 2) (j := 3) rfl nd rfl rfl (by decide) rfl rfl (pa_cons (pe_cl (c_law_shoot T) (hr.mono (by decide)) pass0 (pa_cons (pv 0) (pa_cons pe_int pa_nil))) (pa_cons (pe_lc (own := [("_law_step_here", 7)]) (tt := tYes) (g := gName 7) rfl nd (pi_list (pv 1)) (blkOk_by (own := [("_law_step_here", 7)]) (N := ["_law_quiver_here", "_law_script", "_law_kind", "_law_rows", "_law_at", "_law_place", "_law_odd", "_law_step_here"]) (sc := defScope s_law_bent) (by decide +kernel)) (fun _ _ _ _ _ => (pg_name (i := 7) nd rfl (Or.inl rfl))) (fun _ _ _ _ _ => pts_nil) (fun _ _ _ _ _ => (pe_callTy (call_list_ofK (K := K) rfl) (by rfl) T.f_list (by decide +kernel) (pa_cons (pv 7) pa_nil)))) pa_nil)) (by rfl))
      (pss_cons (ps_if (PW.pt (pw_or (pt_cmpR (op_eqD hr.units) (pv 3) (pe_lst pa_nil) (nomark _)) (pw_or1 (pt_cmpR op_eq (pv 2) pe_int (nomark _))))) (pss_one (ps_ret (pe_cl (c_law_pick T) (hr.mono (by decide)) pass0 (pa_cons (pv 0) (pa_cons (pe_lst (pa_cons pe_non (pa_cons pe_int (pa_cons pe_str (pa_cons pe_dnewK (pa_cons pe_bl (pa_cons (pe_lst (pa_cons (pe_lst pa_nil) pa_nil)) (pa_cons (pe_lst (pa_cons pe_non pa_nil)) (pa_cons (pe_lst (pa_cons pe_str pa_nil)) (pa_cons (pe_lst (pa_cons (pe_tup (pa_cons pe_str pa_nil)) pa_nil)) (pa_cons (pe_lst (pa_cons (pe_lst (pa_cons pe_str (pa_cons pe_int pa_nil))) pa_nil)) (pa_cons (pe_lst (pa_cons (pe_tup (pa_cons pe_int (pa_cons pe_int pa_nil))) pa_nil)) (pa_cons (pe_lst (pa_cons (pe_lst (pa_cons pe_str (pa_cons pe_int (pa_cons pe_int pa_nil)))) pa_nil)) (pa_cons (pe_lst (pa_cons (pe_lst (pa_cons pe_bl (pa_cons pe_int pa_nil))) pa_nil)) pa_nil)))))))))))))) pa_nil))))) pss_nil)
      (pss_cons (ps_set (i := 4) nd rfl (Or.inl rfl) (pe_cl (c_law_shoot T) (hr.mono (by decide)) pass0 (pa_cons (pv 0) (pa_cons (pe_callB call_len_seq (by rfl) T.f_len (by decide +kernel) (pa_cons (pv 3) pa_nil)) pa_nil))))
      (pss_cons (ps_set (i := 5) nd rfl (Or.inl rfl) (pe_cl (c_law_shoot T) (hr.mono (by decide)) pass0 (pa_cons (pv 0) (pa_cons (pe_callB call_len_seq (by rfl) T.f_len (by decide +kernel) (pa_cons (pe_ix ix_list (pv 3) (pv 4) (fun _ _ => rfl)) pa_nil)) pa_nil))))
      (pss_cons (ps_set (i := 6) nd rfl (Or.inl rfl) (pe_cl (c_law_pick T) (hr.mono (by decide)) pass0 (pa_cons (pv 0) (pa_cons (pe_lst (pa_cons (pe_un un_neg pe_int) (pa_cons pe_int (pa_cons pe_int (pa_cons pe_int (pa_cons pe_int (pa_cons pe_int (pa_cons pe_bl (pa_cons pe_non (pa_cons pe_str (pa_cons (pe_lst (pa_cons pe_int pa_nil)) (pa_cons pe_str (pa_cons pe_str (pa_cons (pe_op op_pow pe_int pe_int) pa_nil)))))))))))))) pa_nil))))
      (pss_cons (ps_if (pt_cmpR op_eq (pv 2) pe_int (nomark _)) (pss_one (ps_asg (pv 6) (pg_sub (pe_ix ix_list (pv 3) (pv 4) (fun _ _ => rfl)) (pv 5) set_list))) pss_nil)
      (pss_cons (ps_if (pt_cmpR op_eq (pv 2) pe_int (nomark _)) (pss_one (ps_expr (pe_bm PySem.F.plainAttrs_list PySem.F.slot_list_insert PySem.F.type_list_insert mt_insert (pe_ix ix_list (pv 3) (pv 4) (fun _ _ => rfl)) (pa_cons (pv 5) (pa_cons (pv 6) pa_nil))))) pss_nil)
      (pss_cons (ps_if (pt_cmpR op_eq (pv 2) pe_int (nomark _)) (pss_one (ps_expr (pe_bm PySem.F.plainAttrs_list PySem.F.slot_list_pop PySem.F.type_list_pop mt_popAt (pe_ix ix_list (pv 3) (pv 4) (fun _ _ => rfl)) (pa_cons (pv 5) pa_nil)))) pss_nil)
      (pss_cons (ps_if (pt_cmpR op_eq (pv 2) pe_int (nomark _)) (pss_one (ps_asg (pv 6) (pg_sub (pv 3) (pv 4) set_list))) pss_nil)
      (pss_cons (ps_if (pt_cmpR op_eq (pv 2) pe_int (nomark _)) (pss_one (ps_asg (pe_callTy call_tuple_of (by rfl) T.f_tuple (by decide +kernel) (pa_cons (pe_ix ix_list (pv 3) (pv 4) (fun _ _ => rfl)) pa_nil)) (pg_sub (pv 3) (pv 4) set_list))) pss_nil)
      (pss_cons (ps_if (pt_cmpR op_eq (pv 2) pe_int (nomark _)) (pss_one (ps_set (i := 3) nd rfl (Or.inl rfl) (pe_op op_cat (pv 3) (pe_op op_rep (pe_lst (pa_cons (pe_lst (pa_cons pe_str (pa_cons pe_int pa_nil))) pa_nil)) (pe_cl (c_law_pick T) (hr.mono (by decide)) pass0 (pa_cons (pv 0) (pa_cons (pe_lst (pa_cons (pe_op op_sub pe_int (pe_callB call_len_seq (by rfl) T.f_len (by decide +kernel) (pa_cons (pv 3) pa_nil))) (pa_cons (pe_op op_sub pe_int (pe_callB call_len_seq (by rfl) T.f_len (by decide +kernel) (pa_cons (pv 3) pa_nil))) (pa_cons pe_int pa_nil)))) pa_nil))))))) pss_nil)
      (pss_one (ps_ret (pe_ifExp (pt_cmpR op_eq (pv 2) pe_int (nomark _)) (pe_callTy call_tuple_of (by rfl) T.f_tuple (by decide +kernel) (pa_cons (pv 3) pa_nil)) (pv 3))))))))))))))), ?_⟩
  refine cut_tseq (fun σ G => ∃ (kind : Int) (R : Addr) (rs : List Addr), σ = [some (.ref q), some (.ref sl), some (.int kind), some (.ref R), none, none, none, none] ∧ 0 ≤ kind ∧ kind < 9 ∧ ExtP q H G ∧ QAt K G q c ns (b + 1) ∧ RowsAt H G R rs ls) (fun D1 k1 => ?_) fun σ G0 ⟨kind, R, rs, eσ, hk0, hk9, e0, hq0, hR⟩ => ?_
  · dsimp only [tRet, tRetN, tSeq, tAsg, tOp, tVar, tC, tCB, tCons, tNil, tAndV, tOrV, tNotV, tAnd, tOr, tNot, tTest, tIf, tIfS, tB, tChain, tSl, tPart, tNoPart, tLst, tTup, tFld, tCl, tMt, tMk, gName, tNext, tBM, tBM0, tUn, tSub, tPar, tPar3, gTup, gCons, gNil, tDrop, tMkS, tM1, sFld, StX.tStar, tYes, gSub, cxOf, Cx.wish, Cx.nox, Cx.blk]
    refine ⟨_, rfl, q, c, ns, 9, b, rfl, hq, by omega, by decide, by decide, fun kind G1 hk0 hk9 e1 hq1 => ?_⟩
    have hsl1 := e1 _ _ hslq hsl
    refine ⟨_, rfl, sl, rfl, ⟨_, SqL.of hsl1⟩, fun D hD => ?_⟩
    have hDq := hq1.ne hD
    have hD0 : H D = none := by
      cases hz : H D with
      | none => rfl
      | some o =>
        rw [e1 _ _ hDq hz] at hD
        cases hD
    refine lc_it (walk_list (xs := srs.map V.ref)) (fun i G => ∃ rs : List Addr, rs.length = i ∧ Ext G1 G ∧ G D = some (.lst (rs.map V.ref)) ∧ (∀ (j : Nat) r s, rs[j]? = some r → ls[j]? = some s → G r = some (.lst (stepL s))) ∧ rs.Nodup ∧ D ∉ rs ∧ ∀ r ∈ rs, G1 r = none) ⟨[], rfl, Ext.upd hD, upd_same, fun j r s h => by simp at h, .nil, by simp, by simp⟩ (fun i G _ ⟨_, _, e, _⟩ => SqL.of (e _ _ hsl1)) ?_ ?_
    · rintro i x G G' hi ⟨rs, hrl, e, hDG, hrows, hnd, hDn, hnew⟩ ⟨rfl, hx⟩
      rw [List.getElem?_map] at hx
      cases er : srs[i]? with
      | none =>
        rw [er] at hx
        cases hx
      | some r0 =>
        rw [er] at hx
        cases hx
        have hil : i < ls.length := by
          have := (List.getElem?_eq_some_iff.mp er).1
          omega
        obtain ⟨h1, h2⟩ := hrow i r0 ls[i] er (List.getElem?_eq_getElem hil)
        have h1G := e _ _ (e1 _ _ h2 h1)
        refine ⟨rfl, ?_⟩
        dsimp only [tRet, tRetN, tSeq, tAsg, tOp, tVar, tC, tCB, tCons, tNil, tAndV, tOrV, tNotV, tAnd, tOr, tNot, tTest, tIf, tIfS, tB, tChain, tSl, tPart, tNoPart, tLst, tTup, tFld, tCl, tMt, tMk, gName, tNext, tBM, tBM0, tUn, tSub, tPar, tPar3, gTup, gCons, gNil, tDrop, tMkS, tM1, sFld, StX.tStar, tYes, gSub, cxOf, Cx.wish, Cx.nox, Cx.blk]
        refine if_t rfl ⟨_, rfl, r0, _, rfl, .inl (SqL.of h1G), fun l hl => ⟨_, Ext.upd hl _ _ hDG, ?_, rs ++ [l], ?_, fun b o hb => ?_, ?_, fun j r s hj hs => ?_, ?_, ?_, ?_⟩⟩
        · rw [List.length_map]
          exact small1000 (by omega)
        · rw [List.length_append, hrl]
          rfl
        · rw [upd_ne (ne_of_none hb hD)]
          exact Ext.upd hl _ _ (e _ _ hb)
        · rw [upd_same, List.map_append]
          rfl
        · by_cases cj : j < i
          · rw [List.getElem?_append_left (by omega)] at hj
            have hrD : r ≠ D := fun z => hDn (by rw [← z]; exact List.mem_of_getElem? hj)
            rw [upd_ne hrD]
            exact Ext.upd hl _ _ (hrows j r s hj hs)
          · rw [List.getElem?_append_right (by omega)] at hj
            have c2 : j = i := by
              by_cases c3 : j - rs.length = 0
              · omega
              · rw [List.getElem?_eq_none (by simp; omega)] at hj
                cases hj
            subst c2
            rw [hrl, Nat.sub_self] at hj
            cases hj
            have e2 : s = ls[j] := by
              rw [List.getElem?_eq_getElem hil] at hs
              exact (Option.some.inj hs).symm
            rw [upd_ne (ne_of_none hDG hl).symm, upd_same, e2]
        · rw [List.nodup_append]
          refine ⟨hnd, List.nodup_cons.mpr ⟨by simp, .nil⟩, fun a ha b hb => ?_⟩
          rw [List.mem_singleton.mp hb]
          intro z
          obtain ⟨j, hj, ej⟩ := List.getElem_of_mem ha
          have hjl : j < ls.length := by omega
          have := hrows j a ls[j] (by rw [← ej]; exact List.getElem?_eq_getElem hj) (List.getElem?_eq_getElem hjl)
          rw [z, hl] at this
          cases this
        · intro hm
          rcases List.mem_append.mp hm with hm | hm
          · exact hDn hm
          · rw [List.mem_singleton] at hm
            rw [← hm, hDG] at hl
            cases hl
        · intro r hr
          rcases List.mem_append.mp hr with hr | hr
          · exact hnew r hr
          · rw [List.mem_singleton.mp hr]
            exact none_of e hl
    · rintro G ⟨rs, hrl, e, hDG, hrows, hnd, hDn, hnew⟩
      rw [List.length_map] at hrl
      have hnewH : ∀ r, G1 r = none → H r = none := fun r hr => by
        cases hz : H r with
        | none => rfl
        | some o =>
          rw [e1 _ _ (hq1.ne hr) hz] at hr
          cases hr
      exact ⟨_, _, rfl, k1 _ _ ⟨kind, D, rs, rfl, hk0, hk9, e1.trans (ExtP.of e), hq1.ext e, hDG, by omega, hrows, hnd, hDn, fun r hr => hnewH r (hnew r hr), hD0⟩⟩
  subst eσ
  have hq9 : ∀ G b', ExtP q H G → QAt K G q c ns b' → b' ≤ b + 10 → QAt K G q c ns (b + 10) := fun G b' _ h hb => h.mono hb
  have hqH : H q ≠ none := by
    obtain ⟨xs, h1⟩ := hq.here
    rw [h1]
    simp
  have hRq : R ≠ q := fun z => hqH (by rw [← z]; exact hR.newR)
  have hrq : ∀ r ∈ rs, r ≠ q := fun r hr z => hqH (by rw [← z]; exact hR.new r hr)
  have hfine : fineB 4 (.list (ls.map fun s => .list (stepDL s))) = true := rows_fine hok
  refine cut_ifn (fun c G => c = (decide (ls = []) || decide (kind = 0)) ∧ Ext G0 G) (fun Q1 k1 => ?_) fun cc G1 ⟨ec, e1⟩ => ?_
  · dsimp only [tRet, tRetN, tSeq, tAsg, tOp, tVar, tC, tCB, tCons, tNil, tAndV, tOrV, tNotV, tAnd, tOr, tNot, tTest, tIf, tIfS, tB, tChain, tSl, tPart, tNoPart, tLst, tTup, tFld, tCl, tMt, tMk, gName, tNext, tBM, tBM0, tUn, tSub, tPar, tPar3, gTup, gCons, gNil, tDrop, tMkS, tM1, sFld, StX.tStar, tYes, gSub, cxOf, Cx.wish, Cx.nox, Cx.blk]
    refine ⟨_, rfl, Nat.zero_le _, fun p hp => ⟨.list (ls.map fun s => .list (stepDL s)), .list [], .lst (SqL.of (Ext.upd hp _ _ hR.at_)) (hR.dp fun r _ o h => Ext.upd hp _ _ h), .lst (SqL.of upd_same) .nil, fine_shaped hfine (by decide), rfl, _, rfl, ?_⟩⟩
    rw [eqv_nil]
    refine ite2 (fun c => k1 _ _ ⟨?_, Ext.upd hp⟩) fun c => ⟨_, rfl, rfl, _, rfl, k1 _ _ ⟨?_, Ext.upd hp⟩⟩
    · rw [List.isEmpty_iff, List.map_eq_nil_iff] at c
      simp [c]
    · have c : ls ≠ [] := fun z => c (by rw [z]; rfl)
      rw [dec_int, decide_eq_false c, Bool.false_or, Bool.eq_iff_iff]
      simp
  have hR1 : RowsAt H G1 R rs ls := hR.mono fun r o h => e1 _ _ h
  have hq1 := hq0.ext e1
  have e01 : ExtP q H G1 := e0.trans (ExtP.of e1)
  cases hc : (decide (ls = []) || decide (kind = 0)) with
  | true =>
    rw [hc] at ec
    refine if_t ec ⟨_, rfl, ?_⟩
    show tLst _ _ _ _
    refine gv_list (K := K) (ds := [.none, .int 5, .str "send 0", .dict [], .bool true, .list [.list []], .list [.none], .list [.str "send"], .list [.tuple [.str "send"]], .list [.list [.str "Send", .int 0]], .list [.tuple [.int 0, .int 0]], .list [.list [.str "send", .int 0, .int 0]], .list [.list [.bool true, .int 0]]]) ?_ fun l vs G2 e2 hl hl2 hA => ?_
    · repeat (first | exact gvs_nil | exact gv_dict | refine gvs_cons ?_ ?_ | refine gv_d ?_ | exact gds_nil | exact gd_int | exact gd_non | exact gd_str | exact gd_bl | refine gds_cons ?_ ?_ | refine gd_lst ?_ (by decide) | refine gd_tup ?_ (by decide))
    · have hlq : l ≠ q := hq1.ne hl
      have hlen := VdAll.length hA
      refine ⟨q, c, ns, l, vs, b + 1, rfl, hq1.ext e2, by omega, fun H' e => SqL.of (e _ _ hlq hl2), by rw [hlen]; decide, by rw [hlen]; decide, fun i v G3 hv e3 hq3 => ?_⟩
      obtain ⟨d, hd, hp⟩ := VdAll.getV hA hv
      have hqG1 : G1 q ≠ none := by
        obtain ⟨xs, h1⟩ := hq1.here
        rw [h1]
        simp
      refine k v d _ ?_ ((e01.trans (ExtP.of e2)).trans e3) (hq3.mono (by omega)) (Vd.ext (fun bb o h => ?_) hp)
      · intro hs
        have z : ∀ d ∈ ([.none, .int 5, .str "send 0", .dict [], .bool true, .list [.list []], .list [.none], .list [.str "send"], .list [.tuple [.str "send"]], .list [.list [.str "Send", .int 0]], .list [.tuple [.int 0, .int 0]], .list [.list [.str "send", .int 0, .int 0]], .list [.list [.bool true, .int 0]]] : List PyData), dSeq d = true → fineB 4 d = true := by
          intro d hd hs
          simp only [List.mem_cons, List.not_mem_nil, or_false] at hd
          rcases hd with rfl | rfl | rfl | rfl | rfl | rfl | rfl | rfl | rfl | rfl | rfl | rfl | rfl <;> first | decide +kernel | cases hs
        exact z d (List.mem_of_getElem? hd) hs
      · obtain ⟨z1, z2⟩ := nw_some h
        have hbq : bb ≠ q := fun z => hqG1 (by rw [← z]; exact z1)
        rw [del_ne hbq]
        exact e3 _ _ hbq z2
  | false =>
    rw [hc] at ec
    refine if_f ec ?_
    have hc := Bool.or_eq_false_iff.mp hc
    have hne : ls ≠ [] := of_decide_eq_false hc.1
    have hpos : 0 < ls.length := List.length_pos_iff.mpr hne
    have rlen : (rs.map V.ref).length = ls.length := by rw [List.length_map, hR.len]
    -- the row, the place
    refine cut_asg (fun v G => ∃ a0 : Nat, v = .int (a0 : Nat) ∧ a0 < ls.length ∧ ExtP q G1 G ∧ QAt K G q c ns (b + 2)) (fun Q1 k1 => ?_) fun v G2 ⟨a0, ev, ha0, e2, hq2⟩ => ?_
    · dsimp only [tRet, tRetN, tSeq, tAsg, tOp, tVar, tC, tCB, tCons, tNil, tAndV, tOrV, tNotV, tAnd, tOr, tNot, tTest, tIf, tIfS, tB, tChain, tSl, tPart, tNoPart, tLst, tTup, tFld, tCl, tMt, tMk, gName, tNext, tBM, tBM0, tUn, tSub, tPar, tPar3, gTup, gCons, gNil, tDrop, tMkS, tM1, sFld, StX.tStar, tYes, gSub, cxOf, Cx.wish, Cx.nox, Cx.blk]
      refine ⟨_, rfl, _, rfl, R, _, rfl, .inl (SqL.of hR1.at_), q, c, ns, _, b + 1, rfl, hq1, by omega, by rw [rlen]; omega, ?_, fun r G r0 r1 e h => ?_⟩
      · rw [rlen]
        exact few_bits (by omega)
      · obtain ⟨j, rfl⟩ := Int.eq_ofNat_of_zero_le r0
        exact k1 _ _ ⟨j, rfl, by rw [rlen] at r1; omega, e, h⟩
    subst ev
    have hR2 : RowsAt H G2 R rs ls := hR1.monoP e2 hRq hrq
    obtain ⟨r, hr, hrG2, hrH, hrR⟩ := hR2.get (i := a0) (s := ls[a0]) (List.getElem?_eq_getElem ha0)
    have hrm : r ∈ rs := List.mem_of_getElem? hr
    have hRat : atI (rs.map V.ref) ((a0 : Nat) : Int) = some (.ref r) := atI_nat (by rw [List.getElem?_map, hr]; rfl)
    obtain ⟨sw, sn, es⟩ : ∃ sw sn, ls[a0] = (sw, sn) := ⟨_, _, rfl⟩
    have slen : (stepL ls[a0]).length = sn.length + 1 := by rw [es]; simp
    have sn2 : sn.length ≤ 2 := by
      obtain ⟨bs, hk, hl, _⟩ := hok ls[a0] (List.getElem_mem ha0)
      rw [es] at hl hk
      have := lookB_len hk
      have hl : sn.length = bs.length := hl
      omega
    refine cut_asg (fun v G => ∃ p0 : Nat, v = .int (p0 : Nat) ∧ p0 < sn.length + 1 ∧ ExtP q G2 G ∧ QAt K G q c ns (b + 3)) (fun Q1 k1 => ?_) fun v G3 ⟨p0, ev, hp0, e3, hq3⟩ => ?_
    · dsimp only [tRet, tRetN, tSeq, tAsg, tOp, tVar, tC, tCB, tCons, tNil, tAndV, tOrV, tNotV, tAnd, tOr, tNot, tTest, tIf, tIfS, tB, tChain, tSl, tPart, tNoPart, tLst, tTup, tFld, tCl, tMt, tMk, gName, tNext, tBM, tBM0, tUn, tSub, tPar, tPar3, gTup, gCons, gNil, tDrop, tMkS, tM1, sFld, StX.tStar, tYes, gSub, cxOf, Cx.wish, Cx.nox, Cx.blk]
      refine ⟨_, rfl, _, rfl, _, rfl, R, _, _, _, rfl, rfl, SqL.of hR2.at_, hRat, r, _, rfl, .inl (SqL.of hrG2), q, c, ns, _, b + 2, rfl, hq2, by omega, by rw [slen]; omega, ?_, fun r G r0 r1 e h => ?_⟩
      · rw [slen]
        exact few_bits (by omega)
      · obtain ⟨j, rfl⟩ := Int.eq_ofNat_of_zero_le r0
        exact k1 _ _ ⟨j, rfl, by rw [slen] at r1; omega, e, h⟩
    subst ev
    have hR3 : RowsAt H G3 R rs ls := hR2.monoP e3 hRq hrq
    have hq3x : G3 q ≠ none := by
      obtain ⟨xs, h1⟩ := hq3.here
      rw [h1]
      simp
    -- the odd one
    refine cut_asg (fun v G => ∃ dO, Dp K (nw G3 G) v dO ∧ fineB 2 dO = true ∧ ExtP q G3 G ∧ QAt K G q c ns (b + 4)) (fun Q1 k1 => ?_) fun odd G4 ⟨dO, hO, hOf, e4, hq4⟩ => ?_
    · refine ⟨_, rfl, ?_⟩
      show tLst _ _ _ _
      refine gv_list (K := K) (ds := [.int (-1), .int 3, .int 4, .int 5, .int 7, .int 8, .bool true, .none, .str "0", .list [.int 0], .str "send", .str "cut", .int (10 ^ (30 : Int).toNat)]) ?_ fun l vs G5 e5 hl hl5 hA => ?_
      · repeat (first | exact gvs_nil | refine gvs_cons ?_ ?_ | refine gv_d ?_ | exact gds_nil | exact gd_int | exact gd_non | exact gd_str | exact gd_bl | exact gd_neg | exact gd_pow ⟨by decide, by decide, by decide⟩ | refine gds_cons ?_ ?_ | refine gd_lst ?_ (by decide))
      · have hlq : l ≠ q := hq3.ne hl
        have hlen := VdAll.length hA
        refine ⟨q, c, ns, l, vs, b + 3, rfl, hq3.ext e5, by omega, fun H' e => SqL.of (e _ _ hlq hl5), by rw [hlen]; decide, by rw [hlen]; decide, fun i v G6 hv e6 hq6 => ?_⟩
        obtain ⟨d, hd, hp⟩ := VdAll.getV hA hv
        have z : ([.int (-1), .int 3, .int 4, .int 5, .int 7, .int 8, .bool true, .none, .str "0", .list [.int 0], .str "send", .str "cut", .int (10 ^ (30 : Int).toNat)] : List PyData).all (fun d => fineB 2 d && match d with | .dict _ => false | _ => true) = true := by decide +kernel
        have z2 := Bool.and_eq_true_iff.mp (List.all_eq_true.mp z d (List.mem_of_getElem? hd))
        have hp2 : Dp K (nw G3 G5) v d := by
          rcases hp with hp | ⟨_, _, _, hp⟩
          · exact hp
          · rw [hp] at z2
            cases z2.2
        refine k1 _ _ ⟨d, Dp.ext (nw_ext fun bb o z1 z2 => e6 _ _ (fun z => hq3x (by rw [← z]; exact z1)) z2) hp2, z2.1, (ExtP.of e5).trans e6, hq6⟩
    have hR4 : RowsAt H G4 R rs ls := hR3.monoP e4 hRq hrq
    have e04 : ExtP q H G4 := ((e01.trans e2).trans e3).trans e4
    -- the chain
    have rowOf : ∀ {G}, RowsAt H G R rs ls → G r = some (.lst (stepL ls[a0])) := fun h => h.row a0 r ls[a0] hr (List.getElem?_eq_getElem ha0)
    have plen : p0 < (stepL ls[a0]).length := by rw [slen]; exact hp0
    have oddE : ∀ {G G'}, Dp K (nw G3 G) odd dO → (∀ bb o, G3 bb = none → G bb = some o → G' bb = some o) → Dp K (del G' q) odd dO := fun h e => Dp.ext (nw_del hq3x) (Dp.ext (nw_ext e) h)
    have hG3r : G3 r ≠ none := by rw [rowOf hR3]; simp
    have hG3R : G3 R ≠ none := by rw [hR3.at_]; simp
    have ext1 : ∀ {G u D}, ExtP q H G → H D = none → ExtP q H (upd G D u) := fun e hD bb o hb h => by rw [upd_ne (ne_of_none h hD)]; exact e _ _ hb h
    have h4 : BentAt K H G3 q c ns (b + 4) sl R rs ls kind a0 p0 odd dO 1 [some (.ref q), some (.ref sl), some (.int kind), some (.ref R), some (.int (a0 : Nat)), some (.int (p0 : Nat)), some odd, none] G4 :=
      ⟨R, rfl, e04, hq4, ⟨_, .lst (SqL.of (by rw [del_ne hRq]; exact hR4.at_)) (hR4.dp fun r' hr' o h => by rw [del_ne (hrq r' hr')]; exact h), hfine⟩, fun _ => ⟨rfl, hR4, hO⟩⟩
    have rowF := step_fine (hok ls[a0] (List.getElem_mem ha0))
    refine cut_tseq (fun σ G => BentAt K H G3 q c ns (b + 4) sl R rs ls kind a0 p0 odd dO 2 σ G) (fun D1 k1 => ?_) fun σ G5 h5 => ?_
    · refine bent_if h4 (fun h => k1 _ _ h) fun hk _ e hqG hRG hOG => ?_
      dsimp only [tRet, tRetN, tSeq, tAsg, tOp, tVar, tC, tCB, tCons, tNil, tAndV, tOrV, tNotV, tAnd, tOr, tNot, tTest, tIf, tIfS, tB, tChain, tSl, tPart, tNoPart, tLst, tTup, tFld, tCl, tMt, tMk, gName, tNext, tBM, tBM0, tUn, tSub, tPar, tPar3, gTup, gCons, gNil, tDrop, tMkS, tM1, sFld, StX.tStar, tYes, gSub, cxOf, Cx.wish, Cx.nox, Cx.blk]
      refine ⟨_, rfl, _, rfl, _, rfl, R, _, _, _, rfl, rfl, SqL.of hRG.at_, hRat, _, rfl, r, _, _, p0, rfl, rfl, rowOf hRG, ixN_nat plen, k1 _ _ ⟨R, rfl, ext1 e hrH, hq.but e hqG hrH, ?_, fun z => by omega⟩⟩
      refine row_new hRG hr ha0 hRq hrq (ds' := (stepDL ls[a0]).set p0 dO) (DpAll.set (oddE hOG fun bb o z1 z2 => ?_) p0 (stepL_dp _)) hok fun x hx => ?_
      · rw [upd_ne (fun z => hG3r (by rw [← z]; exact z1))]
        exact z2
      · rcases List.mem_or_eq_of_mem_set hx with hx | hx
        · exact rowF x hx
        · rw [hx]
          exact hOf
    obtain ⟨R5, eσ, _⟩ := id h5
    subst eσ
    refine cut_tseq (fun σ G => BentAt K H G3 q c ns (b + 4) sl R rs ls kind a0 p0 odd dO 3 σ G) (fun D1 k1 => ?_) fun σ G6 h6 => ?_
    · refine bent_if h5 (fun h => k1 _ _ h) fun hk eσ e hqG hRG hOG => ?_
      rw [eσ]
      dsimp only [tRet, tRetN, tSeq, tAsg, tOp, tVar, tC, tCB, tCons, tNil, tAndV, tOrV, tNotV, tAnd, tOr, tNot, tTest, tIf, tIfS, tB, tChain, tSl, tPart, tNoPart, tLst, tTup, tFld, tCl, tMt, tMk, gName, tNext, tBM, tBM0, tUn, tSub, tPar, tPar3, gTup, gCons, gNil, tDrop, tMkS, tM1, sFld, StX.tStar, tYes, gSub, cxOf, Cx.wish, Cx.nox, Cx.blk]
      refine ⟨_, rfl, _, rfl, R, _, _, _, rfl, rfl, SqL.of hRG.at_, hRat, .inl ⟨rfl, _, SqL.of (rowOf hRG)⟩, _, rfl, _, rfl, r, _, _, _, rfl, rfl, rowOf hRG, by rw [slen]; exact small1000 (by omega), by omega, by omega, k1 _ _ ⟨R, rfl, ext1 e hrH, hq.but e hqG hrH, ?_, fun z => by omega⟩⟩
      rw [Int.toNat_natCast]
      refine row_new hRG hr ha0 hRq hrq (ds' := (stepDL ls[a0]).take p0 ++ [dO] ++ (stepDL ls[a0]).drop p0) (DpAll.app (DpAll.app (DpAll.take p0 (stepL_dp _)) (.cons (oddE hOG fun bb o z1 z2 => ?_) .nil)) (DpAll.drop p0 (stepL_dp _))) hok fun x hx => ?_
      · rw [upd_ne (fun z => hG3r (by rw [← z]; exact z1))]
        exact z2
      · rcases List.mem_append.mp hx with hx | hx
        · rcases List.mem_append.mp hx with hx | hx
          · exact rowF x (List.mem_of_mem_take hx)
          · rw [List.mem_singleton.mp hx]
            exact hOf
        · exact rowF x (List.mem_of_mem_drop hx)
    obtain ⟨R6, eσ, _⟩ := id h6
    subst eσ
    refine cut_tseq (fun σ G => BentAt K H G3 q c ns (b + 4) sl R rs ls kind a0 p0 odd dO 4 σ G) (fun D1 k1 => ?_) fun σ G7 h7 => ?_
    · refine bent_if h6 (fun h => k1 _ _ h) fun hk eσ e hqG hRG hOG => ?_
      rw [eσ]
      dsimp only [tRet, tRetN, tSeq, tAsg, tOp, tVar, tC, tCB, tCons, tNil, tAndV, tOrV, tNotV, tAnd, tOr, tNot, tTest, tIf, tIfS, tB, tChain, tSl, tPart, tNoPart, tLst, tTup, tFld, tCl, tMt, tMk, gName, tNext, tBM, tBM0, tUn, tSub, tPar, tPar3, gTup, gCons, gNil, tDrop, tMkS, tM1, sFld, StX.tStar, tYes, gSub, cxOf, Cx.wish, Cx.nox, Cx.blk]
      refine ⟨_, rfl, _, rfl, R, _, _, _, rfl, rfl, SqL.of hRG.at_, hRat, .inl ⟨rfl, _, SqL.of (rowOf hRG)⟩, _, rfl, r, _, _, p0, _, rfl, rfl, rowOf hRG, by omega, by omega, seq_at plen, List.getElem?_eq_getElem plen, k1 _ _ ⟨R, rfl, ext1 e hrH, hq.but e hqG hrH, ?_, fun z => by omega⟩⟩
      exact row_new hRG hr ha0 hRq hrq (ds' := (stepDL ls[a0]).eraseIdx p0) (DpAll.erase p0 (stepL_dp _)) hok fun x hx => rowF x (List.mem_of_mem_eraseIdx hx)
    obtain ⟨R7, eσ, _⟩ := id h7
    subst eσ
    refine cut_tseq (fun σ G => BentAt K H G3 q c ns (b + 4) sl R rs ls kind a0 p0 odd dO 5 σ G) (fun D1 k1 => ?_) fun σ G8 h8 => ?_
    · refine bent_if h7 (fun h => k1 _ _ h) fun hk eσ e hqG hRG hOG => ?_
      rw [eσ]
      dsimp only [tRet, tRetN, tSeq, tAsg, tOp, tVar, tC, tCB, tCons, tNil, tAndV, tOrV, tNotV, tAnd, tOr, tNot, tTest, tIf, tIfS, tB, tChain, tSl, tPart, tNoPart, tLst, tTup, tFld, tCl, tMt, tMk, gName, tNext, tBM, tBM0, tUn, tSub, tPar, tPar3, gTup, gCons, gNil, tDrop, tMkS, tM1, sFld, StX.tStar, tYes, gSub, cxOf, Cx.wish, Cx.nox, Cx.blk]
      refine ⟨_, rfl, _, rfl, _, rfl, R, _, _, a0, rfl, rfl, hRG.at_, ixN_nat (by rw [rlen]; exact ha0), k1 _ _ ⟨R, rfl, ext1 e hR.newR, hq.but e hqG hR.newR, ?_, fun z => by omega⟩⟩
      refine ⟨(ls.map fun s => .list (stepDL s)).set a0 dO, .lst (SqL.of (by rw [del_ne hRq, upd_same])) (DpAll.set (oddE hOG fun bb o z1 z2 => ?_) a0 (hRG.dp fun r' hr' o h => ?_)), set_fine hfine (fine_up hOf)⟩
      · rw [upd_ne (fun z => hG3R (by rw [← z]; exact z1))]
        exact z2
      · rw [del_ne (hrq r' hr'), upd_ne (fun z => hRG.out (by rw [← z]; exact hr'))]
        exact h
    obtain ⟨R8, eσ, _⟩ := id h8
    subst eσ
    refine cut_tseq (fun σ G => BentAt K H G3 q c ns (b + 4) sl R rs ls kind a0 p0 odd dO 6 σ G) (fun D1 k1 => ?_) fun σ G9 h9 => ?_
    · refine bent_if h8 (fun h => k1 _ _ h) fun hk eσ e hqG hRG hOG => ?_
      rw [eσ]
      dsimp only [tRet, tRetN, tSeq, tAsg, tOp, tVar, tC, tCB, tCons, tNil, tAndV, tOrV, tNotV, tAnd, tOr, tNot, tTest, tIf, tIfS, tB, tChain, tSl, tPart, tNoPart, tLst, tTup, tFld, tCl, tMt, tMk, gName, tNext, tBM, tBM0, tUn, tSub, tPar, tPar3, gTup, gCons, gNil, tDrop, tMkS, tM1, sFld, StX.tStar, tYes, gSub, cxOf, Cx.wish, Cx.nox, Cx.blk]
      refine ⟨_, rfl, _, rfl, R, _, _, _, rfl, rfl, SqL.of hRG.at_, hRat, r, _, rfl, .inl ⟨SqL.of (rowOf hRG), fun t ht => ?_⟩⟩
      have ht0 : H t = none := by
        cases hz : H t with
        | none => rfl
        | some o =>
          rw [e _ _ (hqG.ne ht) hz] at ht
          cases ht
      have htR : R ≠ t := ne_of_none hRG.at_ ht
      refine ⟨_, rfl, _, rfl, R, _, _, a0, rfl, rfl, by rw [upd_ne htR]; exact hRG.at_, ixN_nat (by rw [rlen]; exact ha0), k1 _ _ ⟨R, rfl, ext1 (ext1 e ht0) hR.newR, hq.but (ext1 e ht0) (hq.but e hqG ht0) hR.newR, ?_, fun z => by omega⟩⟩
      refine ⟨(ls.map fun s => .list (stepDL s)).set a0 (.tuple (stepDL ls[a0])), .lst (SqL.of (by rw [del_ne hRq, upd_same])) (DpAll.set (.tup (SqT.of ?_) (stepL_dp _)) a0 (hRG.dp fun r' hr' o h => ?_)), set_fine hfine (by simp only [fineB, List.all_eq_true]; exact rowF)⟩
      · rw [del_ne (hqG.ne ht), upd_ne htR.symm, upd_same]
      · rw [del_ne (hrq r' hr'), upd_ne (fun z => hRG.out (by rw [← z]; exact hr')), upd_ne (ne_of_none h ht)]
        exact h
    obtain ⟨R9, eσ, _⟩ := id h9
    subst eσ
    refine cut_tseq (fun σ G => BentAt K H G3 q c ns (b + 5) sl R rs ls kind a0 p0 odd dO 7 σ G) (fun D1 k1 => ?_) fun σ Ga ha => ?_
    · refine bent_if h9 (fun h => k1 _ _ ?_) fun hk eσ e hqG hRG hOG => ?_
      · obtain ⟨R', z1, z2, z3, z4, z5⟩ := h
        exact ⟨R', z1, z2, z3.mono (by omega), z4, z5⟩
      rw [eσ]
      dsimp only [tRet, tRetN, tSeq, tAsg, tOp, tVar, tC, tCB, tCons, tNil, tAndV, tOrV, tNotV, tAnd, tOr, tNot, tTest, tIf, tIfS, tB, tChain, tSl, tPart, tNoPart, tLst, tTup, tFld, tCl, tMt, tMk, gName, tNext, tBM, tBM0, tUn, tSub, tPar, tPar3, gTup, gCons, gNil, tDrop, tMkS, tM1, sFld, StX.tStar, tYes, gSub, cxOf, Cx.wish, Cx.nox, Cx.blk]
      refine ⟨_, rfl, by show 2 ≤ sizeLine; decide, fun I hI => ⟨by show 1 ≤ sizeLine; decide, fun O hO => ⟨_, rfl, _, rfl, R, rs.map V.ref, rfl, .inl (SqL.of ?_), _, _, rfl, rfl, _, rfl, R, rs.map V.ref, rfl, .inl (SqL.of ?_), _, _, rfl, rfl, by show 3 ≤ sizeLine; decide, fun L hL => ?_⟩⟩⟩
      · exact Ext.upd hO _ _ (Ext.upd hI _ _ hRG.at_)
      · exact Ext.upd hO _ _ (Ext.upd hI _ _ hRG.at_)
      rw [rlen]
      have eL := (Ext.upd (o := .lst [.str "rise", .int 0]) hI).trans ((Ext.upd (o := .lst [.ref I]) hO).trans (Ext.upd (o := .lst [.int (400 - (ls.length : Int)), .int (401 - (ls.length : Int)), .int 1]) hL))
      have hIL : upd (upd (upd G9 I (.lst [.str "rise", .int 0])) O (.lst [.ref I])) L (.lst [.int (400 - (ls.length : Int)), .int (401 - (ls.length : Int)), .int 1]) I = some (.lst [.str "rise", .int 0]) := Ext.upd hL _ _ (Ext.upd hO _ _ upd_same)
      have hOL : upd (upd (upd G9 I (.lst [.str "rise", .int 0])) O (.lst [.ref I])) L (.lst [.int (400 - (ls.length : Int)), .int (401 - (ls.length : Int)), .int 1]) O = some (.lst [.ref I]) := Ext.upd hL _ _ upd_same
      have hIq : I ≠ q := hqG.ne hI
      have hOq : O ≠ q := (hqG.ext (Ext.upd hI)).ne hO
      have hLq : L ≠ q := ((hqG.ext (Ext.upd hI)).ext (Ext.upd hO)).ne hL
      have hLL : upd (upd (upd G9 I (.lst [.str "rise", .int 0])) O (.lst [.ref I])) L (.lst [.int (400 - (ls.length : Int)), .int (401 - (ls.length : Int)), .int 1]) L = some (.lst [.int (400 - (ls.length : Int)), .int (401 - (ls.length : Int)), .int 1]) := upd_same
      show sp_law_pick K [.ref q, .ref L] (upd (upd (upd G9 I (.lst [.str "rise", .int 0])) O (.lst [.ref I])) L (.lst [.int (400 - (ls.length : Int)), .int (401 - (ls.length : Int)), .int 1])) _ _
      generalize upd (upd (upd G9 I (.lst [.str "rise", .int 0])) O (.lst [.ref I])) L (.lst [.int (400 - (ls.length : Int)), .int (401 - (ls.length : Int)), .int 1]) = G1' at eL hIL hOL hLL ⊢
      refine ⟨q, c, ns, L, _, b + 4, rfl, hqG.ext eL, by omega, fun H' e => SqL.of (e _ _ hLq hLL), (by show 0 < 3; decide), (by show 3 ≤ 1000; decide), fun i v G' hv e' hq' => ?_⟩
      have key : ∃ n : Nat, v = .int (n : Nat) ∧ n ≤ 401 := by
        match i, hv with
        | 0, hv => cases hv; exact ⟨400 - ls.length, congrArg V.int (by omega), by omega⟩
        | 1, hv => cases hv; exact ⟨401 - ls.length, congrArg V.int (by omega), by omega⟩
        | 2, hv => cases hv; exact ⟨1, rfl, by decide⟩
        | i + 3, hv => cases hv
      obtain ⟨n, rfl, hn⟩ := key
      have hR' : RowsAt H G' R rs ls := (hRG.mono eL).monoP e' hRq hrq
      have hI' := e' _ _ hIq hIL
      have hO' := e' _ _ hOq hOL
      have eH' : ExtP q H G' := (e.trans (ExtP.of eL)).trans e'
      refine ⟨O, _, _, rfl, rfl, hO', by omega, by omega, ?_, fun P hP => ?_⟩
      · rw [Int.toNat_natCast]
        show 1 * n ≤ sizeLine
        exact Nat.le_of_lt (small1000 (by omega))
      rw [Int.toNat_natCast, List.flatten_replicate_singleton] at *
      have hRP : R ≠ P := ne_of_none hR'.at_ hP
      refine ⟨R, P, _, _, rfl, rfl, by rw [upd_ne hRP]; exact hR'.at_, upd_same, ?_, fun N hN => k1 _ _ ⟨N, rfl, eH'.trans (ExtP.of ((Ext.upd hP).trans (Ext.upd hN))), (hq'.ext (Ext.upd hP)).ext (Ext.upd hN), ?_, fun z => by omega⟩⟩
      · rw [List.length_replicate, rlen]
        exact Nat.le_of_lt (small1000 (by omega))
      · have eN : Ext G' (upd (upd G' P (.lst (List.replicate n (.ref I)))) N (.lst (rs.map V.ref ++ List.replicate n (.ref I)))) := (Ext.upd hP).trans (Ext.upd hN)
        have hNq : N ≠ q := (hq'.ext (Ext.upd hP)).ne hN
        refine ⟨(ls.map fun s => .list (stepDL s)) ++ List.replicate n (.list [.str "rise", .int 0]), .lst (SqL.of (by rw [del_ne hNq, upd_same])) (DpAll.app (hR'.dp fun r' hr' o h => ?_) (DpAll.rep (.lst (SqL.of ?_) (.cons (.str _) (.cons (.int _) .nil))) n)), ?_⟩
        · rw [del_ne (hrq r' hr')]
          exact eN _ _ h
        · rw [del_ne hIq]
          exact eN _ _ hI'
        · simp only [fineB, List.all_eq_true]
          intro x hx
          rcases List.mem_append.mp hx with hx | hx
          · have z := rows_fine hok
            simp only [fineB, List.all_eq_true] at z
            exact z x hx
          · rw [(List.mem_replicate.mp hx).2]
            decide +kernel
    obtain ⟨Ra, eσ, ea, hqa, ⟨ds, hda, hfa⟩, _⟩ := ha
    subst eσ
    dsimp only [tRet, tRetN, tSeq, tAsg, tOp, tVar, tC, tCB, tCons, tNil, tAndV, tOrV, tNotV, tAnd, tOr, tNot, tTest, tIf, tIfS, tB, tChain, tSl, tPart, tNoPart, tLst, tTup, tFld, tCl, tMt, tMk, gName, tNext, tBM, tBM0, tUn, tSub, tPar, tPar3, gTup, gCons, gNil, tDrop, tMkS, tM1, sFld, StX.tStar, tYes, gSub, cxOf, Cx.wish, Cx.nox, Cx.blk]
    refine ⟨_, rfl, rfl, _, rfl, ?_⟩
    obtain ⟨Ra', xs, e1', hxs, hAs⟩ := Dp.lstV hda
    cases e1'
    have dext : Ext (del Ga q) Ga := fun bb o h => by
      by_cases c : bb = q
      · rw [c, del_same] at h
        cases h
      · rw [del_ne c] at h
        exact h
    refine ite2 (fun _ => ⟨_, rfl, Ra, xs, rfl, .inl ⟨hxs.ext dext, fun t ht => k _ (.tuple ds) _ (fun _ => ?_) (ea.trans (ExtP.of (Ext.upd ht))) ((hqa.ext (Ext.upd ht)).mono (by omega)) (.inl (.tup (SqT.of ?_) (DpAll.ext ?_ hAs)))⟩⟩) fun _ => ⟨_, rfl, k _ (.list ds) _ (fun _ => hfa) ea (hqa.mono (by omega)) (.inl hda)⟩
    · simpa [fineB] using hfa
    · rw [del_ne (hqa.ne ht), upd_same]
    · intro bb o h
      by_cases c : bb = q
      · rw [c, del_same] at h
        cases h
      · rw [del_ne c] at h ⊢
        exact Ext.upd ht _ _ h
end
end K80

end
section
/-! K80l: bent texts. -/
namespace K80
open PySem L2 Ow
open PySem.Spec PyProof.Rows
/-! ### sizes of lists of words -/
def tot : List (List Nat) → Nat
  | [] => 0
  | a :: r => a.length + 1 + tot r
theorem tot_app : ∀ (l m : List (List Nat)), tot (l ++ m) = tot l + tot m
  | [], m => by simp [tot]
  | a :: l, m => by simp only [List.cons_append, tot, tot_app l m]; omega
theorem tot_set : ∀ (l : List (List Nat)) (i : Nat) (w : List Nat), tot (l.set i w) ≤ tot l + w.length
  | [], _, _ => by simp [tot]
  | a :: l, 0, w => by simp only [List.set_cons_zero, tot]; omega
  | a :: l, i + 1, w => by
    have := tot_set l i w
    simp only [List.set_cons_succ, tot]
    omega
theorem tot_mem : ∀ {l : List (List Nat)} {w : List Nat}, w ∈ l → w.length + 1 ≤ tot l
  | a :: l, w, h => by
    rcases List.mem_cons.mp h with e | e
    · rw [e]
      simp only [tot]
      omega
    · have := tot_mem e
      simp only [tot]
      omega
theorem tot_len : ∀ (l : List (List Nat)), l.length ≤ tot l
  | [] => Nat.le_refl _
  | a :: l => by
    have := tot_len l
    simp only [tot, List.length_cons]
    omega
theorem tot_erase : ∀ (l : List (List Nat)) (i : Nat), tot (l.eraseIdx i) ≤ tot l
  | [], _ => by simp [tot]
  | a :: l, 0 => by simp only [List.eraseIdx_cons_zero, tot]; omega
  | a :: l, i + 1 => by
    have := tot_erase l i
    simp only [List.eraseIdx_cons_succ, tot]
    omega
theorem tot_take (l : List (List Nat)) (n : Nat) : tot (l.take n) ≤ tot l := by
  have := tot_app (l.take n) (l.drop n)
  rw [List.take_append_drop] at this
  omega
theorem tot_drop (l : List (List Nat)) (n : Nat) : tot (l.drop n) ≤ tot l := by
  have := tot_app (l.take n) (l.drop n)
  rw [List.take_append_drop] at this
  omega
theorem tot_join : ∀ (l : List (List Nat)), (TL.joinL [32] l).length ≤ tot l
  | [] => Nat.zero_le _
  | [p] => by show p.length ≤ _; simp [tot]
  | p :: q :: r => by
    have ih := tot_join (q :: r)
    show (p ++ ([32] ++ TL.joinL [32] (q :: r))).length ≤ _
    rw [List.length_append, List.length_append, tot]
    simp only [List.length_singleton]
    omega
theorem tot_sum : ∀ (l : List (List Nat)), ((l.map S).map (·.length)).sum + (l.map S).length * 1 = tot l
  | [] => rfl
  | a :: l => by
    have := tot_sum l
    simp only [List.map_cons, List.sum_cons, List.length_cons, tot, S_len] at this ⊢
    omega
theorem spl_tot : ∀ (a acc : List Nat), tot (TL.spl [32] 0 acc a) = acc.length + a.length + 1
  | [], acc => by rw [TL.spl_nil]; simp [tot]
  | c :: r, acc => by
    by_cases h : TL.pre [32] (c :: r) = true
    · rw [TL.spl_hit h]
      have := spl_tot r []
      show acc.length + 1 + tot (TL.spl [32] 0 [] r) = _
      rw [this]
      simp only [List.length_nil, List.length_cons]
      omega
    · have e : TL.spl [32] 0 acc (c :: r) = TL.spl [32] 0 (acc ++ [c]) r := by
        show (if TL.pre [32] (c :: r) = true then _ else _) = _
        rw [if_neg h]
      rw [e, spl_tot r (acc ++ [c])]
      simp only [List.length_append, List.length_cons, List.length_nil]
      omega
theorem joinL_valid {sep : List Nat} (hs : Valid sep) : ∀ {l : List (List Nat)}, (∀ a ∈ l, Valid a) → Valid (TL.joinL sep l)
  | [], _ => fun x hx => by cases hx
  | [p], h => h p List.mem_cons_self
  | p :: q :: r, h => fun x hx => by
    have hx : x ∈ p ++ (sep ++ TL.joinL sep (q :: r)) := hx
    rcases List.mem_append.mp hx with hx | hx
    · exact h p List.mem_cons_self x hx
    · rcases List.mem_append.mp hx with hx | hx
      · exact hs x hx
      · exact joinL_valid hs (fun a ha => h a (List.mem_cons_of_mem _ ha)) x hx
theorem numL_valid (n : Nat) : Valid (TL.numL n) := fun c hc => by
  have := TL.numL_digits n c hc
  omega
/-- a drawn script's data -/
abbrev scriptD (ls : List (List Nat × List Int)) : List PyData := ls.map fun s => .list (stepDL s)
theorem items_ok {s : List Nat × List Int} (h : StepOk s) : ∀ x ∈ stepDL s, itemOk x := fun x hx => by
  refine fine_item (step_fine h x hx) ?_
  rcases List.mem_cons.mp hx with e | e
  · rw [e]
    exact .inl rfl
  · obtain ⟨n, hn, rfl⟩ := List.mem_map.mp e
    obtain ⟨bs, hk, hl, hb⟩ := h
    obtain ⟨i, hi, ei⟩ := List.getElem_of_mem hn
    have hib : i < bs.length := by omega
    exact .inr ⟨n, rfl, (hb i n bs[i] (by rw [← ei]; exact List.getElem?_eq_getElem hi) (List.getElem?_eq_getElem hib)).1⟩
theorem step_len {s : List Nat × List Int} (h : StepOk s) : (stepDL s).length ≤ 3 := by
  obtain ⟨bs, hk, hl, _⟩ := h
  have := lookB_len hk
  simp
  omega
theorem item_valid {s : List Nat × List Int} (h : StepOk s) : ∀ x ∈ stepDL s, Valid (itemText x) := fun x hx => by
  rcases List.mem_cons.mp hx with e | e
  · rw [e]
    obtain ⟨bs, hk, _⟩ := h
    intro c hc
    have hc : c ∈ s.1 := by simpa [itemText, S, SX.S] using hc
    have := (word_fine hk).2 c hc
    omega
  · obtain ⟨n, hn, rfl⟩ := List.mem_map.mp e
    exact numL_valid _
theorem script_valid {ls : List (List Nat × List Int)} (h : ∀ s ∈ ls, StepOk s) : Valid (scriptText (scriptD ls)) := by
  refine joinL_valid (fun c hc => by simp at hc; omega) fun a ha => ?_
  obtain ⟨d, hd, rfl⟩ := List.mem_map.mp ha
  obtain ⟨s, hs, rfl⟩ := List.mem_map.mp hd
  refine joinL_valid (fun c hc => by simp at hc; omega) fun a ha => ?_
  obtain ⟨x, hx, rfl⟩ := List.mem_map.mp ha
  exact item_valid (h s hs) x hx
theorem script_len {ls : List (List Nat × List Int)} (h : ∀ s ∈ ls, StepOk s) (hl : ls.length ≤ 10) : (scriptText (scriptD ls)).length ≤ 30060 := by
  unfold scriptText
  have h1 := joinL_len [32, 47, 32] ((scriptD ls).map fun d => stepText (dItems d))
  have h2 := sum_le (l := ((scriptD ls).map fun d => stepText (dItems d)).map (·.length)) (k := 3003) (fun n hn => by
    obtain ⟨x, hx, rfl⟩ := List.mem_map.mp hn
    obtain ⟨d, hd, rfl⟩ := List.mem_map.mp hx
    obtain ⟨s, hs, rfl⟩ := List.mem_map.mp hd
    exact stepText_len (items_ok (h s hs)) (step_len (h s hs)))
  simp only [List.length_map, List.length_cons, List.length_nil] at h1 h2
  omega
section
variable {w : World} {K : W.Frag} {mg : Str → Option Value} {base : Heap}
theorem rows_all {H M : Hp} {srs : List Addr} {ls : List (List Nat × List Int)} (hlen : srs.length = ls.length) (h : ∀ (i : Nat) r s, srs[i]? = some r → ls[i]? = some s → M r = some (.lst (stepL s))) : DpAll K M (srs.map V.ref) (scriptD ls) := by
  refine DpAll.of_get (by rw [List.length_map, List.length_map, hlen]) fun i v d hv hd => ?_
  rw [List.getElem?_map] at hv hd
  cases er : srs[i]? with
  | none =>
    rw [er] at hv
    cases hv
  | some r =>
    cases es : ls[i]? with
    | none =>
      rw [es] at hd
      cases hd
    | some s =>
      rw [er] at hv
      rw [es] at hd
      cases hv
      cases hd
      exact .lst (SqL.of (h i r s er es)) (stepL_dp s)
/-- the chain of changes of the words -/
def TxAt (K : W.Frag) (H : Hp) (q c : Addr) (ns : List Int) (b : Nat) (sl : Addr) (kind : Int) (tx : List Nat) (ws0 : List (List Nat)) (place a0 a1 : Nat) (item : List Nat) (M : Nat) (n : Int) (σ : L2.St) (G : Hp) : Prop :=
  ∃ W ws, σ = [some (.ref q), some (.ref sl), some (.int kind), some (.str (S tx)), some (.ref W), some (.int (place : Nat)), some (.int (a0 : Nat)), some (.int (a1 : Nat)), some (.str (S item)), none] ∧ ExtP q H G ∧ QAt K G q c ns b ∧ H W = none ∧ G W = some (.lst ((ws.map S).map V.str)) ∧ (∀ w ∈ ws, Valid w) ∧ tot ws ≤ M ∧ (n ≤ kind → ws = ws0)
theorem text_if {H : Hp} {q c : Addr} {ns : List Int} {b : Nat} {sl : Addr} {kind : Int} {tx : List Nat} {ws0 : List (List Nat)} {place a0 a1 : Nat} {item : List Nat} {M M' : Nat} {n : Int} {σ : L2.St} {G : Hp} {body : TS} {D : Ends} (hM : M ≤ M')
    (h : TxAt K H q c ns b sl kind tx ws0 place a0 a1 item M n σ G) (no : TxAt K H q c ns b sl kind tx ws0 place a0 a1 item M' (n + 1) σ G → D.nx σ G)
    (yes : ∀ W, kind = n → σ = [some (.ref q), some (.ref sl), some (.int kind), some (.str (S tx)), some (.ref W), some (.int (place : Nat)), some (.int (a0 : Nat)), some (.int (a1 : Nat)), some (.str (S item)), none] → ExtP q H G → QAt K G q c ns b → H W = none → G W = some (.lst ((ws0.map S).map V.str)) → body D σ G) :
    tIfS (tTest (tOp rEq (tVar 2) (tC (.int n)))) body tNext D σ G := by
  obtain ⟨W, ws, rfl, e, hq, hW, hG, hv, ht, hk⟩ := id h
  refine ⟨_, rfl, rfl, _, rfl, ?_⟩
  refine ite2 (fun z => ?_) fun z => ?_
  · have z : kind = n := by simpa using z
    have z2 := hk (by omega)
    subst z2
    exact yes W z rfl e hq hW hG
  · have z : kind ≠ n := by simpa using z
    exact no ⟨W, ws, rfl, e, hq, hW, hG, hv, by omega, fun hn => hk (by omega)⟩
theorem words_at {ws : List (List Nat)} {i : Nat} (h : i < ws.length) : atI ((ws.map S).map V.str) ((i : Nat) : Int) = some (.str (S ws[i])) := atI_nat (by rw [List.getElem?_map, List.getElem?_map, List.getElem?_eq_getElem h]; rfl)
theorem words_len (ws : List (List Nat)) : ((ws.map S).map V.str).length = ws.length := by rw [List.length_map, List.length_map]
theorem str_shaped {a : List Nat} (h : Valid a) : SeqAt.shaped (.str (S a)) = true := by
  have z : PyData.strOk (S a) = true := by
    unfold PyData.strOk
    rw [← Array.all_toList, List.all_eq_true]
    intro c hc
    have hc : c ∈ a := by simpa [S, SX.S] using hc
    exact decide_eq_true (h c hc)
  simp [SeqAt.shaped, PyData.canLay0, PyData.depth, z]
theorem S_app (a b : List Nat) : S a ++ S b = S (a ++ b) := by
  show (⟨_⟩ : Str) = _
  simp [S, SX.S]
theorem erase_map {α β : Type} (f : α → β) : ∀ (l : List α) (i : Nat), (l.map f).eraseIdx i = (l.eraseIdx i).map f
  | [], _ => rfl
  | a :: l, 0 => rfl
  | a :: l, i + 1 => by
    show f a :: (l.map f).eraseIdx i = f a :: (l.eraseIdx i).map f
    rw [erase_map f l i]
theorem gd_strE {x y : Str} (e : x = y) : GD K (tC (.str x)) (.str y) := e ▸ gd_str
theorem gd_rep {x : Str} {c : Nat} {n : Int} (e : x = S [c]) (h1 : 2 ≤ n) (h2 : n ≤ 1000) : GD K (tOp rRepS (tC (.str x)) (tC (.int n))) (.str (S (List.replicate n.toNat c))) := fun σ H Q q => ⟨c, n, congrArg V.str e, rfl, h1, h2, q _ _ Ext.rfl' (.str _)⟩
theorem tot_set2 {ws : List (List Nat)} {i j : Nat} {x y : List Nat} {n : Nat} (hx : x.length ≤ n) (hy : y.length ≤ n) : tot ((ws.set i x).set j y) ≤ tot ws + 2 * n := by
  have h1 := tot_set (ws.set i x) j y
  have h2 := tot_set ws i x
  omega
theorem tot_rep (l : List (List Nat)) : ∀ n, tot (List.replicate n l).flatten = n * tot l
  | 0 => by simp [tot]
  | n + 1 => by rw [List.replicate_succ, List.flatten_cons, tot_app, tot_rep l n, Nat.succ_mul, Nat.add_comm]
def itemsL : List (List Nat) := [[48], [52], [53], [56], [45, 49], [47], [], [115, 101, 110, 100], [99, 117, 116], [100, 114, 111, 112], [48, 49], [120], List.replicate 60 57, List.replicate 61 49]
def sp_law_text (K : W.Frag) : Sp := fun vs H Q _ => ∃ (q c : Addr) (ns : List Int) (b : Nat) (sl : Addr) (srs : List Addr) (ls : List (List Nat × List Int)), vs = [.ref q, .ref sl] ∧ QAt K H q c ns b ∧ b + 10 ≤ 100000 ∧ H sl = some (.lst (srs.map V.ref)) ∧ sl ≠ q ∧ srs.length = ls.length ∧ ls.length ≤ 10 ∧ (∀ (i : Nat) r s, srs[i]? = some r → ls[i]? = some s → H r = some (.lst (stepL s)) ∧ r ≠ q) ∧ (∀ s ∈ ls, StepOk s) ∧
  ∀ v d H', Dp K (del H' q) v d → SeqAt.shaped d = true → (∀ a, d = .str (S a) → a.length ≤ 200000 ∧ Valid a) → ExtP q H H' → QAt K H' q c ns (b + 10) → Q v H'
theorem c_law_text (T : Txt K mg) : Cal prg w K mg base CX0 3 "_law_text" ["_law_quiver_here", "_law_script"] (sp_law_text K) := by
  refine T.d_law_text.cal sc_law_text (fun vs H Q E ⟨q, c, ns, b, sl, srs, ls, e, _⟩ => by rw [e]; rfl) fun f cdv A outer s H vs Q E hr h => ?_
  have nd := sc_law_text.nd
  obtain ⟨q, c, ns, b, sl, srs, ls, rfl, hq, hb, hsl, hslq, hlen, hl10, hrow, hok, k⟩ := h
  refine ⟨_, PSs.nox (pss_cons (ps_set (i := 2) nd rfl (Or.inl rfl) (pe_cl (c_law_shoot T) (hr.mono (by decide)) pass0 (pa_cons (pv 0) (pa_cons pe_int pa_nil))))
      (pss_cons (ps_set (i := 3) nd rfl (Or.inl rfl) (pe_join pe_str (pe_lc (own := [("_law_step_here", 9)]) (tt := tYes) (g := gName 9) rfl nd (pi_seqF (pv 1)) (blkOk_by (own := [("_law_step_here", 9)]) (N := ["_law_quiver_here", "_law_script", "_law_kind", "_law_text_here", "_law_words", "_law_place", "_law_at", "_law_other", "_law_item", "_law_step_here"]) (sc := defScope s_law_text) (by decide +kernel)) (fun _ _ _ _ _ => (pg_name (i := 9) nd rfl (Or.inl rfl))) (fun _ _ _ _ _ => pts_nil) (fun _ _ _ _ _ => (pe_joinK (K := K) rfl pe_str (pe_lc (own := [("_law_item", 8)]) (tt := tYes) (g := gName 8) rfl nd (pi_seqFK (K := K) rfl (pv 9)) (blkOk_by (own := [("_law_item", 8)]) (N := ["_law_quiver_here", "_law_script", "_law_kind", "_law_text_here", "_law_words", "_law_place", "_law_at", "_law_other", "_law_item", "_law_step_here"]) (by rfl)) (fun _ _ _ _ _ => (pg_name (i := 8) nd rfl (Or.inl rfl))) (fun _ _ _ _ _ => pts_nil) (fun _ _ _ _ _ => (pe_callTy call_str_any (by rfl) T.f_str (by decide +kernel) (pa_cons (pv 8) pa_nil)))))))))
      (pss_cons (ps_if (PW.pt (pw_or (pt_cmpR op_eq (pv 3) pe_str (nomark _)) (pw_or1 (pt_cmpR op_eq (pv 2) pe_int (nomark _))))) (pss_one (ps_ret (pe_cl (c_law_pick T) (hr.mono (by decide)) pass0 (pa_cons (pv 0) (pa_cons (pe_lst (pa_cons pe_str (pa_cons pe_str (pa_cons pe_str (pa_cons pe_str (pa_cons pe_str (pa_cons pe_str (pa_cons pe_str (pa_cons pe_str (pa_cons pe_str (pa_cons pe_str (pa_cons pe_str (pa_cons pe_non (pa_cons pe_int (pa_cons (pe_lst (pa_cons pe_str pa_nil)) (pa_cons pe_bl pa_nil)))))))))))))))) pa_nil))))) pss_nil)
      (pss_cons (ps_par (i := 4) (j := 5) rfl nd rfl rfl (by decide) rfl rfl (pa_cons (pe_split (pv 3) pe_str) (pa_cons (pe_cl (c_law_shoot T) (hr.mono (by decide)) pass0 (pa_cons (pv 0) (pa_cons (pe_callB call_len_str (by rfl) T.f_len (by decide +kernel) (pa_cons (pv 3) pa_nil)) pa_nil))) pa_nil)) (by rfl))
      (pss_cons (ps_par (i := 6) (j := 7) rfl nd rfl rfl (by decide) rfl rfl (pa_cons (pe_cl (c_law_shoot T) (hr.mono (by decide)) pass0 (pa_cons (pv 0) (pa_cons (pe_callB call_len_seq (by rfl) T.f_len (by decide +kernel) (pa_cons (pv 4) pa_nil)) pa_nil))) (pa_cons (pe_cl (c_law_shoot T) (hr.mono (by decide)) pass0 (pa_cons (pv 0) (pa_cons (pe_callB call_len_seq (by rfl) T.f_len (by decide +kernel) (pa_cons (pv 4) pa_nil)) pa_nil))) pa_nil)) (by rfl))
      (pss_cons (ps_set (i := 8) nd rfl (Or.inl rfl) (pe_cl (c_law_pick T) (hr.mono (by decide)) pass0 (pa_cons (pv 0) (pa_cons (pe_lst (pa_cons pe_str (pa_cons pe_str (pa_cons pe_str (pa_cons pe_str (pa_cons pe_str (pa_cons pe_str (pa_cons pe_str (pa_cons pe_str (pa_cons pe_str (pa_cons pe_str (pa_cons pe_str (pa_cons pe_str (pa_cons (pe_op op_repS pe_str pe_int) (pa_cons (pe_op op_repS pe_str pe_int) pa_nil))))))))))))))) pa_nil))))
      (pss_cons (ps_if (pt_cmpR op_eq (pv 2) pe_int (nomark _)) (pss_one (ps_asg (pv 8) (pg_sub (pv 4) (pv 6) set_list))) pss_nil)
      (pss_cons (ps_if (pt_cmpR op_eq (pv 2) pe_int (nomark _)) (pss_one (ps_expr (pe_bm PySem.F.plainAttrs_list PySem.F.slot_list_pop PySem.F.type_list_pop mt_popAt (pv 4) (pa_cons (pv 6) pa_nil)))) pss_nil)
      (pss_cons (ps_if (pt_cmpR op_eq (pv 2) pe_int (nomark _)) (pss_one (ps_expr (pe_bm PySem.F.plainAttrs_list PySem.F.slot_list_insert PySem.F.type_list_insert mt_insert (pv 4) (pa_cons (pv 6) (pa_cons (pv 8) pa_nil))))) pss_nil)
      (pss_cons (ps_if (pt_cmpR op_eq (pv 2) pe_int (nomark _)) (pss_one (ps_asg (pe_tup (pa_cons (pe_ix ix_list (pv 4) (pv 7) (fun _ _ => rfl)) (pa_cons (pe_ix ix_list (pv 4) (pv 6) (fun _ _ => rfl)) pa_nil))) (pg_tup (by rfl) (pgs_cons (pg_sub (pv 4) (pv 6) set_list) (pgs_cons (pg_sub (pv 4) (pv 7) set_list) pgs_nil))))) pss_nil)
      (pss_cons (ps_if (pt_cmpR op_eq (pv 2) pe_int (nomark _)) (pss_one (ps_set (i := 4) nd rfl (Or.inl rfl) (pe_slice sl_list (pv 4) po_none (po_some (pv 6))))) pss_nil)
      (pss_cons (ps_if (pt_cmpR op_eq (pv 2) pe_int (nomark _)) (pss_one (ps_ret (pe_op op_add_str (pe_op op_add_str (pe_slice sl_str (pv 3) po_none (po_some (pv 5))) (pe_cl (c_law_pick T) (hr.mono (by decide)) pass0 (pa_cons (pv 0) (pa_cons (pe_lst (pa_cons pe_str (pa_cons pe_str (pa_cons pe_str (pa_cons pe_str (pa_cons pe_str (pa_cons pe_str (pa_cons pe_str pa_nil)))))))) pa_nil)))) (pe_slice sl_str (pv 3) (po_some (pe_op op_add (pv 5) pe_int)) po_none)))) pss_nil)
      (pss_cons (ps_if (pt_cmpR op_eq (pv 2) pe_int (nomark _)) (pss_one (ps_set (i := 4) nd rfl (Or.inl rfl) (pe_op op_cat (pv 4) (pe_op op_rep (pe_lst (pa_cons pe_str (pa_cons pe_str (pa_cons pe_str pa_nil)))) (pe_cl (c_law_pick T) (hr.mono (by decide)) pass0 (pa_cons (pv 0) (pa_cons (pe_lst (pa_cons (pe_op op_sub pe_int (pe_callB call_len_seq (by rfl) T.f_len (by decide +kernel) (pa_cons (pv 1) pa_nil))) (pa_cons (pe_op op_sub pe_int (pe_callB call_len_seq (by rfl) T.f_len (by decide +kernel) (pa_cons (pv 1) pa_nil))) (pa_cons pe_int pa_nil)))) pa_nil))))))) pss_nil)
      (pss_one (ps_ret (pe_join pe_str (pv 4))))))))))))))))), ?_⟩
  have hqH : H q ≠ none := by
    obtain ⟨xs, h1⟩ := hq.here
    rw [h1]
    simp
  -- a text as the answer
  have kS : ∀ (a : List Nat) (H' : Hp), Valid a → a.length ≤ 200000 → ExtP q H H' → (∃ b', b' ≤ b + 10 ∧ QAt K H' q c ns b') → Q (.str (S a)) H' := fun a H' hv hl e ⟨b', hb', hq'⟩ =>
    k _ (.str (S a)) H' (.str _) (str_shaped hv) (fun a' z => by cases z; exact ⟨hl, hv⟩) e (hq'.mono hb')
  refine cut_asg (fun v G => ∃ kind : Int, v = .int kind ∧ 0 ≤ kind ∧ ExtP q H G ∧ QAt K G q c ns (b + 1)) (fun Q1 k1 => ?_) fun v G1 ⟨kind, ev, hk0, e1, hq1⟩ => ?_
  · dsimp only [tRet, tRetN, tSeq, tAsg, tOp, tVar, tC, tCB, tCons, tNil, tAndV, tOrV, tNotV, tAnd, tOr, tNot, tTest, tIf, tIfS, tB, tChain, tSl, tPart, tNoPart, tLst, tTup, tFld, tCl, tMt, tMk, gName, tNext, tBM, tBM0, tUn, tSub, tPar, tPar3, gTup, gCons, gNil, tDrop, tMkS, tM1, sFld, StX.tStar, tYes, gSub, cxOf, Cx.wish, Cx.nox, Cx.blk]
    exact ⟨_, rfl, q, c, ns, 9, b, rfl, hq, by omega, by decide, by decide, fun r G r0 r1 e h => k1 _ _ ⟨r, rfl, r0, e, h⟩⟩
  subst ev
  have hsl1 := e1 _ _ hslq hsl
  have hrow1 : ∀ (i : Nat) r s, srs[i]? = some r → ls[i]? = some s → G1 r = some (.lst (stepL s)) := fun i r s h1 h2 => e1 _ _ (hrow i r s h1 h2).2 (hrow i r s h1 h2).1
  refine cut_asg (fun v G => v = .str (S (scriptText (scriptD ls))) ∧ Ext G1 G) (fun Q1 k1 => ?_) fun v G2 ⟨ev, e2⟩ => ?_
  · refine script_rd (sep := " / ") (fl := true) (a := sl) (xs := srs.map V.ref) (ds := scriptD ls) (by decide +kernel) (fun Q hQ => hQ) rfl (by show 9 < 10; decide) (by show 8 < 10; decide) (SqL.of hsl1) (rows_all (H := H) hlen hrow1) (fun e he => ?_) (by rw [List.length_map]; omega) fun H' e => k1 _ _ ⟨rfl, e⟩
    obtain ⟨s, hs, rfl⟩ := List.mem_map.mp he
    exact ⟨rfl, step_len (hok s hs), items_ok (hok s hs)⟩
  subst ev
  have htv := script_valid hok
  have htl := script_len hok hl10
  generalize scriptText (scriptD ls) = tx at htv htl ⊢
  have hq2 := hq1.ext e2
  have e02 : ExtP q H G2 := e1.trans (ExtP.of e2)
  have hsl2 := e2 _ _ hsl1
  refine cut_ifn (fun c G => c = (decide (tx = []) || decide (kind = 0)) ∧ G = G2) (fun Q1 k1 => ?_) fun cc G3 ⟨ec, eG⟩ => ?_
  · dsimp only [tRet, tRetN, tSeq, tAsg, tOp, tVar, tC, tCB, tCons, tNil, tAndV, tOrV, tNotV, tAnd, tOr, tNot, tTest, tIf, tIfS, tB, tChain, tSl, tPart, tNoPart, tLst, tTup, tFld, tCl, tMt, tMk, gName, tNext, tBM, tBM0, tUn, tSub, tPar, tPar3, gTup, gCons, gNil, tDrop, tMkS, tM1, sFld, StX.tStar, tYes, gSub, cxOf, Cx.wish, Cx.nox, Cx.blk]
    refine ⟨_, rfl, rEq_S (b := []) (by decide +kernel) ⟨_, rfl, ?_⟩⟩
    refine ite2 (fun c => k1 _ _ ⟨?_, rfl⟩) fun c => ⟨_, rfl, rfl, _, rfl, k1 _ _ ⟨?_, rfl⟩⟩
    · rw [c]
      rfl
    · rw [dec_int, show decide (tx = []) = false by simpa using c, Bool.false_or, Bool.eq_iff_iff]
      simp
  subst eG
  cases hc : (decide (tx = []) || decide (kind = 0)) with
  | true =>
    rw [hc] at ec
    refine if_t ec ⟨_, rfl, ?_⟩
    show tLst _ _ _ _
    refine gv_list (K := K) (ds := [.str "", .str " ", .str "/", .str "send", .str "send 0 /", .str "send 0 / ", .str "fly 0", .str "send -0", .str "send 00", .str "cut 4", .str "send 0 rise 0", .none, .int 5, .list [.str "send 0"], .bool true]) ?_ fun l vs G5 e5 hl hl5 hA => ?_
    · repeat (first | exact gvs_nil | refine gvs_cons ?_ ?_ | refine gv_d ?_ | exact gds_nil | exact gd_int | exact gd_non | exact gd_str | exact gd_bl | refine gds_cons ?_ ?_ | refine gd_lst ?_ (by decide))
    · have hlq : l ≠ q := hq2.ne hl
      have hl2 := VdAll.length hA
      refine ⟨q, c, ns, l, vs, b + 1, rfl, hq2.ext e5, by omega, fun H' e => SqL.of (e _ _ hlq hl5), by rw [hl2]; decide, by rw [hl2]; decide, fun i v G6 hv e6 hq6 => ?_⟩
      obtain ⟨d, hd, hp⟩ := VdAll.getV hA hv
      have z : ([.str "", .str " ", .str "/", .str "send", .str "send 0 /", .str "send 0 / ", .str "fly 0", .str "send -0", .str "send 00", .str "cut 4", .str "send 0 rise 0", .none, .int 5, .list [.str "send 0"], .bool true] : List PyData).all (fun d => SeqAt.shaped d && match d with | .dict _ => false | .str x => decide (x.cps.toList.length ≤ 200000) && x.cps.toList.all (fun c => decide (c < 0x110000)) | _ => true) = true := by decide +kernel
      have z2 := Bool.and_eq_true_iff.mp (List.all_eq_true.mp z d (List.mem_of_getElem? hd))
      have hq3x : G3 q ≠ none := by
        obtain ⟨xs, h1⟩ := hq2.here
        rw [h1]
        simp
      have hp2 : Dp K (nw G3 G5) v d := by
        rcases hp with hp | ⟨_, _, _, hp⟩
        · exact hp
        · rw [hp] at z2
          cases z2.2
      refine k v d _ (Dp.ext (fun bb o h => ?_) hp2) z2.1 (fun a ha => ?_) ((e02.trans (ExtP.of e5)).trans e6) (hq6.mono (by omega))
      · obtain ⟨z1, z2⟩ := nw_some h
        have hbq : bb ≠ q := fun z => hq3x (by rw [← z]; exact z1)
        rw [del_ne hbq]
        exact e6 _ _ hbq z2
      · rw [ha] at z2
        have z3 := z2.2
        simp only [Bool.and_eq_true, decide_eq_true_eq, List.all_eq_true] at z3
        exact ⟨z3.1, fun c hc => z3.2 c hc⟩
  | false =>
    rw [hc] at ec
    refine if_f ec ?_
    have hc := Bool.or_eq_false_iff.mp hc
    have hne : tx ≠ [] := of_decide_eq_false hc.1
    have hpos : 0 < tx.length := List.length_pos_iff.mpr hne
    have big : ∀ {n : Nat}, n ≤ 100000 → n < 2 ^ 9000 := fun h => by
      refine Nat.lt_of_le_of_lt h ?_
      exact Nat.lt_of_lt_of_le (m := 2 ^ 17) (by decide) (Nat.pow_le_pow_right (by decide) (by decide))
    have hsz : ∀ {n : Nat}, n ≤ 200000 → n ≤ sizeLine := fun h => Nat.le_trans h (by decide)
    have hwt := spl_tot tx []
    have hwv : ∀ w ∈ TL.spl [32] 0 [] tx, Valid w := splitW_valid htv
    obtain ⟨ws, ews⟩ : ∃ ws, TL.spl [32] 0 [] tx = ws := ⟨_, rfl⟩
    rw [ews] at hwt hwv
    have hwl := tot_len ws
    simp only [List.length_nil, Nat.zero_add] at hwt
    have hw0 : 0 < ws.length := by
      cases ws with
      | nil => simp [tot] at hwt
      | cons x r => simp
    refine cut_tseq (fun σ G => ∃ (W : Addr) (place : Nat), σ = [some (.ref q), some (.ref sl), some (.int kind), some (.str (S tx)), some (.ref W), some (.int (place : Nat)), none, none, none, none] ∧ place < tx.length ∧ ExtP q H G ∧ QAt K G q c ns (b + 2) ∧ H W = none ∧ G W = some (.lst ((ws.map S).map V.str))) (fun D1 k1 => ?_) fun σ G4 ⟨W, place, eσ, hpl0, e3, hq3, hWH, hW⟩ => ?_
    · dsimp only [tRet, tRetN, tSeq, tAsg, tOp, tVar, tC, tCB, tCons, tNil, tAndV, tOrV, tNotV, tAnd, tOr, tNot, tTest, tIf, tIfS, tB, tChain, tSl, tPart, tNoPart, tLst, tTup, tFld, tCl, tMt, tMk, gName, tNext, tBM, tBM0, tUn, tSub, tPar, tPar3, gTup, gCons, gNil, tDrop, tMkS, tM1, sFld, StX.tStar, tYes, gSub, cxOf, Cx.wish, Cx.nox, Cx.blk]
      refine ⟨_, rfl, ⟨_, rfl⟩, S tx, S [32], rfl, congrArg (fun z => [V.str z]) (by decide +kernel), rfl, by rw [S_len]; exact hsz (by omega), ?_⟩
      rw [SX.split_S (by simp) (by decide), ews]
      refine fun W hW => ?_
      have hWH : H W = none := by
        cases hz : H W with
        | none => rfl
        | some o =>
          rw [e02 _ _ (hq2.ne hW) hz] at hW
          cases hW
      have hWq := hq2.ne hW
      refine ⟨_, rfl, _, rfl, S tx, rfl, by rw [S_len]; exact hsz (by omega), q, c, ns, _, b + 1, rfl, hq2.ext (Ext.upd hW), by omega, by rw [S_len]; omega, by rw [S_len]; exact big (by omega), fun r G r0 r1 e h => ?_⟩
      obtain ⟨j, rfl⟩ := Int.eq_ofNat_of_zero_le r0
      exact ⟨_, _, rfl, k1 _ _ ⟨W, j, rfl, by rw [S_len] at r1; omega, (e02.trans (ExtP.of (Ext.upd hW))).trans e, h, hWH, e _ _ hWq upd_same⟩⟩
    subst eσ
    have hWq : W ≠ q := fun z => hqH (by rw [← z]; exact hWH)
    refine cut_tseq (fun σ G => ∃ (a0 a1 : Nat), σ = [some (.ref q), some (.ref sl), some (.int kind), some (.str (S tx)), some (.ref W), some (.int (place : Nat)), some (.int (a0 : Nat)), some (.int (a1 : Nat)), none, none] ∧ a0 < ws.length ∧ a1 < ws.length ∧ ExtP q H G ∧ QAt K G q c ns (b + 4) ∧ G W = some (.lst ((ws.map S).map V.str))) (fun D1 k1 => ?_) fun σ G5 ⟨a0, a1, eσ, ha0, ha1, e5, hq5, hW5⟩ => ?_
    · dsimp only [tRet, tRetN, tSeq, tAsg, tOp, tVar, tC, tCB, tCons, tNil, tAndV, tOrV, tNotV, tAnd, tOr, tNot, tTest, tIf, tIfS, tB, tChain, tSl, tPart, tNoPart, tLst, tTup, tFld, tCl, tMt, tMk, gName, tNext, tBM, tBM0, tUn, tSub, tPar, tPar3, gTup, gCons, gNil, tDrop, tMkS, tM1, sFld, StX.tStar, tYes, gSub, cxOf, Cx.wish, Cx.nox, Cx.blk]
      refine ⟨_, rfl, _, rfl, W, _, rfl, .inl (SqL.of hW), q, c, ns, _, b + 2, rfl, hq3, by omega, by rw [words_len]; omega, by rw [words_len]; exact big (by omega), fun r G r0 r1 e h => ?_⟩
      obtain ⟨j, rfl⟩ := Int.eq_ofNat_of_zero_le r0
      have hW2 := e _ _ hWq hW
      refine ⟨_, rfl, _, rfl, W, _, rfl, .inl (SqL.of hW2), q, c, ns, _, b + 3, rfl, h, by omega, by rw [words_len]; omega, by rw [words_len]; exact big (by omega), fun r' G' r0' r1' e' h' => ?_⟩
      obtain ⟨j', rfl⟩ := Int.eq_ofNat_of_zero_le r0'
      rw [words_len] at r1 r1'
      exact ⟨_, _, rfl, k1 _ _ ⟨j, j', rfl, by omega, by omega, (e3.trans e).trans e', h', e' _ _ hWq hW2⟩⟩
    subst eσ
    refine cut_asg (fun v G => ∃ item, v = .str (S item) ∧ item.length ≤ 61 ∧ Valid item ∧ ExtP q G5 G ∧ QAt K G q c ns (b + 5)) (fun Q1 k1 => ?_) fun v G6 ⟨item, ev, hil, hiv, e6, hq6⟩ => ?_
    · refine ⟨_, rfl, ?_⟩
      show tLst _ _ _ _
      refine gv_list (K := K) (ds := itemsL.map fun a => .str (S a)) ?_ fun l vs G7 e7 hl hl7 hA => ?_
      · simp only [itemsL, List.map_cons, List.map_nil]
        repeat (first | exact gvs_nil | refine gvs_cons ?_ ?_ | refine gv_d ?_ | exact gd_strE (by decide +kernel))
        · exact gd_rep (c := 57) (n := 60) (by decide +kernel) (by decide) (by decide)
        · exact gvs_cons (gv_d (gd_rep (c := 49) (n := 61) (by decide +kernel) (by decide) (by decide))) gvs_nil
      · have hlq : l ≠ q := hq5.ne hl
        have hl2 := VdAll.length hA
        refine ⟨q, c, ns, l, vs, b + 4, rfl, hq5.ext e7, by omega, fun H' e => SqL.of (e _ _ hlq hl7), by rw [hl2]; decide, by rw [hl2]; decide, fun i v G8 hv e8 hq8 => ?_⟩
        obtain ⟨d, hd, hp⟩ := VdAll.getV hA hv
        obtain ⟨a, ha, rfl⟩ := List.mem_map.mp (List.mem_of_getElem? hd)
        have z : itemsL.all (fun a => decide (a.length ≤ 61) && a.all (fun c => decide (c < 0x110000))) = true := by decide +kernel
        have z2 := List.all_eq_true.mp z a ha
        simp only [Bool.and_eq_true, decide_eq_true_eq, List.all_eq_true] at z2
        exact k1 _ _ ⟨a, Vd.str hp, z2.1, z2.2, (ExtP.of e7).trans e8, hq8⟩
    subst ev
    have e06 := e5.trans e6
    have hW6 := e6 _ _ hWq hW5
    have h6 : TxAt K H q c ns (b + 5) sl kind tx ws place a0 a1 item 31000 1 [some (.ref q), some (.ref sl), some (.int kind), some (.str (S tx)), some (.ref W), some (.int (place : Nat)), some (.int (a0 : Nat)), some (.int (a1 : Nat)), some (.str (S item)), none] G6 :=
      ⟨W, ws, rfl, e06, hq6, hWH, hW6, hwv, by omega, fun _ => rfl⟩
    -- the answer's place, changed
    have ext1 : ∀ {G : Hp} {u : HO} {D : Addr}, ExtP q H G → H D = none → ExtP q H (upd G D u) := fun e hD bb o hb h => by rw [upd_ne (ne_of_none h hD)]; exact e _ _ hb h
    refine cut_tseq (fun σ G => TxAt K H q c ns (b + 5) sl kind tx ws place a0 a1 item 31100 2 σ G) (fun D1 k1 => ?_) fun σ G7 h7 => ?_
    · refine text_if (by decide) h6 (fun h => k1 _ _ h) fun W1 hk eσ e hqG hWn hWG => ?_
      rw [eσ]
      dsimp only [tRet, tRetN, tSeq, tAsg, tOp, tVar, tC, tCB, tCons, tNil, tAndV, tOrV, tNotV, tAnd, tOr, tNot, tTest, tIf, tIfS, tB, tChain, tSl, tPart, tNoPart, tLst, tTup, tFld, tCl, tMt, tMk, gName, tNext, tBM, tBM0, tUn, tSub, tPar, tPar3, gTup, gCons, gNil, tDrop, tMkS, tM1, sFld, StX.tStar, tYes, gSub, cxOf, Cx.wish, Cx.nox, Cx.blk]
      refine ⟨_, rfl, _, rfl, _, rfl, W1, _, _, a0, rfl, rfl, hWG, ixN_nat (by rw [words_len]; exact ha0), k1 _ _ ⟨W1, ws.set a0 item, rfl, ext1 e hWn, hq.but e hqG hWn, hWn, by rw [upd_same, List.map_set, List.map_set], fun x hx => ?_, ?_, fun z => by omega⟩⟩
      · rcases List.mem_or_eq_of_mem_set hx with hx | hx
        · exact hwv x hx
        · rw [hx]
          exact hiv
      · have := tot_set ws a0 item
        omega
    refine cut_tseq (fun σ G => TxAt K H q c ns (b + 5) sl kind tx ws place a0 a1 item 31100 3 σ G) (fun D1 k1 => ?_) fun σ G8 h8 => ?_
    · refine text_if (by decide) h7 (fun h => k1 _ _ h) fun W1 hk eσ e hqG hWn hWG => ?_
      rw [eσ]
      dsimp only [tRet, tRetN, tSeq, tAsg, tOp, tVar, tC, tCB, tCons, tNil, tAndV, tOrV, tNotV, tAnd, tOr, tNot, tTest, tIf, tIfS, tB, tChain, tSl, tPart, tNoPart, tLst, tTup, tFld, tCl, tMt, tMk, gName, tNext, tBM, tBM0, tUn, tSub, tPar, tPar3, gTup, gCons, gNil, tDrop, tMkS, tM1, sFld, StX.tStar, tYes, gSub, cxOf, Cx.wish, Cx.nox, Cx.blk]
      refine ⟨_, rfl, .inl ⟨rfl, _, SqL.of hWG⟩, _, rfl, W1, _, _, a0, _, rfl, rfl, hWG, by omega, by omega, seq_at (by rw [words_len]; exact ha0), by rw [List.getElem?_map, List.getElem?_map, List.getElem?_eq_getElem ha0]; rfl, k1 _ _ ⟨W1, ws.eraseIdx a0, rfl, ext1 e hWn, hq.but e hqG hWn, hWn, by rw [upd_same, erase_map, erase_map], fun x hx => hwv x (List.mem_of_mem_eraseIdx hx), ?_, fun z => by omega⟩⟩
      have := tot_erase ws a0
      omega
    refine cut_tseq (fun σ G => TxAt K H q c ns (b + 5) sl kind tx ws place a0 a1 item 31100 4 σ G) (fun D1 k1 => ?_) fun σ G9 h9 => ?_
    · refine text_if (by decide) h8 (fun h => k1 _ _ h) fun W1 hk eσ e hqG hWn hWG => ?_
      rw [eσ]
      dsimp only [tRet, tRetN, tSeq, tAsg, tOp, tVar, tC, tCB, tCons, tNil, tAndV, tOrV, tNotV, tAnd, tOr, tNot, tTest, tIf, tIfS, tB, tChain, tSl, tPart, tNoPart, tLst, tTup, tFld, tCl, tMt, tMk, gName, tNext, tBM, tBM0, tUn, tSub, tPar, tPar3, gTup, gCons, gNil, tDrop, tMkS, tM1, sFld, StX.tStar, tYes, gSub, cxOf, Cx.wish, Cx.nox, Cx.blk]
      refine ⟨_, rfl, .inl ⟨rfl, _, SqL.of hWG⟩, _, rfl, _, rfl, W1, _, _, _, rfl, rfl, hWG, by rw [words_len]; exact Nat.lt_of_le_of_lt (m := 100000) (by omega) (by decide), by omega, by omega, k1 _ _ ⟨W1, ws.take a0 ++ [item] ++ ws.drop a0, rfl, ext1 e hWn, hq.but e hqG hWn, hWn, ?_, fun x hx => ?_, ?_, fun z => by omega⟩⟩
      · rw [upd_same, Int.toNat_natCast, List.map_append, List.map_append, List.map_append, List.map_append, List.map_take, List.map_take, List.map_drop, List.map_drop]
        rfl
      · rcases List.mem_append.mp hx with hx | hx
        · rcases List.mem_append.mp hx with hx | hx
          · exact hwv x (List.mem_of_mem_take hx)
          · rw [List.mem_singleton.mp hx]
            exact hiv
        · exact hwv x (List.mem_of_mem_drop hx)
      · have h1 := tot_app (ws.take a0 ++ [item]) (ws.drop a0)
        have h2 := tot_app (ws.take a0) [item]
        have h3 := tot_app (ws.take a0) (ws.drop a0)
        rw [List.take_append_drop] at h3
        have h4 : tot [item] = item.length + 1 := rfl
        omega
    refine cut_tseq (fun σ G => TxAt K H q c ns (b + 5) sl kind tx ws place a0 a1 item 99000 5 σ G) (fun D1 k1 => ?_) fun σ Ga ha => ?_
    · refine text_if (by decide) h9 (fun h => k1 _ _ h) fun W1 hk eσ e hqG hWn hWG => ?_
      rw [eσ]
      dsimp only [tRet, tRetN, tSeq, tAsg, tOp, tVar, tC, tCB, tCons, tNil, tAndV, tOrV, tNotV, tAnd, tOr, tNot, tTest, tIf, tIfS, tB, tChain, tSl, tPart, tNoPart, tLst, tTup, tFld, tCl, tMt, tMk, gName, tNext, tBM, tBM0, tUn, tSub, tPar, tPar3, gTup, gCons, gNil, tDrop, tMkS, tM1, sFld, StX.tStar, tYes, gSub, cxOf, Cx.wish, Cx.nox, Cx.blk]
      refine ⟨_, rfl, _, rfl, W1, _, _, _, rfl, rfl, SqL.of hWG, words_at ha1, _, rfl, _, rfl, W1, _, _, _, rfl, rfl, SqL.of hWG, words_at ha0, (by show 2 ≤ sizeLine; decide), fun p hp => ⟨p, _, rfl, SqT.of upd_same, rfl, _, _, rfl, _, rfl, _, rfl, W1, _, _, a0, rfl, rfl, by rw [upd_ne (ne_of_none hWG hp)]; exact hWG, ixN_nat (by rw [words_len]; exact ha0), ?_⟩⟩
      refine ⟨_, _, rfl, _, rfl, _, rfl, W1, _, _, a1, rfl, rfl, upd_same, ixN_nat (by rw [List.length_set, words_len]; exact ha1), ?_⟩
      have hpH : H p = none := by
        cases hz : H p with
        | none => rfl
        | some o =>
          rw [e _ _ (hqG.ne hp) hz] at hp
          cases hp
      have e1 := ext1 e hpH (u := .tup [.str (S ws[a1]), .str (S ws[a0])])
      have q1 := hqG.ext (Ext.upd hp (o := .tup [.str (S ws[a1]), .str (S ws[a0])]))
      have m0 := tot_mem (List.getElem_mem ha0)
      have m1 := tot_mem (List.getElem_mem ha1)
      refine ⟨rfl, k1 _ _ ⟨W1, (ws.set a0 ws[a1]).set a1 ws[a0], rfl, ext1 (ext1 e1 hWn) hWn, hq.but (ext1 e1 hWn) (hq.but e1 q1 hWn) hWn, hWn, by rw [upd_same, List.map_set, List.map_set, List.map_set, List.map_set], fun x hx => ?_, ?_, fun z => by omega⟩⟩
      · rcases List.mem_or_eq_of_mem_set hx with hx | hx
        · rcases List.mem_or_eq_of_mem_set hx with hx | hx
          · exact hwv x hx
          · rw [hx]
            exact hwv _ (List.getElem_mem ha1)
        · rw [hx]
          exact hwv _ (List.getElem_mem ha0)
      · have := tot_set2 (ws := ws) (i := a0) (j := a1) (x := ws[a1]) (y := ws[a0]) (n := 31000) (by omega) (by omega)
        omega
    refine cut_tseq (fun σ G => TxAt K H q c ns (b + 5) sl kind tx ws place a0 a1 item 99000 6 σ G) (fun D1 k1 => ?_) fun σ Gb hb' => ?_
    · refine text_if (by decide) ha (fun h => k1 _ _ h) fun W1 hk eσ e hqG hWn hWG => ?_
      rw [eσ]
      dsimp only [tRet, tRetN, tSeq, tAsg, tOp, tVar, tC, tCB, tCons, tNil, tAndV, tOrV, tNotV, tAnd, tOr, tNot, tTest, tIf, tIfS, tB, tChain, tSl, tPart, tNoPart, tLst, tTup, tFld, tCl, tMt, tMk, gName, tNext, tBM, tBM0, tUn, tSub, tPar, tPar3, gTup, gCons, gNil, tDrop, tMkS, tM1, sFld, StX.tStar, tYes, gSub, cxOf, Cx.wish, Cx.nox, Cx.blk]
      refine ⟨_, rfl, _, rfl, _, rfl, W1, _, rfl, SqL.of hWG, fun p hp => ?_⟩
      have hpH : H p = none := by
        cases hz : H p with
        | none => rfl
        | some o =>
          rw [e _ _ (hqG.ne hp) hz] at hp
          cases hp
      refine k1 _ _ ⟨p, ws.take a0, rfl, ext1 e hpH, hqG.ext (Ext.upd hp), hpH, ?_, fun x hx => hwv x (List.mem_of_mem_take hx), ?_, fun z => by omega⟩
      · rw [upd_same, cutV_take, List.map_take, List.map_take]
      · have := tot_take ws a0
        omega
    refine cut_tseq (fun σ G => TxAt K H q c ns (b + 5) sl kind tx ws place a0 a1 item 99000 7 σ G) (fun D1 k1 => ?_) fun σ Gc hc' => ?_
    · refine text_if (by decide) hb' (fun h => k1 _ _ h) fun W1 hk eσ e hqG hWn hWG => ?_
      rw [eσ]
      dsimp only [tRet, tRetN, tSeq, tAsg, tOp, tVar, tC, tCB, tCons, tNil, tAndV, tOrV, tNotV, tAnd, tOr, tNot, tTest, tIf, tIfS, tB, tChain, tSl, tPart, tNoPart, tLst, tTup, tFld, tCl, tMt, tMk, gName, tNext, tBM, tBM0, tUn, tSub, tPar, tPar3, gTup, gCons, gNil, tDrop, tMkS, tM1, sFld, StX.tStar, tYes, gSub, cxOf, Cx.wish, Cx.nox, Cx.blk]
      refine ⟨_, rfl, _, rfl, _, rfl, rTake_S (hsz (by omega)) ⟨_, rfl, (by show 7 ≤ sizeLine; decide), fun p hp => ?_⟩⟩
      have hpq := hqG.ne hp
      refine ⟨q, c, ns, p, _, b + 5, rfl, hqG.ext (Ext.upd hp), by omega, fun H' e => SqL.of (e _ _ hpq upd_same), (by show 0 < 7; decide), (by show 7 ≤ 1000; decide), fun i v G' hv e' hq' => ?_⟩
      have key : ∃ x : Nat, v = .str (S [x]) ∧ x < 128 := by
        match i, hv with
        | 0, hv => cases hv; exact ⟨49, congrArg V.str (by decide +kernel), by decide⟩
        | 1, hv => cases hv; exact ⟨32, congrArg V.str (by decide +kernel), by decide⟩
        | 2, hv => cases hv; exact ⟨47, congrArg V.str (by decide +kernel), by decide⟩
        | 3, hv => cases hv; exact ⟨45, congrArg V.str (by decide +kernel), by decide⟩
        | 4, hv => cases hv; exact ⟨101, congrArg V.str (by decide +kernel), by decide⟩
        | 5, hv => cases hv; exact ⟨57, congrArg V.str (by decide +kernel), by decide⟩
        | 6, hv => cases hv; exact ⟨10, congrArg V.str (by decide +kernel), by decide⟩
        | i + 7, hv => cases hv
      obtain ⟨x, rfl, hx⟩ := key
      have tl : (tx.take place).length ≤ tx.length := by rw [List.length_take]; omega
      have dl : (tx.drop (place + 1)).length ≤ tx.length := by rw [List.length_drop]; omega
      have e3 : S (tx.take place) ++ S [x] = S (tx.take place ++ [x]) := S_app _ _
      refine ⟨_, _, rfl, rfl, ?_, _, rfl, _, rfl, _, _, rfl, rfl, _, rfl, rDrop_S (n := place + 1) (hsz (by omega)) ⟨_, _, rfl, rfl, ?_, ?_⟩⟩
      · rw [S_len, S_len]
        exact hsz (by simp only [List.length_singleton]; omega)
      · rw [e3, S_len, S_len, List.length_append]
        exact hsz (by simp only [List.length_singleton]; omega)
      · rw [e3]
        have e4 : S (tx.take place ++ [x]) ++ S (tx.drop (place + 1)) = S (tx.take place ++ [x] ++ tx.drop (place + 1)) := S_app _ _
        rw [e4]
        refine kS _ _ (fun y hy => ?_) ?_ ((e.trans (ExtP.of (Ext.upd hp))).trans e') ⟨_, by omega, hq'⟩
        · rcases List.mem_append.mp hy with hy | hy
          · rcases List.mem_append.mp hy with hy | hy
            · exact htv y (List.mem_of_mem_take hy)
            · rw [List.mem_singleton.mp hy]
              omega
          · exact htv y (List.mem_of_mem_drop hy)
        · rw [List.length_append, List.length_append, List.length_singleton]
          omega
    refine cut_tseq (fun σ G => TxAt K H q c ns (b + 6) sl kind tx ws place a0 a1 item 110000 8 σ G) (fun D1 k1 => ?_) fun σ Gd hd => ?_
    · refine text_if (M := 99000) (M' := 110000) (by decide) hc' (fun h => k1 _ _ ?_) fun W1 hk eσ e hqG hWn hWG => ?_
      · obtain ⟨W', ws', z1, z2, z3, z4⟩ := h
        exact ⟨W', ws', z1, z2, z3.mono (by omega), z4⟩
      rw [eσ]
      dsimp only [tRet, tRetN, tSeq, tAsg, tOp, tVar, tC, tCB, tCons, tNil, tAndV, tOrV, tNotV, tAnd, tOr, tNot, tTest, tIf, tIfS, tB, tChain, tSl, tPart, tNoPart, tLst, tTup, tFld, tCl, tMt, tMk, gName, tNext, tBM, tBM0, tUn, tSub, tPar, tPar3, gTup, gCons, gNil, tDrop, tMkS, tM1, sFld, StX.tStar, tYes, gSub, cxOf, Cx.wish, Cx.nox, Cx.blk]
      refine ⟨_, rfl, (by show 3 ≤ sizeLine; decide), fun I hI => ⟨_, rfl, _, rfl, sl, srs.map V.ref, rfl, .inl (SqL.of ?_), _, _, rfl, rfl, _, rfl, sl, srs.map V.ref, rfl, .inl (SqL.of ?_), _, _, rfl, rfl, (by show 3 ≤ sizeLine; decide), fun L hL => ?_⟩⟩
      · exact Ext.upd hI _ _ (e _ _ hslq hsl)
      · exact Ext.upd hI _ _ (e _ _ hslq hsl)
      rw [List.length_map, hlen]
      have eL := (Ext.upd (o := .lst [.str "/", .str "rise", .str "4"]) hI).trans (Ext.upd (o := .lst [.int (400 - (ls.length : Int)), .int (401 - (ls.length : Int)), .int 1]) hL)
      have hIL : upd (upd Gc I (.lst [.str "/", .str "rise", .str "4"])) L (.lst [.int (400 - (ls.length : Int)), .int (401 - (ls.length : Int)), .int 1]) I = some (.lst [.str "/", .str "rise", .str "4"]) := Ext.upd hL _ _ upd_same
      have hIq : I ≠ q := hqG.ne hI
      have hLq : L ≠ q := (hqG.ext (Ext.upd hI)).ne hL
      have hLL : upd (upd Gc I (.lst [.str "/", .str "rise", .str "4"])) L (.lst [.int (400 - (ls.length : Int)), .int (401 - (ls.length : Int)), .int 1]) L = some (.lst [.int (400 - (ls.length : Int)), .int (401 - (ls.length : Int)), .int 1]) := upd_same
      show sp_law_pick K [.ref q, .ref L] (upd (upd Gc I (.lst [.str "/", .str "rise", .str "4"])) L (.lst [.int (400 - (ls.length : Int)), .int (401 - (ls.length : Int)), .int 1])) _ _
      generalize upd (upd Gc I (.lst [.str "/", .str "rise", .str "4"])) L (.lst [.int (400 - (ls.length : Int)), .int (401 - (ls.length : Int)), .int 1]) = G1' at eL hIL hLL ⊢
      refine ⟨q, c, ns, L, _, b + 5, rfl, hqG.ext eL, by omega, fun H' e => SqL.of (e _ _ hLq hLL), (by show 0 < 3; decide), (by show 3 ≤ 1000; decide), fun i v G' hv e' hq' => ?_⟩
      have key : ∃ n : Nat, v = .int (n : Nat) ∧ n ≤ 401 := by
        match i, hv with
        | 0, hv => cases hv; exact ⟨400 - ls.length, congrArg V.int (by omega), by omega⟩
        | 1, hv => cases hv; exact ⟨401 - ls.length, congrArg V.int (by omega), by omega⟩
        | 2, hv => cases hv; exact ⟨1, rfl, by decide⟩
        | i + 3, hv => cases hv
      obtain ⟨n, rfl, hn⟩ := key
      have hI' := e' _ _ hIq hIL
      have hW1q : W1 ≠ q := fun z => hqH (by rw [← z]; exact hWn)
      have hWG' := e' _ _ hW1q (eL _ _ hWG)
      have eH' : ExtP q H G' := (e.trans (ExtP.of eL)).trans e'
      refine ⟨I, _, _, rfl, rfl, hI', by omega, by omega, ?_, fun P hP => ?_⟩
      · rw [Int.toNat_natCast]
        show 3 * n ≤ sizeLine
        exact hsz (by omega)
      rw [Int.toNat_natCast]
      have er : (List.replicate n ([.str "/", .str "rise", .str "4"] : List V)).flatten = ((List.replicate n [[47], [114, 105, 115, 101], [52]]).flatten.map S).map V.str := by
        rw [List.map_flatten, List.map_flatten, List.map_replicate, List.map_replicate]
        congr 2
      rw [er]
      refine ⟨W1, P, _, _, rfl, rfl, by rw [upd_ne (ne_of_none hWG' hP)]; exact hWG', upd_same, ?_, fun N hN => ?_⟩
      · have h1 := tot_rep [[47], [114, 105, 115, 101], [52]] n
        have h2 := tot_len (List.replicate n [[47], [114, 105, 115, 101], [52]]).flatten
        have h3 : tot [[47], [114, 105, 115, 101], [52]] = 9 := rfl
        rw [h3] at h1
        rw [words_len, words_len]
        exact hsz (by omega)
      · have eN : Ext G' (upd (upd G' P (.lst (((List.replicate n [[47], [114, 105, 115, 101], [52]]).flatten.map S).map V.str))) N (.lst ((ws.map S).map V.str ++ ((List.replicate n [[47], [114, 105, 115, 101], [52]]).flatten.map S).map V.str))) := (Ext.upd hP).trans (Ext.upd hN)
        have hNH : H N = none := by
          have z := none_of (Ext.upd (o := .lst (((List.replicate n [[47], [114, 105, 115, 101], [52]]).flatten.map S).map V.str)) hP) hN
          cases hz : H N with
          | none => rfl
          | some o =>
            rw [eH' _ _ (hq'.ne z) hz] at z
            cases z
        refine k1 _ _ ⟨N, ws ++ (List.replicate n [[47], [114, 105, 115, 101], [52]]).flatten, rfl, eH'.trans (ExtP.of eN), hq'.ext eN, hNH, by rw [upd_same, List.map_append, List.map_append], fun x hx => ?_, ?_, fun z => by omega⟩
        · rcases List.mem_append.mp hx with hx | hx
          · exact hwv x hx
          · obtain ⟨l, hl, hx⟩ := List.mem_flatten.mp hx
            rw [(List.mem_replicate.mp hl).2] at hx
            have z : ([[47], [114, 105, 115, 101], [52]] : List (List Nat)).all (fun a => a.all fun c => decide (c < 0x110000)) = true := by decide
            intro c hc
            exact of_decide_eq_true (List.all_eq_true.mp (List.all_eq_true.mp z x hx) c hc)
        · have h1 := tot_rep [[47], [114, 105, 115, 101], [52]] n
          have h3 : tot [[47], [114, 105, 115, 101], [52]] = 9 := rfl
          rw [h3] at h1
          have h4 := tot_app ws (List.replicate n [[47], [114, 105, 115, 101], [52]]).flatten
          omega
    obtain ⟨Wd, wd, eσ, ed, hqd, hWdn, hWd, hvd, htd, _⟩ := hd
    subst eσ
    dsimp only [tRet, tRetN, tSeq, tAsg, tOp, tVar, tC, tCB, tCons, tNil, tAndV, tOrV, tNotV, tAnd, tOr, tNot, tTest, tIf, tIfS, tB, tChain, tSl, tPart, tNoPart, tLst, tTup, tFld, tCl, tMt, tMk, gName, tNext, tBM, tBM0, tUn, tSub, tPar, tPar3, gTup, gCons, gNil, tDrop, tMkS, tM1, sFld, StX.tStar, tYes, gSub, cxOf, Cx.wish, Cx.nox, Cx.blk]
    refine ⟨⟨_, rfl⟩, _, rfl, S [32], Wd, wd.map S, congrArg V.str (by decide +kernel), rfl, .inl (SqL.of hWd), ?_, ?_⟩
    · have := tot_sum wd
      rw [S_len]
      simp only [List.length_singleton] at this ⊢
      omega
    · have := tot_join wd
      rw [SX.join_S]
      exact kS _ _ (joinL_valid (fun c hc => by simp at hc; omega) hvd) (by omega) ed ⟨_, by omega, hqd⟩
end
end K80

end
section
/-! K80m: what is heard of a lambda's call. -/
namespace K80
open PySem L2 Ow
open LamX (GivesTo CodeO)
open PySem.Spec PyProof.Rows
section
variable {Z : Cx} {W : WX} {x a : Str} {j : Nat} {pp p1 p2 p3 : Pos} {tl : XK → Hp → VK → Prop}
theorem takes_len {n : Nat} (hn : Z.N.length = n) (tk : Takes Z W) : Takes Z (fun c d σ H => σ.length = n → W c d σ H) := fun u s' ⟨a, B, sI, pins, σ, H, cls, d, e, I, nb, up, sky, na, os, ag, w⟩ =>
  tk u s' ⟨a, B, sI, pins, σ, H, cls, d, e, I, nb, up, sky, na, os, ag, w (I.len.trans hn)⟩
/-- x = a(), a the lambda -/
theorem pss_act {n : Nat} {P1 : L2.St → Prop} {P2 : Hp → Prop} (act : ∀ E : XK, (∀ cls d σ' H', E cls d H' → σ'.length = n → W cls d σ' H') → PE Z (.Call (.Name a p1) [] [] p2) (fun σ H Q => P1 σ ∧ P2 H ∧ tl E H Q))
    (nd : Z.N.Nodup) (hj : Z.N[j]? = some x) (hx : Loc Z.env.scope x) (hf : Z.fn x = true ∨ Z.env.scope.names.lookup x = some .local := by first | exact .inl rfl | exact .inr rfl | assumption)
    (hs : swapsWith (.Call (.Name a p1) [] [] p2) (some (.Name x pp)) p3.line Z.env = pure false := by rfl) :
    PSs Z [.Assign [.Name x pp] (.Call (.Name a p1) [] [] p2) p3] (fun D σ H => ∃ E : XK, (∀ cls d σ' H', E cls d H' → σ'.length = n → W cls d σ' H') ∧ P1 σ ∧ P2 H ∧ tl E H fun v H2 => D.nx (σ.set j (some v)) H2) := by
  refine ⟨fun pins s σ H D I h => ?_⟩
  obtain ⟨E, hE, h1, h2, h3⟩ := h
  exact (pss_one (ps_set (pos' := pp) (pos := p3) nd hj hx (act E hE) hs hf)).run pins s σ H D I ⟨h1, h2, h3⟩
end
structure HeardF (K : W.Frag) (mg : Str → Option Value) : Prop where
  seen : mg "SeenError" = some (.ref (He.ga K "SeenError"))
  mT : W.exmOne K (.ref (He.ga K "BadText")) (.ref (He.ga K "SeenError")) = some true
  mS : W.exmOne K (.ref (He.ga K "BadScript")) (.ref (He.ga K "SeenError")) = some true
  hT : HeldC K (He.ga K "BadText")
  hS : HeldC K (He.ga K "BadScript")
  kTT : W.kitOne K (.ref (He.ga K "BadText")) (.ref (He.ga K "BadText")) = some true
  kST : W.kitOne K (.ref (He.ga K "BadScript")) (.ref (He.ga K "BadText")) = some false
  kSS : W.kitOne K (.ref (He.ga K "BadScript")) (.ref (He.ga K "BadScript")) = some true
/-- what is wished of an exception: heard as a list -/
def EHeard (K : W.Frag) (Q : VK) : XK := fun cls d H' => ∃ dd v, d = some dd ∧
    ((cls = .ref (He.ga K "BadText") ∧ H' dd = some (.xd [("item", v)]) ∧ ∀ r H'', Ext H' H'' → H'' r = some (.lst [.str "text", v]) → Q (.ref r) H'') ∨
     (cls = .ref (He.ga K "BadScript") ∧ H' dd = some (.xd [("part", v)]) ∧ ∀ r H'', Ext H' H'' → H'' r = some (.lst [.str "script", v]) → Q (.ref r) H''))
def THeard (K : W.Frag) : (XK → Hp → VK → Prop) → Hp → VK → Prop := fun tl H Q =>
  ∀ (E' : XK) (Q' : VK) H1, Ext H H1 → (∀ cls d H', EHeard K Q cls d H' → E' cls d H') → (∀ v H', Q v H' → Q' v H') → tl E' H1 Q'
section
variable {w : World} {K : W.Frag} {mg : Str → Option Value} {base : Heap}
theorem heard_gives (T : Txt K mg) (F : HeardF K mg) {X : Cx} (eK : X.K = K) (emg : X.mg = mg) {q : Str} {g : Addr} {cdg : Value} :
    GivesTo X ["_law_ask", "_law_found", "_law_caught", "error"] "_law_heard" (defScope s_law_heard) g cdg (defBody s_law_heard) "_law_ask" q (THeard K) := by
  intro f c' s H Q tl act hc h
  obtain ⟨P0, w0, K0, mg0, base0, A0, N0, s0, H0, env0, outer0, stack0, ex0, fn0, calm0, pn0, xe0⟩ := X
  subst eK emg
  have nd := sc_law_heard.nd
  have hnm : Names (cxOf C8.CX0 P0 w0 K0 mg0 base0 ["_law_ask", "_law_found", "_law_caught", "error"] "_law_heard" (defScope s_law_heard) g cdg A0 stack0 s H C8.E0).nox "SeenError" (.ref (He.ga K0 "SeenError")) := ⟨rfl, by decide, .inl F.seen⟩
  refine ⟨_, (pss_cons (ps_asg (pe_tup (pa_cons pe_non (pa_cons pe_non pa_nil))) (pg_tup (by rfl) (pgs_cons (pg_name (i := 1) nd rfl (Or.inl rfl)) (pgs_cons (pg_name (i := 2) nd rfl (Or.inl rfl)) pgs_nil))))
      (pss_cons (ps_try_hold (i := 3) rfl rfl rfl nd rfl rfl hnm LamX.takes0 (fun W pn xe tk _ => pss_act (j := 1) (n := 4) (fun E hE => act _ pn xe E _ _ (takes_len (n := 4) rfl tk) hE) nd rfl (Or.inl rfl)) (fun a oe cls d pn _ _ => pss_one (ps_set (i := 2) nd rfl (Or.inl rfl) (pv 3))))
      (pss_cons (ps_if (pt_cmpR L2.op_isN (pv 2) pe_non (nomark _)) (pss_one (ps_ret (pv 1))) pss_nil)
      (pss_cons (ps_if (pt_val (pe_callB call_isH (by rfl) T.f_isinstance (by decide +kernel) (pa_cons (pv 2) (pa_cons (pe_glob (v := .ref (He.ga _ "BadText")) rfl T.x_BadText.gl rfl) pa_nil)))) (pss_one (ps_ret (pe_lst (pa_cons pe_str (pa_cons (pe_held (pv 2)) pa_nil))))) pss_nil)
      (pss_one (ps_ret (pe_ifExp (pt_val (pe_callB call_isH (by rfl) T.f_isinstance (by decide +kernel) (pa_cons (pv 2) (pa_cons (pe_glob (v := .ref (He.ga _ "BadScript")) rfl T.x_BadScript.gl rfl) pa_nil)))) (pe_lst (pa_cons pe_str (pa_cons (pe_held (pv 2)) pa_nil))) (pe_lst (pa_cons pe_str pa_nil))))))))), ?_⟩
  dsimp only [tRet, tRetN, tSeq, tAsg, tOp, tVar, tC, tCB, tCons, tNil, tAndV, tOrV, tNotV, tAnd, tOr, tNot, tTest, tIf, tIfS, tB, tChain, tSl, tPart, tNoPart, tLst, tTup, tFld, tCl, tMt, tMk, gName, tNext, tBM, tBM0, tUn, tSub, tPar, tPar3, gTup, gCons, gNil, tDrop, tMkS, tM1, sFld, StX.tStar, tYes, gSub, cxOf, Cx.wish, Cx.nox, Cx.blk]
  refine ⟨by show 2 ≤ sizeLine; decide, fun p hp => ⟨p, _, rfl, SqT.of upd_same, rfl, _, _, rfl, _, _, rfl, rfl, EHeard K0 Q, fun cls d σ' H' hE hl => ?_, rfl, Ext.upd hp _ _ hc, h _ _ _ (Ext.upd hp) (fun _ _ _ z => z) fun v H' hq => ⟨_, rfl, rfl, _, rfl, ?_⟩⟩⟩
  · obtain ⟨dd, v, rfl, hh⟩ := hE
    obtain ⟨z0, z1, z2, z3, rfl⟩ : ∃ z0 z1 z2 z3, σ' = [z0, z1, z2, z3] := by
      match σ', hl with
      | [z0, z1, z2, z3], _ => exact ⟨z0, z1, z2, z3, rfl⟩
    have hm : W.exmOne K0 cls (.ref (He.ga K0 "SeenError")) = some true := by
      rcases hh with ⟨rfl, _⟩ | ⟨rfl, _⟩
      · exact F.mT
      · exact F.mS
    refine ⟨true, hm, fun _ a ha => ?_, fun z => by cases z⟩
    dsimp only [tRet, tRetN, tSeq, tAsg, tOp, tVar, tC, tCB, tCons, tNil, tAndV, tOrV, tNotV, tAnd, tOr, tNot, tTest, tIf, tIfS, tB, tChain, tSl, tPart, tNoPart, tLst, tTup, tFld, tCl, tMt, tMk, gName, tNext, tBM, tBM0, tUn, tSub, tPar, tPar3, gTup, gCons, gNil, tDrop, tMkS, tM1, sFld, StX.tStar, tYes, gSub, cxOf, Cx.wish, Cx.nox, Cx.blk]
    refine ⟨_, rfl, _, rfl, rfl, _, rfl, ?_⟩
    refine if_f rfl ⟨_, rfl, ?_⟩
    have hda : ∀ {o}, H' dd = some o → upd H' a (ExH cls (some dd) a) dd = some o := fun h => Ext.upd ha _ _ h
    rcases hh with ⟨rfl, h1, h2⟩ | ⟨rfl, h1, h2⟩
    · refine ⟨a, _, dd, _, _, _, _, rfl, upd_same, hda h1, F.hT, .own _, F.kTT, _, rfl, if_t rfl ⟨_, rfl, a, _, dd, _, v, rfl, upd_same, hda h1, F.hT, T.x_BadText.no, rfl, ?_⟩⟩
      exact ⟨by show 2 ≤ sizeLine; decide, fun r hr => h2 r _ ((Ext.upd ha).trans (Ext.upd hr)) upd_same⟩
    · refine ⟨a, _, dd, _, _, _, _, rfl, upd_same, hda h1, F.hS, .own _, F.kST, _, rfl, if_f rfl ⟨_, rfl, a, _, dd, _, _, _, _, rfl, upd_same, hda h1, F.hS, .own _, F.kSS, _, rfl, if_t rfl ⟨_, rfl, a, _, dd, _, v, rfl, upd_same, hda h1, F.hS, T.x_BadScript.no, rfl, ?_⟩⟩⟩
      exact ⟨by show 2 ≤ sizeLine; decide, fun r hr => h2 r _ ((Ext.upd ha).trans (Ext.upd hr)) upd_same⟩
  · exact if_t rfl ⟨_, rfl, hq⟩
end
end K80

end
section
/-! Ow13: repr of data. -/
namespace Ow
open PySem L2
open PySem.Spec PyProof.Rows
/-- repr(x), x a bool, a list or a tuple -/
def rReprD (K : W.Frag) : List V → Hp → VK → Prop := fun xs H Q => ∃ v d, xs = [v] ∧ Dp K H v d ∧ (dSeq d || dBool d) = true ∧ d.showable = true ∧ d.hasDict = false ∧ d.depth ≤ 20 ∧ d.shown.length ≤ sizeLine ∧ Q (.str d.shown) H
theorem call_reprD {X : Cx} {k : Nat} (hg : X.A.guards = some []) (hr : Room k X.A) : CallR X (.builtin "repr") (rReprD X.K) := by
  intro pins s σ H xs us Q I r h
  obtain ⟨v, d, rfl, hv, hk, h1, h2, h3, h4, q⟩ := h
  obtain ⟨u, rfl, ru⟩ := vals1 r
  have un := hr.un
  cases d with
  | bool b =>
    cases hv
    obtain rfl : u = Value.bool b := ru
    exact PySem.P.repr_of_bool ⟨.str (PyData.bool b).shown, H, I.tok _, ⟨_, rfl⟩, q⟩
  | list ds =>
    obtain ⟨as, rd⟩ := Dp.reads I _ _ _ hv ru
    obtain ⟨a, xs, rfl, _⟩ := Dp.lstV hv
    obtain rfl : u = Value.ref a := ru
    exact repr_of_reads' rd h1 (PyData.noDict_hsm h2) hg (by omega) (fun _ _ e => e) (fun h' u tk hk => ⟨.str (PyData.list ds).shown, H, I.kept hk, ⟨_, rfl⟩, q⟩) h4
  | tuple ds =>
    obtain ⟨as, rd⟩ := Dp.reads I _ _ _ hv ru
    obtain ⟨a, xs, rfl, _⟩ := Dp.tupV hv
    obtain rfl : u = Value.ref a := ru
    exact repr_of_reads' rd h1 (PyData.noDict_hsm h2) hg (by omega) (fun _ _ e => e) (fun h' u tk hk => ⟨.str (PyData.tuple ds).shown, H, I.kept hk, ⟨_, rfl⟩, q⟩) h4
  | _ => cases hk
end Ow

end
section
/-! K80n: what is read of what was written; sizes. -/
namespace K80
open PySem L2 Ow
open PySem.Spec PyProof.Rows
/-! ### numbers -/
theorem numL_head : ∀ {n : Nat}, 1 ≤ n → (TL.numL n).head? ≠ some 48 := by
  intro n
  induction n using Nat.strongRecOn with
  | ind n ih =>
    intro h1
    by_cases c : n < 10
    · rw [TL.numL_lt c]
      simp
      omega
    · rw [TL.numL_step (by omega)]
      have h2 := ih (n / 10) (by omega) (by omega)
      have h3 := TL.numL_ne (n / 10)
      cases e : TL.numL (n / 10) with
      | nil => exact absurd e h3
      | cons a r =>
        rw [e] at h2
        simpa using h2
theorem numL_dgl (n : Nat) : dgl (TL.numL n) = TL.numL n ∧ (TL.numL n).take 1 ≠ [45] := by
  have h : (TL.numL n).take 1 ≠ [45] := fun z => by
    have hm : 45 ∈ (TL.numL n).take 1 := by rw [z]; simp
    have := TL.numL_digits n 45 (List.mem_of_mem_take hm)
    omega
  exact ⟨by unfold dgl; rw [if_neg h], h⟩
theorem numL_in {n : Nat} (h : n < 10 ^ 60) : numIn (TL.numL n) = some (n : Int) := by
  obtain ⟨h1, h2⟩ := numL_dgl n
  have hl := TL.numL_len (k := 60) (by decide) h
  have hn := TL.numL_ne n
  have hd := TL.numL_digits n
  have e : okN (TL.numL n) = true := by
    unfold okN okD
    rw [h1]
    simp only [Bool.and_eq_true, Bool.or_eq_true, decide_eq_true_eq, List.all_eq_true]
    refine ⟨⟨hn, hl, fun c hc => ?_⟩, ?_⟩
    · have := hd c hc
      simp [isDig]
      omega
    · by_cases c : n = 0
      · subst c
        exact .inr (TL.numL_lt (by decide))
      · exact .inl (numL_head (by omega))
  unfold numIn
  rw [if_pos e]
  unfold Ow.numOf
  rw [if_neg h2, TL.numL_val]
theorem okN_val {b : List Nat} (h : okD (dgl b) = true) : (Ow.numOf b).natAbs < 10 ^ 60 := by
  have dv : ∀ (l : List Nat), (∀ c ∈ l, isDig c = true) → ∀ acc, l.foldl (fun acc c => acc * 10 + (c - 48)) acc < (acc + 1) * 10 ^ l.length := by
    intro l
    induction l with
    | nil => intro _ acc; simp
    | cons c r ih =>
      intro hc acc
      have h1 := hc c List.mem_cons_self
      simp only [isDig, Bool.and_eq_true, decide_eq_true_eq] at h1
      have h2 := ih (fun x hx => hc x (List.mem_cons_of_mem _ hx)) (acc * 10 + (c - 48))
      rw [List.foldl_cons, List.length_cons]
      refine Nat.lt_of_lt_of_le h2 ?_
      rw [Nat.pow_succ, Nat.mul_comm (10 ^ r.length) 10, ← Nat.mul_assoc]
      exact Nat.mul_le_mul_right _ (by omega)
  simp only [okD, Bool.and_eq_true, decide_eq_true_eq] at h
  obtain ⟨h1, h2, h3⟩ := h
  have h4 := dv (dgl b) (List.all_eq_true.mp h3) 0
  have h5 : NumText.digitsVal (dgl b) < 10 ^ 60 := by
    refine Nat.lt_of_lt_of_le h4 ?_
    rw [Nat.zero_add, Nat.one_mul]
    exact Nat.pow_le_pow_right (by decide) h2
  unfold Ow.numOf
  unfold dgl at h5
  by_cases c : b.take 1 = [45]
  · rw [if_pos c] at h5 ⊢
    omega
  · rw [if_neg c] at h5 ⊢
    omega
/-! ### a step that may be shown -/
def StepR (s : List Nat × List Int) : Prop := ∃ bs, lookB s.1 = some bs ∧ s.2.length = bs.length ∧ ∀ n ∈ s.2, 0 ≤ n ∧ n.toNat < 10 ^ 60
theorem StepOk.toR {s : List Nat × List Int} (h : StepOk s) : StepR s := by
  obtain ⟨bs, hk, hl, hb⟩ := h
  refine ⟨bs, hk, hl, fun n hn => ?_⟩
  obtain ⟨i, hi, ei⟩ := List.getElem_of_mem hn
  have hib : i < bs.length := by omega
  have z := hb i n bs[i] (by rw [← ei]; exact List.getElem?_eq_getElem hi) (List.getElem?_eq_getElem hib)
  refine ⟨z.1, ?_⟩
  have := z.2.1
  omega
/-! ### read back -/
abbrev stepWs (s : List Nat × List Int) : List (List Nat) := (stepDL s).map itemText
def wordsOf : List (List Nat × List Int) → List (List Nat)
  | [] => []
  | [s] => stepWs s
  | s :: t :: r => stepWs s ++ ([47] :: wordsOf (t :: r))
theorem wordsOf_ne {s : List Nat × List Int} {r : List (List Nat × List Int)} : wordsOf (s :: r) ≠ [] := by
  cases r with
  | nil => simp [wordsOf]
  | cons t r => simp [wordsOf]
theorem joinL_cons {sep a : List Nat} : ∀ {l : List (List Nat)}, l ≠ [] → TL.joinL sep (a :: l) = a ++ (sep ++ TL.joinL sep l)
  | [], h => absurd rfl h
  | b :: r, _ => rfl
theorem joinL_app {sep : List Nat} : ∀ {l m : List (List Nat)}, l ≠ [] → m ≠ [] → TL.joinL sep (l ++ m) = TL.joinL sep l ++ (sep ++ TL.joinL sep m)
  | [], _, h, _ => absurd rfl h
  | [a], m, _, hm => by
    rw [List.singleton_append, joinL_cons hm]
    rfl
  | a :: b :: r, m, _, hm => by
    rw [List.cons_append, joinL_cons (by simp), joinL_app (l := b :: r) (by simp) hm, joinL_cons (l := b :: r) (by simp)]
    simp only [List.append_assoc]
theorem script_words : ∀ (ls : List (List Nat × List Int)), scriptText (scriptD ls) = TL.joinL [32] (wordsOf ls)
  | [] => rfl
  | [s] => rfl
  | s :: t :: r => by
    have ih := script_words (t :: r)
    have e : scriptText (scriptD (s :: t :: r)) = stepText (stepDL s) ++ ([32, 47, 32] ++ scriptText (scriptD (t :: r))) := rfl
    rw [e, ih]
    show _ = TL.joinL [32] (stepWs s ++ ([47] :: wordsOf (t :: r)))
    rw [joinL_app (by simp) (by simp), joinL_cons (wordsOf_ne)]
    show stepText (stepDL s) ++ _ = stepText (stepDL s) ++ _
    simp
theorem item_nosp {s : List Nat × List Int} (h : StepR s) : ∀ x ∈ stepWs s, 32 ∉ x := fun x hx => by
  obtain ⟨d, hd, rfl⟩ := List.mem_map.mp hx
  obtain ⟨bs, hk, hl, hn⟩ := h
  rcases List.mem_cons.mp hd with e | e
  · rw [e]
    intro z
    have z : 32 ∈ s.1 := by simpa [itemText, S, SX.S] using z
    have := (word_fine hk).2 32 z
    omega
  · obtain ⟨n, hn2, rfl⟩ := List.mem_map.mp e
    exact TL.numL_free (by decide)
theorem words_nosp : ∀ {ls : List (List Nat × List Int)}, (∀ s ∈ ls, StepR s) → ∀ x ∈ wordsOf ls, 32 ∉ x
  | [], _, x, hx => by cases hx
  | [s], h, x, hx => item_nosp (h s List.mem_cons_self) x hx
  | s :: t :: r, h, x, hx => by
    rcases List.mem_append.mp hx with hx | hx
    · exact item_nosp (h s List.mem_cons_self) x hx
    · rcases List.mem_cons.mp hx with hx | hx
      · rw [hx]
        decide
      · exact words_nosp (fun s hs => h s (List.mem_cons_of_mem _ hs)) x hx
theorem split_script {ls : List (List Nat × List Int)} (h : ∀ s ∈ ls, StepR s) (hne : ls ≠ []) : splitW (scriptText (scriptD ls)) = wordsOf ls := by
  rw [script_words]
  cases ls with
  | nil => exact absurd rfl hne
  | cons s r => exact SX.spl_join wordsOf_ne (words_nosp h)
theorem drop_get {ws : List (List Nat)} {i : Nat} {x : List Nat} {r : List (List Nat)} (h : ws.drop i = x :: r) : ws[i]? = some x ∧ ws.drop (i + 1) = r := by
  have h1 : ws[i]? = (ws.drop i)[0]? := by rw [List.getElem?_drop, Nat.add_zero]
  refine ⟨by rw [h1, h]; rfl, ?_⟩
  rw [← List.drop_drop, h]
  rfl
/-- drawn: in the bounds -/
def InB (ns : List Int) (bs : List (Option Int)) : Prop := ∀ (i : Nat) n m, ns[i]? = some n → bs[i]? = some m → 0 ≤ n ∧ n < 10 ^ 30 ∧ ∀ k, m = some k → n ≤ k
theorem takeN_back {ws : List (List Nat)} : ∀ {ns : List Int} {bs : List (Option Int)} {i : Nat} {r : List (List Nat)}, ns.length = bs.length → InB ns bs → ws.drop i = (ns.map fun n => TL.numL n.toNat) ++ r → takeN ws i bs = (some ns, i + ns.length)
  | [], [], i, r, _, _, _ => rfl
  | n :: ns, m :: bs, i, r, hl, hb, hd => by
    obtain ⟨h1, h2⟩ := drop_get hd
    obtain ⟨z0, z1, z2⟩ := hb 0 n m rfl rfl
    have hw : numW ws i m = some n := by
      unfold numW
      rw [h1]
      have e : numIn (TL.numL n.toNat) = some n := by
        rw [numL_in (n := n.toNat) (by omega)]
        exact congrArg some (by omega)
      show (match numIn (TL.numL n.toNat) with | some n => if within (.int n) 0 m = true then some n else none | none => none) = some n
      rw [e]
      show (if within (.int n) 0 m = true then some n else none) = some n
      rw [if_pos]
      unfold within
      cases m with
      | none => simpa using z0
      | some k =>
        have := z2 k rfl
        simp
        omega
    have ih := takeN_back (ws := ws) (ns := ns) (bs := bs) (i := i + 1) (r := r) (by simpa using hl) (fun j n' m' e1 e2 => hb (j + 1) n' m' (by simpa using e1) (by simpa using e2)) h2
    rw [takeN, hw]
    simp only [ih, List.length_cons]
    congr 1
    omega
theorem stepW_back {ws : List (List Nat)} {s : List Nat × List Int} {i : Nat} {r : List (List Nat)} (h : StepOk s) (hd : ws.drop i = stepWs s ++ r) : stepW ws i = (some s, i + (stepWs s).length) := by
  obtain ⟨bs, hk, hl, hb⟩ := h
  have hd' : ws.drop i = s.1 :: (s.2.map (fun n => TL.numL n.toNat) ++ r) := by
    rw [hd]
    simp only [stepWs, List.map_cons, List.cons_append, List.map_map]
    congr 1
  obtain ⟨h1, h2⟩ := drop_get hd'
  have h3 := takeN_back (ws := ws) hl hb h2
  unfold stepW
  rw [h1]
  simp only [hk, h3]
  refine Prod.ext rfl ?_
  simp
  omega
theorem restW_back {ws : List (List Nat)} : ∀ {ls : List (List Nat × List Int)} {n i : Nat}, (∀ s ∈ ls, StepOk s) → ls.length ≤ n → (ls = [] → ws.drop i = []) → (ls ≠ [] → ws.drop i = [47] :: wordsOf ls) → (restW ws n i).1 = some ls
  | [], n, i, _, _, h, _ => by
    have h1 : ¬ i < ws.length := by
      have := List.drop_eq_nil_iff.mp (h rfl)
      omega
    cases n <;> rw [restW, if_neg h1]
  | s :: r, 0, i, _, hn, _, _ => by simp at hn
  | s :: r, n + 1, i, hok, hn, _, h => by
    obtain ⟨h1, h2⟩ := drop_get (h (by simp))
    have hi : i < ws.length := by
      have := List.getElem?_eq_some_iff.mp h1
      exact this.1
    rw [restW, if_pos hi, if_pos h1]
    obtain ⟨rest, hr1, hr2, hr3⟩ : ∃ rest, wordsOf (s :: r) = stepWs s ++ rest ∧ (r = [] → rest = []) ∧ (r ≠ [] → rest = [47] :: wordsOf r) := by
      cases r with
      | nil => exact ⟨[], by simp [wordsOf], fun _ => rfl, fun z => absurd rfl z⟩
      | cons t r => exact ⟨_, rfl, (fun z => by cases z), fun _ => rfl⟩
    rw [hr1] at h2
    have h3 := stepW_back (hok s List.mem_cons_self) h2
    have h4 : ws.drop (i + 1 + (stepWs s).length) = rest := by
      rw [← List.drop_drop, h2, List.drop_left]
    have ih := restW_back (ws := ws) (ls := r) (n := n) (i := i + 1 + (stepWs s).length) (fun s hs => hok s (List.mem_cons_of_mem _ hs)) (by simpa using hn) (fun z => by rw [h4]; exact hr2 z) (fun z => by rw [h4]; exact hr3 z)
    rw [h3]
    simp only
    rcases e : restW ws n (i + 1 + (stepWs s).length) with ⟨l, k⟩
    rw [e] at ih
    cases l with
    | none => cases ih
    | some l =>
      cases ih
      rfl
/-- what was written is read -/
theorem readT_back {ls : List (List Nat × List Int)} (h : ∀ s ∈ ls, StepOk s) (hl : ls.length ≤ 400) : (readT (scriptText (scriptD ls))).1 = some ls := by
  cases ls with
  | nil => rfl
  | cons s r =>
    have hsp := split_script (ls := s :: r) (fun s hs => (h s hs).toR) (by simp)
    have hne : scriptText (scriptD (s :: r)) ≠ [] := fun z => by
      rw [z] at hsp
      have h1 : splitW [] = [[]] := rfl
      rw [h1] at hsp
      have h2 : ([] : List Nat) ∈ wordsOf (s :: r) := by
        rw [← hsp]
        simp
      have h3 : (wordsOf (s :: r)).length = 1 := by rw [← hsp]; rfl
      obtain ⟨bs, hk, hlen, _⟩ := h s List.mem_cons_self
      have h4 := lookB_ne hk
      have h5 : s.2 ≠ [] := fun z => h4 (List.length_eq_zero_iff.mp (by rw [← hlen, z]; rfl))
      have h6 : 2 ≤ (stepWs s).length := by
        cases e : s.2 with
        | nil => exact absurd e h5
        | cons x y => simp [e]
      cases r with
      | nil =>
        have : (wordsOf [s]).length = (stepWs s).length := rfl
        omega
      | cons t r =>
        have : (wordsOf (s :: t :: r)).length = (stepWs s).length + (([47] : List Nat) :: wordsOf (t :: r)).length := by
          show (stepWs s ++ _).length = _
          rw [List.length_append]
        omega
    rw [readT, if_neg hne, hsp]
    obtain ⟨rest, hr1, hr2, hr3⟩ : ∃ rest, wordsOf (s :: r) = stepWs s ++ rest ∧ (r = [] → rest = []) ∧ (r ≠ [] → rest = [47] :: wordsOf r) := by
      cases r with
      | nil => exact ⟨[], by simp [wordsOf], fun _ => rfl, fun z => absurd rfl z⟩
      | cons t r => exact ⟨_, rfl, (fun z => by cases z), fun _ => rfl⟩
    have h3 := stepW_back (ws := wordsOf (s :: r)) (i := 0) (r := rest) (h s List.mem_cons_self) (by rw [List.drop_zero]; exact hr1)
    have h4 : (wordsOf (s :: r)).drop (0 + (stepWs s).length) = rest := by rw [Nat.zero_add, hr1, List.drop_left]
    have h5 := restW_back (ws := wordsOf (s :: r)) (ls := r) (n := 399) (i := 0 + (stepWs s).length) (fun s hs => h s (List.mem_cons_of_mem _ hs)) (by simp at hl; omega) (fun z => by rw [h4]; exact hr2 z) (fun z => by rw [h4]; exact hr3 z)
    unfold readW
    rw [h3]
    simp only
    rcases e : restW (wordsOf (s :: r)) 399 (0 + (stepWs s).length) with ⟨l, k⟩
    rw [e] at h5
    cases l with
    | none => cases h5
    | some l =>
      cases h5
      rfl
/-! ### what is read may be shown -/
theorem numW_R {ws : List (List Nat)} {i : Nat} {m : Option Int} {n : Int} (h : numW ws i m = some n) : i < ws.length ∧ 0 ≤ n ∧ n.toNat < 10 ^ 60 := by
  obtain ⟨b, hb, ho, rfl⟩ := numW_some h
  have h1 := okN_val ho
  refine ⟨(List.getElem?_eq_some_iff.mp hb).1, ?_, by omega⟩
  unfold numW at h
  rw [hb] at h
  cases e : numIn b with
  | none =>
    simp only [e] at h
    cases h
  | some n =>
    simp only [e] at h
    by_cases c : within (.int n) 0 m = true
    · rw [if_pos c] at h
      cases h
      unfold within at c
      simp only [Bool.and_eq_true, decide_eq_true_eq] at c
      exact c.1
    · rw [if_neg c] at h
      cases h
theorem takeN_R {ws : List (List Nat)} : ∀ {bs : List (Option Int)} {i : Nat} {r : Option (List Int)} {j : Nat}, i ≤ ws.length → takeN ws i bs = (r, j) → j ≤ ws.length ∧ ∀ l, r = some l → l.length = bs.length ∧ ∀ n ∈ l, 0 ≤ n ∧ n.toNat < 10 ^ 60
  | [], i, r, j, hi, h => by
    cases h
    exact ⟨hi, fun l z => by cases z; exact ⟨rfl, fun n hn => by cases hn⟩⟩
  | m :: bs, i, r, j, hi, h => by
    rw [takeN] at h
    cases e : numW ws i m with
    | none =>
      rw [e] at h
      cases h
      exact ⟨hi, fun l z => by cases z⟩
    | some n =>
      rw [e] at h
      simp only at h
      obtain ⟨h1, h2⟩ := numW_R e
      rcases e2 : takeN ws (i + 1) bs with ⟨r2, j2⟩
      rw [e2] at h
      obtain ⟨h3, h4⟩ := takeN_R (ws := ws) (by omega) e2
      cases r2 with
      | none =>
        cases h
        exact ⟨h3, fun l z => by cases z⟩
      | some l2 =>
        cases h
        refine ⟨h3, fun l z => ?_⟩
        cases z
        obtain ⟨h5, h6⟩ := h4 l2 rfl
        refine ⟨by simp [h5], fun n' hn => ?_⟩
        rcases List.mem_cons.mp hn with hn | hn
        · rw [hn]
          exact h2
        · exact h6 n' hn
theorem stepW_R {ws : List (List Nat)} {i : Nat} {r : Option (List Nat × List Int)} {j : Nat} (hi : i ≤ ws.length) (h : stepW ws i = (r, j)) : j ≤ ws.length ∧ ∀ s, r = some s → StepR s := by
  unfold stepW at h
  cases e : ws[i]? with
  | none =>
    rw [e] at h
    cases h
    exact ⟨hi, fun s z => by cases z⟩
  | some a =>
    rw [e] at h
    simp only at h
    have hlt := (List.getElem?_eq_some_iff.mp e).1
    cases e1 : lookB a with
    | none =>
      rw [e1] at h
      cases h
      exact ⟨hi, fun s z => by cases z⟩
    | some bs =>
      rw [e1] at h
      simp only at h
      rcases e2 : takeN ws (i + 1) bs with ⟨r2, j2⟩
      rw [e2] at h
      obtain ⟨h3, h4⟩ := takeN_R (ws := ws) (by omega) e2
      cases r2 with
      | none =>
        cases h
        exact ⟨h3, fun l z => by cases z⟩
      | some l2 =>
        cases h
        refine ⟨h3, fun s z => ?_⟩
        cases z
        obtain ⟨h5, h6⟩ := h4 l2 rfl
        exact ⟨bs, e1, h5, h6⟩
theorem restW_R {ws : List (List Nat)} : ∀ {n i : Nat} {r : Option (List (List Nat × List Int))} {j : Nat}, i ≤ ws.length → restW ws n i = (r, j) → j ≤ ws.length ∧ ∀ l, r = some l → l.length ≤ n ∧ ∀ s ∈ l, StepR s
  | 0, i, r, j, hi, h => by
    rw [restW] at h
    by_cases c : i < ws.length
    · rw [if_pos c] at h
      cases h
      exact ⟨hi, fun l z => by cases z⟩
    · rw [if_neg c] at h
      cases h
      exact ⟨hi, fun l z => by cases z; exact ⟨Nat.le_refl _, fun s hs => by cases hs⟩⟩
  | n + 1, i, r, j, hi, h => by
    rw [restW] at h
    by_cases c : i < ws.length
    · rw [if_pos c] at h
      by_cases c2 : ws[i]? = some [47]
      · rw [if_pos c2] at h
        rcases e : stepW ws (i + 1) with ⟨r1, j1⟩
        rw [e] at h
        obtain ⟨h1, h2⟩ := stepW_R (ws := ws) (by omega) e
        cases r1 with
        | none =>
          cases h
          exact ⟨h1, fun l z => by cases z⟩
        | some s1 =>
          simp only at h
          rcases e2 : restW ws n j1 with ⟨r2, j2⟩
          rw [e2] at h
          obtain ⟨h3, h4⟩ := restW_R (ws := ws) h1 e2
          cases r2 with
          | none =>
            cases h
            exact ⟨h3, fun l z => by cases z⟩
          | some l2 =>
            cases h
            refine ⟨h3, fun l z => ?_⟩
            cases z
            obtain ⟨h5, h6⟩ := h4 l2 rfl
            refine ⟨by simpa using h5, fun s hs => ?_⟩
            rcases List.mem_cons.mp hs with hs | hs
            · rw [hs]
              exact h2 s1 rfl
            · exact h6 s hs
      · rw [if_neg c2] at h
        cases h
        exact ⟨hi, fun l z => by cases z⟩
    · rw [if_neg c] at h
      cases h
      exact ⟨hi, fun l z => by cases z; exact ⟨Nat.zero_le _, fun s hs => by cases hs⟩⟩
theorem readW_R {ws : List (List Nat)} {r : Option (List (List Nat × List Int))} {j : Nat} (h : readW ws = (r, j)) : j ≤ ws.length ∧ ∀ l, r = some l → l.length ≤ 400 ∧ ∀ s ∈ l, StepR s := by
  unfold readW at h
  rcases e : stepW ws 0 with ⟨r1, j1⟩
  rw [e] at h
  obtain ⟨h1, h2⟩ := stepW_R (ws := ws) (Nat.zero_le _) e
  cases r1 with
  | none =>
    cases h
    exact ⟨h1, fun l z => by cases z⟩
  | some s1 =>
    simp only at h
    rcases e2 : restW ws 399 j1 with ⟨r2, j2⟩
    rw [e2] at h
    obtain ⟨h3, h4⟩ := restW_R (ws := ws) h1 e2
    cases r2 with
    | none =>
      cases h
      exact ⟨h3, fun l z => by cases z⟩
    | some l2 =>
      cases h
      refine ⟨h3, fun l z => ?_⟩
      cases z
      obtain ⟨h5, h6⟩ := h4 l2 rfl
      refine ⟨by simp; omega, fun s hs => ?_⟩
      rcases List.mem_cons.mp hs with hs | hs
      · rw [hs]
        exact h2 s1 rfl
      · exact h6 s hs
/-! ### sizes of what is shown -/
structure Shw (d : PyData) (k n : Nat) : Prop where
  s : d.showable = true
  h : d.hasDict = false
  p : d.depth ≤ k
  l : d.shown.length ≤ n
theorem shw_all : ∀ {ds : List PyData} {k n : Nat}, (∀ d ∈ ds, Shw d k n) → PyData.showableAll ds = true ∧ PyData.hasDictAll ds = false ∧ PyData.depthAll ds ≤ k ∧ ((PyData.shownAll ds).map (·.length)).sum ≤ ds.length * n ∧ (PyData.shownAll ds).length = ds.length
  | [], k, n, _ => ⟨rfl, rfl, by simp [PyData.depthAll], by simp [PyData.shownAll], rfl⟩
  | d :: r, k, n, h => by
    obtain ⟨h1, h2, h3, h4, h5⟩ := shw_all (ds := r) fun x hx => h x (List.mem_cons_of_mem _ hx)
    have h0 := h d List.mem_cons_self
    have := h0.l
    refine ⟨by simp [PyData.showableAll, h0.s, h1], by simp [PyData.hasDictAll, h0.h, h2], ?_, ?_, ?_⟩
    · have := h0.p
      simp only [PyData.depthAll]
      omega
    · simp only [PyData.shownAll, List.map_cons, List.sum_cons, List.length_cons, Nat.add_mul]
      omega
    · simp only [PyData.shownAll, List.length_cons, h5]
theorem shw_tuple {ds : List PyData} {k n m : Nat} (h : ∀ d ∈ ds, Shw d k n) (hl : ds.length ≤ m) : Shw (.tuple ds) (k + 1) (m * n + 2 * m + 3) := by
  obtain ⟨h1, h2, h3, h4, h5⟩ := shw_all h
  have h6 := PySem.tupleText_len_le (PyData.shownAll ds)
  have h7 : ds.length * n ≤ m * n := Nat.mul_le_mul_right _ hl
  refine ⟨by simp [PyData.showable, h1], by simp [PyData.hasDict, h2], by simp only [PyData.depth]; omega, ?_⟩
  simp only [PyData.shown]
  omega
theorem shw_list {ds : List PyData} {k n m : Nat} (h : ∀ d ∈ ds, Shw d k n) (hl : ds.length ≤ m) : Shw (.list ds) (k + 1) (m * n + 2 * m + 3) := by
  obtain ⟨h1, h2, h3, h4, h5⟩ := shw_all h
  have h6 := PySem.listText_len_le (PyData.shownAll ds)
  have h7 : ds.length * n ≤ m * n := Nat.mul_le_mul_right _ hl
  refine ⟨by simp [PyData.showable, h1], by simp [PyData.hasDict, h2], by simp only [PyData.depth]; omega, ?_⟩
  simp only [PyData.shown]
  omega
theorem shw_int {i : Int} (h0 : 0 ≤ i) (h : i.toNat < 10 ^ 60) : Shw (.int i) 0 60 := by
  obtain ⟨n, rfl⟩ := Int.eq_ofNat_of_zero_le h0
  have h : n < 10 ^ 60 := by simpa using h
  refine ⟨decide_eq_true (small_log (n := n) h), rfl, by simp [PyData.depth], ?_⟩
  show (Str.ofString (toString ((n : Nat) : Int))).length ≤ 60
  rw [SX.num_S, S_len]
  exact TL.numL_len (by decide) h
theorem shw_word {a : List Nat} {bs : List (Option Int)} (h : lookB a = some bs) : Shw (.str (S a)) 0 60 := by
  have z : boundsOf.all (fun p => decide ((reprText (S p.1)).length ≤ 60)) = true := by decide +kernel
  have z2 := of_decide_eq_true (List.all_eq_true.mp z _ (lookB_mem h))
  exact ⟨rfl, rfl, by simp [PyData.depth], z2⟩
theorem shw_step {s : List Nat × List Int} (h : StepR s) : Shw (stepD s) 1 189 := by
  obtain ⟨bs, hk, hl, hn⟩ := h
  have h2 := lookB_len hk
  refine shw_tuple (k := 0) (n := 60) (m := 3) (fun d hd => ?_) (by simp; omega)
  rcases List.mem_cons.mp hd with hd | hd
  · rw [hd]
    exact shw_word hk
  · obtain ⟨n, hm, rfl⟩ := List.mem_map.mp hd
    exact shw_int (hn n hm).1 (hn n hm).2
theorem shw_steps {l : List (List Nat × List Int)} (h : ∀ s ∈ l, StepR s) (hl : l.length ≤ 400) : Shw (.tuple (l.map stepD)) 2 (400 * 189 + 803) := by
  refine shw_tuple (fun d hd => ?_) (by rw [List.length_map]; exact hl)
  obtain ⟨s, hs, rfl⟩ := List.mem_map.mp hd
  exact shw_step (h s hs)
theorem shw_text {k : Nat} (h : k < 10 ^ 60) : Shw (.list [.str "text", .int (k : Nat)]) 1 127 := by
  refine shw_list (k := 0) (n := 60) (m := 2) (fun d hd => ?_) (Nat.le_refl 2)
  simp only [List.mem_cons, List.not_mem_nil, or_false] at hd
  rcases hd with rfl | rfl
  · exact ⟨rfl, rfl, by simp [PyData.depth], by decide +kernel⟩
  · exact shw_int (by omega) (by simpa using h)
theorem shw_bool (b : Bool) : Shw (.bool b) 0 5 := ⟨rfl, rfl, by simp [PyData.depth], by cases b <;> decide +kernel⟩
theorem Shw.rd {K : W.Frag} {H : Hp} {v : V} {d : PyData} {k n : Nat} {Q : VK} (h : Shw d k n) (hv : Dp K H v d) (hk : (dSeq d || dBool d) = true) (h1 : k ≤ 20) (h2 : n ≤ 200000) (q : Q (.str d.shown) H) : rReprD K [v] H Q :=
  ⟨v, d, rfl, hv, hk, h.s, h.h, Nat.le_trans h.p h1, Nat.le_trans h.l (Nat.le_trans h2 (by decide)), q⟩
/-- drawn steps are a script -/
theorem isStep_ok {s : List Nat × List Int} (h : StepOk s) : isStep (.list (stepDL s)) = true := by
  obtain ⟨bs, hk, hl, hb⟩ := h
  have e : (S s.1).cps.toList = s.1 := by simp [S, SX.S]
  unfold isStep
  simp only [dSeq, Bool.true_and, dItems, stepItems, e, hk, List.length_map, Bool.and_eq_true, decide_eq_true_eq, List.all_eq_true]
  refine ⟨hl, fun p hp => ?_⟩
  obtain ⟨i, hi, ei⟩ := List.getElem_of_mem hp
  rw [List.length_zip, List.length_map] at hi
  rw [List.getElem_zip, List.getElem_map] at ei
  have z := hb i s.2[i] bs[i] (List.getElem?_eq_getElem (by omega)) (List.getElem?_eq_getElem (by omega))
  rw [← ei]
  show within (.int s.2[i]) 0 bs[i] = true
  unfold within
  cases e2 : bs[i] with
  | none => simpa using z.1
  | some k =>
    have := z.2.2 k e2
    simp
    omega
theorem isScript_ok {ls : List (List Nat × List Int)} (h : ∀ s ∈ ls, StepOk s) (hl : ls.length ≤ 400) : isScript (.list (scriptD ls)) = true := by
  unfold isScript
  simp only [dSeq, Bool.true_and, dItems, Bool.and_eq_true, decide_eq_true_eq, List.all_eq_true, List.length_map]
  refine ⟨hl, fun d hd => ?_⟩
  obtain ⟨s, hs, rfl⟩ := List.mem_map.mp hd
  exact isStep_ok (h s hs)
theorem scriptOk_ok {ls : List (List Nat × List Int)} (h : ∀ s ∈ ls, StepOk s) : scriptOk (.list (scriptD ls)) := fun e he => by
  obtain ⟨s, hs, rfl⟩ := List.mem_map.mp he
  exact items_ok (h s hs)
end K80

end
section
/-! K80o: the law's run. -/
namespace K80
open PySem L2 Ow
open PySem.Spec PyProof.Rows
/-! ### orders under tables that grow -/
theorem tabs_extP {T : List (Addr × Str)} {H H' : Hp} {q : Addr} (t : LamX.Tabs T H) (e : ExtP q H H') (hq : ∃ xs, H q = some (.lst xs)) : LamX.Tabs T H' := fun p hp => by
  obtain ⟨ps, h1, h2, h3⟩ := t p hp
  obtain ⟨xs, hx⟩ := hq
  have hne : p.1 ≠ q := fun z => by
    rw [z, hx] at h1
    cases h1
  refine ⟨ps, e _ _ hne h1, h2, fun pos cv hc => ?_⟩
  obtain ⟨c, e1, e2⟩ := h3 pos cv hc
  refine ⟨c, e1, e _ _ (fun z => ?_) e2⟩
  rw [z, hx] at e2
  unfold LamX.CodeO at e2
  cases e2
section
variable {K : W.Frag} {H H' : Hp}
theorem sqL_extN (e : LamX.ExtN H H') {a : Addr} {xs : List V} (h : SqL K H a xs) : SqL K H' a xs := by
  rcases h with (h | ⟨o, h⟩) | h
  · exact .inl (.inl (e _ _ h fun ps z => by cases z))
  · exact .inl (.inr ⟨o, e _ _ h fun ps z => by cases z⟩)
  · exact .inr h
theorem sqT_extN (e : LamX.ExtN H H') {a : Addr} {xs : List V} (h : SqT K H a xs) : SqT K H' a xs := by
  rcases h with (h | ⟨o, h⟩) | h
  · exact .inl (.inl (e _ _ h fun ps z => by cases z))
  · exact .inl (.inr ⟨o, e _ _ h fun ps z => by cases z⟩)
  · exact .inr h
mutual
theorem dp_extN (e : LamX.ExtN H H') : ∀ {d : PyData} {v : V}, Dp K H v d → Dp K H' v d
  | .none, _, h => by cases h; exact .non
  | .bool b, _, h => by cases h; exact .bl b
  | .int i, _, h => by cases h; exact .int i
  | .str x, _, h => by cases h; exact .str x
  | .list ds, _, h => by
    cases h with
    | lst q r => exact .lst (sqL_extN e q) (dpAll_extN e r)
  | .tuple ds, _, h => by
    cases h with
    | tup q r => exact .tup (sqT_extN e q) (dpAll_extN e r)
  | .dict _, _, h => by cases h
theorem dpAll_extN (e : LamX.ExtN H H') : ∀ {ds : List PyData} {vs : List V}, DpAll K H vs ds → DpAll K H' vs ds
  | [], _, h => by cases h; exact .nil
  | _ :: _, _, h => by
    cases h with
    | cons q r => exact .cons (dp_extN e q) (dpAll_extN e r)
end
theorem vd_extN (e : LamX.ExtN H H') {d : PyData} {v : V} (h : Vd K H v d) : Vd K H' v d := by
  rcases h with h | ⟨a, h1, h2, h3⟩
  · exact .inl (dp_extN e h)
  · exact .inr ⟨a, h1, e _ _ h2 (fun ps z => by cases z), h3⟩
theorem qat_extN (e : LamX.ExtN H H') {q c : Addr} {ns : List Int} {b : Nat} (h : QAt K H q c ns b) : QAt K H' q c ns b := by
  obtain ⟨at_, rest, h1, h2, h3, h4, h5, h6⟩ := h
  exact ⟨at_, rest, e _ _ h1 (fun ps z => by cases z), sqL_extN e h2, h3, h4, h5, h6⟩
/-- drawn steps, in the list at sl -/
structure Drawn (K : W.Frag) (H : Hp) (q sl : Addr) (srs : List Addr) (ls : List (List Nat × List Int)) : Prop where
  at_ : H sl = some (.lst (srs.map V.ref))
  nq : sl ≠ q
  len : srs.length = ls.length
  l6 : ls.length ≤ 6
  row : ∀ (i : Nat) r s, srs[i]? = some r → ls[i]? = some s → H r = some (.lst (stepL s)) ∧ r ≠ q
  ok : ∀ s ∈ ls, StepOk s
theorem Drawn.extP {q sl : Addr} {srs : List Addr} {ls : List (List Nat × List Int)} (h : Drawn K H q sl srs ls) (e : ExtP q H H') : Drawn K H' q sl srs ls :=
  ⟨e _ _ h.nq h.at_, h.nq, h.len, h.l6, fun i r s h1 h2 => ⟨e _ _ (h.row i r s h1 h2).2 (h.row i r s h1 h2).1, (h.row i r s h1 h2).2⟩, h.ok⟩
theorem Drawn.ext {q sl : Addr} {srs : List Addr} {ls : List (List Nat × List Int)} (h : Drawn K H q sl srs ls) (e : Ext H H') : Drawn K H' q sl srs ls := h.extP (ExtP.of e)
theorem Drawn.extN {q sl : Addr} {srs : List Addr} {ls : List (List Nat × List Int)} (h : Drawn K H q sl srs ls) (e : LamX.ExtN H H') : Drawn K H' q sl srs ls :=
  ⟨e _ _ h.at_ (fun ps z => by cases z), h.nq, h.len, h.l6, fun i r s h1 h2 => ⟨e _ _ (h.row i r s h1 h2).1 (fun ps z => by cases z), (h.row i r s h1 h2).2⟩, h.ok⟩
theorem Drawn.rows {q sl : Addr} {srs : List Addr} {ls : List (List Nat × List Int)} (h : Drawn K H q sl srs ls) : DpAll K H (srs.map V.ref) (scriptD ls) := rows_all (H := H) h.len fun i r s h1 h2 => (h.row i r s h1 h2).1
theorem Drawn.dp {q sl : Addr} {srs : List Addr} {ls : List (List Nat × List Int)} (h : Drawn K H q sl srs ls) : Dp K H (.ref sl) (.list (scriptD ls)) := .lst (SqL.of h.at_) h.rows
end
/-- a bent value that is a script still -/
theorem good_script {d : PyData} (hg : Good d) (h : isScript d = true) : scriptOk d ∧ (∀ e ∈ dItems d, dSeq e = true ∧ (dItems e).length ≤ 3 ∧ ∀ x ∈ dItems e, itemOk x ∧ Valid (itemText x)) ∧ (dItems d).length ≤ 400 ∧ Valid (scriptText (dItems d)) := by
  unfold isScript at h
  simp only [Bool.and_eq_true, decide_eq_true_eq, List.all_eq_true] at h
  obtain ⟨h1, h2, h3⟩ := h
  have sub : ∀ {n : Nat} {d : PyData}, dSeq d = true → fineB (n + 1) d = true → ∀ x ∈ dItems d, fineB n x = true := fun {n d} hs hf => by
    cases d with
    | list xs => simpa [fineB, dItems] using hf
    | tuple xs => simpa [fineB, dItems] using hf
    | _ => cases hs
  have key : ∀ e ∈ dItems d, dSeq e = true ∧ (dItems e).length ≤ 3 ∧ ∀ x ∈ dItems e, itemOk x ∧ Valid (itemText x) := fun e he => by
    have he2 := h3 e he
    unfold isStep at he2
    simp only [Bool.and_eq_true] at he2
    obtain ⟨s1, s2⟩ := he2
    have hf := sub s1 (sub h1 (hg h1) e he)
    refine ⟨s1, ?_⟩
    generalize dItems e = ds at s2 hf ⊢
    cases ds with
    | nil => cases s2
    | cons w0 ns =>
      cases w0 with
      | str x =>
        unfold stepItems at s2
        cases ek : lookB x.cps.toList with
        | none =>
          simp only [ek] at s2
          cases s2
        | some bs =>
          simp only [ek, Bool.and_eq_true, decide_eq_true_eq, List.all_eq_true] at s2
          obtain ⟨t1, t2⟩ := s2
          have hl := lookB_len ek
          refine ⟨by simp; omega, fun y hy => ?_⟩
          rcases List.mem_cons.mp hy with hy | hy
          · rw [hy]
            have hw := word_fine ek
            refine ⟨?_, fun c hc => ?_⟩
            · show x.length ≤ 1000
              have := hw.1
              rw [S_of x, S_len]
              omega
            · have := hw.2 c hc
              omega
          · have hfy := hf y (List.mem_cons_of_mem _ hy)
            obtain ⟨j, hj, ej⟩ := List.getElem_of_mem hy
            have hz : (y, bs[j]'(by omega)) ∈ ns.zip bs := by
              rw [← ej]
              exact List.mem_iff_getElem.mpr ⟨j, by rw [List.length_zip]; omega, by rw [List.getElem_zip]⟩
            have hw := t2 _ hz
            cases y with
            | int n =>
              unfold within at hw
              simp only [Bool.and_eq_true, decide_eq_true_eq] at hw
              have hn : n.natAbs < 10 ^ 59 := by simpa [fineB] using hfy
              have h0 := hw.1
              refine ⟨⟨h0, by omega⟩, numL_valid _⟩
            | _ => cases hw
      | _ => cases s2
  refine ⟨fun e he x hx => ((key e he).2.2 x hx).1, key, h2, joinL_valid (fun c hc => by simp at hc; omega) fun a ha => ?_⟩
  obtain ⟨e, he, rfl⟩ := List.mem_map.mp ha
  refine joinL_valid (fun c hc => by simp at hc; omega) fun a ha => ?_
  obtain ⟨x, hx, rfl⟩ := List.mem_map.mp ha
  exact ((key e he).2.2 x hx).2
/-- what a told value says -/
def resT : PyData → Option (List (List Nat × List Int)) × Nat
  | .str x => readT x.cps.toList
  | _ => (none, 0)
theorem resT_R {d : PyData} (h : ∀ a, d = .str (S a) → a.length ≤ 200000 ∧ Valid a) : (resT d).2 < 10 ^ 60 ∧ ∀ l, (resT d).1 = some l → l.length ≤ 400 ∧ ∀ s ∈ l, StepR s := by
  cases d with
  | str x =>
    have hx := h x.cps.toList (by rw [← S_of])
    show (readT x.cps.toList).2 < _ ∧ ∀ l, (readT x.cps.toList).1 = some l → _
    unfold readT
    by_cases c : x.cps.toList = []
    · rw [if_pos c]
      exact ⟨by decide, fun l z => by cases z; exact ⟨Nat.zero_le _, fun s hs => by cases hs⟩⟩
    · rw [if_neg c]
      rcases e : readW (splitW x.cps.toList) with ⟨r, j⟩
      obtain ⟨h1, h2⟩ := readW_R e
      have h3 := spl_tot x.cps.toList []
      have h4 := tot_len (splitW x.cps.toList)
      have h5 : tot (splitW x.cps.toList) = ([] : List Nat).length + x.cps.toList.length + 1 := h3
      refine ⟨?_, h2⟩
      show j < 10 ^ 60
      have h6 := hx.1
      simp only [List.length_nil] at h5
      omega
  | _ => exact ⟨by show 0 < 10 ^ 60; decide, fun l z => by cases z⟩
theorem S_cps (a : List Nat) : (S a).cps.toList = a := by simp [S, SX.S]
theorem rNe_self {x : Str} {H : Hp} {Q : VK} (q : Q (.bl false) H) : rNe (.str x) (.str x) H Q := by
  refine ⟨rfl, ?_⟩
  rw [decide_eq_true rfl]
  exact q
section
variable {w : World} {K : W.Frag} {mg : Str → Option Value} {base : Heap}
abbrev lamQ : Str := (envOfC "law" (defScope s_law) 0 0 .none).qual ++ "<lambda>"
theorem law_body (T : Txt K mg) (F : HeardF K mg) {c P g fl : Addr} {s : Shared} {H : Hp} {a : Addr} (TB : LamX.TabB base mg c P)
    {dV kV doc pm cdv ct oc : Value} {an od : Option Addr} {osl : Array (Option Value)} (hm : mg "_law_heard" = some (.ref g)) (hkp : W.keepIn K (.ref g) = true)
    (lk : K.lookup g = some ⟨oc, od, .func (W.fnOf "_law_heard" "_law_heard" (defArgs s_law_heard) (defBody s_law_heard) (defScope s_law_heard) dV kV doc pm an cdv ct), osl⟩) (hcg : W.codeIn K cdv "_law_heard" = true)
    (hb : L2.Binds K (W.fnOf "_law_heard" "_law_heard" (defArgs s_law_heard) (defBody s_law_heard) (defScope s_law_heard) dV kV doc pm an cdv ct) ["_law_ask"] [])
    {ns : List Int} (hs : SqL K H a (ns.map V.int)) (hl : ns.length ≤ 63) (hT : LamX.Tabs [(P, lamQ)] H)
    (hr : Room 9 (callerA.deeper (envOfC "law" (defScope s_law) s.heap.objs.size fl (.ref c)))) :
    ∃ t, PSs (cxOf CX0 prg w K mg base ["_law_script", "_law_quiver_here", "_law_turn", "_law_steps", "_law_text_here", "_law_value", "_law_due", "_law_told", "_law_item", "_law_read", "_law_each", "_law_step_here"] "law" (defScope s_law) fl (.ref c) callerA [] s H E0) (defBody s_law) t ∧ t { nx := fun _ H' => (.non = V.bl true), rt := fun v _ => v = .bl true } (L2.start ["_law_script", "_law_quiver_here", "_law_turn", "_law_steps", "_law_text_here", "_law_value", "_law_due", "_law_told", "_law_item", "_law_read", "_law_each", "_law_step_here"] [.ref a]) H := by
  have nd := sc_law.nd
  have hgd : (callerA.deeper (envOfC "law" (defScope s_law) s.heap.objs.size fl (.ref c))).guards = some [] := rfl
  refine ⟨_, PSs.nox (pss_cons (ps_set (i := 1) nd rfl (Or.inr rfl) (pe_cl (c_law_quiver T) (hr.mono (by decide)) pass0 (pa_cons (pv 0) pa_nil)))
      (pss_cons (ps_for PassesOwn.never rfl (pi_range1 rfl T.f_range (pa_cons pe_int pa_nil)) (pg_name (i := 2) nd rfl (Or.inl rfl)) (pss_cons (ps_setLc (i := 3) (own := [("_law_each", 10)]) (tt := tYes) (g := gName 10) rfl nd rfl rfl (sw_true rfl rfl rfl (by decide +kernel)) (pi_range1 rfl T.f_range (pa_cons (pe_cl (c_law_shoot T) (hr.mono (by decide)) pass0 (pa_cons (pv 1) (pa_cons pe_int pa_nil))) pa_nil)) (blkOk_by (own := [("_law_each", 10)]) (N := ["_law_script", "_law_quiver_here", "_law_turn", "_law_steps", "_law_text_here", "_law_value", "_law_due", "_law_told", "_law_item", "_law_read", "_law_each", "_law_step_here"]) (sc := defScope s_law) (by decide +kernel)) (fun _ _ _ _ _ => (pg_name (i := 10) nd rfl (Or.inl rfl))) (fun _ _ _ _ _ => pts_nil) (fun _ _ _ _ _ => (pe_cl (c_law_step T) (hr.mono (by decide)) pass0 (pa_cons (pv 1) pa_nil))))
      (pss_cons (ps_set (i := 4) nd rfl (Or.inl rfl) (pe_join pe_str (pe_lc (own := [("_law_step_here", 11)]) (tt := tYes) (g := gName 11) rfl nd (pi_seqF (pv 3)) (blkOk_by (own := [("_law_step_here", 11)]) (N := ["_law_script", "_law_quiver_here", "_law_turn", "_law_steps", "_law_text_here", "_law_value", "_law_due", "_law_told", "_law_item", "_law_read", "_law_each", "_law_step_here"]) (sc := defScope s_law) (by decide +kernel)) (fun _ _ _ _ _ => (pg_name (i := 11) nd rfl (Or.inl rfl))) (fun _ _ _ _ _ => pts_nil) (fun _ _ _ _ _ => (pe_joinK (K := K) rfl pe_str (pe_lc (own := [("_law_item", 8)]) (tt := tYes) (g := gName 8) rfl nd (pi_seqFK (K := K) rfl (pv 11)) (blkOk_by (own := [("_law_item", 8)]) (N := ["_law_script", "_law_quiver_here", "_law_turn", "_law_steps", "_law_text_here", "_law_value", "_law_due", "_law_told", "_law_item", "_law_read", "_law_each", "_law_step_here"]) (by rfl)) (fun _ _ _ _ _ => (pg_name (i := 8) nd rfl (Or.inl rfl))) (fun _ _ _ _ _ => pts_nil) (fun _ _ _ _ _ => (pe_callTy call_str_any (by rfl) T.f_str (by decide +kernel) (pa_cons (pv 8) pa_nil)))))))))
      (pss_cons (ps_if (PW.pt (pw_or (pt_cmpR op_isnot_bl (pe_cl (c_is_script T) (hr.mono (by decide)) pass0 (pa_cons (pv 3) pa_nil)) pe_bl (nomark _)) (pw_or (pt_cmpR op_ne (pe_clK (kp := ⟨0, 0, 0, 0⟩) (c_script_text T) (hr.mono (by decide)) passN (pv 3)) (pv 4) (nomark _)) (pw_or1 (pt_cmpR op_ne (pe_callB (call_reprD hgd hr) (by rfl) T.f_repr (by decide +kernel) (pa_cons (pe_clK (kp := ⟨0, 0, 0, 0⟩) (c_read_script T) (hr.mono (by decide)) passN (pv 4)) pa_nil)) (pe_callB (call_reprD hgd hr) (by rfl) T.f_repr (by decide +kernel) (pa_cons (pe_callTy call_tuple_of (by rfl) T.f_tuple (by decide +kernel) (pa_cons (pe_lc (own := [("_law_step_here", 11)]) (tt := tYes) (g := gName 11) rfl nd (pi_seqF (pv 3)) (blkOk_by (own := [("_law_step_here", 11)]) (N := ["_law_script", "_law_quiver_here", "_law_turn", "_law_steps", "_law_text_here", "_law_value", "_law_due", "_law_told", "_law_item", "_law_read", "_law_each", "_law_step_here"]) (sc := defScope s_law) (by decide +kernel)) (fun _ _ _ _ _ => (pg_name (i := 11) nd rfl (Or.inl rfl))) (fun _ _ _ _ _ => pts_nil) (fun _ _ _ _ _ => (pe_callTy (call_tuple_ofK (K := K) rfl) (by rfl) T.f_tuple (by decide +kernel) (pa_cons (pv 11) pa_nil)))) pa_nil)) pa_nil)) (nomark _)))))) (pss_one (ps_ret pe_bl)) pss_nil)
      (pss_cons (ps_asg (pe_tup (pa_cons (pe_cl (c_law_bent T) (hr.mono (by decide)) pass0 (pa_cons (pv 1) (pa_cons (pv 3) pa_nil))) (pa_cons (pe_lst (pa_cons pe_str (pa_cons pe_str pa_nil))) pa_nil))) (pg_tup (by rfl) (pgs_cons (pg_name (i := 5) nd rfl (Or.inr rfl)) (pgs_cons (pg_name (i := 6) nd rfl (Or.inl rfl)) pgs_nil))))
      (pss_cons (ps_if (pt_cmpR op_ne (pe_callB (call_reprD hgd hr) (by rfl) T.f_repr (by decide +kernel) (pa_cons (pe_clK (kp := ⟨0, 0, 0, 0⟩) (c_is_script T) (hr.mono (by decide)) pass0 (pv 5)) pa_nil)) (pe_callB (call_reprD hgd hr) (by rfl) T.f_repr (by decide +kernel) (pa_cons (pe_cl (c_law_is_script T) (hr.mono (by decide)) pass0 (pa_cons (pv 5) pa_nil)) pa_nil)) (nomark _)) (pss_one (ps_ret pe_bl)) pss_nil)
      (pss_cons (ps_if (pt_val (pe_cl (c_law_is_script T) (hr.mono (by decide)) pass0 (pa_cons (pv 5) pa_nil))) (pss_one (ps_set (i := 6) nd rfl (Or.inl rfl) (pe_join pe_str (pe_lc (own := [("_law_step_here", 11)]) (tt := tYes) (g := gName 11) rfl nd (pi_seqF (pv 5)) (blkOk_by (own := [("_law_step_here", 11)]) (N := ["_law_script", "_law_quiver_here", "_law_turn", "_law_steps", "_law_text_here", "_law_value", "_law_due", "_law_told", "_law_item", "_law_read", "_law_each", "_law_step_here"]) (sc := defScope s_law) (by decide +kernel)) (fun _ _ _ _ _ => (pg_name (i := 11) nd rfl (Or.inl rfl))) (fun _ _ _ _ _ => pts_nil) (fun _ _ _ _ _ => (pe_joinK (K := K) rfl pe_str (pe_lc (own := [("_law_item", 8)]) (tt := tYes) (g := gName 8) rfl nd (pi_seqFK (K := K) rfl (pv 11)) (blkOk_by (own := [("_law_item", 8)]) (N := ["_law_script", "_law_quiver_here", "_law_turn", "_law_steps", "_law_text_here", "_law_value", "_law_due", "_law_told", "_law_item", "_law_read", "_law_each", "_law_step_here"]) (by rfl)) (fun _ _ _ _ _ => (pg_name (i := 8) nd rfl (Or.inl rfl))) (fun _ _ _ _ _ => pts_nil) (fun _ _ _ _ _ => (pe_callTy call_str_any (by rfl) T.f_str (by decide +kernel) (pa_cons (pv 8) pa_nil)))))))))) pss_nil)
      (pss_cons (ps_if (pt_cmpR (op_neD hr.units) (LamX.pe_lamcall (T := [(P, lamQ)]) (TT := THeard K) (k := 6) rfl hm hkp lk hcg hb sc_law_heard rfl (Or.inl rfl) (heard_gives T F rfl rfl) TB rfl (List.mem_singleton.mpr rfl) (fun p hp _ => by cases List.mem_singleton.mp hp; rfl) (hr.mono (by decide)) (LamX.lamS_by (sc := defScope s_law) (by decide +kernel)) rfl (fun _ _ _ _ _ => rfl) (fun A outer s H E f c' hr2 => pe_cl (c_script_text T) (hr2.mono (by decide)) (passX (takes_of rfl rfl rfl rfl) fun _ _ _ _ h => h) (pa_cons (pv 5) pa_nil))) (pv 6) (nomark _)) (pss_one (ps_ret pe_bl)) pss_nil)
      (pss_cons (ps_set (i := 7) nd rfl (Or.inr rfl) (pe_cl (c_law_text T) (hr.mono (by decide)) pass0 (pa_cons (pv 1) (pa_cons (pv 3) pa_nil))))
      (pss_cons (ps_asg (pe_ifExp (pt_not (pt_val (pe_callB call_isi (by rfl) T.f_isinstance (by decide +kernel) (pa_cons (pv 7) (pa_cons (pe_bltn (v := .ty "str") (by rfl) T.f_str (by decide +kernel) rfl) pa_nil))))) (pe_tup (pa_cons pe_int (pa_cons (pe_lst pa_nil) pa_nil))) (pe_ifExp (pt_cmpR op_eq (pv 7) pe_str (nomark _)) (pe_tup (pa_cons pe_non (pa_cons (pe_lst pa_nil) pa_nil))) (pe_cl (c_law_items T) (hr.mono (by decide)) pass0 (pa_cons (pv 7) pa_nil)))) (pg_tup (by rfl) (pgs_cons (pg_name (i := 8) nd rfl (Or.inl rfl)) (pgs_cons (pg_name (i := 9) nd rfl (Or.inl rfl)) pgs_nil))))
      (pss_one (ps_if (pt_cmpR op_ne (pe_callB (call_reprD hgd hr) (by rfl) T.f_repr (by decide +kernel) (pa_cons (LamX.pe_lamcall (T := [(P, lamQ)]) (TT := THeard K) (k := 6) rfl hm hkp lk hcg hb sc_law_heard rfl (Or.inl rfl) (heard_gives T F rfl rfl) TB rfl (List.mem_singleton.mpr rfl) (fun p hp _ => by cases List.mem_singleton.mp hp; rfl) (hr.mono (by decide)) (LamX.lamS_by (sc := defScope s_law) (by decide +kernel)) rfl (fun _ _ _ _ _ => rfl) (fun A outer s H E f c' hr2 => pe_cl (c_read_script T) (hr2.mono (by decide)) (passX (takes_of rfl rfl rfl rfl) fun _ _ _ _ h => h) (pa_cons (pv 7) pa_nil))) pa_nil)) (pe_callB (call_reprD hgd hr) (by rfl) T.f_repr (by decide +kernel) (pa_cons (pe_ifExp (pt_cmpR L2.op_isN (pv 8) pe_non (nomark _)) (pe_callTy call_tuple_of (by rfl) T.f_tuple (by decide +kernel) (pa_cons (pv 9) pa_nil)) (pe_lst (pa_cons pe_str (pa_cons (pv 8) pa_nil)))) pa_nil)) (nomark _)) (pss_one (ps_ret pe_bl)) pss_nil))))))))))))
      (pss_one (ps_ret pe_bl)))), ?_⟩
  refine ⟨_, rfl, a, ns, rfl, hs, hl, fun q c0 H1 e1 hq0 hq => ?_⟩
  refine ⟨3, rfl, by decide, by decide, ?_⟩
  refine for_it walk_range (Pv := fun i σ G => (∃ z2 z3 z4 z5 z6 z7 z8 z9 z10 z11, σ = [some (.ref a), some (.ref q), z2, z3, z4, z5, z6, z7, z8, z9, z10, z11]) ∧ (∃ b, b ≤ 100 * i ∧ QAt K G q c0 ns b) ∧ LamX.Tabs [(P, lamQ)] G) ⟨⟨_, _, _, _, _, _, _, _, _, _, rfl⟩, ⟨0, Nat.zero_le _, hq⟩, hT.ext e1⟩ (fun _ _ _ _ _ => True.intro) ?_ fun σ G _ => ?_
  rotate_left
  · exact rfl
  rintro i x σ G0 G0' hi ⟨⟨z2, z3, z4, z5, z6, z7, z8, z9, z10, z11, rfl⟩, ⟨b, hb, hq0'⟩, hT0⟩ ⟨rfl, rfl⟩
  have hi : i < 3 := hi
  have hqG : ∀ {G}, QAt K G q c0 ns b → ∃ xs, G q = some (.lst xs) := fun h => h.here
  -- the steps
  refine cut_asg (fun v G => ∃ sl srs ls, v = .ref sl ∧ Drawn K G q sl srs ls ∧ ExtP q G0' G ∧ QAt K G q c0 ns (b + 40)) (fun Q1 k1 => ?_) fun v G1 ⟨sl, srs, ls, ev, hd1, e1, hq1⟩ => ?_
  · dsimp only [tRet, tRetN, tSeq, tAsg, tOp, tVar, tC, tCB, tCons, tNil, tAndV, tOrV, tNotV, tAnd, tOr, tNot, tTest, tIf, tIfS, tB, tChain, tSl, tPart, tNoPart, tLst, tTup, tFld, tCl, tMt, tMk, gName, tNext, tBM, tBM0, tUn, tSub, tPar, tPar3, gTup, gCons, gNil, tDrop, tMkS, tM1, sFld, StX.tStar, tYes, gSub, cxOf, Cx.wish, Cx.nox, Cx.blk]
    refine ⟨_, rfl, q, c0, ns, 7, b, rfl, hq0', by omega, by decide, by decide, fun r G r0 r1 e h => ?_⟩
    obtain ⟨j, rfl⟩ := Int.eq_ofNat_of_zero_le r0
    refine ⟨_, rfl, by omega, by omega, fun D hD => ?_⟩
    have hDq := h.ne hD
    have hD0 : G0' D = none := by
      cases hz : G0' D with
      | none => rfl
      | some o =>
        rw [e _ _ hDq hz] at hD
        cases hD
    refine lc_it walk_range (fun i G' => ∃ srs ls, srs.length = ls.length ∧ ls.length = i ∧ ExtP q G G' ∧ QAt K G' q c0 ns (b + 1 + 6 * i) ∧ G' D = some (.lst (srs.map V.ref)) ∧ (∀ (i : Nat) r s, srs[i]? = some r → ls[i]? = some s → G' r = some (.lst (stepL s)) ∧ r ≠ q ∧ r ≠ D) ∧ ∀ s ∈ ls, StepOk s) ⟨[], [], rfl, rfl, ExtP.of (Ext.upd hD), h.ext (Ext.upd hD), upd_same, fun i r s z => by simp at z, fun s z => by cases z⟩ (fun _ _ _ _ => True.intro) ?_ ?_
    · rintro k x G2 G2' hk ⟨srs, ls, h1, h2, h3, h4, h5, h6, h7⟩ ⟨rfl, rfl⟩
      have hk : k < j := by simpa using hk
      refine ⟨by first | rfl | exact wipe1, ?_⟩
      dsimp only [tRet, tRetN, tSeq, tAsg, tOp, tVar, tC, tCB, tCons, tNil, tAndV, tOrV, tNotV, tAnd, tOr, tNot, tTest, tIf, tIfS, tB, tChain, tSl, tPart, tNoPart, tLst, tTup, tFld, tCl, tMt, tMk, gName, tNext, tBM, tBM0, tUn, tSub, tPar, tPar3, gTup, gCons, gNil, tDrop, tMkS, tM1, sFld, StX.tStar, tYes, gSub, cxOf, Cx.wish, Cx.nox, Cx.blk]
      refine if_t rfl ⟨_, rfl, q, c0, ns, _, rfl, h4, by omega, fun s l G3 hs e3 hq3 hl0 hl => ?_⟩
      have hD3 := e3 _ _ hDq h5
      have hlD : l ≠ D := fun z => by
        rw [z, h5] at hl0
        cases hl0
      have hlq : l ≠ q := h4.ne hl0
      refine ⟨_, hD3, by rw [List.length_map]; exact small1000 (by omega), srs ++ [l], ls ++ [s], by simp [h1], by simp [h2], fun o u ho eo => ?_, (h.but (h3.trans e3) hq3 hD).mono (by omega), by rw [upd_same, List.map_append]; rfl, fun m r s' hr hs' => ?_, fun s' hs' => ?_⟩
      · rw [upd_ne (ne_of_none eo hD)]
        exact e3 _ _ ho (h3 _ _ ho eo)
      · by_cases c : m < srs.length
        · rw [List.getElem?_append_left c] at hr
          rw [List.getElem?_append_left (by omega)] at hs'
          obtain ⟨y1, y2, y3⟩ := h6 m r s' hr hs'
          exact ⟨by rw [upd_ne y3]; exact e3 _ _ y2 y1, y2, y3⟩
        · rw [List.getElem?_append_right (by omega)] at hr hs'
          have c2 : m = srs.length := by
            by_cases c3 : m - srs.length = 0
            · omega
            · rw [List.getElem?_eq_none (by simp; omega)] at hr
              cases hr
          subst c2
          rw [Nat.sub_self] at hr
          rw [h1, Nat.sub_self] at hs'
          cases hr
          cases hs'
          exact ⟨by rw [upd_ne hlD]; exact hl, hlq, hlD⟩
      · rcases List.mem_append.mp hs' with hs' | hs'
        · exact h7 s' hs'
        · rw [List.mem_singleton.mp hs']
          exact hs
    · rintro G2 ⟨srs, ls, h1, h2, h3, h4, h5, h6, h7⟩
      have h2 : ls.length = j := by simpa using h2
      exact k1 _ _ ⟨D, srs, ls, rfl, ⟨h5, hDq, h1, by omega, fun i r s y1 y2 => ⟨(h6 i r s y1 y2).1, (h6 i r s y1 y2).2.1⟩, h7⟩, e.trans h3, h4.mono (by omega)⟩
  subst ev
  have hT1 := tabs_extP hT0 e1 hq0'.here
  have hls := hd1.l6
  -- their text
  refine cut_asg (fun v G => v = .str (S (scriptText (scriptD ls))) ∧ Ext G1 G) (fun Q1 k1 => ?_) fun v G2 ⟨ev, e2⟩ => ?_
  · refine script_rd (sep := " / ") (fl := true) (a := sl) (xs := srs.map V.ref) (ds := scriptD ls) (by decide +kernel) (fun Q hQ => hQ) rfl (by show 11 < 12; decide) (by show 8 < 12; decide) (SqL.of hd1.at_) hd1.rows (fun e he => ?_) (by rw [List.length_map]; omega) fun H' e => k1 _ _ ⟨rfl, e⟩
    obtain ⟨s, hs, rfl⟩ := List.mem_map.mp he
    exact ⟨rfl, step_len (hd1.ok s hs), items_ok (hd1.ok s hs)⟩
  subst ev
  have htv := script_valid hd1.ok
  have htl := script_len hd1.ok (by omega)
  have hrt := readT_back hd1.ok (by omega)
  have hsz : ∀ {n : Nat}, n ≤ 200000 → n ≤ sizeLine := fun h => Nat.le_trans h (by decide)
  have hd2 := hd1.ext e2
  have hq2 := hq1.ext e2
  have hT2 := hT1.ext e2
  -- the drawn steps are a script, of this text, read back
  refine cut_ifn (fun c G => c = false ∧ Ext G2 G) (fun Q1 k1 => ?_) fun cc G3 ⟨ec, e3⟩ => ?_
  · dsimp only [tRet, tRetN, tSeq, tAsg, tOp, tVar, tC, tCB, tCons, tNil, tAndV, tOrV, tNotV, tAnd, tOr, tNot, tTest, tIf, tIfS, tB, tChain, tSl, tPart, tNoPart, tLst, tTup, tFld, tCl, tMt, tMk, gName, tNext, tBM, tBM0, tUn, tSub, tPar, tPar3, gTup, gCons, gNil, tDrop, tMkS, tM1, sFld, StX.tStar, tYes, gSub, cxOf, Cx.wish, Cx.nox, Cx.blk]
    have hsc := isScript_ok hd2.ok (by omega)
    refine ⟨_, rfl, _, _, rfl, .inl hd2.dp, fun Ga ea => ⟨_, _, rfl, rfl, _, rfl, ?_⟩⟩
    rw [hsc]
    refine if_f rfl ⟨_, rfl, _, _, rfl, .inl (hd2.ext ea).dp, fun _ => ⟨scriptOk_ok hd2.ok, fun Gb eb => ⟨_, rfl, rNe_S rfl ⟨_, rfl, ?_⟩⟩⟩, fun z => by rw [hsc] at z; cases z⟩
    refine if_f (by simp [dItems]) ⟨_, rfl, _, .str (S (scriptText (scriptD ls))), rfl, .str _, str_shaped htv, fun a' z => ?_, fun z => by cases z⟩
    have z := S_inj (PyData.str.inj z)
    subst z
    refine ⟨hsz (by omega), fun l z u Gc ec hu => ?_, fun z => by rw [hrt] at z; cases z⟩
    rw [hrt] at z
    cases z
    have shw := shw_steps (l := ls) (fun s hs => (hd2.ok s hs).toR) (by omega)
    refine shw.rd hu rfl (by decide) (by decide) ?_
    have hd3 := ((hd2.ext ea).ext eb).ext ec
    refine ⟨_, rfl, true, sl, _, rfl, SqL.of hd3.at_, fun D hD => ?_⟩
    refine lc_it walk_seqF (fun i G => ∃ ys, G D = some (.lst ys) ∧ Ext Gc G ∧ ys.length = i ∧ ∀ (j : Nat) y, ys[j]? = some y → ∃ t s, y = .ref t ∧ ls[j]? = some s ∧ G t = some (.tup (stepL s)) ∧ t ≠ D) ⟨[], upd_same, Ext.upd hD, rfl, fun j y z => by simp at z⟩ (fun i G _ ⟨_, _, e, _⟩ => SqL.of (e _ _ hd3.at_)) ?_ ?_
    · rintro k x G G' hk ⟨ys, h1, h2, h3, h4⟩ ⟨rfl, hx⟩
      rw [List.getElem?_map] at hx
      have hkl : k < ls.length := by rw [List.length_map, hd3.len] at hk; exact hk
      cases er : srs[k]? with
      | none =>
        rw [er] at hx
        cases hx
      | some r =>
        rw [er] at hx
        cases hx
        have hr := (hd3.row k r ls[k] er (List.getElem?_eq_getElem hkl)).1
        refine ⟨by first | rfl | exact wipe1, ?_⟩
        dsimp only [tRet, tRetN, tSeq, tAsg, tOp, tVar, tC, tCB, tCons, tNil, tAndV, tOrV, tNotV, tAnd, tOr, tNot, tTest, tIf, tIfS, tB, tChain, tSl, tPart, tNoPart, tLst, tTup, tFld, tCl, tMt, tMk, gName, tNext, tBM, tBM0, tUn, tSub, tPar, tPar3, gTup, gCons, gNil, tDrop, tMkS, tM1, sFld, StX.tStar, tYes, gSub, cxOf, Cx.wish, Cx.nox, Cx.blk]
        refine if_t rfl ⟨_, rfl, r, _, rfl, .inl ⟨SqL.of (h2 _ _ hr), fun t ht => ?_⟩⟩
        have hDt : D ≠ t := ne_of_none h1 ht
        refine ⟨_, by rw [upd_ne hDt]; exact h1, by rw [h3]; exact small1000 (by omega), ys ++ [.ref t], upd_same, fun o u eo => ?_, by simp [h3], fun j y hj => ?_⟩
        · rw [upd_ne (ne_of_none eo hD)]
          exact Ext.upd ht _ _ (h2 _ _ eo)
        · by_cases c : j < ys.length
          · rw [List.getElem?_append_left c] at hj
            obtain ⟨t', s', y1, y2, y3, y4⟩ := h4 j y hj
            exact ⟨t', s', y1, y2, by rw [upd_ne y4]; exact Ext.upd ht _ _ y3, y4⟩
          · rw [List.getElem?_append_right (by omega)] at hj
            have c2 : j = k := by
              by_cases c3 : j - ys.length = 0
              · omega
              · rw [List.getElem?_eq_none (by simp; omega)] at hj
                cases hj
            subst c2
            rw [h3, Nat.sub_self] at hj
            cases hj
            exact ⟨t, ls[j], rfl, List.getElem?_eq_getElem hkl, by rw [upd_ne hDt.symm, upd_same], hDt.symm⟩
    · rintro G ⟨ys, h1, h2, h3, h4⟩
      have h3 : ys.length = ls.length := by rw [h3, List.length_map, hd3.len]
      refine ⟨D, ys, rfl, .inl ⟨SqL.of h1, fun t ht => ?_⟩⟩
      have hv : Dp K (upd G t (.tup ys)) (.ref t) (.tuple (ls.map stepD)) := by
        refine .tup (SqT.of upd_same) (DpAll.of_get (by rw [List.length_map, h3]) fun j v d hv hd => ?_)
        obtain ⟨t', s', rfl, y2, y3, _⟩ := h4 j v hv
        rw [List.getElem?_map, y2] at hd
        cases hd
        exact .tup (SqT.of (Ext.upd ht _ _ y3)) (stepL_dp _)
      refine shw.rd hv rfl (by decide) (by decide) ?_
      exact rNe_self ⟨_, rfl, k1 _ _ ⟨rfl, ((ea.trans eb).trans ec).trans (h2.trans (Ext.upd ht))⟩⟩
  refine if_f ec ?_
  have hd3 := hd2.ext e3
  have hq3 := hq2.ext e3
  have hT3 := hT2.ext e3
  -- the bent value, what is due
  refine cut_tseq (fun σ G => ∃ v d L, σ = [some (.ref a), some (.ref q), some (.int (0 + (i : Nat))), some (.ref sl), some (.str (S (scriptText (scriptD ls)))), some v, some (.ref L), z7, z8, z9, z10, z11] ∧ Good d ∧ Vd K (del G q) v d ∧ ExtP q G3 G ∧ QAt K G q c0 ns (b + 50) ∧ L ≠ q ∧ G L = some (.lst [.str "script", .str "script"])) (fun D1 k1 => ?_) fun σ G4 ⟨v, d, L, eσ, hg, hv, e4, hq4, hLq, hL⟩ => ?_
  · dsimp only [tRet, tRetN, tSeq, tAsg, tOp, tVar, tC, tCB, tCons, tNil, tAndV, tOrV, tNotV, tAnd, tOr, tNot, tTest, tIf, tIfS, tB, tChain, tSl, tPart, tNoPart, tLst, tTup, tFld, tCl, tMt, tMk, gName, tNext, tBM, tBM0, tUn, tSub, tPar, tPar3, gTup, gCons, gNil, tDrop, tMkS, tM1, sFld, StX.tStar, tYes, gSub, cxOf, Cx.wish, Cx.nox, Cx.blk]
    refine ⟨_, rfl, _, rfl, q, c0, ns, b + 40, sl, srs, ls, rfl, hq3, by omega, hd3.at_, hd3.nq, hd3.len, by omega, hd3.row, hd3.ok, ?_⟩
    refine fun v d H' hg e hq' hv => ⟨(by show 2 ≤ sizeLine; decide), fun p hp => ⟨(by show 2 ≤ sizeLine; decide), fun p1 hp1 => ⟨p1, _, rfl, SqT.of upd_same, rfl, _, _, rfl, _, _, rfl, rfl, k1 _ _ ⟨v, d, p, rfl, hg, Vd.ext (fun bb o h => ?_) hv, ?_, ?_, hq'.ne hp, Ext.upd hp1 _ _ upd_same⟩⟩⟩⟩
    · by_cases c : bb = q
      · rw [c, del_same] at h
        cases h
      · rw [del_ne c] at h ⊢
        exact Ext.upd hp1 _ _ (Ext.upd hp _ _ h)
    · exact e.trans (ExtP.of ((Ext.upd hp).trans (Ext.upd hp1)))
    · exact (hq'.ext (Ext.upd hp)).ext (Ext.upd hp1)
  subst eσ
  have hd4 := hd3.extP e4
  have hT4 := tabs_extP hT3 e4 hq3.here
  have hdel : ∀ {G}, Ext G4 G → Vd K G v d := fun e => Vd.ext (fun bb o h => by
    by_cases c : bb = q
    · rw [c, del_same] at h
      cases h
    · rw [del_ne c] at h
      exact e _ _ h) hv
  have hsh : dSeq d = true → SeqAt.shaped d = true := fun h => fine_shaped (hg h) (by decide)
  refine cut_ifn (fun c G => c = false ∧ Ext G4 G) (fun Q1 k1 => ?_) fun cc G5 ⟨ec, e5⟩ => ?_
  · dsimp only [tRet, tRetN, tSeq, tAsg, tOp, tVar, tC, tCB, tCons, tNil, tAndV, tOrV, tNotV, tAnd, tOr, tNot, tTest, tIf, tIfS, tB, tChain, tSl, tPart, tNoPart, tLst, tTup, tFld, tCl, tMt, tMk, gName, tNext, tBM, tBM0, tUn, tSub, tPar, tPar3, gTup, gCons, gNil, tDrop, tMkS, tM1, sFld, StX.tStar, tYes, gSub, cxOf, Cx.wish, Cx.nox, Cx.blk]
    refine ⟨_, rfl, _, _, rfl, hdel Ext.rfl', fun Ga ea => ?_⟩
    refine (shw_bool _).rd (.bl _) rfl (by decide) (by decide) ⟨_, rfl, _, _, rfl, hdel ea, hsh, fun Gb eb => ?_⟩
    refine (shw_bool _).rd (.bl _) rfl (by decide) (by decide) ?_
    exact rNe_self ⟨_, rfl, k1 _ _ ⟨rfl, ea.trans eb⟩⟩
  refine if_f ec ?_
  -- what is due
  refine cut_tseq (fun σ G => ∃ u, σ = [some (.ref a), some (.ref q), some (.int (0 + (i : Nat))), some (.ref sl), some (.str (S (scriptText (scriptD ls)))), some v, some u, z7, z8, z9, z10, z11] ∧ Ext G5 G ∧ (isScript d = true → scriptOk d ∧ Valid (scriptText (dItems d)) ∧ u = .str (S (scriptText (dItems d)))) ∧ (isScript d = false → u = .ref L)) (fun D1 k1 => ?_) fun σ G6 ⟨u, eσ, e6, hu1, hu2⟩ => ?_
  · refine cut_if1 (fun c G => c = isScript d ∧ Ext G5 G) (fun Q1 k1 => ?_) fun cc G6 ⟨ec, e6⟩ => ?_
    · dsimp only [tRet, tRetN, tSeq, tAsg, tOp, tVar, tC, tCB, tCons, tNil, tAndV, tOrV, tNotV, tAnd, tOr, tNot, tTest, tIf, tIfS, tB, tChain, tSl, tPart, tNoPart, tLst, tTup, tFld, tCl, tMt, tMk, gName, tNext, tBM, tBM0, tUn, tSub, tPar, tPar3, gTup, gCons, gNil, tDrop, tMkS, tM1, sFld, StX.tStar, tYes, gSub, cxOf, Cx.wish, Cx.nox, Cx.blk]
      refine ⟨_, rfl, _, _, rfl, hdel e5, hsh, fun Ga ea => ⟨_, rfl, k1 _ _ ⟨rfl, ea⟩⟩⟩
    subst ec
    cases hsc : isScript d with
    | false => 
      refine if_f rfl ?_
      exact k1 _ _ ⟨_, rfl, e6, (fun z => by rw [hsc] at z; cases z), fun _ => rfl⟩
    | true =>
      refine if_t rfl ?_
      obtain ⟨g1, g2, g3, g4⟩ := good_script hg hsc
      have hsq : dSeq d = true := by
        unfold isScript at hsc
        exact (Bool.and_eq_true_iff.mp hsc).1
      obtain ⟨flg, va, xs, rfl, hx, hA⟩ := seq_of (hdel (e5.trans e6)) hsq
      refine script_rd (sep := " / ") (fl := flg) (a := va) (xs := xs) (ds := dItems d) (by decide +kernel) (fun Q hQ => hQ) rfl (by show 11 < 12; decide) (by show 8 < 12; decide) hx hA (fun e he => ?_) g3 fun H' e => k1 _ _ ⟨_, rfl, e6.trans e, (fun _ => ⟨g1, g4, rfl⟩), fun z => by rw [hsc] at z; cases z⟩
      exact ⟨(g2 e he).1, (g2 e he).2.1, fun x hx => ((g2 e he).2.2 x hx).1⟩
  subst eσ
  have hT6 := (hT4.ext e5).ext e6
  have hd6 := (hd4.ext e5).ext e6
  have hq6 := (hq4.ext e5).ext e6
  have hL6 := e6 _ _ (e5 _ _ hL)
  have hv6 : ∀ {G}, LamX.ExtN G6 G → Vd K G v d := fun e => vd_extN e (hdel (e5.trans e6))
  refine cut_ifn (fun c G => c = false ∧ LamX.ExtN G6 G ∧ LamX.Tabs [(P, lamQ)] G) (fun Q1 k1 => ?_) fun cc G7 ⟨ec, e7, hT7⟩ => ?_
  · refine ⟨hT6, fun Ga ea hTa E' Q' Gb eb hE hQ => ?_⟩
    have eb' := ea.trans (LamX.ExtN.of eb)
    refine ⟨v, rfl, v, d, rfl, hv6 eb', fun hsc => ?_, fun hsc => ?_⟩
    · obtain ⟨u1, u2, u3⟩ := hu1 hsc
      refine ⟨u1, fun Gc ec => hQ _ _ ⟨u, rfl, ?_⟩⟩
      rw [u3]
      refine ⟨_, _, .str _, .str _, str_shaped u2, str_shaped u2, _, rfl, k1 _ _ ⟨by rw [eqv_str]; simp, eb'.trans (LamX.ExtN.of ec), (hTa.ext eb).ext ec⟩⟩
    · refine fun dd Gc ec hdd => hE _ _ _ ⟨dd, .str "script", rfl, .inr ⟨rfl, hdd, fun r Gd ed hr => ⟨u, rfl, ?_⟩⟩⟩
      rw [hu2 hsc]
      have hLd := ed _ _ (ec _ _ (eb' _ _ hL6 fun ps z => by cases z))
      refine ⟨.list [.str "script", .str "script"], .list [.str "script", .str "script"], .lst (SqL.of hr) (.cons (.str _) (.cons (.str _) .nil)), .lst (SqL.of hLd) (.cons (.str _) (.cons (.str _) .nil)), by decide +kernel, by decide +kernel, _, rfl, k1 _ _ ⟨by decide +kernel, (eb'.trans (LamX.ExtN.of ec)).trans (LamX.ExtN.of ed), ((hTa.ext eb).ext ec).ext ed⟩⟩
  refine if_f ec ?_
  have hd7 := hd6.extN e7
  have hq7 := qat_extN e7 hq6
  -- the bent text
  refine cut_asg (fun v G => ∃ dt, Dp K (del G q) v dt ∧ SeqAt.shaped dt = true ∧ (∀ a, dt = .str (S a) → a.length ≤ 200000 ∧ Valid a) ∧ ExtP q G7 G ∧ QAt K G q c0 ns (b + 60)) (fun Q1 k1 => ?_) fun vt G8 ⟨dt, hvt, hsht, hstr, e8, hq8⟩ => ?_
  · dsimp only [tRet, tRetN, tSeq, tAsg, tOp, tVar, tC, tCB, tCons, tNil, tAndV, tOrV, tNotV, tAnd, tOr, tNot, tTest, tIf, tIfS, tB, tChain, tSl, tPart, tNoPart, tLst, tTup, tFld, tCl, tMt, tMk, gName, tNext, tBM, tBM0, tUn, tSub, tPar, tPar3, gTup, gCons, gNil, tDrop, tMkS, tM1, sFld, StX.tStar, tYes, gSub, cxOf, Cx.wish, Cx.nox, Cx.blk]
    exact ⟨_, rfl, _, rfl, q, c0, ns, b + 50, sl, srs, ls, rfl, hq7, by omega, hd7.at_, hd7.nq, hd7.len, by omega, hd7.row, hd7.ok, fun v d H' h1 h2 h3 h4 h5 => k1 _ _ ⟨d, h1, h2, h3, h4, h5⟩⟩
  have hT8 := tabs_extP hT7 e8 hq7.here
  have hdt : ∀ {G}, LamX.ExtN G8 G → Dp K G vt dt := fun e => dp_extN e (Dp.ext (fun bb o h => by
    by_cases c : bb = q
    · rw [c, del_same] at h
      cases h
    · rw [del_ne c] at h
      exact h) hvt)
  refine cut_tseq (fun σ G => ∃ it R, σ = [some (.ref a), some (.ref q), some (.int (0 + (i : Nat))), some (.ref sl), some (.str (S (scriptText (scriptD ls)))), some v, some u, some vt, some it, some (.ref R), z10, z11] ∧ Ext G8 G ∧ (∀ l k, resT dt = (some l, k) → it = .non ∧ Dp K G (.ref R) (.list (l.map stepD))) ∧ (∀ k, resT dt = (none, k) → it = .int (k : Nat))) (fun D1 k1 => ?_) fun σ G9 ⟨it, R, eσ, e9, hi1, hi2⟩ => ?_
  · dsimp only [tRet, tRetN, tSeq, tAsg, tOp, tVar, tC, tCB, tCons, tNil, tAndV, tOrV, tNotV, tAnd, tOr, tNot, tTest, tIf, tIfS, tB, tChain, tSl, tPart, tNoPart, tLst, tTup, tFld, tCl, tMt, tMk, gName, tNext, tBM, tBM0, tUn, tSub, tPar, tPar3, gTup, gCons, gNil, tDrop, tMkS, tM1, sFld, StX.tStar, tYes, gSub, cxOf, Cx.wish, Cx.nox, Cx.blk]
    refine ⟨_, rfl, isi_rd (Vd.of (hdt (LamX.ExtN.refl _))) (kit_str dt) ⟨_, rfl, ?_⟩⟩
    cases hds : dStr dt with
    | false =>
      have hr0 : resT dt = (none, 0) := by
        cases dt with
        | str x => cases hds
        | _ => rfl
      refine if_t rfl ⟨Nat.zero_le _, fun p hp => ⟨(by show 2 ≤ sizeLine; decide), fun p1 hp1 => ⟨p1, _, rfl, SqT.of upd_same, rfl, _, _, rfl, _, _, rfl, rfl, k1 _ _ ⟨.int 0, p, rfl, (Ext.upd hp).trans (Ext.upd hp1), fun l k z => ?_, fun k z => ?_⟩⟩⟩⟩
      · rw [hr0] at z
        cases z
      · rw [hr0] at z
        cases z
        rfl
    | true =>
      refine if_f rfl ?_
      cases dt with
      | str x =>
        obtain ⟨a', rfl⟩ : ∃ a', x = S a' := ⟨_, S_of x⟩
        have evt := Dp.strV hvt
        subst evt
        have hr1 : resT (.str (S a')) = readT a' := by
          show readT (S a').cps.toList = _
          rw [S_cps]
        obtain ⟨hla, hva⟩ := hstr a' rfl
        refine ⟨_, rfl, rEq_S (b := []) (by decide +kernel) ⟨_, rfl, ?_⟩⟩
        refine ite2 (fun z => ?_) fun z => ?_
        · have z := of_decide_eq_true z
          subst z
          have hr2 : readT [] = (some [], 0) := rfl
          refine ⟨Nat.zero_le _, fun p hp => ⟨(by show 2 ≤ sizeLine; decide), fun p1 hp1 => ⟨p1, _, rfl, SqT.of upd_same, rfl, _, _, rfl, _, _, rfl, rfl, k1 _ _ ⟨.non, p, rfl, (Ext.upd hp).trans (Ext.upd hp1), fun l k z => ?_, fun k z => ?_⟩⟩⟩⟩
          · rw [hr1, hr2] at z
            cases z
            exact ⟨rfl, .lst (SqL.of (Ext.upd hp1 _ _ upd_same)) .nil⟩
          · rw [hr1, hr2] at z
            cases z
        · have z : a' ≠ [] := by simpa using z
          have hr2 : readT a' = readW (splitW a') := by rw [readT, if_neg z]
          refine ⟨_, rfl, a', rfl, Nat.le_trans (Nat.add_le_add_right hla 2) (by decide), hva, fun y H' e hy => ?_⟩
          rw [← hr2] at hy
          rcases er : readT a' with ⟨r, k⟩
          rw [er] at hy
          cases r with
          | none =>
            obtain ⟨ta, xs, rfl, hta, hA⟩ := Dp.tupV hy
            cases hA with
            | cons y1 hA =>
              cases hA with
              | cons y2 hA =>
                cases hA
                have := Dp.intV y1
                subst this
                obtain ⟨R, xs, rfl, hR, _⟩ := Dp.lstV y2
                refine ⟨ta, _, rfl, hta, rfl, _, _, rfl, _, _, rfl, rfl, k1 _ _ ⟨_, R, rfl, e, fun l k' z => ?_, fun k' z => ?_⟩⟩
                · rw [hr1, er] at z
                  cases z
                · rw [hr1, er] at z
                  cases z
                  rfl
          | some l =>
            obtain ⟨ta, xs, rfl, hta, hA⟩ := Dp.tupV hy
            cases hA with
            | cons y1 hA =>
              cases hA with
              | cons y2 hA =>
                cases hA
                have := Dp.nonV y1
                subst this
                obtain ⟨R, xs, rfl, hR, hAR⟩ := Dp.lstV y2
                refine ⟨ta, _, rfl, hta, rfl, _, _, rfl, _, _, rfl, rfl, k1 _ _ ⟨_, R, rfl, e, fun l k' z => ?_, fun k' z => ?_⟩⟩
                · rw [hr1, er] at z
                  cases z
                  exact ⟨rfl, y2⟩
                · rw [hr1, er] at z
                  cases z
      | _ => cases hds
  subst eσ
  have hres := resT_R hstr
  have hT9 := hT8.ext e9
  refine cut_if1 (fun c G => c = false ∧ LamX.ExtN G9 G ∧ LamX.Tabs [(P, lamQ)] G) (fun Q1 k1 => ?_) fun cc Ga ⟨ec, ea, hTa⟩ => ?_
  · refine ⟨hT9, fun Gb eb hTb E' Q' Gc ec hE hQ => ?_⟩
    have ec' := eb.trans (LamX.ExtN.of ec)
    rcases er : resT dt with ⟨r, k⟩
    rw [er] at hres
    obtain ⟨hk, hR⟩ := hres
    have hTc := hTb.ext ec
    have bad : ∀ (dd : Addr) (Gd : Hp), r = none → Ext Gc Gd → Gd dd = some (.xd [("item", .int (k : Nat))]) → E' (.ref (He.ga K "BadText")) (some dd) Gd := fun dd Gd hn ed hdd => hE _ _ _ ⟨dd, .int (k : Nat), rfl, .inl ⟨rfl, hdd, fun p Ge ee hp => by
      subst hn
      have hit := hi2 k er
      subst hit
      have eN := (ec'.trans (LamX.ExtN.of ed)).trans (LamX.ExtN.of ee)
      have shw := shw_text hk
      dsimp only [tRet, tRetN, tSeq, tAsg, tOp, tVar, tC, tCB, tCons, tNil, tAndV, tOrV, tNotV, tAnd, tOr, tNot, tTest, tIf, tIfS, tB, tChain, tSl, tPart, tNoPart, tLst, tTup, tFld, tCl, tMt, tMk, gName, tNext, tBM, tBM0, tUn, tSub, tPar, tPar3, gTup, gCons, gNil, tDrop, tMkS, tM1, sFld, StX.tStar, tYes, gSub, cxOf, Cx.wish, Cx.nox, Cx.blk]
      refine shw.rd (.lst (SqL.of hp) (.cons (.str _) (.cons (.int _) .nil))) rfl (by decide) (by decide) ?_
      refine ⟨_, rfl, rfl, _, rfl, if_f (by simp) ⟨_, rfl, (by show 2 ≤ sizeLine; decide), fun t ht => ?_⟩⟩
      refine shw.rd (.lst (SqL.of upd_same) (.cons (.str _) (.cons (.int _) .nil))) rfl (by decide) (by decide) ?_
      exact rNe_self ⟨_, rfl, k1 _ _ ⟨rfl, eN.trans (LamX.ExtN.of (Ext.upd ht)), ((hTc.ext ed).ext ee).ext (Ext.upd ht)⟩⟩⟩⟩
    refine ⟨vt, rfl, vt, dt, rfl, hdt ((LamX.ExtN.of e9).trans ec'), hsht, fun a' z => ?_, fun z dd Gd ed hdd => ?_⟩
    · subst z
      have hr1 : resT (.str (S a')) = readT a' := by
        show readT (S a').cps.toList = _
        rw [S_cps]
      obtain ⟨hla, hva⟩ := hstr a' rfl
      rw [hr1] at er
      refine ⟨Nat.le_trans (Nat.add_le_add_right hla 2) (by decide), fun l hl y Gd ed hy => hQ _ _ ?_, fun hn dd Gd ed hdd => ?_⟩
      · rw [er] at hl
        cases hl
        obtain ⟨hit, hRl⟩ := hi1 l k (by rw [hr1]; exact er)
        subst hit
        obtain ⟨hl4, hlR⟩ := hR l rfl
        have shw := shw_steps hlR hl4
        have eN := ec'.trans (LamX.ExtN.of ed)
        dsimp only [tRet, tRetN, tSeq, tAsg, tOp, tVar, tC, tCB, tCons, tNil, tAndV, tOrV, tNotV, tAnd, tOr, tNot, tTest, tIf, tIfS, tB, tChain, tSl, tPart, tNoPart, tLst, tTup, tFld, tCl, tMt, tMk, gName, tNext, tBM, tBM0, tUn, tSub, tPar, tPar3, gTup, gCons, gNil, tDrop, tMkS, tM1, sFld, StX.tStar, tYes, gSub, cxOf, Cx.wish, Cx.nox, Cx.blk]
        refine shw.rd hy rfl (by decide) (by decide) ?_
        obtain ⟨R', xs, eR, hRs, hA⟩ := Dp.lstV (dp_extN eN hRl)
        cases eR
        refine ⟨_, rfl, rfl, _, rfl, if_t rfl ⟨_, rfl, R, xs, rfl, .inl ⟨hRs, fun t ht => ?_⟩⟩⟩
        refine shw.rd (.tup (SqT.of upd_same) (DpAll.ext (Ext.upd ht) hA)) rfl (by decide) (by decide) ?_
        exact rNe_self ⟨_, rfl, k1 _ _ ⟨rfl, eN.trans (LamX.ExtN.of (Ext.upd ht)), (hTc.ext ed).ext (Ext.upd ht)⟩⟩
      · rw [er] at hn hdd
        exact bad dd Gd hn ed hdd
    · have hr0 : resT dt = (none, 0) := by
        cases dt with
        | str x => cases z
        | _ => rfl
      rw [hr0] at er
      cases er
      exact bad dd Gd rfl ed hdd
  refine if_f ec ?_
  exact ⟨⟨_, _, _, _, _, _, _, _, _, _, rfl⟩, ⟨b + 60, by omega, qat_extN ea (hq8.ext e9)⟩, hTa⟩
end
end K80

end
section
/-! Ow14: what a head tells: own exception classes whose __init__ holds __class__, data, one def's empty table. -/
namespace Ow
open PySem L2
open PySem.Spec PyProof.Rows
/-! ### an own exception class -/
structure ExD where
  x : Str
  qual : Str
  st : Stmt
  fld : Str
abbrev FnC : Type := Option (Str × Str × Arguments × FuncBody × Scope × Addr × Addr)
def iniAd (K : W.Frag) (x : Str) : Addr := He.ma K (He.ga K x) "__init__"
def fnC (K : W.Frag) (x : Str) : FnC := match K.lookup (iniAd K x) with
  | some ⟨_, _, .func fd, _⟩ => some (fd.name, fd.qualname, fd.params, fd.body, fd.scope, fd.globals, fd.builtins)
  | _ => none
def ExD.val (d : ExD) : FnC := some ("__init__", d.qual, defArgs d.st, .stmts (defBody d.st), defScope d.st, mainGlobals, builtinsNs)
def cellB (K : W.Frag) (cc C : Addr) : Bool := match K.lookup cc with
  | some ⟨_, _, .cell (some (.ref D)), _⟩ => decide (D = C)
  | _ => false
def fileB (K : W.Frag) (cda : Addr) (file : Str) : Bool := match K.lookup cda with
  | some ⟨_, _, .fields vs, _⟩ => (match (vs[2]? : Option Value) with
    | some (.str f _) => decide (f = file)
    | _ => false)
  | _ => false
def cloB (K : W.Frag) (C : Addr) : List (Str × Addr) → Bool
  | [(y, cc)] => decide (y = "__class__") && cellB K cc C
  | _ => false
def noneB : Value → Bool
  | .none => true
  | _ => false
def codB (K : W.Frag) (qual file : Str) : Value → Bool
  | .ref cda => W.codeIn K (.ref cda) qual && fileB K cda file
  | _ => false
def supB (file : Str) (K : W.Frag) (d : ExD) : Bool := match K.lookup (iniAd K d.x) with
  | some ⟨_, _, .func fd, _⟩ => cloB K (He.ga K d.x) fd.closure && (noneB fd.defaults && codB K d.qual file fd.code)
  | _ => false
theorem cellB_ok {K : W.Frag} {cc C : Addr} (h : cellB K cc C = true) : ∃ (cl : Value) (cld : Option Addr) (csl : Array (Option Value)), K.lookup cc = some ⟨cl, cld, .cell (some (.ref C)), csl⟩ := by
  unfold cellB at h
  split at h
  · rename_i e
    rw [e, of_decide_eq_true h]
    exact ⟨_, _, _, rfl⟩
  · cases h
theorem fileB_ok {K : W.Frag} {cda : Addr} {file : Str} (h : fileB K cda file = true) : ∃ (ccl : Value) (cdd : Option Addr) (ccs : Array (Option Value)) (vs : Array Value) (tf : Tok), K.lookup cda = some ⟨ccl, cdd, .fields vs, ccs⟩ ∧ vs[2]? = some (.str file tf) := by
  unfold fileB at h
  split at h
  · rename_i e
    split at h
    · rename_i e2
      rw [of_decide_eq_true h] at e2
      exact ⟨_, _, _, _, _, e, e2⟩
    · cases h
  · cases h
theorem supB_ok {P : Program} {K : W.Frag} {d : ExD} (e : fnC K d.x = d.val) (h : supB P.main.file K d = true) (h1 : W.nsIn K cStatics "thirdparty.any" = some none) (h2 : W.ks_superIn K (He.ga K d.x) (He.ga K d.x) "__init__" = some (some (.builtin "ValueError.__init__"))) (h3 : W.nsIn K mainGlobals "super" = some none) :
    ∃ (fd : FuncData) (cc cda : Addr), SupInit P K (He.ga K d.x) d.qual (defArgs d.st) (defBody d.st) (defScope d.st) (iniAd K d.x) fd cc cda := by
  unfold supB at h
  unfold fnC at e
  split at h
  · rename_i oc od fd osl q
    rw [q] at e
    obtain ⟨n1, n2, n3, n4, n5, n6, n7, n8, n9, n10, n11, n12, n13, n14, n15⟩ := fd
    have e2 : (some (n1, n2, n3, n4, n5, n6, n15) : FnC) = d.val := e
    unfold ExD.val at e2
    simp only [Option.some.injEq, Prod.mk.injEq] at e2
    obtain ⟨rfl, rfl, rfl, rfl, rfl, rfl, rfl⟩ := e2
    simp only [Bool.and_eq_true] at h
    obtain ⟨g1, g2, g3⟩ := h
    obtain ⟨y, cc, rfl, rfl, g4⟩ : ∃ y cc, n7 = [(y, cc)] ∧ y = "__class__" ∧ cellB K cc (He.ga K d.x) = true := by
      match n7, g1 with
      | [(y, cc)], g1 =>
        have g5 : (decide (y = "__class__") && cellB K cc (He.ga K d.x)) = true := g1
        rw [Bool.and_eq_true] at g5
        exact ⟨y, cc, rfl, of_decide_eq_true g5.1, g5.2⟩
    have g6 : n8 = .none := by
      cases n8 with
      | none => rfl
      | _ => cases g2
    subst g6
    obtain ⟨cda, rfl, g7, g8⟩ : ∃ cda, n13 = .ref cda ∧ W.codeIn K (.ref cda) d.qual = true ∧ fileB K cda P.main.file = true := by
      cases n13 with
      | ref cda =>
        have g9 : (W.codeIn K (.ref cda) d.qual && fileB K cda P.main.file) = true := g3
        rw [Bool.and_eq_true] at g9
        exact ⟨cda, rfl, g9.1, g9.2⟩
      | _ => cases g3
    exact ⟨_, cc, cda, ⟨⟨oc, od, osl, _, _, _, _, _, rfl, q⟩, g7, fileB_ok g8, cellB_ok g4, h1, h2, h3⟩⟩
  · cases h
def oexB (K : W.Frag) (C : Addr) : Bool := match K.lookup C with
  | some ⟨.type t, _, .cls cd, sl⟩ => decide (t = "type") && (cd.hasDict && (!cd.hasDel && ((match cd.mro with
    | .ref C' :: bm => decide (C' = C) && HandSPX.refsVE bm
    | _ => false) && (match sl.toList with
    | [_, _, _, _, some (.builtin n), _] => decide (n = "ValueError.__new__")
    | _ => false))))
  | _ => false
theorem oexB_ok {K : W.Frag} {C : Addr} (h : oexB K C = true) : ∃ nm q N bs bm sn sub ab col dd k0 k1 k2 k3 k5, K.lookup C = some (excClassObj nm q C N bs bm true sn sub ab col dd k0 k1 k2 k3 k5 "ValueError.__new__") ∧ HandSPX.refsVE bm = true := by
  unfold oexB at h
  split at h
  · rename_i t dd cd sl q
    simp only [Bool.and_eq_true] at h
    obtain ⟨h1, h2, h3, h4, h5⟩ := h
    obtain ⟨c1, c2, c3, c4, c5, c6, c7, c8, c9, c10, c11⟩ := cd
    split at h4
    · rename_i C' bm em
      have em : c3 = .ref C' :: bm := em
      subst em
      rw [Bool.and_eq_true] at h4
      have := of_decide_eq_true h4.1
      subst this
      split at h5
      · rename_i k0 k1 k2 k3 n k5 es
        have := of_decide_eq_true h5
        subst this
        have e1 := of_decide_eq_true h1
        subst e1
        have e2 : c6 = true := h2
        subst e2
        have e3 : c11 = false := by simpa using h3
        subst e3
        have e4 : sl = #[k0, k1, k2, k3, some (.builtin "ValueError.__new__"), k5] := by
          apply Array.toList_inj.mp
          rw [es]
        subst e4
        exact ⟨_, _, _, _, _, _, _, _, _, _, _, _, _, _, _, q, h4.2⟩
      · cases h5
    · cases h4
  · cases h
def decV (a b : Option (Option Value)) : Bool := decide (a = b)
/-- all of such a class -/
def errB (file : Str) (K : W.Frag) (d : ExD) : Bool :=
  decV (W.nsIn K mainGlobals d.x) (some (some (.ref (He.ga K d.x)))) && (oexB K (He.ga K d.x) && (decV (W.findIn K (.ref (He.ga K d.x)) "__setattr__") (some (some (.builtin "object.__setattr__"))) && (decide (W.subIn K (.ref (He.ga K d.x)) (.type "BaseException") = some true) && (decide (W.typeIn K (.ref (He.ga K d.x)) = some (.type "type")) && (W.keepIn K (.ref (He.ga K d.x)) &&
  (decV (W.findIn K (.ref (He.ga K d.x)) d.fld) (some none) && (decV (W.findIn K (.ref (He.ga K d.x)) "__init__") (some (some (.ref (iniAd K d.x)))) && (decide (W.typeIn K (.ref (iniAd K d.x)) = some (.type "function")) && (supB file K d && (decV (W.nsIn K cStatics "thirdparty.any") (some none) &&
  (decV (W.ks_superIn K (He.ga K d.x) (He.ga K d.x) "__init__") (some (some (.builtin "ValueError.__init__"))) && decV (W.nsIn K mainGlobals "super") (some none))))))))))))
theorem errB_ok {P : Program} {K : W.Frag} {h : Heap} {mg : Str → Option Value} {d : ExD} (X : K.In h) (G : h.Ns mainGlobals mg) (e : fnC K d.x = d.val) (b : errB P.main.file K d = true) : ErrD P K mg d.x d.qual d.st d.fld := by
  unfold errB at b
  simp only [Bool.and_eq_true, decV, decide_eq_true_eq] at b
  obtain ⟨b1, b2, b3, b4, b5, b6, b7, b8, b9, b10, b11, b12, b13⟩ := b
  exact ⟨W.mg_of X G b1, ⟨oexB_ok b2, b3, b4, b5, b6⟩, b7, b8, b9, supB_ok e b10 b11 b12 b13⟩
/-- what its caught instances ask of it -/
def heldB (K : W.Frag) (C : Addr) : Bool := (W.clsIn K C).isSome && (decV (W.findIn K (.ref C) "__getattribute__") (some (some (.builtin "BaseException.__getattribute__"))) && (decV (W.findIn K (.ref C) "__getattr__") (some none) && (decide (W.subIn K (.ref C) (.type "BaseException") = some true) && (W.hasDictIn K C &&
  (decV (W.findIn K (.ref C) "__class__") (some (some (.builtin "object.__class__"))) && (decV (W.specialIn K (.builtin "object.__class__") "__get__") (some (some (.builtin "getset_descriptor.__get__"))) && (decide (W.takesIn K (.builtin "object.__class__") = some true) && decide (W.mroIn K C (.type "object") = some true))))))))
theorem heldB_ok {K : W.Frag} {C : Addr} (b : heldB K C = true) : HeldC K C := by
  unfold heldB at b
  simp only [Bool.and_eq_true, decV, decide_eq_true_eq] at b
  obtain ⟨b1, b2, b3, b4, b5, b6, b7, b8, b9⟩ := b
  exact ⟨b1, b2, b3, b4, b5, b6, b7, b8, b9⟩
/-! ### constant data -/
mutual
def datB (K : W.Frag) : PyData → Value → Bool
  | .none, .none => true
  | .bool b, .bool c => b == c
  | .int i, .int j _ => decide (i = j)
  | .str x, .str y _ => decide (x = y)
  | .tuple ds, .ref a => (match K.lookup a with
    | some ⟨.type c, _, .seq its _, _⟩ => decide (c = "tuple") && (decide (its.size ≤ sizeLine) && datsB K ds its.toList)
    | _ => false)
  | _, _ => false
def datsB (K : W.Frag) : List PyData → List Value → Bool
  | [], [] => true
  | d :: ds, u :: us => datB K d u && datsB K ds us
  | _, _ => false
end
mutual
theorem datB_ok {K : W.Frag} {H : Hp} : ∀ {d : PyData} {u : Value}, datB K d u = true → ∃ v, RelV v u ∧ Dp K H v d
  | .none, u, h => by
    cases u with
    | none => exact ⟨.non, rfl, .non⟩
    | _ => simp [datB] at h
  | .bool b, u, h => by
    cases u with
    | bool c =>
      simp only [datB, beq_iff_eq] at h
      subst h
      exact ⟨.bl b, rfl, .bl b⟩
    | _ => simp [datB] at h
  | .int i, u, h => by
    cases u with
    | int j t =>
      simp only [datB, decide_eq_true_eq] at h
      subst h
      exact ⟨.int i, ⟨t, rfl⟩, .int i⟩
    | _ => simp [datB] at h
  | .str x, u, h => by
    cases u with
    | str y t =>
      simp only [datB, decide_eq_true_eq] at h
      subst h
      exact ⟨.str x, ⟨t, rfl⟩, .str x⟩
    | _ => simp [datB] at h
  | .list ds, u, h => by cases u <;> simp [datB] at h
  | .dict ds, u, h => by cases u <;> simp [datB] at h
  | .tuple ds, u, h => by
    cases u with
    | ref a =>
      rw [datB] at h
      split at h
      · rename_i c od its n sl q
        simp only [Bool.and_eq_true, decide_eq_true_eq] at h
        obtain ⟨h1, h2, h3⟩ := h
        obtain ⟨vs, r, A⟩ := datsB_ok (H := H) h3
        exact ⟨.ref a, rfl, .tup (.inr ⟨_, its, n, q, congrArg Value.type h1, rfl, h2, r⟩) A⟩
      · cases h
    | _ => simp [datB] at h
theorem datsB_ok {K : W.Frag} {H : Hp} : ∀ {ds : List PyData} {us : List Value}, datsB K ds us = true → ∃ vs, Vals vs us ∧ DpAll K H vs ds
  | [], [], _ => ⟨[], .nil, .nil⟩
  | [], _ :: _, h => by simp [datsB] at h
  | _ :: _, [], h => by simp [datsB] at h
  | d :: ds, u :: us, h => by
    rw [datsB, Bool.and_eq_true] at h
    obtain ⟨v, r1, A1⟩ := datB_ok (H := H) h.1
    obtain ⟨vs, r2, A2⟩ := datsB_ok (H := H) h.2
    exact ⟨v :: vs, .cons r1 r2, .cons A1 A2⟩
end
/-! ### the Hook -/
structure SaysY (fa : List He.Fa) (fn : List He.DefD) (xs : List ExD) (p : He.Defn) (ex : W.Frag → Bool) (h : Heap) (K : W.Frag) : Prop where
  d : He.SaysD fa fn K
  x : ∀ e ∈ xs, fnC K e.x = e.val
  more : ex K = true
  hd : W.codeHdIn K (He.cT K p).1 (He.cT K p).2 = true
  tab : h.get? (He.cT K p).2 = some { cls := .none, data := .fields #[] }
  out : K.lookup (He.cT K p).2 = none
abbrev AlY : Type := He.AlD × List FnC × Bool
/-- K: what the module's names reach in n steps, the machine's own names -/
def kOf (n : Nat) (g : Addr → Option Obj) : W.Frag := He.frT g (He.asD g n ++ [cStatics])
def tabB (g : Addr → Option Obj) (p : He.Defn) (K : W.Frag) : Bool := W.codeHdIn K (He.cT K p).1 (He.cT K p).2 && (match g (He.cT K p).2 with
  | some o => He.emptyTab o
  | none => false)
def obsK (fa : List He.Fa) (fn : List He.DefD) (xs : List ExD) (p : He.Defn) (ex : W.Frag → Bool) (g : Addr → Option Obj) (K : W.Frag) : AlY := (He.obsD fa fn K, xs.map fun e => fnC K e.x, ex K && tabB g p K)
def obsY (n : Nat) (fa : List He.Fa) (fn : List He.DefD) (xs : List ExD) (p : He.Defn) (ex : W.Frag → Bool) (g : Addr → Option Obj) : AlY := obsK fa fn xs p ex g (kOf n g)
def valY (fn : List He.DefD) (xs : List ExD) : AlY := (He.valD fn, xs.map ExD.val, true)
theorem saysY_of {n : Nat} {fa : List He.Fa} {fn : List He.DefD} {xs : List ExD} {p : He.Defn} {ex : W.Frag → Bool} {h : Heap} (e : obsY n fa fn xs p ex h.get? = valY fn xs) : SaysY fa fn xs p ex h (kOf n h.get?) := by
  have e1 : He.obsD fa fn (kOf n h.get?) = He.valD fn := congrArg Prod.fst e
  have e2 : xs.map (fun e => fnC (kOf n h.get?) e.x) = xs.map ExD.val := congrArg (fun z : AlY => z.2.1) e
  have e3 : (ex (kOf n h.get?) && tabB h.get? p (kOf n h.get?)) = true := congrArg (fun z : AlY => z.2.2) e
  rw [Bool.and_eq_true] at e3
  obtain ⟨c1, c2⟩ := e3
  unfold tabB at c2
  rw [Bool.and_eq_true] at c2
  obtain ⟨c3, c4⟩ := c2
  cases q : h.get? (He.cT (kOf n h.get?) p).2 with
  | none =>
    rw [q] at c4
    cases c4
  | some o =>
    rw [q] at c4
    refine ⟨e1, fun d hd => ?_, c1, c3, by rw [q, He.emptyTab_eq c4], He.frT_none q c4⟩
    exact List.map_inj_left.mp e2 d hd
def hookY (n : Nat) (fa : List He.Fa) (fn : List He.DefD) (xs : List ExD) (p : He.Defn) (ex : W.Frag → Bool) : W.Hook where
  α := AlY
  obs := fun s => obsY n fa fn xs p ex s.heap.get?
  val := fun _ => valY fn xs
  says := fun _ h => ∃ K : W.Frag, K.In h ∧ SaysY fa fn xs p ex h K
  of := fun _ _ e => ⟨_, He.frT_in, saysY_of e⟩
  keeps := fun _ _ _ ⟨K, hK, c⟩ k => ⟨K, W.Frag.In.keeps hK k, c.d, c.x, c.more, c.hd, k _ _ c.tab, c.out⟩
theorem obsY_eq {n : Nat} {fa : List He.Fa} {fn : List He.DefD} {xs : List ExD} {p : He.Defn} {ex : W.Frag → Bool} {g : Addr → Option Obj} {s : Shared} (h : ∀ a, g a = s.heap.get? a) : obsY n fa fn xs p ex g = (hookY n fa fn xs p ex).obs s := by
  have hg : g = s.heap.get? := funext h
  subst hg
  rfl
end Ow

end
section
/-! Ow15: the end of a law that is walked at the caller's own place alone (its guards are known there); defs by facts. -/
namespace Ow
open PySem L2
open PySem.Spec PyProof.Rows
abbrev tab0 : Obj := { cls := .none, data := .fields #[] }
abbrev lstO (vs : List Value) : Obj := { cls := .type "list", data := .seq vs.toArray }
/-- what is tracked at the law's entry: the table at T, the script at a if o tells it -/
def trk0 (T a : Addr) (o : Option HO) : Hp := fun b => if b = T then some (.tbl #[]) else if b = a then o else none
abbrev LawEnd (s₁ : Shared) : Result → Shared → Prop := fun r s' => r = .ok (.ret (.bool true)) ∧ OldK s₁.heap s'.heap ∧ s'.os = s₁.os ∧ AllBare s'.gens
theorem law_endC {P : Program} {w : World} {c T a : Addr} {o : Option HO} {s₁ : Shared} {r : Result} {s' : Shared} (C : W.CodeHd s₁.heap c T) (hT : s₁.heap.get? T = some tab0) (ho : ∀ u, o = some u → ∃ ob xs, u = .frz ob xs ∧ s₁.heap.get? a = some ob)
    (hok : HOk P w (trk0 T a o) s₁.heap) (h : CR CX0 [] P w (trk0 T a o) s₁ (fun v _ => v = .bl true) E0 r s') : LawEnd s₁ r s' := by
  have tT : trk0 T a o T = some (.tbl #[]) := if_pos rfl
  match r, h with
  | .error e, h => exact False.elim h
  | .ok .next, h => exact False.elim h
  | .ok .brk, h => exact False.elim h
  | .ok .cont, h => exact False.elim h
  | .ok (.ret u), h =>
    obtain ⟨v, G, eos, hb, un, hG, rv, ev⟩ := h
    have ev : v = .bl true := ev
    subst ev
    have eu : u = Value.bool true := rv
    subst eu
    obtain ⟨more, hm⟩ := un.tbls T #[] tT
    have hm2 : s'.heap.get? T = some { cls := .none, data := .fields (#[] ++ more) } := hG T _ hm
    have stays : ∀ b x, b ≠ T → s₁.heap.get? b = some x → s'.heap.get? b = some x := fun b x hb2 e => by
      have et : trk0 T a o b = if b = a then o else none := if_neg hb2
      by_cases hba : b = a
      · cases eo : o with
        | none => exact un.keep b x e (by rw [et, if_pos hba, eo]) (by simp [frs]) (by simp)
        | some y =>
          obtain ⟨ob, xs, ey, ea⟩ := ho y eo
          have e1 : trk0 T a o b = some (.frz ob xs) := by rw [et, if_pos hba, eo, ey]
          obtain ⟨q1, _⟩ := hok b _ e1
          obtain ⟨q2, _⟩ := hG b _ (un.frzs b ob xs e1)
          rw [e] at q1
          cases q1
          exact q2
      · exact un.keep b x e (by rw [et, if_neg hba]) (by simp [frs]) (by simp)
    refine ⟨rfl, ⟨fun b x e => ?_, fun b x e => ?_⟩, eos, hb⟩
    · by_cases hb2 : b = T
      · subst hb2
        rw [hT] at e
        cases e
        exact .inr (.inl ⟨(C.tab hT).isCodeTable, rfl, #[], more, rfl, hm2⟩)
      · exact .inl (stays b x hb2 e)
    · by_cases hb2 : b = T
      · subst hb2
        exact ⟨_, hm2⟩
      · exact ⟨x, stays b x hb2 e⟩
theorem law_callC {P : Program} {w : World} {K : W.Frag} {mg mb : Str → Option Value} {fa a c T : Addr} {s₁ : Shared} {vs : List Value} {ns : List Int}
    (KX : K.In s₁.heap) (hns : s₁.heap.Ns mainGlobals mg) (hb : s₁.heap.Ns builtinsNs mb) (hbb : ∀ x : Str, x ≠ "__name__" → mb x = bootBuiltins x) (hlim : s₁.heap.NoLimit) (hg : s₁.gens = #[])
    (hT : s₁.heap.get? T = some tab0) (nT : K.lookup T = none) (C : W.CodeHd s₁.heap c T)
    (hbm : ∃ (bm : Addr) (ob : Obj), mg "__builtins__" = some (.ref bm) ∧ bm ≠ builtinsNs ∧ s₁.heap.get? bm = some ob ∧ ob.cls = .type "module" ∧ ob.dict = some builtinsNs ∧ ob.data = .plain)
    (ha : s₁.heap.get? a = some (lstO vs)) (hi : IntsAre vs ns) (hl : ns.length ≤ sizeLine)
    (run : ∀ (base : Heap) (H : Hp), K.In base → LamX.TabB base mg c T → H T = some (.tbl #[]) → SqL K H a (ns.map V.int) → Env0 P w K mg base callerA [] s₁ H → codeAny (model P w) callerA (.call (.ref fa) ⟨[.ref a], []⟩) (CR CX0 [] P w H s₁ (fun v _ => v = .bl true) E0) s₁) :
    codeAny (model P w) callerA (.call (.ref fa) ⟨[.ref a], []⟩) (LawEnd s₁) s₁ := by
  have rv := vals_ints hi
  have hvl : vs.length ≤ sizeLine := by rw [hi.length]; exact hl
  have aT : a ≠ T := fun z => by
    rw [z, hT] at ha
    cases ha
  -- with o told of the script
  have main : ∀ o : Option HO, (∀ u, o = some u → K.lookup a = none ∧ u = .frz (lstO vs) (.lst (ns.map V.int))) → SqL K (trk0 T a o) a (ns.map V.int) → codeAny (model P w) callerA (.call (.ref fa) ⟨[.ref a], []⟩) (LawEnd s₁) s₁ := by
    intro o ho hS
    have tT : trk0 T a o T = some (.tbl #[]) := if_pos rfl
    have off : ∀ b x, s₁.heap.get? b = some x → x ≠ tab0 → x ≠ lstO vs → trk0 T a o b = none := fun b x e n1 n2 => by
      have c1 : b ≠ T := fun z => by
        rw [z, hT] at e
        exact n1 (Option.some.inj e).symm
      have c2 : b ≠ a := fun z => by
        rw [z, ha] at e
        exact n2 (Option.some.inj e).symm
      unfold trk0
      rw [if_neg c1, if_neg c2]
    have see : ∀ b x, s₁.heap.get? b = some x → x ≠ tab0 → x ≠ lstO vs → (hidT s₁.heap (trk0 T a o)).get? b = some x := fun b x e n1 n2 => hidT_get e (off b x e n1 n2)
    have ns2 : ∀ {b : Addr} {m : Str → Option Value}, s₁.heap.Ns b m → (hidT s₁.heap (trk0 T a o)).Ns b m := fun {b m} ⟨x, es, ep, e, d, q⟩ => ⟨x, es, ep, see b x e (fun z => by rw [z] at d; cases d) (fun z => by rw [z] at d; cases d), d, q⟩
    have kIn : K.In (hidT s₁.heap (trk0 T a o)) := fun b x e => hidT_get (KX b x e) (by
      have c1 : b ≠ T := fun z => by
        rw [z, nT] at e
        cases e
      unfold trk0
      rw [if_neg c1]
      by_cases c2 : b = a
      · rw [if_pos c2]
        cases eo : o with
        | none => rfl
        | some u =>
          have := (ho u eo).1
          rw [c2, this] at e
          cases e
      · rw [if_neg c2])
    have hm : L2.Mod K mg (hidT s₁.heap (trk0 T a o)) := ⟨kIn, ns2 hns, ⟨mb, ns2 hb, hbb⟩, let ⟨m, l1, l2⟩ := hlim; ⟨m, ns2 l1, l2⟩⟩
    have hok : HOk P w (trk0 T a o) s₁.heap := fun b u e => by
      unfold trk0 at e
      by_cases c1 : b = T
      · rw [if_pos c1] at e
        cases e
        rw [c1]
        exact hT
      · rw [if_neg c1] at e
        by_cases c2 : b = a
        · rw [if_pos c2] at e
          have z := (ho u e).2
          subst z
          rw [c2]
          exact ⟨ha, by rw [List.length_map]; exact hl, vs, _, rv, ha⟩
        · rw [if_neg c2] at e
          cases e
    have TB : LamX.TabB (hidT s₁.heap (trk0 T a o)) mg c T := by
      refine ⟨?_, ?_, fun z => ?_⟩
      · obtain ⟨x, us, file, tf, flags, tg, inF, text, tt, e1, r1, r2, r3, rest⟩ := C
        exact ⟨x, us, file, tf, flags, tg, inF, text, tt, see c x e1 (fun z => by rw [z] at r2; cases r2; simp at r3) (fun z => by rw [z] at r2; cases r2), r1, r2, r3, rest⟩
      · obtain ⟨bm, ob, b1, b2, b3, b4, b5, b6⟩ := hbm
        refine ⟨bm, ob, b1, b2, fun z => ?_, fun z => ?_, see bm ob b3 (fun z => by rw [z] at b6; cases b6) (fun z => by rw [z] at b6; cases b6), b4, b5, b6⟩
        · obtain ⟨x, es, ep, e, d, _⟩ := hns
          rw [z, e] at b3
          cases b3
          rw [d] at b6
          cases b6
        · rw [z, hT] at b3
          cases b3
          cases b6
      · obtain ⟨x, es, ep, e, d, _⟩ := hns
        rw [z, hT] at e
        cases e
        cases d
    have env : Env0 P w K mg (hidT s₁.heap (trk0 T a o)) callerA [] s₁ (trk0 T a o) := ⟨rfl, hm, fun b x e => of_hidT e, Nat.le_of_eq (hidT_size _ _), trivial, fun b z => absurd z (by simp [frs]), hok, .of_eq hg⟩
    refine codeAny_mono (run _ _ kIn TB tT hS env) fun r s' h => law_endC C hT (fun u e => ?_) hok h
    exact ⟨_, _, (ho u e).2, ha⟩
  cases q : K.lookup a with
  | none => exact main (some (.frz (lstO vs) (.lst (ns.map V.int)))) (fun u e => ⟨q, (Option.some.inj e).symm⟩) (.inl (.inr ⟨_, by unfold trk0; rw [if_neg aT, if_pos rfl]⟩))
  | some x =>
    have e := KX a x q
    rw [ha] at e
    cases e
    exact main none (fun u e => by cases e) (.inr ⟨_, vs.toArray, _, q, rfl, rfl, rfl, by simpa using hvl, by simpa using rv⟩)
/-! ### defs by facts -/
section
variable {K : W.Frag} {mg : Str → Option Value} {x m q : Str} {st : Stmt} {ps : List Str} {fd : FuncData} {f : Addr}
theorem dfn_of (F : FnQ K x x st f fd) (g : mg x = some (.ref f))
    (hb : ∀ (kV doc pm : Value) (an : Option Addr) (cdv ct : Value) (us : List Value), us.length = ps.length → bindArgs (W.fnOf x x (defArgs st) (defBody st) (defScope st) .none kV doc pm an cdv ct) ⟨us, []⟩ = pure (ps.zip us))
    (hk : ∀ p, ps = [p] → ∀ (kV doc pm : Value) (an : Option Addr) (cdv ct u : Value), bindArgs (W.fnOf x x (defArgs st) (defBody st) (defScope st) .none kV doc pm an cdv ct) ⟨[], [(p, u)]⟩ = pure [(p, u)]) : Dfn K mg x st ps := by
  refine ⟨f, fd, F, g, F.bindsN hb, fun p hp s u => ?_⟩
  obtain ⟨oc, od, dV, kV, doc, pm, an, cdv, ct, osl, rfl, lk, hcd, hD, hK⟩ := F.ex
  rcases hD with ⟨_, rfl⟩ | ⟨e, _⟩
  · exact .of_eq (hk p hp kV doc pm an cdv ct u)
  · exact absurd rfl e
end
end Ow

end
section
/-! K80p: the head's facts, its run. -/
namespace K80
open PySem PySem.Spec PyProof.Rows L2 Ow
def D0 : He.DefD := ⟨("is_integer", none), "is_integer", "is_integer", defArgs s_is_integer, defBody s_is_integer, defScope s_is_integer, [], []⟩
def D1 : He.DefD := ⟨("is_within", none), "is_within", "is_within", defArgs s_is_within, defBody s_is_within, defScope s_is_within, [], []⟩
def D2 : He.DefD := ⟨("number_in", none), "number_in", "number_in", defArgs s_number_in, defBody s_number_in, defScope s_number_in, [], []⟩
def D3 : He.DefD := ⟨("Scan", some "__init__"), "__init__", "Scan.__init__", defArgs s_Scan_init, defBody s_Scan_init, defScope s_Scan_init, [], []⟩
def D4 : He.DefD := ⟨("Scan", some "ahead"), "ahead", "Scan.ahead", defArgs s_Scan_ahead, defBody s_Scan_ahead, defScope s_Scan_ahead, [], []⟩
def D5 : He.DefD := ⟨("Scan", some "refuse"), "refuse", "Scan.refuse", defArgs s_Scan_refuse, defBody s_Scan_refuse, defScope s_Scan_refuse, [], []⟩
def D6 : He.DefD := ⟨("Scan", some "take_just"), "take_just", "Scan.take_just", defArgs s_Scan_take_just, defBody s_Scan_take_just, defScope s_Scan_take_just, [], []⟩
def D7 : He.DefD := ⟨("Scan", some "take_number"), "take_number", "Scan.take_number", defArgs s_Scan_take_number, defBody s_Scan_take_number, defScope s_Scan_take_number, [], []⟩
def D8 : He.DefD := ⟨("Scan", some "finish"), "finish", "Scan.finish", defArgs s_Scan_finish, defBody s_Scan_finish, defScope s_Scan_finish, [], []⟩
def D9 : He.DefD := ⟨("bounds_of", none), "bounds_of", "bounds_of", defArgs s_bounds_of, defBody s_bounds_of, defScope s_bounds_of, [], []⟩
def D10 : He.DefD := ⟨("is_step", none), "is_step", "is_step", defArgs s_is_step, defBody s_is_step, defScope s_is_step, [], []⟩
def D11 : He.DefD := ⟨("is_script", none), "is_script", "is_script", defArgs s_is_script, defBody s_is_script, defScope s_is_script, [], []⟩
def D12 : He.DefD := ⟨("script_text", none), "script_text", "script_text", defArgs s_script_text, defBody s_script_text, defScope s_script_text, [], []⟩
def D13 : He.DefD := ⟨("step_in", none), "step_in", "step_in", defArgs s_step_in, defBody s_step_in, defScope s_step_in, [], []⟩
def D14 : He.DefD := ⟨("read_script", none), "read_script", "read_script", defArgs s_read_script, defBody s_read_script, defScope s_read_script, [], []⟩
def D15 : He.DefD := ⟨("_law_quiver", none), "_law_quiver", "_law_quiver", defArgs s_law_quiver, defBody s_law_quiver, defScope s_law_quiver, [], []⟩
def D16 : He.DefD := ⟨("_law_shoot", none), "_law_shoot", "_law_shoot", defArgs s_law_shoot, defBody s_law_shoot, defScope s_law_shoot, [], []⟩
def D17 : He.DefD := ⟨("_law_pick", none), "_law_pick", "_law_pick", defArgs s_law_pick, defBody s_law_pick, defScope s_law_pick, [], []⟩
def D18 : He.DefD := ⟨("_law_bounds", none), "_law_bounds", "_law_bounds", defArgs s_law_bounds, defBody s_law_bounds, defScope s_law_bounds, [], []⟩
def D19 : He.DefD := ⟨("_law_is_step", none), "_law_is_step", "_law_is_step", defArgs s_law_is_step, defBody s_law_is_step, defScope s_law_is_step, [], []⟩
def D20 : He.DefD := ⟨("_law_is_script", none), "_law_is_script", "_law_is_script", defArgs s_law_is_script, defBody s_law_is_script, defScope s_law_is_script, [], []⟩
def D21 : He.DefD := ⟨("_law_step", none), "_law_step", "_law_step", defArgs s_law_step, defBody s_law_step, defScope s_law_step, [], []⟩
def D22 : He.DefD := ⟨("_law_bent", none), "_law_bent", "_law_bent", defArgs s_law_bent, defBody s_law_bent, defScope s_law_bent, [], []⟩
def D23 : He.DefD := ⟨("_law_is_number", none), "_law_is_number", "_law_is_number", defArgs s_law_is_number, defBody s_law_is_number, defScope s_law_is_number, [], []⟩
def D24 : He.DefD := ⟨("_law_items", none), "_law_items", "_law_items", defArgs s_law_items, defBody s_law_items, defScope s_law_items, [], []⟩
def D25 : He.DefD := ⟨("_law_text", none), "_law_text", "_law_text", defArgs s_law_text, defBody s_law_text, defScope s_law_text, [], []⟩
def D26 : He.DefD := ⟨("_law_heard", none), "_law_heard", "_law_heard", defArgs s_law_heard, defBody s_law_heard, defScope s_law_heard, [], []⟩
def D27 : He.DefD := ⟨("law", none), "law", "law", defArgs s_law, defBody s_law, defScope s_law, [], []⟩
def fn : List He.DefD := [D0, D1, D2, D3, D4, D5, D6, D7, D8, D9, D10, D11, D12, D13, D14, D15, D16, D17, D18, D19, D20, D21, D22, D23, D24, D25, D26, D27]
def fa0 : List He.Fa := [.free "int", .free "bool", .free "str", .free "list", .free "tuple", .free "len", .free "isinstance", .free "abs", .free "all", .free "repr", .free "range", .free "zip", .str "BAR" "/", .int "MOST_DIGITS" 60, .int "MOST_STEPS" 400, .glo "is_integer", .glo "is_within", .glo "number_in", .mkr "Scan", .glo "Scan", .meth "Scan" "ahead", .meth "Scan" "refuse", .meth "Scan" "take_just", .meth "Scan" "take_number", .meth "Scan" "finish", .glo "bounds_of", .glo "is_step", .glo "is_script", .glo "script_text", .glo "step_in"]
def fa1 : List He.Fa := [.glo "read_script", .glo "_law_quiver", .glo "_law_shoot", .glo "_law_pick", .glo "_law_bounds", .glo "_law_is_step", .glo "_law_is_script", .glo "_law_step", .glo "_law_bent", .glo "_law_is_number", .glo "_law_items", .glo "_law_text", .glo "_law_heard", .glo "law", .cls "Scan", .noat "Scan" "words", .noat "Scan" "at", .glo "BOUNDS", .glo "SeenError", .exm "BadText" "SeenError" true, .exm "BadScript" "SeenError" true]
def fa : List He.Fa := fa0 ++ fa1
def xBadScript : ExD := ⟨"BadScript", "BadScript.__init__", s_BadScript_init, "part"⟩
def xBadText : ExD := ⟨"BadText", "BadText.__init__", s_BadText_init, "item"⟩
def xs : List ExD := [xBadScript, xBadText]
/-- more that the head tells -/
def exB (K : W.Frag) : Bool := errB prg.main.file K xBadScript && (errB prg.main.file K xBadText && (heldB K (He.ga K "BadText") && (heldB K (He.ga K "BadScript") &&
  (decide (W.kitOne K (.ref (He.ga K "BadText")) (.ref (He.ga K "BadText")) = some true) && (decide (W.kitOne K (.ref (He.ga K "BadScript")) (.ref (He.ga K "BadText")) = some false) && (decide (W.kitOne K (.ref (He.ga K "BadScript")) (.ref (He.ga K "BadScript")) = some true) && datB K boundsD (.ref (He.ga K "BOUNDS"))))))))
abbrev R : W.OpenRow := W.OpenLaw.row PySem.Challenge.rw_ownseen_k80_scripts_and_their_texts
abbrev hkY : W.Hook := hookY 5 fa fn xs ("law", none) exB
def obY (s : W.SharedT) : AlY := obsY 5 fa fn xs ("law", none) exB (HandSHeadRun.getT s)
theorem obY_eq (s : W.SharedT) : obY s = hkY.obs s.abs := obsY_eq (HandSHeadRun.getT_eq s)
def names : List Str := (prg.main.scope.names.map (·.1)).filter fun x => x != "__name__" && x != "law"
theorem run (w : World) : HandSHeadRun.RunEq R (W.view R.prog [40]) hkY obY 4000 names w := by
  intro os
  kernel_rfl
end K80

end
section
/-! K80q: the text by the head's facts. -/
namespace K80
open PySem PySem.Spec PyProof.Rows L2 Ow
section
variable {K : W.Frag} {h : Heap} {mg : Str → Option Value}
theorem boundsAt (b : datB K boundsD (.ref (He.ga K "BOUNDS")) = true) : Dp K H00 (.ref (He.ga K "BOUNDS")) boundsD := by
  obtain ⟨v, r, hv⟩ := datB_ok (H := H00) b
  obtain ⟨a, ys, rfl, _⟩ := Dp.tupV hv
  cases (show Value.ref (He.ga K "BOUNDS") = Value.ref a from r)
  exact hv
theorem txt_of (X : K.In h) (G : h.Ns mainGlobals mg) (c : He.SaysD fa fn K) (cx : ∀ e ∈ xs, fnC K e.x = e.val) (ex : exB K = true) : Txt K mg ∧ HeardF K mg := by
  unfold exB at ex
  simp only [Bool.and_eq_true, decide_eq_true_eq] at ex
  obtain ⟨e1, e2, e3, e4, e5, e6, e7, e8⟩ := ex
  have hB := boundsAt e8
  obtain ⟨fd0, F0⟩ := c.def_ 0 (d := D0) rfl
  obtain ⟨fd1, F1⟩ := c.def_ 1 (d := D1) rfl
  obtain ⟨fd2, F2⟩ := c.def_ 2 (d := D2) rfl
  obtain ⟨fd3, F3⟩ := c.def_ 3 (d := D3) rfl
  obtain ⟨fd4, F4⟩ := c.def_ 4 (d := D4) rfl
  obtain ⟨fd5, F5⟩ := c.def_ 5 (d := D5) rfl
  obtain ⟨fd6, F6⟩ := c.def_ 6 (d := D6) rfl
  obtain ⟨fd7, F7⟩ := c.def_ 7 (d := D7) rfl
  obtain ⟨fd8, F8⟩ := c.def_ 8 (d := D8) rfl
  obtain ⟨fd9, F9⟩ := c.def_ 9 (d := D9) rfl
  obtain ⟨fd10, F10⟩ := c.def_ 10 (d := D10) rfl
  obtain ⟨fd11, F11⟩ := c.def_ 11 (d := D11) rfl
  obtain ⟨fd12, F12⟩ := c.def_ 12 (d := D12) rfl
  obtain ⟨fd13, F13⟩ := c.def_ 13 (d := D13) rfl
  obtain ⟨fd14, F14⟩ := c.def_ 14 (d := D14) rfl
  obtain ⟨fd15, F15⟩ := c.def_ 15 (d := D15) rfl
  obtain ⟨fd16, F16⟩ := c.def_ 16 (d := D16) rfl
  obtain ⟨fd17, F17⟩ := c.def_ 17 (d := D17) rfl
  obtain ⟨fd18, F18⟩ := c.def_ 18 (d := D18) rfl
  obtain ⟨fd19, F19⟩ := c.def_ 19 (d := D19) rfl
  obtain ⟨fd20, F20⟩ := c.def_ 20 (d := D20) rfl
  obtain ⟨fd21, F21⟩ := c.def_ 21 (d := D21) rfl
  obtain ⟨fd22, F22⟩ := c.def_ 22 (d := D22) rfl
  obtain ⟨fd23, F23⟩ := c.def_ 23 (d := D23) rfl
  obtain ⟨fd24, F24⟩ := c.def_ 24 (d := D24) rfl
  obtain ⟨fd25, F25⟩ := c.def_ 25 (d := D25) rfl
  obtain ⟨fd26, F26⟩ := c.def_ 26 (d := D26) rfl
  obtain ⟨fd27, F27⟩ := c.def_ 27 (d := D27) rfl
  refine ⟨?_, He.glo_ok X G (c.fact 48 (f := .glo "SeenError") rfl), He.exm_ok (c.fact 49 (f := .exm "BadText" "SeenError" true) rfl), He.exm_ok (c.fact 50 (f := .exm "BadScript" "SeenError" true) rfl), heldB_ok e3, heldB_ok e4, e5, e6, e7⟩
  exact
  ⟨He.free_ok X G (c.fact 0 (f := .free "int") rfl),
    He.free_ok X G (c.fact 1 (f := .free "bool") rfl),
    He.free_ok X G (c.fact 2 (f := .free "str") rfl),
    He.free_ok X G (c.fact 3 (f := .free "list") rfl),
    He.free_ok X G (c.fact 4 (f := .free "tuple") rfl),
    He.free_ok X G (c.fact 5 (f := .free "len") rfl),
    He.free_ok X G (c.fact 6 (f := .free "isinstance") rfl),
    He.free_ok X G (c.fact 7 (f := .free "abs") rfl),
    He.free_ok X G (c.fact 8 (f := .free "all") rfl),
    He.free_ok X G (c.fact 9 (f := .free "repr") rfl),
    He.free_ok X G (c.fact 10 (f := .free "range") rfl),
    He.free_ok X G (c.fact 11 (f := .free "zip") rfl),
    He.str_ok X G (c.fact 12 (f := .str "BAR" "/") rfl),
    He.int_ok X G (c.fact 13 (f := .int "MOST_DIGITS" 60) rfl),
    He.int_ok X G (c.fact 14 (f := .int "MOST_STEPS" 400) rfl),
    errB_ok (d := xBadScript) X G (cx xBadScript (by simp [xs])) (by assumption),
    errB_ok (d := xBadText) X G (cx xBadText (by simp [xs])) (by assumption),
    dfn_of F0 (He.glo_ok X G (c.fact 15 (f := .glo "is_integer") rfl)) (fun _ _ _ _ _ _ us hl => match us, hl with | [_], _ => rfl) (fun p hp _ _ _ _ _ _ _ => by cases hp; rfl),
    dfn_of F1 (He.glo_ok X G (c.fact 16 (f := .glo "is_within") rfl)) (fun _ _ _ _ _ _ us hl => match us, hl with | [_, _, _], _ => rfl) (fun p hp => by cases hp),
    dfn_of F2 (He.glo_ok X G (c.fact 17 (f := .glo "number_in") rfl)) (fun _ _ _ _ _ _ us hl => match us, hl with | [_], _ => rfl) (fun p hp _ _ _ _ _ _ _ => by cases hp; rfl),
    ⟨⟨_, _, F3, He.mkr_ok (c.fact 18 (f := .mkr "Scan") rfl), F3.bindsN (fun _ _ _ _ _ _ us hl => match us, hl with | [_, _], _ => rfl)⟩, He.glo_ok X G (c.fact 19 (f := .glo "Scan") rfl)⟩,
    ⟨⟨_, _, F4, He.meth_ok (c.fact 20 (f := .meth "Scan" "ahead") rfl), F4.bindsN (fun _ _ _ _ _ _ us hl => match us, hl with | [_], _ => rfl)⟩⟩,
    ⟨⟨_, _, F5, He.meth_ok (c.fact 21 (f := .meth "Scan" "refuse") rfl), F5.bindsN (fun _ _ _ _ _ _ us hl => match us, hl with | [_], _ => rfl)⟩⟩,
    ⟨⟨_, _, F6, He.meth_ok (c.fact 22 (f := .meth "Scan" "take_just") rfl), F6.bindsN (fun _ _ _ _ _ _ us hl => match us, hl with | [_, _], _ => rfl)⟩⟩,
    ⟨⟨_, _, F7, He.meth_ok (c.fact 23 (f := .meth "Scan" "take_number") rfl), F7.bindsN (fun _ _ _ _ _ _ us hl => match us, hl with | [_, _, _], _ => rfl)⟩⟩,
    ⟨⟨_, _, F8, He.meth_ok (c.fact 24 (f := .meth "Scan" "finish") rfl), F8.bindsN (fun _ _ _ _ _ _ us hl => match us, hl with | [_], _ => rfl)⟩⟩,
    dfn_of F9 (He.glo_ok X G (c.fact 25 (f := .glo "bounds_of") rfl)) (fun _ _ _ _ _ _ us hl => match us, hl with | [_], _ => rfl) (fun p hp _ _ _ _ _ _ _ => by cases hp; rfl),
    dfn_of F10 (He.glo_ok X G (c.fact 26 (f := .glo "is_step") rfl)) (fun _ _ _ _ _ _ us hl => match us, hl with | [_], _ => rfl) (fun p hp _ _ _ _ _ _ _ => by cases hp; rfl),
    dfn_of F11 (He.glo_ok X G (c.fact 27 (f := .glo "is_script") rfl)) (fun _ _ _ _ _ _ us hl => match us, hl with | [_], _ => rfl) (fun p hp _ _ _ _ _ _ _ => by cases hp; rfl),
    dfn_of F12 (He.glo_ok X G (c.fact 28 (f := .glo "script_text") rfl)) (fun _ _ _ _ _ _ us hl => match us, hl with | [_], _ => rfl) (fun p hp _ _ _ _ _ _ _ => by cases hp; rfl),
    dfn_of F13 (He.glo_ok X G (c.fact 29 (f := .glo "step_in") rfl)) (fun _ _ _ _ _ _ us hl => match us, hl with | [_], _ => rfl) (fun p hp _ _ _ _ _ _ _ => by cases hp; rfl),
    dfn_of F14 (He.glo_ok X G (c.fact 30 (f := .glo "read_script") rfl)) (fun _ _ _ _ _ _ us hl => match us, hl with | [_], _ => rfl) (fun p hp _ _ _ _ _ _ _ => by cases hp; rfl),
    dfn_of F15 (He.glo_ok X G (c.fact 31 (f := .glo "_law_quiver") rfl)) (fun _ _ _ _ _ _ us hl => match us, hl with | [_], _ => rfl) (fun p hp _ _ _ _ _ _ _ => by cases hp; rfl),
    dfn_of F16 (He.glo_ok X G (c.fact 32 (f := .glo "_law_shoot") rfl)) (fun _ _ _ _ _ _ us hl => match us, hl with | [_, _], _ => rfl) (fun p hp => by cases hp),
    dfn_of F17 (He.glo_ok X G (c.fact 33 (f := .glo "_law_pick") rfl)) (fun _ _ _ _ _ _ us hl => match us, hl with | [_, _], _ => rfl) (fun p hp => by cases hp),
    dfn_of F18 (He.glo_ok X G (c.fact 34 (f := .glo "_law_bounds") rfl)) (fun _ _ _ _ _ _ us hl => match us, hl with | [_], _ => rfl) (fun p hp _ _ _ _ _ _ _ => by cases hp; rfl),
    dfn_of F19 (He.glo_ok X G (c.fact 35 (f := .glo "_law_is_step") rfl)) (fun _ _ _ _ _ _ us hl => match us, hl with | [_], _ => rfl) (fun p hp _ _ _ _ _ _ _ => by cases hp; rfl),
    dfn_of F20 (He.glo_ok X G (c.fact 36 (f := .glo "_law_is_script") rfl)) (fun _ _ _ _ _ _ us hl => match us, hl with | [_], _ => rfl) (fun p hp _ _ _ _ _ _ _ => by cases hp; rfl),
    dfn_of F21 (He.glo_ok X G (c.fact 37 (f := .glo "_law_step") rfl)) (fun _ _ _ _ _ _ us hl => match us, hl with | [_], _ => rfl) (fun p hp _ _ _ _ _ _ _ => by cases hp; rfl),
    dfn_of F22 (He.glo_ok X G (c.fact 38 (f := .glo "_law_bent") rfl)) (fun _ _ _ _ _ _ us hl => match us, hl with | [_, _], _ => rfl) (fun p hp => by cases hp),
    dfn_of F23 (He.glo_ok X G (c.fact 39 (f := .glo "_law_is_number") rfl)) (fun _ _ _ _ _ _ us hl => match us, hl with | [_], _ => rfl) (fun p hp _ _ _ _ _ _ _ => by cases hp; rfl),
    dfn_of F24 (He.glo_ok X G (c.fact 40 (f := .glo "_law_items") rfl)) (fun _ _ _ _ _ _ us hl => match us, hl with | [_], _ => rfl) (fun p hp _ _ _ _ _ _ _ => by cases hp; rfl),
    dfn_of F25 (He.glo_ok X G (c.fact 41 (f := .glo "_law_text") rfl)) (fun _ _ _ _ _ _ us hl => match us, hl with | [_, _], _ => rfl) (fun p hp => by cases hp),
    dfn_of F26 (He.glo_ok X G (c.fact 42 (f := .glo "_law_heard") rfl)) (fun _ _ _ _ _ _ us hl => match us, hl with | [_], _ => rfl) (fun p hp _ _ _ _ _ _ _ => by cases hp; rfl),
    dfn_of F27 (He.glo_ok X G (c.fact 43 (f := .glo "law") rfl)) (fun _ _ _ _ _ _ us hl => match us, hl with | [_], _ => rfl) (fun p hp _ _ _ _ _ _ _ => by cases hp; rfl),
    He.cls_ok (c.fact 44 (f := .cls "Scan") rfl),
    He.noat_ok (c.fact 45 (f := .noat "Scan" "words") rfl),
    He.noat_ok (c.fact 46 (f := .noat "Scan" "at") rfl),
    He.glo_ok X G (c.fact 47 (f := .glo "BOUNDS") rfl),
    hB⟩
end
end K80

end
section
/-! K80r: the law holds. -/
namespace K80
open PySem PySem.Spec PyProof.Rows L2 Ow
theorem law_call {w : World} {K : W.Frag} {mg mb : Str → Option Value} {fa₀ a : Addr} {s₁ : Shared} {vs : List Value} {ns : List Int}
    (KX : K.In s₁.heap) (Y : SaysY fa fn xs ("law", none) exB s₁.heap K) (hns : s₁.heap.Ns mainGlobals mg) (hb : s₁.heap.Ns builtinsNs mb) (hbb : ∀ x : Str, x ≠ "__name__" → mb x = bootBuiltins x) (hlim : s₁.heap.NoLimit) (hg : s₁.gens = #[])
    (hbm : ∃ (bm : Addr) (ob : Obj), mg "__builtins__" = some (.ref bm) ∧ bm ≠ builtinsNs ∧ s₁.heap.get? bm = some ob ∧ ob.cls = .type "module" ∧ ob.dict = some builtinsNs ∧ ob.data = .plain)
    (hmg : mg "law" = some (.ref fa₀)) (ha : s₁.heap.get? a = some (lstO vs)) (hi : IntsAre vs ns) (hl : ns.length ≤ 63) : codeAny (model prg w) callerA (.call (.ref fa₀) ⟨[.ref a], []⟩) (LawEnd s₁) s₁ := by
  obtain ⟨T, F⟩ := txt_of KX hns Y.d Y.x Y.more
  obtain ⟨fd, FL⟩ := Y.d.def_ 27 (d := D27) rfl
  have FL : FnQ K "law" "law" s_law (He.ga K "law") fd := FL
  have gl := hmg.symm.trans (He.glo_ok KX hns (Y.d.fact 43 (f := .glo "law") rfl))
  cases gl
  have bA := FL.bindsA (ps := ["_law_script"]) (fun _ _ _ _ _ _ us hl => match us, hl with | [_], _ => rfl) s₁ [.ref a] rfl
  obtain ⟨oc, od, dV, kV, doc, pm, an, cdv, ct, osl, rfl, lk, hcd, hD, hK⟩ := FL.ex
  obtain ⟨c, rfl⟩ := He.codeIn_ref hcd
  have ec : He.codeOf K ("law", none) = c := He.codeOf_eq lk rfl
  have C := W.codeHd_of_K KX Y.hd
  obtain ⟨g, fdh, FH, gh, bh, _⟩ := T.d_law_heard.ex
  have kph := FH.kp
  obtain ⟨oc2, od2, dV2, kV2, doc2, pm2, an2, cdv2, ct2, osl2, rfl, lk2, hcd2, _, _⟩ := FH.ex
  refine law_callC KX hns hb hbb hlim hg Y.tab Y.out C hbm ha hi (Nat.le_trans hl (by decide)) fun base H kin TB hT hS env => ?_
  refine LamX.run_ofS (k := 9) (us := [Value.ref a]) (vs := [V.ref a]) lk hcd sc_law ⟨rfl, by decide, by decide⟩ env bA (.cons rfl .nil) rfl fun hr' => ?_
  have TB2 : LamX.TabB base mg c (He.cT K ("law", none)).2 := by
    have e : (He.cT K ("law", none)).1 = c := ec
    rw [← e]
    exact TB
  exact law_body T F TB2 gh kph lk2 hcd2 bh hS hl (fun p hp => by cases List.mem_singleton.mp hp; exact LamX.TabS.nil hT) hr'
end K80
open PySem PySem.W PySem.Calls PyProof.Rows
theorem PySem.Challenge.cw_ownseen_k80_scripts_and_their_texts_holds : PySem.Challenge.rw_ownseen_k80_scripts_and_their_texts.Holds := by
  w_on; o_law
  refine HandSHeadRun.head_any (r := OpenLaw.row PySem.Challenge.rw_ownseen_k80_scripts_and_their_texts) (q := view (OpenLaw.row PySem.Challenge.rw_ownseen_k80_scripts_and_their_texts).prog [40]) (H := K80.hkY) (ob := K80.obY) (M := 4000) (loose := K80.names) (d := HandSHeadRun.topDef (OpenLaw.row PySem.Challenge.rw_ownseen_k80_scripts_and_their_texts).prog 40) (kwd := []) K80.obY_eq
    (by kernel_rfl) (fun s => by kernel_rfl) K80.run (by kernel_rfl) (by kernel_rfl) (by kernel_rfl) (by rfl) (by first | assumption | decide +kernel) (by decide +kernel) ⟨rfl, rfl, rfl, rfl, rfl, by decide +kernel⟩ ?hw ?hc
  case hw => w_witness2
  case hc =>
    refine Att.attach_callB (n := 63) rfl (by kernel_rfl) fun w s₀ s₁ mg mb fa o pm cd doc a vs ns G Y ho hd hcd hmg0 hobj hints hlen hbits hg => ?_
    obtain ⟨K, KX, Y⟩ := Y
    have hmg : mg ("law" : PySem.Str) = some (.ref fa) := by
      have e : (HandSHeadRun.topDef (OpenLaw.row PySem.Challenge.rw_ownseen_k80_scripts_and_their_texts).prog 40).name = ("law" : PySem.Str) := by kernel_rfl
      rw [← e]
      exact hmg0
    exact K80.law_call KX Y G.T.g G.T.b G.T.builtins G.T.nolimit hg G.T.bmain hmg hobj hints hlen

end
