import PyProof.Rows.All
import Wide.All
import OpenK.AllK
import Wide.FinOn
import HandS.ForMost
import HandS.Exc
import HandS.Words
import HandS.Style
import HandS.TupLe
import HandS.More
import HandS.Text
import HandS.WordsExc
import HandS.Defaults
import HandS.RaiseMore
import HandS.IsInst
import HandS.OwnEq
import HandS.Walk
import HandS.Codes
import KE.IntTextLaws
import PyProof.StrOps2
import KE.KExcSuper
import KE.KExcIs
import HandS.ExcInit
import HandS.ExcField
import HandS.HeadHook1
import KE.GoesZip
import KE.GoesMore
import KE.DataCmp
import KE.SortData
import KE.KDictKeyed
import KE.KDictPairs
import KE.KDictCopyH
import KE.KDictWalk
import KE.KeyNested
import PyProof.DictCompW
import PyProof.TupleKey
import HandS.DictComp
import HandS.SetBool
import HandS.TupSets
import HandS.SetKeys
import KE.LtData
import KE.KIndexOf
import KE.KCallOwn
import PyProof.SeqIndex
import PyProof.NeKinds
import PyProof.Rows.SetFrom
import HandS.Strs
import HandS.SetFor
import HandS.NoneIn
import PyProof.WalksS
import HandS.Set
import HandS.MakeKwOnly
import HandS.Star
import HandS.FStr
import KE.KStateDown
import HandS.Head0
import HandS.Head1
import HandS.Head2
import HandS.HeadEnd
import HandS.HeadHook4
import HandS.HeadHook2
import HandS.HeadHook3
import KE.KLam
import HandS.EndBits
import HandS.EndTab
import HandS.Lambda
import HandS.TupAny
import HandS.CallLocal
import HandS.Iter
import HandS.Wide
import PyProof.ReprRoads
import PySem.Challenge.RW_ownseen_k81_programs_made_and_refused
set_option Elab.async false
set_option linter.all false
set_option maxRecDepth 100000
set_option maxHeartbeats 4000000
section
/-! Ow4: list comprehensions whose element calls something that may raise. -/
namespace Ow
open PySem L2
open PySem.Spec PyProof.Rows

/-! ### the block's frame is the def's -/
theorem noteFrame_at {e : Value} {env env' : Env} (h : env.frame = env'.frame) : noteFrame e env = noteFrame e env' := by
  unfold noteFrame PySem.frameOf
  rw [h]

/-- an exception that flies over a block, told from the state s ahead of the block (its iterator's cells fp) -/
theorem air_of {X : Cx} {W : WX} {pins : List (Addr × Obj)} {σ : L2.St} {H H' : Hp} {s s' : Shared} {fp : List Addr} {a : Addr} {B : Heap} {cls : Value} {d : Option Addr} (I : L2.Inv X pins σ H s)
    (hfp : ∀ b ∈ fp, (b ∈ X.ex ∨ X.s_0.heap.objs.size ≤ b) ∧ b ≠ X.env.locals ∧ (∀ x c, X.env.cells.lookup x = some c → c ≠ b) ∧ ∀ p ∈ X.pn ++ pins, p.1 ≠ b)
    (keep : ∀ b o, s.heap.get? b = some o → H b = none → b ∉ frs X.stack → b ∉ fp → B.get? b = some o) (slot : ∀ b o, s.heap.get? b = some o → H b = none → b ∈ frs X.stack → b ∉ fp → ∃ sl, s'.heap.get? b = some { o with slots := sl })
    (free : ∀ b o, s.heap.get? b = some o → H b = none → b ∉ fp → H' b = none) (there : ∀ b o, s.heap.get? b = some o → b ∉ frs X.stack → b ∉ fp → ∃ o', B.get? b = some o') (thereF : ∀ b o, s.heap.get? b = some o → b ∈ frs X.stack → b ∉ fp → ∃ o', s'.heap.get? b = some o')
    (tups : ∀ b xs, H b = some (.tup xs) → H' b = some (.tup xs)) (frzs : ∀ b o u, H b = some (.frz o u) → H' b = some (.frz o u)) (tbls : ∀ b ps, H b = some (.tbl ps) → ∃ more, H' b = some (.tbl (ps ++ more)))
    (hok : HOk X.prog X.w H' B) (st : B.StaysIn s'.heap) (sky : Sky B X.stack a (Zc cls d) X.env.locals s'.heap) (na : H' a = none) (os : s'.os = s.os) (ag : AllBare s'.gens) (hW : W cls d σ H') : XE X W (.ref a) s' := by
  obtain ⟨G, in1, out1⟩ := restrict s'.heap fun b => (B.get? b).isSome || decide (b ∈ frs X.stack)
  have fromB : ∀ b o, B.get? b = some o → G.get? b = some o := fun b o e => by
    rw [in1 b (by rw [e] <;> rfl)]
    exact st b o e
  have fromF : ∀ b, b ∈ frs X.stack → G.get? b = s'.heap.get? b := fun b hb => in1 b (by rw [decide_eq_true hb, Bool.or_true])
  have back : ∀ b o, G.get? b = some o → s'.heap.get? b = some o ∧ ((B.get? b).isSome = true ∨ b ∈ frs X.stack) := fun b o e => by
    by_cases q : ((B.get? b).isSome || decide (b ∈ frs X.stack)) = true
    · rw [in1 b q] at e
      refine ⟨e, ?_⟩
      rcases Bool.or_eq_true_iff.mp q with z | z
      · exact .inl z
      · exact .inr (of_decide_eq_true z)
    · rw [out1 b (by simpa using q)] at e
      cases e
  refine ⟨a, B, { s with heap := G, gens := s'.gens, drawn := s'.drawn, toks := s'.toks }, pins, σ, H', cls, d, rfl, ?_, fun b o e hb => ?_, Heap.UpToSlots.of_keeps fun b o e => (back b o e).1, sky, na, os, ag, hW⟩
  · refine I.call (ch := fp) ⟨fun b o e n hb hx => fromB b o (keep b o e n hb hx), fun b o e n hb hx => ?_, free, fun b o e hx => ?_, tups, frzs, tbls⟩ (hok.kept fromB) ag hfp
    · obtain ⟨sl, q⟩ := slot b o e n hb hx
      exact ⟨sl, (fromF b hb).trans q⟩
    · by_cases hb : b ∈ frs X.stack
      · obtain ⟨o', q⟩ := thereF b o e hb hx
        exact ⟨o', (fromF b hb).trans q⟩
      · obtain ⟨o', q⟩ := there b o e hb hx
        exact ⟨o', fromB b o' q⟩
  · obtain ⟨e', h⟩ := back b o e
    rcases h with h | h
    · obtain ⟨o', q⟩ := Option.isSome_iff_exists.mp h
      have z := st b o' q
      rw [e'] at z
      cases z
      exact q
    · exact absurd h hb

/-- what is asked behind a comprehension's block, its variables' dict at cenv.locals -/
def cPost (M : Model) (A : Around) (E : Value → Shared → Prop) (use : Option (Value → Sem Unit)) (Q : Value → Shared → Prop) (acc : Value) (cenv : Env) (r : Result) (s' : Shared) : Prop :=
  match r, use with
  | .ok _, none => ∃ m, s'.heap.Ns cenv.locals m ∧ ∀ h', Heap.SameBut cenv.locals s'.heap h' → Q acc { s' with heap := h' }
  | .ok _, some u => wpAny M A (u acc) (fun _ s'' => ∃ m, s''.heap.Ns cenv.locals m ∧ ∀ h', Heap.SameBut cenv.locals s''.heap h' → Q .none { s'' with heap := h' }) E s'
  | .error x, _ => ∃ m, s'.heap.Ns cenv.locals m ∧ ∀ h', Heap.SameBut cenv.locals s'.heap h' → wpAny M A (passOn "comprehension.variables-let-go" x cenv : Sem Value) (fun _ _ => False) E { s' with heap := h' }

/-- a dict's object is no record -/
theorem ns_not {h : Heap} {a : Addr} {m : Str → Option Value} (n : h.Ns a m) {o : Obj} {vs : Array Value} (e : h.get? a = some o) (d : o.data = .fields vs) : False := by
  obtain ⟨o', es, ep, e', d', _⟩ := n
  rw [e] at e'
  cases e'
  rw [d] at d'
  cases d'

/-- the frames that run stand though a dict that is none of theirs changes -/
theorem frames_but {base h h' : Heap} {C : Addr} : ∀ {l : List Env}, h.FunFrames base l → C ∉ frs l → Heap.SameBut C h h' → h'.FunFrames base l
  | [], _, _, _ => trivial
  | env :: l, x, hn, sb => by
    obtain ⟨hk, ⟨L, o, hf, n, e, hd⟩, hr⟩ := x
    have hL : L ≠ C := fun z => hn (by unfold frs; rw [List.filterMap_cons, hf, z]; exact List.mem_cons_self)
    exact ⟨hk, ⟨L, o, hf, n, (sb.2 L hL).trans e, hd⟩, frames_but hr (fun z => hn (by unfold frs; rw [List.filterMap_cons, hf]; exact List.mem_cons_of_mem _ z)) sb⟩

/-- an exception of the block's element: noted, then passed on by the def's own frame -/
theorem block_air {X : Cx} {W : WX} {E : XK} {pins pB : List (Addr × Obj)} {σ σB : L2.St} {H3 HB : Hp} {s3 sB s' : Shared} {fp : List Addr} {scope : Scope} {ce : Env} {u : Value} {xe E' : Value → Shared → Prop}
    (I3 : L2.Inv X pins σ H3 s3) (hst : X.stack = X.env :: X.outer) (hfr : X.env.frame = some X.env.locals) (hce : ce.frame = X.env.frame) (hC : ce.locals = s3.heap.objs.size) (tk : Takes X W) (hW : ∀ cls d H', E cls d H' → W cls d σ H')
    (hfp : ∀ b ∈ fp, FpOk X pins H3 b) (IB : L2.Inv ((X.blk s3 H3 scope ce fp).wish xe) pB σB HB sB) (c : L2.CX X.prog X.w X.stack HB sB E u s') :
    wpAny (model X.prog X.w) X.A (noteFrame u ce) (fun _ s2 => ∃ m, s2.heap.Ns ce.locals m ∧ ∀ h', Heap.SameBut ce.locals s2.heap h' → wpAny (model X.prog X.w) X.A (passOn "comprehension.variables-let-go" u ce : Sem Value) (fun _ _ => False) X.xe { s2 with heap := h' }) E' s' := by
  obtain ⟨a, B, H', cls, d, rfl, fl, hok, ub, na, os, ag, hE⟩ := c
  have Xok := I3.ok
  have frames : X.A.frames = some (X.env :: X.outer) := by rw [Xok.frames, hst]
  -- the variables' dict
  obtain ⟨mB, nB, _⟩ := IB.loc
  have nB' : sB.heap.Ns ce.locals mB := nB
  have fC : HB ce.locals = none := IB.free
  have C3 : s3.heap.get? ce.locals = none := by
    cases q : s3.heap.get? ce.locals with
    | none => rfl
    | some o =>
      have z := Heap.lt_size q
      rw [hC] at z
      exact absurd z (Nat.lt_irrefl _)
  have nfC : ce.locals ∉ frs X.stack := fun hm => by
    obtain ⟨_, o, e, _⟩ := I3.stack.mem hm
    rw [C3] at e
    cases e
  -- the ground without it
  obtain ⟨B', b1, b2⟩ := restrict B fun b => decide (b ≠ ce.locals)
  have bk : ∀ b, b ≠ ce.locals → B'.get? b = B.get? b := fun b hb => b1 b (decide_eq_true hb)
  have bC : B'.get? ce.locals = none := b2 _ (decide_eq_false fun z => z rfl)
  have bs : ∀ b o, B'.get? b = some o → B.get? b = some o ∧ b ≠ ce.locals := fun b o e => by
    by_cases hb : b = ce.locals
    · rw [hb, bC] at e
      cases e
    · rw [bk b hb] at e
      exact ⟨e, hb⟩
  have none' : ∀ b, B.get? b = none → B'.get? b = none := fun b e => by
    cases q : B'.get? b with
    | none => rfl
    | some o =>
      rw [(bs b o q).1] at e
      cases e
  have fl' : HandSPX.FlyingZ B' X.stack a (Zc cls d) s'.heap := by
    obtain ⟨x1, x2, x3, oe, vs, T, oT, ts, y1, y2, y3, y4, y5, y6, y7, y8, y9⟩ := fl
    refine ⟨fun b o e => x1 b o (bs b o e).1, none' a x2, funFrames_none x3 fun L hL => ?_, oe, vs, T, oT, ts, y1, y2, y3, y4, none' T y5, y6, y7, y8, y9⟩
    obtain ⟨e, he, q⟩ := List.mem_filterMap.mp hL
    exact none' L (x3.mem (List.mem_filterMap.mpr ⟨e, he, q⟩)).1
  have hok' : HOk X.prog X.w H' B' := fun b o e => by
    have cH : H' ce.locals = none := by
      obtain ⟨o, es, ep, e1, _⟩ := nB'
      exact ub.free _ o e1 fC
    refine (hok b o e).stay (fun v w hv q => ?_) (fun _ q => q) fun _ _ q => q
    have hne : v ≠ ce.locals := fun z => by
      rcases hv with hv | hv
      · rw [← hv, z, cH] at e
        cases e
      · rw [z, cH] at hv
        cases hv
    rw [bk v hne]
    exact q
  have nsS : s'.heap.Ns ce.locals mB := by
    obtain ⟨o, es, ep, e1, r⟩ := nB'
    exact ⟨o, es, ep, fl.1 _ o (ub.keep _ o e1 fC nfC), r⟩
  rw [noteFrame_at hce]
  rw [hst] at fl'
  refine HandSPX.looks_onZ Zc.steady frames hfr fl' fun h3 hd3 up3 => ?_
  have nsL : h3.Ns ce.locals mB := up3.ns nsS
  refine ⟨mB, nsL, fun h4 sb => ?_⟩
  have hd4 : HandSPX.HeldZ B' (X.env :: X.outer) a (Zc cls d) X.env.locals h4 := by
    obtain ⟨x1, x2, x3, oe, vs, T, oT, ts, y1, y2, y3, y4, y5, y6, y7, y8, y9⟩ := hd3
    have na' : a ≠ ce.locals := fun z => ns_not nsL (by rw [← z]; exact y1) y3
    have nT' : T ≠ ce.locals := fun z => ns_not nsL (by rw [← z]; exact y7) y8
    exact ⟨fun b o e => (sb.2 b (bs b o e).2).trans (x1 b o e), x2, frames_but x3 (by rw [← hst]; exact nfC) sb, oe, vs, T, oT, ts, (sb.2 a na').trans y1, y2, y3, y4, y5, y6, (sb.2 T nT').trans y7, y8, y9⟩
  have U1 : Un (frs X.stack) fp H3 HB s3.heap sB.heap := IB.base
  have nb3 : ∀ b o, s3.heap.get? b = some o → b ≠ ce.locals := fun b o e z => by
    rw [z, C3] at e
    cases e
  obtain ⟨_, _, _, oe, vs, T, oT, ts, y1, y2, y3, y4, y5, y6, y7, y8, y9⟩ := id hd4
  have done : wpAny (model X.prog X.w) X.A (setFlight (.ref a) ce.frame) (fun _ s5 => wpAny (model X.prog X.w) X.A (throw (.ref a) : Sem Value) (fun _ _ => False) X.xe s5) X.xe { s' with heap := h4 } := by
    rw [hce, hfr]
    refine HandSPX.setFlight_onZ hd4 fun h5 hd5 up5 => wpAny_throw (tk _ _ ?_)
    have slot5 : ∀ b o, s3.heap.get? b = some o → H3 b = none → b ∈ frs X.stack → b ∉ fp → ∃ sl, h5.get? b = some { o with slots := sl } := fun b o e n hb hx => by
      obtain ⟨_, o2, e2, hnf⟩ := I3.stack.mem hb
      rw [e] at e2
      cases e2
      obtain ⟨l1, z1⟩ := U1.slot b o e n hb hx
      obtain ⟨l2, z2⟩ := ub.slot b _ z1 hb
      obtain ⟨l3, z3⟩ := up3 b _ z2 hnf
      obtain ⟨l4, z4⟩ := up5 b _ ((sb.2 b (nb3 b o e)).trans z3) hnf
      exact ⟨l4, z4⟩
    exact air_of (s' := { s' with heap := h5 }) I3 (fun b hb => ⟨(hfp b hb).2.2.2.1, (hfp b hb).2.1, (hfp b hb).2.2.2.2.1, (hfp b hb).2.2.2.2.2⟩)
      (fun b o e n hb hx => (bk b (nb3 b o e)).trans (ub.keep b o (U1.keep b o e n hb hx) (U1.free b o e n hx) hb)) slot5 (fun b o e n hx => by
        obtain ⟨o', z⟩ := U1.there b o e hx
        exact ub.free b o' z (U1.free b o e n hx)) (fun b o e hb hx => by
        obtain ⟨o', z⟩ := U1.there b o e hx
        obtain ⟨o2, z2⟩ := ub.there b o' z hb
        exact ⟨o2, (bk b (nb3 b o e)).trans z2⟩) (fun b o e hb hx => by
        obtain ⟨sl, z⟩ := slot5 b o e (I3.stkFree b hb) hb hx
        exact ⟨_, z⟩) (fun b xs e => ub.tups b xs (U1.tups b xs e)) (fun b o u e => ub.frzs b o u (U1.frzs b o u e)) (fun b ps e => by
        obtain ⟨m1, z1⟩ := U1.tbls b ps e
        obtain ⟨m2, z2⟩ := ub.tbls b _ z1
        exact ⟨m1 ++ m2, by rw [z2, Array.append_assoc]⟩) hok' hd5.1 (.inr (.inr (by rw [hst]; exact hd5))) na (os.trans IB.os) ag (hW _ _ _ hE)
  unfold PySem.passOn
  refine wpAny_bind (wpAny_field y1 y3 y4 ?_)
  rw [if_neg (show ¬ ((Value.ref T == Value.none) = true) from by simp)]
  first
    | exact wpAny_bind (wpAny_pure (wpAny_bind done))
    | exact wpAny_bind done
end Ow

end
section
/-! Ow5: the rule of list comprehensions whose element may raise. -/
namespace Ow
open PySem L2
open PySem.Spec PyProof.Rows

section
variable {M : Model} {A : Around} {E : Value → Shared → Prop} {s : Shared} {env : Env}
/-- a comprehension by what its block reaches, told of the block's own frame -/
theorem compX_free {e : Expr} {scope : Scope} {pos : Pos} {nw fst : Sem Value} {g : Comprehension} {gs : List Comprehension} {cl : List (Str × Addr)} {use : Option (Value → Sem Unit)} {Q : Value → Shared → Prop}
    (hc : clausesOf e = g :: gs) (hs : ∀ x, foldedSetIterable g.iter env x = pure x) (ho : closureFor scope env = pure cl) (hk : scope.kind = .function) (hn : ∀ x ∈ scope.names, x.2 = .local → scope.names.lookup x.1 = some .local)
    (h : wpAny M A fst (fun x t1 => wpAny M A (pyIter x) (fun it t2 => wpAny M A nw (fun acc t3 => wpAny M A (newFunctionEnv scope env.globals cl [] env.qual none .none (some env)) (fun cenv t4 =>
      codeAny M A (.compStart e 0 it acc { cenv with scope := relabel scope env }) (cPost M A E use Q acc { cenv with scope := relabel scope env }) t4) E t3) E t2) E t1) E s) :
    wpAny M A (comprehension e scope env pos nw false fst use) Q E s := by
  unfold comprehension
  rw [ho, hc]
  refine wpAny_bind (thn h fun x t1 h1 => wpAny_bind (wpAny_standAt (wpAny_bind (wpAny_of_eq (hs x) (wpAny_bind (wpAny_holding (thn h1 fun it t2 h2 => wpAny_standIf (wpAny_bind (thn h2 fun acc t3 h3 => wpAny_bind (wpAny_pure (wpAny_bind (thn h3 fun cenv t4 h4 => ?_))))))))))))
  dsimp only
  have own : ∀ x ∈ (scope.names.filter fun x => (x.2 == .local || x.2 == .cell) && x.1 != (".0" : Str)).reverse, x.2 = .local → Env.kindOf { cenv with scope := relabel scope env } x.1 = some .local := fun x hx hl => lookup_relabel_local (hn x (List.mem_filter.mp (List.mem_reverse.mp hx)).1 hl)
  have own' : ∀ x ∈ (scope.names.filter fun x => (x.2 == .local || x.2 == .cell) && x.1 != (".0" : Str)).reverse.drop 1 ++ (scope.names.filter fun x => (x.2 == .local || x.2 == .cell) && x.1 != (".0" : Str)).reverse.take 1, x.2 = .local → Env.kindOf { cenv with scope := relabel scope env } x.1 = some .local := fun x hx hl =>
    (List.mem_append.mp hx).elim (fun q => own x (List.mem_of_mem_drop q) hl) fun q => own x (List.mem_of_mem_take q) hl
  refine wpAny_holding (wpAny_bind (wpAny_attempt (wpAny_holding (wpAny_run (codeAny_mono h4 fun r s5 hr => ?_)))))
  cases r with
  | error x =>
    have hr' : ∃ m, s5.heap.Ns cenv.locals m ∧ ∀ h', Heap.SameBut cenv.locals s5.heap h' → wpAny M A (passOn "comprehension.variables-let-go" x { cenv with scope := relabel scope env } : Sem Value) (fun _ _ => False) E { s5 with heap := h' } := by cases use <;> exact hr
    obtain ⟨m, ns, q⟩ := hr'
    exact wpAny_bind (wpAny_holding (wpAny_comp_letGo (cenv := { cenv with scope := relabel scope env }) hk _ s5 m own ns fun h' m' _ sb => wpAny_mono (q h' sb) (fun _ _ f => f.elim) fun _ _ y => y))
  | ok f =>
    cases use with
    | none =>
      obtain ⟨m, ns, q⟩ := hr
      exact wpAny_bind (wpAny_holding (wpAny_comp_letGo (cenv := { cenv with scope := relabel scope env }) hk _ s5 m own ns fun h' m' _ sb => wpAny_pure (q h' sb)))
    | some u =>
      refine wpAny_bind (wpAny_rule (wpAny_bind (wpAny_holding (thn hr fun _ s6 ⟨m, ns, q⟩ => ?_))))
      exact wpAny_bind (wpAny_comp_letGo (cenv := { cenv with scope := relabel scope env }) hk _ s6 m own' ns fun h' m' _ sb => wpAny_pure (q h' sb))
end

section
variable {X : Cx}
/-- the block's element, with any wish that the def's exceptions reach -/
abbrev EltX (X : Cx) (E : XK) (elt : Expr) (scope : Scope) (te : TE) : Prop := ∀ (s : Shared) (H : Hp) (C : Addr) (cl : List (Str × Addr)) (fp : List Addr) (xe : Value → Shared → Prop),
  Passes (L2.CX X.prog X.w) ((X.blk s H scope (compEnvC scope cl C X.env) fp).wish xe) E → PE ((X.blk s H scope (compEnvC scope cl C X.env) fp).wish xe) elt te

theorem lcX_core {W : WX} {E : XK} {pins : List (Addr × Obj)} {s : Shared} {σ : L2.St} {H : Hp} {Q : VK} {elt tg iter : Expr} {ifs : List Expr} {scope : Scope} {own : List (Str × Nat)} {pos pos' : Pos} {wi : TI} {g : TG} {tt : TT} {te : TE} {use : Option (Value → Sem Unit)} {Qf : Value → Shared → Prop}
    (hst : X.stack = X.env :: X.outer) (hfr : X.env.frame = some X.env.locals) (tk : Takes X W) (hW : ∀ cls d H', E cls d H' → W cls d σ H') (hc : X.calm = true) (hN : X.N.Nodup) (J0 : L2.Inv X pins σ H s) (hi : PI X tg iter wi) (ok : BlkOk X.N X.env.scope scope own)
    (hg : ∀ (s : Shared) (H : Hp) (C : Addr) (cl : List (Str × Addr)) (fp : List Addr), PG (X.blk s H scope (compEnvC scope cl C X.env) fp) tg g) (ht : ∀ (s : Shared) (H : Hp) (C : Addr) (cl : List (Str × Addr)) (fp : List Addr), PTs (X.blk s H scope (compEnvC scope cl C X.env) fp) ifs tt)
    (he : EltX X E elt scope te) (hs : ∀ x, foldedSetIterable iter X.env x = pure x) (h : tLc wi g tt te (own.map (·.2)) σ H Q)
    (hRR : ∀ D (ce : Env) s' m H', L2.Inv X pins σ H' s' → Q (.ref D) H' → s'.heap.Ns ce.locals m → FpOk X pins H' ce.locals → cPost (model X.prog X.w) X.A X.xe use Qf (.ref D) ce (.ok .next) s') :
    wpAny (model X.prog X.w) X.A (comprehension (.ListComp elt [⟨tg, iter, ifs, 0⟩] scope pos) scope X.env pos' (newList []) false (eval iter X.env) use) Qf X.xe s := by
  have hfree : ∀ y ∈ scope.names, y.2 = .free → ∃ c, X.env.cells.lookup y.1 = some c := fun y hy e => (ok.free y hy e).elim (fun k => J0.ok.has _ (.inl k)) fun k => J0.ok.has _ (.inr k)
  refine compX_free (use := use) rfl hs (closure_ok hfree) ok.kind (fun y hy e => by rw [ok.uniq y hy, e]) (thn (hi.run pins s σ H _ J0 h) fun xv s1 hx => thn hx fun itv s2 h2 => ?_)
  obtain ⟨it, fp, tn, Jt, H2, e, J2, T, st2, f2, q⟩ := h2
  subst e
  refine wpAny_newObj_type (newEnv_comp ?_) (by show 0 ≤ sizeLine; decide)
  generalize hD : s2.heap.objs.size = D
  have hDn : H2 D = none := J2.hok.fresh (Nat.le_of_eq hD)
  obtain ⟨Wl, ⟨m0, w0⟩, turn⟩ := q D hDn
  generalize hs3 : ({ s2 with heap := s2.heap.push { cls := .type "list", data := .seq ([] : List Value).toArray } } : Shared) = s3
  have J3 : L2.Inv X pins σ (upd H2 D (.lst [])) s3 := by
    rw [← hs3]
    refine J2.laid (t' := s2.toks) (fun b o e => Heap.get?_push_of_some _ e) (Nat.le_of_eq hD) ⟨Nat.zero_le _, [], 0, .nil, ?_⟩
    rw [← hD]
    exact Heap.get?_push_size _ rfl
  have h3 : s3.heap = s2.heap.push { cls := .type "list", data := .seq ([] : List Value).toArray } := by rw [← hs3]
  have sz : ∀ b ∈ fp, b < s2.heap.objs.size := fun b hb => (T.obj _ _ st2 b hb).elim fun o z => Heap.lt_size z.1
  have f3 : ∀ b ∈ fp, FpOk X pins (upd H2 D (.lst [])) b ∧ b < s3.heap.objs.size := fun b hb => by
    have hlt := sz b hb
    exact ⟨⟨(upd_ne (by rw [← hD]; exact Nat.ne_of_lt hlt)).trans (f2 b hb).1, (f2 b hb).2⟩, by rw [h3, Heap.size_push]; exact Nat.lt_succ_of_lt hlt⟩
  have st3 : tn 0 s3.heap := T.keep _ _ _ st2 fun b _ o e => by rw [h3]; exact Heap.get?_push_of_some _ e
  have J4 := block_start J3 ok hN f3
  generalize hcl : cellsFrom (s3.heap.objs.size + 1) scope.names (cloFrom X.env.cells scope.names []) = cl at J4 ⊢
  have pg := hg s3 (upd H2 D (.lst [])) s3.heap.objs.size cl fp
  have pt := ht s3 (upd H2 D (.lst [])) s3.heap.objs.size cl fp
  have pe := he s3 (upd H2 D (.lst [])) s3.heap.objs.size cl fp
  show codeAny _ _ (.compStart (.ListComp elt [⟨tg, iter, ifs, 0⟩] scope pos) 0 (.ref it) (.ref D) (compEnvC scope cl s3.heap.objs.size X.env)) (cPost (model X.prog X.w) X.A X.xe use Qf (.ref D) (compEnvC scope cl s3.heap.objs.size X.env)) { s3 with heap := pushCells (s3.heap.push { cls := .type "dict", data := .dict #[] }) scope.names }
  have nfp : ∀ b ∈ fp, (upd H2 D (.lst [])) b = none := fun b hb => (f3 b hb).1.1
  have hcf : (compEnvC scope cl s3.heap.objs.size X.env).frame = X.env.frame := rfl
  generalize hce : compEnvC scope cl s3.heap.objs.size X.env = ce at J4 pg pt pe hcf ⊢
  have cL : ce.locals = s3.heap.objs.size := by subst hce; rfl
  generalize hH3 : upd H2 D (.lst []) = H3 at J3 J4 pg pt pe w0 nfp f3
  generalize hs4 : ({ s3 with heap := pushCells (s3.heap.push { cls := .type "dict", data := .dict #[] }) scope.names } : Shared) = s4 at J4 ⊢
  have st4 : tn 0 s4.heap := T.keep _ _ _ st3 fun b _ o e => by rw [← hs4]; exact pushCells_keeps _ _ _ _ (Heap.get?_push_of_some _ e)
  have stat : ∀ {σ' : L2.St} {H' : Hp} {s' : Shared}, L2.Inv (X.blk s3 H3 scope ce fp) [] σ' H' s' → (∀ b ∈ fp, H' b = none) → ∀ b ∈ fp, FpOk (X.blk s3 H3 scope ce fp) [] H' b := fun {σ' H' s'} J' hn b hb =>
    ⟨hn b hb, (J'.ok.exf b hb).1, J'.ok.exfs b hb, .inl hb, fun x c e => (J'.ok.exf b hb).2 x c e, fun p hp => absurd (show p ∈ ([] : List (Addr × Obj)) ++ [] from hp) (by simp)⟩
  have elem : PE ((X.blk s3 H3 scope ce fp).wish (notedBy (model X.prog X.w) X.A ce fun e s' => cPost (model X.prog X.w) X.A X.xe use Qf (.ref D) ce (.error e) s')) elt te :=
    pe _ fun pB σB HB sB u s' IB c => by
      have z := block_air (E' := fun e s' => cPost (model X.prog X.w) X.A X.xe use Qf (.ref D) ce (.error e) s') J3 hst hfr hcf cL tk hW (fun b hb => (f3 b hb).1) IB c
      unfold notedBy
      exact thn z fun _ s2 hq => by cases use <;> exact hq
  have loop : codeAny (model X.prog X.w) X.A (.compLoop (.ListComp elt [⟨tg, iter, ifs, 0⟩] scope pos) 0 (.ref it) (.ref D) ce) (cPost (model X.prog X.w) X.A X.xe use Qf (.ref D) ce) s4 := by
    refine compLoop_any (fun n t => ∃ i G, L2.Inv (X.blk s3 H3 scope ce fp) [] (wipe σ (own.map (·.2))) G t ∧ tn i t.heap ∧ (∀ b ∈ fp, G b = none) ∧ Wl i n G) ?_ m0 ⟨0, H3, J4, st4, nfp, w0⟩
    rintro n s5 ⟨i, H5, J5, st5, n5, w5⟩
    rcases turn i n H5 w5 with ⟨stop, qq⟩ | ⟨go, Nx, hNx, step⟩
    · refine thnF (T.done (X.blk s3 H3 scope ce fp) rfl rfl rfl hc i [] s5 _ H5 (fun _ _ => False) J5 (stat J5 n5) st5 stop) fun r s6 ⟨hr, J6⟩ => ?_
      subst hr
      have J7 : L2.Inv X pins σ H5 s6 := J3.call' (ch := fp) J6.os J6.base J6.hok J6.bare fun b hb => ⟨(f3 b hb).1.2.2.2.1, (f3 b hb).1.2.1, (f3 b hb).1.2.2.2.2.1, (f3 b hb).1.2.2.2.2.2⟩
      have nC : H5 ce.locals = none := J6.free
      obtain ⟨m, hn, _⟩ := J6.loc
      exact hRR D ce s6 m H5 J7 qq hn (J3.fpOk (Nat.le_of_eq cL.symm) nC)
    · refine thnF (T.item (X.blk s3 H3 scope ce fp) rfl rfl rfl hc i [] s5 _ H5 (fun _ _ => False) J5 (stat J5 n5) st5 go) fun r s6 ⟨u, hr, h6⟩ => ?_
      subst hr
      refine thnF h6 fun _ s7 ⟨x, H7, J7, r7, y7, st7, n7⟩ => ?_
      refine thnF (pg.run _ s7 _ H7 x u _ (J7.pinned (stat J7 n7) (T.obj _ _ st7)) r7 (step x H7 y7)) fun _ s8 ⟨σ8, H8, J8, hw8, q8⟩ => ?_
      refine thnF (pt.run _ s8 σ8 H8 _ J8 q8) fun b s9 ⟨H9, J9, q9⟩ => ?_
      have fin : ∀ {t : Shared} {G : Hp}, L2.Inv (X.blk s3 H3 scope ce fp) ([] ++ pinsAt fp s7.heap) σ8 G t → Nx G → ∃ m, m < n ∧ ∃ i G, L2.Inv (X.blk s3 H3 scope ce fp) [] (wipe σ (own.map (·.2))) G t ∧ tn i t.heap ∧ (∀ b ∈ fp, G b = none) ∧ Wl i m G := fun {t G} J' nx => by
        obtain ⟨m', hm, w'⟩ := hNx G nx
        have held : ∀ b ∈ fp, ∀ o, s7.heap.get? b = some o → t.heap.get? b = some o ∧ G b = none := fun b hb o e =>
          have z := J'.pin (b, o) (List.mem_append_right _ (List.mem_append_right _ (mem_pinsAt hb e)))
          ⟨z.1, z.2.1⟩
        have hl : (wipe σ (own.map (·.2))).length = σ8.length := by rw [← hw8, wipe_length]
        refine ⟨m', hm, i + 1, G, (J'.unpinned (pins := [])).weak hl (fun j v e => (wipe_some (vs := own.map (·.2)) (by rw [hw8]; exact e)).1), T.keep _ _ _ st7 fun b hb o e => (held b hb o e).1, fun b hb => ?_, w'⟩
        obtain ⟨o, e, _⟩ := T.obj _ _ st7 b hb
        exact (held b hb o e).2
      cases b with
      | false => exact fin J9 q9
      | true =>
        refine thn (elem.run _ s9 σ8 H9 _ (J9.wish _) q9) fun z s10 ⟨yv, H10, J10, r10, acc, hD10, hz10, nx⟩ => ?_
        exact app_ok (X := X.blk s3 H3 scope ce fp) J10.unwish hD10 hz10 r10 fun s11 J11 => fin J11 nx
  exact codeAny_compStart_list loop (T.self X.A 0 _ _ _ st4 loop)

/-- the wish of a def that E leaves, for each stand of its slots -/
theorem pe_lcX {W : WX} {E : XK} {elt tg iter : Expr} {ifs : List Expr} {scope : Scope} {own : List (Str × Nat)} {pos : Pos} {wi : TI} {g : TG} {tt : TT} {te : TE} (hst : X.stack = X.env :: X.outer) (hfr : X.env.frame = some X.env.locals) (tk : Takes X W) (hW : ∀ cls d σ H', E cls d H' → W cls d σ H')
    (hc : X.calm = true) (hN : X.N.Nodup) (hi : PI X tg iter wi) (ok : BlkOk X.N X.env.scope scope own) (hg : ∀ (s : Shared) (H : Hp) (C : Addr) (cl : List (Str × Addr)) (fp : List Addr), PG (X.blk s H scope (compEnvC scope cl C X.env) fp) tg g)
    (ht : ∀ (s : Shared) (H : Hp) (C : Addr) (cl : List (Str × Addr)) (fp : List Addr), PTs (X.blk s H scope (compEnvC scope cl C X.env) fp) ifs tt) (he : EltX X E elt scope te) (hs : ∀ x, foldedSetIterable iter X.env x = pure x := by intro _; rfl) :
    PE X (.ListComp elt [⟨tg, iter, ifs, 0⟩] scope pos) (tLc wi g tt te (own.map (·.2))) := by
  refine ⟨fun pins s σ H Q J h => ?_⟩
  rw [eval_ListComp]
  refine lcX_core hst hfr tk (fun cls d H' => hW cls d σ H') hc hN J hi ok hg ht he hs h fun D ce s' m H' J' q hn f => ⟨m, hn, fun h2 sb => ?_⟩
  exact ⟨.ref D, H', J'.turned (t' := s'.toks) (fun b o hb e => (sb.2 b hb).trans e) f.1 f.2.1 f.2.2.2.1 f.2.2.2.2.1 f.2.2.2.2.2, rfl, q⟩

/-- name = [..] on one row, the name a local, the element one that may raise -/
theorem ps_setLcX {W : WX} {E : XK} {i : Nat} {y : Str} {py : Pos} {elt tg iter : Expr} {ifs : List Expr} {scope : Scope} {own : List (Str × Nat)} {pos spos : Pos} {wi : TI} {g : TG} {tt : TT} {te : TE} (hst : X.stack = X.env :: X.outer) (hfr : X.env.frame = some X.env.locals) (tk : Takes X W) (hW : ∀ cls d σ H', E cls d H' → W cls d σ H')
    (hc : X.calm = true) (hN : X.N.Nodup) (hy : X.N[i]? = some y) (hyl : X.env.scope.names.lookup y = some .local) (hsw : swapsWith (.ListComp elt [⟨tg, iter, ifs, 0⟩] scope pos) (some (.Name y py)) spos.line X.env = pure true) (hi : PI X tg iter wi) (ok : BlkOk X.N X.env.scope scope own)
    (hg : ∀ (s : Shared) (H : Hp) (C : Addr) (cl : List (Str × Addr)) (fp : List Addr), PG (X.blk s H scope (compEnvC scope cl C X.env) fp) tg g) (ht : ∀ (s : Shared) (H : Hp) (C : Addr) (cl : List (Str × Addr)) (fp : List Addr), PTs (X.blk s H scope (compEnvC scope cl C X.env) fp) ifs tt)
    (he : EltX X E elt scope te) (hs : ∀ x, foldedSetIterable iter X.env x = pure x := by intro _; rfl) : PS X (.Assign [.Name y py] (.ListComp elt [⟨tg, iter, ifs, 0⟩] scope pos) spos) (tAsg (tLc wi g tt te (own.map (·.2))) (gName i)) := by
  refine ⟨fun pins s σ H D J h => ?_⟩
  rw [exec_Assign_Name_used _ _ _ _ hsw]
  refine wpAny_bind (wpAny_standAt (wpAny_bind ?_))
  show wpAny _ X.A (do let _ ← comprehension (.ListComp elt [⟨tg, iter, ifs, 0⟩] scope pos) scope X.env (firstIterPos [⟨tg, iter, ifs, 0⟩] pos) (newList []) false (eval iter X.env) (some (assign (.Name y py) X.env))) _ _ s
  have h : tLc wi g tt te (own.map (·.2)) σ H (fun x H1 => gName i x σ H1 D.nx) := h
  refine wpAny_bind (thn (lcX_core (Qf := fun _ s' => SP X pins D .next s') hst hfr tk (fun cls d H' => hW cls d σ H') hc hN J hi ok hg ht he hs h fun L ce s' m H' J' q hn f => ?_) fun _ s' hq => wpAny_pure (wpAny_pure hq))
  show wpAny _ _ (assign (.Name y py) X.env (.ref L)) _ _ _
  refine wpAny_assign_Name (store_ok2 (v := V.ref L) J' hN hy (.inl hyl) rfl (fun s2 J2 ⟨a, sb, ha⟩ => ?_) (.inr hyl))
  have haC : ce.locals ≠ a := ha.elim (fun z => by rw [z]; exact f.2.1) fun z e => f.2.2.2.2.1 y a z e.symm
  refine ⟨m, hn.sameBut sb haC, fun h3 sb3 => ?_⟩
  exact ⟨_, H', J2.turned (t' := s2.toks) (fun b o hb e => (sb3.2 b hb).trans e) f.1 f.2.1 f.2.2.2.1 f.2.2.2.2.1 f.2.2.2.2.2, q⟩
end
end Ow

end
section
/-! Ow6: defs, methods, makers by their names: one fact each. -/
namespace Ow
open PySem L2
open PySem.Spec PyProof.Rows

abbrev FnQ (K : W.Frag) (x q : Str) (st : Stmt) (f : Addr) (fd : FuncData) : Prop := FunD K x q (defArgs st) (defBody st) (defScope st) [] [] f fd
/-- a def of the text under a global name -/
structure Dfn (K : W.Frag) (mg : Str → Option Value) (x : Str) (st : Stmt) (ps : List Str) : Prop where
  ex : ∃ (f : Addr) (fd : FuncData), FnQ K x x st f fd ∧ mg x = some (.ref f) ∧ Binds K fd ps [] ∧ ∀ (p : Str), ps = [p] → ∀ (s : Shared) (u : Value), BindsTo s fd ⟨[], [(p, u)]⟩ [(p, u)]
/-- a method of the text -/
structure Mdf (K : W.Frag) (C : Addr) (m q : Str) (st : Stmt) (ps : List Str) : Prop where
  ex : ∃ (f : Addr) (fd : FuncData), FnQ K m q st f fd ∧ Meth K C m f ∧ Binds K fd ps []
/-- a plain class's __init__ -/
structure Idf (K : W.Frag) (mg : Str → Option Value) (x : Str) (C : Addr) (q : Str) (st : Stmt) (ps : List Str) : Prop where
  ex : ∃ (f : Addr) (fd : FuncData), FnQ K "__init__" q st f fd ∧ Mk K C f ∧ Binds K fd ps []
  gl : mg x = some (.ref C)
/-- what may be called by the name x -/
structure Cal (P : Program) (w : World) (K : W.Frag) (mg : Str → Option Value) (base : Heap) (CX : CXT) (k : Nat) (x : Str) (ps : List Str) (sp : Sp) : Prop where
  ex : ∃ (f : Addr) (fd : FuncData), FnOk P w K mg base CX k f fd ps sp ∧ mg x = some (.ref f) ∧ W.keepIn K (.ref f) = true ∧ Binds K fd ps [] ∧ ∀ (p : Str), ps = [p] → ∀ (s : Shared) (u : Value), BindsTo s fd ⟨[], [(p, u)]⟩ [(p, u)]
structure Met (P : Program) (w : World) (K : W.Frag) (mg : Str → Option Value) (base : Heap) (CX : CXT) (k : Nat) (C : Addr) (m : Str) (ps : List Str) (sp : Sp) : Prop where
  ex : ∃ (f : Addr) (fd : FuncData), FnOk P w K mg base CX k f fd ps sp ∧ Meth K C m f ∧ Binds K fd ps []
structure Ini (P : Program) (w : World) (K : W.Frag) (mg : Str → Option Value) (base : Heap) (CX : CXT) (k : Nat) (x : Str) (C : Addr) (ps : List Str) (sp : Sp) : Prop where
  ex : ∃ (f : Addr) (fd : FuncData), FnOk P w K mg base CX k f fd ps sp ∧ Mk K C f ∧ Binds K fd ps []
  gl : mg x = some (.ref C)
section
variable {P : Program} {w : World} {K : W.Frag} {mg : Str → Option Value} {base : Heap} {CX : CXT} {k : Nat} {x m q : Str} {C : Addr} {st : Stmt} {N ps : List Str} {sp : Sp}
/-- what is to be shown of a body -/
abbrev Body (P : Program) (w : World) (K : W.Frag) (mg : Str → Option Value) (base : Heap) (CX : CXT) (k : Nat) (q : Str) (st : Stmt) (N : List Str) (sp : Sp) : Prop :=
  ∀ (f : Addr) (cdv : Value) (A : Around) (outer : List Env) (s : Shared) (H : Hp) (vs : List V) (Q : VK) (E : XK), Room k (A.deeper (envOfC q (defScope st) s.heap.objs.size f cdv)) → sp vs H Q E →
    ∃ t, PSs (cxOf CX P w K mg base N q (defScope st) f cdv A outer s H E) (defBody st) t ∧ t { nx := fun _ H' => Q .non H', rt := Q } (L2.start N vs) H
theorem Dfn.cal (D : Dfn K mg x st ps) (S : FnScope N ps (defScope st)) (len : ∀ vs H Q E, sp vs H Q E → vs.length = ps.length) (b : Body P w K mg base CX k x st N sp) : Cal P w K mg base CX (k + 1) x ps sp := by
  obtain ⟨f, fd, F, g, bd, kb⟩ := D.ex
  exact ⟨f, fd, F.ok S len (b f), g, F.kp, bd, kb⟩
theorem Mdf.met (D : Mdf K C m q st ps) (S : FnScope N ps (defScope st)) (len : ∀ vs H Q E, sp vs H Q E → vs.length = ps.length) (b : Body P w K mg base CX k q st N sp) : Met P w K mg base CX (k + 1) C m ps sp := by
  obtain ⟨f, fd, F, g, bd⟩ := D.ex
  exact ⟨f, fd, F.ok S len (b f), g, bd⟩
theorem Idf.ini (D : Idf K mg x C q st ps) (S : FnScope N ps (defScope st)) (len : ∀ vs H Q E, sp vs H Q E → vs.length = ps.length) (b : Body P w K mg base CX k q st N sp) : Ini P w K mg base CX (k + 1) x C ps sp := by
  obtain ⟨f, fd, F, g, bd⟩ := D.ex
  exact ⟨⟨f, fd, F.ok S len (b f), g, bd⟩, D.gl⟩
end

section
variable {X : Cx} {CX : CXT} {k : Nat} {x m : Str} {C : Addr} {ps : List Str} {sp : Sp} {E : XK} {p pos apos : Pos} {e o : Expr} {es : List Expr} {ta t : TA} {te : TE}
def tCl (sp : Sp) (E : XK) (t : TA) : TE := fun σ H Q => t σ H fun vs H1 => sp vs H1 Q E
theorem nil_end {sp : Sp} {Q : VK} {E : XK} : (fun (vs : List V) H1 => sp (vs ++ []) H1 Q E) = fun vs H1 => sp vs H1 Q E := by
  funext vs H1
  rw [List.append_nil]
/-- f(e, ..) -/
theorem pe_cl (G : Cal X.prog X.w X.K X.mg X.base CX k x ps sp) (hr : Room k X.A) (hx : Passes CX X E) (ha : PA X (e :: es) t) (hg : Gl X x := by rfl) (hdb : (x == ("__debug__" : Str)) = false := by decide)
    (he : starEach (e :: es) X.env = (false, eval e X.env) :: starEach es X.env := by rfl) (hpl : (backTo pos (starEach es X.env)).any (·.1) = false := by rfl) : PE X (.Call (.Name x p) (e :: es) [] pos) (tCl sp E t) := by
  obtain ⟨f, fd, F, g, kp, bd, _⟩ := G.ex
  refine ⟨fun pins s σ H Q I h => (pe_call F hr hg g kp bd .nil hx ha hdb he hpl).run pins s σ H Q I ?_⟩
  show t σ H fun vs H1 => sp (vs ++ []) H1 Q E
  rw [nil_end]
  exact h
/-- f() -/
theorem pe_cl0 (G : Cal X.prog X.w X.K X.mg X.base CX k x ps sp) (hr : Room k X.A) (hx : Passes CX X E) (hg : Gl X x := by rfl) (hdb : (x == ("__debug__" : Str)) = false := by decide) : PE X (.Call (.Name x p) [] [] pos) (fun _ H Q => sp [] H Q E) := by
  obtain ⟨f, fd, F, g, kp, bd, _⟩ := G.ex
  exact ⟨fun pins s σ H Q I h => (pe_call0 F hr hg g kp bd .nil hx hdb).run pins s σ H Q I h⟩
/-- one keyword's value alone -/
def lone {α : Type} (us ws : List α) : List α := match us, ws with
  | [], [u] => [u]
  | _, _ => []
/-- f(p = e), p the only parameter -/
theorem pe_clK {y : Str} {kp kpos : Pos} (G : Cal X.prog X.w X.K X.mg X.base CX k x [y] sp) (hr : Room k X.A) (hx : Passes CX X E) (ha : PE X e te) (hg : Gl X x := by rfl) (hdb : (x == ("__debug__" : Str)) = false := by decide)
    (hall : (backToKw pos (keywordEach [⟨some y, e, kpos⟩] X.env)).all (·.1.isSome) = true := by rfl) (hks : (backToKw pos (keywordEach [⟨some y, e, kpos⟩] X.env)).filterMap (·.1) = [y] := by rfl)
    (hpl : ((backTo pos (starEach [] X.env)).any (·.1) || (backToKw pos (keywordEach [⟨some y, e, kpos⟩] X.env)).any (·.1.isNone)) = false := by rfl) :
    PE X (.Call (.Name x p) [] [⟨some y, e, kpos⟩] pos) (fun σ H Q => te σ H fun v H1 => sp [v] H1 Q E) := by
  obtain ⟨f, fd, F, g, kf, _, kb⟩ := G.ex
  refine ⟨fun pins s σ H Q I h => ?_⟩
  refine wpAny_Call_Name_kw (ld_glob I hg g ?_ hdb)
  refine W.callWith_KW0 (h₀ := X.base) I.ok.mod.kin kf hall (thn ((pk_cons ha pk_nil).run pos pins s σ H (fun vs H1 => ∃ v, vs = [v] ∧ sp [v] H1 Q E) I ?_) fun ws s2 ⟨zs, H2, I2, rz, v, ez, q⟩ => ⟨I2.kIn, ?_⟩) hpl
  · show te σ H fun v H1 => ∃ u, [v] = [u] ∧ sp [u] H1 Q E
    have e2 : (fun (v : V) (H1 : Hp) => ∃ u, [v] = [u] ∧ sp [u] H1 Q E) = fun v H1 => sp [v] H1 Q E := by
      funext v H1
      refine propext ⟨fun ⟨u, eu, q⟩ => ?_, fun q => ⟨v, rfl, q⟩⟩
      cases eu
      exact q
    rw [e2]
    exact h
  · rw [hks]
    subst ez
    obtain ⟨u, rfl, ru⟩ := vals1 rz
    have kB : KBinds X.K fd [y] [y] lone lone := by
      refine ⟨fun s us ws _ hl => ?_, fun {vs us zs ws} r1 r2 => ?_⟩
      · cases us with
        | cons _ _ => cases hl
        | nil =>
          cases ws with
          | nil => cases hl
          | cons u r =>
            cases r with
            | nil => exact kb y rfl s u
            | cons _ _ => cases hl
      · cases r1 with
        | cons _ _ => exact .nil
        | nil =>
          cases r2 with
          | nil => exact .nil
          | cons r r' =>
            cases r' with
            | nil => exact .cons r .nil
            | cons _ _ => exact .nil
    exact run_fnk (us := []) (vs := []) F hr kB hx I2 .nil rz q
def tMt (C : Addr) (m : Str) (sp : Sp) (E : XK) (ta : TE) (t : TA) : TE := fun σ H Q => ta σ H fun x H1 => ∃ a dx fs, x = .ref a ∧ H1 a = some (.ins C dx fs) ∧ fs.lookup m = none ∧ t σ H1 fun vs H2 => sp (x :: vs) H2 Q E
/-- o.m(e, ..) -/
theorem pe_mt {pl : Sem Bool} {to : TE} (he : PE X o to) (c : Cls X.K C) (G : Met X.prog X.w X.K X.mg X.base CX k C m ps sp) (hr : Room k X.A) (hx : Passes CX X E) (ha : PA X (e :: es) t)
    (hst : starEach (e :: es) X.env = (false, eval e X.env) :: starEach es X.env := by rfl) (hpl : (backTo pos (starEach es X.env)).any (·.1) = false := by rfl)
    (ht : eval (.Call (.Attribute o m apos) (e :: es) [] pos) X.env = (do
      let ov ← eval o X.env
      standAt apos.atName
      let (f, first) ← holding [ov] (getMethod ov m pl)
      callWith pos f first (backTo pos (starEach (e :: es) X.env)) (backToKw pos (keywordEach [] X.env))) := by rfl) : PE X (.Call (.Attribute o m apos) (e :: es) [] pos) (tMt C m sp E to t) := by
  obtain ⟨f, fd, F, hm, bd⟩ := G.ex
  refine ⟨fun pins s σ H Q I h => (pe_meth he c hm F hr bd .nil hx ha hst hpl ht).run pins s σ H Q I ?_⟩
  show to σ H fun x H1 => ∃ a dx fs, x = .ref a ∧ H1 a = some (.ins C dx fs) ∧ fs.lookup m = none ∧ t σ H1 fun vs H2 => sp (x :: (vs ++ [])) H2 Q E
  simp only [List.append_nil]
  exact h
/-- o.m() -/
theorem pe_mt0 {pl : Sem Bool} {to : TE} (he : PE X o to) (c : Cls X.K C) (G : Met X.prog X.w X.K X.mg X.base CX k C m ps sp) (hr : Room k X.A) (hx : Passes CX X E)
    (ht : eval (.Call (.Attribute o m apos) [] [] pos) X.env = (do
      let ov ← eval o X.env
      standAt apos.atName
      let (f, first) ← holding [ov] (getMethod ov m pl)
      callWith pos f first (backTo pos (starEach [] X.env)) (backToKw pos (keywordEach [] X.env))) := by rfl) : PE X (.Call (.Attribute o m apos) [] [] pos) (tMt C m sp E to tNil) := by
  obtain ⟨f, fd, F, hm, bd⟩ := G.ex
  exact ⟨fun pins s σ H Q I h => (pe_meth0 he c hm F hr bd .nil hx ht).run pins s σ H Q I h⟩
def tMk (C : Addr) (sp : Sp) (E : XK) (t : TA) : TE := fun σ H Q => t σ H fun vs H1 => ∀ x dx, H1 x = none → H1 dx = none → dx ≠ x → sp (.ref x :: vs) (upd (upd H1 dx (.own x)) x (.ins C dx [])) (fun v H2 => v = .non ∧ Q (.ref x) H2) E
/-- C(e, ..) -/
theorem pe_mk (G : Ini X.prog X.w X.K X.mg X.base CX k x C ps sp) (hr : Room (k + 1) X.A) (hx : Passes CX X E) (ha : PA X (e :: es) t) (hg : Gl X x := by rfl) (hdb : (x == ("__debug__" : Str)) = false := by decide)
    (he : starEach (e :: es) X.env = (false, eval e X.env) :: starEach es X.env := by rfl) (hpl : (backTo pos (starEach es X.env)).any (·.1) = false := by rfl) : PE X (.Call (.Name x p) (e :: es) [] pos) (tMk C sp E t) := by
  obtain ⟨f, fd, F, M, bd⟩ := G.ex
  refine ⟨fun pins s σ H Q I h => (pe_make M F hr hg G.gl bd .nil hx ha hdb he hpl).run pins s σ H Q I ?_⟩
  show t σ H fun vs H1 => ∀ x dx, H1 x = none → H1 dx = none → dx ≠ x → sp (.ref x :: (vs ++ [])) (upd (upd H1 dx (.own x)) x (.ins C dx [])) (fun v H2 => v = .non ∧ Q (.ref x) H2) E
  simp only [List.append_nil]
  exact h
/-- a call that raises nothing, of a def that may -/
theorem passN {P : Program} {w : World} {X : Cx} : Passes (L2.CX P w) X E0 := fun _ _ _ _ _ _ _ ⟨_, _, _, _, _, _, _, _, _, _, _, _, z⟩ => z.elim
/-- within a def that may raise -/
theorem passX {X : Cx} {W : WX} {E : XK} (tk : Takes X W) (hW : ∀ cls d σ H, E cls d H → W cls d σ H) : Passes (L2.CX X.prog X.w) X E := passes_call tk hW
end
end Ow

end
section
/-! Ow7: data at any depth: its type, its order, repr. -/
namespace Ow
open PySem L2
open PySem.Spec PyProof.Rows

/-! ### data -/
/-- a datum, or an empty dict -/
def Vd (K : W.Frag) (H : Hp) (v : V) (d : PyData) : Prop := Dp K H v d ∨ ∃ a, v = .ref a ∧ H a = some (.dK []) ∧ d = .dict []
theorem Vd.of {K : W.Frag} {H : Hp} {v : V} {d : PyData} (h : Dp K H v d) : Vd K H v d := .inl h
mutual
theorem Dp.ext {K : W.Frag} {H H' : Hp} (e : Ext H H') : ∀ {d : PyData} {v : V}, Dp K H v d → Dp K H' v d
  | .none, _, h => by cases h; exact .non
  | .bool b, _, h => by cases h; exact .bl b
  | .int i, _, h => by cases h; exact .int i
  | .str x, _, h => by cases h; exact .str x
  | .list ds, _, h => by
    cases h with
    | lst q r => exact .lst (q.ext e) (DpAll.ext e r)
  | .tuple ds, _, h => by
    cases h with
    | tup q r => exact .tup (q.ext e) (DpAll.ext e r)
  | .dict _, _, h => by cases h
theorem DpAll.ext {K : W.Frag} {H H' : Hp} (e : Ext H H') : ∀ {ds : List PyData} {vs : List V}, DpAll K H vs ds → DpAll K H' vs ds
  | [], _, h => by cases h; exact .nil
  | _ :: _, _, h => by
    cases h with
    | cons q r => exact .cons (Dp.ext e q) (DpAll.ext e r)
end
theorem Vd.ext {K : W.Frag} {H H' : Hp} (e : Ext H H') {d : PyData} {v : V} (h : Vd K H v d) : Vd K H' v d := by
  rcases h with h | ⟨a, h1, h2, h3⟩
  · exact .inl (Dp.ext e h)
  · exact .inr ⟨a, h1, e _ _ h2, h3⟩
theorem DpAll.length {K : W.Frag} {H : Hp} : ∀ {ds : List PyData} {vs : List V}, DpAll K H vs ds → vs.length = ds.length
  | [], _, h => by cases h; rfl
  | _ :: _, _, h => by
    cases h with
    | cons _ r => rw [List.length_cons, List.length_cons, DpAll.length r]
theorem DpAll.get {K : W.Frag} {H : Hp} : ∀ {ds : List PyData} {vs : List V} {i : Nat} {d : PyData}, DpAll K H vs ds → ds[i]? = some d → ∃ v, vs[i]? = some v ∧ Dp K H v d
  | [], _, i, d, h, e => by simp at e
  | x :: r, _, 0, d, h, e => by
    cases h with
    | cons q _ =>
      cases e
      exact ⟨_, rfl, q⟩
  | x :: r, _, i + 1, d, h, e => by
    cases h with
    | cons _ q => exact DpAll.get (i := i) q (by simpa using e)
theorem DpAll.getV {K : W.Frag} {H : Hp} : ∀ {ds : List PyData} {vs : List V} {i : Nat} {v : V}, DpAll K H vs ds → vs[i]? = some v → ∃ d, ds[i]? = some d ∧ Dp K H v d
  | _, [], i, v, h, e => by simp at e
  | _, x :: r, 0, v, h, e => by
    cases h with
    | cons q _ =>
      cases e
      exact ⟨_, rfl, q⟩
  | _, x :: r, i + 1, v, h, e => by
    cases h with
    | cons _ q => exact DpAll.getV (i := i) q (by simpa using e)
theorem DpAll.app {K : W.Frag} {H : Hp} : ∀ {ds es : List PyData} {vs us : List V}, DpAll K H vs ds → DpAll K H us es → DpAll K H (vs ++ us) (ds ++ es)
  | [], _, _, _, h, g => by cases h; exact g
  | _ :: _, _, _, _, h, g => by
    cases h with
    | cons q r => exact .cons q (DpAll.app r g)
theorem DpAll.one {K : W.Frag} {H : Hp} {v : V} {d : PyData} (h : Dp K H v d) : DpAll K H [v] [d] := .cons h .nil
theorem DpAll.drop {K : W.Frag} {H : Hp} : ∀ (n : Nat) {ds : List PyData} {vs : List V}, DpAll K H vs ds → DpAll K H (vs.drop n) (ds.drop n)
  | 0, _, _, h => h
  | n + 1, [], _, h => by cases h; exact .nil
  | n + 1, _ :: _, _, h => by
    cases h with
    | cons _ r => exact DpAll.drop n r
theorem DpAll.take {K : W.Frag} {H : Hp} : ∀ (n : Nat) {ds : List PyData} {vs : List V}, DpAll K H vs ds → DpAll K H (vs.take n) (ds.take n)
  | 0, _, _, h => .nil
  | n + 1, [], _, h => by cases h; exact .nil
  | n + 1, _ :: _, _, h => by
    cases h with
    | cons q r => exact .cons q (DpAll.take n r)
theorem DpAll.strs {K : W.Frag} {H : Hp} : ∀ (l : List Str), DpAll K H (l.map V.str) (l.map PyData.str)
  | [] => .nil
  | x :: r => .cons (.str x) (DpAll.strs r)
theorem DpAll.ints {K : W.Frag} {H : Hp} : ∀ (l : List Int), DpAll K H (l.map V.int) (l.map PyData.int)
  | [] => .nil
  | x :: r => .cons (.int x) (DpAll.ints r)
/-- a text's datum is a text -/
theorem Vd.str {K : W.Frag} {H : Hp} {v : V} {x : Str} (h : Vd K H v (.str x)) : v = .str x := by
  rcases h with h | ⟨_, _, _, h⟩
  · cases h; rfl
  · cases h
theorem Vd.int {K : W.Frag} {H : Hp} {v : V} {i : Int} (h : Vd K H v (.int i)) : v = .int i := by
  rcases h with h | ⟨_, _, _, h⟩
  · cases h; rfl
  · cases h
theorem Dp.strV {K : W.Frag} {H : Hp} {v : V} {x : Str} (h : Dp K H v (.str x)) : v = .str x := by cases h; rfl
theorem Dp.intV {K : W.Frag} {H : Hp} {v : V} {i : Int} (h : Dp K H v (.int i)) : v = .int i := by cases h; rfl
theorem Dp.nonV {K : W.Frag} {H : Hp} {v : V} (h : Dp K H v .none) : v = .non := by cases h; rfl
theorem Dp.blV {K : W.Frag} {H : Hp} {v : V} {b : Bool} (h : Dp K H v (.bool b)) : v = .bl b := by cases h; rfl
theorem Dp.lstV {K : W.Frag} {H : Hp} {v : V} {ds : List PyData} (h : Dp K H v (.list ds)) : ∃ a xs, v = .ref a ∧ SqL K H a xs ∧ DpAll K H xs ds := by
  cases h with
  | lst q r => exact ⟨_, _, rfl, q, r⟩
theorem Dp.tupV {K : W.Frag} {H : Hp} {v : V} {ds : List PyData} (h : Dp K H v (.tuple ds)) : ∃ a xs, v = .ref a ∧ SqT K H a xs ∧ DpAll K H xs ds := by
  cases h with
  | tup q r => exact ⟨_, _, rfl, q, r⟩

/-! ### types -/
def tyName : PyData → String
  | .none => "NoneType"
  | .bool _ => "bool"
  | .int _ => "int"
  | .str _ => "str"
  | .list _ => "list"
  | .tuple _ => "tuple"
  | .dict _ => "dict"
theorem SqL.tyx {K : W.Frag} {H : Hp} {a : Addr} {xs : List V} (h : SqL K H a xs) : TyX K H (.ref a) (.type "list") := by
  rcases h with (h | ⟨o, h⟩) | ⟨o, its, n, h, c, _⟩
  · exact .base (.lst h)
  · exact .base (.frz h)
  · exact .kList h c
theorem SqT.tyx {K : W.Frag} {H : Hp} {a : Addr} {xs : List V} (h : SqT K H a xs) : TyX K H (.ref a) (.type "tuple") := by
  rcases h with (h | ⟨o, h⟩) | ⟨o, its, n, h, c, _⟩
  · exact .base (.tup h)
  · exact .fTuple h
  · exact .kTuple h c
theorem Vd.tyx {K : W.Frag} {H : Hp} {v : V} {d : PyData} (h : Vd K H v d) : TyX K H v (.type (tyName d)) := by
  rcases h with h | ⟨a, rfl, h, rfl⟩
  · cases h with
    | non => exact .base .non
    | bl b => exact .base (.bl b)
    | int i => exact .base (.int i)
    | str x => exact .base (.str x)
    | lst q _ => exact SqL.tyx q
    | tup q _ => exact SqT.tyx q
  · exact .base (.dK h)
def dInt : PyData → Bool
  | .int _ => true
  | _ => false
def dBool : PyData → Bool
  | .bool _ => true
  | _ => false
def dStr : PyData → Bool
  | .str _ => true
  | _ => false
def dSeq : PyData → Bool
  | .list _ => true
  | .tuple _ => true
  | _ => false
theorem kit_int (d : PyData) : kitB (tyName d) "int" = some (dInt d || dBool d) := by cases d <;> simp only [tyName, dInt, dBool, Bool.or_true, Bool.or_false] <;> decide +kernel
theorem kit_bool (d : PyData) : kitB (tyName d) "bool" = some (dBool d) := by cases d <;> simp only [tyName, dBool] <;> decide +kernel
theorem kit_str (d : PyData) : kitB (tyName d) "str" = some (dStr d) := by cases d <;> simp only [tyName, dStr] <;> decide +kernel
def dLst : PyData → Bool
  | .list _ => true
  | _ => false
def dTup : PyData → Bool
  | .tuple _ => true
  | _ => false
theorem kit_list (d : PyData) : kitB (tyName d) "list" = some (dLst d) := by cases d <;> simp only [tyName, dLst] <;> decide +kernel
theorem kit_tuple (d : PyData) : kitB (tyName d) "tuple" = some (dTup d) := by cases d <;> simp only [tyName, dTup] <;> decide +kernel
/-- isinstance(x, T) of a datum -/
theorem isi_rd {K : W.Frag} {H : Hp} {v : V} {d : PyData} {n : String} {b : Bool} {Q : VK} (h : Vd K H v d) (e : kitB (tyName d) n = some b) (q : Q (.bl b) H) : rIsi K [v, .ty n] H Q :=
  ⟨v, .ty n, _, _, b, rfl, .ty n, h.tyx, kit_ty e, q⟩
theorem isi2_rd {K : W.Frag} {H : Hp} {v : V} {d : PyData} {tp : Addr} {Q : VK} (h : Vd K H v d) (ht : H tp = some (.tup [.ty "list", .ty "tuple"])) (q : Q (.bl (dSeq d)) H) : rIsiT K [v, .ref tp] H Q := by
  refine ⟨v, tp, _, _, [.type "list", .type "tuple"], dSeq d, rfl, ht, .cons (.ty _) (.cons (.ty _) .nil), h.tyx, ?_, q⟩
  refine kitAny_cons (kit_ty (kit_list d)) (fun e1 => kitAny_cons (kit_ty (kit_tuple d)) (fun e2 => ?_) fun e2 => ?_) fun e1 => ?_
  · rw [kitAny_nil]
    cases d <;> simp_all [dSeq, dLst, dTup]
  · cases d <;> simp_all [dSeq, dTup]
  · cases d <;> simp_all [dSeq, dLst]
end Ow

end
section
/-! Ow8: readings cut in two: a statement's own, what comes behind. -/
namespace Ow
open PySem L2
open PySem.Spec PyProof.Rows
section
variable {te : TE} {tt : TT} {g : TG} {i : Nat} {t a b tb : TS} {D : Ends} {σ : L2.St} {H : Hp}
theorem cut_asg (P : V → Hp → Prop) (h : ∀ Q : VK, (∀ v H', P v H' → Q v H') → te σ H Q) (k : ∀ v H', P v H' → t D (σ.set i (some v)) H') : tSeq (tAsg te (gName i)) t D σ H := h _ k
theorem cut_drop (P : V → Hp → Prop) (h : ∀ Q : VK, (∀ v H', P v H' → Q v H') → te σ H Q) (k : ∀ v H', P v H' → t D σ H') : tSeq (tDrop te) t D σ H := h _ k
theorem cut_if (P : Bool → Hp → Prop) (h : ∀ Q : Bool → Hp → Prop, (∀ c H', P c H' → Q c H') → tt σ H Q) (k : ∀ c H', P c H' → if c = true then a { D with nx := t D } σ H' else b { D with nx := t D } σ H') : tSeq (tIfS tt a b) t D σ H := h _ k
theorem cut_if1 (P : Bool → Hp → Prop) (h : ∀ Q : Bool → Hp → Prop, (∀ c H', P c H' → Q c H') → tt σ H Q) (k : ∀ c H', P c H' → if c = true then a D σ H' else b D σ H') : tIfS tt a b D σ H := h _ k
theorem cut_ifn (P : Bool → Hp → Prop) (h : ∀ Q : Bool → Hp → Prop, (∀ c H', P c H' → Q c H') → tt σ H Q) (k : ∀ c H', P c H' → if c = true then a { D with nx := t D } σ H' else t D σ H') : tSeq (tIfS tt a tNext) t D σ H := h _ k
/-- a statement that only goes on -/
theorem cut_tseq {st : TS} (P : L2.St → Hp → Prop) (h : ∀ nx : L2.St → Hp → Prop, (∀ σ' H', P σ' H' → nx σ' H') → st { D with nx := nx } σ H) (k : ∀ σ' H', P σ' H' → t D σ' H') : tSeq st t D σ H := h _ k
/-- a value -/
theorem cut_te (P : V → Hp → Prop) {Q : VK} (h : ∀ Q : VK, (∀ v H', P v H' → Q v H') → te σ H Q) (k : ∀ v H', P v H' → Q v H') : te σ H Q := h _ k
theorem cut_tt (P : Bool → Hp → Prop) {Q : Bool → Hp → Prop} (h : ∀ Q : Bool → Hp → Prop, (∀ v H', P v H' → Q v H') → tt σ H Q) (k : ∀ v H', P v H' → Q v H') : tt σ H Q := h _ k
end

theorem map_of {α β : Type} {g : α → β} {a : List α} {ys : List β} (hl : ys.length = a.length) (h : ∀ (i : Nat) (y : β), ys[i]? = some y → ∃ c, a[i]? = some c ∧ y = g c) : ys = a.map g := by
  refine List.ext_getElem? fun i => ?_
  rw [List.getElem?_map]
  cases e : ys[i]? with
  | none =>
    rw [List.getElem?_eq_none (by have := List.getElem?_eq_none_iff.mp e; omega)]
    rfl
  | some y =>
    obtain ⟨c, e1, e2⟩ := h i y e
    rw [e1, e2]
    rfl
/-- all of a comprehension's answers -/
theorem all_rd {K : W.Frag} {H : Hp} {D : Addr} {bs : List Bool} {Q : VK} (h : H D = some (.lst (bs.map V.bl))) (q : Q (.bl (bs.all id)) H) : rAll K [.ref D] H Q := ⟨D, bs, rfl, SqL.of h, q⟩
section
variable {J : It} {n : Nat} {G : Hp → Prop} {Y : Nat → Hp → V → Hp → Prop}
/-- a comprehension whose element's values are told without the heap -/
theorem lc_scal (w : Walk J n G Y) {g : TG} {te : TE} {vs : List Nat} {σ : L2.St} {H1 : Hp} {D : Addr} {Qd : Hp → Prop} (hD : H1 D = none) (R : Nat → V → Prop) (hn : n < sizeLine) (hG : ∀ H, Ext H1 H → G H) (hY : ∀ i H x H', Y i H x H' → Ext H H')
    (hs : ∀ i x H H', i < n → Ext H1 H → Y i H x H' → ∀ Q' : VK, (∀ y H2, Ext H' H2 → R i y → Q' y H2) → g x (wipe σ vs) H' fun σ2 H2 => wipe σ2 vs = wipe σ vs ∧ te σ2 H2 Q')
    (hd : ∀ ys H, ys.length = n → (∀ i y, ys[i]? = some y → R i y) → Ext H1 H → H D = some (.lst ys) → Qd H) :
    ∃ W : Nat → Nat → Hp → Prop, (∃ m, W 0 m (upd H1 D (.lst []))) ∧ ∀ i m H, W i m H →
      (J.stop i H ∧ Qd H) ∨ (J.go i H ∧ ∃ Nx : Hp → Prop, (∀ H', Nx H' → ∃ m', m' < m ∧ W (i + 1) m' H') ∧ ∀ x H', J.yld i H x H' → g x (wipe σ vs) H' fun σ2 H2 => wipe σ2 vs = wipe σ vs ∧ tYes σ2 H2 fun b H3 =>
        if b = true then te σ2 H3 fun y H4 => ∃ acc, H4 D = some (.lst acc) ∧ acc.length < sizeLine ∧ Nx (upd H4 D (.lst (acc ++ [y]))) else Nx H3) := by
  have k0 : ∀ {H2 : Hp} {o : HO}, Ext H1 H2 → Ext H1 (upd H2 D o) := fun {H2 o} e b u hb => by
    rw [upd_ne (ne_of_none hb hD)]
    exact e b u hb
  refine lc_it w (fun i H => ∃ ys, ys.length = i ∧ (∀ j y, ys[j]? = some y → R j y) ∧ Ext H1 H ∧ H D = some (.lst ys)) ⟨[], rfl, fun j y e => by simp at e, k0 Ext.rfl', upd_same⟩ (fun i H _ ⟨_, _, _, e, _⟩ => hG H e) ?_ ?_
  · rintro i x H H' hi ⟨ys, hl, hR, e, hDy⟩ y
    refine hs i x H H' hi e y (fun z H4 => ∃ acc, H4 D = some (.lst acc) ∧ acc.length < sizeLine ∧ ∃ ys, ys.length = i + 1 ∧ (∀ j y, ys[j]? = some y → R j y) ∧ Ext H1 (upd H4 D (.lst (acc ++ [z]))) ∧ upd H4 D (.lst (acc ++ [z])) D = some (.lst ys)) fun z H4 e4 hz => ?_
    have e5 : Ext H H4 := (hY i H x H' y).trans e4
    refine ⟨ys, e5 _ _ hDy, by rw [hl]; exact Nat.lt_trans hi hn, ys ++ [z], by rw [List.length_append, hl]; rfl, fun j u hj => ?_, k0 (e.trans e5), upd_same⟩
    by_cases c : j < i
    · rw [List.getElem?_append_left (by omega)] at hj
      exact hR j u hj
    · rw [List.getElem?_append_right (by omega)] at hj
      have c2 : j = i := by
        by_cases c3 : j - ys.length = 0
        · omega
        · rw [List.getElem?_eq_none (by simp; omega)] at hj
          cases hj
      subst c2
      rw [hl, Nat.sub_self] at hj
      cases hj
      exact hz
  · rintro H ⟨ys, hl, hR, e, hDy⟩
    exact hd ys H hl hR e hDy
end
end Ow

end
section
/-! Ow9: texts as lists of code points: slices, comparisons, signs. -/
namespace Ow
open PySem L2
open PySem.Spec PyProof.Rows
abbrev S (l : List Nat) : Str := SX.S l
theorem S_of (x : Str) : x = S x.cps.toList := by cases x; simp [S, SX.S]
theorem S_len (a : List Nat) : (S a).length = a.length := SX.S_len a
theorem S_inj {a b : List Nat} (h : S a = S b) : a = b := SX.S_inj h
theorem dec_S {a b : List Nat} : decide (V.str (S a) = V.str (S b)) = decide (a = b) := by
  by_cases c : a = b
  · subst c
    simp
  · rw [decide_eq_false c, decide_eq_false]
    intro z
    cases z
    exact c rfl
theorem rEq_S {a b : List Nat} {s : Str} {H : Hp} {Q : VK} (e : s = S b) (q : Q (.bl (decide (a = b))) H) : rEq (.str (S a)) (.str s) H Q := by
  subst e
  refine ⟨rfl, ?_⟩
  rw [dec_S]
  exact q
theorem rNe_S {a b : List Nat} {s : Str} {H : Hp} {Q : VK} (e : s = S b) (q : Q (.bl (!decide (a = b))) H) : rNe (.str (S a)) (.str s) H Q := by
  subst e
  refine ⟨rfl, ?_⟩
  rw [dec_S]
  exact q
theorem S_take {a : List Nat} {n : Nat} : cutS (S a) none (some (n : Int)) = S (a.take n) := by
  unfold cutS
  rw [S_len, HT.sIx_none, HT.sIx_nat, Nat.sub_zero, List.drop_zero]
  have e : (S a).cps.toList = a := by simp [S, SX.S]
  rw [e]
  by_cases c : n ≤ a.length
  · rw [Nat.min_eq_left c]
  · rw [Nat.min_eq_right (by omega), List.take_of_length_le (Nat.le_refl _), List.take_of_length_le (by omega)]
theorem S_drop {a : List Nat} {n : Nat} : cutS (S a) (some (n : Int)) none = S (a.drop n) := by
  unfold cutS
  rw [S_len, HT.sIx_none, HT.sIx_nat]
  have e : (S a).cps.toList = a := by simp [S, SX.S]
  rw [e]
  by_cases c : n ≤ a.length
  · rw [Nat.min_eq_left c, List.take_of_length_le (by simp)]
  · rw [Nat.min_eq_right (by omega), Nat.sub_self, List.take_zero, List.drop_of_length_le (by omega)]
/-- s[:n], s[n:] -/
theorem rTake_S {a : List Nat} {n : Nat} {H : Hp} {Q : VK} (hl : a.length ≤ sizeLine) (q : Q (.str (S (a.take n))) H) : rSlS (.str (S a)) none (some (n : Int)) H Q := ⟨S a, rfl, by rw [S_len]; exact hl, by rw [S_take]; exact q⟩
theorem rDrop_S {a : List Nat} {n : Nat} {H : Hp} {Q : VK} (hl : a.length ≤ sizeLine) (q : Q (.str (S (a.drop n))) H) : rSlS (.str (S a)) (some (n : Int)) none H Q := ⟨S a, rfl, by rw [S_len]; exact hl, by rw [S_drop]; exact q⟩
/-- s[i] -/
theorem rAt_S {a : List Nat} {n : Nat} {c : Nat} {H : Hp} {Q : VK} (hl : a.length ≤ sizeLine) (hc : a[n]? = some c) (q : Q (.str (S [c])) H) : rIxS (.str (S a)) (.int (n : Int)) H Q :=
  ⟨S a, (n : Int), c, rfl, rfl, by rw [S_len]; exact hl, atI_nat (by simpa [S, SX.S] using hc), q⟩
theorem lt_one {c d : Nat} : (([c] : List Nat) < [d]) ↔ c < d := by
  rw [List.cons_lt_cons_iff]
  simp
/-- one sign against a written one -/
theorem sign_lt {c d : Nat} {s : Str} (e : s = S [d]) : decide (({ cps := #[c] } : Str).cps.toList < s.cps.toList) = decide (c < d) := by
  subst e
  rw [Bool.eq_iff_iff, decide_eq_true_eq, decide_eq_true_eq]
  exact lt_one
theorem sign_gt {c d : Nat} {s : Str} (e : s = S [d]) : decide (s.cps.toList < ({ cps := #[c] } : Str).cps.toList) = decide (d < c) := by
  subst e
  rw [Bool.eq_iff_iff, decide_eq_true_eq, decide_eq_true_eq]
  exact lt_one
theorem if_t {c : Bool} {A B : Prop} (hc : c = true) (h : A) : if c = true then A else B := by rw [if_pos hc]; exact h
theorem if_f {c : Bool} {A B : Prop} (hc : c = false) (h : B) : if c = true then A else B := by rw [hc, if_neg Bool.false_ne_true]; exact h

/-! ### numbers in texts -/
def isDig (c : Nat) : Bool := decide (48 ≤ c) && decide (c ≤ 57)
/-- a text's signs behind a minus -/
def dgl (a : List Nat) : List Nat := if a.take 1 = [45] then a.drop 1 else a
def okD (d : List Nat) : Bool := decide (d ≠ []) && (decide (d.length ≤ 60) && d.all isDig)
def okN (a : List Nat) : Bool := okD (dgl a) && (decide ((dgl a).head? ≠ some 48) || decide (a = [48]))
def numOf (a : List Nat) : Int := if a.take 1 = [45] then -((NumText.digitsVal (a.drop 1) : Nat) : Int) else ((NumText.digitsVal a : Nat) : Int)
def numIn (a : List Nat) : Option Int := if okN a = true then some (numOf a) else none
theorem dgl_len (a : List Nat) : (dgl a).length ≤ a.length ∧ a.length ≤ (dgl a).length + 1 := by
  unfold dgl
  split
  · simp
    omega
  · omega
theorem num_text {a : List Nat} (h : okD (dgl a) = true) : PySem.intText? (S a) = some (numOf a) := by
  simp only [okD, Bool.and_eq_true, decide_eq_true_eq] at h
  obtain ⟨h1, h2, h3⟩ := h
  have hl := dgl_len a
  have ad : NumText.AllDigits (dgl a) := fun c hc => by
    have z := List.all_eq_true.mp h3 c hc
    simpa [isDig] using z
  have el : (S a).cps.toList = a := by simp [S, SX.S]
  have hlen : (S a).length ≤ 4300 := by
    rw [S_len]
    omega
  unfold numOf
  by_cases c : a.take 1 = [45]
  · rw [if_pos c]
    have e : dgl a = a.drop 1 := by rw [dgl, if_pos c]
    rw [e] at ad h1
    refine intText_neg ?_ ad h1 hlen
    rw [el]
    conv => lhs; rw [← List.take_append_drop 1 a]
    rw [c]
    rfl
  · rw [if_neg c]
    have e : dgl a = a := by rw [dgl, if_neg c]
    rw [e] at ad h1
    have z := intText_digits (x := S a) (by rw [el]; exact ad) (by rw [el]; exact h1) hlen
    rw [el] at z
    exact z
/-! ### one sign many times -/
theorem rep_fold (c : Nat) : ∀ (n : Nat) (acc : Array Nat), (List.replicate n #[c]).foldl (· ++ ·) acc = acc ++ (List.replicate n c).toArray
  | 0, acc => by simp
  | n + 1, acc => by
    rw [List.replicate_succ, List.foldl_cons, rep_fold c n, List.replicate_succ, Array.append_assoc]
    congr 1
    simp
def rRepS : R2 := fun x y H Q => ∃ (c : Nat) (n : Int), x = .str (S [c]) ∧ y = .int n ∧ 2 ≤ n ∧ n ≤ 1000 ∧ Q (.str (S (List.replicate n.toNat c))) H
theorem op_repS {X : Cx} : OpR X (binaryOp .Mult) rRepS := by
  intro pins s σ H x y v u Q I rx ry h
  obtain ⟨c, n, rfl, rfl, h1, h2, q⟩ := h
  obtain ⟨t, rfl⟩ := rx
  obtain ⟨t', rfl⟩ := ry
  have hn : ¬ n < 1 := by omega
  have e1 : (n == 1 || (S [c]).length == 0) = false := by
    rw [S_len]
    have : (n == 1) = false := by
      rw [beq_eq_false_iff_ne]
      omega
    rw [this]
    rfl
  have e2 : (⟨(List.replicate n.toNat (S [c]).cps).foldl (· ++ ·) #[]⟩ : Str) = S (List.replicate n.toNat c) := by
    show (⟨(List.replicate n.toNat #[c]).foldl (· ++ ·) #[]⟩ : Str) = _
    rw [rep_fold]
    simp [S, SX.S]
  have hlen : (S (List.replicate n.toNat c)).length ≤ 1000 := by
    rw [S_len, List.length_replicate]
    omega
  refine PySem.P.mul_str (by
    rw [decide_eq_false (by omega), decide_eq_false (by omega)]
    rfl) (fun _ _ => ?_) (fun _ _ => ?_) ?_
  · rw [S_len]
    have : (1 : Int) ≤ (2 ^ 63 - 1) / n := Int.le_ediv_of_mul_le (by omega) (by omega)
    show ¬ ((1 : Int) > _)
    omega
  · rw [S_len]
    show decide (1 * n.toNat > sizeLine) = false
    refine decide_eq_false ?_
    have := small1000 (n := n.toNat) (by omega)
    omega
  · rw [if_neg hn, e1, if_neg Bool.false_ne_true, e2]
    exact ⟨Nat.le_of_lt (small1000 hlen), ⟨.str _, H, I.tok _, ⟨_, rfl⟩, q⟩⟩
end Ow

end
section
/-! Ow1: own exceptions whose __init__ says super().__init__(text); self.f = p, under a base of one's own over ValueError. -/
namespace Ow
open PySem L2
open PySem.Spec PyProof.Rows

/-- a one-way wish: the context of such an __init__ -/
def cxSup (P : Program) (w : World) (K : W.Frag) (mg : Str → Option Value) (base : Heap) (N : List Str)
    (qual : Str) (scope : Scope) (f : Addr) (cd : Value) (cc : Addr) (A : Around) (outer : List Env) (s : Shared) (H : Hp)
    (xe : Value → Shared → Prop) : Cx where
  prog := P
  w := w
  K := K
  mg := mg
  base := base
  A := A.deeper (W.ksEnv qual scope s.heap.objs.size f cd cc)
  N := N
  s_0 := s
  H_0 := H
  env := W.ksEnv qual scope s.heap.objs.size f cd cc
  outer := outer
  stack := W.ksEnv qual scope s.heap.objs.size f cd cc :: outer
  ex := []
  calm := true
  fn := fun _ => false
  pn := []
  xe := xe

/-- what the written part says of such a class and its __init__ -/
structure SupInit (P : Program) (K : W.Frag) (D : Addr) (qual : Str) (params : Arguments) (body : List Stmt) (scope : Scope) (f : Addr) (fd : FuncData) (cc cda : Addr) : Prop where
  lk : ∃ (oc : Value) (od : Option Addr) (osl : Array (Option Value)) (kV doc pm ct : Value) (an : Option Addr),
    fd = W.ksFn "__init__" qual params body scope .none kV doc pm an (.ref cda) ct cc ∧ K.lookup f = some ⟨oc, od, .func fd, osl⟩
  code : W.codeIn K (.ref cda) qual = true
  cfile : ∃ (ccl : Value) (cdd : Option Addr) (ccs : Array (Option Value)) (vs : Array Value) (tf : Tok), K.lookup cda = some ⟨ccl, cdd, .fields vs, ccs⟩ ∧ vs[2]? = some (.str P.main.file tf)
  cell : ∃ (cl : Value) (cld : Option Addr) (csl : Array (Option Value)), K.lookup cc = some ⟨cl, cld, .cell (some (.ref D)), csl⟩
  opq : W.nsIn K cStatics "thirdparty.any" = some none
  found : W.ks_superIn K D D "__init__" = some (some (.builtin "ValueError.__init__"))
  sup : W.nsIn K mainGlobals "super" = some none

/-- __init__(self, p): the field f is laid in a new dict -/
def spSup (C : Addr) (f : Str) : Sp := fun vs H Q _ => ∃ (a : Addr) (v : V), vs = [.ref a, v] ∧ H a = some (exo a C none) ∧
  ∀ dx, H dx = none → dx ≠ a → Q .non (upd (upd H dx (exd dx [(f, v)])) a (exo a C (some dx)))

section
variable {P : Program} {w : World} {K : W.Frag} {mg : Str → Option Value} {base : Heap}
/-- the state at the entry of such an __init__ -/
theorem sup_start {N ps : List Str} {qual : Str} {scope : Scope} {f : Addr} {cd : Value} {cc D : Addr} {A : Around} {outer : List Env} {s : Shared} {H : Hp}
    {xe : Value → Shared → Prop} {us : List Value} {vs : List V} {h₁ : Heap} {tk : Nat} (hk : scope.kind = .function) (hN : N = ps) (hnd : ps.Nodup) (hloc : ∀ x ∈ ps, scope.names.lookup x = some .local)
    (hfree : ∀ x : Str, scope.names.lookup x = some .cell ∨ scope.names.lookup x = some .free → x = "__class__") (hd : A.handled = none) (e0 : Env0 P w K mg base A outer s H) (hl : vs.length = ps.length) (r : Vals vs us)
    (hcell : ∃ (cl : Value) (cld : Option Addr) (csl : Array (Option Value)), K.lookup cc = some ⟨cl, cld, .cell (some (.ref D)), csl⟩)
    (hns : h₁.Ns s.heap.objs.size fun y => (ps.zip us).reverse.lookup y) (kp : ∀ b o, s.heap.get? b = some o → h₁.get? b = some o) :
    Inv (cxSup P w K mg base N qual scope f cd cc A outer s H xe) [] (L2.start N vs) H { s with heap := h₁, toks := tk } := by
  subst hN
  obtain ⟨cl, cld, csl, hc⟩ := hcell
  have hcb : base.get? cc = some ⟨cl, cld, .cell (some (.ref D)), csl⟩ := e0.mod.kin _ _ hc
  have hcs := e0.bs _ _ hcb
  have only : ∀ {x c}, (cxSup P w K mg base N qual scope f cd cc A outer s H xe).env.cells.lookup x = some c → x = "__class__" ∧ c = cc := fun {x c} e => by
    have e' : List.lookup x [(("__class__" : Str), cc)] = some c := e
    by_cases hx : x = "__class__"
    · rw [hx] at e'
      simp [List.lookup] at e'
      exact ⟨hx, e'.symm⟩
    · have hb : (x == ("__class__" : Str)) = false := by simpa using hx
      simp [List.lookup, hb] at e'
  have noA : ∀ b : Addr, b ∉ (cxSup P w K mg base N qual scope f cd cc A outer s H xe).ex := fun b z => absurd (show b ∈ ([] : List Addr) from z) (by simp)
  refine ⟨⟨e0.mod, hk, rfl, rfl, Nat.le_refl _, fun y z c h1 h2 => ?_, fun y hy => ?_, fun y c z _ => ?_, fun _ => hd, Around.frames_deeper e0.frames, .inr ⟨rfl, rfl⟩, fun b z => absurd z (noA b), e0.bs, e0.bsz, fun b _ _ => noA b, fun b z => absurd z (noA b), e0.funs, e0.frf⟩,
    rfl, e0.bare, Un.kept kp, ⟨_, hns, fun i y v h1 h2 h3 => ?_⟩, fun y c h => ?_, e0.hok.fresh (Nat.le_refl _), fun y c h => ?_, fun p hp => absurd (show p ∈ ([] : List (Addr × Obj)) from hp) (by simp), e0.hok.kept kp, ?_⟩
  · rw [(only h1).1, (only h2).1]
  · rw [hfree y hy]
    exact ⟨cc, by show List.lookup _ [(("__class__" : Str), cc)] = _; simp [List.lookup]⟩
  · exact absurd (show false = true from z) (by decide)
  · have hi : i < vs.length := by
      unfold L2.start at h2
      by_cases hi : i < vs.length
      · exact hi
      · rw [List.getElem?_append_right (by simpa using hi), List.getElem?_replicate] at h2
        split at h2 <;> cases h2
    have ha : vs[i]? = some v := by
      unfold L2.start at h2
      rw [List.getElem?_append_left (by simpa using hi), List.getElem?_map] at h2
      cases e : vs[i]? with
      | none => rw [e] at h2; cases h2
      | some a => rw [e] at h2; cases h2; rfl
    obtain ⟨u, hu, rv⟩ := r.get ha
    have hy : N[i]? = some y := h1
    have hm : (N.zip us)[i]? = some (y, u) := by
      rw [List.getElem?_zip_eq_some]
      exact ⟨hy, hu⟩
    refine ⟨u, rv, .inl ⟨hloc y (List.mem_of_getElem? hy), ?_⟩⟩
    have ndz : ((N.zip us).map (·.1)).Nodup := by
      have hlen : us.length = N.length := by rw [← r.length]; exact hl
      rw [List.map_fst_zip (by omega)]
      exact hnd
    have key : ∀ (l : List (Str × Value)), (l.map (·.1)).Nodup → (y, u) ∈ l → l.lookup y = some u := by
      intro l
      induction l with
      | nil => intro _ h; cases h
      | cons p l ih =>
        intro nd h
        obtain ⟨a, b⟩ := p
        rw [List.map_cons, List.nodup_cons] at nd
        rcases List.mem_cons.mp h with e | e
        · cases e
          simp [List.lookup]
        · have hne : (y == a) = false := by
            have : y ≠ a := fun z => nd.1 (by rw [← z]; exact List.mem_map.mpr ⟨_, e, rfl⟩)
            simpa using this
          simp [List.lookup, hne]
          exact ih nd.2 e
    refine key _ ?_ (List.mem_reverse.mpr (List.mem_of_getElem? hm))
    rw [List.map_reverse]
    exact List.pairwise_reverse.mpr (List.Pairwise.imp (fun h => Ne.symm h) ndz)
  · obtain ⟨_, e⟩ := only h
    rw [e]
    exact ⟨_, _, kp _ _ hcs.1, rfl⟩
  · obtain ⟨_, e⟩ := only h
    rw [e]
    exact hcs.2
  · unfold L2.start
    rw [List.length_append, List.length_map, List.length_replicate]
    show _ = N.length
    omega
theorem not_exo {e C : Addr} {d : Option Addr} {h : Heap} {P : Program} {w : World} {H : Hp} (hok : HOk P w H h) (he : H e = some (exo e C d)) : ∀ c, h.get? e ≠ some c ∨ ∀ cd, c.data ≠ .cls cd := fun c => by
  obtain ⟨t1, g⟩ := exo_at hok he
  by_cases hc : h.get? e = some c
  · right
    rw [g] at hc
    cases hc
    intro cd z
    cases z
  · exact .inl hc

/-- the bound ValueError.__init__ called: the exception's arguments are laid anew -/
theorem call_bound {A : Around} {E : Value → Shared → Prop} {s : Shared} {D N e t0 u : Addr} {nm q : Str} {bs bm : List Value} {sn : List Str} {sub : List Value} {ab : Bool} {col : Option Bool} {dd : Option Addr} {k0 k1 k2 k3 k5 : Option Value} {rest : List Value} {Q : Value → Shared → Prop}
    (hC : s.heap.get? D = some (excClassObj nm q D N bs bm true sn sub ab col dd k0 k1 k2 k3 k5 "ValueError.__new__")) (he : s.heap.get? e = some (HandSPX.excO D t0)) (hu : s.heap.get? u = some (W.kxs_mw "ValueError.__init__" e)) (hz : rest.length ≤ sizeLine)
    (hq : ∀ h' t1, (∀ b o, b ≠ e → s.heap.get? b = some o → h'.get? b = some o) → h'.get? e = some (HandSPX.excO D t1) → Q .none { s with heap := h' }) :
    wpAny (model P w) A (call (.ref u) rest) Q E s := by
  obtain ⟨hh, g, d, tk, os⟩ := s
  refine wpAny_call (codeAny_of_tree ?_)
  show wpAny _ A.in1 (callAny (.ref u) ⟨rest, []⟩) _ _ _
  simp only [callAny]
  refine wpAny_bind (wpAny_load hu ?_)
  simp only [W.kxs_mw, show (Value.type "method-wrapper" == Value.type "method" || Value.type "method-wrapper" == Value.type "builtin_function_or_method" || Value.type "method-wrapper" == Value.type "method-wrapper") = true by decide, if_true]
  refine W.KFB.if_so (by decide) ?_
  refine wpAny_bind (W.check_bound_init F.excBase_ValueError.toExcCallFacts hC he rfl ?_)
  refine wpAny_bind (wpAny_pure (wpAny_pure ?_))
  refine ⟨plainId_quiet F.excBase_ValueError.init.plain _, codeAny_builtin F.excBase_ValueError.initEntry ?_⟩
  refine W.exc_init_tree (cls := .ref D) (t0 := t0) (dv := none) (c2 := .none) (c3 := .none) (b4 := .bool false) he hz fun h' k1 k2 k3 => hq h' _ k1 k2

/-- THE RULE: such an __init__ keeps its promise -/
theorem ok_sup {D : Addr} {qual : Str} {params : Arguments} {scope : Scope} {f : Addr} {fd : FuncData} {cc cda : Addr} {fld msg par : Str} {j k : Nat} {a1 a2 : Arg} {p0 p1 p2 p3 p4 p5 p6 p7 p8 p9 : Pos}
    (S : SupInit P K D qual params [.Expr (.Call (.Attribute (.Call (.Name "super" p0) [] [] p1) "__init__" p2) [.Constant (.str msg) j p3] [] p4) p5, .Assign [.Attribute (.Name "self" p6) fld p7] (.Name par p8) p9] scope f fd cc cda)
    (T : OexC K D) (hno : W.findIn K (.ref D) fld = some none) (hk : scope.kind = .function) (hco : scope.isCoroutine = false) (hgen : scope.isGenerator = false)
    (hself : scope.names.lookup ("self" : Str) = some .local) (hpar : scope.names.lookup par = some .local) (hcl : scope.names.lookup ("__class__" : Str) = some .free) (hsu : scope.names.lookup ("super" : Str) = some .globalImplicit)
    (hfree : ∀ x : Str, scope.names.lookup x = some .cell ∨ scope.names.lookup x = some .free → x = "__class__") (hnoc : ∀ x ∈ scope.names, x.2 ≠ .cell) (hne : ("self" : Str) ≠ par)
    (hp : (params.posonlyargs ++ params.args).head? = some a1) (ha1 : a1.arg = "self") (htop : (P.main.scope.names.lookup ("super" : Str)).isSome = false) (hdbg : (par == ("__debug__" : Str)) = false) (hcd2 : (par == ("__classdict__" : Str)) = false)
    (pl : Env → Sem Bool) (hev : ∀ env : Env, eval (.Call (.Attribute (.Call (.Name "super" p0) [] [] p1) "__init__" p2) [.Constant (.str msg) j p3] [] p4) env = (do
      let ov ← attributeBase (.Call (.Name "super" p0) [] [] p1) "__init__" env (eval (.Call (.Name "super" p0) [] [] p1) env)
      standAt p2.atName
      let (f, first) ← holding [ov] (getMethod ov "__init__" (pl env))
      callWith p4 f first (backTo p4 (starEach [.Constant (.str msg) j p3] env)) [])) :
    FnOk P w K mg base CX0 1 f fd ["self", par] (spSup D fld) := by
  obtain ⟨⟨oc, od, osl, kV, doc, pm, ct, an, rfl, lk⟩, hcode, ⟨ccl, cdd, ccs, fvs, tf, lcode, hfile⟩, hcell, hopq, hfound, hsup⟩ := S
  refine ⟨fun vs H Q E h => ?_, fun A outer s H args us vs Q E hr e0 hb r hsp => ?_⟩
  · obtain ⟨a, v, rfl, _⟩ := h
    rfl
  obtain ⟨a, v, rfl, hexo, hq⟩ := hsp
  have hl : ([V.ref a, v] : List V).length = (["self", par] : List Str).length := rfl
  have KX : K.In s.heap := e0.mod.kin.keeps fun b o e => (e0.bs b o e).1
  have lim : s.heap.NoLimit := e0.mod.nolimit.keeps fun b o e => (e0.bs b o e).1
  have hnd : (["self", par] : List Str).Nodup := by
    refine List.nodup_cons.mpr ⟨fun h => ?_, List.nodup_cons.mpr ⟨fun h => (by cases h), List.nodup_nil⟩⟩
    exact hne (List.mem_singleton.mp h)
  have hloc : ∀ x ∈ (["self", par] : List Str), scope.names.lookup x = some .local := fun x hx => by
    rcases List.mem_cons.mp hx with e | e
    · rw [e]; exact hself
    · rw [List.mem_singleton.mp e]; exact hpar
  refine ks_codeAny_call_defAt hr.depth (KX _ _ lk) rfl lim (W.codeRec_of KX hcode) rfl hb hnoc (fun y hy => hloc y.1 (List.of_mem_zip (show (y.1, y.2) ∈ _ from hy)).1) (fun h₀ hns hkp => ?_) hco hgen hk
  have I := sup_start (N := ["self", par]) (qual := qual) (f := f) (cd := .ref cda) (cc := cc) (D := D) (tk := s.toks + ((["self", par] : List Str).zip us).length) (xe := fun e s' => wpAny (model P w) (A.deeper (W.ksEnv qual scope s.heap.objs.size f (.ref cda) cc)) (leaving (W.ksEnv qual scope s.heap.objs.size f (.ref cda) cc) e) (fun _ s'' => CX0 outer H s E e s'') (fun e' s'' => CX0 outer H s E e' s'') s')
    hk rfl hnd hloc hfree hr.hd e0 hl r hcell hns hkp
  obtain ⟨nm, q, N0, bs, bm, sn, sub, ab, col, dd, k0, k1, k2, k3, k5, hD, hbm⟩ := T.cls
  have hcld : W.clsIn K D = some { name := nm, bases := bs, mro := .ref D :: bm, ns := N0, qualname := q, hasDict := true, slotNames := sn, subclasses := sub, abstract := ab, collection := col, hasDel := false } := by
    unfold W.clsIn
    rw [hD] <;> rfl
  have hmro : ∀ {b : Value}, (Value.ref D :: bm).contains b = true → W.mroIn K D b = some true := fun {b} hb => by
    unfold W.mroIn
    rw [hcld, Option.bind_some, if_neg (show ¬ (List.isEmpty (Value.ref D :: bm) = true) from Bool.false_ne_true), hb]
  have hcVE : (Value.ref D :: bm).contains (.type "ValueError") = true := by
    rw [List.contains_cons, HandSPX.refsVE_contains "ValueError" bm hbm]
    rfl
  have hcD : (Value.ref D :: bm).contains (.ref D) = true := by simp
  have hint : interactive (callEnv (W.ksFn "__init__" qual params [.Expr (.Call (.Attribute (.Call (.Name "super" p0) [] [] p1) "__init__" p2) [.Constant (.str msg) j p3] [] p4) p5, .Assign [.Attribute (.Name "self" p6) fld p7] (.Name par p8) p9] scope .none kV doc pm an (.ref cda) ct cc) s.heap.objs.size f) = false := by
    show (scope.kind == .module && _) = false
    rw [hk]
    rfl
  refine ks_wpAt_execs_cons (ks_wpAt_Expr_any (ks_wpAt_MethodCall ?_ (hev _)) hint rfl)
  obtain ⟨cl, cld, csl, hcc⟩ := hcell
  refine ks_wpAt_super_base (ar := a1) (f := f) (of := ⟨oc, od, .func (W.ksFn "__init__" qual params _ scope .none kV doc pm an (.ref cda) ct cc), osl⟩) (cc := cda) hsu hcl (by decide) rfl (I.kIn _ _ lk) rfl hp rfl (I.kIn _ _ lcode) rfl hfile (by simp) htop ?_
  obtain ⟨mb, hmb, hbb⟩ := e0.mod.blt
  refine W.ks_loadName_global hk hsu (Calls.loadGlobal_builtin (e0.mod.glob.keeps I.bk) (W.mg_none_of e0.mod.kin e0.mod.glob hsup) (hmb.keeps I.bk) ((hbb _ (by decide +kernel)).trans PyProof.Rows.Boot.super) ⟨rfl, ?_⟩)
  refine wpAny_loadName_free hk hcl rfl ⟨_, I.kIn _ _ hcc, rfl⟩ ?_
  obtain ⟨m, hm, hlk⟩ := I.loc
  obtain ⟨u0, ru0, lu0⟩ := hlk 0 "self" (.ref a) rfl rfl (.inl hself)
  obtain rfl : u0 = Value.ref a := ru0
  have lv0 : m "self" = some (.ref a) := by
    rcases lu0 with ⟨_, z⟩ | ⟨z, _⟩
    · exact z
    · exfalso
      have hself' : (W.ksEnv qual scope s.heap.objs.size f (.ref cda) cc).kindOf "self" = some .local := hself
      rcases z with z | z
      · exact absurd (hself'.symm.trans z) (by decide)
      · exact absurd (hself'.symm.trans z) (by decide)
  rw [ha1]
  refine wpAny_loadName_local hk hself hm lv0 ?_
  obtain ⟨t1, hae⟩ := exo_at I.hok hexo
  have hDh := I.kIn _ _ hD
  have hmroL : ∀ {h' : Heap} {b : Value} (hb : (Value.ref D :: bm).contains b = true), K.In h' → W.Looks (model P w) h' (isSubtype (.ref D) b) true := fun hb X => W.looks_mroIn X (hmro hb)
  refine ks_wpAny_isType_cls hDh rfl ⟨rfl, ?_⟩
  refine ks_wpAny_call_super hDh rfl hae rfl (fun c z => by cases z) (hmroL hcD I.kIn) (fun h1 e1 k1 => ?_)
  have I1 := I.kept (t' := s.toks + ((["self", par] : List Str).zip us).length) k1
  have J1 : W.InstAt h1 a _ D none := ⟨k1 _ _ hae, rfl, rfl, trivial⟩
  have naD : a ≠ D := fun z => by
    rw [z] at hexo
    have q1 := (e0.bs _ _ (e0.mod.kin _ _ hD)).2
    rw [hexo] at q1
    cases q1
  have hfnd : W.alongIn K "__init__" (((Value.ref D :: bm).dropWhile (· != .ref D)).drop 1) = some (some (.builtin "ValueError.__init__")) := by
    unfold W.ks_superIn at hfound
    rw [hcld] at hfound
    exact hfound
  refine W.kxs_getMethod (l₀ := .ref D :: bm) W.kxs_ValueError e1 (W.looks_opaque I1.kIn hopq) ?_ rfl I1.kIn hfnd (J1.type.andThen (hmroL hcVE I1.kIn)) naD (by decide) ?_
  · exact fun A' Q' E' s' k q => wpAny_bind ((W.looks_clsIn I1.kIn hcld) A' _ E' s' k (wpAny_pure q))
  have k2 : ∀ b o, h1.get? b = some o → (h1.push (W.kxs_mw "ValueError.__init__" a)).get? b = some o := fun b o e => Heap.get?_push_of_some _ e
  have I2 := I1.kept (t' := s.toks + ((["self", par] : List Str).zip us).length + 1) k2
  have hmw : (h1.push (W.kxs_mw "ValueError.__init__" a)).get? h1.objs.size = some (W.kxs_mw "ValueError.__init__" a) := Heap.get?_push_at rfl rfl
  refine W.kxs_callWith (u := h1.objs.size) (i := "ValueError.__init__") (x := a) rfl ?_
  refine Calls.evalArgs_plain (x := eval (.Constant (.str msg) j p3) _) (rest := backTo p4 (starEach [] _)) ?_
  refine Calls.spliced_cons (Calls.Constant_str ?_)
  refine Calls.spliced_nil ⟨hmw, ?_⟩
  refine call_bound (t0 := t1) (I2.kIn _ _ hD) (k2 _ _ (k1 _ _ hae)) hmw (by show 1 ≤ sizeLine; decide) (fun h3 t3 k3 e3 => ?_)
  have J3 := (I2.tok (s.toks + ((["self", par] : List Str).zip us).length + 1 + 1)).write (t' := s.toks + ((["self", par] : List Str).zip us).length + 1 + 1) (x := a) (e := a) (o := exo a D none) (by rw [hexo]; exact True.intro) (.inl rfl) k3 ⟨_, e3⟩ (exo_ok e3)
  have eu : upd H a (exo a D none) = H := by
    funext b
    by_cases hb : b = a
    · rw [hb, upd_same, hexo]
    · rw [upd_ne hb]
  rw [eu] at J3
  refine wpAt_of_wpAny ?_
  have body : PSs (cxSup P w K mg base ["self", par] qual scope f (.ref cda) cc A outer s H (fun e s' => wpAny (model P w) (A.deeper (W.ksEnv qual scope s.heap.objs.size f (.ref cda) cc)) (leaving (W.ksEnv qual scope s.heap.objs.size f (.ref cda) cc) e) (fun _ s'' => CX0 outer H s E e s'') (fun e' s'' => CX0 outer H s E e' s'') s'))
      [.Assign [.Attribute (.Name "self" p6) fld p7] (.Name par p8) p9] (tOst K fld (tVar 0) (tVar 1)) :=
    pss_one (ps_ost (pe_var (i := 0) rfl (.inl hself)) (pe_var (i := 1) rfl (.inl hpar) hdbg hcd2) rfl)
  refine wpAny_mono (body.run [] _ _ H { nx := fun _ H' => Q .non H', rt := Q } J3 ?_) (fun fl s' hs => ?_) fun e s' hs => hs
  · exact ⟨v, rfl, .ref a, rfl, a, D, rfl, T, hno, .inl ⟨hexo, fun dx n1 n2 => hq dx n1 n2⟩⟩
  · have fin : ∀ {σ' : L2.St} {H' : Hp} {v' : V} {u : Value} {s' : Shared}, L2.Inv (cxSup P w K mg base ["self", par] qual scope f (.ref cda) cc A outer s H (fun e s' => wpAny (model P w) (A.deeper (W.ksEnv qual scope s.heap.objs.size f (.ref cda) cc)) (leaving (W.ksEnv qual scope s.heap.objs.size f (.ref cda) cc) e) (fun _ s'' => CX0 outer H s E e s'') (fun e' s'' => CX0 outer H s E e' s'') s')) [] σ' H' s' → RelV v' u → Q v' H' → CE outer P w H s Q u s' :=
      fun {σ' H' v' u s'} J rv q => ⟨v', H', J.os, J.bare, J.base, J.hok, rv, q⟩
    cases fl with
    | ret u =>
      obtain ⟨v', σ', H', J, rv, q⟩ := hs
      exact fin J rv q
    | next =>
      obtain ⟨σ', H', J, q⟩ := hs
      exact fin (v' := V.non) (u := Value.none) J rfl q
    | brk =>
      obtain ⟨_, _, _, q⟩ := hs
      exact False.elim q
    | cont =>
      obtain ⟨_, _, _, q⟩ := hs
      exact False.elim q
end

end Ow

end
section
/-! Ow2: a caught exception of an own class that is held on behind its suite: try .. except X as n: y = n; then isinstance(y, C), y.f. Raising with a promise in short. -/
namespace Ow
open PySem L2
open PySem.Spec PyProof.Rows

/-- the caught exception's object stands at a: its class, its own dict's address -/
def ExH (cls : Value) (d : Option Addr) (a : Addr) : HO := .ext fun h => ∃ (oe : Obj) (vs : Array Value), h.get? a = some oe ∧ Zc cls d oe ∧ oe.data = .fields vs
theorem exH_ok {P : Program} {w : World} {H : Hp} {h : Heap} {a : Addr} {cls : Value} {d : Option Addr} {oe : Obj} {vs : Array Value} (e : h.get? a = some oe) (z : Zc cls d oe) (hd : oe.data = .fields vs) : ObjOk P w H h a (ExH cls d a) :=
  ⟨⟨oe, vs, e, z, hd⟩, ⟨oe, e⟩, fun _ _ ⟨o, v, q, r⟩ k => ⟨o, v, k o q, r⟩⟩
theorem exH_at {P : Program} {w : World} {H : Hp} {h : Heap} {a : Addr} {cls : Value} {d : Option Addr} (hok : HOk P w H h) (he : H a = some (ExH cls d a)) : ∃ (oe : Obj) (vs : Array Value), h.get? a = some oe ∧ Zc cls d oe ∧ oe.data = .fields vs := by
  have x : ObjOk P w H h a (.ext fun h => ∃ (oe : Obj) (vs : Array Value), h.get? a = some oe ∧ Zc cls d oe ∧ oe.data = .fields vs) := hok a _ he
  exact x.1

section
variable {X : Cx} {pins : List (Addr × Obj)} {σ : L2.St} {H : Hp} {s : Shared}
/-- an object that stands, untracked, new since the entry: tracked from now on -/
theorem inv_track {a : Addr} {o : HO} (I : L2.Inv X pins σ H s) (hn : H a = none) (h0 : X.s_0.heap.get? a = none) (hL : a ≠ X.env.locals)
    (hc : ∀ x c, X.env.cells.lookup x = some c → c ≠ a) (hp : ∀ p ∈ X.pn ++ pins, p.1 ≠ a) (new : ObjOk X.prog X.w (upd H a o) s.heap a o) : L2.Inv X pins σ (upd H a o) s := by
  have ne0 : ∀ b u, X.s_0.heap.get? b = some u → b ≠ a := fun b u e z => by
    rw [z, h0] at e
    cases e
  have neH : ∀ b u, H b = some u → b ≠ a := fun b u e => ne_of_none e hn
  refine ⟨I.ok, I.os, I.bare, ⟨I.base.keep, I.base.slot, fun b u e n hx => ?_, I.base.there, fun b xs e => ?_, fun b u v e => ?_, fun b ps e => ?_⟩, I.loc, I.cell, ?_, fun x c e => ?_, fun p h => ?_, fun b u e => ?_, I.len⟩
  · rw [upd_ne (ne0 b u e)]
    exact I.base.free b u e n hx
  · have q := I.base.tups b xs e
    rw [upd_ne (neH b _ q)]
    exact q
  · have q := I.base.frzs b u v e
    rw [upd_ne (neH b _ q)]
    exact q
  · obtain ⟨m, q⟩ := I.base.tbls b ps e
    exact ⟨m, by rw [upd_ne (neH b _ q)]; exact q⟩
  · rw [upd_ne (Ne.symm hL)]
    exact I.free
  · rw [upd_ne (hc x c e)]
    exact I.freeC x c e
  · obtain ⟨e, n, r⟩ := I.pin p h
    exact ⟨e, by rw [upd_ne (hp p h)]; exact n, r⟩
  · by_cases hb : b = a
    · rw [hb, upd_same] at e
      cases e
      rw [hb]
      exact new
    · rw [upd_ne hb] at e
      exact (I.hok b u e).stay (fun c v _ q => q) (fun c q => by rw [upd_ne (neH c _ q)]; exact q) fun c xs q => by rw [upd_ne (neH c _ q)]; exact q
end
/-- what the clause «except x as n: suite» wishes where what it caught is held on: slot i is n's; behind the suite the object is tracked -/
def wHold (K : W.Frag) (c : Value) (i : Nat) (ts : Addr → Value → Option Addr → TS) (Wout : WX) (D : Ends) : WX := fun cls d σ H =>
  ∃ b, W.exmOne K cls c = some b ∧
    (b = true → ∀ a, H a = none → ts a cls d { nx := fun σ2 H2 => D.nx (σ2.set i none) (upd H2 a (ExH cls d a)), rt := fun v H2 => D.rt v (upd H2 a (ExH cls d a)), bk := fun σ2 H2 => D.bk (σ2.set i none) (upd H2 a (ExH cls d a)), ct := fun σ2 H2 => D.ct (σ2.set i none) (upd H2 a (ExH cls d a)) } (σ.set i (some (.ref a))) H) ∧
    (b = false → Wout cls d σ H)
section
variable {X : Cx} {x n : Str} {c : Value} {i : Nat} {body suite : List Stmt} {st0 : Stmt} {q1 q2 q3 : Pos} {tb : WX → TS} {ts : Addr → Value → Option Addr → TS} {Wout : WX}
theorem ps_try_hold (hst : X.stack = X.env :: X.outer) (hfr : X.env.frame = some X.env.locals) (hex : X.ex = []) (hN : X.N.Nodup) (hi : X.N[i]? = some n) (hl : X.env.kindOf n = some .local) (hnm : Names X x c) (tk : Takes X Wout)
    (hb : ∀ (W : WX) (pn : List (Addr × Obj)) (xe : Value → Shared → Prop), Takes (X.tr pn xe) W → PassesOwn (model X.prog X.w) X.A X.env xe → PSs (X.tr pn xe) body (tb W))
    (hs : ∀ (a : Addr) (oe : Obj) (cls : Value) (d : Option Addr) (pn : List (Addr × Obj)), Zc cls d oe → (∃ vs, oe.data = .fields vs) → PSs (X.suite a ((a, oe) :: pn)) (st0 :: suite) (ts a cls d)) :
    PS X (.Try body [.ExceptHandler (some (.Name x q1)) (some n) (st0 :: suite) q2] [] [] q3) (fun D σ H => tb (wHold X.K c i ts Wout D) D σ H) := by
  refine ⟨fun pins s σ H D I ht => ?_⟩
  have Xok := I.ok
  have frames : X.A.frames = some (X.env :: X.outer) := by rw [Xok.frames, hst]
  refine wpAny_Try_except (wpAny_mono ((hb (wHold X.K c i ts Wout D) (X.pn ++ pins) (fun ev z => wpAny (model X.prog X.w) X.A (noteFrame ev X.env) (fun _ z2 => wpAny (model X.prog X.w) X.A (setFlight ev none) (fun _ z3 =>
    wpAny (model X.prog X.w) X.A (handleBy ev X.env [.ExceptHandler (some (.Name x q1)) (some n) (st0 :: suite) q2]) (SP X pins D) X.xe z3) X.xe z2) X.xe z) (fun u s' air => ?_) PassesOwn.looking).run [] s σ H D (I.toTry _) ht) (fun fl s1 hfl => ?_) (fun _ _ z => z))
  · obtain ⟨a, B, sI, pi', σ', H', cls, d, rfl, JT, nb, up, sky, na, hos, hag, b, hb1, hyes, hno⟩ := air
    have J : L2.Inv X pins σ' H' sI := JT.ofTry Xok
    show wpAny (model X.prog X.w) X.A (noteFrame (.ref a) X.env) _ _ _
    refine Sky.land Zc.steady frames hfr (by rw [← hst]; exact sky) fun h3 fl3 up3 => ?_
    have J3 : L2.Inv X pins σ' H' { s' with heap := h3 } := J.landed nb fl3.1 (up.trans up3) hos hag
    obtain ⟨oe3, vs3, he3, hz3, hd3⟩ := fl3.there
    have nfr : a ∉ frs (X.env :: X.outer) := fun hm => by
      obtain ⟨_, o2, e2, hnf⟩ := fl3.2.2.1.mem hm
      rw [he3] at e2
      cases e2
      exact hnf _ hd3
    have nL : a ≠ X.env.locals := fun z => nfr (List.mem_filterMap.mpr ⟨X.env, List.mem_cons_self, by rw [hfr, z]⟩)
    have nF : a ∉ X.fs := fun hm => by
      obtain ⟨ev, hev, q⟩ := List.mem_filterMap.mp hm
      exact nfr (List.mem_filterMap.mpr ⟨ev, List.mem_cons_of_mem _ hev, q⟩)
    -- it is new
    have nI : sI.heap.get? a = none := by
      cases q : sI.heap.get? a with
      | none => rfl
      | some o =>
        have z := nb a o q (by rw [hst]; exact nfr)
        rw [fl3.2.1] at z
        cases z
    have n0 : X.s_0.heap.get? a = none := by
      cases q : X.s_0.heap.get? a with
      | none => rfl
      | some o =>
        obtain ⟨o2, z⟩ := J.base.there a o q (by rw [hex]; exact fun z => nomatch z)
        rw [nI] at z
        cases z
    have nC : ∀ y c', X.env.cells.lookup y = some c' → c' ≠ a := fun y c' e z => by
      obtain ⟨v, o, ho, _⟩ := J.cell y c' e
      rw [z, nI] at ho
      cases ho
    have nP : ∀ p ∈ X.pn ++ pins, p.1 ≠ a := fun p hp z => by
      have e := (J.pin p hp).1
      rw [z, nI] at e
      cases e
    have S3 := J3.suite he3 hd3 na nL nF
    refine wpAny_handleBy_cons (codeAny_handlers_test ?_) (by intro q; cases q)
    have LM := W.exm_one (M := model X.prog X.w) J3.kIn (show W.Looks (model X.prog X.w) h3 (typeOf (.ref a)) cls from fun A Q E s k q => wpAny_typeOf_ref (k _ _ he3) (by rw [hz3.1]; exact q)) hb1
    have clause : ∀ {Q : Value → Shared → Prop} {E : Value → Shared → Prop}, Q c { s' with heap := h3 } → wpAny (model X.prog X.w) (X.A.mark (some (.ref a))) (eval (.Name x q1) X.env) Q E { s' with heap := h3 } := fun {Q E} q => by
      obtain ⟨hg, hdbg, hm | ⟨hm, hv, hnn⟩⟩ := hnm
      · exact ld_glob (X := X.suite a ((a, oe3) :: (X.pn ++ pins))) S3 hg hm q hdbg
      · exact ld_blt (X := X.suite a ((a, oe3) :: (X.pn ++ pins))) S3 hg hm hv q hnn hdbg
    refine clause (LM.here ?_)
    cases b with
    | true =>
      refine codeAny_handlers_suite_as (HandSPX.lands_againZ fl3 fun h4 fl4 up4 => ?_)
      have J4 : L2.Inv X pins σ' H' { s' with heap := h4 } := J.landed nb fl4.1 ((up.trans up3).trans up4) hos hag
      obtain ⟨oe4, vs4, he4, hz4, hd4⟩ := fl4.there
      refine store_ok (X := X.suite a ((a, oe4) :: (X.pn ++ pins))) (v := .ref a) (J4.suite he4 hd4 na nL nF) hN hi (.inl hl) rfl (fun s5 S5 => ?_) (.inr hl)
      refine wpAny_mono ((hs a oe4 cls d (X.pn ++ pins) hz4 ⟨_, hd4⟩).run [] s5 _ H' _ S5 (hyes rfl a na)) (fun fl s6 h6 => ?_) (fun _ _ z => False.elim z)
      have go : ∀ {σ6 : L2.St} {H6 : Hp} {Q : Shared → Prop}, L2.Inv (X.suite a ((a, oe4) :: (X.pn ++ pins))) [] σ6 H6 s6 → (∀ s7, L2.Inv X pins (σ6.set i none) (upd H6 a (ExH cls d a)) s7 → Q s7) →
          wpAny (model X.prog X.w) X.A (do bindName X.env n .none; unbindBehindTheSuite X.env n q2) (fun _ s7 => Q s7) X.xe s6 := fun {σ6 H6 Q} S6 hq => by
        obtain ⟨g6, n6, _⟩ := S6.pin (a, oe4) (List.mem_append_left _ List.mem_cons_self)
        exact gone_ok (inv_track (o := ExH cls d a) (S6.unsuite Xok) n6 n0 nL nC nP (exH_ok g6 hz4 hd4)) hN hi hl hq
      cases fl with
      | next => obtain ⟨_, _, S6, q6⟩ := h6; exact go S6 fun _ J7 => ⟨_, _, J7, q6⟩
      | brk => obtain ⟨_, _, S6, q6⟩ := h6; exact go S6 fun _ J7 => ⟨_, _, J7, q6⟩
      | cont => obtain ⟨_, _, S6, q6⟩ := h6; exact go S6 fun _ J7 => ⟨_, _, J7, q6⟩
      | ret u => obtain ⟨_, _, _, S6, r6, q6⟩ := h6; exact go S6 fun _ J7 => ⟨_, _, _, J7, r6, q6⟩
    | false =>
      show wpAny _ X.A (handleBy (.ref a) X.env []) _ _ _
      refine wpAny_handleBy_nil ?_
      obtain ⟨_, _, _, oe, vs, T, oT, tt, he, hz, hd, h1, hr⟩ := id fl3
      unfold PySem.passOn
      refine wpAny_bind (wpAny_field he hd h1 ?_)
      rw [if_neg (show ¬ ((Value.ref T == Value.none) = true) from by simp)]
      have out : wpAny (model X.prog X.w) X.A (setFlight (.ref a) X.env.frame) (fun _ s4 => wpAny (model X.prog X.w) X.A (throw (.ref a) : Sem Flow) (SP X pins D) X.xe s4) X.xe { s' with heap := h3 } := by
        rw [hfr]
        exact HandSPX.setFlight_upZ fl3 fun h4 hh4 up4 => wpAny_throw (tk _ _ ⟨a, B, sI, pins, σ', H', cls, d, rfl, J, nb, (up.trans up3).trans up4, .inr (.inr (by rw [hst]; exact hh4)), na, hos, hag, hno rfl⟩)
      first
        | exact wpAny_bind (wpAny_pure (wpAny_bind out))
        | exact wpAny_bind out
  · cases fl with
    | next => obtain ⟨_, _, J, q⟩ := hfl; exact wpAny_execs_nil ⟨_, _, J.ofTry Xok, q⟩
    | brk => obtain ⟨_, _, J, q⟩ := hfl; exact ⟨_, _, J.ofTry Xok, q⟩
    | cont => obtain ⟨_, _, J, q⟩ := hfl; exact ⟨_, _, J.ofTry Xok, q⟩
    | ret u => obtain ⟨_, _, _, J, r, q⟩ := hfl; exact ⟨_, _, _, J.ofTry Xok, r, q⟩
end

/-! ### what is held: isinstance, its fields -/
/-- what its class must say -/
structure HeldC (K : W.Frag) (C : Addr) : Prop where
  cl : (W.clsIn K C).isSome = true
  ga : W.findIn K (.ref C) "__getattribute__" = some (some (.builtin "BaseException.__getattribute__"))
  gg : W.findIn K (.ref C) "__getattr__" = some none
  ex : W.subIn K (.ref C) (.type "BaseException") = some true
  hd : W.hasDictIn K C = true
  ca : W.findIn K (.ref C) "__class__" = some (some (.builtin "object.__class__"))
  sp : W.specialIn K (.builtin "object.__class__") "__get__" = some (some (.builtin "getset_descriptor.__get__"))
  tk : W.takesIn K (.builtin "object.__class__") = some true
  ob : W.mroIn K C (.type "object") = some true
/-- isinstance(y, c) of such an object -/
def rIsH (K : W.Frag) : List V → Hp → VK → Prop := fun xs H Q => ∃ (a C : Addr) (dd : Addr) (fs : List (Str × V)) (c : V) (u : Value) (b : Bool), xs = [.ref a, c] ∧ H a = some (ExH (.ref C) (some dd) a) ∧ H dd = some (.xd fs) ∧ HeldC K C ∧ ClsV c u ∧ W.kitOne K (.ref C) u = some b ∧ Q (.bl b) H
section
variable {X : Cx}
theorem call_isH : CallR X (.builtin "isinstance") (rIsH X.K) := by
  intro pins s σ H xs us Q I r h
  obtain ⟨a, C, dd, fs, c, u, b, rfl, ha, hdd, T, k, e, q⟩ := h
  obtain ⟨u1, u2, rfl, r1, r2⟩ := vals2 r
  have e2 := k.eq r2
  subst e2
  obtain rfl : u1 = Value.ref a := r1
  obtain ⟨oe, vs, g, hz, hd⟩ := exH_at I.hok ha
  have hx : ObjOk X.prog X.w H s.heap dd (.xd fs) := I.hok dd _ hdd
  obtain ⟨mA, hns, _⟩ := hx
  obtain ⟨od, ho, _⟩ := lookIn_ns hns
  have J : W.InstAt s.heap a oe C (some od) := ⟨g, hz.1, by unfold W.notCls; rw [hd] <;> rfl, by rw [hz.2]; exact ho⟩
  exact W.kia_one (W.kitx_exc T.cl T.ga T.gg T.ex T.ca T.sp T.tk T.ob) I.kIn J e (fun z => nomatch z) fun tk => ⟨.bl b, H, I.tok tk, rfl, q⟩
/-- y.f -/
def tHeld (K : W.Frag) (f : Str) (te : TE) : TE := fun σ H Q => te σ H fun x H1 => ∃ (a C dd : Addr) (fs : List (Str × V)) (v : V), x = .ref a ∧ H1 a = some (ExH (.ref C) (some dd) a) ∧ H1 dd = some (.xd fs) ∧ HeldC K C ∧ W.findIn K (.ref C) f = some none ∧ fs.lookup f = some v ∧ Q v H1
theorem pe_held {e : Expr} {te : TE} {n : Str} {pos : Pos} (he : PE X e te) (hb : attributeBase e n X.env (eval e X.env) = eval e X.env := by rfl) : PE X (.Attribute e n pos) (tHeld X.K n te) := by
  refine ⟨fun pins s σ H Q I h => ?_⟩
  refine attr_of hb (thn (he.run pins s σ H _ I h) fun u s1 hh => ?_)
  obtain ⟨x, H1, I1, rx, a, C, dd, fs, v, rfl, ha, hdd, T, hno, l, q⟩ := hh
  obtain rfl : u = Value.ref a := rx
  obtain ⟨oe, vs, g, hz, hd⟩ := exH_at I1.hok ha
  have hx : ObjOk X.prog X.w H1 s1.heap dd (.xd fs) := I1.hok dd _ hdd
  obtain ⟨mA, hns, hr⟩ := hx
  obtain ⟨od, ho, hl⟩ := lookIn_ns hns
  obtain ⟨u, hu, ru⟩ := RelO.some_of (v := v) (o := mA n) (by rw [← l]; exact hr n)
  have J : W.InstAt s1.heap a oe C (some od) := ⟨g, hz.1, by unfold W.notCls; rw [hd] <;> rfl, by rw [hz.2]; exact ho⟩
  exact HandSPX.exc_get I1.kIn J T.ga T.gg T.ex (W.findObj_own T.hd hno rfl (by rw [hl, hu])) (handed_of ru) ⟨v, H1, I1.tok _, ru, q⟩
end

/-! ### raise C(e) -/
/-- C(e): the exception's own dict is new, it holds e -/
def tMkS (C : Addr) (f : Str) (ta : TA) : L2.St → Hp → XK → Prop := fun σ H Q => ta σ H fun vs H1 => ∃ v, vs = [v] ∧ ∀ d, H1 d = none → Q (.ref C) (some d) (upd H1 d (.xd [(f, v)]))
theorem pmk_sup {X : Cx} {x : Str} {C fI : Addr} {fd : FuncData} {par fld : Str} {e : Expr} {ta : TA} {p pos : Pos} (T : OexC X.K C) (iC : W.findIn X.K (.ref C) "__init__" = some (some (.ref fI))) (tI : W.typeIn X.K (.ref fI) = some (.type "function"))
    (F1 : FnOk X.prog X.w X.K X.mg X.base CX0 1 fI fd ["self", par] (spSup C fld)) (hr : Room 2 X.A) (hb : Binds X.K fd ["self", par] []) (hg : Gl X x) (hm : X.mg x = some (.ref C)) (ha : PA X [e] ta)
    (hdb : (x == ("__debug__" : Str)) = false := by decide) (he : starEach [e] X.env = (false, eval e X.env) :: starEach [] X.env := by rfl) :
    PMk X (.Call (.Name x p) [e] [] pos) (tMkS C fld ta) := by
  have hcl : PA X [e] (fun σ H Q => ∃ Q1, ta σ H Q1 ∧ ∀ vs H1, Q1 vs H1 → Q vs H1) := ⟨fun pos pins s σ H Q I ⟨Q1, h1, h2⟩ => thn (ha.run pos pins s σ H Q1 I h1) fun us s' ⟨vs, H1, J, r, q⟩ => ⟨vs, H1, J, r, h2 vs H1 q⟩⟩
  have base := pmk_oex (pos := pos) (p := p) T iC tI F1 hr hb .nil pass0 hg hm hcl hdb he rfl
  refine fun pins s σ H Q I h => base pins s σ H Q I ⟨_, h, fun vs H1 hv => ?_⟩
  obtain ⟨v, rfl, hq⟩ := hv
  refine ⟨by show 1 ≤ 1000; decide, fun a hna => ?_⟩
  refine ⟨a, v, rfl, upd_same, fun dx hdx hne => ⟨rfl, dx, [(fld, v)], upd_same, by rw [upd_ne hne, upd_same], ?_, ?_⟩⟩
  · rw [upd_ne hne] at hdx
    exact hdx
  · rw [upd_ne hne] at hdx
    have e1 : upd (del (upd (upd (upd H1 a (exo a C none)) dx (exd dx [(fld, v)])) a (exo a C (some dx))) a) dx (.xd [(fld, v)]) = upd H1 dx (.xd [(fld, v)]) := by
      funext b
      by_cases hb1 : b = dx
      · rw [hb1, upd_same, upd_same]
      · rw [upd_ne hb1, upd_ne hb1]
        by_cases hb2 : b = a
        · rw [hb2, del_same, hna]
        · rw [del_ne hb2, upd_ne hb2, upd_ne hb1, upd_ne hb2]
    rw [e1]
    exact hq dx hdx
end Ow

end
section
/-! Ow10: own exception classes by one fact each. -/
namespace Ow
open PySem L2
open PySem.Spec PyProof.Rows
/-- what the head says of an own exception class and its __init__ -/
structure ErrD (P : Program) (K : W.Frag) (mg : Str → Option Value) (x qual : Str) (st : Stmt) (fld : Str) : Prop where
  gl : mg x = some (.ref (He.ga K x))
  ox : OexC K (He.ga K x)
  no : W.findIn K (.ref (He.ga K x)) fld = some none
  iC : W.findIn K (.ref (He.ga K x)) "__init__" = some (some (.ref (He.ma K (He.ga K x) "__init__")))
  tI : W.typeIn K (.ref (He.ma K (He.ga K x) "__init__")) = some (.type "function")
  si : ∃ (fd : FuncData) (cc cda : Addr), SupInit P K (He.ga K x) qual (defArgs st) (defBody st) (defScope st) (He.ma K (He.ga K x) "__init__") fd cc cda
/-- such a class, its __init__'s promise kept -/
structure Err (P : Program) (w : World) (K : W.Frag) (mg : Str → Option Value) (base : Heap) (x fld : Str) : Prop where
  gl : mg x = some (.ref (He.ga K x))
  ox : OexC K (He.ga K x)
  iC : W.findIn K (.ref (He.ga K x)) "__init__" = some (some (.ref (He.ma K (He.ga K x) "__init__")))
  tI : W.typeIn K (.ref (He.ma K (He.ga K x) "__init__")) = some (.type "function")
  ok : ∃ (fd : FuncData) (par : Str), FnOk P w K mg base CX0 1 (He.ma K (He.ga K x) "__init__") fd ["self", par] (spSup (He.ga K x) fld) ∧ Binds K fd ["self", par] []
theorem ErrD.err {P : Program} {w : World} {K : W.Frag} {mg : Str → Option Value} {base : Heap} {x qual fld par : Str} {st : Stmt} (D : ErrD P K mg x qual st fld)
    (h : ∀ fd cc cda, SupInit P K (He.ga K x) qual (defArgs st) (defBody st) (defScope st) (He.ma K (He.ga K x) "__init__") fd cc cda → FnOk P w K mg base CX0 1 (He.ma K (He.ga K x) "__init__") fd ["self", par] (spSup (He.ga K x) fld))
    (hb : ∀ (kV doc pm ct : Value) (an : Option Addr) (cda cc : Addr) (us : List Value), us.length = (["self", par] : List Str).length → bindArgs (W.ksFn "__init__" qual (defArgs st) (defBody st) (defScope st) .none kV doc pm an (.ref cda) ct cc) ⟨us, []⟩ = pure ((["self", par] : List Str).zip us)) :
    Err P w K mg base x fld := by
  obtain ⟨fd, cc, cda, Si⟩ := D.si
  refine ⟨D.gl, D.ox, D.iC, D.tI, fd, par, h fd cc cda Si, ?_⟩
  obtain ⟨⟨oc, od, osl, kV, doc, pm, ct, an, rfl, lk⟩, _⟩ := Si
  exact .all (hb kV doc pm ct an cda cc)
/-- C(e) -/
theorem pmk_err {X : Cx} {x fld : Str} {e : Expr} {ta : TA} {p pos : Pos} (G : Err X.prog X.w X.K X.mg X.base x fld) (hr : Room 2 X.A) (ha : PA X [e] ta) (hg : Gl X x := by rfl) (hdb : (x == ("__debug__" : Str)) = false := by decide)
    (he : starEach [e] X.env = (false, eval e X.env) :: starEach [] X.env := by rfl) : PMk X (.Call (.Name x p) [e] [] pos) (tMkS (He.ga X.K x) fld ta) := by
  obtain ⟨fd, par, F, b⟩ := G.ok
  exact pmk_sup G.ox G.iC G.tI F hr b hg G.gl ha hdb he
end Ow

end
section
/-! Ow3: zip of two sequences, each a list or a tuple. -/
namespace Ow
open PySem L2
open PySem.Spec PyProof.Rows

/-- a list (fl) or a tuple of xs is to be read at a -/
def SqF (K : W.Frag) (fl : Bool) (H : Hp) (a : Addr) (xs : List V) : Prop := match fl with
  | true => SqL K H a xs
  | false => SqT K H a xs
/-- .. on the heap; its iterator's state -/
def SeqH (fl : Bool) (h : Heap) (a : Addr) (its : Array Value) : Prop := match fl with
  | true => h.IsList a its
  | false => h.IsTuple a its
def ItH (fl : Bool) (h : Heap) (it a : Addr) (i : Nat) : Prop := match fl with
  | true => h.IsListIter it a i
  | false => h.IsTupleIter it a i
theorem SeqH.at' {fl : Bool} {h h' : Heap} {a : Addr} {its : Array Value} (x : SeqH fl h a its) (k : ∀ o, h.get? a = some o → h'.get? a = some o) : SeqH fl h' a its := by
  cases fl
  · obtain ⟨o, e, r⟩ := x; exact ⟨o, k o e, r⟩
  · obtain ⟨o, e, r⟩ := x; exact ⟨o, k o e, r⟩
theorem ItH.at' {fl : Bool} {h h' : Heap} {it a : Addr} {i : Nat} (x : ItH fl h it a i) (k : ∀ o, h.get? it = some o → h'.get? it = some o) : ItH fl h' it a i := by
  cases fl
  · obtain ⟨o, e, r⟩ := x; exact ⟨o, k o e, r⟩
  · obtain ⟨o, e, r⟩ := x; exact ⟨o, k o e, r⟩
theorem ItH.obj {fl : Bool} {h : Heap} {it a : Addr} {i : Nat} (x : ItH fl h it a i) : ∃ o, h.get? it = some o ∧ ∀ v, o.data ≠ .cell v := by
  cases fl <;> (obtain ⟨o, e, _, d⟩ := x; exact ⟨o, e, fun v q => by rw [d] at q; cases q⟩)
theorem draws_f {prog : Program} {w : World} {A : Around} (fl : Bool) (hh : A.handled = none) (it a : Addr) (hne : a ≠ it) (its : Array Value) :
    Draws prog w A it [it, a] its.size (fun i v => its[i]? = some v) (fun i h => ItH fl h it a i ∧ SeqH fl h a its) := by
  cases fl
  · exact Draws.tuple hh it a hne its
  · exact Draws.list hh it a hne its
def beginO (fl : Bool) (a : Addr) : Obj := { cls := .type (if fl then "list_iterator" else "tuple_iterator"), data := .fields #[.ref a, .int 0 0] }
theorem begins_f (fl : Bool) (a : Addr) (its : Array Value) : Begins (.ref a) (beginO fl a) (fun h => SeqH fl h a its) := by
  cases fl
  · exact begins_tuple a its
  · exact begins_list a its
theorem begin_it {fl : Bool} {h : Heap} {it a : Addr} (e : h.get? it = some (beginO fl a)) : ItH fl h it a 0 := by
  cases fl <;> exact ⟨_, e, rfl, rfl⟩

section
variable {X : Cx} {pins : List (Addr × Obj)} {σ : L2.St} {H : Hp} {s : Shared} {fl : Bool} {a : Addr} {xs ys : List V}
theorem SqF.on (I : L2.Inv X pins σ H s) (h : SqF X.K fl H a xs) : ∃ its : List Value, Vals xs its ∧ SeqH fl s.heap a its.toArray ∧ xs.length ≤ sizeLine := by
  cases fl
  · obtain ⟨its, r, p, z⟩ := I.tuple h; exact ⟨its, r, p, z⟩
  · obtain ⟨its, r, p, z⟩ := I.list h; exact ⟨its, r, p.isList, z⟩
theorem SqF.inj (I : L2.Inv X pins σ H s) (h : SqF X.K fl H a xs) (h' : SqF X.K fl H a ys) : xs = ys := by
  cases fl
  · exact I.tuple_inj h h'
  · exact I.list_inj h h'
end
/-- the two as they stand at each turn, the items in new pairs -/
def ItzF (K : W.Frag) (f1 f2 : Bool) (a b : Addr) : It :=
  ⟨fun i H => ∃ (xs ys : List V) (x y : V), SqF K f1 H a xs ∧ SqF K f2 H b ys ∧ xs[i]? = some x ∧ ys[i]? = some y,
    fun i H v H' => ∃ T x y, v = .ref T ∧ H T = none ∧ H' = upd H T (.tup [x, y]) ∧ (∀ xs, SqF K f1 H a xs → xs[i]? = some x) ∧ ∀ ys, SqF K f2 H b ys → ys[i]? = some y,
    fun i H => ∃ xs ys : List V, SqF K f1 H a xs ∧ SqF K f2 H b ys ∧ i ≤ xs.length ∧ i ≤ ys.length ∧ (i = xs.length ∨ i = ys.length)⟩

theorem sep_of {z TI TO i1 i2 a b : Nat} (hz : z ≠ TI ∧ z ≠ TO ∧ z ≠ i1 ∧ z ≠ i2 ∧ z ≠ a ∧ z ≠ b) (hT : TI ≠ TO ∧ TI ≠ i1 ∧ TI ≠ i2) (hO : TO ≠ i1 ∧ TO ≠ i2 ∧ TO ≠ a ∧ TO ≠ b) (hi : i1 ≠ i2 ∧ i1 ≠ b ∧ i2 ≠ a) : ZipSep2 z TI TO i1 i2 [i1, a] [i2, b] where
  TIz := hz.1.symm
  TOz := hz.2.1.symm
  TITO := hT.1
  TIi1 := hT.2.1
  mem1 := by simp
  zf1 := by simp [hz.2.2.1, hz.2.2.2.2.1]
  Tf1 := by simp [hO.1, hO.2.2.1]
  TIi2 := hT.2.2
  mem2 := by simp
  zf2 := by simp [hz.2.2.2.1, hz.2.2.2.2.2]
  Tf2 := by simp [hO.2.1, hO.2.2.2]
  sep1_2 := by simp [hi.1, hi.2.1]
  sep2_1 := by simp [hi.1.symm, hi.2.2]
/-- five cells in a row from n, two addresses below -/
structure Five (n z TI TO i1 i2 a b : Addr) : Prop where
  ha : a < n
  hb : b < n
  e : i1 = n ∧ i2 = n + 1 ∧ TI = n + 2 ∧ TO = n + 3 ∧ z = n + 4
theorem Five.sep {n z TI TO i1 i2 a b : Nat} (F : Five n z TI TO i1 i2 a b) : ZipSep2 z TI TO i1 i2 [i1, a] [i2, b] ∧ a ≠ i1 ∧ b ≠ i2 := by
  obtain ⟨ha, hb, h1, h2, h3, h4, h5⟩ := F
  have ha' : @LT.lt Nat _ a n := ha
  have hb' : @LT.lt Nat _ b n := hb
  have k1 : @Eq Nat i1 n := h1
  have k2 : @Eq Nat i2 (n + 1) := h2
  have k3 : @Eq Nat TI (n + 2) := h3
  have k4 : @Eq Nat TO (n + 3) := h4
  have k5 : @Eq Nat z (n + 4) := h5
  exact ⟨sep_of ⟨by omega, by omega, by omega, by omega, by omega, by omega⟩ ⟨by omega, by omega, by omega⟩ ⟨by omega, by omega, by omega, by omega⟩ ⟨by omega, by omega, by omega⟩, by omega, by omega⟩

theorem turn_zipF {P : Program} {w : World} {K : W.Frag} {elts : List Expr} {kk : Nat} {tpos : Pos} {f1 f2 : Bool} {n a b z TI TO i1 i2 : Addr} (F5 : Five n z TI TO i1 i2 a b) :
    Turn P w K (.Tuple elts kk tpos) (ItzF K f1 f2 a b) [z, TI, TO, i1, i2] z (fun i h => IsZip h z TI TO .none ∧ IsTupOf2 h TI (.ref i1) (.ref i2) ∧ (∃ x y, IsTupOf2 h TO x y) ∧ ItH f1 h i1 a i ∧ ItH f2 h i2 b i) := by
  obtain ⟨S, nai, nbi⟩ := F5.sep
  have five : ∀ {c : Addr}, c ∈ [z, TI, TO, i1, i2] → c = z ∨ c = TI ∨ c = TO ∨ c = i1 ∨ c = i2 := fun hc => by simpa using hc
  have live : ∀ {i : Nat} {h : Heap}, (IsZip h z TI TO .none ∧ IsTupOf2 h TI (.ref i1) (.ref i2) ∧ (∃ x y, IsTupOf2 h TO x y) ∧ ItH f1 h i1 a i ∧ ItH f2 h i2 b i) → ∀ c ∈ [z, TI, TO, i1, i2], ∃ o, h.get? c = some o ∧ ∀ v, o.data ≠ .cell v := fun {i h} st c hc => by
    obtain ⟨hz, hTI, ⟨x, y, hTO⟩, h1, h2⟩ := st
    rcases five hc with q | q | q | q | q <;> subst q
    · exact ⟨_, hz, fun v z => by cases z⟩
    · exact ⟨_, hTI, fun v z => by cases z⟩
    · exact ⟨_, hTO, fun v z => by cases z⟩
    · exact h1.obj
    · exact h2.obj
  refine ⟨by simp, fun i h st c hc => live st c hc, fun i h h' st k => ?_, ?_, ?_, fun A i s Q E st h => wpAny_pyIter_zip st.1 h⟩
  · obtain ⟨hz, hTI, ⟨x, y, hTO⟩, h1, h2⟩ := st
    exact ⟨k z (by simp) _ hz, k TI (by simp) _ hTI, ⟨x, y, k TO (by simp) _ hTO⟩, h1.at' (fun o q => k i1 (by simp) o q), h2.at' (fun o q => k i2 (by simp) o q)⟩
  · rintro X rfl rfl rfl hc i pins s σ H E I hf st ⟨xs, ys, x, y, qx, qy, hx, hy⟩
    have lv := live st
    obtain ⟨hz, hTI, ⟨x0, y0, hTO⟩, h1, h2⟩ := st
    obtain ⟨ix, rx, px, _⟩ := qx.on I
    obtain ⟨iy, ry, py, _⟩ := qy.on I
    obtain ⟨u, hu, ru⟩ := rx.get hx
    obtain ⟨v, hv, rv⟩ := ry.get hy
    have l1 : i < ix.toArray.size := by
      have := (List.getElem?_eq_some_iff.mp hu).1
      simpa using this
    have l2 : i < iy.toArray.size := by
      have := (List.getElem?_eq_some_iff.mp hv).1
      simpa using this
    refine wpAny_pyNext_zipD2_item S (draws_f (A := X.A.in1) f1 (I.ok.hd hc) i1 a nai ix.toArray) (draws_f (A := X.A.in1) f2 (I.ok.hd hc) i2 b nbi iy.toArray) hz hTI hTO ⟨h1, px⟩ ⟨h2, py⟩ l1 l2 fun y1 y2 h' tk p1 p2 z' TO' s1 s2 hT hsz hk => ?_
    have e1 : y1 = u := by
      have q : ix.toArray[i]? = some u := by simpa using hu
      rw [q] at p1
      exact (Option.some.inj p1).symm
    have e2 : y2 = v := by
      have q : iy.toArray[i]? = some v := by simpa using hv
      rw [q] at p2
      exact (Option.some.inj p2).symm
    subst e1 e2
    have below : ∀ c ∈ [z, TI, TO, i1, i2], c < s.heap.objs.size := fun c hcm => by
      obtain ⟨o, e, _⟩ := lv c hcm
      exact Heap.lt_size e
    have bz : s.heap.objs.size ≠ z := Nat.ne_of_gt (below z (by simp))
    refine ⟨_, rfl, wpAny_letOwnedTupleGo_zip (s := { s with heap := h', toks := tk }) z' fun h2' z2 sb => ?_⟩
    have hT2 := (sb.2 _ bz).trans hT
    have I1 : L2.Inv X pins σ (upd H s.heap.objs.size (.tup [x, y])) { s with heap := h2', toks := tk } :=
      I.turnedNew (ch := [z, TI, TO, i1, i2]) (fun c o nb q => (sb.2 c (fun q' => nb (by simp [q']))).trans (hk c o (fun q' => nb (by simp [q'])) (fun q' => nb (by simp [q'])) (fun q' => nb (by simp [q'])) (fun q' => nb (by simp [q'])) q)) hf (Nat.le_refl _)
        ⟨by show 2 ≤ sizeLine; decide, [y1, y2], .cons ru (.cons rv .nil), ⟨_, hT2, rfl, _, rfl⟩⟩
    refine ⟨.ref s.heap.objs.size, _, I1, rfl, ⟨_, x, y, rfl, I.hok.fresh (Nat.le_refl _), rfl, fun l hl => by rw [SqF.inj I hl qx]; exact hx, fun l hl => by rw [SqF.inj I hl qy]; exact hy⟩, ⟨z2, ?_, ⟨y1, y2, (sb.2 _ S.TOz).trans TO'⟩, s1.1.at' fun o q => (sb.2 _ (Ne.symm S.zi1)).trans q, s2.1.at' fun o q => (sb.2 _ (Ne.symm S.zi2)).trans q⟩, fun c hcm => ?_⟩
    · exact (sb.2 _ S.TIz).trans (hk _ _ S.TIz S.TITO S.TIi1 S.TIi2 hTI)
    · rw [upd_ne (Nat.ne_of_lt (below c hcm))]
      exact (hf c hcm).1
  · rintro X rfl rfl rfl hc i pins s σ H E I hf st ⟨xs, ys, qx, qy, m1, m2, hend⟩
    obtain ⟨hz, hTI, ⟨x0, y0, hTO⟩, h1, h2⟩ := st
    obtain ⟨ix, rx, px, _⟩ := qx.on I
    obtain ⟨iy, ry, py, _⟩ := qy.on I
    have l1 := rx.length
    have l2 := ry.length
    have z1 : ix.toArray.size = xs.length := by simp [l1]
    have z2 : iy.toArray.size = ys.length := by simp [l2]
    refine wpAny_pyNext_zipD2_end S (draws_f (A := X.A.in1) f1 (I.ok.hd hc) i1 a nai ix.toArray) (draws_f (A := X.A.in1) f2 (I.ok.hd hc) i2 b nbi iy.toArray) hz hTI hTO ⟨h1, px⟩ ⟨h2, py⟩ (by omega) (by omega) (by omega) fun h' tk hk => ⟨rfl, ?_⟩
    exact I.turnedL (ch := [z, TI, TO, i1, i2]) (fun c o nb q => hk c o (fun q' => nb (by simp [q'])) (fun q' => nb (by simp [q'])) (fun q' => nb (by simp [q'])) (fun q' => nb (by simp [q'])) q) hf

/-- for .. in zip(e, e2) -/
def iZipF (K : W.Frag) (ta : TA) : TI := fun σ H R => ta σ H fun vs H1 => ∃ (a b : Addr) (xs ys : List V) (f1 f2 : Bool), vs = [.ref a, .ref b] ∧ SqF K f1 H1 a xs ∧ SqF K f2 H1 b ys ∧ R (ItzF K f1 f2 a b) H1
theorem pi_zipF {X : Cx} {e e2 : Expr} {ta : TA} {p pos tpos : Pos} {elts : List Expr} {kk : Nat} (hg : Gl X "zip") (hm : X.mg "zip" = none) (ha : PA X [e, e2] ta)
    (hs : starEach [e, e2] X.env = (false, eval e X.env) :: starEach [e2] X.env := by rfl) (hpl : (backTo pos (starEach [e2] X.env)).any (·.1) = false := by rfl) :
    PI X (.Tuple elts kk tpos) (.Call (.Name "zip" p) [e, e2] [] pos) (iZipF X.K ta) := by
  refine ⟨fun pins s σ H R I h => ?_⟩
  refine Call_ (ld_blt I hg hm PyProof.Rows.boot_zip (PyProof.Rows.callWith_type1 (thn (ha.run pos pins s σ H _ I h) fun us s1 ⟨vs, H1, I1, r1, q1⟩ => ?_) hs hpl))
  obtain ⟨a, b, xs, ys, f1, f2, ex, qx, qy, q⟩ := q1
  subst ex
  obtain ⟨u1, u2, rfl, ra, rb⟩ := vals2 r1
  cases (show u1 = Value.ref a from ra)
  cases (show u2 = Value.ref b from rb)
  obtain ⟨ix, rx, px, _⟩ := qx.on I1
  obtain ⟨iy, ry, py, _⟩ := qy.on I1
  have lt : ∀ {fl : Bool} {c : Addr} {its : Array Value}, SeqH fl s1.heap c its → c < s1.heap.objs.size := fun {fl c its} z => by
    cases fl <;> (obtain ⟨o, e, _⟩ := z; exact Heap.lt_size e)
  refine zip_begins2 (begins_f f1 a ix.toArray) (begins_f f2 b iy.toArray) px py fun h' hz hTI hTO g1 g2 hsz hk => wpAny_pyIter_zip hz ?_
  have I2 : L2.Inv X pins σ H1 { s1 with heap := h' } := I1.kept (t' := s1.toks) hk
  refine ⟨s1.heap.objs.size + 4, [s1.heap.objs.size + 4, s1.heap.objs.size + 2, s1.heap.objs.size + 3, s1.heap.objs.size, s1.heap.objs.size + 1], _, _, H1, rfl, I2, turn_zipF ⟨lt px, lt py, rfl, rfl, rfl, rfl, rfl⟩, ⟨hz, hTI, ⟨_, _, hTO⟩, begin_it g1, begin_it g2⟩, fun c hcm => ?_, q⟩
  have hle : s1.heap.objs.size ≤ c := by
    have e' : c = s1.heap.objs.size + 4 ∨ c = s1.heap.objs.size + 2 ∨ c = s1.heap.objs.size + 3 ∨ c = s1.heap.objs.size ∨ c = s1.heap.objs.size + 1 := by simpa using hcm
    rcases e' with z | z | z | z | z <;> rw [z] <;> first | exact Nat.le_refl _ | exact Nat.le_add_right _ _
  exact I1.fpOk hle (I1.hok.fresh hle)
theorem walk_zipF {K : W.Frag} {f1 f2 : Bool} {a b : Addr} {xs ys : List V} {n : Nat} (hn : n = min xs.length ys.length) : Walk (ItzF K f1 f2 a b) n (fun H => SqF K f1 H a xs ∧ SqF K f2 H b ys) (YPair (fun i => xs[i]?) (fun i => ys[i]?)) := by
  subst hn
  refine ⟨fun i _ hi q => ?_, fun _ q => ⟨xs, ys, q.1, q.2, Nat.min_le_left _ _, Nat.min_le_right _ _, by omega⟩, fun i H v H' _ q y => ?_⟩
  · have h1 : i < xs.length := by omega
    have h2 : i < ys.length := by omega
    exact ⟨xs, ys, xs[i], ys[i], q.1, q.2, by simp [h1], by simp [h2]⟩
  · obtain ⟨T, x, z, h1, h2, h3, h4, h5⟩ := y
    exact ⟨T, x, z, h1, h2, h3, h4 xs q.1, h5 ys q.2⟩
end Ow

end
section
/-! Ow11: a list or a tuple, whichever. -/
namespace Ow
open PySem L2
open PySem.Spec PyProof.Rows
section
variable {K : W.Frag} {H H' : Hp} {fl : Bool} {a : Addr} {xs : List V} {Q : VK}
theorem SqF.or (h : SqF K fl H a xs) : SqL K H a xs ∨ SqT K H a xs := by
  cases fl
  · exact .inr h
  · exact .inl h
theorem SqF.ext (h : SqF K fl H a xs) (e : Ext H H') : SqF K fl H' a xs := by
  cases fl
  · exact SqT.ext h e
  · exact SqL.ext h e
def dItems : PyData → List PyData
  | .list ds => ds
  | .tuple ds => ds
  | _ => []
theorem seq_of {v : V} {d : PyData} (h : Vd K H v d) (hs : dSeq d = true) : ∃ fl a xs, v = .ref a ∧ SqF K fl H a xs ∧ DpAll K H xs (dItems d) := by
  rcases h with h | ⟨_, _, _, rfl⟩
  · cases h with
    | lst q r => exact ⟨true, _, _, rfl, q, r⟩
    | tup q r => exact ⟨false, _, _, rfl, q, r⟩
    | _ => cases hs
  · cases hs
theorem at0 {x : V} {r : List V} : atI (x :: r) 0 = some x := atI_nat (j := 0) rfl
theorem ixF {i : Int} {v : V} (h : SqF K fl H a xs) (e : atI xs i = some v) (q : Q v H) : rIx K (.ref a) (.int i) H Q := by
  rcases h.or with h | h
  · exact .inl ⟨a, xs, i, v, rfl, rfl, h, e, q⟩
  · exact .inr (.inl ⟨a, xs, i, v, rfl, rfl, h, e, q⟩)
theorem cut1 {xs : List V} : cutV xs (some 1) none = xs.drop 1 := by
  unfold cutV
  rw [HT.sIx_none, show (some (1 : Int)) = some ((1 : Nat) : Int) from rfl, HT.sIx_nat]
  by_cases c : 1 ≤ xs.length
  · rw [Nat.min_eq_left c, List.take_of_length_le (by simp)]
  · rw [Nat.min_eq_right (by omega), List.drop_of_length_le (Nat.le_refl _), List.drop_of_length_le (by omega), List.take_nil]
/-- s[1:] of what isn't empty: a new one of the same kind -/
theorem slF1 (h : SqF K fl H a xs) (hn : xs ≠ []) (q : ∀ p H', Ext H H' → SqF K fl H' p (xs.drop 1) → Q (.ref p) H') : rSlL K (.ref a) (some 1) none H Q ∨ rSlT K (.ref a) (some 1) none H Q := by
  cases fl
  · refine .inr ⟨a, xs, rfl, h, fun z => ?_, fun p hp => ?_⟩
    · have z1 := z.1
      rw [show (some (1 : Int)) = some ((1 : Nat) : Int) from rfl, HT.sIx_nat] at z1
      have : xs.length ≠ 0 := fun e => hn (List.length_eq_zero_iff.mp e)
      omega
    · rw [cut1]
      exact q p _ (Ext.upd hp) (SqT.of upd_same)
  · refine .inl ⟨a, xs, rfl, h, fun p hp => ?_⟩
    rw [cut1]
    exact q p _ (Ext.upd hp) (SqL.of upd_same)
end
def ItF (K : W.Frag) (fl : Bool) (a : Addr) : It := if fl = true then Itl K a else Itt K a
/-- for x in s, s a list or a tuple -/
def iSeqF (K : W.Frag) (tl : TE) : TI := fun σ H R => tl σ H fun x H1 => ∃ (fl : Bool) (a : Addr) (xs : List V), x = .ref a ∧ SqF K fl H1 a xs ∧ R (ItF K fl a) H1
theorem pi_seqF {X : Cx} {tg l : Expr} {tl : TE} (hl : PE X l tl) : PI X tg l (iSeqF X.K tl) := by
  refine ⟨fun pins s σ H R J h => thn (hl.run pins s σ H _ J h) fun v s1 ⟨x, H1, J1, r1, fl, a, xs, ex, hq, q⟩ => ?_⟩
  subst ex
  cases r1
  have fp : ∀ b ∈ [s1.heap.objs.size], FpOk X pins H1 b := fun b hb => by
    rw [List.mem_singleton.mp hb]
    exact J1.fpOk (Nat.le_refl _) (J1.hok.fresh (Nat.le_refl _))
  cases fl with
  | true =>
    obtain ⟨its, rv, p, hz⟩ := J1.list hq
    exact wpAny_pyIter_list p.isList ⟨s1.heap.objs.size, [s1.heap.objs.size], _, _, H1, rfl, J1.kept (t' := s1.toks) fun b o e => Heap.get?_push_of_some _ e, turn_list a _, ⟨_, Heap.get?_push_size _ rfl, rfl, rfl⟩, fp, q⟩
  | false =>
    obtain ⟨its, rv, p, hz⟩ := J1.tuple hq
    exact wpAny_pyIter_tuple (show s1.heap.IsTuple a its.toArray from p) ⟨s1.heap.objs.size, [s1.heap.objs.size], _, _, H1, rfl, J1.kept (t' := s1.toks) fun b o e => Heap.get?_push_of_some _ e, turn_tuple a _, ⟨_, Heap.get?_push_size _ rfl, rfl, rfl⟩, fp, q⟩
/-- the same, K said -/
theorem pi_seqFK {X : Cx} {K : W.Frag} {tg l : Expr} {tl : TE} (hK : X.K = K) (hl : PE X l tl) : PI X tg l (iSeqF K tl) := by
  subst hK
  exact pi_seqF hl
theorem call_list_ofK {X : Cx} {K : W.Frag} (hK : X.K = K) : CallR X (.type "list") (fun xs H Q => ∃ p ys, xs = [.ref p] ∧ (SqL K H p ys ∨ SqT K H p ys) ∧ ∀ l, H l = none → Q (.ref l) (upd H l (.lst ys))) := by
  subst hK
  exact call_list_of
theorem call_tuple_ofK {X : Cx} {K : W.Frag} (hK : X.K = K) : CallR X (.type "tuple") (fun xs H Q => ∃ p ys, xs = [.ref p] ∧ ((SqL K H p ys ∧ ∀ l, H l = none → Q (.ref l) (upd H l (.tup ys))) ∨ (SqT K H p ys ∧ Q (.ref p) H))) := by
  subst hK
  exact call_tuple_of
theorem walk_seqF {K : W.Frag} {fl : Bool} {a : Addr} {xs : List V} : Walk (ItF K fl a) xs.length (fun H => SqF K fl H a xs) (YAt xs) := by
  cases fl
  · exact walk_tup
  · exact walk_list
end Ow

end
section
/-! Ow16: data in order; dict(pairs) whose keys are pairs of pairs, its keys as a list; sorted of data. -/
namespace Ow
open PySem L2
open PySem.Spec PyProof.Rows

/-! ### x < y, x >= y -/
def rLtDA (K : W.Frag) : R2 := fun x y H Q => ∃ d e, Dp K H x d ∧ Dp K H y e ∧ W.alike d e = true ∧ d ≠ .none ∧ d.depth ≤ 20 ∧ Q (.bl (W.dataLt d e)) H
def rGeDA (K : W.Frag) : R2 := fun x y H Q => ∃ d e, Dp K H x d ∧ Dp K H y e ∧ W.alike d e = true ∧ d ≠ .none ∧ d.depth ≤ 20 ∧ Q (.bl (!W.dataLt d e)) H
section
variable {X : Cx}
theorem op_ltDA (hu : X.A.units + 64 < cLine) : OpR X (compareOp .Lt) (rLtDA X.K) := by
  intro pins s σ H x y v u Q I rx ry ⟨d, e, hd, he, al, hn, hz, q⟩
  obtain ⟨as, r1⟩ := Dp.reads I d x v hd rx
  obtain ⟨bs, r2⟩ := Dp.reads I e y u he ry
  exact W.lt_data r1 r2 al hn (by omega) ⟨.bl _, H, I, rfl, q⟩
theorem op_geDA (hu : X.A.units + 64 < cLine) : OpR X (compareOp .GtE) (rGeDA X.K) := by
  intro pins s σ H x y v u Q I rx ry ⟨d, e, hd, he, al, hn, hz, q⟩
  obtain ⟨as, r1⟩ := Dp.reads I d x v hd rx
  obtain ⟨bs, r2⟩ := Dp.reads I e y u he ry
  exact W.ge_data r1 r2 al hn (by omega) ⟨.bl _, H, I, rfl, q⟩
end

/-! ### dict([(k, True), ..]), k a pair of pairs of numbers -/
structure P4 where
  a : Int
  b : Int
  c : Int
  d : Int
def P4.dat (p : P4) : PyData := .tuple [.tuple [.int p.a, .int p.b], .tuple [.int p.c, .int p.d]]
def P4.key (p : P4) : NestedKey := .tup [.tup [.num p.a, .num p.b], .tup [.num p.c, .num p.d]]
/-- the dict at D has some of these keys -/
def DKeys (D : Addr) (ks : List Addr) (h : Heap) : Prop := (D == sysModules) = false ∧ ∃ es ep, h.DictRaw D es ep ∧ es.size ≤ ks.length ∧ ∀ i (hi : i < es.size), ∃ k ∈ ks, es[i].key = .ref k
theorem DKeys.at' {D : Addr} {ks : List Addr} {h h' : Heap} (x : DKeys D ks h) (k : ∀ o, h.get? D = some o → h'.get? D = some o) : DKeys D ks h' := by
  obtain ⟨z, es, ep, r, q⟩ := x
  exact ⟨z, es, ep, r.at k, q⟩
theorem stored_addrs {κ : Type} [DecidableEq κ] (xs : List (κ × Addr × Value)) (k : κ) (a : Addr) (v : Value) : ∀ y ∈ storedH xs k a v, y.2.1 ∈ xs.map (·.2.1) ∨ y.2.1 = a := by
  intro y hy
  unfold storedH at hy
  split at hy
  · obtain ⟨z, hz, rfl⟩ := List.mem_map.mp hy
    refine .inl (List.mem_map.mpr ⟨z, hz, ?_⟩)
    unfold putAt
    split <;> rfl
  · rcases List.mem_append.mp hy with hy | hy
    · exact .inl (List.mem_map.mpr ⟨y, hy, rfl⟩)
    · rw [List.mem_singleton.mp hy]
      exact .inr rfl
theorem storedAll_addrs {κ : Type} [DecidableEq κ] : ∀ (ps xs : List (κ × Addr × Value)), ∀ y ∈ storedAllH xs ps, y.2.1 ∈ xs.map (·.2.1) ∨ y.2.1 ∈ ps.map (·.2.1)
  | [], xs, y, hy => .inl (List.mem_map.mpr ⟨y, hy, rfl⟩)
  | p :: ps, xs, y, hy => by
    have hy : y ∈ storedAllH (storedH xs p.1 p.2.1 p.2.2) ps := hy
    rcases storedAll_addrs ps _ y hy with h | h
    · obtain ⟨z, hz, ez⟩ := List.mem_map.mp h
      rcases stored_addrs xs _ _ _ z hz with h | h
      · rw [ez] at h
        exact .inl h
      · rw [ez] at h
        exact .inr (by rw [List.map_cons, h]; exact List.mem_cons_self)
    · exact .inr (by rw [List.map_cons]; exact List.mem_cons_of_mem _ h)
section
variable {X : Cx} {pins : List (Addr × Obj)} {σ : L2.St} {H : Hp} {s : Shared}
theorem nested_ints (I : L2.Inv X pins σ H s) {v : V} {u : Value} {i j : Int} (h : Dp X.K H v (.tuple [.int i, .int j])) (r : RelV v u) : NestedIs s.heap (.tup [.num i, .num j]) u := by
  obtain ⟨a, xs, rfl, hT, hA⟩ := Dp.tupV h
  cases r
  obtain ⟨its, rv, ⟨o, ho, hc, n, hd⟩, _⟩ := I.tuple hT
  refine .tup ho hc hd ?_
  cases hA with
  | cons h1 hA =>
    cases hA with
    | cons h2 hA =>
      cases hA
      obtain rfl := Dp.intV h1
      obtain rfl := Dp.intV h2
      cases rv with
      | cons r1 rv =>
        cases rv with
        | cons r2 rv =>
          cases rv
          obtain ⟨t1, rfl⟩ := r1
          obtain ⟨t2, rfl⟩ := r2
          exact .cons (.int _ _) (.cons (.int _ _) .nil)
theorem nested_p4 (I : L2.Inv X pins σ H s) {v : V} {u : Value} {p : P4} (h : Dp X.K H v p.dat) (r : RelV v u) : NestedIs s.heap p.key u := by
  obtain ⟨a, xs, rfl, hT, hA⟩ := Dp.tupV h
  cases r
  obtain ⟨its, rv, ⟨o, ho, hc, n, hd⟩, _⟩ := I.tuple hT
  refine .tup ho hc hd ?_
  cases hA with
  | cons h1 hA =>
    cases hA with
    | cons h2 hA =>
      cases hA
      cases rv with
      | cons r1 rv =>
        cases rv with
        | cons r2 rv =>
          cases rv
          exact .cons (nested_ints I h1 r1) (.cons (nested_ints I h2 r2) .nil)
/-- the list's pairs: tuple, key, what the key is -/
structure PkT where
  T : Addr
  k : Addr
  p : P4
def rDictN (K : W.Frag) : List V → Hp → VK → Prop := fun xs H Q => ∃ (a : Addr) (ps : List PkT), xs = [.ref a] ∧ SqL K H a (ps.map fun z => V.ref z.T) ∧ ps.length ≤ 1000 ∧
  (∀ z ∈ ps, SqT K H z.T [.ref z.k, .bl true] ∧ Dp K H (.ref z.k) z.p.dat) ∧ ∀ D, H D = none → Q (.ref D) (upd H D (.ext (DKeys D (ps.map (·.k)))))
theorem call_dictN (hc : X.calm = true) (hu : X.A.units + 64 < cLine) : CallR X (.type "dict") (rDictN X.K) := by
  intro pins s σ H xs us Q I r ⟨a, ps, e, hL, hz, hp, q⟩
  subst e
  rw [Vals.ref1 r]
  obtain ⟨its, rv, ⟨o, n, ho, hcl, hdi, hda⟩, _⟩ := I.list hL
  have hlen : its.length = ps.length := by rw [← rv.length, List.length_map]
  let raw : List (Value × Value) := ps.map fun z => (Value.ref z.k, Value.bool true)
  let Ts : Nat → Addr := fun j => ((ps[j]?).map (·.T)).getD 0
  have hraw : raw.length = ps.length := List.length_map ..
  have hI : PairItems s.heap its.toArray Ts raw := by
    refine ⟨by rw [List.size_toArray, hlen, hraw], fun j k v hj => ?_⟩
    have hj' : (ps[j]?).map (fun z => (Value.ref z.k, Value.bool true)) = some (k, v) := by rw [← List.getElem?_map]; exact hj
    obtain ⟨z, hz1, hz2⟩ := Option.map_eq_some_iff.mp hj'
    obtain ⟨rfl, rfl⟩ := Prod.mk.inj hz2.symm
    have eT : Ts j = z.T := by show ((ps[j]?).map (·.T)).getD 0 = _; rw [hz1]; rfl
    obtain ⟨hT, _⟩ := hp z (List.mem_of_getElem? hz1)
    obtain ⟨it2, rv2, hT2, _⟩ := I.tuple hT
    have e2 : it2 = [Value.ref z.k, Value.bool true] := by
      cases rv2 with
      | cons r1 rv2 =>
        cases rv2 with
        | cons r2 rv2 =>
          cases rv2
          cases r1
          cases r2
          rfl
    subst e2
    have hv : (ps.map fun z => V.ref z.T)[j]? = some (.ref z.T) := by rw [List.getElem?_map, hz1]; rfl
    obtain ⟨u, hu1, ru⟩ := rv.get hv
    cases ru
    refine ⟨by rw [eT, List.getElem?_toArray]; exact hu1, .inl ?_⟩
    rw [eT]
    exact hT2
  have hst : KeysStay (nestedKind X.prog X.w) s.heap s.heap.objs.size [] (ps.map fun z => (z.p.key, z.k, Value.bool true)) := by
    intro h' hk x hx
    obtain ⟨z, hz1, rfl⟩ := List.mem_map.mp hx
    have h1 := nested_p4 I (hp z hz1).2 (show RelV (.ref z.k) (.ref z.k) from rfl)
    refine ⟨NestedIs.at (fun b o2 vs n2 hb _ => hk b o2 (Nat.ne_of_lt (Heap.lt_size hb)) (by simp) hb) _ _ h1, ?_⟩
    simp [P4.key, NestedKey.depth, NestedKey.depthAll]
  refine call_dict_pairsH (knd := nestedKind X.prog X.w) (ps := ps.map fun z => (z.p.key, z.k, Value.bool true)) (PairArg.list a its.toArray Ts raw) (I.ok.hd hc) (show X.A.in1.in1.units + 8 < cLine by show X.A.units + 1 + 1 + 8 < cLine; omega)
    ⟨⟨o, n, ho, hcl, hdi, hda⟩, hI⟩ ⟨by rw [List.length_map, hraw], fun i key v hr => ?_⟩ hst (by rw [hraw]; exact Nat.le_of_lt (small1000 hz)) fun h' tk hd' hk => ?_
  · have hj' : (ps[i]?).map (fun z => (Value.ref z.k, Value.bool true)) = some (key, v) := by rw [← List.getElem?_map]; exact hr
    obtain ⟨z, hz1, hz2⟩ := Option.map_eq_some_iff.mp hj'
    obtain ⟨rfl, rfl⟩ := Prod.mk.inj hz2.symm
    exact ⟨z.p.key, z.k, by rw [List.getElem?_map, hz1]; rfl, rfl⟩
  · obtain ⟨es, ep, hr, hsz, hes⟩ := hd'.raw
    have hK : DKeys s.heap.objs.size (ps.map (·.k)) h' := by
      refine ⟨beq_eq_false_iff_ne.mpr (Ne.symm (Nat.ne_of_lt I.big)), es, ep, hr, ?_, fun i hi => ?_⟩
      · rw [hsz]
        have := storedAllH_length (ps.map fun z => (z.p.key, z.k, Value.bool true)) []
        rw [List.length_map] at this ⊢
        simpa using this
      · obtain ⟨y, hy1, hy2, _⟩ := hes i hi
        rcases storedAll_addrs _ _ y (List.mem_of_getElem? hy1) with h | h
        · simp at h
        · obtain ⟨x, hx1, hx2⟩ := List.mem_map.mp h
          obtain ⟨z, hz1, rfl⟩ := List.mem_map.mp hx1
          refine ⟨z.k, List.mem_map.mpr ⟨z, hz1, rfl⟩, ?_⟩
          rw [hy2, ← hx2]
    obtain ⟨o2, ho2, _⟩ := hr
    refine ⟨.ref _, upd H s.heap.objs.size (.ext (DKeys s.heap.objs.size (ps.map (·.k)))), I.laid (t' := tk) (fun b u e => hk b u (by simp) e) (Nat.le_refl _) ⟨hK, ⟨o2, ho2⟩, fun h1 h2 x y => x.at' y⟩, rfl, q _ (I.hok.fresh (Nat.le_refl _))⟩
/-- list(d), d such a dict -/
def rListN : List V → Hp → VK → Prop := fun xs H Q => ∃ (D : Addr) (ks : List Addr), xs = [.ref D] ∧ H D = some (.ext (DKeys D ks)) ∧ ks.length ≤ 1000 ∧
  ∀ l (ls : List Addr), H l = none → (∀ x ∈ ls, x ∈ ks) → ls.length ≤ ks.length → Q (.ref l) (upd H l (.lst (ls.map V.ref)))
theorem refs_of : ∀ (us : List Value) (ks : List Addr), (∀ u ∈ us, ∃ k ∈ ks, u = Value.ref k) → ∃ ls : List Addr, us = ls.map Value.ref ∧ (∀ x ∈ ls, x ∈ ks) ∧ Vals (ls.map V.ref) us
  | [], _, _ => ⟨[], rfl, fun _ h => (by simp at h), .nil⟩
  | u :: us, ks, h => by
    obtain ⟨ls, e, h2, h3⟩ := refs_of us ks fun x hx => h x (List.mem_cons_of_mem _ hx)
    obtain ⟨k, hk, rfl⟩ := h u List.mem_cons_self
    exact ⟨k :: ls, by rw [e]; rfl, fun x hx => (List.mem_cons.mp hx).elim (fun z => by rw [z]; exact hk) (h2 x), .cons rfl h3⟩
theorem call_listN (hc : X.calm = true) : CallR X (.type "list") rListN := by
  intro pins s σ H xs us Q I r ⟨D, ks, e, hD, hz, q⟩
  subst e
  rw [Vals.ref1 r]
  obtain ⟨⟨lo, es, ep, hr, hsz, hes⟩, _⟩ := I.hok D _ hD
  refine W.kdl_call (KdlSrc.rawDict lo) (I.ok.hd hc) hr (Nat.le_trans hsz (Nat.le_of_lt (small1000 hz))) fun h' tk acc' c' hk hl hI => ?_
  obtain ⟨hI1, hI2⟩ := hI
  obtain ⟨ls, e, h2, h3⟩ := refs_of acc'.toList ks fun u hu => by
    obtain ⟨j, hj, rfl⟩ := List.getElem_of_mem hu
    have hj' : j < acc'.size := by simpa using hj
    obtain ⟨hi, e⟩ := hI2 j acc'[j] (Array.getElem?_eq_getElem hj')
    obtain ⟨k, hk, e2⟩ := hes j hi
    exact ⟨k, hk, by rw [Array.getElem_toList, e, e2]⟩
  have hll : ls.length ≤ ks.length := by
    have : acc'.toList.length = ls.length := by rw [e, List.length_map]
    rw [Array.length_toList] at this
    omega
  refine ⟨.ref _, upd H s.heap.objs.size (.lst (ls.map V.ref)), I.laid (t' := tk) hk (Nat.le_refl _) ⟨by rw [List.length_map]; exact Nat.le_of_lt (small1000 (Nat.le_trans hll hz)), acc'.toList, c', h3, ?_⟩, rfl, q _ ls (I.hok.fresh (Nat.le_refl _)) h2 hll⟩
  rw [Array.toArray_toList]
  exact hl
/-! ### sorted of data -/
def rSortDA (K : W.Frag) : List V → Hp → VK → Prop := fun xs H Q => ∃ (a : Addr) (zs : List V) (ds : List PyData), xs = [.ref a] ∧ SqL K H a zs ∧ DpAll K H zs ds ∧ W.AllAlike ds ∧ W.Sortable ds ∧ zs.length ≤ 1000 ∧ (∀ d ∈ ds, d.depth ≤ 20) ∧
  ∀ ys es p, ys.length = zs.length → DpAll K H ys es → (∀ e ∈ es, e ∈ ds) → H p = none → Q (.ref p) (upd H p (.lst ys))
theorem each_of {K : W.Frag} : ∀ {zs : List V} {us : List Value} {ds : List PyData}, Vals zs us → DpAll K H zs ds → W.EachIs (fun u d => ∃ x, RelV x u ∧ Dp K H x d) us ds
  | _, _, _, .nil, h => by cases h; exact .nil
  | _, _, _, .cons r rs, h => by
    cases h with
    | cons h1 h2 => exact .cons ⟨_, r, h1⟩ (each_of rs h2)
theorem of_each {K : W.Frag} : ∀ {us : List Value} {ds : List PyData}, W.EachIs (fun u d => ∃ x, RelV x u ∧ Dp K H x d) us ds → ∃ ys, Vals ys us ∧ DpAll K H ys ds
  | _, _, .nil => ⟨[], .nil, .nil⟩
  | _, _, .cons ⟨x, r, h⟩ t => by
    obtain ⟨ys, h1, h2⟩ := of_each t
    exact ⟨x :: ys, .cons r h1, .cons h h2⟩
theorem call_sortDA (hu : X.A.units + 64 < cLine) : CallR X (.builtin "sorted") (rSortDA X.K) := by
  intro pins s σ H xs us Q I r ⟨a, zs, ds, e, hL, hA, al, so, hz, hdp, q⟩
  subst e
  rw [Vals.ref1 r]
  obtain ⟨its, rv, pl, _⟩ := I.list hL
  have hE := each_of (K := X.K) (H := H) rv hA
  have hlen : ds.length = zs.length := (DpAll.length hA).symm
  refine W.sorted_data (enc := id) pl.isList hE (hE.mono fun u d ⟨x, rx, hx⟩ => Dp.reads I d x u hx rx) (by rw [List.map_id]; exact al) (by rw [List.map_id]; exact so) (by rw [hlen]; exact Nat.le_of_lt (small1000 hz)) (fun b hb => ?_) fun out ho hO => ?_
  · have := hdp b hb
    show X.A.units + 2 + b.depth < cLine
    omega
  · obtain ⟨ys, h1, h2⟩ := of_each hO
    obtain ⟨ep, he⟩ := PyProof.Rows.sortedAll_at s.heap its (List.toArray out)
    have hyl : ys.length = zs.length := by rw [h1.length, ho, hlen]
    refine ⟨.ref _, upd H (s.heap.objs.size + 1) (.lst ys), I.laid (t' := s.toks) (fun _ _ => PyProof.Rows.sortedAll_old) (Nat.le_succ _) ⟨by rw [hyl]; exact Nat.le_of_lt (small1000 hz), out, ep, h1, he⟩, rfl, q ys _ _ hyl h2 (fun e he => ?_) (I.hok.fresh (Nat.le_succ _))⟩
    exact (List.mergeSort_perm ds _).mem_iff.mp he
end
end Ow

end
section
/-! Ow17: comprehensions that fill a dict or a set whose keys are tuples of numbers; len of such a set, of a set of texts. -/
namespace Ow
open PySem L2
open PySem.Spec PyProof.Rows

/-- one turn of a comprehension's loop; fin: what the block's own part does -/
abbrev CTurn (M : Model) (A : Around) (tg : Expr) (ifs : List Expr) (env : Env) (it : Value) (R : Result → Shared → Prop) (fin : (Shared → Prop) → Shared → Prop) (Nx : Shared → Prop) (X : Value → Shared → Prop) (s : Shared) : Prop :=
  wpAny M A (pyNext it) (fun r t1 => match r with
    | none => R (.ok .next) t1
    | some v => wpAny M A (letOwnedTupleGo tg it v) (fun _ t2 => wpAny M A (assign tg env v) (fun _ t3 => wpAny M A (forIn ifs true fun c q => if q = true then do let y ← isTrue c env (eval c env); pure (ForInStep.yield y) else pure (ForInStep.yield q)) (fun y t4 =>
      if y = true then fin Nx t4 else Nx t4) X t3) X t2) X t1) X s
section
variable {X : Cx}
/-- the reading of a comprehension that fills what stands at D -/
def tAcc (wi : TI) (g : TG) (tt : TT) (o0 : Addr → HO) (ta : Addr → (Hp → Prop) → L2.St → Hp → Prop) (vs : List Nat) : TE := fun σ H Q => wi σ H fun J H1 => ∀ D, H1 D = none → ∃ W : Nat → Nat → Hp → Prop, (∃ m, W 0 m (upd H1 D (o0 D))) ∧ ∀ i m H, W i m H →
  (J.stop i H ∧ Q (.ref D) H) ∨ (J.go i H ∧ ∃ Nx : Hp → Prop, (∀ H', Nx H' → ∃ m', m' < m ∧ W (i + 1) m' H') ∧ ∀ x H', J.yld i H x H' → g x (wipe σ vs) H' fun σ2 H2 => wipe σ2 vs = wipe σ vs ∧ tt σ2 H2 fun b H3 => if b = true then ta D Nx σ2 H3 else Nx H3)
theorem acc_core {e : Expr} {nw : Sem Value} {ob : Obj} {o0 : Addr → HO} {fin : Env → Addr → (Value → Shared → Prop) → (Shared → Prop) → Shared → Prop} {ta : Addr → (Hp → Prop) → L2.St → Hp → Prop}
    {pins : List (Addr × Obj)} {s : Shared} {σ : L2.St} {H : Hp} {Q : VK} {tg iter : Expr} {ifs : List Expr} {scope : Scope} {own : List (Str × Nat)} {pos' : Pos} {wi : TI} {g : TG} {tt : TT} {Qf : Value → Shared → Prop}
    (hcl : clausesOf e = [⟨tg, iter, ifs, 0⟩]) (hnw : ∀ {t : Shared} {Q' : Value → Shared → Prop} {E' : Value → Shared → Prop}, Q' (.ref t.heap.objs.size) { t with heap := t.heap.push ob } → wpAny (model X.prog X.w) X.A nw Q' E' t)
    (hob : ∀ (h : Heap) (G : Hp), sysModules < h.objs.size → ObjOk X.prog X.w G (h.push ob) h.objs.size (o0 h.objs.size))
    (hfin : ∀ (sB : Shared) (HB : Hp) (C : Addr) (cl : List (Str × Addr)) (fp : List Addr) (pB : List (Addr × Obj)) (σB : L2.St) (G : Hp) (t : Shared) (D : Addr) (Nx : Hp → Prop) (K' : Shared → Prop) (E' : Value → Shared → Prop),
      L2.Inv (X.blk sB HB scope (compEnvC scope cl C X.env) fp) pB σB G t → ta D Nx σB G → (∀ t' G', L2.Inv (X.blk sB HB scope (compEnvC scope cl C X.env) fp) pB σB G' t' → Nx G' → K' t') → fin (compEnvC scope cl C X.env) D E' K' t)
    (hloop : ∀ (env : Env) (it D : Addr) (R : Result → Shared → Prop) (t : Shared) (I : Nat → Shared → Prop), (∀ n t, I n t → CTurn (model X.prog X.w) X.A tg ifs env (.ref it) R (fin env D (notedBy (model X.prog X.w) X.A env fun e s' => R (.error e) s')) (fun s' => ∃ m, m < n ∧ I m s') (notedBy (model X.prog X.w) X.A env fun e s' => R (.error e) s') t) →
      ∀ n, I n t → codeAny (model X.prog X.w) X.A (.compLoop e 0 (.ref it) (.ref D) env) R t)
    (hstart : ∀ (env : Env) (it D : Addr) (R : Result → Shared → Prop) (t : Shared), codeAny (model X.prog X.w) X.A (.compLoop e 0 (.ref it) (.ref D) env) R t →
      wpAny (model X.prog X.w) X.A (pyIter (.ref it)) (fun it' s' => codeAny (model X.prog X.w) X.A (.compLoop e 0 it' (.ref D) env) R s') (notedBy (model X.prog X.w) X.A env fun x s' => R (.error x) s') t → codeAny (model X.prog X.w) X.A (.compStart e 0 (.ref it) (.ref D) env) R t)
    (hc : X.calm = true) (hN : X.N.Nodup) (J0 : L2.Inv X pins σ H s) (hi : PI X tg iter wi) (ok : BlkOk X.N X.env.scope scope own)
    (hg : ∀ (s : Shared) (H : Hp) (C : Addr) (cl : List (Str × Addr)) (fp : List Addr), PG (X.blk s H scope (compEnvC scope cl C X.env) fp) tg g) (ht : ∀ (s : Shared) (H : Hp) (C : Addr) (cl : List (Str × Addr)) (fp : List Addr), PTs (X.blk s H scope (compEnvC scope cl C X.env) fp) ifs tt)
    (hs : ∀ x, foldedSetIterable iter X.env x = pure x) (h : tAcc wi g tt o0 ta (own.map (·.2)) σ H Q)
    (hRR : ∀ D C s' m H', L2.Inv X pins σ H' s' → Q (.ref D) H' → s'.heap.Ns C m → FpOk X pins H' C → compPost (model X.prog X.w) X.A X.xe none Qf (.ref D) C (.ok .next) s') :
    wpAny (model X.prog X.w) X.A (comprehension e scope X.env pos' nw false (eval iter X.env) none) Qf X.xe s := by
  have hfree : ∀ y ∈ scope.names, y.2 = .free → ∃ c, X.env.cells.lookup y.1 = some c := fun y hy e => (ok.free y hy e).elim (fun k => J0.ok.has _ (.inl k)) fun k => J0.ok.has _ (.inr k)
  refine wpAny_comprehension_free (use := none) hcl hs (closure_ok hfree) ok.kind (fun y hy e => by rw [ok.uniq y hy, e]) (thn (hi.run pins s σ H _ J0 h) fun xv s1 hx => thn hx fun itv s2 h2 => ?_)
  obtain ⟨it, fp, tn, Jt, H2, e2, J2, T, st2, f2, q⟩ := h2
  subst e2
  refine hnw (newEnv_comp ?_)
  generalize hD : s2.heap.objs.size = D
  have hDn : H2 D = none := J2.hok.fresh (Nat.le_of_eq hD)
  obtain ⟨Wl, ⟨m0, w0⟩, turn⟩ := q D hDn
  generalize hs3 : ({ s2 with heap := s2.heap.push ob } : Shared) = s3
  have J3 : L2.Inv X pins σ (upd H2 D (o0 D)) s3 := by
    rw [← hs3]
    refine J2.laid (t' := s2.toks) (fun b o e => Heap.get?_push_of_some _ e) (Nat.le_of_eq hD) ?_
    rw [← hD]
    exact hob _ _ J2.big
  have h3 : s3.heap = s2.heap.push ob := by rw [← hs3]
  have sz : ∀ b ∈ fp, b < s2.heap.objs.size := fun b hb => (T.obj _ _ st2 b hb).elim fun o z => Heap.lt_size z.1
  have f3 : ∀ b ∈ fp, FpOk X pins (upd H2 D (o0 D)) b ∧ b < s3.heap.objs.size := fun b hb => by
    have hlt := sz b hb
    exact ⟨⟨(upd_ne (by rw [← hD]; exact Nat.ne_of_lt hlt)).trans (f2 b hb).1, (f2 b hb).2⟩, by rw [h3, Heap.size_push]; exact Nat.lt_succ_of_lt hlt⟩
  have st3 : tn 0 s3.heap := T.keep _ _ _ st2 fun b _ o e => by rw [h3]; exact Heap.get?_push_of_some _ e
  have J4 := block_start J3 ok hN f3
  have J4c := J4
  generalize hcl2 : cellsFrom (s3.heap.objs.size + 1) scope.names (cloFrom X.env.cells scope.names []) = cl at J4 ⊢
  have pg := hg s3 (upd H2 D (o0 D)) s3.heap.objs.size cl fp
  have pt := ht s3 (upd H2 D (o0 D)) s3.heap.objs.size cl fp
  have pf := hfin s3 (upd H2 D (o0 D)) s3.heap.objs.size cl fp
  show codeAny _ _ (.compStart e 0 (.ref it) (.ref D) (compEnvC scope cl s3.heap.objs.size X.env)) (compPost (model X.prog X.w) X.A X.xe none Qf (.ref D) s3.heap.objs.size) { s3 with heap := pushCells (s3.heap.push { cls := .type "dict", data := .dict #[] }) scope.names }
  have nfp : ∀ b ∈ fp, (upd H2 D (o0 D)) b = none := fun b hb => (f3 b hb).1.1
  generalize hce : compEnvC scope cl s3.heap.objs.size X.env = ce at J4 pg pt pf ⊢
  have cL : ce.locals = s3.heap.objs.size := by subst hce; rfl
  generalize hH3 : upd H2 D (o0 D) = H3 at J3 J4 pg pt pf w0 nfp f3
  generalize hs4 : ({ s3 with heap := pushCells (s3.heap.push { cls := .type "dict", data := .dict #[] }) scope.names } : Shared) = s4 at J4 ⊢
  have st4 : tn 0 s4.heap := T.keep _ _ _ st3 fun b _ o e => by rw [← hs4]; exact pushCells_keeps _ _ _ _ (Heap.get?_push_of_some _ e)
  have stat : ∀ {σ' : L2.St} {H' : Hp} {s' : Shared}, L2.Inv (X.blk s3 H3 scope ce fp) [] σ' H' s' → (∀ b ∈ fp, H' b = none) → ∀ b ∈ fp, FpOk (X.blk s3 H3 scope ce fp) [] H' b := fun {σ' H' s'} J' hn b hb =>
    ⟨hn b hb, (J'.ok.exf b hb).1, J'.ok.exfs b hb, .inl hb, fun x c e => (J'.ok.exf b hb).2 x c e, fun p hp => absurd (show p ∈ ([] : List (Addr × Obj)) ++ [] from hp) (by simp)⟩
  have loop : codeAny (model X.prog X.w) X.A (.compLoop e 0 (.ref it) (.ref D) ce) (compPost (model X.prog X.w) X.A X.xe none Qf (.ref D) s3.heap.objs.size) s4 := by
    refine hloop ce it D _ s4 (fun n t => ∃ i G, L2.Inv (X.blk s3 H3 scope ce fp) [] (wipe σ (own.map (·.2))) G t ∧ tn i t.heap ∧ (∀ b ∈ fp, G b = none) ∧ Wl i n G) ?_ m0 ⟨0, H3, J4, st4, nfp, w0⟩
    rintro n s5 ⟨i, H5, J5, st5, n5, w5⟩
    rcases turn i n H5 w5 with ⟨stop, qq⟩ | ⟨go, Nx, hNx, step⟩
    · refine thnF (T.done (X.blk s3 H3 scope ce fp) rfl rfl rfl hc i [] s5 _ H5 (fun _ _ => False) J5 (stat J5 n5) st5 stop) fun r s6 ⟨hr, J6⟩ => ?_
      subst hr
      have J7 : L2.Inv X pins σ H5 s6 := J3.call' (ch := fp) J6.os J6.base J6.hok J6.bare fun b hb => ⟨(f3 b hb).1.2.2.2.1, (f3 b hb).1.2.1, (f3 b hb).1.2.2.2.2.1, (f3 b hb).1.2.2.2.2.2⟩
      have nC : H5 s3.heap.objs.size = none := by
        have z : H5 ce.locals = none := J6.free
        rw [cL] at z
        exact z
      obtain ⟨m, hn, _⟩ := J6.loc
      have hn : s6.heap.Ns ce.locals m := hn
      rw [cL] at hn
      exact hRR D s3.heap.objs.size s6 m H5 J7 qq hn (J3.fpOk (Nat.le_refl _) nC)
    · refine thnF (T.item (X.blk s3 H3 scope ce fp) rfl rfl rfl hc i [] s5 _ H5 (fun _ _ => False) J5 (stat J5 n5) st5 go) fun r s6 ⟨u, hr, h6⟩ => ?_
      subst hr
      refine thnF h6 fun _ s7 ⟨x, H7, J7, r7, y7, st7, n7⟩ => ?_
      refine thnF (pg.run _ s7 _ H7 x u _ (J7.pinned (stat J7 n7) (T.obj _ _ st7)) r7 (step x H7 y7)) fun _ s8 ⟨σ8, H8, J8, hw8, q8⟩ => ?_
      refine thnF (pt.run _ s8 σ8 H8 _ J8 q8) fun b s9 ⟨H9, J9, q9⟩ => ?_
      have done : ∀ (t : Shared) (G : Hp), L2.Inv (X.blk s3 H3 scope ce fp) ([] ++ pinsAt fp s7.heap) σ8 G t → Nx G → ∃ m, m < n ∧ ∃ i G, L2.Inv (X.blk s3 H3 scope ce fp) [] (wipe σ (own.map (·.2))) G t ∧ tn i t.heap ∧ (∀ b ∈ fp, G b = none) ∧ Wl i m G := fun t G J' nx => by
        obtain ⟨m', hm, w'⟩ := hNx G nx
        have held : ∀ b ∈ fp, ∀ o, s7.heap.get? b = some o → t.heap.get? b = some o ∧ G b = none := fun b hb o e =>
          have z := J'.pin (b, o) (List.mem_append_right _ (List.mem_append_right _ (mem_pinsAt hb e)))
          ⟨z.1, z.2.1⟩
        have hl : (wipe σ (own.map (·.2))).length = σ8.length := by rw [← hw8, wipe_length]
        refine ⟨m', hm, i + 1, G, (J'.unpinned (pins := [])).weak hl (fun j v e => (wipe_some (vs := own.map (·.2)) (by rw [hw8]; exact e)).1), T.keep _ _ _ st7 fun b hb o e => (held b hb o e).1, fun b hb => ?_, w'⟩
        obtain ⟨o, e, _⟩ := T.obj _ _ st7 b hb
        exact (held b hb o e).2
      cases b with
      | false => exact done _ _ J9 q9
      | true => exact pf _ _ _ _ _ _ _ _ J9 q9 done
  exact hstart ce it D _ s4 loop (T.self X.A 0 _ _ _ st4 loop)
end
/-! ### {k: v for ..}, the keys tuples of numbers -/
def tAccT (tk tv : TE) : Addr → (Hp → Prop) → L2.St → Hp → Prop := fun D Nx σ H => tk σ H fun y H4 => tv σ H4 fun z H5 => ∃ (kvs : List (List L2.Key × V)) (k : List L2.Key) (b : Addr), y = .ref b ∧ H5 D = some (.dT kvs) ∧ H5 b = some (.tup (k.map kV)) ∧ kvs.length < sizeLine ∧ Nx (upd H5 D (.dT (putK kvs k z)))
theorem dt_set {X : Cx} {pins : List (Addr × Obj)} {σ : L2.St} {H : Hp} {s : Shared} {E : Value → Shared → Prop} {D b : Addr} {kvs : List (List L2.Key × V)} {k : List L2.Key} {v : V} {r : Value} {Q : Unit → Shared → Prop} (hu : X.A.units + 1 < cLine) (I : L2.Inv X pins σ H s) (hD : H D = some (.dT kvs)) (eb : H b = some (.tup (k.map kV)))
    (l : kvs.length < sizeLine) (rv : RelV v r) (h : ∀ s', L2.Inv X pins σ (upd H D (.dT (putK kvs k v))) s' → Q () s') : wpAny (model X.prog X.w) X.A (dictSet D (.ref b) r) Q E s := by
  obtain ⟨z, hd, xs, rel, dd⟩ := dt_of I.hok hD
  have hz : xs.length ≤ sizeLine := by rw [← Paired.length rel]; exact z
  have hl : (putK kvs k v).length ≤ sizeLine := by have := length_putK kvs k v; omega
  refine wpAny_dictSet_heap (hsz := hz) (show X.A.units < cLine by omega) (key_of I.hok eb) dd fun h' dd' hs => h _ ?_
  obtain ⟨q, es, ep, hq, g2, g3, g4, _, g5⟩ := dd'
  refine d_write I (by rw [hD]; exact True.intro) hs ⟨q, hq⟩ ⟨hl, hd, _, (rel.put k eb rv).keeps fun c ys ec => ?_, q, es, ep, hq, g2, g3, g4, g5⟩
  exact (upd_ne (ne_of ec hD (fun z => nomatch z))).trans ec
section
variable {X : Cx}
theorem pe_dcT {kx vx tg iter : Expr} {ifs : List Expr} {scope : Scope} {own : List (Str × Nat)} {pos : Pos} {wi : TI} {g : TG} {tt : TT} {tk tv : TE} (hu : X.A.units + 1 < cLine) (hc : X.calm = true) (hN : X.N.Nodup) (hi : PI X tg iter wi) (ok : BlkOk X.N X.env.scope scope own)
    (hg : ∀ (s : Shared) (H : Hp) (C : Addr) (cl : List (Str × Addr)) (fp : List Addr), PG (X.blk s H scope (compEnvC scope cl C X.env) fp) tg g) (ht : ∀ (s : Shared) (H : Hp) (C : Addr) (cl : List (Str × Addr)) (fp : List Addr), PTs (X.blk s H scope (compEnvC scope cl C X.env) fp) ifs tt)
    (hk : ∀ (s : Shared) (H : Hp) (C : Addr) (cl : List (Str × Addr)) (fp : List Addr), PE (X.blk s H scope (compEnvC scope cl C X.env) fp) kx tk) (hv : ∀ (s : Shared) (H : Hp) (C : Addr) (cl : List (Str × Addr)) (fp : List Addr), PE (X.blk s H scope (compEnvC scope cl C X.env) fp) vx tv)
    (hs : ∀ x, foldedSetIterable iter X.env x = pure x := by intro _; rfl) : PE X (.DictComp kx vx [⟨tg, iter, ifs, 0⟩] scope pos) (tAcc wi g tt (fun _ => .dT []) (tAccT tk tv) (own.map (·.2))) := by
  refine ⟨fun pins s σ H Q J h => ?_⟩
  rw [arm_eval_DictComp]
  refine acc_core (e := .DictComp kx vx [⟨tg, iter, ifs, 0⟩] scope pos) (ob := { cls := .type "dict", data := .dict #[] }) (fin := fun env D E K' t => wpAny (model X.prog X.w) X.A (eval kx env) (fun kv s₄ => wpAny (model X.prog X.w) X.A (eval vx env) (fun vv s₅ => wpAny (model X.prog X.w) X.A (dictSet D kv vv) (fun _ s₆ => K' s₆) E s₅) E s₄) E t)
    rfl (fun {t Q' E'} z => wpAny_newObj_type z) (fun h' G hb => dt_empty h' hb) ?_ (fun env it D R t I turn n hn => compLoop_anyD I turn n hn) (fun env it D R t a b => codeAny_compStart_dict a b) hc hN J hi ok hg ht hs h fun D C s' m H' J' q hn f => ⟨m, hn, fun h2 sb => ?_⟩
  · intro sB HB C cl fp pB σB G t D Nx K' E' I hq hK
    refine thnF ((hk sB HB C cl fp).run pB t σB G _ I hq) fun kv s4 ⟨y, G4, I4, r4, q4⟩ => ?_
    refine thnF ((hv sB HB C cl fp).run pB s4 σB G4 _ I4 q4) fun vv s5 ⟨z, G5, I5, r5, kvs, k, b, ey, hD, eb, l, nx⟩ => ?_
    subst ey
    cases r4
    exact dt_set (X := X.blk sB HB scope (compEnvC scope cl C X.env) fp) hu I5 hD eb l r5 fun s6 I6 => hK s6 _ I6 nx
  · exact ⟨.ref D, H', J'.turned (t' := s'.toks) (fun b o hb e => (sb.2 b hb).trans e) f.1 f.2.1 f.2.2.2.1 f.2.2.2.2.1 f.2.2.2.2.2, rfl, q⟩
end
/-! ### {e for ..}, tuples of numbers -/
theorem tup_add {P : Program} {w : World} {A : Around} {E : Value → Shared → Prop} {s : Shared} {a : Addr} {L : List (Addr × List Int)} {es : Array (Int × Value)} {ep : Nat} {t : SetTable} {x : Addr} {k : List Int} {Q : Value → Shared → Prop} (R : SetTR P w s.heap a L es ep t) (hx : IsT P w s.heap k x) (hu : A.units + 2 < cLine) (hfew : L.length + 1 < 64)
    (h : ∀ h' L' tk, Heap.SameBut a s.heap h' → SetT0 P w h' a L' → (k ∈ L.map (·.2) → L' = L) → (k ∉ L.map (·.2) → L'.Perm ((x, k) :: L)) → (∃ o, h'.get? a = some o) → Q .none { s with heap := h', toks := tk }) : wpAny (model P w) A (call (.builtin "set.add") [.ref a, .ref x]) Q E s := by
  obtain ⟨o, ho, hex, hd⟩ := id R.ob
  have ty : s.TypeIs (.ref a) "set" := ⟨o, ho, hex.1⟩
  refine wpAny_call_entry PySem.F.slot_set_add ty PySem.F.entry_set_add ?_ (PySem.F.args_set_add_2 _ _)
  unfold Builtin.«set.add» Builtin.Frozenset.oneOther
  simp only [List.isEmpty_nil, bind_assoc]
  unfold Builtin.Frozenset.addrOf setAdd
  refine wpAny_bind (wpAny_pure ?_)
  try dsimp only
  refine wpAny_bind (wpAny_pure ?_)
  try dsimp only
  refine wpAny_bind (wpAny_holding (wpAny_bind (wpAny_pyHash_tuple (show A.units + 1 < cLine by omega) hx ?_)))
  refine add_at (s := { s with toks := s.toks + (k.length + 1) }) R hx (show A.units + 1 < cLine by omega) hfew fun b h' L' es' ep' t' sb R' c1 c2 => ?_
  obtain ⟨o', ho', _⟩ := id R'.ob
  exact wpAny_pure ⟨_, rfl, h h' L' _ sb R'.t0 c1 c2 ⟨o', ho'⟩⟩
def tAccS (K : W.Frag) (P : Program) (w : World) (te : TE) : Addr → (Hp → Prop) → L2.St → Hp → Prop := fun D Nx σ H => te σ H fun y H4 => ∃ (L : List (Addr × List Int)) (b : Addr) (k : List Int), y = .ref b ∧ H4 D = some (SetTO P w D L) ∧ (∀ p ∈ L, SqT K H4 p.1 (p.2.map V.int)) ∧ SqT K H4 b (k.map V.int) ∧ L.length + 1 < 64 ∧
  ∀ L', (k ∈ L.map (·.2) → L' = L) → (k ∉ L.map (·.2) → L'.Perm ((b, k) :: L)) → Nx (upd H4 D (SetTO P w D L'))
section
variable {X : Cx}
theorem pe_scT {elt tg iter : Expr} {ifs : List Expr} {scope : Scope} {own : List (Str × Nat)} {pos : Pos} {wi : TI} {g : TG} {tt : TT} {te : TE} (hu : X.A.units + 2 < cLine) (hc : X.calm = true) (hN : X.N.Nodup) (hi : PI X tg iter wi) (ok : BlkOk X.N X.env.scope scope own)
    (hg : ∀ (s : Shared) (H : Hp) (C : Addr) (cl : List (Str × Addr)) (fp : List Addr), PG (X.blk s H scope (compEnvC scope cl C X.env) fp) tg g) (ht : ∀ (s : Shared) (H : Hp) (C : Addr) (cl : List (Str × Addr)) (fp : List Addr), PTs (X.blk s H scope (compEnvC scope cl C X.env) fp) ifs tt)
    (he : ∀ (s : Shared) (H : Hp) (C : Addr) (cl : List (Str × Addr)) (fp : List Addr), PE (X.blk s H scope (compEnvC scope cl C X.env) fp) elt te)
    (hs : ∀ x, foldedSetIterable iter X.env x = pure x := by intro _; rfl) : PE X (.SetComp elt [⟨tg, iter, ifs, 0⟩] scope pos) (tAcc wi g tt (fun D => SetTO X.prog X.w D []) (tAccS X.K X.prog X.w te) (own.map (·.2))) := by
  refine ⟨fun pins s σ H Q J h => ?_⟩
  rw [PpSet.eval_SetComp]
  refine acc_core (e := .SetComp elt [⟨tg, iter, ifs, 0⟩] scope pos) (ob := { cls := .type "set", dict := none, data := .set #[] 0 (.fresh 0 0 (!X.w.params.followText "set-order")) }) (o0 := fun D => SetTO X.prog X.w D []) (fin := fun env D E K' t => wpAny (model X.prog X.w) X.A (eval elt env) (fun y s₄ => wpAny (model X.prog X.w) X.A (call (.builtin "set.add") [.ref D, y]) (fun _ s₅ => K' s₅) E s₄) E t)
    rfl (fun {t Q' E'} z => PpSet.newSet_ok z) (fun h' G hb => setTO_new (setTR_fresh (Heap.get?_push_size _ rfl)).t0) ?_ (fun env it D R t I turn n hn => PpSet.compLoopS_any I turn n hn) (fun env it D R t a b => PpSet.codeAny_compStart_set a b) hc hN J hi ok hg ht hs h fun D C s' m H' J' q hn f => ⟨m, hn, fun h2 sb => ?_⟩
  · intro sB HB C cl fp pB σB G t D Nx K' E' I hq hK
    refine thnF ((he sB HB C cl fp).run pB t σB G _ I hq) fun kv s4 ⟨y, G4, I4, r4, L, b, k, ey, hD, hL, hb, few, nx⟩ => ?_
    subst ey
    cases r4
    have R0 : SetT0 X.prog X.w s4.heap D L := (I4.hok D _ hD).1
    obtain ⟨es, ep, tb, R⟩ := R0.full fun p hp => Inv.isT (X := X.blk sB HB scope (compEnvC scope cl C X.env) fp) I4 (hL p hp)
    refine tup_add R (Inv.isT (X := X.blk sB HB scope (compEnvC scope cl C X.env) fp) I4 hb) hu few fun h' L' tk sb R' c1 c2 he' => ?_
    exact hK _ _ (I4.write (e := D) (t' := tk) (by rw [hD]; trivial) (.inl rfl) (fun c u hc e => (sb.2 c hc).trans e) he' (setTO_new R')) (nx L' c1 c2)
  · exact ⟨.ref D, H', J'.turned (t' := s'.toks) (fun b o hb e => (sb.2 b hb).trans e) f.1 f.2.1 f.2.2.2.1 f.2.2.2.2.1 f.2.2.2.2.2, rfl, q⟩
/-- len of such a set -/
def rLenT (K : W.Frag) (P : Program) (w : World) : List V → Hp → VK → Prop := fun vs H Q => ∃ (a : Addr) (L : List (Addr × List Int)), vs = [.ref a] ∧ H a = some (SetTO P w a L) ∧ (∀ p ∈ L, SqT K H p.1 (p.2.map V.int)) ∧ ((L.map (·.2)).Nodup → Q (.int L.length) H)
theorem call_lenT : CallR X (.builtin "len") (rLenT X.K X.prog X.w) := by
  intro pins s σ H vs us Q I r ⟨a, L, e, ha, hL, q⟩
  subst e
  rw [Vals.ref1 r]
  have R0 : SetT0 X.prog X.w s.heap a L := (I.hok a _ ha).1
  obtain ⟨es, ep, t, R⟩ := R0.full fun p hp => I.isT (hL p hp)
  obtain ⟨o, ho, hex, hd⟩ := id R.ob
  have hs := R.size
  have hf := R.few
  refine call_len_set ho hex hd R.fits (by omega) ⟨.int L.length, H, I.tok _, ⟨_, by rw [hs]⟩, q R.nd⟩
end
end Ow

end
section
/-! Ow18: sets of numbers, of texts; tuple.index; unpacking; str by an own __str__; == of tuples with objects. -/
namespace Ow
open PySem L2
open PySem.Spec PyProof.Rows

/-! ### sets -/
section
variable {X : Cx}
/-- set(t), t a tuple of numbers -/
def rSetTup (K : W.Frag) (w : World) : List V → Hp → VK → Prop := fun xs H Q => ∃ (p : Addr) (ns : List Int), xs = [.ref p] ∧ SqT K H p (ns.map V.int) ∧ ns.length ≤ 1000 ∧ ∀ a c, H a = none → c ≤ ns.length → Q (.ref a) (upd H a (SetO w a (fun j => decide (j ∈ ns)) c))
theorem call_setTup (hc : X.calm = true) : CallR X (.type "set") (rSetTup X.K X.w) := by
  intro pins s σ H xs us Q I r ⟨p, ns, e, hT, hl, q⟩
  subst e
  rw [Vals.ref1 r]
  obtain ⟨its, rv, ht, _⟩ := I.tuple hT
  refine L2.call_set_tupI (P := X.prog) (w := X.w) ns (I.ok.hd hc) ht (by simpa using rv.ints) (by unfold scanBound; omega) fun h' tk c hR hcl hk => ?_
  exact ⟨.ref _, upd H s.heap.objs.size (SetO X.w s.heap.objs.size (fun j => decide (j ∈ ns)) c), I.laid (t' := tk) hk (Nat.le_refl _) (setO_new hR), rfl, q _ c (I.hok.fresh (Nat.le_refl _)) hcl⟩
/-- t.index(n) -/
def rTIx (K : W.Frag) : V → List V → Hp → VK → Prop := fun x xs H Q => ∃ p, ∃ ns : List Int, ∃ k, x = .ref p ∧ xs = [.int k] ∧ SqT K H p (ns.map V.int) ∧ k ∈ ns ∧ Q (.int (ns.idxOf k : Nat)) H
theorem mt_tindex : MtR X "tuple.index" (rTIx X.K) := by
  intro pins s σ H x xs v us Q I rx rs ⟨p, ns, k, e1, e2, hT, hk, q⟩
  subst e1 e2
  cases rx
  obtain ⟨u, rfl, t, rfl⟩ := vals1 rs
  obtain ⟨its, rv, ht, _⟩ := I.tuple hT
  exact PySem.SeqAt.tuple_index_ints ht (by simpa using rv.ints) hk ⟨.int (ns.idxOf k : Nat), H, I.tok _, ⟨_, rfl⟩, q⟩
end

/-! ### (a, b, ..) = a list or a tuple -/
def gUnF (K : W.Frag) (n : Nat) (t : TGs) : TG := fun v σ H Q => ∃ fl a xs, v = .ref a ∧ SqF K fl H a xs ∧ xs.length = n ∧ t xs σ H Q
theorem pg_unF {X : Cx} {es : List Expr} {k : Nat} {pos : Pos} {t : TGs} {n : Nat} (hc : X.calm = true) (h : PGs X es t) (hn : (assignEach es X.env).length = n := by rfl) (hst : (assignEach es X.env).findIdx? (·.1) = none := by rfl) : PG X (.Tuple es k pos) (gUnF X.K n t) := by
  refine ⟨fun pins s σ H v u Q I r ⟨fl, a, xs, e, hs, hl, q⟩ => ?_⟩
  cases fl with
  | true => exact (pg_unl hc h hn hst).run pins s σ H v u Q I r ⟨a, xs, e, hs, hl, q⟩
  | false => exact (pg_tup hc h hn hst).run pins s σ H v u Q I r ⟨a, xs, e, hs, hl, q⟩

/-! ### str(o) by o's own __str__ -/
section
variable {X : Cx} {CX : CXT} {k : Nat} {C f : Addr} {fd : FuncData} {ps : List Str} {sp : Sp} {E : XK}
def rStrOwn (C : Addr) (sp : Sp) (E : XK) : List V → Hp → VK → Prop := fun xs H Q => ∃ a dx fs, xs = [.ref a] ∧ H a = some (.ins C dx fs) ∧ sp [.ref a] H (fun v H' => ∃ y, v = .str y ∧ Q v H') E
theorem call_strOwn (F : FnOk X.prog X.w X.K X.mg X.base CX k f fd ps sp) (hs : W.findIn X.K (.ref C) "__str__" = some (some (.ref f))) (hf : W.isFn X.K (.ref f) = true) (hb : Binds X.K fd ps []) (hx : Passes CX X E) (hr : Room (k + 2) X.A) : CallR X (.type "str") (rStrOwn C sp E) := by
  intro pins s σ H xs us Q I r ⟨a, dx, fs, e, ha, hsp⟩
  subst e
  rw [Vals.ref1 r]
  obtain ⟨mA, J, _⟩ := ins_get I.hok ha
  obtain ⟨od, J, _⟩ := J.look
  have un := hr.un
  have e0 : Env0 X.prog X.w X.K X.mg X.base X.A.in1.in1 X.stack s H := by
    have e := I.env0
    exact ⟨e.frames, e.mod, e.bs, e.bsz, e.funs, e.frf, e.hok, e.bare⟩
  have hl := F.len _ _ _ _ hsp
  refine W.kso_call (show X.A.units + 1 + 1 < cLine by omega) I.kIn J hs hf ?_
  refine wpAny_call (codeAny_mono (F.run X.A.in1.in1 X.stack s H ⟨[.ref a], []⟩ [.ref a] [.ref a] _ E hr.in1.in1 e0 (by
    have := hb s [.ref a] I.kIn (by simpa using hl)
    simpa using this) (.cons rfl .nil) hsp) fun z s' hq => ?_)
  cases z with
  | error e => exact hx pins σ H s e s' I hq
  | ok fl =>
    cases fl with
    | ret u =>
      obtain ⟨v, H', I', rz, y, ey, q'⟩ := I.after hq
      subst ey
      obtain ⟨t, rfl⟩ := rz
      exact ⟨.str y, H', I', ⟨t, rfl⟩, q'⟩
    | next => exact False.elim hq
    | brk => exact False.elim hq
    | cont => exact False.elim hq
end

/-! ### == of tuples that hold the same objects -/
/-- data that can be compared with itself -/
def selfOk (d : PyData) : Prop := W.alike d d = true ∧ d.depth ≤ 20
def Eqq (K : W.Frag) (H : Hp) : Nat → V → V → Prop
  | 0, x, y => (∃ a, x = .ref a ∧ y = .ref a) ∨ ∃ d, Dp K H x d ∧ Dp K H y d ∧ selfOk d
  | n + 1, x, y => Eqq K H n x y ∨ ∃ a b xs ys, x = .ref a ∧ y = .ref b ∧ SqT K H a xs ∧ SqT K H b ys ∧ xs.length = ys.length ∧ ∀ (i : Nat) u v, xs[i]? = some u → ys[i]? = some v → Eqq K H n u v
section
variable {X : Cx} {pins : List (Addr × Obj)} {σ : L2.St} {H : Hp} {s : Shared}
theorem eqq_items (I : L2.Inv X pins σ H s) {n : Nat} (ih : ∀ (A : Around) (x y : V) (u v : Value), A.units + 21 + n < cLine → Eqq X.K H n x y → RelV x u → RelV y v → SeqAt.EqAt A s u v true) {A : Around} (hu : A.units + 21 + (n + 1) < cLine) {xs ys : List V} {its its2 : List Value} (r : Vals xs its) (r2 : Vals ys its2)
    (h : ∀ (i : Nat) u v, xs[i]? = some u → ys[i]? = some v → Eqq X.K H n u v) : ∀ j (h1 : j < its.toArray.size) (h2 : j < its2.toArray.size), SeqAt.EqAt A.in1 s its.toArray[j] its2.toArray[j] true := fun j h1 h2 => by
  have k1 : j < xs.length := by rw [r.length]; simpa using h1
  have k2 : j < ys.length := by rw [r2.length]; simpa using h2
  obtain ⟨u, hu1, ru⟩ := r.get (List.getElem?_eq_getElem k1)
  obtain ⟨v, hv1, rv⟩ := r2.get (List.getElem?_eq_getElem k2)
  have g1 : its.toArray[j] = u := by
    have z : its[j]? = some its.toArray[j] := by
      have h1' : j < its.length := by simpa using h1
      rw [List.getElem?_eq_getElem h1'] <;> simp
    rw [hu1] at z
    exact (Option.some.inj z).symm
  have g2 : its2.toArray[j] = v := by
    have z : its2[j]? = some its2.toArray[j] := by
      have h2' : j < its2.length := by simpa using h2
      rw [List.getElem?_eq_getElem h2'] <;> simp
    rw [hv1] at z
    exact (Option.some.inj z).symm
  rw [g1, g2]
  exact ih A.in1 _ _ u v (show A.units + 1 + 21 + n < cLine by omega) (h j _ _ (List.getElem?_eq_getElem k1) (List.getElem?_eq_getElem k2)) ru rv
theorem eqq_at (I : L2.Inv X pins σ H s) : ∀ (n : Nat) (A : Around) (x y : V) (u v : Value), A.units + 21 + n < cLine → Eqq X.K H n x y → RelV x u → RelV y v → SeqAt.EqAt A s u v true
  | 0, A, x, y, u, v, hu, h, rx, ry => by
    rcases h with ⟨a, rfl, rfl⟩ | ⟨d, hx, hy, hd⟩
    · cases rx
      cases ry
      exact SeqAt.EqAt.same _
    · obtain ⟨as, r1⟩ := Dp.reads I d x u hx rx
      obtain ⟨bs, r2⟩ := Dp.reads I d y v hy ry
      have z := W.eqAt_alike d d A s u v as bs r1 r2 hd.1 (by have := hd.2; omega)
      rw [W.eqv_refl_alike d hd.1] at z
      exact z
  | n + 1, A, x, y, u, v, hu, h, rx, ry => by
    rcases h with h | ⟨a, b, xs, ys, rfl, rfl, ha, hb, hl, hi⟩
    · exact eqq_at I n A x y u v (by omega) h rx ry
    · cases rx
      cases ry
      by_cases hab : a = b
      · subst hab
        exact SeqAt.EqAt.same _
      · obtain ⟨its, r1, t1, _⟩ := I.tuple ha
        obtain ⟨its2, r2, t2, _⟩ := I.tuple hb
        have z := SeqAt.RcAt.tuples (A := A) (e := fun _ => true) t1 t2 (by omega) (eqq_items I (fun A x y u v => eqq_at I n A x y u v) hu r1 r2 hi)
        have hsz : its.toArray.size = its2.toArray.size := by rw [List.size_toArray, List.size_toArray, ← r1.length, ← r2.length, hl]
        have e : ((List.range (min its.toArray.size its2.toArray.size)).all (fun _ => true) && its.toArray.size == its2.toArray.size) = true := by
          rw [hsz]
          simp
        rw [e] at z
        exact SeqAt.EqAt.of_refs hab z
end
section
variable {X : Cx} {n : Nat}
def rEqq (K : W.Frag) (n : Nat) (b : Bool) : R2 := fun x y H Q => (∃ p q xs ys, x = .ref p ∧ y = .ref q ∧ SqT K H p xs ∧ SqT K H q ys ∧ xs.length = ys.length ∧ ∀ (i : Nat) u v, xs[i]? = some u → ys[i]? = some v → Eqq K H n u v) ∧ Q (.bl b) H
theorem op_eqq (hu : X.A.units + 21 + (n + 1) < cLine) : OpR X (compareOp .Eq) (rEqq X.K n true) := by
  intro pins s σ H x y v u Q I rx ry ⟨⟨p, q, xs, ys, e1, e2, ha, hb, hl, hi⟩, k⟩
  subst e1 e2
  cases rx
  cases ry
  obtain ⟨its, r1, t1, _⟩ := I.tuple ha
  obtain ⟨its2, r2, t2, _⟩ := I.tuple hb
  have hsz : its.toArray.size = its2.toArray.size := by rw [List.size_toArray, List.size_toArray, ← r1.length, ← r2.length, hl]
  refine SeqAt.RcAt.tuples (e := fun _ => true) t1 t2 (by omega) (eqq_items I (fun A x y u v => eqq_at I n A x y u v) hu r1 r2 hi) X.prog X.w X.xe _ ⟨.bl true, H, I, ?_, k⟩
  show Value.bool _ = Value.bool true
  rw [hsz]
  simp
theorem op_neq (hu : X.A.units + 21 + (n + 1) < cLine) : OpR X (compareOp .NotEq) (rEqq X.K n false) := by
  intro pins s σ H x y v u Q I rx ry ⟨⟨p, q, xs, ys, e1, e2, ha, hb, hl, hi⟩, k⟩
  subst e1 e2
  cases rx
  cases ry
  obtain ⟨its, r1, t1, _⟩ := I.tuple ha
  obtain ⟨its2, r2, t2, _⟩ := I.tuple hb
  have hsz : its.toArray.size = its2.toArray.size := by rw [List.size_toArray, List.size_toArray, ← r1.length, ← r2.length, hl]
  refine SeqAt.RcNeAt.tuples (e := fun _ => true) t1 t2 (by omega) (eqq_items I (fun A x y u v => eqq_at I n A x y u v) hu r1 r2 hi) X.prog X.w X.xe _ ⟨.bl false, H, I, ?_, k⟩
  show Value.bool _ = Value.bool false
  rw [hsz]
  simp
end
end Ow

end
section
/-! Ow19: len(set(texts)), no text twice. -/
namespace Ow
open PySem L2
open PySem.Spec PyProof.Rows
section
variable {prog : Program} {w : World} {A : Around} {R : Result → Shared → Prop} {I : Addr} {fp wr : List Addr} {G : Array GenState → Array GenState → Prop} {n : Nat} {P : Nat → Value → Prop} {St : Nat → Shared → Prop}
abbrev TextsIn (prog : Program) (w : World) (h : Heap) (D : Addr) (xs : List Str) (i : Nat) : Prop := h.SetOf (PySem.strKind prog w) D (fun y => decide (y ∈ xs.take i)) i
theorem TextsIn.keep {h h' : Heap} {D : Addr} {xs : List Str} {i : Nat} (x : TextsIn prog w h D xs i) (k : ∀ o, h.get? D = some o → h'.get? D = some o) : TextsIn prog w h' D xs i := by
  obtain ⟨o, es, ep, t, ho, r⟩ := x
  exact ⟨o, es, ep, t, k o ho, r⟩
/-- the loop that puts the walked texts into the set at D -/
theorem texts_loop (W : WalksS prog w A.in1 I fp wr G n P St) (D : Addr) (hD : D ∉ fp) (xs : List Str) (hl : xs.length = n) (hz : n + 1 < scanBound) (hn : xs.Nodup) (hv : ∀ i v, P i v → ∃ t, v = .str (xs.getD i Str.empty) t) :
    ∀ (left i : Nat) (z : Shared), i + left = n → St i z → TextsIn prog w z.heap D xs i → (∀ z', Moved (D :: wr) G z z' → TextsIn prog w z'.heap D xs n → R (.ok (.ret .none)) z') → codeAny (model prog w) A (.builtin "set.update.loop" ⟨[.ref D, .ref I], []⟩) R z := by
  have nD : D ∉ wr := fun q => hD (W.sub _ q)
  have more : ∀ b ∈ wr, b ∈ D :: wr := fun b hb => List.mem_cons_of_mem _ hb
  intro left
  induction left with
  | zero =>
    intro i z hi hst hS fin
    obtain rfl : i = n := by omega
    refine codeAny_builtin PyProof.Rows.F.entry_set_update_loop ?_
    rw [Around.under_plainId PyProof.Rows.F.plain_set_update_loop _]
    show wpAny _ A.in1 (pyNext (.ref I) >>= _) _ _ z
    refine wpAny_bind (W.done z _ _ hst fun z' mv => ?_)
    show wpAny _ A.in1 (ret Value.none) _ _ z'
    exact wpAny_pure (fin z' (mv.mono more) (hS.keep fun o e => mv.heap D o nD e))
  | succ left ih =>
    intro i z hi hst hS fin
    have lt : i < n := by omega
    refine codeAny_builtin PyProof.Rows.F.entry_set_update_loop ?_
    rw [Around.under_plainId PyProof.Rows.F.plain_set_update_loop _]
    show wpAny _ A.in1 (pyNext (.ref I) >>= _) _ _ z
    refine wpAny_bind (W.item i z _ _ lt hst fun v z' hP hst' mv => ?_)
    obtain ⟨t, rfl⟩ := hv i v hP
    have ix : i < xs.length := by omega
    have ex : xs.getD i Str.empty = xs[i] := by rw [List.getD_eq_getElem?_getD, List.getElem?_eq_getElem ix]; rfl
    rw [ex]
    have hS' : TextsIn prog w z'.heap D xs i := hS.keep fun o e => mv.heap D o nD e
    show wpAny _ A.in1 (holding [Value.str xs[i] t] (setAdd D (.str xs[i] t)) >>= _) _ _ z'
    refine wpAny_bind (wpAny_holding ?_)
    unfold setAdd
    refine wpAny_holding (wpAny_bind ((PySem.strKind prog w).pyHash (k := xs[i]) (strKind_is _ _ _ _) ?_))
    refine wpAny_setAddHashed_of (knd := PySem.strKind prog w) (s := { z' with toks := z'.toks + 1 }) (strKind_is _ _ _ _) rfl hS' (by omega) fun h' sb hS2 => ?_
    have tk1 : xs.take (i + 1) = xs.take i ++ [xs[i]] := List.take_succ_eq_append_getElem ix
    have new : xs[i] ∉ xs.take i := fun q => by
      obtain ⟨j, hj, e⟩ := List.getElem_of_mem q
      have hj2 : j < i := by
        rw [List.length_take] at hj
        omega
      rw [List.getElem_take] at e
      exact absurd e (List.pairwise_iff_getElem.mp hn j i (by omega) ix hj2)
    have hS3 : TextsIn prog w h' D xs (i + 1) := by
      refine PyProof.Rows.SetOf_congr hS2 (fun y => ?_) (by rw [decide_eq_false new]; rfl)
      rw [tk1, Bool.eq_iff_iff, Bool.or_eq_true, decide_eq_true_eq, decide_eq_true_eq, decide_eq_true_eq, List.mem_append, List.mem_singleton]
    refine wpAny_pure ⟨plainId_quiet PyProof.Rows.F.plain_set_update_loop _, ih (i + 1) _ (by omega) (W.frame _ z' _ _ hst' (Nat.le_succ _) fun b hb o e => ?_) hS3 fun z2 mv2 hS4 => ?_⟩
    · exact (sb.2 b (fun q : b = D => hD (q ▸ hb))).trans e
    · refine fin z2 (Moved.trans W.gtrans ((mv.mono more).then_heap (Nat.le_succ _) fun b o hb e => ?_) mv2) hS4
      exact (sb.2 b (fun q : b = D => hb (q ▸ List.mem_cons_self))).trans e
end
section
variable {prog : Program} {w : World} {A : Around} {E : Value → Shared → Prop} {s : Shared}
theorem call_set_texts {l : Addr} {items : Array Value} {xs : List Str} {Q : Value → Shared → Prop} (hh : A.handled = none) (hl : s.heap.IsList l items) (hi : PyProof.Rows.StrsAre items.toList xs) (hz : xs.length + 1 < scanBound) (hn : xs.Nodup)
    (h : ∀ (h' : Heap) (tk : Nat), TextsIn prog w h' s.heap.objs.size xs xs.length → (∀ b o, b < s.heap.objs.size → s.heap.get? b = some o → h'.get? b = some o) → Q (.ref s.heap.objs.size) { s with heap := h', toks := tk }) : wpAny (model prog w) A (call (.type "set") [.ref l]) Q E s := by
  have el : xs.length = items.size := by rw [← StrsAre.len_eq hi, Array.length_toList]
  obtain ⟨c0, tl0, m1⟩ := PySem.F.called_set.mro
  have m2 := PySem.F.called_set.made
  have m3 := PySem.F.called_set.sub
  refine wpAny_call (codeAny_of_tree ?_)
  show wpAny _ _ (callAny (.type "set") _) _ _ _
  refine wpAny_pure ⟨Code.quiet_builtin _ (by decide +kernel), codeAny_builtin PySem.F.entry_type_call ?_⟩
  rw [Around.under_plain (weight_type_call_type "set" [.ref l] []) rfl]
  have m4 := PySem.F.called_set.notType
  have m5 := PySem.F.called_set.canCreate
  have m6 := PySem.F.typeCall_set_1 (.ref l)
  repeat (any_goals (first | assumption | wp_step))
  let obj (led : Bool) : Obj := { cls := .type "set", dict := none, data := .set #[] 0 (.fresh 0 0 led) }
  refine codeAny_mono (code_set_new_1 (.ref l) (E := E) (Q₁ := fun v z => ∃ led : Bool, v = .ref s.heap.objs.size ∧ z = { s with heap := s.heap.push (obj led) }) fun led => ⟨led, rfl, rfl⟩) fun r z1 hr => ?_
  cases r with
  | error e => exact hr
  | ok fl =>
    cases fl with
    | ret v =>
      obtain ⟨led, rfl, rfl⟩ := hr
      have at1 : (s.heap.push (obj led)).get? s.heap.objs.size = some (obj led) := Heap.get?_push_size _ rfl
      have ty : Shared.TypeIs { s with heap := s.heap.push (obj led) } (.ref s.heap.objs.size) "set" := ⟨_, at1, rfl⟩
      have i1 := PySem.F.called_set.init.lookup
      have i2 := PySem.F.called_set.init.bind (.ref s.heap.objs.size)
      repeat (any_goals (first | assumption | wp_step))
      refine codeAny_mono (codeAny_call_builtin (R := wants (fun r z2 => r = .none ∧ ∃ h' tk, z2 = { s with heap := h', toks := tk } ∧ TextsIn prog w h' s.heap.objs.size xs xs.length ∧ (∀ b o, b < s.heap.objs.size → s.heap.get? b = some o → h'.get? b = some o)) E) PySem.F.called_set.init.plain PySem.F.entry_set_init (check_set_init_1 ty ?_)) fun r2 z2 hr2 => ?_
      · obtain ⟨⟨oc, od, oda, osl⟩, hol, hcl, nl, hdl⟩ := hl
        simp only at hcl hdl
        subst hcl hdl
        have at2 : (s.heap.push (obj led)).get? l = some { cls := .type "list", dict := od, data := .seq items nl, slots := osl } := Heap.get?_push_of_some _ hol
        have s1 := PySem.F.sub_list_set
        have s2 := PySem.F.sub_list_frozenset
        have s3 : (Value.type "list" == Value.type "dict") = false := by decide
        have il : (s.heap.push (obj led)).IsList l items := ⟨_, at2, rfl, nl, rfl⟩
        unfold Builtin.«set.__init__» noKeywords Builtin.Frozenset.updateFrom
        generalize hPI : pyIter = PI
        wp_walk
        subst hPI
        refine wpAny_pyIter_list il (wpAny_bind (wpAny_runValue ?_))
        have lS : l < s.heap.objs.size := Heap.lt_size hol
        have neI : l ≠ (s.heap.push (obj led)).objs.size := by
          rw [Heap.size_push]
          exact Nat.ne_of_lt (Nat.lt_succ_of_lt lS)
        have nf : s.heap.objs.size ∉ [(s.heap.push (obj led)).objs.size, l] := by
          rw [Heap.size_push]
          simp only [List.mem_cons, List.not_mem_nil, or_false, not_or]
          exact ⟨Nat.ne_of_lt (Nat.lt_succ_self _), Nat.ne_of_gt lS⟩
        refine texts_loop ((Walks.list (A := A.in1.in1.in1) (by simp [hh]) _ l neI items).toS) s.heap.objs.size nf xs el (by rw [← el]; exact hz) hn (fun i v hv => SS.strs_at hi i v (by rw [Array.getElem?_toList]; exact hv)) items.size 0 _ (by omega) ⟨⟨_, Heap.get?_push_size _ rfl, rfl, rfl⟩, il.push _⟩ ?_ ?_
        · refine PyProof.Rows.SetOf_congr ((PyProof.Rows.setObjOf_fresh (knd := PySem.strKind prog w) led).setOf (Heap.get?_push_of_some _ at1) (by unfold scanBound; omega)) (fun y => ?_) rfl
          simp
        · intro z3 mv hS
          obtain ⟨h', g', d', tk', os'⟩ := z3
          obtain rfl : g' = s.gens := mv.gens
          obtain rfl : d' = s.drawn := mv.drawn
          obtain rfl : os' = s.os := mv.os
          show wpAny _ _ _ _ _ _
          refine wpAny_pure ?_
          show wpAny _ _ (ret Value.none) _ _ _
          refine wpAny_pure ⟨rfl, h', tk', rfl, by rw [el]; exact hS, fun b o hb e => mv.heap b o ?_ (Heap.get?_push_of_some _ (Heap.get?_push_of_some _ e))⟩
          rw [Heap.size_push]
          simp only [List.mem_cons, List.not_mem_nil, or_false, not_or]
          exact ⟨Nat.ne_of_lt hb, Nat.ne_of_lt (Nat.lt_succ_of_lt hb)⟩
      · cases r2 with
        | error e => exact hr2
        | ok fl2 =>
          cases fl2 with
          | ret r =>
            obtain ⟨rfl, h', tk, rfl, hS, hk⟩ := hr2
            repeat (any_goals (first | assumption | wp_step))
            exact h _ _ hS hk
          | _ => exact hr2.elim
    | _ => exact hr.elim
end
/-- len(set(xs)) -/
def tLenTx (K : W.Frag) (ta : TE) : TE := fun σ H Q => ta σ H fun x H1 => ∃ l, ∃ xs : List Str, x = .ref l ∧ SqL K H1 l (xs.map V.str) ∧ xs.Nodup ∧ xs.length ≤ 1000 ∧ Q (.int xs.length) H1
theorem pe_lenTx {X : Cx} {a : Expr} {ta : TE} {p p2 q pos : Pos} (hc : X.calm = true) (hg : Gl X "len") (hm : X.mg "len" = none) (hg2 : Gl X "set") (hm2 : X.mg "set" = none) (ha : PE X a ta)
    (na : starEach [a] X.env = (false, eval a X.env) :: starEach [] X.env := by rfl) : PE X (.Call (.Name "len" p) [.Call (.Name "set" p2) [a] [] q] [] pos) (tLenTx X.K ta) := by
  refine ⟨fun pins s σ H Q I h => Call_ (ld_blt I hg hm boot_len (PyProof.Rows.callWith_builtin1 (PyProof.Rows.args_cons (Call_ (ld_blt I hg2 hm2 boot_set ?_)) rfl) rfl rfl))⟩
  refine PyProof.Rows.callWith_type1 (PyProof.Rows.args_cons (thn (ha.run pins s σ H _ I h) fun v z ⟨x, H1, I1, r1, l, xs, ex, hq, hn, hz, k⟩ => PyProof.Rows.args_nil ?_) na) na rfl
  subst ex
  cases r1
  obtain ⟨its, r, pl, _⟩ := I1.list hq
  refine call_set_texts (I1.ok.hd hc) pl.isList (by simpa using strsAre_of r) (by unfold scanBound; omega) hn fun h' tk hS hk => PyProof.Rows.args_nil ?_
  obtain ⟨o, es, ep, t, ho, hex, hd, _, _, _, hf, hn2⟩ := hS
  have I2 : L2.Inv X pins σ H1 { z with heap := h', toks := tk } := I1.kept fun b o e => hk b o (Heap.lt_size e) e
  exact call_len_set ho hex hd hf (by rw [hn2]; omega) ⟨.int xs.length, H1, I2.tok _, ⟨_, by rw [hn2]⟩, k⟩
end Ow

end
section
/-! Ow20: a def called where its caller's own place is told; a class by two keywords; lists against []; a statement that isn't reached. -/
namespace Ow
open PySem L2
open PySem.Spec PyProof.Rows
section
variable {P : Program} {w : World} {K : W.Frag} {mg : Str → Option Value} {base : Heap} {CX : CXT} {k : Nat} {x q : Str} {st : Stmt} {N ps : List Str} {sp : Sp} {f : Addr} {fd : FuncData}
/-- one call of a def, at the place A -/
theorem fn_at (F : FnQ K x q st f fd) (S : FnScope N ps (defScope st)) (len : ∀ vs H Q E, sp vs H Q E → vs.length = ps.length) {A : Around} {outer : List Env} {s : Shared} {H : Hp} {args : Args} {us : List Value} {vs : List V} {Q : VK} {E : XK}
    (hb : ∀ (cdv : Value), Room k (A.deeper (envOfC q (defScope st) s.heap.objs.size f cdv)) → ∃ t, PSs (cxOf CX P w K mg base N q (defScope st) f cdv A outer s H E) (defBody st) t ∧ t { nx := fun _ H' => Q .non H', rt := Q } (L2.start N vs) H)
    (hr : Room (k + 1) A) (e0 : Env0 P w K mg base A outer s H) (bt : BindsTo s fd args (ps.zip us)) (r : Vals vs us) (h : sp vs H Q E) : codeAny (model P w) A (.call (.ref f) args) (CR CX outer P w H s Q E) s := by
  obtain ⟨oc, od, dV, kV, doc, pm, an, cdv, ct, osl, rfl, lk, hcd, _, _⟩ := F.ex
  have hl := len _ _ _ _ h
  have kin : K.In s.heap := e0.mod.kin.keeps fun b o e => (e0.bs b o e).1
  have lim : s.heap.NoLimit := e0.mod.nolimit.keeps fun b o e => (e0.bs b o e).1
  have kinds : ∀ y ∈ ps.zip us, (defScope st).names.lookup y.1 = some .local ∨ ((defScope st).names.lookup y.1 = some .cell ∧ ((cellsFrom (s.heap.objs.size + 1) (defScope st).names []).lookup y.1).isSome = true) := fun ⟨n, v⟩ hy =>
    (S.par n (List.of_mem_zip hy).1).elim .inl fun z => .inr ⟨z, W.cellsFrom_some _ _ _ (.inl z)⟩
  refine codeAny_call_function hr.depth (kin _ _ lk) rfl S.co S.gen rfl (W.codeRec_of kin hcd) (bt _ _ _ _ (wpAny_newFunctionEnv_cells S.kind kinds fun env he s1 z => ?_))
  subst he
  refine ⟨lim.keeps z.toInCall.keep, codeAny_func ?_⟩
  obtain ⟨t, ht, hq⟩ := hb cdv (hr.deeper _)
  have I : L2.Inv (cxOf CX P w K mg base N q (defScope st) f cdv A outer s H E) [] (L2.start N vs) H s1 := inv_start S hr.hd e0 hl r z
  refine wpAny_mono (ht.run [] s1 (L2.start N vs) H _ I hq) (fun fl s' hs => ?_) fun e s' hs => hs
  cases fl with
  | ret u =>
    obtain ⟨v, _, H', J, rv, y⟩ := hs
    exact ⟨v, H', J.os, J.bare, J.base, J.hok, rv, y⟩
  | next =>
    obtain ⟨_, H', J, y⟩ := hs
    exact ⟨V.non, H', J.os, J.bare, J.base, J.hok, rfl, y⟩
  | brk => exact hs.elim fun _ y => y.elim fun _ y => y.2.elim
  | cont => exact hs.elim fun _ y => y.elim fun _ y => y.2.elim
end
section
variable {X : Cx} {CX : CXT} {k : Nat} {x : Str} {st : Stmt} {N ps : List Str} {sp : Sp} {E : XK} {p pos : Pos} {e : Expr} {es : List Expr} {t : TA}
/-- f(e, ..): the body told for X's own place -/
theorem pe_clA (D : Dfn X.K X.mg x st ps) (S : FnScope N ps (defScope st)) (len : ∀ vs H Q E, sp vs H Q E → vs.length = ps.length)
    (hb : ∀ (f : Addr) (cdv : Value) (s : Shared) (H : Hp) (vs : List V) (Q : VK), Room k (X.A.deeper (envOfC x (defScope st) s.heap.objs.size f cdv)) → sp vs H Q E →
      ∃ t, PSs (cxOf CX X.prog X.w X.K X.mg X.base N x (defScope st) f cdv X.A X.stack s H E) (defBody st) t ∧ t { nx := fun _ H' => Q .non H', rt := Q } (L2.start N vs) H)
    (hr : Room (k + 1) X.A) (hx : Passes CX X E) (ha : PA X (e :: es) t) (hg : Gl X x := by rfl) (hdb : (x == ("__debug__" : Str)) = false := by decide)
    (he : starEach (e :: es) X.env = (false, eval e X.env) :: starEach es X.env := by rfl) (hpl : (backTo pos (starEach es X.env)).any (·.1) = false := by rfl) : PE X (.Call (.Name x p) (e :: es) [] pos) (tCl sp E t) := by
  obtain ⟨f, fd, F, g, bd, _⟩ := D.ex
  refine ⟨fun pins s σ H Q I h => ?_⟩
  refine wpAny_Call_Name_kw (ld_glob I hg g ?_ hdb)
  refine W.callWith_K (h₀ := X.base) I.ok.mod.kin F.kp (thn (ha.run pos pins s σ H _ I h) fun us s2 ⟨vs, H2, I2, r, y⟩ => ⟨I2.kIn, ?_⟩) he hpl
  have hl : us.length = ps.length := by rw [← r.length]; exact len _ _ _ _ y
  have bt := bd s2 us I2.kIn (by simpa using hl)
  refine wpAny_call (codeAny_mono (fn_at F S len (fun cdv hr' => hb f cdv s2 H2 vs Q hr' y) hr I2.env0 (by simpa using bt) r y) fun z s' hq => ?_)
  cases z with
  | error e => exact hx pins σ H2 s2 e s' I2 hq
  | ok fl =>
    cases fl with
    | ret u => exact I2.after hq
    | next => exact False.elim hq
    | brk => exact False.elim hq
    | cont => exact False.elim hq
/-- what isn't reached -/
theorem ps_dead {st : Stmt} : PS X st (fun _ _ _ => False) := ⟨fun _ _ _ _ _ _ h => h.elim⟩
theorem pss_dead {sts : List Stmt} : PSs X sts (fun _ _ _ => False) := ⟨fun _ _ _ _ _ _ h => h.elim⟩
end
/-! ### lists and tuples of other lengths -/
section
variable {X : Cx}
def rLensL (K : W.Frag) (b : Bool) : R2 := fun x y H Q => ∃ p q xs ys, x = .ref p ∧ y = .ref q ∧ SqL K H p xs ∧ SqL K H q ys ∧ xs.length ≠ ys.length ∧ Q (.bl b) H
theorem op_eqLens (hu : X.A.units + 64 < cLine) : OpR X (compareOp .Eq) (rLensL X.K false) := by
  intro pins s σ H x y v u Q I rx ry ⟨p, q, xs, ys, e1, e2, ha, hb, hl, k⟩
  subst e1 e2
  cases rx
  cases ry
  obtain ⟨its, r1, t1, _⟩ := I.list ha
  obtain ⟨its2, r2, t2, _⟩ := I.list hb
  refine SeqAt.RcAt.lists_lengths t1.isList t2.isList ?_ (by omega) X.prog X.w X.xe _ ⟨.bl false, H, I, rfl, k⟩
  rw [List.size_toArray, List.size_toArray, ← r1.length, ← r2.length, bne_iff_ne]
  exact hl
theorem op_neLens (hu : X.A.units + 64 < cLine) : OpR X (compareOp .NotEq) (rLensL X.K true) := by
  intro pins s σ H x y v u Q I rx ry ⟨p, q, xs, ys, e1, e2, ha, hb, hl, k⟩
  subst e1 e2
  cases rx
  cases ry
  obtain ⟨its, r1, t1, _⟩ := I.list ha
  obtain ⟨its2, r2, t2, _⟩ := I.list hb
  refine SeqAt.RcNeAt.lists_lengths t1.isList t2.isList ?_ (by omega) X.prog X.w X.xe _ ⟨.bl true, H, I, rfl, k⟩
  rw [List.size_toArray, List.size_toArray, ← r1.length, ← r2.length, bne_iff_ne]
  exact hl
end
end Ow

end
section
/-! Ow21: walks for comprehensions that fill dicts and sets, for those with two clauses. -/
namespace Ow
open PySem L2
open PySem.Spec PyProof.Rows
section
variable {J : It} {n : Nat} {G : Hp → Prop} {Y : Nat → Hp → V → Hp → Prop}
/-- any loop over a walk: B says what a turn does towards the next stand -/
theorem turns_it (wk : Walk J n G Y) {Qd : Hp → Prop} {H0 : Hp} {B : (Hp → Prop) → V → Hp → Prop} (Pv : Nat → Hp → Prop) (h0 : Pv 0 H0) (hG : ∀ i H, i ≤ n → Pv i H → G H) (hs : ∀ i x H H', i < n → Pv i H → Y i H x H' → B (Pv (i + 1)) x H') (hd : ∀ H, Pv n H → Qd H) :
    ∃ W : Nat → Nat → Hp → Prop, (∃ m, W 0 m H0) ∧ ∀ i m H, W i m H → (J.stop i H ∧ Qd H) ∨ (J.go i H ∧ ∃ Nx : Hp → Prop, (∀ H', Nx H' → ∃ m', m' < m ∧ W (i + 1) m' H') ∧ ∀ x H', J.yld i H x H' → B Nx x H') := by
  refine ⟨fun i m H => i + m = n ∧ Pv i H, ⟨n, Nat.zero_add n, h0⟩, ?_⟩
  rintro i m H ⟨him, hP⟩
  have g := hG i H (by omega) hP
  cases m with
  | zero =>
    obtain rfl : i = n := by omega
    exact .inl ⟨wk.stops H g, hd H hP⟩
  | succ m =>
    have lt : i < n := by omega
    exact .inr ⟨wk.goes i H lt g, Pv (i + 1), fun H' z => ⟨m, Nat.lt_succ_self m, by omega, z⟩, fun x H' y => hs i x H H' lt hP (wk.yields i H x H' lt g y)⟩
/-- a comprehension whose element's values are told with the heap, the new list at D aside -/
theorem lc_rel (wk : Walk J n G Y) {g : TG} {te : TE} {vs : List Nat} {σ : L2.St} {H1 : Hp} {D : Addr} {Qd : Hp → Prop} (hD : H1 D = none) (R : Nat → V → Hp → Prop) (hR : ∀ i y H H', Ext H H' → R i y H → R i y H') (hn : n < sizeLine) (hG : ∀ H, Ext H1 H → G H) (hY : ∀ i H x H', Y i H x H' → Ext H H')
    (hs : ∀ i x H H', i < n → Ext H1 (del H D) → H D ≠ none → Y i H x H' → ∀ Q' : VK, (∀ y H2, Ext H' H2 → R i y (del H2 D) → Q' y H2) → g x (wipe σ vs) H' fun σ2 H2 => wipe σ2 vs = wipe σ vs ∧ te σ2 H2 Q')
    (hd : ∀ ys H, ys.length = n → (∀ i y, ys[i]? = some y → R i y (del H D)) → Ext H1 H → H D = some (.lst ys) → Qd H) :
    ∃ W : Nat → Nat → Hp → Prop, (∃ m, W 0 m (upd H1 D (.lst []))) ∧ ∀ i m H, W i m H → (J.stop i H ∧ Qd H) ∨ (J.go i H ∧ ∃ Nx : Hp → Prop, (∀ H', Nx H' → ∃ m', m' < m ∧ W (i + 1) m' H') ∧ ∀ x H', J.yld i H x H' → g x (wipe σ vs) H' fun σ2 H2 => wipe σ2 vs = wipe σ vs ∧ tYes σ2 H2 fun b H3 =>
      if b = true then te σ2 H3 fun y H4 => ∃ acc, H4 D = some (.lst acc) ∧ acc.length < sizeLine ∧ Nx (upd H4 D (.lst (acc ++ [y]))) else Nx H3) := by
  have off : ∀ {H2 : Hp} {o : HO}, del (upd H2 D o) D = del H2 D := fun {H2 o} => by
    funext b
    unfold del
    by_cases c : b = D
    · rw [if_pos c, if_pos c]
    · rw [if_neg c, if_neg c, upd_ne c]
  have e1 : ∀ {H2 : Hp}, Ext H1 H2 → Ext H1 (del H2 D) := fun {H2} e b o hb => by
    rw [del_ne (ne_of_none hb hD)]
    exact e b o hb
  have e2 : ∀ {H2 : Hp} {o : HO}, Ext H1 H2 → Ext H1 (upd H2 D o) := fun {H2 o} e b u hb => by
    rw [upd_ne (ne_of_none hb hD)]
    exact e b u hb
  have e3 : ∀ {H2 H3 : Hp}, Ext H2 H3 → Ext (del H2 D) (del H3 D) := fun {H2 H3} e b o hb => by
    have c : b ≠ D := fun z => by
      rw [z, del_same] at hb
      cases hb
    rw [del_ne c] at hb ⊢
    exact e b o hb
  refine turns_it wk (fun i H => ∃ ys, ys.length = i ∧ (∀ j y, ys[j]? = some y → R j y (del H D)) ∧ Ext H1 H ∧ H D = some (.lst ys)) ⟨[], rfl, fun j y e => by simp at e, e2 Ext.rfl', upd_same⟩ (fun i H _ ⟨_, _, _, e, _⟩ => hG H e) ?_ ?_
  · rintro i x H H' hi ⟨ys, hl, hR', e, hDy⟩ y
    refine hs i x H H' hi (e1 e) (by rw [hDy]; simp) y (fun z H4 => ∃ acc, H4 D = some (.lst acc) ∧ acc.length < sizeLine ∧ ∃ ys, ys.length = i + 1 ∧ (∀ j y, ys[j]? = some y → R j y (del (upd H4 D (.lst (acc ++ [z]))) D)) ∧ Ext H1 (upd H4 D (.lst (acc ++ [z]))) ∧ upd H4 D (.lst (acc ++ [z])) D = some (.lst ys)) fun z H4 e4 hz => ?_
    have e5 : Ext H H4 := (hY i H x H' y).trans e4
    refine ⟨ys, e5 _ _ hDy, by rw [hl]; exact Nat.lt_trans hi hn, ys ++ [z], by rw [List.length_append, hl]; rfl, fun j u hj => ?_, e2 (e.trans e5), upd_same⟩
    rw [off]
    by_cases c : j < i
    · rw [List.getElem?_append_left (by omega)] at hj
      exact hR _ _ _ _ (e3 e5) (hR' j u hj)
    · rw [List.getElem?_append_right (by omega)] at hj
      have c2 : j = i := by
        by_cases c3 : j - ys.length = 0
        · omega
        · rw [List.getElem?_eq_none (by simp; omega)] at hj
          cases hj
      subst c2
      rw [hl, Nat.sub_self] at hj
      cases hj
      exact hz
  · rintro H ⟨ys, hl, hR', e, hDy⟩
    exact hd ys H hl hR' e hDy
theorem ext_del {H : Hp} {D : Addr} : Ext (del H D) H := fun b o h => by
  unfold del at h
  split at h
  · cases h
  · exact h
theorem ext_off {H H' : Hp} {D : Addr} (e : Ext H H') (hD : H D = none) : Ext H (del H' D) := fun b o h => by
  rw [del_ne (ne_of_none h hD)]
  exact e b o h
theorem ext_dels {H H' : Hp} {D : Addr} (e : Ext H H') : Ext (del H D) (del H' D) := fun b o h => by
  unfold del at h ⊢
  split at h
  · cases h
  · rename_i c
    rw [if_neg c]
    exact e b o h
end
/-- data by what each item is -/
theorem dps_of {K : W.Frag} {H : Hp} : ∀ {ys : List V} {ds : List PyData}, ys.length = ds.length → (∀ (i : Nat) y, ys[i]? = some y → ∃ d, ds[i]? = some d ∧ Dp K H y d) → DpAll K H ys ds
  | [], [], _, _ => .nil
  | [], _ :: _, h, _ => by simp at h
  | _ :: _, [], h, _ => by simp at h
  | y :: ys, d :: ds, h, hi => by
    obtain ⟨d', e, hp⟩ := hi 0 y rfl
    cases e
    exact .cons hp (dps_of (by simpa using h) fun i z hz => hi (i + 1) z (by simpa using hz))
end Ow

end
section
/-! K81a: the text of law_k81; houses' data; its first defs. -/
namespace K81
open PySem L2 Ow
open PySem.Spec PyProof.Rows
abbrev prg : Program := PySem.Challenge.pw_ownseen_k81_programs_made_and_refused
def top (i : Nat) : Stmt := prg.main.body.getD i (.Pass ⟨0, 0, 0, 0⟩)
def clsB : Stmt → List Stmt
  | .ClassDef (body := b) .. => b
  | _ => []
def sub (i j : Nat) : Stmt := (clsB (top i)).getD j (.Pass ⟨0, 0, 0, 0⟩)
abbrev s_BadProgram_init : Stmt := sub 4 0
abbrev s_is_integer : Stmt := top 10
abbrev s_is_within : Stmt := top 11
abbrev s_is_word : Stmt := top 12
abbrev s_is_row : Stmt := top 13
abbrev s_need_number : Stmt := top 14
abbrev s_are_words : Stmt := top 25
abbrev s_is_below : Stmt := top 26
abbrev s_are_kind_rows : Stmt := top 27
abbrev s_kind_text : Stmt := top 28
abbrev s_Kind_init : Stmt := sub 31 0
abbrev s_Kind_str : Stmt := sub 31 2
abbrev s_fixed : Stmt := top 33
abbrev s_is_couple : Stmt := top 35
abbrev s_is_table : Stmt := top 36
abbrev s_is_listed : Stmt := top 44
abbrev s_is_house : Stmt := top 45
abbrev s_is_deal : Stmt := top 46
abbrev s_are_hands : Stmt := top 47
abbrev s_fixed_pair : Stmt := top 48
abbrev s_Program_init : Stmt := sub 49 0
abbrev s_Program_eq : Stmt := sub 49 1
abbrev s_told : Stmt := top 57
abbrev s_change_row : Stmt := top 58
abbrev s_lists_to : Stmt := top 59
abbrev s_put_between : Stmt := top 60
abbrev s_any_out : Stmt := top 61
abbrev s_kind_of_lists : Stmt := top 62
abbrev s_need_room : Stmt := top 63
abbrev s_purse : Stmt := top 64
abbrev s_tickets : Stmt := top 65
abbrev s_shelf : Stmt := top 66
abbrev s_bag : Stmt := top 67
abbrev s_law_saddle : Stmt := top 69
abbrev s_law_ride : Stmt := top 70
abbrev s_law_pick : Stmt := top 71
abbrev s_law_kind : Stmt := top 72
abbrev s_law_operation : Stmt := top 73
abbrev s_law_table : Stmt := top 74
abbrev s_law_houses : Stmt := top 75
abbrev s_law_deal : Stmt := top 76
abbrev s_law_hands : Stmt := top 77
abbrev s_law_is_number : Stmt := top 78
abbrev s_law_is_list : Stmt := top 79
abbrev s_law_is_operation : Stmt := top 80
abbrev s_law_is_house : Stmt := top 81
abbrev s_law_due : Stmt := top 82
abbrev s_law_bent_houses : Stmt := top 83
abbrev s_law_bent_hands : Stmt := top 84
abbrev s_law_heard : Stmt := top 85
abbrev s_law_made_right : Stmt := top 86
abbrev s_law : Stmt := top 87
/-- nothing tracked -/
abbrev H00 : Hp := fun _ => none
theorem ext00 {H : Hp} : Ext H00 H := fun _ _ h => nomatch h
def changesD : PyData := .tuple [.int 1, .int 2, .int (-1), .int (-2)]
def waysD : PyData := .tuple [.str "in place", .str "laid by", .str "watched"]
abbrev CK (K : W.Frag) : Addr := He.ga K "Kind"
abbrev CP (K : W.Frag) : Addr := He.ga K "Program"
/-- isinstance of an instance of the class at C -/
structure ClsX (K : W.Frag) (C : Addr) : Prop where
  c1 : W.findIn K (.ref C) "__class__" = some (some (.builtin "object.__class__"))
  c2 : W.specialIn K (.builtin "object.__class__") "__get__" = some (some (.builtin "getset_descriptor.__get__"))
  c3 : W.takesIn K (.builtin "object.__class__") = some true
  c4 : W.mroIn K C (.type "object") = some true
def tyNames : List String := ["NoneType", "bool", "int", "str", "list", "tuple", "dict"]
structure Txt (K : W.Frag) (mg : Str → Option Value) : Prop where
  f_int : mg "int" = none
  f_bool : mg "bool" = none
  f_str : mg "str" = none
  f_list : mg "list" = none
  f_tuple : mg "tuple" = none
  f_len : mg "len" = none
  f_isinstance : mg "isinstance" = none
  f_abs : mg "abs" = none
  f_all : mg "all" = none
  f_repr : mg "repr" = none
  f_range : mg "range" = none
  f_zip : mg "zip" = none
  f_sum : mg "sum" = none
  f_set : mg "set" = none
  f_dict : mg "dict" = none
  f_sorted : mg "sorted" = none
  f_enumerate : mg "enumerate" = none
  f_min : mg "min" = none
  g_SIGNS : ∃ t, mg "SIGNS" = some (.str "abcdefghijklmnopqrstuvwxyz0123456789" t)
  g_MOST_SIGNS : ∃ t, mg "MOST_SIGNS" = some (.int 12 t)
  g_BAR : ∃ t, mg "BAR" = some (.str "/" t)
  g_MOST_ASKS : ∃ t, mg "MOST_ASKS" = some (.int 8 t)
  g_MOST_ANSWERS : ∃ t, mg "MOST_ANSWERS" = some (.int 12 t)
  g_MOST_STATES : ∃ t, mg "MOST_STATES" = some (.int 60 t)
  g_MOST_ROWS : ∃ t, mg "MOST_ROWS" = some (.int 600 t)
  g_MOST_HOUSES : ∃ t, mg "MOST_HOUSES" = some (.int 4 t)
  g_MOST_HANDS : ∃ t, mg "MOST_HANDS" = some (.int 4 t)
  g_MOST_DEALS : ∃ t, mg "MOST_DEALS" = some (.int 8 t)
  g_MOST_STEPS : ∃ t, mg "MOST_STEPS" = some (.int 6 t)
  g_WATCHED : ∃ t, mg "WATCHED" = some (.str "watched" t)
  g_MOST_SUM : ∃ t, mg "MOST_SUM" = some (.int 8 t)
  g_MOST_TICKETS : ∃ t, mg "MOST_TICKETS" = some (.int 11 t)
  g_MOST_WORTHS : ∃ t, mg "MOST_WORTHS" = some (.int 7 t)
  g_MOST_ROOM : ∃ t, mg "MOST_ROOM" = some (.int 8 t)
  g_MOST_ITEMS : ∃ t, mg "MOST_ITEMS" = some (.int 3 t)
  x_BadProgram : ErrD prg K mg "BadProgram" "BadProgram.__init__" s_BadProgram_init "part"
  d_is_integer : Dfn K mg "is_integer" s_is_integer ["value"]
  d_is_within : Dfn K mg "is_within" s_is_within ["value", "least", "most"]
  d_is_word : Dfn K mg "is_word" s_is_word ["value"]
  d_is_row : Dfn K mg "is_row" s_is_row ["value", "many"]
  d_need_number : Dfn K mg "need_number" s_need_number ["value", "part", "least", "most"]
  d_are_words : Dfn K mg "are_words" s_are_words ["value", "most"]
  d_is_below : Dfn K mg "is_below" s_is_below ["value", "bounds"]
  d_are_kind_rows : Dfn K mg "are_kind_rows" s_are_kind_rows ["value", "bounds"]
  d_kind_text : Dfn K mg "kind_text" s_kind_text ["kind"]
  d_Kind_init : Idf K mg "Kind" (He.ga K "Kind") "Kind.__init__" s_Kind_init ["self", "asks", "answers", "states", "first", "rows"]
  d_Kind_str : Mdf K (He.ga K "Kind") "__str__" "Kind.__str__" s_Kind_str ["self"]
  d_fixed : Dfn K mg "fixed" s_fixed ["value"]
  d_is_couple : Dfn K mg "is_couple" s_is_couple ["kind", "value"]
  d_is_table : Dfn K mg "is_table" s_is_table ["kind", "value"]
  d_is_listed : Dfn K mg "is_listed" s_is_listed ["value", "least", "most"]
  d_is_house : Dfn K mg "is_house" s_is_house ["value"]
  d_is_deal : Dfn K mg "is_deal" s_is_deal ["value", "houses"]
  d_are_hands : Dfn K mg "are_hands" s_are_hands ["value", "houses"]
  d_fixed_pair : Dfn K mg "fixed_pair" s_fixed_pair ["pair"]
  d_Program_init : Idf K mg "Program" (He.ga K "Program") "Program.__init__" s_Program_init ["self", "houses", "hands"]
  d_Program_eq : Mdf K (He.ga K "Program") "__eq__" "Program.__eq__" s_Program_eq ["self", "other"]
  d_told : Dfn K mg "told" s_told ["letter", "many"]
  d_change_row : Dfn K mg "change_row" s_change_row ["here", "ask", "most"]
  d_lists_to : Dfn K mg "lists_to" s_lists_to ["room", "items", "is_ordered"]
  d_put_between : Dfn K mg "put_between" s_put_between ["some", "item"]
  d_any_out : Dfn K mg "any_out" s_any_out ["some"]
  d_kind_of_lists : Dfn K mg "kind_of_lists" s_kind_of_lists ["room", "items", "lists", "put", "out"]
  d_need_room : Dfn K mg "need_room" s_need_room ["room", "items"]
  d_purse : Dfn K mg "purse" s_purse ["most", "first"]
  d_tickets : Dfn K mg "tickets" s_tickets ["many"]
  d_shelf : Dfn K mg "shelf" s_shelf ["worths", "first"]
  d_bag : Dfn K mg "bag" s_bag ["room", "items"]
  d_law_saddle : Dfn K mg "_law_saddle" s_law_saddle ["_law_script"]
  d_law_ride : Dfn K mg "_law_ride" s_law_ride ["_law_saddle_here", "_law_many"]
  d_law_pick : Dfn K mg "_law_pick" s_law_pick ["_law_saddle_here", "_law_some"]
  d_law_kind : Dfn K mg "_law_kind" s_law_kind ["_law_saddle_here"]
  d_law_operation : Dfn K mg "_law_operation" s_law_operation ["_law_saddle_here", "_law_kind_here"]
  d_law_table : Dfn K mg "_law_table" s_law_table ["_law_saddle_here", "_law_kind_here"]
  d_law_houses : Dfn K mg "_law_houses" s_law_houses ["_law_saddle_here"]
  d_law_deal : Dfn K mg "_law_deal" s_law_deal ["_law_saddle_here", "_law_houses_here"]
  d_law_hands : Dfn K mg "_law_hands" s_law_hands ["_law_saddle_here", "_law_houses_here"]
  d_law_is_number : Dfn K mg "_law_is_number" s_law_is_number ["_law_value", "_law_many"]
  d_law_is_list : Dfn K mg "_law_is_list" s_law_is_list ["_law_value", "_law_least", "_law_most"]
  d_law_is_operation : Dfn K mg "_law_is_operation" s_law_is_operation ["_law_value", "_law_kind_here"]
  d_law_is_house : Dfn K mg "_law_is_house" s_law_is_house ["_law_value"]
  d_law_due : Dfn K mg "_law_due" s_law_due ["_law_houses_here", "_law_hands_here"]
  d_law_bent_houses : Dfn K mg "_law_bent_houses" s_law_bent_houses ["_law_saddle_here", "_law_houses_here"]
  d_law_bent_hands : Dfn K mg "_law_bent_hands" s_law_bent_hands ["_law_saddle_here", "_law_houses_here", "_law_hands_here"]
  d_law_heard : Dfn K mg "_law_heard" s_law_heard ["_law_houses_here", "_law_hands_here"]
  d_law_made_right : Dfn K mg "_law_made_right" s_law_made_right ["_law_houses_here", "_law_hands_here"]
  d_law : Dfn K mg "law" s_law ["_law_script"]
  cl_Kind : Cls K (He.ga K "Kind")
  na_Kind_asks : NoAttr K (He.ga K "Kind") "asks"
  na_Kind_answers : NoAttr K (He.ga K "Kind") "answers"
  na_Kind_states : NoAttr K (He.ga K "Kind") "states"
  na_Kind_first : NoAttr K (He.ga K "Kind") "first"
  na_Kind_rows : NoAttr K (He.ga K "Kind") "rows"
  na_Kind_led : NoAttr K (He.ga K "Kind") "led"
  na_Kind_moves : NoAttr K (He.ga K "Kind") "moves"
  cl_Program : Cls K (He.ga K "Program")
  na_Program_houses : NoAttr K (He.ga K "Program") "houses"
  na_Program_hands : NoAttr K (He.ga K "Program") "hands"
  na_Program_deals : NoAttr K (He.ga K "Program") "deals"
  na_Program_owners : NoAttr K (He.ga K "Program") "owners"
  g_CHANGES : mg "CHANGES" = some (.ref (He.ga K "CHANGES"))
  b_CHANGES : Dp K H00 (.ref (He.ga K "CHANGES")) changesD
  g_WAYS : mg "WAYS" = some (.ref (He.ga K "WAYS"))
  b_WAYS : Dp K H00 (.ref (He.ga K "WAYS")) waysD
  g_Kind : mg "Kind" = some (.ref (CK K))
  g_Program : mg "Program" = some (.ref (CP K))
  x_Kind : ClsX K (CK K)
  x_Program : ClsX K (CP K)
  kn : ∀ n ∈ tyNames, W.kitOne K (.type n) (.ref (CK K)) = some false
  kK : W.kitOne K (.ref (CK K)) (.ref (CK K)) = some true
  kb : ∀ n ∈ tyNames, W.kitOne K (.ref (CK K)) (.type n) = some false
  pP : W.kitOne K (.ref (CP K)) (.ref (CP K)) = some true
  pn : ∀ n ∈ tyNames, W.kitOne K (.type n) (.ref (CP K)) = some false
theorem sc_is_integer : FnScope ["value"] ["value"] (defScope s_is_integer) := ⟨rfl, rfl, rfl, by decide +kernel, rfl, by decide +kernel, by decide +kernel⟩
theorem sc_is_within : FnScope ["value", "least", "most"] ["value", "least", "most"] (defScope s_is_within) := ⟨rfl, rfl, rfl, by decide +kernel, rfl, by decide +kernel, by decide +kernel⟩
theorem sc_is_word : FnScope ["value", "sign"] ["value"] (defScope s_is_word) := ⟨rfl, rfl, rfl, by decide +kernel, rfl, by decide +kernel, by decide +kernel⟩
theorem sc_is_row : FnScope ["value", "many", "each"] ["value", "many"] (defScope s_is_row) := ⟨rfl, rfl, rfl, by decide +kernel, rfl, by decide +kernel, by decide +kernel⟩
theorem sc_need_number : FnScope ["value", "part", "least", "most"] ["value", "part", "least", "most"] (defScope s_need_number) := ⟨rfl, rfl, rfl, by decide +kernel, rfl, by decide +kernel, by decide +kernel⟩
theorem sc_are_words : FnScope ["value", "most", "word"] ["value", "most"] (defScope s_are_words) := ⟨rfl, rfl, rfl, by decide +kernel, rfl, by decide +kernel, by decide +kernel⟩
theorem sc_is_below : FnScope ["value", "bounds", "number", "bound"] ["value", "bounds"] (defScope s_is_below) := ⟨rfl, rfl, rfl, by decide +kernel, rfl, by decide +kernel, by decide +kernel⟩
theorem sc_are_kind_rows : FnScope ["value", "bounds", "heads", "row", "one", "other", "head"] ["value", "bounds"] (defScope s_are_kind_rows) := ⟨rfl, rfl, rfl, by decide +kernel, rfl, by decide +kernel, by decide +kernel⟩
theorem sc_kind_text : FnScope ["kind", "parts", "part", "item"] ["kind"] (defScope s_kind_text) := ⟨rfl, rfl, rfl, by decide +kernel, rfl, by decide +kernel, by decide +kernel⟩
theorem sc_Kind_init : FnScope ["self", "asks", "answers", "states", "first", "rows", "row", "_"] ["self", "asks", "answers", "states", "first", "rows"] (defScope s_Kind_init) := ⟨rfl, rfl, rfl, by decide +kernel, rfl, by decide +kernel, by decide +kernel⟩
theorem sc_Kind_str : FnScope ["self"] ["self"] (defScope s_Kind_str) := ⟨rfl, rfl, rfl, by decide +kernel, rfl, by decide +kernel, by decide +kernel⟩
theorem sc_fixed : FnScope ["value", "part"] ["value"] (defScope s_fixed) := ⟨rfl, rfl, rfl, by decide +kernel, rfl, by decide +kernel, by decide +kernel⟩
theorem sc_is_couple : FnScope ["kind", "value", "bounds", "each"] ["kind", "value"] (defScope s_is_couple) := ⟨rfl, rfl, rfl, by decide +kernel, rfl, by decide +kernel, by decide +kernel⟩
theorem sc_is_table : FnScope ["kind", "value", "couples", "each", "one", "other"] ["kind", "value"] (defScope s_is_table) := ⟨rfl, rfl, rfl, by decide +kernel, rfl, by decide +kernel, by decide +kernel⟩
theorem sc_is_listed : FnScope ["value", "least", "most"] ["value", "least", "most"] (defScope s_is_listed) := ⟨rfl, rfl, rfl, by decide +kernel, rfl, by decide +kernel, by decide +kernel⟩
theorem sc_is_house : FnScope ["value", "kind", "way", "table"] ["value"] (defScope s_is_house) := ⟨rfl, rfl, rfl, by decide +kernel, rfl, by decide +kernel, by decide +kernel⟩
theorem sc_is_deal : FnScope ["value", "houses", "step", "house", "ask"] ["value", "houses"] (defScope s_is_deal) := ⟨rfl, rfl, rfl, by decide +kernel, rfl, by decide +kernel, by decide +kernel⟩
theorem sc_are_hands : FnScope ["value", "houses", "hand", "deal"] ["value", "houses"] (defScope s_are_hands) := ⟨rfl, rfl, rfl, by decide +kernel, rfl, by decide +kernel, by decide +kernel⟩
theorem sc_fixed_pair : FnScope ["pair"] ["pair"] (defScope s_fixed_pair) := ⟨rfl, rfl, rfl, by decide +kernel, rfl, by decide +kernel, by decide +kernel⟩
theorem sc_Program_init : FnScope ["self", "houses", "hands", "house", "kind", "way", "table", "pair", "hand", "deal", "step", "at"] ["self", "houses", "hands"] (defScope s_Program_init) := ⟨rfl, rfl, rfl, by decide +kernel, rfl, by decide +kernel, by decide +kernel⟩
theorem sc_Program_eq : FnScope ["self", "other"] ["self", "other"] (defScope s_Program_eq) := ⟨rfl, rfl, rfl, by decide +kernel, rfl, by decide +kernel, by decide +kernel⟩
theorem sc_told : FnScope ["letter", "many", "number"] ["letter", "many"] (defScope s_told) := ⟨rfl, rfl, rfl, by decide +kernel, rfl, by decide +kernel, by decide +kernel⟩
theorem sc_change_row : FnScope ["here", "ask", "most", "there"] ["here", "ask", "most"] (defScope s_change_row) := ⟨rfl, rfl, rfl, by decide +kernel, rfl, by decide +kernel, by decide +kernel⟩
theorem sc_lists_to : FnScope ["room", "items", "is_ordered", "found", "last", "_", "some", "item"] ["room", "items", "is_ordered"] (defScope s_lists_to) := ⟨rfl, rfl, rfl, by decide +kernel, rfl, by decide +kernel, by decide +kernel⟩
theorem sc_put_between : FnScope ["some", "item"] ["some", "item"] (defScope s_put_between) := ⟨rfl, rfl, rfl, by decide +kernel, rfl, by decide +kernel, by decide +kernel⟩
theorem sc_any_out : FnScope ["some", "spots", "item", "at"] ["some"] (defScope s_any_out) := ⟨rfl, rfl, rfl, by decide +kernel, rfl, by decide +kernel, by decide +kernel⟩
theorem sc_kind_of_lists : FnScope ["room", "items", "lists", "put", "out", "spots", "rows", "at", "some", "item", "rest"] ["room", "items", "lists", "put", "out"] (defScope s_kind_of_lists) := ⟨rfl, rfl, rfl, by decide +kernel, rfl, by decide +kernel, by decide +kernel⟩
theorem sc_need_room : FnScope ["room", "items"] ["room", "items"] (defScope s_need_room) := ⟨rfl, rfl, rfl, by decide +kernel, rfl, by decide +kernel, by decide +kernel⟩
theorem sc_purse : FnScope ["most", "first", "rows", "here", "asks", "ask"] ["most", "first"] (defScope s_purse) := ⟨rfl, rfl, rfl, by decide +kernel, rfl, by decide +kernel, by decide +kernel⟩
theorem sc_tickets : FnScope ["many", "rows", "given"] ["many"] (defScope s_tickets) := ⟨rfl, rfl, rfl, by decide +kernel, rfl, by decide +kernel, by decide +kernel⟩
theorem sc_shelf : FnScope ["worths", "first", "rows", "here", "worth"] ["worths", "first"] (defScope s_shelf) := ⟨rfl, rfl, rfl, by decide +kernel, rfl, by decide +kernel, by decide +kernel⟩
theorem sc_bag : FnScope ["room", "items"] ["room", "items"] (defScope s_bag) := ⟨rfl, rfl, rfl, by decide +kernel, rfl, by decide +kernel, by decide +kernel⟩
theorem sc_law_saddle : FnScope ["_law_script", "_law_cell"] ["_law_script"] (defScope s_law_saddle) := ⟨rfl, rfl, rfl, by decide +kernel, rfl, by decide +kernel, by decide +kernel⟩
theorem sc_law_ride : FnScope ["_law_saddle_here", "_law_many", "_law_rest", "_law_at", "_law_cell", "_law_mixed"] ["_law_saddle_here", "_law_many"] (defScope s_law_ride) := ⟨rfl, rfl, rfl, by decide +kernel, rfl, by decide +kernel, by decide +kernel⟩
theorem sc_law_pick : FnScope ["_law_saddle_here", "_law_some"] ["_law_saddle_here", "_law_some"] (defScope s_law_pick) := ⟨rfl, rfl, rfl, by decide +kernel, rfl, by decide +kernel, by decide +kernel⟩
theorem sc_law_kind : FnScope ["_law_saddle_here", "_law_box"] ["_law_saddle_here"] (defScope s_law_kind) := ⟨rfl, rfl, rfl, by decide +kernel, rfl, by decide +kernel, by decide +kernel⟩
theorem sc_law_operation : FnScope ["_law_saddle_here", "_law_kind_here"] ["_law_saddle_here", "_law_kind_here"] (defScope s_law_operation) := ⟨rfl, rfl, rfl, by decide +kernel, rfl, by decide +kernel, by decide +kernel⟩
theorem sc_law_table : FnScope ["_law_saddle_here", "_law_kind_here", "_law_pairs", "_law_turn", "_law_pair"] ["_law_saddle_here", "_law_kind_here"] (defScope s_law_table) := ⟨rfl, rfl, rfl, by decide +kernel, rfl, by decide +kernel, by decide +kernel⟩
theorem sc_law_houses : FnScope ["_law_saddle_here", "_law_found", "_law_turn", "_law_kind_here", "_law_way"] ["_law_saddle_here"] (defScope s_law_houses) := ⟨rfl, rfl, rfl, by decide +kernel, rfl, by decide +kernel, by decide +kernel⟩
theorem sc_law_deal : FnScope ["_law_saddle_here", "_law_houses_here", "_law_found", "_law_turn", "_law_house"] ["_law_saddle_here", "_law_houses_here"] (defScope s_law_deal) := ⟨rfl, rfl, rfl, by decide +kernel, rfl, by decide +kernel, by decide +kernel⟩
theorem sc_law_hands : FnScope ["_law_saddle_here", "_law_houses_here", "_law_left", "_law_found", "_law_turn", "_law_many", "_law_each"] ["_law_saddle_here", "_law_houses_here"] (defScope s_law_hands) := ⟨rfl, rfl, rfl, by decide +kernel, rfl, by decide +kernel, by decide +kernel⟩
theorem sc_law_is_number : FnScope ["_law_value", "_law_many"] ["_law_value", "_law_many"] (defScope s_law_is_number) := ⟨rfl, rfl, rfl, by decide +kernel, rfl, by decide +kernel, by decide +kernel⟩
theorem sc_law_is_list : FnScope ["_law_value", "_law_least", "_law_most"] ["_law_value", "_law_least", "_law_most"] (defScope s_law_is_list) := ⟨rfl, rfl, rfl, by decide +kernel, rfl, by decide +kernel, by decide +kernel⟩
theorem sc_law_is_operation : FnScope ["_law_value", "_law_kind_here"] ["_law_value", "_law_kind_here"] (defScope s_law_is_operation) := ⟨rfl, rfl, rfl, by decide +kernel, rfl, by decide +kernel, by decide +kernel⟩
theorem sc_law_is_house : FnScope ["_law_value", "_law_kind_here", "_law_way", "_law_table_here", "_law_pair", "_law_pairs", "_law_at"] ["_law_value"] (defScope s_law_is_house) := ⟨rfl, rfl, rfl, by decide +kernel, rfl, by decide +kernel, by decide +kernel⟩
theorem sc_law_due : FnScope ["_law_houses_here", "_law_hands_here", "_law_hand", "_law_deal_here", "_law_step", "_law_house"] ["_law_houses_here", "_law_hands_here"] (defScope s_law_due) := ⟨rfl, rfl, rfl, by decide +kernel, rfl, by decide +kernel, by decide +kernel⟩
theorem sc_law_bent_houses : FnScope ["_law_saddle_here", "_law_houses_here", "_law_kind_here", "_law_rows", "_law_at", "_law_house"] ["_law_saddle_here", "_law_houses_here"] (defScope s_law_bent_houses) := ⟨rfl, rfl, rfl, by decide +kernel, rfl, by decide +kernel, by decide +kernel⟩
theorem sc_law_bent_hands : FnScope ["_law_saddle_here", "_law_houses_here", "_law_hands_here", "_law_kind_here", "_law_rows", "_law_at", "_law_deal_here", "_law_step", "_law_hand", "_law_each"] ["_law_saddle_here", "_law_houses_here", "_law_hands_here"] (defScope s_law_bent_hands) := ⟨rfl, rfl, rfl, by decide +kernel, rfl, by decide +kernel, by decide +kernel⟩
theorem sc_law_heard : FnScope ["_law_houses_here", "_law_hands_here", "_law_found", "_law_caught", "error"] ["_law_houses_here", "_law_hands_here"] (defScope s_law_heard) := ⟨rfl, rfl, rfl, by decide +kernel, rfl, by decide +kernel, by decide +kernel⟩
theorem sc_law_made_right : FnScope ["_law_houses_here", "_law_hands_here", "_law_made", "_law_due_here", "_law_rows", "_law_deals", "_law_owners", "_law_at", "_law_hand", "_law_more", "_law_house", "_law_pair", "_law_deal_here", "_law_step", "_law_row"] ["_law_houses_here", "_law_hands_here"] (defScope s_law_made_right) := ⟨rfl, rfl, rfl, by decide +kernel, rfl, by decide +kernel, by decide +kernel⟩
theorem sc_law : FnScope ["_law_script", "_law_saddle_here", "_law_turn", "_law_houses_here", "_law_hands_here", "_law_way", "_law_told", "_law_rows", "_law_due_here"] ["_law_script"] (defScope s_law) := ⟨rfl, rfl, rfl, by decide +kernel, rfl, by decide +kernel, by decide +kernel⟩
theorem _root_.L2.Room.one {k : Nat} {A : Around} (hr : L2.Room k A) : A.units + 1 < cLine := by have := hr.un; omega
theorem _root_.L2.Room.two {k : Nat} {A : Around} (hr : L2.Room k A) : A.units + 2 < cLine := by have := hr.un; omega
theorem _root_.L2.Room.forty {k : Nat} {A : Around} (hr : L2.Room k A) : A.units + 40 < cLine := by have := hr.un; omega
/-! ### kinds, houses -/
structure KN where
  asks : List Str
  answers : List Str
  st : Int
  fi : Int
  rows : List (List Int)
def isSign (c : Nat) : Bool := isDig c || (decide (97 ≤ c) && decide (c ≤ 122))
def okWord (x : Str) : Bool := decide (1 ≤ x.length) && (decide (x.length ≤ 12) && x.cps.toList.all isSign)
def okWords (xs : List Str) (most : Nat) : Bool := decide (1 ≤ xs.length) && (decide (xs.length ≤ most) && (xs.all okWord && decide xs.Nodup))
def rowD (r : List Int) : PyData := .tuple (r.map .int)
def lexB (xs ys : List Int) : Bool := HT.lexLt xs ys
/-- a row against its bounds -/
def belowL (r bs : List Int) : Bool := decide (r.length = bs.length) && (r.zip bs).all fun p => decide (0 ≤ p.1) && decide (p.1 ≤ p.2 - 1)
def okRows (rows : List (List Int)) (bs : List Int) : Bool :=
  decide (rows.length ≤ 60) && (rows.all (fun r => belowL r bs) && (((rows.map (·.take 3)).zip ((rows.map (·.take 3)).drop 1)).all (fun p => lexB p.1 p.2) && decide ((((rows.map (·.take 2)).eraseDups).length : Int) = bs.getD 0 0 * bs.getD 1 0)))
def KN.ok (k : KN) : Bool := okWords k.asks 8 && (okWords k.answers 12 && (decide (1 ≤ k.st) && (decide (k.st ≤ 60) && (decide (0 ≤ k.fi) && (decide (k.fi ≤ k.st - 1) && okRows k.rows [k.st, k.asks.length, k.answers.length, k.st])))))
/-- the kind k stands at a -/
def KindAt (K : W.Frag) (H : Hp) (a : Addr) (k : KN) : Prop := ∃ dx p1 p2 p3 p4 p5, H a = some (.ins (CK K) dx [("asks", .ref p1), ("answers", .ref p2), ("states", .int k.st), ("first", .int k.fi), ("rows", .ref p3), ("led", .ref p4), ("moves", .ref p5)]) ∧
  SqT K H p1 (k.asks.map V.str) ∧ SqT K H p2 (k.answers.map V.str) ∧ (∃ rs, SqT K H p3 rs ∧ DpAll K H rs (k.rows.map rowD)) ∧ k.ok = true
theorem KindAt.ext {K : W.Frag} {H H' : Hp} {a : Addr} {k : KN} (h : KindAt K H a k) (e : Ext H H') : KindAt K H' a k := by
  obtain ⟨dx, p1, p2, p3, p4, p5, h1, h2, h3, ⟨rs, h4, h5⟩, h6⟩ := h
  exact ⟨dx, p1, p2, p3, p4, p5, e _ _ h1, h2.ext e, h3.ext e, ⟨rs, h4.ext e, DpAll.ext e h5⟩, h6⟩
/-- data with kinds in it -/
inductive KD where
  | dat (d : PyData)
  | kind (k : KN)
  | seq (fl : Bool) (xs : List KD)
mutual
inductive Kp (K : W.Frag) (H : Hp) : V → KD → Prop where
  | dat {v : V} {d : PyData} : Vd K H v d → Kp K H v (.dat d)
  | kind {a : Addr} {k : KN} : KindAt K H a k → Kp K H (.ref a) (.kind k)
  | seq {a : Addr} {fl : Bool} {vs : List V} {ds : List KD} : SqF K fl H a vs → KpAll K H vs ds → Kp K H (.ref a) (.seq fl ds)
inductive KpAll (K : W.Frag) (H : Hp) : List V → List KD → Prop where
  | nil : KpAll K H [] []
  | cons {v : V} {d : KD} {vs : List V} {ds : List KD} : Kp K H v d → KpAll K H vs ds → KpAll K H (v :: vs) (d :: ds)
end
mutual
theorem Kp.ext {K : W.Frag} {H H' : Hp} (e : Ext H H') : ∀ {d : KD} {v : V}, Kp K H v d → Kp K H' v d
  | .dat _, _, h => by
    cases h with
    | dat h => exact .dat (Vd.ext e h)
  | .kind _, _, h => by
    cases h with
    | kind h => exact .kind (h.ext e)
  | .seq _ _, _, h => by
    cases h with
    | seq h1 h2 => exact .seq (h1.ext e) (KpAll.ext e h2)
theorem KpAll.ext {K : W.Frag} {H H' : Hp} (e : Ext H H') : ∀ {ds : List KD} {vs : List V}, KpAll K H vs ds → KpAll K H' vs ds
  | [], _, h => by cases h; exact .nil
  | _ :: _, _, h => by
    cases h with
    | cons h1 h2 => exact .cons (Kp.ext e h1) (KpAll.ext e h2)
end
section
variable {K : W.Frag} {H : Hp}
theorem KpAll.length : ∀ {ds : List KD} {vs : List V}, KpAll K H vs ds → vs.length = ds.length
  | [], _, h => by cases h; rfl
  | _ :: _, _, h => by
    cases h with
    | cons _ h2 => rw [List.length_cons, List.length_cons, KpAll.length h2]
theorem KpAll.getV : ∀ {ds : List KD} {vs : List V} {i : Nat} {v : V}, KpAll K H vs ds → vs[i]? = some v → ∃ d, ds[i]? = some d ∧ Kp K H v d
  | _, [], i, v, h, e => by simp at e
  | _, x :: r, 0, v, h, e => by
    cases h with
    | cons q _ =>
      cases e
      exact ⟨_, rfl, q⟩
  | _, x :: r, i + 1, v, h, e => by
    cases h with
    | cons _ q => exact KpAll.getV (i := i) q (by simpa using e)
theorem KpAll.ofDp : ∀ {ds : List PyData} {vs : List V}, DpAll K H vs ds → KpAll K H vs (ds.map KD.dat)
  | [], _, h => by cases h; exact .nil
  | _ :: _, _, h => by
    cases h with
    | cons q r => exact .cons (.dat (.of q)) (KpAll.ofDp r)
def kSeq : KD → Bool
  | .dat d => dSeq d
  | .kind _ => false
  | .seq _ _ => true
def kItems : KD → List KD
  | .dat d => (dItems d).map .dat
  | .kind _ => []
  | .seq _ xs => xs
def kStr : KD → Option Str
  | .dat (.str x) => some x
  | _ => none
def kKind : KD → Option KN
  | .kind k => some k
  | _ => none
def kTy (K : W.Frag) : KD → Value
  | .dat d => .type (tyName d)
  | .kind _ => .ref (CK K)
  | .seq fl _ => .type (if fl then "list" else "tuple")
theorem kseq_of {v : V} {d : KD} (h : Kp K H v d) (hs : kSeq d = true) : ∃ fl a xs, v = .ref a ∧ SqF K fl H a xs ∧ KpAll K H xs (kItems d) := by
  cases h with
  | dat h =>
    obtain ⟨fl, a, xs, e, h1, h2⟩ := seq_of h hs
    exact ⟨fl, a, xs, e, h1, .ofDp h2⟩
  | kind h => cases hs
  | seq h1 h2 => exact ⟨_, _, _, rfl, h1, h2⟩
theorem SqF.tyx {fl : Bool} {a : Addr} {xs : List V} (h : SqF K fl H a xs) : TyX K H (.ref a) (.type (if fl then "list" else "tuple")) := by
  cases fl
  · exact SqT.tyx h
  · exact SqL.tyx h
end
section
variable {K : W.Frag} {H : Hp} {mg : Str → Option Value}
theorem KindAt.tyx (T : Txt K mg) {a : Addr} {k : KN} (h : KindAt K H a k) : TyX K H (.ref a) (.ref (CK K)) := by
  obtain ⟨dx, p1, p2, p3, p4, p5, h1, _⟩ := h
  exact .base (.ins h1 T.cl_Kind T.x_Kind.c1 T.x_Kind.c2 T.x_Kind.c3 T.x_Kind.c4)
theorem Kp.tyx (T : Txt K mg) {v : V} {d : KD} (h : Kp K H v d) : TyX K H v (kTy K d) := by
  cases h with
  | dat h => exact h.tyx
  | kind h => exact h.tyx T
  | seq h1 _ => exact SqF.tyx h1
theorem tyName_mem (d : PyData) : tyName d ∈ tyNames := by cases d <;> simp [tyName, tyNames]
/-- isinstance(v, (list, tuple)) -/
theorem kisi2_rd (T : Txt K mg) {v : V} {d : KD} {tp : Addr} {Q : VK} (h : Kp K H v d) (ht : H tp = some (.tup [.ty "list", .ty "tuple"])) (q : Q (.bl (kSeq d)) H) : rIsiT K [v, .ref tp] H Q := by
  cases h with
  | dat h => exact isi2_rd h ht q
  | kind h =>
    refine ⟨_, tp, _, _, [.type "list", .type "tuple"], false, rfl, ht, .cons (.ty _) (.cons (.ty _) .nil), h.tyx T, ?_, q⟩
    exact kitAny_cons (T.kb "list" (by decide)) (fun _ => kitAny_cons (T.kb "tuple" (by decide)) (fun _ => by rw [kitAny_nil]) fun z => by cases z) fun z => by cases z
  | seq h1 h2 =>
    rename_i a fl vs ds
    refine ⟨_, tp, _, _, [.type "list", .type "tuple"], true, rfl, ht, .cons (.ty _) (.cons (.ty _) .nil), SqF.tyx h1, ?_, q⟩
    cases fl
    · exact kitAny_cons (kit_ty (show kitB "tuple" "list" = some false by decide +kernel)) (fun _ => kitAny_cons (kit_ty (show kitB "tuple" "tuple" = some true by decide +kernel)) (fun z => by cases z) fun _ => rfl) fun z => by cases z
    · exact kitAny_cons (kit_ty (show kitB "list" "list" = some true by decide +kernel)) (fun z => by cases z) fun _ => rfl
/-- isinstance(v, Kind) -/
theorem kisiK_rd (T : Txt K mg) {v : V} {d : KD} {Q : VK} (h : Kp K H v d) (q : Q (.bl (kKind d).isSome) H) : rIsi K [v, .ref (CK K)] H Q := by
  refine ⟨v, .ref (CK K), _, _, _, rfl, .own _, h.tyx T, ?_, q⟩
  cases h with
  | dat h => exact T.kn _ (tyName_mem _)
  | kind h => exact T.kK
  | seq h1 h2 =>
    rename_i a fl vs ds
    cases fl
    · exact T.kn "tuple" (by decide)
    · exact T.kn "list" (by decide)
/-- isinstance(v, str) -/
theorem kisiS_rd (T : Txt K mg) {v : V} {d : KD} {Q : VK} (h : Kp K H v d) (q : Q (.bl (kStr d).isSome) H) : rIsi K [v, .ty "str"] H Q := by
  cases h with
  | dat h =>
    rename_i d
    refine isi_rd h (kit_str d) ?_
    cases d <;> exact q
  | kind h => exact ⟨_, .ty "str", _, _, _, rfl, .ty _, h.tyx T, T.kb "str" (by decide), q⟩
  | seq h1 h2 =>
    rename_i a fl vs ds
    refine ⟨_, .ty "str", _, _, false, rfl, .ty _, SqF.tyx h1, ?_, q⟩
    cases fl
    · exact kit_ty (show kitB "tuple" "str" = some false by decide +kernel)
    · exact kit_ty (show kitB "list" "str" = some false by decide +kernel)
end
section
variable {w : World} {K : W.Frag} {mg : Str → Option Value} {base : Heap}
def sp_is_integer (K : W.Frag) : Sp := fun vs H Q _ => ∃ v d, vs = [v] ∧ Vd K H v d ∧ Q (.bl (dInt d)) H
theorem c_is_integer (T : Txt K mg) : Cal prg w K mg base CX0 1 "is_integer" ["value"] (sp_is_integer K) := by
  refine T.d_is_integer.cal sc_is_integer (fun vs H Q E ⟨v, d, e, _⟩ => by rw [e]; rfl) fun f cdv A outer s H vs Q E hr h => ?_
  have nd := sc_is_integer.nd
  obtain ⟨v, d, rfl, hv, q⟩ := h
  refine ⟨_, PSs.nox (pss_one (ps_ret (pe_and (pe_callB call_isi (by rfl) T.f_isinstance (by decide +kernel) (pa_cons (pv 0) (pa_cons (pe_bltn (v := .ty "int") (by rfl) T.f_int (by decide +kernel) rfl) pa_nil))) (pe_one (pe_not (pe_callB call_isi (by rfl) T.f_isinstance (by decide +kernel) (pa_cons (pv 0) (pa_cons (pe_bltn (v := .ty "bool") (by rfl) T.f_bool (by decide +kernel) rfl) pa_nil)))))))), ?_⟩
  dsimp only [tRet, tRetN, tSeq, tAsg, tOp, tVar, tC, tCB, tCons, tNil, tAndV, tOrV, tNotV, tAnd, tOr, tNot, tTest, tIf, tIfS, tB, tChain, tSl, tPart, tNoPart, tLst, tTup, tFld, tCl, tMt, tMk, gName, tNext, tBM, tBM0, tUn, tSub, tPar, tPar3, gTup, gCons, gNil, tDrop, tMkS, tM1, sFld, StX.tStar, tYes, gSub, cxOf, Cx.wish, Cx.nox, Cx.blk]
  refine ⟨_, rfl, isi_rd hv (kit_int d) ⟨_, rfl, ?_⟩⟩
  refine ite2 (fun c => ⟨_, rfl, isi_rd hv (kit_bool d) ⟨_, rfl, ?_⟩⟩) fun c => ?_
  · rw [show (!dBool d) = dInt d by cases d <;> simp_all [dInt, dBool]]
    exact q
  · rw [show false = dInt d by cases d <;> simp_all [dInt, dBool]]
    exact q
/-- a bound: None is none -/
def mostV : Option Int → V
  | none => .non
  | some i => .int i
def within (d : PyData) (l : Int) (m : Option Int) : Bool := match d with
  | .int i => decide (l ≤ i) && (match m with | none => true | some m => decide (i ≤ m))
  | _ => false
def sp_is_within (K : W.Frag) : Sp := fun vs H Q _ => ∃ v d l m, vs = [v, .int l, mostV m] ∧ Vd K H v d ∧ Q (.bl (within d l m)) H
theorem c_is_within (T : Txt K mg) : Cal prg w K mg base CX0 2 "is_within" ["value", "least", "most"] (sp_is_within K) := by
  refine T.d_is_within.cal sc_is_within (fun vs H Q E ⟨v, d, l, m, e, _⟩ => by rw [e]; rfl) fun f cdv A outer s H vs Q E hr h => ?_
  have nd := sc_is_within.nd
  obtain ⟨v, d, l, m, rfl, hv, q⟩ := h
  refine ⟨_, PSs.nox (pss_cons (ps_if (pt_not (pt_val (pe_cl (c_is_integer T) (hr.mono (by decide)) pass0 (pa_cons (pv 0) pa_nil)))) (pss_one (ps_ret pe_bl)) pss_nil)
      (pss_one (ps_ret (pe_and (pe_or (pe_cmpR L2.op_isN (pv 1) pe_non (nomark _)) (pe_one (pe_cmpR op_ge (pv 0) (pv 1) (nomark _)))) (pe_one (pe_or (pe_cmpR L2.op_isN (pv 2) pe_non (nomark _)) (pe_one (pe_cmpR op_le (pv 0) (pv 2) (nomark _))))))))), ?_⟩
  dsimp only [tRet, tRetN, tSeq, tAsg, tOp, tVar, tC, tCB, tCons, tNil, tAndV, tOrV, tNotV, tAnd, tOr, tNot, tTest, tIf, tIfS, tB, tChain, tSl, tPart, tNoPart, tLst, tTup, tFld, tCl, tMt, tMk, gName, tNext, tBM, tBM0, tUn, tSub, tPar, tPar3, gTup, gCons, gNil, tDrop, tMkS, tM1, sFld, StX.tStar, tYes, gSub, cxOf, Cx.wish, Cx.nox, Cx.blk]
  refine ⟨_, rfl, v, d, rfl, hv, _, rfl, ?_⟩
  cases d with
  | int i =>
    obtain rfl := hv.int
    cases m with
    | none => by_cases c : l ≤ i <;> simp [L2.start, rI0, rI, mostV, within, dInt, c] at q ⊢ <;> exact q
    | some m => by_cases c : l ≤ i <;> simp [L2.start, rI0, rI, mostV, within, dInt, c] at q ⊢ <;> exact q
  | _ => simpa [dInt, within] using q
end
end K81

end
section
/-! Ow14: what a head tells: own exception classes whose __init__ holds __class__, data, one def's empty table. -/
namespace Ow
open PySem L2
open PySem.Spec PyProof.Rows
/-! ### an own exception class -/
structure ExD where
  x : Str
  qual : Str
  st : Stmt
  fld : Str
abbrev FnC : Type := Option (Str × Str × Arguments × FuncBody × Scope × Addr × Addr)
def iniAd (K : W.Frag) (x : Str) : Addr := He.ma K (He.ga K x) "__init__"
def fnC (K : W.Frag) (x : Str) : FnC := match K.lookup (iniAd K x) with
  | some ⟨_, _, .func fd, _⟩ => some (fd.name, fd.qualname, fd.params, fd.body, fd.scope, fd.globals, fd.builtins)
  | _ => none
def ExD.val (d : ExD) : FnC := some ("__init__", d.qual, defArgs d.st, .stmts (defBody d.st), defScope d.st, mainGlobals, builtinsNs)
def cellB (K : W.Frag) (cc C : Addr) : Bool := match K.lookup cc with
  | some ⟨_, _, .cell (some (.ref D)), _⟩ => decide (D = C)
  | _ => false
def fileB (K : W.Frag) (cda : Addr) (file : Str) : Bool := match K.lookup cda with
  | some ⟨_, _, .fields vs, _⟩ => (match (vs[2]? : Option Value) with
    | some (.str f _) => decide (f = file)
    | _ => false)
  | _ => false
def cloB (K : W.Frag) (C : Addr) : List (Str × Addr) → Bool
  | [(y, cc)] => decide (y = "__class__") && cellB K cc C
  | _ => false
def noneB : Value → Bool
  | .none => true
  | _ => false
def codB (K : W.Frag) (qual file : Str) : Value → Bool
  | .ref cda => W.codeIn K (.ref cda) qual && fileB K cda file
  | _ => false
def supB (file : Str) (K : W.Frag) (d : ExD) : Bool := match K.lookup (iniAd K d.x) with
  | some ⟨_, _, .func fd, _⟩ => cloB K (He.ga K d.x) fd.closure && (noneB fd.defaults && codB K d.qual file fd.code)
  | _ => false
theorem cellB_ok {K : W.Frag} {cc C : Addr} (h : cellB K cc C = true) : ∃ (cl : Value) (cld : Option Addr) (csl : Array (Option Value)), K.lookup cc = some ⟨cl, cld, .cell (some (.ref C)), csl⟩ := by
  unfold cellB at h
  split at h
  · rename_i e
    rw [e, of_decide_eq_true h]
    exact ⟨_, _, _, rfl⟩
  · cases h
theorem fileB_ok {K : W.Frag} {cda : Addr} {file : Str} (h : fileB K cda file = true) : ∃ (ccl : Value) (cdd : Option Addr) (ccs : Array (Option Value)) (vs : Array Value) (tf : Tok), K.lookup cda = some ⟨ccl, cdd, .fields vs, ccs⟩ ∧ vs[2]? = some (.str file tf) := by
  unfold fileB at h
  split at h
  · rename_i e
    split at h
    · rename_i e2
      rw [of_decide_eq_true h] at e2
      exact ⟨_, _, _, _, _, e, e2⟩
    · cases h
  · cases h
theorem supB_ok {P : Program} {K : W.Frag} {d : ExD} (e : fnC K d.x = d.val) (h : supB P.main.file K d = true) (h1 : W.nsIn K cStatics "thirdparty.any" = some none) (h2 : W.ks_superIn K (He.ga K d.x) (He.ga K d.x) "__init__" = some (some (.builtin "ValueError.__init__"))) (h3 : W.nsIn K mainGlobals "super" = some none) :
    ∃ (fd : FuncData) (cc cda : Addr), SupInit P K (He.ga K d.x) d.qual (defArgs d.st) (defBody d.st) (defScope d.st) (iniAd K d.x) fd cc cda := by
  unfold supB at h
  unfold fnC at e
  split at h
  · rename_i oc od fd osl q
    rw [q] at e
    obtain ⟨n1, n2, n3, n4, n5, n6, n7, n8, n9, n10, n11, n12, n13, n14, n15⟩ := fd
    have e2 : (some (n1, n2, n3, n4, n5, n6, n15) : FnC) = d.val := e
    unfold ExD.val at e2
    simp only [Option.some.injEq, Prod.mk.injEq] at e2
    obtain ⟨rfl, rfl, rfl, rfl, rfl, rfl, rfl⟩ := e2
    simp only [Bool.and_eq_true] at h
    obtain ⟨g1, g2, g3⟩ := h
    obtain ⟨y, cc, rfl, rfl, g4⟩ : ∃ y cc, n7 = [(y, cc)] ∧ y = "__class__" ∧ cellB K cc (He.ga K d.x) = true := by
      match n7, g1 with
      | [(y, cc)], g1 =>
        have g5 : (decide (y = "__class__") && cellB K cc (He.ga K d.x)) = true := g1
        rw [Bool.and_eq_true] at g5
        exact ⟨y, cc, rfl, of_decide_eq_true g5.1, g5.2⟩
    have g6 : n8 = .none := by
      cases n8 with
      | none => rfl
      | _ => cases g2
    subst g6
    obtain ⟨cda, rfl, g7, g8⟩ : ∃ cda, n13 = .ref cda ∧ W.codeIn K (.ref cda) d.qual = true ∧ fileB K cda P.main.file = true := by
      cases n13 with
      | ref cda =>
        have g9 : (W.codeIn K (.ref cda) d.qual && fileB K cda P.main.file) = true := g3
        rw [Bool.and_eq_true] at g9
        exact ⟨cda, rfl, g9.1, g9.2⟩
      | _ => cases g3
    exact ⟨_, cc, cda, ⟨⟨oc, od, osl, _, _, _, _, _, rfl, q⟩, g7, fileB_ok g8, cellB_ok g4, h1, h2, h3⟩⟩
  · cases h
def oexB (K : W.Frag) (C : Addr) : Bool := match K.lookup C with
  | some ⟨.type t, _, .cls cd, sl⟩ => decide (t = "type") && (cd.hasDict && (!cd.hasDel && ((match cd.mro with
    | .ref C' :: bm => decide (C' = C) && HandSPX.refsVE bm
    | _ => false) && (match sl.toList with
    | [_, _, _, _, some (.builtin n), _] => decide (n = "ValueError.__new__")
    | _ => false))))
  | _ => false
theorem oexB_ok {K : W.Frag} {C : Addr} (h : oexB K C = true) : ∃ nm q N bs bm sn sub ab col dd k0 k1 k2 k3 k5, K.lookup C = some (excClassObj nm q C N bs bm true sn sub ab col dd k0 k1 k2 k3 k5 "ValueError.__new__") ∧ HandSPX.refsVE bm = true := by
  unfold oexB at h
  split at h
  · rename_i t dd cd sl q
    simp only [Bool.and_eq_true] at h
    obtain ⟨h1, h2, h3, h4, h5⟩ := h
    obtain ⟨c1, c2, c3, c4, c5, c6, c7, c8, c9, c10, c11⟩ := cd
    split at h4
    · rename_i C' bm em
      have em : c3 = .ref C' :: bm := em
      subst em
      rw [Bool.and_eq_true] at h4
      have := of_decide_eq_true h4.1
      subst this
      split at h5
      · rename_i k0 k1 k2 k3 n k5 es
        have := of_decide_eq_true h5
        subst this
        have e1 := of_decide_eq_true h1
        subst e1
        have e2 : c6 = true := h2
        subst e2
        have e3 : c11 = false := by simpa using h3
        subst e3
        have e4 : sl = #[k0, k1, k2, k3, some (.builtin "ValueError.__new__"), k5] := by
          apply Array.toList_inj.mp
          rw [es]
        subst e4
        exact ⟨_, _, _, _, _, _, _, _, _, _, _, _, _, _, _, q, h4.2⟩
      · cases h5
    · cases h4
  · cases h
def decV (a b : Option (Option Value)) : Bool := decide (a = b)
/-- all of such a class -/
def errB (file : Str) (K : W.Frag) (d : ExD) : Bool :=
  decV (W.nsIn K mainGlobals d.x) (some (some (.ref (He.ga K d.x)))) && (oexB K (He.ga K d.x) && (decV (W.findIn K (.ref (He.ga K d.x)) "__setattr__") (some (some (.builtin "object.__setattr__"))) && (decide (W.subIn K (.ref (He.ga K d.x)) (.type "BaseException") = some true) && (decide (W.typeIn K (.ref (He.ga K d.x)) = some (.type "type")) && (W.keepIn K (.ref (He.ga K d.x)) &&
  (decV (W.findIn K (.ref (He.ga K d.x)) d.fld) (some none) && (decV (W.findIn K (.ref (He.ga K d.x)) "__init__") (some (some (.ref (iniAd K d.x)))) && (decide (W.typeIn K (.ref (iniAd K d.x)) = some (.type "function")) && (supB file K d && (decV (W.nsIn K cStatics "thirdparty.any") (some none) &&
  (decV (W.ks_superIn K (He.ga K d.x) (He.ga K d.x) "__init__") (some (some (.builtin "ValueError.__init__"))) && decV (W.nsIn K mainGlobals "super") (some none))))))))))))
theorem errB_ok {P : Program} {K : W.Frag} {h : Heap} {mg : Str → Option Value} {d : ExD} (X : K.In h) (G : h.Ns mainGlobals mg) (e : fnC K d.x = d.val) (b : errB P.main.file K d = true) : ErrD P K mg d.x d.qual d.st d.fld := by
  unfold errB at b
  simp only [Bool.and_eq_true, decV, decide_eq_true_eq] at b
  obtain ⟨b1, b2, b3, b4, b5, b6, b7, b8, b9, b10, b11, b12, b13⟩ := b
  exact ⟨W.mg_of X G b1, ⟨oexB_ok b2, b3, b4, b5, b6⟩, b7, b8, b9, supB_ok e b10 b11 b12 b13⟩
/-- what its caught instances ask of it -/
def heldB (K : W.Frag) (C : Addr) : Bool := (W.clsIn K C).isSome && (decV (W.findIn K (.ref C) "__getattribute__") (some (some (.builtin "BaseException.__getattribute__"))) && (decV (W.findIn K (.ref C) "__getattr__") (some none) && (decide (W.subIn K (.ref C) (.type "BaseException") = some true) && (W.hasDictIn K C &&
  (decV (W.findIn K (.ref C) "__class__") (some (some (.builtin "object.__class__"))) && (decV (W.specialIn K (.builtin "object.__class__") "__get__") (some (some (.builtin "getset_descriptor.__get__"))) && (decide (W.takesIn K (.builtin "object.__class__") = some true) && decide (W.mroIn K C (.type "object") = some true))))))))
theorem heldB_ok {K : W.Frag} {C : Addr} (b : heldB K C = true) : HeldC K C := by
  unfold heldB at b
  simp only [Bool.and_eq_true, decV, decide_eq_true_eq] at b
  obtain ⟨b1, b2, b3, b4, b5, b6, b7, b8, b9⟩ := b
  exact ⟨b1, b2, b3, b4, b5, b6, b7, b8, b9⟩
/-! ### constant data -/
mutual
def datB (K : W.Frag) : PyData → Value → Bool
  | .none, .none => true
  | .bool b, .bool c => b == c
  | .int i, .int j _ => decide (i = j)
  | .str x, .str y _ => decide (x = y)
  | .tuple ds, .ref a => (match K.lookup a with
    | some ⟨.type c, _, .seq its _, _⟩ => decide (c = "tuple") && (decide (its.size ≤ sizeLine) && datsB K ds its.toList)
    | _ => false)
  | _, _ => false
def datsB (K : W.Frag) : List PyData → List Value → Bool
  | [], [] => true
  | d :: ds, u :: us => datB K d u && datsB K ds us
  | _, _ => false
end
mutual
theorem datB_ok {K : W.Frag} {H : Hp} : ∀ {d : PyData} {u : Value}, datB K d u = true → ∃ v, RelV v u ∧ Dp K H v d
  | .none, u, h => by
    cases u with
    | none => exact ⟨.non, rfl, .non⟩
    | _ => simp [datB] at h
  | .bool b, u, h => by
    cases u with
    | bool c =>
      simp only [datB, beq_iff_eq] at h
      subst h
      exact ⟨.bl b, rfl, .bl b⟩
    | _ => simp [datB] at h
  | .int i, u, h => by
    cases u with
    | int j t =>
      simp only [datB, decide_eq_true_eq] at h
      subst h
      exact ⟨.int i, ⟨t, rfl⟩, .int i⟩
    | _ => simp [datB] at h
  | .str x, u, h => by
    cases u with
    | str y t =>
      simp only [datB, decide_eq_true_eq] at h
      subst h
      exact ⟨.str x, ⟨t, rfl⟩, .str x⟩
    | _ => simp [datB] at h
  | .list ds, u, h => by cases u <;> simp [datB] at h
  | .dict ds, u, h => by cases u <;> simp [datB] at h
  | .tuple ds, u, h => by
    cases u with
    | ref a =>
      rw [datB] at h
      split at h
      · rename_i c od its n sl q
        simp only [Bool.and_eq_true, decide_eq_true_eq] at h
        obtain ⟨h1, h2, h3⟩ := h
        obtain ⟨vs, r, A⟩ := datsB_ok (H := H) h3
        exact ⟨.ref a, rfl, .tup (.inr ⟨_, its, n, q, congrArg Value.type h1, rfl, h2, r⟩) A⟩
      · cases h
    | _ => simp [datB] at h
theorem datsB_ok {K : W.Frag} {H : Hp} : ∀ {ds : List PyData} {us : List Value}, datsB K ds us = true → ∃ vs, Vals vs us ∧ DpAll K H vs ds
  | [], [], _ => ⟨[], .nil, .nil⟩
  | [], _ :: _, h => by simp [datsB] at h
  | _ :: _, [], h => by simp [datsB] at h
  | d :: ds, u :: us, h => by
    rw [datsB, Bool.and_eq_true] at h
    obtain ⟨v, r1, A1⟩ := datB_ok (H := H) h.1
    obtain ⟨vs, r2, A2⟩ := datsB_ok (H := H) h.2
    exact ⟨v :: vs, .cons r1 r2, .cons A1 A2⟩
end
/-! ### the Hook -/
structure SaysY (fa : List He.Fa) (fn : List He.DefD) (xs : List ExD) (p : He.Defn) (ex : W.Frag → Bool) (h : Heap) (K : W.Frag) : Prop where
  d : He.SaysD fa fn K
  x : ∀ e ∈ xs, fnC K e.x = e.val
  more : ex K = true
  hd : W.codeHdIn K (He.cT K p).1 (He.cT K p).2 = true
  tab : h.get? (He.cT K p).2 = some { cls := .none, data := .fields #[] }
  out : K.lookup (He.cT K p).2 = none
abbrev AlY : Type := He.AlD × List FnC × Bool
/-- K: what the module's names reach in n steps, the machine's own names -/
def kOf (n : Nat) (g : Addr → Option Obj) : W.Frag := He.frT g (He.asD g n ++ [cStatics])
def tabB (g : Addr → Option Obj) (p : He.Defn) (K : W.Frag) : Bool := W.codeHdIn K (He.cT K p).1 (He.cT K p).2 && (match g (He.cT K p).2 with
  | some o => He.emptyTab o
  | none => false)
def obsK (fa : List He.Fa) (fn : List He.DefD) (xs : List ExD) (p : He.Defn) (ex : W.Frag → Bool) (g : Addr → Option Obj) (K : W.Frag) : AlY := (He.obsD fa fn K, xs.map fun e => fnC K e.x, ex K && tabB g p K)
def obsY (n : Nat) (fa : List He.Fa) (fn : List He.DefD) (xs : List ExD) (p : He.Defn) (ex : W.Frag → Bool) (g : Addr → Option Obj) : AlY := obsK fa fn xs p ex g (kOf n g)
def valY (fn : List He.DefD) (xs : List ExD) : AlY := (He.valD fn, xs.map ExD.val, true)
theorem saysY_of {n : Nat} {fa : List He.Fa} {fn : List He.DefD} {xs : List ExD} {p : He.Defn} {ex : W.Frag → Bool} {h : Heap} (e : obsY n fa fn xs p ex h.get? = valY fn xs) : SaysY fa fn xs p ex h (kOf n h.get?) := by
  have e1 : He.obsD fa fn (kOf n h.get?) = He.valD fn := congrArg Prod.fst e
  have e2 : xs.map (fun e => fnC (kOf n h.get?) e.x) = xs.map ExD.val := congrArg (fun z : AlY => z.2.1) e
  have e3 : (ex (kOf n h.get?) && tabB h.get? p (kOf n h.get?)) = true := congrArg (fun z : AlY => z.2.2) e
  rw [Bool.and_eq_true] at e3
  obtain ⟨c1, c2⟩ := e3
  unfold tabB at c2
  rw [Bool.and_eq_true] at c2
  obtain ⟨c3, c4⟩ := c2
  cases q : h.get? (He.cT (kOf n h.get?) p).2 with
  | none =>
    rw [q] at c4
    cases c4
  | some o =>
    rw [q] at c4
    refine ⟨e1, fun d hd => ?_, c1, c3, by rw [q, He.emptyTab_eq c4], He.frT_none q c4⟩
    exact List.map_inj_left.mp e2 d hd
def hookY (n : Nat) (fa : List He.Fa) (fn : List He.DefD) (xs : List ExD) (p : He.Defn) (ex : W.Frag → Bool) : W.Hook where
  α := AlY
  obs := fun s => obsY n fa fn xs p ex s.heap.get?
  val := fun _ => valY fn xs
  says := fun _ h => ∃ K : W.Frag, K.In h ∧ SaysY fa fn xs p ex h K
  of := fun _ _ e => ⟨_, He.frT_in, saysY_of e⟩
  keeps := fun _ _ _ ⟨K, hK, c⟩ k => ⟨K, W.Frag.In.keeps hK k, c.d, c.x, c.more, c.hd, k _ _ c.tab, c.out⟩
theorem obsY_eq {n : Nat} {fa : List He.Fa} {fn : List He.DefD} {xs : List ExD} {p : He.Defn} {ex : W.Frag → Bool} {g : Addr → Option Obj} {s : Shared} (h : ∀ a, g a = s.heap.get? a) : obsY n fa fn xs p ex g = (hookY n fa fn xs p ex).obs s := by
  have hg : g = s.heap.get? := funext h
  subst hg
  rfl
end Ow

end
section
/-! Ow15: the end of a law that is walked at the caller's own place alone (its guards are known there); defs by facts. -/
namespace Ow
open PySem L2
open PySem.Spec PyProof.Rows
abbrev tab0 : Obj := { cls := .none, data := .fields #[] }
abbrev lstO (vs : List Value) : Obj := { cls := .type "list", data := .seq vs.toArray }
/-- what is tracked at the law's entry: the table at T, the script at a if o tells it -/
def trk0 (T a : Addr) (o : Option HO) : Hp := fun b => if b = T then some (.tbl #[]) else if b = a then o else none
abbrev LawEnd (s₁ : Shared) : Result → Shared → Prop := fun r s' => r = .ok (.ret (.bool true)) ∧ OldK s₁.heap s'.heap ∧ s'.os = s₁.os ∧ AllBare s'.gens
theorem law_endC {P : Program} {w : World} {c T a : Addr} {o : Option HO} {s₁ : Shared} {r : Result} {s' : Shared} (C : W.CodeHd s₁.heap c T) (hT : s₁.heap.get? T = some tab0) (ho : ∀ u, o = some u → ∃ ob xs, u = .frz ob xs ∧ s₁.heap.get? a = some ob)
    (hok : HOk P w (trk0 T a o) s₁.heap) (h : CR CX0 [] P w (trk0 T a o) s₁ (fun v _ => v = .bl true) E0 r s') : LawEnd s₁ r s' := by
  have tT : trk0 T a o T = some (.tbl #[]) := if_pos rfl
  match r, h with
  | .error e, h => exact False.elim h
  | .ok .next, h => exact False.elim h
  | .ok .brk, h => exact False.elim h
  | .ok .cont, h => exact False.elim h
  | .ok (.ret u), h =>
    obtain ⟨v, G, eos, hb, un, hG, rv, ev⟩ := h
    have ev : v = .bl true := ev
    subst ev
    have eu : u = Value.bool true := rv
    subst eu
    obtain ⟨more, hm⟩ := un.tbls T #[] tT
    have hm2 : s'.heap.get? T = some { cls := .none, data := .fields (#[] ++ more) } := hG T _ hm
    have stays : ∀ b x, b ≠ T → s₁.heap.get? b = some x → s'.heap.get? b = some x := fun b x hb2 e => by
      have et : trk0 T a o b = if b = a then o else none := if_neg hb2
      by_cases hba : b = a
      · cases eo : o with
        | none => exact un.keep b x e (by rw [et, if_pos hba, eo]) (by simp [frs]) (by simp)
        | some y =>
          obtain ⟨ob, xs, ey, ea⟩ := ho y eo
          have e1 : trk0 T a o b = some (.frz ob xs) := by rw [et, if_pos hba, eo, ey]
          obtain ⟨q1, _⟩ := hok b _ e1
          obtain ⟨q2, _⟩ := hG b _ (un.frzs b ob xs e1)
          rw [e] at q1
          cases q1
          exact q2
      · exact un.keep b x e (by rw [et, if_neg hba]) (by simp [frs]) (by simp)
    refine ⟨rfl, ⟨fun b x e => ?_, fun b x e => ?_⟩, eos, hb⟩
    · by_cases hb2 : b = T
      · subst hb2
        rw [hT] at e
        cases e
        exact .inr (.inl ⟨(C.tab hT).isCodeTable, rfl, #[], more, rfl, hm2⟩)
      · exact .inl (stays b x hb2 e)
    · by_cases hb2 : b = T
      · subst hb2
        exact ⟨_, hm2⟩
      · exact ⟨x, stays b x hb2 e⟩
theorem law_callC {P : Program} {w : World} {K : W.Frag} {mg mb : Str → Option Value} {fa a c T : Addr} {s₁ : Shared} {vs : List Value} {ns : List Int}
    (KX : K.In s₁.heap) (hns : s₁.heap.Ns mainGlobals mg) (hb : s₁.heap.Ns builtinsNs mb) (hbb : ∀ x : Str, x ≠ "__name__" → mb x = bootBuiltins x) (hlim : s₁.heap.NoLimit) (hg : s₁.gens = #[])
    (hT : s₁.heap.get? T = some tab0) (nT : K.lookup T = none) (C : W.CodeHd s₁.heap c T)
    (hbm : ∃ (bm : Addr) (ob : Obj), mg "__builtins__" = some (.ref bm) ∧ bm ≠ builtinsNs ∧ s₁.heap.get? bm = some ob ∧ ob.cls = .type "module" ∧ ob.dict = some builtinsNs ∧ ob.data = .plain)
    (ha : s₁.heap.get? a = some (lstO vs)) (hi : IntsAre vs ns) (hl : ns.length ≤ sizeLine)
    (run : ∀ (base : Heap) (H : Hp), K.In base → LamX.TabB base mg c T → H T = some (.tbl #[]) → SqL K H a (ns.map V.int) → Env0 P w K mg base callerA [] s₁ H → codeAny (model P w) callerA (.call (.ref fa) ⟨[.ref a], []⟩) (CR CX0 [] P w H s₁ (fun v _ => v = .bl true) E0) s₁) :
    codeAny (model P w) callerA (.call (.ref fa) ⟨[.ref a], []⟩) (LawEnd s₁) s₁ := by
  have rv := vals_ints hi
  have hvl : vs.length ≤ sizeLine := by rw [hi.length]; exact hl
  have aT : a ≠ T := fun z => by
    rw [z, hT] at ha
    cases ha
  -- with o told of the script
  have main : ∀ o : Option HO, (∀ u, o = some u → K.lookup a = none ∧ u = .frz (lstO vs) (.lst (ns.map V.int))) → SqL K (trk0 T a o) a (ns.map V.int) → codeAny (model P w) callerA (.call (.ref fa) ⟨[.ref a], []⟩) (LawEnd s₁) s₁ := by
    intro o ho hS
    have tT : trk0 T a o T = some (.tbl #[]) := if_pos rfl
    have off : ∀ b x, s₁.heap.get? b = some x → x ≠ tab0 → x ≠ lstO vs → trk0 T a o b = none := fun b x e n1 n2 => by
      have c1 : b ≠ T := fun z => by
        rw [z, hT] at e
        exact n1 (Option.some.inj e).symm
      have c2 : b ≠ a := fun z => by
        rw [z, ha] at e
        exact n2 (Option.some.inj e).symm
      unfold trk0
      rw [if_neg c1, if_neg c2]
    have see : ∀ b x, s₁.heap.get? b = some x → x ≠ tab0 → x ≠ lstO vs → (hidT s₁.heap (trk0 T a o)).get? b = some x := fun b x e n1 n2 => hidT_get e (off b x e n1 n2)
    have ns2 : ∀ {b : Addr} {m : Str → Option Value}, s₁.heap.Ns b m → (hidT s₁.heap (trk0 T a o)).Ns b m := fun {b m} ⟨x, es, ep, e, d, q⟩ => ⟨x, es, ep, see b x e (fun z => by rw [z] at d; cases d) (fun z => by rw [z] at d; cases d), d, q⟩
    have kIn : K.In (hidT s₁.heap (trk0 T a o)) := fun b x e => hidT_get (KX b x e) (by
      have c1 : b ≠ T := fun z => by
        rw [z, nT] at e
        cases e
      unfold trk0
      rw [if_neg c1]
      by_cases c2 : b = a
      · rw [if_pos c2]
        cases eo : o with
        | none => rfl
        | some u =>
          have := (ho u eo).1
          rw [c2, this] at e
          cases e
      · rw [if_neg c2])
    have hm : L2.Mod K mg (hidT s₁.heap (trk0 T a o)) := ⟨kIn, ns2 hns, ⟨mb, ns2 hb, hbb⟩, let ⟨m, l1, l2⟩ := hlim; ⟨m, ns2 l1, l2⟩⟩
    have hok : HOk P w (trk0 T a o) s₁.heap := fun b u e => by
      unfold trk0 at e
      by_cases c1 : b = T
      · rw [if_pos c1] at e
        cases e
        rw [c1]
        exact hT
      · rw [if_neg c1] at e
        by_cases c2 : b = a
        · rw [if_pos c2] at e
          have z := (ho u e).2
          subst z
          rw [c2]
          exact ⟨ha, by rw [List.length_map]; exact hl, vs, _, rv, ha⟩
        · rw [if_neg c2] at e
          cases e
    have TB : LamX.TabB (hidT s₁.heap (trk0 T a o)) mg c T := by
      refine ⟨?_, ?_, fun z => ?_⟩
      · obtain ⟨x, us, file, tf, flags, tg, inF, text, tt, e1, r1, r2, r3, rest⟩ := C
        exact ⟨x, us, file, tf, flags, tg, inF, text, tt, see c x e1 (fun z => by rw [z] at r2; cases r2; simp at r3) (fun z => by rw [z] at r2; cases r2), r1, r2, r3, rest⟩
      · obtain ⟨bm, ob, b1, b2, b3, b4, b5, b6⟩ := hbm
        refine ⟨bm, ob, b1, b2, fun z => ?_, fun z => ?_, see bm ob b3 (fun z => by rw [z] at b6; cases b6) (fun z => by rw [z] at b6; cases b6), b4, b5, b6⟩
        · obtain ⟨x, es, ep, e, d, _⟩ := hns
          rw [z, e] at b3
          cases b3
          rw [d] at b6
          cases b6
        · rw [z, hT] at b3
          cases b3
          cases b6
      · obtain ⟨x, es, ep, e, d, _⟩ := hns
        rw [z, hT] at e
        cases e
        cases d
    have env : Env0 P w K mg (hidT s₁.heap (trk0 T a o)) callerA [] s₁ (trk0 T a o) := ⟨rfl, hm, fun b x e => of_hidT e, Nat.le_of_eq (hidT_size _ _), trivial, fun b z => absurd z (by simp [frs]), hok, .of_eq hg⟩
    refine codeAny_mono (run _ _ kIn TB tT hS env) fun r s' h => law_endC C hT (fun u e => ?_) hok h
    exact ⟨_, _, (ho u e).2, ha⟩
  cases q : K.lookup a with
  | none => exact main (some (.frz (lstO vs) (.lst (ns.map V.int)))) (fun u e => ⟨q, (Option.some.inj e).symm⟩) (.inl (.inr ⟨_, by unfold trk0; rw [if_neg aT, if_pos rfl]⟩))
  | some x =>
    have e := KX a x q
    rw [ha] at e
    cases e
    exact main none (fun u e => by cases e) (.inr ⟨_, vs.toArray, _, q, rfl, rfl, rfl, by simpa using hvl, by simpa using rv⟩)
/-! ### defs by facts -/
section
variable {K : W.Frag} {mg : Str → Option Value} {x m q : Str} {st : Stmt} {ps : List Str} {fd : FuncData} {f : Addr}
theorem dfn_of (F : FnQ K x x st f fd) (g : mg x = some (.ref f))
    (hb : ∀ (kV doc pm : Value) (an : Option Addr) (cdv ct : Value) (us : List Value), us.length = ps.length → bindArgs (W.fnOf x x (defArgs st) (defBody st) (defScope st) .none kV doc pm an cdv ct) ⟨us, []⟩ = pure (ps.zip us))
    (hk : ∀ p, ps = [p] → ∀ (kV doc pm : Value) (an : Option Addr) (cdv ct u : Value), bindArgs (W.fnOf x x (defArgs st) (defBody st) (defScope st) .none kV doc pm an cdv ct) ⟨[], [(p, u)]⟩ = pure [(p, u)]) : Dfn K mg x st ps := by
  refine ⟨f, fd, F, g, F.bindsN hb, fun p hp s u => ?_⟩
  obtain ⟨oc, od, dV, kV, doc, pm, an, cdv, ct, osl, rfl, lk, hcd, hD, hK⟩ := F.ex
  rcases hD with ⟨_, rfl⟩ | ⟨e, _⟩
  · exact .of_eq (hk p hp kV doc pm an cdv ct u)
  · exact absurd rfl e
end
end Ow

end
section
set_option maxHeartbeats 0
/-! K81zp: the head's facts, its run. -/
namespace K81
open PySem PySem.Spec PyProof.Rows L2 Ow
def D0 : He.DefD := ⟨("is_integer", none), "is_integer", "is_integer", defArgs s_is_integer, defBody s_is_integer, defScope s_is_integer, [], []⟩
def D1 : He.DefD := ⟨("is_within", none), "is_within", "is_within", defArgs s_is_within, defBody s_is_within, defScope s_is_within, [], []⟩
def D2 : He.DefD := ⟨("is_word", none), "is_word", "is_word", defArgs s_is_word, defBody s_is_word, defScope s_is_word, [], []⟩
def D3 : He.DefD := ⟨("is_row", none), "is_row", "is_row", defArgs s_is_row, defBody s_is_row, defScope s_is_row, [], []⟩
def D4 : He.DefD := ⟨("need_number", none), "need_number", "need_number", defArgs s_need_number, defBody s_need_number, defScope s_need_number, [], []⟩
def D5 : He.DefD := ⟨("are_words", none), "are_words", "are_words", defArgs s_are_words, defBody s_are_words, defScope s_are_words, [], []⟩
def D6 : He.DefD := ⟨("is_below", none), "is_below", "is_below", defArgs s_is_below, defBody s_is_below, defScope s_is_below, [], []⟩
def D7 : He.DefD := ⟨("are_kind_rows", none), "are_kind_rows", "are_kind_rows", defArgs s_are_kind_rows, defBody s_are_kind_rows, defScope s_are_kind_rows, [], []⟩
def D8 : He.DefD := ⟨("kind_text", none), "kind_text", "kind_text", defArgs s_kind_text, defBody s_kind_text, defScope s_kind_text, [], []⟩
def D9 : He.DefD := ⟨("Kind", some "__init__"), "__init__", "Kind.__init__", defArgs s_Kind_init, defBody s_Kind_init, defScope s_Kind_init, [], []⟩
def D10 : He.DefD := ⟨("Kind", some "__str__"), "__str__", "Kind.__str__", defArgs s_Kind_str, defBody s_Kind_str, defScope s_Kind_str, [], []⟩
def D11 : He.DefD := ⟨("fixed", none), "fixed", "fixed", defArgs s_fixed, defBody s_fixed, defScope s_fixed, [], []⟩
def D12 : He.DefD := ⟨("is_couple", none), "is_couple", "is_couple", defArgs s_is_couple, defBody s_is_couple, defScope s_is_couple, [], []⟩
def D13 : He.DefD := ⟨("is_table", none), "is_table", "is_table", defArgs s_is_table, defBody s_is_table, defScope s_is_table, [], []⟩
def D14 : He.DefD := ⟨("is_listed", none), "is_listed", "is_listed", defArgs s_is_listed, defBody s_is_listed, defScope s_is_listed, [], []⟩
def D15 : He.DefD := ⟨("is_house", none), "is_house", "is_house", defArgs s_is_house, defBody s_is_house, defScope s_is_house, [], []⟩
def D16 : He.DefD := ⟨("is_deal", none), "is_deal", "is_deal", defArgs s_is_deal, defBody s_is_deal, defScope s_is_deal, [], []⟩
def D17 : He.DefD := ⟨("are_hands", none), "are_hands", "are_hands", defArgs s_are_hands, defBody s_are_hands, defScope s_are_hands, [], []⟩
def D18 : He.DefD := ⟨("fixed_pair", none), "fixed_pair", "fixed_pair", defArgs s_fixed_pair, defBody s_fixed_pair, defScope s_fixed_pair, [], []⟩
def D19 : He.DefD := ⟨("Program", some "__init__"), "__init__", "Program.__init__", defArgs s_Program_init, defBody s_Program_init, defScope s_Program_init, [], []⟩
def D20 : He.DefD := ⟨("Program", some "__eq__"), "__eq__", "Program.__eq__", defArgs s_Program_eq, defBody s_Program_eq, defScope s_Program_eq, [], []⟩
def D21 : He.DefD := ⟨("told", none), "told", "told", defArgs s_told, defBody s_told, defScope s_told, [], []⟩
def D22 : He.DefD := ⟨("change_row", none), "change_row", "change_row", defArgs s_change_row, defBody s_change_row, defScope s_change_row, [], []⟩
def D23 : He.DefD := ⟨("lists_to", none), "lists_to", "lists_to", defArgs s_lists_to, defBody s_lists_to, defScope s_lists_to, [], []⟩
def D24 : He.DefD := ⟨("put_between", none), "put_between", "put_between", defArgs s_put_between, defBody s_put_between, defScope s_put_between, [], []⟩
def D25 : He.DefD := ⟨("any_out", none), "any_out", "any_out", defArgs s_any_out, defBody s_any_out, defScope s_any_out, [], []⟩
def D26 : He.DefD := ⟨("kind_of_lists", none), "kind_of_lists", "kind_of_lists", defArgs s_kind_of_lists, defBody s_kind_of_lists, defScope s_kind_of_lists, [], []⟩
def D27 : He.DefD := ⟨("need_room", none), "need_room", "need_room", defArgs s_need_room, defBody s_need_room, defScope s_need_room, [], []⟩
def D28 : He.DefD := ⟨("purse", none), "purse", "purse", defArgs s_purse, defBody s_purse, defScope s_purse, [], []⟩
def D29 : He.DefD := ⟨("tickets", none), "tickets", "tickets", defArgs s_tickets, defBody s_tickets, defScope s_tickets, [], []⟩
def D30 : He.DefD := ⟨("shelf", none), "shelf", "shelf", defArgs s_shelf, defBody s_shelf, defScope s_shelf, [], []⟩
def D31 : He.DefD := ⟨("bag", none), "bag", "bag", defArgs s_bag, defBody s_bag, defScope s_bag, [], []⟩
def D32 : He.DefD := ⟨("_law_saddle", none), "_law_saddle", "_law_saddle", defArgs s_law_saddle, defBody s_law_saddle, defScope s_law_saddle, [], []⟩
def D33 : He.DefD := ⟨("_law_ride", none), "_law_ride", "_law_ride", defArgs s_law_ride, defBody s_law_ride, defScope s_law_ride, [], []⟩
def D34 : He.DefD := ⟨("_law_pick", none), "_law_pick", "_law_pick", defArgs s_law_pick, defBody s_law_pick, defScope s_law_pick, [], []⟩
def D35 : He.DefD := ⟨("_law_kind", none), "_law_kind", "_law_kind", defArgs s_law_kind, defBody s_law_kind, defScope s_law_kind, [], []⟩
def D36 : He.DefD := ⟨("_law_operation", none), "_law_operation", "_law_operation", defArgs s_law_operation, defBody s_law_operation, defScope s_law_operation, [], []⟩
def D37 : He.DefD := ⟨("_law_table", none), "_law_table", "_law_table", defArgs s_law_table, defBody s_law_table, defScope s_law_table, [], []⟩
def D38 : He.DefD := ⟨("_law_houses", none), "_law_houses", "_law_houses", defArgs s_law_houses, defBody s_law_houses, defScope s_law_houses, [], []⟩
def D39 : He.DefD := ⟨("_law_deal", none), "_law_deal", "_law_deal", defArgs s_law_deal, defBody s_law_deal, defScope s_law_deal, [], []⟩
def D40 : He.DefD := ⟨("_law_hands", none), "_law_hands", "_law_hands", defArgs s_law_hands, defBody s_law_hands, defScope s_law_hands, [], []⟩
def D41 : He.DefD := ⟨("_law_is_number", none), "_law_is_number", "_law_is_number", defArgs s_law_is_number, defBody s_law_is_number, defScope s_law_is_number, [], []⟩
def D42 : He.DefD := ⟨("_law_is_list", none), "_law_is_list", "_law_is_list", defArgs s_law_is_list, defBody s_law_is_list, defScope s_law_is_list, [], []⟩
def D43 : He.DefD := ⟨("_law_is_operation", none), "_law_is_operation", "_law_is_operation", defArgs s_law_is_operation, defBody s_law_is_operation, defScope s_law_is_operation, [], []⟩
def D44 : He.DefD := ⟨("_law_is_house", none), "_law_is_house", "_law_is_house", defArgs s_law_is_house, defBody s_law_is_house, defScope s_law_is_house, [], []⟩
def D45 : He.DefD := ⟨("_law_due", none), "_law_due", "_law_due", defArgs s_law_due, defBody s_law_due, defScope s_law_due, [], []⟩
def D46 : He.DefD := ⟨("_law_bent_houses", none), "_law_bent_houses", "_law_bent_houses", defArgs s_law_bent_houses, defBody s_law_bent_houses, defScope s_law_bent_houses, [], []⟩
def D47 : He.DefD := ⟨("_law_bent_hands", none), "_law_bent_hands", "_law_bent_hands", defArgs s_law_bent_hands, defBody s_law_bent_hands, defScope s_law_bent_hands, [], []⟩
def D48 : He.DefD := ⟨("_law_heard", none), "_law_heard", "_law_heard", defArgs s_law_heard, defBody s_law_heard, defScope s_law_heard, [], []⟩
def D49 : He.DefD := ⟨("_law_made_right", none), "_law_made_right", "_law_made_right", defArgs s_law_made_right, defBody s_law_made_right, defScope s_law_made_right, [], []⟩
def D50 : He.DefD := ⟨("law", none), "law", "law", defArgs s_law, defBody s_law, defScope s_law, [], []⟩
def fn : List He.DefD := [D0, D1, D2, D3, D4, D5, D6, D7, D8, D9, D10, D11, D12, D13, D14, D15, D16, D17, D18, D19, D20, D21, D22, D23, D24, D25, D26, D27, D28, D29, D30, D31, D32, D33, D34, D35, D36, D37, D38, D39, D40, D41, D42, D43, D44, D45, D46, D47, D48, D49, D50]
def fa0 : List He.Fa := [.free "int", .free "bool", .free "str", .free "list", .free "tuple", .free "len", .free "isinstance", .free "abs", .free "all", .free "repr", .free "range", .free "zip", .free "sum", .free "set", .free "dict", .free "sorted", .free "enumerate", .free "min", .str "SIGNS" "abcdefghijklmnopqrstuvwxyz0123456789", .int "MOST_SIGNS" 12, .str "BAR" "/", .int "MOST_ASKS" 8, .int "MOST_ANSWERS" 12, .int "MOST_STATES" 60, .int "MOST_ROWS" 600, .int "MOST_HOUSES" 4, .int "MOST_HANDS" 4, .int "MOST_DEALS" 8, .int "MOST_STEPS" 6, .str "WATCHED" "watched"]
def fa1 : List He.Fa := [.int "MOST_SUM" 8, .int "MOST_TICKETS" 11, .int "MOST_WORTHS" 7, .int "MOST_ROOM" 8, .int "MOST_ITEMS" 3, .glo "is_integer", .glo "is_within", .glo "is_word", .glo "is_row", .glo "need_number", .glo "are_words", .glo "is_below", .glo "are_kind_rows", .glo "kind_text", .mkr "Kind", .glo "Kind", .meth "Kind" "__str__", .glo "fixed", .glo "is_couple", .glo "is_table", .glo "is_listed", .glo "is_house", .glo "is_deal", .glo "are_hands", .glo "fixed_pair", .mkr "Program", .glo "Program", .meth "Program" "__eq__", .glo "told", .glo "change_row"]
def fa2 : List He.Fa := [.glo "lists_to", .glo "put_between", .glo "any_out", .glo "kind_of_lists", .glo "need_room", .glo "purse", .glo "tickets", .glo "shelf", .glo "bag", .glo "_law_saddle", .glo "_law_ride", .glo "_law_pick", .glo "_law_kind", .glo "_law_operation", .glo "_law_table", .glo "_law_houses", .glo "_law_deal", .glo "_law_hands", .glo "_law_is_number", .glo "_law_is_list", .glo "_law_is_operation", .glo "_law_is_house", .glo "_law_due", .glo "_law_bent_houses", .glo "_law_bent_hands", .glo "_law_heard", .glo "_law_made_right", .glo "law", .cls "Kind", .noat "Kind" "asks"]
def fa3 : List He.Fa := [.noat "Kind" "answers", .noat "Kind" "states", .noat "Kind" "first", .noat "Kind" "rows", .noat "Kind" "led", .noat "Kind" "moves", .cls "Program", .noat "Program" "houses", .noat "Program" "hands", .noat "Program" "deals", .noat "Program" "owners", .glo "CHANGES", .glo "WAYS", .glo "SeenError", .exm "BadProgram" "SeenError" true]
def fa : List He.Fa := fa0 ++ fa1 ++ fa2 ++ fa3
def xBadProgram : ExD := ⟨"BadProgram", "BadProgram.__init__", s_BadProgram_init, "part"⟩
def xs : List ExD := [xBadProgram]
/-- more that the head tells -/
def exB (K : W.Frag) : Bool := errB prg.main.file K xBadProgram && (heldB K (He.ga K "BadProgram") && (decide (W.kitOne K (.ref (He.ga K "BadProgram")) (.ref (He.ga K "BadProgram")) = some true) && (datB K changesD (.ref (He.ga K "CHANGES")) && (datB K waysD (.ref (He.ga K "WAYS")) && ((decV (W.findIn K (.ref (He.ga K "Kind")) "__class__") (some (some (.builtin "object.__class__"))) && (decV (W.specialIn K (.builtin "object.__class__") "__get__") (some (some (.builtin "getset_descriptor.__get__"))) && (decide (W.takesIn K (.builtin "object.__class__") = some true) && decide (W.mroIn K (He.ga K "Kind") (.type "object") = some true)))) && ((decV (W.findIn K (.ref (He.ga K "Program")) "__class__") (some (some (.builtin "object.__class__"))) && (decV (W.specialIn K (.builtin "object.__class__") "__get__") (some (some (.builtin "getset_descriptor.__get__"))) && (decide (W.takesIn K (.builtin "object.__class__") = some true) && decide (W.mroIn K (He.ga K "Program") (.type "object") = some true)))) && ((tyNames.all fun n => decide (W.kitOne K (.type n) (.ref (CK K)) = some false)) && (decide (W.kitOne K (.ref (CK K)) (.ref (CK K)) = some true) && ((tyNames.all fun n => decide (W.kitOne K (.ref (CK K)) (.type n) = some false)) && (decide (W.kitOne K (.ref (CP K)) (.ref (CP K)) = some true) && ((tyNames.all fun n => decide (W.kitOne K (.type n) (.ref (CP K)) = some false)))))))))))))
abbrev R : W.OpenRow := W.OpenLaw.row PySem.Challenge.rw_ownseen_k81_programs_made_and_refused
abbrev hkY : W.Hook := hookY 5 fa fn xs ("law", none) exB
def obY (s : W.SharedT) : AlY := obsY 5 fa fn xs ("law", none) exB (HandSHeadRun.getT s)
theorem obY_eq (s : W.SharedT) : obY s = hkY.obs s.abs := obsY_eq (HandSHeadRun.getT_eq s)
def names : List Str := (prg.main.scope.names.map (·.1)).filter fun x => x != "__name__" && x != "law"
theorem run (w : World) : HandSHeadRun.RunEq R (W.view R.prog [87]) hkY obY 16000 names w := by
  intro os
  kernel_rfl
end K81

end
section
/-! K81b: words, rows, bounds. -/
namespace K81
open PySem L2 Ow
open PySem.Spec PyProof.Rows
theorem signs_at : (Str.ofString "abcdefghijklmnopqrstuvwxyz0123456789").cps.toList = (List.range 26).map (· + 97) ++ (List.range 10).map (· + 48) := by decide +kernel
theorem in_signs {c : Nat} : decide (c ∈ (Str.ofString "abcdefghijklmnopqrstuvwxyz0123456789").cps.toList) = isSign c := by
  rw [signs_at, Bool.eq_iff_iff, decide_eq_true_eq, List.mem_append, List.mem_map, List.mem_map]
  simp only [isSign, isDig, Bool.or_eq_true, Bool.and_eq_true, decide_eq_true_eq, List.mem_range]
  constructor
  · rintro (⟨a, h, rfl⟩ | ⟨a, h, rfl⟩) <;> omega
  · rintro (h | h)
    · exact .inr ⟨c - 48, by omega, by omega⟩
    · exact .inl ⟨c - 97, by omega, by omega⟩
theorem small_of {n m : Nat} (h : n ≤ m) (hm : m < 1000 := by decide) : n < sizeLine := small1000 (by omega)
section
variable {w : World} {K : W.Frag} {mg : Str → Option Value} {base : Heap}
def sp_is_word : Sp := fun vs H Q _ => ∃ x, vs = [.str x] ∧ okWord x = true ∧ ∀ H', Ext H H' → Q (.bl true) H'
theorem c_is_word (T : Txt K mg) : Cal prg w K mg base CX0 1 "is_word" ["value"] (sp_is_word) := by
  refine T.d_is_word.cal sc_is_word (fun vs H Q E ⟨x, e, _⟩ => by rw [e]; rfl) fun f cdv A outer s H vs Q E hr h => ?_
  have nd := sc_is_word.nd
  obtain ⟨x, rfl, hx, q⟩ := h
  simp only [okWord, Bool.and_eq_true, decide_eq_true_eq] at hx
  obtain ⟨h1, h2, h3⟩ := hx
  refine ⟨_, PSs.nox (pss_one (ps_ret (pe_and (pe_callB call_isi (by rfl) T.f_isinstance (by decide +kernel) (pa_cons (pv 0) (pa_cons (pe_bltn (v := .ty "str") (by rfl) T.f_str (by decide +kernel) rfl) pa_nil))) (pe_and (pe_chain op_le op_le pe_int (pe_callB call_len_str (by rfl) T.f_len (by decide +kernel) (pa_cons (pv 0) pa_nil)) (pe_glob (v := .int 12) rfl T.g_MOST_SIGNS.choose_spec ⟨_, rfl⟩)) (pe_one (pe_callB (cr_all rfl) (by rfl) T.f_all (by decide +kernel) (pa_cons (pe_lc (own := [("sign", 1)]) (tt := tYes) (g := gName 1) rfl nd (pi_str (pv 0)) (blkOk_by (own := [("sign", 1)]) (N := ["value", "sign"]) (sc := defScope s_is_word) (by decide +kernel)) (fun _ _ _ _ _ => (pg_name (i := 1) nd rfl (Or.inl rfl))) (fun _ _ _ _ _ => pts_nil) (fun _ _ _ _ _ => (pe_cmpR op_in_sign (pv 1) (pe_glob (v := .str "abcdefghijklmnopqrstuvwxyz0123456789") rfl T.g_SIGNS.choose_spec ⟨_, rfl⟩) rfl))) pa_nil))))))), ?_⟩
  dsimp only [tRet, tRetN, tSeq, tAsg, tOp, tVar, tC, tCB, tCons, tNil, tAndV, tOrV, tNotV, tAnd, tOr, tNot, tTest, tIf, tIfS, tB, tChain, tSl, tPart, tNoPart, tLst, tTup, tFld, tCl, tMt, tMk, gName, tNext, tBM, tBM0, tUn, tSub, tPar, tPar3, gTup, gCons, gNil, tDrop, tMkS, tM1, sFld, StX.tStar, tYes, gSub, cxOf, Cx.wish, Cx.nox, Cx.blk]
  have hl : x.length ≤ sizeLine := Nat.le_of_lt (small_of h2)
  have hsz : x.cps.size = x.length := rfl
  refine ⟨_, rfl, isi_rd (d := .str x) (.of (.str x)) (kit_str _) ⟨_, rfl, if_t rfl ?_⟩⟩
  refine ⟨_, rfl, x, rfl, hl, _, _, rfl, rfl, _, rfl, if_t (decide_eq_true (by omega)) ⟨_, _, rfl, rfl, _, rfl, if_t (decide_eq_true (by omega)) ⟨_, rfl, _, rfl, fun D hD => ?_⟩⟩⟩
  refine lc_scal walk_str (R := fun i y => y = .bl true) hD (by rw [hsz]; exact small_of h2) (fun _ _ => trivial) (fun i H x H' y => by rw [y.1]; exact Ext.rfl') ?_ ?_
  · rintro i u G G' hi e ⟨rfl, c, hc, rfl⟩ Q2 k2
    refine ⟨rfl, ?_⟩
    dsimp only [tRet, tRetN, tSeq, tAsg, tOp, tVar, tC, tCB, tCons, tNil, tAndV, tOrV, tNotV, tAnd, tOr, tNot, tTest, tIf, tIfS, tB, tChain, tSl, tPart, tNoPart, tLst, tTup, tFld, tCl, tMt, tMk, gName, tNext, tBM, tBM0, tUn, tSub, tPar, tPar3, gTup, gCons, gNil, tDrop, tMkS, tM1, sFld, StX.tStar, tYes, gSub, cxOf, Cx.wish, Cx.nox, Cx.blk]
    refine ⟨_, rfl, c, _, rfl, rfl, ?_⟩
    have hm : isSign c = true := List.all_eq_true.mp h3 c (by
      rw [← Array.getElem?_toList] at hc
      exact List.mem_of_getElem? hc)
    have z := k2 (.bl true) _ Ext.rfl' rfl
    rw [show decide (c ∈ (Str.ofString "abcdefghijklmnopqrstuvwxyz0123456789").cps.toList) = true by rw [in_signs, hm]]
    exact z
  · intro zs G hz1 hz2 e hDz
    have ez : zs = (List.replicate zs.length true).map V.bl := by
      refine List.ext_getElem? fun i => ?_
      cases ei : zs[i]? with
      | none =>
        have := List.getElem?_eq_none_iff.mp ei
        rw [List.getElem?_eq_none (by simp; omega)]
      | some y =>
        obtain ⟨hi, _⟩ := List.getElem?_eq_some_iff.mp ei
        rw [hz2 i y ei, List.getElem?_map, List.getElem?_replicate, if_pos hi]
        rfl
    rw [ez] at hDz
    refine all_rd hDz ?_
    rw [show (List.replicate zs.length true).all id = true by simp]
    exact q _ e
/-! ### rows -/
def isRow (d : PyData) (n : Int) : Bool := dSeq d && (decide (((dItems d).length : Int) = n) && (dItems d).all dInt)
def sp_is_row (K : W.Frag) : Sp := fun vs H Q _ => ∃ v d n, vs = [v, .int n] ∧ n ≤ 600 ∧ Vd K H v d ∧ ∀ H', Ext H H' → Q (.bl (isRow d n)) H'
theorem c_is_row (T : Txt K mg) : Cal prg w K mg base CX0 2 "is_row" ["value", "many"] (sp_is_row K) := by
  refine T.d_is_row.cal sc_is_row (fun vs H Q E ⟨v, d, n, e, _⟩ => by rw [e]; rfl) fun f cdv A outer s H vs Q E hr h => ?_
  have nd := sc_is_row.nd
  obtain ⟨v, d, n, rfl, hn, hv, q⟩ := h
  refine ⟨_, PSs.nox (pss_one (ps_ret (pe_and (pe_callB call_isiT (by rfl) T.f_isinstance (by decide +kernel) (pa_cons (pv 0) (pa_cons (pe_tup (pa_cons (pe_bltn (v := .ty "list") (by rfl) T.f_list (by decide +kernel) rfl) (pa_cons (pe_bltn (v := .ty "tuple") (by rfl) T.f_tuple (by decide +kernel) rfl) pa_nil))) pa_nil))) (pe_and (pe_cmpR op_eq (pe_callB call_len_seq (by rfl) T.f_len (by decide +kernel) (pa_cons (pv 0) pa_nil)) (pv 1) (nomark _)) (pe_one (pe_callB (cr_all rfl) (by rfl) T.f_all (by decide +kernel) (pa_cons (pe_lc (own := [("each", 2)]) (tt := tYes) (g := gName 2) rfl nd (pi_seqF (pv 0)) (blkOk_by (own := [("each", 2)]) (N := ["value", "many", "each"]) (sc := defScope s_is_row) (by decide +kernel)) (fun _ _ _ _ _ => (pg_name (i := 2) nd rfl (Or.inl rfl))) (fun _ _ _ _ _ => pts_nil) (fun _ _ _ _ _ => (pe_cl (c_is_integer T) (hr.mono (by decide)) pass0 (pa_cons (pv 2) pa_nil)))) pa_nil))))))), ?_⟩
  dsimp only [tRet, tRetN, tSeq, tAsg, tOp, tVar, tC, tCB, tCons, tNil, tAndV, tOrV, tNotV, tAnd, tOr, tNot, tTest, tIf, tIfS, tB, tChain, tSl, tPart, tNoPart, tLst, tTup, tFld, tCl, tMt, tMk, gName, tNext, tBM, tBM0, tUn, tSub, tPar, tPar3, gTup, gCons, gNil, tDrop, tMkS, tM1, sFld, StX.tStar, tYes, gSub, cxOf, Cx.wish, Cx.nox, Cx.blk]
  refine ⟨_, rfl, (by show 2 ≤ sizeLine; decide), fun tp htp => isi2_rd (Vd.ext (Ext.upd htp) hv) upd_same ⟨_, rfl, ?_⟩⟩
  have e1 : Ext H (upd H tp (.tup [.ty "list", .ty "tuple"])) := Ext.upd htp
  cases hs : dSeq d with
  | false =>
    have z := q _ e1
    rw [show isRow d n = false by rw [isRow, hs]; rfl] at z
    exact if_f rfl z
  | true =>
    refine if_t rfl ?_
    obtain ⟨fl, a, xs, rfl, hx, hA⟩ := seq_of (Vd.ext e1 hv) hs
    have hlen : xs.length = (dItems d).length := DpAll.length hA
    have hz : isRow d n = (decide (((dItems d).length : Int) = n) && (dItems d).all dInt) := by rw [isRow, hs]; rfl
    refine ⟨_, rfl, a, xs, rfl, hx.or, _, rfl, rfl, _, rfl, ?_⟩
    rw [dec_int, hlen]
    refine ite2 (fun c => ?_) fun c => ?_
    · have c := of_decide_eq_true c
      refine ⟨_, rfl, fl, a, xs, rfl, hx, fun D hD => ?_⟩
      refine lc_scal walk_seqF (R := fun i y => ∃ c, (dItems d)[i]? = some c ∧ y = .bl (dInt c)) hD (small_of (m := 600) (by omega)) (fun H e => hx.ext e) (fun i H x H' y => by rw [y.1]; exact Ext.rfl') ?_ ?_
      · rintro i x G G' hi e ⟨rfl, hx1⟩ Q2 k2
        obtain ⟨d1, hd1, hp1⟩ := DpAll.getV hA hx1
        dsimp only [tRet, tRetN, tSeq, tAsg, tOp, tVar, tC, tCB, tCons, tNil, tAndV, tOrV, tNotV, tAnd, tOr, tNot, tTest, tIf, tIfS, tB, tChain, tSl, tPart, tNoPart, tLst, tTup, tFld, tCl, tMt, tMk, gName, tNext, tBM, tBM0, tUn, tSub, tPar, tPar3, gTup, gCons, gNil, tDrop, tMkS, tM1, sFld, StX.tStar, tYes, gSub, cxOf, Cx.wish, Cx.nox, Cx.blk]
        exact ⟨rfl, _, rfl, _, d1, rfl, Vd.of (Dp.ext e hp1), k2 _ _ Ext.rfl' ⟨d1, hd1, rfl⟩⟩
      · intro zs G hz1 hz2 e hDz
        have ez : zs = ((dItems d).map dInt).map V.bl := by
          rw [List.map_map]
          exact map_of (by rw [hz1, hlen]) hz2
        subst ez
        refine all_rd hDz ?_
        have z := q G (e1.trans e)
        rw [hz, decide_eq_true c, Bool.true_and] at z
        rw [List.all_map]
        exact z
    · have c : ¬ ((dItems d).length : Int) = n := fun z => c (decide_eq_true z)
      have z := q _ e1
      rw [hz, decide_eq_false c] at z
      exact z
def sp_need_number : Sp := fun vs H Q _ => ∃ i l m p, vs = [.int i, p, .int l, .int m] ∧ l ≤ i ∧ i ≤ m ∧ Q .non H
theorem c_need_number (T : Txt K mg) : Cal prg w K mg base CX0 3 "need_number" ["value", "part", "least", "most"] (sp_need_number) := by
  refine T.d_need_number.cal sc_need_number (fun vs H Q E ⟨v, l, m, p, e, _⟩ => by rw [e]; rfl) fun f cdv A outer s H vs Q E hr h => ?_
  have nd := sc_need_number.nd
  obtain ⟨i, l, m, p, rfl, h1, h2, q⟩ := h
  refine ⟨_, PSs.nox (pss_one (ps_if (pt_not (pt_val (pe_cl (c_is_within T) (hr.mono (by decide)) pass0 (pa_cons (pv 0) (pa_cons (pv 2) (pa_cons (pv 3) pa_nil)))))) (pss_one ps_dead) pss_nil)), ?_⟩
  dsimp only [tRet, tRetN, tSeq, tAsg, tOp, tVar, tC, tCB, tCons, tNil, tAndV, tOrV, tNotV, tAnd, tOr, tNot, tTest, tIf, tIfS, tB, tChain, tSl, tPart, tNoPart, tLst, tTup, tFld, tCl, tMt, tMk, gName, tNext, tBM, tBM0, tUn, tSub, tPar, tPar3, gTup, gCons, gNil, tDrop, tMkS, tM1, sFld, StX.tStar, tYes, gSub, cxOf, Cx.wish, Cx.nox, Cx.blk]
  refine ⟨_, rfl, _, rfl, _, rfl, _, .int i, l, some m, rfl, .of (.int i), _, rfl, if_f ?_ q⟩
  simp [within, h1, h2]
/-! ### words -/
def sp_are_words (K : W.Frag) : Sp := fun vs H Q _ => ∃ D xs, ∃ n : Nat, vs = [.ref D, .int (n : Nat)] ∧ n ≤ 600 ∧ SqL K H D (xs.map V.str) ∧ okWords xs n = true ∧ ∀ H', Ext H H' → Q (.bl true) H'
theorem c_are_words (T : Txt K mg) : Cal prg w K mg base CX0 2 "are_words" ["value", "most"] (sp_are_words K) := by
  refine T.d_are_words.cal sc_are_words (fun vs H Q E ⟨D, xs, n, e, _⟩ => by rw [e]; rfl) fun f cdv A outer s H vs Q E hr h => ?_
  have nd := sc_are_words.nd
  obtain ⟨a, xs, n, rfl, hn, hs, ho, q⟩ := h
  simp only [okWords, Bool.and_eq_true, decide_eq_true_eq] at ho
  obtain ⟨h1, h2, h3, h4⟩ := ho
  refine ⟨_, PSs.nox (pss_cons (ps_if (PW.pt (pw_or (pt_not (pt_val (pe_callB call_isiT (by rfl) T.f_isinstance (by decide +kernel) (pa_cons (pv 0) (pa_cons (pe_tup (pa_cons (pe_bltn (v := .ty "list") (by rfl) T.f_list (by decide +kernel) rfl) (pa_cons (pe_bltn (v := .ty "tuple") (by rfl) T.f_tuple (by decide +kernel) rfl) pa_nil))) pa_nil))))) (pw_or1 (pt_not (pt_chain op_le op_le pe_int (pe_callB call_len_seq (by rfl) T.f_len (by decide +kernel) (pa_cons (pv 0) pa_nil)) (pv 1)))))) (pss_one (ps_ret pe_bl)) pss_nil)
      (pss_one (ps_ret (pe_and (pe_callB (cr_all rfl) (by rfl) T.f_all (by decide +kernel) (pa_cons (pe_lc (own := [("word", 2)]) (tt := tYes) (g := gName 2) rfl nd (pi_seqF (pv 0)) (blkOk_by (own := [("word", 2)]) (N := ["value", "most", "word"]) (sc := defScope s_are_words) (by decide +kernel)) (fun _ _ _ _ _ => (pg_name (i := 2) nd rfl (Or.inl rfl))) (fun _ _ _ _ _ => pts_nil) (fun _ _ _ _ _ => (pe_cl (c_is_word T) (hr.mono (by decide)) pass0 (pa_cons (pv 2) pa_nil)))) pa_nil)) (pe_one (pe_cmpR op_eq (pe_lenTx rfl (by rfl) T.f_len (by rfl) T.f_set (pv 0)) (pe_callB call_len_seq (by rfl) T.f_len (by decide +kernel) (pa_cons (pv 0) pa_nil)) (nomark _))))))), ?_⟩
  have hv : Vd K H (.ref a) (.list (xs.map PyData.str)) := .of (.lst hs (DpAll.strs xs))
  have hlen : (xs.map V.str).length = xs.length := List.length_map ..
  refine cut_ifn (fun c H' => c = false ∧ Ext H H') (fun Q1 k1 => ?_) fun c H1 ⟨ec, e1⟩ => ?_
  · dsimp only [tRet, tRetN, tSeq, tAsg, tOp, tVar, tC, tCB, tCons, tNil, tAndV, tOrV, tNotV, tAnd, tOr, tNot, tTest, tIf, tIfS, tB, tChain, tSl, tPart, tNoPart, tLst, tTup, tFld, tCl, tMt, tMk, gName, tNext, tBM, tBM0, tUn, tSub, tPar, tPar3, gTup, gCons, gNil, tDrop, tMkS, tM1, sFld, StX.tStar, tYes, gSub, cxOf, Cx.wish, Cx.nox, Cx.blk]
    refine ⟨_, rfl, (by show 2 ≤ sizeLine; decide), fun tp htp => isi2_rd (Vd.ext (Ext.upd htp) hv) upd_same ⟨_, rfl, if_f rfl ?_⟩⟩
    have e1 : Ext H (upd H tp (.tup [.ty "list", .ty "tuple"])) := Ext.upd htp
    refine ⟨_, rfl, a, _, rfl, .inl (hs.ext e1), _, _, rfl, rfl, _, rfl, if_t (decide_eq_true (by omega)) ⟨_, rfl, _, _, rfl, rfl, _, rfl, k1 _ _ ⟨?_, e1⟩⟩⟩
    rw [decide_eq_true (by omega)]
    rfl
  subst ec
  refine if_f rfl ?_
  have hs1 := hs.ext e1
  dsimp only [tRet, tRetN, tSeq, tAsg, tOp, tVar, tC, tCB, tCons, tNil, tAndV, tOrV, tNotV, tAnd, tOr, tNot, tTest, tIf, tIfS, tB, tChain, tSl, tPart, tNoPart, tLst, tTup, tFld, tCl, tMt, tMk, gName, tNext, tBM, tBM0, tUn, tSub, tPar, tPar3, gTup, gCons, gNil, tDrop, tMkS, tM1, sFld, StX.tStar, tYes, gSub, cxOf, Cx.wish, Cx.nox, Cx.blk]
  refine ⟨_, rfl, true, a, _, rfl, hs1, fun D hD => ?_⟩
  refine lc_scal walk_seqF (R := fun i y => y = .bl true) hD (by rw [hlen]; exact small_of (m := 600) (by omega)) (fun H e => hs1.ext e) (fun i H x H' y => by rw [y.1]; exact Ext.rfl') ?_ ?_
  · rintro i x G G' hi e ⟨rfl, hx1⟩ Q2 k2
    rw [List.getElem?_map] at hx1
    obtain ⟨x, hx2, rfl⟩ := Option.map_eq_some_iff.mp hx1
    dsimp only [tRet, tRetN, tSeq, tAsg, tOp, tVar, tC, tCB, tCons, tNil, tAndV, tOrV, tNotV, tAnd, tOr, tNot, tTest, tIf, tIfS, tB, tChain, tSl, tPart, tNoPart, tLst, tTup, tFld, tCl, tMt, tMk, gName, tNext, tBM, tBM0, tUn, tSub, tPar, tPar3, gTup, gCons, gNil, tDrop, tMkS, tM1, sFld, StX.tStar, tYes, gSub, cxOf, Cx.wish, Cx.nox, Cx.blk]
    exact ⟨rfl, _, rfl, x, rfl, List.all_eq_true.mp h3 x (List.mem_of_getElem? hx2), fun G2 e2 => k2 _ _ e2 rfl⟩
  · intro zs G hz1 hz2 e hDz
    have ez : zs = (List.replicate zs.length true).map V.bl := by
      refine List.ext_getElem? fun i => ?_
      cases ei : zs[i]? with
      | none =>
        have := List.getElem?_eq_none_iff.mp ei
        rw [List.getElem?_eq_none (by simp; omega)]
      | some y =>
        obtain ⟨hi, _⟩ := List.getElem?_eq_some_iff.mp ei
        rw [hz2 i y ei, List.getElem?_map, List.getElem?_replicate, if_pos hi]
        rfl
    rw [ez] at hDz
    refine all_rd hDz ?_
    rw [show (List.replicate zs.length true).all id = true by simp]
    refine ⟨_, rfl, if_t rfl ⟨_, rfl, a, xs, rfl, hs1.ext e, h4, by omega, _, rfl, a, _, rfl, .inl (hs1.ext e), rfl, ?_⟩⟩
    rw [hlen]
    have z := q G (e1.trans e)
    simpa using z
/-! ### below bounds -/
def isBelow (d : PyData) (bs : List Int) : Bool := dSeq d && (decide ((dItems d).length = bs.length) && ((dItems d).zip bs).all fun p => within p.1 0 (some (p.2 - 1)))
def sp_is_below (K : W.Frag) : Sp := fun vs H Q _ => ∃ v d b bs, vs = [v, .ref b] ∧ Vd K H v d ∧ SqT K H b (bs.map V.int) ∧ bs.length ≤ 600 ∧ ∀ H', Ext H H' → Q (.bl (isBelow d bs)) H'
theorem c_is_below (T : Txt K mg) : Cal prg w K mg base CX0 3 "is_below" ["value", "bounds"] (sp_is_below K) := by
  refine T.d_is_below.cal sc_is_below (fun vs H Q E ⟨v, d, b, bs, e, _⟩ => by rw [e]; rfl) fun f cdv A outer s H vs Q E hr h => ?_
  have nd := sc_is_below.nd
  obtain ⟨v, d, b, bs, rfl, hv, hT, hb, q⟩ := h
  refine ⟨_, PSs.nox (pss_cons (ps_if (PW.pt (pw_or (pt_not (pt_val (pe_callB call_isiT (by rfl) T.f_isinstance (by decide +kernel) (pa_cons (pv 0) (pa_cons (pe_tup (pa_cons (pe_bltn (v := .ty "list") (by rfl) T.f_list (by decide +kernel) rfl) (pa_cons (pe_bltn (v := .ty "tuple") (by rfl) T.f_tuple (by decide +kernel) rfl) pa_nil))) pa_nil))))) (pw_or1 (pt_cmpR op_ne (pe_callB call_len_seq (by rfl) T.f_len (by decide +kernel) (pa_cons (pv 0) pa_nil)) (pe_callB call_len_seq (by rfl) T.f_len (by decide +kernel) (pa_cons (pv 1) pa_nil)) (nomark _))))) (pss_one (ps_ret pe_bl)) pss_nil)
      (pss_one (ps_ret (pe_callB (cr_all rfl) (by rfl) T.f_all (by decide +kernel) (pa_cons (pe_lc (own := [("number", 2), ("bound", 3)]) (tt := tYes) (g := gTup K 2 (gCons (gName 2) (gCons (gName 3) gNil))) rfl nd (pi_zipF (by rfl) T.f_zip (pa_cons (pv 0) (pa_cons (pv 1) pa_nil))) (blkOk_by (own := [("number", 2), ("bound", 3)]) (N := ["value", "bounds", "number", "bound"]) (sc := defScope s_is_below) (by decide +kernel)) (fun _ _ _ _ _ => (pg_tup (by rfl) (pgs_cons (pg_name (i := 2) nd rfl (Or.inl rfl)) (pgs_cons (pg_name (i := 3) nd rfl (Or.inl rfl)) pgs_nil)))) (fun _ _ _ _ _ => pts_nil) (fun _ _ _ _ _ => (pe_cl (c_is_within T) (hr.mono (by decide)) pass0 (pa_cons (pv 2) (pa_cons pe_int (pa_cons (pe_op op_sub (pv 3) pe_int) pa_nil)))))) pa_nil))))), ?_⟩
  have l2 : (bs.map V.int).length = bs.length := List.length_map ..
  refine cut_ifn (fun c H' => c = !(dSeq d && decide ((dItems d).length = bs.length)) ∧ Ext H H') (fun Q1 k1 => ?_) fun c H1 ⟨ec, e1⟩ => ?_
  · dsimp only [tRet, tRetN, tSeq, tAsg, tOp, tVar, tC, tCB, tCons, tNil, tAndV, tOrV, tNotV, tAnd, tOr, tNot, tTest, tIf, tIfS, tB, tChain, tSl, tPart, tNoPart, tLst, tTup, tFld, tCl, tMt, tMk, gName, tNext, tBM, tBM0, tUn, tSub, tPar, tPar3, gTup, gCons, gNil, tDrop, tMkS, tM1, sFld, StX.tStar, tYes, gSub, cxOf, Cx.wish, Cx.nox, Cx.blk]
    refine ⟨_, rfl, (by show 2 ≤ sizeLine; decide), fun tp htp => isi2_rd (Vd.ext (Ext.upd htp) hv) upd_same ⟨_, rfl, ?_⟩⟩
    have e1 : Ext H (upd H tp (.tup [.ty "list", .ty "tuple"])) := Ext.upd htp
    cases hs : dSeq d with
    | false => exact if_t rfl (k1 _ _ ⟨by rw [hs]; rfl, e1⟩)
    | true =>
      refine if_f rfl ?_
      obtain ⟨fl, a, xs, rfl, hx, hA⟩ := seq_of (Vd.ext e1 hv) hs
      have hlen : xs.length = (dItems d).length := DpAll.length hA
      refine ⟨_, rfl, a, xs, rfl, hx.or, _, rfl, b, _, rfl, .inr (hT.ext e1), rfl, _, rfl, k1 _ _ ⟨?_, e1⟩⟩
      rw [dec_int, hs, Bool.true_and, hlen, l2, Bool.eq_iff_iff]
      simp
      omega
  subst ec
  cases hg : dSeq d && decide ((dItems d).length = bs.length) with
  | false =>
    refine if_t rfl ?_
    have z := q H1 e1
    rw [show isBelow d bs = false by rw [isBelow, ← Bool.and_assoc, hg]; rfl] at z
    exact z
  | true =>
    refine if_f rfl ?_
    obtain ⟨hs, hl⟩ := Bool.and_eq_true_iff.mp hg
    have hl := of_decide_eq_true hl
    obtain ⟨fl, a, xs, rfl, hx, hA⟩ := seq_of (Vd.ext e1 hv) hs
    have hlen : xs.length = (dItems d).length := DpAll.length hA
    have hz : isBelow d bs = ((dItems d).zip bs).all fun p => within p.1 0 (some (p.2 - 1)) := by rw [isBelow, ← Bool.and_assoc, hg]; rfl
    rw [hz] at q
    have hT1 := hT.ext e1
    dsimp only [tRet, tRetN, tSeq, tAsg, tOp, tVar, tC, tCB, tCons, tNil, tAndV, tOrV, tNotV, tAnd, tOr, tNot, tTest, tIf, tIfS, tB, tChain, tSl, tPart, tNoPart, tLst, tTup, tFld, tCl, tMt, tMk, gName, tNext, tBM, tBM0, tUn, tSub, tPar, tPar3, gTup, gCons, gNil, tDrop, tMkS, tM1, sFld, StX.tStar, tYes, gSub, cxOf, Cx.wish, Cx.nox, Cx.blk]
    refine ⟨_, rfl, _, rfl, a, b, xs, _, fl, false, rfl, hx, hT1, fun D hD => ?_⟩
    have hn : min xs.length (bs.map V.int).length = bs.length := by omega
    refine lc_scal (walk_zipF (xs := xs) (ys := bs.map V.int) rfl) (R := fun i y => ∃ c, ((dItems d).zip bs)[i]? = some c ∧ y = .bl (within c.1 0 (some (c.2 - 1)))) hD ?_ (fun H e => ⟨hx.ext e, SqT.ext hT1 e⟩) ?_ ?_ ?_
    · rw [hn]
      exact small_of (m := 600) hb
    · rintro i H x H' ⟨T', x1, y1, rfl, hT', rfl, _⟩
      exact Ext.upd hT'
    · rintro i x H H' hi e ⟨T', x1, y1, rfl, hT', rfl, hx1, hy1⟩ Q2 k2
      obtain ⟨d1, hd1, hp1⟩ := DpAll.getV hA hx1
      have hy1 : (bs.map V.int)[i]? = some y1 := hy1
      rw [List.getElem?_map] at hy1
      obtain ⟨m, hm, rfl⟩ := Option.map_eq_some_iff.mp hy1
      dsimp only [tRet, tRetN, tSeq, tAsg, tOp, tVar, tC, tCB, tCons, tNil, tAndV, tOrV, tNotV, tAnd, tOr, tNot, tTest, tIf, tIfS, tB, tChain, tSl, tPart, tNoPart, tLst, tTup, tFld, tCl, tMt, tMk, gName, tNext, tBM, tBM0, tUn, tSub, tPar, tPar3, gTup, gCons, gNil, tDrop, tMkS, tM1, sFld, StX.tStar, tYes, gSub, cxOf, Cx.wish, Cx.nox, Cx.blk]
      refine ⟨T', _, rfl, SqT.of upd_same, rfl, _, _, rfl, _, _, rfl, rfl, rfl, _, rfl, _, rfl, _, _, rfl, rfl, _, d1, 0, some (m - 1), rfl, Vd.of (Dp.ext (e.trans (Ext.upd hT')) hp1), k2 _ _ Ext.rfl' ⟨(d1, m), ?_, rfl⟩⟩
      rw [List.getElem?_zip_eq_some]
      exact ⟨hd1, hm⟩
    · intro zs G hz1 hz2 e hDz
      have ez : zs = (((dItems d).zip bs).map fun c => within c.1 0 (some (c.2 - 1))).map V.bl := by
        rw [List.map_map]
        exact map_of (by rw [hz1, hn, List.length_zip]; omega) hz2
      subst ez
      refine all_rd hDz ?_
      rw [List.all_map]
      exact q _ (e1.trans e)
end
end K81

end
section
/-! Ow22: rules with K said, for blocks. -/
namespace Ow
open PySem L2
open PySem.Spec PyProof.Rows
section
variable {X : Cx} {K : W.Frag}
theorem opK (r : W.Frag → R2) {f : Value → Value → Sem Value} (hK : X.K = K) (h : OpR X f (r X.K)) : OpR X f (r K) := by subst hK; exact h
theorem slK (r : W.Frag → V → Option Int → Option Int → Hp → VK → Prop) (hK : X.K = K) (h : SlR X (r X.K)) : SlR X (r K) := by subst hK; exact h
theorem callK (r : W.Frag → List V → Hp → VK → Prop) {f : Value} (hK : X.K = K) (h : CallR X f (r X.K)) : CallR X f (r K) := by subst hK; exact h
theorem ixK (r : W.Frag → V → V → Hp → VK → Prop) (hK : X.K = K) (h : IxR X (r X.K)) : IxR X (r K) := by subst hK; exact h
theorem mtK (r : W.Frag → V → List V → Hp → VK → Prop) {id : String} (hK : X.K = K) (h : MtR X id (r X.K)) : MtR X id (r K) := by subst hK; exact h
theorem piK (r : W.Frag → TI) {tg l : Expr} (hK : X.K = K) (h : PI X tg l (r X.K)) : PI X tg l (r K) := by subst hK; exact h
end
end Ow

end
section
/-! K81c: a kind's rows. -/
namespace K81
open PySem L2 Ow
open PySem.Spec PyProof.Rows
theorem cut_last {xs : List V} : cutV xs none (some (-1)) = xs.take (xs.length - 1) := by
  unfold cutV
  have e : HT.sIx xs.length xs.length (some (-1)) = xs.length - 1 := by
    show (if (-1 : Int) < 0 then ((-1 : Int) + (xs.length : Int)).toNat else min (-1 : Int).toNat xs.length) = _
    rw [if_pos (by decide)]
    omega
  rw [HT.sIx_none, e, Nat.sub_zero, List.drop_zero]
theorem not_whole {xs : List V} (h : xs ≠ []) : ¬ (HT.sIx xs.length 0 none = 0 ∧ HT.sIx xs.length xs.length (some (-1)) = xs.length) := fun z => by
  have z2 := z.2
  have e : HT.sIx xs.length xs.length (some (-1)) = xs.length - 1 := by
    show (if (-1 : Int) < 0 then ((-1 : Int) + (xs.length : Int)).toNat else min (-1 : Int).toNat xs.length) = _
    rw [if_pos (by decide)]
    omega
  rw [e] at z2
  have : xs.length ≠ 0 := fun q => h (List.length_eq_zero_iff.mp q)
  omega
theorem same_length {α : Type} [DecidableEq α] {a b : List α} (ha : a.Nodup) (hb : b.Nodup) (h : ∀ x, x ∈ a ↔ x ∈ b) : a.length = b.length := ((List.perm_ext_iff_of_nodup ha hb).mpr h).length_eq
theorem dedup_ok {α : Type} [BEq α] [LawfulBEq α] : ∀ (n : Nat) (l : List α), l.length ≤ n → l.eraseDups.Nodup ∧ ∀ x, x ∈ l.eraseDups ↔ x ∈ l
  | _, [], _ => ⟨by simp, by simp⟩
  | 0, _ :: _, h => by simp at h
  | n + 1, a :: l, h => by
    have hl : (l.filter fun b => !b == a).length ≤ n := Nat.le_trans (List.length_filter_le _ _) (by simpa using h)
    obtain ⟨h1, h2⟩ := dedup_ok n (l.filter fun b => !b == a) hl
    rw [List.eraseDups_cons]
    refine ⟨List.nodup_cons.mpr ⟨fun z => ?_, h1⟩, fun x => ?_⟩
    · have := (h2 a).mp z
      simp at this
    · rw [List.mem_cons, List.mem_cons, h2 x, List.mem_filter]
      by_cases c : x = a
      · simp [c]
      · simp [c]
theorem row_items {K : W.Frag} {H : Hp} {v : V} {r : List Int} (h : Dp K H v (rowD r)) : ∃ a, v = .ref a ∧ SqT K H a (r.map V.int) := by
  obtain ⟨a, xs, rfl, h1, h2⟩ := Dp.tupV h
  refine ⟨a, rfl, ?_⟩
  have e : ∀ {xs : List V} {l : List Int}, DpAll K H xs (l.map PyData.int) → xs = l.map V.int := by
    intro xs l h
    induction l generalizing xs with
    | nil => cases h; rfl
    | cons i l ih =>
      cases h with
      | cons q1 q2 =>
        obtain rfl := Dp.intV q1
        rw [ih q2]
        rfl
  rw [← e h2]
  exact h1
theorem rows_at {K : W.Frag} {H : Hp} {rs : List V} {rows : List (List Int)} (h : DpAll K H rs (rows.map rowD)) {i : Nat} {v : V} (hv : rs[i]? = some v) : ∃ r a, rows[i]? = some r ∧ v = .ref a ∧ SqT K H a (r.map V.int) := by
  obtain ⟨d, hd, hp⟩ := DpAll.getV h hv
  rw [List.getElem?_map] at hd
  obtain ⟨r, hr, rfl⟩ := Option.map_eq_some_iff.mp hd
  obtain ⟨a, rfl, hT⟩ := row_items hp
  exact ⟨r, a, hr, rfl, hT⟩
theorem isBelow_row {r bs : List Int} (h : belowL r bs = true) : isBelow (rowD r) bs = true := by
  simp only [belowL, Bool.and_eq_true, decide_eq_true_eq, List.all_eq_true] at h
  obtain ⟨h1, h2⟩ := h
  simp only [isBelow, rowD, dSeq, dItems, Bool.true_and, Bool.and_eq_true, decide_eq_true_eq, List.length_map, List.all_eq_true]
  refine ⟨h1, fun p hp => ?_⟩
  obtain ⟨i, hi, e⟩ := List.getElem_of_mem hp
  have z : (r.zip bs)[i]'(by simpa using hi) ∈ r.zip bs := List.getElem_mem _
  have q := h2 _ z
  simp only [List.getElem_zip, List.getElem_map] at e q
  rw [← e]
  simpa [within] using q
theorem zs_true {zs : List V} (h : ∀ (i : Nat) y, zs[i]? = some y → y = V.bl true) : zs = (List.replicate zs.length true).map V.bl := by
  refine List.ext_getElem? fun i => ?_
  cases ei : zs[i]? with
  | none =>
    have := List.getElem?_eq_none_iff.mp ei
    rw [List.getElem?_eq_none (by simp; omega)]
  | some y =>
    obtain ⟨hi, _⟩ := List.getElem?_eq_some_iff.mp ei
    rw [h i y ei, List.getElem?_map, List.getElem?_replicate, if_pos hi]
    rfl
theorem all_true_rd {K : W.Frag} {H : Hp} {D : Addr} {zs : List V} {Q : VK} (hD : H D = some (.lst zs)) (h : ∀ (i : Nat) y, zs[i]? = some y → y = V.bl true) (q : Q (.bl true) H) : rAll K [.ref D] H Q := by
  rw [zs_true h] at hD
  refine all_rd hD ?_
  rw [show (List.replicate zs.length true).all id = true by simp]
  exact q
section
variable {w : World} {K : W.Frag} {mg : Str → Option Value} {base : Heap}
def sp_are_kind_rows (K : W.Frag) : Sp := fun vs H Q _ => ∃ a rs rows b s m n, vs = [.ref a, .ref b] ∧ SqL K H a rs ∧ DpAll K H rs (rows.map rowD) ∧ SqT K H b [.int s, .int m, .int n, .int s] ∧ 0 ≤ s ∧ s ≤ 1000 ∧ okRows rows [s, m, n, s] = true ∧ ∀ H', Ext H H' → Q (.bl true) H'
theorem c_are_kind_rows (T : Txt K mg) : Cal prg w K mg base CX0 4 "are_kind_rows" ["value", "bounds"] (sp_are_kind_rows K) := by
  refine T.d_are_kind_rows.cal sc_are_kind_rows (fun vs H Q E ⟨a, rs, rows, b, s, m, n, e, _⟩ => by rw [e]; rfl) fun f cdv A outer s H vs Q E hr h => ?_
  have nd := sc_are_kind_rows.nd
  obtain ⟨a, rs, rows, b, st, m, n, rfl, hs, hA, hT, s0, s1, ho, q⟩ := h
  refine ⟨_, PSs.nox (pss_cons (ps_if (PW.pt (pw_or (pt_not (pt_val (pe_callB call_isiT (by rfl) T.f_isinstance (by decide +kernel) (pa_cons (pv 0) (pa_cons (pe_tup (pa_cons (pe_bltn (v := .ty "list") (by rfl) T.f_list (by decide +kernel) rfl) (pa_cons (pe_bltn (v := .ty "tuple") (by rfl) T.f_tuple (by decide +kernel) rfl) pa_nil))) pa_nil))))) (pw_or1 (pt_cmpR op_gt (pe_callB call_len_seq (by rfl) T.f_len (by decide +kernel) (pa_cons (pv 0) pa_nil)) (pe_glob (v := .int 600) rfl T.g_MOST_ROWS.choose_spec ⟨_, rfl⟩) (nomark _))))) (pss_one (ps_ret pe_bl)) pss_nil)
      (pss_cons (ps_if (pt_not (pt_val (pe_callB (cr_all rfl) (by rfl) T.f_all (by decide +kernel) (pa_cons (pe_lc (own := [("row", 3)]) (tt := tYes) (g := gName 3) rfl nd (pi_seqF (pv 0)) (blkOk_by (own := [("row", 3)]) (N := ["value", "bounds", "heads", "row", "one", "other", "head"]) (sc := defScope s_are_kind_rows) (by decide +kernel)) (fun _ _ _ _ _ => (pg_name (i := 3) nd rfl (Or.inl rfl))) (fun _ _ _ _ _ => pts_nil) (fun _ _ _ _ _ => (pe_cl (c_is_below T) (hr.mono (by decide)) pass0 (pa_cons (pv 3) (pa_cons (pv 1) pa_nil))))) pa_nil)))) (pss_one (ps_ret pe_bl)) pss_nil)
      (pss_cons (ps_setLc (i := 2) (own := [("row", 3)]) (tt := tYes) (g := gName 3) rfl nd rfl rfl (sw_true rfl rfl rfl (by decide +kernel)) (pi_seqF (pv 0)) (blkOk_by (own := [("row", 3)]) (N := ["value", "bounds", "heads", "row", "one", "other", "head"]) (sc := defScope s_are_kind_rows) (by decide +kernel)) (fun _ _ _ _ _ => (pg_name (i := 3) nd rfl (Or.inl rfl))) (fun _ _ _ _ _ => pts_nil) (fun _ _ _ _ _ => (pe_slice (slK (K := K) rSlT rfl sl_tup) (pe_callTy (call_tuple_ofK (K := K) rfl) (by rfl) T.f_tuple (by decide +kernel) (pa_cons (pv 3) pa_nil)) po_none (po_some (pe_un un_neg pe_int)))))
      (pss_cons (ps_if (pt_not (pt_val (pe_callB (cr_all rfl) (by rfl) T.f_all (by decide +kernel) (pa_cons (pe_lc (own := [("one", 4), ("other", 5)]) (tt := tYes) (g := gTup K 2 (gCons (gName 4) (gCons (gName 5) gNil))) rfl nd (pi_zipF (by rfl) T.f_zip (pa_cons (pv 2) (pa_cons (pe_slice sl_list (pv 2) (po_some pe_int) po_none) pa_nil))) (blkOk_by (own := [("one", 4), ("other", 5)]) (N := ["value", "bounds", "heads", "row", "one", "other", "head"]) (sc := defScope s_are_kind_rows) (by decide +kernel)) (fun _ _ _ _ _ => (pg_tup (by rfl) (pgs_cons (pg_name (i := 4) nd rfl (Or.inl rfl)) (pgs_cons (pg_name (i := 5) nd rfl (Or.inl rfl)) pgs_nil)))) (fun _ _ _ _ _ => pts_nil) (fun _ _ _ _ _ => (pe_cmpR (opK (K := K) rLtT rfl (op_ltT hr.units0)) (pv 4) (pv 5) (nomark _)))) pa_nil)))) (pss_one (ps_ret pe_bl)) pss_nil)
      (pss_one (ps_ret (pe_cmpR op_eq (pe_callB call_lenT (by rfl) T.f_len (by decide +kernel) (pa_cons (pe_scT (own := [("head", 6)]) (tt := tYes) (g := gName 6) hr.two rfl nd (pi_list (pv 2)) (blkOk_by (own := [("head", 6)]) (N := ["value", "bounds", "heads", "row", "one", "other", "head"]) (sc := defScope s_are_kind_rows) (by decide +kernel)) (fun _ _ _ _ _ => (pg_name (i := 6) nd rfl (Or.inl rfl))) (fun _ _ _ _ _ => pts_nil) (fun _ _ _ _ _ => (pe_slice (slK (K := K) rSlT rfl sl_tup) (pv 6) po_none (po_some (pe_un un_neg pe_int))))) pa_nil)) (pe_op op_mul (pe_ix ix_tup (pv 1) pe_int (fun _ _ => rfl)) (pe_ix ix_tup (pv 1) pe_int (fun _ _ => rfl))) (nomark _)))))))), ?_⟩
  simp only [okRows, Bool.and_eq_true, decide_eq_true_eq] at ho
  obtain ⟨ho1, ho2, ho3, ho4⟩ := ho
  have hlen : rs.length = rows.length := by rw [DpAll.length hA, List.length_map]
  have hv : Vd K H (.ref a) (.list (rows.map rowD)) := .of (.lst hs hA)
  refine cut_ifn (fun c H' => c = false ∧ Ext H H') (fun Q1 k1 => ?_) fun c H1 ⟨ec, e1⟩ => ?_
  · dsimp only [tRet, tRetN, tSeq, tAsg, tOp, tVar, tC, tCB, tCons, tNil, tAndV, tOrV, tNotV, tAnd, tOr, tNot, tTest, tIf, tIfS, tB, tChain, tSl, tPart, tNoPart, tLst, tTup, tFld, tCl, tMt, tMk, gName, tNext, tBM, tBM0, tUn, tSub, tPar, tPar3, gTup, gCons, gNil, tDrop, tMkS, tM1, sFld, StX.tStar, tYes, gSub, cxOf, Cx.wish, Cx.nox, Cx.blk]
    refine ⟨_, rfl, (by show 2 ≤ sizeLine; decide), fun tp htp => isi2_rd (Vd.ext (Ext.upd htp) hv) upd_same ⟨_, rfl, if_f rfl ?_⟩⟩
    have e1 : Ext H (upd H tp (.tup [.ty "list", .ty "tuple"])) := Ext.upd htp
    refine ⟨_, rfl, a, _, rfl, .inl (hs.ext e1), _, _, rfl, rfl, _, rfl, k1 _ _ ⟨decide_eq_false (by omega), e1⟩⟩
  subst ec
  refine if_f rfl ?_
  have hs1 := hs.ext e1
  have hA1 := DpAll.ext e1 hA
  have hT1 := hT.ext e1
  refine cut_ifn (fun c H' => c = false ∧ Ext H1 H') (fun Q1 k1 => ?_) fun c H2 ⟨ec, e2⟩ => ?_
  · dsimp only [tRet, tRetN, tSeq, tAsg, tOp, tVar, tC, tCB, tCons, tNil, tAndV, tOrV, tNotV, tAnd, tOr, tNot, tTest, tIf, tIfS, tB, tChain, tSl, tPart, tNoPart, tLst, tTup, tFld, tCl, tMt, tMk, gName, tNext, tBM, tBM0, tUn, tSub, tPar, tPar3, gTup, gCons, gNil, tDrop, tMkS, tM1, sFld, StX.tStar, tYes, gSub, cxOf, Cx.wish, Cx.nox, Cx.blk]
    refine ⟨_, rfl, true, a, rs, rfl, hs1, fun D hD => ?_⟩
    refine lc_scal walk_seqF (R := fun i y => y = .bl true) hD (small_of (m := 60) (by omega)) (fun H e => hs1.ext e) (fun i H x H' y => by rw [y.1]; exact Ext.rfl') ?_ ?_
    · rintro i x G G' hi e ⟨rfl, hx1⟩ Q2 k2
      obtain ⟨d, hd, hp⟩ := DpAll.getV hA1 hx1
      rw [List.getElem?_map] at hd
      obtain ⟨r, hr', rfl⟩ := Option.map_eq_some_iff.mp hd
      dsimp only [tRet, tRetN, tSeq, tAsg, tOp, tVar, tC, tCB, tCons, tNil, tAndV, tOrV, tNotV, tAnd, tOr, tNot, tTest, tIf, tIfS, tB, tChain, tSl, tPart, tNoPart, tLst, tTup, tFld, tCl, tMt, tMk, gName, tNext, tBM, tBM0, tUn, tSub, tPar, tPar3, gTup, gCons, gNil, tDrop, tMkS, tM1, sFld, StX.tStar, tYes, gSub, cxOf, Cx.wish, Cx.nox, Cx.blk]
      refine ⟨rfl, _, rfl, _, rfl, _, rowD r, b, [st, m, n, st], rfl, .of (Dp.ext e hp), hT1.ext e, by show 4 ≤ 600; decide, fun G2 e2 => k2 _ _ e2 ?_⟩
      rw [isBelow_row (List.all_eq_true.mp ho2 r (List.mem_of_getElem? hr'))]
    · intro zs G hz1 hz2 e hDz
      exact all_true_rd hDz hz2 ⟨_, rfl, k1 _ _ ⟨rfl, e⟩⟩
  subst ec
  refine if_f rfl ?_
  have hs2 := hs1.ext e2
  have hA2 := DpAll.ext e2 hA1
  have hT2 := hT1.ext e2
  have h4 : ∀ r ∈ rows, r.length = 4 := fun r hr' => by
    have z := List.all_eq_true.mp ho2 r hr'
    simp only [belowL, Bool.and_eq_true, decide_eq_true_eq] at z
    exact z.1
  -- the heads
  refine cut_asg (fun v H' => ∃ D ys, v = .ref D ∧ Ext H2 H' ∧ H2 D = none ∧ H' D = some (.lst ys) ∧ ys.length = rows.length ∧ ∀ (i : Nat) y, ys[i]? = some y → ∃ r p, rows[i]? = some r ∧ y = .ref p ∧ SqT K (del H' D) p ((r.take 3).map V.int)) (fun Q1 k1 => ?_) fun v H3 ⟨D, ys, ev, e3, nD, hD, ly, hy⟩ => ?_
  · dsimp only [tRet, tRetN, tSeq, tAsg, tOp, tVar, tC, tCB, tCons, tNil, tAndV, tOrV, tNotV, tAnd, tOr, tNot, tTest, tIf, tIfS, tB, tChain, tSl, tPart, tNoPart, tLst, tTup, tFld, tCl, tMt, tMk, gName, tNext, tBM, tBM0, tUn, tSub, tPar, tPar3, gTup, gCons, gNil, tDrop, tMkS, tM1, sFld, StX.tStar, tYes, gSub, cxOf, Cx.wish, Cx.nox, Cx.blk]
    refine ⟨_, rfl, true, a, rs, rfl, hs2, fun D hD => ?_⟩
    refine lc_rel walk_seqF (R := fun i y G => ∃ r p, rows[i]? = some r ∧ y = .ref p ∧ SqT K G p ((r.take 3).map V.int)) hD (fun i y G G' e ⟨r, p, x1, x2, x3⟩ => ⟨r, p, x1, x2, x3.ext e⟩) (small_of (m := 60) (by omega)) (fun H e => hs2.ext e) (fun i H x H' y => by rw [y.1]; exact Ext.rfl') ?_ ?_
    · rintro i x G G' hi e nz ⟨rfl, hx1⟩ Q2 k2
      obtain ⟨r, p, hr', rfl, hp⟩ := rows_at hA2 hx1
      have l4 := h4 r (List.mem_of_getElem? hr')
      dsimp only [tRet, tRetN, tSeq, tAsg, tOp, tVar, tC, tCB, tCons, tNil, tAndV, tOrV, tNotV, tAnd, tOr, tNot, tTest, tIf, tIfS, tB, tChain, tSl, tPart, tNoPart, tLst, tTup, tFld, tCl, tMt, tMk, gName, tNext, tBM, tBM0, tUn, tSub, tPar, tPar3, gTup, gCons, gNil, tDrop, tMkS, tM1, sFld, StX.tStar, tYes, gSub, cxOf, Cx.wish, Cx.nox, Cx.blk]
      have lr : (r.map V.int).length = 4 := by rw [List.length_map]; exact l4
      refine ⟨rfl, _, rfl, p, _, rfl, .inr ⟨hp.ext (e.trans ext_del), _, rfl, _, rfl, p, _, rfl, hp.ext (e.trans ext_del), not_whole (fun z => by rw [z] at lr; cases lr), fun t ht => k2 _ _ (Ext.upd ht) ⟨r, t, hr', rfl, SqT.of ?_⟩⟩⟩
      have c : t ≠ D := fun z => nz (by rw [← z]; exact ht)
      rw [del_ne c, upd_same, cut_last, lr, ← List.map_take]
    · intro ys G hz1 hz2 e hDz
      exact k1 _ _ ⟨D, ys, rfl, e, hD, hDz, by rw [hz1, hlen], hz2⟩
  subst ev
  have hy' : ∀ (i : Nat) y, ys[i]? = some y → ∃ r p, rows[i]? = some r ∧ y = .ref p ∧ SqT K H3 p ((r.take 3).map V.int) := fun i y z => by
    obtain ⟨r, p, x1, x2, x3⟩ := hy i y z
    exact ⟨r, p, x1, x2, x3.ext ext_del⟩
  refine cut_ifn (fun c H' => c = false ∧ Ext H3 H') (fun Q1 k1 => ?_) fun c H4 ⟨ec, e4⟩ => ?_
  · dsimp only [tRet, tRetN, tSeq, tAsg, tOp, tVar, tC, tCB, tCons, tNil, tAndV, tOrV, tNotV, tAnd, tOr, tNot, tTest, tIf, tIfS, tB, tChain, tSl, tPart, tNoPart, tLst, tTup, tFld, tCl, tMt, tMk, gName, tNext, tBM, tBM0, tUn, tSub, tPar, tPar3, gTup, gCons, gNil, tDrop, tMkS, tM1, sFld, StX.tStar, tYes, gSub, cxOf, Cx.wish, Cx.nox, Cx.blk]
    refine ⟨_, rfl, _, rfl, _, rfl, D, ys, rfl, SqL.of hD, fun p hp => ?_⟩
    rw [cut1]
    refine ⟨D, p, ys, _, true, true, rfl, SqL.of (Ext.upd hp _ _ hD), SqL.of upd_same, fun D2 hD2 => ?_⟩
    have hn : min ys.length (ys.drop 1).length = rows.length - 1 := by rw [List.length_drop, ly]; omega
    refine lc_scal (walk_zipF (xs := ys) (ys := ys.drop 1) rfl) (R := fun i y => y = .bl true) hD2 (by rw [hn]; exact small_of (m := 60) (by omega)) (fun G e => ⟨SqL.of (e _ _ (Ext.upd hp _ _ hD)), SqL.of (e _ _ upd_same)⟩) ?_ ?_ ?_
    · rintro i G x G' ⟨T', x1, y1, rfl, hT', rfl, _⟩
      exact Ext.upd hT'
    · rintro i x G G' hi e ⟨T', x1, y1, rfl, hT', rfl, hx1, hy1⟩ Q2 k2
      have hx1 : ys[i]? = some x1 := hx1
      have hy1 : (ys.drop 1)[i]? = some y1 := hy1
      rw [List.getElem?_drop] at hy1
      obtain ⟨r1, p1, g1, rfl, t1⟩ := hy' _ _ hx1
      obtain ⟨r2, p2, g2, rfl, t2⟩ := hy' _ _ hy1
      have e5 : Ext H3 (upd G T' (.tup [.ref p1, .ref p2])) := (Ext.upd hp).trans (e.trans (Ext.upd hT'))
      dsimp only [tRet, tRetN, tSeq, tAsg, tOp, tVar, tC, tCB, tCons, tNil, tAndV, tOrV, tNotV, tAnd, tOr, tNot, tTest, tIf, tIfS, tB, tChain, tSl, tPart, tNoPart, tLst, tTup, tFld, tCl, tMt, tMk, gName, tNext, tBM, tBM0, tUn, tSub, tPar, tPar3, gTup, gCons, gNil, tDrop, tMkS, tM1, sFld, StX.tStar, tYes, gSub, cxOf, Cx.wish, Cx.nox, Cx.blk]
      refine ⟨T', _, rfl, SqT.of upd_same, rfl, _, _, rfl, _, _, rfl, rfl, rfl, _, rfl, _, rfl, p1, p2, _, _, rfl, rfl, t1.ext e5, t2.ext e5, k2 _ _ Ext.rfl' ?_⟩
      have z := List.all_eq_true.mp ho3 (r1.take 3, r2.take 3) (List.mem_of_getElem? (i := i) (by
        rw [List.getElem?_zip_eq_some, List.getElem?_drop, List.getElem?_map, List.getElem?_map, g1, g2]
        exact ⟨rfl, rfl⟩))
      exact congrArg V.bl z
    · intro zs G hz1 hz2 e hDz
      exact all_true_rd hDz hz2 ⟨_, rfl, k1 _ _ ⟨rfl, (Ext.upd hp).trans e⟩⟩
  subst ec
  refine if_f rfl ?_
  have hD4 := e4 _ _ hD
  dsimp only [tRet, tRetN, tSeq, tAsg, tOp, tVar, tC, tCB, tCons, tNil, tAndV, tOrV, tNotV, tAnd, tOr, tNot, tTest, tIf, tIfS, tB, tChain, tSl, tPart, tNoPart, tLst, tTup, tFld, tCl, tMt, tMk, gName, tNext, tBM, tBM0, tUn, tSub, tPar, tPar3, gTup, gCons, gNil, tDrop, tMkS, tM1, sFld, StX.tStar, tYes, gSub, cxOf, Cx.wish, Cx.nox, Cx.blk]
  refine ⟨_, rfl, D, rfl, ⟨ys, SqL.of hD4⟩, fun D2 hD2 => ?_⟩
  have key : ∀ i, ((rows.map (·.take 2)).take (i + 1)) = (rows.map (·.take 2)).take i ++ ((rows[i]?).map (·.take 2)).toList := fun i => by
    rw [List.take_succ, List.getElem?_map]
  refine turns_it (walk_list (xs := ys)) (fun i G => ∃ L : List (Addr × List Int), G D2 = some (SetTO prg w D2 L) ∧ Ext H4 (del G D2) ∧ (∀ p ∈ L, SqT K (del G D2) p.1 (p.2.map V.int)) ∧ L.length ≤ i ∧ ∀ x, x ∈ L.map (·.2) ↔ x ∈ (rows.map (·.take 2)).take i)
    ⟨[], upd_same, ext_off (Ext.upd hD2) hD2, fun p z => by simp at z, Nat.le_refl _, fun x => by simp⟩ (fun i G _ ⟨_, _, e, _⟩ => SqL.of ((e.trans ext_del) _ _ hD4)) ?_ ?_
  · rintro i x G G' hi ⟨L, hL, e, hT', ll, hm⟩ ⟨rfl, hx1⟩
    obtain ⟨r, p, g, rfl, hp⟩ := hy' _ _ hx1
    have l4 := h4 r (List.mem_of_getElem? g)
    have lr : ((r.take 3).map V.int).length = 3 := by rw [List.length_map, List.length_take]; omega
    dsimp only [tRet, tRetN, tSeq, tAsg, tOp, tVar, tC, tCB, tCons, tNil, tAndV, tOrV, tNotV, tAnd, tOr, tNot, tTest, tIf, tIfS, tB, tChain, tSl, tPart, tNoPart, tLst, tTup, tFld, tCl, tMt, tMk, gName, tNext, tBM, tBM0, tUn, tSub, tPar, tPar3, gTup, gCons, gNil, tDrop, tMkS, tM1, sFld, StX.tStar, tYes, gSub, cxOf, Cx.wish, Cx.nox, Cx.blk]
    refine ⟨rfl, _, rfl, _, rfl, _, rfl, p, _, rfl, hp.ext (e4.trans (e.trans ext_del)), not_whole (fun z => by rw [z] at lr; cases lr), fun t ht => ?_⟩
    have c : t ≠ D2 := fun z => by rw [z, hL] at ht; cases ht
    have et : Ext (del G' D2) (del (upd G' t (.tup (cutV ((r.take 3).map V.int) none (some (-1))))) D2) := ext_dels (Ext.upd ht)
    have e5 : cutV ((r.take 3).map V.int) none (some (-1)) = (r.take 2).map V.int := by rw [cut_last, lr, ← List.map_take, List.take_take]; rfl
    have offD : ∀ o, del (upd (upd G' t (.tup (cutV ((r.take 3).map V.int) none (some (-1))))) D2 o) D2 = del (upd G' t (.tup (cutV ((r.take 3).map V.int) none (some (-1))))) D2 := fun o => by
      funext b
      unfold del
      by_cases c : b = D2
      · rw [if_pos c, if_pos c]
      · rw [if_neg c, if_neg c, upd_ne c]
    have hi60 : i < 60 := by omega
    refine ⟨L, t, r.take 2, rfl, by rw [upd_ne c.symm]; exact hL, fun z hz => (hT' z hz).ext (et.trans ext_del), SqT.of (by rw [upd_same, e5]), by omega, fun L' c1 c2 => ?_⟩
    have hmem : ∀ x, x ∈ (rows.map (·.take 2)).take (i + 1) ↔ x ∈ L.map (·.2) ∨ x = r.take 2 := fun x => by
      rw [key, g, List.mem_append, hm x]
      simp
    by_cases cm : r.take 2 ∈ L.map (·.2)
    · refine ⟨L', upd_same, by rw [offD]; exact e.trans et, ?_, by rw [c1 cm]; omega, fun x => ?_⟩
      · rw [c1 cm, offD]
        exact fun z hz => (hT' z hz).ext et
      · rw [hmem, c1 cm]
        exact ⟨.inl, fun z => z.elim id fun z => by rw [z]; exact cm⟩
    · refine ⟨L', upd_same, by rw [offD]; exact e.trans et, fun z hz => ?_, by rw [(c2 cm).length_eq, List.length_cons]; omega, fun x => ?_⟩
      · rw [offD]
        rcases List.mem_cons.mp ((c2 cm).mem_iff.mp hz) with rfl | hz
        · refine SqT.of ?_
          rw [del_ne c, upd_same, e5]
        · exact (hT' z hz).ext et
      · rw [hmem, ((c2 cm).map (·.2)).mem_iff, List.map_cons, List.mem_cons]
        exact or_comm
  · rintro G ⟨L, hL, e, hT', ll, hm⟩
    rw [ly, List.take_of_length_le (by rw [List.length_map]; exact Nat.le_refl _)] at hm
    refine ⟨D2, L, rfl, hL, fun z hz => (hT' z hz).ext ext_del, fun nd2 => ?_⟩
    have e6 : Ext H G := e1.trans (e2.trans (e3.trans (e4.trans (e.trans ext_del))))
    have hT6 := hT.ext e6
    refine ⟨_, rfl, b, _, 0, .int st, rfl, rfl, hT6, atI_nat (j := 0) rfl, _, rfl, b, _, 1, .int m, rfl, rfl, hT6, atI_nat (j := 1) rfl, _, _, rfl, rfl, .inl ⟨by omega, by omega⟩, rfl, ?_⟩
    obtain ⟨dd1, dd2⟩ := dedup_ok (rows.map (·.take 2)).length (rows.map (·.take 2)) (Nat.le_refl _)
    have z := same_length nd2 dd1 fun x => (hm x).trans (dd2 x).symm
    rw [List.length_map] at z
    have ho4' : ((rows.map (·.take 2)).eraseDups.length : Int) = st * m := ho4
    rw [← z] at ho4'
    rw [dec_int, ho4', beq_self_eq_true]
    exact q G e6
end
end K81

end
section
/-! Ow12: written data: displays of constants, at any depth, in new objects alone. -/
namespace Ow
open PySem L2
open PySem.Spec PyProof.Rows
/-- what H' tracks that H doesn't -/
def nw (H H' : Hp) : Hp := fun b => match H b with
  | none => H' b
  | some _ => none
theorem nw_eq {H H' : Hp} {b : Addr} (h : H b = none) : nw H H' b = H' b := by unfold nw; rw [h]
theorem nw_some {H H' : Hp} {b : Addr} {o : HO} (h : nw H H' b = some o) : H b = none ∧ H' b = some o := by
  unfold nw at h
  cases e : H b with
  | none =>
    rw [e] at h
    exact ⟨rfl, h⟩
  | some u =>
    rw [e] at h
    cases h
theorem nw_all {H H' : Hp} : Ext (nw H H') H' := fun b o h => (nw_some h).2
/-- only what was not in H matters -/
theorem nw_ext {H H1 H2 : Hp} (h : ∀ b o, H b = none → H1 b = some o → H2 b = some o) : Ext (nw H H1) (nw H H2) := fun b o e => by
  obtain ⟨e1, e2⟩ := nw_some e
  rw [nw_eq e1]
  exact h b o e1 e2
theorem nw_fst {H H1 H2 : Hp} (e : Ext H H1) : Ext (nw H1 H2) (nw H H2) := fun b o h => by
  obtain ⟨e1, e2⟩ := nw_some h
  have e0 : H b = none := by
    cases z : H b with
    | none => rfl
    | some u =>
      rw [e _ _ z] at e1
      cases e1
  rw [nw_eq e0]
  exact e2
theorem nw_snd {H H1 H2 : Hp} (e : Ext H1 H2) : Ext (nw H H1) (nw H H2) := nw_ext fun b o _ h => e _ _ h
theorem nw_del {H H' : Hp} {q : Addr} (hq : H q ≠ none) : Ext (nw H H') (del H' q) := fun b o h => by
  obtain ⟨e1, e2⟩ := nw_some h
  rw [del_ne (fun z => hq (by rw [← z]; exact e1))]
  exact e2
/-- t gives the datum d, in new objects -/
def GD (K : W.Frag) (t : TE) (d : PyData) : Prop := ∀ (σ : L2.St) (H : Hp) (Q : VK), (∀ v H', Ext H H' → Dp K (nw H H') v d → Q v H') → t σ H Q
def GDs (K : W.Frag) (t : TA) (ds : List PyData) : Prop := ∀ (σ : L2.St) (H : Hp) (Q : List V → Hp → Prop), (∀ vs H', Ext H H' → DpAll K (nw H H') vs ds → Q vs H') → t σ H Q
/-- the same, items that may be empty dicts -/
inductive VdAll (K : W.Frag) (H : Hp) : List V → List PyData → Prop where
  | nil : VdAll K H [] []
  | cons {v : V} {vs : List V} {d : PyData} {ds : List PyData} : Vd K H v d → VdAll K H vs ds → VdAll K H (v :: vs) (d :: ds)
def GV (K : W.Frag) (t : TE) (d : PyData) : Prop := ∀ (σ : L2.St) (H : Hp) (Q : VK), (∀ v H', Ext H H' → Vd K (nw H H') v d → Q v H') → t σ H Q
def GVs (K : W.Frag) (t : TA) (ds : List PyData) : Prop := ∀ (σ : L2.St) (H : Hp) (Q : List V → Hp → Prop), (∀ vs H', Ext H H' → VdAll K (nw H H') vs ds → Q vs H') → t σ H Q
section
variable {K : W.Frag} {t : TE} {ts : TA} {d : PyData} {ds : List PyData}
theorem none_of {H H' : Hp} {p : Addr} (e : Ext H H') (h : H' p = none) : H p = none := by
  cases z : H p with
  | none => rfl
  | some o =>
    rw [e _ _ z] at h
    cases h
theorem nw_upd {H H1 : Hp} {p : Addr} {o : HO} (e : Ext H H1) (hp : H1 p = none) : nw H (upd H1 p o) p = some o := by rw [nw_eq (none_of e hp), upd_same]
theorem gd_c {v : V} (h : ∀ H, Dp K H v d) : GD K (tC v) d := fun σ H Q q => q v H Ext.rfl' (h _)
theorem gd_non : GD K (tC .non) .none := gd_c fun _ => .non
theorem gd_bl {b : Bool} : GD K (tC (.bl b)) (.bool b) := gd_c fun _ => .bl b
theorem gd_int {i : Int} : GD K (tC (.int i)) (.int i) := gd_c fun _ => .int i
theorem gd_str {x : Str} : GD K (tC (.str x)) (.str x) := gd_c fun _ => .str x
theorem gd_neg {i : Int} : GD K (tUn (rU fun i => .int (-i)) (tC (.int i))) (.int (-i)) := fun σ H Q q => ⟨i, rfl, q _ _ Ext.rfl' (.int _)⟩
theorem gd_pow {i j : Int} (h : CPow i j) : GD K (tOp (rI CPow fun i j => .int (i ^ j.toNat)) (tC (.int i)) (tC (.int j))) (.int (i ^ j.toNat)) := fun σ H Q q => ⟨i, j, rfl, rfl, h, q _ _ Ext.rfl' (.int _)⟩
theorem gds_nil : GDs K tNil [] := fun σ H Q q => q [] H Ext.rfl' .nil
theorem gds_cons (h : GD K t d) (hs : GDs K ts ds) : GDs K (tCons t ts) (d :: ds) := fun σ H Q q => h σ H _ fun v H1 e1 h1 => hs σ H1 _ fun vs H2 e2 h2 => q _ H2 (e1.trans e2) (.cons (Dp.ext (nw_snd e2) h1) (DpAll.ext (nw_fst e1) h2))
theorem gd_lst (hs : GDs K ts ds) (hl : ds.length ≤ 1000 := by decide) : GD K (tLst ts) (.list ds) := fun σ H Q q => hs σ H _ fun vs H1 e1 h1 => ⟨by rw [DpAll.length h1]; exact Nat.le_of_lt (small1000 hl), fun p hp => q _ _ (e1.trans (Ext.upd hp)) (.lst (SqL.of (nw_upd e1 hp)) (DpAll.ext (nw_snd (Ext.upd hp)) h1))⟩
theorem gd_tup (hs : GDs K ts ds) (hl : ds.length ≤ 1000 := by decide) : GD K (tTup ts) (.tuple ds) := fun σ H Q q => hs σ H _ fun vs H1 e1 h1 => ⟨by rw [DpAll.length h1]; exact Nat.le_of_lt (small1000 hl), fun p hp => q _ _ (e1.trans (Ext.upd hp)) (.tup (SqT.of (nw_upd e1 hp)) (DpAll.ext (nw_snd (Ext.upd hp)) h1))⟩
theorem VdAll.ext {H H' : Hp} (e : Ext H H') : ∀ {ds : List PyData} {vs : List V}, VdAll K H vs ds → VdAll K H' vs ds
  | [], _, h => by cases h; exact .nil
  | _ :: _, _, h => by
    cases h with
    | cons q r => exact .cons (Vd.ext e q) (VdAll.ext e r)
theorem VdAll.length {H : Hp} : ∀ {ds : List PyData} {vs : List V}, VdAll K H vs ds → vs.length = ds.length
  | [], _, h => by cases h; rfl
  | _ :: _, _, h => by
    cases h with
    | cons _ r => rw [List.length_cons, List.length_cons, VdAll.length r]
theorem VdAll.getV {H : Hp} : ∀ {ds : List PyData} {vs : List V} {i : Nat} {v : V}, VdAll K H vs ds → vs[i]? = some v → ∃ d, ds[i]? = some d ∧ Vd K H v d
  | _, [], i, v, h, e => by simp at e
  | _, x :: r, 0, v, h, e => by
    cases h with
    | cons q _ =>
      cases e
      exact ⟨_, rfl, q⟩
  | _, x :: r, i + 1, v, h, e => by
    cases h with
    | cons _ q => exact VdAll.getV (i := i) q (by simpa using e)
theorem gv_d (h : GD K t d) : GV K t d := fun σ H Q q => h σ H Q fun v H' e h => q v H' e (.inl h)
theorem gv_dict : GV K tDNewK (.dict []) := fun σ H Q q p hp => q _ _ (Ext.upd hp) (.inr ⟨p, rfl, nw_upd Ext.rfl' hp, rfl⟩)
theorem gvs_nil : GVs K tNil [] := fun σ H Q q => q [] H Ext.rfl' .nil
theorem gvs_cons (h : GV K t d) (hs : GVs K ts ds) : GVs K (tCons t ts) (d :: ds) := fun σ H Q q => h σ H _ fun v H1 e1 h1 => hs σ H1 _ fun vs H2 e2 h2 => q _ H2 (e1.trans e2) (.cons (Vd.ext (nw_snd e2) h1) (VdAll.ext (nw_fst e1) h2))
/-- a written list whose items may be empty dicts -/
theorem gv_list (hs : GVs K ts ds) {σ : L2.St} {H : Hp} {Q : VK} (q : ∀ l vs H', Ext H H' → H l = none → H' l = some (.lst vs) → VdAll K (nw H H') vs ds → Q (.ref l) H') (hl : ds.length ≤ 1000 := by decide) : tLst ts σ H Q := hs σ H _ fun vs H1 e1 h1 =>
  ⟨by rw [VdAll.length h1]; exact Nat.le_of_lt (small1000 hl), fun p hp => q p vs _ (e1.trans (Ext.upd hp)) (none_of e1 hp) upd_same (VdAll.ext (nw_snd (Ext.upd hp)) h1)⟩
end
end Ow

end
section
/-! K81d: Kind(asks, answers, states, first, rows). -/
namespace K81
open PySem L2 Ow
open PySem.Spec PyProof.Rows
/-- all but p stands -/
def ExtP (p : Addr) (H H' : Hp) : Prop := ∀ b o, b ≠ p → H b = some o → H' b = some o
theorem ExtP.of {p : Addr} {H H' : Hp} (e : Ext H H') : ExtP p H H' := fun b o _ h => e b o h
theorem ExtP.refl (p : Addr) (H : Hp) : ExtP p H H := fun _ _ _ h => h
theorem ExtP.trans {p : Addr} {H H1 H2 : Hp} (a : ExtP p H H1) (b : ExtP p H1 H2) : ExtP p H H2 := fun c o n h => b c o n (a c o n h)
theorem extP_upd (p : Addr) (H : Hp) (o : HO) : ExtP p H (upd H p o) := fun b u hb h => by rw [upd_ne hb]; exact h
theorem ExtP.del {p : Addr} {H H' : Hp} (e : ExtP p H H') : Ext (L2.del H p) H' := fun b o h => by
  by_cases c : b = p
  · rw [c, del_same] at h
    cases h
  · rw [del_ne c] at h
    exact e b o c h
theorem ExtP.of_del {p : Addr} {H H' : Hp} (e : Ext (L2.del H p) H') : ExtP p H H' := fun b o c h => e b o (by rw [del_ne c]; exact h)
theorem ExtP.dels {p : Addr} {H H' : Hp} (e : ExtP p H H') : Ext (L2.del H p) (L2.del H' p) := fun b o h => by
  by_cases c : b = p
  · rw [c, del_same] at h
    cases h
  · rw [del_ne c] at h ⊢
    exact e b o c h
/-- no list, no tuple stands at p -/
def NoSeq (H : Hp) (p : Addr) : Prop := ∀ o, H p = some o → (∀ xs, o ≠ .lst xs) ∧ (∀ xs, o ≠ .tup xs) ∧ ∀ u x, o ≠ .frz u x
theorem NoSeq.ins {H : Hp} {p C dx : Addr} {fs : List (Str × V)} (h : H p = some (.ins C dx fs)) : NoSeq H p := fun o e => by
  rw [h] at e
  cases e
  exact ⟨fun xs z => (by cases z), fun xs z => (by cases z), fun u x z => by cases z⟩
section
variable {K : W.Frag} {H : Hp} {p : Addr}
theorem SqL.del {a : Addr} {xs : List V} (h : SqL K H a xs) (hp : NoSeq H p) : SqL K (L2.del H p) a xs := by
  rcases h with (h | ⟨o, h⟩) | h
  · exact .inl (.inl (by rw [del_ne (fun z => (hp _ (z ▸ h)).1 _ rfl)]; exact h))
  · exact .inl (.inr ⟨o, by rw [del_ne (fun z => (hp _ (z ▸ h)).2.2 _ _ rfl)]; exact h⟩)
  · exact .inr h
theorem SqT.del {a : Addr} {xs : List V} (h : SqT K H a xs) (hp : NoSeq H p) : SqT K (L2.del H p) a xs := by
  rcases h with (h | ⟨o, h⟩) | h
  · exact .inl (.inl (by rw [del_ne (fun z => (hp _ (z ▸ h)).2.1 _ rfl)]; exact h))
  · exact .inl (.inr ⟨o, by rw [del_ne (fun z => (hp _ (z ▸ h)).2.2 _ _ rfl)]; exact h⟩)
  · exact .inr h
mutual
theorem Dp.del (hp : NoSeq H p) : ∀ {d : PyData} {v : V}, Dp K H v d → Dp K (L2.del H p) v d
  | .none, _, h => by cases h; exact .non
  | .bool b, _, h => by cases h; exact .bl b
  | .int i, _, h => by cases h; exact .int i
  | .str x, _, h => by cases h; exact .str x
  | .list ds, _, h => by
    cases h with
    | lst q r => exact .lst (SqL.del q hp) (DpAll.del hp r)
  | .tuple ds, _, h => by
    cases h with
    | tup q r => exact .tup (SqT.del q hp) (DpAll.del hp r)
  | .dict _, _, h => by cases h
theorem DpAll.del (hp : NoSeq H p) : ∀ {ds : List PyData} {vs : List V}, DpAll K H vs ds → DpAll K (L2.del H p) vs ds
  | [], _, h => by cases h; exact .nil
  | _ :: _, _, h => by
    cases h with
    | cons q r => exact .cons (Dp.del hp q) (DpAll.del hp r)
end
end
/-- without some objects -/
def delL (H : Hp) (ms : List V) : Hp := fun b => if V.ref b ∈ ms then none else H b
theorem delL_some {H : Hp} {ms : List V} {b : Addr} {o : HO} (c : V.ref b ∉ ms) (h : H b = some o) : delL H ms b = some o := (if_neg c).trans h
theorem delL_out {H : Hp} {ms : List V} {b : Addr} {o : HO} (h : delL H ms b = some o) : V.ref b ∉ ms := fun c => by
  rw [show delL H ms b = none from if_pos c] at h
  cases h
theorem delL_ext {H : Hp} {ms : List V} : Ext (delL H ms) H := fun b o h => by
  have c := delL_out h
  rw [show delL H ms b = H b from if_neg c] at h
  exact h
theorem cut_from1 {xs : List V} : cutV xs (some 1) none = xs.drop 1 := cut1
theorem at_lastI {r : List Int} {d : Int} (h : r.length = 4) : atI (r.map V.int) (-1) = some (.int (r.getD 3 d)) := by
  match r, h with
  | [a, b, c, e], _ => rfl
theorem not_from1 {xs : List V} (h : xs ≠ []) : ¬ (HT.sIx xs.length 0 (some 1) = 0 ∧ HT.sIx xs.length xs.length none = xs.length) := fun z => by
  have z1 := z.1
  rw [show (some (1 : Int)) = some ((1 : Nat) : Int) from rfl, HT.sIx_nat] at z1
  have : xs.length ≠ 0 := fun q => h (List.length_eq_zero_iff.mp q)
  omega
section
variable {w : World} {K : W.Frag} {mg : Str → Option Value} {base : Heap}
def sp_Kind_init (K : W.Frag) : Sp := fun vs H Q _ => ∃ p dx a1 a2 a3 rs, ∃ k : KN, vs = [.ref p, .ref a1, .ref a2, .int k.st, .int k.fi, .ref a3] ∧ H p = some (.ins (CK K) dx []) ∧ SqL K H a1 (k.asks.map V.str) ∧ SqL K H a2 (k.answers.map V.str) ∧ SqL K H a3 rs ∧ DpAll K H rs (k.rows.map rowD) ∧ k.ok = true ∧
  ∀ H', ExtP p H H' → KindAt K H' p k → Q .non H'
theorem c_Kind_init (T : Txt K mg) : Ini prg w K mg base CX0 5 "Kind" (CK K) ["self", "asks", "answers", "states", "first", "rows"] (sp_Kind_init K) := by
  refine T.d_Kind_init.ini sc_Kind_init (fun vs H Q E ⟨p, dx, a1, a2, a3, rs, k, e, _⟩ => by rw [e]; rfl) fun f cdv A outer s H vs Q E hr h => ?_
  have nd := sc_Kind_init.nd
  obtain ⟨p, dx, a1, a2, a3, rs, k, rfl, hp, h1, h2, h3, hA, ho, q⟩ := h
  refine ⟨_, PSs.nox (pss_cons (ps_if (pt_not (pt_val (pe_cl (c_are_words T) (hr.mono (by decide)) pass0 (pa_cons (pv 1) (pa_cons (pe_glob (v := .int 8) rfl T.g_MOST_ASKS.choose_spec ⟨_, rfl⟩) pa_nil))))) (pss_one ps_dead) pss_nil)
      (pss_cons (ps_if (pt_not (pt_val (pe_cl (c_are_words T) (hr.mono (by decide)) pass0 (pa_cons (pv 2) (pa_cons (pe_glob (v := .int 12) rfl T.g_MOST_ANSWERS.choose_spec ⟨_, rfl⟩) pa_nil))))) (pss_one ps_dead) pss_nil)
      (pss_cons (ps_if (pt_not (pt_val (pe_cl (c_is_within T) (hr.mono (by decide)) pass0 (pa_cons (pv 3) (pa_cons pe_int (pa_cons (pe_glob (v := .int 60) rfl T.g_MOST_STATES.choose_spec ⟨_, rfl⟩) pa_nil)))))) (pss_one ps_dead) pss_nil)
      (pss_cons (ps_if (pt_not (pt_val (pe_cl (c_is_within T) (hr.mono (by decide)) pass0 (pa_cons (pv 4) (pa_cons pe_int (pa_cons (pe_op op_sub (pv 3) pe_int) pa_nil)))))) (pss_one ps_dead) pss_nil)
      (pss_cons (ps_if (pt_not (pt_val (pe_cl (c_are_kind_rows T) (hr.mono (by decide)) pass0 (pa_cons (pv 5) (pa_cons (pe_tup (pa_cons (pv 3) (pa_cons (pe_callB call_len_seq (by rfl) T.f_len (by decide +kernel) (pa_cons (pv 1) pa_nil)) (pa_cons (pe_callB call_len_seq (by rfl) T.f_len (by decide +kernel) (pa_cons (pv 2) pa_nil)) (pa_cons (pv 3) pa_nil))))) pa_nil))))) (pss_one ps_dead) pss_nil)
      (pss_cons (ps_fld (pv 0) (pe_callTy call_tuple_of (by rfl) T.f_tuple (by decide +kernel) (pa_cons (pv 1) pa_nil)) rfl)
      (pss_cons (ps_fld (pv 0) (pe_callTy call_tuple_of (by rfl) T.f_tuple (by decide +kernel) (pa_cons (pv 2) pa_nil)) rfl)
      (pss_cons (ps_fld (pv 0) (pv 3) rfl)
      (pss_cons (ps_fld (pv 0) (pv 4) rfl)
      (pss_cons (ps_fld (pv 0) (pe_callTy call_tuple_of (by rfl) T.f_tuple (by decide +kernel) (pa_cons (pe_lc (own := [("row", 6)]) (tt := tYes) (g := gName 6) rfl nd (pi_seqF (pv 5)) (blkOk_by (own := [("row", 6)]) (N := ["self", "asks", "answers", "states", "first", "rows", "row", "_"]) (sc := defScope s_Kind_init) (by decide +kernel)) (fun _ _ _ _ _ => (pg_name (i := 6) nd rfl (Or.inl rfl))) (fun _ _ _ _ _ => pts_nil) (fun _ _ _ _ _ => (pe_callTy (call_tuple_ofK (K := K) rfl) (by rfl) T.f_tuple (by decide +kernel) (pa_cons (pv 6) pa_nil)))) pa_nil)) rfl)
      (pss_cons (ps_fld (pv 0) (pe_dcT (own := [("row", 6)]) (tt := tYes) (g := gName 6) hr.one rfl nd (pi_seqF (pe_fld (pv 0) rfl)) (blkOk_by (own := [("row", 6)]) (N := ["self", "asks", "answers", "states", "first", "rows", "row", "_"]) (sc := defScope s_Kind_init) (by decide +kernel)) (fun _ _ _ _ _ => (pg_name (i := 6) nd rfl (Or.inl rfl))) (fun _ _ _ _ _ => pts_nil) (fun _ _ _ _ _ => (pe_slice (slK (K := K) rSlT rfl sl_tup) (pv 6) po_none (po_some (pe_un un_neg pe_int)))) (fun _ _ _ _ _ => (pe_ix (ixK (K := K) rIxT rfl ix_tup) (pv 6) (pe_un un_neg pe_int) (fun _ _ => rfl)))) rfl)
      (pss_cons (ps_fld (pv 0) (pe_lc (own := [("_", 7)]) (tt := tYes) (g := gName 7) rfl nd (pi_range1 rfl T.f_range (pa_cons (pv 3) pa_nil)) (blkOk_by (own := [("_", 7)]) (N := ["self", "asks", "answers", "states", "first", "rows", "row", "_"]) (sc := defScope s_Kind_init) (by decide +kernel)) (fun _ _ _ _ _ => (pg_name (i := 7) nd rfl (Or.inl rfl))) (fun _ _ _ _ _ => pts_nil) (fun _ _ _ _ _ => (pe_lst pa_nil))) rfl)
      (pss_one (ps_for PassesOwn.never rfl (pi_seqF (pe_fld (pv 0) rfl)) (pg_name (i := 6) nd rfl (Or.inl rfl)) (pss_one (ps_expr (pe_bm PySem.F.plainAttrs_list PySem.F.slot_list_append PySem.F.type_list_append mt_append (pe_ix ix_list (pe_fld (pv 0) rfl) (pe_ix ix_tup (pv 6) pe_int (fun _ _ => rfl)) (fun _ _ => rfl)) (pa_cons (pe_slice sl_tup (pv 6) (po_some pe_int) po_none) pa_nil)))))))))))))))))), ?_⟩
  have ho2 := ho
  simp only [KN.ok, Bool.and_eq_true, decide_eq_true_eq] at ho
  obtain ⟨o1, o2, o3, o4, o5, o6, o7⟩ := ho
  have ns := NoSeq.ins hp
  have e0 : Ext (L2.del H p) H := ext_del
  have h1 := SqL.del h1 ns
  have h2 := SqL.del h2 ns
  have h3 := SqL.del h3 ns
  have hA := DpAll.del ns hA
  generalize hG : L2.del H p = G0 at *
  have g0 : G0 p = none := by rw [← hG, del_same]
  have q : ∀ H', Ext G0 H' → KindAt K H' p k → Q .non H' := fun H' e => q H' (.of_del (by rw [hG]; exact e))
  have lrs : rs.length = k.rows.length := by rw [DpAll.length hA, List.length_map]
  have w1 := o1
  have w2 := o2
  simp only [okWords, Bool.and_eq_true, decide_eq_true_eq] at w1 w2
  have r60 : k.rows.length ≤ 60 := by
    simp only [okRows, Bool.and_eq_true, decide_eq_true_eq] at o7
    exact o7.1
  have rB : ∀ r ∈ k.rows, r.length = 4 ∧ 0 ≤ r.getD 0 0 ∧ r.getD 0 0 < k.st := fun r hr' => by
    simp only [okRows, Bool.and_eq_true, decide_eq_true_eq] at o7
    have z := List.all_eq_true.mp o7.2.1 r hr'
    simp only [belowL, Bool.and_eq_true, decide_eq_true_eq, List.all_eq_true] at z
    obtain ⟨z1, z2⟩ := z
    match r, z1 with
    | [a, b, c, e], _ =>
      have := z2 (a, k.st) (by simp)
      refine ⟨rfl, this.1, ?_⟩
      have := this.2
      show a < k.st
      omega
  -- the checks
  refine cut_ifn (fun c H' => c = false ∧ H' p = H p ∧ Ext G0 H') (fun Q1 k1 => ?_) fun c H1 ⟨ec, ep, e1⟩ => ?_
  · dsimp only [tRet, tRetN, tSeq, tAsg, tOp, tVar, tC, tCB, tCons, tNil, tAndV, tOrV, tNotV, tAnd, tOr, tNot, tTest, tIf, tIfS, tB, tChain, tSl, tPart, tNoPart, tLst, tTup, tFld, tCl, tMt, tMk, gName, tNext, tBM, tBM0, tUn, tSub, tPar, tPar3, gTup, gCons, gNil, tDrop, tMkS, tM1, sFld, StX.tStar, tYes, gSub, cxOf, Cx.wish, Cx.nox, Cx.blk]
    exact ⟨_, rfl, a1, k.asks, 8, rfl, by decide, h1.ext e0, o1, fun H' e => ⟨_, rfl, k1 _ _ ⟨rfl, (e _ _ hp).trans hp.symm, e0.trans e⟩⟩⟩
  subst ec
  refine if_f rfl (cut_ifn (fun c H' => c = false ∧ H' p = H p ∧ Ext G0 H') (fun Q1 k1 => ?_) fun c H2 ⟨ec, ep2, e2⟩ => ?_)
  · dsimp only [tRet, tRetN, tSeq, tAsg, tOp, tVar, tC, tCB, tCons, tNil, tAndV, tOrV, tNotV, tAnd, tOr, tNot, tTest, tIf, tIfS, tB, tChain, tSl, tPart, tNoPart, tLst, tTup, tFld, tCl, tMt, tMk, gName, tNext, tBM, tBM0, tUn, tSub, tPar, tPar3, gTup, gCons, gNil, tDrop, tMkS, tM1, sFld, StX.tStar, tYes, gSub, cxOf, Cx.wish, Cx.nox, Cx.blk]
    exact ⟨_, rfl, a2, k.answers, 12, rfl, by decide, h2.ext e1, o2, fun H' e => ⟨_, rfl, k1 _ _ ⟨rfl, (e _ _ (ep.trans hp)).trans hp.symm, e1.trans e⟩⟩⟩
  subst ec
  refine if_f rfl (cut_ifn (fun c H' => c = false ∧ H' = H2) (fun Q1 k1 => ?_) fun c H3 ⟨ec, eH⟩ => ?_)
  · dsimp only [tRet, tRetN, tSeq, tAsg, tOp, tVar, tC, tCB, tCons, tNil, tAndV, tOrV, tNotV, tAnd, tOr, tNot, tTest, tIf, tIfS, tB, tChain, tSl, tPart, tNoPart, tLst, tTup, tFld, tCl, tMt, tMk, gName, tNext, tBM, tBM0, tUn, tSub, tPar, tPar3, gTup, gCons, gNil, tDrop, tMkS, tM1, sFld, StX.tStar, tYes, gSub, cxOf, Cx.wish, Cx.nox, Cx.blk]
    refine ⟨_, rfl, _, .int k.st, 1, some 60, rfl, .of (.int _), _, rfl, k1 _ _ ⟨?_, rfl⟩⟩
    simp [within, o3, o4]
  subst ec eH
  refine if_f rfl (cut_ifn (fun c H' => c = false ∧ H' = H3) (fun Q1 k1 => ?_) fun c H4 ⟨ec, eH⟩ => ?_)
  · dsimp only [tRet, tRetN, tSeq, tAsg, tOp, tVar, tC, tCB, tCons, tNil, tAndV, tOrV, tNotV, tAnd, tOr, tNot, tTest, tIf, tIfS, tB, tChain, tSl, tPart, tNoPart, tLst, tTup, tFld, tCl, tMt, tMk, gName, tNext, tBM, tBM0, tUn, tSub, tPar, tPar3, gTup, gCons, gNil, tDrop, tMkS, tM1, sFld, StX.tStar, tYes, gSub, cxOf, Cx.wish, Cx.nox, Cx.blk]
    refine ⟨_, rfl, _, rfl, _, _, rfl, rfl, _, .int k.fi, 0, some (k.st - 1), rfl, .of (.int _), _, rfl, k1 _ _ ⟨?_, rfl⟩⟩
    simp [within, o5, o6]
  subst ec eH
  refine if_f rfl (cut_ifn (fun c H' => c = false ∧ H' p = H p ∧ Ext G0 H') (fun Q1 k1 => ?_) fun c H5 ⟨ec, ep5, e5⟩ => ?_)
  · dsimp only [tRet, tRetN, tSeq, tAsg, tOp, tVar, tC, tCB, tCons, tNil, tAndV, tOrV, tNotV, tAnd, tOr, tNot, tTest, tIf, tIfS, tB, tChain, tSl, tPart, tNoPart, tLst, tTup, tFld, tCl, tMt, tMk, gName, tNext, tBM, tBM0, tUn, tSub, tPar, tPar3, gTup, gCons, gNil, tDrop, tMkS, tM1, sFld, StX.tStar, tYes, gSub, cxOf, Cx.wish, Cx.nox, Cx.blk]
    refine ⟨_, rfl, _, rfl, _, rfl, a1, _, rfl, .inl (h1.ext e2), _, rfl, a2, _, rfl, .inl (h2.ext e2), _, rfl, by show 4 ≤ sizeLine; decide, fun t ht => ?_⟩
    have et : Ext G0 (upd H4 t (.tup [.int k.st, .int (k.asks.map V.str).length, .int (k.answers.map V.str).length, .int k.st])) := e2.trans (Ext.upd ht)
    refine ⟨a3, rs, k.rows, t, k.st, (k.asks.map V.str).length, (k.answers.map V.str).length, rfl, h3.ext et, DpAll.ext et hA, SqT.of upd_same, by omega, by omega, ?_, fun H' e => ⟨_, rfl, k1 _ _ ⟨rfl, ?_, et.trans e⟩⟩⟩
    · rw [List.length_map, List.length_map]
      exact o7
    · rw [e _ _ ((upd_ne (ne_of_none (ep2.trans hp) ht)).trans (ep2.trans hp)), hp]
  subst ec
  refine if_f rfl ?_
  -- asks, answers, states, first
  have hp5 : H5 p = some (.ins (CK K) dx []) := ep5.trans hp
  let σ0 : L2.St := [some (.ref p), some (.ref a1), some (.ref a2), some (.int k.st), some (.int k.fi), some (.ref a3), none, none]
  refine cut_tseq (fun σ' H' => ∃ p1, σ' = σ0 ∧ H' p = some (.ins (CK K) dx [("asks", .ref p1)]) ∧ Ext G0 H' ∧ SqT K (L2.del H' p) p1 (k.asks.map V.str)) (fun D1 k1 => ?_) fun σ' H6 ⟨p1, eσ, hp6, e6, t1⟩ => ?_
  · dsimp only [tRet, tRetN, tSeq, tAsg, tOp, tVar, tC, tCB, tCons, tNil, tAndV, tOrV, tNotV, tAnd, tOr, tNot, tTest, tIf, tIfS, tB, tChain, tSl, tPart, tNoPart, tLst, tTup, tFld, tCl, tMt, tMk, gName, tNext, tBM, tBM0, tUn, tSub, tPar, tPar3, gTup, gCons, gNil, tDrop, tMkS, tM1, sFld, StX.tStar, tYes, gSub, cxOf, Cx.wish, Cx.nox, Cx.blk]
    refine ⟨_, rfl, a1, _, rfl, .inl ⟨h1.ext e5, fun t ht => ⟨_, rfl, p, CK K, dx, [], rfl, ?_, T.cl_Kind, T.na_Kind_asks, by show 0 < 1000; decide, k1 _ _ ⟨t, rfl, upd_same, ?_, SqT.of ?_⟩⟩⟩⟩
    · rw [upd_ne (ne_of_none hp5 ht)]
      exact hp5
    · intro b o hb
      rw [upd_ne (fun z => by rw [z, g0] at hb; cases hb)]
      exact Ext.upd ht _ _ (e5 _ _ hb)
    · have c : t ≠ p := fun z => by rw [z, hp5] at ht; cases ht
      rw [del_ne c, upd_ne c, upd_same]
  subst eσ
  refine cut_tseq (fun σ' H' => ∃ p2, σ' = σ0 ∧ H' p = some (.ins (CK K) dx [("asks", .ref p1), ("answers", .ref p2)]) ∧ Ext G0 H' ∧ Ext (L2.del H6 p) (L2.del H' p) ∧ SqT K (L2.del H' p) p2 (k.answers.map V.str)) (fun D1 k1 => ?_) fun σ' H7 ⟨p2, eσ, hp7, e7, e67, t2⟩ => ?_
  · dsimp only [tRet, tRetN, tSeq, tAsg, tOp, tVar, tC, tCB, tCons, tNil, tAndV, tOrV, tNotV, tAnd, tOr, tNot, tTest, tIf, tIfS, tB, tChain, tSl, tPart, tNoPart, tLst, tTup, tFld, tCl, tMt, tMk, gName, tNext, tBM, tBM0, tUn, tSub, tPar, tPar3, gTup, gCons, gNil, tDrop, tMkS, tM1, sFld, StX.tStar, tYes, gSub, cxOf, Cx.wish, Cx.nox, Cx.blk]
    refine ⟨_, rfl, a2, _, rfl, .inl ⟨h2.ext e6, fun t ht => ⟨_, rfl, p, CK K, dx, _, rfl, (upd_ne (ne_of_none hp6 ht)).trans hp6, T.cl_Kind, T.na_Kind_answers, by show 1 < 1000; decide, k1 _ _ ⟨t, rfl, upd_same, ?_, ?_, SqT.of ?_⟩⟩⟩⟩
    · intro b o hb
      rw [upd_ne (fun z => by rw [z, g0] at hb; cases hb)]
      exact Ext.upd ht _ _ (e6 _ _ hb)
    · exact ExtP.dels ((ExtP.of (Ext.upd ht)).trans (extP_upd _ _ _))
    · have c : t ≠ p := fun z => by rw [z, hp6] at ht; cases ht
      rw [del_ne c, upd_ne c, upd_same]
  subst eσ
  have t1 := t1.ext e67
  refine cut_tseq (fun σ' H' => σ' = σ0 ∧ H' p = some (.ins (CK K) dx [("asks", .ref p1), ("answers", .ref p2), ("states", .int k.st)]) ∧ Ext G0 H' ∧ Ext (L2.del H7 p) (L2.del H' p)) (fun D1 k1 => ?_) fun σ' H8 ⟨eσ, hp8, e8, e78⟩ => ?_
  · dsimp only [tRet, tRetN, tSeq, tAsg, tOp, tVar, tC, tCB, tCons, tNil, tAndV, tOrV, tNotV, tAnd, tOr, tNot, tTest, tIf, tIfS, tB, tChain, tSl, tPart, tNoPart, tLst, tTup, tFld, tCl, tMt, tMk, gName, tNext, tBM, tBM0, tUn, tSub, tPar, tPar3, gTup, gCons, gNil, tDrop, tMkS, tM1, sFld, StX.tStar, tYes, gSub, cxOf, Cx.wish, Cx.nox, Cx.blk]
    refine ⟨_, rfl, _, rfl, p, CK K, dx, _, rfl, hp7, T.cl_Kind, T.na_Kind_states, by show 2 < 1000; decide, k1 _ _ ⟨rfl, upd_same, ?_, ExtP.dels (extP_upd _ _ _)⟩⟩
    intro b o hb
    rw [upd_ne (fun z => by rw [z, g0] at hb; cases hb)]
    exact e7 _ _ hb
  subst eσ
  refine cut_tseq (fun σ' H' => σ' = σ0 ∧ H' p = some (.ins (CK K) dx [("asks", .ref p1), ("answers", .ref p2), ("states", .int k.st), ("first", .int k.fi)]) ∧ Ext G0 H' ∧ Ext (L2.del H8 p) (L2.del H' p)) (fun D1 k1 => ?_) fun σ' H9 ⟨eσ, hp9, e9, e89⟩ => ?_
  · dsimp only [tRet, tRetN, tSeq, tAsg, tOp, tVar, tC, tCB, tCons, tNil, tAndV, tOrV, tNotV, tAnd, tOr, tNot, tTest, tIf, tIfS, tB, tChain, tSl, tPart, tNoPart, tLst, tTup, tFld, tCl, tMt, tMk, gName, tNext, tBM, tBM0, tUn, tSub, tPar, tPar3, gTup, gCons, gNil, tDrop, tMkS, tM1, sFld, StX.tStar, tYes, gSub, cxOf, Cx.wish, Cx.nox, Cx.blk]
    refine ⟨_, rfl, _, rfl, p, CK K, dx, _, rfl, hp8, T.cl_Kind, T.na_Kind_first, by show 3 < 1000; decide, k1 _ _ ⟨rfl, upd_same, ?_, ExtP.dels (extP_upd _ _ _)⟩⟩
    intro b o hb
    rw [upd_ne (fun z => by rw [z, g0] at hb; cases hb)]
    exact e8 _ _ hb
  subst eσ
  have t1 := t1.ext (e78.trans e89)
  have t2 := t2.ext (e78.trans e89)
  -- rows
  refine cut_tseq (fun σ' H' => ∃ p3, σ' = σ0 ∧ H' p = some (.ins (CK K) dx [("asks", .ref p1), ("answers", .ref p2), ("states", .int k.st), ("first", .int k.fi), ("rows", .ref p3)]) ∧ Ext G0 H' ∧ Ext (L2.del H9 p) (L2.del H' p) ∧ SqT K (L2.del H' p) p3 rs) (fun D1 k1 => ?_) fun σ' H10 ⟨p3, eσ, hp10, e10, e910, t3⟩ => ?_
  · dsimp only [tRet, tRetN, tSeq, tAsg, tOp, tVar, tC, tCB, tCons, tNil, tAndV, tOrV, tNotV, tAnd, tOr, tNot, tTest, tIf, tIfS, tB, tChain, tSl, tPart, tNoPart, tLst, tTup, tFld, tCl, tMt, tMk, gName, tNext, tBM, tBM0, tUn, tSub, tPar, tPar3, gTup, gCons, gNil, tDrop, tMkS, tM1, sFld, StX.tStar, tYes, gSub, cxOf, Cx.wish, Cx.nox, Cx.blk]
    refine ⟨_, rfl, true, a3, rs, rfl, h3.ext e9, fun D hD => ?_⟩
    refine lc_rel walk_seqF (R := fun i y G => rs[i]? = some y) hD (fun i y G G' e x => x) (small_of (m := 60) (by omega)) (fun H e => h3.ext (e9.trans e)) (fun i H x H' y => by rw [y.1]; exact Ext.rfl') ?_ ?_
    · rintro i x G G' hi e nz ⟨rfl, hx1⟩ Q2 k2
      obtain ⟨r, t, hr', rfl, ht⟩ := rows_at hA hx1
      dsimp only [tRet, tRetN, tSeq, tAsg, tOp, tVar, tC, tCB, tCons, tNil, tAndV, tOrV, tNotV, tAnd, tOr, tNot, tTest, tIf, tIfS, tB, tChain, tSl, tPart, tNoPart, tLst, tTup, tFld, tCl, tMt, tMk, gName, tNext, tBM, tBM0, tUn, tSub, tPar, tPar3, gTup, gCons, gNil, tDrop, tMkS, tM1, sFld, StX.tStar, tYes, gSub, cxOf, Cx.wish, Cx.nox, Cx.blk]
      exact ⟨rfl, _, rfl, t, _, rfl, .inr ⟨ht.ext (e9.trans (e.trans ext_del)), k2 _ _ Ext.rfl' hx1⟩⟩
    · intro ys G hz1 hz2 e hDy
      have ey : ys = rs := by
        refine List.ext_getElem? fun i => ?_
        cases ei : ys[i]? with
        | none =>
          have := List.getElem?_eq_none_iff.mp ei
          rw [List.getElem?_eq_none (by omega)]
        | some y => exact (hz2 i y ei).symm
      subst ey
      have hpG : G p = some _ := e _ _ hp9
      refine ⟨D, _, rfl, .inl ⟨SqL.of hDy, fun t ht => ⟨_, rfl, p, CK K, dx, _, rfl, (upd_ne (ne_of_none hpG ht)).trans hpG, T.cl_Kind, T.na_Kind_rows, by show 4 < 1000; decide, k1 _ _ ⟨t, rfl, upd_same, ?_, ?_, SqT.of ?_⟩⟩⟩⟩
      · intro b o hb
        rw [upd_ne (fun z => by rw [z, g0] at hb; cases hb)]
        exact Ext.upd ht _ _ (e _ _ (e9 _ _ hb))
      · exact ExtP.dels ((ExtP.of (e.trans (Ext.upd ht))).trans (extP_upd _ _ _))
      · have c : t ≠ p := fun z => by rw [z, hpG] at ht; cases ht
        rw [del_ne c, upd_ne c, upd_same]
  subst eσ
  have t1 := t1.ext e910
  have t2 := t2.ext e910
  -- led
  refine cut_tseq (fun σ' H' => ∃ p4, σ' = σ0 ∧ H' p = some (.ins (CK K) dx [("asks", .ref p1), ("answers", .ref p2), ("states", .int k.st), ("first", .int k.fi), ("rows", .ref p3), ("led", .ref p4)]) ∧ Ext G0 H' ∧ Ext (L2.del H10 p) (L2.del H' p)) (fun D1 k1 => ?_) fun σ' H11 ⟨p4, eσ, hp11, e11, e1011⟩ => ?_
  · dsimp only [tRet, tRetN, tSeq, tAsg, tOp, tVar, tC, tCB, tCons, tNil, tAndV, tOrV, tNotV, tAnd, tOr, tNot, tTest, tIf, tIfS, tB, tChain, tSl, tPart, tNoPart, tLst, tTup, tFld, tCl, tMt, tMk, gName, tNext, tBM, tBM0, tUn, tSub, tPar, tPar3, gTup, gCons, gNil, tDrop, tMkS, tM1, sFld, StX.tStar, tYes, gSub, cxOf, Cx.wish, Cx.nox, Cx.blk]
    have hA10 : DpAll K H10 rs (k.rows.map rowD) := DpAll.ext e10 hA
    refine ⟨_, rfl, p, CK K, dx, _, _, rfl, hp10, T.cl_Kind, T.na_Kind_rows, rfl, false, p3, rs, rfl, t3.ext ext_del, fun D hD => ?_⟩
    refine turns_it walk_seqF (fun i G => ∃ kvs : List (List L2.Key × V), G D = some (.dT kvs) ∧ kvs.length ≤ i ∧ Ext H10 (L2.del G D)) ⟨[], upd_same, Nat.le_refl _, ext_off (Ext.upd hD) hD⟩ (fun i G _ ⟨_, _, _, e⟩ => (show SqF K false H10 p3 rs from t3.ext ext_del).ext (e.trans ext_del)) ?_ ?_
    · rintro i x G G' hi ⟨kvs, hD', ll, e⟩ ⟨rfl, hx1⟩
      obtain ⟨r, t, hr', rfl, ht⟩ := rows_at hA10 hx1
      obtain ⟨l4, _⟩ := rB r (List.mem_of_getElem? hr')
      have lr : (r.map V.int).length = 4 := by rw [List.length_map]; exact l4
      dsimp only [tRet, tRetN, tSeq, tAsg, tOp, tVar, tC, tCB, tCons, tNil, tAndV, tOrV, tNotV, tAnd, tOr, tNot, tTest, tIf, tIfS, tB, tChain, tSl, tPart, tNoPart, tLst, tTup, tFld, tCl, tMt, tMk, gName, tNext, tBM, tBM0, tUn, tSub, tPar, tPar3, gTup, gCons, gNil, tDrop, tMkS, tM1, sFld, StX.tStar, tYes, gSub, cxOf, Cx.wish, Cx.nox, Cx.blk]
      have eG : Ext H10 G' := e.trans ext_del
      refine ⟨rfl, _, rfl, _, rfl, _, rfl, t, _, rfl, ht.ext eG, not_whole (fun z => by rw [z] at lr; cases lr), fun t2 ht2 => ?_⟩
      have c : t2 ≠ D := fun z => by rw [z, hD'] at ht2; cases ht2
      refine ⟨_, rfl, _, rfl, t, _, _, _, rfl, rfl, ht.ext (eG.trans (Ext.upd ht2)), at_lastI (d := 0) l4, kvs, (r.take 3).map Sum.inl, t2, rfl, ?_, ?_, small_of (m := 60) (by omega), putK kvs _ _, upd_same, ?_, ?_⟩
      · rw [upd_ne c.symm]
        exact hD'
      · rw [upd_same, cut_last, lr, ← List.map_take, List.map_map]
        rfl
      · have := length_putK kvs ((r.take 3).map Sum.inl) (V.int (r.getD 3 0))
        omega
      · intro b o hb
        have c2 : b ≠ D := fun z => by rw [z, hD] at hb; cases hb
        rw [del_ne c2, upd_ne c2]
        exact Ext.upd ht2 _ _ (eG _ _ hb)
    · rintro G ⟨kvs, hD', ll, e⟩
      have hpG : G p = some _ := (e.trans ext_del) _ _ hp10
      refine ⟨_, rfl, p, CK K, dx, _, rfl, hpG, T.cl_Kind, T.na_Kind_led, by show 5 < 1000; decide, k1 _ _ ⟨D, rfl, upd_same, ?_, ?_⟩⟩
      · intro b o hb
        rw [upd_ne (fun z => by rw [z, g0] at hb; cases hb)]
        exact (e.trans ext_del) _ _ (e10 _ _ hb)
      · exact ExtP.dels ((ExtP.of (e.trans ext_del)).trans (extP_upd _ _ _))
  subst eσ
  have t1 := t1.ext e1011
  have t2 := t2.ext e1011
  have t3 := t3.ext e1011
  -- moves
  refine cut_tseq (fun σ' H' => ∃ p5 ms, σ' = σ0 ∧ H' p = some (.ins (CK K) dx [("asks", .ref p1), ("answers", .ref p2), ("states", .int k.st), ("first", .int k.fi), ("rows", .ref p3), ("led", .ref p4), ("moves", .ref p5)]) ∧ Ext G0 H' ∧ Ext (L2.del H11 p) (L2.del H' p) ∧ H' p5 = some (.lst ms) ∧ ms.length = k.st.toNat ∧
    ∀ (i : Nat) y, ms[i]? = some y → ∃ m, y = .ref m ∧ H' m = some (.lst []) ∧ H11 m = none ∧ m ≠ p5) (fun D1 k1 => ?_) fun σ' H12 ⟨p5, ms, eσ, hp12, e12, e1112, hm5, lm, hms⟩ => ?_
  · dsimp only [tRet, tRetN, tSeq, tAsg, tOp, tVar, tC, tCB, tCons, tNil, tAndV, tOrV, tNotV, tAnd, tOr, tNot, tTest, tIf, tIfS, tB, tChain, tSl, tPart, tNoPart, tLst, tTup, tFld, tCl, tMt, tMk, gName, tNext, tBM, tBM0, tUn, tSub, tPar, tPar3, gTup, gCons, gNil, tDrop, tMkS, tM1, sFld, StX.tStar, tYes, gSub, cxOf, Cx.wish, Cx.nox, Cx.blk]
    refine ⟨_, rfl, _, rfl, by omega, by omega, fun D hD => ?_⟩
    refine lc_rel (walk_range (n := k.st.toNat)) (R := fun i y G => ∃ m, y = .ref m ∧ G m = some (.lst []) ∧ H11 m = none) hD (fun i y G G' e ⟨m, x1, x2, x3⟩ => ⟨m, x1, e _ _ x2, x3⟩) (small_of (m := 60) (by omega)) (fun _ _ => trivial) (fun i H x H' y => by rw [y.1]; exact Ext.rfl') ?_ ?_
    · rintro i x G G' hi e nz ⟨rfl, rfl⟩ Q2 k2
      dsimp only [tRet, tRetN, tSeq, tAsg, tOp, tVar, tC, tCB, tCons, tNil, tAndV, tOrV, tNotV, tAnd, tOr, tNot, tTest, tIf, tIfS, tB, tChain, tSl, tPart, tNoPart, tLst, tTup, tFld, tCl, tMt, tMk, gName, tNext, tBM, tBM0, tUn, tSub, tPar, tPar3, gTup, gCons, gNil, tDrop, tMkS, tM1, sFld, StX.tStar, tYes, gSub, cxOf, Cx.wish, Cx.nox, Cx.blk]
      refine ⟨rfl, Nat.zero_le _, fun m hm => k2 _ _ (Ext.upd hm) ⟨m, rfl, ?_, none_of (e.trans ext_del) hm⟩⟩
      have c : m ≠ D := fun z => nz (by rw [← z]; exact hm)
      rw [del_ne c, upd_same]
    · intro ys G hz1 hz2 e hDy
      have hpG : G p = some _ := e _ _ hp11
      refine ⟨_, rfl, p, CK K, dx, _, rfl, hpG, T.cl_Kind, T.na_Kind_moves, by show 6 < 1000; decide, k1 _ _ ⟨D, ys, rfl, upd_same, ?_, ?_, ?_, hz1, fun i y hy => ?_⟩⟩
      · intro b o hb
        rw [upd_ne (fun z => by rw [z, g0] at hb; cases hb)]
        exact e _ _ (e11 _ _ hb)
      · exact ExtP.dels ((ExtP.of e).trans (extP_upd _ _ _))
      · have c : D ≠ p := fun z => by rw [z, hp11] at hD; cases hD
        rw [upd_ne c]
        exact hDy
      · obtain ⟨m, rfl, x2, x3⟩ := hz2 i y hy
        have c : m ≠ D := fun z => by rw [z, del_same] at x2; cases x2
        have c2 : m ≠ p := fun z => by rw [z, hp11] at x3; cases x3
        refine ⟨m, rfl, ?_, x3, c⟩
        rw [upd_ne c2]
        rw [del_ne c] at x2
        exact x2
  subst eσ
  -- the loop
  have eF : ∀ b o, L2.del H11 p b = some o → delL H12 ms b = some o := fun b o h => by
    have c : b ≠ p := fun z => by rw [z, del_same] at h; cases h
    refine delL_some (fun z => ?_) (by have := e1112 b o h; rw [del_ne c] at this; exact this)
    obtain ⟨i, hi⟩ := List.getElem?_of_mem z
    obtain ⟨m, e, _, x3, _⟩ := hms i _ hi
    cases e
    rw [del_ne c] at h
    rw [h] at x3
    cases x3
  have pF : delL H12 ms p = some _ := delL_some (fun z => by
    obtain ⟨i, hi⟩ := List.getElem?_of_mem z
    obtain ⟨m, e, x2, _⟩ := hms i _ hi
    cases e
    rw [hp12] at x2
    cases x2) hp12
  have mF : delL H12 ms p5 = some (.lst ms) := delL_some (fun z => by
    obtain ⟨i, hi⟩ := List.getElem?_of_mem z
    obtain ⟨m, e, _, _, x4⟩ := hms i _ hi
    cases e
    exact x4 rfl) hm5
  have e0F : Ext G0 (delL H12 ms) := fun b o h => eF b o (by rw [del_ne (fun z => by rw [z, g0] at h; cases h)]; exact e11 _ _ h)
  have t1 := (t1.ext (show Ext (L2.del H11 p) (delL H12 ms) from eF))
  have t2 := (t2.ext (show Ext (L2.del H11 p) (delL H12 ms) from eF))
  have t3 := (t3.ext (show Ext (L2.del H11 p) (delL H12 ms) from eF))
  dsimp only [tRet, tRetN, tSeq, tAsg, tOp, tVar, tC, tCB, tCons, tNil, tAndV, tOrV, tNotV, tAnd, tOr, tNot, tTest, tIf, tIfS, tB, tChain, tSl, tPart, tNoPart, tLst, tTup, tFld, tCl, tMt, tMk, gName, tNext, tBM, tBM0, tUn, tSub, tPar, tPar3, gTup, gCons, gNil, tDrop, tMkS, tM1, sFld, StX.tStar, tYes, gSub, cxOf, Cx.wish, Cx.nox, Cx.blk]
  refine ⟨_, rfl, p, CK K, dx, _, _, rfl, hp12, T.cl_Kind, T.na_Kind_rows, rfl, false, p3, rs, rfl, t3.ext delL_ext, ?_⟩
  refine for_it walk_seqF (fun i σ' G => (∃ r, σ' = [some (.ref p), some (.ref a1), some (.ref a2), some (.int k.st), some (.int k.fi), some (.ref a3), r, none]) ∧ Ext (delL H12 ms) G ∧ ∀ (j : Nat) y, ms[j]? = some y → ∃ m l, y = .ref m ∧ G m = some (.lst l) ∧ l.length ≤ i) ⟨⟨none, rfl⟩, delL_ext, fun j y hy => ?_⟩ (fun i σ' G _ ⟨_, e, _⟩ => (show SqF K false (delL H12 ms) p3 rs from t3).ext e) ?_ ?_
  · obtain ⟨m, rfl, x2, _⟩ := hms j y hy
    exact ⟨m, [], rfl, x2, Nat.le_refl _⟩
  · rintro i x σ' G G' hi ⟨⟨r0, rfl⟩, e, hl⟩ ⟨rfl, hx1⟩
    obtain ⟨r, t, hr', rfl, ht⟩ := rows_at hA hx1
    obtain ⟨l4, b0, b1⟩ := rB r (List.mem_of_getElem? hr')
    have lr : (r.map V.int).length = 4 := by rw [List.length_map]; exact l4
    have htG : SqT K G' t (r.map V.int) := ht.ext (e0F.trans e)
    obtain ⟨j, hj⟩ := Int.eq_ofNat_of_zero_le b0
    have hjl : j < ms.length := by omega
    obtain ⟨m, l, em, hm, ll⟩ := hl j ms[j] (List.getElem?_eq_getElem hjl)
    have hr0 : atI (r.map V.int) 0 = some (.int (j : Nat)) := by
      match r, l4 with
      | [a, b, c, d], _ =>
        have hj : a = (j : Int) := hj
        rw [hj]
        rfl
    have hmem : (V.ref m) ∈ ms := by rw [← em]; exact List.getElem_mem hjl
    dsimp only [tRet, tRetN, tSeq, tAsg, tOp, tVar, tC, tCB, tCons, tNil, tAndV, tOrV, tNotV, tAnd, tOr, tNot, tTest, tIf, tIfS, tB, tChain, tSl, tPart, tNoPart, tLst, tTup, tFld, tCl, tMt, tMk, gName, tNext, tBM, tBM0, tUn, tSub, tPar, tPar3, gTup, gCons, gNil, tDrop, tMkS, tM1, sFld, StX.tStar, tYes, gSub, cxOf, Cx.wish, Cx.nox, Cx.blk]
    refine ⟨_, rfl, p, CK K, dx, _, _, rfl, e _ _ pF, T.cl_Kind, T.na_Kind_moves, rfl, _, rfl, t, _, 0, .int (j : Nat), rfl, rfl, htG, hr0, p5, ms, (j : Nat), .ref m, rfl, rfl, SqL.of (e _ _ mF), atI_nat (by rw [List.getElem?_eq_getElem hjl, em]), ?_⟩
    refine ⟨.inl ⟨rfl, _, SqL.of hm⟩, _, rfl, _, rfl, t, _, rfl, htG, not_from1 (fun z => by rw [z] at lr; cases lr), fun t2 ht2 => ⟨m, l, .ref t2, rfl, rfl, ?_, small_of (m := 60) (by omega), ⟨_, rfl⟩, fun b o hb => ?_, fun j2 y hy => ?_⟩⟩
    · rw [upd_ne (ne_of_none hm ht2)]
      exact hm
    · have c : b ≠ m := fun z => (delL_out hb) (by rw [z]; exact hmem)
      rw [upd_ne c]
      exact Ext.upd ht2 _ _ (e _ _ hb)
    · obtain ⟨m2, l2, rfl, hm2, ll2⟩ := hl j2 y hy
      by_cases c : m2 = m
      · subst c
        rw [hm] at hm2
        cases hm2
        exact ⟨m2, _, rfl, upd_same, by rw [List.length_append, List.length_singleton]; omega⟩
      · refine ⟨m2, l2, rfl, ?_, by omega⟩
        rw [upd_ne c, upd_ne (ne_of_none hm2 ht2)]
        exact hm2
  · rintro σ' G ⟨_, e, _⟩
    refine q _ (e0F.trans e) ⟨dx, p1, p2, p3, p4, p5, e _ _ pF, t1.ext e, t2.ext e, ⟨rs, t3.ext e, DpAll.ext (e0F.trans e) hA⟩, ho2⟩
end
end K81

end
section
/-! K81e: a kind's text. -/
namespace K81
open PySem L2 Ow
open PySem.Spec PyProof.Rows
/-- str(x), x a text or a number -/
def rStrAny : List V → Hp → VK → Prop := fun xs H Q => (∃ a, xs = [.str a] ∧ Q (.str a) H) ∨ ∃ i : Int, xs = [.int i] ∧ i.natAbs.log2 < 1920 ∧ Q (.str (toString i)) H
theorem call_str_any {X : Cx} : CallR X (.type "str") rStrAny := by
  intro pins s σ H xs us Q I r h
  rcases h with ⟨a, e, q⟩ | ⟨i, e, hl, q⟩
  · exact SkE.call_str_str pins s σ H xs us Q I r ⟨a, e, q⟩
  · exact call_str_int pins s σ H xs us Q I r ⟨i, e, hl, q⟩
abbrev rJoinT (K : W.Frag) : V → List V → Hp → VK → Prop := fun x xs H Q => ∃ a p, ∃ ys : List Str, x = .str a ∧ xs = [.ref p] ∧ (SqL K H p (ys.map V.str) ∨ SqT K H p (ys.map V.str)) ∧ (ys.map (·.length)).sum + ys.length * a.length ≤ 16777216 ∧ Q (.str (Txt.join a ys)) H
theorem pe_joinK {X : Cx} {K : W.Frag} {o e : Expr} {to te : TE} {apos pos : Pos} (hK : X.K = K) (ho : PE X o to) (he : PE X e te) (hs : starEach [e] X.env = [(false, eval e X.env)] := by rfl) (hbase : attributeBase o "join" X.env (eval o X.env) = eval o X.env := by rfl) (hline : (apos.endLine == pos.line) = true := by rfl) :
    PE X (.Call (.Attribute o "join" apos) [e] [] pos) (tM1 (rJoinT K) to te) := by
  subst hK
  exact pe_join ho he hs hbase hline
/-- an item's text -/
def itemText : PyData → List Nat
  | .str x => x.cps.toList
  | .int i => TL.numL i.toNat
  | _ => []
/-- an item that has one: a text, not too long, or a number from 0 on, not too great -/
def itemOk : PyData → Prop
  | .str x => x.length ≤ 1000
  | .int i => 0 ≤ i ∧ i.toNat < 10 ^ 60
  | _ => False
def stepText (ds : List PyData) : List Nat := TL.joinL [32] (ds.map itemText)
def scriptText (ds : List PyData) : List Nat := TL.joinL [32, 47, 32] (ds.map fun d => stepText (dItems d))
theorem itemText_len {d : PyData} (h : itemOk d) : (itemText d).length ≤ 1000 := by
  cases d with
  | str x => exact h
  | int i => exact Nat.le_trans (TL.numL_len (k := 60) (by decide) h.2) (by decide)
  | _ => exact h.elim
theorem small_log {n : Nat} (h : n < 10 ^ 60) : n.log2 < 1920 := by
  have h2 : n < 2 ^ 200 := Nat.lt_of_lt_of_le h (by decide)
  by_cases c : n = 0
  · subst c
    decide
  · have := (Nat.log2_lt c).mpr h2
    omega
theorem sum_le {l : List Nat} {k : Nat} (h : ∀ n ∈ l, n ≤ k) : l.sum ≤ l.length * k := by
  induction l with
  | nil => simp
  | cons a r ih =>
    have h1 := h a List.mem_cons_self
    have h2 := ih fun n hn => h n (List.mem_cons_of_mem _ hn)
    rw [List.sum_cons, List.length_cons, Nat.add_mul]
    omega
theorem joinL_len (sep : List Nat) : ∀ (l : List (List Nat)), (TL.joinL sep l).length ≤ (l.map (·.length)).sum + l.length * sep.length
  | [] => Nat.zero_le _
  | [p] => by
    show p.length ≤ _
    simp
  | p :: q :: r => by
    have ih := joinL_len sep (q :: r)
    show (p ++ (sep ++ TL.joinL sep (q :: r))).length ≤ _
    rw [List.length_append, List.length_append, List.map_cons, List.sum_cons, List.length_cons, Nat.add_mul]
    omega
theorem stepText_len {ds : List PyData} (h : ∀ d ∈ ds, itemOk d) (hl : ds.length ≤ 20) : (stepText ds).length ≤ 20020 := by
  unfold stepText
  have h1 := joinL_len [32] (ds.map itemText)
  have h2 := sum_le (l := (ds.map itemText).map (·.length)) (k := 1000) (fun n hn => by
    obtain ⟨x, hx, rfl⟩ := List.mem_map.mp hn
    obtain ⟨d, hd, rfl⟩ := List.mem_map.mp hx
    exact itemText_len (h d hd))
  simp only [List.length_map, List.length_singleton] at h1 h2
  omega
section
variable {K : W.Frag} {H : Hp} {σ : L2.St} {b c : Nat} {a : Addr} {fl : Bool} {xs : List V} {ds : List PyData} {Q : VK}
theorem wipe1 {x : Option V} : wipe ((wipe σ [c]).set c x) [c] = wipe σ [c] := by
  show ((σ.set c none).set c x).set c none = σ.set c none
  rw [List.set_set, List.set_set]
/-- ' '.join([str(item) for item in step]) -/
theorem step_rd (hb : σ[b]? = some (some (.ref a))) (hc : c < σ.length) (h : SqF K fl H a xs) (hA : DpAll K H xs ds) (hok : ∀ d ∈ ds, itemOk d) (hl : ds.length ≤ 1000) (q : ∀ H', Ext H H' → Q (.str (S (stepText ds))) H') :
    tM1 (rJoinT K) (tC (.str " ")) (tLc (iSeqF K (tVar b)) (gName c) tYes (tCB rStrAny (tCons (tVar c) tNil)) [c]) σ H Q := by
  have hlen : xs.length = ds.length := DpAll.length hA
  refine ⟨⟨_, rfl⟩, _, hb, fl, a, xs, rfl, h, fun D hD => ?_⟩
  refine lc_scal walk_seqF (R := fun i y => ∃ d, ds[i]? = some d ∧ y = .str (S (itemText d))) hD (small1000 (by omega)) (fun H e => h.ext e) (fun i H x H' y => by rw [y.1]; exact Ext.rfl') ?_ ?_
  · rintro i x G G' hi e ⟨rfl, hx1⟩ Q2 k2
    obtain ⟨d, hd, hp⟩ := DpAll.getV hA hx1
    have ho := hok d (List.mem_of_getElem? hd)
    refine ⟨wipe1, x, ?_, ?_⟩
    · rw [List.getElem?_set_self (by rw [wipe_length]; exact hc)]
    · cases d with
      | str z =>
        have ex := Dp.strV hp
        subst ex
        exact .inl ⟨z, rfl, k2 _ _ Ext.rfl' ⟨_, hd, by rw [itemText, ← S_of]⟩⟩
      | int i =>
        have ex := Dp.intV hp
        subst ex
        obtain ⟨h0, h1⟩ := ho
        refine .inr ⟨i, rfl, ?_, k2 _ _ Ext.rfl' ⟨_, hd, ?_⟩⟩
        · exact small_log (by omega)
        · obtain ⟨n, rfl⟩ := Int.eq_ofNat_of_zero_le h0
          rw [itemText, Int.toNat_natCast]
          exact congrArg V.str (SX.num_S n)
      | _ => exact ho.elim
  · intro zs G hz1 hz2 e hDz
    have ez : zs = ((ds.map itemText).map S).map V.str := by
      rw [List.map_map, List.map_map]
      exact map_of (by rw [hz1, hlen]) hz2
    subst ez
    refine ⟨S [32], D, (ds.map itemText).map S, congrArg V.str (by decide +kernel), rfl, .inl (SqL.of hDz), ?_, ?_⟩
    · have h2 := sum_le (l := ((ds.map itemText).map S).map (·.length)) (k := 1000) (fun n hn => by
        obtain ⟨x, hx, rfl⟩ := List.mem_map.mp hn
        obtain ⟨y, hy, rfl⟩ := List.mem_map.mp hx
        obtain ⟨d, hd, rfl⟩ := List.mem_map.mp hy
        rw [S_len]
        exact itemText_len (hok d hd))
      simp only [List.length_map, S_len, List.length_singleton] at h2 ⊢
      omega
    · rw [SX.join_S]
      exact q G e
/-- sep.join([' '.join([str(item) for item in step]) for step in script]) -/
theorem script_rd {sep : Str} {b : Nat} {te : TE} (hsep : sep = S [32, 47, 32]) (ht : ∀ Q : VK, Q (.str sep) H → te σ H Q) (hb : σ[b]? = some (some (.ref a))) {c d : Nat} (hc : c < σ.length) (hd : d < σ.length) (h : SqF K fl H a xs) (hA : DpAll K H xs ds)
    (hok : ∀ e ∈ ds, dSeq e = true ∧ (dItems e).length ≤ 20 ∧ ∀ x ∈ dItems e, itemOk x) (hl : ds.length ≤ 100) (q : ∀ H', Ext H H' → Q (.str (S (scriptText ds))) H') :
    tM1 (rJoinT K) te (tLc (iSeqF K (tVar b)) (gName c) tYes (tM1 (rJoinT K) (tC (.str " ")) (tLc (iSeqF K (tVar c)) (gName d) tYes (tCB rStrAny (tCons (tVar d) tNil)) [d])) [c]) σ H Q := by
  have hlen : xs.length = ds.length := DpAll.length hA
  refine ht _ ⟨⟨_, rfl⟩, _, hb, fl, a, xs, rfl, h, fun D hD => ?_⟩
  refine lc_scal walk_seqF (R := fun i y => ∃ e, ds[i]? = some e ∧ y = .str (S (stepText (dItems e)))) hD (small1000 (by omega)) (fun H e => h.ext e) (fun i H x H' y => by rw [y.1]; exact Ext.rfl') ?_ ?_
  · rintro i x G G' hi e ⟨rfl, hx1⟩ Q2 k2
    obtain ⟨d1, hd1, hp⟩ := DpAll.getV hA hx1
    obtain ⟨o1, o2, o3⟩ := hok d1 (List.mem_of_getElem? hd1)
    obtain ⟨f1, a1, ys, rfl, hy, hB⟩ := seq_of (Vd.of (Dp.ext e hp)) o1
    refine ⟨wipe1, step_rd (a := a1) (fl := f1) (xs := ys) (ds := dItems d1) ?_ (by rw [List.length_set, wipe_length]; exact hd) hy hB o3 (by omega) fun G2 e2 => k2 _ _ e2 ⟨d1, hd1, rfl⟩⟩
    rw [List.getElem?_set_self (by rw [wipe_length]; exact hc)]
  · intro zs G hz1 hz2 e hDz
    have ez : zs = ((ds.map fun e => stepText (dItems e)).map S).map V.str := by
      rw [List.map_map, List.map_map]
      exact map_of (by rw [hz1, hlen]) hz2
    subst ez
    refine ⟨S [32, 47, 32], D, (ds.map fun e => stepText (dItems e)).map S, congrArg V.str hsep, rfl, .inl (SqL.of hDz), ?_, ?_⟩
    · have h2 := sum_le (l := ((ds.map fun e => stepText (dItems e)).map S).map (·.length)) (k := 20020) (fun n hn => by
        obtain ⟨x, hx, rfl⟩ := List.mem_map.mp hn
        obtain ⟨y, hy, rfl⟩ := List.mem_map.mp hx
        obtain ⟨e, he, rfl⟩ := List.mem_map.mp hy
        rw [S_len]
        obtain ⟨o1, o2, o3⟩ := hok e he
        exact stepText_len o3 o2)
      simp only [List.length_map, S_len, List.length_cons, List.length_nil] at h2 ⊢
      omega
    · rw [SX.join_S]
      exact q G e
end

def partsD (k : KN) : List PyData := .list (.str "asks" :: k.asks.map .str) :: .list (.str "answers" :: k.answers.map .str) :: .list [.str "states", .int k.st, .str "first", .int k.fi] :: k.rows.map rowD
theorem partsD_ok {k : KN} (h : k.ok = true) : (∀ e ∈ partsD k, dSeq e = true ∧ (dItems e).length ≤ 20 ∧ ∀ x ∈ dItems e, itemOk x) ∧ (partsD k).length ≤ 100 := by
  simp only [KN.ok, okWords, okRows, Bool.and_eq_true, decide_eq_true_eq, List.all_eq_true] at h
  obtain ⟨⟨a1, a2, a3, _⟩, ⟨b1, b2, b3, _⟩, o3, o4, o5, o6, r1, r2, _⟩ := h
  have wl : ∀ x : Str, okWord x = true → itemOk (.str x) := fun x hx => by
    simp only [okWord, Bool.and_eq_true, decide_eq_true_eq] at hx
    show x.length ≤ 1000
    omega
  refine ⟨fun e he => ?_, ?_⟩
  · simp only [partsD, List.mem_cons, List.mem_map] at he
    rcases he with rfl | rfl | rfl | ⟨r, hr, rfl⟩
    · refine ⟨rfl, by show (k.asks.map PyData.str).length + 1 ≤ 20; rw [List.length_map]; omega, fun x hx => ?_⟩
      rcases List.mem_cons.mp hx with rfl | hx
      · show ("asks" : Str).length ≤ 1000
        decide +kernel
      · obtain ⟨y, hy, rfl⟩ := List.mem_map.mp hx
        exact wl y (a3 y hy)
    · refine ⟨rfl, by show (k.answers.map PyData.str).length + 1 ≤ 20; rw [List.length_map]; omega, fun x hx => ?_⟩
      rcases List.mem_cons.mp hx with rfl | hx
      · show ("answers" : Str).length ≤ 1000
        decide +kernel
      · obtain ⟨y, hy, rfl⟩ := List.mem_map.mp hx
        exact wl y (b3 y hy)
    · refine ⟨rfl, by show 4 ≤ 20; decide, fun x hx => ?_⟩
      simp only [dItems, List.mem_cons, List.not_mem_nil, or_false] at hx
      have z : (60 : Nat) < 10 ^ 60 := by decide
      rcases hx with rfl | rfl | rfl | rfl
      · show ("states" : Str).length ≤ 1000
        decide +kernel
      · exact ⟨by omega, Nat.lt_of_le_of_lt (by omega) z⟩
      · show ("first" : Str).length ≤ 1000
        decide +kernel
      · exact ⟨by omega, Nat.lt_of_le_of_lt (by omega) z⟩
    · have hb := r2 r hr
      simp only [belowL, Bool.and_eq_true, decide_eq_true_eq, List.all_eq_true] at hb
      obtain ⟨h4, hz⟩ := hb
      have z : (60 : Nat) < 10 ^ 60 := by decide
      match r, h4 with
      | [a, b, c, d], _ =>
        refine ⟨rfl, by show 4 ≤ 20; decide, fun x hx => ?_⟩
        have w1 := hz (a, k.st) (by simp)
        have w2 := hz (b, (k.asks.length : Int)) (by simp)
        have w3 := hz (c, (k.answers.length : Int)) (by simp)
        have w4 := hz (d, k.st) (by simp)
        simp only at w1 w2 w3 w4
        simp only [rowD, dItems, List.map_cons, List.map_nil, List.mem_cons, List.not_mem_nil, or_false] at hx
        rcases hx with rfl | rfl | rfl | rfl <;> exact ⟨by omega, Nat.lt_of_le_of_lt (by omega) z⟩
  · show (k.rows.map rowD).length + 3 ≤ 100
    rw [List.length_map]
    omega
section
variable {w : World} {K : W.Frag} {mg : Str → Option Value} {base : Heap}
def sp_kind_text (K : W.Frag) : Sp := fun vs H Q _ => ∃ a, ∃ k : KN, vs = [.ref a] ∧ KindAt K H a k ∧ ∀ (y : Str) H', Ext H H' → Q (.str y) H'
theorem c_kind_text (T : Txt K mg) : Cal prg w K mg base CX0 1 "kind_text" ["kind"] (sp_kind_text K) := by
  refine T.d_kind_text.cal sc_kind_text (fun vs H Q E ⟨a, k, e, _⟩ => by rw [e]; rfl) fun f cdv A outer s H vs Q E hr h => ?_
  have nd := sc_kind_text.nd
  obtain ⟨a, k, rfl, hk, q⟩ := h
  refine ⟨_, PSs.nox (pss_cons (ps_set (i := 1) nd rfl (Or.inl rfl) (pe_lst (pa_cons (pe_lst (pa_cons pe_str (StX.pa_star (pe_fld (pv 0) rfl) pa_nil))) (pa_cons (pe_lst (pa_cons pe_str (StX.pa_star (pe_fld (pv 0) rfl) pa_nil))) (pa_cons (pe_lst (pa_cons pe_str (pa_cons (pe_fld (pv 0) rfl) (pa_cons pe_str (pa_cons (pe_fld (pv 0) rfl) pa_nil))))) (StX.pa_star (pe_fld (pv 0) rfl) pa_nil))))))
      (pss_one (ps_ret (pe_join (pe_joined (.cons pe_str (.cons (pe_fmt (pe_glob (v := .str "/") rfl T.g_BAR.choose_spec ⟨_, rfl⟩)) (.cons pe_str .nil)))) (pe_lc (own := [("part", 2)]) (tt := tYes) (g := gName 2) rfl nd (pi_seqF (pv 1)) (blkOk_by (own := [("part", 2)]) (N := ["kind", "parts", "part", "item"]) (sc := defScope s_kind_text) (by decide +kernel)) (fun _ _ _ _ _ => (pg_name (i := 2) nd rfl (Or.inl rfl))) (fun _ _ _ _ _ => pts_nil) (fun _ _ _ _ _ => (pe_joinK (K := K) rfl pe_str (pe_lc (own := [("item", 3)]) (tt := tYes) (g := gName 3) rfl nd (pi_seqFK (K := K) rfl (pv 2)) (blkOk_by (own := [("item", 3)]) (N := ["kind", "parts", "part", "item"]) (by rfl)) (fun _ _ _ _ _ => (pg_name (i := 3) nd rfl (Or.inl rfl))) (fun _ _ _ _ _ => pts_nil) (fun _ _ _ _ _ => (pe_callTy call_str_any (by rfl) T.f_str (by decide +kernel) (pa_cons (pv 3) pa_nil))))))))))), ?_⟩
  have hk0 := hk
  obtain ⟨dx, p1, p2, p3, p4, p5, hp, h1, h2, ⟨rs, h3, hA⟩, ho⟩ := hk
  obtain ⟨pk1, pk2⟩ := partsD_ok ho
  have ho2 := ho
  simp only [KN.ok, okWords, okRows, Bool.and_eq_true, decide_eq_true_eq] at ho2
  obtain ⟨⟨a1, a2, a3, _⟩, ⟨b1, b2, b3, _⟩, o3, o4, o5, o6, r1, r2, _⟩ := ho2
  have lrs : rs.length = k.rows.length := by rw [DpAll.length hA, List.length_map]
  refine cut_asg (fun v H' => ∃ D ys, v = .ref D ∧ Ext H H' ∧ H' D = some (.lst ys) ∧ DpAll K H' ys (partsD k)) (fun Q1 k1 => ?_) fun v H1 ⟨D, ys, ev, e1, hD, hB⟩ => ?_
  · dsimp only [tRet, tRetN, tSeq, tAsg, tOp, tVar, tC, tCB, tCons, tNil, tAndV, tOrV, tNotV, tAnd, tOr, tNot, tTest, tIf, tIfS, tB, tChain, tSl, tPart, tNoPart, tLst, tTup, tFld, tCl, tMt, tMk, gName, tNext, tBM, tBM0, tUn, tSub, tPar, tPar3, gTup, gCons, gNil, tDrop, tMkS, tM1, sFld, StX.tStar, tYes, gSub, cxOf, Cx.wish, Cx.nox, Cx.blk]
    refine ⟨_, rfl, a, _, dx, _, _, rfl, hp, T.cl_Kind, T.na_Kind_asks, rfl, p1, _, rfl, .inl h1, ?_, fun l1 n1 => ?_⟩
    · rw [List.append_nil, List.length_cons, List.length_map]
      exact Nat.le_of_lt (small_of (m := 20) (by omega))
    refine ⟨_, rfl, a, _, dx, _, _, rfl, Ext.upd n1 _ _ hp, T.cl_Kind, T.na_Kind_answers, rfl, p2, _, rfl, .inl (h2.ext (Ext.upd n1)), ?_, fun l2 n2 => ?_⟩
    · rw [List.append_nil, List.length_cons, List.length_map]
      exact Nat.le_of_lt (small_of (m := 20) (by omega))
    have e2 := (Ext.upd (o := .lst (V.str "asks" :: (k.asks.map V.str ++ []))) n1).trans (Ext.upd (o := .lst (V.str "answers" :: (k.answers.map V.str ++ []))) n2)
    refine ⟨_, rfl, a, _, dx, _, _, rfl, e2 _ _ hp, T.cl_Kind, T.na_Kind_states, rfl, _, rfl, a, _, dx, _, _, rfl, e2 _ _ hp, T.cl_Kind, T.na_Kind_first, rfl, by show 4 ≤ sizeLine; decide, fun l3 n3 => ?_⟩
    have e3 := e2.trans (Ext.upd (o := .lst [.str "states", .int k.st, .str "first", .int k.fi]) n3)
    refine ⟨_, rfl, a, _, dx, _, _, rfl, e3 _ _ hp, T.cl_Kind, T.na_Kind_rows, rfl, p3, rs, rfl, .inl (h3.ext e3), ?_, fun l4 n4 => ?_⟩
    · show (rs ++ []).length + 3 ≤ sizeLine
      rw [List.append_nil]
      exact Nat.le_of_lt (small_of (m := 100) (by omega))
    refine k1 _ _ ⟨l4, _, rfl, e3.trans (Ext.upd n4), upd_same, ?_⟩
    refine DpAll.ext (Ext.upd n4) (.cons (.lst (xs := V.str "asks" :: k.asks.map V.str) (SqL.of ?_) (.cons (.str _) (DpAll.strs _))) (.cons (.lst (xs := V.str "answers" :: k.answers.map V.str) (SqL.of ?_) (.cons (.str _) (DpAll.strs _))) (.cons (.lst (SqL.of upd_same) (.cons (.str _) (.cons (.int _) (.cons (.str _) (.cons (.int _) .nil))))) ?_)))
    · rw [Ext.upd n3 _ _ (Ext.upd n2 _ _ upd_same), List.append_nil]
    · rw [Ext.upd n3 _ _ upd_same, List.append_nil]
    · rw [show rs ++ [] = rs from List.append_nil rs]
      exact DpAll.ext e3 hA
  subst ev
  refine script_rd (sep := S [32, 47, 32]) (b := 1) (fl := true) (a := D) (xs := ys) rfl (fun Q hQ => ?_) rfl (by show 2 < 4; decide) (by show 3 < 4; decide) (SqL.of hD) hB pk1 pk2 fun H' e => q _ H' (e1.trans e)
  refine ⟨_, rfl, by decide +kernel, .inl ⟨_, rfl, by decide +kernel, _, rfl, by decide +kernel, _, rfl, by decide +kernel, ?_⟩⟩
  have e0 : Str.empty ++ ((" " : Str)) ++ ("/" : Str) ++ (" " : Str) = S [32, 47, 32] := by decide +kernel
  rw [e0]
  exact hQ
def sp_Kind_str (K : W.Frag) : Sp := sp_kind_text K
theorem c_Kind_str (T : Txt K mg) : Met prg w K mg base CX0 2 (CK K) "__str__" ["self"] (sp_Kind_str K) := by
  refine T.d_Kind_str.met sc_Kind_str (fun vs H Q E ⟨a, k, e, _⟩ => by rw [e]; rfl) fun f cdv A outer s H vs Q E hr h => ?_
  have nd := sc_Kind_str.nd
  obtain ⟨a, k, rfl, hk, q⟩ := h
  refine ⟨_, PSs.nox (pss_one (ps_ret (pe_callTy call_str_any (by rfl) T.f_str (by decide +kernel) (pa_cons (pe_cl (c_kind_text T) (hr.mono (by decide)) pass0 (pa_cons (pv 0) pa_nil)) pa_nil)))), ?_⟩
  dsimp only [tRet, tRetN, tSeq, tAsg, tOp, tVar, tC, tCB, tCons, tNil, tAndV, tOrV, tNotV, tAnd, tOr, tNot, tTest, tIf, tIfS, tB, tChain, tSl, tPart, tNoPart, tLst, tTup, tFld, tCl, tMt, tMk, gName, tNext, tBM, tBM0, tUn, tSub, tPar, tPar3, gTup, gCons, gNil, tDrop, tMkS, tM1, sFld, StX.tStar, tYes, gSub, cxOf, Cx.wish, Cx.nox, Cx.blk]
  exact ⟨_, rfl, a, k, rfl, hk, fun y H' e => .inl ⟨y, rfl, q y H' e⟩⟩
end
end K81

end
section
/-! K81f: purses, tickets, shelves. -/
namespace K81
open PySem L2 Ow
open PySem.Spec PyProof.Rows
/-! ### rows in the making -/
/-- the list at D holds these rows -/
def RowsAt (K : W.Frag) (H : Hp) (D : Addr) (rows : List (List Int)) : Prop := ∃ rs, H D = some (.lst rs) ∧ DpAll K (L2.del H D) rs (rows.map rowD)
section
variable {K : W.Frag} {H H' : Hp} {D t : Addr} {rows : List (List Int)} {r : List Int}
theorem RowsAt.ext (h : RowsAt K H D rows) (e : Ext H H') : RowsAt K H' D rows := by
  obtain ⟨rs, h1, h2⟩ := h
  exact ⟨rs, e _ _ h1, DpAll.ext (ext_dels e) h2⟩
theorem del_upd {o : HO} : L2.del (upd H D o) D = L2.del H D := by
  funext b
  unfold L2.del
  by_cases c : b = D
  · rw [if_pos c, if_pos c]
  · rw [if_neg c, if_neg c, upd_ne c]
theorem row_new {H : Hp} {t : Addr} {r : List Int} (h : H t = some (.tup (r.map V.int))) : Dp K H (.ref t) (rowD r) := .tup (SqT.of h) (DpAll.ints r)
theorem row_off (ht : H t = none) (hD : H D ≠ none) : Dp K (L2.del (upd H t (.tup (r.map V.int))) D) (.ref t) (rowD r) := by
  refine row_new ?_
  rw [del_ne (fun z => hD (by rw [← z]; exact ht)), upd_same]
theorem RowsAt.put {rs : List V} {v : V} (h : H D = some (.lst rs)) (hA : DpAll K (L2.del H D) rs (rows.map rowD)) (hv : Dp K (L2.del H D) v (rowD r)) : RowsAt K (upd H D (.lst (rs ++ [v]))) D (rows ++ [r]) := by
  refine ⟨_, upd_same, ?_⟩
  rw [del_upd, List.map_append]
  exact DpAll.app hA (Ow.DpAll.one hv)
theorem RowsAt.puts {rs vs : List V} {more : List (List Int)} (h : H D = some (.lst rs)) (hA : DpAll K (L2.del H D) rs (rows.map rowD)) (hv : DpAll K (L2.del H D) vs (more.map rowD)) : RowsAt K (upd H D (.lst (rs ++ vs))) D (rows ++ more) := by
  refine ⟨_, upd_same, ?_⟩
  rw [del_upd, List.map_append]
  exact DpAll.app hA hv
theorem RowsAt.add1 {rs : List V} {t : Addr} (h : RowsAt K H D rows) (hD : H D = some (.lst rs)) (c : t ≠ D) (ht : H t = some (.tup (r.map V.int))) : RowsAt K (upd H D (.lst (rs ++ [.ref t]))) D (rows ++ [r]) := by
  obtain ⟨rs', h1, h2⟩ := h
  rw [hD] at h1
  cases h1
  exact RowsAt.put hD h2 (row_new (by rw [del_ne c]; exact ht))
theorem RowsAt.addN {rs ys : List V} {more : List (List Int)} (h : RowsAt K H D rows) (hD : H D = some (.lst rs)) (hl : ys.length = more.length) (hy : ∀ (i : Nat) y, ys[i]? = some y → ∃ r t, more[i]? = some r ∧ y = .ref t ∧ t ≠ D ∧ H t = some (.tup (r.map V.int))) : RowsAt K (upd H D (.lst (rs ++ ys))) D (rows ++ more) := by
  obtain ⟨rs', h1, h2⟩ := h
  rw [hD] at h1
  cases h1
  refine RowsAt.puts hD h2 (dps_of (by rw [List.length_map]; exact hl) fun i y e => ?_)
  obtain ⟨r, t, x1, rfl, x2, x3⟩ := hy i y e
  exact ⟨rowD r, by rw [List.getElem?_map, x1]; rfl, row_new (by rw [del_ne x2]; exact x3)⟩
theorem RowsAt.len {rs : List V} (hA : DpAll K H rs (rows.map rowD)) : rs.length = rows.length := by rw [DpAll.length hA, List.length_map]
end
theorem flat_next {α β : Type} {l : List α} {f : α → List β} {i : Nat} {a : α} (h : l[i]? = some a) : (l.take (i + 1)).flatMap f = (l.take i).flatMap f ++ f a := by
  rw [List.take_succ, h, List.flatMap_append]
  simp
theorem flat_range {β : Type} {f : Nat → List β} {i : Nat} : (List.range (i + 1)).flatMap f = (List.range i).flatMap f ++ f i := by
  rw [List.range_succ, List.flatMap_append]
  simp
theorem flat_len {β : Type} {f : Nat → List β} {k : Nat} (h : ∀ i, (f i).length = k) : ∀ i, ((List.range i).flatMap f).length = i * k
  | 0 => by simp
  | i + 1 => by rw [flat_range, List.length_append, flat_len h i, h, Nat.add_mul, Nat.one_mul]
theorem range_at {n i : Nat} (h : i < n) : (List.range n)[i]? = some i := by
  rw [List.getElem?_range h]
/-- a word and a number -/
def toldW (l : Str) (i : Nat) : Str := Str.empty ++ l ++ ((toString (i : Int) : String) : Str)
def toldL (l : Str) (n : Nat) : List Str := (List.range n).map (toldW l)
theorem toldL_len {l : Str} {n : Nat} : (toldL l n).length = n := by rw [toldL, List.length_map, List.length_range]
theorem str_app_len (a b : Str) : (a ++ b).length = a.length + b.length := by
  show (a.cps ++ b.cps).size = a.cps.size + b.cps.size
  simp
theorem num_len {n : Nat} (h : n < 1000) : (((toString (n : Int) : String) : Str)).length ≤ 60 := by
  have e : ((toString (n : Int) : String) : Str) = S (TL.numL n) := SX.num_S n
  rw [e, S_len]
  exact TL.numL_len (k := 60) (by decide) (Nat.lt_of_lt_of_le h (by decide))
def chRow (here : Int) (ask : Nat) (most : Int) : List Int :=
  let there := here + [1, 2, -1, -2].getD ask 0
  if 0 ≤ there ∧ there ≤ most then [here, ask, 0, there] else [here, ask, if there > most then 1 else 2, here]
section
variable {w : World} {K : W.Frag} {mg : Str → Option Value} {base : Heap}
def sp_told : Sp := fun vs H Q _ => ∃ l, ∃ n : Nat, vs = [.str l, .int (n : Nat)] ∧ l.length ≤ 100 ∧ n ≤ 100 ∧ ∀ D H', Ext H H' → H D = none → H' D = some (.lst ((toldL l n).map V.str)) → Q (.ref D) H'
theorem c_told (T : Txt K mg) : Cal prg w K mg base CX0 1 "told" ["letter", "many"] (sp_told) := by
  refine T.d_told.cal sc_told (fun vs H Q E ⟨l, n, e, _⟩ => by rw [e]; rfl) fun f cdv A outer s H vs Q E hr h => ?_
  have nd := sc_told.nd
  obtain ⟨l, n, rfl, hl, hn, q⟩ := h
  refine ⟨_, PSs.nox (pss_one (ps_ret (pe_lc (own := [("number", 2)]) (tt := tYes) (g := gName 2) rfl nd (pi_range1 rfl T.f_range (pa_cons (pv 1) pa_nil)) (blkOk_by (own := [("number", 2)]) (N := ["letter", "many", "number"]) (sc := defScope s_told) (by decide +kernel)) (fun _ _ _ _ _ => (pg_name (i := 2) nd rfl (Or.inl rfl))) (fun _ _ _ _ _ => pts_nil) (fun _ _ _ _ _ => (pe_joined (.cons (pe_fmt (pv 0)) (.cons (pe_fmt (pv 2)) .nil))))))), ?_⟩
  dsimp only [tRet, tRetN, tSeq, tAsg, tOp, tVar, tC, tCB, tCons, tNil, tAndV, tOrV, tNotV, tAnd, tOr, tNot, tTest, tIf, tIfS, tB, tChain, tSl, tPart, tNoPart, tLst, tTup, tFld, tCl, tMt, tMk, gName, tNext, tBM, tBM0, tUn, tSub, tPar, tPar3, gTup, gCons, gNil, tDrop, tMkS, tM1, sFld, StX.tStar, tYes, gSub, cxOf, Cx.wish, Cx.nox, Cx.blk]
  refine ⟨_, rfl, _, rfl, by omega, by omega, fun D hD => ?_⟩
  refine lc_scal (te := fun σ H Q => tJs [tFmt (tVar 0), tFmt (tVar 2)] Str.empty σ H fun out H1 => Q (V.str out) H1) (walk_range (lo := 0) (n := ((n : Nat) : Int).toNat)) (R := fun i y => i < n ∧ y = .str (toldW l i)) hD (small_of (m := 100) hn) (fun _ _ => trivial) (fun i H x H' y => by rw [y.1]; exact Ext.rfl') ?_ ?_
  · rintro i x G G' hi e ⟨rfl, rfl⟩ Q2 k2
    have hl2 : (Str.empty ++ l).length ≤ 100 := by
      rw [str_app_len]
      show 0 + l.length ≤ 100
      omega
    have hi2 : i < n := hi
    refine ⟨rfl, ?_⟩
    dsimp only [tRet, tRetN, tSeq, tAsg, tOp, tVar, tC, tCB, tCons, tNil, tAndV, tOrV, tNotV, tAnd, tOr, tNot, tTest, tIf, tIfS, tB, tChain, tSl, tPart, tNoPart, tLst, tTup, tFld, tCl, tMt, tMk, gName, tNext, tBM, tBM0, tUn, tSub, tPar, tPar3, gTup, gCons, gNil, tDrop, tMkS, tM1, sFld, StX.tStar, tYes, gSub, cxOf, Cx.wish, Cx.nox, Cx.blk]
    refine ⟨_, rfl, .inl ⟨l, rfl, Nat.le_of_lt (small_of hl), l, rfl, Nat.le_of_lt (small_of hl2), _, rfl, .inr ⟨_, rfl, ?_, _, rfl, ?_, ?_⟩⟩⟩
    · have e0 : (0 + (i : Int)) = ((i : Nat) : Int) := by omega
      rw [e0]
      exact small_log (Nat.lt_of_lt_of_le (show (((i : Nat) : Int)).natAbs < 1000 by omega) (by decide))
    · rw [str_app_len]
      have e0 : (0 + (i : Int)) = ((i : Nat) : Int) := by omega
      rw [e0]
      have := num_len (n := i) (by omega)
      exact Nat.le_of_lt (small_of (m := 200) (by omega))
    · have e0 : (0 + (i : Int)) = ((i : Nat) : Int) := by omega
      rw [e0]
      exact k2 _ _ Ext.rfl' ⟨hi2, rfl⟩
  · intro ys G hz1 hz2 e hDy
    have hz1 : ys.length = n := hz1
    have ey : ys = (toldL l n).map V.str := by
      unfold toldL
      rw [List.map_map]
      refine map_of (by rw [hz1, List.length_range]) fun i y hy => ?_
      obtain ⟨hi, rfl⟩ := hz2 i y hy
      exact ⟨i, range_at hi, rfl⟩
    subst ey
    exact q D _ e hD hDy
def sp_change_row : Sp := fun vs H Q _ => ∃ here most, ∃ ask : Nat, vs = [.int here, .int (ask : Nat), .int most] ∧ ask < 4 ∧ ∀ t, H t = none → Q (.ref t) (upd H t (.tup ((chRow here ask most).map V.int)))
theorem c_change_row (T : Txt K mg) : Cal prg w K mg base CX0 1 "change_row" ["here", "ask", "most"] (sp_change_row) := by
  refine T.d_change_row.cal sc_change_row (fun vs H Q E ⟨l, n, a, e, _⟩ => by rw [e]; rfl) fun f cdv A outer s H vs Q E hr h => ?_
  have nd := sc_change_row.nd
  obtain ⟨here, most, ask, rfl, ha, q⟩ := h
  refine ⟨_, PSs.nox (pss_cons (ps_set (i := 3) nd rfl (Or.inl rfl) (pe_op op_add (pv 0) (pe_ix ix_tup (pe_glob (v := .ref (He.ga K "CHANGES")) rfl T.g_CHANGES rfl) (pv 1) (fun _ _ => rfl))))
      (pss_cons (ps_if (pt_chain op_le op_le pe_int (pv 3) (pv 2)) (pss_one (ps_ret (pe_tup (pa_cons (pv 0) (pa_cons (pv 1) (pa_cons pe_int (pa_cons (pv 3) pa_nil))))))) pss_nil)
      (pss_one (ps_ret (pe_tup (pa_cons (pv 0) (pa_cons (pv 1) (pa_cons (pe_ifExp (pt_cmpR op_gt (pv 3) (pv 2) (nomark _)) pe_int pe_int) (pa_cons (pv 0) pa_nil))))))))), ?_⟩
  have hC : SqT K H (He.ga K "CHANGES") ([1, 2, -1, -2].map V.int) := by
    obtain ⟨a, e, hT⟩ := row_items (r := [1, 2, -1, -2]) T.b_CHANGES
    cases e
    exact hT.ext ext00
  have hat : atI ([1, 2, -1, -2].map V.int) (ask : Nat) = some (.int ([1, 2, -1, -2].getD ask 0)) := by
    match ask, ha with
    | 0, _ => rfl
    | 1, _ => rfl
    | 2, _ => rfl
    | 3, _ => rfl
  dsimp only [tRet, tRetN, tSeq, tAsg, tOp, tVar, tC, tCB, tCons, tNil, tAndV, tOrV, tNotV, tAnd, tOr, tNot, tTest, tIf, tIfS, tB, tChain, tSl, tPart, tNoPart, tLst, tTup, tFld, tCl, tMt, tMk, gName, tNext, tBM, tBM0, tUn, tSub, tPar, tPar3, gTup, gCons, gNil, tDrop, tMkS, tM1, sFld, StX.tStar, tYes, gSub, cxOf, Cx.wish, Cx.nox, Cx.blk]
  refine ⟨_, rfl, _, rfl, _, _, _, _, rfl, rfl, hC, hat, _, _, rfl, rfl, ?_⟩
  refine ⟨_, rfl, _, _, rfl, rfl, _, rfl, ?_⟩
  refine ite2 (fun c => ⟨_, rfl, _, _, rfl, rfl, _, rfl, ite2 (fun c2 => ?_) fun c2 => ?_⟩) fun c => ?_
  · have c := of_decide_eq_true c
    have c2 := of_decide_eq_true c2
    refine ⟨_, rfl, _, rfl, _, rfl, by show 4 ≤ sizeLine; decide, fun t ht => ?_⟩
    have z := q t ht
    rw [chRow, if_pos ⟨c, c2⟩] at z
    exact z
  · have c2 : ¬ _ := fun z => c2 (decide_eq_true z)
    refine ⟨_, rfl, _, rfl, _, rfl, _, rfl, _, _, rfl, rfl, _, rfl, ?_⟩
    refine ite2 (fun c3 => ⟨_, rfl, by show 4 ≤ sizeLine; decide, fun t ht => ?_⟩) fun c3 => ⟨_, rfl, by show 4 ≤ sizeLine; decide, fun t ht => ?_⟩
    · have z := q t ht
      rw [chRow, if_neg (fun z => c2 z.2), if_pos (of_decide_eq_true c3)] at z
      exact z
    · have z := q t ht
      rw [chRow, if_neg (fun z => c2 z.2), if_neg (fun y => c3 (decide_eq_true y))] at z
      exact z
  · have c : ¬ _ := fun z => c (decide_eq_true z)
    refine ⟨_, rfl, _, rfl, _, rfl, _, rfl, _, rfl, _, _, rfl, rfl, _, rfl, ?_⟩
    refine ite2 (fun c3 => ⟨_, rfl, by show 4 ≤ sizeLine; decide, fun t ht => ?_⟩) fun c3 => ⟨_, rfl, by show 4 ≤ sizeLine; decide, fun t ht => ?_⟩
    · have z := q t ht
      rw [chRow, if_neg (fun z => c z.1), if_pos (of_decide_eq_true c3)] at z
      exact z
    · have z := q t ht
      rw [chRow, if_neg (fun z => c z.1), if_neg (fun y => c3 (decide_eq_true y))] at z
      exact z
end
end K81

end
section
/-! K81g: purses, tickets, shelves. -/
namespace K81
open PySem L2 Ow
open PySem.Spec PyProof.Rows
def purseAsk (n h : Nat) : List (List Int) := (List.range 4).map fun a => chRow (h : Int) a n
def purseTurn (n h : Nat) : List (List Int) := purseAsk n h ++ [[(h : Int), 4, 3 + (h : Int), (h : Int)]]
def purseRows (n : Nat) : List (List Int) := (List.range (n + 1)).flatMap (purseTurn n)
def purseK (n : Nat) (f : Int) : KN := ⟨["put1", "put2", "take1", "take2", "read"], (["ok", "full", "short"] : List Str) ++ toldL "n" (n + 1), (n : Nat) + 1, f, purseRows n⟩
def ticketRow (n g : Nat) : List Int := [(g : Int), 0, (g : Int), if (n : Int) < (g : Int) + 1 then (n : Int) else (g : Int) + 1]
def ticketsK (n : Nat) : KN := ⟨["draw"], toldL "n" n ++ (["none"] : List Str), (n : Nat) + 1, 0, (List.range (n + 1)).map (ticketRow n)⟩
def shelfAsk (n h : Nat) : List (List Int) := (List.range n).map fun (x : Nat) => [(h : Int), (x : Int), 0, (x : Int)]
def shelfTurn (n h : Nat) : List (List Int) := shelfAsk n h ++ [[(h : Int), (n : Int), 1 + (h : Int), (h : Int)]]
def shelfK (n : Nat) (f : Int) : KN := ⟨toldL "set" n ++ (["read"] : List Str), (["ok"] : List Str) ++ toldL "n" n, (n : Nat), f, (List.range n).flatMap (shelfTurn n)⟩
section
variable {w : World} {K : W.Frag} {mg : Str → Option Value} {base : Heap}
/-- a kind comes to be -/
def newK (K : W.Frag) (H : Hp) (k : KN) (Q : VK) : Prop := ∀ a H', Ext H H' → H a = none → KindAt K H' a k → Q (.ref a) H'
theorem kind_made {k : KN} {H : Hp} {a1 a2 a3 : Addr} {rs xs ys : List V} {s f : Int} {Q : VK} {E : XK} (h1 : SqL K H a1 xs) (h2 : SqL K H a2 ys) (h3 : SqL K H a3 rs) (hA : DpAll K H rs (k.rows.map rowD)) (ho : k.ok = true) (es : s = k.st) (ef : f = k.fi) (ex : xs = k.asks.map V.str) (ey : ys = k.answers.map V.str) (q : newK K H k Q) :
    ∀ x dx, H x = none → H dx = none → dx ≠ x → sp_Kind_init K (.ref x :: [.ref a1, .ref a2, .int s, .int f, .ref a3]) (upd (upd H dx (.own x)) x (.ins (CK K) dx [])) (fun v H2 => v = .non ∧ Q (.ref x) H2) E := by
  subst es ef ex ey
  intro x dx hx hd ne
  have e : Ext H (upd (upd H dx (.own x)) x (.ins (CK K) dx [])) := (Ext.upd hd).trans (Ext.upd (by rw [upd_ne (fun z => ne z.symm)]; exact hx))
  refine ⟨x, dx, a1, a2, a3, rs, k, rfl, upd_same, h1.ext e, h2.ext e, h3.ext e, DpAll.ext e hA, ho, fun H' e2 hk => ⟨rfl, q x H' (fun b o hb => ?_) hx hk⟩⟩
  have c : b ≠ x := fun z => by rw [z, hx] at hb; cases hb
  exact e2 b o c (e b o hb)
def sp_purse (K : W.Frag) : Sp := fun vs H Q _ => ∃ n f : Nat, vs = [.int (n : Nat), .int (f : Nat)] ∧ 1 ≤ n ∧ n ≤ 8 ∧ f ≤ n ∧ (purseK n f).ok = true ∧ newK K H (purseK n f) Q
theorem c_purse (T : Txt K mg) : Cal prg w K mg base CX0 7 "purse" ["most", "first"] (sp_purse K) := by
  refine T.d_purse.cal sc_purse (fun vs H Q E ⟨n, f, e, _⟩ => by rw [e]; rfl) fun f cdv A outer s H vs Q E hr h => ?_
  have nd := sc_purse.nd
  obtain ⟨n, fi, rfl, n1, n8, hf, ho, q⟩ := h
  refine ⟨_, PSs.nox (pss_cons (ps_expr (pe_cl (c_need_number T) (hr.mono (by decide)) pass0 (pa_cons (pv 0) (pa_cons pe_str (pa_cons pe_int (pa_cons (pe_glob (v := .int 8) rfl T.g_MOST_SUM.choose_spec ⟨_, rfl⟩) pa_nil))))))
      (pss_cons (ps_expr (pe_cl (c_need_number T) (hr.mono (by decide)) pass0 (pa_cons (pv 1) (pa_cons pe_str (pa_cons pe_int (pa_cons (pv 0) pa_nil))))))
      (pss_cons (ps_set (i := 2) nd rfl (Or.inl rfl) (pe_lst pa_nil))
      (pss_cons (ps_for PassesOwn.never rfl (pi_range1 rfl T.f_range (pa_cons (pe_op op_add (pv 0) pe_int) pa_nil)) (pg_name (i := 3) nd rfl (Or.inr rfl)) (pss_cons (ps_expr (pe_bm PySem.F.plainAttrs_list PySem.F.slot_list_extend PySem.F.type_list_extend mt_extend (pv 2) (pa_cons (pe_lc (own := [("ask", 5)]) (tt := tYes) (g := gName 5) rfl nd (pi_range1 rfl T.f_range (pa_cons (pe_callB call_len_seq (by rfl) T.f_len (by decide +kernel) (pa_cons (pe_glob (v := .ref (He.ga K "CHANGES")) rfl T.g_CHANGES rfl) pa_nil)) pa_nil)) (blkOk_by (own := [("ask", 5)]) (N := ["most", "first", "rows", "here", "asks", "ask"]) (sc := defScope s_purse) (by decide +kernel)) (fun _ _ _ _ _ => (pg_name (i := 5) nd rfl (Or.inl rfl))) (fun _ _ _ _ _ => pts_nil) (fun _ _ _ _ _ => (pe_cl (c_change_row T) (hr.mono (by decide)) pass0 (pa_cons (pv 3) (pa_cons (pv 5) (pa_cons (pv 0) pa_nil)))))) pa_nil)))
      (pss_one (ps_expr (pe_bm PySem.F.plainAttrs_list PySem.F.slot_list_append PySem.F.type_list_append mt_append (pv 2) (pa_cons (pe_tup (pa_cons (pv 3) (pa_cons (pe_callB call_len_seq (by rfl) T.f_len (by decide +kernel) (pa_cons (pe_glob (v := .ref (He.ga K "CHANGES")) rfl T.g_CHANGES rfl) pa_nil)) (pa_cons (pe_op op_add pe_int (pv 3)) (pa_cons (pv 3) pa_nil))))) pa_nil))))))
      (pss_cons (ps_set (i := 4) nd rfl (Or.inl rfl) (pe_lst (pa_cons pe_str (pa_cons pe_str (pa_cons pe_str (pa_cons pe_str (pa_cons pe_str pa_nil)))))))
      (pss_one (ps_ret (pe_mk (c_Kind_init T) (hr.mono (by decide)) pass0 (pa_cons (pv 4) (pa_cons (pe_lst (pa_cons pe_str (pa_cons pe_str (pa_cons pe_str (StX.pa_star (pe_cl (c_told T) (hr.mono (by decide)) pass0 (pa_cons pe_str (pa_cons (pe_op op_add (pv 0) pe_int) pa_nil))) pa_nil))))) (pa_cons (pe_op op_add (pv 0) pe_int) (pa_cons (pv 1) (pa_cons (pv 2) pa_nil))))))))))))), ?_⟩
  have hC : SqT K H00 (He.ga K "CHANGES") ([1, 2, -1, -2].map V.int) := by
    obtain ⟨a, e, hT⟩ := row_items (r := [1, 2, -1, -2]) T.b_CHANGES
    cases e
    exact hT
  refine cut_drop (fun v H' => H' = H) (fun Q1 k1 => ?_) fun v H' eH => ?_
  · dsimp only [tRet, tRetN, tSeq, tAsg, tOp, tVar, tC, tCB, tCons, tNil, tAndV, tOrV, tNotV, tAnd, tOr, tNot, tTest, tIf, tIfS, tB, tChain, tSl, tPart, tNoPart, tLst, tTup, tFld, tCl, tMt, tMk, gName, tNext, tBM, tBM0, tUn, tSub, tPar, tPar3, gTup, gCons, gNil, tDrop, tMkS, tM1, sFld, StX.tStar, tYes, gSub, cxOf, Cx.wish, Cx.nox, Cx.blk]
    exact ⟨_, rfl, _, _, _, _, rfl, by omega, by omega, k1 _ _ rfl⟩
  subst eH
  refine cut_drop (fun v H2 => H2 = H') (fun Q1 k1 => ?_) fun v H2 eH => ?_
  · dsimp only [tRet, tRetN, tSeq, tAsg, tOp, tVar, tC, tCB, tCons, tNil, tAndV, tOrV, tNotV, tAnd, tOr, tNot, tTest, tIf, tIfS, tB, tChain, tSl, tPart, tNoPart, tLst, tTup, tFld, tCl, tMt, tMk, gName, tNext, tBM, tBM0, tUn, tSub, tPar, tPar3, gTup, gCons, gNil, tDrop, tMkS, tM1, sFld, StX.tStar, tYes, gSub, cxOf, Cx.wish, Cx.nox, Cx.blk]
    exact ⟨_, rfl, _, rfl, _, _, _, _, rfl, by omega, by omega, k1 _ _ rfl⟩
  subst eH
  dsimp only [tRet, tRetN, tSeq, tAsg, tOp, tVar, tC, tCB, tCons, tNil, tAndV, tOrV, tNotV, tAnd, tOr, tNot, tTest, tIf, tIfS, tB, tChain, tSl, tPart, tNoPart, tLst, tTup, tFld, tCl, tMt, tMk, gName, tNext, tBM, tBM0, tUn, tSub, tPar, tPar3, gTup, gCons, gNil, tDrop, tMkS, tM1, sFld, StX.tStar, tYes, gSub, cxOf, Cx.wish, Cx.nox, Cx.blk]
  refine ⟨Nat.zero_le _, fun D hD => ?_⟩
  refine ⟨_, rfl, _, _, rfl, rfl, _, rfl, by omega, by omega, ?_⟩
  refine for_it (walk_range (lo := 0) (n := ((n : Int) + 1).toNat)) (fun i σ' G => (∃ r, σ' = [some (.int (n : Nat)), some (.int (fi : Nat)), some (.ref D), r, none, none]) ∧ Ext H2 (L2.del G D) ∧ RowsAt K G D ((List.range i).flatMap (purseTurn n))) ⟨⟨_, rfl⟩, ext_off (Ext.upd hD) hD, ⟨[], upd_same, .nil⟩⟩ (fun _ _ _ _ _ => trivial) ?_ ?_
  · rintro i x σ' G G' hi ⟨⟨r0, rfl⟩, e, hR⟩ ⟨rfl, rfl⟩
    have hR0 := hR
    obtain ⟨rs, hDr, hA⟩ := hR
    have e0 : (0 + (i : Int)) = ((i : Nat) : Int) := by omega
    dsimp only [tRet, tRetN, tSeq, tAsg, tOp, tVar, tC, tCB, tCons, tNil, tAndV, tOrV, tNotV, tAnd, tOr, tNot, tTest, tIf, tIfS, tB, tChain, tSl, tPart, tNoPart, tLst, tTup, tFld, tCl, tMt, tMk, gName, tNext, tBM, tBM0, tUn, tSub, tPar, tPar3, gTup, gCons, gNil, tDrop, tMkS, tM1, sFld, StX.tStar, tYes, gSub, cxOf, Cx.wish, Cx.nox, Cx.blk]
    rw [e0]
    refine ⟨_, rfl, .inl ⟨rfl, _, SqL.of hDr⟩, _, _, rfl, .inr (hC.ext ext00), _, rfl, by decide, by decide, fun D2 hD2 => ?_⟩
    refine lc_rel (walk_range (lo := 0) (n := 4)) (R := fun j y G2 => ∃ t, y = .ref t ∧ t ≠ D ∧ G2 t = some (.tup ((chRow (i : Int) j n).map V.int))) hD2 (fun j y G1 G2 e2 ⟨t, x1, x2, x3⟩ => ⟨t, x1, x2, e2 _ _ x3⟩) (by decide) (fun _ _ => trivial) (fun i H x H' y => by rw [y.1]; exact Ext.rfl') ?_ ?_
    · rintro j x G1 G2 hj e1 nz ⟨rfl, rfl⟩ Q2 k2
      have e3 : (0 + (j : Int)) = ((j : Nat) : Int) := by omega
      dsimp only [tRet, tRetN, tSeq, tAsg, tOp, tVar, tC, tCB, tCons, tNil, tAndV, tOrV, tNotV, tAnd, tOr, tNot, tTest, tIf, tIfS, tB, tChain, tSl, tPart, tNoPart, tLst, tTup, tFld, tCl, tMt, tMk, gName, tNext, tBM, tBM0, tUn, tSub, tPar, tPar3, gTup, gCons, gNil, tDrop, tMkS, tM1, sFld, StX.tStar, tYes, gSub, cxOf, Cx.wish, Cx.nox, Cx.blk]
      rw [e3]
      refine ⟨rfl, _, rfl, _, rfl, _, rfl, _, _, j, rfl, hj, fun t ht => k2 _ _ (Ext.upd ht) ⟨t, rfl, ?_, ?_⟩⟩
      · intro z
        have := (e1.trans ext_del) _ _ hDr
        rw [← z, ht] at this
        cases this
      · rw [del_ne (fun z => nz (by rw [← z]; exact ht)), upd_same]
    · intro ys G2 hz1 hz2 e2 hDy
      have hz1 : ys.length = 4 := hz1
      have hDr2 := e2 _ _ hDr
      have l1 : rs.length = i * 5 := by
        rw [RowsAt.len hA]
        exact flat_len (f := purseTurn n) (k := 5) (fun j => rfl) i
      refine ⟨D, D2, rs, ys, rfl, rfl, hDr2, hDy, by rw [l1, hz1]; exact Nat.le_of_lt (small_of (m := 60) (by omega)), ?_⟩
      have e3 : Ext (L2.del G' D) (L2.del (upd G2 D (.lst (rs ++ ys))) D) := by rw [del_upd]; exact ext_dels e2
      have R2 : RowsAt K (upd G2 D (.lst (rs ++ ys))) D _ := (hR0.ext e2).addN (more := purseAsk n i) hDr2 (by rw [hz1]; rfl) fun j y hy => by
        obtain ⟨t, x1, x2, x3⟩ := hz2 j y hy
        refine ⟨chRow (i : Int) j n, t, ?_, x1, x2, ext_del _ _ x3⟩
        have : j < 4 := by
          obtain ⟨z, _⟩ := List.getElem?_eq_some_iff.mp hy
          omega
        rw [purseAsk, List.getElem?_map, range_at this]
        rfl
      refine ⟨_, rfl, .inl ⟨rfl, _, SqL.of upd_same⟩, _, rfl, _, _, rfl, .inr (hC.ext ext00), _, rfl, _, _, rfl, rfl, _, rfl, (by show 4 ≤ sizeLine; decide), fun t ht => ?_⟩
      have c : t ≠ D := fun z => by rw [z, upd_same] at ht; cases ht
      have hD3 : upd (upd G2 D (.lst (rs ++ ys))) t (.tup [.int (i : Nat), .int 4, .int (3 + (i : Nat)), .int (i : Nat)]) D = some (.lst (rs ++ ys)) := (Ext.upd ht) _ _ upd_same
      refine ⟨D, _, _, rfl, rfl, hD3, small_of (m := 60) (by rw [List.length_append, l1, hz1]; omega), ⟨_, rfl⟩, ?_, ?_⟩
      · rw [del_upd]
        exact e.trans (e3.trans (ext_dels (Ext.upd ht)))
      · rw [flat_range, purseTurn, ← List.append_assoc]
        exact (R2.ext (Ext.upd ht)).add1 hD3 c upd_same
  · rintro σ' G ⟨⟨r0, rfl⟩, e, hR⟩
    obtain ⟨rs, hDr, hA⟩ := hR
    have hA := DpAll.ext ext_del hA
    have eG : Ext H2 G := e.trans ext_del
    have e0 : ((n : Int) + 1).toNat = n + 1 := by omega
    rw [e0] at hA
    dsimp only [tRet, tRetN, tSeq, tAsg, tOp, tVar, tC, tCB, tCons, tNil, tAndV, tOrV, tNotV, tAnd, tOr, tNot, tTest, tIf, tIfS, tB, tChain, tSl, tPart, tNoPart, tLst, tTup, tFld, tCl, tMt, tMk, gName, tNext, tBM, tBM0, tUn, tSub, tPar, tPar3, gTup, gCons, gNil, tDrop, tMkS, tM1, sFld, StX.tStar, tYes, gSub, cxOf, Cx.wish, Cx.nox, Cx.blk]
    refine ⟨by show 5 ≤ sizeLine; decide, fun D3 hD3 => ?_⟩
    have e3 := Ext.upd (o := HO.lst [V.str "put1", V.str "put2", V.str "take1", V.str "take2", V.str "read"]) hD3
    refine ⟨_, rfl, _, rfl, _, _, rfl, rfl, "n", n + 1, rfl, by decide, by omega, fun D4 H4 e4 n4 h4 => ?_⟩
    refine ⟨_, _, rfl, .inr (SqL.of h4), by simp only [List.length_cons, List.length_append, List.length_map, toldL_len, List.length_nil]; exact Nat.le_of_lt (small_of (m := 60) (by omega)), fun D5 hD5 => ?_⟩
    have e5 : ∀ {o}, Ext G (upd H4 D5 o) := e3.trans (e4.trans (Ext.upd hD5))
    refine ⟨_, rfl, _, _, rfl, rfl, _, rfl, _, rfl, ?_⟩
    refine kind_made (k := purseK n fi) (SqL.of ((e4.trans (Ext.upd hD5)) _ _ upd_same)) (SqL.of upd_same) (SqL.of (e5 _ _ hDr)) (DpAll.ext e5 hA) ho rfl rfl rfl ?_ fun a H' e6 na hk => q a H' (eG.trans (e5.trans e6)) (none_of (eG.trans e5) na) hk
    rw [List.append_nil]
    rfl
def sp_tickets (K : W.Frag) : Sp := fun vs H Q _ => ∃ n : Nat, vs = [.int (n : Nat)] ∧ 1 ≤ n ∧ n ≤ 11 ∧ (ticketsK n).ok = true ∧ newK K H (ticketsK n) Q
theorem c_tickets (T : Txt K mg) : Cal prg w K mg base CX0 7 "tickets" ["many"] (sp_tickets K) := by
  refine T.d_tickets.cal sc_tickets (fun vs H Q E ⟨n, e, _⟩ => by rw [e]; rfl) fun f cdv A outer s H vs Q E hr h => ?_
  have nd := sc_tickets.nd
  obtain ⟨n, rfl, n1, n11, ho, q⟩ := h
  refine ⟨_, PSs.nox (pss_cons (ps_expr (pe_cl (c_need_number T) (hr.mono (by decide)) pass0 (pa_cons (pv 0) (pa_cons pe_str (pa_cons pe_int (pa_cons (pe_glob (v := .int 11) rfl T.g_MOST_TICKETS.choose_spec ⟨_, rfl⟩) pa_nil))))))
      (pss_cons (ps_setLc (i := 1) (own := [("given", 2)]) (tt := tYes) (g := gName 2) rfl nd rfl rfl (sw_true rfl rfl rfl (by decide +kernel)) (pi_range1 rfl T.f_range (pa_cons (pe_op op_add (pv 0) pe_int) pa_nil)) (blkOk_by (own := [("given", 2)]) (N := ["many", "rows", "given"]) (sc := defScope s_tickets) (by decide +kernel)) (fun _ _ _ _ _ => (pg_name (i := 2) nd rfl (Or.inl rfl))) (fun _ _ _ _ _ => pts_nil) (fun _ _ _ _ _ => (pe_tup (pa_cons (pv 2) (pa_cons pe_int (pa_cons (pv 2) (pa_cons (pe_callB (call_min2 rfl) (by rfl) T.f_min (by decide +kernel) (pa_cons (pe_op op_add (pv 2) pe_int) (pa_cons (pv 0) pa_nil))) pa_nil)))))))
      (pss_one (ps_ret (pe_mk (c_Kind_init T) (hr.mono (by decide)) pass0 (pa_cons (pe_lst (pa_cons pe_str pa_nil)) (pa_cons (pe_lst (StX.pa_star (pe_cl (c_told T) (hr.mono (by decide)) pass0 (pa_cons pe_str (pa_cons (pv 0) pa_nil))) (pa_cons pe_str pa_nil))) (pa_cons (pe_op op_add (pv 0) pe_int) (pa_cons pe_int (pa_cons (pv 1) pa_nil)))))))))), ?_⟩
  refine cut_drop (fun v H' => H' = H) (fun Q1 k1 => ?_) fun v H' eH => ?_
  · dsimp only [tRet, tRetN, tSeq, tAsg, tOp, tVar, tC, tCB, tCons, tNil, tAndV, tOrV, tNotV, tAnd, tOr, tNot, tTest, tIf, tIfS, tB, tChain, tSl, tPart, tNoPart, tLst, tTup, tFld, tCl, tMt, tMk, gName, tNext, tBM, tBM0, tUn, tSub, tPar, tPar3, gTup, gCons, gNil, tDrop, tMkS, tM1, sFld, StX.tStar, tYes, gSub, cxOf, Cx.wish, Cx.nox, Cx.blk]
    exact ⟨_, rfl, _, _, _, _, rfl, by omega, by omega, k1 _ _ rfl⟩
  subst eH
  dsimp only [tRet, tRetN, tSeq, tAsg, tOp, tVar, tC, tCB, tCons, tNil, tAndV, tOrV, tNotV, tAnd, tOr, tNot, tTest, tIf, tIfS, tB, tChain, tSl, tPart, tNoPart, tLst, tTup, tFld, tCl, tMt, tMk, gName, tNext, tBM, tBM0, tUn, tSub, tPar, tPar3, gTup, gCons, gNil, tDrop, tMkS, tM1, sFld, StX.tStar, tYes, gSub, cxOf, Cx.wish, Cx.nox, Cx.blk]
  refine ⟨_, rfl, _, _, rfl, rfl, _, rfl, by omega, by omega, fun D hD => ?_⟩
  refine lc_rel (walk_range (lo := 0) (n := ((n : Int) + 1).toNat)) (R := fun j y G2 => ∃ t, y = .ref t ∧ G2 t = some (.tup ((ticketRow n j).map V.int))) hD (fun j y G1 G2 e2 ⟨t, x1, x3⟩ => ⟨t, x1, e2 _ _ x3⟩) (small_of (m := 60) (by omega)) (fun _ _ => trivial) (fun i H x H' y => by rw [y.1]; exact Ext.rfl') ?_ ?_
  · rintro j x G1 G2 hj e1 nz ⟨rfl, rfl⟩ Q2 k2
    have e3 : (0 + (j : Int)) = ((j : Nat) : Int) := by omega
    dsimp only [tRet, tRetN, tSeq, tAsg, tOp, tVar, tC, tCB, tCons, tNil, tAndV, tOrV, tNotV, tAnd, tOr, tNot, tTest, tIf, tIfS, tB, tChain, tSl, tPart, tNoPart, tLst, tTup, tFld, tCl, tMt, tMk, gName, tNext, tBM, tBM0, tUn, tSub, tPar, tPar3, gTup, gCons, gNil, tDrop, tMkS, tM1, sFld, StX.tStar, tYes, gSub, cxOf, Cx.wish, Cx.nox, Cx.blk]
    rw [e3]
    refine ⟨rfl, _, rfl, _, rfl, _, rfl, _, _, rfl, rfl, _, rfl, _, _, rfl, (by show 4 ≤ sizeLine; decide), fun t ht => k2 _ _ (Ext.upd ht) ⟨t, rfl, ?_⟩⟩
    rw [del_ne (fun z => nz (by rw [← z]; exact ht)), upd_same]
    rfl
  · intro ys G hz1 hz2 e hDy
    have e0 : ((n : Int) + 1).toNat = n + 1 := by omega
    rw [e0] at hz1
    have hA : DpAll K G ys (((List.range (n + 1)).map (ticketRow n)).map rowD) := dps_of (by rw [hz1, List.length_map, List.length_map, List.length_range]) fun i y hy => by
      obtain ⟨t, rfl, ht⟩ := hz2 i y hy
      refine ⟨rowD (ticketRow n i), ?_, row_new (ext_del _ _ ht)⟩
      have : i < n + 1 := by
        obtain ⟨z, _⟩ := List.getElem?_eq_some_iff.mp hy
        omega
      rw [List.getElem?_map, List.getElem?_map, range_at this]
      rfl
    refine ⟨by show 1 ≤ sizeLine; decide, fun D3 hD3 => ?_⟩
    have e3 := Ext.upd (o := HO.lst [V.str "draw"]) hD3
    refine ⟨_, rfl, "n", n, rfl, by decide, by omega, fun D4 H4 e4 n4 h4 => ?_⟩
    refine ⟨_, _, rfl, .inr (SqL.of h4), by simp only [List.length_cons, List.length_append, List.length_map, toldL_len, List.length_nil]; exact Nat.le_of_lt (small_of (m := 60) (by omega)), fun D5 hD5 => ?_⟩
    have e5 : ∀ {o}, Ext G (upd H4 D5 o) := e3.trans (e4.trans (Ext.upd hD5))
    refine ⟨_, rfl, _, _, rfl, rfl, _, rfl, ?_⟩
    refine kind_made (k := ticketsK n) (SqL.of ((e4.trans (Ext.upd hD5)) _ _ upd_same)) (SqL.of upd_same) (SqL.of (e5 _ _ hDy)) (DpAll.ext e5 hA) ho rfl rfl rfl ?_ fun a H' e6 na hk => q a H' (e.trans (e5.trans e6)) (none_of (e.trans e5) na) hk
    show _ = (toldL "n" n ++ (["none"] : List Str)).map V.str
    rw [List.map_append]
    rfl
def sp_shelf (K : W.Frag) : Sp := fun vs H Q _ => ∃ n f : Nat, vs = [.int (n : Nat), .int (f : Nat)] ∧ 2 ≤ n ∧ n ≤ 7 ∧ f < n ∧ (shelfK n f).ok = true ∧ newK K H (shelfK n f) Q
theorem c_shelf (T : Txt K mg) : Cal prg w K mg base CX0 7 "shelf" ["worths", "first"] (sp_shelf K) := by
  refine T.d_shelf.cal sc_shelf (fun vs H Q E ⟨n, f, e, _⟩ => by rw [e]; rfl) fun f cdv A outer s H vs Q E hr h => ?_
  have nd := sc_shelf.nd
  obtain ⟨n, fi, rfl, n1, n8, hf, ho, q⟩ := h
  refine ⟨_, PSs.nox (pss_cons (ps_expr (pe_cl (c_need_number T) (hr.mono (by decide)) pass0 (pa_cons (pv 0) (pa_cons pe_str (pa_cons pe_int (pa_cons (pe_glob (v := .int 7) rfl T.g_MOST_WORTHS.choose_spec ⟨_, rfl⟩) pa_nil))))))
      (pss_cons (ps_expr (pe_cl (c_need_number T) (hr.mono (by decide)) pass0 (pa_cons (pv 1) (pa_cons pe_str (pa_cons pe_int (pa_cons (pe_op op_sub (pv 0) pe_int) pa_nil))))))
      (pss_cons (ps_set (i := 2) nd rfl (Or.inl rfl) (pe_lst pa_nil))
      (pss_cons (ps_for PassesOwn.never rfl (pi_range1 rfl T.f_range (pa_cons (pv 0) pa_nil)) (pg_name (i := 3) nd rfl (Or.inr rfl)) (pss_cons (ps_expr (pe_bm PySem.F.plainAttrs_list PySem.F.slot_list_extend PySem.F.type_list_extend mt_extend (pv 2) (pa_cons (pe_lc (own := [("worth", 4)]) (tt := tYes) (g := gName 4) rfl nd (pi_range1 rfl T.f_range (pa_cons (pv 0) pa_nil)) (blkOk_by (own := [("worth", 4)]) (N := ["worths", "first", "rows", "here", "worth"]) (sc := defScope s_shelf) (by decide +kernel)) (fun _ _ _ _ _ => (pg_name (i := 4) nd rfl (Or.inl rfl))) (fun _ _ _ _ _ => pts_nil) (fun _ _ _ _ _ => (pe_tup (pa_cons (pv 3) (pa_cons (pv 4) (pa_cons pe_int (pa_cons (pv 4) pa_nil))))))) pa_nil)))
      (pss_one (ps_expr (pe_bm PySem.F.plainAttrs_list PySem.F.slot_list_append PySem.F.type_list_append mt_append (pv 2) (pa_cons (pe_tup (pa_cons (pv 3) (pa_cons (pv 0) (pa_cons (pe_op op_add pe_int (pv 3)) (pa_cons (pv 3) pa_nil))))) pa_nil))))))
      (pss_one (ps_ret (pe_mk (c_Kind_init T) (hr.mono (by decide)) pass0 (pa_cons (pe_lst (StX.pa_star (pe_cl (c_told T) (hr.mono (by decide)) pass0 (pa_cons pe_str (pa_cons (pv 0) pa_nil))) (pa_cons pe_str pa_nil))) (pa_cons (pe_lst (pa_cons pe_str (StX.pa_star (pe_cl (c_told T) (hr.mono (by decide)) pass0 (pa_cons pe_str (pa_cons (pv 0) pa_nil))) pa_nil))) (pa_cons (pv 0) (pa_cons (pv 1) (pa_cons (pv 2) pa_nil)))))))))))), ?_⟩
  refine cut_drop (fun v H' => H' = H) (fun Q1 k1 => ?_) fun v H' eH => ?_
  · dsimp only [tRet, tRetN, tSeq, tAsg, tOp, tVar, tC, tCB, tCons, tNil, tAndV, tOrV, tNotV, tAnd, tOr, tNot, tTest, tIf, tIfS, tB, tChain, tSl, tPart, tNoPart, tLst, tTup, tFld, tCl, tMt, tMk, gName, tNext, tBM, tBM0, tUn, tSub, tPar, tPar3, gTup, gCons, gNil, tDrop, tMkS, tM1, sFld, StX.tStar, tYes, gSub, cxOf, Cx.wish, Cx.nox, Cx.blk]
    exact ⟨_, rfl, _, _, _, _, rfl, by omega, by omega, k1 _ _ rfl⟩
  subst eH
  refine cut_drop (fun v H2 => H2 = H') (fun Q1 k1 => ?_) fun v H2 eH => ?_
  · dsimp only [tRet, tRetN, tSeq, tAsg, tOp, tVar, tC, tCB, tCons, tNil, tAndV, tOrV, tNotV, tAnd, tOr, tNot, tTest, tIf, tIfS, tB, tChain, tSl, tPart, tNoPart, tLst, tTup, tFld, tCl, tMt, tMk, gName, tNext, tBM, tBM0, tUn, tSub, tPar, tPar3, gTup, gCons, gNil, tDrop, tMkS, tM1, sFld, StX.tStar, tYes, gSub, cxOf, Cx.wish, Cx.nox, Cx.blk]
    exact ⟨_, rfl, _, rfl, _, _, rfl, rfl, _, _, _, _, rfl, by omega, by omega, k1 _ _ rfl⟩
  subst eH
  dsimp only [tRet, tRetN, tSeq, tAsg, tOp, tVar, tC, tCB, tCons, tNil, tAndV, tOrV, tNotV, tAnd, tOr, tNot, tTest, tIf, tIfS, tB, tChain, tSl, tPart, tNoPart, tLst, tTup, tFld, tCl, tMt, tMk, gName, tNext, tBM, tBM0, tUn, tSub, tPar, tPar3, gTup, gCons, gNil, tDrop, tMkS, tM1, sFld, StX.tStar, tYes, gSub, cxOf, Cx.wish, Cx.nox, Cx.blk]
  refine ⟨Nat.zero_le _, fun D hD => ?_⟩
  refine ⟨_, rfl, _, rfl, by omega, by omega, ?_⟩
  refine for_it (walk_range (lo := 0) (n := n)) (fun i σ' G => (∃ r, σ' = [some (.int (n : Nat)), some (.int (fi : Nat)), some (.ref D), r, none]) ∧ Ext H2 (L2.del G D) ∧ RowsAt K G D ((List.range i).flatMap (shelfTurn n))) ⟨⟨_, rfl⟩, ext_off (Ext.upd hD) hD, ⟨[], upd_same, .nil⟩⟩ (fun _ _ _ _ _ => trivial) ?_ ?_
  · rintro i x σ' G G' hi ⟨⟨r0, rfl⟩, e, hR⟩ ⟨rfl, rfl⟩
    have hR0 := hR
    obtain ⟨rs, hDr, hA⟩ := hR
    have e0 : (0 + (i : Int)) = ((i : Nat) : Int) := by omega
    dsimp only [tRet, tRetN, tSeq, tAsg, tOp, tVar, tC, tCB, tCons, tNil, tAndV, tOrV, tNotV, tAnd, tOr, tNot, tTest, tIf, tIfS, tB, tChain, tSl, tPart, tNoPart, tLst, tTup, tFld, tCl, tMt, tMk, gName, tNext, tBM, tBM0, tUn, tSub, tPar, tPar3, gTup, gCons, gNil, tDrop, tMkS, tM1, sFld, StX.tStar, tYes, gSub, cxOf, Cx.wish, Cx.nox, Cx.blk]
    rw [e0]
    refine ⟨_, rfl, .inl ⟨rfl, _, SqL.of hDr⟩, _, rfl, _, rfl, by omega, by omega, fun D2 hD2 => ?_⟩
    refine lc_rel (walk_range (lo := 0) (n := n)) (R := fun j y G2 => ∃ t, y = .ref t ∧ t ≠ D ∧ G2 t = some (.tup (([(i : Int), (j : Int), 0, (j : Int)] : List Int).map V.int))) hD2 (fun j y G1 G2 e2 ⟨t, x1, x2, x3⟩ => ⟨t, x1, x2, e2 _ _ x3⟩) (small_of (m := 60) (by omega)) (fun _ _ => trivial) (fun i H x H' y => by rw [y.1]; exact Ext.rfl') ?_ ?_
    · rintro j x G1 G2 hj e1 nz ⟨rfl, rfl⟩ Q2 k2
      have e3 : (0 + (j : Int)) = ((j : Nat) : Int) := by omega
      dsimp only [tRet, tRetN, tSeq, tAsg, tOp, tVar, tC, tCB, tCons, tNil, tAndV, tOrV, tNotV, tAnd, tOr, tNot, tTest, tIf, tIfS, tB, tChain, tSl, tPart, tNoPart, tLst, tTup, tFld, tCl, tMt, tMk, gName, tNext, tBM, tBM0, tUn, tSub, tPar, tPar3, gTup, gCons, gNil, tDrop, tMkS, tM1, sFld, StX.tStar, tYes, gSub, cxOf, Cx.wish, Cx.nox, Cx.blk]
      rw [e3]
      refine ⟨rfl, _, rfl, _, rfl, _, rfl, (by show 4 ≤ sizeLine; decide), fun t ht => k2 _ _ (Ext.upd ht) ⟨t, rfl, ?_, ?_⟩⟩
      · intro z
        have := (e1.trans ext_del) _ _ hDr
        rw [← z, ht] at this
        cases this
      · rw [del_ne (fun z => nz (by rw [← z]; exact ht)), upd_same]
        rfl
    · intro ys G2 hz1 hz2 e2 hDy
      have hz1 : ys.length = n := hz1
      have hDr2 := e2 _ _ hDr
      have l1 : rs.length = i * (n + 1) := by
        rw [RowsAt.len hA]
        exact flat_len (f := shelfTurn n) (k := n + 1) (fun j => by rw [shelfTurn, List.length_append, shelfAsk, List.length_map, List.length_range]; rfl) i
      have l2 : i * (n + 1) ≤ 7 * 8 := Nat.mul_le_mul (by omega) (by omega)
      refine ⟨D, D2, rs, ys, rfl, rfl, hDr2, hDy, by rw [l1, hz1]; exact Nat.le_of_lt (small_of (m := 90) (by omega)), ?_⟩
      have e3 : Ext (L2.del G' D) (L2.del (upd G2 D (.lst (rs ++ ys))) D) := by rw [del_upd]; exact ext_dels e2
      have R2 : RowsAt K (upd G2 D (.lst (rs ++ ys))) D _ := (hR0.ext e2).addN (more := shelfAsk n i) hDr2 (by rw [hz1, shelfAsk, List.length_map, List.length_range]) fun j y hy => by
        obtain ⟨t, x1, x2, x3⟩ := hz2 j y hy
        refine ⟨[(i : Int), (j : Int), 0, (j : Int)], t, ?_, x1, x2, ext_del _ _ x3⟩
        have : j < n := by
          obtain ⟨z, _⟩ := List.getElem?_eq_some_iff.mp hy
          omega
        rw [shelfAsk, List.getElem?_map, range_at this]
        rfl
      refine ⟨_, rfl, .inl ⟨rfl, _, SqL.of upd_same⟩, _, rfl, _, rfl, _, rfl, _, _, rfl, rfl, _, rfl, (by show 4 ≤ sizeLine; decide), fun t ht => ?_⟩
      have c : t ≠ D := fun z => by rw [z, upd_same] at ht; cases ht
      have hD3 : upd (upd G2 D (.lst (rs ++ ys))) t (.tup [.int (i : Nat), .int (n : Nat), .int (1 + (i : Nat)), .int (i : Nat)]) D = some (.lst (rs ++ ys)) := (Ext.upd ht) _ _ upd_same
      refine ⟨D, _, _, rfl, rfl, hD3, small_of (m := 90) (by rw [List.length_append, l1, hz1]; omega), ⟨_, rfl⟩, ?_, ?_⟩
      · rw [del_upd]
        exact e.trans (e3.trans (ext_dels (Ext.upd ht)))
      · rw [flat_range, shelfTurn, ← List.append_assoc]
        exact (R2.ext (Ext.upd ht)).add1 hD3 c upd_same
  · rintro σ' G ⟨⟨r0, rfl⟩, e, hR⟩
    obtain ⟨rs, hDr, hA⟩ := hR
    have hA := DpAll.ext ext_del hA
    have eG : Ext H2 G := e.trans ext_del
    dsimp only [tRet, tRetN, tSeq, tAsg, tOp, tVar, tC, tCB, tCons, tNil, tAndV, tOrV, tNotV, tAnd, tOr, tNot, tTest, tIf, tIfS, tB, tChain, tSl, tPart, tNoPart, tLst, tTup, tFld, tCl, tMt, tMk, gName, tNext, tBM, tBM0, tUn, tSub, tPar, tPar3, gTup, gCons, gNil, tDrop, tMkS, tM1, sFld, StX.tStar, tYes, gSub, cxOf, Cx.wish, Cx.nox, Cx.blk]
    refine ⟨_, rfl, "set", n, rfl, by decide, by omega, fun D3 H3 e3 n3 h3 => ?_⟩
    refine ⟨_, _, rfl, .inr (SqL.of h3), by simp only [List.length_cons, List.length_append, List.length_map, toldL_len, List.length_nil]; exact Nat.le_of_lt (small_of (m := 60) (by omega)), fun D6 hD6 => ?_⟩
    refine ⟨_, rfl, "n", n, rfl, by decide, by omega, fun D4 H4 e4 n4 h4 => ?_⟩
    refine ⟨_, _, rfl, .inr (SqL.of h4), by simp only [List.length_cons, List.length_append, List.length_map, toldL_len, List.length_nil]; exact Nat.le_of_lt (small_of (m := 60) (by omega)), fun D5 hD5 => ?_⟩
    have e45 : ∀ {o}, Ext _ (upd H4 D5 o) := e4.trans (Ext.upd hD5)
    have e5 : ∀ {o}, Ext G (upd H4 D5 o) := e3.trans ((Ext.upd hD6).trans e45)
    refine ⟨_, rfl, _, rfl, _, rfl, ?_⟩
    refine kind_made (k := shelfK n fi) (SqL.of (e45 _ _ upd_same)) (SqL.of upd_same) (SqL.of (e5 _ _ hDr)) (DpAll.ext e5 hA) ho rfl rfl ?_ ?_ fun a H' e6 na hk => q a H' (eG.trans (e5.trans e6)) (none_of (eG.trans e5) na) hk
    · show _ = (toldL "set" n ++ (["read"] : List Str)).map V.str
      rw [List.map_append]
      rfl
    · rw [List.append_nil]
      rfl
end
end K81

end
section
/-! Ow23: tuples known to be plain, their index; dicts of numbers whose keys are tuples of numbers, the keys' own tuples told at use. -/
namespace Ow
open PySem L2
open PySem.Spec PyProof.Rows
/-- a plain tuple: no dict of its own -/
def TupB (H : Hp) (t : Addr) (xs : List V) : Prop := ∃ o : Obj, o.dict = none ∧ H t = some (.frz o (.tup xs))
theorem TupB.ext {H H' : Hp} {t : Addr} {xs : List V} (h : TupB H t xs) (e : Ext H H') : TupB H' t xs := by
  obtain ⟨o, h1, h2⟩ := h
  exact ⟨o, h1, e _ _ h2⟩
theorem TupB.sq {K : W.Frag} {H : Hp} {t : Addr} {xs : List V} (h : TupB H t xs) : SqT K H t xs := by
  obtain ⟨o, h1, h2⟩ := h
  exact .inl (.inr ⟨o, h2⟩)
section
variable {X : Cx} {e o : Expr} {es : List Expr} {te to : TE} {t : TA} {pos apos cpos : Pos} {name : Str}
def tTupB (t : TA) : TE := fun σ H Q => t σ H fun xs H1 => xs.length ≤ sizeLine ∧ ∀ p H2, H1 p = none → Ext H1 H2 → (∀ b, b ≠ p → H2 b = H1 b) → TupB H2 p xs → Q (.ref p) H2
theorem pe_tupB {x1} (h : PA X es t) : PE X (.Tuple es x1 pos) (tTupB t) := by
  refine ⟨fun pins s σ H Q I hq => ?_⟩
  refine wpAny_Tuple_spliced (thn (h.run pos pins s σ H _ I hq) fun us s1 ⟨xs, H1, I1, r, z, q⟩ => ⟨by rw [← r.length]; exact z, ?_⟩)
  have hf : H1 s1.heap.objs.size = none := I1.hok.fresh (Nat.le_refl _)
  refine ⟨.ref s1.heap.objs.size, upd H1 s1.heap.objs.size (.frz _ (.tup xs)), I1.laid (t' := s1.toks) (fun b u e => Heap.get?_push_of_some _ e) (Nat.le_refl _) ⟨Heap.get?_push_size _ rfl, z, us, r, ⟨_, Heap.get?_push_size _ rfl, rfl, _, rfl⟩⟩, rfl, q _ _ hf (Ext.upd hf) (fun b hb => upd_ne hb) ⟨_, ?_, upd_same⟩⟩
  rfl
/-- t.index(n) -/
def tTIx (to : TE) (t : TA) : TE := fun σ H Q => to σ H fun x H1 => ∃ p, ∃ ns : List Int, x = .ref p ∧ TupB H1 p (ns.map V.int) ∧ t σ H1 fun ys H2 => ∃ k, ys = [.int k] ∧ TupB H2 p (ns.map V.int) ∧ k ∈ ns ∧ Q (.int (ns.idxOf k : Nat)) H2
theorem pe_tindex (ho : PE X o to) (ha : PA X (e :: es) t)
    (hbase : attributeBase o "index" X.env (eval o X.env) = eval o X.env := by rfl)
    (hfew : ((backTo cpos (starEach (e :: es) X.env)).all (fun x => !x.1) && (backToKw cpos (keywordEach [] X.env)).all (fun x => x.1.isSome)
      && decide ((e :: es).length + ([] : List Keyword).length + (if ([] : List Keyword).isEmpty then 0 else 1) < 30)) = true := by rfl)
    (hline : (apos.endLine == cpos.line) = true := by rfl) (hs : starEach (e :: es) X.env = (false, eval e X.env) :: starEach es X.env := by rfl) (hplain : (backTo cpos (starEach es X.env)).any (·.1) = false := by rfl) :
    PE X (.Call (.Attribute o "index" apos) (e :: es) [] cpos) (tTIx to t) := by
  refine ⟨fun pins s σ H Q I h => ?_⟩
  refine wpAny_Call_method_late hbase hfew hline rfl (thn (ho.run pins s σ H _ I h) fun v s1 ⟨x, H1, I1, r1, p, ns, ex, ⟨ob, hob, hp⟩, q1⟩ => ?_)
  subst ex
  cases r1
  obtain ⟨g, _, its, _, ⟨o2, g2, hc, _⟩⟩ := (show ObjOk X.prog X.w H1 s1.heap p (.frz ob (.tup (ns.map V.int))) from I1.hok p _ hp)
  refine ⟨"tuple", "tuple.index", PySem.F.plainAttrs_tuple, PySem.F.slot_tuple_index, PySem.F.type_tuple_index, ⟨o2, g2, hc⟩, fun a z => ?_, ?_⟩
  · cases z
    exact ⟨ob, g, hob⟩
  have hA := ha.run cpos pins s1 σ H1 _ I1 q1
  rw [hs] at hA ⊢
  refine Calls.callWith_builtin (by show (false || (backTo cpos (starEach es X.env)).any (·.1)) = false; rw [hplain] <;> rfl) (Calls.evalArgs_plain ?_)
  exact thn hA fun us s2 ⟨vs, H2, I2, r2, k, ey, hB, hk, q2⟩ => mt_tindex pins s2 σ H2 (.ref p) vs _ us Q I2 rfl r2 ⟨p, ns, k, rfl, ey, hB.sq, hk, q2⟩
end
/-! ### dicts of numbers -/
abbrev DEnt := List Int × Addr × Int
def DictX (P : Program) (w : World) (a : Addr) (L : List DEnt) : HO := .ext fun h => (a == sysModules) = false ∧ ∃ xs : List (List L2.Key × Addr × Value), Paired (fun (p : DEnt) (q : List L2.Key × Addr × Value) => q.1 = p.1.map Sum.inl ∧ q.2.1 = p.2.1 ∧ RelV (.int p.2.2) q.2.2) L xs ∧
  ∃ o es ep, h.get? a = some o ∧ o.ExactDict ∧ o.data = .dict es ep ∧ es.toList = xs.map (entryOfKey (tupleKind (mixKind P w))) ∧ (xs.map (·.1)).Nodup
theorem kV_ints (ks : List Int) : (ks.map (Sum.inl : Int → L2.Key)).map kV = ks.map V.int := by rw [List.map_map]; rfl
theorem paired_mem {α β : Type} {F : α → β → Prop} : ∀ {l : List α} {m : List β}, Paired F l m → ∀ q ∈ m, ∃ p ∈ l, F p q
  | _, _, .nil, q, h => nomatch h
  | _, _, .cons h t, q, hq => by
    rcases List.mem_cons.mp hq with rfl | hq
    · exact ⟨_, List.mem_cons_self, h⟩
    · obtain ⟨p, hp, hf⟩ := paired_mem t q hq
      exact ⟨p, List.mem_cons_of_mem _ hp, hf⟩
theorem paired_mem2 {α β : Type} {F : α → β → Prop} : ∀ {l : List α} {m : List β}, Paired F l m → ∀ p ∈ l, ∃ i : Nat, ∃ q, m[i]? = some q ∧ F p q
  | _, _, .nil, q, h => nomatch h
  | _, _, .cons h t, p, hp => by
    rcases List.mem_cons.mp hp with rfl | hp
    · exact ⟨0, _, rfl, h⟩
    · obtain ⟨i, q, hq, hf⟩ := paired_mem2 t p hp
      exact ⟨i + 1, q, by simpa using hq, hf⟩
section
variable {X : Cx} {pins : List (Addr × Obj)} {σ : L2.St} {H : Hp} {s : Shared}
theorem keyS (I : L2.Inv X pins σ H s) {b : Addr} {ks : List Int} (h : SqT X.K H b (ks.map V.int)) : (tupleKind (mixKind X.prog X.w)).is s.heap (ks.map Sum.inl) b := by
  obtain ⟨its, r, ⟨o, h1, h2, n, h3⟩, _⟩ := I.tuple h
  refine ⟨o, its.toArray, n, h1, h2, h3, ?_⟩
  rw [← kV_ints] at r
  simpa using items_are r
theorem dx_of (I : L2.Inv X pins σ H s) {a : Addr} {L : List DEnt} (h : H a = some (DictX X.prog X.w a L)) (hk : ∀ p ∈ L, SqT X.K H p.2.1 (p.1.map V.int)) : (a == sysModules) = false ∧ ∃ xs, Paired (fun (p : DEnt) (q : List L2.Key × Addr × Value) => q.1 = p.1.map Sum.inl ∧ q.2.1 = p.2.1 ∧ RelV (.int p.2.2) q.2.2) L xs ∧ s.heap.DictOfH (tupleKind (mixKind X.prog X.w)) a xs := by
  obtain ⟨hs, xs, r, o, es, ep, h1, h2, h3, h4, h5⟩ := (show ObjOk X.prog X.w H s.heap a (DictX X.prog X.w a L) from I.hok a _ h).1
  refine ⟨hs, xs, r, o, es, ep, h1, h2, h3, h4, fun x hx => ?_, h5⟩
  obtain ⟨p, hp, e1, e2, _⟩ := paired_mem r x hx
  rw [e1, e2]
  exact keyS I (hk p hp)
theorem dx_new {P : Program} {w : World} {H' : Hp} {h' : Heap} {a : Addr} {L : List DEnt} {xs : List (List L2.Key × Addr × Value)} (hs : (a == sysModules) = false) (r : Paired (fun (p : DEnt) (q : List L2.Key × Addr × Value) => q.1 = p.1.map Sum.inl ∧ q.2.1 = p.2.1 ∧ RelV (.int p.2.2) q.2.2) L xs) (dd : h'.DictOfH (tupleKind (mixKind P w)) a xs) : ObjOk P w H' h' a (DictX P w a L) := by
  obtain ⟨o, es, ep, h1, h2, h3, h4, h5, h6⟩ := dd
  refine ⟨⟨hs, xs, r, o, es, ep, h1, h2, h3, h4, h6⟩, ⟨o, h1⟩, fun g1 g2 ⟨z, xs', r', o', es', ep', k1, k2⟩ k => ⟨z, xs', r', o', es', ep', k _ k1, k2⟩⟩
theorem atKey_new {L : List DEnt} {xs : List (List L2.Key × Addr × Value)} (r : Paired (fun (p : DEnt) (q : List L2.Key × Addr × Value) => q.1 = p.1.map Sum.inl ∧ q.2.1 = p.2.1 ∧ RelV (.int p.2.2) q.2.2) L xs) {k : List Int} (hk : k ∉ L.map (·.1)) : atKey xs (k.map Sum.inl : List L2.Key) = none := by
  refine atKey_none_of_get fun j p e => hk ?_
  obtain ⟨q, hq, e1, _⟩ := paired_mem r _ (List.mem_of_getElem? e)
  have e2 : k = q.1 := by
    have inj : Function.Injective (Sum.inl : Int → L2.Key) := fun a b z => by cases z; rfl
    exact (List.map_inj_right (fun a b z => inj z)).mp e1
  rw [e2]
  exact List.mem_map_of_mem hq
end
def tAccX (K : W.Frag) (P : Program) (w : World) (tk tv : TE) : Addr → (Hp → Prop) → L2.St → Hp → Prop := fun D Nx σ H => tk σ H fun y H4 => tv σ H4 fun z H5 => ∃ (L : List DEnt) (b : Addr) (k : List Int) (i : Int), y = .ref b ∧ z = .int i ∧ H5 D = some (DictX P w D L) ∧ (∀ p ∈ L, SqT K H5 p.2.1 (p.1.map V.int)) ∧ SqT K H5 b (k.map V.int) ∧ k ∉ L.map (·.1) ∧ L.length < 1000 ∧ Nx (upd H5 D (DictX P w D (L ++ [(k, b, i)])))
section
variable {X : Cx}
theorem pe_dcX {kx vx tg iter : Expr} {ifs : List Expr} {scope : Scope} {own : List (Str × Nat)} {pos : Pos} {wi : TI} {g : TG} {tt : TT} {tk tv : TE} (hu : X.A.units + 1 < cLine) (hc : X.calm = true) (hN : X.N.Nodup) (hi : PI X tg iter wi) (ok : BlkOk X.N X.env.scope scope own)
    (hg : ∀ (s : Shared) (H : Hp) (C : Addr) (cl : List (Str × Addr)) (fp : List Addr), PG (X.blk s H scope (compEnvC scope cl C X.env) fp) tg g) (ht : ∀ (s : Shared) (H : Hp) (C : Addr) (cl : List (Str × Addr)) (fp : List Addr), PTs (X.blk s H scope (compEnvC scope cl C X.env) fp) ifs tt)
    (hk : ∀ (s : Shared) (H : Hp) (C : Addr) (cl : List (Str × Addr)) (fp : List Addr), PE (X.blk s H scope (compEnvC scope cl C X.env) fp) kx tk) (hv : ∀ (s : Shared) (H : Hp) (C : Addr) (cl : List (Str × Addr)) (fp : List Addr), PE (X.blk s H scope (compEnvC scope cl C X.env) fp) vx tv)
    (hs : ∀ x, foldedSetIterable iter X.env x = pure x := by intro _; rfl) : PE X (.DictComp kx vx [⟨tg, iter, ifs, 0⟩] scope pos) (tAcc wi g tt (fun D => DictX X.prog X.w D []) (tAccX X.K X.prog X.w tk tv) (own.map (·.2))) := by
  refine ⟨fun pins s σ H Q J h => ?_⟩
  rw [arm_eval_DictComp]
  refine acc_core (e := .DictComp kx vx [⟨tg, iter, ifs, 0⟩] scope pos) (ob := { cls := .type "dict", data := .dict #[] }) (fin := fun env D E K' t => wpAny (model X.prog X.w) X.A (eval kx env) (fun kv s₄ => wpAny (model X.prog X.w) X.A (eval vx env) (fun vv s₅ => wpAny (model X.prog X.w) X.A (dictSet D kv vv) (fun _ s₆ => K' s₆) E s₅) E s₄) E t)
    rfl (fun {t Q' E'} z => wpAny_newObj_type z) (fun h' G hb => dx_new (beq_eq_false_iff_ne.mpr (Ne.symm (Nat.ne_of_lt hb))) .nil ⟨_, #[], 0, Heap.get?_push_size _ rfl, ⟨rfl, rfl, rfl⟩, rfl, rfl, fun x hx => (nomatch hx), List.nodup_nil⟩) ?_ (fun env it D R t I turn n hn => compLoop_anyD I turn n hn) (fun env it D R t a b => codeAny_compStart_dict a b) hc hN J hi ok hg ht hs h fun D C s' m H' J' q hn f => ⟨m, hn, fun h2 sb => ?_⟩
  · intro sB HB C cl fp pB σB G t D Nx K' E' I hq hK
    refine thnF ((hk sB HB C cl fp).run pB t σB G _ I hq) fun kv s4 ⟨y, G4, I4, r4, q4⟩ => ?_
    refine thnF ((hv sB HB C cl fp).run pB s4 σB G4 _ I4 q4) fun vv s5 ⟨z, G5, I5, r5, L, b, k, i, ey, ez, hD, hL, hb, nk, l, nx⟩ => ?_
    subst ey ez
    cases r4
    obtain ⟨hsys, xs, r, dd⟩ := dx_of (X := X.blk sB HB scope (compEnvC scope cl C X.env) fp) I5 hD hL
    have lx : xs.length ≤ sizeLine := by
      rw [← Paired.length r, sizeLine_eq]
      omega
    refine wpAny_dictSet_heap (hsz := lx) (show X.A.units < cLine by omega) (keyS (X := X.blk sB HB scope (compEnvC scope cl C X.env) fp) I5 hb) dd fun h' dd' hsb => hK _ _ (d_write (X := X.blk sB HB scope (compEnvC scope cl C X.env) fp) I5 (by rw [hD]; exact True.intro) hsb (let ⟨q, _, _, hq, _⟩ := dd'; ⟨q, hq⟩) ?_) nx
    rw [storedH_new (atKey_new r nk)] at dd'
    exact dx_new hsys (Paired.snoc r ⟨rfl, rfl, r5⟩) dd'
  · exact ⟨.ref D, H', J'.turned (t' := s'.toks) (fun b o hb e => (sb.2 b hb).trans e) f.1 f.2.1 f.2.2.2.1 f.2.2.2.2.1 f.2.2.2.2.2, rfl, q⟩
/-- d[t] -/
def tDGetX (K : W.Frag) (P : Program) (w : World) (td ty : TE) : TE := fun σ H Q => td σ H fun x H1 => ty σ H1 fun y H2 => ∃ (a : Addr) (L : List DEnt) (b : Addr) (k : List Int) (i : Int), x = .ref a ∧ y = .ref b ∧ H2 a = some (DictX P w a L) ∧ (∀ p ∈ L, SqT K H2 p.2.1 (p.1.map V.int)) ∧ SqT K H2 b (k.map V.int) ∧ (∃ c, (k, c, i) ∈ L) ∧ Q (.int i) H2
theorem pe_dgetX {K : W.Frag} {P : Program} {w : World} {o i : Expr} {pos : Pos} {td ty : TE} (hK : X.K = K) (hP : X.prog = P) (hw : X.w = w) (hu : X.A.units + 1 < cLine) (ho : PE X o td) (hi : PE X i ty) (hs : NoSl i) : PE X (.Subscript o i pos) (tDGetX K P w td ty) := by
  subst hK hP hw
  refine ⟨fun pins s σ H Q I h => ?_⟩
  refine subD_of PySem.F.slot_dict_getitem.lookup hs (thn (ho.run pins s σ H _ I h) fun u s1 ⟨x, H1, I1, rx, q1⟩ => thn (hi.run pins s1 σ H1 _ I1 q1) fun iv s2 ⟨y, H2, I2, ry, a, L, b, k, i, ex, ey, hD, hL, hb, ⟨c, hm⟩, q2⟩ => ?_)
  subst ex ey
  cases rx
  cases ry
  obtain ⟨hsys, xs, r, dd⟩ := dx_of I2 hD hL
  have ty : s2.TypeIs (.ref a) "dict" := by
    obtain ⟨ob, es, ep, h1, h2, _⟩ := dd
    exact ⟨ob, h1, h2.1⟩
  obtain ⟨j, q, hq, e1, e2, e3⟩ := paired_mem2 r _ hm
  have nd : (xs.map (·.1)).Nodup := by
    obtain ⟨ob, es, ep, h1, h2, h3, h4, h5, h6⟩ := dd
    exact h6
  obtain ⟨q1, q2', q3⟩ := q
  cases e1
  have ak := atKey_of_get nd hq
  refine ⟨ty, wpAny_getItem_heap (tupleKind_room_in1 hu) (keyS I2 hb) dd ak ?_⟩
  exact ⟨.int i, H2, I2.tok _, e3, q2⟩
end
end Ow

end
section
/-! K81h: a bag's lists. -/
namespace K81
open PySem L2 Ow
open PySem.Spec PyProof.Rows
section
variable {X : Cx} {K : W.Frag} {e : Expr} {es : List Expr} {te : TE} {t : TA} {p : Pos}
theorem pa_starK (hK : X.K = K) (he : PE X e te) (hr : PA X es t) (hs : starEach (.Starred e p :: es) X.env = (true, eval e X.env) :: starEach es X.env := by rfl) : PA X (.Starred e p :: es) (StX.tStar K te t) := by
  subst hK
  exact StX.pa_star he hr hs
end
/-- tuples of numbers, each at its place -/
def TupL (H : Hp) (rs : List V) (rows : List (List Int)) : Prop := rs.length = rows.length ∧ ∀ (i : Nat) y, rs[i]? = some y → ∃ r t, rows[i]? = some r ∧ y = .ref t ∧ TupB H t (r.map V.int)
theorem TupL.ext {H H' : Hp} {rs : List V} {rows : List (List Int)} (e : Ext H H') (h : TupL H rs rows) : TupL H' rs rows := ⟨h.1, fun i y hy => by
  obtain ⟨r, t, x1, x2, x3⟩ := h.2 i y hy
  exact ⟨r, t, x1, x2, x3.ext e⟩⟩
theorem TupL.nil {H : Hp} : TupL H [] [] := ⟨rfl, fun i y hy => by simp at hy⟩
theorem TupL.app {H : Hp} {rs ss : List V} {rows more : List (List Int)} (h : TupL H rs rows) (h2 : TupL H ss more) : TupL H (rs ++ ss) (rows ++ more) := ⟨by rw [List.length_append, List.length_append, h.1, h2.1], fun i y hy => by
  by_cases c : i < rs.length
  · rw [List.getElem?_append_left c] at hy
    obtain ⟨r, t, x1, x2, x3⟩ := h.2 i y hy
    exact ⟨r, t, by rw [List.getElem?_append_left (by rw [← h.1]; exact c)]; exact x1, x2, x3⟩
  · rw [List.getElem?_append_right (by omega)] at hy
    obtain ⟨r, t, x1, x2, x3⟩ := h2.2 _ y hy
    exact ⟨r, t, by rw [List.getElem?_append_right (by rw [← h.1]; omega), ← h.1]; exact x1, x2, x3⟩⟩
theorem TupL.one {H : Hp} {t : Addr} {r : List Int} (h : TupB H t (r.map V.int)) : TupL H [.ref t] [r] := ⟨rfl, fun i y hy => by
  match i, hy with
  | 0, hy => cases hy; exact ⟨r, t, rfl, rfl, h⟩⟩
def insI (a : Int) : List Int → List Int
  | [] => [a]
  | b :: r => if a ≤ b then a :: b :: r else b :: insI a r
def sortI (l : List Int) : List Int := l.foldr insI []
theorem insI_perm (a : Int) : ∀ l, (insI a l).Perm (a :: l)
  | [] => .refl _
  | b :: r => by
    unfold insI
    split
    · exact .refl _
    · exact ((insI_perm a r).cons b).trans (.swap a b r)
theorem insI_sorted (a : Int) : ∀ l : List Int, l.Pairwise (· ≤ ·) → (insI a l).Pairwise (· ≤ ·)
  | [], _ => List.pairwise_singleton _ _
  | b :: r, h => by
    obtain ⟨h1, h2⟩ := List.pairwise_cons.mp h
    unfold insI
    split
    · rename_i c
      exact List.pairwise_cons.mpr ⟨fun x hx => by
        rcases List.mem_cons.mp hx with rfl | hx
        · exact c
        · exact Int.le_trans c (h1 x hx), h⟩
    · rename_i c
      refine List.pairwise_cons.mpr ⟨fun x hx => ?_, insI_sorted a r h2⟩
      rcases List.mem_cons.mp ((insI_perm a r).mem_iff.mp hx) with rfl | hx
      · omega
      · exact h1 x hx
theorem sortI_perm : ∀ l, (sortI l).Perm l
  | [] => .refl _
  | a :: l => (insI_perm a (sortI l)).trans ((sortI_perm l).cons a)
theorem sortI_sorted : ∀ l, (sortI l).Pairwise (· ≤ ·)
  | [] => .nil
  | a :: l => insI_sorted a _ (sortI_sorted l)
def putI (xs : List Int) (i : Int) : List Int := sortI (xs ++ [i])
theorem putI_of {xs ns : List Int} {i : Int} (hp : ns.Perm (xs ++ [i])) (hs : ns.Pairwise (· ≤ ·)) : ns = putI xs i :=
  List.Perm.eq_of_pairwise (le := fun a b => a ≤ b) (fun a b _ _ h1 h2 => Int.le_antisymm h1 h2) hs (sortI_sorted _) (hp.trans (sortI_perm _).symm)
/-- the values, each once, in their order -/
def setI (xs : List Int) : List Int := sortI xs.eraseDups
theorem setI_of {xs ns : List Int} (hs : ns.Pairwise (· < ·)) (hm : ∀ k, k ∈ ns ↔ k ∈ xs) : ns = setI xs := by
  obtain ⟨d1, d2⟩ := dedup_ok xs.length xs (Nat.le_refl _)
  refine List.Perm.eq_of_pairwise (le := fun a b => a ≤ b) (fun a b _ _ h1 h2 => Int.le_antisymm h1 h2) (hs.imp Int.le_of_lt) (sortI_sorted _) ?_
  refine ((List.perm_ext_iff_of_nodup (hs.imp fun h => Int.ne_of_lt h) d1).mpr fun k => ?_).trans (sortI_perm _).symm
  rw [hm, d2]
section
variable {w : World} {K : W.Frag} {mg : Str → Option Value} {base : Heap}
def sp_need_room : Sp := fun vs H Q _ => ∃ n m : Nat, vs = [.int (n : Nat), .int (m : Nat)] ∧ 1 ≤ n ∧ n ≤ 8 ∧ 1 ≤ m ∧ m ≤ 3 ∧ Q .non H
theorem c_need_room (T : Txt K mg) : Cal prg w K mg base CX0 4 "need_room" ["room", "items"] (sp_need_room) := by
  refine T.d_need_room.cal sc_need_room (fun vs H Q E ⟨n, m, e, _⟩ => by rw [e]; rfl) fun f cdv A outer s H vs Q E hr h => ?_
  have nd := sc_need_room.nd
  obtain ⟨n, m, rfl, n1, n8, m1, m3, q⟩ := h
  refine ⟨_, PSs.nox (pss_cons (ps_expr (pe_cl (c_need_number T) (hr.mono (by decide)) pass0 (pa_cons (pv 0) (pa_cons pe_str (pa_cons pe_int (pa_cons (pe_glob (v := .int 8) rfl T.g_MOST_ROOM.choose_spec ⟨_, rfl⟩) pa_nil))))))
      (pss_one (ps_expr (pe_cl (c_need_number T) (hr.mono (by decide)) pass0 (pa_cons (pv 1) (pa_cons pe_str (pa_cons pe_int (pa_cons (pe_glob (v := .int 3) rfl T.g_MOST_ITEMS.choose_spec ⟨_, rfl⟩) pa_nil)))))))), ?_⟩
  dsimp only [tRet, tRetN, tSeq, tAsg, tOp, tVar, tC, tCB, tCons, tNil, tAndV, tOrV, tNotV, tAnd, tOr, tNot, tTest, tIf, tIfS, tB, tChain, tSl, tPart, tNoPart, tLst, tTup, tFld, tCl, tMt, tMk, gName, tNext, tBM, tBM0, tUn, tSub, tPar, tPar3, gTup, gCons, gNil, tDrop, tMkS, tM1, sFld, StX.tStar, tYes, gSub, cxOf, Cx.wish, Cx.nox, Cx.blk]
  exact ⟨_, rfl, _, _, _, _, rfl, by omega, by omega, _, rfl, _, _, _, _, rfl, by omega, by omega, q⟩
def sp_put_between (K : W.Frag) : Sp := fun vs H Q _ => ∃ t xs i, vs = [.ref t, .int i] ∧ SqT K H t (xs.map V.int) ∧ xs.length ≤ 20 ∧ ∀ p H', Ext H H' → H p = none → H' p = some (.tup ((putI xs i).map V.int)) → Q (.ref p) H'
theorem c_put_between (T : Txt K mg) : Cal prg w K mg base CX0 1 "put_between" ["some", "item"] (sp_put_between K) := by
  refine T.d_put_between.cal sc_put_between (fun vs H Q E ⟨t, xs, i, e, _⟩ => by rw [e]; rfl) fun f cdv A outer s H vs Q E hr h => ?_
  have nd := sc_put_between.nd
  obtain ⟨t, xs, i, rfl, ht, hl, q⟩ := h
  refine ⟨_, PSs.nox (pss_one (ps_ret (pe_callTy call_tuple_of (by rfl) T.f_tuple (by decide +kernel) (pa_cons (pe_callB cr_sorted (by rfl) T.f_sorted (by decide +kernel) (pa_cons (pe_lst (StX.pa_star (pv 0) (pa_cons (pv 1) pa_nil))) pa_nil)) pa_nil)))), ?_⟩
  dsimp only [tRet, tRetN, tSeq, tAsg, tOp, tVar, tC, tCB, tCons, tNil, tAndV, tOrV, tNotV, tAnd, tOr, tNot, tTest, tIf, tIfS, tB, tChain, tSl, tPart, tNoPart, tLst, tTup, tFld, tCl, tMt, tMk, gName, tNext, tBM, tBM0, tUn, tSub, tPar, tPar3, gTup, gCons, gNil, tDrop, tMkS, tM1, sFld, StX.tStar, tYes, gSub, cxOf, Cx.wish, Cx.nox, Cx.blk]
  refine ⟨_, rfl, t, _, rfl, .inl ht, _, rfl, by rw [List.length_append, List.length_map]; exact Nat.le_of_lt (small_of (m := 60) (by simp; omega)), fun D hD => ?_⟩
  refine ⟨D, xs ++ [i], rfl, SqL.of (by rw [upd_same, List.map_append]; rfl), by simp; omega, fun ns p hp hs np => ?_⟩
  refine ⟨p, _, rfl, .inl ⟨SqL.of upd_same, fun t2 ht2 => q t2 _ ((Ext.upd hD).trans ((Ext.upd np).trans (Ext.upd ht2))) (none_of ((Ext.upd hD).trans (Ext.upd np)) ht2) ?_⟩⟩
  rw [upd_same, putI_of hp hs]
def outI (xs : List Int) : List (Int × List Int) := (setI xs).map fun v => (v, xs.eraseIdx (xs.idxOf v))
theorem cutV_take {xs : List V} {k : Nat} (h : k ≤ xs.length) : cutV xs none (some (k : Int)) = xs.take k := by
  unfold cutV
  rw [HT.sIx_none, HT.sIx_nat, Nat.min_eq_left h, Nat.sub_zero, List.drop_zero]
theorem cutV_drop {xs : List V} {k : Nat} (h : k ≤ xs.length) : cutV xs (some (k : Int)) none = xs.drop k := by
  unfold cutV
  rw [HT.sIx_none, HT.sIx_nat, Nat.min_eq_left h, List.take_of_length_le (by rw [List.length_drop]; exact Nat.le_refl _)]
def PairAt (H : Hp) (y : V) (v : Int) (r : List Int) : Prop := ∃ p t, y = .ref p ∧ H p = some (.tup [.int v, .ref t]) ∧ H t = some (.tup (r.map V.int))
theorem PairAt.ext {H H' : Hp} {y : V} {v : Int} {r : List Int} (h : PairAt H y v r) (e : Ext H H') : PairAt H' y v r := by
  obtain ⟨p, t, h1, h2, h3⟩ := h
  exact ⟨p, t, h1, e _ _ h2, e _ _ h3⟩
theorem cat_rd {K : W.Frag} {H : Hp} {a b : Addr} {xs ys : List V} {Q : VK} (ha : H a = some (.tup xs)) (hb : H b = some (.tup ys)) (hl : xs.length + ys.length ≤ 100) (q : ∀ p H', Ext H H' → (p = a ∨ p = b ∨ H p = none) → H' p = some (.tup (xs ++ ys)) → Q (.ref p) H') : rCatA K (.ref a) (.ref b) H Q := by
  refine ⟨a, b, xs, ys, rfl, rfl, SqT.of ha, SqT.of hb, Nat.le_of_lt (small_of hl), fun e => q b H Ext.rfl' (.inr (.inl rfl)) (by rw [hb, e]; rfl), fun _ e => q a H Ext.rfl' (.inl rfl) (by rw [ha, e, List.append_nil]), fun _ _ p hp => q p _ (Ext.upd hp) (.inr (.inr hp)) upd_same⟩
theorem slA_take {K : W.Frag} {H : Hp} {a : Addr} {xs : List V} {k : Nat} {Q : VK} (ha : SqT K H a xs) (hk : k < xs.length) (q : ∀ p, H p = none → Q (.ref p) (upd H p (.tup (xs.take k)))) : rSlA K (.ref a) none (some (k : Int)) H Q := by
  refine ⟨a, xs, rfl, ha, fun z => ?_, fun _ p hp => ?_⟩
  · have z2 := z.2
    rw [HT.sIx_nat, Nat.min_eq_left (Nat.le_of_lt hk)] at z2
    omega
  · rw [cutV_take (Nat.le_of_lt hk)]
    exact q p hp
theorem slA_drop {K : W.Frag} {H : Hp} {a : Addr} {xs : List V} {k : Nat} {Q : VK} (ha : SqT K H a xs) (hk : k < xs.length) (q : ∀ p, H p = none → Q (.ref p) (upd H p (.tup (xs.drop (k + 1))))) : rSlA K (.ref a) (some ((k : Int) + 1)) none H Q := by
  have e : ((k : Int) + 1) = ((k + 1 : Nat) : Int) := by omega
  rw [e]
  refine ⟨a, xs, rfl, ha, fun z => ?_, fun _ p hp => ?_⟩
  · have z1 := z.1
    rw [HT.sIx_nat, Nat.min_eq_left (by omega)] at z1
    omega
  · rw [cutV_drop (by omega)]
    exact q p hp
def sp_any_out (K : W.Frag) : Sp := fun vs H Q _ => ∃ t xs, vs = [.ref t] ∧ TupB H t (xs.map V.int) ∧ xs.length ≤ 20 ∧ ∀ D ys H', Ext H H' → H D = none → H' D = some (.lst ys) → ys.length = (outI xs).length →
  (∀ (i : Nat) y, ys[i]? = some y → ∃ v r, (outI xs)[i]? = some (v, r) ∧ PairAt H' y v r) → Q (.ref D) H'
theorem c_any_out (T : Txt K mg) : Cal prg w K mg base CX0 1 "any_out" ["some"] (sp_any_out K) := by
  refine T.d_any_out.cal sc_any_out (fun vs H Q E ⟨t, xs, e, _⟩ => by rw [e]; rfl) fun f cdv A outer s H vs Q E hr h => ?_
  have nd := sc_any_out.nd
  obtain ⟨t, xs, rfl, ht, hl, q⟩ := h
  refine ⟨_, PSs.nox (pss_cons (ps_setLc (i := 1) (own := [("item", 2)]) (tt := tYes) (g := gName 2) rfl nd rfl rfl (sw_true rfl rfl rfl (by decide +kernel)) (pi_list (pe_callB (cr_sortedSet rfl) (by rfl) T.f_sorted (by decide +kernel) (pa_cons (pe_callTy (call_setTup rfl) (by rfl) T.f_set (by decide +kernel) (pa_cons (pv 0) pa_nil)) pa_nil))) (blkOk_by (own := [("item", 2)]) (N := ["some", "spots", "item", "at"]) (sc := defScope s_any_out) (by decide +kernel)) (fun _ _ _ _ _ => (pg_name (i := 2) nd rfl (Or.inl rfl))) (fun _ _ _ _ _ => pts_nil) (fun _ _ _ _ _ => (pe_tindex (pv 0) (pa_cons (pv 2) pa_nil))))
      (pss_one (ps_ret (pe_lc (own := [("at", 3)]) (tt := tYes) (g := gName 3) rfl nd (pi_list (pv 1)) (blkOk_by (own := [("at", 3)]) (N := ["some", "spots", "item", "at"]) (sc := defScope s_any_out) (by decide +kernel)) (fun _ _ _ _ _ => (pg_name (i := 3) nd rfl (Or.inl rfl))) (fun _ _ _ _ _ => pts_nil) (fun _ _ _ _ _ => (pe_tup (pa_cons (pe_ix (ixK (K := K) rIxT rfl ix_tup) (pv 0) (pv 3) (fun _ _ => rfl)) (pa_cons (pe_op (opK (K := K) rCatA rfl op_catA) (pe_slice (slK (K := K) rSlA rfl sl_tupA) (pv 0) po_none (po_some (pv 3))) (pe_slice (slK (K := K) rSlA rfl sl_tupA) (pv 0) (po_some (pe_op op_add (pv 3) pe_int)) po_none)) pa_nil)))))))), ?_⟩
  dsimp only [tRet, tRetN, tSeq, tAsg, tOp, tVar, tC, tCB, tCons, tNil, tAndV, tOrV, tNotV, tAnd, tOr, tNot, tTest, tIf, tIfS, tB, tChain, tSl, tPart, tNoPart, tLst, tTup, tFld, tCl, tMt, tMk, gName, tNext, tBM, tBM0, tUn, tSub, tPar, tPar3, gTup, gCons, gNil, tDrop, tMkS, tM1, sFld, StX.tStar, tYes, gSub, cxOf, Cx.wish, Cx.nox, Cx.blk]
  refine ⟨_, rfl, t, xs, rfl, ht.sq, by omega, fun a c na hc => ⟨a, _, c, rfl, upd_same, by omega, fun ns p hs hm hn np => ?_⟩⟩
  have en : ns = setI xs := setI_of hs fun k => by rw [hm k]; simp
  have e1 := (Ext.upd (o := SetO w a (fun j => decide (j ∈ xs)) c) na).trans (Ext.upd (o := HO.lst (ns.map V.int)) np)
  have hn64 : ns.length ≤ 20 := by omega
  refine ⟨p, rfl, ⟨_, SqL.of upd_same⟩, fun D hD => ?_⟩
  refine lc_scal walk_list (R := fun i y => ∃ v, ns[i]? = some v ∧ y = .int (xs.idxOf v : Nat)) hD (small_of (m := 60) (by rw [List.length_map]; omega)) (fun H e => SqL.of (e _ _ upd_same)) (fun i H x H' y => by rw [y.1]; exact Ext.rfl') ?_ ?_
  · rintro i x G G' hi e ⟨rfl, hx⟩ Q2 k2
    rw [List.getElem?_map] at hx
    obtain ⟨v, hv, rfl⟩ := Option.map_eq_some_iff.mp hx
    have hvx : v ∈ xs := by
      have z := (hm v).mp (List.mem_of_getElem? hv)
      simpa using z
    dsimp only [tRet, tRetN, tSeq, tAsg, tOp, tVar, tC, tCB, tCons, tNil, tAndV, tOrV, tNotV, tAnd, tOr, tNot, tTest, tIf, tIfS, tB, tChain, tSl, tPart, tNoPart, tLst, tTup, tFld, tCl, tMt, tMk, gName, tNext, tBM, tBM0, tUn, tSub, tPar, tPar3, gTup, gCons, gNil, tDrop, tMkS, tM1, sFld, StX.tStar, tYes, gSub, cxOf, Cx.wish, Cx.nox, Cx.blk]
    refine ⟨rfl, _, rfl, t, xs, rfl, ht.ext (e1.trans e), _, rfl, v, rfl, ht.ext (e1.trans e), hvx, k2 _ _ Ext.rfl' ⟨v, hv, rfl⟩⟩
  · intro zs G hz1 hz2 e hDz
    have lz : zs.length = ns.length := by rw [hz1, List.length_map]
    have ez : zs = (ns.map fun v => ((xs.idxOf v : Nat) : Int)).map V.int := by
      rw [List.map_map]
      exact map_of lz hz2
    dsimp only [tRet, tRetN, tSeq, tAsg, tOp, tVar, tC, tCB, tCons, tNil, tAndV, tOrV, tNotV, tAnd, tOr, tNot, tTest, tIf, tIfS, tB, tChain, tSl, tPart, tNoPart, tLst, tTup, tFld, tCl, tMt, tMk, gName, tNext, tBM, tBM0, tUn, tSub, tPar, tPar3, gTup, gCons, gNil, tDrop, tMkS, tM1, sFld, StX.tStar, tYes, gSub, cxOf, Cx.wish, Cx.nox, Cx.blk]
    refine ⟨_, rfl, D, rfl, ⟨_, SqL.of hDz⟩, fun D2 hD2 => ?_⟩
    refine lc_rel walk_list (R := fun i y G2 => ∃ v, ns[i]? = some v ∧ PairAt G2 y v (xs.eraseIdx (xs.idxOf v))) hD2 (fun j y G1 G2 e2 ⟨v, x1, x2⟩ => ⟨v, x1, x2.ext e2⟩) (small_of (m := 60) (by omega)) (fun H e => SqL.of (e _ _ hDz)) (fun i H x H' y => by rw [y.1]; exact Ext.rfl') ?_ ?_
    · rintro i x G1 G2 hi e2 nz ⟨rfl, hx⟩ Q2 k2
      obtain ⟨v, hv, rfl⟩ := hz2 i x hx
      have hvx : v ∈ xs := by
        have z := (hm v).mp (List.mem_of_getElem? hv)
        simpa using z
      have hat := List.idxOf_lt_length_iff.mpr hvx
      have hT : TupB G2 t (xs.map V.int) := ht.ext (e1.trans (e.trans (e2.trans ext_del)))
      dsimp only [tRet, tRetN, tSeq, tAsg, tOp, tVar, tC, tCB, tCons, tNil, tAndV, tOrV, tNotV, tAnd, tOr, tNot, tTest, tIf, tIfS, tB, tChain, tSl, tPart, tNoPart, tLst, tTup, tFld, tCl, tMt, tMk, gName, tNext, tBM, tBM0, tUn, tSub, tPar, tPar3, gTup, gCons, gNil, tDrop, tMkS, tM1, sFld, StX.tStar, tYes, gSub, cxOf, Cx.wish, Cx.nox, Cx.blk]
      have hl2 : xs.idxOf v < (xs.map V.int).length := by rw [List.length_map]; exact hat
      have hiv : atI (xs.map V.int) ((xs.idxOf v : Nat) : Int) = some (.int v) := atI_nat (by
        rw [List.getElem?_map, List.getElem?_eq_getElem hat, List.getElem_idxOf]
        rfl)
      refine ⟨rfl, _, rfl, _, rfl, t, _, _, _, rfl, rfl, hT.sq, hiv, _, rfl, _, rfl, _, rfl, slA_take hT.sq hl2 fun p1 np1 => ?_⟩
      refine ⟨_, rfl, _, rfl, _, _, rfl, rfl, _, rfl, slA_drop (hT.ext (Ext.upd np1)).sq hl2 fun p2 np2 => ?_⟩
      refine cat_rd ((Ext.upd np2) _ _ upd_same) upd_same (by rw [List.length_take, List.length_drop, List.length_map]; omega) fun p3 G3 e3 o3 h3 => ⟨by show 2 ≤ sizeLine; decide, fun p4 np4 => k2 _ _ ((Ext.upd np1).trans ((Ext.upd np2).trans (e3.trans (Ext.upd np4)))) ⟨v, hv, p4, p3, rfl, ?_, ?_⟩⟩
      · have c : p4 ≠ D2 := fun z => nz (by rw [← z]; exact none_of ((Ext.upd np1).trans ((Ext.upd np2).trans e3)) np4)
        rw [del_ne c, upd_same]
      · have c : p3 ≠ D2 := fun z => nz (by
          rw [← z]
          rcases o3 with o3 | o3 | o3
          · rw [o3]
            exact np1
          · rw [o3]
            exact none_of (Ext.upd np1) np2
          · exact none_of ((Ext.upd np1).trans (Ext.upd np2)) o3)
        rw [del_ne c, upd_ne (ne_of_none h3 np4), h3, List.eraseIdx_eq_take_drop_succ, List.map_append, List.map_take, List.map_drop]
    · intro ys G2 hz1' hz2' e2 hDy
      refine q D2 ys G2 (e1.trans (e.trans e2)) (none_of (e1.trans e) hD2) hDy (by rw [hz1', lz, en, outI, List.length_map]) fun i y hy => ?_
      obtain ⟨v, hv, hp⟩ := hz2' i y hy
      exact ⟨v, _, by rw [outI, List.getElem?_map, ← en, hv]; rfl, hp.ext ext_del⟩
end
end K81

end
section
/-! K81i: lists_to. -/
namespace K81
open PySem L2 Ow
open PySem.Spec PyProof.Rows
def loI (s : List Int) : Int := s.getLastD 0
def stepI (m : Nat) (s : List Int) : List (List Int) := (List.range ((m : Int) - loI s).toNat).map fun (j : Nat) => s ++ [loI s + (j : Int)]
/-- found, last -/
def listsI (m : Nat) : Nat → List (List Int) × List (List Int)
  | 0 => ([[]], [[]])
  | n + 1 => ((listsI m n).1 ++ (listsI m n).2.flatMap (stepI m), (listsI m n).2.flatMap (stepI m))
theorem at_last {s : List Int} (h : s ≠ []) : atI (s.map V.int) (-1) = some (.int (loI s)) := by
  have l : 0 < s.length := by
    have : s.length ≠ 0 := fun z => h (List.length_eq_zero_iff.mp z)
    omega
  unfold atI ixN
  rw [if_neg (by decide), List.length_map, if_pos (by omega)]
  show (s.map V.int)[((-1 : Int) + (s.length : Nat)).toNat]? = _
  have e : ((-1 : Int) + (s.length : Nat)).toNat = s.length - 1 := by omega
  rw [e, List.getElem?_map, ← List.getLast?_eq_getElem?, List.getLast?_eq_some_getLast h]
  unfold loI
  rw [List.getLastD_eq_getLast?, List.getLast?_eq_some_getLast h]
  rfl
theorem rowD_eqv {s : List Int} : PyData.eqv (rowD s) (rowD []) = decide (s = []) := by
  cases s with
  | nil => rfl
  | cons a r => rfl
theorem lay_all : ∀ {ds : List PyData} {n : Nat}, (PyData.canLayAll0 ds = true ∧ PyData.depthAll ds ≤ n) ↔ ∀ x ∈ ds, PyData.canLay0 x = true ∧ PyData.depth x ≤ n
  | [], n => by simp [PyData.canLayAll0, PyData.depthAll]
  | d :: r, n => by
    have ih := lay_all (ds := r) (n := n)
    simp only [PyData.canLayAll0, PyData.depthAll, Bool.and_eq_true, List.mem_cons, forall_eq_or_imp]
    rw [← ih, Nat.max_le]
    exact ⟨fun ⟨⟨a, b⟩, c, e⟩ => ⟨⟨a, c⟩, b, e⟩, fun ⟨⟨a, c⟩, b, e⟩ => ⟨⟨a, b⟩, c, e⟩⟩
theorem shaped_seq {d : PyData} (hs : dSeq d = true) : SeqAt.shaped d = true ↔ ∀ x ∈ dItems d, PyData.canLay0 x = true ∧ PyData.depth x ≤ 63 := by
  rw [← lay_all]
  cases d with
  | list xs => simp [SeqAt.shaped, PyData.canLay0, PyData.depth, dItems]
  | tuple xs => simp [SeqAt.shaped, PyData.canLay0, PyData.depth, dItems]
  | _ => cases hs
theorem rowD_shaped (s : List Int) : SeqAt.shaped (rowD s) = true := (shaped_seq rfl).mpr fun x hx => by
  obtain ⟨i, _, rfl⟩ := List.mem_map.mp hx
  exact ⟨rfl, Nat.zero_le _⟩
theorem step_at {m : Nat} {s : List Int} {j : Nat} (h : j < ((m : Int) - loI s).toNat) : (stepI m s)[j]? = some (s ++ [loI s + (j : Int)]) := by
  unfold stepI
  rw [List.getElem?_map, range_at h]
  rfl
theorem step_len {m : Nat} {s : List Int} : (stepI m s).length = ((m : Int) - loI s).toNat := by
  unfold stepI
  rw [List.length_map, List.length_range]
section
variable {w : World} {K : W.Frag} {mg : Str → Option Value} {base : Heap}
def sp_lists_to (K : W.Frag) : Sp := fun vs H Q _ => ∃ n m : Nat, vs = [.int (n : Nat), .int (m : Nat), .bl true] ∧ n ≤ 8 ∧ m ≤ 3 ∧ (∀ i, i ≤ n → (listsI m i).1.length ≤ 60) ∧ (∀ i, i ≤ n → ∀ s ∈ (listsI m i).2, 0 ≤ loI s ∧ loI s ≤ m ∧ s.length ≤ 8) ∧
  ∀ D ys H', Ext H H' → H D = none → H' D = some (.lst ys) → TupL H' ys (listsI m n).1 → Q (.ref D) H'
theorem c_lists_to (T : Txt K mg) : Cal prg w K mg base CX0 3 "lists_to" ["room", "items", "is_ordered"] (sp_lists_to K) := by
  refine T.d_lists_to.cal sc_lists_to (fun vs H Q E ⟨n, m, e, _⟩ => by rw [e]; rfl) fun f cdv A outer s H vs Q E hr h => ?_
  have nd := sc_lists_to.nd
  obtain ⟨n, m, rfl, n8, m3, h60, hlo, q⟩ := h
  refine ⟨_, PSs.nox (pss_cons (ps_par (i := 3) (j := 4) rfl nd rfl rfl (by decide) rfl rfl (pa_cons (pe_lst (pa_cons (pe_tupB pa_nil) pa_nil)) (pa_cons (pe_lst (pa_cons (pe_tupB pa_nil) pa_nil)) pa_nil)) (by rfl))
      (pss_cons (ps_for PassesOwn.never rfl (pi_range1 rfl T.f_range (pa_cons (pv 0) pa_nil)) (pg_name (i := 5) nd rfl (Or.inl rfl)) (pss_cons (ps_setLc2 (i := 4) (own := [("some", 6), ("item", 7)]) (tt := tYes) (g := gName 6) (g1 := gName 7) (tt1 := tYes) (vs1 := [7]) rfl nd rfl rfl (sw_true rfl rfl rfl (by decide +kernel)) (pi_list (pv 4)) (blkOk_by (own := [("some", 6), ("item", 7)]) (N := ["room", "items", "is_ordered", "found", "last", "_", "some", "item"]) (sc := defScope s_lists_to) (by decide +kernel)) (by decide) (fun _ _ _ _ _ => (pg_name (i := 6) nd rfl (Or.inl rfl))) (fun _ _ _ _ _ => pts_nil) (fun _ _ _ _ _ => (pi_range2 rfl T.f_range (pa_cons (pe_ifExp (PW.pt (pw_and (pt_val (pv 2)) (pw_and1 (pt_cmpR (opK (K := K) rNeD rfl (op_neD hr.units)) (pv 6) (pe_tupB pa_nil) (nomark _))))) (pe_ix (ixK (K := K) rIxT rfl ix_tup) (pv 6) (pe_un un_neg pe_int) (fun _ _ => rfl)) pe_int) (pa_cons (pv 1) pa_nil)))) (fun _ _ _ _ _ => (pg_name (i := 7) nd rfl (Or.inl rfl))) (fun _ _ _ _ _ => pts_nil) (fun _ _ _ _ _ => (pe_tupB (pa_starK (K := K) rfl (pv 6) (pa_cons (pv 7) pa_nil)))))
      (pss_cons (ps_set (i := 3) nd rfl (Or.inl rfl) (pe_op op_cat (pv 3) (pv 4)))
      (pss_one (ps_if (pt_cmpR op_gt (pe_callB call_len_seq (by rfl) T.f_len (by decide +kernel) (pa_cons (pv 3) pa_nil)) (pe_glob (v := .int 60) rfl T.g_MOST_STATES.choose_spec ⟨_, rfl⟩) (nomark _)) (pss_one ps_dead) pss_nil)))))
      (pss_one (ps_ret (pv 3))))), ?_⟩
  dsimp only [tRet, tRetN, tSeq, tAsg, tOp, tVar, tC, tCB, tCons, tNil, tAndV, tOrV, tNotV, tAnd, tOr, tNot, tTest, tIf, tIfS, tB, tChain, tSl, tPart, tNoPart, tLst, tTup, tFld, tCl, tMt, tMk, gName, tNext, tBM, tBM0, tUn, tSub, tPar, tPar3, gTup, gCons, gNil, tDrop, tMkS, tM1, sFld, StX.tStar, tYes, gSub, cxOf, Cx.wish, Cx.nox, Cx.blk, tTupB, tTIx, tDGetX, tLc2, tLc]
  refine ⟨Nat.zero_le _, fun t1 G1 n1 e1 u1 b1 => ⟨by show 1 ≤ sizeLine; decide, fun F0 hF0 => ⟨Nat.zero_le _, fun t2 G2 n2 e2 u2 b2 => ⟨by show 1 ≤ sizeLine; decide, fun D0 hD0 => ⟨_, _, rfl, ?_⟩⟩⟩⟩⟩
  refine ⟨_, rfl, _, rfl, by omega, by omega, ?_⟩
  have eF0 := Ext.upd (o := HO.lst [.ref t1]) hF0
  have eD0 := Ext.upd (o := HO.lst [.ref t2]) hD0
  refine for_it (walk_range (lo := 0) (n := ((n : Nat) : Int).toNat)) (fun i σ' G => ∃ F D fs ys r, σ' = [some (.int (n : Nat)), some (.int (m : Nat)), some (.bl true), some (.ref F), some (.ref D), r, none, none] ∧ Ext H G ∧ H F = none ∧ G F = some (.lst fs) ∧ TupL G fs (listsI m i).1 ∧ G D = some (.lst ys) ∧ TupL G ys (listsI m i).2)
    ⟨F0, D0, _, _, none, rfl, e1.trans (eF0.trans (e2.trans eD0)), none_of e1 hF0, (e2.trans eD0) _ _ upd_same, TupL.one (b1.ext (eF0.trans (e2.trans eD0))), upd_same, TupL.one (b2.ext eD0)⟩ (fun _ _ _ _ _ => trivial) ?_ ?_
  · rintro i x σ' G G' hi ⟨F, D, fs, ys, r, rfl, e, nF, hF, hT, hD, hY⟩ ⟨rfl, rfl⟩
    have hin : i < n := hi
    refine cut_asg (fun v H' => ∃ D2 zs, v = .ref D2 ∧ Ext G' H' ∧ H' D2 = some (.lst zs) ∧ TupL H' zs ((listsI m i).2.flatMap (stepI m))) (fun Q1 k1 => ?_) fun v G3 ⟨D2, zs, ev, e3, hD2, hZ⟩ => ?_
    · dsimp only [tRet, tRetN, tSeq, tAsg, tOp, tVar, tC, tCB, tCons, tNil, tAndV, tOrV, tNotV, tAnd, tOr, tNot, tTest, tIf, tIfS, tB, tChain, tSl, tPart, tNoPart, tLst, tTup, tFld, tCl, tMt, tMk, gName, tNext, tBM, tBM0, tUn, tSub, tPar, tPar3, gTup, gCons, gNil, tDrop, tMkS, tM1, sFld, StX.tStar, tYes, gSub, cxOf, Cx.wish, Cx.nox, Cx.blk, tTupB, tTIx, tDGetX, tLc2, tLc]
      refine ⟨_, rfl, D, rfl, ⟨_, SqL.of hD⟩, fun D2 hD2 => ?_⟩
      have nD2 : ∀ {o}, G' D = some o → D ≠ D2 := fun h => ne_of_none h hD2
      refine turns_it (walk_list (xs := ys)) (fun j G2 => ∃ zs, G2 D2 = some (.lst zs) ∧ Ext G' (L2.del G2 D2) ∧ TupL (L2.del G2 D2) zs (((listsI m i).2.take j).flatMap (stepI m))) ⟨[], upd_same, ext_off (Ext.upd hD2) hD2, TupL.nil⟩ (fun j G2 _ ⟨_, _, e2, _⟩ => SqL.of ((e2.trans ext_del) _ _ hD)) ?_ ?_
      · rintro j x G2 G3 hj ⟨zs, hz, e2, hZ⟩ ⟨rfl, hx⟩
        obtain ⟨s, t, hs, rfl, ht⟩ := hY.2 j x hx
        have ht2 : TupB G3 t (s.map V.int) := ht.ext (e2.trans ext_del)
        obtain ⟨lo0, lom, ls8⟩ := hlo i (by omega) s (List.mem_of_getElem? hs)
        dsimp only [tRet, tRetN, tSeq, tAsg, tOp, tVar, tC, tCB, tCons, tNil, tAndV, tOrV, tNotV, tAnd, tOr, tNot, tTest, tIf, tIfS, tB, tChain, tSl, tPart, tNoPart, tLst, tTup, tFld, tCl, tMt, tMk, gName, tNext, tBM, tBM0, tUn, tSub, tPar, tPar3, gTup, gCons, gNil, tDrop, tMkS, tM1, sFld, StX.tStar, tYes, gSub, cxOf, Cx.wish, Cx.nox, Cx.blk, tTupB, tTIx, tDGetX, tLc2, tLc]
        refine ⟨rfl, ?_⟩
        rw [if_pos (rfl : true = true)]
        unfold iRng2 tCons
        refine cut_te (fun v H' => v = .int (loI s) ∧ Ext G3 H') (fun Q1 k1 => ?_) fun v G4 ⟨ev, e4⟩ => ?_
        · dsimp only [tRet, tRetN, tSeq, tAsg, tOp, tVar, tC, tCB, tCons, tNil, tAndV, tOrV, tNotV, tAnd, tOr, tNot, tTest, tIf, tIfS, tB, tChain, tSl, tPart, tNoPart, tLst, tTup, tFld, tCl, tMt, tMk, gName, tNext, tBM, tBM0, tUn, tSub, tPar, tPar3, gTup, gCons, gNil, tDrop, tMkS, tM1, sFld, StX.tStar, tYes, gSub, cxOf, Cx.wish, Cx.nox, Cx.blk, tTupB, tTIx, tDGetX, tLc2, tLc]
          refine ⟨_, rfl, _, rfl, ?_⟩
          rw [if_pos (rfl : true = true)]
          refine ⟨_, rfl, Nat.zero_le _, fun p G4 np e4 u4 b4 => ⟨rowD s, rowD [], .tup (ht2.ext e4).sq (DpAll.ints s), .tup b4.sq .nil, rowD_shaped s, rfl, _, rfl, ?_⟩⟩
          rw [rowD_eqv]
          by_cases c : s = []
          · rw [decide_eq_true c]
            refine if_f rfl (k1 _ _ ⟨?_, e4⟩)
            rw [c]
            rfl
          · rw [decide_eq_false c]
            exact if_t rfl ⟨_, rfl, _, rfl, t, _, -1, .int (loI s), rfl, rfl, (ht2.ext e4).sq, at_last c, k1 _ _ ⟨rfl, e4⟩⟩
        subst ev
        dsimp only [tRet, tRetN, tSeq, tAsg, tOp, tVar, tC, tCB, tCons, tNil, tAndV, tOrV, tNotV, tAnd, tOr, tNot, tTest, tIf, tIfS, tB, tChain, tSl, tPart, tNoPart, tLst, tTup, tFld, tCl, tMt, tMk, gName, tNext, tBM, tBM0, tUn, tSub, tPar, tPar3, gTup, gCons, gNil, tDrop, tMkS, tM1, sFld, StX.tStar, tYes, gSub, cxOf, Cx.wish, Cx.nox, Cx.blk, tTupB, tTIx, tDGetX, tLc2, tLc]
        refine ⟨_, rfl, _, _, rfl, by omega, ?_⟩
        have e24 : Ext (L2.del G3 D2) (L2.del G4 D2) := ext_dels e4
        refine turns_it (walk_range (lo := loI s) (n := ((m : Int) - loI s).toNat)) (fun j2 G5 => ∃ zs, G5 D2 = some (.lst zs) ∧ Ext G' (L2.del G5 D2) ∧ TupL (L2.del G5 D2) zs (((listsI m i).2.take j).flatMap (stepI m) ++ (stepI m s).take j2)) ⟨zs, e4 _ _ hz, e2.trans e24, by rw [List.take_zero, List.append_nil]; exact hZ.ext e24⟩ (fun _ _ _ _ => trivial) ?_ ?_
        · rintro j2 x G5 G6 hj2 ⟨zs, hz, e5, hZ⟩ ⟨rfl, rfl⟩
          have ht5 : TupB G6 t (s.map V.int) := ht.ext (e5.trans ext_del)
          dsimp only [tRet, tRetN, tSeq, tAsg, tOp, tVar, tC, tCB, tCons, tNil, tAndV, tOrV, tNotV, tAnd, tOr, tNot, tTest, tIf, tIfS, tB, tChain, tSl, tPart, tNoPart, tLst, tTup, tFld, tCl, tMt, tMk, gName, tNext, tBM, tBM0, tUn, tSub, tPar, tPar3, gTup, gCons, gNil, tDrop, tMkS, tM1, sFld, StX.tStar, tYes, gSub, cxOf, Cx.wish, Cx.nox, Cx.blk, tTupB, tTIx, tDGetX, tLc2, tLc]
          refine ⟨rfl, ?_⟩
          rw [if_pos (rfl : true = true)]
          refine ⟨_, rfl, t, _, rfl, .inl ht5.sq, _, rfl, ?_, fun p G7 np e7 u7 b7 => ⟨zs, e7 _ _ hz, ?_, zs ++ [.ref p], upd_same, ?_, ?_⟩⟩
          · rw [List.length_append, List.length_map]
            exact Nat.le_of_lt (small_of (m := 60) (by simp; omega))
          · have hb : ((listsI m i).2.flatMap (stepI m)).length ≤ 60 := by
              have : ((listsI m i).1 ++ (listsI m i).2.flatMap (stepI m)).length ≤ 60 := h60 (i + 1) hin
              rw [List.length_append] at this
              omega
            have h3 : (((listsI m i).2.take (j + 1)).flatMap (stepI m)).length ≤ ((listsI m i).2.flatMap (stepI m)).length := by
              conv => rhs; rw [← List.take_append_drop (j + 1) (listsI m i).2]
              rw [List.flatMap_append, List.length_append]
              exact Nat.le_add_right _ _
            rw [flat_next hs, List.length_append] at h3
            rw [hZ.1, List.length_append, List.length_take]
            exact small_of (m := 60) (by omega)
          · rw [del_upd]
            exact e5.trans (ext_dels e7)
          · rw [del_upd, List.take_succ, step_at hj2, ← List.append_assoc]
            refine (hZ.ext (ext_dels e7)).app (TupL.one ?_)
            obtain ⟨o, o1, o2⟩ := b7
            refine ⟨o, o1, ?_⟩
            rw [del_ne (fun z => by rw [z, hz] at np; cases np), o2, List.map_append]
            rfl
        · rintro G5 ⟨zs, hz, e5, hZ⟩
          rw [← step_len, List.take_length, ← flat_next hs] at hZ
          exact ⟨zs, hz, e5, hZ⟩
      · rintro G2 ⟨zs, hz, e2, hZ⟩
        rw [hY.1, List.take_length] at hZ
        exact k1 _ _ ⟨D2, zs, rfl, e2.trans ext_del, hz, hZ.ext ext_del⟩
    subst ev
    dsimp only [tRet, tRetN, tSeq, tAsg, tOp, tVar, tC, tCB, tCons, tNil, tAndV, tOrV, tNotV, tAnd, tOr, tNot, tTest, tIf, tIfS, tB, tChain, tSl, tPart, tNoPart, tLst, tTup, tFld, tCl, tMt, tMk, gName, tNext, tBM, tBM0, tUn, tSub, tPar, tPar3, gTup, gCons, gNil, tDrop, tMkS, tM1, sFld, StX.tStar, tYes, gSub, cxOf, Cx.wish, Cx.nox, Cx.blk, tTupB, tTIx, tDGetX, tLc2, tLc]
    refine ⟨_, rfl, _, rfl, F, D2, fs, zs, rfl, rfl, e3 _ _ hF, hD2, ?_, fun F2 hF2 => ?_⟩
    · rw [hT.1, hZ.1, ← List.length_append]
      exact Nat.le_of_lt (small_of (m := 60) (h60 (i + 1) hin))
    refine ⟨_, rfl, F2, _, rfl, .inl (SqL.of upd_same), _, _, rfl, rfl, _, rfl, if_f ?_ ?_⟩
    · rw [List.length_append, hT.1, hZ.1, ← List.length_append]
      refine decide_eq_false ?_
      have : ((listsI m i).1 ++ (listsI m i).2.flatMap (stepI m)).length ≤ 60 := h60 (i + 1) hin
      omega
    refine ⟨F2, D2, _, _, _, rfl, e.trans (e3.trans (Ext.upd hF2)), none_of (e.trans e3) hF2, upd_same, (hT.ext (e3.trans (Ext.upd hF2))).app (hZ.ext (Ext.upd hF2)), (Ext.upd hF2) _ _ hD2, hZ.ext (Ext.upd hF2)⟩
  · rintro σ' G ⟨F, D, fs, ys, r, rfl, e, nF, hF, hT, hD, hY⟩
    dsimp only [tRet, tRetN, tSeq, tAsg, tOp, tVar, tC, tCB, tCons, tNil, tAndV, tOrV, tNotV, tAnd, tOr, tNot, tTest, tIf, tIfS, tB, tChain, tSl, tPart, tNoPart, tLst, tTup, tFld, tCl, tMt, tMk, gName, tNext, tBM, tBM0, tUn, tSub, tPar, tPar3, gTup, gCons, gNil, tDrop, tMkS, tM1, sFld, StX.tStar, tYes, gSub, cxOf, Cx.wish, Cx.nox, Cx.blk, tTupB, tTIx, tDGetX, tLc2, tLc]
    exact ⟨_, rfl, q F fs G e nF hF hT⟩
end
end K81

end
section
/-! K81j: bags. -/
namespace K81
open PySem L2 Ow
open PySem.Spec PyProof.Rows
def putRow (n : Nat) (lists : List (List Int)) (i : Nat) (s : List Int) (x : Nat) : List Int := if s.length < n then [(i : Int), (x : Int), 0, (lists.idxOf (putI s (x : Int)) : Int)] else [(i : Int), (x : Int), 1, (i : Int)]
def outRow (m : Nat) (lists : List (List Int)) (i : Nat) (p : Int × List Int) : List Int := [(i : Int), (m : Int), 3 + p.1, (lists.idxOf p.2 : Int)]
def putRows (n m : Nat) (lists : List (List Int)) (i : Nat) (s : List Int) : List (List Int) := (List.range m).map (putRow n lists i s)
def endRows (m : Nat) (lists : List (List Int)) (i : Nat) (s : List Int) : List (List Int) := if s = [] then [[(i : Int), (m : Int), 2, (i : Int)]] else (outI s).map (outRow m lists i)
def bagTurn (n m : Nat) (lists : List (List Int)) (i : Nat) : List (List Int) := putRows n m lists i (lists.getD i []) ++ endRows m lists i (lists.getD i [])
def listsK (n m : Nat) (lists : List (List Int)) : KN := ⟨toldL "add" m ++ (["next"] : List Str), (["ok", "full", "empty"] : List Str) ++ toldL "i" m, (lists.length : Nat), 0, (List.range lists.length).flatMap (bagTurn n m lists)⟩
theorem flat_pre {β : Type} {f : Nat → List β} {i : Nat} : ∀ {n : Nat}, i < n → ((List.range i).flatMap f).length + (f i).length ≤ ((List.range n).flatMap f).length
  | n + 1, h => by
    rw [flat_range, List.length_append]
    by_cases c : i = n
    · subst c
      exact Nat.le_refl _
    · have := flat_pre (f := f) (show i < n by omega)
      omega
theorem getD_of {lists : List (List Int)} {i : Nat} {s : List Int} (h : lists[i]? = some s) : lists.getD i [] = s := by
  rw [List.getD_eq_getElem?_getD, h]
  rfl
section
variable {w : World} {K : W.Frag} {mg : Str → Option Value} {base : Heap}
def sp_kind_of_lists (K : W.Frag) (mg : Str → Option Value) : Sp := fun vs H Q _ => ∃ n m : Nat, ∃ D fp fo ys lists, vs = [.int (n : Nat), .int (m : Nat), .ref D, .ref fp, .ref fo] ∧ mg "put_between" = some (.ref fp) ∧ mg "any_out" = some (.ref fo) ∧ m ≤ 3 ∧ H D = some (.lst ys) ∧ TupL H ys lists ∧ lists.Nodup ∧
  (∀ s ∈ lists, s.length < n → ∀ x, x < m → putI s (x : Nat) ∈ lists) ∧ (∀ s ∈ lists, ∀ p ∈ outI s, p.2 ∈ lists) ∧ (∀ s ∈ lists, s.length ≤ 8) ∧ lists.length ≤ 60 ∧ (listsK n m lists).ok = true ∧ newK K H (listsK n m lists) Q
theorem c_kind_of_lists (T : Txt K mg) : Cal prg w K mg base CX0 7 "kind_of_lists" ["room", "items", "lists", "put", "out"] (sp_kind_of_lists K mg) := by
  refine T.d_kind_of_lists.cal sc_kind_of_lists (fun vs H Q E ⟨n, m, D, fp, fo, ys, lists, e, _⟩ => by rw [e]; rfl) fun f cdv A outer s H vs Q E hr h => ?_
  have nd := sc_kind_of_lists.nd
  obtain ⟨n, m, D, fp, fo, ys, lists, rfl, mp, mo, m3, hD, hY, hnd, hput, hout, h8, h60, ho, q⟩ := h
  obtain ⟨f1, fd1, F1, hm1, hk1, hb1, _⟩ := (c_put_between T).ex (w := w) (base := base)
  obtain ⟨f2, fd2, F2, hm2, hk2, hb2, _⟩ := (c_any_out T).ex (w := w) (base := base)
  rw [mp] at hm1
  cases hm1
  rw [mo] at hm2
  cases hm2
  refine ⟨_, PSs.nox (pss_cons (ps_asg (pe_tup (pa_cons (pe_dcX (own := [("at", 7), ("some", 8)]) (tt := tYes) (g := gTup K 2 (gCons (gName 7) (gCons (gName 8) gNil))) hr.one rfl nd (pi_enum (by rfl) T.f_enumerate (pa_cons (pv 2) pa_nil)) (blkOk_by (own := [("at", 7), ("some", 8)]) (N := ["room", "items", "lists", "put", "out", "spots", "rows", "at", "some", "item", "rest"]) (sc := defScope s_kind_of_lists) (by decide +kernel)) (fun _ _ _ _ _ => (pg_tup (by rfl) (pgs_cons (pg_name (i := 7) nd rfl (Or.inl rfl)) (pgs_cons (pg_name (i := 8) nd rfl (Or.inl rfl)) pgs_nil)))) (fun _ _ _ _ _ => pts_nil) (fun _ _ _ _ _ => (pv 8)) (fun _ _ _ _ _ => (pv 7))) (pa_cons (pe_lst pa_nil) pa_nil))) (pg_tup (by rfl) (pgs_cons (pg_name (i := 5) nd rfl (Or.inr rfl)) (pgs_cons (pg_name (i := 6) nd rfl (Or.inl rfl)) pgs_nil))))
      (pss_cons (ps_for PassesOwn.never rfl (pi_enum (by rfl) T.f_enumerate (pa_cons (pv 2) pa_nil)) (pg_tup (by rfl) (pgs_cons (pg_name (i := 7) nd rfl (Or.inr rfl)) (pgs_cons (pg_name (i := 8) nd rfl (Or.inl rfl)) pgs_nil))) (pss_cons (ps_for PassesOwn.never rfl (pi_range1 rfl T.f_range (pa_cons (pv 1) pa_nil)) (pg_name (i := 9) nd rfl (Or.inl rfl)) (pss_one (ps_expr (pe_bm PySem.F.plainAttrs_list PySem.F.slot_list_append PySem.F.type_list_append mt_append (pv 6) (pa_cons (pe_ifExp (pt_cmpR op_lt (pe_callB call_len_seq (by rfl) T.f_len (by decide +kernel) (pa_cons (pv 8) pa_nil)) (pv 0) (nomark _)) (pe_tup (pa_cons (pv 7) (pa_cons (pv 9) (pa_cons pe_int (pa_cons (pe_dgetX (K := K) (P := prg) (w := w) rfl rfl rfl hr.one (pv 5) (pe_callL (i := 3) (dvs := []) F1 (hr.mono (by decide)) rfl (Or.inl rfl) hk1 hb1 .nil pass0 (pa_cons (pv 8) (pa_cons (pv 9) pa_nil))) (fun _ _ => rfl)) pa_nil))))) (pe_tup (pa_cons (pv 7) (pa_cons (pv 9) (pa_cons pe_int (pa_cons (pv 7) pa_nil)))))) pa_nil)))))
      (pss_one (ps_if (pt_cmpR (op_eqD hr.units) (pv 8) (pe_tup pa_nil) (nomark _)) (pss_one (ps_expr (pe_bm PySem.F.plainAttrs_list PySem.F.slot_list_append PySem.F.type_list_append mt_append (pv 6) (pa_cons (pe_tup (pa_cons (pv 7) (pa_cons (pv 1) (pa_cons pe_int (pa_cons (pv 7) pa_nil))))) pa_nil)))) (pss_one (ps_expr (pe_bm PySem.F.plainAttrs_list PySem.F.slot_list_extend PySem.F.type_list_extend mt_extend (pv 6) (pa_cons (pe_lc (own := [("item", 9), ("rest", 10)]) (tt := tYes) (g := gTup K 2 (gCons (gName 9) (gCons (gName 10) gNil))) rfl nd (pi_list (pe_callL (i := 4) (dvs := []) F2 (hr.mono (by decide)) rfl (Or.inl rfl) hk2 hb2 .nil pass0 (pa_cons (pv 8) pa_nil))) (blkOk_by (own := [("item", 9), ("rest", 10)]) (N := ["room", "items", "lists", "put", "out", "spots", "rows", "at", "some", "item", "rest"]) (sc := defScope s_kind_of_lists) (by decide +kernel)) (fun _ _ _ _ _ => (pg_tup (by rfl) (pgs_cons (pg_name (i := 9) nd rfl (Or.inl rfl)) (pgs_cons (pg_name (i := 10) nd rfl (Or.inl rfl)) pgs_nil)))) (fun _ _ _ _ _ => pts_nil) (fun _ _ _ _ _ => (pe_tup (pa_cons (pv 7) (pa_cons (pv 1) (pa_cons (pe_op op_add pe_int (pv 9)) (pa_cons (pe_dgetX (K := K) (P := prg) (w := w) rfl rfl rfl hr.one (pv 5) (pv 10) (fun _ _ => rfl)) pa_nil))))))) pa_nil))))))))
      (pss_one (ps_ret (pe_mk (c_Kind_init T) (hr.mono (by decide)) pass0 (pa_cons (pe_lst (StX.pa_star (pe_cl (c_told T) (hr.mono (by decide)) pass0 (pa_cons pe_str (pa_cons (pv 1) pa_nil))) (pa_cons pe_str pa_nil))) (pa_cons (pe_lst (pa_cons pe_str (pa_cons pe_str (pa_cons pe_str (StX.pa_star (pe_cl (c_told T) (hr.mono (by decide)) pass0 (pa_cons pe_str (pa_cons (pv 1) pa_nil))) pa_nil))))) (pa_cons (pe_callB call_len_seq (by rfl) T.f_len (by decide +kernel) (pa_cons (pv 2) pa_nil)) (pa_cons pe_int (pa_cons (pv 6) pa_nil)))))))))), ?_⟩
  dsimp only [tRet, tRetN, tSeq, tAsg, tOp, tVar, tC, tCB, tCons, tNil, tAndV, tOrV, tNotV, tAnd, tOr, tNot, tTest, tIf, tIfS, tB, tChain, tSl, tPart, tNoPart, tLst, tTup, tFld, tCl, tMt, tMk, gName, tNext, tBM, tBM0, tUn, tSub, tPar, tPar3, gTup, gCons, gNil, tDrop, tMkS, tM1, sFld, StX.tStar, tYes, gSub, cxOf, Cx.wish, Cx.nox, Cx.blk, tTupB, tTIx, tDGetX, tLc2, tLc]
  have o60 : ((List.range lists.length).flatMap (bagTurn n m lists)).length ≤ 60 := by
    have z := ho
    simp only [KN.ok, okRows, Bool.and_eq_true, decide_eq_true_eq] at z
    exact z.2.2.2.2.2.2.1
  have lys : ys.length = lists.length := hY.1
  refine cut_te (fun v H' => ∃ S L, v = .ref S ∧ H S = none ∧ Ext H H' ∧ H' S = some (DictX prg w S L) ∧ (∀ p ∈ L, TupB H' p.2.1 (p.1.map V.int)) ∧ ∀ s ∈ lists, ∃ c, (s, c, (lists.idxOf s : Int)) ∈ L) (fun Q1 k1 => ?_) fun v H1 ⟨S, L, ev, nS, e1, hS, hL, hidx⟩ => ?_
  · refine ⟨_, rfl, D, ys, rfl, SqL.of hD, fun S hS => ?_⟩
    refine turns_it (walk_enum (xs := ys)) (fun i G => ∃ L : List DEnt, G S = some (DictX prg w S L) ∧ Ext H (L2.del G S) ∧ L.map (·.1) = lists.take i ∧ (∀ p ∈ L, TupB (L2.del G S) p.2.1 (p.1.map V.int)) ∧ ∀ j s, j < i → lists[j]? = some s → ∃ c, (s, c, (j : Int)) ∈ L)
      ⟨[], upd_same, ext_off (Ext.upd hS) hS, rfl, fun p z => by simp at z, fun j s z => by omega⟩ (fun i G _ ⟨_, _, e, _⟩ => SqL.of ((e.trans ext_del) _ _ hD)) ?_ ?_
    · rintro i x G G' hi ⟨L, hL, e, hm, hT, hj⟩ ⟨T', x1, y1, rfl, hT', rfl, hx1, hy1⟩
      cases hx1
      obtain ⟨s, t, hs, rfl, ht⟩ := hY.2 i _ hy1
      have cT : T' ≠ S := fun z => by rw [z, hL] at hT'; cases hT'
      have eT : Ext (L2.del G S) (L2.del (upd G T' (.tup [.int (i : Nat), .ref t])) S) := ext_dels (Ext.upd hT')
      have hk : s ∉ L.map (·.1) := by
        rw [hm]
        intro z
        obtain ⟨j, hj⟩ := List.getElem?_of_mem z
        rw [List.getElem?_take] at hj
        split at hj
        · rename_i hlt
          have := (List.getElem?_inj (by omega) hnd).mp (hj.trans hs.symm)
          omega
        · cases hj
      have ll : L.length ≤ 60 := by
        have := congrArg List.length hm
        rw [List.length_map, List.length_take] at this
        omega
      dsimp only [tRet, tRetN, tSeq, tAsg, tOp, tVar, tC, tCB, tCons, tNil, tAndV, tOrV, tNotV, tAnd, tOr, tNot, tTest, tIf, tIfS, tB, tChain, tSl, tPart, tNoPart, tLst, tTup, tFld, tCl, tMt, tMk, gName, tNext, tBM, tBM0, tUn, tSub, tPar, tPar3, gTup, gCons, gNil, tDrop, tMkS, tM1, sFld, StX.tStar, tYes, gSub, cxOf, Cx.wish, Cx.nox, Cx.blk, tTupB, tTIx, tDGetX, tLc2, tLc]
      refine ⟨T', _, rfl, SqT.of upd_same, rfl, _, _, rfl, _, _, rfl, rfl, rfl, ?_⟩
      refine ⟨_, rfl, _, rfl, L, t, s, i, rfl, rfl, ?_, fun p hp => ((hT p hp).ext (eT.trans ext_del)).sq, (ht.ext (e.trans (eT.trans ext_del))).sq, hk, by omega, L ++ [(s, t, (i : Int))], upd_same, ?_, ?_, ?_, ?_⟩
      · rw [upd_ne cT.symm]
        exact hL
      · rw [del_upd]
        exact e.trans eT
      · rw [List.map_append, hm, List.take_succ, hs]
        rfl
      · rw [del_upd]
        intro p hp
        rcases List.mem_append.mp hp with hp | hp
        · exact (hT p hp).ext eT
        · cases List.mem_singleton.mp hp
          exact ht.ext (e.trans eT)
      · intro j s2 hlt hs2
        by_cases c : j = i
        · subst c
          rw [hs] at hs2
          cases hs2
          exact ⟨t, List.mem_append_right _ (List.mem_singleton.mpr rfl)⟩
        · obtain ⟨c2, hc2⟩ := hj j s2 (by omega) hs2
          exact ⟨c2, List.mem_append_left _ hc2⟩
    · rintro G ⟨L, hL, e, hm, hT, hj⟩
      refine k1 _ _ ⟨S, L, rfl, hS, e.trans ext_del, hL, fun p hp => (hT p hp).ext ext_del, fun s hs => ?_⟩
      have z := List.idxOf_lt_length_iff.mpr hs
      exact hj _ s (by omega) (by rw [List.getElem?_eq_getElem z, List.getElem_idxOf])
  subst ev
  refine ⟨Nat.zero_le _, fun R hR => ⟨by show 2 ≤ sizeLine; decide, fun p1 np1 => ⟨p1, _, rfl, SqT.of upd_same, rfl, _, _, rfl, _, _, rfl, rfl, ?_⟩⟩⟩
  have eR := Ext.upd (o := HO.lst []) hR
  have cp1 : p1 ≠ R := fun z => by rw [z, upd_same] at np1; cases np1
  refine ⟨_, rfl, D, ys, rfl, SqL.of ((e1.trans (eR.trans (Ext.upd np1))) _ _ hD), ?_⟩
  refine for_it (walk_enum (xs := ys)) (fun i σ' G => (∃ r7 r8 r9, σ' = [some (.int (n : Nat)), some (.int (m : Nat)), some (.ref D), some (.ref fp), some (.ref fo), some (.ref S), some (.ref R), r7, r8, r9, none]) ∧ Ext H1 (L2.del G R) ∧ RowsAt K G R ((List.range i).flatMap (bagTurn n m lists)))
    ⟨⟨none, none, none, rfl⟩, ext_off (eR.trans (Ext.upd np1)) hR, ⟨[], by rw [upd_ne cp1.symm, upd_same], .nil⟩⟩ (fun i σ' G _ ⟨_, e, _⟩ => SqL.of ((e1.trans (e.trans ext_del)) _ _ hD)) ?_ ?_
  · rintro i x σ' G G' hi ⟨⟨r7, r8, r9, rfl⟩, e, hR⟩ ⟨T', x1, y1, rfl, hT', rfl, hx1, hy1⟩
    cases hx1
    obtain ⟨s, t, hs, rfl, ht⟩ := hY.2 i _ hy1
    have hsm : s ∈ lists := List.mem_of_getElem? hs
    have eT := Ext.upd (o := HO.tup [.int (i : Nat), .ref t]) hT'
    have hlt : i < lists.length := by omega
    have hpre := flat_pre (f := bagTurn n m lists) hlt
    have ebt : bagTurn n m lists i = putRows n m lists i s ++ endRows m lists i s := by rw [bagTurn, getD_of hs]
    rw [ebt, List.length_append] at hpre
    have lput : (putRows n m lists i s).length = m := by rw [putRows, List.length_map, List.length_range]
    dsimp only [tRet, tRetN, tSeq, tAsg, tOp, tVar, tC, tCB, tCons, tNil, tAndV, tOrV, tNotV, tAnd, tOr, tNot, tTest, tIf, tIfS, tB, tChain, tSl, tPart, tNoPart, tLst, tTup, tFld, tCl, tMt, tMk, gName, tNext, tBM, tBM0, tUn, tSub, tPar, tPar3, gTup, gCons, gNil, tDrop, tMkS, tM1, sFld, StX.tStar, tYes, gSub, cxOf, Cx.wish, Cx.nox, Cx.blk, tTupB, tTIx, tDGetX, tLc2, tLc]
    refine ⟨T', _, rfl, SqT.of upd_same, rfl, _, _, rfl, _, _, rfl, rfl, ?_⟩
    refine ⟨_, rfl, _, rfl, by omega, by omega, ?_⟩
    refine for_it (walk_range (lo := 0) (n := ((m : Nat) : Int).toNat)) (fun j σ' G => (∃ r9, σ' = [some (.int (n : Nat)), some (.int (m : Nat)), some (.ref D), some (.ref fp), some (.ref fo), some (.ref S), some (.ref R), some (.int (i : Nat)), some (.ref t), r9, none]) ∧ Ext H1 (L2.del G R) ∧ RowsAt K G R ((List.range i).flatMap (bagTurn n m lists) ++ (putRows n m lists i s).take j))
      ⟨⟨_, rfl⟩, e.trans (ext_dels eT), by rw [List.take_zero, List.append_nil]; exact hR.ext eT⟩ (fun _ _ _ _ _ => trivial) ?_ ?_
    · rintro j x σ' G1 G2 hj ⟨⟨r9, rfl⟩, e2, hR2⟩ ⟨rfl, rfl⟩
      have hj : j < m := hj
      have e0 : (0 + (j : Int)) = ((j : Nat) : Int) := by omega
      obtain ⟨rs, hRr, hA⟩ := id hR2
      have lrs : rs.length < 60 := by
        rw [RowsAt.len hA, List.length_append, List.length_take]
        omega
      have eH : Ext H1 G2 := e2.trans ext_del
      have htB : TupB G2 t (s.map V.int) := ht.ext (e1.trans eH)
      have fin : ∀ (G3 : Hp) (t2 : Addr) (r : List Int), Ext G2 G3 → G3 t2 = none → r = putRow n lists i s j → RowsAt K (upd (upd G3 t2 (.tup (r.map V.int))) R (.lst (rs ++ [.ref t2]))) R ((List.range i).flatMap (bagTurn n m lists) ++ (putRows n m lists i s).take (j + 1)) ∧ upd G3 t2 (.tup (r.map V.int)) R = some (.lst rs) ∧ Ext H1 (L2.del (upd (upd G3 t2 (.tup (r.map V.int))) R (.lst (rs ++ [.ref t2]))) R) := fun G3 t2 r e3 n2 er => by
        have e4 := Ext.upd (o := HO.tup (r.map V.int)) n2
        have hRr2 := (e3.trans e4) _ _ hRr
        have cn : t2 ≠ R := fun z => by rw [z, e3 _ _ hRr] at n2; cases n2
        refine ⟨?_, hRr2, ?_⟩
        · have z : (putRows n m lists i s)[j]? = some (putRow n lists i s j) := by rw [putRows, List.getElem?_map, range_at hj]; rfl
          rw [List.take_succ, z, ← List.append_assoc, ← er]
          exact (hR2.ext (e3.trans e4)).add1 hRr2 cn upd_same
        · rw [del_upd]
          exact e2.trans (ext_dels (e3.trans e4))
      dsimp only [tRet, tRetN, tSeq, tAsg, tOp, tVar, tC, tCB, tCons, tNil, tAndV, tOrV, tNotV, tAnd, tOr, tNot, tTest, tIf, tIfS, tB, tChain, tSl, tPart, tNoPart, tLst, tTup, tFld, tCl, tMt, tMk, gName, tNext, tBM, tBM0, tUn, tSub, tPar, tPar3, gTup, gCons, gNil, tDrop, tMkS, tM1, sFld, StX.tStar, tYes, gSub, cxOf, Cx.wish, Cx.nox, Cx.blk, tTupB, tTIx, tDGetX, tLc2, tLc]
      rw [e0]
      refine ⟨_, rfl, .inl ⟨rfl, _, SqL.of hRr⟩, _, rfl, t, _, rfl, .inr htB.sq, _, rfl, _, _, rfl, rfl, _, rfl, ?_⟩
      rw [List.length_map]
      refine ite2 (fun c => ?_) fun c => ?_
      · have c : s.length < n := by have := of_decide_eq_true c; omega
        refine ⟨_, rfl, _, rfl, _, rfl, rfl, _, rfl, _, rfl, t, s, (j : Int), rfl, htB.sq, by have := h8 s hsm; omega, fun p G3 e3 np hp => ?_⟩
        obtain ⟨c2, hc2⟩ := hidx _ (hput s hsm c j hj)
        refine ⟨S, L, p, putI s (j : Int), _, rfl, rfl, (eH.trans e3) _ _ hS, fun p hp => ((hL p hp).ext (eH.trans e3)).sq, SqT.of hp, ⟨c2, hc2⟩, by show 4 ≤ sizeLine; decide, fun t2 n2 => ?_⟩
        obtain ⟨f1, f2, f3⟩ := fin G3 t2 [(i : Int), (j : Int), 0, (lists.idxOf (putI s (j : Int)) : Int)] e3 n2 (by rw [putRow, if_pos c])
        exact ⟨R, rs, .ref t2, rfl, rfl, f2, small_of (m := 60) (by omega), ⟨_, rfl⟩, f3, f1⟩
      · have c : ¬ s.length < n := fun z => c (decide_eq_true (by omega))
        refine ⟨_, rfl, _, rfl, _, rfl, by show 4 ≤ sizeLine; decide, fun t2 n2 => ?_⟩
        obtain ⟨f1, f2, f3⟩ := fin G2 t2 [(i : Int), (j : Int), 1, (i : Int)] Ext.rfl' n2 (by rw [putRow, if_neg c])
        exact ⟨R, rs, .ref t2, rfl, rfl, f2, small_of (m := 60) (by omega), ⟨_, rfl⟩, f3, f1⟩
    · rintro σ' G1 ⟨⟨r9, rfl⟩, e2, hR2⟩
      rw [show ((m : Int)).toNat = (putRows n m lists i s).length by rw [lput]; rfl, List.take_length] at hR2
      obtain ⟨rs, hRr, hA⟩ := id hR2
      have lrs : rs.length + (endRows m lists i s).length ≤ 60 := by
        rw [RowsAt.len hA, List.length_append]
        omega
      have eH : Ext H1 G1 := e2.trans ext_del
      have htB : TupB G1 t (s.map V.int) := ht.ext (e1.trans eH)
      have goal_rows : (List.range (i + 1)).flatMap (bagTurn n m lists) = ((List.range i).flatMap (bagTurn n m lists) ++ putRows n m lists i s) ++ endRows m lists i s := by rw [flat_range, ebt, List.append_assoc]
      rw [goal_rows]
      dsimp only [tRet, tRetN, tSeq, tAsg, tOp, tVar, tC, tCB, tCons, tNil, tAndV, tOrV, tNotV, tAnd, tOr, tNot, tTest, tIf, tIfS, tB, tChain, tSl, tPart, tNoPart, tLst, tTup, tFld, tCl, tMt, tMk, gName, tNext, tBM, tBM0, tUn, tSub, tPar, tPar3, gTup, gCons, gNil, tDrop, tMkS, tM1, sFld, StX.tStar, tYes, gSub, cxOf, Cx.wish, Cx.nox, Cx.blk]
      refine ⟨_, rfl, Nat.zero_le _, fun p np => ⟨rowD s, rowD [], .tup (htB.ext (Ext.upd np)).sq (DpAll.ints s), .tup (SqT.of upd_same) .nil, rowD_shaped s, rfl, _, rfl, ?_⟩⟩
      have ep := Ext.upd (o := HO.tup []) np
      rw [rowD_eqv]
      refine ite2 (fun c => ?_) fun c => ?_
      · have c : s = [] := of_decide_eq_true c
        refine ⟨_, rfl, .inl ⟨rfl, _, SqL.of (ep _ _ hRr)⟩, _, rfl, _, rfl, _, rfl, by show 4 ≤ sizeLine; decide, fun t2 n2 => ?_⟩
        have e4 := ep.trans (Ext.upd (o := HO.tup [.int (i : Nat), .int (m : Nat), .int 2, .int (i : Nat)]) n2)
        have cn : t2 ≠ R := fun z => by rw [z, ep _ _ hRr] at n2; cases n2
        have el : endRows m lists i s = [[(i : Int), (m : Int), 2, (i : Int)]] := by rw [endRows, if_pos c]
        rw [el] at lrs
        refine ⟨R, rs, .ref t2, rfl, rfl, e4 _ _ hRr, small_of (m := 60) (by simp at lrs; omega), ⟨_, _, _, rfl⟩, ?_, ?_⟩
        · rw [del_upd]
          exact e2.trans (ext_dels e4)
        · rw [el]
          exact (hR2.ext e4).add1 (e4 _ _ hRr) cn upd_same
      · have c : ¬ s = [] := fun z => c (decide_eq_true z)
        have el : endRows m lists i s = (outI s).map (outRow m lists i) := by rw [endRows, if_neg c]
        rw [el, List.length_map] at lrs
        refine ⟨_, rfl, .inl ⟨rfl, _, SqL.of (ep _ _ hRr)⟩, rfl, _, rfl, t, s, rfl, htB.ext ep, by have := h8 s hsm; omega, fun D3 zs G3 e3 n3 hD3 l3 hp3 => ?_⟩
        refine ⟨D3, rfl, ⟨_, SqL.of hD3⟩, fun D4 hD4 => ?_⟩
        refine lc_rel walk_list (R := fun k y G4 => ∃ p t2, (outI s)[k]? = some p ∧ y = .ref t2 ∧ t2 ≠ R ∧ G4 t2 = some (.tup ((outRow m lists i p).map V.int))) hD4 (fun k y G4 G5 e5 ⟨p, t2, x1, x2, x3, x4⟩ => ⟨p, t2, x1, x2, x3, e5 _ _ x4⟩) (small_of (m := 60) (by omega)) (fun G4 e4 => SqL.of (e4 _ _ hD3)) (fun i H x H' y => by rw [y.1]; exact Ext.rfl') ?_ ?_
        · rintro k x G4 G5 hk e4 nz ⟨rfl, hx⟩ Q2 k2
          obtain ⟨v, r, hv, hp⟩ := hp3 k x hx
          have e34 := e4.trans ext_del
          have eG5 : Ext G1 G5 := ep.trans (e3.trans e34)
          obtain ⟨pp, t3, rfl, hpp, ht3⟩ := hp.ext e34
          obtain ⟨c2, hc2⟩ := hidx r (hout s hsm (v, r) (List.mem_of_getElem? hv))
          dsimp only [tRet, tRetN, tSeq, tAsg, tOp, tVar, tC, tCB, tCons, tNil, tAndV, tOrV, tNotV, tAnd, tOr, tNot, tTest, tIf, tIfS, tB, tChain, tSl, tPart, tNoPart, tLst, tTup, tFld, tCl, tMt, tMk, gName, tNext, tBM, tBM0, tUn, tSub, tPar, tPar3, gTup, gCons, gNil, tDrop, tMkS, tM1, sFld, StX.tStar, tYes, gSub, cxOf, Cx.wish, Cx.nox, Cx.blk, tTupB, tTIx, tDGetX, tLc2, tLc]
          refine ⟨pp, _, rfl, SqT.of hpp, rfl, _, _, rfl, _, _, rfl, rfl, rfl, ?_⟩
          refine ⟨_, rfl, _, rfl, _, rfl, _, _, rfl, rfl, _, rfl, _, rfl, S, L, t3, r, _, rfl, rfl, (eH.trans eG5) _ _ hS, fun p hp => ((hL p hp).ext (eH.trans eG5)).sq, SqT.of ht3, ⟨c2, hc2⟩, by show 4 ≤ sizeLine; decide, fun t2 n2 => k2 _ _ (Ext.upd n2) ⟨(v, r), t2, hv, rfl, ?_, ?_⟩⟩
          · intro z
            rw [z, eG5 _ _ hRr] at n2
            cases n2
          · rw [del_ne (fun z => nz (by rw [← z]; exact n2)), upd_same]
            rfl
        · intro us G4 hz1 hz2 e4 hD5
          have eG4 : Ext G1 G4 := ep.trans (e3.trans e4)
          refine ⟨R, D4, rs, us, rfl, rfl, eG4 _ _ hRr, hD5, by rw [hz1, l3]; exact Nat.le_of_lt (small_of (m := 60) (by omega)), ⟨_, _, _, rfl⟩, ?_, ?_⟩
          · rw [del_upd]
            exact e2.trans (ext_dels eG4)
          · rw [el]
            refine (hR2.ext eG4).addN (eG4 _ _ hRr) (by rw [hz1, l3, List.length_map]) fun k y hy => ?_
            obtain ⟨p, t2, x1, x2, x3, x4⟩ := hz2 k y hy
            exact ⟨_, t2, by rw [List.getElem?_map, x1]; rfl, x2, x3, ext_del _ _ x4⟩
  · rintro σ' G ⟨⟨r7, r8, r9, rfl⟩, e, hR⟩
    obtain ⟨rs, hRr, hA⟩ := hR
    rw [lys] at hA
    have hA := DpAll.ext ext_del hA
    have eG : Ext H1 G := e.trans ext_del
    dsimp only [tRet, tRetN, tSeq, tAsg, tOp, tVar, tC, tCB, tCons, tNil, tAndV, tOrV, tNotV, tAnd, tOr, tNot, tTest, tIf, tIfS, tB, tChain, tSl, tPart, tNoPart, tLst, tTup, tFld, tCl, tMt, tMk, gName, tNext, tBM, tBM0, tUn, tSub, tPar, tPar3, gTup, gCons, gNil, tDrop, tMkS, tM1, sFld, StX.tStar, tYes, gSub, cxOf, Cx.wish, Cx.nox, Cx.blk, tTupB, tTIx, tDGetX, tLc2, tLc]
    refine ⟨_, rfl, "add", m, rfl, by decide, by omega, fun D3 H3 e3 n3 h3 => ?_⟩
    refine ⟨_, _, rfl, .inr (SqL.of h3), by simp only [List.length_cons, List.length_append, List.length_map, toldL_len, List.length_nil]; exact Nat.le_of_lt (small_of (m := 60) (by omega)), fun D6 hD6 => ?_⟩
    refine ⟨_, rfl, "i", m, rfl, by decide, by omega, fun D4 H4 e4 n4 h4 => ?_⟩
    refine ⟨_, _, rfl, .inr (SqL.of h4), by simp only [List.length_cons, List.length_append, List.length_map, toldL_len, List.length_nil]; exact Nat.le_of_lt (small_of (m := 60) (by omega)), fun D5 hD5 => ?_⟩
    have e45 : ∀ {o}, Ext _ (upd H4 D5 o) := e4.trans (Ext.upd hD5)
    have e5 : ∀ {o}, Ext G (upd H4 D5 o) := e3.trans ((Ext.upd hD6).trans e45)
    refine ⟨_, rfl, D, _, rfl, .inl (SqL.of ((e1.trans (eG.trans e5)) _ _ hD)), _, rfl, ?_⟩
    refine kind_made (k := listsK n m lists) (SqL.of (e45 _ _ upd_same)) (SqL.of upd_same) (SqL.of (e5 _ _ hRr)) (DpAll.ext e5 hA) ho (by rw [lys]; rfl) rfl ?_ ?_ fun a H' e6 na hk => q a H' (e1.trans (eG.trans (e5.trans e6))) (none_of (e1.trans (eG.trans e5)) na) hk
    · show _ = (toldL "add" m ++ (["next"] : List Str)).map V.str
      rw [List.map_append]
      rfl
    · rw [List.append_nil]
      rfl
def bagK : KN := listsK 2 2 (listsI 2 2).1
theorem bag_ok : bagK.ok = true := by decide +kernel
def sp_bag (K : W.Frag) : Sp := fun vs H Q _ => vs = [.int 2, .int 2] ∧ newK K H bagK Q
theorem c_bag (T : Txt K mg) : Cal prg w K mg base CX0 8 "bag" ["room", "items"] (sp_bag K) := by
  refine T.d_bag.cal sc_bag (fun vs H Q E ⟨e, _⟩ => by rw [e]; rfl) fun f cdv A outer s H vs Q E hr h => ?_
  have nd := sc_bag.nd
  obtain ⟨rfl, q⟩ := h
  obtain ⟨f1, fd1, F1, hm1, hk1, hb1, _⟩ := (c_put_between T).ex (w := w) (base := base)
  obtain ⟨f2, fd2, F2, hm2, hk2, hb2, _⟩ := (c_any_out T).ex (w := w) (base := base)
  refine ⟨_, PSs.nox (pss_cons (ps_expr (pe_cl (c_need_room T) (hr.mono (by decide)) pass0 (pa_cons (pv 0) (pa_cons (pv 1) pa_nil))))
      (pss_one (ps_ret (pe_cl (c_kind_of_lists T) (hr.mono (by decide)) pass0 (pa_cons (pv 0) (pa_cons (pv 1) (pa_cons (pe_cl (c_lists_to T) (hr.mono (by decide)) pass0 (pa_cons (pv 0) (pa_cons (pv 1) (pa_cons pe_bl pa_nil)))) (pa_cons (pe_glob (v := .ref f1) rfl hm1 rfl) (pa_cons (pe_glob (v := .ref f2) rfl hm2 rfl) pa_nil))))))))), ?_⟩
  dsimp only [tRet, tRetN, tSeq, tAsg, tOp, tVar, tC, tCB, tCons, tNil, tAndV, tOrV, tNotV, tAnd, tOr, tNot, tTest, tIf, tIfS, tB, tChain, tSl, tPart, tNoPart, tLst, tTup, tFld, tCl, tMt, tMk, gName, tNext, tBM, tBM0, tUn, tSub, tPar, tPar3, gTup, gCons, gNil, tDrop, tMkS, tM1, sFld, StX.tStar, tYes, gSub, cxOf, Cx.wish, Cx.nox, Cx.blk]
  refine ⟨_, rfl, _, rfl, 2, 2, rfl, by decide, by decide, by decide, by decide, ?_⟩
  refine ⟨_, rfl, _, rfl, _, rfl, _, rfl, 2, 2, rfl, by decide, by decide, by decide +kernel, by decide +kernel, fun D ys H1 e1 n1 hD hY => ?_⟩
  exact ⟨2, 2, D, f1, f2, ys, _, rfl, hm1, hm2, by decide, hD, hY, by decide +kernel, by decide +kernel, by decide +kernel, by decide +kernel, by decide +kernel, bag_ok, fun a H' e2 na hk => q a H' (e1.trans e2) (none_of e1 na) hk⟩
end
end K81

end
section
/-! Ow24: comprehensions over a list or a tuple, item by item. -/
namespace Ow
open PySem L2
open PySem.Spec PyProof.Rows
/-- [f(d) for d in ds], the values plain -/
theorem lc_map {α : Type} {K : W.Frag} {fl : Bool} {a : Addr} {xs : List V} {ds : List α} (f : α → V) {g : TG} {te : TE} {vs : List Nat} {σ : L2.St} {H1 : Hp} {D : Addr} {Qd : Hp → Prop} (hx : SqF K fl H1 a xs) (hl : xs.length = ds.length) (hn : ds.length < sizeLine) (hD : H1 D = none)
    (hs : ∀ (i : Nat) (d : α) (x : V) (G : Hp), Ext H1 G → xs[i]? = some x → ds[i]? = some d → ∀ Q2 : VK, (∀ G2, Ext G G2 → Q2 (f d) G2) → g x (wipe σ vs) G fun σ2 H2 => wipe σ2 vs = wipe σ vs ∧ te σ2 H2 Q2)
    (hd : ∀ G, Ext H1 G → G D = some (.lst (ds.map f)) → Qd G) :
    ∃ W : Nat → Nat → Hp → Prop, (∃ m, W 0 m (upd H1 D (.lst []))) ∧ ∀ i m H, W i m H →
      ((ItF K fl a).stop i H ∧ Qd H) ∨ ((ItF K fl a).go i H ∧ ∃ Nx : Hp → Prop, (∀ H', Nx H' → ∃ m', m' < m ∧ W (i + 1) m' H') ∧ ∀ x H', (ItF K fl a).yld i H x H' → g x (wipe σ vs) H' fun σ2 H2 => wipe σ2 vs = wipe σ vs ∧ tYes σ2 H2 fun b H3 =>
        if b = true then te σ2 H3 fun y H4 => ∃ acc, H4 D = some (.lst acc) ∧ acc.length < sizeLine ∧ Nx (upd H4 D (.lst (acc ++ [y]))) else Nx H3) := by
  refine lc_scal (walk_seqF (xs := xs)) (R := fun i y => ∃ d, ds[i]? = some d ∧ y = f d) hD (by rw [hl]; exact hn) (fun H e => hx.ext e) (fun i H x H' y => by rw [y.1]; exact Ext.rfl') ?_ ?_
  · rintro i x G G' hi e ⟨rfl, hx1⟩ Q2 k2
    obtain ⟨d, hd⟩ : ∃ d, ds[i]? = some d := ⟨ds[i]'(by omega), List.getElem?_eq_getElem (by omega)⟩
    exact hs i d x _ e hx1 hd Q2 fun G2 e2 => k2 _ _ e2 ⟨d, hd, rfl⟩
  · intro ys G hz1 hz2 e hDy
    have ey : ys = ds.map f := map_of (by omega) hz2
    rw [ey] at hDy
    exact hd G e hDy
/-- [e(d) for d in ds], the values told with the heap, the new list aside -/
theorem lc_mapH {α : Type} {K : W.Frag} {fl : Bool} {a : Addr} {xs : List V} {ds : List α} (R : α → V → Hp → Prop) (hR : ∀ d y H H', Ext H H' → R d y H → R d y H') {g : TG} {te : TE} {vs : List Nat} {σ : L2.St} {H1 : Hp} {D : Addr} {Qd : Hp → Prop} (hx : SqF K fl H1 a xs) (hl : xs.length = ds.length) (hn : ds.length < sizeLine) (hD : H1 D = none)
    (hs : ∀ (i : Nat) (d : α) (x : V) (G : Hp), Ext H1 (del G D) → G D ≠ none → xs[i]? = some x → ds[i]? = some d → ∀ Q2 : VK, (∀ y G2, Ext G G2 → R d y (del G2 D) → Q2 y G2) → g x (wipe σ vs) G fun σ2 H2 => wipe σ2 vs = wipe σ vs ∧ te σ2 H2 Q2)
    (hd : ∀ ys G, ys.length = ds.length → (∀ (i : Nat) (y : V), ys[i]? = some y → ∃ d, ds[i]? = some d ∧ R d y (del G D)) → Ext H1 G → G D = some (.lst ys) → Qd G) :
    ∃ W : Nat → Nat → Hp → Prop, (∃ m, W 0 m (upd H1 D (.lst []))) ∧ ∀ i m H, W i m H →
      ((ItF K fl a).stop i H ∧ Qd H) ∨ ((ItF K fl a).go i H ∧ ∃ Nx : Hp → Prop, (∀ H', Nx H' → ∃ m', m' < m ∧ W (i + 1) m' H') ∧ ∀ x H', (ItF K fl a).yld i H x H' → g x (wipe σ vs) H' fun σ2 H2 => wipe σ2 vs = wipe σ vs ∧ tYes σ2 H2 fun b H3 =>
        if b = true then te σ2 H3 fun y H4 => ∃ acc, H4 D = some (.lst acc) ∧ acc.length < sizeLine ∧ Nx (upd H4 D (.lst (acc ++ [y]))) else Nx H3) := by
  refine lc_rel (walk_seqF (xs := xs)) (R := fun i y G => ∃ d, ds[i]? = some d ∧ R d y G) hD (fun i y G G' e ⟨d, h1, h2⟩ => ⟨d, h1, hR d y _ _ e h2⟩) (by rw [hl]; exact hn) (fun H e => hx.ext e) (fun i H x H' y => by rw [y.1]; exact Ext.rfl') ?_ ?_
  · rintro i x G G' hi e nz ⟨rfl, hx1⟩ Q2 k2
    obtain ⟨d, hd⟩ : ∃ d, ds[i]? = some d := ⟨ds[i]'(by omega), List.getElem?_eq_getElem (by omega)⟩
    exact hs i d x _ e nz hx1 hd Q2 fun y G2 e2 hr => k2 _ _ e2 ⟨d, hd, hr⟩
  · intro ys G hz1 hz2 e hDy
    exact hd ys G (by omega) hz2 e hDy
/-- what stood in H0, and what is new behind H -/
def over (H0 H H' : Hp) : Hp := fun b => match H b with
  | none => H' b
  | some _ => H0 b
section
variable {H0 H H' H2 : Hp}
theorem over_new {b : Addr} (h : H b = none) : over H0 H H' b = H' b := by
  unfold over
  rw [h]
theorem over_old {b : Addr} {o : HO} (h : H b = some o) : over H0 H H' b = H0 b := by
  unfold over
  rw [h]
theorem over_mono (e : Ext H' H2) : Ext (over H0 H H') (over H0 H H2) := fun b o h => by
  cases c : H b with
  | none =>
    rw [over_new c] at h ⊢
    exact e b o h
  | some q =>
    rw [over_old c] at h ⊢
    exact h
theorem over_from (e0 : Ext H0 H) : Ext H0 (over H0 H H') := fun b o h => by
  rw [over_old (e0 b o h)]
  exact h
theorem over_to (e0 : Ext H0 H) (e : Ext H H') : Ext (over H0 H H') H' := fun b o h => by
  cases c : H b with
  | none =>
    rw [over_new c] at h
    exact h
  | some q =>
    rw [over_old c] at h
    exact e b o (e0 b o h)
/-- one more call, a list D aside -/
theorem over_step {G G2 : Hp} {D : Addr} (e : Ext H (del G D)) (nz : G D ≠ none) (e2 : Ext G G2) : Ext (over (over H0 H (del G D)) G G2) (over H0 H (del G2 D)) := fun b o h => by
  cases c : G b with
  | none =>
    rw [over_new c] at h
    have cH : H b = none := by
      cases q : H b with
      | none => rfl
      | some o => rw [(e.trans ext_del) b o q] at c; cases c
    rw [over_new cH, del_ne (fun z => nz (by rw [← z]; exact c))]
    exact h
  | some q =>
    rw [over_old c] at h
    cases cH : H b with
    | none =>
      rw [over_new cH] at h ⊢
      exact ext_dels e2 b o h
    | some r =>
      rw [over_old cH] at h ⊢
      exact h
end
end Ow

end
section
/-! K81k: couples, tables, fixed data. -/
namespace K81
open PySem L2 Ow
open PySem.Spec PyProof.Rows
def isCouple (k : KN) (d : PyData) : Bool := dSeq d && (decide ((dItems d).length = 2) && (dItems d).all fun e => isBelow e [(k.asks.length : Int), (k.answers.length : Int)])
/-- data not too deep, not too long -/
def smlD : Nat → PyData → Bool
  | 0, d => !dSeq d
  | n + 1, d => !dSeq d || (decide ((dItems d).length ≤ 600) && (dItems d).all (smlD n))
def fixD : Nat → PyData → PyData
  | 0, d => d
  | n + 1, d => if dSeq d then .tuple ((dItems d).map (fixD n)) else d
section
variable {w : World} {K : W.Frag} {mg : Str → Option Value} {base : Heap}
def sp_fixed (K : W.Frag) (n : Nat) : Sp := fun vs H Q _ => ∃ v d H0, vs = [v] ∧ Ext H0 H ∧ Dp K H0 v d ∧ smlD n d = true ∧ ∀ u H', Ext H H' → Dp K (over H0 H H') u (fixD n d) → Q u H'
theorem fixed_step (T : Txt K mg) {n k : Nat} {sp' : Sp} (IH : Cal prg w K mg base CX0 k "fixed" ["value"] sp') (hsp : ∀ m, n = m + 1 → sp' = sp_fixed K m) : Cal prg w K mg base CX0 (k + 1) "fixed" ["value"] (sp_fixed K n) := by
  refine T.d_fixed.cal sc_fixed (fun vs H Q E ⟨v, d, H0, e, _⟩ => by rw [e]; rfl) fun f cdv A outer s H vs Q E hr h => ?_
  have nd := sc_fixed.nd
  obtain ⟨v, d, H0, rfl, e0, hv0, hs, q⟩ := h
  have hv := Dp.ext e0 hv0
  refine ⟨_, PSs.nox (pss_cons (ps_if (pt_val (pe_callB call_isiT (by rfl) T.f_isinstance (by decide +kernel) (pa_cons (pv 0) (pa_cons (pe_tup (pa_cons (pe_bltn (v := .ty "list") (by rfl) T.f_list (by decide +kernel) rfl) (pa_cons (pe_bltn (v := .ty "tuple") (by rfl) T.f_tuple (by decide +kernel) rfl) pa_nil))) pa_nil)))) (pss_one (ps_ret (pe_callTy call_tuple_of (by rfl) T.f_tuple (by decide +kernel) (pa_cons (pe_lc (own := [("part", 1)]) (tt := tYes) (g := gName 1) rfl nd (pi_seqF (pv 0)) (blkOk_by (own := [("part", 1)]) (N := ["value", "part"]) (sc := defScope s_fixed) (by decide +kernel)) (fun _ _ _ _ _ => (pg_name (i := 1) nd rfl (Or.inl rfl))) (fun _ _ _ _ _ => pts_nil) (fun _ _ _ _ _ => (pe_cl IH hr pass0 (pa_cons (pv 1) pa_nil)))) pa_nil)))) pss_nil)
      (pss_one (ps_ret (pv 0)))), ?_⟩
  dsimp only [tRet, tRetN, tSeq, tAsg, tOp, tVar, tC, tCB, tCons, tNil, tAndV, tOrV, tNotV, tAnd, tOr, tNot, tTest, tIf, tIfS, tB, tChain, tSl, tPart, tNoPart, tLst, tTup, tFld, tCl, tMt, tMk, gName, tNext, tBM, tBM0, tUn, tSub, tPar, tPar3, gTup, gCons, gNil, tDrop, tMkS, tM1, sFld, StX.tStar, tYes, gSub, cxOf, Cx.wish, Cx.nox, Cx.blk]
  refine ⟨_, rfl, (by show 2 ≤ sizeLine; decide), fun tp htp => isi2_rd (Vd.of (Dp.ext (Ext.upd htp) hv)) upd_same ⟨_, rfl, ?_⟩⟩
  have e1 : Ext H (upd H tp (.tup [.ty "list", .ty "tuple"])) := Ext.upd htp
  cases hq : dSeq d with
  | false =>
    refine if_f rfl ⟨_, rfl, q _ _ e1 ?_⟩
    have z : fixD n d = d := by cases n <;> simp [fixD, hq]
    rw [z]
    exact Dp.ext (over_from e0) hv0
  | true =>
    cases n with
    | zero => simp [smlD, hq] at hs
    | succ n =>
      have esp := hsp n rfl
      subst esp
      simp only [smlD, hq, Bool.not_true, Bool.false_or, Bool.and_eq_true, decide_eq_true_eq, List.all_eq_true] at hs
      obtain ⟨hl, hs⟩ := hs
      obtain ⟨fl, a2, xs, rfl, hx, hA⟩ := seq_of (Vd.of hv0) hq
      have hx1 : SqF K fl _ a2 xs := hx.ext (e0.trans e1)
      have hlen : xs.length = (dItems d).length := DpAll.length hA
      refine if_t rfl ⟨_, rfl, fl, a2, xs, rfl, hx1, fun D hD => ?_⟩
      refine lc_mapH (fun d y G => Dp K (over H0 H G) y (fixD n d)) (fun d y G G' e h => Dp.ext (over_mono e) h) hx1 hlen (small_of (m := 600) hl) hD ?_ fun ys G hy1 hy2 e hG => ?_
      · intro i d1 x G e nz hx1 hd1 Q2 k2
        obtain ⟨d2, hd2, hp2⟩ := DpAll.getV hA hx1
        rw [hd1] at hd2
        cases hd2
        dsimp only [tRet, tRetN, tSeq, tAsg, tOp, tVar, tC, tCB, tCons, tNil, tAndV, tOrV, tNotV, tAnd, tOr, tNot, tTest, tIf, tIfS, tB, tChain, tSl, tPart, tNoPart, tLst, tTup, tFld, tCl, tMt, tMk, gName, tNext, tBM, tBM0, tUn, tSub, tPar, tPar3, gTup, gCons, gNil, tDrop, tMkS, tM1, sFld, StX.tStar, tYes, gSub, cxOf, Cx.wish, Cx.nox, Cx.blk]
        refine ⟨rfl, _, rfl, x, d1, over H0 H (L2.del G D), rfl, (over_to e0 (e1.trans e)).trans ext_del, Dp.ext (over_from e0) hp2, hs d1 (List.mem_of_getElem? hd1), fun u G2 e2 hp => k2 u G2 e2 ?_⟩
        exact Dp.ext (over_step (e1.trans e) nz e2) hp
      · refine ⟨D, ys, rfl, .inl ⟨SqL.of hG, fun t ht => q _ _ (e1.trans (e.trans (Ext.upd ht))) ?_⟩⟩
        rw [fixD, hq, if_pos rfl]
        have tn : H t = none := none_of (e1.trans e) ht
        refine .tup (SqT.of (by rw [over_new tn, upd_same])) (dps_of (by rw [hy1, List.length_map]) fun i y hy => ?_)
        obtain ⟨d1, h1, h2⟩ := hy2 i y hy
        exact ⟨_, by rw [List.getElem?_map, h1]; rfl, Dp.ext (over_mono (ext_del.trans (Ext.upd ht))) h2⟩
theorem c_fixed (T : Txt K mg) : ∀ n, Cal prg w K mg base CX0 (n + 2) "fixed" ["value"] (sp_fixed K n)
  | 0 => fixed_step T (sp' := fun _ _ _ _ => False) (T.d_fixed.cal sc_fixed (fun _ _ _ _ h => h.elim) fun _ _ _ _ _ _ _ _ _ _ h => h.elim) (fun m e => by cases e)
  | n + 1 => fixed_step T (c_fixed T n) (fun m e => by cases e; rfl)
def sp_is_couple (K : W.Frag) : Sp := fun vs H Q _ => ∃ a v, ∃ k : KN, ∃ d, vs = [.ref a, v] ∧ KindAt K H a k ∧ Vd K H v d ∧ ∀ H', Ext H H' → Q (.bl (isCouple k d)) H'
theorem c_is_couple (T : Txt K mg) : Cal prg w K mg base CX0 4 "is_couple" ["kind", "value"] (sp_is_couple K) := by
  refine T.d_is_couple.cal sc_is_couple (fun vs H Q E ⟨a, v, k, d, e, _⟩ => by rw [e]; rfl) fun f cdv A outer s H vs Q E hr h => ?_
  have nd := sc_is_couple.nd
  obtain ⟨a, v, k, d, rfl, hk, hv, q⟩ := h
  refine ⟨_, PSs.nox (pss_cons (ps_set (i := 2) nd rfl (Or.inr rfl) (pe_tup (pa_cons (pe_callB call_len_seq (by rfl) T.f_len (by decide +kernel) (pa_cons (pe_fld (pv 0) rfl) pa_nil)) (pa_cons (pe_callB call_len_seq (by rfl) T.f_len (by decide +kernel) (pa_cons (pe_fld (pv 0) rfl) pa_nil)) pa_nil))))
      (pss_one (ps_ret (pe_and (pe_callB call_isiT (by rfl) T.f_isinstance (by decide +kernel) (pa_cons (pv 1) (pa_cons (pe_tup (pa_cons (pe_bltn (v := .ty "list") (by rfl) T.f_list (by decide +kernel) rfl) (pa_cons (pe_bltn (v := .ty "tuple") (by rfl) T.f_tuple (by decide +kernel) rfl) pa_nil))) pa_nil))) (pe_and (pe_cmpR op_eq (pe_callB call_len_seq (by rfl) T.f_len (by decide +kernel) (pa_cons (pv 1) pa_nil)) pe_int (nomark _)) (pe_one (pe_callB (cr_all rfl) (by rfl) T.f_all (by decide +kernel) (pa_cons (pe_lc (own := [("each", 3)]) (tt := tYes) (g := gName 3) rfl nd (pi_seqF (pv 1)) (blkOk_by (own := [("each", 3)]) (N := ["kind", "value", "bounds", "each"]) (sc := defScope s_is_couple) (by decide +kernel)) (fun _ _ _ _ _ => (pg_name (i := 3) nd rfl (Or.inl rfl))) (fun _ _ _ _ _ => pts_nil) (fun _ _ _ _ _ => (pe_cl (c_is_below T) (hr.mono (by decide)) pass0 (pa_cons (pv 3) (pa_cons (pv 2) pa_nil))))) pa_nil)))))))), ?_⟩
  obtain ⟨dx, p1, p2, p3, p4, p5, hp, h1, h2, _⟩ := hk
  dsimp only [tRet, tRetN, tSeq, tAsg, tOp, tVar, tC, tCB, tCons, tNil, tAndV, tOrV, tNotV, tAnd, tOr, tNot, tTest, tIf, tIfS, tB, tChain, tSl, tPart, tNoPart, tLst, tTup, tFld, tCl, tMt, tMk, gName, tNext, tBM, tBM0, tUn, tSub, tPar, tPar3, gTup, gCons, gNil, tDrop, tMkS, tM1, sFld, StX.tStar, tYes, gSub, cxOf, Cx.wish, Cx.nox, Cx.blk]
  refine ⟨_, rfl, a, _, dx, _, _, rfl, hp, T.cl_Kind, T.na_Kind_asks, rfl, p1, _, rfl, .inr h1, _, rfl, a, _, dx, _, _, rfl, hp, T.cl_Kind, T.na_Kind_answers, rfl, p2, _, rfl, .inr h2, by show 2 ≤ sizeLine; decide, fun b hb => ?_⟩
  rw [List.length_map, List.length_map]
  have eb := Ext.upd (o := HO.tup [.int (k.asks.length : Nat), .int (k.answers.length : Nat)]) hb
  refine ⟨_, rfl, (by show 2 ≤ sizeLine; decide), fun tp htp => isi2_rd (Vd.ext (eb.trans (Ext.upd htp)) hv) upd_same ⟨_, rfl, ?_⟩⟩
  have e1 : Ext H (upd (upd H b (HO.tup [.int (k.asks.length : Nat), .int (k.answers.length : Nat)])) tp (.tup [.ty "list", .ty "tuple"])) := eb.trans (Ext.upd htp)
  have hT : SqT K (upd (upd H b (HO.tup [.int (k.asks.length : Nat), .int (k.answers.length : Nat)])) tp (.tup [.ty "list", .ty "tuple"])) b (([(k.asks.length : Int), (k.answers.length : Int)] : List Int).map V.int) := SqT.of ((Ext.upd htp) _ _ upd_same)
  cases hs : dSeq d with
  | false =>
    have z := q _ e1
    rw [show isCouple k d = false by rw [isCouple, hs]; rfl] at z
    exact if_f rfl z
  | true =>
    refine if_t rfl ?_
    obtain ⟨fl, a2, xs, rfl, hx, hA⟩ := seq_of (Vd.ext e1 hv) hs
    have hlen : xs.length = (dItems d).length := DpAll.length hA
    refine ⟨_, rfl, a2, xs, rfl, hx.or, rfl, _, rfl, ?_⟩
    rw [dec_int, hlen]
    have hz : isCouple k d = (decide ((dItems d).length = 2) && (dItems d).all fun e => isBelow e [(k.asks.length : Int), (k.answers.length : Int)]) := by rw [isCouple, hs]; rfl
    rw [hz] at q
    refine ite2 (fun c => ?_) fun c => ?_
    · have c : (dItems d).length = 2 := by have := of_decide_eq_true c; omega
      refine ⟨_, rfl, fl, a2, xs, rfl, hx, fun D hD => ?_⟩
      refine lc_map (fun e => .bl (isBelow e [(k.asks.length : Int), (k.answers.length : Int)])) hx hlen (small_of (m := 600) (by omega)) hD ?_ fun G e hG => ?_
      · intro i d1 x G e hx1 hd1 Q2 k2
        obtain ⟨d2, hd2, hp2⟩ := DpAll.getV hA hx1
        rw [hd1] at hd2
        cases hd2
        dsimp only [tRet, tRetN, tSeq, tAsg, tOp, tVar, tC, tCB, tCons, tNil, tAndV, tOrV, tNotV, tAnd, tOr, tNot, tTest, tIf, tIfS, tB, tChain, tSl, tPart, tNoPart, tLst, tTup, tFld, tCl, tMt, tMk, gName, tNext, tBM, tBM0, tUn, tSub, tPar, tPar3, gTup, gCons, gNil, tDrop, tMkS, tM1, sFld, StX.tStar, tYes, gSub, cxOf, Cx.wish, Cx.nox, Cx.blk]
        exact ⟨rfl, _, rfl, _, rfl, _, d1, b, _, rfl, Vd.of (Dp.ext e hp2), hT.ext e, by show 2 ≤ 600; decide, fun G2 e2 => k2 G2 e2⟩
      · refine all_rd (bs := (dItems d).map fun e => isBelow e [(k.asks.length : Int), (k.answers.length : Int)]) (by rw [hG, List.map_map]; rfl) ?_
        have z := q G (e1.trans e)
        rw [decide_eq_true c, Bool.true_and] at z
        rw [List.all_map]
        exact z
    · have c : ¬ (dItems d).length = 2 := fun z => c (decide_eq_true (by omega))
      have z := q _ e1
      rw [decide_eq_false c] at z
      exact z
end
end K81

end
section
/-! K81l: tables. -/
namespace K81
open PySem L2 Ow
open PySem.Spec PyProof.Rows
def int2 (d : PyData) : Int × Int := match dItems d with
  | [.int a, .int b] => (a, b)
  | _ => (0, 0)
def coupleP (d : PyData) : P4 := match dItems d with
  | [x, y] => ⟨(int2 x).1, (int2 x).2, (int2 y).1, (int2 y).2⟩
  | _ => ⟨0, 0, 0, 0⟩
def ltP (p q : P4) : Bool := W.dataLt p.dat q.dat
def sortedP (ps : List P4) : Bool := (ps.zip (ps.drop 1)).all fun p => ltP p.1 p.2
def isTable (k : KN) (d : PyData) : Bool := dSeq d && ((dItems d).all (isCouple k) && sortedP ((dItems d).map coupleP))
theorem below_two {d : PyData} {m n : Int} (h : isBelow d [m, n] = true) : dSeq d = true ∧ ∃ a b, dItems d = [.int a, .int b] ∧ 0 ≤ a ∧ a < m ∧ 0 ≤ b ∧ b < n := by
  simp only [isBelow, Bool.and_eq_true, decide_eq_true_eq, List.all_eq_true] at h
  obtain ⟨h1, h2, h3⟩ := h
  refine ⟨h1, ?_⟩
  match e : dItems d, h2 with
  | [x, y], _ =>
    rw [e] at h3
    have w1 := h3 (x, m) (by simp)
    have w2 := h3 (y, n) (by simp)
    cases x <;> simp [within] at w1
    cases y <;> simp [within] at w2
    exact ⟨_, _, rfl, by omega, by omega, by omega, by omega⟩
theorem couple_two {k : KN} {d : PyData} (h : isCouple k d = true) : dSeq d = true ∧ ∃ x y, dItems d = [x, y] ∧ isBelow x [(k.asks.length : Int), (k.answers.length : Int)] = true ∧ isBelow y [(k.asks.length : Int), (k.answers.length : Int)] = true := by
  simp only [isCouple, Bool.and_eq_true, decide_eq_true_eq, List.all_eq_true] at h
  obtain ⟨h1, h2, h3⟩ := h
  refine ⟨h1, ?_⟩
  match e : dItems d, h2 with
  | [x, y], _ =>
    rw [e] at h3
    exact ⟨x, y, rfl, h3 x (by simp), h3 y (by simp)⟩
theorem pair_fix {x : PyData} {a b : Int} {n : Nat} (hs : dSeq x = true) (h : dItems x = [.int a, .int b]) : fixD (n + 1) x = .tuple [.int a, .int b] ∧ smlD (n + 1) x = true := by
  have f0 : ∀ i : Int, fixD n (.int i) = .int i := fun i => by cases n <;> simp [fixD, dSeq]
  have s0 : ∀ i : Int, smlD n (.int i) = true := fun i => by cases n <;> simp [smlD, dSeq]
  constructor
  · rw [fixD, hs, if_pos rfl, h]
    simp [f0]
  · rw [smlD, hs, h]
    simp [s0]
theorem couple_fix {k : KN} {d : PyData} {n : Nat} (h : isCouple k d = true) : fixD (n + 2) d = (coupleP d).dat ∧ smlD (n + 2) d = true := by
  obtain ⟨hs, x, y, e, hx, hy⟩ := couple_two h
  obtain ⟨sx, a, b, ex, _⟩ := below_two hx
  obtain ⟨sy, c, f, ey, _⟩ := below_two hy
  obtain ⟨fx, mx⟩ := pair_fix (n := n) sx ex
  obtain ⟨fy, my⟩ := pair_fix (n := n) sy ey
  constructor
  · rw [fixD, hs, if_pos rfl, e, List.map_cons, List.map_cons, List.map_nil, fx, fy]
    simp [coupleP, e, int2, ex, ey, P4.dat]
  · rw [smlD, hs, e]
    simp [mx, my]
theorem P4_alike (p q : P4) : W.alike p.dat q.dat = true := by
  simp [P4.dat, W.alike, W.alikeAll]
theorem slA_one {K : W.Frag} {H : Hp} {a : Addr} {xs : List V} {Q : VK} (h : SqT K H a xs) (q : ∀ p H', Ext H H' → SqT K H' p (xs.drop 1) → Q (.ref p) H') : rSlA K (.ref a) (some 1) none H Q := by
  refine ⟨a, xs, rfl, h, fun z => ?_, fun _ p hp => q p _ (Ext.upd hp) (SqT.of (by rw [upd_same, cut_from1]))⟩
  have e : xs = [] := by
    have z1 := z.1
    rw [show (some (1 : Int)) = some ((1 : Nat) : Int) from rfl, HT.sIx_nat] at z1
    exact List.length_eq_zero_iff.mp (by omega)
  refine q a H Ext.rfl' ?_
  rw [e] at h ⊢
  exact h
theorem zip_at {α : Type} {l : List α} {i : Nat} {x y : α} (h1 : l[i]? = some x) (h2 : (l.drop 1)[i]? = some y) : (l.zip (l.drop 1))[i]? = some (x, y) := by
  rw [List.getElem?_zip_eq_some]
  exact ⟨h1, h2⟩
section
variable {w : World} {K : W.Frag} {mg : Str → Option Value} {base : Heap}
def sp_is_table (K : W.Frag) : Sp := fun vs H Q _ => ∃ a v, ∃ k : KN, ∃ d, vs = [.ref a, v] ∧ KindAt K H a k ∧ Vd K H v d ∧ (dItems d).length ≤ 600 ∧ ∀ H', Ext H H' → Q (.bl (isTable k d)) H'
theorem c_is_table (T : Txt K mg) : Cal prg w K mg base CX0 7 "is_table" ["kind", "value"] (sp_is_table K) := by
  refine T.d_is_table.cal sc_is_table (fun vs H Q E ⟨a, v, k, d, e, _⟩ => by rw [e]; rfl) fun f cdv A outer s H vs Q E hr h => ?_
  have nd := sc_is_table.nd
  obtain ⟨a, v, k, d, rfl, hk, hv, hl, q⟩ := h
  refine ⟨_, PSs.nox (pss_cons (ps_if (PW.pt (pw_or (pt_not (pt_val (pe_callB call_isiT (by rfl) T.f_isinstance (by decide +kernel) (pa_cons (pv 1) (pa_cons (pe_tup (pa_cons (pe_bltn (v := .ty "list") (by rfl) T.f_list (by decide +kernel) rfl) (pa_cons (pe_bltn (v := .ty "tuple") (by rfl) T.f_tuple (by decide +kernel) rfl) pa_nil))) pa_nil))))) (pw_or1 (pt_not (pt_val (pe_callB (cr_all rfl) (by rfl) T.f_all (by decide +kernel) (pa_cons (pe_lc (own := [("each", 3)]) (tt := tYes) (g := gName 3) rfl nd (pi_seqF (pv 1)) (blkOk_by (own := [("each", 3)]) (N := ["kind", "value", "couples", "each", "one", "other"]) (sc := defScope s_is_table) (by decide +kernel)) (fun _ _ _ _ _ => (pg_name (i := 3) nd rfl (Or.inl rfl))) (fun _ _ _ _ _ => pts_nil) (fun _ _ _ _ _ => (pe_cl (c_is_couple T) (hr.mono (by decide)) pass0 (pa_cons (pv 0) (pa_cons (pv 3) pa_nil))))) pa_nil))))))) (pss_one (ps_ret pe_bl)) pss_nil)
      (pss_cons (ps_set (i := 2) nd rfl (Or.inl rfl) (pe_cl (c_fixed T 3) (hr.mono (by decide)) pass0 (pa_cons (pv 1) pa_nil)))
      (pss_one (ps_ret (pe_callB (cr_all rfl) (by rfl) T.f_all (by decide +kernel) (pa_cons (pe_lc (own := [("one", 4), ("other", 5)]) (tt := tYes) (g := gTup K 2 (gCons (gName 4) (gCons (gName 5) gNil))) rfl nd (pi_zipF (by rfl) T.f_zip (pa_cons (pv 2) (pa_cons (pe_slice sl_tupA (pv 2) (po_some pe_int) po_none) pa_nil))) (blkOk_by (own := [("one", 4), ("other", 5)]) (N := ["kind", "value", "couples", "each", "one", "other"]) (sc := defScope s_is_table) (by decide +kernel)) (fun _ _ _ _ _ => (pg_tup (by rfl) (pgs_cons (pg_name (i := 4) nd rfl (Or.inl rfl)) (pgs_cons (pg_name (i := 5) nd rfl (Or.inl rfl)) pgs_nil)))) (fun _ _ _ _ _ => pts_nil) (fun _ _ _ _ _ => (pe_cmpR (opK (K := K) rLtDA rfl (op_ltDA hr.units)) (pv 4) (pv 5) (nomark _)))) pa_nil)))))), ?_⟩
  refine cut_ifn (fun c H' => c = !(dSeq d && (dItems d).all (isCouple k)) ∧ Ext H H') (fun Q1 k1 => ?_) fun c H1 ⟨ec, e1⟩ => ?_
  · dsimp only [tRet, tRetN, tSeq, tAsg, tOp, tVar, tC, tCB, tCons, tNil, tAndV, tOrV, tNotV, tAnd, tOr, tNot, tTest, tIf, tIfS, tB, tChain, tSl, tPart, tNoPart, tLst, tTup, tFld, tCl, tMt, tMk, gName, tNext, tBM, tBM0, tUn, tSub, tPar, tPar3, gTup, gCons, gNil, tDrop, tMkS, tM1, sFld, StX.tStar, tYes, gSub, cxOf, Cx.wish, Cx.nox, Cx.blk]
    refine ⟨_, rfl, (by show 2 ≤ sizeLine; decide), fun tp htp => isi2_rd (Vd.ext (Ext.upd htp) hv) upd_same ⟨_, rfl, ?_⟩⟩
    have e1 : Ext H (upd H tp (.tup [.ty "list", .ty "tuple"])) := Ext.upd htp
    cases hs : dSeq d with
    | false => exact if_t rfl (k1 _ _ ⟨by rw [hs]; rfl, e1⟩)
    | true =>
      refine if_f rfl ?_
      obtain ⟨fl, a2, xs, rfl, hx, hA⟩ := seq_of (Vd.ext e1 hv) hs
      have hlen : xs.length = (dItems d).length := DpAll.length hA
      refine ⟨_, rfl, fl, a2, xs, rfl, hx, fun D hD => ?_⟩
      refine lc_map (fun e => .bl (isCouple k e)) hx hlen (small_of (m := 600) (by omega)) hD ?_ fun G e hG => ?_
      · intro i d1 x G e hx1 hd1 Q2 k2
        obtain ⟨d2, hd2, hp2⟩ := DpAll.getV hA hx1
        rw [hd1] at hd2
        cases hd2
        dsimp only [tRet, tRetN, tSeq, tAsg, tOp, tVar, tC, tCB, tCons, tNil, tAndV, tOrV, tNotV, tAnd, tOr, tNot, tTest, tIf, tIfS, tB, tChain, tSl, tPart, tNoPart, tLst, tTup, tFld, tCl, tMt, tMk, gName, tNext, tBM, tBM0, tUn, tSub, tPar, tPar3, gTup, gCons, gNil, tDrop, tMkS, tM1, sFld, StX.tStar, tYes, gSub, cxOf, Cx.wish, Cx.nox, Cx.blk]
        exact ⟨rfl, _, rfl, _, rfl, a, x, k, d1, rfl, hk.ext (e1.trans e), Vd.of (Dp.ext e hp2), fun G2 e2 => k2 G2 e2⟩
      · refine all_rd (bs := (dItems d).map (isCouple k)) (by rw [hG, List.map_map]; rfl) ⟨_, rfl, k1 _ _ ⟨?_, e1.trans e⟩⟩
        rw [List.all_map, hs]
        rfl
  subst ec
  cases hg : dSeq d && (dItems d).all (isCouple k) with
  | false =>
    refine if_t rfl ?_
    have z := q H1 e1
    rw [show isTable k d = false by rw [isTable, ← Bool.and_assoc, hg]; rfl] at z
    exact z
  | true =>
    refine if_f rfl ?_
    have hz : isTable k d = sortedP ((dItems d).map coupleP) := by rw [isTable, ← Bool.and_assoc, hg]; rfl
    rw [hz] at q
    obtain ⟨hs, hc⟩ := Bool.and_eq_true_iff.mp hg
    have hc := List.all_eq_true.mp hc
    have hdp : Dp K H v d := by
      rcases hv with hv | ⟨_, _, _, e⟩
      · exact hv
      · subst e
        cases hs
    have f3 : fixD 3 d = .tuple (((dItems d).map coupleP).map P4.dat) := by
      rw [fixD, hs, if_pos rfl, List.map_map]
      congr 1
      exact List.map_congr_left fun e he => (couple_fix (n := 0) (hc e he)).1
    have s3 : smlD 3 d = true := by
      rw [smlD, hs]
      simp only [Bool.not_true, Bool.false_or, Bool.and_eq_true, decide_eq_true_eq, List.all_eq_true]
      exact ⟨hl, fun e he => (couple_fix (n := 0) (hc e he)).2⟩
    refine cut_asg (fun u H' => ∃ b ys, u = .ref b ∧ Ext H1 H' ∧ SqT K H' b ys ∧ DpAll K H' ys (((dItems d).map coupleP).map P4.dat)) (fun Q1 k1 => ?_) fun u H2 ⟨b, ys, eu, e2, hb, hB⟩ => ?_
    · dsimp only [tRet, tRetN, tSeq, tAsg, tOp, tVar, tC, tCB, tCons, tNil, tAndV, tOrV, tNotV, tAnd, tOr, tNot, tTest, tIf, tIfS, tB, tChain, tSl, tPart, tNoPart, tLst, tTup, tFld, tCl, tMt, tMk, gName, tNext, tBM, tBM0, tUn, tSub, tPar, tPar3, gTup, gCons, gNil, tDrop, tMkS, tM1, sFld, StX.tStar, tYes, gSub, cxOf, Cx.wish, Cx.nox, Cx.blk]
      refine ⟨_, rfl, v, d, H, rfl, e1, hdp, s3, fun u H' e hp => ?_⟩
      rw [f3] at hp
      obtain ⟨b, ys, rfl, h1, h2⟩ := Dp.tupV (Dp.ext (over_to e1 e) hp)
      exact k1 _ _ ⟨b, ys, rfl, e, h1, h2⟩
    subst eu
    have ly : ys.length = (dItems d).length := by rw [DpAll.length hB, List.length_map, List.length_map]
    dsimp only [tRet, tRetN, tSeq, tAsg, tOp, tVar, tC, tCB, tCons, tNil, tAndV, tOrV, tNotV, tAnd, tOr, tNot, tTest, tIf, tIfS, tB, tChain, tSl, tPart, tNoPart, tLst, tTup, tFld, tCl, tMt, tMk, gName, tNext, tBM, tBM0, tUn, tSub, tPar, tPar3, gTup, gCons, gNil, tDrop, tMkS, tM1, sFld, StX.tStar, tYes, gSub, cxOf, Cx.wish, Cx.nox, Cx.blk]
    refine ⟨_, rfl, _, rfl, _, rfl, ?_⟩
    dsimp only [tNoPart]
    refine slA_one hb fun p H3 e3 hp => ?_
    refine ⟨b, p, ys, _, false, false, rfl, hb.ext e3, hp, fun D2 hD2 => ?_⟩
    have hn : min ys.length (ys.drop 1).length = ys.length - 1 := by rw [List.length_drop]; omega
    refine lc_scal (walk_zipF (K := K) (f1 := false) (f2 := false) (a := b) (b := p) (xs := ys) (ys := ys.drop 1) rfl) (R := fun i y => ∃ c, (((dItems d).map coupleP).zip (((dItems d).map coupleP).drop 1))[i]? = some c ∧ y = .bl (ltP c.1 c.2)) hD2 (by rw [hn]; exact small_of (m := 600) (by omega)) (fun G e => ⟨(hb.ext e3).ext e, hp.ext e⟩) ?_ ?_ ?_
    · rintro i G x G' ⟨T', x1, y1, rfl, hT', rfl, _⟩
      exact Ext.upd hT'
    · rintro i x G G' hi e ⟨T', x1, y1, rfl, hT', rfl, hx1, hy1⟩ Q2 k2
      have hx1 : ys[i]? = some x1 := hx1
      have hy1 : (ys.drop 1)[i]? = some y1 := hy1
      obtain ⟨d1, hd1, q1⟩ := DpAll.getV hB hx1
      obtain ⟨d2, hd2, q2⟩ := DpAll.getV (DpAll.drop 1 hB) hy1
      rw [List.getElem?_map] at hd1
      rw [← List.map_drop, List.getElem?_map] at hd2
      obtain ⟨c1, g1, rfl⟩ := Option.map_eq_some_iff.mp hd1
      obtain ⟨c2, g2, rfl⟩ := Option.map_eq_some_iff.mp hd2
      have e5 := e3.trans (e.trans (Ext.upd (o := HO.tup [x1, y1]) hT'))
      dsimp only [tRet, tRetN, tSeq, tAsg, tOp, tVar, tC, tCB, tCons, tNil, tAndV, tOrV, tNotV, tAnd, tOr, tNot, tTest, tIf, tIfS, tB, tChain, tSl, tPart, tNoPart, tLst, tTup, tFld, tCl, tMt, tMk, gName, tNext, tBM, tBM0, tUn, tSub, tPar, tPar3, gTup, gCons, gNil, tDrop, tMkS, tM1, sFld, StX.tStar, tYes, gSub, cxOf, Cx.wish, Cx.nox, Cx.blk]
      exact ⟨T', _, rfl, SqT.of upd_same, rfl, _, _, rfl, _, _, rfl, rfl, rfl, _, rfl, _, rfl, _, _, Dp.ext e5 q1, Dp.ext e5 q2, P4_alike _ _, (fun z => by cases z), by simp [P4.dat, PyData.depth, PyData.depthAll], k2 _ _ Ext.rfl' ⟨(c1, c2), zip_at g1 g2, rfl⟩⟩
    · intro zs G hz1 hz2 e hDz
      have ez : zs = ((((dItems d).map coupleP).zip (((dItems d).map coupleP).drop 1)).map fun c => ltP c.1 c.2).map V.bl := by
        rw [List.map_map]
        exact map_of (by rw [hz1, hn, List.length_zip, List.length_drop, List.length_map]; omega) hz2
      subst ez
      refine all_rd hDz ?_
      rw [List.all_map]
      exact q G (e1.trans (e2.trans (e3.trans e)))
end
end K81

end
section
/-! K81m: houses. -/
namespace K81
open PySem L2 Ow
open PySem.Spec PyProof.Rows
def listedK (d : KD) (l m : Int) : Bool := kSeq d && (decide (l ≤ ((kItems d).length : Int)) && decide (((kItems d).length : Int) ≤ m))
def isWay (x : Str) : Bool := x == "in place" || (x == "laid by" || x == "watched")
def hTail (k : KN) (t : PyData) (b : KD) : Bool := match kStr b with
  | some x => isWay x && (isTable k t && (decide (x ≠ "watched") || decide ((dItems t).length = 0)))
  | none => false
def isHouse (d : KD) : Bool := kSeq d && match kItems d with
  | [.kind k, b, .dat t] => hTail k t b
  | _ => false
/-- a house's third item is data, not too long -/
def okH (d : KD) : Prop := ∀ a b c, kItems d = [a, b, c] → ∃ e, c = .dat e ∧ (dItems e).length ≤ 600
section
variable {w : World} {K : W.Frag} {mg : Str → Option Value} {base : Heap}
def sp_is_listed (K : W.Frag) : Sp := fun vs H Q _ => ∃ v d l m, vs = [v, .int l, .int m] ∧ Kp K H v d ∧ ∀ H', Ext H H' → Q (.bl (listedK d l m)) H'
theorem c_is_listed (T : Txt K mg) : Cal prg w K mg base CX0 1 "is_listed" ["value", "least", "most"] (sp_is_listed K) := by
  refine T.d_is_listed.cal sc_is_listed (fun vs H Q E ⟨v, d, l, m, e, _⟩ => by rw [e]; rfl) fun f cdv A outer s H vs Q E hr h => ?_
  have nd := sc_is_listed.nd
  obtain ⟨v, d, l, m, rfl, hv, q⟩ := h
  refine ⟨_, PSs.nox (pss_one (ps_ret (pe_and (pe_callB call_isiT (by rfl) T.f_isinstance (by decide +kernel) (pa_cons (pv 0) (pa_cons (pe_tup (pa_cons (pe_bltn (v := .ty "list") (by rfl) T.f_list (by decide +kernel) rfl) (pa_cons (pe_bltn (v := .ty "tuple") (by rfl) T.f_tuple (by decide +kernel) rfl) pa_nil))) pa_nil))) (pe_one (pe_chain op_le op_le (pv 1) (pe_callB call_len_seq (by rfl) T.f_len (by decide +kernel) (pa_cons (pv 0) pa_nil)) (pv 2)))))), ?_⟩
  dsimp only [tRet, tRetN, tSeq, tAsg, tOp, tVar, tC, tCB, tCons, tNil, tAndV, tOrV, tNotV, tAnd, tOr, tNot, tTest, tIf, tIfS, tB, tChain, tSl, tPart, tNoPart, tLst, tTup, tFld, tCl, tMt, tMk, gName, tNext, tBM, tBM0, tUn, tSub, tPar, tPar3, gTup, gCons, gNil, tDrop, tMkS, tM1, sFld, StX.tStar, tYes, gSub, cxOf, Cx.wish, Cx.nox, Cx.blk]
  refine ⟨_, rfl, (by show 2 ≤ sizeLine; decide), fun tp htp => kisi2_rd T (Kp.ext (Ext.upd htp) hv) upd_same ⟨_, rfl, ?_⟩⟩
  have e1 : Ext H (upd H tp (.tup [.ty "list", .ty "tuple"])) := Ext.upd htp
  have q := q _ e1
  cases hs : kSeq d with
  | false =>
    rw [show listedK d l m = false by rw [listedK, hs]; rfl] at q
    exact if_f rfl q
  | true =>
    refine if_t rfl ?_
    obtain ⟨fl, a, xs, rfl, hx, hA⟩ := kseq_of (Kp.ext e1 hv) hs
    have hlen : xs.length = (kItems d).length := KpAll.length hA
    rw [show listedK d l m = (decide (l ≤ ((kItems d).length : Int)) && decide (((kItems d).length : Int) ≤ m)) by rw [listedK, hs]; rfl] at q
    refine ⟨_, rfl, _, rfl, a, xs, rfl, hx.or, _, _, rfl, rfl, _, rfl, ?_⟩
    rw [hlen]
    refine ite2 (fun c => ?_) fun c => ?_
    · have c : l ≤ ((kItems d).length : Int) := of_decide_eq_true c
      refine ⟨_, rfl, _, _, rfl, rfl, ?_⟩
      rw [decide_eq_true c, Bool.true_and] at q
      exact q
    · have c : ¬ l ≤ ((kItems d).length : Int) := fun z => c (decide_eq_true z)
      rw [decide_eq_false c, Bool.false_and] at q
      exact q
theorem kItems_three {K : W.Frag} {H : Hp} {xs : List V} {d : KD} (hA : KpAll K H xs (kItems d)) (hl : (kItems d).length = 3) : ∃ x y z a b c, kItems d = [a, b, c] ∧ xs = [x, y, z] ∧ Kp K H x a ∧ Kp K H y b ∧ Kp K H z c := by
  match e : kItems d, hl with
  | [a, b, c], _ =>
    rw [e] at hA
    cases hA with
    | cons h1 r =>
      cases r with
      | cons h2 r =>
        cases r with
        | cons h3 r =>
          cases r
          exact ⟨_, _, _, a, b, c, rfl, rfl, h1, h2, h3⟩
theorem ways_rd {K : W.Frag} {H : Hp} {mg : Str → Option Value} (T : Txt K mg) : SqT K H (He.ga K "WAYS") ((["in place", "laid by", "watched"] : List Str).map V.str) := by
  obtain ⟨a, xs, e, h1, h2⟩ := Dp.tupV T.b_WAYS
  cases e
  cases h2 with
  | cons p r =>
    cases r with
    | cons p2 r =>
      cases r with
      | cons p3 r =>
        cases r
        obtain rfl := Dp.strV p
        obtain rfl := Dp.strV p2
        obtain rfl := Dp.strV p3
        exact h1.ext ext00
theorem ways_in (x : Str) : inV (.str x) ((["in place", "laid by", "watched"] : List Str).map V.str) = isWay x := by
  simp only [inV, List.map_cons, List.map_nil, List.any_cons, List.any_nil, eqV, isWay, Bool.or_false]
  rw [BEq.comm (a := ("in place" : Str)), BEq.comm (a := ("laid by" : Str)), BEq.comm (a := ("watched" : Str))]
def sp_is_house (K : W.Frag) : Sp := fun vs H Q _ => ∃ v d, vs = [v] ∧ Kp K H v d ∧ okH d ∧ ∀ H', Ext H H' → Q (.bl (isHouse d)) H'
theorem c_is_house (T : Txt K mg) : Cal prg w K mg base CX0 8 "is_house" ["value"] (sp_is_house K) := by
  refine T.d_is_house.cal sc_is_house (fun vs H Q E ⟨v, d, e, _⟩ => by rw [e]; rfl) fun f cdv A outer s H vs Q E hr h => ?_
  have nd := sc_is_house.nd
  obtain ⟨v, d, rfl, hv, hok, q⟩ := h
  refine ⟨_, PSs.nox (pss_cons (ps_if (PW.pt (pw_or (pt_not (pt_val (pe_cl (c_is_listed T) (hr.mono (by decide)) pass0 (pa_cons (pv 0) (pa_cons pe_int (pa_cons pe_int pa_nil)))))) (pw_or1 (pt_not (pt_val (pe_callB call_isi (by rfl) T.f_isinstance (by decide +kernel) (pa_cons (pe_ix ix_seq (pv 0) pe_int (fun _ _ => rfl)) (pa_cons (pe_glob (v := .ref (He.ga K "Kind")) rfl T.g_Kind rfl) pa_nil)))))))) (pss_one (ps_ret pe_bl)) pss_nil)
      (pss_cons (ps_asg (pv 0) (pg_unF rfl (pgs_cons (pg_name (i := 1) nd rfl (Or.inl rfl)) (pgs_cons (pg_name (i := 2) nd rfl (Or.inl rfl)) (pgs_cons (pg_name (i := 3) nd rfl (Or.inl rfl)) pgs_nil)))))
      (pss_cons (ps_if (PW.pt (pw_or (pt_not (pt_val (pe_callB call_isi (by rfl) T.f_isinstance (by decide +kernel) (pa_cons (pv 2) (pa_cons (pe_bltn (v := .ty "str") (by rfl) T.f_str (by decide +kernel) rfl) pa_nil))))) (pw_or (pt_cmpR op_notIn_seq (pv 2) (pe_glob (v := .ref (He.ga K "WAYS")) rfl T.g_WAYS rfl) rfl) (pw_or1 (pt_not (pt_val (pe_cl (c_is_table T) (hr.mono (by decide)) pass0 (pa_cons (pv 1) (pa_cons (pv 3) pa_nil))))))))) (pss_one (ps_ret pe_bl)) pss_nil)
      (pss_one (ps_ret (pe_or (pe_cmpR op_ne (pv 2) (pe_glob (v := .str "watched") rfl T.g_WATCHED.choose_spec ⟨_, rfl⟩) (nomark _)) (pe_one (pe_cmpR op_eq (pe_callB call_len_seq (by rfl) T.f_len (by decide +kernel) (pa_cons (pv 3) pa_nil)) pe_int (nomark _))))))))), ?_⟩
  refine cut_ifn (fun c H' => c = !(listedK d 3 3 && ((kItems d).head?.bind kKind).isSome) ∧ Ext H H') (fun Q1 k1 => ?_) fun c H1 ⟨ec, e1⟩ => ?_
  · dsimp only [tRet, tRetN, tSeq, tAsg, tOp, tVar, tC, tCB, tCons, tNil, tAndV, tOrV, tNotV, tAnd, tOr, tNot, tTest, tIf, tIfS, tB, tChain, tSl, tPart, tNoPart, tLst, tTup, tFld, tCl, tMt, tMk, gName, tNext, tBM, tBM0, tUn, tSub, tPar, tPar3, gTup, gCons, gNil, tDrop, tMkS, tM1, sFld, StX.tStar, tYes, gSub, cxOf, Cx.wish, Cx.nox, Cx.blk]
    refine ⟨_, rfl, v, d, 3, 3, rfl, hv, fun H1 e1 => ⟨_, rfl, ?_⟩⟩
    cases hg : listedK d 3 3 with
    | false => exact if_t rfl (k1 _ _ ⟨by rw [hg]; rfl, e1⟩)
    | true =>
      refine if_f rfl ?_
      have hg2 := hg
      simp only [listedK, Bool.and_eq_true, decide_eq_true_eq] at hg2
      obtain ⟨hs, hl1, hl2⟩ := hg2
      obtain ⟨fl, a, xs, rfl, hx, hA⟩ := kseq_of (Kp.ext e1 hv) hs
      obtain ⟨x, y, z, a1, b1, c1, ek, rfl, p1, p2, p3⟩ := kItems_three hA (by omega)
      refine ⟨_, rfl, ixF hx at0 ?_⟩
      refine kisiK_rd T p1 ⟨_, rfl, k1 _ _ ⟨?_, e1⟩⟩
      rw [hg, ek]
      rfl
  subst ec
  cases hg : listedK d 3 3 && ((kItems d).head?.bind kKind).isSome with
  | false =>
    refine if_t rfl ?_
    have z := q H1 e1
    have e : isHouse d = false := by
      cases hi : isHouse d with
      | false => rfl
      | true =>
        simp only [isHouse, Bool.and_eq_true] at hi
        obtain ⟨hs, hi⟩ := hi
        split at hi
        · rename_i k b t ek
          simp [listedK, hs, ek, kKind] at hg
        · cases hi
    rw [e] at z
    exact z
  | true =>
    refine if_f rfl ?_
    simp only [listedK, Bool.and_eq_true, decide_eq_true_eq] at hg
    obtain ⟨⟨hs, hl1, hl2⟩, hk⟩ := hg
    obtain ⟨fl, a, xs, rfl, hx, hA⟩ := kseq_of hv hs
    obtain ⟨x, y, z, a1, b1, c1, ek, rfl, p1, p2, p3⟩ := kItems_three hA (by omega)
    rw [ek] at hk
    obtain ⟨e3, rfl, l3⟩ := hok a1 b1 c1 ek
    cases a1 with
    | dat _ => cases hk
    | seq _ _ => cases hk
    | kind k =>
      cases p1 with
      | kind hka =>
        rename_i ka
        cases p3 with
        | dat p3 =>
          have hx1 := hx.ext e1
          dsimp only [tRet, tRetN, tSeq, tAsg, tOp, tVar, tC, tCB, tCons, tNil, tAndV, tOrV, tNotV, tAnd, tOr, tNot, tTest, tIf, tIfS, tB, tChain, tSl, tPart, tNoPart, tLst, tTup, tFld, tCl, tMt, tMk, gName, tNext, tBM, tBM0, tUn, tSub, tPar, tPar3, gTup, gCons, gNil, tDrop, tMkS, tM1, sFld, StX.tStar, tYes, gSub, cxOf, Cx.wish, Cx.nox, Cx.blk]
          refine ⟨_, rfl, fl, a, _, rfl, hx1, rfl, ?_⟩
          refine ⟨_, _, rfl, _, _, rfl, _, _, rfl, rfl, ?_⟩
          have hI : isHouse d = hTail k e3 b1 := by
            rw [isHouse, hs, ek]
            rfl
          rw [hI] at q
          dsimp only [tRet, tRetN, tSeq, tAsg, tOp, tVar, tC, tCB, tCons, tNil, tAndV, tOrV, tNotV, tAnd, tOr, tNot, tTest, tIf, tIfS, tB, tChain, tSl, tPart, tNoPart, tLst, tTup, tFld, tCl, tMt, tMk, gName, tNext, tBM, tBM0, tUn, tSub, tPar, tPar3, gTup, gCons, gNil, tDrop, tMkS, tM1, sFld, StX.tStar, tYes, gSub, cxOf, Cx.wish, Cx.nox, Cx.blk]
          have q := fun H' e => q H' (e1.trans e)
          cases hb : kStr b1 with
          | none =>
            refine ⟨_, rfl, kisiS_rd T (p2.ext e1) ⟨_, rfl, ?_⟩⟩
            rw [hb]
            refine if_t rfl ?_
            have z := q H1 Ext.rfl'
            have e : hTail k e3 b1 = false := by rw [hTail, hb]
            rw [e] at z
            exact z
          | some x =>
            have eb : b1 = .dat (.str x) := by
              cases b1 with
              | dat b =>
                cases b <;> cases hb
                rfl
              | _ => cases hb
            subst eb
            rw [show hTail k e3 (.dat (.str x)) = (isWay x && (isTable k e3 && (decide (x ≠ "watched") || decide ((dItems e3).length = 0)))) from rfl] at q
            cases p2 with
            | dat p2 =>
              obtain rfl := p2.str
              refine ⟨_, rfl, kisiS_rd T (.dat (p2.ext e1)) ⟨_, rfl, if_f rfl ?_⟩⟩
              refine ⟨_, rfl, He.ga K "WAYS", _, rfl, .inr (ways_rd T), rfl, rfl, _, rfl, ?_⟩
              rw [if_pos rfl, ways_in]
              cases hw : isWay x with
              | false =>
                refine if_t rfl ?_
                have z := q H1 Ext.rfl'
                simp only [hw, Bool.false_and] at z
                exact z
              | true =>
                refine if_f rfl ⟨_, rfl, _, rfl, ka, z, k, e3, rfl, hka.ext e1, Vd.ext e1 p3, l3, fun H2 e2 => ⟨_, rfl, ?_⟩⟩
                have q := fun H' e => q H' (e2.trans e)
                simp only [hw, Bool.true_and] at q
                cases ht : isTable k e3 with
                | false =>
                  refine if_t rfl ?_
                  have z := q H2 Ext.rfl'
                  simp only [ht, Bool.false_and] at z
                  exact z
                | true =>
                  refine if_f rfl ?_
                  simp only [ht, Bool.true_and] at q
                  have hts : dSeq e3 = true := by
                    simp only [isTable, Bool.and_eq_true] at ht
                    exact ht.1
                  obtain ⟨f3, a3, xs, rfl, hx3, hA3⟩ := seq_of (Vd.ext (e1.trans e2) p3) hts
                  refine ⟨_, rfl, rfl, _, rfl, ?_⟩
                  rw [dec_str]
                  by_cases cw : x = "watched"
                  · refine if_f (by simp [cw]) ⟨_, rfl, a3, xs, rfl, hx3.or, rfl, ?_⟩
                    have z := q H2 Ext.rfl'
                    rw [dec_int, DpAll.length hA3]
                    have e : (decide (x ≠ "watched") || decide ((dItems e3).length = 0)) = decide ((((dItems e3).length : Nat) : Int) = 0) := by
                      rw [Bool.eq_iff_iff]
                      simp [cw]
                    rw [e] at z
                    exact z
                  · refine if_t (by simp [cw]) ?_
                    have z := q H2 Ext.rfl'
                    rw [decide_eq_true cw, Bool.true_or] at z
                    exact z
end
end K81

end
section
/-! K81n: deals, hands. -/
namespace K81
open PySem L2 Ow
open PySem.Spec PyProof.Rows
section
variable {X : Cx} {K : W.Frag} {e : Expr} {f : Str} {pos : Pos} {ta : TE}
theorem pe_fldK (hK : X.K = K) (he : PE X e ta) (hb : attributeBase e f X.env (eval e X.env) = eval e X.env) : PE X (.Attribute e f pos) (tFld K ta f) := by
  subst hK
  exact pe_fld he hb
abbrev rLenK (K : W.Frag) : List V → Hp → VK → Prop := fun xs H Q => ∃ p ys, xs = [.ref p] ∧ (SqL K H p ys ∨ SqT K H p ys) ∧ Q (.int ys.length) H
theorem call_lenK (hK : X.K = K) : CallR X (.builtin "len") (rLenK K) := by
  subst hK
  exact call_len_seq
end
def askN (d : KD) : Nat := match kItems d with
  | .kind k :: _ => k.asks.length
  | _ => 0
def stepIn (hs : List KD) (e : PyData) : Bool := match dItems e with
  | [.int h, .int a] => decide (0 ≤ h) && (decide (h < (hs.length : Int)) && (decide (0 ≤ a) && decide (a < (askN (hs.getD h.toNat (.dat .none)) : Int))))
  | _ => false
def isDeal (hs : List KD) (d : PyData) : Bool := listedK (.dat d) 1 6 && ((dItems d).all (isRow · 2) && (dItems d).all (stepIn hs))
def dealsOf (d : PyData) : List PyData := (dItems d).flatMap dItems
def isHands (hs : List KD) (d : PyData) : Bool := listedK (.dat d) 1 4 && ((dItems d).all dSeq && (decide (((dItems d).map fun h => ((dItems h).length : Int)).sum ≤ 8) && (dealsOf d).all (isDeal hs)))
theorem row_two {d : PyData} (h : isRow d 2 = true) : dSeq d = true ∧ ∃ a b, dItems d = [.int a, .int b] := by
  simp only [isRow, Bool.and_eq_true, decide_eq_true_eq, List.all_eq_true] at h
  obtain ⟨h1, h2, h3⟩ := h
  have h2 : (dItems d).length = 2 := by omega
  refine ⟨h1, ?_⟩
  match e : dItems d, h2 with
  | [x, y], _ =>
    rw [e] at h3
    have w1 := h3 x (by simp)
    have w2 := h3 y (by simp)
    cases x <;> simp [dInt] at w1
    cases y <;> simp [dInt] at w2
    exact ⟨_, _, rfl⟩
theorem listed_dat {d : PyData} {l m : Int} (h : listedK (.dat d) l m = true) : dSeq d = true ∧ l ≤ ((dItems d).length : Int) ∧ ((dItems d).length : Int) ≤ m := by
  simp only [listedK, Bool.and_eq_true, decide_eq_true_eq, kItems, List.length_map] at h
  exact ⟨h.1, h.2.1, h.2.2⟩
/-- a house's kind -/
theorem house_kind {K : W.Frag} {H : Hp} {v : V} {d : KD} (h : Kp K H v d) (ho : isHouse d = true) : ∃ fl a xs ka k, v = .ref a ∧ SqF K fl H a (.ref ka :: xs) ∧ KindAt K H ka k ∧ askN d = k.asks.length := by
  simp only [isHouse, Bool.and_eq_true] at ho
  obtain ⟨hs, hi⟩ := ho
  obtain ⟨fl, a, xs, rfl, hx, hA⟩ := kseq_of h hs
  split at hi
  · rename_i k b t ek
    rw [ek] at hA
    cases hA with
    | cons p1 r =>
      cases p1 with
      | kind hk => exact ⟨fl, a, _, _, k, rfl, hx, hk, by rw [askN, ek]⟩
  · cases hi
section
variable {w : World} {K : W.Frag} {mg : Str → Option Value} {base : Heap}
def sp_is_deal (K : W.Frag) : Sp := fun vs H Q _ => ∃ v d u hd, vs = [v, u] ∧ Vd K H v d ∧ Kp K H u hd ∧ kSeq hd = true ∧ (kItems hd).all isHouse = true ∧ ∀ H', Ext H H' → Q (.bl (isDeal (kItems hd) d)) H'
theorem c_is_deal (T : Txt K mg) : Cal prg w K mg base CX0 3 "is_deal" ["value", "houses"] (sp_is_deal K) := by
  refine T.d_is_deal.cal sc_is_deal (fun vs H Q E ⟨v, d, u, hd, e, _⟩ => by rw [e]; rfl) fun f cdv A outer s H vs Q E hr h => ?_
  have nd := sc_is_deal.nd
  obtain ⟨v, d, u, hd, rfl, hv, hu, hus, huh, q⟩ := h
  refine ⟨_, PSs.nox (pss_cons (ps_if (PW.pt (pw_or (pt_not (pt_val (pe_cl (c_is_listed T) (hr.mono (by decide)) pass0 (pa_cons (pv 0) (pa_cons pe_int (pa_cons (pe_glob (v := .int 6) rfl T.g_MOST_STEPS.choose_spec ⟨_, rfl⟩) pa_nil)))))) (pw_or1 (pt_not (pt_val (pe_callB (cr_all rfl) (by rfl) T.f_all (by decide +kernel) (pa_cons (pe_lc (own := [("step", 2)]) (tt := tYes) (g := gName 2) rfl nd (pi_seqF (pv 0)) (blkOk_by (own := [("step", 2)]) (N := ["value", "houses", "step", "house", "ask"]) (sc := defScope s_is_deal) (by decide +kernel)) (fun _ _ _ _ _ => (pg_name (i := 2) nd rfl (Or.inl rfl))) (fun _ _ _ _ _ => pts_nil) (fun _ _ _ _ _ => (pe_cl (c_is_row T) (hr.mono (by decide)) pass0 (pa_cons (pv 2) (pa_cons pe_int pa_nil))))) pa_nil))))))) (pss_one (ps_ret pe_bl)) pss_nil)
      (pss_one (ps_ret (pe_callB (cr_all rfl) (by rfl) T.f_all (by decide +kernel) (pa_cons (pe_lc (own := [("house", 3), ("ask", 4)]) (tt := tYes) (g := gUnF K 2 (gCons (gName 3) (gCons (gName 4) gNil))) rfl nd (pi_seqF (pv 0)) (blkOk_by (own := [("house", 3), ("ask", 4)]) (N := ["value", "houses", "step", "house", "ask"]) (sc := defScope s_is_deal) (by decide +kernel)) (fun _ _ _ _ _ => (pg_unF rfl (pgs_cons (pg_name (i := 3) nd rfl (Or.inl rfl)) (pgs_cons (pg_name (i := 4) nd rfl (Or.inl rfl)) pgs_nil)))) (fun _ _ _ _ _ => pts_nil) (fun _ _ _ _ _ => (pe_and (pe_chain op_le op_lt pe_int (pv 3) (pe_callB (call_lenK (K := K) rfl) (by rfl) T.f_len (by decide +kernel) (pa_cons (pv 1) pa_nil))) (pe_one (pe_chain op_le op_lt pe_int (pv 4) (pe_callB (call_lenK (K := K) rfl) (by rfl) T.f_len (by decide +kernel) (pa_cons (pe_fldK (K := K) rfl (pe_ix (ixK (K := K) rIx rfl ix_seq) (pe_ix (ixK (K := K) rIx rfl ix_seq) (pv 1) (pv 3) (fun _ _ => rfl)) pe_int (fun _ _ => rfl)) rfl) pa_nil))))))) pa_nil))))), ?_⟩
  refine cut_ifn (fun c H' => c = !(listedK (.dat d) 1 6 && (dItems d).all (isRow · 2)) ∧ Ext H H') (fun Q1 k1 => ?_) fun c H1 ⟨ec, e1⟩ => ?_
  · dsimp only [tRet, tRetN, tSeq, tAsg, tOp, tVar, tC, tCB, tCons, tNil, tAndV, tOrV, tNotV, tAnd, tOr, tNot, tTest, tIf, tIfS, tB, tChain, tSl, tPart, tNoPart, tLst, tTup, tFld, tCl, tMt, tMk, gName, tNext, tBM, tBM0, tUn, tSub, tPar, tPar3, gTup, gCons, gNil, tDrop, tMkS, tM1, sFld, StX.tStar, tYes, gSub, cxOf, Cx.wish, Cx.nox, Cx.blk]
    refine ⟨_, rfl, v, .dat d, 1, 6, rfl, .dat hv, fun H1 e1 => ⟨_, rfl, ?_⟩⟩
    cases hg : listedK (.dat d) 1 6 with
    | false => exact if_t rfl (k1 _ _ ⟨by rw [hg]; rfl, e1⟩)
    | true =>
      obtain ⟨hs, l1, l6⟩ := listed_dat hg
      refine if_f rfl ?_
      obtain ⟨fl, a, xs, rfl, hx, hA⟩ := seq_of (Vd.ext e1 hv) hs
      have hlen : xs.length = (dItems d).length := DpAll.length hA
      refine ⟨_, rfl, fl, a, xs, rfl, hx, fun D hD => ?_⟩
      refine lc_map (fun e => .bl (isRow e 2)) hx hlen (small_of (m := 600) (by omega)) hD ?_ fun G e hG => ?_
      · intro i d1 x G e hx1 hd1 Q2 k2
        obtain ⟨d2, hd2, hp2⟩ := DpAll.getV hA hx1
        rw [hd1] at hd2
        cases hd2
        dsimp only [tRet, tRetN, tSeq, tAsg, tOp, tVar, tC, tCB, tCons, tNil, tAndV, tOrV, tNotV, tAnd, tOr, tNot, tTest, tIf, tIfS, tB, tChain, tSl, tPart, tNoPart, tLst, tTup, tFld, tCl, tMt, tMk, gName, tNext, tBM, tBM0, tUn, tSub, tPar, tPar3, gTup, gCons, gNil, tDrop, tMkS, tM1, sFld, StX.tStar, tYes, gSub, cxOf, Cx.wish, Cx.nox, Cx.blk]
        exact ⟨rfl, _, rfl, x, d1, 2, rfl, by decide, Vd.of (Dp.ext e hp2), fun G2 e2 => k2 G2 e2⟩
      · refine all_rd (bs := (dItems d).map (isRow · 2)) (by rw [hG, List.map_map]; rfl) ⟨_, rfl, k1 _ _ ⟨?_, e1.trans e⟩⟩
        rw [List.all_map, hg]
        rfl
  subst ec
  have hz : isDeal (kItems hd) d = (listedK (.dat d) 1 6 && (dItems d).all (isRow · 2) && (dItems d).all (stepIn (kItems hd))) := by rw [isDeal, Bool.and_assoc]
  rw [hz] at q
  cases hg : listedK (.dat d) 1 6 && (dItems d).all (isRow · 2) with
  | false =>
    refine if_t rfl ?_
    rw [hg, Bool.false_and] at q
    exact q H1 e1
  | true =>
    refine if_f rfl ?_
    rw [hg, Bool.true_and] at q
    obtain ⟨hg1, hr2⟩ := Bool.and_eq_true_iff.mp hg
    have hr2 := List.all_eq_true.mp hr2
    obtain ⟨hs, l1, l6⟩ := listed_dat hg1
    obtain ⟨fl, a, xs, rfl, hx, hA⟩ := seq_of (Vd.ext e1 hv) hs
    have hlen : xs.length = (dItems d).length := DpAll.length hA
    obtain ⟨fu, au, us, rfl, hux, hUA⟩ := kseq_of (Kp.ext e1 hu) hus
    have hul : us.length = (kItems hd).length := KpAll.length hUA
    dsimp only [tRet, tRetN, tSeq, tAsg, tOp, tVar, tC, tCB, tCons, tNil, tAndV, tOrV, tNotV, tAnd, tOr, tNot, tTest, tIf, tIfS, tB, tChain, tSl, tPart, tNoPart, tLst, tTup, tFld, tCl, tMt, tMk, gName, tNext, tBM, tBM0, tUn, tSub, tPar, tPar3, gTup, gCons, gNil, tDrop, tMkS, tM1, sFld, StX.tStar, tYes, gSub, cxOf, Cx.wish, Cx.nox, Cx.blk]
    refine ⟨_, rfl, fl, a, xs, rfl, hx, fun D hD => ?_⟩
    refine lc_map (fun e => .bl (stepIn (kItems hd) e)) hx hlen (small_of (m := 600) (by omega)) hD ?_ fun G e hG => ?_
    · intro i d1 x G e hx1 hd1 Q2 k2
      obtain ⟨d2, hd2, hp2⟩ := DpAll.getV hA hx1
      rw [hd1] at hd2
      cases hd2
      obtain ⟨ds1, h, ak, ed⟩ := row_two (hr2 d1 (List.mem_of_getElem? hd1))
      obtain ⟨f1, a1, ys, rfl, hy, hyA⟩ := seq_of (Vd.of (Dp.ext e hp2)) ds1
      rw [ed] at hyA
      obtain rfl : ys = [.int h, .int ak] := by
        cases hyA with
        | cons p1 r =>
          cases r with
          | cons p2 r =>
            cases r
            rw [Dp.intV p1, Dp.intV p2]
      have hst : stepIn (kItems hd) d1 = (decide (0 ≤ h) && (decide (h < ((kItems hd).length : Int)) && (decide (0 ≤ ak) && decide (ak < (askN ((kItems hd).getD h.toNat (.dat .none)) : Int))))) := by rw [stepIn, ed]
      rw [hst] at k2
      have k2 := k2 G Ext.rfl'
      dsimp only [tRet, tRetN, tSeq, tAsg, tOp, tVar, tC, tCB, tCons, tNil, tAndV, tOrV, tNotV, tAnd, tOr, tNot, tTest, tIf, tIfS, tB, tChain, tSl, tPart, tNoPart, tLst, tTup, tFld, tCl, tMt, tMk, gName, tNext, tBM, tBM0, tUn, tSub, tPar, tPar3, gTup, gCons, gNil, tDrop, tMkS, tM1, sFld, StX.tStar, tYes, gSub, cxOf, Cx.wish, Cx.nox, Cx.blk]
      refine ⟨f1, a1, _, rfl, hy, rfl, _, _, rfl, _, _, rfl, rfl, rfl, ?_⟩
      have huG : SqF K fu G au us := hux.ext e
      refine ⟨_, rfl, _, _, rfl, rfl, _, rfl, ite2 (fun c => ?_) fun c => ?_⟩
      · have c : 0 ≤ h := of_decide_eq_true c
        rw [decide_eq_true c, Bool.true_and] at k2
        refine ⟨_, rfl, au, us, rfl, huG.or, _, _, rfl, rfl, _, rfl, ?_⟩
        rw [hul]
        refine ite2 (fun c2 => ?_) fun c2 => ?_
        · have c2 : h < ((kItems hd).length : Int) := of_decide_eq_true c2
          rw [decide_eq_true c2, Bool.true_and] at k2
          refine ⟨_, rfl, _, _, rfl, rfl, _, rfl, ite2 (fun c3 => ?_) fun c3 => ?_⟩
          · have c3 : 0 ≤ ak := of_decide_eq_true c3
            rw [decide_eq_true c3, Bool.true_and] at k2
            obtain ⟨n, rfl⟩ := Int.eq_ofNat_of_zero_le c
            have hn : n < us.length := by omega
            obtain ⟨hk, hkd, hkp⟩ := KpAll.getV hUA (List.getElem?_eq_getElem hn)
            obtain ⟨f3, a3, ws, ka, k, ev, hw, hka, hak⟩ := house_kind (hkp.ext e) (List.all_eq_true.mp huh hk (List.mem_of_getElem? hkd))
            have hgd : (kItems hd).getD (n : Int).toNat (.dat .none) = hk := by
              rw [Int.toNat_natCast, List.getD_eq_getElem?_getD, hkd]
              rfl
            rw [hgd, hak] at k2
            obtain ⟨dx, p1, p2, p3, p4, p5, hp, h1, _⟩ := hka
            refine ⟨_, rfl, _, rfl, ixF huG (v := us[n]) (atI_nat (List.getElem?_eq_getElem hn)) ?_⟩
            rw [ev]
            refine ixF hw at0 ⟨ka, _, dx, _, _, rfl, hp, T.cl_Kind, T.na_Kind_asks, rfl, p1, _, rfl, .inr h1, _, _, rfl, rfl, ?_⟩
            rw [List.length_map]
            exact k2
          · have c3 : ¬ 0 ≤ ak := fun z => c3 (decide_eq_true z)
            rw [decide_eq_false c3, Bool.false_and] at k2
            exact k2
        · have c2 : ¬ h < ((kItems hd).length : Int) := fun z => c2 (decide_eq_true z)
          rw [decide_eq_false c2, Bool.false_and] at k2
          exact k2
      · have c : ¬ 0 ≤ h := fun z => c (decide_eq_true z)
        rw [decide_eq_false c, Bool.false_and] at k2
        exact ⟨_, rfl, if_f rfl k2⟩
    · refine all_rd (bs := (dItems d).map (stepIn (kItems hd))) (by rw [hG, List.map_map]; rfl) ?_
      have z := q G (e1.trans e)
      rw [List.all_map]
      exact z
theorem len_sum : ∀ (l : List PyData), (((l.flatMap dItems).length : Nat) : Int) = (l.map fun h => ((dItems h).length : Int)).sum
  | [] => rfl
  | a :: r => by
    rw [List.flatMap_cons, List.length_append, List.map_cons, List.sum_cons, ← len_sum r]
    omega
theorem flat_take {α β : Type} {f : α → List β} {l : List α} {j : Nat} : ((l.take j).flatMap f).length ≤ (l.flatMap f).length := by
  conv => rhs; rw [← List.take_append_drop j l]
  rw [List.flatMap_append, List.length_append]
  exact Nat.le_add_right _ _
def sp_are_hands (K : W.Frag) : Sp := fun vs H Q _ => ∃ v d u hd, vs = [v, u] ∧ Vd K H v d ∧ Kp K H u hd ∧ kSeq hd = true ∧ (kItems hd).all isHouse = true ∧ ∀ H', Ext H H' → Q (.bl (isHands (kItems hd) d)) H'
theorem c_are_hands (T : Txt K mg) : Cal prg w K mg base CX0 4 "are_hands" ["value", "houses"] (sp_are_hands K) := by
  refine T.d_are_hands.cal sc_are_hands (fun vs H Q E ⟨v, d, u, hd, e, _⟩ => by rw [e]; rfl) fun f cdv A outer s H vs Q E hr h => ?_
  have nd := sc_are_hands.nd
  obtain ⟨v, d, u, hd, rfl, hv, hu, hus, huh, q⟩ := h
  refine ⟨_, PSs.nox (pss_cons (ps_if (PW.pt (pw_or (pt_not (pt_val (pe_cl (c_is_listed T) (hr.mono (by decide)) pass0 (pa_cons (pv 0) (pa_cons pe_int (pa_cons (pe_glob (v := .int 4) rfl T.g_MOST_HANDS.choose_spec ⟨_, rfl⟩) pa_nil)))))) (pw_or1 (pt_not (pt_val (pe_callB (cr_all rfl) (by rfl) T.f_all (by decide +kernel) (pa_cons (pe_lc (own := [("hand", 2)]) (tt := tYes) (g := gName 2) rfl nd (pi_seqF (pv 0)) (blkOk_by (own := [("hand", 2)]) (N := ["value", "houses", "hand", "deal"]) (sc := defScope s_are_hands) (by decide +kernel)) (fun _ _ _ _ _ => (pg_name (i := 2) nd rfl (Or.inl rfl))) (fun _ _ _ _ _ => pts_nil) (fun _ _ _ _ _ => (pe_callB (callK (K := K) rIsiT rfl call_isiT) (by rfl) T.f_isinstance (by decide +kernel) (pa_cons (pv 2) (pa_cons (pe_tup (pa_cons (pe_bltn (v := .ty "list") (by rfl) T.f_list (by decide +kernel) rfl) (pa_cons (pe_bltn (v := .ty "tuple") (by rfl) T.f_tuple (by decide +kernel) rfl) pa_nil))) pa_nil))))) pa_nil))))))) (pss_one (ps_ret pe_bl)) pss_nil)
      (pss_cons (ps_if (pt_cmpR op_gt (pe_callB (cr_sum rfl) (by rfl) T.f_sum (by decide +kernel) (pa_cons (pe_lc (own := [("hand", 2)]) (tt := tYes) (g := gName 2) rfl nd (pi_seqF (pv 0)) (blkOk_by (own := [("hand", 2)]) (N := ["value", "houses", "hand", "deal"]) (sc := defScope s_are_hands) (by decide +kernel)) (fun _ _ _ _ _ => (pg_name (i := 2) nd rfl (Or.inl rfl))) (fun _ _ _ _ _ => pts_nil) (fun _ _ _ _ _ => (pe_callB (call_lenK (K := K) rfl) (by rfl) T.f_len (by decide +kernel) (pa_cons (pv 2) pa_nil)))) pa_nil)) (pe_glob (v := .int 8) rfl T.g_MOST_DEALS.choose_spec ⟨_, rfl⟩) (nomark _)) (pss_one (ps_ret pe_bl)) pss_nil)
      (pss_one (ps_ret (pe_callB (cr_all rfl) (by rfl) T.f_all (by decide +kernel) (pa_cons (pe_lc2 (own := [("hand", 2), ("deal", 3)]) (tt := tYes) (g := gName 2) (g1 := gName 3) (tt1 := tYes) (vs1 := [3]) rfl nd (pi_seqF (pv 0)) (blkOk_by (own := [("hand", 2), ("deal", 3)]) (N := ["value", "houses", "hand", "deal"]) (sc := defScope s_are_hands) (by decide +kernel)) (by decide) (fun _ _ _ _ _ => (pg_name (i := 2) nd rfl (Or.inl rfl))) (fun _ _ _ _ _ => pts_nil) (fun _ _ _ _ _ => (pi_seqFK (K := K) rfl (pv 2))) (fun _ _ _ _ _ => (pg_name (i := 3) nd rfl (Or.inl rfl))) (fun _ _ _ _ _ => pts_nil) (fun _ _ _ _ _ => (pe_cl (c_is_deal T) (hr.mono (by decide)) pass0 (pa_cons (pv 3) (pa_cons (pv 1) pa_nil))))) pa_nil)))))), ?_⟩
  refine cut_ifn (fun c H' => c = !(listedK (.dat d) 1 4 && (dItems d).all dSeq) ∧ Ext H H') (fun Q1 k1 => ?_) fun c H1 ⟨ec, e1⟩ => ?_
  · dsimp only [tRet, tRetN, tSeq, tAsg, tOp, tVar, tC, tCB, tCons, tNil, tAndV, tOrV, tNotV, tAnd, tOr, tNot, tTest, tIf, tIfS, tB, tChain, tSl, tPart, tNoPart, tLst, tTup, tFld, tCl, tMt, tMk, gName, tNext, tBM, tBM0, tUn, tSub, tPar, tPar3, gTup, gCons, gNil, tDrop, tMkS, tM1, sFld, StX.tStar, tYes, gSub, cxOf, Cx.wish, Cx.nox, Cx.blk]
    refine ⟨_, rfl, v, .dat d, 1, 4, rfl, .dat hv, fun H1 e1 => ⟨_, rfl, ?_⟩⟩
    cases hg : listedK (.dat d) 1 4 with
    | false => exact if_t rfl (k1 _ _ ⟨by rw [hg]; rfl, e1⟩)
    | true =>
      obtain ⟨hs, l1, l6⟩ := listed_dat hg
      refine if_f rfl ?_
      obtain ⟨fl, a, xs, rfl, hx, hA⟩ := seq_of (Vd.ext e1 hv) hs
      have hlen : xs.length = (dItems d).length := DpAll.length hA
      refine ⟨_, rfl, fl, a, xs, rfl, hx, fun D hD => ?_⟩
      refine lc_map (fun e => .bl (dSeq e)) hx hlen (small_of (m := 600) (by omega)) hD ?_ fun G e hG => ?_
      · intro i d1 x G e hx1 hd1 Q2 k2
        obtain ⟨d2, hd2, hp2⟩ := DpAll.getV hA hx1
        rw [hd1] at hd2
        cases hd2
        dsimp only [tRet, tRetN, tSeq, tAsg, tOp, tVar, tC, tCB, tCons, tNil, tAndV, tOrV, tNotV, tAnd, tOr, tNot, tTest, tIf, tIfS, tB, tChain, tSl, tPart, tNoPart, tLst, tTup, tFld, tCl, tMt, tMk, gName, tNext, tBM, tBM0, tUn, tSub, tPar, tPar3, gTup, gCons, gNil, tDrop, tMkS, tM1, sFld, StX.tStar, tYes, gSub, cxOf, Cx.wish, Cx.nox, Cx.blk]
        exact ⟨rfl, _, rfl, (by show 2 ≤ sizeLine; decide), fun tp htp => isi2_rd (Vd.of (Dp.ext (e.trans (Ext.upd htp)) hp2)) upd_same (k2 _ (Ext.upd htp))⟩
      · refine all_rd (bs := (dItems d).map dSeq) (by rw [hG, List.map_map]; rfl) ⟨_, rfl, k1 _ _ ⟨?_, e1.trans e⟩⟩
        rw [List.all_map, hg]
        rfl
  subst ec
  have hz : isHands (kItems hd) d = (listedK (.dat d) 1 4 && (dItems d).all dSeq && (decide (((dItems d).map fun h => ((dItems h).length : Int)).sum ≤ 8) && (dealsOf d).all (isDeal (kItems hd)))) := by rw [isHands, Bool.and_assoc]
  rw [hz] at q
  cases hg : listedK (.dat d) 1 4 && (dItems d).all dSeq with
  | false =>
    refine if_t rfl ?_
    rw [hg, Bool.false_and] at q
    exact q H1 e1
  | true =>
    refine if_f rfl ?_
    rw [hg, Bool.true_and] at q
    obtain ⟨hg1, hr2⟩ := Bool.and_eq_true_iff.mp hg
    have hr2 := List.all_eq_true.mp hr2
    obtain ⟨hs, l1, l6⟩ := listed_dat hg1
    obtain ⟨fl, a, xs, rfl, hx, hA⟩ := seq_of (Vd.ext e1 hv) hs
    have hlen : xs.length = (dItems d).length := DpAll.length hA
    refine cut_ifn (fun c H' => c = !decide (((dItems d).map fun h => ((dItems h).length : Int)).sum ≤ 8) ∧ Ext H1 H') (fun Q1 k1 => ?_) fun c H2 ⟨ec, e2⟩ => ?_
    · dsimp only [tRet, tRetN, tSeq, tAsg, tOp, tVar, tC, tCB, tCons, tNil, tAndV, tOrV, tNotV, tAnd, tOr, tNot, tTest, tIf, tIfS, tB, tChain, tSl, tPart, tNoPart, tLst, tTup, tFld, tCl, tMt, tMk, gName, tNext, tBM, tBM0, tUn, tSub, tPar, tPar3, gTup, gCons, gNil, tDrop, tMkS, tM1, sFld, StX.tStar, tYes, gSub, cxOf, Cx.wish, Cx.nox, Cx.blk]
      refine ⟨_, rfl, fl, a, xs, rfl, hx, fun D hD => ?_⟩
      refine lc_map (fun e => .int (dItems e).length) hx hlen (small_of (m := 600) (by omega)) hD ?_ fun G e hG => ?_
      · intro i d1 x G e hx1 hd1 Q2 k2
        obtain ⟨d2, hd2, hp2⟩ := DpAll.getV hA hx1
        rw [hd1] at hd2
        cases hd2
        obtain ⟨f1, a1, ys, rfl, hy, hyA⟩ := seq_of (Vd.of (Dp.ext e hp2)) (hr2 d1 (List.mem_of_getElem? hd1))
        dsimp only [tRet, tRetN, tSeq, tAsg, tOp, tVar, tC, tCB, tCons, tNil, tAndV, tOrV, tNotV, tAnd, tOr, tNot, tTest, tIf, tIfS, tB, tChain, tSl, tPart, tNoPart, tLst, tTup, tFld, tCl, tMt, tMk, gName, tNext, tBM, tBM0, tUn, tSub, tPar, tPar3, gTup, gCons, gNil, tDrop, tMkS, tM1, sFld, StX.tStar, tYes, gSub, cxOf, Cx.wish, Cx.nox, Cx.blk]
        refine ⟨rfl, _, rfl, a1, ys, rfl, hy.or, ?_⟩
        rw [DpAll.length hyA]
        exact k2 G Ext.rfl'
      · refine ⟨D, (dItems d).map fun h => ((dItems h).length : Int), rfl, SqL.of (by rw [hG, List.map_map]; rfl), _, _, rfl, rfl, _, rfl, k1 _ _ ⟨?_, e⟩⟩
        rw [Bool.eq_iff_iff]
        simp
    subst ec
    cases hg2 : decide (((dItems d).map fun h => ((dItems h).length : Int)).sum ≤ 8) with
    | false =>
      refine if_t rfl ?_
      rw [hg2, Bool.false_and] at q
      exact q H2 (e1.trans e2)
    | true =>
      refine if_f rfl ?_
      rw [hg2, Bool.true_and] at q
      have tot : (dealsOf d).length ≤ 8 := by
        have z1 := of_decide_eq_true hg2
        rw [← len_sum] at z1
        show ((dItems d).flatMap dItems).length ≤ 8
        omega
      let f : PyData → List Bool := fun h => (dItems h).map (isDeal (kItems hd))
      have ff : (dItems d).flatMap f = (dealsOf d).map (isDeal (kItems hd)) := by
        show _ = ((dItems d).flatMap dItems).map _
        rw [List.map_flatMap]
      have tot2 : ((dItems d).flatMap f).length ≤ 8 := by rw [ff, List.length_map]; exact tot
      have hx2 := hx.ext e2
      dsimp only [tRet, tRetN, tSeq, tAsg, tOp, tVar, tC, tCB, tCons, tNil, tAndV, tOrV, tNotV, tAnd, tOr, tNot, tTest, tIf, tIfS, tB, tChain, tSl, tPart, tNoPart, tLst, tTup, tFld, tCl, tMt, tMk, gName, tNext, tBM, tBM0, tUn, tSub, tPar, tPar3, gTup, gCons, gNil, tDrop, tMkS, tM1, sFld, StX.tStar, tYes, gSub, cxOf, Cx.wish, Cx.nox, Cx.blk, tTupB, tTIx, tDGetX, tLc2, tLc]
      refine ⟨_, rfl, fl, a, xs, rfl, hx2, fun D hD => ?_⟩
      refine turns_it (walk_seqF (xs := xs)) (fun i G => G D = some (.lst ((((dItems d).take i).flatMap f).map V.bl)) ∧ Ext H2 (L2.del G D)) ⟨upd_same, ext_off (Ext.upd hD) hD⟩ (fun i G _ ⟨_, e⟩ => hx2.ext (e.trans ext_del)) ?_ ?_
      · rintro i x G G' hi ⟨hG, e⟩ ⟨rfl, hx1⟩
        obtain ⟨d1, hd1, hp1⟩ := DpAll.getV hA hx1
        obtain ⟨f1, a1, ys, rfl, hy, hyA⟩ := seq_of (Vd.of hp1) (hr2 d1 (List.mem_of_getElem? hd1))
        have hle := flat_take (f := f) (l := dItems d) (j := i + 1)
        rw [flat_next hd1, List.length_append] at hle
        have hfl : (f d1).length = (dItems d1).length := List.length_map ..
        dsimp only [tRet, tRetN, tSeq, tAsg, tOp, tVar, tC, tCB, tCons, tNil, tAndV, tOrV, tNotV, tAnd, tOr, tNot, tTest, tIf, tIfS, tB, tChain, tSl, tPart, tNoPart, tLst, tTup, tFld, tCl, tMt, tMk, gName, tNext, tBM, tBM0, tUn, tSub, tPar, tPar3, gTup, gCons, gNil, tDrop, tMkS, tM1, sFld, StX.tStar, tYes, gSub, cxOf, Cx.wish, Cx.nox, Cx.blk, tTupB, tTIx, tDGetX, tLc2, tLc]
        refine ⟨rfl, ?_⟩
        rw [if_pos (rfl : true = true)]
        have hyG : SqF K f1 G' a1 ys := hy.ext (e2.trans (e.trans ext_del))
        refine ⟨_, rfl, f1, a1, ys, rfl, hyG, ?_⟩
        refine turns_it (walk_seqF (xs := ys)) (fun j G => G D = some (.lst ((((dItems d).take i).flatMap f ++ (f d1).take j).map V.bl)) ∧ Ext H2 (L2.del G D)) ⟨by rw [List.take_zero, List.append_nil]; exact hG, e⟩ (fun j G2 _ ⟨_, e5⟩ => hy.ext (e2.trans (e5.trans ext_del))) ?_ ?_
        · rintro j x G2 G3 hj ⟨hG2, e5⟩ ⟨rfl, hx1'⟩
          obtain ⟨d3, hd3, hp3⟩ := DpAll.getV hyA hx1'
          have eG := e5.trans (ext_del (H := G3) (D := D))
          dsimp only [tRet, tRetN, tSeq, tAsg, tOp, tVar, tC, tCB, tCons, tNil, tAndV, tOrV, tNotV, tAnd, tOr, tNot, tTest, tIf, tIfS, tB, tChain, tSl, tPart, tNoPart, tLst, tTup, tFld, tCl, tMt, tMk, gName, tNext, tBM, tBM0, tUn, tSub, tPar, tPar3, gTup, gCons, gNil, tDrop, tMkS, tM1, sFld, StX.tStar, tYes, gSub, cxOf, Cx.wish, Cx.nox, Cx.blk, tTupB, tTIx, tDGetX, tLc2, tLc]
          refine ⟨rfl, ?_⟩
          rw [if_pos (rfl : true = true)]
          refine ⟨_, rfl, _, rfl, x, d3, u, hd, rfl, Vd.of (Dp.ext (e2.trans eG) hp3), hu.ext (e1.trans (e2.trans eG)), hus, huh, fun G4 e4 => ⟨_, e4 _ _ hG2, ?_, ?_, ?_⟩⟩
          · rw [List.length_map, List.length_append, List.length_take]
            exact small_of (m := 60) (by omega)
          · have z : (f d1)[j]? = some (isDeal (kItems hd) d3) := by
              show ((dItems d1).map _)[j]? = _
              rw [List.getElem?_map, hd3]
              rfl
            rw [upd_same, List.take_succ, z, ← List.append_assoc]
            simp only [List.map_append, Option.toList, List.map_cons, List.map_nil]
          · rw [del_upd]
            exact e5.trans (ext_dels e4)
        · rintro G2 ⟨hG2, e5⟩
          rw [DpAll.length hyA, ← hfl, List.take_length, ← flat_next hd1] at hG2
          exact ⟨hG2, e5⟩
      · rintro G ⟨hG, e⟩
        rw [hlen, List.take_length, ff] at hG
        refine all_rd hG ?_
        rw [List.all_map]
        exact q G (e1.trans (e2.trans (e.trans ext_del)))
end
end K81

end
section
/-! Ow25: enumerate(tuple). -/
namespace Ow
open PySem L2
open PySem.Spec PyProof.Rows
open AutoSeq1 (wpAny_loadPart')
set_option maxHeartbeats 1000000 in
theorem meets_enumT {v : Value} {o : Obj} {H : Heap → Prop} (B : Begins v o H) :
    Meets (Builtin.«enumerate.__new__» ⟨[.type "enumerate", v], []⟩) (fun _ R s => H s.heap ∧
      R (.ok (.ret (.ref (s.heap.push o).objs.size))) { s with heap := (s.heap.push o).push { cls := .type "enumerate", data := .fields #[.none, .bool false, .ref s.heap.objs.size, rawInt 0, .none, .none] } }) :=
  .of_wp fun prog w A R s h => by
    obtain ⟨hp, g, d, tk, os⟩ := s; obtain ⟨h1, h⟩ := h
    have hsub := sub_enumerate
    have q1 : ∀ {A' : Around} {E : Value → Shared → Prop} {Q : Value → Shared → Prop}, Q (.ref hp.objs.size) ⟨hp.push o, g, d, tk, os⟩ → wpAny (model prog w) A' (pyIter v) Q E ⟨hp, g, d, tk, os⟩ :=
      fun q => B.iter prog w _ _ ⟨hp, g, d, tk, os⟩ _ h1 q
    wp_walk using q1
    refine wpAny_stack_any fun st => wpAny_pure ?_
    split
    · rename_i c _ _ _ _ _
      cases (c == Value.type "enumerate")
      · wp_walk using q1
        exact ⟨_, rfl, h⟩
      · wp_walk using q1
        exact ⟨_, rfl, h⟩
    · wp_walk using q1
      exact ⟨_, rfl, h⟩
section
variable {prog : Program} {w : World} {A : Around} {E : Value → Shared → Prop} {s : Shared}
theorem call_enumerate_tup {l : Addr} {items : Array Value} {Q : Value → Shared → Prop} (hL : s.heap.IsTuple l items)
    (h : ∀ h', IsEnum h' (s.heap.objs.size + 1) s.heap.objs.size 0 .none → h'.IsTupleIter s.heap.objs.size l 0 →
      (∀ b o, s.heap.get? b = some o → h'.get? b = some o) → Q (.ref (s.heap.objs.size + 1)) { s with heap := h' }) :
    wpAny (model prog w) A (call (.type "enumerate") [.ref l]) Q E s := by
  refine callType_new F.called_enumerate (by decide) (F.typeCall_enumerate_1 _) (F.newCall_enumerate_1 _) (fun obj => F.args_object_init_2 obj _) F.entry_enumerate_new
    (meets_enumT (begins_tuple l items)) ⟨hL, ?_⟩
  have hz : (s.heap.push { cls := .type "tuple_iterator", data := .fields #[.ref l, .int 0 0] }).objs.size = s.heap.objs.size + 1 := Heap.size_push ..
  show _ ∧ _
  rw [hz]
  have he : IsEnum ((s.heap.push { cls := .type "tuple_iterator", data := .fields #[.ref l, .int 0 0] }).push
      { cls := .type "enumerate", data := .fields #[.none, .bool false, .ref s.heap.objs.size, rawInt 0, .none, .none] }) (s.heap.objs.size + 1) s.heap.objs.size 0 .none := by
    have := Heap.get?_push_size (s.heap.push { cls := .type "tuple_iterator", data := .fields #[.ref l, .int 0 0] })
      (o := { cls := .type "enumerate", data := .fields #[.none, .bool false, .ref s.heap.objs.size, rawInt 0, .none, .none] }) rfl
    rw [hz] at this; exact this
  refine ⟨⟨_, he, rfl⟩, h _ he ⟨_, Heap.get?_push_of_some _ (Heap.get?_push_size _ rfl), rfl, rfl⟩ fun b o x => Heap.get?_push_of_some _ (Heap.get?_push_of_some _ x)⟩
theorem pyNext_enumT_end {e it l : Addr} {i : Nat} {items : Array Value} {old : Value} {Q : Option Value → Shared → Prop} (hh : A.handled = none)
    (he : IsEnum s.heap e it i old) (hit : s.heap.IsTupleIter it l i) (hl : s.heap.IsTuple l items) (hx : items[i]? = none)
    (hQ : ∀ h', Heap.ExtBut it s.heap h' → Q none { s with heap := h' }) : wpAny (model prog w) A (pyNext (.ref e)) Q E s := by
  have hT : s.TypeIs (.ref e) "enumerate" := ⟨_, he, rfl⟩
  unfold pyNext
  refine wpAny_bind (wpAny_attempt (wpAny_callSpecial?_slot (name := Str.ofString "__next__") hT F.slot_enumerate_next
    (wpAny_call_entry F.slot_enumerate_next hT F.entry_enumerate_next ?_ (F.args_enumerate_next_1 _))))
  show wpAny _ _ (field (.ref e) 2 >>= _) _ _ _
  refine wpAny_bind (wpAny_field he rfl (x := .ref it) rfl ?_)
  refine wpAny_bind (wpAny_nextOf_tuple_end hh hit hl hx fun h' x he' hx' => ?_)
  obtain ⟨o, ho, hc⟩ := hx'
  refine wpAny_bind (wpAny_isInstance (T := "StopIteration") (b := true) ⟨o, ho, hc⟩ isSubtype_stop ?_)
  exact wpAny_pure (hQ _ he')
end
/-- the tuple at a, each item in a new pair -/
def Itet (K : PySem.W.Frag) (a : Addr) : It :=
  ⟨fun i H => ∃ (xs : List V) (x : V), SqT K H a xs ∧ xs[i]? = some x, fun i H v H' => ∃ T x, v = .ref T ∧ H T = none ∧ H' = upd H T (.tup [.int (i : Nat), x]) ∧ ∀ xs, SqT K H a xs → xs[i]? = some x, fun i H => ∃ xs : List V, SqT K H a xs ∧ xs.length ≤ i⟩
theorem turn_enumT {P : Program} {w : World} {K : PySem.W.Frag} {elts : List Expr} {kk : Nat} {tpos : Pos} (a e it : Addr) :
    Turn P w K (.Tuple elts kk tpos) (Itet K a) [e, it] e (fun i h => (∃ old, IsEnum h e it ((i : Nat) : Int) old) ∧ h.IsTupleIter it a i ∧ e ≠ it) where
  mem := by simp
  obj := fun i h st b hb => by
    obtain ⟨⟨old, he⟩, ⟨o, ho, hc, hd⟩, _⟩ := st
    have e' : b = e ∨ b = it := by simpa using hb
    rcases e' with z | z
    · rw [z]; exact ⟨_, he, fun v q => nomatch q⟩
    · rw [z]; exact ⟨o, ho, fun v q => by rw [hd] at q; cases q⟩
  keep := fun i h h' st k => let ⟨⟨old, he⟩, hi, hne⟩ := st; ⟨⟨old, k e (by simp) _ he⟩, hi.at fun o q => k it (by simp) o q, hne⟩
  item := by
    intro X hP hw hK hc i pins s σ H E I hf st hg
    subst hP hw hK
    obtain ⟨⟨old, he⟩, hit, hne⟩ := st
    obtain ⟨xs, x, hq, hx⟩ := hg
    obtain ⟨its, rv, p, hz⟩ := I.tuple hq
    obtain ⟨u, hu, ru⟩ := rv.get hx
    have hel : e < s.heap.objs.size := Heap.lt_size he
    have hil : it < s.heap.objs.size := by obtain ⟨_, q, _⟩ := hit; exact Heap.lt_size q
    have nia : a ≠ it := fun z => by
      obtain ⟨o1, q1, c1, _⟩ := hit
      obtain ⟨o2, q2, c2, _⟩ := p
      rw [z, q1] at q2
      cases q2
      rw [c1] at c2
      exact absurd c2 (by decide)
    have nea : e ≠ a := fun z => by
      obtain ⟨o2, q2, c2, _⟩ := p
      rw [← z, he] at q2
      cases q2
      have c2 : Value.type "enumerate" = Value.type "tuple" := c2
      exact absurd c2 (by decide)
    refine wpAny_pyNext_enum_itemD (n := its.toArray.size) (Draws.tuple (A := X.A.in1) (I.ok.hd hc) it a nia its.toArray) he ⟨hit, p⟩ (by
      have := (List.getElem?_eq_some_iff.mp hu).1
      simpa using this) hne (by simp [hne, nea]) fun x' h' tk hP ho hit' hT hsz hk => ?_
    have ex : x' = u := by
      have z : its.toArray[i]? = some x' := hP
      rw [List.getElem?_toArray, hu] at z
      exact (Option.some.inj z).symm
    subst ex
    refine ⟨_, rfl, wpAny_letOwnedTupleGo_enum (s := { s with heap := h', toks := tk + 1 }) ho fun h'' he' sb => ?_⟩
    have hT2 : h''.get? s.heap.objs.size = some { cls := .type "tuple", data := .seq #[.int i tk, x'] } := (sb.2 _ (Nat.ne_of_gt hel)).trans hT
    have new : ObjOk X.prog X.w (upd H s.heap.objs.size (.tup [.int (i : Nat), x])) h'' s.heap.objs.size (.tup [.int (i : Nat), x]) :=
      ⟨by show 2 ≤ sizeLine; decide, [.int i tk, x'], .cons ⟨_, rfl⟩ (.cons ru .nil), ⟨_, hT2, rfl, _, rfl⟩⟩
    have I1 : Inv X pins σ (upd H s.heap.objs.size (.tup [.int (i : Nat), x])) { s with heap := h'', toks := tk + 1 } :=
      I.turnedNew (ch := [e, it]) (fun b ob hb q => (sb.2 b (fun z => hb (by simp [z]))).trans (hk b ob (fun z => hb (by simp [z])) (fun z => hb (by simp [z])) q)) hf (Nat.le_refl _) new
    refine ⟨.ref s.heap.objs.size, _, I1, rfl, ⟨_, x, rfl, I.hok.fresh (Nat.le_refl _), rfl, fun ys hy => by rw [I.tuple_inj hy hq]; exact hx⟩, ⟨⟨x', ?_⟩, hit'.1.at fun o q => (sb.2 it (Ne.symm hne)).trans q, hne⟩, fun b hb => ?_⟩
    · have e1 : ((i + 1 : Nat) : Int) = (i : Int) + 1 := by omega
      rw [e1]; exact he'
    · have hb' : b < s.heap.objs.size := by
        have e' : b = e ∨ b = it := by simpa using hb
        rcases e' with z | z
        · rw [z]; exact hel
        · rw [z]; exact hil
      rw [upd_ne (Nat.ne_of_lt hb')]
      exact (hf b hb).1
  done := by
    intro X hP hw hK hc i pins s σ H E I hf st hg
    subst hP hw hK
    obtain ⟨⟨old, he⟩, hit, hne⟩ := st
    obtain ⟨xs, hq, hx⟩ := hg
    obtain ⟨its, rv, p, hz⟩ := I.tuple hq
    obtain ⟨f0, f1, f2, f3, f4, f5⟩ := hf it (by simp)
    have hl := rv.length
    exact pyNext_enumT_end (I.ok.hd hc) he hit p (by simp; omega) fun h' eb => ⟨rfl, I.turned (t' := s.toks) (fun b o hb q => eb b o hb q) f0 f1 f3 f4 f5⟩
  self := fun A i s Q E st h => let ⟨⟨_, he⟩, _⟩ := st; wpAny_pyIter_enum he h
def iEnumT (K : PySem.W.Frag) (ta : TA) : TI := fun σ H R => ta σ H fun vs H1 => ∃ a xs, vs = [.ref a] ∧ SqT K H1 a xs ∧ R (Itet K a) H1
theorem pi_enumT {X : Cx} {e : Expr} {ta : TA} {p pos tpos : Pos} {elts : List Expr} {kk : Nat} (hg : Gl X "enumerate") (hm : X.mg "enumerate" = none) (ha : PA X [e] ta) (hs : starEach [e] X.env = [(false, eval e X.env)] := by rfl) :
    PI X (.Tuple elts kk tpos) (.Call (.Name "enumerate" p) [e] [] pos) (iEnumT X.K ta) := by
  refine ⟨fun pins s σ H R I h => ?_⟩
  refine Call_ (ld_blt I hg hm boot_enumerate (PyProof.Rows.callWith_type1 (thn (ha.run pos pins s σ H _ I h) fun us s1 ⟨vs, H1, I1, r1, q1⟩ => ?_) hs rfl))
  obtain ⟨a, xs, ex, hq, q⟩ := q1
  subst ex
  cases r1 with
  | cons r rr =>
    cases rr
    cases r
    obtain ⟨its, rv, p', hz⟩ := I1.tuple hq
    refine call_enumerate_tup p' fun h' he hit hk => wpAny_pyIter_enum he ?_
    have I2 : Inv X pins σ H1 { s1 with heap := h' } := I1.kept (t' := s1.toks) hk
    refine ⟨s1.heap.objs.size + 1, [s1.heap.objs.size + 1, s1.heap.objs.size], _, _, H1, rfl, I2, turn_enumT a (s1.heap.objs.size + 1) s1.heap.objs.size, ⟨⟨.none, he⟩, hit, Nat.succ_ne_self _⟩, fun b hb => ?_, q⟩
    have e' : b = s1.heap.objs.size + 1 ∨ b = s1.heap.objs.size := by simpa using hb
    have hle : s1.heap.objs.size ≤ b := by
      rcases e' with z | z
      · rw [z]; exact Nat.le_add_right _ _
      · rw [z]; exact Nat.le_refl _
    exact I1.fpOk hle (I1.hok.fresh hle)
theorem walk_enumT {K : PySem.W.Frag} {a : Addr} {xs : List V} : Walk (Itet K a) xs.length (fun H => SqT K H a xs) (YPair (fun i => some (.int (i : Nat))) (fun i => xs[i]?)) := by
  refine ⟨fun i _ hi q => ⟨xs, xs[i], q, by simp [hi]⟩, fun _ q => ⟨xs, q, Nat.le_refl _⟩, fun i H v H' _ q y => ?_⟩
  obtain ⟨T, x, h1, h2, h3, h4⟩ := y
  exact ⟨T, .int (i : Nat), x, h1, h2, h3, rfl, h4 xs q⟩
end Ow

end
section
/-! Ow26: tuples of what a comprehension makes of data. -/
namespace Ow
open PySem L2
open PySem.Spec PyProof.Rows
def rTupK (K : W.Frag) : List V → Hp → VK → Prop := fun xs H Q => ∃ p ys, xs = [.ref p] ∧ ((SqL K H p ys ∧ ∀ l, H l = none → Q (.ref l) (upd H l (.tup ys))) ∨ (SqT K H p ys ∧ Q (.ref p) H))
theorem call_tupK {X : Cx} {K : W.Frag} (hK : X.K = K) : CallR X (.type "tuple") (rTupK K) := call_tuple_ofK hK
section
variable {K : W.Frag} {fl : Bool} {a : Addr} {xs : List V} {ds : List PyData} {H0 H : Hp} {D : Addr} {Q : VK}
/-- tuple(s) -/
theorem tup_rd (e0 : Ext H0 H) (hx : SqF K fl H0 a xs) (hA : DpAll K H0 xs ds) (q : ∀ u H', Ext H H' → Dp K (over H0 H H') u (.tuple ds) → Q u H') : rTupK K [.ref a] H Q := by
  refine ⟨a, xs, rfl, ?_⟩
  cases fl with
  | true =>
    refine .inl ⟨SqF.ext (fl := true) hx e0, fun t ht => q _ _ (Ext.upd ht) (.tup (SqT.of (by rw [over_new ht, upd_same])) (DpAll.ext (over_from e0) hA))⟩
  | false =>
    refine .inr ⟨SqF.ext (fl := false) hx e0, q _ _ Ext.rfl' (.tup (SqF.ext (fl := false) hx (over_from e0)) (DpAll.ext (over_from e0) hA))⟩
/-- tuple([e(d) for d in ds]) -/
theorem tup_comp (F : PyData → PyData) {g : TG} {te : TE} {vs : List Nat} {σ : L2.St} (e0 : Ext H0 H) (hx : SqF K fl H0 a xs) (hA : DpAll K H0 xs ds) (hl : ds.length ≤ 600) (hD : H D = none)
    (hs : ∀ (i : Nat) (d : PyData) (x : V) (G G0 : Hp), Ext G0 G → Ext H0 G0 → Ext H G → xs[i]? = some x → ds[i]? = some d → Dp K G0 x d → ∀ Q2 : VK, (∀ u G2, Ext G G2 → Dp K (over G0 G G2) u (F d) → Q2 u G2) → g x (wipe σ vs) G fun σ2 H2 => wipe σ2 vs = wipe σ vs ∧ te σ2 H2 Q2)
    (q : ∀ u H', Ext H H' → Dp K (over H0 H H') u (.tuple (ds.map F)) → Q u H') :
    ∃ W : Nat → Nat → Hp → Prop, (∃ m, W 0 m (upd H D (.lst []))) ∧ ∀ i m H, W i m H →
      ((ItF K fl a).stop i H ∧ rTupK K [.ref D] H Q) ∨ ((ItF K fl a).go i H ∧ ∃ Nx : Hp → Prop, (∀ H', Nx H' → ∃ m', m' < m ∧ W (i + 1) m' H') ∧ ∀ x H', (ItF K fl a).yld i H x H' → g x (wipe σ vs) H' fun σ2 H2 => wipe σ2 vs = wipe σ vs ∧ tYes σ2 H2 fun b H3 =>
        if b = true then te σ2 H3 fun y H4 => ∃ acc, H4 D = some (.lst acc) ∧ acc.length < sizeLine ∧ Nx (upd H4 D (.lst (acc ++ [y]))) else Nx H3) := by
  have hlen : xs.length = ds.length := DpAll.length hA
  refine lc_mapH (fun d y G => Dp K (over H0 H G) y (F d)) (fun d y G G' e h => Dp.ext (over_mono e) h) (hx.ext e0) hlen (Nat.lt_of_le_of_lt hl (by rw [sizeLine_eq]; decide)) hD ?_ fun ys G hy1 hy2 e hG => ?_
  · intro i d1 x G e nz hx1 hd1 Q2 k2
    obtain ⟨d2, hd2, hp2⟩ := DpAll.getV hA hx1
    rw [hd1] at hd2
    cases hd2
    exact hs i d1 x G (over H0 H (del G D)) ((over_to e0 e).trans ext_del) (over_from e0) (e.trans ext_del) hx1 hd1 (Dp.ext (over_from e0) hp2) Q2 fun u G2 e2 hp => k2 u G2 e2 (Dp.ext (over_step e nz e2) hp)
  · refine ⟨D, ys, rfl, .inl ⟨SqL.of hG, fun t ht => q _ _ (e.trans (Ext.upd ht)) ?_⟩⟩
    have tn : H t = none := none_of e ht
    refine .tup (SqT.of (by rw [over_new tn, upd_same])) (dps_of (by rw [hy1, List.length_map]) fun i y hy => ?_)
    obtain ⟨d1, h1, h2⟩ := hy2 i y hy
    exact ⟨_, by rw [List.getElem?_map, h1]; rfl, Dp.ext (over_mono (ext_del.trans (Ext.upd ht))) h2⟩
end
end Ow

end
section
/-! K81o: programs made. -/
namespace K81
open PySem L2 Ow
open PySem.Spec PyProof.Rows
theorem over_over {H0 H H1 H2 : Hp} (e : Ext H H1) (e2 : Ext H1 H2) : Ext (over (over H0 H H1) H1 H2) (over H0 H H2) := fun b o h => by
  cases c : H1 b with
  | none =>
    rw [over_new c] at h
    rw [over_new (none_of e c)]
    exact h
  | some q =>
    rw [over_old c] at h
    cases cH : H b with
    | none =>
      rw [over_new cH] at h ⊢
      exact e2 b o h
    | some r =>
      rw [over_old cH] at h ⊢
      exact h
theorem lk_mem {α β : Type} [BEq α] [LawfulBEq α] {a : α} {b : β} : ∀ {l : List (α × β)}, l.lookup a = some b → (a, b) ∈ l
  | [], h => by cases h
  | (x, y) :: r, h => by
    rw [List.lookup_cons] at h
    split at h
    · rename_i q
      cases h
      rw [eq_of_beq q]
      exact List.mem_cons_self
    · exact List.mem_cons_of_mem _ (lk_mem h)
theorem only_free {names : List (Str × NameKind)} {c : Str} (h : names.all (fun y => (!(decide (y.2 = .cell) || decide (y.2 = .free))) || decide (y.1 = c)) = true) : ∀ x : Str, names.lookup x = some .cell ∨ names.lookup x = some .free → x = c := fun x hx => by
  have key : ∀ k, names.lookup x = some k → (k = .cell ∨ k = .free) → x = c := fun k e hk => by
    have z := List.all_eq_true.mp h _ (lk_mem e)
    simp only [Bool.or_eq_true, Bool.not_eq_true', Bool.or_eq_false_iff, decide_eq_true_eq, decide_eq_false_iff_not] at z
    rcases z with z | z
    · rcases hk with hk | hk
      · exact absurd hk z.1
      · exact absurd hk z.2
    · exact z
  rcases hx with e | e
  · exact key _ e (.inl rfl)
  · exact key _ e (.inr rfl)
/-- raised: an error of this class, its field -/
def EBad (K : W.Frag) (H : Hp) (E : XK) (C f : Str) (v : V) : Prop := ∀ d H', Ext H H' → H' d = some (.xd [(f, v)]) → E (.ref (He.ga K C)) (some d) H'
theorem over_del {G G2 : Hp} {D : Addr} (nz : G D ≠ none) (e2 : Ext G G2) : Ext (over (L2.del G D) G G2) (L2.del G2 D) := fun b o h => by
  cases c : G b with
  | none =>
    rw [over_new c] at h
    rw [del_ne (fun z => nz (by rw [← z]; exact c))]
    exact h
  | some q =>
    rw [over_old c] at h
    exact ext_dels e2 b o h
theorem over_delp {G0 G G2 : Hp} {p : Addr} (g0 : G0 p = none) (nz : G p ≠ none) (e0 : Ext G0 G) (e2 : Ext G G2) : Ext (over G0 G G2) (L2.del G2 p) := fun b o h => by
  have c : b ≠ p := fun z => by
    subst z
    cases c : G b with
    | none => exact nz c
    | some q => rw [over_old c, g0] at h; cases h
  rw [del_ne c]
  exact over_to e0 e2 b o h
theorem over_delp2 {G0 G G2 : Hp} {p D : Addr} (g0 : G0 p = none) (gD : G0 D = none) (nz : G p ≠ none) (nD : G D ≠ none) (e0 : Ext G0 G) (e2 : Ext G G2) : Ext (over G0 G G2) (L2.del (L2.del G2 D) p) := fun b o h => by
  have c1 : b ≠ p := fun z => by
    subst z
    cases c : G b with
    | none => exact nz c
    | some q => rw [over_old c, g0] at h; cases h
  have c2 : b ≠ D := fun z => by
    subst z
    cases c : G b with
    | none => exact nD c
    | some q => rw [over_old c, gD] at h; cases h
  rw [del_ne c1, del_ne c2]
  exact over_to e0 e2 b o h
section
variable {w : World} {K : W.Frag} {mg : Str → Option Value} {base : Heap}
theorem e_BadProgram (T : Txt K mg) : Err prg w K mg base "BadProgram" "part" := by
  refine T.x_BadProgram.err (par := "part") (fun fd cc cda Si => ok_sup (a2 := ⟨"x", none, ⟨0, 0, 0, 0⟩⟩) (k := 0) Si T.x_BadProgram.ox T.x_BadProgram.no rfl rfl rfl rfl rfl rfl rfl ?_ (by decide +kernel) (by decide) rfl rfl (by rfl) rfl rfl _ fun env => by rfl) fun _ _ _ _ _ _ _ us hl => match us, hl with | [_, _], _ => rfl
  exact only_free (by decide +kernel)
def sp_fixed_pair (K : W.Frag) : Sp := fun vs H Q _ => ∃ v d H0, ∃ k : KN, vs = [v] ∧ Ext H0 H ∧ Dp K H0 v d ∧ isCouple k d = true ∧ ∀ u H', Ext H H' → Dp K (over H0 H H') u (coupleP d).dat → Q u H'
theorem c_fixed_pair (T : Txt K mg) : Cal prg w K mg base CX0 1 "fixed_pair" ["pair"] (sp_fixed_pair K) := by
  refine T.d_fixed_pair.cal sc_fixed_pair (fun vs H Q E ⟨v, d, H0, k, e, _⟩ => by rw [e]; rfl) fun f cdv A outer s H vs Q E hr h => ?_
  have nd := sc_fixed_pair.nd
  obtain ⟨v, d, H0, k, rfl, e0, hv, hc, q⟩ := h
  refine ⟨_, PSs.nox (pss_one (ps_ret (pe_tup (pa_cons (pe_callTy (call_tupK (K := K) rfl) (by rfl) T.f_tuple (by decide +kernel) (pa_cons (pe_ix ix_seq (pv 0) pe_int (fun _ _ => rfl)) pa_nil)) (pa_cons (pe_callTy (call_tupK (K := K) rfl) (by rfl) T.f_tuple (by decide +kernel) (pa_cons (pe_ix ix_seq (pv 0) pe_int (fun _ _ => rfl)) pa_nil)) pa_nil))))), ?_⟩
  obtain ⟨hs, x, y, ed, bx, by'⟩ := couple_two hc
  obtain ⟨sx, a, b, ex, _⟩ := below_two bx
  obtain ⟨sy, c, f', ey, _⟩ := below_two by'
  obtain ⟨fl, p, xs, rfl, hx, hA⟩ := seq_of (Vd.of hv) hs
  rw [ed] at hA
  have hP : (coupleP d).dat = .tuple [.tuple (dItems x), .tuple (dItems y)] := by
    simp [coupleP, ed, int2, ex, ey, P4.dat]
  rw [hP] at q
  cases hA with
  | cons p1 r =>
    cases r with
    | cons p2 r =>
      cases r
      rename_i vx vy
      obtain ⟨f1, a1, xs1, rfl, h1, hA1⟩ := seq_of (Vd.of p1) sx
      obtain ⟨f2, a2, xs2, rfl, h2, hA2⟩ := seq_of (Vd.of p2) sy
      dsimp only [tRet, tRetN, tSeq, tAsg, tOp, tVar, tC, tCB, tCons, tNil, tAndV, tOrV, tNotV, tAnd, tOr, tNot, tTest, tIf, tIfS, tB, tChain, tSl, tPart, tNoPart, tLst, tTup, tFld, tCl, tMt, tMk, gName, tNext, tBM, tBM0, tUn, tSub, tPar, tPar3, gTup, gCons, gNil, tDrop, tMkS, tM1, sFld, StX.tStar, tYes, gSub, cxOf, Cx.wish, Cx.nox, Cx.blk]
      refine ⟨_, rfl, ixF (hx.ext e0) at0 (tup_rd e0 h1 hA1 fun u1 H1 e1 hp1 => ?_)⟩
      refine ⟨_, rfl, ixF (hx.ext (e0.trans e1)) (v := .ref a2) (atI_nat (j := 1) rfl) (tup_rd (over_to e0 e1) (h2.ext (over_from e0)) (DpAll.ext (over_from e0) hA2) fun u2 H2 e2 hp2 => ?_)⟩
      refine ⟨by show 2 ≤ sizeLine; decide, fun t ht => q _ _ (e1.trans (e2.trans (Ext.upd ht))) ?_⟩
      have tn : H t = none := none_of (e1.trans e2) ht
      refine .tup (SqT.of (by rw [over_new tn, upd_same])) (.cons (Dp.ext (over_mono (e2.trans (Ext.upd ht))) hp1) (.cons (Dp.ext ((over_over e1 e2).trans (over_mono (Ext.upd ht))) hp2) .nil))
/-! ### programs -/
/-- a house as it is kept: its kind's own object, its way, its couples -/
abbrev HouseV := Addr × Str × List P4
def tableD (ps : List P4) : PyData := .tuple (ps.map P4.dat)
/-- given: what stands at x is this house -/
def GivenH (K : W.Frag) (H : Hp) (x : V) (h : HouseV) : Prop := ∃ fl b t, ∃ k : KN, ∃ td, x = .ref b ∧ SqF K fl H b [.ref h.1, .str h.2.1, t] ∧ KindAt K H h.1 k ∧ Dp K H t td ∧ isTable k td = true ∧ (dItems td).length ≤ 600 ∧ (dItems td).map coupleP = h.2.2
/-- kept: what stands at x is this house, as tuples -/
def KeptH (K : W.Frag) (H : Hp) (x : V) (h : HouseV) : Prop := ∃ b t, x = .ref b ∧ SqT K H b [.ref h.1, .str h.2.1, t] ∧ Dp K H t (tableD h.2.2)
theorem GivenH.ext {K : W.Frag} {H H' : Hp} {x : V} {h : HouseV} (g : GivenH K H x h) (e : Ext H H') : GivenH K H' x h := by
  obtain ⟨fl, b, t, k, td, h1, h2, h3, h4, h5, h6⟩ := g
  exact ⟨fl, b, t, k, td, h1, h2.ext e, h3.ext e, Dp.ext e h4, h5, h6⟩
theorem KeptH.ext {K : W.Frag} {H H' : Hp} {x : V} {h : HouseV} (g : KeptH K H x h) (e : Ext H H') : KeptH K H' x h := by
  obtain ⟨b, t, h1, h2, h3⟩ := g
  exact ⟨b, t, h1, h2.ext e, Dp.ext e h3⟩
/-- one by one -/
def Each {α : Type} (R : V → α → Prop) (xs : List V) (hs : List α) : Prop := xs.length = hs.length ∧ ∀ (i : Nat) x, xs[i]? = some x → ∃ h, hs[i]? = some h ∧ R x h
theorem Each.imp {α : Type} {R R' : V → α → Prop} {xs : List V} {hs : List α} (h : Each R xs hs) (f : ∀ x a, R x a → R' x a) : Each R' xs hs := ⟨h.1, fun i x e => by
  obtain ⟨a, h1, h2⟩ := h.2 i x e
  exact ⟨a, h1, f x a h2⟩⟩
theorem houses_given {K : W.Frag} {H : Hp} : ∀ {xs : List V} {ds : List KD}, KpAll K H xs ds → (∀ d ∈ ds, okH d) → ds.all isHouse = true → ∃ hs, Each (GivenH K H) xs hs
  | [], [], _, _, _ => ⟨[], rfl, fun i x e => by simp at e⟩
  | x :: xs, d :: ds, h, hk, ho => by
    cases h with
    | cons p r =>
      rw [List.all_cons, Bool.and_eq_true] at ho
      obtain ⟨hs, h1, h2⟩ := houses_given r (fun d hd => hk d (List.mem_cons_of_mem _ hd)) ho.2
      obtain ⟨o1, o2⟩ := ho
      have ok := hk d List.mem_cons_self
      simp only [isHouse, Bool.and_eq_true] at o1
      obtain ⟨hsq, hi⟩ := o1
      obtain ⟨fl, b, ys, rfl, hy, hA⟩ := kseq_of p hsq
      split at hi
      · rename_i k c t ek
        obtain ⟨e3, ec, hl⟩ := ok _ _ _ ek
        cases ec
        rw [ek] at hA
        cases hA with
        | cons p1 r1 =>
          cases r1 with
          | cons p2 r2 =>
            cases r2 with
            | cons p3 r3 =>
              cases r3
              cases p1 with
              | kind hka =>
                rename_i v2 v3 ka
                unfold hTail at hi
                split at hi
                · rename_i y ey
                  have ec : c = .dat (.str y) := by
                    cases c with
                    | dat b =>
                      cases b <;> cases ey
                      rfl
                    | _ => cases ey
                  subst ec
                  cases p2 with
                  | dat p2 =>
                    obtain rfl := p2.str
                    cases p3 with
                    | dat p3 =>
                      simp only [Bool.and_eq_true] at hi
                      obtain ⟨_, ht, _⟩ := hi
                      have hts : dSeq t = true := by
                        simp only [isTable, Bool.and_eq_true] at ht
                        exact ht.1
                      have hdp : Dp K H v3 t := by
                        rcases p3 with p3 | ⟨_, _, _, e⟩
                        · exact p3
                        · subst e
                          cases hts
                      refine ⟨(ka, y, (dItems t).map coupleP) :: hs, by simp [h1], fun i x e => ?_⟩
                      cases i with
                      | zero =>
                        cases e
                        exact ⟨_, rfl, fl, b, v3, k, t, rfl, hy, hka, hdp, ht, hl, rfl⟩
                      | succ i => exact h2 i x (by simpa using e)
                · cases hi
      · cases hi
def stepD (d : PyData) : PyData := .tuple (dItems d)
def dealD (d : PyData) : PyData := .tuple ((dItems d).map stepD)
def handD (d : PyData) : PyData := .tuple ((dItems d).map dealD)
def handsD (d : PyData) : PyData := .tuple ((dItems d).map handD)
def dealsD (d : PyData) : PyData := .tuple ((dealsOf d).map dealD)
def ownersF (ds : List PyData) (j : Nat) : List Int := List.replicate (dItems (ds.getD j .none)).length (j : Int)
def ownersL (d : PyData) : List Int := (List.range (dItems d).length).flatMap (ownersF (dItems d))
/-- the hands' own deals -/
theorem hands_flat {K : W.Frag} {H : Hp} : ∀ {xs : List V} {ds : List PyData}, DpAll K H xs (ds.map handD) → ∃ vss : List (List V), Each (fun x vs => ∃ a, x = .ref a ∧ SqT K H a vs) xs vss ∧ DpAll K H (vss.flatMap id) ((ds.flatMap dItems).map dealD) ∧ vss.map List.length = ds.map fun h => (dItems h).length
  | [], [], h => ⟨[], ⟨rfl, fun i x e => by simp at e⟩, .nil, rfl⟩
  | x :: xs, d :: ds, h => by
    cases h with
    | cons p r =>
      obtain ⟨vss, ⟨h1, h2⟩, h3, h4⟩ := hands_flat r
      obtain ⟨a, vs, rfl, hv, hA⟩ := Dp.tupV p
      refine ⟨vs :: vss, ⟨by simp [h1], fun i x e => ?_⟩, ?_, ?_⟩
      · cases i with
        | zero =>
          cases e
          exact ⟨vs, rfl, a, rfl, hv⟩
        | succ i => exact h2 i x (by simpa using e)
      · rw [List.flatMap_cons, List.flatMap_cons, List.map_append]
        exact DpAll.app hA h3
      · have l := DpAll.length hA
        rw [List.length_map] at l
        rw [List.map_cons, List.map_cons, h4, l]
/-- the program of these houses and hands stands at p -/
def ProgAt (K : W.Frag) (H : Hp) (p : Addr) (hs : List HouseV) (d : PyData) : Prop := ∃ dx p1 p2 p3 p4 hv, H p = some (.ins (CP K) dx [("houses", .ref p1), ("hands", .ref p2), ("deals", .ref p3), ("owners", .ref p4)]) ∧
  SqT K H p1 hv ∧ Each (KeptH K H) hv hs ∧ Dp K H (.ref p2) (handsD d) ∧ Dp K H (.ref p3) (dealsD d) ∧ SqT K H p4 ((ownersL d).map V.int)
def dueK (hd : KD) (d : PyData) : Option Str := if listedK hd 1 4 && (kItems hd).all isHouse then (if isHands (kItems hd) d then none else some "hands") else some "houses"
def sp_Program_init (K : W.Frag) : Sp := fun vs H Q E => ∃ p dx u hd v d, vs = [.ref p, u, v] ∧ H p = some (.ins (CP K) dx []) ∧ Kp K (L2.del H p) u hd ∧ (∀ x ∈ kItems hd, okH x) ∧ Vd K (L2.del H p) v d ∧
  (∀ x, dueK hd d = some x → EBad K H E "BadProgram" "part" (.str x)) ∧
  (dueK hd d = none → ∃ fl a xs hs, u = .ref a ∧ SqF K fl (L2.del H p) a xs ∧ Each (GivenH K (L2.del H p)) xs hs ∧ hs.length ≤ 4 ∧ ∀ H', ExtP p H H' → ProgAt K H' p hs d → Q .non H')
theorem b_Program_init (T : Txt K mg) : Body prg w K mg base (L2.CX prg w) 8 "Program.__init__" s_Program_init ["self", "houses", "hands", "house", "kind", "way", "table", "pair", "hand", "deal", "step", "at"] (sp_Program_init K) := fun f cdv A outer s H vs Q E hr h => by
  have nd := sc_Program_init.nd
  obtain ⟨p, dx, u, hd, v, d, rfl, hp, hu, hok, hv, q1, q2⟩ := h
  refine ⟨_, (pss_cons (ps_if (PW.pt (pw_or (pt_not (pt_val (pe_cl (c_is_listed T) (hr.mono (by decide)) pass0 (pa_cons (pv 1) (pa_cons pe_int (pa_cons (pe_glob (v := .int 4) rfl T.g_MOST_HOUSES.choose_spec ⟨_, rfl⟩) pa_nil)))))) (pw_or1 (pt_not (pt_val (pe_callB (cr_all rfl) (by rfl) T.f_all (by decide +kernel) (pa_cons (pe_lc (own := [("house", 3)]) (tt := tYes) (g := gName 3) rfl nd (pi_seqF (pv 1)) (blkOk_by (own := [("house", 3)]) (N := ["self", "houses", "hands", "house", "kind", "way", "table", "pair", "hand", "deal", "step", "at"]) (sc := defScope s_Program_init) (by decide +kernel)) (fun _ _ _ _ _ => (pg_name (i := 3) nd rfl (Or.inl rfl))) (fun _ _ _ _ _ => pts_nil) (fun _ _ _ _ _ => (pe_cl (c_is_house T) (hr.mono (by decide)) pass0 (pa_cons (pv 3) pa_nil)))) pa_nil))))))) (pss_one (ps_raise rfl (takes_of rfl rfl rfl rfl) (pmk_err (e_BadProgram T) (hr.mono (by decide)) (pa_cons pe_str pa_nil)))) pss_nil)
      (pss_cons (ps_if (pt_not (pt_val (pe_cl (c_are_hands T) (hr.mono (by decide)) pass0 (pa_cons (pv 2) (pa_cons (pv 1) pa_nil))))) (pss_one (ps_raise rfl (takes_of rfl rfl rfl rfl) (pmk_err (e_BadProgram T) (hr.mono (by decide)) (pa_cons pe_str pa_nil)))) pss_nil)
      (pss_cons (ps_fld (pv 0) (pe_callTy (call_tupK (K := K) rfl) (by rfl) T.f_tuple (by decide +kernel) (pa_cons (pe_lc (own := [("kind", 4), ("way", 5), ("table", 6)]) (tt := tYes) (g := gUnF K 3 (gCons (gName 4) (gCons (gName 5) (gCons (gName 6) gNil)))) rfl nd (pi_seqF (pv 1)) (blkOk_by (own := [("kind", 4), ("way", 5), ("table", 6)]) (N := ["self", "houses", "hands", "house", "kind", "way", "table", "pair", "hand", "deal", "step", "at"]) (sc := defScope s_Program_init) (by decide +kernel)) (fun _ _ _ _ _ => (pg_unF rfl (pgs_cons (pg_name (i := 4) nd rfl (Or.inl rfl)) (pgs_cons (pg_name (i := 5) nd rfl (Or.inl rfl)) (pgs_cons (pg_name (i := 6) nd rfl (Or.inl rfl)) pgs_nil))))) (fun _ _ _ _ _ => pts_nil) (fun _ _ _ _ _ => (pe_tup (pa_cons (pv 4) (pa_cons (pv 5) (pa_cons (pe_callTy (call_tupK (K := K) rfl) (by rfl) T.f_tuple (by decide +kernel) (pa_cons (pe_lc (own := [("pair", 7)]) (tt := tYes) (g := gName 7) rfl nd (pi_seqFK (K := K) rfl (pv 6)) (blkOk_by (own := [("pair", 7)]) (N := ["self", "houses", "hands", "house", "kind", "way", "table", "pair", "hand", "deal", "step", "at"]) (by rfl)) (fun _ _ _ _ _ => (pg_name (i := 7) nd rfl (Or.inl rfl))) (fun _ _ _ _ _ => pts_nil) (fun _ _ _ _ _ => (pe_cl (c_fixed_pair T) (hr.mono (by decide)) pass0 (pa_cons (pv 7) pa_nil)))) pa_nil)) pa_nil)))))) pa_nil)) rfl)
      (pss_cons (ps_fld (pv 0) (pe_callTy (call_tupK (K := K) rfl) (by rfl) T.f_tuple (by decide +kernel) (pa_cons (pe_lc (own := [("hand", 8)]) (tt := tYes) (g := gName 8) rfl nd (pi_seqF (pv 2)) (blkOk_by (own := [("hand", 8)]) (N := ["self", "houses", "hands", "house", "kind", "way", "table", "pair", "hand", "deal", "step", "at"]) (sc := defScope s_Program_init) (by decide +kernel)) (fun _ _ _ _ _ => (pg_name (i := 8) nd rfl (Or.inl rfl))) (fun _ _ _ _ _ => pts_nil) (fun _ _ _ _ _ => (pe_callTy (call_tupK (K := K) rfl) (by rfl) T.f_tuple (by decide +kernel) (pa_cons (pe_lc (own := [("deal", 9)]) (tt := tYes) (g := gName 9) rfl nd (pi_seqFK (K := K) rfl (pv 8)) (blkOk_by (own := [("deal", 9)]) (N := ["self", "houses", "hands", "house", "kind", "way", "table", "pair", "hand", "deal", "step", "at"]) (by rfl)) (fun _ _ _ _ _ => (pg_name (i := 9) nd rfl (Or.inl rfl))) (fun _ _ _ _ _ => pts_nil) (fun _ _ _ _ _ => (pe_callTy (call_tupK (K := K) rfl) (by rfl) T.f_tuple (by decide +kernel) (pa_cons (pe_lc (own := [("step", 10)]) (tt := tYes) (g := gName 10) rfl nd (pi_seqFK (K := K) rfl (pv 9)) (blkOk_by (own := [("step", 10)]) (N := ["self", "houses", "hands", "house", "kind", "way", "table", "pair", "hand", "deal", "step", "at"]) (by rfl)) (fun _ _ _ _ _ => (pg_name (i := 10) nd rfl (Or.inl rfl))) (fun _ _ _ _ _ => pts_nil) (fun _ _ _ _ _ => (pe_callTy (call_tupK (K := K) rfl) (by rfl) T.f_tuple (by decide +kernel) (pa_cons (pv 10) pa_nil)))) pa_nil)))) pa_nil)))) pa_nil)) rfl)
      (pss_cons (ps_fld (pv 0) (pe_callTy (call_tupK (K := K) rfl) (by rfl) T.f_tuple (by decide +kernel) (pa_cons (pe_lc2 (own := [("hand", 8), ("deal", 9)]) (tt := tYes) (g := gName 8) (g1 := gName 9) (tt1 := tYes) (vs1 := [9]) rfl nd (pi_seqF (pe_fld (pv 0) rfl)) (blkOk_by (own := [("hand", 8), ("deal", 9)]) (N := ["self", "houses", "hands", "house", "kind", "way", "table", "pair", "hand", "deal", "step", "at"]) (sc := defScope s_Program_init) (by decide +kernel)) (by decide) (fun _ _ _ _ _ => (pg_name (i := 8) nd rfl (Or.inl rfl))) (fun _ _ _ _ _ => pts_nil) (fun _ _ _ _ _ => (pi_seqFK (K := K) rfl (pv 8))) (fun _ _ _ _ _ => (pg_name (i := 9) nd rfl (Or.inl rfl))) (fun _ _ _ _ _ => pts_nil) (fun _ _ _ _ _ => (pv 9))) pa_nil)) rfl)
      (pss_one (ps_fld (pv 0) (pe_callTy (call_tupK (K := K) rfl) (by rfl) T.f_tuple (by decide +kernel) (pa_cons (pe_lc2 (own := [("at", 11), ("hand", 8), ("deal", 9)]) (tt := tYes) (g := gTup K 2 (gCons (gName 11) (gCons (gName 8) gNil))) (g1 := gName 9) (tt1 := tYes) (vs1 := [9]) rfl nd (pi_enumT (by rfl) T.f_enumerate (pa_cons (pe_fld (pv 0) rfl) pa_nil)) (blkOk_by (own := [("at", 11), ("hand", 8), ("deal", 9)]) (N := ["self", "houses", "hands", "house", "kind", "way", "table", "pair", "hand", "deal", "step", "at"]) (sc := defScope s_Program_init) (by decide +kernel)) (by decide) (fun _ _ _ _ _ => (pg_tup (by rfl) (pgs_cons (pg_name (i := 11) nd rfl (Or.inl rfl)) (pgs_cons (pg_name (i := 8) nd rfl (Or.inl rfl)) pgs_nil)))) (fun _ _ _ _ _ => pts_nil) (fun _ _ _ _ _ => (pi_seqFK (K := K) rfl (pv 8))) (fun _ _ _ _ _ => (pg_name (i := 9) nd rfl (Or.inl rfl))) (fun _ _ _ _ _ => pts_nil) (fun _ _ _ _ _ => (pv 11))) pa_nil)) rfl))))))), ?_⟩
  have e0 : Ext (L2.del H p) H := ext_del
  generalize hG : L2.del H p = G0 at *
  have g0 : G0 p = none := by rw [← hG, del_same]
  refine cut_ifn (fun c H' => c = !(listedK hd 1 4 && (kItems hd).all isHouse) ∧ Ext H H') (fun Q1 k1 => ?_) fun c H1 ⟨ec, e1⟩ => ?_
  · dsimp only [tRet, tRetN, tSeq, tAsg, tOp, tVar, tC, tCB, tCons, tNil, tAndV, tOrV, tNotV, tAnd, tOr, tNot, tTest, tIf, tIfS, tB, tChain, tSl, tPart, tNoPart, tLst, tTup, tFld, tCl, tMt, tMk, gName, tNext, tBM, tBM0, tUn, tSub, tPar, tPar3, gTup, gCons, gNil, tDrop, tMkS, tM1, sFld, StX.tStar, tYes, gSub, cxOf, Cx.wish, Cx.nox, Cx.blk]
    refine ⟨_, rfl, u, hd, 1, 4, rfl, hu.ext e0, fun H1 e1 => ⟨_, rfl, ?_⟩⟩
    cases hg : listedK hd 1 4 with
    | false => exact if_t rfl (k1 _ _ ⟨by rw [hg]; rfl, e1⟩)
    | true =>
      refine if_f rfl ?_
      have hg2 := hg
      simp only [listedK, Bool.and_eq_true, decide_eq_true_eq] at hg2
      obtain ⟨hs, hl1, hl2⟩ := hg2
      obtain ⟨fl, a, xs, rfl, hx, hA⟩ := kseq_of (hu.ext (e0.trans e1)) hs
      have hlen : xs.length = (kItems hd).length := KpAll.length hA
      refine ⟨_, rfl, fl, a, xs, rfl, hx, fun D hD => ?_⟩
      refine lc_map (fun e => .bl (isHouse e)) hx hlen (small_of (m := 600) (by omega)) hD ?_ fun G e hG => ?_
      · intro i d1 x G e hx1 hd1 Q2 k2
        obtain ⟨d2, hd2, hp2⟩ := KpAll.getV hA hx1
        rw [hd1] at hd2
        cases hd2
        dsimp only [tRet, tRetN, tSeq, tAsg, tOp, tVar, tC, tCB, tCons, tNil, tAndV, tOrV, tNotV, tAnd, tOr, tNot, tTest, tIf, tIfS, tB, tChain, tSl, tPart, tNoPart, tLst, tTup, tFld, tCl, tMt, tMk, gName, tNext, tBM, tBM0, tUn, tSub, tPar, tPar3, gTup, gCons, gNil, tDrop, tMkS, tM1, sFld, StX.tStar, tYes, gSub, cxOf, Cx.wish, Cx.nox, Cx.blk]
        exact ⟨rfl, _, rfl, x, d1, rfl, hp2.ext e, hok d1 (List.mem_of_getElem? hd1), fun G2 e2 => k2 G2 e2⟩
      · refine all_rd (bs := (kItems hd).map isHouse) (by rw [hG, List.map_map]; rfl) ⟨_, rfl, k1 _ _ ⟨?_, e1.trans e⟩⟩
        rw [List.all_map, hg]
        rfl
  subst ec
  cases hg : listedK hd 1 4 && (kItems hd).all isHouse with
  | false =>
    refine if_t rfl ?_
    have z := q1 "houses" (by rw [dueK, if_neg (by rw [hg]; decide)])
    exact ⟨_, rfl, fun d hd => z d _ (e1.trans (Ext.upd hd)) upd_same⟩
  | true =>
    refine if_f rfl ?_
    obtain ⟨hg1, hall⟩ := Bool.and_eq_true_iff.mp hg
    have hg2 := hg1
    simp only [listedK, Bool.and_eq_true, decide_eq_true_eq] at hg2
    obtain ⟨hs, hl1, hl2⟩ := hg2
    refine cut_ifn (fun c H' => c = !isHands (kItems hd) d ∧ Ext H1 H') (fun Q1 k1 => ?_) fun c H2 ⟨ec, e2⟩ => ?_
    · dsimp only [tRet, tRetN, tSeq, tAsg, tOp, tVar, tC, tCB, tCons, tNil, tAndV, tOrV, tNotV, tAnd, tOr, tNot, tTest, tIf, tIfS, tB, tChain, tSl, tPart, tNoPart, tLst, tTup, tFld, tCl, tMt, tMk, gName, tNext, tBM, tBM0, tUn, tSub, tPar, tPar3, gTup, gCons, gNil, tDrop, tMkS, tM1, sFld, StX.tStar, tYes, gSub, cxOf, Cx.wish, Cx.nox, Cx.blk]
      exact ⟨_, rfl, _, rfl, v, d, u, hd, rfl, Vd.ext (e0.trans e1) hv, hu.ext (e0.trans e1), hs, hall, fun H2 e2 => ⟨_, rfl, k1 _ _ ⟨rfl, e2⟩⟩⟩
    subst ec
    cases hh : isHands (kItems hd) d with
    | false =>
      refine if_t rfl ?_
      have z := q1 "hands" (by rw [dueK, if_pos hg, if_neg (by rw [hh]; decide)])
      exact ⟨_, rfl, fun d hd => z d _ (e1.trans (e2.trans (Ext.upd hd))) upd_same⟩
    | true =>
      refine if_f rfl ?_
      obtain ⟨fl, a, xs, hvs, rfl, hx, hE, lhl, q⟩ := q2 (by rw [dueK, if_pos hg, if_pos hh])
      have q : ∀ H', Ext G0 H' → ProgAt K H' p hvs d → Q .non H' := fun H' e => q H' (.of_del (by rw [hG]; exact e))
      have eG2 : Ext G0 H2 := e0.trans (e1.trans e2)
      have hp2 : H2 p = some (.ins (CP K) dx []) := (e1.trans e2) _ _ hp
      have hh2 := hh
      rw [isHands] at hh2
      simp only [Bool.and_eq_true, decide_eq_true_eq] at hh2
      obtain ⟨hm1, hm2, hm3, hm4⟩ := hh2
      obtain ⟨hds, hdl1, hdl2⟩ := listed_dat hm1
      have hm2 := List.all_eq_true.mp hm2
      have hm4 := List.all_eq_true.mp hm4
      have tot : (dealsOf d).length ≤ 8 := by
        have z := len_sum (dItems d)
        rw [← z] at hm3
        show ((dItems d).flatMap dItems).length ≤ 8
        omega
      obtain ⟨lh, li⟩ := hE
      have hpn : ∀ {G : Hp}, Ext H2 G → G p ≠ none := fun e z => by rw [e _ _ hp2] at z; cases z
      -- houses
      refine cut_tseq (fun σ' H' => ∃ p1 vs, H' p = some (.ins (CP K) dx [("houses", .ref p1)]) ∧ Ext G0 H' ∧ SqT K (L2.del H' p) p1 vs ∧ Each (KeptH K (L2.del H' p)) vs hvs ∧ σ' = (L2.start ["self", "houses", "hands", "house", "kind", "way", "table", "pair", "hand", "deal", "step", "at"] [.ref p, .ref a, v])) (fun D1 k1 => ?_) fun σ' H3 ⟨p1, vs1, hp3, e3, t1, k1h, eσ⟩ => ?_
      · dsimp only [tRet, tRetN, tSeq, tAsg, tOp, tVar, tC, tCB, tCons, tNil, tAndV, tOrV, tNotV, tAnd, tOr, tNot, tTest, tIf, tIfS, tB, tChain, tSl, tPart, tNoPart, tLst, tTup, tFld, tCl, tMt, tMk, gName, tNext, tBM, tBM0, tUn, tSub, tPar, tPar3, gTup, gCons, gNil, tDrop, tMkS, tM1, sFld, StX.tStar, tYes, gSub, cxOf, Cx.wish, Cx.nox, Cx.blk]
        refine ⟨_, rfl, fl, a, xs, rfl, hx.ext eG2, fun D hD => ?_⟩
        refine lc_mapH (fun h y G => KeptH K (L2.del G p) y h) (fun h y G G' e z => z.ext (ext_dels e)) (hx.ext eG2) lh (small_of (m := 600) (by omega)) hD ?_ fun ys G hy1 hy2 e hGD => ?_
        · intro i h x G e nz hx1 hd1 Q2 k2
          obtain ⟨h', hh', fx, b, t, k, td, rfl, hsq, hka, hdp, hti, hlt, hcp⟩ := li i x hx1
          rw [hd1] at hh'
          cases hh'
          have eG0 : Ext G0 (L2.del G D) := eG2.trans e
          simp only [isTable, Bool.and_eq_true] at hti
          obtain ⟨hts, htc, _⟩ := hti
          obtain ⟨f1, a1, ws, rfl, hws, hwA⟩ := seq_of (Vd.of hdp) hts
          have pG : G p ≠ none := hpn (e.trans ext_del)
          dsimp only [tRet, tRetN, tSeq, tAsg, tOp, tVar, tC, tCB, tCons, tNil, tAndV, tOrV, tNotV, tAnd, tOr, tNot, tTest, tIf, tIfS, tB, tChain, tSl, tPart, tNoPart, tLst, tTup, tFld, tCl, tMt, tMk, gName, tNext, tBM, tBM0, tUn, tSub, tPar, tPar3, gTup, gCons, gNil, tDrop, tMkS, tM1, sFld, StX.tStar, tYes, gSub, cxOf, Cx.wish, Cx.nox, Cx.blk]
          refine ⟨fx, b, _, rfl, hsq.ext (eG0.trans ext_del), rfl, _, _, rfl, _, _, rfl, _, _, rfl, rfl, rfl, _, rfl, _, rfl, _, rfl, f1, a1, ws, rfl, hws.ext (eG0.trans ext_del), fun D2 hD2 => ?_⟩
          refine tup_comp (fun d => (coupleP d).dat) (eG0.trans ext_del) hws hwA hlt hD2 ?_ fun u2 G2 e2 hu2 => ?_
          · intro j d1 x1 G3 G03 f03 f0 f3 hx1' hd1' hp1 Q3 k3
            dsimp only [tRet, tRetN, tSeq, tAsg, tOp, tVar, tC, tCB, tCons, tNil, tAndV, tOrV, tNotV, tAnd, tOr, tNot, tTest, tIf, tIfS, tB, tChain, tSl, tPart, tNoPart, tLst, tTup, tFld, tCl, tMt, tMk, gName, tNext, tBM, tBM0, tUn, tSub, tPar, tPar3, gTup, gCons, gNil, tDrop, tMkS, tM1, sFld, StX.tStar, tYes, gSub, cxOf, Cx.wish, Cx.nox, Cx.blk]
            exact ⟨rfl, _, rfl, x1, d1, G03, k, rfl, f03, hp1, List.all_eq_true.mp htc d1 (List.mem_of_getElem? hd1'), fun u4 G4 e4 hp4 => k3 u4 G4 e4 hp4⟩
          · refine ⟨by show 3 ≤ sizeLine; decide, fun t4 ht4 => k2 _ _ (e2.trans (Ext.upd ht4)) ⟨t4, u2, rfl, SqT.of ?_, ?_⟩⟩
            · have c : t4 ≠ D := fun z => nz (by rw [← z]; exact none_of e2 ht4)
              have c2 : t4 ≠ p := fun z => pG (by rw [← z]; exact none_of e2 ht4)
              rw [del_ne c2, del_ne c, upd_same]
            · have z : tableD h.2.2 = .tuple ((dItems td).map fun d => (coupleP d).dat) := by rw [tableD, ← hcp, List.map_map]; rfl
              rw [z]
              exact Dp.ext ((over_delp2 g0 (none_of eG2 hD) pG nz (eG0.trans ext_del) e2).trans (ext_dels (ext_dels (Ext.upd ht4)))) hu2
        · have hpG : G p = some _ := e _ _ hp2
          refine ⟨D, ys, rfl, .inl ⟨SqL.of hGD, fun t ht => ⟨_, rfl, p, CP K, dx, _, rfl, (upd_ne (ne_of_none hpG ht)).trans hpG, T.cl_Program, T.na_Program_houses, by show 0 < 1000; decide, k1 _ _ ⟨t, ys, upd_same, ?_, SqT.of ?_, ⟨hy1, fun i x hx' => ?_⟩, rfl⟩⟩⟩⟩
          · intro b o hb
            rw [upd_ne (fun z => by rw [z, g0] at hb; cases hb)]
            exact Ext.upd ht _ _ (e _ _ (eG2 _ _ hb))
          · have c : t ≠ p := fun z => by rw [z, hpG] at ht; cases ht
            rw [del_ne c, upd_ne c, upd_same]
          · obtain ⟨h, h1, h2⟩ := hy2 i x hx'
            exact ⟨h, h1, h2.ext (ExtP.dels ((ExtP.of (ext_del.trans (Ext.upd ht))).trans (extP_upd _ _ _)))⟩
      subst eσ
      -- hands
      have e23 : Ext G0 H3 := e3
      obtain ⟨flv, av, yv, rfl, hyv, hvA⟩ := seq_of hv hds
      refine cut_tseq (fun σ' H' => ∃ p2, H' p = some (.ins (CP K) dx [("houses", .ref p1), ("hands", .ref p2)]) ∧ Ext G0 H' ∧ Ext (L2.del H3 p) (L2.del H' p) ∧ Dp K (L2.del H' p) (.ref p2) (handsD d) ∧ σ' = (L2.start ["self", "houses", "hands", "house", "kind", "way", "table", "pair", "hand", "deal", "step", "at"] [.ref p, .ref a, .ref av])) (fun D1 k1 => ?_) fun σ' H4 ⟨p2, hp4, e4, e34, t2, eσ⟩ => ?_
      · dsimp only [tRet, tRetN, tSeq, tAsg, tOp, tVar, tC, tCB, tCons, tNil, tAndV, tOrV, tNotV, tAnd, tOr, tNot, tTest, tIf, tIfS, tB, tChain, tSl, tPart, tNoPart, tLst, tTup, tFld, tCl, tMt, tMk, gName, tNext, tBM, tBM0, tUn, tSub, tPar, tPar3, gTup, gCons, gNil, tDrop, tMkS, tM1, sFld, StX.tStar, tYes, gSub, cxOf, Cx.wish, Cx.nox, Cx.blk]
        refine ⟨_, rfl, flv, av, yv, rfl, hyv.ext e3, fun D hD => ?_⟩
        refine tup_comp handD e3 hyv hvA (by omega) hD ?_ fun u H' e hu' => ?_
        · intro i d1 x G G1 f1 f2 f3 hx1 hd1 hp1 Q2 k2
          have hd1m := List.mem_of_getElem? hd1
          obtain ⟨fa, ba, ya, rfl, hya, hyA⟩ := seq_of (Vd.of hp1) (hm2 d1 hd1m)
          have l8 : (dItems d1).length ≤ 600 := by
            have z := flat_take (f := dItems) (l := dItems d) (j := i + 1)
            rw [flat_next hd1, List.length_append] at z
            have : ((dItems d).flatMap dItems).length ≤ 8 := tot
            omega
          dsimp only [tRet, tRetN, tSeq, tAsg, tOp, tVar, tC, tCB, tCons, tNil, tAndV, tOrV, tNotV, tAnd, tOr, tNot, tTest, tIf, tIfS, tB, tChain, tSl, tPart, tNoPart, tLst, tTup, tFld, tCl, tMt, tMk, gName, tNext, tBM, tBM0, tUn, tSub, tPar, tPar3, gTup, gCons, gNil, tDrop, tMkS, tM1, sFld, StX.tStar, tYes, gSub, cxOf, Cx.wish, Cx.nox, Cx.blk]
          refine ⟨rfl, _, rfl, fa, ba, ya, rfl, hya.ext f1, fun D2 hD2 => ?_⟩
          refine tup_comp dealD f1 hya hyA l8 hD2 ?_ fun u2 G2 e2 hu2 => k2 u2 G2 e2 hu2
          intro j d2 x2 G3 G4 f4 f5 f6 hx2 hd2 hp3 Q3 k3
          have hdl := hm4 d2 (List.mem_flatMap.mpr ⟨d1, hd1m, List.mem_of_getElem? hd2⟩)
          simp only [isDeal, Bool.and_eq_true] at hdl
          obtain ⟨dl1, dl2, _⟩ := hdl
          obtain ⟨dls, dll1, dll2⟩ := listed_dat dl1
          have dl2 := List.all_eq_true.mp dl2
          obtain ⟨fb, bb, yb, rfl, hyb, hyB⟩ := seq_of (Vd.of hp3) dls
          dsimp only [tRet, tRetN, tSeq, tAsg, tOp, tVar, tC, tCB, tCons, tNil, tAndV, tOrV, tNotV, tAnd, tOr, tNot, tTest, tIf, tIfS, tB, tChain, tSl, tPart, tNoPart, tLst, tTup, tFld, tCl, tMt, tMk, gName, tNext, tBM, tBM0, tUn, tSub, tPar, tPar3, gTup, gCons, gNil, tDrop, tMkS, tM1, sFld, StX.tStar, tYes, gSub, cxOf, Cx.wish, Cx.nox, Cx.blk]
          refine ⟨rfl, _, rfl, fb, bb, yb, rfl, hyb.ext f4, fun D3 hD3 => ?_⟩
          refine tup_comp stepD f4 hyb hyB (by omega) hD3 ?_ fun u3 G5 e5 hu3 => k3 u3 G5 e5 hu3
          intro k d3 x3 G6 G7 f7 f8 f9 hx3 hd3 hp5 Q4 k4
          have hst := (row_two (dl2 d3 (List.mem_of_getElem? hd3))).1
          obtain ⟨fc, bc, yc, rfl, hyc, hyC⟩ := seq_of (Vd.of hp5) hst
          dsimp only [tRet, tRetN, tSeq, tAsg, tOp, tVar, tC, tCB, tCons, tNil, tAndV, tOrV, tNotV, tAnd, tOr, tNot, tTest, tIf, tIfS, tB, tChain, tSl, tPart, tNoPart, tLst, tTup, tFld, tCl, tMt, tMk, gName, tNext, tBM, tBM0, tUn, tSub, tPar, tPar3, gTup, gCons, gNil, tDrop, tMkS, tM1, sFld, StX.tStar, tYes, gSub, cxOf, Cx.wish, Cx.nox, Cx.blk]
          exact ⟨rfl, _, rfl, tup_rd f7 hyc hyC fun u4 G8 e8 hu4 => k4 u4 G8 e8 hu4⟩
        · obtain ⟨p2, zs, rfl, hz, hzA⟩ := Dp.tupV hu'
          have hp' : H' p = some _ := e _ _ hp3
          refine ⟨_, rfl, p, CP K, dx, _, rfl, hp', T.cl_Program, T.na_Program_hands, by show 1 < 1000; decide, k1 _ _ ⟨p2, upd_same, ?_, ?_, ?_, rfl⟩⟩
          · intro b o hb
            rw [upd_ne (fun z => by rw [z, g0] at hb; cases hb)]
            exact e _ _ (e3 _ _ hb)
          · exact ExtP.dels ((ExtP.of e).trans (extP_upd _ _ _))
          · exact Dp.ext ((over_delp g0 (by rw [hp3]; exact fun z => by cases z) e3 e).trans (ExtP.dels (extP_upd _ _ _))) (.tup hz hzA)
      subst eσ
      have t1 := t1.ext e34
      have k1h := k1h.imp fun x h z => z.ext e34
      -- deals
      obtain ⟨ph, hvv, eph, hhv, hhA⟩ := Dp.tupV t2
      cases eph
      obtain ⟨vss, hE2, hfl, hlens⟩ := hands_flat hhA
      refine cut_tseq (fun σ' H' => ∃ p3, H' p = some (.ins (CP K) dx [("houses", .ref p1), ("hands", .ref p2), ("deals", .ref p3)]) ∧ Ext G0 H' ∧ Ext (L2.del H4 p) (L2.del H' p) ∧ SqT K (L2.del H' p) p3 (vss.flatMap id) ∧ σ' = (L2.start ["self", "houses", "hands", "house", "kind", "way", "table", "pair", "hand", "deal", "step", "at"] [.ref p, .ref a, .ref av])) (fun D1 k1 => ?_) fun σ' H5 ⟨p3, hp5, e5, e45, t3, eσ⟩ => ?_
      · dsimp only [tRet, tRetN, tSeq, tAsg, tOp, tVar, tC, tCB, tCons, tNil, tAndV, tOrV, tNotV, tAnd, tOr, tNot, tTest, tIf, tIfS, tB, tChain, tSl, tPart, tNoPart, tLst, tTup, tFld, tCl, tMt, tMk, gName, tNext, tBM, tBM0, tUn, tSub, tPar, tPar3, gTup, gCons, gNil, tDrop, tMkS, tM1, sFld, StX.tStar, tYes, gSub, cxOf, Cx.wish, Cx.nox, Cx.blk, tTupB, tTIx, tDGetX, tLc2, tLc]
        have hh4 : SqT K H4 p2 hvv := hhv.ext ext_del
        have lfl : (vss.flatMap id).length ≤ 8 := by
          rw [DpAll.length hfl, List.length_map]
          exact tot
        refine ⟨_, rfl, p, CP K, dx, _, _, rfl, hp4, T.cl_Program, T.na_Program_hands, rfl, false, p2, hvv, rfl, hh4, fun D hD => ?_⟩
        refine turns_it (walk_seqF (K := K) (fl := false) (a := p2) (xs := hvv)) (fun i G => G D = some (.lst ((vss.take i).flatMap id)) ∧ Ext H4 (L2.del G D)) ⟨upd_same, ext_off (Ext.upd hD) hD⟩ (fun i G _ ⟨_, e⟩ => hh4.ext (e.trans ext_del)) ?_ ?_
        · rintro i x G G' hi ⟨hG, e⟩ ⟨rfl, hx1⟩
          obtain ⟨ws, hws, aw, rfl, haw⟩ := hE2.2 i x hx1
          have hle := flat_take (f := id) (l := vss) (j := i + 1)
          rw [flat_next hws, List.length_append] at hle
          have hle : ((vss.take i).flatMap id).length + ws.length ≤ (vss.flatMap id).length := hle
          have hawG : SqT K G' aw ws := haw.ext (ext_del.trans (e.trans ext_del))
          dsimp only [tRet, tRetN, tSeq, tAsg, tOp, tVar, tC, tCB, tCons, tNil, tAndV, tOrV, tNotV, tAnd, tOr, tNot, tTest, tIf, tIfS, tB, tChain, tSl, tPart, tNoPart, tLst, tTup, tFld, tCl, tMt, tMk, gName, tNext, tBM, tBM0, tUn, tSub, tPar, tPar3, gTup, gCons, gNil, tDrop, tMkS, tM1, sFld, StX.tStar, tYes, gSub, cxOf, Cx.wish, Cx.nox, Cx.blk, tTupB, tTIx, tDGetX, tLc2, tLc]
          refine ⟨rfl, ?_⟩
          rw [if_pos (rfl : true = true)]
          refine ⟨_, rfl, false, aw, ws, rfl, hawG, ?_⟩
          refine turns_it (walk_seqF (K := K) (fl := false) (a := aw) (xs := ws)) (fun j G => G D = some (.lst ((vss.take i).flatMap id ++ ws.take j)) ∧ Ext H4 (L2.del G D)) ⟨by rw [List.take_zero, List.append_nil]; exact hG, e⟩ (fun j G2 _ ⟨_, e5⟩ => haw.ext (ext_del.trans (e5.trans ext_del))) ?_ ?_
          · rintro j x G2 G3 hj ⟨hG2, e5⟩ ⟨rfl, hx2⟩
            dsimp only [tRet, tRetN, tSeq, tAsg, tOp, tVar, tC, tCB, tCons, tNil, tAndV, tOrV, tNotV, tAnd, tOr, tNot, tTest, tIf, tIfS, tB, tChain, tSl, tPart, tNoPart, tLst, tTup, tFld, tCl, tMt, tMk, gName, tNext, tBM, tBM0, tUn, tSub, tPar, tPar3, gTup, gCons, gNil, tDrop, tMkS, tM1, sFld, StX.tStar, tYes, gSub, cxOf, Cx.wish, Cx.nox, Cx.blk, tTupB, tTIx, tDGetX, tLc2, tLc]
            refine ⟨rfl, ?_⟩
            rw [if_pos (rfl : true = true)]
            refine ⟨_, rfl, _, hG2, ?_, ?_, ?_⟩
            · rw [List.length_append, List.length_take]
              exact small_of (m := 60) (by omega)
            · rw [upd_same, List.take_succ, hx2, ← List.append_assoc]
              rfl
            · rw [del_upd]
              exact e5
          · rintro G2 ⟨hG2, e5⟩
            have z : (vss.take (i + 1)).flatMap id = (vss.take i).flatMap id ++ ws := flat_next hws
            rw [List.take_length, ← z] at hG2
            exact ⟨hG2, e5⟩
        · rintro G ⟨hG, e⟩
          rw [hE2.1, List.take_length] at hG
          have hpG : G p = some _ := (e.trans ext_del) _ _ hp4
          refine ⟨D, _, rfl, .inl ⟨SqL.of hG, fun t ht => ⟨_, rfl, p, CP K, dx, _, rfl, (upd_ne (ne_of_none hpG ht)).trans hpG, T.cl_Program, T.na_Program_deals, by show 2 < 1000; decide, k1 _ _ ⟨t, upd_same, ?_, ?_, SqT.of ?_, rfl⟩⟩⟩⟩
          · intro b o hb
            rw [upd_ne (fun z => by rw [z, g0] at hb; cases hb)]
            exact Ext.upd ht _ _ ((e.trans ext_del) _ _ (e4 _ _ hb))
          · exact ExtP.dels ((ExtP.of ((e.trans ext_del).trans (Ext.upd ht))).trans (extP_upd _ _ _))
          · have c : t ≠ p := fun z => by rw [z, hpG] at ht; cases ht
            rw [del_ne c, upd_ne c, upd_same]
      subst eσ
      have t1 := t1.ext e45
      have t2 := Dp.ext e45 t2
      have k1h := k1h.imp fun x h z => z.ext e45
      have hfl := DpAll.ext e45 hfl
      -- owners
      have hh5 : SqT K H5 p2 hvv := (hhv.ext e45).ext ext_del
      have lown : (ownersL d).length ≤ 8 := by
        have z : ∀ n, n ≤ (dItems d).length → ((List.range n).flatMap (ownersF (dItems d))).length = (((dItems d).take n).flatMap dItems).length := by
          intro n
          induction n with
          | zero => intro _; rfl
          | succ n ih =>
            intro hn
            have hd1 : (dItems d)[n]? = some (dItems d)[n] := List.getElem?_eq_getElem (by omega)
            rw [flat_range, List.length_append, ih (by omega), flat_next hd1, List.length_append, ownersF, List.length_replicate, List.getD_eq_getElem?_getD, hd1]
            rfl
        have z2 := z _ (Nat.le_refl _)
        rw [List.take_length] at z2
        show ((List.range (dItems d).length).flatMap (ownersF (dItems d))).length ≤ 8
        rw [z2]
        exact tot
      have lhv : hvv.length = (dItems d).length := by rw [DpAll.length hhA, List.length_map]
      dsimp only [tRet, tRetN, tSeq, tAsg, tOp, tVar, tC, tCB, tCons, tNil, tAndV, tOrV, tNotV, tAnd, tOr, tNot, tTest, tIf, tIfS, tB, tChain, tSl, tPart, tNoPart, tLst, tTup, tFld, tCl, tMt, tMk, gName, tNext, tBM, tBM0, tUn, tSub, tPar, tPar3, gTup, gCons, gNil, tDrop, tMkS, tM1, sFld, StX.tStar, tYes, gSub, cxOf, Cx.wish, Cx.nox, Cx.blk, tTupB, tTIx, tDGetX, tLc2, tLc]
      refine ⟨_, rfl, p, CP K, dx, _, _, rfl, hp5, T.cl_Program, T.na_Program_hands, rfl, p2, hvv, rfl, hh5, fun D hD => ?_⟩
      refine turns_it (walk_enumT (K := K) (a := p2) (xs := hvv)) (fun i G => G D = some (.lst (((List.range i).flatMap (ownersF (dItems d))).map V.int)) ∧ Ext H5 (L2.del G D)) ⟨upd_same, ext_off (Ext.upd hD) hD⟩ (fun i G _ ⟨_, e⟩ => hh5.ext (e.trans ext_del)) ?_ ?_
      · rintro i x G G' hi ⟨hG, e⟩ ⟨T', x1, y1, rfl, hT', rfl, hx1, hy1⟩
        cases hx1
        obtain ⟨ws, hws, aw, rfl, haw⟩ := hE2.2 i y1 hy1
        have cT : T' ≠ D := fun z => by rw [z, hG] at hT'; cases hT'
        have eT : Ext (L2.del G D) (L2.del (upd G T' (.tup [.int (i : Nat), .ref aw])) D) := ext_dels (Ext.upd hT')
        have eG := e.trans (eT.trans ext_del)
        have hawG : SqT K H5 aw ws := (haw.ext e45).ext ext_del
        have hd1 : (dItems d)[i]? = some ((dItems d)[i]'(by omega)) := List.getElem?_eq_getElem (by omega)
        have lws : ownersF (dItems d) i = List.replicate ws.length (i : Int) := by
          have z := congrArg (fun l => l[i]?) hlens
          simp only [List.getElem?_map, hws, hd1, Option.map_some] at z
          rw [ownersF, List.getD_eq_getElem?_getD, hd1]
          rw [Option.some.inj z]
          rfl
        have hpre := flat_pre (f := ownersF (dItems d)) (show i < (dItems d).length by omega)
        rw [lws, List.length_replicate] at hpre
        have hpre : ((List.range i).flatMap (ownersF (dItems d))).length + ws.length ≤ (ownersL d).length := hpre
        dsimp only [tRet, tRetN, tSeq, tAsg, tOp, tVar, tC, tCB, tCons, tNil, tAndV, tOrV, tNotV, tAnd, tOr, tNot, tTest, tIf, tIfS, tB, tChain, tSl, tPart, tNoPart, tLst, tTup, tFld, tCl, tMt, tMk, gName, tNext, tBM, tBM0, tUn, tSub, tPar, tPar3, gTup, gCons, gNil, tDrop, tMkS, tM1, sFld, StX.tStar, tYes, gSub, cxOf, Cx.wish, Cx.nox, Cx.blk, tTupB, tTIx, tDGetX, tLc2, tLc]
        refine ⟨T', _, rfl, SqT.of upd_same, rfl, _, _, rfl, _, _, rfl, rfl, rfl, ?_⟩
        rw [if_pos (rfl : true = true)]
        refine ⟨_, rfl, false, aw, ws, rfl, hawG.ext eG, ?_⟩
        refine turns_it (walk_seqF (K := K) (fl := false) (a := aw) (xs := ws)) (fun j G => G D = some (.lst (((List.range i).flatMap (ownersF (dItems d)) ++ List.replicate j (i : Int)).map V.int)) ∧ Ext H5 (L2.del G D)) ⟨by rw [List.replicate_zero, List.append_nil, upd_ne cT.symm]; exact hG, e.trans eT⟩ (fun j G2 _ ⟨_, e5⟩ => hawG.ext (e5.trans ext_del)) ?_ ?_
        · rintro j x G2 G3 hj ⟨hG2, e5⟩ ⟨rfl, hx2⟩
          dsimp only [tRet, tRetN, tSeq, tAsg, tOp, tVar, tC, tCB, tCons, tNil, tAndV, tOrV, tNotV, tAnd, tOr, tNot, tTest, tIf, tIfS, tB, tChain, tSl, tPart, tNoPart, tLst, tTup, tFld, tCl, tMt, tMk, gName, tNext, tBM, tBM0, tUn, tSub, tPar, tPar3, gTup, gCons, gNil, tDrop, tMkS, tM1, sFld, StX.tStar, tYes, gSub, cxOf, Cx.wish, Cx.nox, Cx.blk, tTupB, tTIx, tDGetX, tLc2, tLc]
          refine ⟨rfl, ?_⟩
          rw [if_pos (rfl : true = true)]
          refine ⟨_, rfl, _, hG2, ?_, ?_, ?_⟩
          · rw [List.length_map, List.length_append, List.length_replicate]
            exact small_of (m := 60) (by omega)
          · rw [upd_same, List.replicate_succ', ← List.append_assoc, List.map_append (l₂ := [(i : Int)])]
            rfl
          · rw [del_upd]
            exact e5
        · rintro G2 ⟨hG2, e5⟩
          rw [flat_range, lws]
          exact ⟨hG2, e5⟩
      · rintro G ⟨hG, e⟩
        rw [lhv] at hG
        have hpG : G p = some _ := (e.trans ext_del) _ _ hp5
        refine ⟨D, _, rfl, .inl ⟨SqL.of hG, fun t ht => ⟨_, rfl, p, CP K, dx, _, rfl, (upd_ne (ne_of_none hpG ht)).trans hpG, T.cl_Program, T.na_Program_owners, by show 3 < 1000; decide, ?_⟩⟩⟩
        have eF : Ext (L2.del H5 p) (upd (upd G t (.tup (((List.range (dItems d).length).flatMap (ownersF (dItems d))).map V.int))) p (.ins (CP K) dx [("houses", .ref p1), ("hands", .ref p2), ("deals", .ref p3), ("owners", .ref t)])) := (ExtP.dels ((ExtP.of ((e.trans ext_del).trans (Ext.upd ht))).trans (extP_upd _ _ _))).trans ext_del
        refine q _ (fun b o hb => ?_) ⟨dx, p1, p2, p3, t, vs1, upd_same, t1.ext eF, k1h.imp fun x h z => z.ext eF, Dp.ext eF t2, ?_, SqT.of ?_⟩
        · rw [upd_ne (fun z => by rw [z, g0] at hb; cases hb)]
          exact Ext.upd ht _ _ ((e.trans ext_del) _ _ (e5 _ _ hb))
        · exact .tup (t3.ext eF) (DpAll.ext eF hfl)
        · have c : t ≠ p := fun z => by rw [z, hpG] at ht; cases ht
          rw [upd_ne c, upd_same]
          rfl
theorem c_Program_init (T : Txt K mg) : Ini prg w K mg base (L2.CX prg w) 9 "Program" (CP K) ["self", "houses", "hands"] (sp_Program_init K) :=
  T.d_Program_init.ini sc_Program_init (fun vs H Q E ⟨p, dx, u, hd, v, d, e, _⟩ => by rw [e]; rfl) (b_Program_init T)
/-- Program(hands = .., houses = ..) -/
theorem k_Program_init (T : Txt K mg) : ∃ (f : Addr) (fd : FuncData), FnOk prg w K mg base (L2.CX prg w) 9 f fd ["self", "houses", "hands"] (sp_Program_init K) ∧ Mk K (CP K) f ∧ KBn K fd ["self", "houses", "hands"] 1 ["hands", "houses"] (fun us ws => us ++ ws.reverse) (fun vs zs => vs ++ zs.reverse) := by
  obtain ⟨f, fd, F, M, _⟩ := T.d_Program_init.ex
  refine ⟨f, fd, F.ok sc_Program_init (fun vs H Q E ⟨p, dx, u, hd, v, d, e, _⟩ => by rw [e]; rfl) (b_Program_init T f), M, ?_⟩
  obtain ⟨oc, od, dV, kV, doc, pm, an, cdv, ct, osl, rfl, lk, hcd, hD, hK⟩ := F.ex
  rcases hD with ⟨_, rfl⟩ | ⟨e, _⟩
  · refine ⟨fun s us ws X l1 l2 => BindsTo.of_eq ?_, fun r1 r2 => ?_⟩
    · match us, ws, l1, l2 with
      | [a], [b, c], _, _ => rfl
    · exact L2.Vals.append r1 (L2.Vals.reverse r2)
  · exact absurd rfl e
end
end K81

end
section
/-! Ow27: o == x by o's own __eq__. -/
namespace Ow
open PySem L2
open PySem.Spec PyProof.Rows
def rEqOwn (K : W.Frag) (C : Addr) (sp : Sp) (E : XK) : R2 := fun x y H Q => ∃ a dx fs b, x = .ref a ∧ y = .ref b ∧ H a = some (.ins C dx fs) ∧ ((∃ dy gs, H b = some (.ins C dy gs)) ∨ ∃ ys, SqT K H b ys) ∧ sp [.ref a, .ref b] H (fun v H' => ∃ c, v = .bl c ∧ Q v H') E
section
variable {X : Cx} {CX : CXT} {k : Nat} {C : Addr} {ps : List Str} {sp : Sp} {E : XK}
theorem sub_tup (K : W.Frag) (C : Addr) : W.subIn K (.type "tuple") (.ref C) = some false := by
  show (fastBuiltinMro "tuple").map (·.contains (.ref C)) = some false
  rfl
theorem op_eqOwn (G : Met X.prog X.w X.K X.mg X.base CX k C "__eq__" ps sp) (hr : Room k X.A) (hx : Passes CX X E) : OpR X (compareOp .Eq) (rEqOwn X.K C sp E) := by
  intro pins s σ H x y v u Q I rx ry ⟨a, dx, fs, b, ex, ey, ha, hb, hsp⟩
  subst ex ey
  cases rx
  cases ry
  obtain ⟨f, fd, F, M, hbd⟩ := G.ex
  obtain ⟨mA, J, _⟩ := ins_get I.hok ha
  obtain ⟨od, J, _⟩ := J.look
  obtain ⟨m, hF⟩ := I.fr
  show wpAny (model X.prog X.w) X.A (richCompare .Eq (.ref a) (.ref b)) (EP X pins σ Q) X.xe s
  have fin : wpAny (model X.prog X.w) X.A (call (.ref f) [.ref a, .ref b]) (W.CmpBack (EP X pins σ Q)) X.xe s := by
    have e0 : Env0 X.prog X.w X.K X.mg X.base X.A X.stack s H := I.env0
    have hl := F.len _ _ _ _ hsp
    have r2 : Vals [V.ref a, V.ref b] [Value.ref a, Value.ref b] := .cons rfl (.cons rfl .nil)
    refine wpAny_call (codeAny_mono (F.run X.A X.stack s H ⟨[.ref a, .ref b], []⟩ [.ref a, .ref b] [.ref a, .ref b] _ E hr e0 (by
      have := hbd s [.ref a, .ref b] I.kIn (by simpa using hl)
      simpa using this) r2 hsp) fun r s' hq => ?_)
    cases r with
    | error e => exact hx pins σ H s e s' I hq
    | ok fl =>
      cases fl with
      | ret w =>
        obtain ⟨z, H', I', rz, c, ez, q⟩ := I.after hq
        subst ez
        cases rz
        exact ⟨.bl c, H', I', rfl, q⟩
      | next => exact False.elim hq
      | brk => exact False.elim hq
      | cont => exact False.elim hq
  rcases hb with ⟨dy, gs, hb⟩ | ⟨ys, hb⟩
  · obtain ⟨mB, J', _⟩ := ins_get I.hok hb
    obtain ⟨od', J', _⟩ := J'.look
    exact PySem.W.cmp_K (op := .Eq) (tb := .ref C) hr.units0 hF I.ok.mod.kin J J'.type (by simp [PySem.W.notFirst]) M.at_ M.fn fin
  · obtain ⟨its, r, ⟨o, ho, hc, _⟩, _⟩ := I.tuple hb
    refine PySem.W.cmp_K (op := .Eq) (tb := .type "tuple") hr.units0 hF I.ok.mod.kin J (hc ▸ (PySem.W.Looks.ld ho).andThen .now) ?_ M.at_ M.fn fin
    simp [PySem.W.notFirst, sub_tup]
end
end Ow

end
section
/-! K81p: programs compared. -/
namespace K81
open PySem L2 Ow
open PySem.Spec PyProof.Rows
theorem _root_.L2.Room.x23 {k : Nat} {A : Around} (hr : L2.Room k A) : A.units + 21 + (1 + 1) < cLine := by have := hr.un; omega
theorem str_selfOk (x : Str) : selfOk (.str x) := ⟨by simp [W.alike], by simp [PyData.depth]⟩
theorem P4s_alike : ∀ ps qs : List P4, W.alikeAll (ps.map P4.dat) (qs.map P4.dat) = true
  | [], _ => by simp [W.alikeAll]
  | p :: ps, [] => by simp [W.alikeAll]
  | p :: ps, q :: qs => by simp [W.alikeAll, P4_alike, P4s_alike ps qs]
theorem P4s_depth : ∀ ps : List P4, PyData.depthAll (ps.map P4.dat) ≤ 2
  | [] => by simp [PyData.depthAll]
  | p :: ps => by
    have := P4s_depth ps
    simp [PyData.depthAll, P4.dat, PyData.depth]
    omega
theorem table_selfOk (ps : List P4) : selfOk (tableD ps) := ⟨by simp [tableD, W.alike, P4s_alike], by
  have := P4s_depth ps
  simp [tableD, PyData.depth]
  omega⟩
section
variable {K : W.Frag} {H : Hp}
theorem kept_eqq {x y : V} {h : HouseV} (h1 : KeptH K H x h) (h2 : KeptH K H y h) : Eqq K H 1 x y := by
  obtain ⟨b1, t1, rfl, q1, d1⟩ := h1
  obtain ⟨b2, t2, rfl, q2, d2⟩ := h2
  refine .inr ⟨b1, b2, _, _, rfl, rfl, q1, q2, rfl, fun i u v hu hv => ?_⟩
  match i, hu, hv with
  | 0, hu, hv =>
    cases hu
    cases hv
    exact .inl ⟨_, rfl, rfl⟩
  | 1, hu, hv =>
    cases hu
    cases hv
    exact .inr ⟨_, .str _, .str _, str_selfOk _⟩
  | 2, hu, hv =>
    cases hu
    cases hv
    exact .inr ⟨_, d1, d2, table_selfOk _⟩
theorem houses_eqq {a b : Addr} {xs ys : List V} {hs : List HouseV} (ha : SqT K H a xs) (hb : SqT K H b ys) (h1 : Each (KeptH K H) xs hs) (h2 : Each (KeptH K H) ys hs) : ∃ p q xs ys, V.ref a = .ref p ∧ V.ref b = .ref q ∧ SqT K H p xs ∧ SqT K H q ys ∧ xs.length = ys.length ∧ ∀ (i : Nat) u v, xs[i]? = some u → ys[i]? = some v → Eqq K H 1 u v := by
  refine ⟨a, b, xs, ys, rfl, rfl, ha, hb, by rw [h1.1, h2.1], fun i u v hu hv => ?_⟩
  obtain ⟨h, e, k1⟩ := h1.2 i u hu
  obtain ⟨h', e', k2⟩ := h2.2 i v hv
  rw [e] at e'
  cases e'
  exact kept_eqq k1 k2
end
section
variable {w : World} {K : W.Frag} {mg : Str → Option Value} {base : Heap}
def sp_Program_eq (K : W.Frag) : Sp := fun vs H Q _ => ∃ p q hs d, vs = [.ref p, .ref q] ∧ ProgAt K H p hs d ∧ (((∃ ys, SqT K H q ys) ∧ Q (.bl false) H) ∨ ∃ d2, ProgAt K H q hs d2 ∧ SeqAt.shaped (handsD d) = true ∧ SeqAt.shaped (handsD d2) = true ∧ Q (.bl (PyData.eqv (handsD d) (handsD d2))) H)
theorem c_Program_eq (T : Txt K mg) : Met prg w K mg base CX0 1 (CP K) "__eq__" ["self", "other"] (sp_Program_eq K) := by
  refine T.d_Program_eq.met sc_Program_eq (fun vs H Q E ⟨p, q, hs, d, e, _⟩ => by rw [e]; rfl) fun f cdv A outer s H vs Q E hr h => ?_
  have nd := sc_Program_eq.nd
  obtain ⟨p, q, hs, d, rfl, hp, h⟩ := h
  refine ⟨_, PSs.nox (pss_one (ps_ret (pe_and (pe_callB call_isi (by rfl) T.f_isinstance (by decide +kernel) (pa_cons (pv 1) (pa_cons (pe_glob (v := .ref (He.ga K "Program")) rfl T.g_Program rfl) pa_nil))) (pe_and (pe_cmpR (op_eqq (n := 1) hr.x23) (pe_fld (pv 0) rfl) (pe_fld (pv 1) rfl) (nomark _)) (pe_one (pe_cmpR (op_eqD hr.units) (pe_fld (pv 0) rfl) (pe_fld (pv 1) rfl) (nomark _))))))), ?_⟩
  dsimp only [tRet, tRetN, tSeq, tAsg, tOp, tVar, tC, tCB, tCons, tNil, tAndV, tOrV, tNotV, tAnd, tOr, tNot, tTest, tIf, tIfS, tB, tChain, tSl, tPart, tNoPart, tLst, tTup, tFld, tCl, tMt, tMk, gName, tNext, tBM, tBM0, tUn, tSub, tPar, tPar3, gTup, gCons, gNil, tDrop, tMkS, tM1, sFld, StX.tStar, tYes, gSub, cxOf, Cx.wish, Cx.nox, Cx.blk]
  obtain ⟨dx, p1, p2, p3, p4, hv, hi, h1, h2, h3, _⟩ := hp
  rcases h with ⟨⟨ys, hy⟩, k⟩ | ⟨d2, hq, s1, s2, k⟩
  · refine ⟨_, rfl, ⟨_, _, _, _, _, rfl, .own _, SqT.tyx hy, T.pn "tuple" (by decide), _, rfl, if_f rfl k⟩⟩
  · obtain ⟨dy, q1, q2, q3, q4, hv', hj, g1, g2, g3, _⟩ := hq
    refine ⟨_, rfl, ⟨_, _, _, _, _, rfl, .own _, .base (.ins hj T.cl_Program T.x_Program.c1 T.x_Program.c2 T.x_Program.c3 T.x_Program.c4), T.pP, _, rfl, if_t rfl ?_⟩⟩
    refine ⟨_, rfl, p, CP K, dx, _, _, rfl, hi, T.cl_Program, T.na_Program_houses, rfl, _, rfl, q, CP K, dy, _, _, rfl, hj, T.cl_Program, T.na_Program_houses, rfl, houses_eqq h1 g1 h2 g2, _, rfl, if_t rfl ?_⟩
    refine ⟨_, rfl, p, CP K, dx, _, _, rfl, hi, T.cl_Program, T.na_Program_hands, rfl, _, rfl, q, CP K, dy, _, _, rfl, hj, T.cl_Program, T.na_Program_hands, rfl, _, _, h3, g3, s1, s2, k⟩
end
end K81

end
section
/-! K81q: draws. -/
namespace K81
open PySem L2 Ow
open PySem.Spec PyProof.Rows
/-- the saddle at q: at most b numbers drawn -/
def QAt (K : W.Frag) (H : Hp) (q c : Addr) (ns : List Int) (b : Nat) : Prop := ∃ (at_ : Nat) (rest : Int), H q = some (.lst [.ref c, .int (at_ : Nat), .int rest]) ∧ SqL K H c (ns.map V.int) ∧ ns.length ≤ 63 ∧ at_ ≤ b ∧ 0 ≤ rest ∧ c ≠ q
theorem sqL_extP {K : W.Frag} {H H' : Hp} {q a : Addr} {xs : List V} (h : SqL K H a xs) (e : ExtP q H H') (hne : a ≠ q) : SqL K H' a xs := by
  rcases h with (h | ⟨o, h⟩) | h
  · exact .inl (.inl (e _ _ hne h))
  · exact .inl (.inr ⟨o, e _ _ hne h⟩)
  · exact .inr h
theorem QAt.mono {K : W.Frag} {H : Hp} {q c : Addr} {ns : List Int} {b b' : Nat} (h : QAt K H q c ns b) (hb : b ≤ b') : QAt K H q c ns b' := by
  obtain ⟨at_, rest, h1, h2, h3, h4, h5, h6⟩ := h
  exact ⟨at_, rest, h1, h2, h3, Nat.le_trans h4 hb, h5, h6⟩
theorem QAt.ext {K : W.Frag} {H H' : Hp} {q c : Addr} {ns : List Int} {b : Nat} (h : QAt K H q c ns b) (e : Ext H H') : QAt K H' q c ns b := by
  obtain ⟨at_, rest, h1, h2, h3, h4, h5, h6⟩ := h
  exact ⟨at_, rest, e _ _ h1, h2.ext e, h3, h4, h5, h6⟩
/-- though another object changes that wasn't there when the saddle was told -/
theorem QAt.but {K : W.Frag} {H G : Hp} {q c D : Addr} {ns : List Int} {b b' : Nat} {u : HO} (h : QAt K H q c ns b) (e : ExtP q H G) (hg : QAt K G q c ns b') (hD : H D = none) : QAt K (upd G D u) q c ns b' := by
  obtain ⟨_, _, g1, h2, h3, _, _, h6⟩ := h
  obtain ⟨at_, rest, k1, _, _, k4, k5, _⟩ := hg
  refine ⟨at_, rest, by rw [upd_ne (ne_of_none g1 hD)]; exact k1, sqL_extP h2 (fun b o hb hbo => ?_) h6, h3, k4, k5, h6⟩
  rw [upd_ne (ne_of_none hbo hD)]
  exact e _ _ hb hbo
/-- the saddle's own object -/
theorem QAt.here {K : W.Frag} {H : Hp} {q c : Addr} {ns : List Int} {b : Nat} (h : QAt K H q c ns b) : ∃ xs, H q = some (.lst xs) := by
  obtain ⟨_, _, h1, _⟩ := h
  exact ⟨_, h1⟩
theorem QAt.ne {K : W.Frag} {H : Hp} {q c D : Addr} {ns : List Int} {b : Nat} (h : QAt K H q c ns b) (hD : H D = none) : D ≠ q := by
  obtain ⟨_, h1⟩ := h.here
  exact fun z => by rw [z, h1] at hD; cases hD
section
variable {w : World} {K : W.Frag} {mg : Str → Option Value} {base : Heap}
def sp_law_saddle (K : W.Frag) : Sp := fun vs H Q _ => ∃ (a : Addr) (ns : List Int), vs = [.ref a] ∧ SqL K H a (ns.map V.int) ∧ ns.length ≤ 63 ∧ ∀ q c H', Ext H H' → H q = none → QAt K H' q c ns 0 → Q (.ref q) H'
theorem cutV_take2 {xs : List V} {n : Nat} : cutV xs none (some (n : Int)) = xs.take n := by
  unfold cutV
  rw [HT.sIx_none, HT.sIx_nat, Nat.sub_zero, List.drop_zero]
  by_cases c : n ≤ xs.length
  · rw [Nat.min_eq_left c]
  · rw [Nat.min_eq_right (by omega), List.take_of_length_le (Nat.le_refl _), List.take_of_length_le (by omega)]
theorem c_law_saddle (T : Txt K mg) : Cal prg w K mg base CX0 1 "_law_saddle" ["_law_script"] (sp_law_saddle K) := by
  refine T.d_law_saddle.cal sc_law_saddle (fun vs H Q E ⟨v, d, e, _⟩ => by rw [e]; rfl) fun f cdv A outer s H vs Q E hr h => ?_
  have nd := sc_law_saddle.nd
  obtain ⟨a, ns, rfl, hs, hl, q⟩ := h
  refine ⟨_, PSs.nox (pss_one (ps_ret (pe_lst (pa_cons (pe_lc (own := [("_law_cell", 1)]) (tt := tYes) (g := gName 1) rfl nd (pi_list (pe_slice sl_list (pv 0) po_none (po_some pe_int))) (blkOk_by (own := [("_law_cell", 1)]) (N := ["_law_script", "_law_cell"]) (sc := defScope s_law_saddle) (by decide +kernel)) (fun _ _ _ _ _ => (pg_name (i := 1) nd rfl (Or.inl rfl))) (fun _ _ _ _ _ => pts_nil) (fun _ _ _ _ _ => (pe_callTy call_int1 (by rfl) T.f_int (by decide +kernel) (pa_cons (pv 1) pa_nil)))) (pa_cons pe_int (pa_cons pe_int pa_nil)))))), ?_⟩
  dsimp only [tRet, tRetN, tSeq, tAsg, tOp, tVar, tC, tCB, tCons, tNil, tAndV, tOrV, tNotV, tAnd, tOr, tNot, tTest, tIf, tIfS, tB, tChain, tSl, tPart, tNoPart, tLst, tTup, tFld, tCl, tMt, tMk, gName, tNext, tBM, tBM0, tUn, tSub, tPar, tPar3, gTup, gCons, gNil, tDrop, tMkS, tM1, sFld, StX.tStar, tYes, gSub, cxOf, Cx.wish, Cx.nox, Cx.blk]
  refine ⟨_, rfl, _, rfl, a, _, rfl, hs, fun p hp => ?_⟩
  have ec : cutV (ns.map V.int) none (some 63) = ns.map V.int := by
    have z := cutV_take2 (xs := ns.map V.int) (n := 63)
    rw [List.take_of_length_le (by rw [List.length_map]; exact hl)] at z
    exact z
  rw [ec]
  refine ⟨p, rfl, ⟨_, SqL.of upd_same⟩, fun D hD => ?_⟩
  refine lc_scal (walk_list (xs := ns.map V.int)) (R := fun i y => ∃ n, ns[i]? = some n ∧ y = .int n) hD (small1000 (by rw [List.length_map]; omega)) (fun G e => SqL.of (e _ _ upd_same)) (fun i G x G' y => by rw [y.1]; exact Ext.rfl') ?_ ?_
  · rintro i x G G' hi e ⟨rfl, hx⟩ Q2 k2
    rw [List.getElem?_map] at hx
    cases en : ns[i]? with
    | none =>
      rw [en] at hx
      cases hx
    | some n =>
      rw [en] at hx
      cases hx
      exact ⟨rfl, _, rfl, .inl ⟨_, rfl, k2 _ _ Ext.rfl' ⟨n, en, rfl⟩⟩⟩
  · intro zs G hz1 hz2 e hDz
    have ez : zs = ns.map V.int := map_of (by rw [hz1, List.length_map]) hz2
    subst ez
    have hpq : ∀ r, G r = none → H r = none := fun r hr => by
      cases hz : H r with
      | none => rfl
      | some o =>
        rw [e _ _ (Ext.upd hp _ _ hz)] at hr
        cases hr
    refine ⟨by show 3 ≤ sizeLine; decide, fun r hr => q r D _ ((Ext.upd hp).trans (e.trans (Ext.upd hr))) (hpq r hr) ⟨0, 0, upd_same, SqL.of ?_, hl, Nat.le_refl _, by decide, ?_⟩⟩
    · rw [upd_ne (ne_of_none hDz hr)]
      exact hDz
    · exact ne_of_none hDz hr
theorem ints_lay : ∀ ns : List Int, PyData.canLayAll0 (ns.map PyData.int) = true ∧ PyData.depthAll (ns.map PyData.int) = 0
  | [] => ⟨rfl, rfl⟩
  | n :: r => by
    obtain ⟨h1, h2⟩ := ints_lay r
    simp [PyData.canLayAll0, PyData.depthAll, PyData.canLay0, PyData.depth, h1, h2]
theorem ints_shaped (ns : List Int) : SeqAt.shaped (.list (ns.map PyData.int)) = true := by
  obtain ⟨h1, h2⟩ := ints_lay ns
  simp [SeqAt.shaped, PyData.canLay0, PyData.depth, h1, h2]
theorem fm {a m : Int} (h : 0 < m) : 0 ≤ a.fmod m ∧ a.fmod m < m := by
  rw [Int.fmod_eq_emod_of_nonneg _ (Int.le_of_lt h)]
  exact ⟨Int.emod_nonneg _ (by omega), Int.emod_lt_of_pos _ h⟩
theorem z1 : (2147483587 : Int) ≠ 0 := by decide
theorem z2 : (2147483563 : Int) ≠ 0 := by decide
theorem z3 : (2147483629 : Int) ≠ 0 := by decide
theorem qi0 {a b c : V} : atI [a, b, c] 0 = some a := atI_nat (j := 0) rfl
theorem qi1 {a b c : V} : atI [a, b, c] 1 = some b := atI_nat (j := 1) rfl
theorem qi2 {a b c : V} : atI [a, b, c] 2 = some c := atI_nat (j := 2) rfl
def sp_law_ride (K : W.Frag) : Sp := fun vs H Q _ => ∃ q c ns many b, vs = [.ref q, .int many] ∧ QAt K H q c ns b ∧ b ≤ 100000 ∧ 0 < many ∧ many.natAbs < 2 ^ 9000 ∧ ∀ r H', 0 ≤ r → r < many → ExtP q H H' → QAt K H' q c ns (b + 1) → Q (.int r) H'
theorem c_law_ride (T : Txt K mg) : Cal prg w K mg base CX0 1 "_law_ride" ["_law_saddle_here", "_law_many"] (sp_law_ride K) := by
  refine T.d_law_ride.cal sc_law_ride (fun vs H Q E ⟨v, d, b, m, n, e, _⟩ => by rw [e]; rfl) fun f cdv A outer s H vs Q E hr h => ?_
  have nd := sc_law_ride.nd
  obtain ⟨q, c, ns, many, b, rfl, hq, hb, hm, hm2, k⟩ := h
  refine ⟨_, PSs.nox (pss_cons (ps_if (pt_cmpR op_gt (pe_ix ix_list (pv 0) pe_int (fun _ _ => rfl)) pe_int (nomark _)) (pss_cons (ps_set (i := 2) nd rfl (Or.inl rfl) (pe_callTy call_int1 (by rfl) T.f_int (by decide +kernel) (pa_cons (pe_ix ix_list (pv 0) pe_int (fun _ _ => rfl)) pa_nil)))
      (pss_cons (ps_asg (pe_op op_fdivW (pv 2) (pv 1)) (pg_sub (pv 0) pe_int set_list))
      (pss_one (ps_ret (pe_op op_modN (pe_callTy call_int1 (by rfl) T.f_int (by decide +kernel) (pa_cons (pv 2) pa_nil)) (pv 1)))))) pss_nil)
      (pss_cons (ps_set (i := 3) nd rfl (Or.inl rfl) (pe_ix ix_list (pv 0) pe_int (fun _ _ => rfl)))
      (pss_cons (ps_asg (pe_op op_add (pv 3) pe_int) (pg_sub (pv 0) pe_int set_list))
      (pss_cons (ps_set (i := 4) nd rfl (Or.inl rfl) (pe_op op_add (pe_op op_mul pe_int (pv 3)) pe_int))
      (pss_cons (ps_if (pt_cmpR (op_neD hr.units) (pe_ix ix_list (pv 0) pe_int (fun _ _ => rfl)) (pe_lst pa_nil) (nomark _)) (pss_one (ps_set (i := 4) nd rfl (Or.inl rfl) (pe_ix ix_list (pe_ix ix_list (pv 0) pe_int (fun _ _ => rfl)) (pe_op op_modN (pe_callTy call_int1 (by rfl) T.f_int (by decide +kernel) (pa_cons (pv 3) pa_nil)) (pe_callB call_len_seq (by rfl) T.f_len (by decide +kernel) (pa_cons (pe_ix ix_list (pv 0) pe_int (fun _ _ => rfl)) pa_nil))) (fun _ _ => rfl)))) pss_nil)
      (pss_cons (ps_if (PW.pt (pw_and (pt_cmpR op_lt (pv 3) (pe_callB call_len_seq (by rfl) T.f_len (by decide +kernel) (pa_cons (pe_ix ix_list (pv 0) pe_int (fun _ _ => rfl)) pa_nil)) (nomark _)) (pw_and1 (pt_cmpR op_ge (pe_callB call_abs (by rfl) T.f_abs (by decide +kernel) (pa_cons (pv 4) pa_nil)) (pe_op op_pow pe_int pe_int) (nomark _))))) (pss_cons (ps_set (i := 2) nd rfl (Or.inl rfl) (pe_op op_add (pe_op op_mul pe_int (pe_op op_sub (pe_callB call_abs (by rfl) T.f_abs (by decide +kernel) (pa_cons (pv 4) pa_nil)) (pe_op op_pow pe_int pe_int))) (pe_callTy call_int1 (by rfl) T.f_int (by decide +kernel) (pa_cons (pe_cmpR op_lt (pv 4) pe_int (nomark _)) pa_nil))))
      (pss_cons (ps_asg (pe_op op_fdivW (pe_callTy call_int1 (by rfl) T.f_int (by decide +kernel) (pa_cons (pv 2) pa_nil)) (pv 1)) (pg_sub (pv 0) pe_int set_list))
      (pss_one (ps_ret (pe_op op_modN (pe_callTy call_int1 (by rfl) T.f_int (by decide +kernel) (pa_cons (pv 2) pa_nil)) (pv 1)))))) pss_nil)
      (pss_cons (ps_set (i := 5) nd rfl (Or.inl rfl) (pe_op op_modN (pe_callTy call_int1 (by rfl) T.f_int (by decide +kernel) (pa_cons (pe_op op_pow (pe_op op_add (pe_op op_add (pe_op op_modN (pe_callTy call_int1 (by rfl) T.f_int (by decide +kernel) (pa_cons (pv 4) pa_nil)) pe_int) (pe_op op_mul pe_int (pv 3))) pe_int) pe_int) pa_nil)) pe_int))
      (pss_cons (ps_set (i := 5) nd rfl (Or.inl rfl) (pe_op op_modN (pe_callTy call_int1 (by rfl) T.f_int (by decide +kernel) (pa_cons (pe_op op_pow (pe_op op_add (pe_op op_add (pe_op op_mul (pv 5) (pe_op op_add (pe_op op_mul pe_int (pv 3)) pe_int)) (pe_op op_mul (pe_op op_mul pe_int (pv 3)) (pv 3))) pe_int) pe_int) pa_nil)) pe_int))
      (pss_one (ps_ret (pe_op op_modN (pe_callTy call_int1 (by rfl) T.f_int (by decide +kernel) (pa_cons (pe_op op_fdivN (pv 5) pe_int) pa_nil)) (pv 1)))))))))))), ?_⟩
  obtain ⟨at_, rest, h1, h2, h3, h4, h5, h6⟩ := id hq
  refine cut_ifn (fun c H' => c = decide (0 < rest) ∧ H' = H) (fun Q1 k1 => ?_) fun c H1 ⟨ec, eH⟩ => ?_
  · dsimp only [tRet, tRetN, tSeq, tAsg, tOp, tVar, tC, tCB, tCons, tNil, tAndV, tOrV, tNotV, tAnd, tOr, tNot, tTest, tIf, tIfS, tB, tChain, tSl, tPart, tNoPart, tLst, tTup, tFld, tCl, tMt, tMk, gName, tNext, tBM, tBM0, tUn, tSub, tPar, tPar3, gTup, gCons, gNil, tDrop, tMkS, tM1, sFld, StX.tStar, tYes, gSub, cxOf, Cx.wish, Cx.nox, Cx.blk]
    exact ⟨_, rfl, q, _, _, _, rfl, rfl, SqL.of h1, qi2, _, _, rfl, rfl, _, rfl, k1 _ _ ⟨rfl, rfl⟩⟩
  subst ec eH
  by_cases c0 : 0 < rest
  · refine if_t (decide_eq_true c0) ?_
    dsimp only [tRet, tRetN, tSeq, tAsg, tOp, tVar, tC, tCB, tCons, tNil, tAndV, tOrV, tNotV, tAnd, tOr, tNot, tTest, tIf, tIfS, tB, tChain, tSl, tPart, tNoPart, tLst, tTup, tFld, tCl, tMt, tMk, gName, tNext, tBM, tBM0, tUn, tSub, tPar, tPar3, gTup, gCons, gNil, tDrop, tMkS, tM1, sFld, StX.tStar, tYes, gSub, cxOf, Cx.wish, Cx.nox, Cx.blk]
    refine ⟨_, rfl, q, _, _, _, rfl, rfl, SqL.of h1, qi2, .inl ⟨_, rfl, _, rfl, _, rfl, _, _, rfl, rfl, wide_div hm hm2 (by decide) (by decide), _, rfl, q, _, _, _, rfl, rfl, h1, rfl, ?_⟩⟩
    dsimp only [tRet, tRetN, tSeq, tAsg, tOp, tVar, tC, tCB, tCons, tNil, tAndV, tOrV, tNotV, tAnd, tOr, tNot, tTest, tIf, tIfS, tB, tChain, tSl, tPart, tNoPart, tLst, tTup, tFld, tCl, tMt, tMk, gName, tNext, tBM, tBM0, tUn, tSub, tPar, tPar3, gTup, gCons, gNil, tDrop, tMkS, tM1, sFld, StX.tStar, tYes, gSub, cxOf, Cx.wish, Cx.nox, Cx.blk]
    refine ⟨_, rfl, .inl ⟨_, rfl, _, rfl, _, _, rfl, rfl, by omega, k _ _ (fm hm).1 (fm hm).2 (extP_upd _ _ _) ?_⟩⟩
    exact ⟨at_, rest / many, upd_same, sqL_extP h2 (extP_upd _ _ _) h6, h3, by omega, Int.ediv_nonneg h5 (by omega), h6⟩
  · refine if_f (decide_eq_false c0) ?_
    refine cut_asg (fun v H' => v = .int (at_ : Nat) ∧ H' = H1) (fun Q1 k1 => ?_) fun v H2 ⟨ev, eH⟩ => ?_
    · dsimp only [tRet, tRetN, tSeq, tAsg, tOp, tVar, tC, tCB, tCons, tNil, tAndV, tOrV, tNotV, tAnd, tOr, tNot, tTest, tIf, tIfS, tB, tChain, tSl, tPart, tNoPart, tLst, tTup, tFld, tCl, tMt, tMk, gName, tNext, tBM, tBM0, tUn, tSub, tPar, tPar3, gTup, gCons, gNil, tDrop, tMkS, tM1, sFld, StX.tStar, tYes, gSub, cxOf, Cx.wish, Cx.nox, Cx.blk]
      exact ⟨_, rfl, q, _, _, _, rfl, rfl, SqL.of h1, qi1, k1 _ _ ⟨rfl, rfl⟩⟩
    subst ev eH
    refine cut_tseq (fun σ H' => σ = [some (.ref q), some (.int many), none, some (.int (at_ : Nat)), none, none] ∧ H' = upd H2 q (.lst [.ref c, .int ((at_ + 1 : Nat) : Int), .int rest])) (fun D1 k1 => ?_) fun σ H3 ⟨eσ, eH⟩ => ?_
    · dsimp only [tRet, tRetN, tSeq, tAsg, tOp, tVar, tC, tCB, tCons, tNil, tAndV, tOrV, tNotV, tAnd, tOr, tNot, tTest, tIf, tIfS, tB, tChain, tSl, tPart, tNoPart, tLst, tTup, tFld, tCl, tMt, tMk, gName, tNext, tBM, tBM0, tUn, tSub, tPar, tPar3, gTup, gCons, gNil, tDrop, tMkS, tM1, sFld, StX.tStar, tYes, gSub, cxOf, Cx.wish, Cx.nox, Cx.blk]
      refine ⟨_, rfl, _, _, rfl, rfl, _, rfl, q, _, _, _, rfl, rfl, h1, rfl, k1 _ _ ⟨rfl, rfl⟩⟩
    subst eσ
    have e3 : ExtP q H2 H3 := by rw [eH]; exact extP_upd _ _ _
    have g1 : H3 q = some (.lst [.ref c, .int ((at_ + 1 : Nat) : Int), .int rest]) := by rw [eH, upd_same]
    have g2 : SqL K H3 c (ns.map V.int) := sqL_extP h2 e3 h6
    clear eH
    refine cut_asg (fun v H' => v = .int (59513 * (at_ : Int) + 3917) ∧ H' = H3) (fun Q1 k1 => ?_) fun v H4 ⟨ev, eH⟩ => ?_
    · dsimp only [tRet, tRetN, tSeq, tAsg, tOp, tVar, tC, tCB, tCons, tNil, tAndV, tOrV, tNotV, tAnd, tOr, tNot, tTest, tIf, tIfS, tB, tChain, tSl, tPart, tNoPart, tLst, tTup, tFld, tCl, tMt, tMk, gName, tNext, tBM, tBM0, tUn, tSub, tPar, tPar3, gTup, gCons, gNil, tDrop, tMkS, tM1, sFld, StX.tStar, tYes, gSub, cxOf, Cx.wish, Cx.nox, Cx.blk]
      exact ⟨_, rfl, _, _, rfl, rfl, .inl ⟨by decide, by decide⟩, _, _, rfl, rfl, k1 _ _ ⟨rfl, rfl⟩⟩
    subst ev eH
    -- the cell
    refine cut_tseq (fun σ H' => ∃ cell : Int, σ = [some (.ref q), some (.int many), none, some (.int (at_ : Nat)), some (.int cell), none] ∧ Ext H4 H') (fun D1 k1 => ?_) fun σ H5 ⟨cell, eσ, e5⟩ => ?_
    · have hD : Dp K H4 (.ref c) (.list (ns.map PyData.int)) := .lst g2 (DpAll.ints ns)
      refine cut_if1 (fun cc H' => cc = !decide (ns = []) ∧ Ext H4 H') (fun Q1 k2 => ?_) fun cc H' ⟨ec, e'⟩ => ?_
      · dsimp only [tRet, tRetN, tSeq, tAsg, tOp, tVar, tC, tCB, tCons, tNil, tAndV, tOrV, tNotV, tAnd, tOr, tNot, tTest, tIf, tIfS, tB, tChain, tSl, tPart, tNoPart, tLst, tTup, tFld, tCl, tMt, tMk, gName, tNext, tBM, tBM0, tUn, tSub, tPar, tPar3, gTup, gCons, gNil, tDrop, tMkS, tM1, sFld, StX.tStar, tYes, gSub, cxOf, Cx.wish, Cx.nox, Cx.blk]
        refine ⟨_, rfl, q, _, _, _, rfl, rfl, SqL.of g1, qi0, Nat.zero_le _, fun D hDn => ⟨.list (ns.map PyData.int), .list [], Dp.ext (Ext.upd hDn) hD, .lst (SqL.of upd_same) .nil, ints_shaped ns, rfl, _, rfl, k2 _ _ ⟨?_, Ext.upd hDn⟩⟩⟩
        cases ns <;> simp [PyData.eqv, PyData.eqvAll]
      subst ec
      by_cases cn : ns = []
      · exact if_f (by simp [cn]) (k1 _ _ ⟨_, rfl, e'⟩)
      · refine if_t (by simp [cn]) ?_
        have hpos : 0 < ns.length := List.length_pos_iff.mpr cn
        have hm := fm (a := (at_ : Int)) (m := (ns.length : Int)) (by omega)
        obtain ⟨j, hj⟩ := Int.eq_ofNat_of_zero_le hm.1
        have hjl : j < ns.length := by omega
        have hat : atI (ns.map V.int) ((at_ : Int).fmod (ns.length : Int)) = some (.int ns[j]) := by
          rw [hj]
          exact atI_nat (by rw [List.getElem?_map, List.getElem?_eq_getElem hjl]; rfl)
        dsimp only [tRet, tRetN, tSeq, tAsg, tOp, tVar, tC, tCB, tCons, tNil, tAndV, tOrV, tNotV, tAnd, tOr, tNot, tTest, tIf, tIfS, tB, tChain, tSl, tPart, tNoPart, tLst, tTup, tFld, tCl, tMt, tMk, gName, tNext, tBM, tBM0, tUn, tSub, tPar, tPar3, gTup, gCons, gNil, tDrop, tMkS, tM1, sFld, StX.tStar, tYes, gSub, cxOf, Cx.wish, Cx.nox, Cx.blk]
        refine ⟨_, rfl, q, _, _, _, rfl, rfl, SqL.of (e' _ _ g1), qi0, _, rfl, .inl ⟨_, rfl, _, rfl, q, _, _, _, rfl, rfl, SqL.of (e' _ _ g1), qi0, c, _, rfl, .inl (g2.ext e'), _, _, rfl, rfl, ?_, c, _, _, _, rfl, rfl, g2.ext e', ?_, k1 _ _ ⟨ns[j], rfl, e'⟩⟩⟩
        · rw [List.length_map]
          omega
        · rw [List.length_map]
          exact hat
    subst eσ
    have g1 := e5 _ _ g1
    have g2 := g2.ext e5
    have e35 : ExtP q H2 H5 := e3.trans (ExtP.of e5)
    refine cut_ifn (fun c H' => c = (decide (at_ < ns.length) && decide (10 ^ 18 ≤ (cell.natAbs : Int))) ∧ H' = H5) (fun Q1 k1 => ?_) fun c H6 ⟨ec, eH⟩ => ?_
    · dsimp only [tRet, tRetN, tSeq, tAsg, tOp, tVar, tC, tCB, tCons, tNil, tAndV, tOrV, tNotV, tAnd, tOr, tNot, tTest, tIf, tIfS, tB, tChain, tSl, tPart, tNoPart, tLst, tTup, tFld, tCl, tMt, tMk, gName, tNext, tBM, tBM0, tUn, tSub, tPar, tPar3, gTup, gCons, gNil, tDrop, tMkS, tM1, sFld, StX.tStar, tYes, gSub, cxOf, Cx.wish, Cx.nox, Cx.blk]
      refine ⟨_, rfl, _, rfl, q, _, _, _, rfl, rfl, SqL.of g1, qi0, c, _, rfl, .inl g2, _, _, rfl, rfl, _, rfl, ?_⟩
      rw [List.length_map]
      refine ite2 (fun c1 => ⟨_, rfl, _, rfl, _, _, rfl, rfl, ⟨by decide, by decide, by decide⟩, _, _, rfl, rfl, _, rfl, k1 _ _ ⟨?_, rfl⟩⟩) fun c1 => k1 _ _ ⟨?_, rfl⟩
      · have c1 : at_ < ns.length := by
          have := of_decide_eq_true c1
          omega
        have e10 : (10 : Int) ^ Int.toNat 18 = 10 ^ 18 := rfl
        rw [decide_eq_true c1, Bool.true_and, e10, Bool.eq_iff_iff, decide_eq_true_eq, decide_eq_true_eq]
        split <;> omega
      · have c1 : ¬ at_ < ns.length := fun z => c1 (decide_eq_true (by omega))
        simp [c1]
    subst ec eH
    by_cases cc : at_ < ns.length ∧ 10 ^ 18 ≤ (cell.natAbs : Int)
    · refine if_t (by rw [decide_eq_true cc.1, decide_eq_true cc.2]; rfl) ?_
      have hr0 : 0 ≤ 2 * ((if cell < 0 then -cell else cell) - 10 ^ 18) + (if decide (cell < 0) = true then (1 : Int) else 0) := by
        have h2 := cc.2
        split <;> split <;> omega
      dsimp only [tRet, tRetN, tSeq, tAsg, tOp, tVar, tC, tCB, tCons, tNil, tAndV, tOrV, tNotV, tAnd, tOr, tNot, tTest, tIf, tIfS, tB, tChain, tSl, tPart, tNoPart, tLst, tTup, tFld, tCl, tMt, tMk, gName, tNext, tBM, tBM0, tUn, tSub, tPar, tPar3, gTup, gCons, gNil, tDrop, tMkS, tM1, sFld, StX.tStar, tYes, gSub, cxOf, Cx.wish, Cx.nox, Cx.blk]
      refine ⟨_, rfl, _, rfl, _, _, rfl, rfl, ⟨by decide, by decide, by decide⟩, _, _, rfl, rfl, _, _, rfl, rfl, .inl ⟨by decide, by decide⟩, _, rfl, _, _, rfl, rfl, .inr ⟨_, rfl, _, _, rfl, rfl, _, rfl, .inl ⟨_, rfl, _, rfl, _, _, rfl, rfl, wide_div hm hm2 (by decide) (by decide), _, rfl, q, _, _, _, rfl, rfl, g1, rfl, ?_⟩⟩⟩
      dsimp only [tRet, tRetN, tSeq, tAsg, tOp, tVar, tC, tCB, tCons, tNil, tAndV, tOrV, tNotV, tAnd, tOr, tNot, tTest, tIf, tIfS, tB, tChain, tSl, tPart, tNoPart, tLst, tTup, tFld, tCl, tMt, tMk, gName, tNext, tBM, tBM0, tUn, tSub, tPar, tPar3, gTup, gCons, gNil, tDrop, tMkS, tM1, sFld, StX.tStar, tYes, gSub, cxOf, Cx.wish, Cx.nox, Cx.blk]
      refine ⟨_, rfl, .inl ⟨_, rfl, _, rfl, _, _, rfl, rfl, by omega, k _ _ (fm hm).1 (fm hm).2 (e35.trans (extP_upd _ _ _)) ?_⟩⟩
      exact ⟨at_ + 1, _, upd_same, sqL_extP g2 (extP_upd _ _ _) h6, h3, by omega, Int.ediv_nonneg hr0 (by omega), h6⟩
    · refine if_f ?_ ?_
      · by_cases c1 : at_ < ns.length
        · have c2 : ¬ 10 ^ 18 ≤ (cell.natAbs : Int) := fun z => cc ⟨c1, z⟩
          rw [decide_eq_false c2, Bool.and_false]
        · rw [decide_eq_false c1, Bool.false_and]
      have hq6 : QAt K H6 q c ns (b + 1) := ⟨at_ + 1, rest, g1, g2, h3, by omega, h5, h6⟩
      obtain ⟨ha1, ha2⟩ := fm (a := cell) (m := 2147483587) (by decide)
      refine cut_asg (fun v H' => ∃ m : Int, v = .int m ∧ 0 ≤ m ∧ m < 2147483563 ∧ H' = H6) (fun Q1 k1 => ?_) fun v H7 ⟨m, ev, hm0, hm1, eH⟩ => ?_
      · dsimp only [tRet, tRetN, tSeq, tAsg, tOp, tVar, tC, tCB, tCons, tNil, tAndV, tOrV, tNotV, tAnd, tOr, tNot, tTest, tIf, tIfS, tB, tChain, tSl, tPart, tNoPart, tLst, tTup, tFld, tCl, tMt, tMk, gName, tNext, tBM, tBM0, tUn, tSub, tPar, tPar3, gTup, gCons, gNil, tDrop, tMkS, tM1, sFld, StX.tStar, tYes, gSub, cxOf, Cx.wish, Cx.nox, Cx.blk]
        refine ⟨_, rfl, .inl ⟨_, rfl, _, _, rfl, rfl, z1, _, rfl, _, _, rfl, rfl, .inl ⟨by decide, by decide⟩, _, _, rfl, rfl, _, _, rfl, rfl, _, _, rfl, rfl, ⟨by decide, by decide, ?_⟩, .inl ⟨_, rfl, _, _, rfl, rfl, z2, k1 _ _ ⟨_, rfl, (fm (by decide)).1, (fm (by decide)).2, rfl⟩⟩⟩⟩
        omega
      subst ev eH
      refine cut_asg (fun v H' => ∃ m : Int, v = .int m ∧ 0 ≤ m ∧ H' = H7) (fun Q1 k1 => ?_) fun v H8 ⟨m2, ev, hm2, eH⟩ => ?_
      · dsimp only [tRet, tRetN, tSeq, tAsg, tOp, tVar, tC, tCB, tCons, tNil, tAndV, tOrV, tNotV, tAnd, tOr, tNot, tTest, tIf, tIfS, tB, tChain, tSl, tPart, tNoPart, tLst, tTup, tFld, tCl, tMt, tMk, gName, tNext, tBM, tBM0, tUn, tSub, tPar, tPar3, gTup, gCons, gNil, tDrop, tMkS, tM1, sFld, StX.tStar, tYes, gSub, cxOf, Cx.wish, Cx.nox, Cx.blk]
        refine ⟨_, rfl, _, rfl, _, _, rfl, rfl, .inl ⟨by decide, by decide⟩, _, _, rfl, rfl, _, _, rfl, rfl, .inl ⟨by omega, by omega⟩, _, rfl, _, _, rfl, rfl, .inl ⟨by decide, by decide⟩, _, rfl, _, _, rfl, rfl, .inl ⟨by omega, by omega⟩, _, _, rfl, rfl, _, _, rfl, rfl, _, _, rfl, rfl, ⟨by decide, by decide, ?_⟩, .inl ⟨_, rfl, _, _, rfl, rfl, z3, k1 _ _ ⟨_, rfl, (fm (by decide)).1, rfl⟩⟩⟩
        have b1 : m * (2 * (at_ : Int) + 3917) ≤ 2147483563 * 203917 := by
          refine Int.mul_le_mul (by omega) (by omega) (by omega) (by decide)
        have b0 : 0 ≤ m * (2 * (at_ : Int) + 3917) := Int.mul_nonneg hm0 (by omega)
        have b2 : 59513 * (at_ : Int) * (at_ : Int) ≤ 5951300000 * 100000 := Int.mul_le_mul (by omega) (by omega) (by omega) (by decide)
        have b3 : 0 ≤ 59513 * (at_ : Int) * (at_ : Int) := Int.mul_nonneg (by omega) (by omega)
        omega
      subst ev eH
      dsimp only [tRet, tRetN, tSeq, tAsg, tOp, tVar, tC, tCB, tCons, tNil, tAndV, tOrV, tNotV, tAnd, tOr, tNot, tTest, tIf, tIfS, tB, tChain, tSl, tPart, tNoPart, tLst, tTup, tFld, tCl, tMt, tMk, gName, tNext, tBM, tBM0, tUn, tSub, tPar, tPar3, gTup, gCons, gNil, tDrop, tMkS, tM1, sFld, StX.tStar, tYes, gSub, cxOf, Cx.wish, Cx.nox, Cx.blk]
      refine ⟨_, rfl, _, _, rfl, rfl, ⟨by decide, by decide⟩, .inl ⟨_, rfl, _, rfl, _, _, rfl, rfl, by omega, k _ _ (fm hm).1 (fm hm).2 e35 hq6⟩⟩
def sp_law_pick (K : W.Frag) : Sp := fun vs H Q _ => ∃ q c ns l xs b, vs = [.ref q, .ref l] ∧ QAt K H q c ns b ∧ b ≤ 100000 ∧ (∀ H', ExtP q H H' → SqL K H' l xs) ∧ 0 < xs.length ∧ xs.length ≤ 1000 ∧ ∀ (i : Nat) v H', xs[i]? = some v → ExtP q H H' → QAt K H' q c ns (b + 1) → Q v H'
theorem c_law_pick (T : Txt K mg) : Cal prg w K mg base CX0 2 "_law_pick" ["_law_saddle_here", "_law_some"] (sp_law_pick K) := by
  refine T.d_law_pick.cal sc_law_pick (fun vs H Q E ⟨q, c, ns, l, xs, b, e, _⟩ => by rw [e]; rfl) fun f cdv A outer s H vs Q E hr h => ?_
  have nd := sc_law_pick.nd
  obtain ⟨q, c, ns, l, xs, b, rfl, hq, hb, hs, h0, h1, k⟩ := h
  refine ⟨_, PSs.nox (pss_one (ps_ret (pe_ix ix_list (pv 1) (pe_cl (c_law_ride T) (hr.mono (by decide)) pass0 (pa_cons (pv 0) (pa_cons (pe_callB call_len_seq (by rfl) T.f_len (by decide +kernel) (pa_cons (pv 1) pa_nil)) pa_nil))) (fun _ _ => rfl)))), ?_⟩
  dsimp only [tRet, tRetN, tSeq, tAsg, tOp, tVar, tC, tCB, tCons, tNil, tAndV, tOrV, tNotV, tAnd, tOr, tNot, tTest, tIf, tIfS, tB, tChain, tSl, tPart, tNoPart, tLst, tTup, tFld, tCl, tMt, tMk, gName, tNext, tBM, tBM0, tUn, tSub, tPar, tPar3, gTup, gCons, gNil, tDrop, tMkS, tM1, sFld, StX.tStar, tYes, gSub, cxOf, Cx.wish, Cx.nox, Cx.blk]
  refine ⟨_, rfl, _, rfl, _, rfl, l, xs, rfl, .inl (hs _ (ExtP.refl _ _)), q, c, ns, _, b, rfl, hq, hb, by omega, ?_, fun r H' r0 r1 e hq' => ?_⟩
  · have : ((xs.length : Int)).natAbs < 2 ^ 10 := by omega
    exact Nat.lt_of_lt_of_le this (Nat.pow_le_pow_right (by decide) (by decide))
  · obtain ⟨j, rfl⟩ := Int.eq_ofNat_of_zero_le r0
    have hj : j < xs.length := by omega
    exact ⟨l, xs, _, xs[j], rfl, rfl, hs _ e, atI_nat (List.getElem?_eq_getElem hj), k j _ _ (List.getElem?_eq_getElem hj) e hq'⟩
end
end K81

end
section
/-! K81r: the law's kinds, operations, tables. -/
namespace K81
open PySem L2 Ow
open PySem.Spec PyProof.Rows
def boxK : KN := ⟨["put", "take"], ["ok", "short"], 2, 0, [[0, 0, 0, 1], [0, 1, 1, 0], [1, 0, 0, 1], [1, 1, 0, 0]]⟩
def lawKinds : List KN := [purseK 3 1, shelfK 2 0, ticketsK 4, bagK, boxK]
theorem lawKinds_ok : lawKinds.all (fun k => k.ok && (decide (1 ≤ k.asks.length) && (decide (k.asks.length ≤ 8) && (decide (1 ≤ k.answers.length) && decide (k.answers.length ≤ 12))))) = true := by decide +kernel
section
variable {K : W.Frag} {H : Hp} {q : Addr}
theorem SqT.delq {a : Addr} {xs ys : List V} (h : SqT K H a xs) (hq : H q = some (.lst ys)) : SqT K (L2.del H q) a xs := by
  rcases h with (h | ⟨o, h⟩) | h
  · exact .inl (.inl (by rw [del_ne (fun z => by rw [z, hq] at h; cases h)]; exact h))
  · exact .inl (.inr ⟨o, by rw [del_ne (fun z => by rw [z, hq] at h; cases h)]; exact h⟩)
  · exact .inr h
theorem rows_delq {ys : List V} (hq : H q = some (.lst ys)) : ∀ {rows : List (List Int)} {rs : List V}, DpAll K H rs (rows.map rowD) → DpAll K (L2.del H q) rs (rows.map rowD)
  | [], _, h => by cases h; exact .nil
  | r :: rows, _, h => by
    cases h with
    | cons p t =>
      obtain ⟨a, rfl, hT⟩ := row_items p
      exact .cons (.tup (SqT.delq hT hq) (DpAll.ints r)) (rows_delq hq t)
theorem KindAt.delq {a : Addr} {k : KN} {ys : List V} (h : KindAt K H a k) (hq : H q = some (.lst ys)) : KindAt K (L2.del H q) a k := by
  obtain ⟨dx, p1, p2, p3, p4, p5, h1, h2, h3, ⟨rs, h4, h5⟩, h6⟩ := h
  exact ⟨dx, p1, p2, p3, p4, p5, by rw [del_ne (fun z => by rw [z, hq] at h1; cases h1)]; exact h1, SqT.delq h2 hq, SqT.delq h3 hq, ⟨rs, SqT.delq h4 hq, rows_delq hq h5⟩, h6⟩
end
section
variable {w : World} {K : W.Frag} {mg : Str → Option Value} {base : Heap}
def sp_law_kind (K : W.Frag) : Sp := fun vs H Q _ => ∃ q c ns b, vs = [.ref q] ∧ QAt K H q c ns b ∧ b ≤ 100000 ∧ ∀ a k H', k ∈ lawKinds → ExtP q H H' → KindAt K (L2.del H' q) a k → QAt K H' q c ns (b + 1) → Q (.ref a) H'
theorem c_law_kind (T : Txt K mg) : Cal prg w K mg base CX0 9 "_law_kind" ["_law_saddle_here"] (sp_law_kind K) := by
  refine T.d_law_kind.cal sc_law_kind (fun vs H Q E ⟨q, c, ns, b, e, _⟩ => by rw [e]; rfl) fun f cdv A outer s H vs Q E hr h => ?_
  have nd := sc_law_kind.nd
  obtain ⟨q, c, ns, b, rfl, hq, hb, k⟩ := h
  refine ⟨_, PSs.nox (pss_cons (ps_set (i := 1) nd rfl (Or.inl rfl) (pe_mk (c_Kind_init T) (hr.mono (by decide)) pass0 (pa_cons (pe_lst (pa_cons pe_str (pa_cons pe_str pa_nil))) (pa_cons (pe_lst (pa_cons pe_str (pa_cons pe_str pa_nil))) (pa_cons pe_int (pa_cons pe_int (pa_cons (pe_lst (pa_cons (pe_tup (pa_cons pe_int (pa_cons pe_int (pa_cons pe_int (pa_cons pe_int pa_nil))))) (pa_cons (pe_tup (pa_cons pe_int (pa_cons pe_int (pa_cons pe_int (pa_cons pe_int pa_nil))))) (pa_cons (pe_tup (pa_cons pe_int (pa_cons pe_int (pa_cons pe_int (pa_cons pe_int pa_nil))))) (pa_cons (pe_tup (pa_cons pe_int (pa_cons pe_int (pa_cons pe_int (pa_cons pe_int pa_nil))))) pa_nil))))) pa_nil)))))))
      (pss_one (ps_ret (pe_cl (c_law_pick T) (hr.mono (by decide)) pass0 (pa_cons (pv 0) (pa_cons (pe_lst (pa_cons (pe_cl (c_purse T) (hr.mono (by decide)) pass0 (pa_cons pe_int (pa_cons pe_int pa_nil))) (pa_cons (pe_cl (c_shelf T) (hr.mono (by decide)) pass0 (pa_cons pe_int (pa_cons pe_int pa_nil))) (pa_cons (pe_cl (c_tickets T) (hr.mono (by decide)) pass0 (pa_cons pe_int pa_nil)) (pa_cons (pe_cl (c_bag T) (hr.mono (by decide)) pass0 (pa_cons pe_int (pa_cons pe_int pa_nil))) (pa_cons (pv 1) pa_nil)))))) pa_nil)))))), ?_⟩
  refine cut_asg (fun v H' => ∃ a, v = .ref a ∧ Ext H H' ∧ KindAt K H' a boxK) (fun Q1 k1 => ?_) fun v H1 ⟨a5, ev, e1, hk5⟩ => ?_
  · dsimp only [tRet, tRetN, tSeq, tAsg, tOp, tVar, tC, tCB, tCons, tNil, tAndV, tOrV, tNotV, tAnd, tOr, tNot, tTest, tIf, tIfS, tB, tChain, tSl, tPart, tNoPart, tLst, tTup, tFld, tCl, tMt, tMk, gName, tNext, tBM, tBM0, tUn, tSub, tPar, tPar3, gTup, gCons, gNil, tDrop, tMkS, tM1, sFld, StX.tStar, tYes, gSub, cxOf, Cx.wish, Cx.nox, Cx.blk]
    refine ⟨by show 2 ≤ sizeLine; decide, fun D1 n1 => ⟨by show 2 ≤ sizeLine; decide, fun D2 n2 => ?_⟩⟩
    refine ⟨by show 4 ≤ sizeLine; decide, fun t1 m1 => ⟨by show 4 ≤ sizeLine; decide, fun t2 m2 => ⟨by show 4 ≤ sizeLine; decide, fun t3 m3 => ⟨by show 4 ≤ sizeLine; decide, fun t4 m4 => ⟨by show 4 ≤ sizeLine; decide, fun D3 n3 => ?_⟩⟩⟩⟩⟩
    have x3 := Ext.upd (o := HO.lst [.ref t1, .ref t2, .ref t3, .ref t4]) n3
    have x4 := (Ext.upd (o := HO.tup [.int 1, .int 1, .int 0, .int 0]) m4).trans x3
    have x5 := (Ext.upd (o := HO.tup [.int 1, .int 0, .int 0, .int 1]) m3).trans x4
    have x6 := (Ext.upd (o := HO.tup [.int 0, .int 1, .int 1, .int 0]) m2).trans x5
    have x7 := (Ext.upd (o := HO.tup [.int 0, .int 0, .int 0, .int 1]) m1).trans x6
    have x8 := (Ext.upd (o := HO.lst [.str "ok", .str "short"]) n2).trans x7
    refine kind_made (k := boxK) (SqL.of (x8 _ _ upd_same)) (SqL.of (x7 _ _ upd_same)) (SqL.of upd_same) (.cons (row_new (r := [0, 0, 0, 1]) (x6 _ _ upd_same)) (.cons (row_new (r := [0, 1, 1, 0]) (x5 _ _ upd_same)) (.cons (row_new (r := [1, 0, 0, 1]) (x4 _ _ upd_same)) (.cons (row_new (r := [1, 1, 0, 0]) (x3 _ _ upd_same)) .nil)))) (by decide +kernel) rfl rfl rfl rfl fun a H' e na hk => k1 _ _ ⟨a, rfl, (Ext.upd n1).trans (x8.trans e), hk⟩
  subst ev
  have hqk : ∀ {G : Hp}, Ext H G → QAt K G q c ns b := fun e => hq.ext e
  dsimp only [tRet, tRetN, tSeq, tAsg, tOp, tVar, tC, tCB, tCons, tNil, tAndV, tOrV, tNotV, tAnd, tOr, tNot, tTest, tIf, tIfS, tB, tChain, tSl, tPart, tNoPart, tLst, tTup, tFld, tCl, tMt, tMk, gName, tNext, tBM, tBM0, tUn, tSub, tPar, tPar3, gTup, gCons, gNil, tDrop, tMkS, tM1, sFld, StX.tStar, tYes, gSub, cxOf, Cx.wish, Cx.nox, Cx.blk]
  refine ⟨_, rfl, 3, 1, rfl, by decide, by decide, by decide, by decide +kernel, fun a1 G1 g1 na1 k1 => ?_⟩
  refine ⟨2, 0, rfl, by decide, by decide, by decide, by decide +kernel, fun a2 G2 g2 na2 k2 => ?_⟩
  refine ⟨4, rfl, by decide, by decide, by decide +kernel, fun a3 G3 g3 na3 k3 => ?_⟩
  refine ⟨rfl, fun a4 G4 g4 na4 k4 => ?_⟩
  refine ⟨_, rfl, by show 5 ≤ sizeLine; decide, fun L nL => ?_⟩
  have eL := Ext.upd (o := HO.lst [.ref a1, .ref a2, .ref a3, .ref a4, .ref a5]) nL
  have q4 : QAt K G4 q c ns b := hq.ext (e1.trans (g1.trans (g2.trans (g3.trans g4))))
  have cL : L ≠ q := q4.ne nL
  have q5 := q4.ext eL
  obtain ⟨xq, hxq⟩ := q5.here
  refine ⟨q, c, ns, L, _, b, rfl, q5, hb, fun H' e => SqL.of (e _ _ cL upd_same), by show 0 < 5; decide, by show 5 ≤ 1000; decide, fun i v H' hv e hq' => ?_⟩
  have fin : ∀ {a : Addr} {kn : KN}, kn ∈ lawKinds → KindAt K (upd G4 L (HO.lst [.ref a1, .ref a2, .ref a3, .ref a4, .ref a5])) a kn → Q (.ref a) H' := fun hm hk => k _ _ _ hm ((ExtP.of (e1.trans (g1.trans (g2.trans (g3.trans (g4.trans eL)))))).trans e) ((hk.delq hxq).ext (ExtP.dels e)) hq'
  match i, hv with
  | 0, hv => cases hv; exact fin (by simp [lawKinds]) (k1.ext (g2.trans (g3.trans (g4.trans eL))))
  | 1, hv => cases hv; exact fin (by simp [lawKinds]) (k2.ext (g3.trans (g4.trans eL)))
  | 2, hv => cases hv; exact fin (by simp [lawKinds]) (k3.ext (g4.trans eL))
  | 3, hv => cases hv; exact fin (by simp [lawKinds]) (k4.ext eL)
  | 4, hv => cases hv; exact fin (by simp [lawKinds]) (hk5.ext (g1.trans (g2.trans (g3.trans (g4.trans eL)))))
theorem lawKind_len {k : KN} (h : k ∈ lawKinds) : k.ok = true ∧ 1 ≤ k.asks.length ∧ k.asks.length ≤ 8 ∧ 1 ≤ k.answers.length ∧ k.answers.length ≤ 12 := by
  have z := List.all_eq_true.mp lawKinds_ok k h
  simp only [Bool.and_eq_true, decide_eq_true_eq] at z
  exact z
theorem two9000 {n : Int} (h0 : 0 < n) (h : n ≤ 1000) : n.natAbs < 2 ^ 9000 := by
  have : n.natAbs < 2 ^ 10 := by omega
  exact Nat.lt_of_lt_of_le this (Nat.pow_le_pow_right (by decide) (by decide))
def sp_law_operation (K : W.Frag) : Sp := fun vs H Q _ => ∃ q c ns b a, ∃ k : KN, vs = [.ref q, .ref a] ∧ QAt K H q c ns b ∧ b ≤ 90000 ∧ KindAt K (L2.del H q) a k ∧ k ∈ lawKinds ∧ ∀ (x y : Int) t H', 0 ≤ x → x < 20 → 0 ≤ y → y < 20 → ExtP q H H' → H t = none → H' t = some (.tup [.int x, .int y]) → QAt K H' q c ns (b + 2) → Q (.ref t) H'
theorem c_law_operation (T : Txt K mg) : Cal prg w K mg base CX0 2 "_law_operation" ["_law_saddle_here", "_law_kind_here"] (sp_law_operation K) := by
  refine T.d_law_operation.cal sc_law_operation (fun vs H Q E ⟨q, c, ns, b, a, k, e, _⟩ => by rw [e]; rfl) fun f cdv A outer s H vs Q E hr h => ?_
  have nd := sc_law_operation.nd
  obtain ⟨q, c, ns, b, a, k, rfl, hq, hb, hka, hk, kk⟩ := h
  refine ⟨_, PSs.nox (pss_one (ps_ret (pe_tup (pa_cons (pe_cl (c_law_ride T) (hr.mono (by decide)) pass0 (pa_cons (pv 0) (pa_cons (pe_callB call_len_seq (by rfl) T.f_len (by decide +kernel) (pa_cons (pe_fld (pv 1) rfl) pa_nil)) pa_nil))) (pa_cons (pe_cl (c_law_ride T) (hr.mono (by decide)) pass0 (pa_cons (pv 0) (pa_cons (pe_callB call_len_seq (by rfl) T.f_len (by decide +kernel) (pa_cons (pe_fld (pv 1) rfl) pa_nil)) pa_nil))) pa_nil))))), ?_⟩
  obtain ⟨_, k1, k2, k3, k4⟩ := lawKind_len hk
  dsimp only [tRet, tRetN, tSeq, tAsg, tOp, tVar, tC, tCB, tCons, tNil, tAndV, tOrV, tNotV, tAnd, tOr, tNot, tTest, tIf, tIfS, tB, tChain, tSl, tPart, tNoPart, tLst, tTup, tFld, tCl, tMt, tMk, gName, tNext, tBM, tBM0, tUn, tSub, tPar, tPar3, gTup, gCons, gNil, tDrop, tMkS, tM1, sFld, StX.tStar, tYes, gSub, cxOf, Cx.wish, Cx.nox, Cx.blk]
  obtain ⟨dx, p1, p2, p3, p4, p5, hp, h1, _⟩ := hka.ext ext_del
  refine ⟨_, rfl, _, rfl, a, _, dx, _, _, rfl, hp, T.cl_Kind, T.na_Kind_asks, rfl, p1, _, rfl, .inr h1, q, c, ns, _, b, rfl, hq, by omega, by rw [List.length_map]; omega, two9000 (by rw [List.length_map]; omega) (by rw [List.length_map]; omega), fun x G1 x0 x1 e1 hq1 => ?_⟩
  obtain ⟨dx, p1, p2, p3, p4, p5, hp, _, h2, _⟩ := hka.ext (ExtP.del e1)
  refine ⟨_, rfl, _, rfl, a, _, dx, _, _, rfl, hp, T.cl_Kind, T.na_Kind_answers, rfl, p2, _, rfl, .inr h2, q, c, ns, _, b + 1, rfl, hq1, by omega, by rw [List.length_map]; omega, two9000 (by rw [List.length_map]; omega) (by rw [List.length_map]; omega), fun y G2 y0 y1 e2 hq2 => ?_⟩
  rw [List.length_map] at x1 y1
  refine ⟨by show 2 ≤ sizeLine; decide, fun t ht => kk x y t _ x0 (by omega) y0 (by omega) ((e1.trans e2).trans (ExtP.of (Ext.upd ht))) ?_ upd_same (hq2.ext (Ext.upd ht))⟩
  by_cases ct : t = q
  · exact absurd ct (hq2.ne ht)
  · cases z : H t with
    | none => rfl
    | some o => rw [(e1.trans e2) _ _ ct z] at ht; cases ht
end
end K81

end
section
/-! K81s: the law's tables. -/
namespace K81
open PySem L2 Ow
open PySem.Spec PyProof.Rows
/-- one thing for each -/
theorem pick_all {α : Type} : ∀ {ys : List V} {R : Nat → V → α → Prop}, (∀ (i : Nat) y, ys[i]? = some y → ∃ a, R i y a) → ∃ as : List α, as.length = ys.length ∧ ∀ (i : Nat) y, ys[i]? = some y → ∃ a, as[i]? = some a ∧ R i y a
  | [], _, _ => ⟨[], rfl, fun i y e => by simp at e⟩
  | y :: ys, R, h => by
    obtain ⟨a, ha⟩ := h 0 y rfl
    obtain ⟨as, h1, h2⟩ := pick_all (ys := ys) (R := fun i => R (i + 1)) fun i y e => h (i + 1) y (by simpa using e)
    refine ⟨a :: as, by simp [h1], fun i z e => ?_⟩
    cases i with
    | zero =>
      cases e
      exact ⟨a, rfl, ha⟩
    | succ i => exact h2 i z (by simpa using e)
mutual
/-- data without lists -/
def tOnly : PyData → Bool
  | .list _ => false
  | .dict _ => false
  | .tuple ds => tOnlyAll ds
  | _ => true
def tOnlyAll : List PyData → Bool
  | [] => true
  | d :: ds => tOnly d && tOnlyAll ds
end
mutual
theorem Dp.delq {K : W.Frag} {H : Hp} {q : Addr} {zs : List V} (hq : H q = some (.lst zs)) : ∀ {d : PyData} {v : V}, tOnly d = true → Dp K H v d → Dp K (L2.del H q) v d
  | .none, _, _, h => by cases h; exact .non
  | .bool b, _, _, h => by cases h; exact .bl b
  | .int i, _, _, h => by cases h; exact .int i
  | .str x, _, _, h => by cases h; exact .str x
  | .list ds, _, t, _ => by simp [tOnly] at t
  | .tuple ds, _, t, h => by
    cases h with
    | tup p r => exact .tup (SqT.delq p hq) (DpAll.delq hq (by simpa [tOnly] using t) r)
  | .dict _, _, t, _ => by simp [tOnly] at t
theorem DpAll.delq {K : W.Frag} {H : Hp} {q : Addr} {zs : List V} (hq : H q = some (.lst zs)) : ∀ {ds : List PyData} {vs : List V}, tOnlyAll ds = true → DpAll K H vs ds → DpAll K (L2.del H q) vs ds
  | [], _, _, h => by cases h; exact .nil
  | d :: ds, _, t, h => by
    simp only [tOnlyAll, Bool.and_eq_true] at t
    cases h with
    | cons p r => exact .cons (Dp.delq hq t.1 p) (DpAll.delq hq t.2 r)
end
theorem tOnly_all {ds : List PyData} (h : ∀ d ∈ ds, tOnly d = true) : tOnlyAll ds = true := by
  induction ds with
  | nil => simp [tOnlyAll]
  | cons d r ih =>
    simp only [tOnlyAll, Bool.and_eq_true]
    exact ⟨h d List.mem_cons_self, ih fun x hx => h x (List.mem_cons_of_mem _ hx)⟩
theorem tOnly_P4 (p : P4) : tOnly p.dat = true := by simp [P4.dat, tOnly, tOnlyAll]
theorem dats_of {P : P4 → Prop} : ∀ {es : List PyData}, (∀ e ∈ es, ∃ p, P p ∧ e = P4.dat p) → ∃ ps : List P4, es = ps.map P4.dat ∧ ∀ p ∈ ps, P p
  | [], _ => ⟨[], rfl, fun p h => by simp at h⟩
  | e :: es, h => by
    obtain ⟨p, hp, rfl⟩ := h e List.mem_cons_self
    obtain ⟨ps, rfl, h2⟩ := dats_of (es := es) fun x hx => h x (List.mem_cons_of_mem _ hx)
    exact ⟨p :: ps, rfl, fun x hx => (List.mem_cons.mp hx).elim (fun z => by rw [z]; exact hp) (h2 x)⟩
def smallP (p : P4) : Prop := (0 ≤ p.a ∧ p.a < 20) ∧ (0 ≤ p.b ∧ p.b < 20) ∧ (0 ≤ p.c ∧ p.c < 20) ∧ (0 ≤ p.d ∧ p.d < 20)
section
variable {w : World} {K : W.Frag} {mg : Str → Option Value} {base : Heap}
def sp_law_table (K : W.Frag) : Sp := fun vs H Q _ => ∃ q c ns b a, ∃ k : KN, vs = [.ref q, .ref a] ∧ QAt K H q c ns b ∧ b ≤ 80000 ∧ KindAt K (L2.del H q) a k ∧ k ∈ lawKinds ∧ ∀ (p : Addr) (ps : List P4) (H' : Hp), ps.length ≤ 4 → (∀ x ∈ ps, smallP x) → ExtP q H H' → H p = none → Dp K (L2.del H' q) (.ref p) (.list (ps.map P4.dat)) → QAt K H' q c ns (b + 20) → Q (.ref p) H'
theorem c_law_table (T : Txt K mg) : Cal prg w K mg base CX0 3 "_law_table" ["_law_saddle_here", "_law_kind_here"] (sp_law_table K) := by
  refine T.d_law_table.cal sc_law_table (fun vs H Q E ⟨q, c, ns, b, a, k, e, _⟩ => by rw [e]; rfl) fun f cdv A outer s H vs Q E hr h => ?_
  have nd := sc_law_table.nd
  obtain ⟨q, c, ns, b, a, k, rfl, hq, hb, hka, hk, kk⟩ := h
  refine ⟨_, PSs.nox (pss_cons (ps_setLc (i := 2) (own := [("_law_turn", 3)]) (tt := tYes) (g := gName 3) rfl nd rfl rfl (sw_true rfl rfl rfl (by decide +kernel)) (pi_range1 rfl T.f_range (pa_cons (pe_cl (c_law_ride T) (hr.mono (by decide)) pass0 (pa_cons (pv 0) (pa_cons pe_int pa_nil))) pa_nil)) (blkOk_by (own := [("_law_turn", 3)]) (N := ["_law_saddle_here", "_law_kind_here", "_law_pairs", "_law_turn", "_law_pair"]) (sc := defScope s_law_table) (by decide +kernel)) (fun _ _ _ _ _ => (pg_name (i := 3) nd rfl (Or.inl rfl))) (fun _ _ _ _ _ => pts_nil) (fun _ _ _ _ _ => (pe_tup (pa_cons (pe_cl (c_law_operation T) (hr.mono (by decide)) pass0 (pa_cons (pv 0) (pa_cons (pv 1) pa_nil))) (pa_cons (pe_cl (c_law_operation T) (hr.mono (by decide)) pass0 (pa_cons (pv 0) (pa_cons (pv 1) pa_nil))) pa_nil)))))
      (pss_one (ps_ret (pe_callB (call_sortDA hr.units) (by rfl) T.f_sorted (by decide +kernel) (pa_cons (pe_callTy (call_listN rfl) (by rfl) T.f_list (by decide +kernel) (pa_cons (pe_callTy (call_dictN rfl hr.units) (by rfl) T.f_dict (by decide +kernel) (pa_cons (pe_lc (own := [("_law_pair", 4)]) (tt := tYes) (g := gName 4) rfl nd (pi_list (pv 2)) (blkOk_by (own := [("_law_pair", 4)]) (N := ["_law_saddle_here", "_law_kind_here", "_law_pairs", "_law_turn", "_law_pair"]) (sc := defScope s_law_table) (by decide +kernel)) (fun _ _ _ _ _ => (pg_name (i := 4) nd rfl (Or.inl rfl))) (fun _ _ _ _ _ => pts_nil) (fun _ _ _ _ _ => (pe_tup (pa_cons (pv 4) (pa_cons pe_bl pa_nil))))) pa_nil)) pa_nil)) pa_nil))))), ?_⟩
  refine cut_asg (fun v H' => ∃ (D : Addr) (ys : List V) (ps : List P4), v = .ref D ∧ ExtP q H H' ∧ QAt K H' q c ns (b + 20) ∧ H' D = some (.lst ys) ∧ DpAll K (L2.del H' q) ys (ps.map P4.dat) ∧ ps.length ≤ 4 ∧ ∀ x ∈ ps, smallP x) (fun Q1 k1 => ?_) fun v H1 ⟨D, ys, ps, ev, e1, hq1, hD, hA, hl, hsm⟩ => ?_
  · dsimp only [tRet, tRetN, tSeq, tAsg, tOp, tVar, tC, tCB, tCons, tNil, tAndV, tOrV, tNotV, tAnd, tOr, tNot, tTest, tIf, tIfS, tB, tChain, tSl, tPart, tNoPart, tLst, tTup, tFld, tCl, tMt, tMk, gName, tNext, tBM, tBM0, tUn, tSub, tPar, tPar3, gTup, gCons, gNil, tDrop, tMkS, tM1, sFld, StX.tStar, tYes, gSub, cxOf, Cx.wish, Cx.nox, Cx.blk]
    refine ⟨_, rfl, q, c, ns, 5, b, rfl, hq, by omega, by decide, by decide +kernel, fun n G1 n0 n5 e1 hq1 => ?_⟩
    refine ⟨n, rfl, by omega, by omega, fun D hD => ?_⟩
    obtain ⟨m, rfl⟩ := Int.eq_ofNat_of_zero_le n0
    refine turns_it (walk_range (lo := 0) (n := ((m : Nat) : Int).toNat)) (fun i G => ∃ (ys : List V) (ps : List P4), G D = some (.lst ys) ∧ ps.length = i ∧ DpAll K (L2.del (L2.del G D) q) ys (ps.map P4.dat) ∧ (∀ x ∈ ps, smallP x) ∧ ExtP q G1 G ∧ QAt K G q c ns (b + 1 + 4 * i))
      ⟨[], [], upd_same, rfl, .nil, fun x z => by simp at z, ExtP.of (Ext.upd hD), hq1.ext (Ext.upd hD)⟩ (fun _ _ _ _ => trivial) ?_ ?_
    · rintro i x G G' hi ⟨ys, ps, hG, lp, hA, hsm, e, hqG⟩ ⟨rfl, rfl⟩
      have hi4 : i < 4 := by
        have hi : i < m := hi
        omega
      have hDq : D ≠ q := hq1.ne hD
      dsimp only [tRet, tRetN, tSeq, tAsg, tOp, tVar, tC, tCB, tCons, tNil, tAndV, tOrV, tNotV, tAnd, tOr, tNot, tTest, tIf, tIfS, tB, tChain, tSl, tPart, tNoPart, tLst, tTup, tFld, tCl, tMt, tMk, gName, tNext, tBM, tBM0, tUn, tSub, tPar, tPar3, gTup, gCons, gNil, tDrop, tMkS, tM1, sFld, StX.tStar, tYes, gSub, cxOf, Cx.wish, Cx.nox, Cx.blk]
      refine ⟨rfl, ?_⟩
      rw [if_pos (rfl : true = true)]
      refine ⟨_, rfl, _, rfl, q, c, ns, b + 1 + 4 * i, a, k, rfl, hqG, by omega, hka.ext (ExtP.dels (e1.trans e)), hk, fun x1 y1 t1 G2 x10 x11 y10 y11 e2 n1 h1 hq2 => ?_⟩
      refine ⟨_, rfl, _, rfl, q, c, ns, b + 1 + 4 * i + 2, a, k, rfl, hq2, by omega, hka.ext (ExtP.dels ((e1.trans e).trans e2)), hk, fun x2 y2 t2 G3 x20 x21 y20 y21 e3 n2 h2 hq3 => ?_⟩
      refine ⟨by show 2 ≤ sizeLine; decide, fun t3 n3 => ?_⟩
      have hD3 := e3 _ _ hDq (e2 _ _ hDq hG)
      have c3 : t3 ≠ D := ne_of_none hD3 n3 |>.symm
      have c3q : t3 ≠ q := hq3.ne n3
      have c1 : t1 ≠ D := fun z => by rw [z, hG] at n1; cases n1
      have c1q : t1 ≠ q := hqG.ne n1
      have c2 : t2 ≠ D := fun z => by rw [z, e2 _ _ hDq hG] at n2; cases n2
      have c2q : t2 ≠ q := hq2.ne n2
      have h13 := e3 _ _ c1q h1
      have e4 := Ext.upd (o := HO.tup [.ref t1, .ref t2]) n3
      have off : ∀ o, L2.del (L2.del (upd (upd G3 t3 (HO.tup [.ref t1, .ref t2])) D o) D) q = L2.del (L2.del (upd G3 t3 (HO.tup [.ref t1, .ref t2])) D) q := fun o => by rw [del_upd]
      have ed : Ext (L2.del (L2.del G' D) q) (L2.del (L2.del (upd G3 t3 (HO.tup [.ref t1, .ref t2])) D) q) := fun b o hb => by
        have cb : b ≠ q := fun z => by rw [z, del_same] at hb; cases hb
        rw [del_ne cb] at hb
        have cd : b ≠ D := fun z => by rw [z, del_same] at hb; cases hb
        rw [del_ne cd] at hb
        rw [del_ne cb, del_ne cd]
        exact e4 _ _ (e3 _ _ cb (e2 _ _ cb hb))
      refine ⟨ys, e4 _ _ hD3, ?_, ys ++ [.ref t3], ps ++ [⟨x1, y1, x2, y2⟩], upd_same, by simp [lp], ?_, ?_, ?_, ?_⟩
      · have := DpAll.length hA
        rw [List.length_map] at this
        exact small_of (m := 60) (by omega)
      · rw [off, List.map_append]
        refine DpAll.app (DpAll.ext ed hA) (Ow.DpAll.one (.tup (xs := [.ref t1, .ref t2]) (SqT.of ?_) (.cons (.tup (xs := [.int x1, .int y1]) (SqT.of ?_) (.cons (.int _) (.cons (.int _) .nil))) (.cons (.tup (xs := [.int x2, .int y2]) (SqT.of ?_) (.cons (.int _) (.cons (.int _) .nil))) .nil))))
        · rw [del_ne c3q, del_ne c3, upd_same]
        · rw [del_ne c1q, del_ne c1]
          exact e4 _ _ h13
        · rw [del_ne c2q, del_ne c2]
          exact e4 _ _ h2
      · intro x hx
        rcases List.mem_append.mp hx with hx | hx
        · exact hsm x hx
        · cases List.mem_singleton.mp hx
          exact ⟨⟨x10, x11⟩, ⟨y10, y11⟩, ⟨x20, x21⟩, ⟨y20, y21⟩⟩
      · intro o u ho eo
        rw [upd_ne (ne_of_none eo hD)]
        exact e4 _ _ (e3 _ _ ho (e2 _ _ ho (e _ _ ho eo)))
      · exact (hq1.but (((e.trans e2).trans e3).trans (ExtP.of e4)) (hq3.ext e4) hD).mono (by omega)
    · rintro G ⟨ys, ps, hG, lp, hA, hsm, e, hqG⟩
      have lp : ps.length = m := lp
      refine k1 _ _ ⟨D, ys, ps, rfl, e1.trans e, hqG.mono (by rw [show ((m : Nat) : Int).toNat = m from rfl]; omega), hG, DpAll.ext (fun b o hb => ?_) hA, by omega, hsm⟩
      have cb : b ≠ q := fun z => by rw [z, del_same] at hb; cases hb
      rw [del_ne cb] at hb
      have cd : b ≠ D := fun z => by rw [z, del_same] at hb; cases hb
      rw [del_ne cd] at hb
      rw [del_ne cb]
      exact hb
  subst ev
  have lys : ys.length = ps.length := by rw [DpAll.length hA, List.length_map]
  dsimp only [tRet, tRetN, tSeq, tAsg, tOp, tVar, tC, tCB, tCons, tNil, tAndV, tOrV, tNotV, tAnd, tOr, tNot, tTest, tIf, tIfS, tB, tChain, tSl, tPart, tNoPart, tLst, tTup, tFld, tCl, tMt, tMk, gName, tNext, tBM, tBM0, tUn, tSub, tPar, tPar3, gTup, gCons, gNil, tDrop, tMkS, tM1, sFld, StX.tStar, tYes, gSub, cxOf, Cx.wish, Cx.nox, Cx.blk]
  refine ⟨_, rfl, D, rfl, ⟨ys, SqL.of hD⟩, fun D2 hD2 => ?_⟩
  refine lc_rel (walk_list (xs := ys)) (R := fun i y G => ∃ k T, y = .ref T ∧ ys[i]? = some (.ref k) ∧ G T = some (.tup [.ref k, .bl true])) hD2 (fun i y G G' e ⟨k, T, h1, h2, h3⟩ => ⟨k, T, h1, h2, e _ _ h3⟩) (small_of (m := 60) (by omega)) (fun G e => SqL.of (e _ _ hD)) (fun i H x H' y => by rw [y.1]; exact Ext.rfl') ?_ ?_
  · rintro i x G G' hi e nz ⟨rfl, hx1⟩ Q2 k2
    obtain ⟨d, hd, hp⟩ := DpAll.getV hA hx1
    rw [List.getElem?_map] at hd
    obtain ⟨p, hp', rfl⟩ := Option.map_eq_some_iff.mp hd
    obtain ⟨kx, xs, rfl, _⟩ := Dp.tupV hp
    dsimp only [tRet, tRetN, tSeq, tAsg, tOp, tVar, tC, tCB, tCons, tNil, tAndV, tOrV, tNotV, tAnd, tOr, tNot, tTest, tIf, tIfS, tB, tChain, tSl, tPart, tNoPart, tLst, tTup, tFld, tCl, tMt, tMk, gName, tNext, tBM, tBM0, tUn, tSub, tPar, tPar3, gTup, gCons, gNil, tDrop, tMkS, tM1, sFld, StX.tStar, tYes, gSub, cxOf, Cx.wish, Cx.nox, Cx.blk]
    refine ⟨rfl, _, rfl, by show 2 ≤ sizeLine; decide, fun t ht => k2 _ _ (Ext.upd ht) ⟨kx, t, rfl, hx1, ?_⟩⟩
    rw [del_ne (fun z => nz (by rw [← z]; exact ht)), upd_same]
  · intro zs G hz1 hz2 e hDz
    obtain ⟨L, hL1, hL2⟩ := pick_all (ys := zs) (R := fun i z (pk : PkT) => z = .ref pk.T ∧ G pk.T = some (.tup [.ref pk.k, .bl true]) ∧ ys[i]? = some (.ref pk.k) ∧ ps[i]? = some pk.p) fun i z hz => by
      obtain ⟨kx, T', h1, h2, h3⟩ := hz2 i z hz
      obtain ⟨d, hd, hp⟩ := DpAll.getV hA h2
      rw [List.getElem?_map] at hd
      obtain ⟨p, hp', rfl⟩ := Option.map_eq_some_iff.mp hd
      exact ⟨⟨T', kx, p⟩, h1, ext_del _ _ h3, h2, hp'⟩
    have ez : zs = L.map fun z => V.ref z.T := map_of hL1.symm fun i y hy => by
      obtain ⟨pk, h1, h2, _⟩ := hL2 i y hy
      exact ⟨pk, h1, h2⟩
    have hLm : ∀ z ∈ L, G z.T = some (.tup [.ref z.k, .bl true]) ∧ Dp K (L2.del H1 q) (.ref z.k) z.p.dat ∧ z.p ∈ ps := fun z hz => by
      obtain ⟨i, hi⟩ := List.getElem?_of_mem hz
      have hil : i < zs.length := by
        rw [← hL1]
        exact (List.getElem?_eq_some_iff.mp hi).1
      obtain ⟨pk, h1, h2, h3, h4, h5⟩ := hL2 i zs[i] (List.getElem?_eq_getElem hil)
      rw [hi] at h1
      cases h1
      obtain ⟨d, hd, hp⟩ := DpAll.getV hA h4
      rw [List.getElem?_map, h5] at hd
      cases hd
      exact ⟨h3, hp, List.mem_of_getElem? h5⟩
    have eG : Ext (L2.del H1 q) G := ext_del.trans e
    have lL : L.length ≤ 4 := by
      rw [hL1, hz1, lys]
      exact hl
    refine ⟨D2, L, rfl, SqL.of (by rw [hDz, ez]), by omega, fun z hz => ⟨SqT.of (hLm z hz).1, Dp.ext eG (hLm z hz).2.1⟩, fun D3 n3 => ?_⟩
    refine ⟨D3, _, rfl, upd_same, by rw [List.length_map]; omega, fun l ls nl hls hll => ?_⟩
    rw [List.length_map] at hll
    have e5 : Ext (L2.del H1 q) (upd (upd G D3 (.ext (DKeys D3 (L.map (·.k))))) l (.lst (ls.map V.ref))) := eG.trans ((Ext.upd n3).trans (Ext.upd nl))
    obtain ⟨qs, hq1', hq2'⟩ := pick_all (ys := ls.map V.ref) (R := fun i z (p : P4) => Dp K (L2.del H1 q) z p.dat ∧ p ∈ ps) fun i z hz => by
      rw [List.getElem?_map] at hz
      obtain ⟨x, hx, rfl⟩ := Option.map_eq_some_iff.mp hz
      obtain ⟨pk, hpk, rfl⟩ := List.mem_map.mp (hls x (List.mem_of_getElem? hx))
      exact ⟨pk.p, (hLm pk hpk).2⟩
    have hqm : ∀ p ∈ qs, p ∈ ps := fun p hp => by
      obtain ⟨i, hi⟩ := List.getElem?_of_mem hp
      have hil : i < (ls.map V.ref).length := by
        rw [← hq1']
        exact (List.getElem?_eq_some_iff.mp hi).1
      obtain ⟨p', h1, h2, h3⟩ := hq2' i _ (List.getElem?_eq_getElem hil)
      rw [hi] at h1
      cases h1
      exact h3
    refine ⟨l, ls.map V.ref, qs.map P4.dat, rfl, SqL.of upd_same, dps_of (by rw [List.length_map, List.length_map, hq1', List.length_map]) (fun i y hy => ?_), ?_, .inl ?_, by rw [List.length_map]; omega, ?_, fun us es p hu hU hes np => ?_⟩
    · obtain ⟨p', h1, h2, _⟩ := hq2' i y hy
      exact ⟨_, by rw [List.getElem?_map, h1]; rfl, Dp.ext e5 h2⟩
    · intro d hd d' hd'
      obtain ⟨p1, _, rfl⟩ := List.mem_map.mp hd
      obtain ⟨p2, _, rfl⟩ := List.mem_map.mp hd'
      exact P4_alike p1 p2
    · intro d hd
      obtain ⟨p1, _, rfl⟩ := List.mem_map.mp hd
      exact ⟨_, _, rfl⟩
    · intro d hd
      obtain ⟨p1, _, rfl⟩ := List.mem_map.mp hd
      simp [P4.dat, PyData.depth, PyData.depthAll]
    · obtain ⟨rs, rfl, hrs⟩ := dats_of (P := fun p => p ∈ ps) fun e he => by
        obtain ⟨p', hp', rfl⟩ := List.mem_map.mp (hes e he)
        exact ⟨p', hqm p' hp', rfl⟩
      have e6 : Ext H1 (upd (upd (upd G D3 (.ext (DKeys D3 (L.map (·.k))))) l (.lst (ls.map V.ref))) p (.lst us)) := e.trans ((Ext.upd n3).trans ((Ext.upd nl).trans (Ext.upd np)))
      have hq6 := hq1.ext e6
      obtain ⟨xq, hxq⟩ := hq6.here
      have hqb : QAt K (upd (upd G D3 (.ext (DKeys D3 (L.map (·.k))))) l (.lst (ls.map V.ref))) q c ns (b + 20) := hq1.ext (e.trans ((Ext.upd n3).trans (Ext.upd nl)))
      have cp : p ≠ q := hqb.ne np
      refine kk p rs _ ?_ (fun x hx => hsm x (hrs x hx)) (e1.trans (ExtP.of e6)) ?_ ?_ hq6
      · have h1 := DpAll.length hU
        rw [List.length_map, hu, List.length_map] at h1
        omega
      · cases z : H p with
        | none => rfl
        | some o => rw [(e.trans ((Ext.upd n3).trans (Ext.upd nl))) _ _ (e1 _ _ cp z)] at np; cases np
      · refine .lst (SqL.of (by rw [del_ne cp, upd_same])) (DpAll.delq hxq (tOnly_all fun d hd => ?_) (DpAll.ext (Ext.upd np) hU))
        obtain ⟨p1, _, rfl⟩ := List.mem_map.mp hd
        exact tOnly_P4 p1
end
end K81

end
section
/-! K81t: the law's houses. -/
namespace K81
open PySem L2 Ow
open PySem.Spec PyProof.Rows
abbrev HouseD := KN × Str × List P4
def fineH (h : HouseD) : Prop := h.1 ∈ lawKinds ∧ isWay h.2.1 = true ∧ h.2.2.length ≤ 4 ∧ ∀ x ∈ h.2.2, smallP x
/-- a drawn house stands at x, a list -/
def DrawnH (K : W.Frag) (H : Hp) (x : V) (h : HouseD) : Prop := ∃ a ka tv, x = .ref a ∧ H a = some (.lst [.ref ka, .str h.2.1, tv]) ∧ KindAt K H ka h.1 ∧ Dp K H tv (.list (h.2.2.map P4.dat)) ∧ fineH h
theorem DrawnH.ext {K : W.Frag} {H H' : Hp} {x : V} {h : HouseD} (g : DrawnH K H x h) (e : Ext H H') : DrawnH K H' x h := by
  obtain ⟨a, ka, tv, h1, h2, h3, h4, h5⟩ := g
  exact ⟨a, ka, tv, h1, e _ _ h2, h3.ext e, Dp.ext e h4, h5⟩
theorem Each.snoc {α : Type} {R : V → α → Prop} {xs : List V} {hs : List α} {x : V} {a : α} (h : Each R xs hs) (hx : R x a) : Each R (xs ++ [x]) (hs ++ [a]) := ⟨by simp [h.1], fun i y e => by
  by_cases c : i < xs.length
  · rw [List.getElem?_append_left c] at e
    obtain ⟨b, h1, h2⟩ := h.2 i y e
    exact ⟨b, by rw [List.getElem?_append_left (by rw [← h.1]; exact c)]; exact h1, h2⟩
  · rw [List.getElem?_append_right (by omega)] at e
    have c2 : i = xs.length := by
      by_cases c3 : i - xs.length = 0
      · omega
      · rw [List.getElem?_eq_none (by simp; omega)] at e
        cases e
    subst c2
    rw [Nat.sub_self] at e
    cases e
    exact ⟨a, by rw [h.1, List.getElem?_append_right (Nat.le_refl _), Nat.sub_self]; rfl, hx⟩⟩
theorem del2 {H H' : Hp} {D q : Addr} (e : ∀ b o, b ≠ q → b ≠ D → H b = some o → H' b = some o) : Ext (L2.del (L2.del H D) q) (L2.del (L2.del H' D) q) := fun b o hb => by
  have cb : b ≠ q := fun z => by rw [z, del_same] at hb; cases hb
  rw [del_ne cb] at hb
  have cd : b ≠ D := fun z => by rw [z, del_same] at hb; cases hb
  rw [del_ne cd] at hb
  rw [del_ne cb, del_ne cd]
  exact e b o cb cd hb
theorem del_comm {H : Hp} {D q : Addr} : L2.del (L2.del H q) D = L2.del (L2.del H D) q := by
  funext b
  by_cases c1 : b = D
  · subst c1
    by_cases c2 : b = q
    · subst c2
      rfl
    · rw [del_same, del_ne c2, del_same]
  · by_cases c2 : b = q
    · subst c2
      rw [del_ne c1, del_same, del_same]
    · rw [del_ne c1, del_ne c2, del_ne c2, del_ne c1]
theorem SqL.delne {K : W.Frag} {H : Hp} {D a : Addr} {xs : List V} (c : a ≠ D) (h : SqL K H a xs) : SqL K (L2.del H D) a xs := by
  rcases h with (h | ⟨o, h⟩) | h
  · exact .inl (.inl (by rw [del_ne c]; exact h))
  · exact .inl (.inr ⟨o, by rw [del_ne c]; exact h⟩)
  · exact .inr h
theorem none_extP {q D : Addr} {H H' : Hp} (e : ExtP q H H') (hD : H' D = none) (c : D ≠ q) : H D = none := by
  cases z : H D with
  | none => rfl
  | some o => rw [e _ _ c z] at hD; cases hD
section
variable {w : World} {K : W.Frag} {mg : Str → Option Value} {base : Heap}
def sp_law_houses (K : W.Frag) : Sp := fun vs H Q _ => ∃ q c ns b, vs = [.ref q] ∧ QAt K H q c ns b ∧ b ≤ 70000 ∧ ∀ (t : Addr) (xs : List V) (hs : List HouseD) (H' : Hp), ExtP q H H' → H t = none → H' t = some (.lst xs) → Each (DrawnH K (L2.del (L2.del H' t) q)) xs hs → 1 ≤ hs.length → hs.length ≤ 4 → QAt K H' q c ns (b + 100) → Q (.ref t) H'
theorem c_law_houses (T : Txt K mg) : Cal prg w K mg base CX0 10 "_law_houses" ["_law_saddle_here"] (sp_law_houses K) := by
  refine T.d_law_houses.cal sc_law_houses (fun vs H Q E ⟨q, c, ns, b, e, _⟩ => by rw [e]; rfl) fun f cdv A outer s H vs Q E hr h => ?_
  have nd := sc_law_houses.nd
  obtain ⟨q, c, ns, b, rfl, hq, hb, kk⟩ := h
  refine ⟨_, PSs.nox (pss_cons (ps_set (i := 1) nd rfl (Or.inl rfl) (pe_lst pa_nil))
      (pss_cons (ps_for PassesOwn.never rfl (pi_range1 rfl T.f_range (pa_cons (pe_op op_add pe_int (pe_cl (c_law_ride T) (hr.mono (by decide)) pass0 (pa_cons (pv 0) (pa_cons pe_int pa_nil)))) pa_nil)) (pg_name (i := 2) nd rfl (Or.inl rfl)) (pss_cons (ps_par (i := 3) (j := 4) rfl nd rfl rfl (by decide) rfl rfl (pa_cons (pe_cl (c_law_kind T) (hr.mono (by decide)) pass0 (pa_cons (pv 0) pa_nil)) (pa_cons (pe_cl (c_law_pick T) (hr.mono (by decide)) pass0 (pa_cons (pv 0) (pa_cons (pe_lst (pa_cons pe_str (pa_cons pe_str (pa_cons pe_str pa_nil)))) pa_nil))) pa_nil)) (by rfl))
      (pss_one (ps_expr (pe_bm PySem.F.plainAttrs_list PySem.F.slot_list_append PySem.F.type_list_append mt_append (pv 1) (pa_cons (pe_lst (pa_cons (pv 3) (pa_cons (pv 4) (pa_cons (pe_ifExp (pt_cmpR op_ne (pv 4) pe_str (nomark _)) (pe_cl (c_law_table T) (hr.mono (by decide)) pass0 (pa_cons (pv 0) (pa_cons (pv 3) pa_nil))) (pe_lst pa_nil)) pa_nil)))) pa_nil))))))
      (pss_one (ps_ret (pv 1))))), ?_⟩
  dsimp only [tRet, tRetN, tSeq, tAsg, tOp, tVar, tC, tCB, tCons, tNil, tAndV, tOrV, tNotV, tAnd, tOr, tNot, tTest, tIf, tIfS, tB, tChain, tSl, tPart, tNoPart, tLst, tTup, tFld, tCl, tMt, tMk, gName, tNext, tBM, tBM0, tUn, tSub, tPar, tPar3, gTup, gCons, gNil, tDrop, tMkS, tM1, sFld, StX.tStar, tYes, gSub, cxOf, Cx.wish, Cx.nox, Cx.blk]
  refine ⟨Nat.zero_le _, fun D hD => ?_⟩
  have hDq : D ≠ q := hq.ne hD
  refine ⟨_, rfl, q, c, ns, 4, b, rfl, hq.ext (Ext.upd hD), by omega, by decide, two9000 (by decide) (by decide), fun n G1 n0 n4 e1 hq1 => ?_⟩
  obtain ⟨m, rfl⟩ := Int.eq_ofNat_of_zero_le n0
  refine ⟨_, _, rfl, rfl, _, rfl, by omega, by omega, ?_⟩
  have e01 : ExtP q H G1 := (ExtP.of (Ext.upd hD)).trans e1
  refine for_it (walk_range (lo := 0) (n := (1 + (m : Int)).toNat)) (fun i σ' G => (∃ r2 r3 r4, σ' = [some (.ref q), some (.ref D), r2, r3, r4]) ∧ ∃ xs hs, G D = some (.lst xs) ∧ hs.length = i ∧ Each (DrawnH K (L2.del (L2.del G D) q)) xs hs ∧ ExtP q H G ∧ QAt K G q c ns (b + 1 + 24 * i))
    ⟨⟨_, _, _, rfl⟩, [], [], e1 _ _ hDq upd_same, rfl, ⟨rfl, fun i x e => by simp at e⟩, e01, hq1⟩ (fun _ _ _ _ _ => trivial) ?_ ?_
  · rintro i x σ' G G' hi ⟨⟨r2, r3, r4, rfl⟩, xs, hs, hG, lh, hE, e, hqG⟩ ⟨rfl, rfl⟩
    have hi4 : i < 4 := by omega
    dsimp only [tRet, tRetN, tSeq, tAsg, tOp, tVar, tC, tCB, tCons, tNil, tAndV, tOrV, tNotV, tAnd, tOr, tNot, tTest, tIf, tIfS, tB, tChain, tSl, tPart, tNoPart, tLst, tTup, tFld, tCl, tMt, tMk, gName, tNext, tBM, tBM0, tUn, tSub, tPar, tPar3, gTup, gCons, gNil, tDrop, tMkS, tM1, sFld, StX.tStar, tYes, gSub, cxOf, Cx.wish, Cx.nox, Cx.blk]
    have fin : ∀ (G4 : Hp) (ka : Addr) (kn : KN) (x : Str) (tv : V) (ps : List P4) (b4 : Nat) (h : Addr) (s5 : L2.St), (∃ r2 r3 r4, s5 = [some (.ref q), some (.ref D), r2, r3, r4]) → ExtP q G' G4 → KindAt K (L2.del (L2.del G4 D) q) ka kn → Dp K (L2.del (L2.del G4 D) q) tv (.list (ps.map P4.dat)) → fineH (kn, x, ps) → QAt K G4 q c ns b4 → b4 ≤ b + 1 + 24 * (i + 1) → G4 h = none →
        rAppend (.ref D) [.ref h] (upd G4 h (.lst [.ref ka, .str x, tv])) (fun _ G => (∃ r2 r3 r4, s5 = [some (.ref q), some (.ref D), r2, r3, r4]) ∧ ∃ xs hs, G D = some (.lst xs) ∧ hs.length = i + 1 ∧ Each (DrawnH K (L2.del (L2.del G D) q)) xs hs ∧ ExtP q H G ∧ QAt K G q c ns (b + 1 + 24 * (i + 1))) := by
      intro G4 ka kn x tv ps b4 h s5 hs5 e4 hka htv hf hq4 hb4 nh
      have hD4 := e4 _ _ hDq hG
      have ch : h ≠ D := (ne_of_none hD4 nh).symm
      have chq : h ≠ q := hq4.ne nh
      have e5 := Ext.upd (o := HO.lst [.ref ka, .str x, tv]) nh
      refine ⟨D, xs, .ref h, rfl, rfl, e5 _ _ hD4, small_of (m := 60) (by rw [hE.1]; omega), hs5, xs ++ [.ref h], hs ++ [(kn, x, ps)], upd_same, by simp [lh], ?_, ?_, ?_⟩
      · rw [del_upd]
        refine Each.snoc (hE.imp fun y a z => z.ext (del2 fun b o c1 _ hb => e5 _ _ (e4 _ _ c1 hb))) ⟨h, ka, tv, rfl, ?_, ?_, ?_, hf⟩
        · rw [del_ne chq, del_ne ch, upd_same]
        · exact hka.ext (del2 fun b o _ _ hb => e5 _ _ hb)
        · exact Dp.ext (del2 fun b o _ _ hb => e5 _ _ hb) htv
      · intro o u ho eo
        rw [upd_ne (ne_of_none eo hD)]
        exact e5 _ _ (e4 _ _ ho (e _ _ ho eo))
      · exact (hq.but ((e.trans e4).trans (ExtP.of e5)) (hq4.ext e5) hD).mono hb4
    refine ⟨_, rfl, q, c, ns, b + 1 + 24 * i, rfl, hqG, by omega, fun ka kn G2 hkn e2 hka hq2 => ?_⟩
    have hkD : KindAt K (L2.del (L2.del G2 D) q) ka kn := by
      rw [← del_comm]
      exact hka.delq (by rw [del_ne hDq]; exact e2 _ _ hDq hG)
    refine ⟨_, rfl, by show 3 ≤ sizeLine; decide, fun W nW => ?_⟩
    have cW : W ≠ q := hq2.ne nW
    refine ⟨q, c, ns, W, _, b + 1 + 24 * i + 1, rfl, hq2.ext (Ext.upd nW), by omega, fun H' e => SqL.of (e _ _ cW upd_same), by show 0 < 3; decide, by show 3 ≤ 1000; decide, fun j v G3 hv e3 hq3 => ?_⟩
    have e23 : ExtP q G2 G3 := (ExtP.of (Ext.upd nW)).trans e3
    have hway : ∃ x : Str, v = .str x ∧ isWay x = true := by
      match j, hv with
      | 0, hv => cases hv; exact ⟨_, rfl, by decide +kernel⟩
      | 1, hv => cases hv; exact ⟨_, rfl, by decide +kernel⟩
      | 2, hv => cases hv; exact ⟨_, rfl, by decide +kernel⟩
    obtain ⟨x, rfl, hx⟩ := hway
    have hk3 : KindAt K (L2.del (L2.del G3 D) q) ka kn := hkD.ext (del2 fun b o c1 _ hb => e23 _ _ c1 hb)
    have hD3 := e23 _ _ hDq (e2 _ _ hDq hG)
    refine ⟨_, _, rfl, _, rfl, .inl ⟨rfl, _, SqL.of hD3⟩, _, rfl, _, rfl, _, rfl, rfl, _, rfl, ?_⟩
    rw [dec_str]
    by_cases cw : x = "watched"
    · refine if_f (by simp [cw]) ⟨Nat.zero_le _, fun E0' nE => ⟨by show 3 ≤ sizeLine; decide, fun h nh => ?_⟩⟩
      have eE := Ext.upd (o := HO.lst []) nE
      have cE : E0' ≠ q := hq3.ne nE
      have cED : E0' ≠ D := (ne_of_none hD3 nE).symm
      exact fin _ ka kn x (.ref E0') [] (b + 1 + 24 * i + 2) h _ ⟨_, _, _, rfl⟩ ((e2.trans e23).trans (ExtP.of eE)) (hk3.ext (del2 fun b o _ _ hb => eE _ _ hb)) (.lst (SqL.of (by rw [del_ne cE, del_ne cED, upd_same])) .nil) ⟨hkn, hx, Nat.zero_le _, fun x hx => by simp at hx⟩ (hq3.ext eE) (by omega) nh
    · refine if_t (by simp [cw]) ⟨_, rfl, _, rfl, q, c, ns, b + 1 + 24 * i + 2, ka, kn, rfl, hq3, by omega, hka.ext (ExtP.dels e23), hkn, fun p ps G4 hps hsm e4 np hdp hq4 => ⟨by show 3 ≤ sizeLine; decide, fun h nh => ?_⟩⟩
      have cp : p ≠ D := (ne_of_none hD3 np).symm
      refine fin _ ka kn x (.ref p) ps (b + 1 + 24 * i + 2 + 20) h _ ⟨_, _, _, rfl⟩ ((e2.trans e23).trans e4) (hk3.ext (del2 fun b o c1 _ hb => e4 _ _ c1 hb)) ?_ ⟨hkn, hx, hps, hsm⟩ hq4 (by omega) nh
      obtain ⟨p', ys, ep, hp', hA⟩ := Dp.lstV hdp
      cases ep
      rw [← del_comm]
      have hD4 : L2.del G4 q D = some (.lst xs) := by
        rw [del_ne hDq]
        exact e4 _ _ hDq hD3
      refine .lst (SqL.delne cp hp') (DpAll.delq hD4 (tOnly_all fun d hd => ?_) hA)
      obtain ⟨p1, _, rfl⟩ := List.mem_map.mp hd
      exact tOnly_P4 p1
  · rintro σ' G ⟨⟨r2, r3, r4, rfl⟩, xs, hs, hG, lh, hE, e, hqG⟩
    dsimp only [tRet, tRetN, tSeq, tAsg, tOp, tVar, tC, tCB, tCons, tNil, tAndV, tOrV, tNotV, tAnd, tOr, tNot, tTest, tIf, tIfS, tB, tChain, tSl, tPart, tNoPart, tLst, tTup, tFld, tCl, tMt, tMk, gName, tNext, tBM, tBM0, tUn, tSub, tPar, tPar3, gTup, gCons, gNil, tDrop, tMkS, tM1, sFld, StX.tStar, tYes, gSub, cxOf, Cx.wish, Cx.nox, Cx.blk]
    exact ⟨_, rfl, kk D xs hs G e hD hG hE (by omega) (by omega) (hqG.mono (by omega))⟩
end
end K81

end
section
/-! K81u: the law's deals, hands. -/
namespace K81
open PySem L2 Ow
open PySem.Spec PyProof.Rows
/-- what is new since B -/
def nw (B G : Hp) : Hp := over H00 B G
theorem nw_at {B G : Hp} {b : Addr} (h : B b = none) : nw B G b = G b := over_new h
theorem nw_new {B G : Hp} {b : Addr} {o : HO} (h : nw B G b = some o) : B b = none ∧ G b = some o := by
  cases c : B b with
  | none =>
    rw [nw_at c] at h
    exact ⟨rfl, h⟩
  | some u =>
    rw [nw, over_old c] at h
    cases h
theorem nw_mono {B G G2 : Hp} (e : ∀ b o, B b = none → G b = some o → G2 b = some o) : Ext (nw B G) (nw B G2) := fun b o h => by
  obtain ⟨h1, h2⟩ := nw_new h
  rw [nw_at h1]
  exact e b o h1 h2
theorem nw_sub {B G G2 : Hp} (e : ∀ b o, B b = some o → G b ≠ none) : Ext (nw G G2) (nw B G2) := fun b o h => by
  obtain ⟨h1, h2⟩ := nw_new h
  have hB : B b = none := by
    cases c : B b with
    | none => rfl
    | some u => exact absurd h1 (e b u c)
  rw [nw_at hB]
  exact h2
theorem nw_ext {B G : Hp} : Ext (nw B G) G := fun b o h => (nw_new h).2
theorem nw_delq {B G : Hp} {q : Addr} (h : B q ≠ none) : Ext (nw B G) (L2.del G q) := fun b o hb => by
  obtain ⟨h1, h2⟩ := nw_new hb
  rw [del_ne (fun z => h (by rw [← z]; exact h1))]
  exact h2
abbrev StepP := Int × Int
def stepL (s : StepP) : PyData := .list [.int s.1, .int s.2]
def dealL (l : List StepP) : PyData := .list (l.map stepL)
def handL (l : List (List StepP)) : PyData := .list (l.map dealL)
def smallS (s : StepP) : Prop := (0 ≤ s.1 ∧ s.1 < 20) ∧ (0 ≤ s.2 ∧ s.2 < 20)
def fineDeal (l : List StepP) : Prop := 1 ≤ l.length ∧ l.length ≤ 6 ∧ ∀ s ∈ l, smallS s
section
variable {w : World} {K : W.Frag} {mg : Str → Option Value} {base : Heap}
def sp_law_deal (K : W.Frag) : Sp := fun vs H Q _ => ∃ (q c : Addr) (ns : List Int) (b : Nat) (t : Addr) (xs : List V) (hs : List HouseD), vs = [.ref q, .ref t] ∧ QAt K H q c ns b ∧ b ≤ 60000 ∧ t ≠ q ∧ H t = some (.lst xs) ∧ Each (DrawnH K (L2.del (L2.del H t) q)) xs hs ∧ 1 ≤ hs.length ∧ hs.length ≤ 4 ∧
  ∀ (p : Addr) (l : List StepP) (H' : Hp), ExtP q H H' → H p = none → fineDeal l → Dp K (nw H H') (.ref p) (dealL l) → QAt K H' q c ns (b + 13) → Q (.ref p) H'
theorem c_law_deal (T : Txt K mg) : Cal prg w K mg base CX0 2 "_law_deal" ["_law_saddle_here", "_law_houses_here"] (sp_law_deal K) := by
  refine T.d_law_deal.cal sc_law_deal (fun vs H Q E ⟨q, c, ns, b, t, xs, hs, e, _⟩ => by rw [e]; rfl) fun f cdv A outer s H vs Q E hr h => ?_
  have nd := sc_law_deal.nd
  obtain ⟨q, c, ns, b, t, xs, hs, rfl, hq, hb, ct, ht, hE, l1, l4, kk⟩ := h
  refine ⟨_, PSs.nox (pss_cons (ps_set (i := 2) nd rfl (Or.inl rfl) (pe_lst pa_nil))
      (pss_cons (ps_for PassesOwn.never rfl (pi_range1 rfl T.f_range (pa_cons (pe_op op_add pe_int (pe_cl (c_law_ride T) (hr.mono (by decide)) pass0 (pa_cons (pv 0) (pa_cons pe_int pa_nil)))) pa_nil)) (pg_name (i := 3) nd rfl (Or.inl rfl)) (pss_cons (ps_set (i := 4) nd rfl (Or.inl rfl) (pe_cl (c_law_ride T) (hr.mono (by decide)) pass0 (pa_cons (pv 0) (pa_cons (pe_callB call_len_seq (by rfl) T.f_len (by decide +kernel) (pa_cons (pv 1) pa_nil)) pa_nil))))
      (pss_one (ps_expr (pe_bm PySem.F.plainAttrs_list PySem.F.slot_list_append PySem.F.type_list_append mt_append (pv 2) (pa_cons (pe_lst (pa_cons (pv 4) (pa_cons (pe_cl (c_law_ride T) (hr.mono (by decide)) pass0 (pa_cons (pv 0) (pa_cons (pe_callB call_len_seq (by rfl) T.f_len (by decide +kernel) (pa_cons (pe_fld (pe_ix ix_list (pe_ix ix_list (pv 1) (pv 4) (fun _ _ => rfl)) pe_int (fun _ _ => rfl)) rfl) pa_nil)) pa_nil))) pa_nil))) pa_nil))))))
      (pss_one (ps_ret (pv 2))))), ?_⟩
  obtain ⟨xq, hxq⟩ := hq.here
  have hqn : H q ≠ none := by rw [hxq]; exact fun z => by cases z
  dsimp only [tRet, tRetN, tSeq, tAsg, tOp, tVar, tC, tCB, tCons, tNil, tAndV, tOrV, tNotV, tAnd, tOr, tNot, tTest, tIf, tIfS, tB, tChain, tSl, tPart, tNoPart, tLst, tTup, tFld, tCl, tMt, tMk, gName, tNext, tBM, tBM0, tUn, tSub, tPar, tPar3, gTup, gCons, gNil, tDrop, tMkS, tM1, sFld, StX.tStar, tYes, gSub, cxOf, Cx.wish, Cx.nox, Cx.blk]
  refine ⟨Nat.zero_le _, fun D hD => ?_⟩
  have hDq : D ≠ q := hq.ne hD
  refine ⟨_, rfl, q, c, ns, 6, b, rfl, hq.ext (Ext.upd hD), by omega, by decide, two9000 (by decide) (by decide), fun n G1 n0 n4 e1 hq1 => ?_⟩
  obtain ⟨m, rfl⟩ := Int.eq_ofNat_of_zero_le n0
  refine ⟨_, _, rfl, rfl, _, rfl, by omega, by omega, ?_⟩
  have e01 : ExtP q H G1 := (ExtP.of (Ext.upd hD)).trans e1
  refine for_it (walk_range (lo := 0) (n := (1 + (m : Int)).toNat)) (fun i σ' G => (∃ r3 r4, σ' = [some (.ref q), some (.ref t), some (.ref D), r3, r4]) ∧ ∃ (ys : List V) (l : List StepP), G D = some (.lst ys) ∧ l.length = i ∧ DpAll K (nw H (L2.del G D)) ys (l.map stepL) ∧ (∀ s ∈ l, smallS s) ∧ ExtP q H G ∧ QAt K G q c ns (b + 1 + 2 * i))
    ⟨⟨_, _, rfl⟩, [], [], e1 _ _ hDq upd_same, rfl, .nil, fun s z => by simp at z, e01, hq1⟩ (fun _ _ _ _ _ => trivial) ?_ ?_
  · rintro i x σ' G G' hi ⟨⟨r3, r4, rfl⟩, ys, l, hG, ll, hA, hsm, e, hqG⟩ ⟨rfl, rfl⟩
    have hi6 : i < 6 := by omega
    have hDp : ∀ b o, H b = some o → G' b ≠ none := fun b o h => by
      by_cases cb : b = q
      · subst cb
        obtain ⟨y, hy⟩ := hqG.here
        rw [hy]
        exact fun z => by cases z
      · rw [e _ _ cb h]
        exact fun z => by cases z
    have lx : xs.length = hs.length := hE.1
    dsimp only [tRet, tRetN, tSeq, tAsg, tOp, tVar, tC, tCB, tCons, tNil, tAndV, tOrV, tNotV, tAnd, tOr, tNot, tTest, tIf, tIfS, tB, tChain, tSl, tPart, tNoPart, tLst, tTup, tFld, tCl, tMt, tMk, gName, tNext, tBM, tBM0, tUn, tSub, tPar, tPar3, gTup, gCons, gNil, tDrop, tMkS, tM1, sFld, StX.tStar, tYes, gSub, cxOf, Cx.wish, Cx.nox, Cx.blk]
    refine ⟨_, rfl, _, rfl, t, xs, rfl, .inl (SqL.of (e _ _ ct ht)), q, c, ns, _, b + 1 + 2 * i, rfl, hqG, by omega, by omega, two9000 (by omega) (by omega), fun hn G2 h0 h4 e2 hq2 => ?_⟩
    obtain ⟨j, rfl⟩ := Int.eq_ofNat_of_zero_le h0
    have hj : j < xs.length := by omega
    have e02 := e.trans e2
    obtain ⟨hd, hhd, a, ka, tv, hxa, ha, hka, _, hfine⟩ := hE.2 j xs[j] (List.getElem?_eq_getElem hj)
    have hcq : a ≠ q := fun z => by rw [z, del_same] at ha; cases ha
    have hct : a ≠ t := fun z => by rw [z, del_ne ct, del_same] at ha; cases ha
    have ha2 : G2 a = some (.lst [.ref ka, .str hd.2.1, tv]) := by
      rw [del_ne hcq, del_ne hct] at ha
      exact e02 _ _ hcq ha
    obtain ⟨_, k1, k2, k3, k4⟩ := lawKind_len hfine.1
    obtain ⟨dx, p1, p2, p3, p4, p5, hp, h1, _⟩ := hka.ext (show Ext (L2.del (L2.del H t) q) G2 from fun b o hb => by
      have cb : b ≠ q := fun z => by rw [z, del_same] at hb; cases hb
      rw [del_ne cb] at hb
      exact e02 _ _ cb (ext_del _ _ hb))
    have hD2 := e2 _ _ hDq hG
    refine ⟨_, rfl, .inl ⟨rfl, _, SqL.of hD2⟩, _, rfl, _, rfl, _, rfl, _, rfl, t, xs, _, xs[j], rfl, rfl, SqL.of (e02 _ _ ct ht), atI_nat (List.getElem?_eq_getElem hj), ?_⟩
    rw [hxa]
    refine ⟨a, _, _, _, rfl, rfl, SqL.of ha2, at0, ka, _, dx, _, _, rfl, hp, T.cl_Kind, T.na_Kind_asks, rfl, p1, _, rfl, .inr h1, q, c, ns, _, b + 1 + 2 * i + 1, rfl, hq2, by omega, by rw [List.length_map]; omega, two9000 (by rw [List.length_map]; omega) (by rw [List.length_map]; omega), fun y G3 y0 y1 e3 hq3 => ?_⟩
    rw [List.length_map] at y1
    refine ⟨by show 2 ≤ sizeLine; decide, fun h nh => ?_⟩
    have hD3 := e3 _ _ hDq hD2
    have ch : h ≠ D := (ne_of_none hD3 nh).symm
    have chq : h ≠ q := hq3.ne nh
    have e4 := Ext.upd (o := HO.lst [.int (j : Nat), .int y]) nh
    have hHh : H h = none := none_extP ((e02.trans e3)) nh chq
    refine ⟨D, ys, .ref h, rfl, rfl, e4 _ _ hD3, small_of (m := 60) (by have := DpAll.length hA; rw [List.length_map] at this; omega), ⟨_, _, rfl⟩, ys ++ [.ref h], l ++ [((j : Int), y)], upd_same, by simp [ll], ?_, ?_, ?_, ?_⟩
    · rw [del_upd, List.map_append]
      refine DpAll.app (DpAll.ext (nw_mono fun b o hB hb => ?_) hA) (Ow.DpAll.one (.lst (xs := [.int (j : Nat), .int y]) (SqL.of ?_) (.cons (.int _) (.cons (.int _) .nil))))
      · have cb : b ≠ D := fun z => by rw [z, del_same] at hb; cases hb
        rw [del_ne cb] at hb ⊢
        have cq : b ≠ q := fun z => hqn (by rw [← z]; exact hB)
        exact e4 _ _ (e3 _ _ cq (e2 _ _ cq hb))
      · rw [nw_at hHh, del_ne ch, upd_same]
    · intro z hz
      rcases List.mem_append.mp hz with hz | hz
      · exact hsm z hz
      · cases List.mem_singleton.mp hz
        exact ⟨⟨h0, by omega⟩, ⟨y0, by omega⟩⟩
    · intro o u ho eo
      rw [upd_ne (ne_of_none eo hD)]
      exact e4 _ _ (e3 _ _ ho (e02 _ _ ho eo))
    · exact (hq.but ((e02.trans e3).trans (ExtP.of e4)) (hq3.ext e4) hD).mono (by omega)
  · rintro σ' G ⟨⟨r3, r4, rfl⟩, ys, l, hG, ll, hA, hsm, e, hqG⟩
    dsimp only [tRet, tRetN, tSeq, tAsg, tOp, tVar, tC, tCB, tCons, tNil, tAndV, tOrV, tNotV, tAnd, tOr, tNot, tTest, tIf, tIfS, tB, tChain, tSl, tPart, tNoPart, tLst, tTup, tFld, tCl, tMt, tMk, gName, tNext, tBM, tBM0, tUn, tSub, tPar, tPar3, gTup, gCons, gNil, tDrop, tMkS, tM1, sFld, StX.tStar, tYes, gSub, cxOf, Cx.wish, Cx.nox, Cx.blk]
    exact ⟨_, rfl, kk D l G e hD ⟨by omega, by omega, hsm⟩ (.lst (SqL.of (by rw [nw_at hD]; exact hG)) (DpAll.ext (nw_mono fun b o _ hb => ext_del _ _ hb) hA)) (hqG.mono (by omega))⟩
def total (l : List (List (List StepP))) : Nat := (l.map List.length).sum
def fineHands (l : List (List (List StepP))) : Prop := 1 ≤ l.length ∧ l.length ≤ 4 ∧ total l ≤ 8 ∧ ∀ h ∈ l, ∀ d ∈ h, fineDeal d
theorem total_snoc {l : List (List (List StepP))} {h : List (List StepP)} : total (l ++ [h]) = total l + h.length := by simp [total]
def sp_law_hands (K : W.Frag) : Sp := fun vs H Q _ => ∃ (q c : Addr) (ns : List Int) (b : Nat) (t : Addr) (xs : List V) (hs : List HouseD), vs = [.ref q, .ref t] ∧ QAt K H q c ns b ∧ b ≤ 50000 ∧ t ≠ q ∧ H t = some (.lst xs) ∧ Each (DrawnH K (L2.del (L2.del H t) q)) xs hs ∧ 1 ≤ hs.length ∧ hs.length ≤ 4 ∧
  ∀ (p : Addr) (ys : List V) (l : List (List (List StepP))) (H' : Hp), ExtP q H H' → H p = none → H' p = some (.lst ys) → fineHands l → DpAll K (nw H (L2.del H' p)) ys (l.map handL) → QAt K H' q c ns (b + 500) → Q (.ref p) H'
theorem c_law_hands (T : Txt K mg) : Cal prg w K mg base CX0 3 "_law_hands" ["_law_saddle_here", "_law_houses_here"] (sp_law_hands K) := by
  refine T.d_law_hands.cal sc_law_hands (fun vs H Q E ⟨q, c, ns, b, t, xs, hs, e, _⟩ => by rw [e]; rfl) fun f cdv A outer s H vs Q E hr h => ?_
  have nd := sc_law_hands.nd
  obtain ⟨q, c, ns, b, t, xs, hs, rfl, hq, hb, ct, ht, hE, l1, l4, kk⟩ := h
  refine ⟨_, PSs.nox (pss_cons (ps_par (i := 2) (j := 3) rfl nd rfl rfl (by decide) rfl rfl (pa_cons (pe_cl (c_law_pick T) (hr.mono (by decide)) pass0 (pa_cons (pv 0) (pa_cons (pe_lst (pa_cons pe_int (pa_cons pe_int (pa_cons pe_int (pa_cons pe_int pa_nil))))) pa_nil))) (pa_cons (pe_lst pa_nil) pa_nil)) (by rfl))
      (pss_cons (ps_for PassesOwn.never rfl (pi_range1 rfl T.f_range (pa_cons (pe_op op_add pe_int (pe_cl (c_law_ride T) (hr.mono (by decide)) pass0 (pa_cons (pv 0) (pa_cons pe_int pa_nil)))) pa_nil)) (pg_name (i := 4) nd rfl (Or.inl rfl)) (pss_cons (ps_set (i := 5) nd rfl (Or.inl rfl) (pe_cl (c_law_ride T) (hr.mono (by decide)) pass0 (pa_cons (pv 0) (pa_cons (pe_op op_add (pv 2) pe_int) pa_nil))))
      (pss_cons (ps_set (i := 2) nd rfl (Or.inl rfl) (pe_op op_sub (pv 2) (pv 5)))
      (pss_one (ps_expr (pe_bm PySem.F.plainAttrs_list PySem.F.slot_list_append PySem.F.type_list_append mt_append (pv 3) (pa_cons (pe_lc (own := [("_law_each", 6)]) (tt := tYes) (g := gName 6) rfl nd (pi_range1 rfl T.f_range (pa_cons (pv 5) pa_nil)) (blkOk_by (own := [("_law_each", 6)]) (N := ["_law_saddle_here", "_law_houses_here", "_law_left", "_law_found", "_law_turn", "_law_many", "_law_each"]) (sc := defScope s_law_hands) (by decide +kernel)) (fun _ _ _ _ _ => (pg_name (i := 6) nd rfl (Or.inl rfl))) (fun _ _ _ _ _ => pts_nil) (fun _ _ _ _ _ => (pe_cl (c_law_deal T) (hr.mono (by decide)) pass0 (pa_cons (pv 0) (pa_cons (pv 1) pa_nil))))) pa_nil)))))))
      (pss_one (ps_ret (pv 3))))), ?_⟩
  obtain ⟨xq, hxq⟩ := hq.here
  have hqn : H q ≠ none := by rw [hxq]; exact fun z => by cases z
  dsimp only [tRet, tRetN, tSeq, tAsg, tOp, tVar, tC, tCB, tCons, tNil, tAndV, tOrV, tNotV, tAnd, tOr, tNot, tTest, tIf, tIfS, tB, tChain, tSl, tPart, tNoPart, tLst, tTup, tFld, tCl, tMt, tMk, gName, tNext, tBM, tBM0, tUn, tSub, tPar, tPar3, gTup, gCons, gNil, tDrop, tMkS, tM1, sFld, StX.tStar, tYes, gSub, cxOf, Cx.wish, Cx.nox, Cx.blk]
  refine ⟨_, rfl, by show 4 ≤ sizeLine; decide, fun W nW => ?_⟩
  have cW : W ≠ q := hq.ne nW
  have eW := Ext.upd (o := HO.lst [.int 8, .int 3, .int 1, .int 0]) nW
  refine ⟨q, c, ns, W, _, b, rfl, hq.ext eW, by omega, fun H' e => SqL.of (e _ _ cW upd_same), by show 0 < 4; decide, by show 4 ≤ 1000; decide, fun j v G0 hv e0 hq0 => ?_⟩
  have hleft : ∃ n : Nat, v = .int (n : Nat) ∧ n ≤ 8 := by
    match j, hv with
    | 0, hv => cases hv; exact ⟨8, rfl, by decide⟩
    | 1, hv => cases hv; exact ⟨3, rfl, by decide⟩
    | 2, hv => cases hv; exact ⟨1, rfl, by decide⟩
    | 3, hv => cases hv; exact ⟨0, rfl, by decide⟩
  obtain ⟨left, rfl, hl8⟩ := hleft
  refine ⟨Nat.zero_le _, fun D hD0 => ⟨_, _, rfl, ?_⟩⟩
  have hDq : D ≠ q := hq0.ne hD0
  have e00 : ExtP q H G0 := (ExtP.of eW).trans e0
  have hD : H D = none := none_extP e00 hD0 hDq
  refine ⟨_, rfl, q, c, ns, 4, b + 1, rfl, hq0.ext (Ext.upd hD0), by omega, by decide, two9000 (by decide) (by decide), fun n G1 n0 n4 e1 hq1 => ?_⟩
  obtain ⟨m, rfl⟩ := Int.eq_ofNat_of_zero_le n0
  refine ⟨_, _, rfl, rfl, _, rfl, by omega, by omega, ?_⟩
  have e01 : ExtP q H G1 := e00.trans ((ExtP.of (Ext.upd hD0)).trans e1)
  refine for_it (walk_range (lo := 0) (n := (1 + (m : Int)).toNat)) (fun i σ' G => ∃ (ys : List V) (l : List (List (List StepP))) (lf : Nat), (∃ r4 r5, σ' = [some (.ref q), some (.ref t), some (.int (lf : Nat)), some (.ref D), r4, r5, none]) ∧ G D = some (.lst ys) ∧ l.length = i ∧ total l + lf ≤ 8 ∧ DpAll K (nw H (L2.del G D)) ys (l.map handL) ∧ (∀ h ∈ l, ∀ d ∈ h, fineDeal d) ∧ ExtP q H G ∧ QAt K G q c ns (b + 2 + 120 * i))
    ⟨[], [], left, ⟨_, _, rfl⟩, e1 _ _ hDq upd_same, rfl, by show 0 + left ≤ 8; omega, .nil, fun s z => by simp at z, e01, hq1⟩ (fun _ _ _ _ _ => trivial) ?_ ?_
  · rintro i x σ' G G' hi ⟨ys, l, lf, ⟨r4, r5, rfl⟩, hG, ll, htot, hA, hfi, e, hqG⟩ ⟨rfl, rfl⟩
    have hi4 : i < 4 := by omega
    dsimp only [tRet, tRetN, tSeq, tAsg, tOp, tVar, tC, tCB, tCons, tNil, tAndV, tOrV, tNotV, tAnd, tOr, tNot, tTest, tIf, tIfS, tB, tChain, tSl, tPart, tNoPart, tLst, tTup, tFld, tCl, tMt, tMk, gName, tNext, tBM, tBM0, tUn, tSub, tPar, tPar3, gTup, gCons, gNil, tDrop, tMkS, tM1, sFld, StX.tStar, tYes, gSub, cxOf, Cx.wish, Cx.nox, Cx.blk]
    refine ⟨_, rfl, _, rfl, _, _, rfl, rfl, q, c, ns, _, b + 2 + 120 * i, rfl, hqG, by omega, by omega, two9000 (by omega) (by omega), fun many G2 h0 h4 e2 hq2 => ?_⟩
    obtain ⟨k, rfl⟩ := Int.eq_ofNat_of_zero_le h0
    have hk : k ≤ lf := by omega
    have e02 := e.trans e2
    have hD2 := e2 _ _ hDq hG
    refine ⟨_, rfl, _, rfl, _, _, rfl, rfl, ?_⟩
    refine ⟨_, rfl, .inl ⟨rfl, _, SqL.of hD2⟩, _, rfl, _, rfl, by omega, by omega, fun D2 nD2 => ?_⟩
    have c2q : D2 ≠ q := hq2.ne nD2
    have c2D : D2 ≠ D := (ne_of_none hD2 nD2).symm
    have g2q : G2 q ≠ none := by
      obtain ⟨y, hy⟩ := hq2.here
      rw [hy]
      exact fun z => by cases z
    refine turns_it (walk_range (lo := 0) (n := ((k : Nat) : Int).toNat)) (fun j G3 => ∃ (zs : List V) (hl : List (List StepP)), G3 D2 = some (.lst zs) ∧ hl.length = j ∧ DpAll K (nw G2 (L2.del G3 D2)) zs (hl.map dealL) ∧ (∀ d ∈ hl, fineDeal d) ∧ ExtP q G2 G3 ∧ QAt K G3 q c ns (b + 2 + 120 * i + 1 + 13 * j))
      ⟨[], [], upd_same, rfl, .nil, fun d z => by simp at z, ExtP.of (Ext.upd nD2), hq2.ext (Ext.upd nD2)⟩ (fun _ _ _ _ => trivial) ?_ ?_
    · rintro j x G3 G4 hj ⟨zs, hl, hG3, lh, hZ, hfd, e3, hq3⟩ ⟨rfl, rfl⟩
      have hj8 : j < 8 := by
        have hj : j < k := hj
        omega
      have e03 := e02.trans e3
      dsimp only [tRet, tRetN, tSeq, tAsg, tOp, tVar, tC, tCB, tCons, tNil, tAndV, tOrV, tNotV, tAnd, tOr, tNot, tTest, tIf, tIfS, tB, tChain, tSl, tPart, tNoPart, tLst, tTup, tFld, tCl, tMt, tMk, gName, tNext, tBM, tBM0, tUn, tSub, tPar, tPar3, gTup, gCons, gNil, tDrop, tMkS, tM1, sFld, StX.tStar, tYes, gSub, cxOf, Cx.wish, Cx.nox, Cx.blk]
      refine ⟨rfl, ?_⟩
      rw [if_pos (rfl : true = true)]
      refine ⟨_, rfl, _, rfl, q, c, ns, b + 2 + 120 * i + 1 + 13 * j, t, xs, hs, rfl, hq3, by omega, ct, e03 _ _ ct ht, hE.imp (fun y a z => z.ext (del2 fun b o c1 _ hb => e03 _ _ c1 hb)), l1, l4, fun p dl G5 e5 np hfdl hdp hq5 => ?_⟩
      have hD25 := e5 _ _ c2q hG3
      have cp2 : p ≠ D2 := fun z => by rw [z, hG3] at np; cases np
      refine ⟨zs, hD25, small_of (m := 60) (by have := DpAll.length hZ; rw [List.length_map] at this; omega), zs ++ [.ref p], hl ++ [dl], upd_same, by simp [lh], ?_, ?_, ?_, ?_⟩
      · rw [del_upd, List.map_append]
        refine DpAll.app (DpAll.ext (nw_mono fun b o hB hb => ?_) hZ) (Ow.DpAll.one (Dp.ext (fun b o hb => ?_) hdp))
        · have cb : b ≠ D2 := fun z => by rw [z, del_same] at hb; cases hb
          rw [del_ne cb] at hb ⊢
          have cq : b ≠ q := fun z => g2q (by rw [← z]; exact hB)
          exact e5 _ _ cq hb
        · obtain ⟨x1, x2⟩ := nw_new hb
          have cb : b ≠ D2 := fun z => by rw [z, hG3] at x1; cases x1
          have cq : b ≠ q := fun z => by
            obtain ⟨y, hy⟩ := hq3.here
            rw [z, hy] at x1
            cases x1
          rw [nw_at (none_extP e3 x1 cq), del_ne cb]
          exact x2
      · intro d hd
        rcases List.mem_append.mp hd with hd | hd
        · exact hfd d hd
        · cases List.mem_singleton.mp hd
          exact hfdl
      · intro o u ho eo
        rw [upd_ne (ne_of_none eo nD2)]
        exact e5 _ _ ho (e3 _ _ ho eo)
      · exact (hq2.but (e3.trans e5) hq5 nD2).mono (by omega)
    · rintro G3 ⟨zs, hl, hG3, lh, hZ, hfd, e3, hq3⟩
      have lh : hl.length = k := lh
      have hD3 := e3 _ _ hDq hD2
      refine ⟨D, ys, .ref D2, rfl, rfl, hD3, small_of (m := 60) (by have := DpAll.length hA; rw [List.length_map] at this; omega), ys ++ [.ref D2], l ++ [hl], lf - k, ⟨some (.int (0 + (i : Int))), some (.int (k : Nat)), ?_⟩, upd_same, by simp [ll], by rw [total_snoc]; omega, ?_, ?_, ?_, ?_⟩
      · rw [show ((lf - k : Nat) : Int) = (lf : Int) - (k : Int) by omega]
        rfl
      · rw [del_upd, List.map_append]
        refine DpAll.app (DpAll.ext (nw_mono fun b o hB hb => ?_) hA) (Ow.DpAll.one ?_)
        · have cb : b ≠ D := fun z => by rw [z, del_same] at hb; cases hb
          rw [del_ne cb] at hb ⊢
          have cq : b ≠ q := fun z => hqn (by rw [← z]; exact hB)
          exact e3 _ _ cq (e2 _ _ cq hb)
        · have hHD2 : H D2 = none := none_extP e02 nD2 c2q
          refine .lst (SqL.of (by rw [nw_at hHD2, del_ne c2D]; exact hG3)) (DpAll.ext (fun b o hb => ?_) hZ)
          obtain ⟨x1, x2⟩ := nw_new hb
          have cb : b ≠ D := fun z => by rw [z, hD2] at x1; cases x1
          have cq : b ≠ q := fun z => g2q (by rw [← z]; exact x1)
          have cb2 : b ≠ D2 := fun z => by rw [z, del_same] at x2; cases x2
          rw [del_ne cb2] at x2
          rw [nw_at (none_extP e02 x1 cq), del_ne cb]
          exact x2
      · intro h hh
        rcases List.mem_append.mp hh with hh | hh
        · exact hfi h hh
        · cases List.mem_singleton.mp hh
          exact hfd
      · intro o u ho eo
        rw [upd_ne (ne_of_none eo hD)]
        exact e3 _ _ ho (e02 _ _ ho eo)
      · refine (hq.but (e02.trans e3) hq3 hD).mono ?_
        rw [show ((k : Nat) : Int).toNat = k from rfl]
        omega
  · rintro σ' G ⟨ys, l, lf, ⟨r4, r5, rfl⟩, hG, ll, htot, hA, hfi, e, hqG⟩
    dsimp only [tRet, tRetN, tSeq, tAsg, tOp, tVar, tC, tCB, tCons, tNil, tAndV, tOrV, tNotV, tAnd, tOr, tNot, tTest, tIf, tIfS, tB, tChain, tSl, tPart, tNoPart, tLst, tTup, tFld, tCl, tMt, tMk, gName, tNext, tBM, tBM0, tUn, tSub, tPar, tPar3, gTup, gCons, gNil, tDrop, tMkS, tM1, sFld, StX.tStar, tYes, gSub, cxOf, Cx.wish, Cx.nox, Cx.blk]
    exact ⟨_, rfl, kk D ys l G e hD hG ⟨by omega, by omega, by omega, hfi⟩ hA (hqG.mono (by omega))⟩
end
end K81

end
section
/-! K81v: the law's own checks. -/
namespace K81
open PySem L2 Ow
open PySem.Spec PyProof.Rows
section
variable {w : World} {K : W.Frag} {mg : Str → Option Value} {base : Heap}
def sp_law_is_list (K : W.Frag) : Sp := fun vs H Q _ => ∃ v d l m, vs = [v, .int l, .int m] ∧ Kp K H v d ∧ ∀ H', Ext H H' → Q (.bl (listedK d l m)) H'
theorem c_law_is_list (T : Txt K mg) : Cal prg w K mg base CX0 1 "_law_is_list" ["_law_value", "_law_least", "_law_most"] (sp_law_is_list K) := by
  refine T.d_law_is_list.cal sc_law_is_list (fun vs H Q E ⟨v, d, l, m, e, _⟩ => by rw [e]; rfl) fun f cdv A outer s H vs Q E hr h => ?_
  have nd := sc_law_is_list.nd
  obtain ⟨v, d, l, m, rfl, hv, q⟩ := h
  refine ⟨_, PSs.nox (pss_one (ps_ret (pe_and (pe_callB call_isiT (by rfl) T.f_isinstance (by decide +kernel) (pa_cons (pv 0) (pa_cons (pe_tup (pa_cons (pe_bltn (v := .ty "list") (by rfl) T.f_list (by decide +kernel) rfl) (pa_cons (pe_bltn (v := .ty "tuple") (by rfl) T.f_tuple (by decide +kernel) rfl) pa_nil))) pa_nil))) (pe_one (pe_chain op_le op_le (pv 1) (pe_callB call_len_seq (by rfl) T.f_len (by decide +kernel) (pa_cons (pv 0) pa_nil)) (pv 2)))))), ?_⟩
  dsimp only [tRet, tRetN, tSeq, tAsg, tOp, tVar, tC, tCB, tCons, tNil, tAndV, tOrV, tNotV, tAnd, tOr, tNot, tTest, tIf, tIfS, tB, tChain, tSl, tPart, tNoPart, tLst, tTup, tFld, tCl, tMt, tMk, gName, tNext, tBM, tBM0, tUn, tSub, tPar, tPar3, gTup, gCons, gNil, tDrop, tMkS, tM1, sFld, StX.tStar, tYes, gSub, cxOf, Cx.wish, Cx.nox, Cx.blk]
  refine ⟨_, rfl, (by show 2 ≤ sizeLine; decide), fun tp htp => kisi2_rd T (Kp.ext (Ext.upd htp) hv) upd_same ⟨_, rfl, ?_⟩⟩
  have e1 : Ext H (upd H tp (.tup [.ty "list", .ty "tuple"])) := Ext.upd htp
  have q := q _ e1
  cases hs : kSeq d with
  | false =>
    rw [show listedK d l m = false by rw [listedK, hs]; rfl] at q
    exact if_f rfl q
  | true =>
    refine if_t rfl ?_
    obtain ⟨fl, a, xs, rfl, hx, hA⟩ := kseq_of (Kp.ext e1 hv) hs
    have hlen : xs.length = (kItems d).length := KpAll.length hA
    rw [show listedK d l m = (decide (l ≤ ((kItems d).length : Int)) && decide (((kItems d).length : Int) ≤ m)) by rw [listedK, hs]; rfl] at q
    refine ⟨_, rfl, _, rfl, a, xs, rfl, hx.or, _, _, rfl, rfl, _, rfl, ?_⟩
    rw [hlen]
    refine ite2 (fun c => ?_) fun c => ?_
    · have c : l ≤ ((kItems d).length : Int) := of_decide_eq_true c
      refine ⟨_, rfl, _, _, rfl, rfl, ?_⟩
      rw [decide_eq_true c, Bool.true_and] at q
      exact q
    · have c : ¬ l ≤ ((kItems d).length : Int) := fun z => c (decide_eq_true z)
      rw [decide_eq_false c, Bool.false_and] at q
      exact q
def sp_law_is_number (K : W.Frag) : Sp := fun vs H Q _ => ∃ v d m, vs = [v, .int m] ∧ Vd K H v d ∧ Q (.bl (within d 0 (some (m - 1)))) H
theorem c_law_is_number (T : Txt K mg) : Cal prg w K mg base CX0 1 "_law_is_number" ["_law_value", "_law_many"] (sp_law_is_number K) := by
  refine T.d_law_is_number.cal sc_law_is_number (fun vs H Q E ⟨v, d, m, e, _⟩ => by rw [e]; rfl) fun f cdv A outer s H vs Q E hr h => ?_
  have nd := sc_law_is_number.nd
  obtain ⟨v, d, m, rfl, hv, q⟩ := h
  refine ⟨_, PSs.nox (pss_one (ps_ret (pe_and (pe_callB call_isi (by rfl) T.f_isinstance (by decide +kernel) (pa_cons (pv 0) (pa_cons (pe_bltn (v := .ty "int") (by rfl) T.f_int (by decide +kernel) rfl) pa_nil))) (pe_and (pe_not (pe_callB call_isi (by rfl) T.f_isinstance (by decide +kernel) (pa_cons (pv 0) (pa_cons (pe_bltn (v := .ty "bool") (by rfl) T.f_bool (by decide +kernel) rfl) pa_nil)))) (pe_one (pe_chain op_le op_lt pe_int (pv 0) (pv 1))))))), ?_⟩
  dsimp only [tRet, tRetN, tSeq, tAsg, tOp, tVar, tC, tCB, tCons, tNil, tAndV, tOrV, tNotV, tAnd, tOr, tNot, tTest, tIf, tIfS, tB, tChain, tSl, tPart, tNoPart, tLst, tTup, tFld, tCl, tMt, tMk, gName, tNext, tBM, tBM0, tUn, tSub, tPar, tPar3, gTup, gCons, gNil, tDrop, tMkS, tM1, sFld, StX.tStar, tYes, gSub, cxOf, Cx.wish, Cx.nox, Cx.blk]
  refine ⟨_, rfl, isi_rd hv (kit_int d) ⟨_, rfl, ?_⟩⟩
  cases d with
  | int i =>
    obtain rfl := hv.int
    refine if_t rfl ⟨_, rfl, isi_rd hv (kit_bool _) ⟨_, rfl, _, rfl, if_t rfl ?_⟩⟩
    refine ⟨_, rfl, _, _, rfl, rfl, _, rfl, ite2 (fun c => ?_) fun c => ?_⟩
    · have c : 0 ≤ i := of_decide_eq_true c
      refine ⟨_, rfl, _, _, rfl, rfl, ?_⟩
      rw [show within (.int i) 0 (some (m - 1)) = decide (i < m) by simp only [within, decide_eq_true c, Bool.true_and]; rw [Bool.eq_iff_iff]; simp; omega] at q
      exact q
    · have c : ¬ 0 ≤ i := fun z => c (decide_eq_true z)
      rw [show within (.int i) 0 (some (m - 1)) = false by simp [within, c]] at q
      exact q
  | bool b => exact if_t rfl ⟨_, rfl, isi_rd hv (kit_bool _) ⟨_, rfl, _, rfl, if_f rfl q⟩⟩
  | _ => exact if_f rfl q
theorem two_of {ds : List PyData} (h : ds.length = 2) : ∃ x y, ds = [x, y] := by
  match ds, h with
  | [x, y], _ => exact ⟨x, y, rfl⟩
def sp_law_is_operation (K : W.Frag) : Sp := fun vs H Q _ => ∃ v d a, ∃ k : KN, vs = [v, .ref a] ∧ Vd K H v d ∧ KindAt K H a k ∧ ∀ H', Ext H H' → Q (.bl (isBelow d [(k.asks.length : Int), (k.answers.length : Int)])) H'
theorem c_law_is_operation (T : Txt K mg) : Cal prg w K mg base CX0 2 "_law_is_operation" ["_law_value", "_law_kind_here"] (sp_law_is_operation K) := by
  refine T.d_law_is_operation.cal sc_law_is_operation (fun vs H Q E ⟨v, d, a, k, e, _⟩ => by rw [e]; rfl) fun f cdv A outer s H vs Q E hr h => ?_
  have nd := sc_law_is_operation.nd
  obtain ⟨v, d, a, k, rfl, hv, hk, q⟩ := h
  refine ⟨_, PSs.nox (pss_one (ps_ret (pe_and (pe_cl (c_law_is_list T) (hr.mono (by decide)) pass0 (pa_cons (pv 0) (pa_cons pe_int (pa_cons pe_int pa_nil)))) (pe_and (pe_cl (c_law_is_number T) (hr.mono (by decide)) pass0 (pa_cons (pe_ix ix_seq (pv 0) pe_int (fun _ _ => rfl)) (pa_cons (pe_callB call_len_seq (by rfl) T.f_len (by decide +kernel) (pa_cons (pe_fld (pv 1) rfl) pa_nil)) pa_nil))) (pe_one (pe_cl (c_law_is_number T) (hr.mono (by decide)) pass0 (pa_cons (pe_ix ix_seq (pv 0) pe_int (fun _ _ => rfl)) (pa_cons (pe_callB call_len_seq (by rfl) T.f_len (by decide +kernel) (pa_cons (pe_fld (pv 1) rfl) pa_nil)) pa_nil)))))))), ?_⟩
  dsimp only [tRet, tRetN, tSeq, tAsg, tOp, tVar, tC, tCB, tCons, tNil, tAndV, tOrV, tNotV, tAnd, tOr, tNot, tTest, tIf, tIfS, tB, tChain, tSl, tPart, tNoPart, tLst, tTup, tFld, tCl, tMt, tMk, gName, tNext, tBM, tBM0, tUn, tSub, tPar, tPar3, gTup, gCons, gNil, tDrop, tMkS, tM1, sFld, StX.tStar, tYes, gSub, cxOf, Cx.wish, Cx.nox, Cx.blk]
  refine ⟨_, rfl, v, .dat d, 2, 2, rfl, .dat hv, fun H1 e1 => ⟨_, rfl, ?_⟩⟩
  have q := fun H' e => q H' (e1.trans e)
  cases hg : listedK (.dat d) 2 2 with
  | false =>
    refine if_f rfl ?_
    have z := q H1 Ext.rfl'
    rw [show isBelow d [(k.asks.length : Int), (k.answers.length : Int)] = false by
      cases hi : isBelow d [(k.asks.length : Int), (k.answers.length : Int)] with
      | false => rfl
      | true =>
        obtain ⟨h1, x, y, ed, _⟩ := below_two hi
        simp [listedK, kSeq, kItems, h1, ed] at hg] at z
    exact z
  | true =>
    refine if_t rfl ?_
    obtain ⟨hs, l1, l2⟩ := listed_dat hg
    obtain ⟨fl, b, xs, rfl, hx, hA⟩ := seq_of (Vd.ext e1 hv) hs
    obtain ⟨x, y, ed⟩ := two_of (ds := dItems d) (by omega)
    rw [ed] at hA
    have hz : isBelow d [(k.asks.length : Int), (k.answers.length : Int)] = (within x 0 (some ((k.asks.length : Int) - 1)) && within y 0 (some ((k.answers.length : Int) - 1))) := by
      simp [isBelow, hs, ed]
    rw [hz] at q
    cases hA with
    | cons px r =>
      cases r with
      | cons py r =>
        cases r
        obtain ⟨dx, p1, p2, p3, p4, p5, hp, h1, h2, _⟩ := hk.ext e1
        refine ⟨_, rfl, ixF hx at0 ⟨_, rfl, a, _, dx, _, _, rfl, hp, T.cl_Kind, T.na_Kind_asks, rfl, p1, _, rfl, .inr h1, _, x, _, rfl, .of px, _, rfl, ?_⟩⟩
        rw [List.length_map]
        refine ite2 (fun c => ?_) fun c => ?_
        · rw [c, Bool.true_and] at q
          refine ⟨_, rfl, ixF hx (atI_nat (j := 1) rfl) ⟨_, rfl, a, _, dx, _, _, rfl, hp, T.cl_Kind, T.na_Kind_answers, rfl, p2, _, rfl, .inr h2, _, y, _, rfl, .of py, ?_⟩⟩
          rw [List.length_map]
          exact q H1 Ext.rfl'
        · have c : within x 0 (some ((k.asks.length : Int) - 1)) = false := by simpa using c
          rw [c, Bool.false_and] at q
          exact q H1 Ext.rfl'
end
end K81

end
section
/-! K81w: _law_is_house. -/
namespace K81
open PySem L2 Ow
open PySem.Spec PyProof.Rows
theorem ltP_at {ps : List P4} : sortedP ps = true ↔ ∀ (j : Nat) (x y : P4), ps[j]? = some x → ps[j + 1]? = some y → ltP x y = true := by
  rw [sortedP, List.all_eq_true]
  constructor
  · intro h j x y hx hy
    exact h (x, y) (List.mem_of_getElem? (i := j) (zip_at hx (by rw [List.getElem?_drop, Nat.add_comm]; exact hy)))
  · rintro h ⟨x, y⟩ hm
    obtain ⟨j, hj⟩ := List.getElem?_of_mem hm
    rw [List.getElem?_zip_eq_some, List.getElem?_drop, Nat.add_comm] at hj
    exact h j x y hj.1 hj.2
def hd3 (d : KD) : Bool := listedK d 3 3 && match kItems d with
  | [a, b, c] => (kKind a).isSome && ((kStr b).isSome && kSeq c)
  | _ => false
section
variable {w : World} {K : W.Frag} {mg : Str → Option Value} {base : Heap}
def sp_law_is_house (K : W.Frag) : Sp := fun vs H Q _ => ∃ v d, vs = [v] ∧ Kp K H v d ∧ okH d ∧ ∀ H', Ext H H' → Q (.bl (isHouse d)) H'
theorem c_law_is_house (T : Txt K mg) : Cal prg w K mg base CX0 3 "_law_is_house" ["_law_value"] (sp_law_is_house K) := by
  refine T.d_law_is_house.cal sc_law_is_house (fun vs H Q E ⟨v, d, e, _⟩ => by rw [e]; rfl) fun f cdv A outer s H vs Q E hr h => ?_
  have nd := sc_law_is_house.nd
  obtain ⟨v, d, rfl, hv, hok, q⟩ := h
  refine ⟨_, PSs.nox (pss_cons (ps_if (PW.pt (pw_or (pt_not (pt_val (pe_cl (c_law_is_list T) (hr.mono (by decide)) pass0 (pa_cons (pv 0) (pa_cons pe_int (pa_cons pe_int pa_nil)))))) (pw_or (pt_not (pt_val (pe_callB call_isi (by rfl) T.f_isinstance (by decide +kernel) (pa_cons (pe_ix ix_seq (pv 0) pe_int (fun _ _ => rfl)) (pa_cons (pe_glob (v := .ref (He.ga K "Kind")) rfl T.g_Kind rfl) pa_nil))))) (pw_or (pt_not (pt_val (pe_callB call_isi (by rfl) T.f_isinstance (by decide +kernel) (pa_cons (pe_ix ix_seq (pv 0) pe_int (fun _ _ => rfl)) (pa_cons (pe_bltn (v := .ty "str") (by rfl) T.f_str (by decide +kernel) rfl) pa_nil))))) (pw_or1 (pt_not (pt_val (pe_callB call_isiT (by rfl) T.f_isinstance (by decide +kernel) (pa_cons (pe_ix ix_seq (pv 0) pe_int (fun _ _ => rfl)) (pa_cons (pe_tup (pa_cons (pe_bltn (v := .ty "list") (by rfl) T.f_list (by decide +kernel) rfl) (pa_cons (pe_bltn (v := .ty "tuple") (by rfl) T.f_tuple (by decide +kernel) rfl) pa_nil))) pa_nil)))))))))) (pss_one (ps_ret pe_bl)) pss_nil)
      (pss_cons (ps_asg (pv 0) (pg_unF rfl (pgs_cons (pg_name (i := 1) nd rfl (Or.inl rfl)) (pgs_cons (pg_name (i := 2) nd rfl (Or.inl rfl)) (pgs_cons (pg_name (i := 3) nd rfl (Or.inl rfl)) pgs_nil)))))
      (pss_cons (ps_if (PW.pt (pw_or (pt_cmpR op_notIn_seq (pv 2) (pe_tup (pa_cons pe_str (pa_cons pe_str (pa_cons pe_str pa_nil)))) rfl) (pw_or1 (PW.pt (pw_and (pt_cmpR op_eq (pv 2) pe_str (nomark _)) (pw_and1 (pt_cmpR op_gt (pe_callB call_len_seq (by rfl) T.f_len (by decide +kernel) (pa_cons (pv 3) pa_nil)) pe_int (nomark _)))))))) (pss_one (ps_ret pe_bl)) pss_nil)
      (pss_cons (ps_for PassesOwn.never rfl (pi_seqF (pv 3)) (pg_name (i := 4) nd rfl (Or.inl rfl)) (pss_one (ps_if (PW.pt (pw_or (pt_not (pt_val (pe_cl (c_law_is_list T) (hr.mono (by decide)) pass0 (pa_cons (pv 4) (pa_cons pe_int (pa_cons pe_int pa_nil)))))) (pw_or (pt_not (pt_val (pe_cl (c_law_is_operation T) (hr.mono (by decide)) pass0 (pa_cons (pe_ix (ixK (K := K) rIx rfl ix_seq) (pv 4) pe_int (fun _ _ => rfl)) (pa_cons (pv 1) pa_nil))))) (pw_or1 (pt_not (pt_val (pe_cl (c_law_is_operation T) (hr.mono (by decide)) pass0 (pa_cons (pe_ix (ixK (K := K) rIx rfl ix_seq) (pv 4) pe_int (fun _ _ => rfl)) (pa_cons (pv 1) pa_nil))))))))) (pss_one (ps_ret pe_bl)) pss_nil)))
      (pss_cons (ps_set (i := 5) nd rfl (Or.inr rfl) (pe_lc (own := [("_law_pair", 4)]) (tt := tYes) (g := gName 4) rfl nd (pi_seqF (pv 3)) (blkOk_by (own := [("_law_pair", 4)]) (N := ["_law_value", "_law_kind_here", "_law_way", "_law_table_here", "_law_pair", "_law_pairs", "_law_at"]) (sc := defScope s_law_is_house) (by decide +kernel)) (fun _ _ _ _ _ => (pg_name (i := 4) nd rfl (Or.inl rfl))) (fun _ _ _ _ _ => pts_nil) (fun _ _ _ _ _ => (pe_tup (pa_cons (pe_callTy (call_tupK (K := K) rfl) (by rfl) T.f_tuple (by decide +kernel) (pa_cons (pe_ix (ixK (K := K) rIx rfl ix_seq) (pv 4) pe_int (fun _ _ => rfl)) pa_nil)) (pa_cons (pe_callTy (call_tupK (K := K) rfl) (by rfl) T.f_tuple (by decide +kernel) (pa_cons (pe_ix (ixK (K := K) rIx rfl ix_seq) (pv 4) pe_int (fun _ _ => rfl)) pa_nil)) pa_nil))))))
      (pss_one (ps_ret (pe_cmpR (op_eqD hr.units) (pe_lc (own := [("_law_at", 6)]) (g := gName 6) rfl nd (pi_range2 rfl T.f_range (pa_cons pe_int (pa_cons (pe_callB call_len_seq (by rfl) T.f_len (by decide +kernel) (pa_cons (pv 5) pa_nil)) pa_nil))) (blkOk_by (own := [("_law_at", 6)]) (N := ["_law_value", "_law_kind_here", "_law_way", "_law_table_here", "_law_pair", "_law_pairs", "_law_at"]) (sc := defScope s_law_is_house) (by decide +kernel)) (fun _ _ _ _ _ => (pg_name (i := 6) nd rfl (Or.inl rfl))) (fun _ _ _ _ _ => (pts_one (pt_cmpR (opK (K := K) rGeDA rfl (op_geDA hr.units)) (pe_ix (ixK (K := K) rIxL rfl ix_list) (pv 5) (pe_op op_sub (pv 6) pe_int) (fun _ _ => rfl)) (pe_ix (ixK (K := K) rIxL rfl ix_list) (pv 5) (pv 6) (fun _ _ => rfl)) (nomark _)))) (fun _ _ _ _ _ => (pv 6))) (pe_lst pa_nil) (nomark _))))))))), ?_⟩
  refine cut_ifn (fun c H' => c = !hd3 d ∧ Ext H H') (fun Q1 k1 => ?_) fun c H1 ⟨ec, e1⟩ => ?_
  · dsimp only [tRet, tRetN, tSeq, tAsg, tOp, tVar, tC, tCB, tCons, tNil, tAndV, tOrV, tNotV, tAnd, tOr, tNot, tTest, tIf, tIfS, tB, tChain, tSl, tPart, tNoPart, tLst, tTup, tFld, tCl, tMt, tMk, gName, tNext, tBM, tBM0, tUn, tSub, tPar, tPar3, gTup, gCons, gNil, tDrop, tMkS, tM1, sFld, StX.tStar, tYes, gSub, cxOf, Cx.wish, Cx.nox, Cx.blk]
    refine ⟨_, rfl, v, d, 3, 3, rfl, hv, fun H1 e1 => ⟨_, rfl, ?_⟩⟩
    cases hg : listedK d 3 3 with
    | false => exact if_t rfl (k1 _ _ ⟨by rw [hd3, hg]; rfl, e1⟩)
    | true =>
      refine if_f rfl ?_
      have hg2 := hg
      simp only [listedK, Bool.and_eq_true, decide_eq_true_eq] at hg2
      obtain ⟨hs, hl1, hl2⟩ := hg2
      obtain ⟨fl, a, xs, rfl, hx, hA⟩ := kseq_of (Kp.ext e1 hv) hs
      obtain ⟨x, y, z, a1, b1, c1, ek, rfl, p1, p2, p3⟩ := kItems_three hA (by omega)
      have hz : hd3 d = ((kKind a1).isSome && ((kStr b1).isSome && kSeq c1)) := by rw [hd3, hg, ek]; rfl
      rw [hz] at k1
      refine ⟨_, rfl, ixF hx at0 ?_⟩
      refine kisiK_rd T p1 ⟨_, rfl, ?_⟩
      cases c1' : (kKind a1).isSome with
      | false => exact if_t rfl (k1 _ _ ⟨by rw [c1']; rfl, e1⟩)
      | true =>
        rw [c1', Bool.true_and] at k1
        refine if_f rfl ⟨_, rfl, ixF hx (atI_nat (j := 1) rfl) ?_⟩
        refine kisiS_rd T p2 ⟨_, rfl, ?_⟩
        cases c2' : (kStr b1).isSome with
        | false => exact if_t rfl (k1 _ _ ⟨by rw [c2']; rfl, e1⟩)
        | true =>
          rw [c2', Bool.true_and] at k1
          refine if_f rfl ⟨_, rfl, ixF hx (atI_nat (j := 2) rfl) ⟨(by show 2 ≤ sizeLine; decide), fun tp htp => kisi2_rd T (Kp.ext (Ext.upd htp) p3) upd_same ⟨_, rfl, k1 _ _ ⟨rfl, e1.trans (Ext.upd htp)⟩⟩⟩⟩
  subst ec
  cases hg : hd3 d with
  | false =>
    refine if_t rfl ?_
    have e : isHouse d = false := by
      cases hi : isHouse d with
      | false => rfl
      | true =>
        simp only [isHouse, Bool.and_eq_true] at hi
        obtain ⟨hs, hi⟩ := hi
        split at hi
        · rename_i k b t ek
          unfold hTail at hi
          split at hi
          · rename_i x ex
            simp only [Bool.and_eq_true] at hi
            obtain ⟨_, ht, _⟩ := hi
            simp only [isTable, Bool.and_eq_true] at ht
            have z : hd3 d = true := by
              rw [hd3, listedK, hs, ek]
              simp [kKind, ex, kSeq, ht.1]
            rw [hg] at z
            cases z
          · cases hi
        · cases hi
    have z := q H1 e1
    rw [e] at z
    exact z
  | true =>
    refine if_f rfl ?_
    have hg' := hg
    simp only [hd3, listedK, Bool.and_eq_true, decide_eq_true_eq] at hg
    obtain ⟨⟨hs, hl1, hl2⟩, hk⟩ := hg
    obtain ⟨fl, a, xs, rfl, hx, hA⟩ := kseq_of hv hs
    obtain ⟨x, y, z, a1, b1, c1, ek, rfl, p1, p2, p3⟩ := kItems_three hA (by omega)
    rw [ek] at hk
    simp only [Bool.and_eq_true] at hk
    obtain ⟨hk1, hk2, hk3⟩ := hk
    obtain ⟨e3, rfl, l3⟩ := hok a1 b1 c1 ek
    cases a1 with
    | dat _ => cases hk1
    | seq _ _ => cases hk1
    | kind k =>
      obtain ⟨x2, hx2⟩ := Option.isSome_iff_exists.mp hk2
      have eb : b1 = .dat (.str x2) := by
        cases b1 with
        | dat b =>
          cases b <;> cases hx2
          rfl
        | _ => cases hx2
      subst eb
      cases p1 with
      | kind hka =>
        rename_i ka
        cases p2 with
        | dat p2 =>
          obtain rfl := p2.str
          cases p3 with
          | dat p3 =>
            have hts : dSeq e3 = true := hk3
            obtain ⟨f3, a3, ws, rfl, hw, hwA⟩ := seq_of p3 hts
            have lw : ws.length = (dItems e3).length := DpAll.length hwA
            have hI : isHouse d = (isWay x2 && (isTable k e3 && (decide (x2 ≠ "watched") || decide ((dItems e3).length = 0)))) := by
              rw [isHouse, hs, ek]
              rfl
            rw [hI] at q
            have q := fun H' e => q H' (e1.trans e)
            dsimp only [tRet, tRetN, tSeq, tAsg, tOp, tVar, tC, tCB, tCons, tNil, tAndV, tOrV, tNotV, tAnd, tOr, tNot, tTest, tIf, tIfS, tB, tChain, tSl, tPart, tNoPart, tLst, tTup, tFld, tCl, tMt, tMk, gName, tNext, tBM, tBM0, tUn, tSub, tPar, tPar3, gTup, gCons, gNil, tDrop, tMkS, tM1, sFld, StX.tStar, tYes, gSub, cxOf, Cx.wish, Cx.nox, Cx.blk]
            refine ⟨_, rfl, fl, a, _, rfl, hx.ext e1, rfl, ?_⟩
            refine ⟨_, _, rfl, _, _, rfl, _, _, rfl, rfl, ?_⟩
            -- the way
            refine cut_ifn (fun c H' => c = (!isWay x2 || (decide (x2 = "watched") && decide (0 < (dItems e3).length))) ∧ Ext H1 H') (fun Q1 k1 => ?_) fun c H2 ⟨ec, e2⟩ => ?_
            · dsimp only [tRet, tRetN, tSeq, tAsg, tOp, tVar, tC, tCB, tCons, tNil, tAndV, tOrV, tNotV, tAnd, tOr, tNot, tTest, tIf, tIfS, tB, tChain, tSl, tPart, tNoPart, tLst, tTup, tFld, tCl, tMt, tMk, gName, tNext, tBM, tBM0, tUn, tSub, tPar, tPar3, gTup, gCons, gNil, tDrop, tMkS, tM1, sFld, StX.tStar, tYes, gSub, cxOf, Cx.wish, Cx.nox, Cx.blk]
              refine ⟨_, rfl, by show 3 ≤ sizeLine; decide, fun p np => ?_⟩
              refine ⟨p, _, rfl, .inr (SqT.of upd_same), rfl, rfl, _, rfl, ?_⟩
              have hin : inV (.str x2) [.str "in place", .str "laid by", .str "watched"] = isWay x2 := ways_in x2
              rw [if_pos rfl, hin]
              cases hw' : isWay x2 with
              | false => exact if_t rfl (k1 _ _ ⟨by rw [hw']; rfl, Ext.upd np⟩)
              | true =>
                refine if_f rfl ⟨_, rfl, rfl, _, rfl, ?_⟩
                rw [dec_str]
                by_cases cw : x2 = "watched"
                · refine if_t (by simp [cw]) ⟨_, rfl, a3, ws, rfl, (hw.ext (e1.trans (Ext.upd np))).or, _, _, rfl, rfl, _, rfl, k1 _ _ ⟨?_, Ext.upd np⟩⟩
                  rw [lw, hw', decide_eq_true cw, Bool.eq_iff_iff]
                  simp
                · refine if_f (by simp [cw]) (k1 _ _ ⟨?_, Ext.upd np⟩)
                  rw [hw']
                  simp [cw]
            subst ec
            have q := fun H' e => q H' (e2.trans e)
            cases hc : (!isWay x2 || (decide (x2 = "watched") && decide (0 < (dItems e3).length))) with
            | true =>
              refine if_t rfl ?_
              have z := q H2 Ext.rfl'
              have ez : (isWay x2 && (isTable k e3 && (decide (x2 ≠ "watched") || decide ((dItems e3).length = 0)))) = false := by
                cases hw' : isWay x2 with
                | false => rfl
                | true =>
                  rw [hw'] at hc
                  simp only [Bool.not_true, Bool.false_or, Bool.and_eq_true, decide_eq_true_eq] at hc
                  rw [decide_eq_false (show ¬ x2 ≠ "watched" from fun z => z hc.1), decide_eq_false (show ¬ (dItems e3).length = 0 by omega)]
                  simp
              rw [ez] at z
              exact z
            | false =>
              refine if_f rfl ?_
              have q : ∀ H', Ext H2 H' → Q (.bl (isTable k e3)) H' := fun H' e => by
                have z := q H' e
                simp only [Bool.or_eq_false_iff, Bool.not_eq_false', Bool.and_eq_false_iff, decide_eq_false_iff_not] at hc
                obtain ⟨hc1, hc2⟩ := hc
                have e5 : (decide (x2 ≠ "watched") || decide ((dItems e3).length = 0)) = true := by
                  rcases hc2 with hc2 | hc2
                  · rw [decide_eq_true hc2, Bool.true_or]
                  · rw [decide_eq_true (show (dItems e3).length = 0 by omega), Bool.or_true]
                rw [hc1, e5, Bool.and_true, Bool.true_and] at z
                exact z
              have hw2 := hw.ext (e1.trans e2)
              have hz : isTable k e3 = ((dItems e3).all (isCouple k) && sortedP ((dItems e3).map coupleP)) := by rw [isTable, hts]; rfl
              rw [hz] at q
              have hkaH := hka.ext (e1.trans e2)
              -- each pair
              dsimp only [tSeq]
              refine ⟨_, rfl, f3, a3, ws, rfl, hw2, ?_⟩
              refine for_it (walk_seqF (xs := ws)) (fun i σ G => (∃ r, σ = [some (.ref a), some (.ref ka), some (.str x2), some (.ref a3), r, none, none]) ∧ Ext H2 G ∧ ((dItems e3).take i).all (isCouple k) = true) ⟨⟨_, rfl⟩, Ext.rfl', rfl⟩ (fun i σ G _ h => hw2.ext h.2.1) ?_ ?_
              · rintro i x σ G G' hi ⟨⟨r, rfl⟩, eG, hall⟩ ⟨rfl, hx1⟩
                obtain ⟨d1, hd1, hp1⟩ := DpAll.getV hwA hx1
                have hd1m := List.mem_of_getElem? hd1
                refine cut_if1 (fun c H' => c = !isCouple k d1 ∧ Ext G' H') (fun Q1 k1 => ?_) fun c G2 ⟨ec, eG2⟩ => ?_
                · dsimp only [tRet, tRetN, tSeq, tAsg, tOp, tVar, tC, tCB, tCons, tNil, tAndV, tOrV, tNotV, tAnd, tOr, tNot, tTest, tIf, tIfS, tB, tChain, tSl, tPart, tNoPart, tLst, tTup, tFld, tCl, tMt, tMk, gName, tNext, tBM, tBM0, tUn, tSub, tPar, tPar3, gTup, gCons, gNil, tDrop, tMkS, tM1, sFld, StX.tStar, tYes, gSub, cxOf, Cx.wish, Cx.nox, Cx.blk]
                  have hp2 : Dp K G' x d1 := Dp.ext (e1.trans (e2.trans eG)) hp1
                  refine ⟨_, rfl, x, .dat d1, 2, 2, rfl, .dat (.of hp2), fun G1 g1 => ⟨_, rfl, ?_⟩⟩
                  cases hl : listedK (.dat d1) 2 2 with
                  | false =>
                    refine if_t rfl (k1 _ _ ⟨?_, g1⟩)
                    cases hcp : isCouple k d1 with
                    | false => rfl
                    | true =>
                      obtain ⟨h1, x', y', ed, _⟩ := couple_two hcp
                      simp [listedK, kSeq, kItems, h1, ed] at hl
                  | true =>
                    obtain ⟨hs1, l1, l2⟩ := listed_dat hl
                    obtain ⟨fl1, b1, xs1, rfl, hx1', hA1⟩ := seq_of (Vd.of (Dp.ext g1 hp2)) hs1
                    obtain ⟨dx1, dy1, ed⟩ := two_of (ds := dItems d1) (by omega)
                    rw [ed] at hA1
                    have hz1 : isCouple k d1 = (isBelow dx1 [(k.asks.length : Int), (k.answers.length : Int)] && isBelow dy1 [(k.asks.length : Int), (k.answers.length : Int)]) := by
                      simp [isCouple, hs1, ed]
                    rw [hz1] at k1
                    cases hA1 with
                    | cons px r =>
                      cases r with
                      | cons py r =>
                        cases r
                        refine if_f rfl ⟨_, rfl, ixF hx1' at0 ⟨_, rfl, _, dx1, ka, k, rfl, .of px, hkaH.ext (eG.trans g1), fun G5 g5 => ⟨_, rfl, ?_⟩⟩⟩
                        cases hb1 : isBelow dx1 [(k.asks.length : Int), (k.answers.length : Int)] with
                        | false => exact if_t rfl (k1 _ _ ⟨by rw [hb1]; rfl, g1.trans g5⟩)
                        | true =>
                          refine if_f rfl ⟨_, rfl, ixF (hx1'.ext g5) (atI_nat (j := 1) rfl) ⟨_, rfl, _, dy1, ka, k, rfl, .of (Dp.ext g5 py), hkaH.ext (eG.trans (g1.trans g5)), fun G6 g6 => ⟨_, rfl, k1 _ _ ⟨?_, g1.trans (g5.trans g6)⟩⟩⟩⟩
                          rw [hb1, Bool.true_and]
                subst ec
                cases hcp : isCouple k d1 with
                | false =>
                  refine if_t rfl ?_
                  have z := q G2 (eG.trans eG2)
                  have hf : (dItems e3).all (isCouple k) = false := by
                    cases ha : (dItems e3).all (isCouple k) with
                    | false => rfl
                    | true =>
                      rw [List.all_eq_true.mp ha d1 hd1m] at hcp
                      cases hcp
                  rw [hf, Bool.false_and] at z
                  exact z
                | true =>
                  refine if_f rfl ⟨⟨_, rfl⟩, eG.trans eG2, ?_⟩
                  rw [List.take_succ, hd1, List.all_append, hall]
                  simp [hcp]
              · rintro σ G ⟨⟨r, rfl⟩, eG, hall⟩
                rw [lw, List.take_length] at hall
                rw [hall, Bool.true_and] at q
                have hall := List.all_eq_true.mp hall
                dsimp only
                refine cut_asg (fun v H' => ∃ D ys, v = .ref D ∧ Ext G H' ∧ H' D = some (.lst ys) ∧ DpAll K H' ys (((dItems e3).map coupleP).map P4.dat)) (fun Q1 k1 => ?_) fun v G3 ⟨D, ys, ev, eG3, hD, hB⟩ => ?_
                · refine ⟨_, rfl, f3, a3, ws, rfl, hw2.ext eG, fun D hD => ?_⟩
                  refine lc_mapH (fun d y G => Dp K G y (coupleP d).dat) (fun d y G G' e h => Dp.ext e h) (hw2.ext eG) lw (small_of (m := 600) (by omega)) hD ?_ fun ys G2 hy1 hy2 e hGD => ?_
                  · intro i d1 x G1 e' nz hx1 hd1 Q2 k2
                    obtain ⟨d1', hd1', hp1⟩ := DpAll.getV hwA hx1
                    rw [hd1] at hd1'
                    cases hd1'
                    obtain ⟨hs1, dx1, dy1, ed, bx, by1⟩ := couple_two (hall d1 (List.mem_of_getElem? hd1))
                    obtain ⟨sx, i1, i2, ex, _⟩ := below_two bx
                    obtain ⟨sy, i3, i4, ey, _⟩ := below_two by1
                    have hp2 : Dp K (L2.del G1 D) x d1 := Dp.ext (e1.trans (e2.trans (eG.trans e'))) hp1
                    obtain ⟨fl1, b1, xs1, rfl, hx1', hA1⟩ := seq_of (Vd.of hp2) hs1
                    have hP : (coupleP d1).dat = .tuple [.tuple (dItems dx1), .tuple (dItems dy1)] := by
                      simp [coupleP, ed, int2, ex, ey, P4.dat]
                    rw [ed] at hA1
                    cases hA1 with
                    | cons px r =>
                      cases r with
                      | cons py r =>
                        cases r
                        obtain ⟨fx, ax, xsx, rfl, hxx, hAx⟩ := seq_of (Vd.of px) sx
                        obtain ⟨fy, ay, xsy, rfl, hyy, hAy⟩ := seq_of (Vd.of py) sy
                        dsimp only [tRet, tRetN, tSeq, tAsg, tOp, tVar, tC, tCB, tCons, tNil, tAndV, tOrV, tNotV, tAnd, tOr, tNot, tTest, tIf, tIfS, tB, tChain, tSl, tPart, tNoPart, tLst, tTup, tFld, tCl, tMt, tMk, gName, tNext, tBM, tBM0, tUn, tSub, tPar, tPar3, gTup, gCons, gNil, tDrop, tMkS, tM1, sFld, StX.tStar, tYes, gSub, cxOf, Cx.wish, Cx.nox, Cx.blk]
                        refine ⟨rfl, _, rfl, ixF (hx1'.ext ext_del) at0 (tup_rd ext_del hxx hAx fun u1 G4 g4 hu1 => ?_)⟩
                        have gd : Ext (L2.del G1 D) G4 := ext_del.trans g4
                        refine ⟨_, rfl, ixF (hx1'.ext gd) (v := .ref ay) (atI_nat (j := 1) rfl) (tup_rd gd hyy hAy fun u2 G5 g5 hu2 => ?_)⟩
                        refine ⟨by show 2 ≤ sizeLine; decide, fun t ht => k2 _ _ (g4.trans (g5.trans (Ext.upd ht))) ?_⟩
                        have gD4 : G4 D ≠ none := by
                          cases z : G1 D with
                          | none => exact absurd z nz
                          | some o => rw [g4 _ _ z]; exact fun z => by cases z
                        have gD5 : G5 D ≠ none := by
                          cases z : G4 D with
                          | none => exact absurd z gD4
                          | some o => rw [g5 _ _ z]; exact fun z => by cases z
                        have ct : t ≠ D := fun z => gD5 (by rw [← z]; exact ht)
                        rw [hP]
                        refine .tup (SqT.of (by rw [del_ne ct, upd_same])) (.cons (Dp.ext ((over_del nz g4).trans (ext_dels (g5.trans (Ext.upd ht)))) hu1) (.cons (Dp.ext ?_ hu2) .nil))
                        have o1 : Ext (over (L2.del G1 D) G4 G5) (L2.del G5 D) := fun b o hb => by
                          cases cb : G4 b with
                          | none =>
                            rw [over_new cb] at hb
                            rw [del_ne (fun z => gD4 (by rw [← z]; exact cb))]
                            exact hb
                          | some o' =>
                            rw [over_old cb] at hb
                            exact ext_dels (g4.trans g5) b o hb
                        exact o1.trans (ext_dels (Ext.upd ht))
                  · refine k1 _ _ ⟨D, ys, rfl, e, hGD, DpAll.ext (ext_del (D := D)) (dps_of (by rw [hy1, List.length_map, List.length_map]) fun i y hy => ?_)⟩
                    obtain ⟨d1, h1, h2⟩ := hy2 i y hy
                    exact ⟨_, by rw [List.getElem?_map, List.getElem?_map, h1]; rfl, h2⟩
                subst ev
                have q := fun H' e => q H' (eG.trans (eG3.trans e))
                have lps : ((dItems e3).map coupleP).length ≤ 600 := by rw [List.length_map]; exact l3
                generalize (dItems e3).map coupleP = ps at hB q lps
                have lys : ys.length = ps.length := by rw [DpAll.length hB, List.length_map]
                dsimp only [tRet, tRetN, tSeq, tAsg, tOp, tVar, tC, tCB, tCons, tNil, tAndV, tOrV, tNotV, tAnd, tOr, tNot, tTest, tIf, tIfS, tB, tChain, tSl, tPart, tNoPart, tLst, tTup, tFld, tCl, tMt, tMk, gName, tNext, tBM, tBM0, tUn, tSub, tPar, tPar3, gTup, gCons, gNil, tDrop, tMkS, tM1, sFld, StX.tStar, tYes, gSub, cxOf, Cx.wish, Cx.nox, Cx.blk]
                refine ⟨_, rfl, D, _, rfl, .inl (SqL.of hD), 1, _, rfl, by omega, fun D2 hD2 => ?_⟩
                refine turns_it (walk_range (lo := 1) (n := ((ys.length : Int) - 1).toNat)) (fun i G2 => ∃ l : List Int, G2 D2 = some (.lst (l.map V.int)) ∧ l.length ≤ i ∧ Ext G3 (L2.del G2 D2) ∧ (l = [] ↔ ∀ (j : Nat) (x y : P4), j < i → ps[j]? = some x → ps[j + 1]? = some y → ltP x y = true)) ⟨[], upd_same, Nat.le_refl _, ext_off (Ext.upd hD2) hD2, by simp⟩ (fun _ _ _ _ => trivial) ?_ ?_
                · rintro i x G2 G4 hi ⟨l, hl, ll, e4, hiff⟩ ⟨rfl, rfl⟩
                  have hD4 := (e4.trans ext_del) _ _ hD
                  have hi1 : i + 1 < ps.length := by omega
                  have hB4 := DpAll.ext (e4.trans ext_del) hB
                  have hy0 : ys[i]? = some ys[i] := List.getElem?_eq_getElem (by omega)
                  have hy1 : ys[i + 1]? = some ys[i + 1] := List.getElem?_eq_getElem (by omega)
                  obtain ⟨d0, hd0, hp0⟩ := DpAll.getV hB4 hy0
                  obtain ⟨d1, hd1, hp1⟩ := DpAll.getV hB4 hy1
                  rw [List.getElem?_map] at hd0 hd1
                  obtain ⟨c0, hc0, rfl⟩ := Option.map_eq_some_iff.mp hd0
                  obtain ⟨c1, hc1, rfl⟩ := Option.map_eq_some_iff.mp hd1
                  have ea : (1 + (i : Int)) - 1 = ((i : Nat) : Int) := by omega
                  have eb : (1 + (i : Int)) = ((i + 1 : Nat) : Int) := by omega
                  dsimp only [tRet, tRetN, tSeq, tAsg, tOp, tVar, tC, tCB, tCons, tNil, tAndV, tOrV, tNotV, tAnd, tOr, tNot, tTest, tIf, tIfS, tB, tChain, tSl, tPart, tNoPart, tLst, tTup, tFld, tCl, tMt, tMk, gName, tNext, tBM, tBM0, tUn, tSub, tPar, tPar3, gTup, gCons, gNil, tDrop, tMkS, tM1, sFld, StX.tStar, tYes, gSub, cxOf, Cx.wish, Cx.nox, Cx.blk]
                  refine ⟨rfl, _, rfl, _, rfl, _, _, rfl, rfl, D, ys, _, ys[i], rfl, rfl, SqL.of hD4, by rw [ea]; exact atI_nat hy0, _, rfl, _, rfl, D, ys, _, ys[i + 1], rfl, rfl, SqL.of hD4, by rw [eb]; exact atI_nat hy1, c0.dat, c1.dat, hp0, hp1, P4_alike _ _, (fun z => by cases z), by simp [P4.dat, PyData.depth, PyData.depthAll], _, rfl, ?_⟩
                  have hc : W.dataLt c0.dat c1.dat = ltP c0 c1 := rfl
                  rw [hc]
                  cases hlt : ltP c0 c1 with
                  | true =>
                    refine if_f rfl ⟨l, hl, by omega, e4, ?_⟩
                    rw [hiff]
                    constructor
                    · intro h j x y hj hx hy
                      by_cases c : j = i
                      · subst c
                        rw [hc0] at hx
                        rw [hc1] at hy
                        cases hx
                        cases hy
                        exact hlt
                      · exact h j x y (by omega) hx hy
                    · intro h j x y hj hx hy
                      exact h j x y (by omega) hx hy
                  | false =>
                    refine if_t rfl ⟨_, rfl, _, hl, by rw [List.length_map]; exact small_of (m := 700) (by omega), l ++ [1 + (i : Int)], by rw [upd_same, List.map_append]; rfl, by simp; omega, by rw [del_upd]; exact e4, ?_⟩
                    constructor
                    · intro h
                      simp at h
                    · intro h
                      have z := h i c0 c1 (by omega) hc0 hc1
                      rw [hlt] at z
                      cases z
                · rintro G2 ⟨l, hl, ll, e4, hiff⟩
                  have eG2 : Ext G3 G2 := e4.trans ext_del
                  refine ⟨Nat.zero_le _, fun p hp => ⟨.list (l.map PyData.int), .list [], .lst (SqL.of (Ext.upd hp _ _ hl)) (DpAll.ints l), .lst (SqL.of upd_same) .nil, (shaped_seq rfl).mpr fun x hx => ?_, rfl, ?_⟩⟩
                  · obtain ⟨i, _, rfl⟩ := List.mem_map.mp hx
                    exact ⟨rfl, Nat.zero_le _⟩
                  · have ee : PyData.eqv (.list (l.map PyData.int)) (.list []) = sortedP ps := by
                      have e1' : PyData.eqv (.list (l.map PyData.int)) (.list []) = decide (l = []) := by
                        cases l <;> simp [PyData.eqv, PyData.eqvAll]
                      rw [e1', Bool.eq_iff_iff, decide_eq_true_eq, hiff, ltP_at]
                      constructor
                      · intro h j x y hx hy
                        have := (List.getElem?_eq_some_iff.mp hy).1
                        exact h j x y (by omega) hx hy
                      · intro h j x y _ hx hy
                        exact h j x y hx hy
                    rw [ee]
                    exact q _ (eG2.trans (Ext.upd hp))
end
end K81

end
section
/-! K81x: _law_due. -/
namespace K81
open PySem L2 Ow
open PySem.Spec PyProof.Rows
/-- xs != [] -/
def rNeNil (K : W.Frag) : R2 := fun x y H Q => ∃ p q xs, x = .ref p ∧ y = .ref q ∧ SqL K H p xs ∧ SqL K H q [] ∧ Q (.bl (!xs.isEmpty)) H
theorem op_neNil {X : Cx} (hu : X.A.units + 64 < cLine) : OpR X (compareOp .NotEq) (rNeNil X.K) := by
  intro pins s σ H x y v u Q I rx ry ⟨p, q, xs, e1, e2, ha, hb, k⟩
  cases xs with
  | nil => exact op_neD hu pins s σ H x y v u Q I rx ry ⟨.list [], .list [], by rw [e1]; exact .lst ha .nil, by rw [e2]; exact .lst hb .nil, rfl, rfl, k⟩
  | cons z r => exact op_neLens hu pins s σ H x y v u Q I rx ry ⟨p, q, _, [], e1, e2, ha, hb, by simp, k⟩
def dueV : Option Str → V
  | none => .non
  | some x => .str x
theorem filter_empty {α : Type} {p : α → Bool} : ∀ {l : List α}, (l.filter fun x => !p x).isEmpty = l.all p
  | [] => rfl
  | a :: l => by
    have ih := filter_empty (p := p) (l := l)
    cases h : p a with
    | true => simp [h, ← ih]
    | false => simp [h]
/-- [x for x in xs if not p(x)] -/
theorem lc_not {α : Type} {K : W.Frag} {fl : Bool} {a : Addr} {xs : List V} {ds : List α} (p : α → Bool) {i0 : Nat} {tt : TT} {vs : List Nat} {σ : L2.St} {H1 : Hp} {D : Addr} {Qd : Hp → Prop} (hx : SqF K fl H1 a xs) (hl : xs.length = ds.length) (hn : ds.length < sizeLine) (hD : H1 D = none)
    (hw : ∀ x, wipe ((wipe σ vs).set i0 (some x)) vs = wipe σ vs) (hv : ∀ x, ((wipe σ vs).set i0 (some x))[i0]? = some (some x))
    (hs : ∀ (i : Nat) (d : α) (x : V) (G : Hp), Ext H1 G → xs[i]? = some x → ds[i]? = some d → ∀ Q2 : Bool → Hp → Prop, (∀ G2, Ext G G2 → Q2 (!p d) G2) → tt ((wipe σ vs).set i0 (some x)) G Q2)
    (hd : ∀ ys G, Ext H1 G → G D = some (.lst ys) → ys.isEmpty = ds.all p → Qd G) :
    ∃ W : Nat → Nat → Hp → Prop, (∃ m, W 0 m (upd H1 D (.lst []))) ∧ ∀ i m H, W i m H →
      ((ItF K fl a).stop i H ∧ Qd H) ∨ ((ItF K fl a).go i H ∧ ∃ Nx : Hp → Prop, (∀ H', Nx H' → ∃ m', m' < m ∧ W (i + 1) m' H') ∧ ∀ x H', (ItF K fl a).yld i H x H' → gName i0 x (wipe σ vs) H' fun σ2 H2 => wipe σ2 vs = wipe σ vs ∧ tt σ2 H2 fun b H3 =>
        if b = true then tVar i0 σ2 H3 fun y H4 => ∃ acc, H4 D = some (.lst acc) ∧ acc.length < sizeLine ∧ Nx (upd H4 D (.lst (acc ++ [y]))) else Nx H3) := by
  have off : ∀ {H2 : Hp} {o : HO}, Ext H1 H2 → Ext H1 (upd H2 D o) := fun {H2 o} e b u hb => by
    rw [upd_ne (ne_of_none hb hD)]
    exact e b u hb
  refine turns_it (walk_seqF (K := K) (fl := fl) (a := a) (xs := xs)) (fun i G => ∃ ys, G D = some (.lst ys) ∧ ys.length ≤ i ∧ Ext H1 G ∧ ys.isEmpty = (ds.take i).all p) ⟨[], upd_same, Nat.le_refl _, off Ext.rfl', rfl⟩ (fun i G _ ⟨_, _, _, e, _⟩ => hx.ext e) ?_ ?_
  · rintro i x G G' hi ⟨ys, hG, ly, e, hy⟩ ⟨rfl, hx1⟩
    obtain ⟨d, hd⟩ : ∃ d, ds[i]? = some d := ⟨ds[i]'(by omega), List.getElem?_eq_getElem (by omega)⟩
    have et : (ds.take (i + 1)).all p = ((ds.take i).all p && p d) := by
      rw [List.take_succ, hd, List.all_append]
      simp
    refine ⟨hw x, hs i d x _ e hx1 hd _ fun G2 e2 => ?_⟩
    cases hp : p d with
    | true =>
      refine if_f rfl ⟨ys, e2 _ _ hG, by omega, e.trans e2, ?_⟩
      rw [et, hp, Bool.and_true]
      exact hy
    | false =>
      refine if_t rfl ⟨x, hv x, ys, e2 _ _ hG, by omega, ys ++ [x], upd_same, by simp; omega, off (e.trans e2), ?_⟩
      rw [et, hp, Bool.and_false]
      simp
  · rintro G ⟨ys, hG, ly, e, hy⟩
    rw [hl, List.take_length] at hy
    exact hd ys G e hG hy
theorem all_next {α : Type} {l : List α} {p : α → Bool} {i : Nat} {a : α} (h : l[i]? = some a) : (l.take (i + 1)).all p = ((l.take i).all p && p a) := by
  rw [List.take_succ, h, List.all_append]
  simp
theorem all_no {α : Type} {l : List α} {p : α → Bool} {a : α} (h : a ∈ l) (hp : p a = false) : l.all p = false := by
  cases e : l.all p with
  | false => rfl
  | true =>
    rw [List.all_eq_true.mp e a h] at hp
    cases hp
theorem step_ok {hs : List KD} {e : PyData} : (isRow e 2 && stepIn hs e) = (listedK (.dat e) 2 2 && match dItems e with
    | [x, y] => within x 0 (some ((hs.length : Int) - 1)) && (match x with
      | .int h => within y 0 (some ((askN (hs.getD h.toNat (.dat .none)) : Int) - 1))
      | _ => false)
    | _ => false) := by
  have eL : listedK (.dat e) 2 2 = (dSeq e && decide ((dItems e).length = 2)) := by
    rw [listedK, kSeq, kItems, List.length_map, Bool.eq_iff_iff]
    simp
    intro _
    omega
  rw [eL]
  cases hs' : dSeq e with
  | false => simp [isRow, hs']
  | true =>
    by_cases hl : (dItems e).length = 2
    · obtain ⟨x, y, ed⟩ := two_of hl
      have eR : isRow e 2 = (dInt x && dInt y) := by simp [isRow, hs', ed]
      rw [eR, stepIn, ed]
      cases x <;> simp [within, dInt]
      cases y <;> simp [within, dInt]
      rename_i h a
      rw [Bool.eq_iff_iff]
      simp
      constructor
      · rintro ⟨a1, a2, a3, a4⟩
        exact ⟨⟨a1, by omega⟩, a3, by omega⟩
      · rintro ⟨⟨a1, a2⟩, a3, a4⟩
        exact ⟨a1, by omega, a3, by omega⟩
    · simp [isRow, hs', hl]
      intro h
      omega
section
variable {w : World} {K : W.Frag} {mg : Str → Option Value} {base : Heap}
def sp_law_due (K : W.Frag) : Sp := fun vs H Q _ => ∃ u hd v d, vs = [u, v] ∧ Kp K H u hd ∧ (∀ x ∈ kItems hd, okH x) ∧ Vd K H v d ∧ ∀ H', Ext H H' → Q (dueV (dueK hd d)) H'
theorem c_law_due (T : Txt K mg) : Cal prg w K mg base CX0 4 "_law_due" ["_law_houses_here", "_law_hands_here"] (sp_law_due K) := by
  refine T.d_law_due.cal sc_law_due (fun vs H Q E ⟨u, hd, v, d, e, _⟩ => by rw [e]; rfl) fun f cdv A outer s H vs Q E hr h => ?_
  have nd := sc_law_due.nd
  obtain ⟨u, hd, v, d, rfl, hu, hok, hv, q⟩ := h
  refine ⟨_, PSs.nox (pss_cons (ps_if (PW.pt (pw_or (pt_not (pt_val (pe_cl (c_law_is_list T) (hr.mono (by decide)) pass0 (pa_cons (pv 0) (pa_cons pe_int (pa_cons pe_int pa_nil)))))) (pw_or1 (pt_cmpR (op_neNil hr.units) (pe_lc (own := [("_law_house", 5)]) (g := gName 5) rfl nd (pi_seqF (pv 0)) (blkOk_by (own := [("_law_house", 5)]) (N := ["_law_houses_here", "_law_hands_here", "_law_hand", "_law_deal_here", "_law_step", "_law_house"]) (sc := defScope s_law_due) (by decide +kernel)) (fun _ _ _ _ _ => (pg_name (i := 5) nd rfl (Or.inl rfl))) (fun _ _ _ _ _ => (pts_one (pt_not (pt_val (pe_cl (c_law_is_house T) (hr.mono (by decide)) pass0 (pa_cons (pv 5) pa_nil)))))) (fun _ _ _ _ _ => (pv 5))) (pe_lst pa_nil) (nomark _))))) (pss_one (ps_ret pe_str)) pss_nil)
      (pss_cons (ps_if (PW.pt (pw_or (pt_not (pt_val (pe_cl (c_law_is_list T) (hr.mono (by decide)) pass0 (pa_cons (pv 1) (pa_cons pe_int (pa_cons pe_int pa_nil)))))) (pw_or1 (pt_cmpR (op_neNil hr.units) (pe_lc (own := [("_law_hand", 2)]) (g := gName 2) rfl nd (pi_seqF (pv 1)) (blkOk_by (own := [("_law_hand", 2)]) (N := ["_law_houses_here", "_law_hands_here", "_law_hand", "_law_deal_here", "_law_step", "_law_house"]) (sc := defScope s_law_due) (by decide +kernel)) (fun _ _ _ _ _ => (pg_name (i := 2) nd rfl (Or.inl rfl))) (fun _ _ _ _ _ => (pts_one (pt_not (pt_val (pe_callB (callK (K := K) rIsiT rfl call_isiT) (by rfl) T.f_isinstance (by decide +kernel) (pa_cons (pv 2) (pa_cons (pe_tup (pa_cons (pe_bltn (v := .ty "list") (by rfl) T.f_list (by decide +kernel) rfl) (pa_cons (pe_bltn (v := .ty "tuple") (by rfl) T.f_tuple (by decide +kernel) rfl) pa_nil))) pa_nil))))))) (fun _ _ _ _ _ => (pv 2))) (pe_lst pa_nil) (nomark _))))) (pss_one (ps_ret pe_str)) pss_nil)
      (pss_cons (ps_if (pt_cmpR op_gt (pe_callB (cr_sum rfl) (by rfl) T.f_sum (by decide +kernel) (pa_cons (pe_lc (own := [("_law_hand", 2)]) (tt := tYes) (g := gName 2) rfl nd (pi_seqF (pv 1)) (blkOk_by (own := [("_law_hand", 2)]) (N := ["_law_houses_here", "_law_hands_here", "_law_hand", "_law_deal_here", "_law_step", "_law_house"]) (sc := defScope s_law_due) (by decide +kernel)) (fun _ _ _ _ _ => (pg_name (i := 2) nd rfl (Or.inl rfl))) (fun _ _ _ _ _ => pts_nil) (fun _ _ _ _ _ => (pe_callB (call_lenK (K := K) rfl) (by rfl) T.f_len (by decide +kernel) (pa_cons (pv 2) pa_nil)))) pa_nil)) pe_int (nomark _)) (pss_one (ps_ret pe_str)) pss_nil)
      (pss_cons (ps_for PassesOwn.never rfl (pi_seqF (pv 1)) (pg_name (i := 2) nd rfl (Or.inl rfl)) (pss_one (ps_for PassesOwn.never rfl (pi_seqF (pv 2)) (pg_name (i := 3) nd rfl (Or.inl rfl)) (pss_cons (ps_if (pt_not (pt_val (pe_cl (c_law_is_list T) (hr.mono (by decide)) pass0 (pa_cons (pv 3) (pa_cons pe_int (pa_cons pe_int pa_nil)))))) (pss_one (ps_ret pe_str)) pss_nil)
      (pss_one (ps_for PassesOwn.never rfl (pi_seqF (pv 3)) (pg_name (i := 4) nd rfl (Or.inl rfl)) (pss_one (ps_if (PW.pt (pw_or (pt_not (pt_val (pe_cl (c_law_is_list T) (hr.mono (by decide)) pass0 (pa_cons (pv 4) (pa_cons pe_int (pa_cons pe_int pa_nil)))))) (pw_or (pt_not (pt_val (pe_cl (c_law_is_number T) (hr.mono (by decide)) pass0 (pa_cons (pe_ix ix_seq (pv 4) pe_int (fun _ _ => rfl)) (pa_cons (pe_callB call_len_seq (by rfl) T.f_len (by decide +kernel) (pa_cons (pv 0) pa_nil)) pa_nil))))) (pw_or1 (pt_not (pt_val (pe_cl (c_law_is_number T) (hr.mono (by decide)) pass0 (pa_cons (pe_ix ix_seq (pv 4) pe_int (fun _ _ => rfl)) (pa_cons (pe_callB call_len_seq (by rfl) T.f_len (by decide +kernel) (pa_cons (pe_fld (pe_ix ix_seq (pe_ix ix_seq (pv 0) (pe_ix ix_seq (pv 4) pe_int (fun _ _ => rfl)) (fun _ _ => rfl)) pe_int (fun _ _ => rfl)) rfl) pa_nil)) pa_nil))))))))) (pss_one (ps_ret pe_str)) pss_nil))))))))
      (pss_one (ps_ret pe_non)))))), ?_⟩
  refine cut_ifn (fun c H' => c = !(listedK hd 1 4 && (kItems hd).all isHouse) ∧ Ext H H') (fun Q1 k1 => ?_) fun c H1 ⟨ec, e1⟩ => ?_
  · dsimp only [tRet, tRetN, tSeq, tAsg, tOp, tVar, tC, tCB, tCons, tNil, tAndV, tOrV, tNotV, tAnd, tOr, tNot, tTest, tIf, tIfS, tB, tChain, tSl, tPart, tNoPart, tLst, tTup, tFld, tCl, tMt, tMk, gName, tNext, tBM, tBM0, tUn, tSub, tPar, tPar3, gTup, gCons, gNil, tDrop, tMkS, tM1, sFld, StX.tStar, tYes, gSub, cxOf, Cx.wish, Cx.nox, Cx.blk]
    refine ⟨_, rfl, u, hd, 1, 4, rfl, hu, fun H1 e1 => ⟨_, rfl, ?_⟩⟩
    cases hg : listedK hd 1 4 with
    | false => exact if_t rfl (k1 _ _ ⟨by rw [hg]; rfl, e1⟩)
    | true =>
      refine if_f rfl ?_
      have hg2 := hg
      simp only [listedK, Bool.and_eq_true, decide_eq_true_eq] at hg2
      obtain ⟨hs, hl1, hl2⟩ := hg2
      obtain ⟨fl, a, xs, rfl, hx, hA⟩ := kseq_of (hu.ext e1) hs
      have hlen : xs.length = (kItems hd).length := KpAll.length hA
      refine ⟨_, rfl, fl, a, xs, rfl, hx, fun D hD => ?_⟩
      refine lc_not isHouse hx hlen (small_of (m := 600) (by omega)) hD (fun x => rfl) (fun x => rfl) ?_ fun ys G e hG hys => ?_
      · intro i d1 x G e hx1 hd1 Q2 k2
        obtain ⟨d2, hd2, hp2⟩ := KpAll.getV hA hx1
        rw [hd1] at hd2
        cases hd2
        dsimp only [tRet, tRetN, tSeq, tAsg, tOp, tVar, tC, tCB, tCons, tNil, tAndV, tOrV, tNotV, tAnd, tOr, tNot, tTest, tIf, tIfS, tB, tChain, tSl, tPart, tNoPart, tLst, tTup, tFld, tCl, tMt, tMk, gName, tNext, tBM, tBM0, tUn, tSub, tPar, tPar3, gTup, gCons, gNil, tDrop, tMkS, tM1, sFld, StX.tStar, tYes, gSub, cxOf, Cx.wish, Cx.nox, Cx.blk]
        exact ⟨_, rfl, x, d1, rfl, hp2.ext e, hok d1 (List.mem_of_getElem? hd1), fun G2 e2 => ⟨_, rfl, k2 G2 e2⟩⟩
      · refine ⟨Nat.zero_le _, fun p hp => ⟨D, p, ys, rfl, rfl, SqL.of (Ext.upd hp _ _ hG), SqL.of upd_same, _, rfl, k1 _ _ ⟨?_, e1.trans (e.trans (Ext.upd hp))⟩⟩⟩
        rw [hg, hys]
        rfl
  subst ec
  cases hg : listedK hd 1 4 && (kItems hd).all isHouse with
  | false =>
    refine if_t rfl ?_
    have z := q H1 e1
    rw [dueK, if_neg (by rw [hg]; decide)] at z
    exact z
  | true =>
    refine if_f rfl ?_
    obtain ⟨hg1, hall⟩ := Bool.and_eq_true_iff.mp hg
    have hg2 := hg1
    simp only [listedK, Bool.and_eq_true, decide_eq_true_eq] at hg2
    obtain ⟨hs, hl1, hl2⟩ := hg2
    have qn : isHands (kItems hd) d = true → ∀ H', Ext H1 H' → Q .non H' := fun h H' e => by
      have z := q H' (e1.trans e)
      rw [dueK, if_pos hg, if_pos h] at z
      exact z
    have qh : isHands (kItems hd) d = false → ∀ H', Ext H1 H' → Q (.str "hands") H' := fun h H' e => by
      have z := q H' (e1.trans e)
      rw [dueK, if_pos hg, if_neg (by rw [h]; decide)] at z
      exact z
    refine cut_ifn (fun c H' => c = !(listedK (.dat d) 1 4 && (dItems d).all dSeq) ∧ Ext H1 H') (fun Q1 k1 => ?_) fun c H2 ⟨ec, e2⟩ => ?_
    · dsimp only [tRet, tRetN, tSeq, tAsg, tOp, tVar, tC, tCB, tCons, tNil, tAndV, tOrV, tNotV, tAnd, tOr, tNot, tTest, tIf, tIfS, tB, tChain, tSl, tPart, tNoPart, tLst, tTup, tFld, tCl, tMt, tMk, gName, tNext, tBM, tBM0, tUn, tSub, tPar, tPar3, gTup, gCons, gNil, tDrop, tMkS, tM1, sFld, StX.tStar, tYes, gSub, cxOf, Cx.wish, Cx.nox, Cx.blk]
      refine ⟨_, rfl, v, .dat d, 1, 4, rfl, .dat (Vd.ext e1 hv), fun H2 e2 => ⟨_, rfl, ?_⟩⟩
      cases hg3 : listedK (.dat d) 1 4 with
      | false => exact if_t rfl (k1 _ _ ⟨by rw [hg3]; rfl, e2⟩)
      | true =>
        obtain ⟨hs2, l1, l6⟩ := listed_dat hg3
        refine if_f rfl ?_
        obtain ⟨fl, a, xs, rfl, hx, hA⟩ := seq_of (Vd.ext (e1.trans e2) hv) hs2
        have hlen : xs.length = (dItems d).length := DpAll.length hA
        refine ⟨_, rfl, fl, a, xs, rfl, hx, fun D hD => ?_⟩
        refine lc_not dSeq hx hlen (small_of (m := 600) (by omega)) hD (fun x => rfl) (fun x => rfl) ?_ fun ys G e hG hys => ?_
        · intro i d1 x G e hx1 hd1 Q2 k2
          obtain ⟨d2, hd2, hp2⟩ := DpAll.getV hA hx1
          rw [hd1] at hd2
          cases hd2
          dsimp only [tRet, tRetN, tSeq, tAsg, tOp, tVar, tC, tCB, tCons, tNil, tAndV, tOrV, tNotV, tAnd, tOr, tNot, tTest, tIf, tIfS, tB, tChain, tSl, tPart, tNoPart, tLst, tTup, tFld, tCl, tMt, tMk, gName, tNext, tBM, tBM0, tUn, tSub, tPar, tPar3, gTup, gCons, gNil, tDrop, tMkS, tM1, sFld, StX.tStar, tYes, gSub, cxOf, Cx.wish, Cx.nox, Cx.blk]
          exact ⟨_, rfl, (by show 2 ≤ sizeLine; decide), fun tp htp => isi2_rd (Vd.of (Dp.ext (e.trans (Ext.upd htp)) hp2)) upd_same ⟨_, rfl, k2 _ (Ext.upd htp)⟩⟩
        · refine ⟨Nat.zero_le _, fun p hp => ⟨D, p, ys, rfl, rfl, SqL.of (Ext.upd hp _ _ hG), SqL.of upd_same, _, rfl, k1 _ _ ⟨?_, e2.trans (e.trans (Ext.upd hp))⟩⟩⟩
          rw [hg3, hys]
          rfl
    subst ec
    have hz : isHands (kItems hd) d = (listedK (.dat d) 1 4 && (dItems d).all dSeq && (decide (((dItems d).map fun h => ((dItems h).length : Int)).sum ≤ 8) && (dealsOf d).all (isDeal (kItems hd)))) := by rw [isHands, Bool.and_assoc]
    cases hg3 : listedK (.dat d) 1 4 && (dItems d).all dSeq with
    | false =>
      refine if_t rfl ?_
      exact qh (by rw [hz, hg3]; rfl) H2 e2
    | true =>
      refine if_f rfl ?_
      rw [hg3, Bool.true_and] at hz
      obtain ⟨hg4, hr2⟩ := Bool.and_eq_true_iff.mp hg3
      have hr2 := List.all_eq_true.mp hr2
      obtain ⟨hds, l1, l6⟩ := listed_dat hg4
      obtain ⟨fl, a, xs, rfl, hx, hA⟩ := seq_of (Vd.ext (e1.trans e2) hv) hds
      have hlen : xs.length = (dItems d).length := DpAll.length hA
      refine cut_ifn (fun c H' => c = !decide (((dItems d).map fun h => ((dItems h).length : Int)).sum ≤ 8) ∧ Ext H2 H') (fun Q1 k1 => ?_) fun c H3 ⟨ec, e3⟩ => ?_
      · dsimp only [tRet, tRetN, tSeq, tAsg, tOp, tVar, tC, tCB, tCons, tNil, tAndV, tOrV, tNotV, tAnd, tOr, tNot, tTest, tIf, tIfS, tB, tChain, tSl, tPart, tNoPart, tLst, tTup, tFld, tCl, tMt, tMk, gName, tNext, tBM, tBM0, tUn, tSub, tPar, tPar3, gTup, gCons, gNil, tDrop, tMkS, tM1, sFld, StX.tStar, tYes, gSub, cxOf, Cx.wish, Cx.nox, Cx.blk]
        refine ⟨_, rfl, fl, a, xs, rfl, hx, fun D hD => ?_⟩
        refine lc_map (fun e => .int (dItems e).length) hx hlen (small_of (m := 600) (by omega)) hD ?_ fun G e hG => ?_
        · intro i d1 x G e hx1 hd1 Q2 k2
          obtain ⟨d2, hd2, hp2⟩ := DpAll.getV hA hx1
          rw [hd1] at hd2
          cases hd2
          obtain ⟨f1, a1, ys, rfl, hy, hyA⟩ := seq_of (Vd.of (Dp.ext e hp2)) (hr2 d1 (List.mem_of_getElem? hd1))
          dsimp only [tRet, tRetN, tSeq, tAsg, tOp, tVar, tC, tCB, tCons, tNil, tAndV, tOrV, tNotV, tAnd, tOr, tNot, tTest, tIf, tIfS, tB, tChain, tSl, tPart, tNoPart, tLst, tTup, tFld, tCl, tMt, tMk, gName, tNext, tBM, tBM0, tUn, tSub, tPar, tPar3, gTup, gCons, gNil, tDrop, tMkS, tM1, sFld, StX.tStar, tYes, gSub, cxOf, Cx.wish, Cx.nox, Cx.blk]
          refine ⟨rfl, _, rfl, a1, ys, rfl, hy.or, ?_⟩
          rw [DpAll.length hyA]
          exact k2 G Ext.rfl'
        · refine ⟨D, (dItems d).map fun h => ((dItems h).length : Int), rfl, SqL.of (by rw [hG, List.map_map]; rfl), _, _, rfl, rfl, _, rfl, k1 _ _ ⟨?_, e⟩⟩
          rw [Bool.eq_iff_iff]
          simp
      subst ec
      cases hg5 : decide (((dItems d).map fun h => ((dItems h).length : Int)).sum ≤ 8) with
      | false =>
        refine if_t rfl ?_
        exact qh (by rw [hz, hg5]; rfl) H3 (e2.trans e3)
      | true =>
        refine if_f rfl ?_
        rw [hg5, Bool.true_and] at hz
        have hx3 := hx.ext e3
        let okH : PyData → Bool := fun h => (dItems h).all (isDeal (kItems hd))
        have hz2 : isHands (kItems hd) d = (dItems d).all okH := by
          rw [hz]
          show ((dItems d).flatMap dItems).all _ = _
          rw [List.all_flatMap]
        have no : ∀ h dl, h ∈ dItems d → dl ∈ dItems h → isDeal (kItems hd) dl = false → isHands (kItems hd) d = false := fun h dl h1 h2 h3 => by
          rw [hz2]
          exact all_no h1 (all_no h2 h3)
        obtain ⟨fu, au, us, rfl, hux, hUA⟩ := kseq_of (hu.ext e1) hs
        have hul : us.length = (kItems hd).length := KpAll.length hUA
        dsimp only [tSeq]
        refine ⟨_, rfl, fl, a, xs, rfl, hx3, ?_⟩
        refine for_it (walk_seqF (xs := xs)) (fun i σ G => (∃ r2 r3 r4 r5, σ = [some (.ref au), some (.ref a), r2, r3, r4, r5]) ∧ Ext H3 G ∧ ((dItems d).take i).all okH = true) ⟨⟨_, _, _, _, rfl⟩, Ext.rfl', rfl⟩ (fun i σ G _ h => hx3.ext h.2.1) ?_ ?_
        · rintro i x σ G G' hi ⟨⟨r2, r3, r4, r5, rfl⟩, eG, hal⟩ ⟨rfl, hx1⟩
          obtain ⟨d1, hd1, hp1⟩ := DpAll.getV hA hx1
          have hd1m := List.mem_of_getElem? hd1
          have eG3 := e3.trans eG
          obtain ⟨f1, a1, ys, rfl, hy, hyA⟩ := seq_of (Vd.of (Dp.ext eG3 hp1)) (hr2 d1 hd1m)
          dsimp only [tRet, tRetN, tSeq, tAsg, tOp, tVar, tC, tCB, tCons, tNil, tAndV, tOrV, tNotV, tAnd, tOr, tNot, tTest, tIf, tIfS, tB, tChain, tSl, tPart, tNoPart, tLst, tTup, tFld, tCl, tMt, tMk, gName, tNext, tBM, tBM0, tUn, tSub, tPar, tPar3, gTup, gCons, gNil, tDrop, tMkS, tM1, sFld, StX.tStar, tYes, gSub, cxOf, Cx.wish, Cx.nox, Cx.blk]
          refine ⟨_, rfl, f1, a1, ys, rfl, hy, ?_⟩
          refine for_it (walk_seqF (xs := ys)) (fun j σ G => (∃ r3 r4 r5, σ = [some (.ref au), some (.ref a), some (.ref a1), r3, r4, r5]) ∧ Ext G' G ∧ ((dItems d1).take j).all (isDeal (kItems hd)) = true) ⟨⟨_, _, _, rfl⟩, Ext.rfl', rfl⟩ (fun j σ G _ h => hy.ext h.2.1) ?_ ?_
          · rintro j x σ G5 G6 hj ⟨⟨r3', r4', r5', rfl⟩, e5, hal2⟩ ⟨rfl, hx2⟩
            obtain ⟨d2, hd2, hp2⟩ := DpAll.getV hyA hx2
            have hd2m := List.mem_of_getElem? hd2
            have hp3 := Dp.ext e5 hp2
            have eG6 : Ext H1 G6 := e2.trans (eG3.trans e5)
            refine cut_tseq (fun σ' H' => σ' = [some (.ref au), some (.ref a), some (.ref a1), some x, r4', r5'] ∧ Ext G6 H' ∧ listedK (.dat d2) 1 6 = true) (fun D1 k1 => ?_) fun σ' G7 ⟨eσ, e6, hl2⟩ => ?_
            · refine cut_if1 (fun c H' => c = !listedK (.dat d2) 1 6 ∧ Ext G6 H') (fun Q1 k2 => ?_) fun c G7 ⟨ec, e6⟩ => ?_
              · dsimp only [tRet, tRetN, tSeq, tAsg, tOp, tVar, tC, tCB, tCons, tNil, tAndV, tOrV, tNotV, tAnd, tOr, tNot, tTest, tIf, tIfS, tB, tChain, tSl, tPart, tNoPart, tLst, tTup, tFld, tCl, tMt, tMk, gName, tNext, tBM, tBM0, tUn, tSub, tPar, tPar3, gTup, gCons, gNil, tDrop, tMkS, tM1, sFld, StX.tStar, tYes, gSub, cxOf, Cx.wish, Cx.nox, Cx.blk]
                exact ⟨_, rfl, x, .dat d2, 1, 6, rfl, .dat (.of hp3), fun H' e => ⟨_, rfl, k2 _ _ ⟨rfl, e⟩⟩⟩
              subst ec
              cases hl2 : listedK (.dat d2) 1 6 with
              | false =>
                refine if_t rfl ?_
                exact qh (no d1 d2 hd1m hd2m (by rw [isDeal, hl2]; rfl)) G7 (eG6.trans e6)
              | true => exact if_f rfl (k1 _ _ ⟨rfl, e6, hl2⟩)
            subst eσ
            obtain ⟨ds2, dl1, dl6⟩ := listed_dat hl2
            obtain ⟨f2, a2, zs, rfl, hzs, hzA⟩ := seq_of (Vd.of (Dp.ext e6 hp3)) ds2
            have hzD : isDeal (kItems hd) d2 = (dItems d2).all fun e => isRow e 2 && stepIn (kItems hd) e := by
              rw [isDeal, hl2, Bool.true_and, Bool.eq_iff_iff]
              simp only [Bool.and_eq_true, List.all_eq_true]
              exact ⟨fun ⟨h1, h2⟩ x hx => ⟨h1 x hx, h2 x hx⟩, fun h => ⟨fun x hx => (h x hx).1, fun x hx => (h x hx).2⟩⟩
            dsimp only [tRet, tRetN, tSeq, tAsg, tOp, tVar, tC, tCB, tCons, tNil, tAndV, tOrV, tNotV, tAnd, tOr, tNot, tTest, tIf, tIfS, tB, tChain, tSl, tPart, tNoPart, tLst, tTup, tFld, tCl, tMt, tMk, gName, tNext, tBM, tBM0, tUn, tSub, tPar, tPar3, gTup, gCons, gNil, tDrop, tMkS, tM1, sFld, StX.tStar, tYes, gSub, cxOf, Cx.wish, Cx.nox, Cx.blk]
            refine ⟨_, rfl, f2, a2, zs, rfl, hzs, ?_⟩
            refine for_it (walk_seqF (xs := zs)) (fun k σ G => (∃ r4 r5, σ = [some (.ref au), some (.ref a), some (.ref a1), some (.ref a2), r4, r5]) ∧ Ext G7 G ∧ ((dItems d2).take k).all (fun e => isRow e 2 && stepIn (kItems hd) e) = true) ⟨⟨_, _, rfl⟩, Ext.rfl', rfl⟩ (fun k σ G _ h => hzs.ext h.2.1) ?_ ?_
            · rintro k x σ G8 G9 hk ⟨⟨r4'', r5'', rfl⟩, e8, hal3⟩ ⟨rfl, hx3'⟩
              obtain ⟨d3, hd3, hp4⟩ := DpAll.getV hzA hx3'
              have hd3m := List.mem_of_getElem? hd3
              have eG9 : Ext H1 G9 := eG6.trans (e6.trans e8)
              have hp5 := Dp.ext e8 hp4
              refine cut_if1 (fun c H' => c = !(isRow d3 2 && stepIn (kItems hd) d3) ∧ Ext G9 H') (fun Q1 k2 => ?_) fun c G10 ⟨ec, e9⟩ => ?_
              · rw [step_ok] at k2
                dsimp only [tRet, tRetN, tSeq, tAsg, tOp, tVar, tC, tCB, tCons, tNil, tAndV, tOrV, tNotV, tAnd, tOr, tNot, tTest, tIf, tIfS, tB, tChain, tSl, tPart, tNoPart, tLst, tTup, tFld, tCl, tMt, tMk, gName, tNext, tBM, tBM0, tUn, tSub, tPar, tPar3, gTup, gCons, gNil, tDrop, tMkS, tM1, sFld, StX.tStar, tYes, gSub, cxOf, Cx.wish, Cx.nox, Cx.blk]
                refine ⟨_, rfl, x, .dat d3, 2, 2, rfl, .dat (.of hp5), fun G10 g1 => ⟨_, rfl, ?_⟩⟩
                cases hl3 : listedK (.dat d3) 2 2 with
                | false => exact if_t rfl (k2 _ _ ⟨by rw [hl3]; rfl, g1⟩)
                | true =>
                  refine if_f rfl ?_
                  rw [hl3, Bool.true_and] at k2
                  obtain ⟨ds3, m1, m2⟩ := listed_dat hl3
                  obtain ⟨f4, a4, vs4, rfl, hv4, hA4⟩ := seq_of (Vd.of (Dp.ext g1 hp5)) ds3
                  obtain ⟨x4, y4, ed⟩ := two_of (ds := dItems d3) (by omega)
                  rw [ed] at hA4 k2
                  cases hA4 with
                  | cons px r =>
                    cases r with
                    | cons py r =>
                      cases r
                      rename_i vx vy
                      have huG : SqF K fu G10 au us := hux.ext (eG9.trans g1)
                      refine ⟨_, rfl, ixF hv4 at0 ⟨_, rfl, au, us, rfl, huG.or, vx, x4, _, rfl, .of px, _, rfl, ?_⟩⟩
                      rw [hul]
                      have k2 : ∀ c H', c = !(within x4 0 (some (((kItems hd).length : Int) - 1)) && (match x4 with
                        | .int h => within y4 0 (some ((askN ((kItems hd).getD h.toNat (.dat .none)) : Int) - 1))
                        | _ => false)) ∧ Ext G9 H' → Q1 c H' := k2
                      cases hw1 : within x4 0 (some (((kItems hd).length : Int) - 1)) with
                      | false => exact if_t rfl (k2 _ _ ⟨by rw [hw1]; rfl, g1⟩)
                      | true =>
                        refine if_f rfl ?_
                        rw [hw1, Bool.true_and] at k2
                        cases x4 with
                        | int h =>
                          obtain rfl := Dp.intV px
                          simp only [within, Bool.and_eq_true, decide_eq_true_eq] at hw1
                          obtain ⟨n, rfl⟩ := Int.eq_ofNat_of_zero_le hw1.1
                          have hn : n < us.length := by omega
                          obtain ⟨hk4, hkd, hkp⟩ := KpAll.getV hUA (List.getElem?_eq_getElem hn)
                          obtain ⟨f5, a5, ws5, ka, kk, ev, hw5, hka, hak⟩ := house_kind (hkp.ext (eG9.trans g1)) (List.all_eq_true.mp hall hk4 (List.mem_of_getElem? hkd))
                          have hgd : (kItems hd).getD (n : Int).toNat (.dat .none) = hk4 := by
                            rw [Int.toNat_natCast, List.getD_eq_getElem?_getD, hkd]
                            rfl
                          simp only [hgd, hak] at k2
                          obtain ⟨dx, p1, p2, p3, p4, p5, hp, h1, _⟩ := hka
                          refine ⟨_, rfl, ixF hv4 (atI_nat (j := 1) rfl) ⟨_, rfl, _, rfl, ixF hv4 at0 (ixF huG (v := us[n]) (atI_nat (List.getElem?_eq_getElem hn)) ?_)⟩⟩
                          rw [ev]
                          refine ixF hw5 at0 ⟨ka, _, dx, _, _, rfl, hp, T.cl_Kind, T.na_Kind_asks, rfl, p1, _, rfl, .inr h1, vy, y4, _, rfl, .of py, _, rfl, k2 _ _ ⟨?_, g1⟩⟩
                          rw [List.length_map]
                        | _ => cases hw1
              subst ec
              cases hst : (isRow d3 2 && stepIn (kItems hd) d3) with
              | false =>
                refine if_t rfl ?_
                exact qh (no d1 d2 hd1m hd2m (by rw [hzD]; exact all_no hd3m hst)) G10 (eG9.trans e9)
              | true =>
                refine if_f rfl ⟨⟨_, _, rfl⟩, e8.trans e9, ?_⟩
                rw [all_next hd3, hal3, hst]
                rfl
            · rintro σ G8 ⟨⟨r4'', r5'', rfl⟩, e8, hal3⟩
              rw [DpAll.length hzA, List.take_length, ← hzD] at hal3
              refine ⟨⟨_, _, _, rfl⟩, e5.trans (e6.trans e8), ?_⟩
              rw [all_next hd2, hal2, hal3]
              rfl
          · rintro σ G2 ⟨⟨r3', r4', r5', rfl⟩, e5, hal2⟩
            rw [DpAll.length hyA, List.take_length] at hal2
            refine ⟨⟨_, _, _, _, rfl⟩, eG.trans e5, ?_⟩
            rw [all_next hd1, hal]
            exact hal2
        · rintro σ G ⟨⟨r2, r3, r4, r5, rfl⟩, eG, hal⟩
          rw [hlen, List.take_length] at hal
          exact qn (by rw [hz2]; exact hal) G (e2.trans (e3.trans eG))
end
end K81

end
section
/-! K81y: _law_heard. -/
namespace K81
open PySem L2 Ow
open PySem.Spec PyProof.Rows
section
variable {Z : Cx} {W : WX} {x y : Str} {j k : Nat} {C : Addr} {ps : List Str} {sp : Sp} {pp p1 p2 p3 : Pos} {e : Expr} {es : List Expr} {t : TA}
theorem takes_len {n : Nat} (hn : Z.N.length = n) (tk : Takes Z W) : Takes Z (fun c d σ H => σ.length = n → W c d σ H) := fun u s' ⟨a, B, sI, pins, σ, H, cls, d, e, I, nb, up, sky, na, os, ag, w⟩ =>
  tk u s' ⟨a, B, sI, pins, σ, H, cls, d, e, I, nb, up, sky, na, os, ag, w (I.len.trans hn)⟩
/-- y = C(e, ..), which may raise -/
theorem pss_make {n : Nat} (G : Ini Z.prog Z.w Z.K Z.mg Z.base (L2.CX Z.prog Z.w) k x C ps sp) (hr : Room (k + 1) Z.A) (tk : Takes Z W) (hn : Z.N.length = n) (nd : Z.N.Nodup) (hj : Z.N[j]? = some y) (hx : Loc Z.env.scope y) (ha : PA Z (e :: es) t)
    (hf : Z.fn y = true ∨ Z.env.scope.names.lookup y = some .local := by first | exact .inl rfl | exact .inr rfl | assumption)
    (hs : swapsWith (.Call (.Name x p1) (e :: es) [] p2) (some (.Name y pp)) p3.line Z.env = pure false := by rfl) (hg : Gl Z x := by rfl) (hdb : (x == ("__debug__" : Str)) = false := by decide)
    (he : starEach (e :: es) Z.env = (false, eval e Z.env) :: starEach es Z.env := by rfl) (hpl : (backTo p2 (starEach es Z.env)).any (·.1) = false := by rfl) :
    PSs Z [.Assign [.Name y pp] (.Call (.Name x p1) (e :: es) [] p2) p3] (fun D σ H => ∃ E : XK, (∀ cls d σ' H', E cls d H' → σ'.length = n → W cls d σ' H') ∧ tMk C sp E t σ H fun v H2 => D.nx (σ.set j (some v)) H2) := by
  refine ⟨fun pins s σ H D I h => ?_⟩
  obtain ⟨E, hE, h3⟩ := h
  exact (pss_one (ps_set (pos' := pp) (pos := p3) nd hj hx (pe_mk G hr (passX (takes_len hn tk) fun c d σ' H' he hl => hE c d σ' H' he hl) ha hg hdb he hpl) hs hf)).run pins s σ H D I h3
end
structure HeardF (K : W.Frag) (mg : Str → Option Value) : Prop where
  seen : mg "SeenError" = some (.ref (He.ga K "SeenError"))
  mP : W.exmOne K (.ref (He.ga K "BadProgram")) (.ref (He.ga K "SeenError")) = some true
  hP : HeldC K (He.ga K "BadProgram")
  kPP : W.kitOne K (.ref (He.ga K "BadProgram")) (.ref (He.ga K "BadProgram")) = some true
section
variable {w : World} {K : W.Frag} {mg : Str → Option Value} {base : Heap}
def sp_law_heard (K : W.Frag) : Sp := fun vs H Q _ => ∃ u hd v d x, vs = [u, v] ∧ Kp K H u hd ∧ (∀ x ∈ kItems hd, okH x) ∧ Vd K H v d ∧ dueK hd d = some x ∧ ∀ H', Ext H H' → Q (.str x) H'
theorem c_law_heard (T : Txt K mg) (F : HeardF K mg) : Cal prg w K mg base CX0 11 "_law_heard" ["_law_houses_here", "_law_hands_here"] (sp_law_heard K) := by
  refine T.d_law_heard.cal sc_law_heard (fun vs H Q E ⟨u, hd, v, d, x, e, _⟩ => by rw [e]; rfl) fun f cdv A outer s H vs Q E hr h => ?_
  have nd := sc_law_heard.nd
  obtain ⟨u, hd, v, d, x, rfl, hu, hok, hv, hdue, q⟩ := h
  have hnm : Names (cxOf CX0 prg w K mg base ["_law_houses_here", "_law_hands_here", "_law_found", "_law_caught", "error"] "_law_heard" (defScope s_law_heard) f cdv A outer s H E).nox "SeenError" (.ref (He.ga K "SeenError")) := ⟨rfl, by decide, .inl F.seen⟩
  refine ⟨_, PSs.nox (pss_cons (ps_asg (pe_tup (pa_cons pe_non (pa_cons pe_non pa_nil))) (pg_tup (by rfl) (pgs_cons (pg_name (i := 2) nd rfl (Or.inl rfl)) (pgs_cons (pg_name (i := 3) nd rfl (Or.inl rfl)) pgs_nil))))
      (pss_cons (ps_try_hold (i := 4) rfl rfl rfl nd rfl rfl hnm LamX.takes0 (fun W pn xe tk _ => pss_make (j := 2) (n := 5) (c_Program_init T) (hr.mono (by decide)) tk rfl nd rfl (Or.inl rfl) (pa_cons (pv 0) (pa_cons (pv 1) pa_nil))) (fun a oe cls d pn _ _ => pss_one (ps_set (i := 3) nd rfl (Or.inl rfl) (pv 4))))
      (pss_cons (ps_if (pt_cmpR L2.op_isN (pv 3) pe_non (nomark _)) (pss_one (ps_ret (pv 2))) pss_nil)
      (pss_one (ps_ret (pe_ifExp (pt_val (pe_callB call_isH (by rfl) T.f_isinstance (by decide +kernel) (pa_cons (pv 3) (pa_cons (pe_glob (v := .ref (He.ga _ "BadProgram")) rfl T.x_BadProgram.gl rfl) pa_nil)))) (pe_held (pv 3)) pe_str)))))), ?_⟩
  dsimp only [tRet, tRetN, tSeq, tAsg, tOp, tVar, tC, tCB, tCons, tNil, tAndV, tOrV, tNotV, tAnd, tOr, tNot, tTest, tIf, tIfS, tB, tChain, tSl, tPart, tNoPart, tLst, tTup, tFld, tCl, tMt, tMk, gName, tNext, tBM, tBM0, tUn, tSub, tPar, tPar3, gTup, gCons, gNil, tDrop, tMkS, tM1, sFld, StX.tStar, tYes, gSub, cxOf, Cx.wish, Cx.nox, Cx.blk]
  refine ⟨by show 2 ≤ sizeLine; decide, fun p hp => ⟨p, _, rfl, SqT.of upd_same, rfl, _, _, rfl, _, _, rfl, rfl, ?_⟩⟩
  have ep := Ext.upd (o := HO.tup [V.non, V.non]) hp
  refine ⟨fun cls d H' => ∃ dd, d = some dd ∧ cls = .ref (He.ga K "BadProgram") ∧ H' dd = some (.xd [("part", .str x)]) ∧ ∀ H'', Ext H' H'' → Q (.str x) H'', fun cls d σ' H' hE hl => ?_, _, rfl, _, rfl, fun a dx na nd' ne => ?_⟩
  · obtain ⟨dd, rfl, rfl, h1, h2⟩ := hE
    obtain ⟨z0, z1, z2, z3, z4, rfl⟩ : ∃ z0 z1 z2 z3 z4, σ' = [z0, z1, z2, z3, z4] := by
      match σ', hl with
      | [z0, z1, z2, z3, z4], _ => exact ⟨z0, z1, z2, z3, z4, rfl⟩
    refine ⟨true, F.mP, fun _ a ha => ?_, fun z => by cases z⟩
    dsimp only [tRet, tRetN, tSeq, tAsg, tOp, tVar, tC, tCB, tCons, tNil, tAndV, tOrV, tNotV, tAnd, tOr, tNot, tTest, tIf, tIfS, tB, tChain, tSl, tPart, tNoPart, tLst, tTup, tFld, tCl, tMt, tMk, gName, tNext, tBM, tBM0, tUn, tSub, tPar, tPar3, gTup, gCons, gNil, tDrop, tMkS, tM1, sFld, StX.tStar, tYes, gSub, cxOf, Cx.wish, Cx.nox, Cx.blk]
    refine ⟨_, rfl, _, rfl, rfl, _, rfl, ?_⟩
    refine if_f rfl ⟨_, rfl, ?_⟩
    have hda : ∀ {o}, H' dd = some o → upd H' a (ExH (.ref (He.ga K "BadProgram")) (some dd) a) dd = some o := fun h => Ext.upd ha _ _ h
    refine ⟨a, _, dd, _, _, _, _, rfl, upd_same, hda h1, F.hP, .own _, F.kPP, _, rfl, if_t rfl ⟨_, rfl, a, _, dd, _, .str x, rfl, upd_same, hda h1, F.hP, T.x_BadProgram.no, rfl, ?_⟩⟩
    exact h2 _ (Ext.upd ha)
  · have eA : Ext H (upd (upd (upd H p (HO.tup [V.non, V.non])) dx (.own a)) a (.ins (CP K) dx [])) := ep.trans ((Ext.upd nd').trans (Ext.upd (by rw [upd_ne (fun z => ne z.symm)]; exact na)))
    have eD := ext_off eA (none_of ep na)
    refine ⟨a, dx, u, hd, v, d, rfl, upd_same, hu.ext eD, hok, Vd.ext eD hv, fun y hy => ?_, fun hn => ?_⟩
    · rw [hdue] at hy
      cases hy
      exact fun dd H' e hdd => ⟨dd, rfl, rfl, hdd, fun H'' e'' => q H'' (eA.trans (e.trans e''))⟩
    · rw [hdue] at hn
      cases hn
end
end K81

end
section
/-! K81za: rows that are changed. -/
namespace K81
open PySem L2 Ow
open PySem.Spec PyProof.Rows
/-- without some objects -/
def delS (G : Hp) (S : List Addr) : Hp := fun b => if b ∈ S then none else G b
theorem delS_at {G : Hp} {S : List Addr} {b : Addr} (h : b ∉ S) : delS G S b = G b := if_neg h
theorem delS_in {G : Hp} {S : List Addr} {b : Addr} (h : b ∈ S) : delS G S b = none := if_pos h
theorem delS_some {G : Hp} {S : List Addr} {b : Addr} {o : HO} (h : delS G S b = some o) : b ∉ S ∧ G b = some o := by
  by_cases c : b ∈ S
  · rw [delS_in c] at h
    cases h
  · rw [delS_at c] at h
    exact ⟨c, h⟩
theorem delS_ext {G : Hp} {S : List Addr} : Ext (delS G S) G := fun b o h => (delS_some h).2
theorem delS_upd {G : Hp} {S : List Addr} {a : Addr} {o : HO} (h : a ∈ S) : delS (upd G a o) S = delS G S := by
  funext b
  by_cases c : b ∈ S
  · rw [delS_in c, delS_in c]
  · rw [delS_at c, delS_at c, upd_ne (fun z => c (by rw [z]; exact h))]
theorem delS_mono {G G' : Hp} {S : List Addr} (e : ∀ b o, b ∉ S → G b = some o → G' b = some o) : Ext (delS G S) (delS G' S) := fun b o h => by
  obtain ⟨h1, h2⟩ := delS_some h
  rw [delS_at h1]
  exact e b o h1 h2
theorem delS_from {H G : Hp} {S : List Addr} {q : Addr} (e : ExtP q H G) (h : ∀ b ∈ S, b ≠ q → H b = none) : Ext (L2.del H q) (delS G S) := fun b o hb => by
  have cb : b ≠ q := fun z => by rw [z, del_same] at hb; cases hb
  rw [del_ne cb] at hb
  rw [delS_at (fun z => by rw [h b z cb] at hb; cases hb)]
  exact e b o cb hb
theorem delS_nw {H G : Hp} {S : List Addr} (h : ∀ b ∈ S, H b ≠ none) : Ext (Ow.nw H G) (delS G S) := fun b o hb => by
  obtain ⟨h1, h2⟩ := Ow.nw_some hb
  rw [delS_at (fun z => h b z h1)]
  exact h2
theorem delS_q {G : Hp} {S : List Addr} {q : Addr} (h : q ∈ S) : Ext (delS G S) (L2.del G q) := fun b o hb => by
  obtain ⟨h1, h2⟩ := delS_some hb
  rw [del_ne (fun z => h1 (by rw [z]; exact h))]
  exact h2
/-- rows: R a list of lists, all new -/
structure RowsSt (H : Hp) (q : Addr) (G : Hp) (R : Addr) (his : List Addr) (vals : List (List V)) : Prop where
  at_ : G R = some (.lst (his.map V.ref))
  new : ∀ h ∈ R :: his, H h = none ∧ h ≠ q
  nd : (R :: his).Nodup
  len : vals.length = his.length
  items : ∀ (i : Nat) h, his[i]? = some h → ∃ vs, vals[i]? = some vs ∧ G h = some (.lst vs)
  ext : ExtP q H G
section
variable {H G G' : Hp} {q R : Addr} {his : List Addr} {vals : List (List V)}
theorem RowsSt.step (h : RowsSt H q G R his vals) (e : ExtP q G G') : RowsSt H q G' R his vals :=
  ⟨e _ _ (h.new R List.mem_cons_self).2 h.at_, h.new, h.nd, h.len, fun i a ha => by
    obtain ⟨vs, h1, h2⟩ := h.items i a ha
    exact ⟨vs, h1, e _ _ (h.new a (List.mem_cons_of_mem _ (List.mem_of_getElem? ha))).2 h2⟩, h.ext.trans e⟩
/-- one row's list changes -/
theorem RowsSt.put (h : RowsSt H q G R his vals) {j : Nat} {a : Addr} (ha : his[j]? = some a) (vs : List V) : RowsSt H q (upd G a (.lst vs)) R his (vals.set j vs) := by
  have hm := List.mem_of_getElem? ha
  have hRa : R ≠ a := fun z => (List.nodup_cons.mp h.nd).1 (by rw [z]; exact hm)
  have hj := (List.getElem?_eq_some_iff.mp ha).1
  refine ⟨by rw [upd_ne hRa]; exact h.at_, h.new, h.nd, by rw [List.length_set]; exact h.len, fun i b hb => ?_, fun o u ho eo => ?_⟩
  · by_cases c : i = j
    · subst c
      rw [ha] at hb
      cases hb
      exact ⟨vs, by rw [List.getElem?_set_self (by rw [h.len]; exact hj)], upd_same⟩
    · obtain ⟨us, h1, h2⟩ := h.items i b hb
      have cb : b ≠ a := fun z => by
        subst z
        have hi := (List.getElem?_eq_some_iff.mp hb).1
        exact c ((List.getElem?_inj hi (List.nodup_cons.mp h.nd).2).mp (hb.trans ha.symm))
      exact ⟨us, by rw [List.getElem?_set_ne (Ne.symm c)]; exact h1, by rw [upd_ne cb]; exact h2⟩
  · rw [upd_ne (fun z => by rw [z, (h.new a (List.mem_cons_of_mem _ hm)).1] at eo; cases eo)]
    exact h.ext o u ho eo
end
def side (G : Hp) (q R : Addr) (his : List Addr) : Hp := delS G (q :: R :: his)
/-- as data with kinds -/
theorem rows_all {K : W.Frag} {H G : Hp} {q R : Addr} {his : List Addr} {vals : List (List V)} {kds : List (List KD)} (h : RowsSt H q G R his vals) (hk : kds.length = vals.length) (hi : ∀ (i : Nat) vs ks, vals[i]? = some vs → kds[i]? = some ks → KpAll K (L2.del G q) vs ks) :
    KpAll K (L2.del G q) (his.map V.ref) (kds.map (.seq true)) := by
  have key : ∀ (as : List Addr) (us : List (List V)) (ks : List (List KD)), as.length = us.length → ks.length = us.length → (∀ (i : Nat) a, as[i]? = some a → a ≠ q ∧ ∃ vs, us[i]? = some vs ∧ G a = some (.lst vs)) → (∀ (i : Nat) vs k, us[i]? = some vs → ks[i]? = some k → KpAll K (L2.del G q) vs k) → KpAll K (L2.del G q) (as.map V.ref) (ks.map (.seq true)) := by
    intro as
    induction as with
    | nil =>
      intro us ks h1 h2 _ _
      have : us = [] := List.length_eq_zero_iff.mp h1.symm
      subst this
      have : ks = [] := List.length_eq_zero_iff.mp h2
      subst this
      exact .nil
    | cons a as ih =>
      intro us ks h1 h2 h3 h4
      cases us with
      | nil => cases h1
      | cons u us =>
        cases ks with
        | nil => cases h2
        | cons k ks =>
          obtain ⟨c, vs, e, hG⟩ := h3 0 a rfl
          cases e
          refine .cons (.seq (fl := true) (SqL.of (by rw [del_ne c]; exact hG)) (h4 0 u k rfl rfl)) (ih us ks (by simpa using h1) (by simpa using h2) (fun i b hb => ?_) fun i vs k' hv hk' => h4 (i + 1) vs k' (by simpa using hv) (by simpa using hk'))
          have := h3 (i + 1) b (by simpa using hb)
          simpa using this
  refine key his vals kds h.len.symm hk (fun i a ha => ⟨(h.new a (List.mem_cons_of_mem _ (List.mem_of_getElem? ha))).2, h.items i a ha⟩) hi
theorem rows_kp {K : W.Frag} {H G : Hp} {q R : Addr} {his : List Addr} {vals : List (List V)} {kds : List (List KD)} (h : RowsSt H q G R his vals) (hk : kds.length = vals.length) (hi : ∀ (i : Nat) vs ks, vals[i]? = some vs → kds[i]? = some ks → KpAll K (L2.del G q) vs ks) :
    Kp K (L2.del G q) (.ref R) (.seq true (kds.map (.seq true))) := .seq (fl := true) (vs := his.map V.ref) (SqL.of (by rw [del_ne (h.new R List.mem_cons_self).2]; exact h.at_)) (rows_all h hk hi)
theorem KpAll.app {K : W.Frag} {H : Hp} : ∀ {ds es : List KD} {vs us : List V}, KpAll K H vs ds → KpAll K H us es → KpAll K H (vs ++ us) (ds ++ es)
  | [], _, _, _, h, g => by cases h; exact g
  | _ :: _, _, _, _, h, g => by
    cases h with
    | cons q r => exact .cons q (KpAll.app r g)
theorem KpAll.take {K : W.Frag} {H : Hp} : ∀ (n : Nat) {ds : List KD} {vs : List V}, KpAll K H vs ds → KpAll K H (vs.take n) (ds.take n)
  | 0, _, _, _ => .nil
  | n + 1, [], _, h => by cases h; exact .nil
  | n + 1, _ :: _, _, h => by
    cases h with
    | cons q r => exact .cons q (KpAll.take n r)
theorem KpAll.rep {K : W.Frag} {H : Hp} {ds : List KD} {vs : List V} (h : KpAll K H vs ds) : ∀ n, KpAll K H (List.replicate n vs).flatten (List.replicate n ds).flatten
  | 0 => .nil
  | n + 1 => by
    rw [List.replicate_succ, List.replicate_succ, List.flatten_cons, List.flatten_cons]
    exact KpAll.app h (KpAll.rep h n)
theorem KpAll.set {K : W.Frag} {H : Hp} {v : V} {k : KD} (hv : Kp K H v k) : ∀ {us : List V} {ks : List KD} (n : Nat), KpAll K H us ks → KpAll K H (us.set n v) (ks.set n k)
  | [], _, n, h => by cases h; exact .nil
  | x :: us, _, n, h => by
    cases h with
    | cons p r =>
      cases n with
      | zero => exact .cons hv r
      | succ n => exact .cons p (KpAll.set hv n r)
/-- a test of a number that isn't so, that is so -/
theorem skip_eq {i : Nat} {n k : Int} {a t : TS} {D : Ends} {σ : L2.St} {H : Hp} (hs : σ[i]? = some (some (.int n))) (hn : n ≠ k) (h : t D σ H) : tSeq (tIfS (tTest (tOp rEq (tVar i) (tC (.int k)))) a tNext) t D σ H :=
  ⟨_, hs, rfl, _, rfl, by rw [dec_int]; exact if_f (by simp [hn]) h⟩
theorem take_eq {i : Nat} {n : Int} {a t : TS} {D : Ends} {σ : L2.St} {H : Hp} (hs : σ[i]? = some (some (.int n))) (h : a { D with nx := t D } σ H) : tSeq (tIfS (tTest (tOp rEq (tVar i) (tC (.int n)))) a tNext) t D σ H :=
  ⟨_, hs, rfl, _, rfl, by rw [dec_int]; exact if_t (by simp) h⟩
end K81

end
section
/-! K81zb: houses bent. -/
namespace K81
open PySem L2 Ow
open PySem.Spec PyProof.Rows
def okRow (ks : List KD) : Prop := ∀ a b c, ks = [a, b, c] → ∃ e, c = .dat e ∧ (dItems e).length ≤ 600
/-- what each row is, told aside -/
def Kds (K : W.Frag) (G : Hp) (q R : Addr) (his : List Addr) (vals : List (List V)) (kds : List (List KD)) : Prop := kds.length = vals.length ∧ ∀ (i : Nat) vs ks, vals[i]? = some vs → kds[i]? = some ks → KpAll K (side G q R his) vs ks
theorem Kds.mono {K : W.Frag} {G G' : Hp} {q R : Addr} {his : List Addr} {vals : List (List V)} {kds : List (List KD)} (h : Kds K G q R his vals kds) (e : Ext (side G q R his) (side G' q R his)) : Kds K G' q R his vals kds := ⟨h.1, fun i vs ks h1 h2 => (h.2 i vs ks h1 h2).ext e⟩
theorem side_ext {q R : Addr} {his : List Addr} {G G' : Hp} (e : ExtP q G G') : Ext (side G q R his) (side G' q R his) := delS_mono fun b o hb h => e b o (fun z => hb (by rw [z]; exact List.mem_cons_self)) h
theorem Kds.put {K : W.Frag} {G : Hp} {q R a : Addr} {his : List Addr} {vals : List (List V)} {kds : List (List KD)} (h : Kds K G q R his vals kds) {j : Nat} (ha : his[j]? = some a) {vs : List V} {ks : List KD} (hk : KpAll K (side G q R his) vs ks) : Kds K (upd G a (.lst vs)) q R his (vals.set j vs) (kds.set j ks) := by
  have em : a ∈ q :: R :: his := List.mem_cons_of_mem _ (List.mem_cons_of_mem _ (List.mem_of_getElem? ha))
  refine ⟨by rw [List.length_set, List.length_set]; exact h.1, fun i us us' h1 h2 => ?_⟩
  rw [side, delS_upd em]
  by_cases c : i = j
  · subst c
    by_cases hl : i < vals.length
    · rw [List.getElem?_set_self hl] at h1
      rw [List.getElem?_set_self (by rw [h.1]; exact hl)] at h2
      cases h1
      cases h2
      exact hk
    · rw [List.getElem?_eq_none (by rw [List.length_set]; omega)] at h1
      cases h1
  · rw [List.getElem?_set_ne (Ne.symm c)] at h1 h2
    exact h.2 i us us' h1 h2
/-- rows[at][m] = v -/
theorem store_rd {K : W.Frag} {H G : Hp} {q R a : Addr} {his : List Addr} {vals : List (List V)} {σ : L2.St} {v : V} {m : Int} {m' j : Nat} {vs : List V} {nx : L2.St → Hp → Prop} (h3 : σ[3]? = some (some (.ref R))) (h4 : σ[4]? = some (some (.int (j : Nat)))) (h : RowsSt H q G R his vals) (ha : his[j]? = some a) (hv : vals[j]? = some vs) (hm : ixN vs.length m = some m')
    (k : nx σ (upd G a (.lst (vs.set m' v)))) : gSub (tOp (rIxL K) (tVar 3) (tVar 4)) (tC (.int m)) rSetL v σ G nx := by
  obtain ⟨vs', h5, h6⟩ := h.items j a ha
  rw [hv] at h5
  cases h5
  exact ⟨_, h3, _, h4, R, _, j, .ref a, rfl, rfl, SqL.of h.at_, atI_nat (by rw [List.getElem?_map, ha]; rfl), a, vs, m, m', rfl, rfl, h6, hm, k⟩
theorem okH_row {ks : List KD} (h : okRow ks) : okH (.seq true ks) := h
theorem okH_dat {d : PyData} (h : ∀ x ∈ dItems d, (dItems x).length ≤ 600) : okH (.dat d) := fun a b c e => by
  have e : (dItems d).map KD.dat = [a, b, c] := e
  match hd : dItems d, e with
  | [x, y, z], e =>
    simp at e
    exact ⟨z, e.2.2.symm, h z (by rw [hd]; simp)⟩
theorem okRow_set {ks : List KD} {m : Nat} {k : KD} (h : okRow ks) (hm : m ≠ 2 ∨ ∃ e, k = .dat e ∧ (dItems e).length ≤ 600) : okRow (ks.set m k) := fun a b c e => by
  match ks, e with
  | [x, y, z], e =>
    match m, hm, e with
    | 0, _, e => simp at e; exact h x y c (by rw [e.2.2])
    | 1, _, e => simp at e; exact h x y c (by rw [e.2.2])
    | 2, hm, e =>
      simp at e
      rcases hm with hm | ⟨e', h1, h2⟩
      · exact absurd rfl hm
      · exact ⟨e', by rw [← e.2.2]; exact h1, h2⟩
    | m + 3, _, e => simp at e; exact h x y c (by rw [e.2.2])
  | [], e => simp at e
  | [x], e => have := congrArg List.length e; simp at this
  | [x, y], e => have := congrArg List.length e; simp at this
  | x :: y :: z :: w :: r, e => have := congrArg List.length e; simp at this
theorem rows_key {K : W.Frag} {P : Hp} : ∀ (as : List Addr) (us : List (List V)) (ks : List (List KD)), as.length = us.length → ks.length = us.length → (∀ (i : Nat) a, as[i]? = some a → ∃ vs, us[i]? = some vs ∧ P a = some (.lst vs)) → (∀ (i : Nat) vs k, us[i]? = some vs → ks[i]? = some k → KpAll K P vs k) → KpAll K P (as.map V.ref) (ks.map (.seq true))
  | [], us, ks, h1, h2, _, _ => by
    have : us = [] := List.length_eq_zero_iff.mp h1.symm
    subst this
    have : ks = [] := List.length_eq_zero_iff.mp h2
    subst this
    exact .nil
  | a :: as, [], _, h1, _, _, _ => by cases h1
  | a :: as, u :: us, [], _, h2, _, _ => by cases h2
  | a :: as, u :: us, k :: ks, h1, h2, h3, h4 => by
    obtain ⟨vs, e, hG⟩ := h3 0 a rfl
    cases e
    refine .cons (.seq (fl := true) (SqL.of hG) (h4 0 u k rfl rfl)) (rows_key as us ks (by simpa using h1) (by simpa using h2) (fun i b hb => ?_) fun i vs k' hv hk' => h4 (i + 1) vs k' (by simpa using hv) (by simpa using hk'))
    have := h3 (i + 1) b (by simpa using hb)
    simpa using this
/-- a drawn house's data -/
def houseKs (h : HouseD) : List KD := [.kind h.1, .dat (.str h.2.1), .dat (.list (h.2.2.map P4.dat))]
theorem houseKs_ok {h : HouseD} (hf : fineH h) : okRow (houseKs h) := fun a b c e => by
  simp [houseKs] at e
  refine ⟨_, e.2.2.symm, ?_⟩
  show (h.2.2.map P4.dat).length ≤ 600
  rw [List.length_map]
  have := hf.2.2.1
  omega
theorem DpAll.rev {K : W.Frag} {H : Hp} : ∀ {ds : List PyData} {vs : List V}, DpAll K H vs ds → DpAll K H vs.reverse ds.reverse
  | [], _, h => by cases h; exact .nil
  | d :: ds, _, h => by
    cases h with
    | cons p r =>
      rw [List.reverse_cons, List.reverse_cons]
      exact DpAll.app (DpAll.rev r) (Ow.DpAll.one p)
section
variable {w : World} {K : W.Frag} {mg : Str → Option Value} {base : Heap}
def sp_law_bent_houses (K : W.Frag) : Sp := fun vs H Q _ => ∃ (q c : Addr) (ns : List Int) (b : Nat) (t : Addr) (xs : List V) (hs : List HouseD), vs = [.ref q, .ref t] ∧ QAt K H q c ns b ∧ b ≤ 60000 ∧ t ≠ q ∧ H t = some (.lst xs) ∧ Each (DrawnH K (L2.del (L2.del H t) q)) xs hs ∧ 1 ≤ hs.length ∧ hs.length ≤ 4 ∧
  ∀ (u : V) (hd : KD) (H' : Hp), ExtP q H H' → Kp K (L2.del H' q) u hd → (∀ x ∈ kItems hd, okH x) → (kSeq hd = true → ∃ r ys, u = .ref r ∧ H r = none ∧ r ≠ q ∧ H' r = some (.lst ys)) → QAt K H' q c ns (b + 3) → Q u H'
theorem c_law_bent_houses (T : Txt K mg) : Cal prg w K mg base CX0 7 "_law_bent_houses" ["_law_saddle_here", "_law_houses_here"] (sp_law_bent_houses K) := by
  refine T.d_law_bent_houses.cal sc_law_bent_houses (fun vs H Q E ⟨q, c, ns, b, t, xs, hs, e, _⟩ => by rw [e]; rfl) fun f cdv A outer s H vs Q E hr h => ?_
  have nd := sc_law_bent_houses.nd
  obtain ⟨q, c, ns, b, t, xs, hs, rfl, hq, hb, ct, ht, hE, l1, l4, kk⟩ := h
  obtain ⟨f1, fd1, F1, M1, hb1⟩ := (c_Kind_str T).ex (w := w) (base := base)
  refine ⟨_, PSs.nox (pss_cons (ps_par (i := 2) (j := 3) rfl nd rfl rfl (by decide) rfl rfl (pa_cons (pe_cl (c_law_ride T) (hr.mono (by decide)) pass0 (pa_cons (pv 0) (pa_cons pe_int pa_nil))) (pa_cons (pe_lc (own := [("_law_house", 5)]) (tt := tYes) (g := gName 5) rfl nd (pi_seqF (pv 1)) (blkOk_by (own := [("_law_house", 5)]) (N := ["_law_saddle_here", "_law_houses_here", "_law_kind_here", "_law_rows", "_law_at", "_law_house"]) (sc := defScope s_law_bent_houses) (by decide +kernel)) (fun _ _ _ _ _ => (pg_name (i := 5) nd rfl (Or.inl rfl))) (fun _ _ _ _ _ => pts_nil) (fun _ _ _ _ _ => (pe_callTy (call_list_ofK (K := K) rfl) (by rfl) T.f_list (by decide +kernel) (pa_cons (pv 5) pa_nil)))) pa_nil)) (by rfl))
      (pss_cons (ps_set (i := 4) nd rfl (Or.inl rfl) (pe_cl (c_law_ride T) (hr.mono (by decide)) pass0 (pa_cons (pv 0) (pa_cons (pe_callB call_len_seq (by rfl) T.f_len (by decide +kernel) (pa_cons (pv 3) pa_nil)) pa_nil))))
      (pss_cons (ps_if (pt_cmpR op_eq (pv 2) pe_int (nomark _)) (pss_one (ps_ret (pe_cl (c_law_pick T) (hr.mono (by decide)) pass0 (pa_cons (pv 0) (pa_cons (pe_lst (pa_cons pe_non (pa_cons pe_int (pa_cons (pe_lst pa_nil) (pa_cons pe_str (pa_cons pe_dnewK (pa_cons (pe_ix ix_list (pv 3) pe_int (fun _ _ => rfl)) (pa_cons (pe_lst (pa_cons (pe_lst pa_nil) pa_nil)) (pa_cons (pe_lst (pa_cons pe_non pa_nil)) pa_nil))))))))) pa_nil))))) pss_nil)
      (pss_cons (ps_if (pt_cmpR op_eq (pv 2) pe_int (nomark _)) (pss_one (ps_asg (pe_cl (c_law_pick T) (hr.mono (by decide)) pass0 (pa_cons (pv 0) (pa_cons (pe_lst (pa_cons pe_str (pa_cons pe_str (pa_cons pe_str (pa_cons pe_non (pa_cons pe_int (pa_cons pe_str (pa_cons (pe_lst (pa_cons pe_str pa_nil)) pa_nil)))))))) pa_nil))) (pg_sub (pe_ix ix_list (pv 3) (pv 4) (fun _ _ => rfl)) pe_int set_list))) pss_nil)
      (pss_cons (ps_if (pt_cmpR op_eq (pv 2) pe_int (nomark _)) (pss_one (ps_asg (pe_cl (c_law_pick T) (hr.mono (by decide)) pass0 (pa_cons (pv 0) (pa_cons (pe_lst (pa_cons pe_non (pa_cons (pe_callTy (call_strOwn F1 M1.at_ M1.fn hb1 pass0 (hr.mono (by decide))) (by rfl) T.f_str (by decide +kernel) (pa_cons (pe_ix ix_list (pe_ix ix_list (pv 3) (pv 4) (fun _ _ => rfl)) pe_int (fun _ _ => rfl)) pa_nil)) (pa_cons pe_int (pa_cons pe_str pa_nil))))) pa_nil))) (pg_sub (pe_ix ix_list (pv 3) (pv 4) (fun _ _ => rfl)) pe_int set_list))) pss_nil)
      (pss_cons (ps_if (pt_cmpR op_eq (pv 2) pe_int (nomark _)) (pss_one (ps_asg (pe_cl (c_law_pick T) (hr.mono (by decide)) pass0 (pa_cons (pv 0) (pa_cons (pe_lst (pa_cons pe_non (pa_cons pe_int (pa_cons pe_str (pa_cons pe_dnewK (pa_cons (pe_lst (pa_cons (pe_lst pa_nil) pa_nil)) (pa_cons (pe_lst (pa_cons (pe_lst (pa_cons (pe_tup (pa_cons pe_int (pa_cons pe_int pa_nil))) pa_nil)) pa_nil)) (pa_cons (pe_lst (pa_cons (pe_tup (pa_cons pe_int (pa_cons pe_int pa_nil))) pa_nil)) (pa_cons (pe_lst (pa_cons (pe_lst (pa_cons (pe_tup (pa_cons pe_int (pa_cons pe_int pa_nil))) (pa_cons (pe_tup (pa_cons pe_int (pa_cons pe_bl pa_nil))) pa_nil))) pa_nil)) (pa_cons (pe_lst (pa_cons (pe_lst (pa_cons (pe_tup (pa_cons pe_int (pa_cons pe_int pa_nil))) (pa_cons (pe_tup (pa_cons pe_int (pa_cons pe_int pa_nil))) pa_nil))) pa_nil)) (pa_cons (pe_lst (pa_cons (pe_lst (pa_cons (pe_tup (pa_cons pe_int (pa_cons pe_int pa_nil))) (pa_cons (pe_tup (pa_cons pe_int (pa_cons pe_int pa_nil))) pa_nil))) pa_nil)) pa_nil))))))))))) pa_nil))) (pg_sub (pe_ix ix_list (pv 3) (pv 4) (fun _ _ => rfl)) pe_int set_list))) pss_nil)
      (pss_cons (ps_if (pt_cmpR op_eq (pv 2) pe_int (nomark _)) (pss_one (ps_asg (pe_revL (pe_callTy call_list_of (by rfl) T.f_list (by decide +kernel) (pa_cons (pe_ix ix_list (pe_ix ix_list (pv 3) (pv 4) (fun _ _ => rfl)) pe_int (fun _ _ => rfl)) pa_nil))) (pg_sub (pe_ix ix_list (pv 3) (pv 4) (fun _ _ => rfl)) pe_int set_list))) pss_nil)
      (pss_cons (ps_if (pt_cmpR op_eq (pv 2) pe_int (nomark _)) (pss_one (ps_asg (pe_op op_rep (pe_callTy call_list_of (by rfl) T.f_list (by decide +kernel) (pa_cons (pe_ix ix_list (pe_ix ix_list (pv 3) (pv 4) (fun _ _ => rfl)) pe_int (fun _ _ => rfl)) pa_nil)) pe_int) (pg_sub (pe_ix ix_list (pv 3) (pv 4) (fun _ _ => rfl)) pe_int set_list))) pss_nil)
      (pss_cons (ps_if (pt_cmpR op_eq (pv 2) pe_int (nomark _)) (pss_one (ps_set (i := 3) nd rfl (Or.inl rfl) (pe_op op_cat (pv 3) (pe_op op_rep (pe_slice sl_list (pv 3) po_none (po_some pe_int)) (pe_op op_sub pe_int (pe_callB call_len_seq (by rfl) T.f_len (by decide +kernel) (pa_cons (pv 3) pa_nil))))))) pss_nil)
      (pss_cons (ps_if (pt_cmpR op_eq (pv 2) pe_int (nomark _)) (pss_one (ps_asg (pe_cl (c_law_pick T) (hr.mono (by decide)) pass0 (pa_cons (pv 0) (pa_cons (pe_lst (pa_cons (pe_slice sl_list (pe_ix ix_list (pv 3) (pv 4) (fun _ _ => rfl)) po_none (po_some pe_int)) (pa_cons (pe_op op_cat (pe_ix ix_list (pv 3) (pv 4) (fun _ _ => rfl)) (pe_lst (pa_cons pe_int pa_nil))) (pa_cons pe_non (pa_cons (pe_callTy call_tuple_of (by rfl) T.f_tuple (by decide +kernel) (pa_cons (pe_ix ix_list (pv 3) (pv 4) (fun _ _ => rfl)) pa_nil)) pa_nil))))) pa_nil))) (pg_sub (pv 3) (pv 4) set_list))) pss_nil)
      (pss_cons (ps_if (pt_cmpR op_eq (pv 2) pe_int (nomark _)) (pss_one (ps_asg (pe_tup (pa_cons pe_str (pa_cons (pe_lst (pa_cons (pe_tup (pa_cons (pe_tup (pa_cons pe_int (pa_cons pe_int pa_nil))) (pa_cons (pe_tup (pa_cons pe_int (pa_cons pe_int pa_nil))) pa_nil))) pa_nil)) pa_nil))) (pg_tup (by rfl) (pgs_cons (pg_sub (pe_ix ix_list (pv 3) (pv 4) (fun _ _ => rfl)) pe_int set_list) (pgs_cons (pg_sub (pe_ix ix_list (pv 3) (pv 4) (fun _ _ => rfl)) pe_int set_list) pgs_nil))))) pss_nil)
      (pss_one (ps_ret (pv 3)))))))))))))), ?_⟩
  obtain ⟨xq, hxq⟩ := hq.here
  have hqn : H q ≠ none := by rw [hxq]; exact fun z => by cases z
  have lx : xs.length = hs.length := hE.1
  refine cut_tseq (fun σ' G => ∃ (kh : Int) (R : Addr) (his : List Addr) (vals : List (List V)), σ' = [some (.ref q), some (.ref t), some (.int kh), some (.ref R), none, none] ∧ 0 ≤ kh ∧ kh < 9 ∧ RowsSt H q G R his vals ∧ his.length = hs.length ∧ (∀ (i : Nat) vs, vals[i]? = some vs → vs.length = 3) ∧ Kds K G q R his vals (hs.map houseKs) ∧ QAt K G q c ns (b + 1)) (fun D1 k1 => ?_) fun σ' G1 ⟨kh, R, his, vals, eσ, kh0, kh9, hR, lhis, hv3, hK, hq1⟩ => ?_
  · dsimp only [tRet, tRetN, tSeq, tAsg, tOp, tVar, tC, tCB, tCons, tNil, tAndV, tOrV, tNotV, tAnd, tOr, tNot, tTest, tIf, tIfS, tB, tChain, tSl, tPart, tNoPart, tLst, tTup, tFld, tCl, tMt, tMk, gName, tNext, tBM, tBM0, tUn, tSub, tPar, tPar3, gTup, gCons, gNil, tDrop, tMkS, tM1, sFld, StX.tStar, tYes, gSub, cxOf, Cx.wish, Cx.nox, Cx.blk]
    refine ⟨_, rfl, q, c, ns, 9, b, rfl, hq, by omega, by decide, two9000 (by decide) (by decide), fun kh G0 kh0 kh9 e0 hq0 => ?_⟩
    have ht0 := e0 _ _ ct ht
    refine ⟨_, rfl, true, t, xs, rfl, SqL.of ht0, fun R hR => ?_⟩
    have cR : R ≠ q := hq0.ne hR
    have e2 : Ext (L2.del (L2.del H t) q) (L2.del H q) := fun b o hb => by
      have cb : b ≠ q := fun z => by rw [z, del_same] at hb; cases hb
      rw [del_ne cb] at hb ⊢
      exact ext_del _ _ hb
    refine turns_it (walk_seqF (K := K) (fl := true) (a := t) (xs := xs)) (fun i G => ∃ (his : List Addr) (vals : List (List V)), G R = some (.lst (his.map V.ref)) ∧ his.length = i ∧ vals.length = i ∧ his.Nodup ∧ (∀ h ∈ his, G0 h = none ∧ h ≠ R) ∧ (∀ (k : Nat) h, his[k]? = some h → ∃ vs, vals[k]? = some vs ∧ G h = some (.lst vs)) ∧ (∀ (k : Nat) vs, vals[k]? = some vs → vs.length = 3 ∧ ∃ hd, hs[k]? = some hd ∧ KpAll K (L2.del H q) vs (houseKs hd)) ∧ Ext G0 (L2.del G R))
      ⟨[], [], upd_same, rfl, rfl, .nil, fun h z => by simp at z, fun k h z => by simp at z, fun k h z => by simp at z, ext_off (Ext.upd hR) hR⟩ (fun i G _ ⟨_, _, _, _, _, _, _, _, _, e⟩ => SqL.of ((e.trans ext_del) _ _ ht0)) ?_ ?_
    · rintro i x G G' hi ⟨his, vals, hGR, lh, lv, hnd, hnew, hit, hval, e⟩ ⟨rfl, hx1⟩
      obtain ⟨h, hh1, a, ka, tv, rfl, ha, hka, htv, hf⟩ := hE.2 i x hx1
      have caq : a ≠ q := fun z => by rw [z, del_same] at ha; cases ha
      have haH : H a = some (.lst [.ref ka, .str h.2.1, tv]) := by
        rw [del_ne caq] at ha
        exact ext_del _ _ ha
      have haG := (e.trans ext_del) _ _ (e0 _ _ caq haH)
      dsimp only [tRet, tRetN, tSeq, tAsg, tOp, tVar, tC, tCB, tCons, tNil, tAndV, tOrV, tNotV, tAnd, tOr, tNot, tTest, tIf, tIfS, tB, tChain, tSl, tPart, tNoPart, tLst, tTup, tFld, tCl, tMt, tMk, gName, tNext, tBM, tBM0, tUn, tSub, tPar, tPar3, gTup, gCons, gNil, tDrop, tMkS, tM1, sFld, StX.tStar, tYes, gSub, cxOf, Cx.wish, Cx.nox, Cx.blk]
      refine ⟨rfl, ?_⟩
      rw [if_pos (rfl : true = true)]
      refine ⟨_, rfl, a, _, rfl, .inl (SqL.of haG), fun l nl => ?_⟩
      have cl : l ≠ R := fun z => by rw [z, hGR] at nl; cases nl
      have nl0 := none_of (e.trans ext_del) nl
      have el := Ext.upd (o := HO.lst [.ref ka, .str h.2.1, tv]) nl
      refine ⟨_, el _ _ hGR, by rw [List.length_map]; exact small_of (m := 60) (by omega), his ++ [l], vals ++ [[.ref ka, .str h.2.1, tv]], by rw [upd_same, List.map_append]; rfl, by simp [lh], by simp [lv], ?_, fun z hz => ?_, fun k z hz => ?_, fun k vs hz => ?_, ?_⟩
      · refine List.nodup_append.mpr ⟨hnd, by simp, fun z hz z2 hz2 => ?_⟩
        cases List.mem_singleton.mp hz2
        intro ez
        subst ez
        obtain ⟨k, hk⟩ := List.getElem?_of_mem hz
        obtain ⟨vs, _, h2⟩ := hit k z hk
        rw [h2] at nl
        cases nl
      · rcases List.mem_append.mp hz with hz | hz
        · exact hnew z hz
        · cases List.mem_singleton.mp hz
          exact ⟨nl0, cl⟩
      · by_cases c : k < his.length
        · rw [List.getElem?_append_left c] at hz
          obtain ⟨vs, h1, h2⟩ := hit k z hz
          have czR := (hnew z (List.mem_of_getElem? hz)).2
          exact ⟨vs, by rw [List.getElem?_append_left (by omega)]; exact h1, by rw [upd_ne czR]; exact el _ _ h2⟩
        · rw [List.getElem?_append_right (by omega)] at hz
          have c2 : k = his.length := by
            by_cases c3 : k - his.length = 0
            · omega
            · rw [List.getElem?_eq_none (by simp; omega)] at hz
              cases hz
          subst c2
          rw [Nat.sub_self] at hz
          cases hz
          exact ⟨_, by rw [List.getElem?_append_right (by omega), lh, lv, Nat.sub_self]; rfl, by rw [upd_ne cl, upd_same]⟩
      · by_cases c : k < vals.length
        · rw [List.getElem?_append_left c] at hz
          exact hval k vs hz
        · rw [List.getElem?_append_right (by omega)] at hz
          have c2 : k = vals.length := by
            by_cases c3 : k - vals.length = 0
            · omega
            · rw [List.getElem?_eq_none (by simp; omega)] at hz
              cases hz
          subst c2
          rw [Nat.sub_self] at hz
          cases hz
          exact ⟨rfl, h, by rw [lv]; exact hh1, .cons (.kind (hka.ext e2)) (.cons (.dat (.of (.str _))) (.cons (.dat (.of (Dp.ext e2 htv))) .nil))⟩
      · rw [del_upd]
        exact e.trans (ext_dels el)
    · rintro G ⟨his, vals, hGR, lh, lv, hnd, hnew, hit, hval, e⟩
      have eG : ExtP q H G := e0.trans (ExtP.of (e.trans ext_del))
      have newH : ∀ h ∈ R :: his, H h = none ∧ h ≠ q := fun h hh => by
        have n0 : G0 h = none := by
          rcases List.mem_cons.mp hh with rfl | hh
          · exact hR
          · exact (hnew h hh).1
        have cq : h ≠ q := hq0.ne n0
        exact ⟨none_extP e0 n0 cq, cq⟩
      have hst : RowsSt H q G R his vals := ⟨hGR, newH, List.nodup_cons.mpr ⟨fun z => (hnew R z).2 rfl, hnd⟩, by omega, hit, eG⟩
      refine ⟨_, _, rfl, k1 _ _ ⟨kh, R, his, vals, rfl, kh0, kh9, hst, by rw [lh, lx], fun i vs h => (hval i vs h).1, ⟨by rw [List.length_map]; omega, fun i vs ks h1 h2 => ?_⟩, hq0.ext (e.trans ext_del)⟩⟩
      rw [List.getElem?_map] at h2
      obtain ⟨hd, hhd, rfl⟩ := Option.map_eq_some_iff.mp h2
      obtain ⟨_, hd', hhd', hkp⟩ := hval i vs h1
      rw [hhd] at hhd'
      cases hhd'
      exact hkp.ext (delS_from eG fun b hb cb => by
        rcases List.mem_cons.mp hb with rfl | hb
        · exact absurd rfl cb
        · exact (newH b hb).1)
  subst eσ
  refine cut_asg (fun v G => ∃ j : Nat, v = .int (j : Nat) ∧ j < his.length ∧ ExtP q G1 G ∧ QAt K G q c ns (b + 2)) (fun Q1 k1 => ?_) fun v G2 ⟨j, ev, hj, e2, hq2⟩ => ?_
  · dsimp only [tRet, tRetN, tSeq, tAsg, tOp, tVar, tC, tCB, tCons, tNil, tAndV, tOrV, tNotV, tAnd, tOr, tNot, tTest, tIf, tIfS, tB, tChain, tSl, tPart, tNoPart, tLst, tTup, tFld, tCl, tMt, tMk, gName, tNext, tBM, tBM0, tUn, tSub, tPar, tPar3, gTup, gCons, gNil, tDrop, tMkS, tM1, sFld, StX.tStar, tYes, gSub, cxOf, Cx.wish, Cx.nox, Cx.blk]
    refine ⟨_, rfl, _, rfl, R, _, rfl, .inl (SqL.of hR.at_), q, c, ns, _, b + 1, rfl, hq1, by omega, by rw [List.length_map]; omega, two9000 (by rw [List.length_map]; omega) (by rw [List.length_map]; omega), fun r G r0 r1 e h => ?_⟩
    rw [List.length_map] at r1
    obtain ⟨j, rfl⟩ := Int.eq_ofNat_of_zero_le r0
    exact k1 _ _ ⟨j, rfl, by omega, e, h⟩
  subst ev
  have hR := hR.step e2
  have hK := hK.mono (side_ext e2)
  obtain ⟨y2, hy2⟩ := hq2.here
  have hqn2 : G2 q ≠ none := by rw [hy2]; exact fun z => by cases z
  have ha : his[j]? = some his[j] := List.getElem?_eq_getElem hj
  generalize his[j] = a at ha
  obtain ⟨vs, hvs, hGa⟩ := hR.items j a ha
  have lvs := hv3 j vs hvs
  obtain ⟨hdj, hhdj⟩ : ∃ h, hs[j]? = some h := ⟨hs[j]'(by omega), List.getElem?_eq_getElem (by omega)⟩
  have hkj : (hs.map houseKs)[j]? = some (houseKs hdj) := by rw [List.getElem?_map, hhdj]; rfl
  have hKj := hK.2 j vs _ hvs hkj
  have hfine : ∀ h ∈ hs, fineH h := fun h hh => by
    obtain ⟨i, hi⟩ := List.getElem?_of_mem hh
    have hil : i < xs.length := by
      rw [lx]
      exact (List.getElem?_eq_some_iff.mp hi).1
    obtain ⟨h', hh', _, _, _, _, _, _, _, hf⟩ := hE.2 i xs[i] (List.getElem?_eq_getElem hil)
    rw [hi] at hh'
    cases hh'
    exact hf
  have hfj := hfine hdj (List.mem_of_getElem? hhdj)
  have ok0 : ∀ ks ∈ hs.map houseKs, okRow ks := fun ks hks => by
    obtain ⟨h, hh, rfl⟩ := List.mem_map.mp hks
    exact houseKs_ok (hfine h hh)
  have inS : ∀ {b : Addr}, b ∈ q :: R :: his → G2 b ≠ none := fun {b} hb => by
    rcases List.mem_cons.mp hb with rfl | hb
    · exact hqn2
    · rcases List.mem_cons.mp hb with rfl | hb
      · rw [hR.at_]; exact fun z => by cases z
      · obtain ⟨i, hi⟩ := List.getElem?_of_mem hb
        obtain ⟨us, _, h2⟩ := hR.items i b hi
        rw [h2]; exact fun z => by cases z
  -- behind all of it: the rows as they stand
  have close : ∀ (G : Hp) (vals : List (List V)) (kds : List (List KD)), RowsSt H q G R his vals → Kds K G q R his vals kds → (∀ ks ∈ kds, okRow ks) → QAt K G q c ns (b + 3) → Q (.ref R) G := fun G vals kds h1 h2 h3 h4 => by
    refine kk (.ref R) (.seq true (kds.map (.seq true))) G h1.ext (rows_kp h1 h2.1 fun i us ks hu hk => (h2.2 i us ks hu hk).ext (delS_q List.mem_cons_self)) (fun x hx => ?_) (fun _ => ⟨R, _, rfl, (h1.new R List.mem_cons_self).1, (h1.new R List.mem_cons_self).2, h1.at_⟩) h4
    obtain ⟨ks, hks, rfl⟩ := List.mem_map.mp hx
    exact okH_row (h3 ks hks)
  -- one item of a row changed
  have put : ∀ (G : Hp) (m : Nat) (v : V) (k : KD), m < 3 → ExtP q G2 G → Kp K (side G q R his) v k → (m ≠ 2 ∨ ∃ e, k = .dat e ∧ (dItems e).length ≤ 600) → QAt K G q c ns (b + 3) → Q (.ref R) (upd G a (.lst (vs.set m v))) := fun G m v k hm e hv hk hqG => by
    have h1 := hR.step e
    have h2 := hK.mono (side_ext (R := R) (his := his) e)
    have h3 := h2.2 j vs _ hvs hkj
    have hset : KpAll K (side G q R his) (vs.set m v) ((houseKs hdj).set m k) := by
      have gen : ∀ (us : List V) (ks : List KD) (n : Nat), KpAll K (side G q R his) us ks → KpAll K (side G q R his) (us.set n v) (ks.set n k) := by
        intro us
        induction us with
        | nil =>
          intro ks n h
          cases h
          exact .nil
        | cons x us ih =>
          intro ks n h
          cases h with
          | cons p r =>
            cases n with
            | zero => exact .cons hv r
            | succ n => exact .cons p (ih _ n r)
      exact gen _ _ _ h3
    refine close _ _ _ (h1.put ha _) (h2.put ha hset) (fun ks hks => ?_) ((hq.but (hR.ext.trans e) hqG (hR.new a (List.mem_cons_of_mem _ (List.mem_of_getElem? ha))).1).mono (Nat.le_refl _))
    rcases List.mem_or_eq_of_mem_set hks with hks | rfl
    · exact ok0 ks hks
    · exact okRow_set (houseKs_ok hfj) hk
  have lit : ∀ (m : Nat) (ds : List PyData) (l : Addr) (us : List V) (G5 : Hp) (P : V → Hp → Prop), m < 3 → (∀ v G, RowsSt H q G R his vals → Q (.ref R) (upd G a (.lst (vs.set m v))) → P v G) → Ext G2 G5 → G2 l = none → G5 l = some (.lst us) → VdAll K (Ow.nw G2 G5) us ds → 0 < ds.length → ds.length ≤ 1000 → (∀ d ∈ ds, m ≠ 2 ∨ (dItems d).length ≤ 600) → sp_law_pick K [.ref q, .ref l] G5 P E0 := fun m ds l us G5 P hm hP e5 nl hl hA h0 h1 hds => by
    have cl : l ≠ q := hq2.ne nl
    have lu := VdAll.length hA
    refine ⟨q, c, ns, l, us, b + 2, rfl, hq2.ext e5, by omega, fun H' e => SqL.of (e _ _ cl hl), by omega, by omega, fun i v G6 hv e6 hq6 => ?_⟩
    obtain ⟨d, hd, hp⟩ := VdAll.getV hA hv
    have e26 : ExtP q G2 G6 := (ExtP.of e5).trans e6
    refine hP v G6 (hR.step e26) (put G6 m v (.dat d) hm e26 (.dat (Vd.ext ?_ hp)) ((hds d (List.mem_of_getElem? hd)).imp id fun h => ⟨d, rfl, h⟩) hq6)
    exact (Ow.nw_ext fun b o hb h => e6 b o (fun z => hqn2 (by rw [← z]; exact hb)) h).trans (delS_nw fun b hb => inS hb)
  obtain ⟨ka, tva, tys, evs, hka, hTs, hTA⟩ : ∃ ka tva tys, vs = [.ref ka, .str hdj.2.1, .ref tva] ∧ KindAt K (side G2 q R his) ka hdj.1 ∧ SqL K (side G2 q R his) tva tys ∧ DpAll K (side G2 q R his) tys (hdj.2.2.map P4.dat) := by
    unfold houseKs at hKj
    cases hKj with
    | cons p1 r =>
      cases r with
      | cons p2 r =>
        cases r with
        | cons p3 r =>
          cases r
          cases p1 with
          | kind hk =>
            cases p2 with
            | dat p2 =>
              obtain rfl := p2.str
              cases p3 with
              | dat p3 =>
                rcases p3 with p3 | ⟨_, _, _, e⟩
                · obtain ⟨tva, tys, rfl, h1, h2⟩ := Dp.lstV p3
                  exact ⟨_, tva, tys, rfl, hk, h1, h2⟩
                · cases e
  have hRat : atI (his.map V.ref) (j : Nat) = some (.ref a) := atI_nat (by rw [List.getElem?_map, ha]; rfl)
  have ltys : tys.length ≤ 4 := by
    rw [DpAll.length hTA, List.length_map]
    exact hfj.2.2.1
  have hcase : kh = 0 ∨ kh = 1 ∨ kh = 2 ∨ kh = 3 ∨ kh = 4 ∨ kh = 5 ∨ kh = 6 ∨ kh = 7 ∨ kh = 8 := by omega
  rcases hcase with rfl | rfl | rfl | rfl | rfl | rfl | rfl | rfl | rfl
  · refine take_eq rfl ⟨_, rfl, ?_⟩
    show tLst _ _ _ _
    have h0l : 0 < his.length := by omega
    obtain ⟨h0, hh0⟩ : ∃ h, his[0]? = some h := ⟨his[0], List.getElem?_eq_getElem h0l⟩
    obtain ⟨v0, hv0, hG0⟩ := hR.items 0 h0 hh0
    obtain ⟨hd0, hhd0⟩ : ∃ h, hs[0]? = some h := ⟨hs[0]'(by omega), List.getElem?_eq_getElem (by omega)⟩
    have hK0 := hK.2 0 v0 _ hv0 (show (hs.map houseKs)[0]? = some (houseKs hd0) by rw [List.getElem?_map, hhd0]; rfl)
    have hf0 := hfine hd0 (List.mem_of_getElem? hhd0)
    refine cut_te (fun v G => ∃ l p1 p2 p3 p4 p5, v = .ref l ∧ Ext G2 G ∧ G2 l = none ∧ G l = some (.lst [.non, .int 5, .ref p1, .str "in place", .ref p2, .ref h0, .ref p3, .ref p4]) ∧ (G2 p1 = none ∧ G p1 = some (.lst [])) ∧ (G2 p2 = none ∧ G p2 = some (.dK [])) ∧ (G2 p3 = none ∧ G p3 = some (.lst [.ref p5])) ∧ (G2 p5 = none ∧ G p5 = some (.lst [])) ∧ (G2 p4 = none ∧ G p4 = some (.lst [.non]))) (fun Q1 k1 => ?_) fun v G5 ⟨l, p1, p2, p3, p4, p5, ev, e5, nl, hl, ⟨a1, b1⟩, ⟨a2, b2⟩, ⟨a3, b3⟩, ⟨a5, b5⟩, a4, b4⟩ => ?_
    · dsimp only [tRet, tRetN, tSeq, tAsg, tOp, tVar, tC, tCB, tCons, tNil, tAndV, tOrV, tNotV, tAnd, tOr, tNot, tTest, tIf, tIfS, tB, tChain, tSl, tPart, tNoPart, tLst, tTup, tFld, tCl, tMt, tMk, gName, tNext, tBM, tBM0, tUn, tSub, tPar, tPar3, gTup, gCons, gNil, tDrop, tMkS, tM1, sFld, StX.tStar, tYes, gSub, cxOf, Cx.wish, Cx.nox, Cx.blk]
      refine ⟨Nat.zero_le _, fun p1 n1 => ?_⟩
      have e1 := Ext.upd (o := HO.lst []) n1
      intro p2 n2
      have e2' := e1.trans (Ext.upd (o := HO.dK []) n2)
      refine ⟨_, rfl, R, _, 0, .ref h0, rfl, rfl, SqL.of (e2' _ _ hR.at_), atI_nat (j := 0) (by rw [List.getElem?_map, hh0]; rfl), Nat.zero_le _, fun p5 n5 => ⟨by show 1 ≤ sizeLine; decide, fun p3 n3 => ⟨by show 1 ≤ sizeLine; decide, fun p4 n4 => ⟨by show 8 ≤ sizeLine; decide, fun l nl => ?_⟩⟩⟩⟩
      have x5 := Ext.upd (o := HO.lst []) n5
      have x3 := Ext.upd (o := HO.lst [.ref p5]) n3
      have x4 := Ext.upd (o := HO.lst [.non]) n4
      have xl := Ext.upd (o := HO.lst [.non, .int 5, .ref p1, .str "in place", .ref p2, .ref h0, .ref p3, .ref p4]) nl
      have y5 := x3.trans (x4.trans xl)
      refine k1 _ _ ⟨l, p1, p2, p3, p4, p5, rfl, e2'.trans (x5.trans y5), none_of (e2'.trans (x5.trans (x3.trans x4))) nl, upd_same, ⟨n1, (Ext.upd n2).trans (x5.trans y5) _ _ upd_same⟩, ⟨none_of e1 n2, (x5.trans y5) _ _ upd_same⟩, ⟨none_of (e2'.trans x5) n3, (x4.trans xl) _ _ upd_same⟩, ⟨none_of e2' n5, y5 _ _ upd_same⟩, none_of (e2'.trans (x5.trans x3)) n4, xl _ _ upd_same⟩
    · subst ev
      have cl : l ≠ q := hq2.ne nl
      refine ⟨q, c, ns, l, _, b + 2, rfl, hq2.ext e5, by omega, fun H' e => SqL.of (e _ _ cl hl), by show 0 < 8; decide, by show 8 ≤ 1000; decide, fun i v G6 hv e6 hq6 => ?_⟩
      have e26 : ExtP q G2 G6 := (ExtP.of e5).trans e6
      have eH6 := hR.ext.trans e26
      have nH : ∀ {p : Addr}, G2 p = none → H p = none ∧ p ≠ q := fun {p} hp => ⟨none_extP hR.ext hp (hq2.ne hp), hq2.ne hp⟩
      have at6 : ∀ {p : Addr} {o : HO}, G2 p = none → G5 p = some o → G6 p = some o ∧ L2.del G6 q p = some o := fun {p o} hp ho => by
        have z := e6 _ _ (hq2.ne hp) ho
        exact ⟨z, by rw [del_ne (hq2.ne hp)]; exact z⟩
      match i, hv with
      | 0, hv => cases hv; exact kk _ (.dat .none) G6 eH6 (.dat (.of .non)) (fun x hx => by simp [kItems, dItems] at hx) (fun h => by cases h) hq6
      | 1, hv => cases hv; exact kk _ (.dat (.int 5)) G6 eH6 (.dat (.of (.int 5))) (fun x hx => by simp [kItems, dItems] at hx) (fun h => by cases h) hq6
      | 2, hv => cases hv; exact kk _ (.dat (.list [])) G6 eH6 (.dat (.of (.lst (SqL.of (at6 a1 b1).2) .nil))) (fun x hx => by simp [kItems, dItems] at hx) (fun _ => ⟨p1, _, rfl, (nH a1).1, (nH a1).2, (at6 a1 b1).1⟩) hq6
      | 3, hv => cases hv; exact kk _ (.dat (.str "in place")) G6 eH6 (.dat (.of (.str _))) (fun x hx => by simp [kItems, dItems] at hx) (fun h => by cases h) hq6
      | 4, hv => cases hv; exact kk _ (.dat (.dict [])) G6 eH6 (.dat (.inr ⟨p2, rfl, (at6 a2 b2).2, rfl⟩)) (fun x hx => by simp [kItems, dItems] at hx) (fun h => by cases h) hq6
      | 5, hv =>
        cases hv
        have hn0 := hR.new h0 (List.mem_cons_of_mem _ (List.mem_of_getElem? hh0))
        have hG6 := e26 _ _ hn0.2 hG0
        refine kk _ (.seq true (houseKs hd0)) G6 eH6 (.seq (fl := true) (SqL.of (by rw [del_ne hn0.2]; exact hG6)) (hK0.ext ((side_ext e26).trans (delS_q List.mem_cons_self)))) (fun x hx => ?_) (fun _ => ⟨h0, _, rfl, hn0.1, hn0.2, hG6⟩) hq6
        have hx : x ∈ houseKs hd0 := hx
        simp only [houseKs, List.mem_cons, List.not_mem_nil, or_false] at hx
        rcases hx with rfl | rfl | rfl
        · exact fun a b c e => by cases e
        · exact fun a b c e => by cases e
        · refine okH_dat fun x hx => ?_
          obtain ⟨p, _, rfl⟩ := List.mem_map.mp hx
          exact (show 2 ≤ 600 by decide)
      | 6, hv => cases hv; exact kk _ (.dat (.list [.list []])) G6 eH6 (.dat (.of (.lst (SqL.of (at6 a3 b3).2) (.cons (.lst (SqL.of (at6 a5 b5).2) .nil) .nil)))) (fun x hx => by simp [kItems, dItems] at hx; subst hx; exact okH_dat fun x hx => by simp [dItems] at hx) (fun _ => ⟨p3, _, rfl, (nH a3).1, (nH a3).2, (at6 a3 b3).1⟩) hq6
      | 7, hv => cases hv; exact kk _ (.dat (.list [.none])) G6 eH6 (.dat (.of (.lst (SqL.of (at6 a4 b4).2) (.cons .non .nil)))) (fun x hx => by simp [kItems, dItems] at hx; subst hx; exact okH_dat fun x hx => by simp [dItems] at hx) (fun _ => ⟨p4, _, rfl, (nH a4).1, (nH a4).2, (at6 a4 b4).1⟩) hq6
  · refine skip_eq rfl (by decide) (take_eq rfl ⟨_, rfl, ?_⟩)
    show tLst _ _ _ _
    refine gv_list (K := K) (ds := [.str "in", .str "laid", .str "watch", .none, .int 0, .str "", .list [.str "in place"]]) ?_ fun l us G5 e5 nl hl hA => ?_
    · repeat (first | exact gvs_nil | refine gvs_cons ?_ ?_ | refine gv_d ?_ | exact gds_nil | exact gd_int | exact gd_non | exact gd_str | exact gd_bl | refine gds_cons ?_ ?_ | refine gd_lst ?_ (by decide))
    · refine lit 1 _ l us G5 _ (by decide) (fun v G h1 h2 => store_rd rfl rfl h1 ha hvs (m' := 1) (by rw [lvs]; rfl) ?_) e5 nl hl hA (by decide) (by decide) (fun d _ => .inl (by decide))
      exact skip_eq rfl (by decide) (skip_eq rfl (by decide) (skip_eq rfl (by decide) (skip_eq rfl (by decide) (skip_eq rfl (by decide) (skip_eq rfl (by decide) (skip_eq rfl (by decide) ⟨_, rfl, h2⟩))))))
  · refine skip_eq rfl (by decide) (skip_eq rfl (by decide) (take_eq rfl ⟨_, rfl, ?_⟩))
    show tLst _ _ _ _
    refine cut_te (fun v G => ∃ l us y, v = .ref l ∧ Ext G2 G ∧ G2 l = none ∧ G l = some (.lst us) ∧ VdAll K (Ow.nw G2 G) us [.none, .str y, .int 3, .str "purse"]) (fun Q1 k1 => ?_) fun v G5 ⟨l, us, y, ev, e5, nl, hl, hA⟩ => ?_
    · dsimp only [tRet, tRetN, tSeq, tAsg, tOp, tVar, tC, tCB, tCons, tNil, tAndV, tOrV, tNotV, tAnd, tOr, tNot, tTest, tIf, tIfS, tB, tChain, tSl, tPart, tNoPart, tLst, tTup, tFld, tCl, tMt, tMk, gName, tNext, tBM, tBM0, tUn, tSub, tPar, tPar3, gTup, gCons, gNil, tDrop, tMkS, tM1, sFld, StX.tStar, tYes, gSub, cxOf, Cx.wish, Cx.nox, Cx.blk]
      have hka2 : KindAt K G2 ka hdj.1 := hka.ext delS_ext
      obtain ⟨dx, p1, p2, p3, p4, p5, hp, _⟩ := id hka2
      subst evs
      refine ⟨_, rfl, _, rfl, R, _, _, .ref a, rfl, rfl, SqL.of hR.at_, hRat, a, _, _, .ref ka, rfl, rfl, SqL.of hGa, at0, ka, dx, _, rfl, hp, ka, hdj.1, rfl, hka2, fun y G e => ⟨y, rfl, by show 4 ≤ sizeLine; decide, fun l nl => k1 _ _ ⟨l, _, y, rfl, e.trans (Ext.upd nl), none_of e nl, upd_same, ?_⟩⟩⟩
      exact .cons (.of .non) (.cons (.of (.str _)) (.cons (.of (.int _)) (.cons (.of (.str _)) .nil)))
    · subst ev
      refine lit 0 _ l us G5 _ (by decide) (fun v G h1 h2 => store_rd rfl rfl h1 ha hvs (m' := 0) (by rw [lvs]; rfl) ?_) e5 nl hl hA (by show 0 < 4; decide) (by show 4 ≤ 1000; decide) (fun d _ => .inl (by decide))
      exact skip_eq rfl (by decide) (skip_eq rfl (by decide) (skip_eq rfl (by decide) (skip_eq rfl (by decide) (skip_eq rfl (by decide) (skip_eq rfl (by decide) ⟨_, rfl, h2⟩)))))
  · refine skip_eq rfl (by decide) (skip_eq rfl (by decide) (skip_eq rfl (by decide) (take_eq rfl ⟨_, rfl, ?_⟩)))
    show tLst _ _ _ _
    refine gv_list (K := K) (ds := [.none, .int 5, .str "", .dict [], .list [.list []], .list [.list [.tuple [.int 0, .int 0]]], .list [.tuple [.int 0, .int 0]], .list [.list [.tuple [.int 0, .int 0], .tuple [.int 0, .bool true]]], .list [.list [.tuple [.int 0, .int 0], .tuple [.int 0, .int 99]]], .list [.list [.tuple [.int 9, .int 0], .tuple [.int 0, .int 0]]]]) ?_ fun l us G5 e5 nl hl hA => ?_
    · repeat (first | exact gvs_nil | refine gvs_cons ?_ ?_ | exact gv_dict | refine gv_d ?_ | exact gds_nil | exact gd_int | exact gd_non | exact gd_str | exact gd_bl | refine gds_cons ?_ ?_ | refine gd_lst ?_ (by decide) | refine gd_tup ?_ (by decide))
    · refine lit 2 _ l us G5 _ (by decide) (fun v G h1 h2 => store_rd rfl rfl h1 ha hvs (m' := 2) (by rw [lvs]; rfl) ?_) e5 nl hl hA (by decide) (by decide) (by decide)
      exact skip_eq rfl (by decide) (skip_eq rfl (by decide) (skip_eq rfl (by decide) (skip_eq rfl (by decide) (skip_eq rfl (by decide) ⟨_, rfl, h2⟩))))
  · refine skip_eq rfl (by decide) (skip_eq rfl (by decide) (skip_eq rfl (by decide) (skip_eq rfl (by decide) (take_eq rfl ?_))))
    refine cut_te (fun v G => ∃ r, v = .ref r ∧ Ext G2 G ∧ G2 r = none ∧ G r = some (.lst tys.reverse)) (fun Q1 k1 => ?_) fun v G5 ⟨r, ev, e5, nr, hr5⟩ => ?_
    · subst evs
      refine ⟨_, rfl, _, rfl, R, _, _, .ref a, rfl, rfl, SqL.of hR.at_, hRat, a, _, _, .ref tva, rfl, rfl, SqL.of hGa, atI_nat (j := 2) rfl, ?_⟩
      refine ⟨tva, tys, rfl, .inl (hTs.ext delS_ext), fun l nl => ⟨l, tys, rfl, SqL.of upd_same, fun r nr => k1 _ _ ⟨r, rfl, (Ext.upd nl).trans (Ext.upd nr), none_of (Ext.upd nl) nr, upd_same⟩⟩⟩
    · subst ev
      have e25 : ExtP q G2 G5 := ExtP.of e5
      refine store_rd rfl rfl (hR.step e25) ha hvs (m' := 2) (by rw [lvs]; rfl) ?_
      refine skip_eq rfl (by decide) (skip_eq rfl (by decide) (skip_eq rfl (by decide) (skip_eq rfl (by decide) ⟨_, rfl, put G5 2 (.ref r) (.dat (.list (hdj.2.2.map P4.dat).reverse)) (by decide) e25 (.dat (.of (.lst (xs := tys.reverse) (SqL.of ?_) ?_))) (.inr ⟨_, rfl, ?_⟩) ((hq2.ext e5).mono (by omega))⟩)))
      · rw [side, delS_at (fun z => inS z nr)]
        exact hr5
      · exact DpAll.rev (DpAll.ext (side_ext e25) hTA)
      · show (hdj.2.2.map P4.dat).reverse.length ≤ 600
        rw [List.length_reverse, List.length_map]
        have := hfj.2.2.1
        omega
  · refine skip_eq rfl (by decide) (skip_eq rfl (by decide) (skip_eq rfl (by decide) (skip_eq rfl (by decide) (skip_eq rfl (by decide) (take_eq rfl ?_)))))
    refine cut_te (fun v G => ∃ r, v = .ref r ∧ Ext G2 G ∧ G2 r = none ∧ G r = some (.lst (tys ++ tys))) (fun Q1 k1 => ?_) fun v G5 ⟨r, ev, e5, nr, hr5⟩ => ?_
    · subst evs
      refine ⟨_, rfl, _, rfl, R, _, _, .ref a, rfl, rfl, SqL.of hR.at_, hRat, a, _, _, .ref tva, rfl, rfl, SqL.of hGa, atI_nat (j := 2) rfl, ?_⟩
      refine ⟨tva, tys, rfl, .inl (hTs.ext delS_ext), fun l nl => ⟨l, 2, tys, rfl, rfl, upd_same, by decide, by decide, Nat.le_of_lt (small_of (m := 60) (by show tys.length * 2 ≤ 60; omega)), fun r nr => k1 _ _ ⟨r, rfl, (Ext.upd nl).trans (Ext.upd nr), none_of (Ext.upd nl) nr, ?_⟩⟩⟩
      rw [upd_same]
      show some (HO.lst (List.flatten [tys, tys])) = _
      simp
    · subst ev
      have e25 : ExtP q G2 G5 := ExtP.of e5
      refine store_rd rfl rfl (hR.step e25) ha hvs (m' := 2) (by rw [lvs]; rfl) ?_
      refine skip_eq rfl (by decide) (skip_eq rfl (by decide) (skip_eq rfl (by decide) ⟨_, rfl, put G5 2 (.ref r) (.dat (.list (hdj.2.2.map P4.dat ++ hdj.2.2.map P4.dat))) (by decide) e25 (.dat (.of (.lst (xs := tys ++ tys) (SqL.of ?_) ?_))) (.inr ⟨_, rfl, ?_⟩) ((hq2.ext e5).mono (by omega))⟩))
      · rw [side, delS_at (fun z => inS z nr)]
        exact hr5
      · exact DpAll.app (DpAll.ext (side_ext e25) hTA) (DpAll.ext (side_ext e25) hTA)
      · show (hdj.2.2.map P4.dat ++ hdj.2.2.map P4.dat).length ≤ 600
        rw [List.length_append, List.length_map]
        have := hfj.2.2.1
        omega
  · refine skip_eq rfl (by decide) (skip_eq rfl (by decide) (skip_eq rfl (by decide) (skip_eq rfl (by decide) (skip_eq rfl (by decide) (skip_eq rfl (by decide) (take_eq rfl ?_))))))
    have hall : KpAll K (L2.del G2 q) (his.map V.ref) ((hs.map houseKs).map (.seq true)) := rows_all hR hK.1 fun i us ks hu hk => (hK.2 i us ks hu hk).ext (delS_q List.mem_cons_self)
    obtain ⟨m, hm⟩ : ∃ m : Nat, (5 : Int) - (his.length : Int) = (m : Int) := ⟨5 - his.length, by omega⟩
    show tOp rCat _ _ _ _ _
    refine cut_te (fun v G => ∃ r, v = .ref r ∧ Ext G2 G ∧ G2 r = none ∧ G r = some (.lst (his.map V.ref ++ (List.replicate m ((his.map V.ref).take 1)).flatten))) (fun Q1 k1 => ?_) fun v G5 ⟨r, ev, e5, nr, hr5⟩ => ?_
    · refine ⟨_, rfl, _, rfl, ?_⟩
      refine ⟨1, rfl, R, _, rfl, SqL.of hR.at_, fun l nl => ?_⟩
      rw [show cutV (his.map V.ref) none (some 1) = (his.map V.ref).take 1 from cutV_take2 (n := 1)]
      have hRl := Ext.upd (o := HO.lst ((his.map V.ref).take 1)) nl _ _ hR.at_
      refine ⟨_, rfl, R, _, rfl, .inl (SqL.of hRl), _, _, rfl, rfl, ?_⟩
      rw [List.length_map]
      have l1 : ((his.map V.ref).take 1).length ≤ 1 := by rw [List.length_take]; omega
      refine ⟨l, _, _, rfl, rfl, upd_same, by omega, by omega, ?_, fun p np => ?_⟩
      · rw [hm, Int.toNat_natCast]
        have := Nat.mul_le_mul l1 (Nat.le_refl m)
        exact Nat.le_of_lt (small_of (m := 60) (by omega))
      · rw [hm, Int.toNat_natCast]
        have hRp := Ext.upd (o := HO.lst (List.replicate m ((his.map V.ref).take 1)).flatten) np _ _ hRl
        refine ⟨R, p, _, _, rfl, rfl, hRp, upd_same, ?_, fun r nr => k1 _ _ ⟨r, rfl, (Ext.upd nl).trans ((Ext.upd np).trans (Ext.upd nr)), none_of ((Ext.upd nl).trans (Ext.upd np)) nr, upd_same⟩⟩
        have lf : ((List.replicate m ((his.map V.ref).take 1)).flatten).length ≤ m := by
          rw [List.length_flatten, List.map_replicate, List.sum_replicate_nat]
          have := Nat.mul_le_mul (Nat.le_refl m) l1
          omega
        rw [List.length_map]
        exact Nat.le_of_lt (small_of (m := 60) (by omega))
    · subst ev
      have crq : r ≠ q := hq2.ne nr
      refine skip_eq rfl (by decide) (skip_eq rfl (by decide) ⟨_, rfl, ?_⟩)
      have ka2 := hall.ext (ext_dels (D := q) e5)
      refine kk (.ref r) (.seq true (((hs.map houseKs).map (.seq true)) ++ (List.replicate m (((hs.map houseKs).map (KD.seq true)).take 1)).flatten)) G5 (hR.ext.trans (ExtP.of e5)) (.seq (fl := true) (SqL.of (by rw [del_ne crq]; exact hr5)) (KpAll.app ka2 (KpAll.rep (KpAll.take 1 ka2) m))) (fun x hx => ?_) (fun _ => ⟨r, _, rfl, none_extP hR.ext nr crq, crq, hr5⟩) ((hq2.ext e5).mono (by omega))
      have hx2 : x ∈ (hs.map houseKs).map (KD.seq true) := by
        rcases List.mem_append.mp hx with hx | hx
        · exact hx
        · obtain ⟨l, hl, hxl⟩ := List.mem_flatten.mp hx
          rw [(List.mem_replicate.mp hl).2] at hxl
          exact List.mem_of_mem_take hxl
      obtain ⟨ks, hks, rfl⟩ := List.mem_map.mp hx2
      exact okH_row (ok0 ks hks)
  · refine skip_eq rfl (by decide) (skip_eq rfl (by decide) (skip_eq rfl (by decide) (skip_eq rfl (by decide) (skip_eq rfl (by decide) (skip_eq rfl (by decide) (skip_eq rfl (by decide) (take_eq rfl ⟨_, rfl, ?_⟩)))))))
    show tLst _ _ _ _
    subst evs
    refine cut_te (fun v G => ∃ l p1 p2 p3, v = .ref l ∧ Ext G2 G ∧ G2 l = none ∧ G l = some (.lst [.ref p1, .ref p2, .non, .ref p3]) ∧ (G2 p1 = none ∧ G p1 = some (.lst [.ref ka, .str hdj.2.1])) ∧ (G2 p2 = none ∧ G p2 = some (.lst [.ref ka, .str hdj.2.1, .ref tva, .int 0])) ∧ (G2 p3 = none ∧ G p3 = some (.tup [.ref ka, .str hdj.2.1, .ref tva]))) (fun Q1 k1 => ?_) fun v G5 ⟨l, p1, p2, p3, ev, e5, nl, hl, ⟨a1, b1⟩, ⟨a2, b2⟩, a3, b3⟩ => ?_
    · dsimp only [tRet, tRetN, tSeq, tAsg, tOp, tVar, tC, tCB, tCons, tNil, tAndV, tOrV, tNotV, tAnd, tOr, tNot, tTest, tIf, tIfS, tB, tChain, tSl, tPart, tNoPart, tLst, tTup, tFld, tCl, tMt, tMk, gName, tNext, tBM, tBM0, tUn, tSub, tPar, tPar3, gTup, gCons, gNil, tDrop, tMkS, tM1, sFld, StX.tStar, tYes, gSub, cxOf, Cx.wish, Cx.nox, Cx.blk]
      refine ⟨_, rfl, _, rfl, R, _, _, .ref a, rfl, rfl, SqL.of hR.at_, hRat, ?_⟩
      refine ⟨2, rfl, a, _, rfl, SqL.of hGa, fun p1 n1 => ?_⟩
      have x1 := Ext.upd (o := HO.lst (cutV [.ref ka, .str hdj.2.1, .ref tva] none (some 2))) n1
      refine ⟨_, rfl, _, rfl, R, _, _, .ref a, rfl, rfl, SqL.of (x1 _ _ hR.at_), hRat, by show 1 ≤ sizeLine; decide, fun p0 n0 => ?_⟩
      have x0 := Ext.upd (o := HO.lst [.int 0]) n0
      refine ⟨a, p0, _, _, rfl, rfl, x0 _ _ (x1 _ _ hGa), upd_same, by show 4 ≤ sizeLine; decide, fun p2 n2 => ?_⟩
      have x2 := Ext.upd (o := HO.lst ([.ref ka, .str hdj.2.1, .ref tva] ++ [.int 0])) n2
      have x12 := x1.trans (x0.trans x2)
      refine ⟨_, rfl, _, rfl, R, _, _, .ref a, rfl, rfl, SqL.of (x12 _ _ hR.at_), hRat, a, _, rfl, .inl ⟨SqL.of (x12 _ _ hGa), fun p3 n3 => ⟨by show 4 ≤ sizeLine; decide, fun l nl => ?_⟩⟩⟩
      have x3 := Ext.upd (o := HO.tup [.ref ka, .str hdj.2.1, .ref tva]) n3
      have xl := Ext.upd (o := HO.lst [.ref p1, .ref p2, .non, .ref p3]) nl
      refine k1 _ _ ⟨l, p1, p2, p3, rfl, x12.trans (x3.trans xl), none_of (x12.trans x3) nl, upd_same, ⟨n1, (x0.trans (x2.trans (x3.trans xl))) _ _ upd_same⟩, ⟨none_of (x1.trans x0) n2, (x3.trans xl) _ _ upd_same⟩, none_of x12 n3, xl _ _ upd_same⟩
    · subst ev
      have cl : l ≠ q := hq2.ne nl
      refine ⟨q, c, ns, l, _, b + 2, rfl, hq2.ext e5, by omega, fun H' e => SqL.of (e _ _ cl hl), by show 0 < 4; decide, by show 4 ≤ 1000; decide, fun i v G6 hv e6 hq6 => ?_⟩
      have e26 : ExtP q G2 G6 := (ExtP.of e5).trans e6
      have at6 : ∀ {p : Addr} {o : HO}, G2 p = none → G5 p = some o → L2.del (L2.del G6 R) q p = some o := fun {p o} hp ho => by
        have z := e6 _ _ (hq2.ne hp) ho
        rw [del_ne (hq2.ne hp), del_ne (fun z => inS (List.mem_cons_of_mem _ List.mem_cons_self) (by rw [← z]; exact hp))]
        exact z
      have eS : Ext (side G2 q R his) (L2.del (L2.del G6 R) q) := fun b o hb => by
        obtain ⟨c1, c2⟩ := delS_some hb
        have cq : b ≠ q := fun z => c1 (by rw [z]; exact List.mem_cons_self)
        have cR : b ≠ R := fun z => c1 (by rw [z]; exact List.mem_cons_of_mem _ List.mem_cons_self)
        rw [del_ne cq, del_ne cR]
        exact e26 _ _ cq c2
      have k1' : Kp K (L2.del (L2.del G6 R) q) (.ref ka) (.kind hdj.1) := .kind (hka.ext eS)
      have k3' : Kp K (L2.del (L2.del G6 R) q) (.ref tva) (.dat (.list (hdj.2.2.map P4.dat))) := .dat (.of (.lst (hTs.ext eS) (DpAll.ext eS hTA)))
      have hitem : ∃ kd, Kp K (L2.del (L2.del G6 R) q) v kd ∧ okH kd := by
        match i, hv with
        | 0, hv =>
          cases hv
          exact ⟨.seq true [.kind hdj.1, .dat (.str hdj.2.1)], .seq (fl := true) (SqL.of (at6 a1 b1)) (.cons k1' (.cons (.dat (.of (.str _))) .nil)), fun x y z e => by cases e⟩
        | 1, hv =>
          cases hv
          exact ⟨.seq true [.kind hdj.1, .dat (.str hdj.2.1), .dat (.list (hdj.2.2.map P4.dat)), .dat (.int 0)], .seq (fl := true) (SqL.of (at6 a2 b2)) (.cons k1' (.cons (.dat (.of (.str _))) (.cons k3' (.cons (.dat (.of (.int 0))) .nil)))), fun x y z e => by cases e⟩
        | 2, hv =>
          cases hv
          exact ⟨.dat .none, .dat (.of .non), fun x y z e => by cases e⟩
        | 3, hv =>
          cases hv
          exact ⟨.seq false (houseKs hdj), .seq (fl := false) (SqT.of (at6 a3 b3)) (.cons k1' (.cons (.dat (.of (.str _))) (.cons k3' .nil))), okH_row (houseKs_ok hfj)⟩
      obtain ⟨kd, hkd, hokd⟩ := hitem
      have hR6 := hR.step e26
      refine ⟨_, rfl, _, rfl, R, _, _, j, rfl, rfl, hR6.at_, (by rw [ixN, if_pos (by omega), List.length_map, if_pos (by omega)]; rfl), ?_⟩
      refine skip_eq rfl (by decide) ⟨_, rfl, ?_⟩
      have hnR := hR.new R List.mem_cons_self
      have cRhis : R ∉ his := (List.nodup_cons.mp hR.nd).1
      have hall : KpAll K (L2.del (L2.del G6 R) q) (his.map V.ref) ((hs.map houseKs).map (.seq true)) := by
        refine rows_key his vals (hs.map houseKs) hR.len.symm hK.1 (fun i b hb => ?_) fun i us ks hu hk => (hK.2 i us ks hu hk).ext eS
        obtain ⟨us, u1, u2⟩ := hR6.items i b hb
        have hbm := List.mem_of_getElem? hb
        exact ⟨us, u1, by rw [del_ne (hR.new b (List.mem_cons_of_mem _ hbm)).2, del_ne (fun z => cRhis (by rw [← z]; exact hbm))]; exact u2⟩
      refine kk (.ref R) (.seq true (((hs.map houseKs).map (.seq true)).set j kd)) _ ?_ (.seq (fl := true) (SqL.of (by rw [del_ne hnR.2, upd_same])) (KpAll.ext ?_ (KpAll.set hkd j hall))) (fun x hx => ?_) (fun _ => ⟨R, _, rfl, hnR.1, hnR.2, upd_same⟩) (hq.but hR6.ext hq6 hnR.1)
      · intro o u ho eo
        rw [upd_ne (ne_of_none eo hnR.1)]
        exact hR6.ext o u ho eo
      · intro b o hb
        have cq : b ≠ q := fun z => by rw [z, del_same] at hb; cases hb
        rw [del_ne cq] at hb
        have cR : b ≠ R := fun z => by rw [z, del_same] at hb; cases hb
        rw [del_ne cR] at hb
        rw [del_ne cq, upd_ne cR]
        exact hb
      · rcases List.mem_or_eq_of_mem_set hx with hx | rfl
        · obtain ⟨ks, hks, rfl⟩ := List.mem_map.mp hx
          exact okH_row (ok0 ks hks)
        · exact hokd
  · refine skip_eq rfl (by decide) (skip_eq rfl (by decide) (skip_eq rfl (by decide) (skip_eq rfl (by decide) (skip_eq rfl (by decide) (skip_eq rfl (by decide) (skip_eq rfl (by decide) (skip_eq rfl (by decide) (take_eq rfl ?_))))))))
    refine cut_te (fun v G => ∃ p lw, v = .ref p ∧ Ext G2 G ∧ SqT K G p [.str "watched", lw] ∧ Dp K (side G q R his) lw (.list [.tuple [.tuple [.int 0, .int 0], .tuple [.int 0, .int 0]]])) (fun Q1 k1 => ?_) fun v G5 ⟨p, lw, ev, e5, hp5, hlw⟩ => ?_
    · refine (gd_tup (K := K) (ds := [.str "watched", .list [.tuple [.tuple [.int 0, .int 0], .tuple [.int 0, .int 0]]]]) ?_) _ _ _ fun v G e h => ?_
      · repeat (first | exact gds_nil | exact gd_int | exact gd_str | refine gds_cons ?_ ?_ | refine gd_tup ?_ (by decide) | refine gd_lst ?_ (by decide))
      · obtain ⟨p, us, rfl, h1, h2⟩ := Dp.tupV h
        cases h2 with
        | cons p1 r =>
          cases r with
          | cons p2 r =>
            cases r
            obtain rfl := Dp.strV p1
            exact k1 _ _ ⟨p, _, rfl, e, h1.ext Ow.nw_all, Dp.ext (delS_nw fun b hb => inS hb) p2⟩
    · subst ev
      have e25 : ExtP q G2 G5 := ExtP.of e5
      subst evs
      have h1 := hR.step e25
      have hK1 := hK.mono (side_ext (R := R) (his := his) e25)
      have hp1 : Kp K (side G5 q R his) (.ref ka) (.kind hdj.1) := .kind (hka.ext (side_ext e25))
      have hp3 : Kp K (side G5 q R his) (.ref tva) (.dat (.list (hdj.2.2.map P4.dat))) := .dat (.of (.lst (hTs.ext (side_ext e25)) (DpAll.ext (side_ext e25) hTA)))
      refine ⟨p, _, rfl, hp5, rfl, _, _, rfl, ?_⟩
      refine store_rd (vs := [.ref ka, .str hdj.2.1, .ref tva]) rfl rfl h1 ha hvs (m' := 1) rfl ?_
      refine ⟨_, _, rfl, ?_⟩
      have h2 := h1.put ha [.ref ka, .str "watched", .ref tva]
      have hK2 := hK1.put ha (vs := [.ref ka, .str "watched", .ref tva]) (ks := [.kind hdj.1, .dat (.str "watched"), .dat (.list (hdj.2.2.map P4.dat))]) (.cons hp1 (.cons (.dat (.of (.str _))) (.cons hp3 .nil)))
      have hjv : j < vals.length := by rw [hR.len]; exact hj
      refine store_rd (vs := [.ref ka, .str "watched", .ref tva]) rfl rfl h2 ha (by rw [List.getElem?_set_self hjv]) (m' := 2) rfl ?_
      have eS : side (upd G5 a (.lst [.ref ka, .str "watched", .ref tva])) q R his = side G5 q R his := delS_upd (List.mem_cons_of_mem _ (List.mem_cons_of_mem _ (List.mem_of_getElem? ha)))
      have h3 := h2.put ha [.ref ka, .str "watched", lw]
      have hK3 := hK2.put ha (vs := [.ref ka, .str "watched", lw]) (ks := [.kind hdj.1, .dat (.str "watched"), .dat (.list [.tuple [.tuple [.int 0, .int 0], .tuple [.int 0, .int 0]]])]) (by rw [eS]; exact .cons hp1 (.cons (.dat (.of (.str _))) (.cons (.dat (.of hlw)) .nil)))
      have nHa := (hR.new a (List.mem_cons_of_mem _ (List.mem_of_getElem? ha))).1
      have hqG := (hq2.ext e5).mono (show b + 2 ≤ b + 3 by omega)
      have hqa := hq.but (hR.ext.trans e25) hqG nHa (u := .lst [.ref ka, .str "watched", .ref tva])
      refine ⟨rfl, _, rfl, close _ _ _ h3 hK3 (fun ks hks => ?_) (hq.but h2.ext hqa nHa)⟩
      rcases List.mem_or_eq_of_mem_set hks with hks | rfl
      · rcases List.mem_or_eq_of_mem_set hks with hks | rfl
        · exact ok0 ks hks
        · exact fun x y z e => ⟨_, by simp at e; exact e.2.2.symm, by show (hdj.2.2.map P4.dat).length ≤ 600; rw [List.length_map]; have := hfj.2.2.1; omega⟩
      · exact fun x y z e => ⟨_, by simp at e; exact e.2.2.symm, by decide⟩
end
end K81

end
section
/-! K81zc: lists of lists, their objects apart. -/
namespace K81
open PySem L2 Ow
open PySem.Spec PyProof.Rows
/-- a tree of new lists -/
structure Lev (K : W.Frag) (τ : Type) where
  addr : τ → Addr
  addrs : τ → List Addr
  at_ : Hp → τ → Prop
  dat : τ → PyData
  mem : ∀ x, addr x ∈ addrs x
  mono : ∀ x G G', (∀ a ∈ addrs x, G' a = G a) → at_ G x → at_ G' x
  some_ : ∀ x G, at_ G x → ∀ a ∈ addrs x, ∃ ys, G a = some (.lst ys)
  dp : ∀ x G, at_ G x → Dp K G (.ref (addr x)) (dat x)
theorem dp_refs {K : W.Frag} {τ : Type} (L : Lev K τ) {G : Hp} : ∀ {xs : List τ}, (∀ y ∈ xs, L.at_ G y) → DpAll K G (xs.map fun y => V.ref (L.addr y)) (xs.map L.dat)
  | [], _ => .nil
  | x :: r, h => .cons (L.dp x G (h x List.mem_cons_self)) (dp_refs L fun y hy => h y (List.mem_cons_of_mem _ hy))
def Lev.up {K : W.Frag} {τ : Type} (L : Lev K τ) : Lev K (Addr × List τ) where
  addr x := x.1
  addrs x := x.1 :: x.2.flatMap L.addrs
  at_ G x := G x.1 = some (.lst (x.2.map fun y => V.ref (L.addr y))) ∧ ∀ y ∈ x.2, L.at_ G y
  dat x := .list (x.2.map L.dat)
  mem x := List.mem_cons_self
  mono x G G' e h := ⟨(e _ List.mem_cons_self).trans h.1, fun y hy => L.mono y G G' (fun a ha => e a (List.mem_cons_of_mem _ (List.mem_flatMap.mpr ⟨y, hy, ha⟩))) (h.2 y hy)⟩
  some_ x G h a ha := by
    rcases List.mem_cons.mp ha with rfl | ha
    · exact ⟨_, h.1⟩
    · obtain ⟨y, hy, ha⟩ := List.mem_flatMap.mp ha
      exact L.some_ y G (h.2 y hy) a ha
  dp x G h := .lst (SqL.of h.1) (dp_refs L h.2)
/-- a step's list -/
def L0 (K : W.Frag) : Lev K (Addr × StepP) where
  addr x := x.1
  addrs x := [x.1]
  at_ G x := G x.1 = some (.lst [.int x.2.1, .int x.2.2])
  dat x := stepL x.2
  mem x := List.mem_cons_self
  mono x G G' e h := (e _ List.mem_cons_self).trans h
  some_ x G h a ha := by
    cases List.mem_singleton.mp ha
    exact ⟨_, h⟩
  dp x G h := .lst (SqL.of h) (.cons (.int _) (.cons (.int _) .nil))
/-- trees in the making: the list at D, all new since B -/
structure Forest {K : W.Frag} {τ : Type} (L : Lev K τ) (B : Hp) (D : Addr) (G : Hp) (xs : List τ) : Prop where
  here : G D = some (.lst (xs.map fun y => V.ref (L.addr y)))
  at_ : ∀ y ∈ xs, L.at_ G y
  nd : (D :: xs.flatMap L.addrs).Nodup
  new : ∀ y ∈ xs, ∀ a ∈ L.addrs y, B a = none
  newD : B D = none
  ext : Ext B (L2.del G D)
section
variable {K : W.Frag} {τ : Type} {L : Lev K τ} {B G G2 : Hp} {D : Addr} {xs : List τ} {x : τ}
theorem Forest.nil (h : B D = none) : Forest L B D (upd B D (.lst [])) [] := ⟨upd_same, fun y hy => by simp at hy, by simp, fun y hy => by simp at hy, h, ext_off (Ext.upd h) h⟩
theorem Forest.add (h : Forest L B D G xs) (e : Ext G G2) (hx : L.at_ G2 x) (hn : (L.addrs x).Nodup) (hf : ∀ a ∈ L.addrs x, G a = none) : Forest L B D (upd G2 D (.lst ((xs.map fun y => V.ref (L.addr y)) ++ [.ref (L.addr x)]))) (xs ++ [x]) := by
  obtain ⟨hD, hal⟩ := List.nodup_cons.mp h.nd
  have dx : D ∉ L.addrs x := fun z => by
    have := hf D z
    rw [h.here] at this
    cases this
  have keep : ∀ y ∈ xs, ∀ a ∈ L.addrs y, upd G2 D (.lst ((xs.map fun y => V.ref (L.addr y)) ++ [.ref (L.addr x)])) a = G a := fun y hy a ha => by
    have c : a ≠ D := fun z => hD (by rw [← z]; exact List.mem_flatMap.mpr ⟨y, hy, ha⟩)
    obtain ⟨ys, hys⟩ := L.some_ y G (h.at_ y hy) a ha
    rw [upd_ne c, hys]
    exact e _ _ hys
  refine ⟨by rw [upd_same, List.map_append]; rfl, fun y hy => ?_, ?_, fun y hy a ha => ?_, h.newD, ?_⟩
  · rcases List.mem_append.mp hy with hy | hy
    · exact L.mono y _ _ (keep y hy) (h.at_ y hy)
    · cases List.mem_singleton.mp hy
      exact L.mono x _ _ (fun a ha => by rw [upd_ne (fun z => dx (by rw [← z]; exact ha))]) hx
  · rw [List.flatMap_append, List.nodup_cons]
    have e1 : [x].flatMap L.addrs = L.addrs x := by simp
    rw [e1]
    refine ⟨fun z => ?_, List.nodup_append.mpr ⟨hal, hn, fun a ha b hb => ?_⟩⟩
    · rcases List.mem_append.mp z with z | z
      · exact hD z
      · exact dx z
    · intro z
      subst z
      obtain ⟨y, hy, hay⟩ := List.mem_flatMap.mp ha
      obtain ⟨ys, hys⟩ := L.some_ y G (h.at_ y hy) a hay
      rw [hf a hb] at hys
      cases hys
  · rcases List.mem_append.mp hy with hy | hy
    · exact h.new y hy a ha
    · cases List.mem_singleton.mp hy
      exact none_of (h.ext.trans ext_del) (hf a ha)
  · rw [del_upd]
    exact h.ext.trans (ext_dels e)
/-- the tree that it is at last -/
theorem Forest.done (h : Forest L B D G xs) : L.up.at_ G (D, xs) ∧ (L.up.addrs (D, xs)).Nodup ∧ ∀ a ∈ L.up.addrs (D, xs), B a = none := ⟨⟨h.here, h.at_⟩, h.nd, fun a ha => by
  rcases List.mem_cons.mp ha with rfl | ha
  · exact h.newD
  · obtain ⟨y, hy, ha⟩ := List.mem_flatMap.mp ha
    exact h.new y hy a ha⟩
/-- a tree's own list changes in one place -/
theorem tree_put {a : Addr} {j : Nat} {v : V} {dv : PyData} (h : L.up.at_ G (a, xs)) (hn : (L.up.addrs (a, xs)).Nodup) (hv : Dp K (upd G a (.lst ((xs.map fun y => V.ref (L.addr y)).set j v))) v dv) :
    Dp K (upd G a (.lst ((xs.map fun y => V.ref (L.addr y)).set j v))) (.ref a) (.list ((xs.map L.dat).set j dv)) := by
  have ha := (List.nodup_cons.mp hn).1
  refine .lst (SqL.of upd_same) (dps_of (by simp) fun i y hy => ?_)
  by_cases c : i = j
  · subst c
    have hi : i < (xs.map fun y => V.ref (L.addr y)).length := by
      have := (List.getElem?_eq_some_iff.mp hy).1
      simpa using this
    rw [List.getElem?_set_self hi] at hy
    cases hy
    exact ⟨dv, by rw [List.getElem?_set_self (by simpa using hi)], hv⟩
  · rw [List.getElem?_set_ne (Ne.symm c), List.getElem?_map] at hy
    obtain ⟨x, hx, rfl⟩ := Option.map_eq_some_iff.mp hy
    have hxm := List.mem_of_getElem? hx
    refine ⟨L.dat x, by rw [List.getElem?_set_ne (Ne.symm c), List.getElem?_map, hx]; rfl, L.dp x _ (L.mono x _ _ (fun b hb => ?_) (h.2 x hxm))⟩
    rw [upd_ne (fun z => ha (by rw [← z]; exact List.mem_flatMap.mpr ⟨x, hxm, hb⟩))]
/-- one subtree changes -/
theorem tree_sub {a : Addr} {j : Nat} {x : τ} {dv : PyData} (h : L.up.at_ G (a, xs)) (hn : (L.up.addrs (a, xs)).Nodup) (hx : xs[j]? = some x) (e : ∀ b, b ∉ L.addrs x → b ∈ L.up.addrs (a, xs) → G2 b = G b) (hv : Dp K G2 (.ref (L.addr x)) dv) :
    Dp K G2 (.ref a) (.list ((xs.map L.dat).set j dv)) := by
  obtain ⟨ha, hal⟩ := List.nodup_cons.mp hn
  have hxm := List.mem_of_getElem? hx
  have hjl := (List.getElem?_eq_some_iff.mp hx).1
  have ax : a ∉ L.addrs x := fun z => ha (List.mem_flatMap.mpr ⟨x, hxm, z⟩)
  refine .lst (SqL.of ((e a ax List.mem_cons_self).trans h.1)) (dps_of (by simp) fun i y hy => ?_)
  rw [List.getElem?_map] at hy
  obtain ⟨z, hz, rfl⟩ := Option.map_eq_some_iff.mp hy
  by_cases c : i = j
  · subst c
    rw [hx] at hz
    cases hz
    exact ⟨dv, by rw [List.getElem?_set_self (by simpa using hjl)], hv⟩
  · have hzm := List.mem_of_getElem? hz
    refine ⟨L.dat z, by rw [List.getElem?_set_ne (Ne.symm c), List.getElem?_map, hz]; rfl, L.dp z _ (L.mono z _ _ (fun b hb => e b (fun hbx => ?_) (List.mem_cons_of_mem _ (List.mem_flatMap.mpr ⟨z, hzm, hb⟩))) (h.2 z hzm))⟩
    -- two subtrees stand apart
    have key : ∀ (l : List τ) (i j : Nat), i ≠ j → (l.flatMap L.addrs).Nodup → l[i]? = some z → l[j]? = some x → False := by
      intro l
      induction l with
      | nil => intro i j _ _ h1 _; simp at h1
      | cons w l ih =>
        intro i j hij hnd h1 h2
        rw [List.flatMap_cons, List.nodup_append] at hnd
        obtain ⟨n1, n2, n3⟩ := hnd
        match i, j, h1, h2, hij with
        | 0, 0, _, _, hij => exact hij rfl
        | 0, j + 1, h1, h2, _ =>
          cases h1
          exact n3 b hb b (List.mem_flatMap.mpr ⟨x, List.mem_of_getElem? (by simpa using h2), hbx⟩) rfl
        | i + 1, 0, h1, h2, _ =>
          cases h2
          exact n3 b hbx b (List.mem_flatMap.mpr ⟨z, List.mem_of_getElem? (by simpa using h1), hb⟩) rfl
        | i + 1, j + 1, h1, h2, hij => exact ih i j (by omega) n2 (by simpa using h1) (by simpa using h2)
    exact key xs i j c hal hz hx
end
end K81

end
section
/-! K81zd: hands bent. -/
namespace K81
open PySem L2 Ow
open PySem.Spec PyProof.Rows
def rEqNil (K : W.Frag) : R2 := fun x y H Q => ∃ p q xs, x = .ref p ∧ y = .ref q ∧ SqL K H p xs ∧ SqL K H q [] ∧ Q (.bl xs.isEmpty) H
theorem op_eqNil {X : Cx} (hu : X.A.units + 64 < cLine) : OpR X (compareOp .Eq) (rEqNil X.K) := by
  intro pins s σ H x y v u Q I rx ry ⟨p, q, xs, e1, e2, ha, hb, k⟩
  cases xs with
  | nil => exact op_eqD hu pins s σ H x y v u Q I rx ry ⟨.list [], .list [], by rw [e1]; exact .lst ha .nil, by rw [e2]; exact .lst hb .nil, rfl, rfl, k⟩
  | cons z r => exact op_eqLens hu pins s σ H x y v u Q I rx ry ⟨p, q, _, [], e1, e2, ha, hb, by simp, k⟩
abbrev StT := Addr × StepP
abbrev DlT := Addr × List StT
abbrev HnT := Addr × List DlT
def shpD (d : DlT) : List StepP := d.2.map Prod.snd
def shpH (h : HnT) : List (List StepP) := h.2.map shpD
abbrev L1 (K : W.Frag) : Lev K DlT := (L0 K).up
abbrev L2' (K : W.Frag) : Lev K HnT := (L1 K).up
abbrev L3 (K : W.Frag) : Lev K (Addr × List HnT) := (L2' K).up
/-- written data; a list of it is a new object -/
def GLok (K : W.Frag) (H H' : Hp) (v : V) (d : PyData) : Prop := Vd K (Ow.nw H H') v d ∧ (dSeq d = true → ∃ a xs, v = .ref a ∧ H a = none ∧ H' a = some (.lst xs))
def GL (K : W.Frag) (t : TE) (d : PyData) : Prop := ∀ (σ : L2.St) (H : Hp) (Q : VK), (∀ v H', Ext H H' → GLok K H H' v d → Q v H') → t σ H Q
def GLs (K : W.Frag) (t : TA) (ds : List PyData) : Prop := ∀ (σ : L2.St) (H : Hp) (Q : List V → Hp → Prop), (∀ vs H', Ext H H' → vs.length = ds.length → (∀ (i : Nat) v, vs[i]? = some v → ∃ d, ds[i]? = some d ∧ GLok K H H' v d) → Q vs H') → t σ H Q
theorem GLok.snd {K : W.Frag} {H H1 H2 : Hp} {v : V} {d : PyData} (e : Ext H1 H2) (h : GLok K H H1 v d) : GLok K H H2 v d := ⟨Vd.ext (Ow.nw_snd e) h.1, fun hs => by
  obtain ⟨a, xs, h1, h2, h3⟩ := h.2 hs
  exact ⟨a, xs, h1, h2, e _ _ h3⟩⟩
theorem GLok.fst {K : W.Frag} {H H1 H2 : Hp} {v : V} {d : PyData} (e : Ext H H1) (h : GLok K H1 H2 v d) : GLok K H H2 v d := ⟨Vd.ext (Ow.nw_fst e) h.1, fun hs => by
  obtain ⟨a, xs, h1, h2, h3⟩ := h.2 hs
  exact ⟨a, xs, h1, none_of e h2, h3⟩⟩
theorem gl_v {K : W.Frag} {t : TE} {d : PyData} (h : GV K t d) (hd : dSeq d = false) : GL K t d := fun σ H Q q => h σ H Q fun v H' e h => q v H' e ⟨h, fun hs => by rw [hd] at hs; cases hs⟩
theorem gl_lst {K : W.Frag} {ts : TA} {ds : List PyData} (hs : GDs K ts ds) (hl : ds.length ≤ 1000 := by decide) : GL K (tLst ts) (.list ds) := fun σ H Q q => hs σ H _ fun vs H1 e1 h1 => ⟨by rw [DpAll.length h1]; exact Nat.le_of_lt (small1000 hl), fun p hp => q _ _ (e1.trans (Ext.upd hp)) ⟨.inl (.lst (SqL.of (Ow.nw_upd e1 hp)) (DpAll.ext (Ow.nw_snd (Ext.upd hp)) h1)), fun _ => ⟨p, vs, rfl, none_of e1 hp, upd_same⟩⟩⟩
theorem gls_nil {K : W.Frag} : GLs K tNil [] := fun σ H Q q => q [] H Ext.rfl' rfl fun i v h => by simp at h
theorem gls_cons {K : W.Frag} {t : TE} {d : PyData} {ts : TA} {ds : List PyData} (h : GL K t d) (hs : GLs K ts ds) : GLs K (tCons t ts) (d :: ds) := fun σ H Q q => h σ H _ fun v H1 e1 h1 => hs σ H1 _ fun vs H2 e2 l2 h2 => q _ H2 (e1.trans e2) (by simp [l2]) fun i x hx => by
  cases i with
  | zero =>
    cases hx
    exact ⟨d, rfl, h1.snd e2⟩
  | succ i =>
    obtain ⟨d', hd', hok⟩ := h2 i x (by simpa using hx)
    exact ⟨d', by simpa using hd', hok.fst e1⟩
theorem gl_list {K : W.Frag} {ts : TA} {ds : List PyData} (hs : GLs K ts ds) {σ : L2.St} {H : Hp} {Q : VK} (q : ∀ l vs H', Ext H H' → H l = none → H' l = some (.lst vs) → vs.length = ds.length → (∀ (i : Nat) v, vs[i]? = some v → ∃ d, ds[i]? = some d ∧ GLok K H H' v d) → Q (.ref l) H') (hl : ds.length ≤ 1000 := by decide) : tLst ts σ H Q := hs σ H _ fun vs H1 e1 l1 h1 =>
  ⟨by rw [l1]; exact Nat.le_of_lt (small1000 hl), fun p hp => q p vs _ (e1.trans (Ext.upd hp)) (none_of e1 hp) upd_same l1 fun i v hv => by
    obtain ⟨d, hd, hok⟩ := h1 i v hv
    exact ⟨d, hd, hok.snd (Ext.upd hp)⟩⟩
theorem gl_rep5 {K : W.Frag} : GL K (tOp rRep (tLst (tCons (tLst tNil) tNil)) (tC (.int 5))) (.list [.list [], .list [], .list [], .list [], .list []]) := fun σ H Q q => by
  refine ⟨Nat.zero_le _, fun a na => ⟨by show 1 ≤ sizeLine; decide, fun p np => ?_⟩⟩
  refine ⟨p, 5, _, rfl, rfl, upd_same, by decide, by decide, by show 5 ≤ sizeLine; decide, fun r nr => ?_⟩
  have ea := Ext.upd (o := HO.lst []) na
  have ep := Ext.upd (o := HO.lst [.ref a]) np
  have e3 := Ext.upd (o := HO.lst (List.replicate 5 [V.ref a]).flatten) nr
  have h0 : Dp K (Ow.nw H (upd (upd (upd H a (.lst [])) p (.lst [.ref a])) r (.lst (List.replicate (Int.toNat 5) [V.ref a]).flatten))) (.ref a) (.list []) := .lst (SqL.of (by rw [Ow.nw_eq na]; exact e3 _ _ (ep _ _ upd_same))) .nil
  exact q _ _ (ea.trans (ep.trans e3)) ⟨.inl (.lst (xs := [.ref a, .ref a, .ref a, .ref a, .ref a]) (SqL.of (by rw [Ow.nw_eq (none_of (ea.trans ep) nr), upd_same]; rfl)) (.cons h0 (.cons h0 (.cons h0 (.cons h0 (.cons h0 .nil)))))), fun _ => ⟨r, _, rfl, none_of (ea.trans ep) nr, upd_same⟩⟩
/-- gives some datum, in new objects, from H0 on -/
def GE (K : W.Frag) (σ : L2.St) (H0 : Hp) (t : TE) : Prop := ∀ (H : Hp) (Q : VK), Ext H0 H → (∀ v H', Ext H H' → (∃ d, Dp K (Ow.nw H H') v d) → Q v H') → t σ H Q
def GEs (K : W.Frag) (σ : L2.St) (H0 : Hp) (ts : TA) (n : Nat) : Prop := ∀ (H : Hp) (Q : List V → Hp → Prop), Ext H0 H → (∀ vs H', Ext H H' → vs.length = n → (∃ ds, DpAll K (Ow.nw H H') vs ds) → Q vs H') → ts σ H Q
section
variable {K : W.Frag} {σ : L2.St} {H0 : Hp} {t : TE} {ts : TA} {n : Nat}
theorem ge_d {d : PyData} (h : GD K t d) : GE K σ H0 t := fun H Q _ q => h σ H Q fun v H' e hd => q v H' e ⟨d, hd⟩
theorem ges_nil : GEs K σ H0 tNil 0 := fun H Q _ q => q [] H Ext.rfl' rfl ⟨[], .nil⟩
theorem ges_cons (h : GE K σ H0 t) (hs : GEs K σ H0 ts n) : GEs K σ H0 (tCons t ts) (n + 1) := fun H Q e0 q => h H _ e0 fun v H1 e1 ⟨d, h1⟩ => hs H1 _ (e0.trans e1) fun vs H2 e2 l2 ⟨ds, h2⟩ => q _ H2 (e1.trans e2) (by simp [l2]) ⟨d :: ds, .cons (Dp.ext (Ow.nw_snd e2) h1) (DpAll.ext (Ow.nw_fst e1) h2)⟩
theorem ge_lst (hs : GEs K σ H0 ts n) (hl : n ≤ 1000 := by decide) : GE K σ H0 (tLst ts) := fun H Q e0 q => hs H _ e0 fun vs H1 e1 l1 ⟨ds, h1⟩ => ⟨by rw [l1]; exact Nat.le_of_lt (small1000 hl), fun p hp => q _ _ (e1.trans (Ext.upd hp)) ⟨.list ds, .lst (SqL.of (Ow.nw_upd e1 hp)) (DpAll.ext (Ow.nw_snd (Ext.upd hp)) h1)⟩⟩
theorem ge_list (hs : GEs K σ H0 ts n) {Q : VK} (q : ∀ l vs H', Ext H0 H' → H0 l = none → H' l = some (.lst vs) → vs.length = n → (∃ ds, DpAll K (Ow.nw H0 H') vs ds) → Q (.ref l) H') (hl : n ≤ 1000 := by decide) : tLst ts σ H0 Q := hs H0 _ Ext.rfl' fun vs H1 e1 l1 ⟨ds, h1⟩ => ⟨by rw [l1]; exact Nat.le_of_lt (small1000 hl), fun p hp => q p vs _ (e1.trans (Ext.upd hp)) (none_of e1 hp) upd_same l1 ⟨ds, DpAll.ext (Ow.nw_snd (Ext.upd hp)) h1⟩⟩
end
theorem nd_sub {α : Type} {f : α → List Addr} : ∀ {l : List α} {x : α}, (l.flatMap f).Nodup → x ∈ l → (f x).Nodup
  | a :: l, x, h, hm => by
    rw [List.flatMap_cons, List.nodup_append] at h
    rcases List.mem_cons.mp hm with rfl | hm
    · exact h.1
    · exact nd_sub h.2.1 hm
theorem del_updne {G : Hp} {a q : Addr} {o : HO} (c : a ≠ q) : L2.del (upd G a o) q = upd (L2.del G q) a o := by
  funext b
  by_cases c1 : b = q
  · subst c1
    rw [del_same, upd_ne (Ne.symm c), del_same]
  · rw [del_ne c1]
    by_cases c2 : b = a
    · subst c2
      rw [upd_same, upd_same]
    · rw [upd_ne c2, upd_ne c2, del_ne c1]
theorem rep_dp {K : W.Frag} {H : Hp} {v : V} {d : PyData} (h : Dp K H v d) : ∀ n, DpAll K H (List.replicate n v) (List.replicate n d)
  | 0 => .nil
  | n + 1 => .cons h (rep_dp h n)
theorem flat_dp {K : W.Frag} {H : Hp} {vs : List V} {ds : List PyData} (h : DpAll K H vs ds) : ∀ n, DpAll K H (List.replicate n vs).flatten (List.replicate n ds).flatten
  | 0 => .nil
  | n + 1 => by
    rw [List.replicate_succ, List.replicate_succ, List.flatten_cons, List.flatten_cons]
    exact DpAll.app h (flat_dp h n)
theorem sum_nonneg : ∀ l : List Nat, 0 ≤ (l.map fun (n : Nat) => (n : Int)).sum
  | [] => by simp
  | a :: l => by
    have := sum_nonneg l
    rw [List.map_cons, List.sum_cons]
    omega
theorem mem_total : ∀ {l : List (List (List StepP))} {h : List (List StepP)}, h ∈ l → h.length ≤ total l
  | a :: l, h, hm => by
    have e : total (a :: l) = a.length + total l := by simp [total]
    rcases List.mem_cons.mp hm with rfl | hm
    · omega
    · have := mem_total hm
      omega
section
variable {w : World} {K : W.Frag} {mg : Str → Option Value} {base : Heap}
def sp_law_bent_hands (K : W.Frag) : Sp := fun vs H Q _ => ∃ (q c : Addr) (ns : List Int) (b : Nat) (t : Addr) (xs : List V) (hs : List HouseD) (r : Addr) (ys : List V) (l : List (List (List StepP))), vs = [.ref q, .ref t, .ref r] ∧ QAt K H q c ns b ∧ b ≤ 60000 ∧ t ≠ q ∧ H t = some (.lst xs) ∧ Each (DrawnH K (L2.del (L2.del H t) q)) xs hs ∧ 1 ≤ hs.length ∧ hs.length ≤ 4 ∧
  r ≠ q ∧ H r = some (.lst ys) ∧ DpAll K (L2.del H q) ys (l.map handL) ∧ fineHands l ∧
  ∀ (v : V) (d : PyData) (H' : Hp), ExtP q H H' → Vd K (L2.del H' q) v d → (dSeq d = true → ∃ r' zs, v = .ref r' ∧ H r' = none ∧ r' ≠ q ∧ H' r' = some (.lst zs)) → QAt K H' q c ns (b + 5) → Q v H'
theorem c_law_bent_hands (T : Txt K mg) : Cal prg w K mg base CX0 3 "_law_bent_hands" ["_law_saddle_here", "_law_houses_here", "_law_hands_here"] (sp_law_bent_hands K) := by
  refine T.d_law_bent_hands.cal sc_law_bent_hands (fun vs H Q E ⟨q, c, ns, b, t, xs, hs, r, ys, l, e, _⟩ => by rw [e]; rfl) fun f cdv A outer s H vs Q E hr h => ?_
  have nd := sc_law_bent_hands.nd
  obtain ⟨q, c, ns, b, t, xs, hs, r, ys, l, rfl, hq, hb, ct, ht, hE, l1, l4, cr, hrr, hA, hfine, kk⟩ := h
  refine ⟨_, PSs.nox (pss_cons (ps_par (i := 3) (j := 4) rfl nd rfl rfl (by decide) rfl rfl (pa_cons (pe_cl (c_law_ride T) (hr.mono (by decide)) pass0 (pa_cons (pv 0) (pa_cons pe_int pa_nil))) (pa_cons (pe_lc (own := [("_law_hand", 8)]) (tt := tYes) (g := gName 8) rfl nd (pi_seqF (pv 2)) (blkOk_by (own := [("_law_hand", 8)]) (N := ["_law_saddle_here", "_law_houses_here", "_law_hands_here", "_law_kind_here", "_law_rows", "_law_at", "_law_deal_here", "_law_step", "_law_hand", "_law_each"]) (sc := defScope s_law_bent_hands) (by decide +kernel)) (fun _ _ _ _ _ => (pg_name (i := 8) nd rfl (Or.inl rfl))) (fun _ _ _ _ _ => pts_nil) (fun _ _ _ _ _ => (pe_lc (own := [("_law_deal_here", 6)]) (tt := tYes) (g := gName 6) rfl nd (pi_seqFK (K := K) rfl (pv 8)) (blkOk_by (own := [("_law_deal_here", 6)]) (N := ["_law_saddle_here", "_law_houses_here", "_law_hands_here", "_law_kind_here", "_law_rows", "_law_at", "_law_deal_here", "_law_step", "_law_hand", "_law_each"]) (by rfl)) (fun _ _ _ _ _ => (pg_name (i := 6) nd rfl (Or.inl rfl))) (fun _ _ _ _ _ => pts_nil) (fun _ _ _ _ _ => (pe_lc (own := [("_law_step", 7)]) (tt := tYes) (g := gName 7) rfl nd (pi_seqFK (K := K) rfl (pv 6)) (blkOk_by (own := [("_law_step", 7)]) (N := ["_law_saddle_here", "_law_houses_here", "_law_hands_here", "_law_kind_here", "_law_rows", "_law_at", "_law_deal_here", "_law_step", "_law_hand", "_law_each"]) (by rfl)) (fun _ _ _ _ _ => (pg_name (i := 7) nd rfl (Or.inl rfl))) (fun _ _ _ _ _ => pts_nil) (fun _ _ _ _ _ => (pe_callTy (call_list_ofK (K := K) rfl) (by rfl) T.f_list (by decide +kernel) (pa_cons (pv 7) pa_nil)))))))) pa_nil)) (by rfl))
      (pss_cons (ps_set (i := 5) nd rfl (Or.inl rfl) (pe_cl (c_law_ride T) (hr.mono (by decide)) pass0 (pa_cons (pv 0) (pa_cons (pe_callB call_len_seq (by rfl) T.f_len (by decide +kernel) (pa_cons (pv 4) pa_nil)) pa_nil))))
      (pss_cons (ps_if (PW.pt (pw_or (pt_cmpR op_eq (pv 3) pe_int (nomark _)) (pw_or1 (pt_cmpR (op_eqNil hr.units) (pe_ix ix_list (pv 4) (pv 5) (fun _ _ => rfl)) (pe_lst pa_nil) (nomark _))))) (pss_one (ps_ret (pe_cl (c_law_pick T) (hr.mono (by decide)) pass0 (pa_cons (pv 0) (pa_cons (pe_lst (pa_cons pe_non (pa_cons pe_int (pa_cons (pe_lst pa_nil) (pa_cons pe_str (pa_cons pe_dnewK (pa_cons (pe_lst (pa_cons pe_non pa_nil)) (pa_cons (pe_lst (pa_cons (pe_lst (pa_cons (pe_lst pa_nil) pa_nil)) pa_nil)) (pa_cons (pe_lst (pa_cons (pe_lst (pa_cons (pe_lst (pa_cons (pe_tup (pa_cons pe_int (pa_cons pe_int (pa_cons pe_int pa_nil)))) pa_nil)) pa_nil)) pa_nil)) (pa_cons (pe_lst (pa_cons (pe_lst (pa_cons (pe_lst (pa_cons (pe_tup (pa_cons pe_int pa_nil)) pa_nil)) pa_nil)) pa_nil)) (pa_cons (pe_lst (pa_cons (pe_lst (pa_cons (pe_lst (pa_cons pe_int (pa_cons pe_int pa_nil))) pa_nil)) pa_nil)) (pa_cons (pe_lst (pa_cons (pe_lst pa_nil) pa_nil)) (pa_cons (pe_lst (pa_cons (pe_lst pa_nil) (pa_cons (pe_lst pa_nil) (pa_cons (pe_lst pa_nil) (pa_cons (pe_lst pa_nil) pa_nil))))) (pa_cons (pe_op op_rep (pe_lst (pa_cons (pe_lst pa_nil) pa_nil)) pe_int) pa_nil)))))))))))))) pa_nil))))) pss_nil)
      (pss_cons (ps_set (i := 6) nd rfl (Or.inl rfl) (pe_cl (c_law_ride T) (hr.mono (by decide)) pass0 (pa_cons (pv 0) (pa_cons (pe_callB call_len_seq (by rfl) T.f_len (by decide +kernel) (pa_cons (pe_ix ix_list (pv 4) (pv 5) (fun _ _ => rfl)) pa_nil)) pa_nil))))
      (pss_cons (ps_set (i := 7) nd rfl (Or.inl rfl) (pe_cl (c_law_ride T) (hr.mono (by decide)) pass0 (pa_cons (pv 0) (pa_cons (pe_callB call_len_seq (by rfl) T.f_len (by decide +kernel) (pa_cons (pe_ix ix_list (pe_ix ix_list (pv 4) (pv 5) (fun _ _ => rfl)) (pv 6) (fun _ _ => rfl)) pa_nil)) pa_nil))))
      (pss_cons (ps_if (pt_cmpR op_eq (pv 3) pe_int (nomark _)) (pss_one (ps_asg (pe_cl (c_law_pick T) (hr.mono (by decide)) pass0 (pa_cons (pv 0) (pa_cons (pe_lst (pa_cons (pe_lst (pa_cons (pe_un un_neg pe_int) (pa_cons pe_int pa_nil))) (pa_cons (pe_lst (pa_cons (pe_callB call_len_seq (by rfl) T.f_len (by decide +kernel) (pa_cons (pv 1) pa_nil)) (pa_cons pe_int pa_nil))) (pa_cons (pe_lst (pa_cons pe_int (pa_cons (pe_callB call_len_seq (by rfl) T.f_len (by decide +kernel) (pa_cons (pe_fld (pe_ix ix_list (pe_ix ix_list (pv 1) pe_int (fun _ _ => rfl)) pe_int (fun _ _ => rfl)) rfl) pa_nil)) pa_nil))) (pa_cons (pe_lst (pa_cons pe_int (pa_cons (pe_un un_neg pe_int) pa_nil))) (pa_cons (pe_lst (pa_cons pe_int (pa_cons pe_bl pa_nil))) (pa_cons (pe_lst (pa_cons pe_non (pa_cons pe_int pa_nil))) (pa_cons pe_non (pa_cons pe_str (pa_cons (pe_tup (pa_cons pe_int (pa_cons pe_int pa_nil))) pa_nil)))))))))) pa_nil))) (pg_sub (pe_ix ix_list (pe_ix ix_list (pv 4) (pv 5) (fun _ _ => rfl)) (pv 6) (fun _ _ => rfl)) (pv 7) set_list))) pss_nil)
      (pss_cons (ps_if (pt_cmpR op_eq (pv 3) pe_int (nomark _)) (pss_one (ps_asg (pe_cl (c_law_pick T) (hr.mono (by decide)) pass0 (pa_cons (pv 0) (pa_cons (pe_lst (pa_cons (pe_lst pa_nil) (pa_cons (pe_op op_rep (pe_ix ix_list (pe_ix ix_list (pv 4) (pv 5) (fun _ _ => rfl)) (pv 6) (fun _ _ => rfl)) pe_int) (pa_cons pe_non (pa_cons (pe_op op_cat (pe_ix ix_list (pe_ix ix_list (pv 4) (pv 5) (fun _ _ => rfl)) (pv 6) (fun _ _ => rfl)) (pe_op op_rep (pe_lst (pa_cons (pe_lst (pa_cons pe_int (pa_cons pe_int pa_nil))) pa_nil)) (pe_op op_sub pe_int (pe_callB call_len_seq (by rfl) T.f_len (by decide +kernel) (pa_cons (pe_ix ix_list (pe_ix ix_list (pv 4) (pv 5) (fun _ _ => rfl)) (pv 6) (fun _ _ => rfl)) pa_nil))))) (pa_cons (pe_op op_cat (pe_ix ix_list (pe_ix ix_list (pv 4) (pv 5) (fun _ _ => rfl)) (pv 6) (fun _ _ => rfl)) (pe_op op_rep (pe_lst (pa_cons (pe_lst (pa_cons pe_int (pa_cons pe_int pa_nil))) pa_nil)) (pe_op op_sub pe_int (pe_callB call_len_seq (by rfl) T.f_len (by decide +kernel) (pa_cons (pe_ix ix_list (pe_ix ix_list (pv 4) (pv 5) (fun _ _ => rfl)) (pv 6) (fun _ _ => rfl)) pa_nil))))) pa_nil)))))) pa_nil))) (pg_sub (pe_ix ix_list (pv 4) (pv 5) (fun _ _ => rfl)) (pv 6) set_list))) pss_nil)
      (pss_cons (ps_if (pt_cmpR op_eq (pv 3) pe_int (nomark _)) (pss_one (ps_asg (pe_op op_cat (pe_ix ix_list (pv 4) (pv 5) (fun _ _ => rfl)) (pe_op op_rep (pe_lst (pa_cons (pe_lst (pa_cons (pe_lst (pa_cons pe_int (pa_cons pe_int pa_nil))) pa_nil)) pa_nil)) (pe_op op_sub pe_int (pe_callB (cr_sum rfl) (by rfl) T.f_sum (by decide +kernel) (pa_cons (pe_lc (own := [("_law_hand", 8)]) (tt := tYes) (g := gName 8) rfl nd (pi_list (pv 4)) (blkOk_by (own := [("_law_hand", 8)]) (N := ["_law_saddle_here", "_law_houses_here", "_law_hands_here", "_law_kind_here", "_law_rows", "_law_at", "_law_deal_here", "_law_step", "_law_hand", "_law_each"]) (sc := defScope s_law_bent_hands) (by decide +kernel)) (fun _ _ _ _ _ => (pg_name (i := 8) nd rfl (Or.inl rfl))) (fun _ _ _ _ _ => pts_nil) (fun _ _ _ _ _ => (pe_callB (call_lenK (K := K) rfl) (by rfl) T.f_len (by decide +kernel) (pa_cons (pv 8) pa_nil)))) pa_nil))))) (pg_sub (pv 4) (pv 5) set_list))) pss_nil)
      (pss_cons (ps_if (pt_cmpR op_eq (pv 3) pe_int (nomark _)) (pss_one (ps_set (i := 4) nd rfl (Or.inl rfl) (pe_op op_cat (pv 4) (pe_op op_rep (pe_lst (pa_cons (pe_lst pa_nil) pa_nil)) (pe_op op_sub pe_int (pe_callB call_len_seq (by rfl) T.f_len (by decide +kernel) (pa_cons (pv 4) pa_nil))))))) pss_nil)
      (pss_cons (ps_if (pt_cmpR op_eq (pv 3) pe_int (nomark _)) (pss_one (ps_asg (pe_callTy (call_tupK (K := K) rfl) (by rfl) T.f_tuple (by decide +kernel) (pa_cons (pe_lc (own := [("_law_each", 9)]) (tt := tYes) (g := gName 9) rfl nd (pi_seqF (pe_ix ix_list (pv 4) (pv 5) (fun _ _ => rfl))) (blkOk_by (own := [("_law_each", 9)]) (N := ["_law_saddle_here", "_law_houses_here", "_law_hands_here", "_law_kind_here", "_law_rows", "_law_at", "_law_deal_here", "_law_step", "_law_hand", "_law_each"]) (sc := defScope s_law_bent_hands) (by decide +kernel)) (fun _ _ _ _ _ => (pg_name (i := 9) nd rfl (Or.inl rfl))) (fun _ _ _ _ _ => pts_nil) (fun _ _ _ _ _ => (pe_callTy (call_tupK (K := K) rfl) (by rfl) T.f_tuple (by decide +kernel) (pa_cons (pv 9) pa_nil)))) pa_nil)) (pg_sub (pv 4) (pv 5) set_list))) pss_nil)
      (pss_one (ps_ret (pv 4))))))))))))), ?_⟩
  obtain ⟨xq, hxq⟩ := hq.here
  have hqn : H q ≠ none := by rw [hxq]; exact fun z => by cases z
  obtain ⟨fl1, fl4, ftot, fdl⟩ := hfine
  have lys : ys.length = l.length := by rw [DpAll.length hA, List.length_map]
  refine cut_tseq (fun σ' G => ∃ (kh : Int) (R : Addr) (hns : List HnT), σ' = [some (.ref q), some (.ref t), some (.ref r), some (.int kh), some (.ref R), none, none, none, none, none] ∧ 0 ≤ kh ∧ kh < 7 ∧ (L3 K).at_ G (R, hns) ∧ ((L3 K).addrs (R, hns)).Nodup ∧ (∀ a ∈ (L3 K).addrs (R, hns), H a = none) ∧ hns.map shpH = l ∧ ExtP q H G ∧ QAt K G q c ns (b + 1)) (fun D1 k1 => ?_) fun σ' G1 ⟨kh, R, hns, eσ, kh0, kh7, hat, hnd, hnew, hshp, e1, hq1⟩ => ?_
  · dsimp only [tRet, tRetN, tSeq, tAsg, tOp, tVar, tC, tCB, tCons, tNil, tAndV, tOrV, tNotV, tAnd, tOr, tNot, tTest, tIf, tIfS, tB, tChain, tSl, tPart, tNoPart, tLst, tTup, tFld, tCl, tMt, tMk, gName, tNext, tBM, tBM0, tUn, tSub, tPar, tPar3, gTup, gCons, gNil, tDrop, tMkS, tM1, sFld, StX.tStar, tYes, gSub, cxOf, Cx.wish, Cx.nox, Cx.blk]
    refine ⟨_, rfl, q, c, ns, 7, b, rfl, hq, by omega, by decide, two9000 (by decide) (by decide), fun kh G0 kh0 kh7 e0 hq0 => ?_⟩
    have hr0 := e0 _ _ cr hrr
    have hA0 : DpAll K G0 ys (l.map handL) := DpAll.ext ((ExtP.dels e0).trans ext_del) hA
    refine ⟨_, rfl, true, r, ys, rfl, SqL.of hr0, fun R hR => ?_⟩
    refine turns_it (walk_seqF (K := K) (fl := true) (a := r) (xs := ys)) (fun i G => ∃ hns : List HnT, Forest (L2' K) G0 R G hns ∧ hns.map shpH = l.take i) ⟨[], Forest.nil hR, rfl⟩ (fun i G _ ⟨_, h, _⟩ => SqL.of ((h.ext.trans ext_del) _ _ hr0)) ?_ ?_
    · rintro i x G G' hi ⟨hns, hF, hsh⟩ ⟨rfl, hx1⟩
      have eG := hF.ext.trans ext_del
      obtain ⟨d1, hd1, hp1⟩ := DpAll.getV hA0 hx1
      rw [List.getElem?_map] at hd1
      obtain ⟨lh, hlh, rfl⟩ := Option.map_eq_some_iff.mp hd1
      obtain ⟨a1, zs1, rfl, hz1, hzA1⟩ := Dp.lstV hp1
      have lz1 : zs1.length = lh.length := by rw [DpAll.length hzA1, List.length_map]
      have hlm := List.mem_of_getElem? hlh
      have ltot : lh.length ≤ 8 := Nat.le_trans (mem_total hlm) ftot
      dsimp only [tRet, tRetN, tSeq, tAsg, tOp, tVar, tC, tCB, tCons, tNil, tAndV, tOrV, tNotV, tAnd, tOr, tNot, tTest, tIf, tIfS, tB, tChain, tSl, tPart, tNoPart, tLst, tTup, tFld, tCl, tMt, tMk, gName, tNext, tBM, tBM0, tUn, tSub, tPar, tPar3, gTup, gCons, gNil, tDrop, tMkS, tM1, sFld, StX.tStar, tYes, gSub, cxOf, Cx.wish, Cx.nox, Cx.blk]
      refine ⟨rfl, ?_⟩
      rw [if_pos (rfl : true = true)]
      refine ⟨_, rfl, true, a1, zs1, rfl, SqL.ext hz1 eG, fun D2 hD2 => ?_⟩
      refine turns_it (walk_seqF (K := K) (fl := true) (a := a1) (xs := zs1)) (fun j G3 => ∃ dls : List DlT, Forest (L1 K) G' D2 G3 dls ∧ dls.map shpD = lh.take j) ⟨[], Forest.nil hD2, rfl⟩ (fun j G3 _ ⟨_, h, _⟩ => SqL.ext hz1 (eG.trans (h.ext.trans ext_del))) ?_ ?_
      · rintro j x2 G3 G4 hj ⟨dls, hF2, hsh2⟩ ⟨rfl, hx2⟩
        have eG4 := hF2.ext.trans (ext_del (H := G4))
        obtain ⟨d2, hd2, hp2⟩ := DpAll.getV hzA1 hx2
        rw [List.getElem?_map] at hd2
        obtain ⟨ld, hld, rfl⟩ := Option.map_eq_some_iff.mp hd2
        obtain ⟨a2, zs2, rfl, hz2, hzA2⟩ := Dp.lstV hp2
        have lz2 : zs2.length = ld.length := by rw [DpAll.length hzA2, List.length_map]
        have hfd := fdl lh hlm ld (List.mem_of_getElem? hld)
        dsimp only [tRet, tRetN, tSeq, tAsg, tOp, tVar, tC, tCB, tCons, tNil, tAndV, tOrV, tNotV, tAnd, tOr, tNot, tTest, tIf, tIfS, tB, tChain, tSl, tPart, tNoPart, tLst, tTup, tFld, tCl, tMt, tMk, gName, tNext, tBM, tBM0, tUn, tSub, tPar, tPar3, gTup, gCons, gNil, tDrop, tMkS, tM1, sFld, StX.tStar, tYes, gSub, cxOf, Cx.wish, Cx.nox, Cx.blk]
        refine ⟨rfl, ?_⟩
        rw [if_pos (rfl : true = true)]
        refine ⟨_, rfl, true, a2, zs2, rfl, SqL.ext hz2 (eG.trans eG4), fun D3 hD3 => ?_⟩
        refine turns_it (walk_seqF (K := K) (fl := true) (a := a2) (xs := zs2)) (fun k G5 => ∃ sts : List StT, Forest (L0 K) G4 D3 G5 sts ∧ sts.map Prod.snd = ld.take k) ⟨[], Forest.nil hD3, rfl⟩ (fun k G5 _ ⟨_, h, _⟩ => SqL.ext hz2 (eG.trans (eG4.trans (h.ext.trans ext_del)))) ?_ ?_
        · rintro k x3 G5 G6 hk ⟨sts, hF3, hsh3⟩ ⟨rfl, hx3⟩
          obtain ⟨d3, hd3, hp3⟩ := DpAll.getV hzA2 hx3
          rw [List.getElem?_map] at hd3
          obtain ⟨st, hst, rfl⟩ := Option.map_eq_some_iff.mp hd3
          obtain ⟨a3, zs3, rfl, hz3, hzA3⟩ := Dp.lstV hp3
          obtain rfl : zs3 = [.int st.1, .int st.2] := by
            cases hzA3 with
            | cons p1 r =>
              cases r with
              | cons p2 r =>
                cases r
                rw [Dp.intV p1, Dp.intV p2]
          have eG6 := hF3.ext.trans (ext_del (H := G6))
          dsimp only [tRet, tRetN, tSeq, tAsg, tOp, tVar, tC, tCB, tCons, tNil, tAndV, tOrV, tNotV, tAnd, tOr, tNot, tTest, tIf, tIfS, tB, tChain, tSl, tPart, tNoPart, tLst, tTup, tFld, tCl, tMt, tMk, gName, tNext, tBM, tBM0, tUn, tSub, tPar, tPar3, gTup, gCons, gNil, tDrop, tMkS, tM1, sFld, StX.tStar, tYes, gSub, cxOf, Cx.wish, Cx.nox, Cx.blk]
          refine ⟨rfl, ?_⟩
          rw [if_pos (rfl : true = true)]
          refine ⟨_, rfl, a3, _, rfl, .inl (SqL.ext hz3 (eG.trans (eG4.trans eG6))), fun ln nl => ?_⟩
          have hadd := hF3.add (x := (ln, st)) (Ext.upd (o := HO.lst [.int st.1, .int st.2]) nl) (show (L0 K).at_ _ (ln, st) from upd_same) (by simp [L0]) (fun a ha => by cases List.mem_singleton.mp ha; exact nl)
          refine ⟨_, (Ext.upd nl) _ _ hF3.here, ?_, sts ++ [(ln, st)], hadd, ?_⟩
          · have := congrArg List.length hsh3
            rw [List.length_map, List.length_take] at this
            rw [List.length_map]
            have := hfd.2.1
            exact small_of (m := 60) (by omega)
          · rw [List.map_append, hsh3, List.take_succ, hst]
            rfl
        · rintro G5 ⟨sts, hF3, hsh3⟩
          rw [lz2, List.take_length] at hsh3
          obtain ⟨t1, t2, t3⟩ := hF3.done
          have eG5 := hF3.ext.trans (ext_del (H := G5))
          have hadd := hF2.add (x := (D3, sts)) eG5 t1 t2 t3
          refine ⟨_, eG5 _ _ hF2.here, ?_, dls ++ [(D3, sts)], hadd, ?_⟩
          · have := congrArg List.length hsh2
            rw [List.length_map, List.length_take] at this
            rw [List.length_map]
            exact small_of (m := 60) (by omega)
          · rw [List.map_append, hsh2, List.take_succ, hld]
            exact congrArg (fun z => lh.take j ++ [z]) hsh3
      · rintro G3 ⟨dls, hF2, hsh2⟩
        rw [lz1, List.take_length] at hsh2
        obtain ⟨t1, t2, t3⟩ := hF2.done
        have eG3 := hF2.ext.trans (ext_del (H := G3))
        have hadd := hF.add (x := (D2, dls)) eG3 t1 t2 t3
        refine ⟨_, eG3 _ _ hF.here, ?_, hns ++ [(D2, dls)], hadd, ?_⟩
        · have := congrArg List.length hsh
          rw [List.length_map, List.length_take] at this
          rw [List.length_map]
          exact small_of (m := 60) (by omega)
        · rw [List.map_append, hsh, List.take_succ, hlh]
          exact congrArg (fun z => l.take i ++ [z]) hsh2
    · rintro G ⟨hns, hF, hsh⟩
      rw [lys, List.take_length] at hsh
      obtain ⟨t1, t2, t3⟩ := hF.done
      have eG := hF.ext.trans (ext_del (H := G))
      refine ⟨_, _, rfl, k1 _ _ ⟨kh, R, hns, rfl, kh0, kh7, t1, t2, fun a ha => none_extP e0 (t3 a ha) (hq0.ne (t3 a ha)), hsh, e0.trans (ExtP.of eG), hq0.ext eG⟩⟩
  subst eσ
  have lhn : hns.length = l.length := by rw [← hshp, List.length_map]
  obtain ⟨hatR0, hatH⟩ := id hat
  have hatR : G1 R = some (.lst (hns.map fun y => V.ref y.1)) := hatR0
  refine cut_asg (fun v G => ∃ j : Nat, v = .int (j : Nat) ∧ j < hns.length ∧ ExtP q G1 G ∧ QAt K G q c ns (b + 2)) (fun Q1 k1 => ?_) fun v G2 ⟨j, ev, hj, e2, hq2⟩ => ?_
  · dsimp only [tRet, tRetN, tSeq, tAsg, tOp, tVar, tC, tCB, tCons, tNil, tAndV, tOrV, tNotV, tAnd, tOr, tNot, tTest, tIf, tIfS, tB, tChain, tSl, tPart, tNoPart, tLst, tTup, tFld, tCl, tMt, tMk, gName, tNext, tBM, tBM0, tUn, tSub, tPar, tPar3, gTup, gCons, gNil, tDrop, tMkS, tM1, sFld, StX.tStar, tYes, gSub, cxOf, Cx.wish, Cx.nox, Cx.blk]
    refine ⟨_, rfl, _, rfl, R, _, rfl, .inl (SqL.of hatR), q, c, ns, _, b + 1, rfl, hq1, by omega, by rw [List.length_map]; omega, two9000 (by rw [List.length_map]; omega) (by rw [List.length_map]; omega), fun r G r0 r1 e h => ?_⟩
    rw [List.length_map] at r1
    obtain ⟨j, rfl⟩ := Int.eq_ofNat_of_zero_le r0
    exact k1 _ _ ⟨j, rfl, by omega, e, h⟩
  subst ev
  have cq : ∀ a ∈ (L3 K).addrs (R, hns), a ≠ q := fun a ha z => hqn (by rw [← z]; exact hnew a ha)
  -- the tree stands at G2, the saddle aside
  have stand : ∀ {G : Hp}, ExtP q G1 G → (L3 K).at_ G (R, hns) := fun e => (L3 K).mono _ _ _ (fun a ha => by
    obtain ⟨zs, hz⟩ := (L3 K).some_ _ _ hat a ha
    rw [hz]
    exact e _ _ (cq a ha) hz) hat
  have hat2 := stand e2
  have hatR2 : G2 R = some (.lst (hns.map fun y => V.ref y.1)) := hat2.1
  obtain ⟨hn, hhn⟩ : ∃ h, hns[j]? = some h := ⟨hns[j], List.getElem?_eq_getElem hj⟩
  have hnm := List.mem_of_getElem? hhn
  obtain ⟨h1a0, h1b⟩ := hat2.2 hn hnm
  have h1a : G2 hn.1 = some (.lst (hn.2.map fun y => V.ref y.1)) := h1a0
  have hRat : atI (hns.map fun y => V.ref y.1) (j : Nat) = some (.ref hn.1) := atI_nat (by rw [List.getElem?_map, hhn]; rfl)
  have e12 : ExtP q H G2 := e1.trans e2
  have hg2q : G2 q ≠ none := by
    obtain ⟨y, hy⟩ := hq2.here
    rw [hy]
    exact fun z => by cases z
  have hRm : R ∈ (L3 K).addrs (R, hns) := List.mem_cons_self
  have ltot : hn.2.length ≤ 8 := by
    have z : shpH hn ∈ l := by rw [← hshp]; exact List.mem_map.mpr ⟨hn, hnm, rfl⟩
    have := mem_total z
    rw [shpH, List.length_map] at this
    omega
  refine cut_ifn (fun cc G => cc = (decide (kh = 0) || decide (hn.2 = [])) ∧ Ext G2 G) (fun Q1 k1 => ?_) fun cc G3 ⟨ec, e3⟩ => ?_
  · dsimp only [tRet, tRetN, tSeq, tAsg, tOp, tVar, tC, tCB, tCons, tNil, tAndV, tOrV, tNotV, tAnd, tOr, tNot, tTest, tIf, tIfS, tB, tChain, tSl, tPart, tNoPart, tLst, tTup, tFld, tCl, tMt, tMk, gName, tNext, tBM, tBM0, tUn, tSub, tPar, tPar3, gTup, gCons, gNil, tDrop, tMkS, tM1, sFld, StX.tStar, tYes, gSub, cxOf, Cx.wish, Cx.nox, Cx.blk]
    refine ⟨_, rfl, rfl, _, rfl, ?_⟩
    rw [dec_int]
    by_cases c0 : kh = 0
    · exact if_t (by simp [c0]) (k1 _ _ ⟨by simp [c0], Ext.rfl'⟩)
    · refine if_f (by simp [c0]) ⟨_, rfl, _, rfl, R, _, _, .ref hn.1, rfl, rfl, SqL.of hatR2, hRat, Nat.zero_le _, fun p np => ⟨hn.1, p, _, rfl, rfl, SqL.of (Ext.upd np _ _ h1a), SqL.of upd_same, _, rfl, k1 _ _ ⟨?_, Ext.upd np⟩⟩⟩
      rw [decide_eq_false c0, Bool.false_or, Bool.eq_iff_iff]
      simp
  have hq3 := hq2.ext e3
  have e13 : ExtP q H G3 := e12.trans (ExtP.of e3)
  have hat3 := stand (e2.trans (ExtP.of e3))
  cases hcc : (decide (kh = 0) || decide (hn.2 = [])) with
  | true =>
    rw [hcc] at ec
    subst ec
    refine if_t rfl ⟨_, rfl, ?_⟩
    show tLst _ _ _ _
    refine gl_list (K := K) (ds := [.none, .int 5, .list [], .str "0", .dict [], .list [.none], .list [.list [.list []]], .list [.list [.list [.tuple [.int 0, .int 0, .int 0]]]], .list [.list [.list [.tuple [.int 0]]]], .list [.list [.list [.int 0, .int 0]]], .list [.list []], .list [.list [], .list [], .list [], .list []], .list [.list [], .list [], .list [], .list [], .list []]]) ?_ fun lo us G5 e5 nl hl lu hA5 => ?_
    · repeat (first | exact gls_nil | refine gls_cons ?_ ?_ | exact gl_v gv_dict rfl | exact gl_v (gv_d gd_int) rfl | exact gl_v (gv_d gd_non) rfl | exact gl_v (gv_d gd_str) rfl | exact gl_rep5 | exact gds_nil | exact gd_int | exact gd_non | refine gl_lst ?_ (by decide) | refine gds_cons ?_ ?_ | refine gd_lst ?_ (by decide) | refine gd_tup ?_ (by decide))
    · have clo : lo ≠ q := hq3.ne nl
      refine ⟨q, c, ns, lo, us, b + 2, rfl, hq3.ext e5, by omega, fun H' e => SqL.of (e _ _ clo hl), by rw [lu]; decide, by rw [lu]; decide, fun i v G6 hv e6 hq6 => ?_⟩
      obtain ⟨d, hd, hok1, hok2⟩ := hA5 i v hv
      have g3q : G3 q ≠ none := by
        obtain ⟨y, hy⟩ := hq3.here
        rw [hy]
        exact fun z => by cases z
      refine kk v d G6 (e13.trans ((ExtP.of e5).trans e6)) (Vd.ext (fun b o hb => ?_) hok1) (fun hds => ?_) (hq6.mono (by omega))
      · obtain ⟨x1, x2⟩ := Ow.nw_some hb
        have cb : b ≠ q := fun z => g3q (by rw [← z]; exact x1)
        rw [del_ne cb]
        exact e6 _ _ cb x2
      · obtain ⟨a, zs, rfl, x1, x2⟩ := hok2 hds
        have ca : a ≠ q := hq3.ne x1
        exact ⟨a, zs, rfl, none_extP e13 x1 ca, ca, e6 _ _ ca x2⟩
  | false =>
    rw [hcc] at ec
    subst ec
    refine if_f rfl ?_
    simp only [Bool.or_eq_false_iff, decide_eq_false_iff_not] at hcc
    obtain ⟨kh1, hne⟩ := hcc
    have hpos : 0 < hn.2.length := List.length_pos_iff.mpr hne
    have hatR3 : G3 R = some (.lst (hns.map fun y => V.ref y.1)) := hat3.1
    have h1a3 : G3 hn.1 = some (.lst (hn.2.map fun y => V.ref y.1)) := (hat3.2 hn hnm).1
    refine cut_asg (fun v G => ∃ k : Nat, v = .int (k : Nat) ∧ k < hn.2.length ∧ ExtP q G3 G ∧ QAt K G q c ns (b + 3)) (fun Q1 k1 => ?_) fun v G4 ⟨k, ev, hk, e4, hq4⟩ => ?_
    · dsimp only [tRet, tRetN, tSeq, tAsg, tOp, tVar, tC, tCB, tCons, tNil, tAndV, tOrV, tNotV, tAnd, tOr, tNot, tTest, tIf, tIfS, tB, tChain, tSl, tPart, tNoPart, tLst, tTup, tFld, tCl, tMt, tMk, gName, tNext, tBM, tBM0, tUn, tSub, tPar, tPar3, gTup, gCons, gNil, tDrop, tMkS, tM1, sFld, StX.tStar, tYes, gSub, cxOf, Cx.wish, Cx.nox, Cx.blk]
      refine ⟨_, rfl, _, rfl, _, rfl, R, _, _, .ref hn.1, rfl, rfl, SqL.of hatR3, hRat, hn.1, _, rfl, .inl (SqL.of h1a3), q, c, ns, _, b + 2, rfl, hq3, by omega, by rw [List.length_map]; omega, two9000 (by rw [List.length_map]; omega) (by rw [List.length_map]; omega), fun r G r0 r1 e h => ?_⟩
      rw [List.length_map] at r1
      obtain ⟨k, rfl⟩ := Int.eq_ofNat_of_zero_le r0
      exact k1 _ _ ⟨k, rfl, by omega, e, h⟩
    subst ev
    have e24 : ExtP q G1 G4 := (e2.trans (ExtP.of e3)).trans e4
    have hat4 := stand e24
    obtain ⟨dl, hdl⟩ : ∃ h, hn.2[k]? = some h := ⟨hn.2[k], List.getElem?_eq_getElem hk⟩
    have hdm := List.mem_of_getElem? hdl
    have hfd : fineDeal (shpD dl) := fdl (shpH hn) (by rw [← hshp]; exact List.mem_map.mpr ⟨hn, hnm, rfl⟩) _ (List.mem_map.mpr ⟨dl, hdm, rfl⟩)
    have hdl1 : 1 ≤ dl.2.length ∧ dl.2.length ≤ 6 := by
      have h1 := hfd.1
      have h2 := hfd.2.1
      rw [shpD, List.length_map] at h1 h2
      exact ⟨h1, h2⟩
    have hatR4 : G4 R = some (.lst (hns.map fun y => V.ref y.1)) := hat4.1
    have h1a4 : G4 hn.1 = some (.lst (hn.2.map fun y => V.ref y.1)) := (hat4.2 hn hnm).1
    have h2a4 : G4 dl.1 = some (.lst (dl.2.map fun y => V.ref y.1)) := ((hat4.2 hn hnm).2 dl hdm).1
    have hDat : atI (hn.2.map fun y => V.ref y.1) (k : Nat) = some (.ref dl.1) := atI_nat (by rw [List.getElem?_map, hdl]; rfl)
    refine cut_asg (fun v G => ∃ m : Nat, v = .int (m : Nat) ∧ m < dl.2.length ∧ ExtP q G4 G ∧ QAt K G q c ns (b + 4)) (fun Q1 k1 => ?_) fun v G5 ⟨m, ev, hm, e5, hq5⟩ => ?_
    · dsimp only [tRet, tRetN, tSeq, tAsg, tOp, tVar, tC, tCB, tCons, tNil, tAndV, tOrV, tNotV, tAnd, tOr, tNot, tTest, tIf, tIfS, tB, tChain, tSl, tPart, tNoPart, tLst, tTup, tFld, tCl, tMt, tMk, gName, tNext, tBM, tBM0, tUn, tSub, tPar, tPar3, gTup, gCons, gNil, tDrop, tMkS, tM1, sFld, StX.tStar, tYes, gSub, cxOf, Cx.wish, Cx.nox, Cx.blk]
      refine ⟨_, rfl, _, rfl, _, rfl, R, _, _, .ref hn.1, rfl, rfl, SqL.of hatR4, hRat, _, rfl, hn.1, _, _, .ref dl.1, rfl, rfl, SqL.of h1a4, hDat, dl.1, _, rfl, .inl (SqL.of h2a4), q, c, ns, _, b + 3, rfl, hq4, by omega, by rw [List.length_map]; omega, two9000 (by rw [List.length_map]; omega) (by rw [List.length_map]; omega), fun r G r0 r1 e h => ?_⟩
      rw [List.length_map] at r1
      obtain ⟨m, rfl⟩ := Int.eq_ofNat_of_zero_le r0
      exact k1 _ _ ⟨m, rfl, by omega, e, h⟩
    subst ev
    have e25 : ExtP q G1 G5 := e24.trans e5
    have eH5 : ExtP q H G5 := (e13.trans e4).trans e5
    have hat5 := stand e25
    have hatR5 : G5 R = some (.lst (hns.map fun y => V.ref y.1)) := hat5.1
    have h1a5 : G5 hn.1 = some (.lst (hn.2.map fun y => V.ref y.1)) := (hat5.2 hn hnm).1
    have h2a5 : G5 dl.1 = some (.lst (dl.2.map fun y => V.ref y.1)) := ((hat5.2 hn hnm).2 dl hdm).1
    have g5q : G5 q ≠ none := by
      obtain ⟨y, hy⟩ := hq5.here
      rw [hy]
      exact fun z => by cases z
    have hnhm : hn.1 ∈ (L3 K).addrs (R, hns) := List.mem_cons_of_mem _ (List.mem_flatMap.mpr ⟨hn, hnm, List.mem_cons_self⟩)
    have hdlh : ∀ a ∈ (L1 K).addrs dl, a ∈ (L2' K).addrs hn := fun a ha => List.mem_cons_of_mem _ (List.mem_flatMap.mpr ⟨dl, hdm, ha⟩)
    have hnR : ∀ a ∈ (L2' K).addrs hn, a ∈ (L3 K).addrs (R, hns) := fun a ha => List.mem_cons_of_mem _ (List.mem_flatMap.mpr ⟨hn, hnm, ha⟩)
    have hdlm : dl.1 ∈ (L3 K).addrs (R, hns) := hnR _ (hdlh _ List.mem_cons_self)
    have ndh : ((L2' K).addrs hn).Nodup := nd_sub (List.nodup_cons.mp hnd).2 hnm
    have ndd : ((L1 K).addrs dl).Nodup := nd_sub (List.nodup_cons.mp ndh).2 hdm
    -- the tree, the saddle aside
    have atP : ∀ {G : Hp}, ExtP q G5 G → (L3 K).at_ (L2.del G q) (R, hns) := fun e => (L3 K).mono _ _ _ (fun a ha => del_ne (cq a ha)) (stand (e25.trans e))
    have fin : ∀ (G6 : Hp) (a : Addr) (ws : List V) (d : PyData), ExtP q G5 G6 → QAt K G6 q c ns (b + 5) → a ∈ (L3 K).addrs (R, hns) → Dp K (upd (L2.del G6 q) a (.lst ws)) (.ref R) d → Q (.ref R) (upd G6 a (.lst ws)) := fun G6 a ws d e6 hq6 ha hd => by
      have ea : ExtP q H (upd G6 a (.lst ws)) := fun o u ho eo => by
        rw [upd_ne (ne_of_none eo (hnew a ha))]
        exact (eH5.trans e6) o u ho eo
      refine kk (.ref R) d _ ea (.of (by rw [del_updne (cq a ha)]; exact hd)) (fun _ => ?_) (hq.but (eH5.trans e6) hq6 (hnew a ha))
      by_cases cR : R = a
      · exact ⟨R, ws, rfl, hnew R hRm, cq R hRm, by rw [cR, upd_same]⟩
      · exact ⟨R, _, rfl, hnew R hRm, cq R hRm, by rw [upd_ne cR]; exact (stand (e25.trans e6)).1⟩
    have hcase : kh = 1 ∨ kh = 2 ∨ kh = 3 ∨ kh = 4 ∨ kh = 5 ∨ kh = 6 := by omega
    have ht5 : G5 t = some (.lst xs) := eH5 _ _ ct ht
    have hRat5 := hRat
    -- one list of the tree changed, told up to R
    have upD : ∀ {G7 : Hp} (e57 : ExtP q G5 G7) {ws : List V} {dv : PyData}, Dp K (upd (L2.del G7 q) dl.1 (.lst ws)) (.ref dl.1) dv → ∃ d, Dp K (upd (L2.del G7 q) dl.1 (.lst ws)) (.ref R) d := fun {G7} e57 {ws dv} hv => by
      have h2 := tree_sub (L := L1 K) (a := hn.1) (xs := hn.2) (j := k) (x := dl) ((atP e57).2 hn hnm) ndh hdl (G2 := upd (L2.del G7 q) dl.1 (.lst ws)) (fun b hb _ => upd_ne (fun z => hb (by rw [z]; exact List.mem_cons_self))) hv
      exact ⟨_, tree_sub (L := L2' K) (a := R) (xs := hns) (j := j) (x := hn) (atP e57) hnd hhn (fun b hb _ => upd_ne (fun z => hb (by rw [z]; exact hdlh _ List.mem_cons_self))) h2⟩
    have upH : ∀ {G7 : Hp} (e57 : ExtP q G5 G7) {ws : List V} {dv : PyData}, Dp K (upd (L2.del G7 q) hn.1 (.lst ws)) (.ref hn.1) dv → ∃ d, Dp K (upd (L2.del G7 q) hn.1 (.lst ws)) (.ref R) d := fun {G7} e57 {ws dv} hv =>
      ⟨_, tree_sub (L := L2' K) (a := R) (xs := hns) (j := j) (x := hn) (atP e57) hnd hhn (fun b hb _ => upd_ne (fun z => hb (by rw [z]; exact List.mem_cons_self))) hv⟩
    -- what is new, after the pick, one list of the tree changed
    have newP : ∀ {G6 G7 : Hp} {a : Addr} {o : HO}, ExtP q G6 G7 → G5 a ≠ none → Ext (Ow.nw G5 G6) (upd (L2.del G7 q) a o) := fun {G6 G7 a o} e6 ha b u hb => by
      obtain ⟨x1, x2⟩ := Ow.nw_some hb
      have cb : b ≠ q := fun z => g5q (by rw [← z]; exact x1)
      rw [upd_ne (fun z => ha (by rw [← z]; exact x1)), del_ne cb]
      exact e6 _ _ cb x2
    have h2n : G5 dl.1 ≠ none := by rw [h2a5]; exact fun z => by cases z
    have h1n : G5 hn.1 ≠ none := by rw [h1a5]; exact fun z => by cases z
    have hRn : G5 R ≠ none := by rw [hatR5]; exact fun z => by cases z
    rcases hcase with rfl | rfl | rfl | rfl | rfl | rfl
    · refine take_eq rfl ⟨_, rfl, ?_⟩
      show tLst _ _ _ _
      have hx0 : 0 < xs.length := by rw [hE.1]; omega
      obtain ⟨hd0, hhd0, a0, ka, tv, ex0, ha0, hka0, _, hf0⟩ := hE.2 0 xs[0] (List.getElem?_eq_getElem hx0)
      have ca0 : a0 ≠ q := fun z => by rw [z, del_same] at ha0; cases ha0
      have ha05 : G5 a0 = some (.lst [.ref ka, .str hd0.2.1, tv]) := by
        rw [del_ne ca0] at ha0
        exact eH5 _ _ ca0 (ext_del _ _ ha0)
      have hka5 : KindAt K G5 ka hd0.1 := hka0.ext (fun b o hb => by
        have cb : b ≠ q := fun z => by rw [z, del_same] at hb; cases hb
        rw [del_ne cb] at hb
        exact eH5 _ _ cb (ext_del _ _ hb))
      refine ge_list (K := K) (n := 9) (ges_cons (ge_d (gd_lst (ds := [.int (-1), .int 0]) (gds_cons gd_neg (gds_cons gd_int gds_nil)))) (ges_cons (ge_lst (n := 2) (ges_cons ?_ (ges_cons (ge_d gd_int) ges_nil))) (ges_cons (ge_lst (n := 2) (ges_cons (ge_d gd_int) (ges_cons ?_ ges_nil))) (ges_cons (ge_d (gd_lst (ds := [.int 0, .int (-1)]) (gds_cons gd_int (gds_cons gd_neg gds_nil)))) (ges_cons (ge_d (gd_lst (ds := [.int 0, .bool true]) (gds_cons gd_int (gds_cons gd_bl gds_nil)))) (ges_cons (ge_d (gd_lst (ds := [.none, .int 0]) (gds_cons gd_non (gds_cons gd_int gds_nil)))) (ges_cons (ge_d gd_non) (ges_cons (ge_d gd_str) (ges_cons (ge_d (gd_tup (ds := [.int 0, .int 0]) (gds_cons gd_int (gds_cons gd_int gds_nil)))) ges_nil))))))))) fun lo us G6 e6 nl hl lu ⟨ds, hds⟩ => ?_
      · exact fun H1 Q1 e q1 => ⟨_, rfl, t, xs, rfl, .inl (SqL.of (e _ _ ht5)), q1 _ _ Ext.rfl' ⟨_, .int _⟩⟩
      · intro H1 Q1 e q1
        obtain ⟨dx, p1, p2, p3, p4, p5, hp, h1, _⟩ := hka5.ext e
        refine ⟨_, rfl, t, xs, 0, .ref a0, rfl, rfl, SqL.of (e _ _ ht5), atI_nat (j := 0) (by rw [List.getElem?_eq_getElem hx0, ex0]), a0, _, 0, .ref ka, rfl, rfl, SqL.of (e _ _ ha05), at0, ka, _, dx, _, _, rfl, hp, T.cl_Kind, T.na_Kind_asks, rfl, p1, _, rfl, .inr h1, q1 _ _ Ext.rfl' ⟨_, .int _⟩⟩
      · have clo : lo ≠ q := hq5.ne nl
        refine ⟨q, c, ns, lo, us, b + 4, rfl, hq5.ext e6, by omega, fun H' e => SqL.of (e _ _ clo hl), by omega, by omega, fun i v G7 hv e7 hq7 => ?_⟩
        obtain ⟨dv, _, hdv⟩ := DpAll.getV hds hv
        have e57 : ExtP q G5 G7 := (ExtP.of e6).trans e7
        have hat7 := stand (e25.trans e57)
        have hatR7 : G7 R = some (.lst (hns.map fun y => V.ref y.1)) := hat7.1
        have h1a7 : G7 hn.1 = some (.lst (hn.2.map fun y => V.ref y.1)) := (hat7.2 hn hnm).1
        have h2a7 : G7 dl.1 = some (.lst (dl.2.map fun y => V.ref y.1)) := ((hat7.2 hn hnm).2 dl hdm).1
        refine ⟨_, rfl, _, rfl, R, _, _, .ref hn.1, rfl, rfl, SqL.of hatR7, hRat, _, rfl, hn.1, _, _, .ref dl.1, rfl, rfl, SqL.of h1a7, hDat, _, rfl, dl.1, _, _, m, rfl, rfl, h2a7, (by rw [ixN, if_pos (by omega), List.length_map, if_pos (by omega)]; rfl), ?_⟩
        have hput := tree_put (L := L0 K) (a := dl.1) (xs := dl.2) (j := m) (((atP e57).2 hn hnm).2 dl hdm) ndd (Dp.ext (newP e7 h2n) hdv)
        obtain ⟨d, hd⟩ := upD e57 hput
        exact skip_eq rfl (by decide) (skip_eq rfl (by decide) (skip_eq rfl (by decide) (skip_eq rfl (by decide) ⟨_, rfl, fin G7 dl.1 _ d e57 hq7 hdlm hd⟩)))
    · refine skip_eq rfl (by decide) (take_eq rfl ⟨_, rfl, ?_⟩)
      show tLst _ _ _ _
      have hnl : hn.1 ∉ (L1 K).addrs dl := fun z => (List.nodup_cons.mp ndh).1 (List.mem_flatMap.mpr ⟨dl, hdm, z⟩)
      refine cut_te (fun v G => ∃ lo p1 p2 p3 p4 a a2 n3 n4, v = .ref lo ∧ Ext G5 G ∧ G5 lo = none ∧ G lo = some (.lst [.ref p1, .ref p2, .non, .ref p3, .ref p4]) ∧ (G5 p1 = none ∧ G p1 = some (.lst [])) ∧ (G5 p2 = none ∧ G p2 = some (.lst (List.replicate 6 (dl.2.map fun y => V.ref y.1)).flatten)) ∧ (G5 p3 = none ∧ G p3 = some (.lst ((dl.2.map fun y => V.ref y.1) ++ (List.replicate n3 [V.ref a]).flatten))) ∧ (G5 p4 = none ∧ G p4 = some (.lst ((dl.2.map fun y => V.ref y.1) ++ (List.replicate n4 [V.ref a2]).flatten))) ∧ (G5 a = none ∧ G a = some (.lst [.int 0, .int 0])) ∧ (G5 a2 = none ∧ G a2 = some (.lst [.int 0, .int 0]))) (fun Q1 k1 => ?_) fun v G6 ⟨lo, p1, p2, p3, p4, a, a2, n3, n4, ev, e6, nl, hl, ⟨m1, b1⟩, ⟨m2, b2⟩, ⟨m3, b3⟩, ⟨m4, b4⟩, ⟨ma, ba⟩, ma2, ba2⟩ => ?_
      · dsimp only [tRet, tRetN, tSeq, tAsg, tOp, tVar, tC, tCB, tCons, tNil, tAndV, tOrV, tNotV, tAnd, tOr, tNot, tTest, tIf, tIfS, tB, tChain, tSl, tPart, tNoPart, tLst, tTup, tFld, tCl, tMt, tMk, gName, tNext, tBM, tBM0, tUn, tSub, tPar, tPar3, gTup, gCons, gNil, tDrop, tMkS, tM1, sFld, StX.tStar, tYes, gSub, cxOf, Cx.wish, Cx.nox, Cx.blk]
        refine ⟨Nat.zero_le _, fun p1 x1 => ?_⟩
        have y1 := Ext.upd (o := HO.lst []) x1
        refine ⟨_, rfl, _, rfl, R, _, _, .ref hn.1, rfl, rfl, SqL.of (y1 _ _ hatR5), hRat, _, rfl, hn.1, _, _, .ref dl.1, rfl, rfl, SqL.of (y1 _ _ h1a5), hDat, dl.1, 6, _, rfl, rfl, y1 _ _ h2a5, by decide, by decide, ?_, fun p2 x2 => ?_⟩
        · rw [List.length_map]
          exact Nat.le_of_lt (small_of (m := 60) (by show dl.2.length * 6 ≤ 60; omega))
        have y2 := y1.trans (Ext.upd (o := HO.lst (List.replicate 6 (dl.2.map fun y => V.ref y.1)).flatten) x2)
        -- deal + [[0, 0]] * (c - len(deal)), in any heap behind
        have more : ∀ (G : Hp) (cc : Int) (Q2 : VK), 0 ≤ cc → cc ≤ 10 → Ext G5 G → (∀ (p3 a : Addr) (n3 : Nat) (G' : Hp), Ext G G' → G p3 = none → G a = none → G' a = some (.lst [.int 0, .int 0]) → G' p3 = some (.lst ((dl.2.map fun y => V.ref y.1) ++ (List.replicate n3 [V.ref a]).flatten)) → Q2 (.ref p3) G') →
            tOp rCat (tOp (rIxL K) (tOp (rIxL K) (tVar 4) (tVar 5)) (tVar 6)) (tOp rRep (tLst (tCons (tLst (tCons (tC (.int 0)) (tCons (tC (.int 0)) tNil))) tNil)) (tOp (rI0 fun i j => .int (i - j)) (tC (.int cc)) (tCB (fun xs H Q => ∃ p ys, xs = [.ref p] ∧ (SqL K H p ys ∨ SqT K H p ys) ∧ Q (.int ys.length) H) (tCons (tOp (rIxL K) (tOp (rIxL K) (tVar 4) (tVar 5)) (tVar 6)) tNil)))) [some (.ref q), some (.ref t), some (.ref r), some (.int 2), some (.ref R), some (.int (j : Nat)), some (.int (k : Nat)), some (.int (m : Nat)), none, none] G Q2 := by
          intro G cc Q2 c0 c10 eG kq
          refine ⟨_, rfl, _, rfl, R, _, _, .ref hn.1, rfl, rfl, SqL.of (eG _ _ hatR5), hRat, _, rfl, hn.1, _, _, .ref dl.1, rfl, rfl, SqL.of (eG _ _ h1a5), hDat, by show 2 ≤ sizeLine; decide, fun a na => ⟨by show 1 ≤ sizeLine; decide, fun p np => ?_⟩⟩
          have za := Ext.upd (o := HO.lst [V.int 0, V.int 0]) na
          have zp := Ext.upd (o := HO.lst [V.ref a]) np
          have zz := eG.trans (za.trans zp)
          refine ⟨_, rfl, _, rfl, R, _, _, .ref hn.1, rfl, rfl, SqL.of (zz _ _ hatR5), hRat, _, rfl, hn.1, _, _, .ref dl.1, rfl, rfl, SqL.of (zz _ _ h1a5), hDat, dl.1, _, rfl, .inl (SqL.of (zz _ _ h2a5)), _, _, rfl, rfl, ?_⟩
          rw [List.length_map]
          refine ⟨p, _, _, rfl, rfl, upd_same, by omega, by omega, Nat.le_of_lt (small_of (m := 60) (by show 1 * _ ≤ 60; omega)), fun p5 n5 => ?_⟩
          have hn10 : (cc - (dl.2.length : Int)).toNat ≤ 10 := by omega
          generalize (cc - (dl.2.length : Int)).toNat = nn at hn10 n5 ⊢
          have z5 := Ext.upd (o := HO.lst (List.replicate nn [V.ref a]).flatten) n5
          refine ⟨dl.1, p5, _, _, rfl, rfl, (zz.trans z5) _ _ h2a5, upd_same, ?_, fun p3 n3 => kq p3 a nn _ (za.trans (zp.trans (z5.trans (Ext.upd n3)))) (none_of (za.trans (zp.trans z5)) n3) na ((zp.trans (z5.trans (Ext.upd n3))) _ _ upd_same) upd_same⟩
          rw [List.length_map, List.flatten_replicate_singleton, List.length_replicate]
          exact Nat.le_of_lt (small_of (m := 60) (by omega))
        refine more _ 6 _ (by decide) (by decide) y2 fun p3 a n3 G3' e3' x3 xa ba b3 => ?_
        refine more _ 7 _ (by decide) (by decide) (y2.trans e3') fun p4 a2 n4 G4' e4' x4 xa2 ba2 b4 => ?_
        refine ⟨by show 5 ≤ sizeLine; decide, fun lo nlo => ?_⟩
        have elo := Ext.upd (o := HO.lst [.ref p1, .ref p2, .non, .ref p3, .ref p4]) nlo
        have y4 := y2.trans (e3'.trans e4')
        exact k1 _ _ ⟨lo, p1, p2, p3, p4, a, a2, n3, n4, rfl, y4.trans elo, none_of y4 nlo, upd_same, ⟨x1, ((Ext.upd x2).trans (e3'.trans (e4'.trans elo))) _ _ upd_same⟩, ⟨none_of y1 x2, (e3'.trans (e4'.trans elo)) _ _ upd_same⟩, ⟨none_of y2 x3, (e4'.trans elo) _ _ b3⟩, ⟨none_of (y2.trans e3') x4, elo _ _ b4⟩, ⟨none_of y2 xa, (e4'.trans elo) _ _ ba⟩, none_of (y2.trans e3') xa2, elo _ _ ba2⟩
      · subst ev
        have clo : lo ≠ q := hq5.ne nl
        refine ⟨q, c, ns, lo, _, b + 4, rfl, hq5.ext e6, by omega, fun H' e => SqL.of (e _ _ clo hl), by show 0 < 5; decide, by show 5 ≤ 1000; decide, fun i v G7 hv e7 hq7 => ?_⟩
        have e57 : ExtP q G5 G7 := (ExtP.of e6).trans e7
        have hat7 := stand (e25.trans e57)
        have hatR7 : G7 R = some (.lst (hns.map fun y => V.ref y.1)) := hat7.1
        have h1a7 : G7 hn.1 = some (.lst (hn.2.map fun y => V.ref y.1)) := (hat7.2 hn hnm).1
        have nwP : ∀ {b : Addr} {o : HO} {o2 : HO}, G5 b = none → G6 b = some o → upd (L2.del G7 q) hn.1 o2 b = some o := fun {b o o2} h1 h2 => by
          rw [upd_ne (fun z => h1n (by rw [← z]; exact h1)), del_ne (hq5.ne h1)]
          exact e7 _ _ (hq5.ne h1) h2
        have steps : ∀ o2, DpAll K (upd (L2.del G7 q) hn.1 o2) (dl.2.map fun y => V.ref y.1) (dl.2.map (L0 K).dat) := fun o2 => dp_refs (L0 K) fun y hy => (L0 K).mono y _ _ (fun b hb => upd_ne (fun z => hnl (by rw [← z]; exact List.mem_cons_of_mem _ (List.mem_flatMap.mpr ⟨y, hy, hb⟩)))) ((((atP e57).2 hn hnm).2 dl hdm).2 y hy)
        have hval : ∃ dv, ∀ o2, Dp K (upd (L2.del G7 q) hn.1 o2) v dv := by
          match i, hv with
          | 0, hv => cases hv; exact ⟨.list [], fun o2 => .lst (SqL.of (nwP m1 b1)) .nil⟩
          | 1, hv => cases hv; exact ⟨_, fun o2 => .lst (SqL.of (nwP m2 b2)) (flat_dp (steps o2) 6)⟩
          | 2, hv => cases hv; exact ⟨.none, fun o2 => .non⟩
          | 3, hv => cases hv; exact ⟨_, fun o2 => .lst (SqL.of (nwP m3 b3)) (DpAll.app (steps o2) (flat_dp (Ow.DpAll.one (.lst (SqL.of (nwP ma ba)) (.cons (.int 0) (.cons (.int 0) .nil)))) n3))⟩
          | 4, hv => cases hv; exact ⟨_, fun o2 => .lst (SqL.of (nwP m4 b4)) (DpAll.app (steps o2) (flat_dp (Ow.DpAll.one (.lst (SqL.of (nwP ma2 ba2)) (.cons (.int 0) (.cons (.int 0) .nil)))) n4))⟩
        obtain ⟨dv, hdv⟩ := hval
        refine ⟨_, rfl, _, rfl, R, _, _, .ref hn.1, rfl, rfl, SqL.of hatR7, hRat, _, rfl, hn.1, _, _, k, rfl, rfl, h1a7, (by rw [ixN, if_pos (by omega), List.length_map, if_pos (by omega)]; rfl), ?_⟩
        have hput := tree_put (L := L1 K) (a := hn.1) (xs := hn.2) (j := k) ((atP e57).2 hn hnm) ndh (hdv _)
        obtain ⟨d, hd⟩ := upH e57 hput
        exact skip_eq rfl (by decide) (skip_eq rfl (by decide) (skip_eq rfl (by decide) ⟨_, rfl, fin G7 hn.1 _ d e57 hq7 hnhm hd⟩))
    · refine skip_eq rfl (by decide) (skip_eq rfl (by decide) (take_eq rfl ?_))
      show tOp rCat _ _ _ _ _
      have hnl : R ∉ (L2' K).addrs hn := fun z => (List.nodup_cons.mp hnd).1 (List.mem_flatMap.mpr ⟨hn, hnm, z⟩)
      refine cut_te (fun v G => ∃ r0 a a' n, v = .ref r0 ∧ Ext G5 G ∧ G5 r0 = none ∧ G5 a = none ∧ G5 a' = none ∧ G a = some (.lst [.ref a']) ∧ G a' = some (.lst [.int 0, .int 0]) ∧ G r0 = some (.lst ((hn.2.map fun y => V.ref y.1) ++ List.replicate n (V.ref a)))) (fun Q1 k1 => ?_) fun v G6 ⟨r0, a, a', n, ev, e6, nr, na, na', hae, hae', hr0⟩ => ?_
      · dsimp only [tRet, tRetN, tSeq, tAsg, tOp, tVar, tC, tCB, tCons, tNil, tAndV, tOrV, tNotV, tAnd, tOr, tNot, tTest, tIf, tIfS, tB, tChain, tSl, tPart, tNoPart, tLst, tTup, tFld, tCl, tMt, tMk, gName, tNext, tBM, tBM0, tUn, tSub, tPar, tPar3, gTup, gCons, gNil, tDrop, tMkS, tM1, sFld, StX.tStar, tYes, gSub, cxOf, Cx.wish, Cx.nox, Cx.blk]
        refine ⟨_, rfl, _, rfl, R, _, _, .ref hn.1, rfl, rfl, SqL.of hatR5, hRat, by show 2 ≤ sizeLine; decide, fun a' na' => ⟨by show 1 ≤ sizeLine; decide, fun a na => ⟨by show 1 ≤ sizeLine; decide, fun p np => ?_⟩⟩⟩
        have ea' := Ext.upd (o := HO.lst [V.int 0, V.int 0]) na'
        have ea := Ext.upd (o := HO.lst [V.ref a']) na
        have ep := Ext.upd (o := HO.lst [V.ref a]) np
        have e0p := ea'.trans (ea.trans ep)
        have hRp := e0p _ _ hatR5
        refine ⟨_, rfl, R, rfl, ⟨_, SqL.of hRp⟩, fun D hD => ?_⟩
        refine lc_scal (walk_list (xs := hns.map fun y => V.ref y.1)) (R := fun i y => ∃ h, hns[i]? = some h ∧ y = .int (h.2.length : Nat)) hD (small_of (m := 60) (by rw [List.length_map]; omega)) (fun G e => SqL.of (e _ _ hRp)) (fun i H x H' y => by rw [y.1]; exact Ext.rfl') ?_ ?_
        · rintro i x G G' hi e ⟨rfl, hx⟩ Q2 k2
          rw [List.getElem?_map] at hx
          obtain ⟨h, hh, rfl⟩ := Option.map_eq_some_iff.mp hx
          have hh1 : G' h.1 = some (.lst (h.2.map fun y => V.ref y.1)) := (e0p.trans e) _ _ (hat5.2 h (List.mem_of_getElem? hh)).1
          dsimp only [tRet, tRetN, tSeq, tAsg, tOp, tVar, tC, tCB, tCons, tNil, tAndV, tOrV, tNotV, tAnd, tOr, tNot, tTest, tIf, tIfS, tB, tChain, tSl, tPart, tNoPart, tLst, tTup, tFld, tCl, tMt, tMk, gName, tNext, tBM, tBM0, tUn, tSub, tPar, tPar3, gTup, gCons, gNil, tDrop, tMkS, tM1, sFld, StX.tStar, tYes, gSub, cxOf, Cx.wish, Cx.nox, Cx.blk]
          refine ⟨rfl, _, rfl, h.1, _, rfl, .inl (SqL.of hh1), ?_⟩
          rw [List.length_map]
          exact k2 _ _ Ext.rfl' ⟨h, hh, rfl⟩
        · intro zs G hz1 hz2 e hDz
          have ez : zs = ((hns.map fun h => h.2.length).map fun (n : Nat) => (n : Int)).map V.int := by
            rw [List.map_map, List.map_map]
            exact map_of (by rw [hz1, List.length_map]) hz2
          rw [ez] at hDz
          have hs0 := sum_nonneg (hns.map fun h => h.2.length)
          have hpG := e _ _ (show upd (upd (upd G5 a' _) a _) p (HO.lst [V.ref a]) p = some (.lst [V.ref a]) from upd_same)
          refine ⟨D, _, rfl, SqL.of hDz, _, _, rfl, rfl, p, _, _, rfl, rfl, hpG, ?_, by omega, ?_, fun p2 np2 => ?_⟩
          · have : ((hns.map fun h => h.2.length).map fun (n : Nat) => (n : Int)).sum ≤ 8 := by
              have z : ∀ l : List HnT, ((l.map fun h => h.2.length).map fun (n : Nat) => (n : Int)).sum = (total (l.map shpH) : Int) := by
                intro l
                induction l with
                | nil => rfl
                | cons x r ih =>
                  have e1 : total ((x :: r).map shpH) = x.2.length + total (r.map shpH) := by simp [total, shpH]
                  rw [e1, List.map_cons, List.map_cons, List.sum_cons, ih]
                  omega
              rw [z, hshp]
              omega
            omega
          · show 1 * _ ≤ _
            exact Nat.le_of_lt (small_of (m := 60) (by omega))
          · have hn9 : ((9 : Int) - ((hns.map fun h => h.2.length).map fun (n : Nat) => (n : Int)).sum).toNat ≤ 9 := by omega
            generalize ((9 : Int) - ((hns.map fun h => h.2.length).map fun (n : Nat) => (n : Int)).sum).toNat = n at hn9 np2 ⊢
            have ef : (List.replicate n [V.ref a]).flatten = List.replicate n (V.ref a) := by simp [List.flatten_replicate_singleton]
            have e2p := Ext.upd (o := HO.lst (List.replicate n [V.ref a]).flatten) np2
            have eall := e0p.trans (e.trans e2p)
            refine ⟨hn.1, p2, _, _, rfl, rfl, eall _ _ h1a5, upd_same, ?_, fun r0 nr => k1 _ _ ⟨r0, a, a', n, rfl, eall.trans (Ext.upd nr), none_of eall nr, none_of ea' na, na', (ep.trans (e.trans (e2p.trans (Ext.upd nr)))) _ _ upd_same, (ea.trans (ep.trans (e.trans (e2p.trans (Ext.upd nr))))) _ _ upd_same, by rw [upd_same, ef]⟩⟩
            rw [ef, List.length_map, List.length_replicate]
            exact Nat.le_of_lt (small_of (m := 60) (by omega))
      · subst ev
        have e56 : ExtP q G5 G6 := ExtP.of e6
        have hatR6 : G6 R = some (.lst (hns.map fun y => V.ref y.1)) := e6 _ _ hatR5
        refine ⟨_, rfl, _, rfl, R, _, _, j, rfl, rfl, hatR6, (by rw [ixN, if_pos (by omega), List.length_map, if_pos (by omega)]; rfl), ?_⟩
        have nwP : ∀ {b : Addr} {o : HO} {o2 : HO}, G5 b = none → G6 b = some o → upd (L2.del G6 q) R o2 b = some o := fun {b o o2} h1 h2 => by
          rw [upd_ne (fun z => hRn (by rw [← z]; exact h1)), del_ne (hq5.ne h1)]
          exact h2
        have hput := tree_put (L := L2' K) (a := R) (xs := hns) (j := j) (v := .ref r0) (dv := .list (hn.2.map (L1 K).dat ++ List.replicate n (.list [.list [.int 0, .int 0]]))) (atP e56) hnd (.lst (SqL.of (nwP nr hr0)) (DpAll.app (dp_refs (L1 K) fun y hy => (L1 K).mono y _ _ (fun b hb => upd_ne (fun z => hnl (by rw [← z]; exact List.mem_cons_of_mem _ (List.mem_flatMap.mpr ⟨y, hy, hb⟩)))) (((atP e56).2 hn hnm).2 y hy)) ?_))
        · exact skip_eq rfl (by decide) (skip_eq rfl (by decide) ⟨_, rfl, fin G6 R _ _ e56 ((hq5.ext e6).mono (by omega)) hRm hput⟩)
        · have h0 : ∀ o2, Dp K (upd (L2.del G6 q) R o2) (.ref a) (.list [.list [.int 0, .int 0]]) := fun o2 => .lst (SqL.of (nwP na hae)) (.cons (.lst (SqL.of (nwP na' hae')) (.cons (.int _) (.cons (.int _) .nil))) .nil)
          exact rep_dp (h0 _) n
    · refine skip_eq rfl (by decide) (skip_eq rfl (by decide) (skip_eq rfl (by decide) (take_eq rfl ?_)))
      show tOp rCat _ _ _ _ _
      obtain ⟨n5, hn5⟩ : ∃ n : Nat, (5 : Int) - (hns.length : Int) = (n : Int) := ⟨5 - hns.length, by omega⟩
      refine cut_te (fun v G => ∃ r0 a, v = .ref r0 ∧ Ext G5 G ∧ G5 r0 = none ∧ G5 a = none ∧ G a = some (.lst []) ∧ G r0 = some (.lst ((hns.map fun y => V.ref y.1) ++ List.replicate n5 (V.ref a)))) (fun Q1 k1 => ?_) fun v G6 ⟨r0, a, ev, e6, nr, na, hae, hr0⟩ => ?_
      · refine ⟨_, rfl, Nat.zero_le _, fun a na => ⟨by show 1 ≤ sizeLine; decide, fun p np => ?_⟩⟩
        have ea := Ext.upd (o := HO.lst []) na
        have ep := Ext.upd (o := HO.lst [V.ref a]) np
        have hRp := (ea.trans ep) _ _ hatR5
        refine ⟨_, rfl, R, _, rfl, .inl (SqL.of hRp), _, _, rfl, rfl, ?_⟩
        rw [List.length_map]
        refine ⟨p, _, _, rfl, rfl, upd_same, by omega, by omega, ?_, fun p2 np2 => ?_⟩
        · rw [hn5, Int.toNat_natCast]
          exact Nat.le_of_lt (small_of (m := 60) (by show 1 * n5 ≤ 60; omega))
        · rw [hn5, Int.toNat_natCast]
          have e2p := Ext.upd (o := HO.lst (List.replicate n5 [V.ref a]).flatten) np2
          have ef : (List.replicate n5 [V.ref a]).flatten = List.replicate n5 (V.ref a) := by
            induction n5 with
            | zero => rfl
            | succ n ih => simp [List.replicate_succ, List.flatten_replicate_singleton]
          refine ⟨R, p2, _, _, rfl, rfl, e2p _ _ hRp, upd_same, ?_, fun r0 nr => k1 _ _ ⟨r0, a, rfl, ea.trans (ep.trans (e2p.trans (Ext.upd nr))), none_of (ea.trans (ep.trans e2p)) nr, na, (ep.trans (e2p.trans (Ext.upd nr))) _ _ upd_same, by rw [upd_same, ef]⟩⟩
          rw [ef, List.length_map, List.length_replicate]
          exact Nat.le_of_lt (small_of (m := 60) (by omega))
      · subst ev
        have cr0 : r0 ≠ q := hq5.ne nr
        have e56 : ExtP q G5 G6 := ExtP.of e6
        refine skip_eq rfl (by decide) ⟨_, rfl, ?_⟩
        have atL := dp_refs (L2' K) (G := L2.del G6 q) (xs := hns) (atP e56).2
        have hrep : ∀ n, DpAll K (L2.del G6 q) (List.replicate n (V.ref a)) (List.replicate n (.list [])) := fun n => by
          induction n with
          | zero => exact .nil
          | succ n ih => exact .cons (.lst (SqL.of (by rw [del_ne (hq5.ne na)]; exact hae)) .nil) ih
        refine kk (.ref r0) (.list (hns.map (L2' K).dat ++ List.replicate n5 (.list []))) G6 (eH5.trans e56) (.of (.lst (SqL.of (by rw [del_ne cr0]; exact hr0)) (DpAll.app atL (hrep n5)))) (fun _ => ⟨r0, _, rfl, none_extP eH5 nr cr0, cr0, hr0⟩) ((hq5.ext e6).mono (by omega))
    · refine skip_eq rfl (by decide) (skip_eq rfl (by decide) (skip_eq rfl (by decide) (skip_eq rfl (by decide) (take_eq rfl ?_))))
      show tCB _ _ _ _ _
      have hnl : R ∉ (L2' K).addrs hn := fun z => (List.nodup_cons.mp hnd).1 (List.mem_flatMap.mpr ⟨hn, hnm, z⟩)
      have e0' : Ext (delS G5 [q, R]) G5 := delS_ext
      have at0' : (L2' K).at_ (delS G5 [q, R]) hn := (L2' K).mono _ _ _ (fun a ha => delS_at (fun z => by
        rcases List.mem_cons.mp z with rfl | z
        · exact cq _ (hnR _ ha) rfl
        · cases List.mem_singleton.mp z
          exact hnl ha)) (hat5.2 hn hnm)
      have h10 : delS G5 [q, R] hn.1 = some (.lst (hn.2.map fun y => V.ref y.1)) := at0'.1
      refine cut_te (fun v G => ∃ d, Ext G5 G ∧ Dp K (over (delS G5 [q, R]) G5 G) v d) (fun Q1 k1 => ?_) fun v G6 ⟨d, e6, hd⟩ => ?_
      · refine ⟨_, rfl, _, rfl, R, _, _, .ref hn.1, rfl, rfl, SqL.of hatR5, hRat, true, hn.1, _, rfl, SqL.of h1a5, fun D hD => ?_⟩
        refine tup_comp (K := K) (fl := true) (fun d => .tuple (dItems d)) e0' (SqL.of h10) (dp_refs (L1 K) at0'.2) (by rw [List.length_map]; omega) hD ?_ fun u G e hu => k1 _ _ ⟨_, e, hu⟩
        intro i d1 x G G0 f1 f2 f3 hx hd1 hp Q2 k2
        rw [List.getElem?_map] at hd1
        obtain ⟨y, hy, rfl⟩ := Option.map_eq_some_iff.mp hd1
        obtain ⟨fl, a, zs, rfl, hz, hzA⟩ := seq_of (Vd.of hp) rfl
        dsimp only [tRet, tRetN, tSeq, tAsg, tOp, tVar, tC, tCB, tCons, tNil, tAndV, tOrV, tNotV, tAnd, tOr, tNot, tTest, tIf, tIfS, tB, tChain, tSl, tPart, tNoPart, tLst, tTup, tFld, tCl, tMt, tMk, gName, tNext, tBM, tBM0, tUn, tSub, tPar, tPar3, gTup, gCons, gNil, tDrop, tMkS, tM1, sFld, StX.tStar, tYes, gSub, cxOf, Cx.wish, Cx.nox, Cx.blk]
        exact ⟨rfl, _, rfl, tup_rd f1 hz hzA fun u G2 e2 hu2 => k2 u G2 e2 hu2⟩
      · have e56 : ExtP q G5 G6 := ExtP.of e6
        have hatR6 : G6 R = some (.lst (hns.map fun y => V.ref y.1)) := e6 _ _ hatR5
        refine ⟨_, rfl, _, rfl, R, _, _, j, rfl, rfl, hatR6, (by rw [ixN, if_pos (by omega), List.length_map, if_pos (by omega)]; rfl), ?_⟩
        have hput := tree_put (L := L2' K) (a := R) (xs := hns) (j := j) (v := v) (dv := d) (atP e56) hnd (Dp.ext (fun b o hb => ?_) hd)
        · exact ⟨_, rfl, fin G6 R _ _ e56 ((hq5.ext e6).mono (by omega)) hRm hput⟩
        · cases c5 : G5 b with
          | none =>
            rw [over_new c5] at hb
            rw [upd_ne (fun z => hRn (by rw [← z]; exact c5)), del_ne (fun z => g5q (by rw [← z]; exact c5))]
            exact hb
          | some o' =>
            rw [over_old c5] at hb
            obtain ⟨x1, x2⟩ := delS_some hb
            rw [upd_ne (fun z => x1 (by rw [z]; simp)), del_ne (fun z => x1 (by rw [z]; simp))]
            exact e6 _ _ x2
    · refine skip_eq rfl (by decide) (skip_eq rfl (by decide) (skip_eq rfl (by decide) (skip_eq rfl (by decide) (skip_eq rfl (by decide) ⟨_, rfl, ?_⟩))))
      have atL := (L3 K).dp _ _ (atP (ExtP.refl q G5))
      exact kk (.ref R) _ G5 eH5 (.of atL) (fun _ => ⟨R, _, rfl, hnew R hRm, cq R hRm, hatR5⟩) (hq5.mono (by omega))
end
end K81

end
section
/-! Ow13: repr of data. -/
namespace Ow
open PySem L2
open PySem.Spec PyProof.Rows
/-- repr(x), x a bool, a list or a tuple -/
def rReprD (K : W.Frag) : List V → Hp → VK → Prop := fun xs H Q => ∃ v d, xs = [v] ∧ Dp K H v d ∧ (dSeq d || dBool d) = true ∧ d.showable = true ∧ d.hasDict = false ∧ d.depth ≤ 20 ∧ d.shown.length ≤ sizeLine ∧ Q (.str d.shown) H
theorem call_reprD {X : Cx} {k : Nat} (hg : X.A.guards = some []) (hr : Room k X.A) : CallR X (.builtin "repr") (rReprD X.K) := by
  intro pins s σ H xs us Q I r h
  obtain ⟨v, d, rfl, hv, hk, h1, h2, h3, h4, q⟩ := h
  obtain ⟨u, rfl, ru⟩ := vals1 r
  have un := hr.un
  cases d with
  | bool b =>
    cases hv
    obtain rfl : u = Value.bool b := ru
    exact PySem.P.repr_of_bool ⟨.str (PyData.bool b).shown, H, I.tok _, ⟨_, rfl⟩, q⟩
  | list ds =>
    obtain ⟨as, rd⟩ := Dp.reads I _ _ _ hv ru
    obtain ⟨a, xs, rfl, _⟩ := Dp.lstV hv
    obtain rfl : u = Value.ref a := ru
    exact repr_of_reads' rd h1 (PyData.noDict_hsm h2) hg (by omega) (fun _ _ e => e) (fun h' u tk hk => ⟨.str (PyData.list ds).shown, H, I.kept hk, ⟨_, rfl⟩, q⟩) h4
  | tuple ds =>
    obtain ⟨as, rd⟩ := Dp.reads I _ _ _ hv ru
    obtain ⟨a, xs, rfl, _⟩ := Dp.tupV hv
    obtain rfl : u = Value.ref a := ru
    exact repr_of_reads' rd h1 (PyData.noDict_hsm h2) hg (by omega) (fun _ _ e => e) (fun h' u tk hk => ⟨.str (PyData.tuple ds).shown, H, I.kept hk, ⟨_, rfl⟩, q⟩) h4
  | _ => cases hk
end Ow

end
section
/-! K81zdp: what is shown; made data given again. -/
namespace K81
open PySem L2 Ow
open PySem.Spec PyProof.Rows
/-! ### sizes of what is shown (as for k80) -/
structure Shw (d : PyData) (k n : Nat) : Prop where
  s : d.showable = true
  h : d.hasDict = false
  p : d.depth ≤ k
  l : d.shown.length ≤ n
theorem shw_all : ∀ {ds : List PyData} {k n : Nat}, (∀ d ∈ ds, Shw d k n) → PyData.showableAll ds = true ∧ PyData.hasDictAll ds = false ∧ PyData.depthAll ds ≤ k ∧ ((PyData.shownAll ds).map (·.length)).sum ≤ ds.length * n ∧ (PyData.shownAll ds).length = ds.length
  | [], k, n, _ => ⟨rfl, rfl, by simp [PyData.depthAll], by simp [PyData.shownAll], rfl⟩
  | d :: r, k, n, h => by
    obtain ⟨h1, h2, h3, h4, h5⟩ := shw_all (ds := r) fun x hx => h x (List.mem_cons_of_mem _ hx)
    have h0 := h d List.mem_cons_self
    have := h0.l
    refine ⟨by simp [PyData.showableAll, h0.s, h1], by simp [PyData.hasDictAll, h0.h, h2], ?_, ?_, ?_⟩
    · have := h0.p
      simp only [PyData.depthAll]
      omega
    · simp only [PyData.shownAll, List.map_cons, List.sum_cons, List.length_cons, Nat.add_mul]
      omega
    · simp only [PyData.shownAll, List.length_cons, h5]
theorem shw_tuple {ds : List PyData} {k n m : Nat} (h : ∀ d ∈ ds, Shw d k n) (hl : ds.length ≤ m) : Shw (.tuple ds) (k + 1) (m * n + 2 * m + 3) := by
  obtain ⟨h1, h2, h3, h4, h5⟩ := shw_all h
  have h6 := PySem.tupleText_len_le (PyData.shownAll ds)
  have h7 : ds.length * n ≤ m * n := Nat.mul_le_mul_right _ hl
  refine ⟨by simp [PyData.showable, h1], by simp [PyData.hasDict, h2], by simp only [PyData.depth]; omega, ?_⟩
  simp only [PyData.shown]
  omega
theorem shw_list {ds : List PyData} {k n m : Nat} (h : ∀ d ∈ ds, Shw d k n) (hl : ds.length ≤ m) : Shw (.list ds) (k + 1) (m * n + 2 * m + 3) := by
  obtain ⟨h1, h2, h3, h4, h5⟩ := shw_all h
  have h6 := PySem.listText_len_le (PyData.shownAll ds)
  have h7 : ds.length * n ≤ m * n := Nat.mul_le_mul_right _ hl
  refine ⟨by simp [PyData.showable, h1], by simp [PyData.hasDict, h2], by simp only [PyData.depth]; omega, ?_⟩
  simp only [PyData.shown]
  omega
theorem Shw.rd {K : W.Frag} {H : Hp} {v : V} {d : PyData} {k n : Nat} {Q : VK} (h : Shw d k n) (hv : Dp K H v d) (hk : (dSeq d || dBool d) = true) (h1 : k ≤ 20) (h2 : n ≤ 200000) (q : Q (.str d.shown) H) : rReprD K [v] H Q :=
  ⟨v, d, rfl, hv, hk, h.s, h.h, Nat.le_trans h.p h1, Nat.le_trans h.l (Nat.le_trans h2 (by decide)), q⟩
theorem shw_small {i : Int} (h0 : 0 ≤ i) (h1 : i < 12) : Shw (.int i) 0 2 := by
  obtain ⟨n, rfl⟩ := Int.eq_ofNat_of_zero_le h0
  have hn : n < 12 := by omega
  have z : (List.range 12).all (fun n => (PyData.int (n : Nat)).showable && decide ((PyData.int (n : Nat)).shown.length ≤ 2)) = true := by decide +kernel
  have z := List.all_eq_true.mp z n (List.mem_range.mpr hn)
  simp only [Bool.and_eq_true, decide_eq_true_eq] at z
  exact ⟨z.1, rfl, by simp [PyData.depth], z.2⟩
theorem shw_way {x : Str} (h : isWay x = true) : Shw (.str x) 0 10 := by
  have z : (["in place", "laid by", "watched"] : List Str).all (fun x => (PyData.str x).showable && decide ((PyData.str x).shown.length ≤ 10)) = true := by decide +kernel
  have hm : x ∈ (["in place", "laid by", "watched"] : List Str) := by
    simp only [isWay, Bool.or_eq_true, beq_iff_eq] at h
    simpa using h
  have z := List.all_eq_true.mp z x hm
  simp only [Bool.and_eq_true, decide_eq_true_eq] at z
  exact ⟨z.1, rfl, by simp [PyData.depth], z.2⟩
theorem dpall_of {K : W.Frag} {H : Hp} : ∀ {xs : List V} {ds : List PyData}, xs.length = ds.length → (∀ (i : Nat) x, xs[i]? = some x → ∃ d, ds[i]? = some d ∧ Dp K H x d) → DpAll K H xs ds
  | [], [], _, _ => .nil
  | x :: xs, d :: ds, hl, h => by
    obtain ⟨d', e, h0⟩ := h 0 x rfl
    cases e
    exact .cons h0 (dpall_of (by simpa using hl) fun i y hy => by simpa using h (i + 1) y (by simpa using hy))
/-- a couple within its kind's bounds -/
def P4.fit (k : KN) (p : P4) : Prop := isCouple k p.dat = true
theorem coupleP_dat (p : P4) : coupleP p.dat = p := by
  cases p
  rfl
theorem couple_fit {k : KN} {d : PyData} (h : isCouple k d = true) : isCouple k (coupleP d).dat = true := by
  obtain ⟨hs, x, y, ed, bx, by'⟩ := couple_two h
  obtain ⟨sx, a, b, ex, _⟩ := below_two bx
  obtain ⟨sy, c, e, ey, _⟩ := below_two by'
  have hP : (coupleP d).dat = .tuple [.tuple (dItems x), .tuple (dItems y)] := by
    simp [coupleP, ed, int2, ex, ey, P4.dat]
  have z : ∀ {q : PyData} {bs : List Int}, isBelow q bs = true → isBelow (.tuple (dItems q)) bs = true := by
    intro q bs hq
    simp only [isBelow, Bool.and_eq_true] at hq ⊢
    exact ⟨rfl, hq.2⟩
  rw [hP]
  simp only [isCouple, dSeq, dItems, Bool.true_and, List.length_cons, List.length_nil, List.all_cons, List.all_nil, Bool.and_true, Bool.and_eq_true, decide_eq_true_eq]
  exact ⟨trivial, z bx, z by'⟩
theorem tail_again {k : KN} {t : PyData} {b : KD} (h : hTail k t b = true) : hTail k (tableD ((dItems t).map coupleP)) b = true := by
  unfold hTail at h ⊢
  split at h
  · rename_i x e
    simp only [Bool.and_eq_true] at h ⊢
    obtain ⟨h1, h2, h3⟩ := h
    refine ⟨h1, ?_, ?_⟩
    · simp only [isTable, Bool.and_eq_true] at h2 ⊢
      obtain ⟨q1, q2, q3⟩ := h2
      refine ⟨rfl, ?_, ?_⟩
      · rw [List.all_eq_true]
        intro y hy
        simp only [tableD, dItems, List.map_map, List.mem_map] at hy
        obtain ⟨d, hd, rfl⟩ := hy
        exact couple_fit (List.all_eq_true.mp q2 d hd)
      · have z : (dItems (tableD ((dItems t).map coupleP))).map coupleP = (dItems t).map coupleP := by
          simp only [tableD, dItems, List.map_map]
          exact List.map_congr_left fun d _ => coupleP_dat _
        rw [z]
        exact q3
    · have z : (dItems (tableD ((dItems t).map coupleP))).length = (dItems t).length := by simp [tableD, dItems]
      rw [z]
      exact h3
  · cases h
/-! ### hands given again -/
theorem askN_map {hs hs' : List KD} (h : hs.map askN = hs'.map askN) (i : Nat) : askN (hs.getD i (.dat .none)) = askN (hs'.getD i (.dat .none)) := by
  have z : ∀ l : List KD, askN (l.getD i (.dat .none)) = (l.map askN).getD i 0 := by
    intro l
    rw [List.getD_eq_getElem?_getD, List.getD_eq_getElem?_getD, List.getElem?_map]
    cases l[i]? <;> rfl
  rw [z, z, h]
theorem stepIn_map {hs hs' : List KD} (h : hs.map askN = hs'.map askN) (e : PyData) : stepIn hs e = stepIn hs' e := by
  have hl : hs.length = hs'.length := by simpa using congrArg List.length h
  unfold stepIn
  split
  · rw [hl, askN_map h]
  · rfl
theorem stepIn_items {hs : List KD} {e e' : PyData} (h : dItems e = dItems e') : stepIn hs e = stepIn hs e' := by
  unfold stepIn
  rw [h]
theorem deal_again {hs hs' : List KD} (h : hs.map askN = hs'.map askN) {e : PyData} (he : isDeal hs e = true) : isDeal hs' (dealD e) = true := by
  simp only [isDeal, Bool.and_eq_true] at he ⊢
  obtain ⟨h1, h2, h3⟩ := he
  obtain ⟨l0, l1, l2⟩ := listed_dat h1
  refine ⟨?_, ?_, ?_⟩
  · simp only [listedK, kSeq, kItems, dealD, dSeq, dItems, List.length_map, Bool.true_and, Bool.and_eq_true, decide_eq_true_eq]
    exact ⟨l1, l2⟩
  · rw [List.all_eq_true] at h2 ⊢
    intro y hy
    simp only [dealD, dItems, List.mem_map] at hy
    obtain ⟨s, hs1, rfl⟩ := hy
    have z := h2 s hs1
    simp only [isRow, stepD, dSeq, dItems, Bool.true_and, Bool.and_eq_true] at z ⊢
    exact z.2
  · rw [List.all_eq_true] at h3 ⊢
    intro y hy
    simp only [dealD, dItems, List.mem_map] at hy
    obtain ⟨s, hs1, rfl⟩ := hy
    rw [← stepIn_map h, stepIn_items (show dItems (stepD s) = dItems s from rfl)]
    exact h3 s hs1
theorem deals_again (d : PyData) : dealsOf (handsD d) = (dealsOf d).map dealD := by
  show ((dItems d).map handD).flatMap dItems = ((dItems d).flatMap dItems).map dealD
  rw [List.map_flatMap, List.flatMap_map]
  rfl
theorem hands_again {hs hs' : List KD} (h : hs.map askN = hs'.map askN) {d : PyData} (hd : isHands hs d = true) : isHands hs' (handsD d) = true := by
  simp only [isHands, Bool.and_eq_true, decide_eq_true_eq] at hd ⊢
  obtain ⟨h1, h2, h3, h4⟩ := hd
  obtain ⟨l0, l1, l2⟩ := listed_dat h1
  refine ⟨?_, ?_, ?_, ?_⟩
  · simp only [listedK, kSeq, kItems, handsD, dSeq, dItems, List.length_map, Bool.true_and, Bool.and_eq_true, decide_eq_true_eq]
    exact ⟨l1, l2⟩
  · rw [List.all_eq_true]
    intro y hy
    simp only [handsD, dItems, List.mem_map] at hy
    obtain ⟨s, _, rfl⟩ := hy
    rfl
  · have z : (dItems (handsD d)).map (fun h => ((dItems h).length : Int)) = (dItems d).map fun h => ((dItems h).length : Int) := by
      simp only [handsD, dItems, List.map_map]
      exact List.map_congr_left fun s _ => by simp [handD, dItems]
    rw [z]
    exact h3
  · rw [deals_again, List.all_map, List.all_eq_true]
    intro e he
    exact deal_again h (List.all_eq_true.mp h4 e he)
theorem hands_twice (d : PyData) : handsD (handsD d) = handsD d := by
  simp only [handsD, dItems, List.map_map]
  congr 1
  refine List.map_congr_left fun h _ => ?_
  simp only [Function.comp_apply, handD, dItems, List.map_map]
  congr 1
  refine List.map_congr_left fun e _ => ?_
  simp only [Function.comp_apply, dealD, dItems, List.map_map]
  congr 1
/-! ### houses given again -/
/-- given, with its kind -/
abbrev HK := HouseV × KN
def GivenK (K : W.Frag) (H : Hp) (x : V) (h : HK) : Prop := ∃ fl b t td, x = .ref b ∧ SqF K fl H b [.ref h.1.1, .str h.1.2.1, t] ∧ KindAt K H h.1.1 h.2 ∧ Dp K H t td ∧ hTail h.2 td (.dat (.str h.1.2.1)) = true ∧ (dItems td).length ≤ 600 ∧ (dItems td).map coupleP = h.1.2.2
theorem tail_table {k : KN} {t : PyData} {b : KD} (h : hTail k t b = true) : isTable k t = true := by
  unfold hTail at h
  split at h
  · simp only [Bool.and_eq_true] at h
    exact h.2.1
  · cases h
theorem GivenK.given {K : W.Frag} {H : Hp} {x : V} {h : HK} (g : GivenK K H x h) : GivenH K H x h.1 := by
  obtain ⟨fl, b, t, td, h1, h2, h3, h4, h5, h6, h7⟩ := g
  exact ⟨fl, b, t, h.2, td, h1, h2, h3, h4, tail_table h5, h6, h7⟩
theorem GivenK.ext {K : W.Frag} {H H' : Hp} {x : V} {h : HK} (g : GivenK K H x h) (e : Ext H H') : GivenK K H' x h := by
  obtain ⟨fl, b, t, td, h1, h2, h3, h4, h5, h6, h7⟩ := g
  exact ⟨fl, b, t, td, h1, h2.ext e, h3.ext e, Dp.ext e h4, h5, h6, h7⟩
theorem houses_givenK {K : W.Frag} {H : Hp} : ∀ {xs : List V} {ds : List KD}, KpAll K H xs ds → (∀ d ∈ ds, okH d) → ds.all isHouse = true → ∃ hs : List HK, Each (GivenK K H) xs hs ∧ hs.map (fun h => h.2.asks.length) = ds.map askN
  | [], [], _, _, _ => ⟨[], ⟨rfl, fun i x e => by simp at e⟩, rfl⟩
  | x :: xs, d :: ds, h, hk, ho => by
    cases h with
    | cons p r =>
      rw [List.all_cons, Bool.and_eq_true] at ho
      obtain ⟨hs, ⟨h1, h2⟩, h3⟩ := houses_givenK r (fun d hd => hk d (List.mem_cons_of_mem _ hd)) ho.2
      obtain ⟨o1, o2⟩ := ho
      have ok := hk d List.mem_cons_self
      simp only [isHouse, Bool.and_eq_true] at o1
      obtain ⟨hsq, hi⟩ := o1
      obtain ⟨fl, b, ys, rfl, hy, hA⟩ := kseq_of p hsq
      split at hi
      · rename_i k c t ek
        obtain ⟨e3, ec, hl⟩ := ok _ _ _ ek
        cases ec
        rw [ek] at hA
        cases hA with
        | cons p1 r1 =>
          cases r1 with
          | cons p2 r2 =>
            cases r2 with
            | cons p3 r3 =>
              cases r3
              cases p1 with
              | kind hka =>
                rename_i v2 v3 ka
                have hi2 := hi
                unfold hTail at hi
                split at hi
                · rename_i y ey
                  have ec : c = .dat (.str y) := by
                    cases c with
                    | dat b =>
                      cases b <;> cases ey
                      rfl
                    | _ => cases ey
                  subst ec
                  cases p2 with
                  | dat p2 =>
                    obtain rfl := p2.str
                    cases p3 with
                    | dat p3 =>
                      have hts : dSeq t = true := by
                        have ht := tail_table hi2
                        simp only [isTable, Bool.and_eq_true] at ht
                        exact ht.1
                      have hdp : Dp K H v3 t := by
                        rcases p3 with p3 | ⟨_, _, _, e⟩
                        · exact p3
                        · subst e
                          cases hts
                      refine ⟨((ka, y, (dItems t).map coupleP), k) :: hs, ⟨by simp [h1], fun i x e => ?_⟩, by simp [h3, askN, ek]⟩
                      cases i with
                      | zero =>
                        cases e
                        exact ⟨_, rfl, fl, b, v3, t, rfl, hy, hka, hdp, hi2, hl, rfl⟩
                      | succ i => exact h2 i x (by simpa using e)
                · cases hi
      · cases hi
def dueH (h : HK) : KD := .seq false [.kind h.2, .dat (.str h.1.2.1), .dat (tableD h.1.2.2)]
/-- a house that may be given again -/
def HkOk (h : HK) : Prop := hTail h.2 (tableD h.1.2.2) (.dat (.str h.1.2.1)) = true ∧ h.1.2.2.length ≤ 600
theorem GivenK.ok {K : W.Frag} {H : Hp} {x : V} {h : HK} (g : GivenK K H x h) : HkOk h ∧ KindAt K H h.1.1 h.2 := by
  obtain ⟨fl, b, t, td, h1, h2, h3, h4, h5, h6, h7⟩ := g
  refine ⟨⟨?_, ?_⟩, h3⟩
  · rw [← h7]
    exact tail_again h5
  · rw [← h7, List.length_map]
    exact h6
theorem kept_given {K : W.Frag} {H : Hp} {x : V} {h : HK} (k : KeptH K H x h.1) (o : HkOk h) (ka : KindAt K H h.1.1 h.2) : GivenK K H x h := by
  obtain ⟨b, t, rfl, h1, h2⟩ := k
  exact ⟨false, b, t, tableD h.1.2.2, rfl, h1, ka, h2, o.1, by simpa [tableD, dItems] using o.2, by
    simp only [tableD, dItems, List.map_map]
    refine (List.map_congr_left fun d _ => coupleP_dat d).trans ?_
    simp⟩
theorem kept_kp {K : W.Frag} {H : Hp} {x : V} {h : HK} (k : KeptH K H x h.1) (ka : KindAt K H h.1.1 h.2) : Kp K H x (dueH h) := by
  obtain ⟨b, t, rfl, h1, h2⟩ := k
  exact .seq h1 (.cons (.kind ka) (.cons (.dat (.of (.str _))) (.cons (.dat (.of h2)) .nil)))
theorem dueH_house {h : HK} (o : HkOk h) : isHouse (dueH h) = true := by
  simp only [isHouse, dueH, kSeq, kItems, Bool.true_and]
  exact o.1
theorem dueH_ok {h : HK} (o : HkOk h) : okH (dueH h) := fun a b c e => by
  simp only [dueH, kItems, List.cons.injEq, and_true] at e
  obtain ⟨_, _, rfl⟩ := e
  exact ⟨_, rfl, by simpa [tableD, dItems] using o.2⟩
theorem kpall_of {K : W.Frag} {H : Hp} {α : Type} (F : α → KD) : ∀ {xs : List V} {hs : List α}, Each (fun x h => Kp K H x (F h)) xs hs → KpAll K H xs (hs.map F)
  | [], [], _ => .nil
  | x :: xs, h :: hs, ⟨hl, hh⟩ => by
    obtain ⟨h', e, h0⟩ := hh 0 x rfl
    cases e
    exact .cons h0 (kpall_of F ⟨by simpa using hl, fun i y hy => by simpa using hh (i + 1) y (by simpa using hy)⟩)
  | [], _ :: _, ⟨hl, _⟩ => by simp at hl
  | _ :: _, [], ⟨hl, _⟩ => by simp at hl
theorem ProgAt.ext {K : W.Frag} {H H' : Hp} {p : Addr} {hs : List HouseV} {d : PyData} (h : ProgAt K H p hs d) (e : Ext H H') : ProgAt K H' p hs d := by
  obtain ⟨dx, p1, p2, p3, p4, hv, h1, h2, h3, h4, h5, h6⟩ := h
  exact ⟨dx, p1, p2, p3, p4, hv, e _ _ h1, h2.ext e, h3.imp fun x h z => z.ext e, Dp.ext e h4, Dp.ext e h5, h6.ext e⟩
/-- the tail of a kept house -/
def tailD (h : HouseV) : PyData := .tuple [.str h.2.1, tableD h.2.2]
theorem shw_P4 {k : KN} (hk : k.asks.length ≤ 8) (hk2 : k.answers.length ≤ 12) {p : P4} (h : isCouple k p.dat = true) : Shw p.dat 2 (2 * (2 * 2 + 2 * 2 + 3) + 2 * 2 + 3) := by
  obtain ⟨hs, x, y, ed, bx, by'⟩ := couple_two h
  obtain ⟨sx, a, b, ex, a0, a1, b0, b1⟩ := below_two bx
  obtain ⟨sy, c, e, ey, c0, c1, e0, e1⟩ := below_two by'
  obtain ⟨q1, q2, q3, q4⟩ := p
  simp only [P4.dat, dItems, List.cons.injEq, and_true] at ed
  obtain ⟨rfl, rfl⟩ := ed
  simp only [dItems, List.cons.injEq, PyData.int.injEq, and_true] at ex ey
  obtain ⟨rfl, rfl⟩ := ex
  obtain ⟨rfl, rfl⟩ := ey
  refine shw_tuple (k := 1) (m := 2) (fun d hd => ?_) (Nat.le_refl 2)
  simp only [List.mem_cons, List.not_mem_nil, or_false] at hd
  rcases hd with rfl | rfl
  · refine shw_tuple (k := 0) (m := 2) (fun d hd => ?_) (Nat.le_refl 2)
    simp only [List.mem_cons, List.not_mem_nil, or_false] at hd
    rcases hd with rfl | rfl <;> exact shw_small (by omega) (by omega)
  · refine shw_tuple (k := 0) (m := 2) (fun d hd => ?_) (Nat.le_refl 2)
    simp only [List.mem_cons, List.not_mem_nil, or_false] at hd
    rcases hd with rfl | rfl <;> exact shw_small (by omega) (by omega)
theorem shw_mono {d : PyData} {k n n' : Nat} (h : Shw d k n) (hn : n ≤ n') : Shw d k n' := ⟨h.s, h.h, h.p, Nat.le_trans h.l hn⟩
theorem shw_up {d : PyData} {k k' n : Nat} (h : Shw d k n) (hk : k ≤ k') : Shw d k' n := ⟨h.s, h.h, Nat.le_trans h.p hk, h.l⟩
theorem ok_kind {k : KN} (h : k.ok = true) : k.asks.length ≤ 8 ∧ k.answers.length ≤ 12 := by
  simp only [KN.ok, okWords, Bool.and_eq_true, decide_eq_true_eq] at h
  exact ⟨h.1.2.1, h.2.1.2.1⟩
theorem shw_tail {h : HK} (o : HkOk h) (hk : h.2.ok = true) : Shw (tailD h.1) 4 30000 := by
  obtain ⟨k8, k12⟩ := ok_kind hk
  obtain ⟨o1, o2⟩ := o
  have ht := tail_table o1
  simp only [isTable, Bool.and_eq_true, List.all_eq_true] at ht
  have hw : isWay h.1.2.1 = true := by
    simp only [hTail, kStr, Bool.and_eq_true] at o1
    exact o1.1
  have hT : Shw (tableD h.1.2.2) 3 (600 * (2 * (2 * 2 + 2 * 2 + 3) + 2 * 2 + 3) + 2 * 600 + 3) := by
    refine shw_tuple (fun d hd => ?_) (by rw [List.length_map]; exact o2)
    obtain ⟨q, hq, rfl⟩ := List.mem_map.mp hd
    exact shw_P4 k8 k12 (ht.2.1 _ (List.mem_map_of_mem hq))
  refine ⟨?_, ?_, ?_, ?_⟩
  · simp [tailD, PyData.showable, PyData.showableAll, (shw_way hw).s, hT.s]
  · simp [tailD, PyData.hasDict, PyData.hasDictAll, (shw_way hw).h, hT.h]
  · have := hT.p
    have := (shw_way hw).p
    simp only [tailD, PyData.depth, PyData.depthAll]
    omega
  · have h6 := PySem.tupleText_len_le (PyData.shownAll [.str h.1.2.1, tableD h.1.2.2])
    have := hT.l
    have := (shw_way hw).l
    have z1 : ((PyData.shownAll [.str h.1.2.1, tableD h.1.2.2]).map (·.length)).sum = (PyData.str h.1.2.1).shown.length + (tableD h.1.2.2).shown.length := by
      simp only [PyData.shownAll, List.map_cons, List.map_nil, List.sum_cons, List.sum_nil]
      omega
    have z2 : (PyData.shownAll [.str h.1.2.1, tableD h.1.2.2]).length = 2 := by simp [PyData.shownAll]
    have z3 : (tailD h.1).shown = PySem.tupleText (PyData.shownAll [.str h.1.2.1, tableD h.1.2.2]) := by rw [tailD, PyData.shown]
    rw [z3]
    omega
theorem ask_le {hs : List KD} (h8 : ∀ x ∈ hs, askN x ≤ 8) (i : Nat) : askN (hs.getD i (.dat .none)) ≤ 8 := by
  rw [List.getD_eq_getElem?_getD]
  cases e : hs[i]? with
  | none => exact Nat.zero_le _
  | some x => exact h8 x (List.mem_of_getElem? e)
theorem shw_stepD {hs : List KD} {e : PyData} (h : stepIn hs e = true) (h4 : hs.length ≤ 4) (h8 : ∀ x ∈ hs, askN x ≤ 8) : Shw (stepD e) 1 (2 * 2 + 2 * 2 + 3) := by
  unfold stepIn at h
  split at h
  · rename_i a b ed
    simp only [Bool.and_eq_true, decide_eq_true_eq] at h
    obtain ⟨h1, h2, h3, h5⟩ := h
    have := ask_le h8 a.toNat
    rw [stepD, ed]
    refine shw_tuple (k := 0) (m := 2) (fun d hd => ?_) (Nat.le_refl 2)
    simp only [List.mem_cons, List.not_mem_nil, or_false] at hd
    rcases hd with rfl | rfl <;> exact shw_small (by omega) (by omega)
  · cases h
theorem shw_dealD {hs : List KD} {e : PyData} (h : isDeal hs e = true) (h4 : hs.length ≤ 4) (h8 : ∀ x ∈ hs, askN x ≤ 8) : Shw (dealD e) 2 (6 * (2 * 2 + 2 * 2 + 3) + 2 * 6 + 3) := by
  simp only [isDeal, Bool.and_eq_true] at h
  obtain ⟨l0, l1, l2⟩ := listed_dat h.1
  refine shw_tuple (fun d hd => ?_) (by rw [List.length_map]; omega)
  obtain ⟨s, hs1, rfl⟩ := List.mem_map.mp hd
  exact shw_stepD (List.all_eq_true.mp h.2.2 s hs1) h4 h8
theorem shw_handsD {hs : List KD} {d : PyData} (h : isHands hs d = true) (h4 : hs.length ≤ 4) (h8 : ∀ x ∈ hs, askN x ≤ 8) : Shw (handsD d) 4 (4 * (8 * (6 * (2 * 2 + 2 * 2 + 3) + 2 * 6 + 3) + 2 * 8 + 3) + 2 * 4 + 3) := by
  simp only [isHands, Bool.and_eq_true, decide_eq_true_eq] at h
  obtain ⟨h1, h2, h3, h5⟩ := h
  obtain ⟨l0, l1, l2⟩ := listed_dat h1
  have tot : (dealsOf d).length ≤ 8 := by
    rw [← len_sum (dItems d)] at h3
    show ((dItems d).flatMap dItems).length ≤ 8
    omega
  refine shw_tuple (fun x hx => ?_) (by rw [List.length_map]; omega)
  obtain ⟨y, hy, rfl⟩ := List.mem_map.mp hx
  have ly : (dItems y).length ≤ 8 := by
    obtain ⟨i, hi, e⟩ := List.getElem_of_mem hy
    have hd1 : (dItems d)[i]? = some y := by rw [List.getElem?_eq_getElem hi, e]
    have z := flat_take (f := dItems) (l := dItems d) (j := i + 1)
    rw [flat_next hd1, List.length_append] at z
    have : ((dItems d).flatMap dItems).length ≤ 8 := tot
    omega
  refine shw_tuple (fun e0 he0 => ?_) (by rw [List.length_map]; exact ly)
  obtain ⟨e, he, rfl⟩ := List.mem_map.mp he0
  exact shw_dealD (List.all_eq_true.mp h5 e (List.mem_flatMap.mpr ⟨y, hy, he⟩)) h4 h8
end K81

end
section
/-! K81zdq: hands made longer, shorter; programs made again. -/
namespace K81
open PySem L2 Ow
open PySem.Spec PyProof.Rows
/-! ### laid data -/
def Lay (n : Nat) (d : PyData) : Prop := PyData.canLay0 d = true ∧ PyData.depth d ≤ n
theorem lay_tup {ds : List PyData} {n : Nat} (h : ∀ x ∈ ds, Lay n x) : Lay (n + 1) (.tuple ds) := by
  obtain ⟨h1, h2⟩ := lay_all.mpr h
  exact ⟨by simpa [PyData.canLay0] using h1, by simp only [PyData.depth]; omega⟩
theorem lay_item {ds : List PyData} {n : Nat} (h : Lay n (.tuple ds)) {x : PyData} (hx : x ∈ ds) : Lay n x := by
  obtain ⟨h1, h2⟩ := h
  simp only [PyData.depth] at h2
  have z := (lay_all (ds := ds) (n := n)).mp ⟨by simpa [PyData.canLay0] using h1, by omega⟩
  exact z x hx
theorem lay_shaped {d : PyData} {n : Nat} (h : Lay n d) (hn : n ≤ 64) : SeqAt.shaped d = true := by
  simp [SeqAt.shaped, h.1, Nat.le_trans h.2 hn]
theorem hands_lay {hs : List KD} {d : PyData} (h : isHands hs d = true) : Lay 4 (handsD d) := by
  simp only [isHands, Bool.and_eq_true, List.all_eq_true] at h
  obtain ⟨_, _, _, h4⟩ := h
  refine lay_tup fun x hx => ?_
  obtain ⟨y, hy, rfl⟩ := List.mem_map.mp hx
  refine lay_tup fun x hx => ?_
  obtain ⟨z, hz, rfl⟩ := List.mem_map.mp hx
  have hd := h4 z (List.mem_flatMap.mpr ⟨y, hy, hz⟩)
  simp only [isDeal, Bool.and_eq_true, List.all_eq_true] at hd
  refine lay_tup fun x hx => ?_
  obtain ⟨s, hs1, rfl⟩ := List.mem_map.mp hx
  obtain ⟨_, a, b, e⟩ := row_two (hd.2.1 s hs1)
  refine lay_tup fun x hx => ?_
  rw [e] at hx
  simp only [List.mem_cons, List.not_mem_nil, or_false] at hx
  rcases hx with rfl | rfl <;> exact ⟨rfl, Nat.le_refl _⟩
theorem hands_tOnly {hs : List KD} {d : PyData} (h : isHands hs d = true) : tOnly (handsD d) = true := by
  simp only [isHands, Bool.and_eq_true, List.all_eq_true] at h
  obtain ⟨_, _, _, h4⟩ := h
  rw [handsD, tOnly]
  refine tOnly_all fun x hx => ?_
  obtain ⟨y, hy, rfl⟩ := List.mem_map.mp hx
  rw [handD, tOnly]
  refine tOnly_all fun x hx => ?_
  obtain ⟨z, hz, rfl⟩ := List.mem_map.mp hx
  have hd := h4 z (List.mem_flatMap.mpr ⟨y, hy, hz⟩)
  simp only [isDeal, Bool.and_eq_true, List.all_eq_true] at hd
  rw [dealD, tOnly]
  refine tOnly_all fun x hx => ?_
  obtain ⟨s, hs1, rfl⟩ := List.mem_map.mp hx
  obtain ⟨_, a, b, e⟩ := row_two (hd.2.1 s hs1)
  rw [stepD, e]
  rfl
theorem KeptH.delq {K : W.Frag} {H : Hp} {q : Addr} {zs : List V} {x : V} {h : HouseV} (hq : H q = some (.lst zs)) (k : KeptH K H x h) : KeptH K (L2.del H q) x h := by
  obtain ⟨b, t, rfl, h1, h2⟩ := k
  refine ⟨b, t, rfl, SqT.delq h1 hq, Dp.delq hq ?_ h2⟩
  rw [tableD, tOnly]
  refine tOnly_all fun y hy => ?_
  obtain ⟨p, _, rfl⟩ := List.mem_map.mp hy
  exact tOnly_P4 p
/-- append to a list of a told length -/
def rAppendB (K : W.Frag) : V → List V → Hp → VK → Prop := fun x vs H Q => ∃ l xs fl zs y, x = .ref l ∧ vs = [y] ∧ H l = some (.lst xs) ∧ SqF K fl H l zs ∧ zs.length < sizeLine ∧ Q .non (upd H l (.lst (xs ++ [y])))
theorem mt_appendB {X : Cx} : MtM X "list.append" (rAppendB X.K) := by
  intro pins s σ H x vs v us Q I rx rv ⟨l, xs, fl, zs, y, ex, ev, hH, hz, lz, q⟩
  refine mt_append pins s σ H x vs v us Q I rx rv ⟨l, xs, y, ex, ev, hH, ?_, q⟩
  cases fl with
  | true =>
    rw [I.list_inj (SqL.of hH) hz]
    exact lz
  | false =>
    obtain ⟨its, _, ⟨o, h1, h2, _⟩, _⟩ := I.tuple hz
    obtain ⟨_, its2, n, _, _, e⟩ := I.lstM hH
    rw [e] at h1
    cases h1
    exact absurd h2 (by simp)
theorem SqF.butA {K : W.Frag} {H : Hp} {fl : Bool} {a r : Addr} {xs : List V} {o : HO} (h : SqF K fl H a xs) (c : a ≠ r) : SqF K fl (upd H r o) a xs := by
  cases fl with
  | true =>
    rcases h with (h | ⟨u, h⟩) | h
    · exact .inl (.inl (by rw [upd_ne c]; exact h))
    · exact .inl (.inr ⟨u, by rw [upd_ne c]; exact h⟩)
    · exact .inr h
  | false =>
    rcases h with (h | ⟨u, h⟩) | h
    · exact .inl (.inl (by rw [upd_ne c]; exact h))
    · exact .inl (.inr ⟨u, by rw [upd_ne c]; exact h⟩)
    · exact .inr h
/-! ### equal hands are as long -/
def lensL (d : PyData) : List Nat := (dItems d).map fun h => (dItems h).length
theorem eqvAll_len : ∀ xs ys : List PyData, PyData.eqvAll xs ys = true → xs.length = ys.length
  | [], [], _ => rfl
  | [], _ :: _, h => by simp [PyData.eqvAll] at h
  | _ :: _, [], h => by simp [PyData.eqvAll] at h
  | x :: xs, y :: ys, h => by
    rw [PyData.eqvAll, Bool.and_eq_true] at h
    rw [List.length_cons, List.length_cons, eqvAll_len xs ys h.2]
theorem eqv_lens {a b : PyData} (h : PyData.eqv (handsD a) (handsD b) = true) : lensL a = lensL b := by
  have h : PyData.eqvAll ((dItems a).map handD) ((dItems b).map handD) = true := by
    unfold handsD at h
    rw [PyData.eqv] at h
    exact h
  have key : ∀ xs ys : List PyData, PyData.eqvAll (xs.map handD) (ys.map handD) = true → xs.map (fun h => (dItems h).length) = ys.map fun h => (dItems h).length := by
    intro xs
    induction xs with
    | nil =>
      intro ys h
      cases ys with
      | nil => rfl
      | cons y ys => simp [PyData.eqvAll] at h
    | cons x xs ih =>
      intro ys h
      cases ys with
      | nil => simp [PyData.eqvAll] at h
      | cons y ys =>
        rw [List.map_cons, List.map_cons, PyData.eqvAll, Bool.and_eq_true] at h
        obtain ⟨h1, h2⟩ := h
        unfold handD at h1
        rw [PyData.eqv] at h1
        have z := eqvAll_len _ _ h1
        rw [List.length_map, List.length_map] at z
        rw [List.map_cons, List.map_cons, z, ih ys h2]
  exact key _ _ h
theorem eqv_not {a b : PyData} (h : lensL a ≠ lensL b) : PyData.eqv (handsD a) (handsD b) = false := by
  cases c : PyData.eqv (handsD a) (handsD b) with
  | false => rfl
  | true => exact absurd (eqv_lens c) h
/-! ### more, fewer -/
def dealO : PyData := .tuple [.tuple [.int 0, .int 0]]
theorem dealO_ok {hs : List KD} (h1 : 1 ≤ hs.length) (h0 : ∀ x ∈ hs, 1 ≤ askN x) : isDeal hs dealO = true := by
  have z : 1 ≤ askN (hs.getD 0 (.dat .none)) := by
    rw [List.getD_eq_getElem?_getD]
    rw [List.getElem?_eq_getElem (show 0 < hs.length by omega)]
    exact h0 _ (List.getElem_mem _)
  simp only [isDeal, dealO, listedK, kSeq, kItems, dSeq, dItems, isRow, stepIn, dInt, List.map_cons, List.map_nil, List.length_cons, List.length_nil, List.all_cons, List.all_nil, Bool.true_and, Bool.and_true, Bool.and_eq_true, decide_eq_true_eq]
  refine ⟨⟨by decide, by decide⟩, by simp, by omega, ?_⟩
  have e : (0 : Int).toNat = 0 := rfl
  rw [e]
  omega
theorem hands_tup {hs : List KD} {R : List PyData} : isHands hs (.tuple R) = true ↔ (1 ≤ R.length ∧ R.length ≤ 4) ∧ (∀ x ∈ R, dSeq x = true) ∧ (R.flatMap dItems).length ≤ 8 ∧ ∀ e ∈ R.flatMap dItems, isDeal hs e = true := by
  have e1 : (dItems (.tuple R)) = R := rfl
  have e2 : dealsOf (.tuple R) = R.flatMap dItems := rfl
  rw [isHands, e1, e2, ← len_sum]
  simp only [listedK, kSeq, kItems, dSeq, e1, List.length_map, Bool.true_and, Bool.and_eq_true, decide_eq_true_eq, List.all_eq_true]
  constructor
  · rintro ⟨⟨a, b⟩, c, d, e⟩
    exact ⟨⟨by omega, by omega⟩, c, by omega, e⟩
  · rintro ⟨⟨a, b⟩, c, d, e⟩
    exact ⟨⟨by omega, by omega⟩, c, by omega, e⟩
/-- the last hand given other deals -/
theorem hands_last {hs : List KD} {R0 : List PyData} {l : PyData} {L : List PyData} (h : isHands hs (.tuple (R0 ++ [l])) = true) (h1 : ∀ e ∈ L, isDeal hs e = true) (h2 : (R0.flatMap dItems).length + L.length ≤ 8) : isHands hs (.tuple (R0 ++ [.tuple L])) = true := by
  rw [hands_tup] at h ⊢
  obtain ⟨⟨a, b⟩, c, d, e⟩ := h
  simp only [List.length_append, List.length_cons, List.length_nil] at a b ⊢
  have fm : ∀ x : PyData, (R0 ++ [x]).flatMap dItems = R0.flatMap dItems ++ dItems x := fun x => by simp [List.flatMap_append]
  rw [fm] at d e ⊢
  refine ⟨⟨a, b⟩, fun x hx => ?_, ?_, fun x hx => ?_⟩
  · rcases List.mem_append.mp hx with hx | hx
    · exact c x (List.mem_append_left _ hx)
    · rw [List.mem_singleton.mp hx]
      rfl
  · rw [List.length_append]
    exact h2
  · rcases List.mem_append.mp hx with hx | hx
    · exact e x (List.mem_append_left _ hx)
    · exact h1 x hx
theorem hands_one_more {hs : List KD} {R : List PyData} (h : isHands hs (.tuple R) = true) (hl : R.length < 4) : isHands hs (.tuple (R ++ [.tuple []])) = true := by
  rw [hands_tup] at h ⊢
  obtain ⟨⟨a, b⟩, c, d, e⟩ := h
  have fm : (R ++ [PyData.tuple []]).flatMap dItems = R.flatMap dItems := by simp [List.flatMap_append, dItems]
  rw [fm]
  refine ⟨by simp only [List.length_append, List.length_cons, List.length_nil]; omega, fun x hx => ?_, d, e⟩
  rcases List.mem_append.mp hx with hx | hx
  · exact c x hx
  · rw [List.mem_singleton.mp hx]
    rfl
theorem lens_last {R0 : List PyData} {l l' : PyData} (h : (dItems l).length ≠ (dItems l').length) : lensL (.tuple (R0 ++ [l])) ≠ lensL (.tuple (R0 ++ [l'])) := by
  intro z
  simp only [lensL, dItems, List.map_append, List.map_cons, List.map_nil] at z
  have z := List.append_cancel_left z
  simp only [List.cons.injEq, and_true] at z
  exact h z
theorem lens_more {R : List PyData} {l : PyData} : lensL (.tuple R) ≠ lensL (.tuple (R ++ [l])) := by
  intro z
  have z := congrArg List.length z
  simp [lensL, dItems] at z
theorem lens_hands (d : PyData) : lensL (handsD d) = lensL d := by
  simp only [lensL, handsD, dItems, List.map_map]
  exact List.map_congr_left fun x _ => by simp [handD, dItems]
theorem deals_map (X : List PyData) : (X.map handD).flatMap dItems = (X.flatMap dItems).map dealD := by
  rw [List.map_flatMap, List.flatMap_map]
  rfl
theorem more_one {hs : List KD} {d x : PyData} {X0 : List PyData} (e : dItems d = X0 ++ [x]) (hH : isHands hs (handsD d) = true) (tot : (dealsOf d).length < 8) (ho : isDeal hs dealO = true) :
    isHands hs (.tuple (X0.map handD ++ [.tuple ((dItems x).map dealD ++ [dealO])])) = true ∧ PyData.eqv (handsD d) (handsD (.tuple (X0.map handD ++ [.tuple ((dItems x).map dealD ++ [dealO])]))) = false := by
  have eh : handsD d = .tuple (X0.map handD ++ [handD x]) := by rw [handsD, e, List.map_append]; rfl
  have hd2 : dealsOf d = X0.flatMap dItems ++ dItems x := by rw [dealsOf, e, List.flatMap_append]; simp
  rw [eh] at hH
  have hH2 := hands_tup.mp hH
  rw [hd2, List.length_append] at tot
  refine ⟨hands_last hH (fun y hy => ?_) (by rw [deals_map, List.length_map, List.length_append, List.length_map, List.length_singleton]; omega), eqv_not ?_⟩
  · rcases List.mem_append.mp hy with hy | hy
    · exact hH2.2.2.2 y (List.mem_flatMap.mpr ⟨handD x, List.mem_append_right _ (List.mem_singleton.mpr rfl), hy⟩)
    · rw [List.mem_singleton.mp hy]
      exact ho
  · rw [← lens_hands, eh]
    exact lens_last (by simp [handD, dItems])
theorem more_two {hs : List KD} {d x y : PyData} {X0 Y0 : List PyData} (e : dItems d = X0 ++ [x]) (hH : isHands hs (handsD d) = true) (ey : dItems x = Y0 ++ [y]) :
    isHands hs (.tuple (X0.map handD ++ [.tuple (Y0.map dealD)])) = true ∧ PyData.eqv (handsD d) (handsD (.tuple (X0.map handD ++ [.tuple (Y0.map dealD)]))) = false := by
  have eh : handsD d = .tuple (X0.map handD ++ [handD x]) := by rw [handsD, e, List.map_append]; rfl
  rw [eh] at hH
  have hH2 := hands_tup.mp hH
  have tot := hH2.2.2.1
  rw [List.flatMap_append, List.length_append] at tot
  have ex : ([handD x].flatMap dItems) = (Y0.map dealD) ++ [dealD y] := by
    rw [List.flatMap_singleton]
    show (dItems x).map dealD = _
    rw [ey, List.map_append]
    rfl
  rw [ex, List.length_append, List.length_singleton] at tot
  refine ⟨hands_last hH (fun z hz => ?_) (by omega), eqv_not ?_⟩
  · refine hH2.2.2.2 z ?_
    rw [List.flatMap_append, ex]
    exact List.mem_append_right _ (List.mem_append_left _ hz)
  · rw [← lens_hands, eh]
    refine lens_last ?_
    show ((dItems x).map dealD).length ≠ (Y0.map dealD).length
    rw [ey]
    simp
theorem more_three {hs : List KD} {d : PyData} (hH : isHands hs (handsD d) = true) (hl : ((dItems d).map handD).length < 4) :
    isHands hs (.tuple ((dItems d).map handD ++ [.tuple []])) = true ∧ PyData.eqv (handsD d) (handsD (.tuple ((dItems d).map handD ++ [.tuple []]))) = false := by
  refine ⟨hands_one_more hH hl, eqv_not ?_⟩
  rw [← lens_hands]
  exact lens_more
/-- as many owners as deals -/
theorem owners_le {d : PyData} (tot : (dealsOf d).length ≤ 8) : (ownersL d).length ≤ 8 := by
  have z : ∀ n, n ≤ (dItems d).length → ((List.range n).flatMap (ownersF (dItems d))).length = (((dItems d).take n).flatMap dItems).length := by
    intro n
    induction n with
    | zero => intro _; rfl
    | succ n ih =>
      intro hn
      have hd1 : (dItems d)[n]? = some (dItems d)[n] := List.getElem?_eq_getElem (by omega)
      rw [flat_range, List.length_append, ih (by omega), flat_next hd1, List.length_append, ownersF, List.length_replicate, List.getD_eq_getElem?_getD, hd1]
      rfl
  have z2 := z _ (Nat.le_refl _)
  rw [List.take_length] at z2
  show ((List.range (dItems d).length).flatMap (ownersF (dItems d))).length ≤ 8
  rw [z2]
  exact tot
theorem shw_dealsD {hs : List KD} {d : PyData} (h : isHands hs d = true) (tot : (dealsOf d).length ≤ 8) (h4 : hs.length ≤ 4) (h8 : ∀ x ∈ hs, askN x ≤ 8) : Shw (dealsD d) 3 (8 * (6 * (2 * 2 + 2 * 2 + 3) + 2 * 6 + 3) + 2 * 8 + 3) := by
  simp only [isHands, Bool.and_eq_true] at h
  refine shw_tuple (fun x hx => ?_) (by rw [List.length_map]; exact tot)
  obtain ⟨e, he, rfl⟩ := List.mem_map.mp hx
  exact shw_dealD (List.all_eq_true.mp h.2.2.2 e he) h4 h8
theorem shw_owners {hs : List KD} {d : PyData} (h : isHands hs d = true) (tot : (dealsOf d).length ≤ 8) : Shw (.tuple ((ownersL d).map PyData.int)) 1 (8 * 2 + 2 * 8 + 3) := by
  simp only [isHands, Bool.and_eq_true] at h
  obtain ⟨l0, l1, l2⟩ := listed_dat h.1
  refine shw_tuple (k := 0) (fun x hx => ?_) (by rw [List.length_map]; exact owners_le tot)
  obtain ⟨o, ho, rfl⟩ := List.mem_map.mp hx
  obtain ⟨j, hj, ho⟩ := List.mem_flatMap.mp ho
  obtain ⟨_, rfl⟩ := List.mem_replicate.mp ho
  have := List.mem_range.mp hj
  exact shw_small (by omega) (by omega)
/-! ### programs made again -/
theorem askN_due (hks : List HK) : (hks.map dueH).map askN = hks.map fun h => h.2.asks.length := by
  rw [List.map_map]
  rfl
section
variable {K : W.Frag} {H : Hp} {du : Addr} {dvs : List V} {hks : List HK} {v : V} {d : PyData} {Q : VK} {E : XK}
theorem due_kp (hdu : SqT K H du dvs) (hE : Each (fun x h => KeptH K H x h.1) dvs hks) (hok : ∀ h ∈ hks, HkOk h ∧ KindAt K H h.1.1 h.2) : Kp K H (.ref du) (.seq false (hks.map dueH)) := by
  refine .seq hdu (kpall_of dueH ⟨hE.1, fun i x hx => ?_⟩)
  obtain ⟨h, h1, h2⟩ := hE.2 i x hx
  exact ⟨h, h1, kept_kp h2 (hok h (List.mem_of_getElem? h1)).2⟩
theorem due_none (hok : ∀ h ∈ hks, HkOk h) (l1 : 1 ≤ hks.length) (l4 : hks.length ≤ 4) (hh : isHands (hks.map dueH) d = true) : dueK (.seq false (hks.map dueH)) d = none := by
  have hl : listedK (.seq false (hks.map dueH)) 1 4 = true := by
    simp only [listedK, kSeq, kItems, List.length_map, Bool.true_and, Bool.and_eq_true, decide_eq_true_eq]
    omega
  have ha : (kItems (.seq false (hks.map dueH))).all isHouse = true := by
    rw [List.all_eq_true]
    intro x hx
    obtain ⟨h, h1, rfl⟩ := List.mem_map.mp hx
    exact dueH_house (hok h h1)
  rw [dueK, if_pos (by rw [hl, ha]; rfl)]
  exact if_pos hh
theorem _root_.Ow.DpAll.snoc_inv {K : W.Frag} {H : Hp} {vs : List V} {v : V} {ds : List PyData} {d : PyData} (h : DpAll K H (vs ++ [v]) (ds ++ [d])) : DpAll K H vs ds ∧ Dp K H v d := by
  have l := DpAll.length h
  simp only [List.length_append, List.length_singleton, Nat.add_right_cancel_iff] at l
  have h1 := DpAll.take vs.length h
  have h2 := DpAll.drop vs.length h
  rw [List.take_left, l, List.take_left] at h1
  rw [List.drop_left, l, List.drop_left] at h2
  cases h2 with
  | cons p r => exact ⟨h1, p⟩
theorem cutV_init (xs : List V) (v : V) : cutV (xs ++ [v]) none (some (-1)) = xs := by
  have e : HT.sIx (xs ++ [v]).length (xs ++ [v]).length (some (-1)) = xs.length := by
    show (if (-1 : Int) < 0 then ((-1 : Int) + ((xs ++ [v]).length : Int)).toNat else min (-1 : Int).toNat (xs ++ [v]).length) = _
    rw [if_pos (by decide), List.length_append, List.length_singleton]
    omega
  unfold cutV
  rw [e, HT.sIx_none, List.drop_zero, Nat.sub_zero, List.take_left]
theorem rd_init {a : Addr} {xs : List V} {v : V} {Q : VK} (h : SqT K H a (xs ++ [v])) (q : ∀ p H', Ext H H' → SqT K H' p xs → Q (.ref p) H') : rSlA K (.ref a) none (some (-1)) H Q := by
  refine ⟨a, xs ++ [v], rfl, h, fun z => ?_, fun _ p np => ?_⟩
  · have e : HT.sIx (xs ++ [v]).length (xs ++ [v]).length (some (-1)) = xs.length := by
      show (if (-1 : Int) < 0 then ((-1 : Int) + ((xs ++ [v]).length : Int)).toNat else min (-1 : Int).toNat (xs ++ [v]).length) = _
      rw [if_pos (by decide), List.length_append, List.length_singleton]
      omega
    have z2 := z.2
    rw [e, List.length_append, List.length_singleton] at z2
    omega
  · rw [cutV_init]
    exact q p _ (Ext.upd np) (SqT.of upd_same)
theorem rd_cat {a b : Addr} {xs ys : List V} {Q : VK} (ha : SqT K H a xs) (hb : SqT K H b ys) (hz : xs.length + ys.length ≤ 600) (q : ∀ p H', Ext H H' → SqT K H' p (xs ++ ys) → Q (.ref p) H') : rCatA K (.ref a) (.ref b) H Q := by
  refine ⟨a, b, xs, ys, rfl, rfl, ha, hb, Nat.le_trans hz (by decide), fun z => ?_, fun _ z => ?_, fun _ _ p np => q p _ (Ext.upd np) (SqT.of upd_same)⟩
  · subst z
    exact q b H Ext.rfl' hb
  · subst z
    rw [List.append_nil] at q
    exact q a H Ext.rfl' ha
theorem made_again (hdu : SqT K H du dvs) (hE : Each (fun x h => KeptH K H x h.1) dvs hks) (hok : ∀ h ∈ hks, HkOk h ∧ KindAt K H h.1.1 h.2) (l1 : 1 ≤ hks.length) (l4 : hks.length ≤ 4) (hv : Vd K H v d) (hh : isHands (hks.map dueH) d = true)
    (q : ∀ p G, Ext H G → H p = none → ProgAt K G p (hks.map Prod.fst) d → Q (.ref p) G) : ∀ x dx, H x = none → H dx = none → dx ≠ x → sp_Program_init K [.ref x, .ref du, v] (upd (upd H dx (.own x)) x (.ins (CP K) dx [])) (fun v H2 => v = .non ∧ Q (.ref x) H2) E := by
  intro p dx np ndx ne
  have ep : Ext H (L2.del (upd (upd H dx (.own p)) p (.ins (CP K) dx [])) p) := ext_off ((Ext.upd ndx).trans (Ext.upd (by rw [upd_ne (fun z => ne z.symm)]; exact np))) np
  have dn := due_none (fun h hh => (hok h hh).1) l1 l4 hh
  refine ⟨p, dx, _, _, _, d, rfl, upd_same, (due_kp hdu hE hok).ext ep, fun x hx => ?_, Vd.ext ep hv, fun y hy => ?_, fun _ => ⟨false, du, dvs, hks.map Prod.fst, rfl, hdu.ext ep, ⟨by rw [List.length_map]; exact hE.1, fun i x e => ?_⟩, by rw [List.length_map]; exact l4, fun H' e2 hPr => ⟨rfl, q _ _ (ep.trans ((ExtP.dels e2).trans ext_del)) np hPr⟩⟩⟩
  · obtain ⟨h, h1, rfl⟩ := List.mem_map.mp hx
    exact dueH_ok (hok h h1).1
  · rw [dn] at hy
    cases hy
  · obtain ⟨h, h1, h2⟩ := hE.2 i x e
    have hm := hok h (List.mem_of_getElem? h1)
    exact ⟨h.1, by rw [List.getElem?_map, h1]; rfl, ((kept_given h2 hm.1 hm.2).ext ep).given⟩
end
end K81

end
section
/-! K81ze: a program made right. -/
namespace K81
open PySem L2 Ow
open PySem.Spec PyProof.Rows
section
variable {w : World} {K : W.Frag} {mg : Str → Option Value} {base : Heap}
def sp_law_made_right (K : W.Frag) : Sp := fun vs H Q _ => ∃ t xs r ys hd d, vs = [.ref t, .ref r] ∧ t ≠ r ∧ H t = some (.lst xs) ∧ H r = some (.lst ys) ∧ Kp K H (.ref t) hd ∧ (∀ x ∈ kItems hd, okH x) ∧ Dp K H (.ref r) d ∧ dueK hd d = none ∧ ∀ H', Ext (L2.del (L2.del H t) r) H' → Q (.bl true) H'
theorem b_law_made_right (T : Txt K mg) {A : Around} {outer : List Env} {E : XK} (hgd : A.guards = some []) (f : Addr) (cdv : Value) (s : Shared) (H : Hp) (vs : List V) (Q : VK) (hr : Room 10 (A.deeper (envOfC "_law_made_right" (defScope s_law_made_right) s.heap.objs.size f cdv))) (h : sp_law_made_right K vs H Q E) :
    ∃ t, PSs (cxOf CX0 prg w K mg base ["_law_houses_here", "_law_hands_here", "_law_made", "_law_due_here", "_law_rows", "_law_deals", "_law_owners", "_law_at", "_law_hand", "_law_more", "_law_house", "_law_pair", "_law_deal_here", "_law_step", "_law_row"] "_law_made_right" (defScope s_law_made_right) f cdv A outer s H E) (defBody s_law_made_right) t ∧ t { nx := fun _ H' => Q .non H', rt := Q } (L2.start ["_law_houses_here", "_law_hands_here", "_law_made", "_law_due_here", "_law_rows", "_law_deals", "_law_owners", "_law_at", "_law_hand", "_law_more", "_law_house", "_law_pair", "_law_deal_here", "_law_step", "_law_row"] vs) H := by
  have nd := sc_law_made_right.nd
  obtain ⟨t0, xs, r, ys, hd, d, rfl, ctr, ht, hrr, hu, hok, hv, hdue, q⟩ := h
  obtain ⟨fP, fdP, kF, kM, kB⟩ := k_Program_init (w := w) (base := base) T
  refine ⟨_, PSs.nox (pss_cons (ps_set (i := 2) nd rfl (Or.inl rfl) (pe_makeK0 kM kF (hr.mono (by decide)) (by rfl) T.g_Program kB passN (pk_cons (pv 1) (pk_cons (pv 0) pk_nil))))
      (pss_cons (ps_set (i := 3) nd rfl (Or.inl rfl) (pe_callTy (call_tupK (K := K) rfl) (by rfl) T.f_tuple (by decide +kernel) (pa_cons (pe_lc (own := [("_law_house", 10)]) (tt := tYes) (g := gName 10) rfl nd (pi_seqF (pv 0)) (blkOk_by (own := [("_law_house", 10)]) (N := ["_law_houses_here", "_law_hands_here", "_law_made", "_law_due_here", "_law_rows", "_law_deals", "_law_owners", "_law_at", "_law_hand", "_law_more", "_law_house", "_law_pair", "_law_deal_here", "_law_step", "_law_row"]) (sc := defScope s_law_made_right) (by decide +kernel)) (fun _ _ _ _ _ => (pg_name (i := 10) nd rfl (Or.inl rfl))) (fun _ _ _ _ _ => pts_nil) (fun _ _ _ _ _ => (pe_tup (pa_cons (pe_ix (ixK (K := K) rIx rfl ix_seq) (pv 10) pe_int (fun _ _ => rfl)) (pa_cons (pe_ix (ixK (K := K) rIx rfl ix_seq) (pv 10) pe_int (fun _ _ => rfl)) (pa_cons (pe_callTy (call_tupK (K := K) rfl) (by rfl) T.f_tuple (by decide +kernel) (pa_cons (pe_lc (own := [("_law_pair", 11)]) (tt := tYes) (g := gName 11) rfl nd (pi_seqFK (K := K) rfl (pe_ix (ixK (K := K) rIx rfl ix_seq) (pv 10) pe_int (fun _ _ => rfl))) (blkOk_by (own := [("_law_pair", 11)]) (N := ["_law_houses_here", "_law_hands_here", "_law_made", "_law_due_here", "_law_rows", "_law_deals", "_law_owners", "_law_at", "_law_hand", "_law_more", "_law_house", "_law_pair", "_law_deal_here", "_law_step", "_law_row"]) (by rfl)) (fun _ _ _ _ _ => (pg_name (i := 11) nd rfl (Or.inl rfl))) (fun _ _ _ _ _ => pts_nil) (fun _ _ _ _ _ => (pe_tup (pa_cons (pe_callTy (call_tupK (K := K) rfl) (by rfl) T.f_tuple (by decide +kernel) (pa_cons (pe_ix (ixK (K := K) rIx rfl ix_seq) (pv 11) pe_int (fun _ _ => rfl)) pa_nil)) (pa_cons (pe_callTy (call_tupK (K := K) rfl) (by rfl) T.f_tuple (by decide +kernel) (pa_cons (pe_ix (ixK (K := K) rIx rfl ix_seq) (pv 11) pe_int (fun _ _ => rfl)) pa_nil)) pa_nil))))) pa_nil)) pa_nil)))))) pa_nil)))
      (pss_cons (ps_set (i := 4) nd rfl (Or.inl rfl) (pe_callTy (call_tupK (K := K) rfl) (by rfl) T.f_tuple (by decide +kernel) (pa_cons (pe_lc (own := [("_law_hand", 8)]) (tt := tYes) (g := gName 8) rfl nd (pi_seqF (pv 1)) (blkOk_by (own := [("_law_hand", 8)]) (N := ["_law_houses_here", "_law_hands_here", "_law_made", "_law_due_here", "_law_rows", "_law_deals", "_law_owners", "_law_at", "_law_hand", "_law_more", "_law_house", "_law_pair", "_law_deal_here", "_law_step", "_law_row"]) (sc := defScope s_law_made_right) (by decide +kernel)) (fun _ _ _ _ _ => (pg_name (i := 8) nd rfl (Or.inl rfl))) (fun _ _ _ _ _ => pts_nil) (fun _ _ _ _ _ => (pe_callTy (call_tupK (K := K) rfl) (by rfl) T.f_tuple (by decide +kernel) (pa_cons (pe_lc (own := [("_law_deal_here", 12)]) (tt := tYes) (g := gName 12) rfl nd (pi_seqFK (K := K) rfl (pv 8)) (blkOk_by (own := [("_law_deal_here", 12)]) (N := ["_law_houses_here", "_law_hands_here", "_law_made", "_law_due_here", "_law_rows", "_law_deals", "_law_owners", "_law_at", "_law_hand", "_law_more", "_law_house", "_law_pair", "_law_deal_here", "_law_step", "_law_row"]) (by rfl)) (fun _ _ _ _ _ => (pg_name (i := 12) nd rfl (Or.inl rfl))) (fun _ _ _ _ _ => pts_nil) (fun _ _ _ _ _ => (pe_callTy (call_tupK (K := K) rfl) (by rfl) T.f_tuple (by decide +kernel) (pa_cons (pe_lc (own := [("_law_step", 13)]) (tt := tYes) (g := gName 13) rfl nd (pi_seqFK (K := K) rfl (pv 12)) (blkOk_by (own := [("_law_step", 13)]) (N := ["_law_houses_here", "_law_hands_here", "_law_made", "_law_due_here", "_law_rows", "_law_deals", "_law_owners", "_law_at", "_law_hand", "_law_more", "_law_house", "_law_pair", "_law_deal_here", "_law_step", "_law_row"]) (by rfl)) (fun _ _ _ _ _ => (pg_name (i := 13) nd rfl (Or.inl rfl))) (fun _ _ _ _ _ => pts_nil) (fun _ _ _ _ _ => (pe_callTy (call_tupK (K := K) rfl) (by rfl) T.f_tuple (by decide +kernel) (pa_cons (pv 13) pa_nil)))) pa_nil)))) pa_nil)))) pa_nil)))
      (pss_cons (ps_if (PW.pt (pw_or (pt_cmpR (op_neq (n := 1) hr.x23) (pe_fld (pv 2) rfl) (pv 3) (nomark _)) (pw_or (pt_cmpR op_ne (pe_callB (call_reprD hgd hr) (by rfl) T.f_repr (by decide +kernel) (pa_cons (pe_lc (own := [("_law_row", 14)]) (tt := tYes) (g := gName 14) rfl nd (pi_seqF (pe_fld (pv 2) rfl)) (blkOk_by (own := [("_law_row", 14)]) (N := ["_law_houses_here", "_law_hands_here", "_law_made", "_law_due_here", "_law_rows", "_law_deals", "_law_owners", "_law_at", "_law_hand", "_law_more", "_law_house", "_law_pair", "_law_deal_here", "_law_step", "_law_row"]) (sc := defScope s_law_made_right) (by decide +kernel)) (fun _ _ _ _ _ => (pg_name (i := 14) nd rfl (Or.inl rfl))) (fun _ _ _ _ _ => pts_nil) (fun _ _ _ _ _ => (pe_slice (slK (K := K) rSlA rfl sl_tupA) (pv 14) (po_some pe_int) po_none))) pa_nil)) (pe_callB (call_reprD hgd hr) (by rfl) T.f_repr (by decide +kernel) (pa_cons (pe_lc (own := [("_law_row", 14)]) (tt := tYes) (g := gName 14) rfl nd (pi_seqF (pv 3)) (blkOk_by (own := [("_law_row", 14)]) (N := ["_law_houses_here", "_law_hands_here", "_law_made", "_law_due_here", "_law_rows", "_law_deals", "_law_owners", "_law_at", "_law_hand", "_law_more", "_law_house", "_law_pair", "_law_deal_here", "_law_step", "_law_row"]) (sc := defScope s_law_made_right) (by decide +kernel)) (fun _ _ _ _ _ => (pg_name (i := 14) nd rfl (Or.inl rfl))) (fun _ _ _ _ _ => pts_nil) (fun _ _ _ _ _ => (pe_slice (slK (K := K) rSlA rfl sl_tupA) (pv 14) (po_some pe_int) po_none))) pa_nil)) (nomark _)) (pw_or1 (pt_cmpR op_ne (pe_callB (call_reprD hgd hr) (by rfl) T.f_repr (by decide +kernel) (pa_cons (pe_fld (pv 2) rfl) pa_nil)) (pe_callB (call_reprD hgd hr) (by rfl) T.f_repr (by decide +kernel) (pa_cons (pv 4) pa_nil)) (nomark _)))))) (pss_one (ps_ret pe_bl)) pss_nil)
      (pss_cons (ps_par (i := 5) (j := 6) rfl nd rfl rfl (by decide) rfl rfl (pa_cons (pe_lst pa_nil) (pa_cons (pe_lst pa_nil) pa_nil)) (by rfl))
      (pss_cons (ps_for PassesOwn.never rfl (pi_enumT (by rfl) T.f_enumerate (pa_cons (pv 4) pa_nil)) (pg_tup (by rfl) (pgs_cons (pg_name (i := 7) nd rfl (Or.inl rfl)) (pgs_cons (pg_name (i := 8) nd rfl (Or.inl rfl)) pgs_nil))) (pss_one (ps_par (i := 5) (j := 6) rfl nd rfl rfl (by decide) rfl rfl (pa_cons (pe_op op_cat (pv 5) (pe_callTy call_list_of (by rfl) T.f_list (by decide +kernel) (pa_cons (pv 8) pa_nil))) (pa_cons (pe_op op_cat (pv 6) (pe_op op_rep (pe_lst (pa_cons (pv 7) pa_nil)) (pe_callB call_len_seq (by rfl) T.f_len (by decide +kernel) (pa_cons (pv 8) pa_nil)))) pa_nil)) (by rfl))))
      (pss_cons (ps_if (PW.pt (pw_or (pt_cmpR op_ne (pe_callB (call_reprD hgd hr) (by rfl) T.f_repr (by decide +kernel) (pa_cons (pe_fld (pv 2) rfl) pa_nil)) (pe_callB (call_reprD hgd hr) (by rfl) T.f_repr (by decide +kernel) (pa_cons (pe_callTy (call_tupK (K := K) rfl) (by rfl) T.f_tuple (by decide +kernel) (pa_cons (pv 5) pa_nil)) pa_nil)) (nomark _)) (pw_or (pt_cmpR op_ne (pe_callB (call_reprD hgd hr) (by rfl) T.f_repr (by decide +kernel) (pa_cons (pe_fld (pv 2) rfl) pa_nil)) (pe_callB (call_reprD hgd hr) (by rfl) T.f_repr (by decide +kernel) (pa_cons (pe_callTy (call_tupK (K := K) rfl) (by rfl) T.f_tuple (by decide +kernel) (pa_cons (pv 6) pa_nil)) pa_nil)) (nomark _)) (pw_or (pt_not (pt_cmpR (op_eqOwn (c_Program_eq T) (hr.mono (by decide)) pass0) (pv 2) (pe_mk (c_Program_init T) (hr.mono (by decide)) passN (pa_cons (pv 3) (pa_cons (pv 4) pa_nil))) (nomark _))) (pw_or1 (pt_cmpR (op_eqOwn (c_Program_eq T) (hr.mono (by decide)) pass0) (pv 2) (pv 3) (nomark _))))))) (pss_one (ps_ret pe_bl)) pss_nil)
      (pss_cons (ps_set (i := 9) nd rfl (Or.inl rfl) (pe_ifExp (pt_cmpR op_lt (pe_callB call_len_seq (by rfl) T.f_len (by decide +kernel) (pa_cons (pv 5) pa_nil)) pe_int (nomark _)) (pe_op op_catA (pe_slice sl_tupA (pv 4) po_none (po_some (pe_un un_neg pe_int))) (pe_tup (pa_cons (pe_op op_catA (pe_ix ix_tup (pv 4) (pe_un un_neg pe_int) (fun _ _ => rfl)) (pe_tup (pa_cons (pe_tup (pa_cons (pe_tup (pa_cons pe_int (pa_cons pe_int pa_nil))) pa_nil)) pa_nil))) pa_nil))) (pe_ifExp (pt_cmpR (op_neD hr.units) (pe_ix ix_tup (pv 4) (pe_un un_neg pe_int) (fun _ _ => rfl)) (pe_tup pa_nil) (nomark _)) (pe_op op_catA (pe_slice sl_tupA (pv 4) po_none (po_some (pe_un un_neg pe_int))) (pe_tup (pa_cons (pe_slice sl_tupA (pe_ix ix_tup (pv 4) (pe_un un_neg pe_int) (fun _ _ => rfl)) po_none (po_some (pe_un un_neg pe_int))) pa_nil))) (pe_op op_catA (pv 4) (pe_tup (pa_cons (pe_tup pa_nil) pa_nil))))))
      (pss_cons (ps_if (PW.pt (pw_and (pt_cmpR op_lt (pe_callB call_len_seq (by rfl) T.f_len (by decide +kernel) (pa_cons (pv 9) pa_nil)) pe_int (nomark _)) (pw_and1 (pt_cmpR (op_eqOwn (c_Program_eq T) (hr.mono (by decide)) pass0) (pv 2) (pe_mk (c_Program_init T) (hr.mono (by decide)) passN (pa_cons (pv 3) (pa_cons (pv 9) pa_nil))) (nomark _))))) (pss_one (ps_ret pe_bl)) pss_nil)
      (pss_cons (ps_if (pt_val (pe_callB call_isi (by rfl) T.f_isinstance (by decide +kernel) (pa_cons (pv 1) (pa_cons (pe_bltn (v := .ty "list") (by rfl) T.f_list (by decide +kernel) rfl) pa_nil)))) (pss_one (ps_expr (pe_bm PySem.F.plainAttrs_list PySem.F.slot_list_append PySem.F.type_list_append mt_appendB (pv 1) (pa_cons (pe_lst pa_nil) pa_nil)))) pss_nil)
      (pss_cons (ps_if (pt_val (pe_callB call_isi (by rfl) T.f_isinstance (by decide +kernel) (pa_cons (pv 0) (pa_cons (pe_bltn (v := .ty "list") (by rfl) T.f_list (by decide +kernel) rfl) pa_nil)))) (pss_one (ps_expr (pe_bm PySem.F.plainAttrs_list PySem.F.slot_list_append PySem.F.type_list_append mt_appendB (pv 0) (pa_cons pe_non pa_nil)))) pss_nil)
      (pss_one (ps_ret (pe_and (pe_cmpR op_eq (pe_callB (call_reprD hgd hr) (by rfl) T.f_repr (by decide +kernel) (pa_cons (pe_fld (pv 2) rfl) pa_nil)) (pe_callB (call_reprD hgd hr) (by rfl) T.f_repr (by decide +kernel) (pa_cons (pv 4) pa_nil)) (nomark _)) (pe_one (pe_cmpR (op_eqq (n := 1) hr.x23) (pe_fld (pv 2) rfl) (pv 3) (nomark _))))))))))))))))), ?_⟩
  obtain ⟨hl14, hall, hH⟩ : listedK hd 1 4 = true ∧ (kItems hd).all isHouse = true ∧ isHands (kItems hd) d = true := by
    unfold dueK at hdue
    split at hdue
    · rename_i c
      simp only [Bool.and_eq_true] at c
      split at hdue
      · exact ⟨c.1, c.2, by assumption⟩
      · cases hdue
    · cases hdue
  have hl14' := hl14
  simp only [listedK, Bool.and_eq_true, decide_eq_true_eq] at hl14'
  obtain ⟨hksq, hk1, hk4⟩ := hl14'
  obtain ⟨fl, tz, zs, e, hx, hA⟩ := kseq_of hu hksq
  obtain rfl : t0 = tz := by cases e; rfl
  obtain ⟨hks, hGK, hAsk⟩ := houses_givenK hA hok hall
  have lk4 : hks.length ≤ 4 := by
    have := KpAll.length hA
    have := hGK.1
    omega
  refine cut_tseq (fun σ' G => ∃ p, σ' = [some (.ref t0), some (.ref r), some (.ref p), none, none, none, none, none, none, none, none, none, none, none, none] ∧ Ext H G ∧ H p = none ∧ ProgAt K G p (hks.map Prod.fst) d) (fun D1 k1 => ?_) fun σ' G1 ⟨p, eσ, e1, np, hP⟩ => ?_
  · dsimp only [tRet, tRetN, tSeq, tAsg, tOp, tVar, tC, tCB, tCons, tNil, tAndV, tOrV, tNotV, tAnd, tOr, tNot, tTest, tIf, tIfS, tB, tChain, tSl, tPart, tNoPart, tLst, tTup, tFld, tCl, tMt, tMk, gName, tNext, tBM, tBM0, tUn, tSub, tPar, tPar3, gTup, gCons, gNil, tDrop, tMkS, tM1, sFld, StX.tStar, tYes, gSub, cxOf, Cx.wish, Cx.nox, Cx.blk]
    dsimp only [tMakeK]
    refine ⟨_, rfl, _, rfl, rfl, rfl, fun p dx np ndx ne => ?_⟩
    have ep : Ext H (L2.del (upd (upd H dx (.own p)) p (.ins (CP K) dx [])) p) := ext_off ((Ext.upd ndx).trans (Ext.upd (by rw [upd_ne (fun z => ne z.symm)]; exact np))) np
    refine ⟨p, dx, _, hd, _, d, rfl, upd_same, hu.ext ep, hok, Vd.ext ep (.of hv), fun y hy => ?_, fun _ => ⟨fl, t0, zs, hks.map Prod.fst, rfl, hx.ext ep, ⟨by rw [List.length_map]; exact hGK.1, fun i x e => by
      obtain ⟨h, h1, h2⟩ := hGK.2 i x e
      exact ⟨h.1, by rw [List.getElem?_map, h1]; rfl, (h2.ext ep).given⟩⟩, by rw [List.length_map]; exact lk4, fun H' e2 hPr => ⟨rfl, k1 _ _ ⟨p, rfl, ep.trans ((ExtP.dels e2).trans ext_del), np, hPr⟩⟩⟩⟩
    rw [hdue] at hy
    cases hy
  subst eσ
  have hx1 := hx.ext e1
  have hGK1 : Each (GivenK K G1) zs hks := hGK.imp fun x h z => z.ext e1
  refine cut_tseq (fun σ' G => ∃ du dvs, σ' = [some (.ref t0), some (.ref r), some (.ref p), some (.ref du), none, none, none, none, none, none, none, none, none, none, none] ∧ Ext G1 G ∧ SqT K G du dvs ∧ Each (fun x h => KeptH K G x h.1) dvs hks) (fun D1 k1 => ?_) fun σ' G2 ⟨du, dvs, eσ, e2, hdu, hdE⟩ => ?_
  · dsimp only [tRet, tRetN, tSeq, tAsg, tOp, tVar, tC, tCB, tCons, tNil, tAndV, tOrV, tNotV, tAnd, tOr, tNot, tTest, tIf, tIfS, tB, tChain, tSl, tPart, tNoPart, tLst, tTup, tFld, tCl, tMt, tMk, gName, tNext, tBM, tBM0, tUn, tSub, tPar, tPar3, gTup, gCons, gNil, tDrop, tMkS, tM1, sFld, StX.tStar, tYes, gSub, cxOf, Cx.wish, Cx.nox, Cx.blk]
    refine ⟨_, rfl, fl, t0, zs, rfl, hx1, fun D hD => ?_⟩
    refine lc_mapH (fun (h : HK) y G => KeptH K G y h.1) (fun h y G G' e z => z.ext e) hx1 hGK1.1 (small_of (m := 600) (by omega)) hD ?_ fun us G hy1 hy2 e hGD => ?_
    · intro i h x G e nz hx2 hd1 Q2 k2
      obtain ⟨h', hh', fx, b, t, td, rfl, hsq, hka, hdp, hti, hlt, hcp⟩ := hGK1.2 i x hx2
      rw [hd1] at hh'
      cases hh'
      have hti := tail_table hti
      simp only [isTable, Bool.and_eq_true] at hti
      obtain ⟨hts, htc, _⟩ := hti
      obtain ⟨f1, a1, ws, rfl, hws, hwA⟩ := seq_of (Vd.of hdp) hts
      have eG1 : Ext G1 G := e.trans ext_del
      dsimp only [tRet, tRetN, tSeq, tAsg, tOp, tVar, tC, tCB, tCons, tNil, tAndV, tOrV, tNotV, tAnd, tOr, tNot, tTest, tIf, tIfS, tB, tChain, tSl, tPart, tNoPart, tLst, tTup, tFld, tCl, tMt, tMk, gName, tNext, tBM, tBM0, tUn, tSub, tPar, tPar3, gTup, gCons, gNil, tDrop, tMkS, tM1, sFld, StX.tStar, tYes, gSub, cxOf, Cx.wish, Cx.nox, Cx.blk]
      refine ⟨rfl, _, rfl, ixF (hsq.ext eG1) at0 ⟨_, rfl, ixF (hsq.ext eG1) (atI_nat (j := 1) rfl) ?_⟩⟩
      refine ⟨_, rfl, ixF (hsq.ext eG1) (atI_nat (j := 2) rfl) ⟨f1, a1, ws, rfl, hws.ext eG1, fun D2 hD2 => ?_⟩⟩
      refine tup_comp (fun d => (coupleP d).dat) eG1 hws hwA hlt hD2 ?_ fun u2 G2 e2 hu2 => ?_
      · intro j d1 x1 G3 G03 f03 f0 f3 hx1' hd1' hp1 Q3 k3
        obtain ⟨qs, qx, qy, ed, bx, by'⟩ := couple_two (List.all_eq_true.mp htc d1 (List.mem_of_getElem? hd1'))
        obtain ⟨sx, qa, qb, ex, _⟩ := below_two bx
        obtain ⟨sy, qc, qd, ey, _⟩ := below_two by'
        obtain ⟨fq, pq, xq, rfl, hxq, hAq⟩ := seq_of (Vd.of hp1) qs
        rw [ed] at hAq
        have hP : (coupleP d1).dat = .tuple [.tuple (dItems qx), .tuple (dItems qy)] := by
          simp [coupleP, ed, int2, ex, ey, P4.dat]
        rw [hP] at k3
        cases hAq with
        | cons p1 r1 =>
          cases r1 with
          | cons p2 r2 =>
            cases r2
            obtain ⟨fb1, b1, xs1, rfl, h1, hA1⟩ := seq_of (Vd.of p1) sx
            obtain ⟨fb2, b2, xs2, rfl, h2, hA2⟩ := seq_of (Vd.of p2) sy
            dsimp only [tRet, tRetN, tSeq, tAsg, tOp, tVar, tC, tCB, tCons, tNil, tAndV, tOrV, tNotV, tAnd, tOr, tNot, tTest, tIf, tIfS, tB, tChain, tSl, tPart, tNoPart, tLst, tTup, tFld, tCl, tMt, tMk, gName, tNext, tBM, tBM0, tUn, tSub, tPar, tPar3, gTup, gCons, gNil, tDrop, tMkS, tM1, sFld, StX.tStar, tYes, gSub, cxOf, Cx.wish, Cx.nox, Cx.blk]
            refine ⟨rfl, _, rfl, ixF (hxq.ext f03) at0 (tup_rd f03 h1 hA1 fun u1 H1 e1 hp1 => ?_)⟩
            refine ⟨_, rfl, ixF (hxq.ext (f03.trans e1)) (v := .ref b2) (atI_nat (j := 1) rfl) (tup_rd (over_to f03 e1) (h2.ext (over_from f03)) (DpAll.ext (over_from f03) hA2) fun u2 H2 e2 hp2 => ?_)⟩
            refine ⟨by show 2 ≤ sizeLine; decide, fun t ht => k3 _ _ (e1.trans (e2.trans (Ext.upd ht))) ?_⟩
            have tn : G3 t = none := none_of (e1.trans e2) ht
            exact .tup (SqT.of (by rw [over_new tn, upd_same])) (.cons (Dp.ext (over_mono (e2.trans (Ext.upd ht))) hp1) (.cons (Dp.ext ((over_over e1 e2).trans (over_mono (Ext.upd ht))) hp2) .nil))
      · refine ⟨by show 3 ≤ sizeLine; decide, fun t4 ht4 => k2 _ _ (e2.trans (Ext.upd ht4)) ⟨t4, u2, rfl, SqT.of ?_, ?_⟩⟩
        · have c : t4 ≠ D := fun z => nz (by rw [← z]; exact none_of e2 ht4)
          rw [del_ne c, upd_same]
        · have z : tableD h.1.2.2 = .tuple ((dItems td).map fun d => (coupleP d).dat) := by rw [tableD, ← hcp, List.map_map]; rfl
          rw [z]
          exact Dp.ext ((over_delp hD nz eG1 e2).trans (ext_dels (Ext.upd ht4))) hu2
    · refine ⟨D, us, rfl, .inl ⟨SqL.of hGD, fun t ht => k1 _ _ ⟨t, us, rfl, e.trans (Ext.upd ht), SqT.of upd_same, hy1, fun i x hx' => ?_⟩⟩⟩
      obtain ⟨h, h1, h2⟩ := hy2 i x hx'
      exact ⟨h, h1, h2.ext (ext_del.trans (Ext.upd ht))⟩
  subst eσ
  have hh2 := hH
  rw [isHands] at hh2
  simp only [Bool.and_eq_true, decide_eq_true_eq] at hh2
  obtain ⟨hm1, hm2, hm3, hm4⟩ := hh2
  obtain ⟨hds, hdl1, hdl2⟩ := listed_dat hm1
  have hm2 := List.all_eq_true.mp hm2
  have hm4 := List.all_eq_true.mp hm4
  have tot : (dealsOf d).length ≤ 8 := by
    have z := len_sum (dItems d)
    rw [← z] at hm3
    show ((dItems d).flatMap dItems).length ≤ 8
    omega
  obtain ⟨flv, av, yv, ev, hyv, hvA⟩ := seq_of (Vd.of hv) hds
  obtain rfl : r = av := by cases ev; rfl
  have e02 := e1.trans e2
  refine cut_tseq (fun σ' G => ∃ ro, σ' = [some (.ref t0), some (.ref r), some (.ref p), some (.ref du), some (.ref ro), none, none, none, none, none, none, none, none, none, none] ∧ Ext G2 G ∧ Dp K G (.ref ro) (handsD d)) (fun D1 k1 => ?_) fun σ' G3 ⟨ro, eσ, e3, hro⟩ => ?_
  · dsimp only [tRet, tRetN, tSeq, tAsg, tOp, tVar, tC, tCB, tCons, tNil, tAndV, tOrV, tNotV, tAnd, tOr, tNot, tTest, tIf, tIfS, tB, tChain, tSl, tPart, tNoPart, tLst, tTup, tFld, tCl, tMt, tMk, gName, tNext, tBM, tBM0, tUn, tSub, tPar, tPar3, gTup, gCons, gNil, tDrop, tMkS, tM1, sFld, StX.tStar, tYes, gSub, cxOf, Cx.wish, Cx.nox, Cx.blk]
    refine ⟨_, rfl, flv, r, yv, rfl, hyv.ext e02, fun D hD => ?_⟩
    refine tup_comp handD e02 hyv hvA (by omega) hD ?_ fun u H' e hu' => ?_
    · intro i d1 x G G1 f1 f2 f3 hx1 hd1 hp1 Q2 k2
      have hd1m := List.mem_of_getElem? hd1
      obtain ⟨fa, ba, ya, rfl, hya, hyA⟩ := seq_of (Vd.of hp1) (hm2 d1 hd1m)
      have l8 : (dItems d1).length ≤ 600 := by
        have z := flat_take (f := dItems) (l := dItems d) (j := i + 1)
        rw [flat_next hd1, List.length_append] at z
        have : ((dItems d).flatMap dItems).length ≤ 8 := tot
        omega
      dsimp only [tRet, tRetN, tSeq, tAsg, tOp, tVar, tC, tCB, tCons, tNil, tAndV, tOrV, tNotV, tAnd, tOr, tNot, tTest, tIf, tIfS, tB, tChain, tSl, tPart, tNoPart, tLst, tTup, tFld, tCl, tMt, tMk, gName, tNext, tBM, tBM0, tUn, tSub, tPar, tPar3, gTup, gCons, gNil, tDrop, tMkS, tM1, sFld, StX.tStar, tYes, gSub, cxOf, Cx.wish, Cx.nox, Cx.blk]
      refine ⟨rfl, _, rfl, fa, ba, ya, rfl, hya.ext f1, fun D2 hD2 => ?_⟩
      refine tup_comp dealD f1 hya hyA l8 hD2 ?_ fun u2 G2 e2 hu2 => k2 u2 G2 e2 hu2
      intro j d2 x2 G3 G4 f4 f5 f6 hx2 hd2 hp3 Q3 k3
      have hdl := hm4 d2 (List.mem_flatMap.mpr ⟨d1, hd1m, List.mem_of_getElem? hd2⟩)
      simp only [isDeal, Bool.and_eq_true] at hdl
      obtain ⟨dl1, dl2, _⟩ := hdl
      obtain ⟨dls, dll1, dll2⟩ := listed_dat dl1
      have dl2 := List.all_eq_true.mp dl2
      obtain ⟨fb, bb, yb, rfl, hyb, hyB⟩ := seq_of (Vd.of hp3) dls
      dsimp only [tRet, tRetN, tSeq, tAsg, tOp, tVar, tC, tCB, tCons, tNil, tAndV, tOrV, tNotV, tAnd, tOr, tNot, tTest, tIf, tIfS, tB, tChain, tSl, tPart, tNoPart, tLst, tTup, tFld, tCl, tMt, tMk, gName, tNext, tBM, tBM0, tUn, tSub, tPar, tPar3, gTup, gCons, gNil, tDrop, tMkS, tM1, sFld, StX.tStar, tYes, gSub, cxOf, Cx.wish, Cx.nox, Cx.blk]
      refine ⟨rfl, _, rfl, fb, bb, yb, rfl, hyb.ext f4, fun D3 hD3 => ?_⟩
      refine tup_comp stepD f4 hyb hyB (by omega) hD3 ?_ fun u3 G5 e5 hu3 => k3 u3 G5 e5 hu3
      intro k d3 x3 G6 G7 f7 f8 f9 hx3 hd3 hp5 Q4 k4
      have hst := (row_two (dl2 d3 (List.mem_of_getElem? hd3))).1
      obtain ⟨fc, bc, yc, rfl, hyc, hyC⟩ := seq_of (Vd.of hp5) hst
      dsimp only [tRet, tRetN, tSeq, tAsg, tOp, tVar, tC, tCB, tCons, tNil, tAndV, tOrV, tNotV, tAnd, tOr, tNot, tTest, tIf, tIfS, tB, tChain, tSl, tPart, tNoPart, tLst, tTup, tFld, tCl, tMt, tMk, gName, tNext, tBM, tBM0, tUn, tSub, tPar, tPar3, gTup, gCons, gNil, tDrop, tMkS, tM1, sFld, StX.tStar, tYes, gSub, cxOf, Cx.wish, Cx.nox, Cx.blk]
      exact ⟨rfl, _, rfl, tup_rd f7 hyc hyC fun u4 G8 e8 hu4 => k4 u4 G8 e8 hu4⟩
    · obtain ⟨p2, zs2, rfl, hz, hzA⟩ := Dp.tupV hu'
      exact k1 _ _ ⟨p2, rfl, e, Dp.ext (over_to e02 e) hu'⟩
  subst eσ
  have hP3 := hP.ext (e2.trans e3)
  have hdu3 := hdu.ext e3
  have hdE3 : Each (KeptH K G3) dvs (hks.map Prod.fst) := ⟨by rw [List.length_map]; exact hdE.1, fun i x e => by
    obtain ⟨h, h1, h2⟩ := hdE.2 i x e
    exact ⟨h.1, by rw [List.getElem?_map, h1]; rfl, h2.ext e3⟩⟩
  have hP3' := hP3
  obtain ⟨dx, p1, p2, p3, p4, hv1, i1, i2, i3, i4, i5, i6⟩ := hP3'
  have hKA : ∀ h ∈ hks, HkOk h ∧ KindAt K G1 h.1.1 h.2 := fun h hh => by
    obtain ⟨j, hj, e⟩ := List.getElem_of_mem hh
    have hz : zs[j]? = some (zs[j]'(by have := hGK.1; omega)) := List.getElem?_eq_getElem _
    obtain ⟨h', z1, z2⟩ := hGK1.2 j _ hz
    rw [List.getElem?_eq_getElem hj, e] at z1
    cases z1
    exact z2.ok
  have hOK : ∀ h ∈ hks, HkOk h ∧ h.2.ok = true := fun h hh => by
    obtain ⟨o, ka⟩ := hKA h hh
    obtain ⟨_, _, _, _, _, _, _, _, _, _, o2⟩ := ka
    exact ⟨o, o2⟩
  have hAsk8 : ∀ x ∈ kItems hd, askN x ≤ 8 := fun x hx => by
    have z : askN x ∈ hks.map fun h => h.2.asks.length := by rw [hAsk]; exact List.mem_map_of_mem hx
    obtain ⟨h, hh, e⟩ := List.mem_map.mp z
    rw [← e]
    exact (ok_kind (hOK h hh).2).1
  have hSH := shw_handsD hH (by omega) hAsk8
  refine cut_ifn (fun c G => c = false ∧ Ext G3 G) (fun D1 k1 => ?_) fun c G4 ⟨ec, e4⟩ => ?_
  · dsimp only [tRet, tRetN, tSeq, tAsg, tOp, tVar, tC, tCB, tCons, tNil, tAndV, tOrV, tNotV, tAnd, tOr, tNot, tTest, tIf, tIfS, tB, tChain, tSl, tPart, tNoPart, tLst, tTup, tFld, tCl, tMt, tMk, gName, tNext, tBM, tBM0, tUn, tSub, tPar, tPar3, gTup, gCons, gNil, tDrop, tMkS, tM1, sFld, StX.tStar, tYes, gSub, cxOf, Cx.wish, Cx.nox, Cx.blk]
    refine ⟨_, rfl, p, CP K, dx, _, _, rfl, i1, T.cl_Program, T.na_Program_houses, rfl, _, rfl, houses_eqq i2 hdu3 i3 hdE3, _, rfl, if_f rfl ?_⟩
    refine ⟨_, rfl, p, CP K, dx, _, _, rfl, i1, T.cl_Program, T.na_Program_houses, rfl, false, p1, hv1, rfl, i2, fun Da hDa => ?_⟩
    refine lc_mapH (fun (h : HouseV) y G => Dp K G y (tailD h)) (fun h y G G' e z => Dp.ext e z) (fl := false) i2 i3.1 (small_of (m := 600) (by rw [List.length_map]; omega)) hDa ?_ fun usa Ga hya hza fa hGa => ?_
    · intro i h x G e nz hx2 hd1 Q2 k2
      obtain ⟨h', hh', b, t, rfl, q1, q2⟩ := i3.2 i x hx2
      rw [hd1] at hh'
      cases hh'
      dsimp only [tRet, tRetN, tSeq, tAsg, tOp, tVar, tC, tCB, tCons, tNil, tAndV, tOrV, tNotV, tAnd, tOr, tNot, tTest, tIf, tIfS, tB, tChain, tSl, tPart, tNoPart, tLst, tTup, tFld, tCl, tMt, tMk, gName, tNext, tBM, tBM0, tUn, tSub, tPar, tPar3, gTup, gCons, gNil, tDrop, tMkS, tM1, sFld, StX.tStar, tYes, gSub, cxOf, Cx.wish, Cx.nox, Cx.blk]
      refine ⟨rfl, _, rfl, _, rfl, b, _, rfl, q1.ext (e.trans ext_del), fun z => absurd z.1 (show ¬ HT.sIx 3 0 (some 1) = 0 by decide), fun _ tp htp => k2 _ _ (Ext.upd htp) ?_⟩
      have c : tp ≠ Da := fun z => nz (by rw [← z]; exact htp)
      exact .tup (xs := [.str h.2.1, t]) (SqT.of (by rw [del_ne c, upd_same]; rfl)) (.cons (.str _) (.cons (Dp.ext (e.trans (ext_dels (Ext.upd htp))) q2) .nil))
    have hSh : Shw (.list (hks.map fun h => tailD h.1)) 5 (4 * 30000 + 2 * 4 + 3) := shw_list (fun d hd => by
      obtain ⟨h, hh, rfl⟩ := List.mem_map.mp hd
      exact shw_tail (hOK h hh).1 (hOK h hh).2) (by rw [List.length_map]; exact lk4)
    have hDa : Dp K Ga (.ref Da) (.list (hks.map fun h => tailD h.1)) := .lst (SqL.of hGa) (dpall_of (by rw [hya, List.length_map, List.length_map]) fun i x hx => by
      obtain ⟨h, z1, z2⟩ := hza i x hx
      rw [List.getElem?_map] at z1
      obtain ⟨h', z3, rfl⟩ := Option.map_eq_some_iff.mp z1
      exact ⟨_, by rw [List.getElem?_map, z3]; rfl, Dp.ext ext_del z2⟩)
    refine hSh.rd hDa rfl (by decide) (by decide) ?_
    refine ⟨_, rfl, false, du, dvs, rfl, hdu3.ext fa, fun Db hDb => ?_⟩
    refine lc_mapH (fun (h : HouseV) y G => Dp K G y (tailD h)) (fun h y G G' e z => Dp.ext e z) (fl := false) (hdu3.ext fa) hdE3.1 (small_of (m := 600) (by rw [List.length_map]; omega)) hDb ?_ fun usb Gb hyb hzb fb hGb => ?_
    · intro i h x G e nz hx2 hd1 Q2 k2
      obtain ⟨h', hh', b, t, rfl, q1, q2⟩ := hdE3.2 i x hx2
      rw [hd1] at hh'
      cases hh'
      dsimp only [tRet, tRetN, tSeq, tAsg, tOp, tVar, tC, tCB, tCons, tNil, tAndV, tOrV, tNotV, tAnd, tOr, tNot, tTest, tIf, tIfS, tB, tChain, tSl, tPart, tNoPart, tLst, tTup, tFld, tCl, tMt, tMk, gName, tNext, tBM, tBM0, tUn, tSub, tPar, tPar3, gTup, gCons, gNil, tDrop, tMkS, tM1, sFld, StX.tStar, tYes, gSub, cxOf, Cx.wish, Cx.nox, Cx.blk]
      refine ⟨rfl, _, rfl, _, rfl, b, _, rfl, q1.ext (fa.trans (e.trans ext_del)), fun z => absurd z.1 (show ¬ HT.sIx 3 0 (some 1) = 0 by decide), fun _ tp htp => k2 _ _ (Ext.upd htp) ?_⟩
      have c : tp ≠ Db := fun z => nz (by rw [← z]; exact htp)
      exact .tup (xs := [.str h.2.1, t]) (SqT.of (by rw [del_ne c, upd_same]; rfl)) (.cons (.str _) (.cons (Dp.ext (fa.trans (e.trans (ext_dels (Ext.upd htp)))) q2) .nil))
    have hDb : Dp K Gb (.ref Db) (.list (hks.map fun h => tailD h.1)) := .lst (SqL.of hGb) (dpall_of (by rw [hyb, List.length_map, List.length_map]) fun i x hx => by
      obtain ⟨h, z1, z2⟩ := hzb i x hx
      rw [List.getElem?_map] at z1
      obtain ⟨h', z3, rfl⟩ := Option.map_eq_some_iff.mp z1
      exact ⟨_, by rw [List.getElem?_map, z3]; rfl, Dp.ext ext_del z2⟩)
    refine hSh.rd hDb rfl (by decide) (by decide) ⟨rfl, _, rfl, if_f (by simp) ?_⟩
    have e3b : Ext G3 Gb := fa.trans fb
    refine ⟨_, rfl, p, CP K, dx, _, _, rfl, e3b _ _ i1, T.cl_Program, T.na_Program_hands, rfl, hSH.rd (Dp.ext e3b i4) rfl (by decide) (by decide) ⟨_, rfl, hSH.rd (Dp.ext e3b hro) rfl (by decide) (by decide) ⟨rfl, _, rfl, k1 _ _ ⟨by simp, e3b⟩⟩⟩⟩
  subst ec
  refine if_f rfl ?_
  have hP4 := hP3.ext e4
  have hdu4 := hdu3.ext e4
  have hdE4 : Each (fun x h => KeptH K G4 x h.1) dvs hks := hdE.imp fun x h z => (z.ext e3).ext e4
  have hro4 := Dp.ext e4 hro
  have hKA4 : ∀ h ∈ hks, HkOk h ∧ KindAt K G4 h.1.1 h.2 := fun h hh => ⟨(hKA h hh).1, (hKA h hh).2.ext (e2.trans (e3.trans e4))⟩
  obtain ⟨ro', rvs, er, hrT, hrA⟩ := Dp.tupV hro4
  cases er
  obtain ⟨vss, hE2, hfl, hlens⟩ := hands_flat hrA
  have lfl : (vss.flatMap id).length ≤ 8 := by
    rw [DpAll.length hfl, List.length_map]
    exact tot
  have lrv : rvs.length = (dItems d).length := by rw [DpAll.length hrA, List.length_map]
  have lown := owners_le tot
  refine cut_tseq (fun σ' G => ∃ da oa, σ' = [some (.ref t0), some (.ref r), some (.ref p), some (.ref du), some (.ref ro), some (.ref da), some (.ref oa), none, none, none, none, none, none, none, none] ∧ Ext G4 G ∧ G da = some (.lst []) ∧ G oa = some (.lst [])) (fun D1 k1 => ?_) fun σ' G5 ⟨da, oa, eσ, e5, hda, hoa⟩ => ?_
  · dsimp only [tRet, tRetN, tSeq, tAsg, tOp, tVar, tC, tCB, tCons, tNil, tAndV, tOrV, tNotV, tAnd, tOr, tNot, tTest, tIf, tIfS, tB, tChain, tSl, tPart, tNoPart, tLst, tTup, tFld, tCl, tMt, tMk, gName, tNext, tBM, tBM0, tUn, tSub, tPar, tPar3, gTup, gCons, gNil, tDrop, tMkS, tM1, sFld, StX.tStar, tYes, gSub, cxOf, Cx.wish, Cx.nox, Cx.blk]
    exact ⟨Nat.zero_le _, fun a na => ⟨Nat.zero_le _, fun b nb => ⟨_, _, rfl, k1 _ _ ⟨a, b, rfl, (Ext.upd na).trans (Ext.upd nb), Ext.upd nb _ _ upd_same, upd_same⟩⟩⟩⟩
  subst eσ
  refine cut_tseq (fun σ' G => ∃ da oa z7 z8, σ' = [some (.ref t0), some (.ref r), some (.ref p), some (.ref du), some (.ref ro), some (.ref da), some (.ref oa), z7, z8, none, none, none, none, none, none] ∧ Ext G4 G ∧ G da = some (.lst (vss.flatMap id)) ∧ G oa = some (.lst ((ownersL d).map V.int))) (fun D1 k1 => ?_) fun σ' G6 ⟨da, oa, z7, z8, eσ, e6, hda, hoa⟩ => ?_
  · dsimp only [tRet, tRetN, tSeq, tAsg, tOp, tVar, tC, tCB, tCons, tNil, tAndV, tOrV, tNotV, tAnd, tOr, tNot, tTest, tIf, tIfS, tB, tChain, tSl, tPart, tNoPart, tLst, tTup, tFld, tCl, tMt, tMk, gName, tNext, tBM, tBM0, tUn, tSub, tPar, tPar3, gTup, gCons, gNil, tDrop, tMkS, tM1, sFld, StX.tStar, tYes, gSub, cxOf, Cx.wish, Cx.nox, Cx.blk]
    refine ⟨_, rfl, ro, rvs, rfl, hrT.ext e5, ?_⟩
    refine for_it (walk_enumT (K := K) (a := ro) (xs := rvs)) (fun i σ' G => ∃ da oa z7 z8, σ' = [some (.ref t0), some (.ref r), some (.ref p), some (.ref du), some (.ref ro), some (.ref da), some (.ref oa), z7, z8, none, none, none, none, none, none] ∧ Ext G4 G ∧ G da = some (.lst ((vss.take i).flatMap id)) ∧ G oa = some (.lst (((List.range i).flatMap (ownersF (dItems d))).map V.int))) ⟨da, oa, none, none, rfl, e5, hda, hoa⟩ (fun i σ' G _ ⟨_, _, _, _, _, e, _⟩ => hrT.ext e) ?_ ?_
    · rintro i x σ' G G' hi ⟨da, oa, z7, z8, rfl, e, hG1, hG2⟩ ⟨T', x1, y1, rfl, hT', rfl, hx1, hy1⟩
      cases hx1
      obtain ⟨ws, hws, aw, rfl, haw⟩ := hE2.2 i y1 hy1
      have hawG := haw.ext e
      have hd1 : (dItems d)[i]? = some ((dItems d)[i]'(by omega)) := List.getElem?_eq_getElem (by omega)
      have lws : ownersF (dItems d) i = List.replicate ws.length (i : Int) := by
        have z := congrArg (fun l => l[i]?) hlens
        simp only [List.getElem?_map, hws, hd1, Option.map_some] at z
        rw [ownersF, List.getD_eq_getElem?_getD, hd1]
        rw [Option.some.inj z]
        rfl
      have hle := flat_take (f := id) (l := vss) (j := i + 1)
      rw [flat_next hws, List.length_append] at hle
      have hle : ((vss.take i).flatMap id).length + ws.length ≤ (vss.flatMap id).length := hle
      have hpre := flat_pre (f := ownersF (dItems d)) (show i < (dItems d).length by omega)
      rw [lws, List.length_replicate] at hpre
      have hpre : ((List.range i).flatMap (ownersF (dItems d))).length + ws.length ≤ (ownersL d).length := hpre
      have eT : Ext G (upd G T' (.tup [.int (i : Nat), .ref aw])) := Ext.upd hT'
      dsimp only [tRet, tRetN, tSeq, tAsg, tOp, tVar, tC, tCB, tCons, tNil, tAndV, tOrV, tNotV, tAnd, tOr, tNot, tTest, tIf, tIfS, tB, tChain, tSl, tPart, tNoPart, tLst, tTup, tFld, tCl, tMt, tMk, gName, tNext, tBM, tBM0, tUn, tSub, tPar, tPar3, gTup, gCons, gNil, tDrop, tMkS, tM1, sFld, StX.tStar, tYes, gSub, cxOf, Cx.wish, Cx.nox, Cx.blk]
      refine ⟨T', _, rfl, SqT.of upd_same, rfl, _, _, rfl, _, _, rfl, rfl, _, rfl, _, rfl, aw, ws, rfl, .inr (hawG.ext eT), fun l nl => ?_⟩
      refine ⟨da, l, _, _, rfl, rfl, Ext.upd nl _ _ (eT _ _ hG1), upd_same, Nat.le_of_lt (small_of (m := 600) (by omega)), fun c1 nc1 => ?_⟩
      refine ⟨_, rfl, _, rfl, by show 1 ≤ sizeLine; decide, fun c2 nc2 => ⟨_, rfl, aw, ws, rfl, .inr (hawG.ext (eT.trans ((Ext.upd nl).trans ((Ext.upd nc1).trans (Ext.upd nc2))))), ?_⟩⟩
      refine ⟨c2, _, _, rfl, rfl, upd_same, by omega, by omega, Nat.le_of_lt (small_of (m := 600) (by simp; omega)), fun c3 nc3 => ?_⟩
      have eL : Ext G (upd (upd (upd (upd (upd G T' (.tup [.int (i : Nat), .ref aw])) l (.lst ws)) c1 (.lst ((vss.take i).flatMap id ++ ws))) c2 (.lst [.int (i : Nat)])) c3 (.lst (List.replicate ((ws.length : Int)).toNat [V.int (i : Nat)]).flatten)) := eT.trans ((Ext.upd nl).trans ((Ext.upd nc1).trans ((Ext.upd nc2).trans (Ext.upd nc3))))
      refine ⟨oa, c3, _, _, rfl, rfl, eL _ _ hG2, upd_same, Nat.le_of_lt (small_of (m := 600) (by rw [List.length_map, List.flatten_replicate_singleton, List.length_replicate, Int.toNat_natCast]; omega)), fun c4 nc4 => ?_⟩
      refine ⟨_, _, rfl, c1, c4, _, _, rfl, e.trans (eL.trans (Ext.upd nc4)), ?_, ?_⟩
      · have z : (vss.take (i + 1)).flatMap id = (vss.take i).flatMap id ++ ws := flat_next hws
        rw [z]
        exact Ext.upd nc4 _ _ (Ext.upd nc3 _ _ (Ext.upd nc2 _ _ upd_same))
      · rw [upd_same, flat_range, lws, List.map_append]
        simp
    · rintro σ' G ⟨da, oa, z7, z8, rfl, e, hG1, hG2⟩
      rw [hE2.1, List.take_length] at hG1
      rw [lrv] at hG2
      exact k1 _ _ ⟨da, oa, z7, z8, rfl, e, hG1, hG2⟩
  subst eσ
  have e36 := e4.trans e6
  have hP6 := hP4.ext e6
  have hdu6 := hdu4.ext e6
  have hdE6 : Each (fun x h => KeptH K G6 x h.1) dvs hks := hdE4.imp fun x h z => z.ext e6
  have hKA6 : ∀ h ∈ hks, HkOk h ∧ KindAt K G6 h.1.1 h.2 := fun h hh => ⟨(hKA4 h hh).1, (hKA4 h hh).2.ext e6⟩
  have hro6 := Dp.ext e6 hro4
  have hSD := shw_dealsD hH tot (by omega) hAsk8
  have hSO := shw_owners hH tot
  have lk1 : 1 ≤ hks.length := by
    have := KpAll.length hA
    have := hGK.1
    omega
  have hAskE : (kItems hd).map askN = (hks.map dueH).map askN := by rw [askN_due, hAsk]
  have hHd : isHands (hks.map dueH) (handsD d) = true := hands_again hAskE hH
  have heq : PyData.eqv (handsD d) (handsD (handsD d)) = true := by
    rw [hands_twice]
    exact PySem.SeqAt.eqv_refl _ (hands_lay hH).1
  refine cut_ifn (fun c G => c = false ∧ Ext G6 G) (fun D1 k1 => ?_) fun c G7 ⟨ec, e7⟩ => ?_
  · dsimp only [tRet, tRetN, tSeq, tAsg, tOp, tVar, tC, tCB, tCons, tNil, tAndV, tOrV, tNotV, tAnd, tOr, tNot, tTest, tIf, tIfS, tB, tChain, tSl, tPart, tNoPart, tLst, tTup, tFld, tCl, tMt, tMk, gName, tNext, tBM, tBM0, tUn, tSub, tPar, tPar3, gTup, gCons, gNil, tDrop, tMkS, tM1, sFld, StX.tStar, tYes, gSub, cxOf, Cx.wish, Cx.nox, Cx.blk]
    refine ⟨_, rfl, p, CP K, dx, _, _, rfl, e36 _ _ i1, T.cl_Program, T.na_Program_deals, rfl, hSD.rd (Dp.ext e36 i5) rfl (by decide) (by decide) ⟨_, rfl, da, _, rfl, .inl ⟨SqL.of hda, fun t nt => ?_⟩⟩⟩
    have et := Ext.upd (o := HO.tup (vss.flatMap id)) nt
    refine hSD.rd (.tup (SqT.of upd_same) (DpAll.ext (e6.trans et) hfl)) rfl (by decide) (by decide) ⟨rfl, _, rfl, if_f (by simp) ?_⟩
    refine ⟨_, rfl, p, CP K, dx, _, _, rfl, et _ _ (e36 _ _ i1), T.cl_Program, T.na_Program_owners, rfl, hSO.rd (.tup (i6.ext (e36.trans et)) (DpAll.ints _)) rfl (by decide) (by decide) ⟨_, rfl, oa, _, rfl, .inl ⟨SqL.of (et _ _ hoa), fun t2 nt2 => ?_⟩⟩⟩
    have et2 := et.trans (Ext.upd (o := HO.tup ((ownersL d).map V.int)) nt2)
    refine hSO.rd (.tup (SqT.of upd_same) (DpAll.ints _)) rfl (by decide) (by decide) ⟨rfl, _, rfl, if_f (by simp) ?_⟩
    refine ⟨_, rfl, _, rfl, _, rfl, made_again (Q := fun y G => rEqOwn K (CP K) (sp_Program_eq K) E0 (.ref p) y G _) (hdu6.ext et2) (hdE6.imp fun x h z => z.ext et2) (fun h hh => ⟨(hKA6 h hh).1, (hKA6 h hh).2.ext et2⟩) lk1 lk4 (.of (Dp.ext et2 hro6)) hHd fun q2 Ga ea nq hPq => ?_⟩
    have ea2 := et2.trans ea
    have hPg := hP6.ext ea2
    have hPq' := hPq
    obtain ⟨dxq, y1, y2, y3, y4, yv, j1, _⟩ := hPq'
    refine ⟨p, dx, _, q2, rfl, rfl, ea2 _ _ (e36 _ _ i1), .inl ⟨_, _, j1⟩, ⟨p, q2, _, d, rfl, hPg, .inr ⟨_, hPq, lay_shaped (hands_lay hH) (by decide), lay_shaped (hands_lay hHd) (by decide), _, rfl, true, congrArg V.bl heq, if_f rfl ⟨_, rfl, _, rfl, ?_⟩⟩⟩⟩
    exact ⟨p, dx, _, du, rfl, rfl, ea2 _ _ (e36 _ _ i1), .inr ⟨dvs, hdu6.ext ea2⟩, ⟨p, du, _, d, rfl, hPg, .inl ⟨⟨_, hdu6.ext ea2⟩, ⟨false, rfl, _, rfl, k1 _ _ ⟨rfl, ea2⟩⟩⟩⟩⟩
  subst ec
  refine if_f rfl ?_
  have e37 := e36.trans e7
  have hP7 := hP6.ext e7
  have hdu7 := hdu6.ext e7
  have hdE7 : Each (fun x h => KeptH K G7 x h.1) dvs hks := hdE6.imp fun x h z => z.ext e7
  have hKA7 : ∀ h ∈ hks, HkOk h ∧ KindAt K G7 h.1.1 h.2 := fun h hh => ⟨(hKA6 h hh).1, (hKA6 h hh).2.ext e7⟩
  have hro7 := Dp.ext e7 hro6
  have hda7 := e7 _ _ hda
  refine cut_asg (fun v G => ∃ mo zs2 d2, v = .ref mo ∧ Ext G7 G ∧ SqT K G mo zs2 ∧ Dp K G (.ref mo) d2 ∧ zs2.length ≤ 5 ∧ (zs2.length < 5 → isHands (hks.map dueH) d2 = true ∧ PyData.eqv (handsD d) (handsD d2) = false)) (fun D1 k1 => ?_) fun v G8 ⟨mo, mzs, d2, ev, e8, hmo, hmD, lm, hmH⟩ => ?_
  · have tot' : (vss.flatMap id).length = (dealsOf d).length := by rw [DpAll.length hfl, List.length_map]; rfl
    obtain ⟨X0, x, ex⟩ : ∃ X0 x, dItems d = X0 ++ [x] := ⟨(dItems d).dropLast, (dItems d).getLast (fun z => by rw [z] at hdl1; simp at hdl1), (List.dropLast_concat_getLast _).symm⟩
    rw [ex, List.map_append] at hrA
    obtain ⟨R0, lv, erv⟩ : ∃ R0 lv, rvs = R0 ++ [lv] := ⟨rvs.dropLast, rvs.getLast (fun z => by rw [z, ex] at lrv; simp at lrv), (List.dropLast_concat_getLast _).symm⟩
    rw [erv] at hrA
    obtain ⟨hX0, hx0⟩ := DpAll.snoc_inv hrA
    obtain ⟨lb, lws, rfl, hlb, hlA⟩ := Dp.tupV hx0
    have hrT7 : SqT K G7 ro (R0 ++ [.ref lb]) := by rw [← erv]; exact (hrT.ext e6).ext e7
    have hX7 := DpAll.ext (e6.trans e7) hX0
    have hl7 := hlb.ext (e6.trans e7)
    have hA7 := DpAll.ext (e6.trans e7) hlA
    have lR0 : R0.length + 1 ≤ 4 := by
      have z := lrv
      rw [erv, List.length_append, List.length_singleton] at z
      omega
    have lL : lws.length ≤ 8 := by
      rw [DpAll.length hlA, List.length_map]
      have z : (dealsOf d).length = ((X0 ++ [x]).flatMap dItems).length := by rw [← ex]; rfl
      rw [List.flatMap_append, List.length_append] at z
      simp only [List.flatMap_singleton] at z
      omega
    dsimp only [tRet, tRetN, tSeq, tAsg, tOp, tVar, tC, tCB, tCons, tNil, tAndV, tOrV, tNotV, tAnd, tOr, tNot, tTest, tIf, tIfS, tB, tChain, tSl, tPart, tNoPart, tLst, tTup, tFld, tCl, tMt, tMk, gName, tNext, tBM, tBM0, tUn, tSub, tPar, tPar3, gTup, gCons, gNil, tDrop, tMkS, tM1, sFld, StX.tStar, tYes, gSub, cxOf, Cx.wish, Cx.nox, Cx.blk]
    refine ⟨_, rfl, da, _, rfl, .inl (SqL.of hda7), _, _, rfl, rfl, _, rfl, ite2 (fun c => ?_) fun c => ?_⟩
    · have c : (vss.flatMap id).length < 8 := by
        have := of_decide_eq_true c
        omega
      obtain ⟨m1, m2⟩ := more_one ex hHd (by rw [← tot']; exact c) (dealO_ok (by rw [List.length_map]; exact lk1) fun y hy => by
        obtain ⟨h, hh, rfl⟩ := List.mem_map.mp hy
        have z := (hOK h hh).2
        simp only [KN.ok, okWords, Bool.and_eq_true, decide_eq_true_eq] at z
        exact z.1.1)
      refine ⟨_, rfl, _, rfl, _, rfl, rd_init hrT7 fun pa Ga ea ha => ?_⟩
      refine ⟨_, rfl, _, rfl, ro, _, _, _, rfl, rfl, hrT7.ext ea, atI_last _ _, by show 2 ≤ sizeLine; decide, fun b1 n1 => ⟨by show 1 ≤ sizeLine; decide, fun b2 n2 => ⟨by show 1 ≤ sizeLine; decide, fun b3 n3 => ?_⟩⟩⟩
      have eb := ea.trans ((Ext.upd n1).trans ((Ext.upd n2).trans (Ext.upd (o := HO.tup [V.ref b2]) n3)))
      refine rd_cat (hl7.ext eb) (SqT.of upd_same) (by simp; omega) fun pc Gc ec hc => ⟨by show 1 ≤ sizeLine; decide, fun b4 n4 => ?_⟩
      have e4a := (Ext.upd n1).trans ((Ext.upd n2).trans ((Ext.upd n3).trans (ec.trans (Ext.upd (o := HO.tup [V.ref pc]) n4))))
      refine rd_cat (ha.ext e4a) (SqT.of upd_same) (by simp; omega) fun pm Gm em hm => k1 _ _ ⟨pm, _, _, rfl, ea.trans (e4a.trans em), hm, .tup hm (DpAll.app (DpAll.ext (ea.trans (e4a.trans em)) hX7) (Ow.DpAll.one (.tup (hc.ext ((Ext.upd n4).trans em)) (DpAll.app (DpAll.ext (ea.trans (e4a.trans em)) hA7) (Ow.DpAll.one ?_))))), by simp; omega, fun _ => ⟨m1, m2⟩⟩
      exact .tup (SqT.of ((ec.trans ((Ext.upd n4).trans em)) _ _ (Ext.upd n3 _ _ upd_same))) (.cons (.tup (SqT.of ((ec.trans ((Ext.upd n4).trans em)) _ _ (Ext.upd n3 _ _ (Ext.upd n2 _ _ upd_same)))) (.cons (.int 0) (.cons (.int 0) .nil))) .nil)
    · have c : ¬ (vss.flatMap id).length < 8 := fun z => c (decide_eq_true (by omega))
      refine ⟨_, rfl, _, rfl, ro, _, _, _, rfl, rfl, hrT7, atI_last _ _, Nat.zero_le _, fun b1 n1 => ?_⟩
      have eb := Ext.upd (o := HO.tup []) n1
      have lay : Lay 4 (handD x) := by
        have z := hands_lay hHd
        rw [hands_twice] at z
        exact lay_item z (by rw [ex, List.map_append]; exact List.mem_append_right _ (List.mem_singleton.mpr rfl))
      refine ⟨handD x, .tuple [], .tup (hl7.ext eb) (DpAll.ext eb hA7), .tup (SqT.of upd_same) .nil, lay_shaped lay (by decide), rfl, ?_⟩
      refine ⟨_, rfl, ite2 (fun c2 => ?_) fun c2 => ?_⟩
      · obtain ⟨Y0, y, ey⟩ : ∃ Y0 y, dItems x = Y0 ++ [y] := ⟨(dItems x).dropLast, (dItems x).getLast (fun z => by
          rw [handD, z] at c2
          exact absurd c2 (by decide)), (List.dropLast_concat_getLast _).symm⟩
        obtain ⟨m1, m2⟩ := more_two ex hHd ey
        rw [ey, List.map_append] at hA7
        obtain ⟨W0, wv, rfl⟩ : ∃ W0 wv, lws = W0 ++ [wv] := ⟨lws.dropLast, lws.getLast (fun z => by
          have zl := DpAll.length hA7
          rw [z] at zl
          simp at zl), (List.dropLast_concat_getLast _).symm⟩
        obtain ⟨hW0, _⟩ := DpAll.snoc_inv hA7
        have hrb := hrT7.ext eb
        refine ⟨_, rfl, _, rfl, _, rfl, rd_init hrb fun pa Ga ea ha => ?_⟩
        refine ⟨_, rfl, _, rfl, ro, _, _, _, rfl, rfl, hrb.ext ea, atI_last _ _, _, rfl, _, rfl, rd_init ((hl7.ext eb).ext ea) fun pc Gc ec hc => ?_⟩
        refine ⟨by show 1 ≤ sizeLine; decide, fun b4 n4 => ?_⟩
        have e4 := Ext.upd (o := HO.tup [V.ref pc]) n4
        refine rd_cat (ha.ext (ec.trans e4)) (SqT.of upd_same) (by simp; omega) fun pm Gm em hm => k1 _ _ ⟨pm, _, _, rfl, eb.trans (ea.trans (ec.trans (e4.trans em))), hm, .tup hm (DpAll.app (DpAll.ext (eb.trans (ea.trans (ec.trans (e4.trans em)))) hX7) (Ow.DpAll.one (.tup (hc.ext (e4.trans em)) (DpAll.ext (eb.trans (ea.trans (ec.trans (e4.trans em)))) hW0)))), by simp; omega, fun _ => ⟨m1, m2⟩⟩
      · refine ⟨_, rfl, Nat.zero_le _, fun b2 n2 => ⟨by show 1 ≤ sizeLine; decide, fun b3 n3 => ?_⟩⟩
        have e3 := eb.trans ((Ext.upd (o := HO.tup []) n2).trans (Ext.upd (o := HO.tup [V.ref b2]) n3))
        refine rd_cat (hrT7.ext e3) (SqT.of upd_same) (by simp; omega) fun pm Gm em hm => k1 _ _ ⟨pm, _, .tuple ((dItems d).map handD ++ [.tuple []]), rfl, e3.trans em, hm, .tup hm (DpAll.app ?_ (Ow.DpAll.one (.tup (SqT.of (em _ _ (Ext.upd n3 _ _ upd_same))) .nil))), by simp; omega, fun z => ?_⟩
        · rw [ex, List.map_append]
          exact DpAll.app (DpAll.ext (e3.trans em) hX7) (Ow.DpAll.one (.tup (hl7.ext (e3.trans em)) (DpAll.ext (e3.trans em) hA7)))
        · refine more_three hHd ?_
          rw [List.length_map, ← lrv, erv]
          simp only [List.length_append, List.length_singleton] at z ⊢
          omega
  subst ev
  refine cut_ifn (fun c G => c = false ∧ Ext G8 G) (fun D1 k1 => ?_) fun c G9 ⟨ec, e9⟩ => ?_
  · dsimp only [tRet, tRetN, tSeq, tAsg, tOp, tVar, tC, tCB, tCons, tNil, tAndV, tOrV, tNotV, tAnd, tOr, tNot, tTest, tIf, tIfS, tB, tChain, tSl, tPart, tNoPart, tLst, tTup, tFld, tCl, tMt, tMk, gName, tNext, tBM, tBM0, tUn, tSub, tPar, tPar3, gTup, gCons, gNil, tDrop, tMkS, tM1, sFld, StX.tStar, tYes, gSub, cxOf, Cx.wish, Cx.nox, Cx.blk]
    refine ⟨_, rfl, mo, _, rfl, .inr hmo, _, _, rfl, rfl, _, rfl, ite2 (fun c => ?_) fun c => ?_⟩
    · have c : mzs.length < 5 := by
        have := of_decide_eq_true c
        omega
      obtain ⟨m1, m2⟩ := hmH c
      refine ⟨_, rfl, _, rfl, _, rfl, made_again (Q := fun y G => rEqOwn K (CP K) (sp_Program_eq K) E0 (.ref p) y G _) (hdu7.ext e8) (hdE7.imp fun x h z => z.ext e8) (fun h hh => ⟨(hKA7 h hh).1, (hKA7 h hh).2.ext e8⟩) lk1 lk4 (.of hmD) m1 fun q2 Ga ea nq hPq => ?_⟩
      have ea2 := e8.trans ea
      have hPg := hP7.ext ea2
      have hPq' := hPq
      obtain ⟨dxq, y1, y2, y3, y4, yv, j1, _⟩ := hPq'
      exact ⟨p, dx, _, q2, rfl, rfl, ea2 _ _ (e37 _ _ i1), .inl ⟨_, _, j1⟩, ⟨p, q2, _, d, rfl, hPg, .inr ⟨_, hPq, lay_shaped (hands_lay hH) (by decide), lay_shaped (hands_lay m1) (by decide), _, rfl, _, rfl, k1 _ _ ⟨m2, ea⟩⟩⟩⟩
    · exact k1 _ _ ⟨rfl, Ext.rfl'⟩
  subst ec
  refine if_f rfl ?_
  have e39 := e37.trans (e8.trans e9)
  have e09 := e02.trans (e3.trans e39)
  -- the hands' list, the houses' list
  have ht9 := e09 _ _ ht
  have hr9 := e09 _ _ hrr
  have hr9' : (L2.del G9 t0) r = some (.lst ys) := by rw [del_ne (fun z => ctr z.symm)]; exact hr9
  have lzs : zs.length ≤ 4 := by
    have := hGK.1
    omega
  have lyv : yv.length ≤ 4 := by
    rw [DpAll.length hvA]
    omega
  dsimp only [tRet, tRetN, tSeq, tAsg, tOp, tVar, tC, tCB, tCons, tNil, tAndV, tOrV, tNotV, tAnd, tOr, tNot, tTest, tIf, tIfS, tB, tChain, tSl, tPart, tNoPart, tLst, tTup, tFld, tCl, tMt, tMk, gName, tNext, tBM, tBM0, tUn, tSub, tPar, tPar3, gTup, gCons, gNil, tDrop, tMkS, tM1, sFld, StX.tStar, tYes, gSub, cxOf, Cx.wish, Cx.nox, Cx.blk]
  refine ⟨_, rfl, ⟨_, _, _, _, _, rfl, .ty _, .base (.lst hr9), kit_ty (show kitB "list" "list" = some true by decide +kernel), _, rfl, if_t rfl ?_⟩⟩
  refine ⟨_, rfl, .inl ⟨rfl, _, SqL.of hr9⟩, Nat.zero_le _, fun n0 nn0 => ?_⟩
  have e10 := Ext.upd (o := HO.lst []) nn0
  refine ⟨r, _, flv, yv, _, rfl, rfl, e10 _ _ hr9, hyv.ext (e09.trans e10), small_of (m := 600) (by omega), ?_⟩
  have ht10 : upd (upd G9 n0 (.lst [])) r (.lst (ys ++ [.ref n0])) t0 = some (.lst xs) := by rw [upd_ne ctr]; exact e10 _ _ ht9
  refine ⟨_, rfl, ⟨_, _, _, _, _, rfl, .ty _, .base (.lst ht10), kit_ty (show kitB "list" "list" = some true by decide +kernel), _, rfl, if_t rfl ?_⟩⟩
  refine ⟨_, rfl, .inl ⟨rfl, _, SqL.of ht10⟩, ?_⟩
  refine ⟨t0, _, fl, zs, _, rfl, rfl, ht10, SqF.butA (hx.ext (e09.trans e10)) ctr, small_of (m := 600) (by omega), ?_⟩
  generalize hF : upd (upd (upd G9 n0 (.lst [])) r (.lst (ys ++ [.ref n0]))) t0 (.lst (xs ++ [.non])) = G11
  have eF : Ext (L2.del (L2.del G9 t0) r) G11 := fun b o hb => by
    have c1 : b ≠ r := fun z => by rw [z, del_same] at hb; cases hb
    rw [del_ne c1] at hb
    have c2 : b ≠ t0 := fun z => by rw [z, del_same] at hb; cases hb
    rw [del_ne c2] at hb
    rw [← hF, upd_ne c2, upd_ne c1]
    exact e10 _ _ hb
  have eQ : Ext (L2.del (L2.del H t0) r) G11 := (ext_dels (ext_dels e09)).trans eF
  have tO := hands_tOnly hH
  have i1F : G11 p = some _ := eF _ _ (by
    have z := e39 _ _ i1
    rw [del_ne (fun y => by rw [y, hr9] at z; cases z), del_ne (fun y => by rw [y, ht9] at z; cases z)]
    exact z)
  have i4F : Dp K G11 (.ref p2) (handsD d) := Dp.ext eF (Dp.delq hr9' tO (Dp.delq ht9 tO (Dp.ext e39 i4)))
  have roF : Dp K G11 (.ref ro) (handsD d) := Dp.ext eF (Dp.delq hr9' tO (Dp.delq ht9 tO (Dp.ext (e8.trans e9) hro7)))
  have i2F : SqT K G11 p1 hv1 := (SqT.delq (SqT.delq (i2.ext e39) ht9) hr9').ext eF
  have duF : SqT K G11 du dvs := (SqT.delq (SqT.delq (hdu3.ext e39) ht9) hr9').ext eF
  have i3F : Each (KeptH K G11) hv1 (hks.map Prod.fst) := i3.imp fun x h z => (KeptH.delq hr9' (KeptH.delq ht9 (z.ext e39))).ext eF
  have dvF : Each (KeptH K G11) dvs (hks.map Prod.fst) := hdE3.imp fun x h z => (KeptH.delq hr9' (KeptH.delq ht9 (z.ext e39))).ext eF
  refine ⟨_, rfl, p, CP K, dx, _, _, rfl, i1F, T.cl_Program, T.na_Program_hands, rfl, hSH.rd i4F rfl (by decide) (by decide) ⟨_, rfl, hSH.rd roF rfl (by decide) (by decide) ?_⟩⟩
  refine ⟨rfl, true, by simp, if_t rfl ?_⟩
  exact ⟨_, rfl, p, CP K, dx, _, _, rfl, i1F, T.cl_Program, T.na_Program_houses, rfl, _, rfl, houses_eqq i2F duF i3F dvF, q _ eQ⟩
end
end K81

end
section
/-! K81zf: the law's run. -/
namespace K81
open PySem L2 Ow
open PySem.Spec PyProof.Rows
/-- the saddle, though two objects change that came later -/
theorem QAt.two {K : W.Frag} {G0 H H' : Hp} {q c t r : Addr} {ns : List Int} {b b0 : Nat} (h0 : QAt K G0 q c ns b0) (e : ExtP q G0 H) (h : QAt K H q c ns b) (nt : G0 t = none) (nr : G0 r = none) (e2 : Ext (L2.del (L2.del H t) r) H') : QAt K H' q c ns b := by
  obtain ⟨_, _, g1, h2, h3, _, _, h6⟩ := h0
  obtain ⟨at_, rest, k1, _, _, k4, k5, _⟩ := h
  refine ⟨at_, rest, e2 _ _ (by rw [del_ne (ne_of_none g1 nr), del_ne (ne_of_none g1 nt)]; exact k1), sqL_extP h2 (fun b o hb hbo => ?_) h6, h3, k4, k5, h6⟩
  refine e2 _ _ ?_
  rw [del_ne (ne_of_none hbo nr), del_ne (ne_of_none hbo nt)]
  exact e _ _ hb hbo
/-- drawn houses as data -/
def housesK (hs : List HouseD) : KD := .seq true (hs.map fun h => .seq true (houseKs h))
theorem drawn_kp {K : W.Frag} {H : Hp} {t : Addr} {xs : List V} {hs : List HouseD} (ht : H t = some (.lst xs)) (hE : Each (DrawnH K H) xs hs) : Kp K H (.ref t) (housesK hs) :=
  .seq (fl := true) (SqL.of ht) (kpall_of (fun h : HouseD => KD.seq true (houseKs h)) (hE.imp fun x h ⟨a, ka, tv, e, h1, h2, h3, h4⟩ => by
    subst e
    exact .seq (fl := true) (SqL.of h1) (.cons (.kind h2) (.cons (.dat (.of (.str _))) (.cons (.dat (.of h3)) .nil)))))
theorem drawn_ok {K : W.Frag} {H : Hp} {xs : List V} {hs : List HouseD} (hE : Each (DrawnH K H) xs hs) : ∀ x ∈ kItems (housesK hs), okH x := fun x hx => by
  obtain ⟨h, hh, rfl⟩ := List.mem_map.mp hx
  obtain ⟨j, hj, e⟩ := List.getElem_of_mem hh
  obtain ⟨h', z1, a, ka, tv, _, _, _, _, hf⟩ := hE.2 j (xs[j]'(by rw [hE.1]; exact hj)) (List.getElem?_eq_getElem _)
  rw [List.getElem?_eq_getElem hj, e] at z1
  cases z1
  exact houseKs_ok hf
section
variable {w : World} {K : W.Frag} {mg : Str → Option Value} {base : Heap}
theorem law_body (T : Txt K mg) (F : HeardF K mg) {fl cc : Addr} {s : Shared} {H : Hp} {a : Addr} {ns : List Int} (hs : SqL K H a (ns.map V.int)) (hl : ns.length ≤ 63) (hr : Room 14 (callerA.deeper (envOfC "law" (defScope s_law) s.heap.objs.size fl (.ref cc)))) :
    ∃ t, PSs (cxOf CX0 prg w K mg base ["_law_script", "_law_saddle_here", "_law_turn", "_law_houses_here", "_law_hands_here", "_law_way", "_law_told", "_law_rows", "_law_due_here"] "law" (defScope s_law) fl (.ref cc) callerA [] s H E0) (defBody s_law) t ∧ t { nx := fun _ H' => (.non = V.bl true), rt := fun v _ => v = .bl true } (L2.start ["_law_script", "_law_saddle_here", "_law_turn", "_law_houses_here", "_law_hands_here", "_law_way", "_law_told", "_law_rows", "_law_due_here"] [.ref a]) H := by
  have nd := sc_law.nd
  have hgd : (callerA.deeper (envOfC "law" (defScope s_law) s.heap.objs.size fl (.ref cc))).guards = some [] := rfl
  refine ⟨_, PSs.nox (pss_cons (ps_set (i := 1) nd rfl (Or.inl rfl) (pe_cl (c_law_saddle T) (hr.mono (by decide)) pass0 (pa_cons (pv 0) pa_nil)))
      (pss_cons (ps_for PassesOwn.never rfl (pi_range1 rfl T.f_range (pa_cons pe_int pa_nil)) (pg_name (i := 2) nd rfl (Or.inl rfl)) (pss_cons (ps_set (i := 3) nd rfl (Or.inl rfl) (pe_cl (c_law_houses T) (hr.mono (by decide)) pass0 (pa_cons (pv 1) pa_nil)))
      (pss_cons (ps_set (i := 4) nd rfl (Or.inl rfl) (pe_cl (c_law_hands T) (hr.mono (by decide)) pass0 (pa_cons (pv 1) (pa_cons (pv 3) pa_nil))))
      (pss_cons (ps_set (i := 5) nd rfl (Or.inl rfl) (pe_ifExp (pt_cmpR op_gt (pv 2) pe_int (nomark _)) (pe_cl (c_law_ride T) (hr.mono (by decide)) pass0 (pa_cons (pv 1) (pa_cons pe_int pa_nil))) pe_int))
      (pss_cons (ps_set (i := 6) nd rfl (Or.inl rfl) (pe_ifExp (pt_cmpR op_eq (pv 5) pe_int (nomark _)) (pe_cl (c_law_bent_houses T) (hr.mono (by decide)) pass0 (pa_cons (pv 1) (pa_cons (pv 3) pa_nil))) (pv 3)))
      (pss_cons (ps_set (i := 7) nd rfl (Or.inl rfl) (pe_ifExp (PW.pt (pw_or (pt_cmpR op_eq (pv 5) pe_int (nomark _)) (pw_or1 (PW.pt (pw_and (pt_cmpR op_eq (pv 5) pe_int (nomark _)) (pw_and1 (pt_cmpR op_eq (pe_cl (c_law_ride T) (hr.mono (by decide)) pass0 (pa_cons (pv 1) (pa_cons pe_int pa_nil))) pe_int (nomark _)))))))) (pe_cl (c_law_bent_hands T) (hr.mono (by decide)) pass0 (pa_cons (pv 1) (pa_cons (pv 3) (pa_cons (pv 4) pa_nil)))) (pv 4)))
      (pss_cons (ps_set (i := 8) nd rfl (Or.inl rfl) (pe_cl (c_law_due T) (hr.mono (by decide)) pass0 (pa_cons (pv 6) (pa_cons (pv 7) pa_nil))))
      (pss_cons (ps_if (PW.pt (pw_and (pt_cmpR L2.op_isN (pv 8) pe_non (nomark _)) (pw_and1 (pt_not (pt_val (pe_clA T.d_law_made_right sc_law_made_right (fun vs H Q E ⟨t, xs, r, ys, hd, d, e, _⟩ => by rw [e]; rfl) (fun f cdv s H vs Q hr2 h => b_law_made_right T hgd f cdv s H vs Q hr2 h) (hr.mono (by decide)) pass0 (pa_cons (pv 6) (pa_cons (pv 7) pa_nil)))))))) (pss_one (ps_ret pe_bl)) pss_nil)
      (pss_one (ps_if (PW.pt (pw_and (pt_cmpR op_notN (pv 8) pe_non (nomark _)) (pw_and1 (pt_cmpR op_ne (pe_cl (c_law_heard T F) (hr.mono (by decide)) pass0 (pa_cons (pv 6) (pa_cons (pv 7) pa_nil))) (pv 8) (nomark _))))) (pss_one (ps_ret pe_bl)) pss_nil))))))))))
      (pss_one (ps_ret pe_bl)))), ?_⟩
  refine ⟨_, rfl, a, ns, rfl, hs, hl, fun q c0 H1 e1 hq0 hq => ?_⟩
  refine ⟨3, rfl, by decide, by decide, ?_⟩
  refine for_it walk_range (Pv := fun i σ G => (∃ z2 z3 z4 z5 z6 z7 z8, σ = [some (.ref a), some (.ref q), z2, z3, z4, z5, z6, z7, z8]) ∧ ∃ b, b ≤ 1000 * i ∧ QAt K G q c0 ns b) ⟨⟨_, _, _, _, _, _, _, rfl⟩, 0, Nat.zero_le _, hq⟩ (fun _ _ _ _ _ => True.intro) ?_ fun σ G _ => ?_
  rotate_left
  · exact rfl
  rintro i x σ G00 G0 hi ⟨⟨z2, z3, z4, z5, z6, z7, z8, rfl⟩, b, hb, hq0⟩ ⟨rfl, rfl⟩
  have hi : i < 3 := hi
  -- houses
  refine cut_asg (fun v G => ∃ t xs hs, v = .ref t ∧ ExtP q G0 G ∧ G0 t = none ∧ G t = some (.lst xs) ∧ Each (DrawnH K (L2.del (L2.del G t) q)) xs hs ∧ 1 ≤ hs.length ∧ hs.length ≤ 4 ∧ QAt K G q c0 ns (b + 100)) (fun Q1 k1 => ?_) fun v G1 ⟨t, xs, hs, ev, e1, nt, ht, hE, l1, l4, hq1⟩ => ?_
  · dsimp only [tRet, tRetN, tSeq, tAsg, tOp, tVar, tC, tCB, tCons, tNil, tAndV, tOrV, tNotV, tAnd, tOr, tNot, tTest, tIf, tIfS, tB, tChain, tSl, tPart, tNoPart, tLst, tTup, tFld, tCl, tMt, tMk, gName, tNext, tBM, tBM0, tUn, tSub, tPar, tPar3, gTup, gCons, gNil, tDrop, tMkS, tM1, sFld, StX.tStar, tYes, gSub, cxOf, Cx.wish, Cx.nox, Cx.blk]
    exact ⟨_, rfl, q, c0, ns, b, rfl, hq0, by omega, fun t xs hs H' a1 a2 a3 a4 a5 a6 a7 => k1 _ _ ⟨t, xs, hs, rfl, a1, a2, a3, a4, a5, a6, a7⟩⟩
  subst ev
  have ctq : t ≠ q := hq0.ne nt
  -- hands
  refine cut_asg (fun v G => ∃ p ys l, v = .ref p ∧ ExtP q G1 G ∧ G1 p = none ∧ G p = some (.lst ys) ∧ fineHands l ∧ DpAll K (nw G1 (L2.del G p)) ys (l.map handL) ∧ QAt K G q c0 ns (b + 600)) (fun Q1 k1 => ?_) fun v G2 ⟨p, ys, l, ev, e2, np, hp, hf, hA, hq2⟩ => ?_
  · dsimp only [tRet, tRetN, tSeq, tAsg, tOp, tVar, tC, tCB, tCons, tNil, tAndV, tOrV, tNotV, tAnd, tOr, tNot, tTest, tIf, tIfS, tB, tChain, tSl, tPart, tNoPart, tLst, tTup, tFld, tCl, tMt, tMk, gName, tNext, tBM, tBM0, tUn, tSub, tPar, tPar3, gTup, gCons, gNil, tDrop, tMkS, tM1, sFld, StX.tStar, tYes, gSub, cxOf, Cx.wish, Cx.nox, Cx.blk]
    exact ⟨_, rfl, _, rfl, q, c0, ns, b + 100, t, xs, hs, rfl, hq1, by omega, ctq, ht, hE, l1, l4, fun p ys l H' a1 a2 a3 a4 a5 a6 => k1 _ _ ⟨p, ys, l, rfl, a1, a2, a3, a4, a5, a6.mono (by omega)⟩⟩
  subst ev
  have cpq : p ≠ q := hq1.ne np
  have ctp : t ≠ p := ne_of_none ht np
  have ht2 := e2 _ _ ctq ht
  have hE2 : Each (DrawnH K (L2.del (L2.del G2 t) q)) xs hs := hE.imp fun x h z => z.ext (del2 fun b o c1 _ hb => e2 _ _ c1 hb)
  have hA2 : DpAll K (L2.del G2 q) ys (l.map handL) := DpAll.ext (fun b o hb => by
    obtain ⟨x1, x2⟩ := nw_new hb
    have cb : b ≠ q := fun z => by
      obtain ⟨y, hy⟩ := hq1.here
      rw [z, hy] at x1
      cases x1
    have cp : b ≠ p := fun z => by rw [z, del_same] at x2; cases x2
    rw [del_ne cp] at x2
    rw [del_ne cb]
    exact x2) hA
  -- the way
  refine cut_asg (fun v G => ∃ n : Int, v = .int n ∧ ExtP q G2 G ∧ QAt K G q c0 ns (b + 601)) (fun Q1 k1 => ?_) fun v G3 ⟨n, ev, e3, hq3⟩ => ?_
  · dsimp only [tRet, tRetN, tSeq, tAsg, tOp, tVar, tC, tCB, tCons, tNil, tAndV, tOrV, tNotV, tAnd, tOr, tNot, tTest, tIf, tIfS, tB, tChain, tSl, tPart, tNoPart, tLst, tTup, tFld, tCl, tMt, tMk, gName, tNext, tBM, tBM0, tUn, tSub, tPar, tPar3, gTup, gCons, gNil, tDrop, tMkS, tM1, sFld, StX.tStar, tYes, gSub, cxOf, Cx.wish, Cx.nox, Cx.blk]
    refine ⟨_, rfl, _, _, rfl, rfl, _, rfl, ite2 (fun c => ?_) fun c => ?_⟩
    · exact ⟨_, rfl, q, c0, ns, 3, b + 600, rfl, hq2, by omega, by decide, two9000 (by decide) (by decide), fun r H' r0 r1 a1 a2 => k1 _ _ ⟨r, rfl, a1, a2⟩⟩
    · exact k1 _ _ ⟨0, rfl, ExtP.of Ext.rfl', hq2.mono (by omega)⟩
  subst ev
  have ht3 := e3 _ _ ctq ht2
  have hp3 := e3 _ _ cpq hp
  have hE3 : Each (DrawnH K (L2.del (L2.del G3 t) q)) xs hs := hE2.imp fun x h z => z.ext (del2 fun b o c1 _ hb => e3 _ _ c1 hb)
  have hA3 := DpAll.ext (ExtP.dels e3) hA2
  have e03 := (e1.trans e2).trans e3
  -- the houses told
  refine cut_asg (fun v G => ∃ hd, ExtP q G3 G ∧ Kp K (L2.del G q) v hd ∧ (∀ x ∈ kItems hd, okH x) ∧ (kSeq hd = true → ∃ r ys, v = .ref r ∧ G0 r = none ∧ r ≠ q ∧ r ≠ p ∧ G r = some (.lst ys)) ∧ QAt K G q c0 ns (b + 610)) (fun Q1 k1 => ?_) fun u G4 ⟨hd, e4, hu, hok, hul, hq4⟩ => ?_
  · dsimp only [tRet, tRetN, tSeq, tAsg, tOp, tVar, tC, tCB, tCons, tNil, tAndV, tOrV, tNotV, tAnd, tOr, tNot, tTest, tIf, tIfS, tB, tChain, tSl, tPart, tNoPart, tLst, tTup, tFld, tCl, tMt, tMk, gName, tNext, tBM, tBM0, tUn, tSub, tPar, tPar3, gTup, gCons, gNil, tDrop, tMkS, tM1, sFld, StX.tStar, tYes, gSub, cxOf, Cx.wish, Cx.nox, Cx.blk]
    refine ⟨_, rfl, rfl, _, rfl, ite2 (fun c => ?_) fun c => ?_⟩
    · exact ⟨_, rfl, _, rfl, q, c0, ns, b + 601, t, xs, hs, rfl, hq3, by omega, ctq, ht3, hE3, l1, l4, fun u hd H' a1 a2 a3 a4 a5 => k1 _ _ ⟨hd, a1, a2, a3, fun z => by
        obtain ⟨r, zs, h1, h2, h3, h4⟩ := a4 z
        exact ⟨r, zs, h1, none_extP e03 h2 h3, h3, (ne_of_none hp3 h2).symm, h4⟩, a5.mono (by omega)⟩⟩
    · have eD : Ext (L2.del (L2.del G3 t) q) (L2.del G3 q) := ext_dels ext_del
      exact ⟨_, rfl, k1 _ _ ⟨housesK hs, ExtP.of Ext.rfl', drawn_kp (by rw [del_ne ctq]; exact ht3) (hE3.imp fun x h z => z.ext eD), drawn_ok hE3, fun _ => ⟨t, xs, rfl, nt, ctq, ctp, ht3⟩, hq3.mono (by omega)⟩⟩
  have ht4 := e4 _ _ ctq ht3
  have hp4 := e4 _ _ cpq hp3
  have hE4 : Each (DrawnH K (L2.del (L2.del G4 t) q)) xs hs := hE3.imp fun x h z => z.ext (del2 fun b o c1 _ hb => e4 _ _ c1 hb)
  have hA4 := DpAll.ext (ExtP.dels e4) hA3
  have e04 := e03.trans e4
  -- the hands told
  refine cut_asg (fun v G => ∃ d, ExtP q G4 G ∧ Vd K (L2.del G q) v d ∧ (dSeq d = true → ∃ r ys, v = .ref r ∧ G0 r = none ∧ r ≠ q ∧ (∀ r1, u = .ref r1 → kSeq hd = true → r1 ≠ r) ∧ G r = some (.lst ys)) ∧ QAt K G q c0 ns (b + 620)) (fun Q1 k1 => ?_) fun v G5 ⟨d, e5, hv, hvl, hq5⟩ => ?_
  · dsimp only [tRet, tRetN, tSeq, tAsg, tOp, tVar, tC, tCB, tCons, tNil, tAndV, tOrV, tNotV, tAnd, tOr, tNot, tTest, tIf, tIfS, tB, tChain, tSl, tPart, tNoPart, tLst, tTup, tFld, tCl, tMt, tMk, gName, tNext, tBM, tBM0, tUn, tSub, tPar, tPar3, gTup, gCons, gNil, tDrop, tMkS, tM1, sFld, StX.tStar, tYes, gSub, cxOf, Cx.wish, Cx.nox, Cx.blk]
    have bent : ∀ G, ExtP q G4 G → QAt K G q c0 ns (b + 612) → sp_law_bent_hands K [.ref q, .ref t, .ref p] G Q1 E0 := fun G e h => ⟨q, c0, ns, b + 612, t, xs, hs, p, ys, l, rfl, h, by omega, ctq, e _ _ ctq ht4, hE4.imp fun x h z => z.ext (del2 fun b o c1 _ hb => e _ _ c1 hb), l1, l4, cpq, e _ _ cpq hp4, DpAll.ext (ExtP.dels e) hA4, hf, fun v d H' a1 a2 a3 a4 => k1 _ _ ⟨d, e.trans a1, a2, fun z => by
      obtain ⟨r, zs, h1, h2, h3, h4⟩ := a3 z
      refine ⟨r, zs, h1, none_extP (e04.trans e) h2 h3, h3, fun r1 er hk => ?_, h4⟩
      obtain ⟨r2, ws, g1, g2, g3, g4, g5⟩ := hul hk
      rw [er] at g1
      cases g1
      exact ne_of_none (e _ _ g3 g5) h2, a4.mono (by omega)⟩⟩
    have plain : ∀ G, ExtP q G4 G → QAt K G q c0 ns (b + 612) → Q1 (.ref p) G := fun G e h => k1 _ _ ⟨.list (l.map handL), e, .of (.lst (SqL.of (by rw [del_ne cpq]; exact e _ _ cpq hp4)) (DpAll.ext (ExtP.dels e) hA4)), fun _ => ⟨p, ys, rfl, none_extP e1 np cpq, cpq, fun r1 er hk => by
      obtain ⟨r2, ws, g1, g2, g3, g4, g5⟩ := hul hk
      rw [er] at g1
      cases g1
      exact g4, e _ _ cpq hp4⟩, h.mono (by omega)⟩
    refine ⟨_, rfl, rfl, _, rfl, ite2 (fun c => if_t rfl ?_) fun c => ?_⟩
    · exact ⟨_, rfl, _, rfl, _, rfl, bent _ (ExtP.of Ext.rfl') (hq4.mono (by omega))⟩
    · refine ⟨_, rfl, rfl, _, rfl, ite2 (fun c => ?_) fun c => ?_⟩
      · refine ⟨_, rfl, q, c0, ns, 2, b + 610, rfl, hq4, by omega, by decide, two9000 (by decide) (by decide), fun r H' r0 r1 a1 a2 => ⟨rfl, _, rfl, ite2 (fun c => ?_) fun c => ?_⟩⟩
        · exact ⟨_, rfl, _, rfl, _, rfl, bent _ a1 (a2.mono (by omega))⟩
        · exact ⟨_, rfl, plain _ a1 (a2.mono (by omega))⟩
      · exact ⟨_, rfl, plain _ (ExtP.of Ext.rfl') (hq4.mono (by omega))⟩
  have hu5 := hu.ext (ExtP.dels e5)
  have e05 := e04.trans e5
  -- what is due
  refine cut_asg (fun y G => y = dueV (dueK hd d) ∧ Ext G5 G) (fun Q1 k1 => ?_) fun y G6 ⟨ey, e6⟩ => ?_
  · dsimp only [tRet, tRetN, tSeq, tAsg, tOp, tVar, tC, tCB, tCons, tNil, tAndV, tOrV, tNotV, tAnd, tOr, tNot, tTest, tIf, tIfS, tB, tChain, tSl, tPart, tNoPart, tLst, tTup, tFld, tCl, tMt, tMk, gName, tNext, tBM, tBM0, tUn, tSub, tPar, tPar3, gTup, gCons, gNil, tDrop, tMkS, tM1, sFld, StX.tStar, tYes, gSub, cxOf, Cx.wish, Cx.nox, Cx.blk]
    exact ⟨_, rfl, _, rfl, u, hd, v, d, rfl, hu5.ext ext_del, hok, Vd.ext ext_del hv, fun H' e => k1 _ _ ⟨rfl, e⟩⟩
  have hu6 := hu5.ext (ext_del.trans e6)
  have hv6 := Vd.ext (ext_del.trans e6) hv
  have hq6 := hq5.ext e6
  have e06 := e05.trans (ExtP.of e6)
  subst ey
  cases hdue : dueK hd d with
  | none =>
    obtain ⟨hk, hsd⟩ : kSeq hd = true ∧ dSeq d = true := by
      unfold dueK at hdue
      split at hdue
      · rename_i c
        simp only [Bool.and_eq_true] at c
        split at hdue
        · rename_i c2
          simp only [isHands, Bool.and_eq_true] at c2
          have z := c.1
          simp only [listedK, Bool.and_eq_true] at z
          exact ⟨z.1, (listed_dat c2.1).1⟩
        · cases hdue
      · cases hdue
    obtain ⟨r1, ws1, eu, n1, cq1, cp1, hr1⟩ := hul hk
    obtain ⟨r2, ws2, ev, n2, cq2, cr, hr2⟩ := hvl hsd
    have crr := cr r1 eu hk
    subst eu
    subst ev
    have hdp : Dp K G6 (.ref r2) d := by
      rcases hv6 with h | ⟨_, _, _, z⟩
      · exact h
      · subst z
        cases hsd
    dsimp only [tRet, tRetN, tSeq, tAsg, tOp, tVar, tC, tCB, tCons, tNil, tAndV, tOrV, tNotV, tAnd, tOr, tNot, tTest, tIf, tIfS, tB, tChain, tSl, tPart, tNoPart, tLst, tTup, tFld, tCl, tMt, tMk, gName, tNext, tBM, tBM0, tUn, tSub, tPar, tPar3, gTup, gCons, gNil, tDrop, tMkS, tM1, sFld, StX.tStar, tYes, gSub, cxOf, Cx.wish, Cx.nox, Cx.blk]
    refine ⟨_, rfl, rfl, _, rfl, if_t (by simp [dueV]) ⟨_, rfl, _, rfl, r1, ws1, r2, ws2, hd, d, rfl, crr, e6 _ _ (e5 _ _ cq1 hr1), e6 _ _ hr2, hu6, hok, hdp, hdue, fun H' e => ⟨true, rfl, if_f rfl ⟨_, rfl, rfl, _, rfl, if_f (by simp [dueV]) ⟨⟨_, _, _, _, _, _, _, rfl⟩, b + 620, by omega, QAt.two hq0 e06 hq6 n1 n2 e⟩⟩⟩⟩⟩
  | some x =>
    dsimp only [tRet, tRetN, tSeq, tAsg, tOp, tVar, tC, tCB, tCons, tNil, tAndV, tOrV, tNotV, tAnd, tOr, tNot, tTest, tIf, tIfS, tB, tChain, tSl, tPart, tNoPart, tLst, tTup, tFld, tCl, tMt, tMk, gName, tNext, tBM, tBM0, tUn, tSub, tPar, tPar3, gTup, gCons, gNil, tDrop, tMkS, tM1, sFld, StX.tStar, tYes, gSub, cxOf, Cx.wish, Cx.nox, Cx.blk]
    refine ⟨_, rfl, rfl, _, rfl, if_f (by simp [dueV]) ⟨_, rfl, rfl, _, rfl, if_t (by simp [dueV]) ⟨_, rfl, _, rfl, u, hd, v, d, x, rfl, hu6, hok, hv6, hdue, fun H' e => ⟨_, rfl, rfl, _, rfl, if_f (by simp [dueV]) ⟨⟨_, _, _, _, _, _, _, rfl⟩, b + 620, by omega, hq6.ext e⟩⟩⟩⟩⟩
end
end K81

end
section
/-! K81zq: the text by the head's facts. -/
namespace K81
open PySem PySem.Spec PyProof.Rows L2 Ow
section
variable {K : W.Frag} {h : Heap} {mg : Str → Option Value}
theorem txt_of (X : K.In h) (G : h.Ns mainGlobals mg) (c : He.SaysD fa fn K) (cx : ∀ e ∈ xs, fnC K e.x = e.val) (ex : exB K = true) : Txt K mg ∧ HeardF K mg := by
  unfold exB at ex
  simp only [Bool.and_eq_true, decide_eq_true_eq, decV] at ex
  obtain ⟨er_BadProgram, hl_BadProgram, kk_BadProgram, da_CHANGES, da_WAYS, xK, xP, kn, kK, kb, pP, pn⟩ := ex
  have h_CHANGES : Dp K H00 (.ref (He.ga K "CHANGES")) changesD := by
    obtain ⟨v, r, hv⟩ := datB_ok (H := H00) da_CHANGES
    obtain ⟨a, ys, rfl, _⟩ := Dp.tupV hv
    cases (show Value.ref (He.ga K "CHANGES") = Value.ref a from r)
    exact hv
  have h_WAYS : Dp K H00 (.ref (He.ga K "WAYS")) waysD := by
    obtain ⟨v, r, hv⟩ := datB_ok (H := H00) da_WAYS
    obtain ⟨a, ys, rfl, _⟩ := Dp.tupV hv
    cases (show Value.ref (He.ga K "WAYS") = Value.ref a from r)
    exact hv
  obtain ⟨fd0, F0⟩ := c.def_ 0 (d := D0) rfl
  obtain ⟨fd1, F1⟩ := c.def_ 1 (d := D1) rfl
  obtain ⟨fd2, F2⟩ := c.def_ 2 (d := D2) rfl
  obtain ⟨fd3, F3⟩ := c.def_ 3 (d := D3) rfl
  obtain ⟨fd4, F4⟩ := c.def_ 4 (d := D4) rfl
  obtain ⟨fd5, F5⟩ := c.def_ 5 (d := D5) rfl
  obtain ⟨fd6, F6⟩ := c.def_ 6 (d := D6) rfl
  obtain ⟨fd7, F7⟩ := c.def_ 7 (d := D7) rfl
  obtain ⟨fd8, F8⟩ := c.def_ 8 (d := D8) rfl
  obtain ⟨fd9, F9⟩ := c.def_ 9 (d := D9) rfl
  obtain ⟨fd10, F10⟩ := c.def_ 10 (d := D10) rfl
  obtain ⟨fd11, F11⟩ := c.def_ 11 (d := D11) rfl
  obtain ⟨fd12, F12⟩ := c.def_ 12 (d := D12) rfl
  obtain ⟨fd13, F13⟩ := c.def_ 13 (d := D13) rfl
  obtain ⟨fd14, F14⟩ := c.def_ 14 (d := D14) rfl
  obtain ⟨fd15, F15⟩ := c.def_ 15 (d := D15) rfl
  obtain ⟨fd16, F16⟩ := c.def_ 16 (d := D16) rfl
  obtain ⟨fd17, F17⟩ := c.def_ 17 (d := D17) rfl
  obtain ⟨fd18, F18⟩ := c.def_ 18 (d := D18) rfl
  obtain ⟨fd19, F19⟩ := c.def_ 19 (d := D19) rfl
  obtain ⟨fd20, F20⟩ := c.def_ 20 (d := D20) rfl
  obtain ⟨fd21, F21⟩ := c.def_ 21 (d := D21) rfl
  obtain ⟨fd22, F22⟩ := c.def_ 22 (d := D22) rfl
  obtain ⟨fd23, F23⟩ := c.def_ 23 (d := D23) rfl
  obtain ⟨fd24, F24⟩ := c.def_ 24 (d := D24) rfl
  obtain ⟨fd25, F25⟩ := c.def_ 25 (d := D25) rfl
  obtain ⟨fd26, F26⟩ := c.def_ 26 (d := D26) rfl
  obtain ⟨fd27, F27⟩ := c.def_ 27 (d := D27) rfl
  obtain ⟨fd28, F28⟩ := c.def_ 28 (d := D28) rfl
  obtain ⟨fd29, F29⟩ := c.def_ 29 (d := D29) rfl
  obtain ⟨fd30, F30⟩ := c.def_ 30 (d := D30) rfl
  obtain ⟨fd31, F31⟩ := c.def_ 31 (d := D31) rfl
  obtain ⟨fd32, F32⟩ := c.def_ 32 (d := D32) rfl
  obtain ⟨fd33, F33⟩ := c.def_ 33 (d := D33) rfl
  obtain ⟨fd34, F34⟩ := c.def_ 34 (d := D34) rfl
  obtain ⟨fd35, F35⟩ := c.def_ 35 (d := D35) rfl
  obtain ⟨fd36, F36⟩ := c.def_ 36 (d := D36) rfl
  obtain ⟨fd37, F37⟩ := c.def_ 37 (d := D37) rfl
  obtain ⟨fd38, F38⟩ := c.def_ 38 (d := D38) rfl
  obtain ⟨fd39, F39⟩ := c.def_ 39 (d := D39) rfl
  obtain ⟨fd40, F40⟩ := c.def_ 40 (d := D40) rfl
  obtain ⟨fd41, F41⟩ := c.def_ 41 (d := D41) rfl
  obtain ⟨fd42, F42⟩ := c.def_ 42 (d := D42) rfl
  obtain ⟨fd43, F43⟩ := c.def_ 43 (d := D43) rfl
  obtain ⟨fd44, F44⟩ := c.def_ 44 (d := D44) rfl
  obtain ⟨fd45, F45⟩ := c.def_ 45 (d := D45) rfl
  obtain ⟨fd46, F46⟩ := c.def_ 46 (d := D46) rfl
  obtain ⟨fd47, F47⟩ := c.def_ 47 (d := D47) rfl
  obtain ⟨fd48, F48⟩ := c.def_ 48 (d := D48) rfl
  obtain ⟨fd49, F49⟩ := c.def_ 49 (d := D49) rfl
  obtain ⟨fd50, F50⟩ := c.def_ 50 (d := D50) rfl
  refine ⟨?_, He.glo_ok X G (c.fact 103 (f := .glo "SeenError") rfl), He.exm_ok (c.fact 104 (f := .exm "BadProgram" "SeenError" true) rfl), heldB_ok hl_BadProgram, kk_BadProgram⟩
  exact
  ⟨He.free_ok X G (c.fact 0 (f := .free "int") rfl),
    He.free_ok X G (c.fact 1 (f := .free "bool") rfl),
    He.free_ok X G (c.fact 2 (f := .free "str") rfl),
    He.free_ok X G (c.fact 3 (f := .free "list") rfl),
    He.free_ok X G (c.fact 4 (f := .free "tuple") rfl),
    He.free_ok X G (c.fact 5 (f := .free "len") rfl),
    He.free_ok X G (c.fact 6 (f := .free "isinstance") rfl),
    He.free_ok X G (c.fact 7 (f := .free "abs") rfl),
    He.free_ok X G (c.fact 8 (f := .free "all") rfl),
    He.free_ok X G (c.fact 9 (f := .free "repr") rfl),
    He.free_ok X G (c.fact 10 (f := .free "range") rfl),
    He.free_ok X G (c.fact 11 (f := .free "zip") rfl),
    He.free_ok X G (c.fact 12 (f := .free "sum") rfl),
    He.free_ok X G (c.fact 13 (f := .free "set") rfl),
    He.free_ok X G (c.fact 14 (f := .free "dict") rfl),
    He.free_ok X G (c.fact 15 (f := .free "sorted") rfl),
    He.free_ok X G (c.fact 16 (f := .free "enumerate") rfl),
    He.free_ok X G (c.fact 17 (f := .free "min") rfl),
    He.str_ok X G (c.fact 18 (f := .str "SIGNS" "abcdefghijklmnopqrstuvwxyz0123456789") rfl),
    He.int_ok X G (c.fact 19 (f := .int "MOST_SIGNS" 12) rfl),
    He.str_ok X G (c.fact 20 (f := .str "BAR" "/") rfl),
    He.int_ok X G (c.fact 21 (f := .int "MOST_ASKS" 8) rfl),
    He.int_ok X G (c.fact 22 (f := .int "MOST_ANSWERS" 12) rfl),
    He.int_ok X G (c.fact 23 (f := .int "MOST_STATES" 60) rfl),
    He.int_ok X G (c.fact 24 (f := .int "MOST_ROWS" 600) rfl),
    He.int_ok X G (c.fact 25 (f := .int "MOST_HOUSES" 4) rfl),
    He.int_ok X G (c.fact 26 (f := .int "MOST_HANDS" 4) rfl),
    He.int_ok X G (c.fact 27 (f := .int "MOST_DEALS" 8) rfl),
    He.int_ok X G (c.fact 28 (f := .int "MOST_STEPS" 6) rfl),
    He.str_ok X G (c.fact 29 (f := .str "WATCHED" "watched") rfl),
    He.int_ok X G (c.fact 30 (f := .int "MOST_SUM" 8) rfl),
    He.int_ok X G (c.fact 31 (f := .int "MOST_TICKETS" 11) rfl),
    He.int_ok X G (c.fact 32 (f := .int "MOST_WORTHS" 7) rfl),
    He.int_ok X G (c.fact 33 (f := .int "MOST_ROOM" 8) rfl),
    He.int_ok X G (c.fact 34 (f := .int "MOST_ITEMS" 3) rfl),
    errB_ok (d := xBadProgram) X G (cx xBadProgram (by simp [xs])) (by assumption),
    dfn_of F0 (He.glo_ok X G (c.fact 35 (f := .glo "is_integer") rfl)) (fun _ _ _ _ _ _ us hl => match us, hl with | [_], _ => rfl) (fun p hp _ _ _ _ _ _ _ => by cases hp; rfl),
    dfn_of F1 (He.glo_ok X G (c.fact 36 (f := .glo "is_within") rfl)) (fun _ _ _ _ _ _ us hl => match us, hl with | [_, _, _], _ => rfl) (fun p hp => by cases hp),
    dfn_of F2 (He.glo_ok X G (c.fact 37 (f := .glo "is_word") rfl)) (fun _ _ _ _ _ _ us hl => match us, hl with | [_], _ => rfl) (fun p hp _ _ _ _ _ _ _ => by cases hp; rfl),
    dfn_of F3 (He.glo_ok X G (c.fact 38 (f := .glo "is_row") rfl)) (fun _ _ _ _ _ _ us hl => match us, hl with | [_, _], _ => rfl) (fun p hp => by cases hp),
    dfn_of F4 (He.glo_ok X G (c.fact 39 (f := .glo "need_number") rfl)) (fun _ _ _ _ _ _ us hl => match us, hl with | [_, _, _, _], _ => rfl) (fun p hp => by cases hp),
    dfn_of F5 (He.glo_ok X G (c.fact 40 (f := .glo "are_words") rfl)) (fun _ _ _ _ _ _ us hl => match us, hl with | [_, _], _ => rfl) (fun p hp => by cases hp),
    dfn_of F6 (He.glo_ok X G (c.fact 41 (f := .glo "is_below") rfl)) (fun _ _ _ _ _ _ us hl => match us, hl with | [_, _], _ => rfl) (fun p hp => by cases hp),
    dfn_of F7 (He.glo_ok X G (c.fact 42 (f := .glo "are_kind_rows") rfl)) (fun _ _ _ _ _ _ us hl => match us, hl with | [_, _], _ => rfl) (fun p hp => by cases hp),
    dfn_of F8 (He.glo_ok X G (c.fact 43 (f := .glo "kind_text") rfl)) (fun _ _ _ _ _ _ us hl => match us, hl with | [_], _ => rfl) (fun p hp _ _ _ _ _ _ _ => by cases hp; rfl),
    ⟨⟨_, _, F9, He.mkr_ok (c.fact 44 (f := .mkr "Kind") rfl), F9.bindsN (fun _ _ _ _ _ _ us hl => match us, hl with | [_, _, _, _, _, _], _ => rfl)⟩, He.glo_ok X G (c.fact 45 (f := .glo "Kind") rfl)⟩,
    ⟨⟨_, _, F10, He.meth_ok (c.fact 46 (f := .meth "Kind" "__str__") rfl), F10.bindsN (fun _ _ _ _ _ _ us hl => match us, hl with | [_], _ => rfl)⟩⟩,
    dfn_of F11 (He.glo_ok X G (c.fact 47 (f := .glo "fixed") rfl)) (fun _ _ _ _ _ _ us hl => match us, hl with | [_], _ => rfl) (fun p hp _ _ _ _ _ _ _ => by cases hp; rfl),
    dfn_of F12 (He.glo_ok X G (c.fact 48 (f := .glo "is_couple") rfl)) (fun _ _ _ _ _ _ us hl => match us, hl with | [_, _], _ => rfl) (fun p hp => by cases hp),
    dfn_of F13 (He.glo_ok X G (c.fact 49 (f := .glo "is_table") rfl)) (fun _ _ _ _ _ _ us hl => match us, hl with | [_, _], _ => rfl) (fun p hp => by cases hp),
    dfn_of F14 (He.glo_ok X G (c.fact 50 (f := .glo "is_listed") rfl)) (fun _ _ _ _ _ _ us hl => match us, hl with | [_, _, _], _ => rfl) (fun p hp => by cases hp),
    dfn_of F15 (He.glo_ok X G (c.fact 51 (f := .glo "is_house") rfl)) (fun _ _ _ _ _ _ us hl => match us, hl with | [_], _ => rfl) (fun p hp _ _ _ _ _ _ _ => by cases hp; rfl),
    dfn_of F16 (He.glo_ok X G (c.fact 52 (f := .glo "is_deal") rfl)) (fun _ _ _ _ _ _ us hl => match us, hl with | [_, _], _ => rfl) (fun p hp => by cases hp),
    dfn_of F17 (He.glo_ok X G (c.fact 53 (f := .glo "are_hands") rfl)) (fun _ _ _ _ _ _ us hl => match us, hl with | [_, _], _ => rfl) (fun p hp => by cases hp),
    dfn_of F18 (He.glo_ok X G (c.fact 54 (f := .glo "fixed_pair") rfl)) (fun _ _ _ _ _ _ us hl => match us, hl with | [_], _ => rfl) (fun p hp _ _ _ _ _ _ _ => by cases hp; rfl),
    ⟨⟨_, _, F19, He.mkr_ok (c.fact 55 (f := .mkr "Program") rfl), F19.bindsN (fun _ _ _ _ _ _ us hl => match us, hl with | [_, _, _], _ => rfl)⟩, He.glo_ok X G (c.fact 56 (f := .glo "Program") rfl)⟩,
    ⟨⟨_, _, F20, He.meth_ok (c.fact 57 (f := .meth "Program" "__eq__") rfl), F20.bindsN (fun _ _ _ _ _ _ us hl => match us, hl with | [_, _], _ => rfl)⟩⟩,
    dfn_of F21 (He.glo_ok X G (c.fact 58 (f := .glo "told") rfl)) (fun _ _ _ _ _ _ us hl => match us, hl with | [_, _], _ => rfl) (fun p hp => by cases hp),
    dfn_of F22 (He.glo_ok X G (c.fact 59 (f := .glo "change_row") rfl)) (fun _ _ _ _ _ _ us hl => match us, hl with | [_, _, _], _ => rfl) (fun p hp => by cases hp),
    dfn_of F23 (He.glo_ok X G (c.fact 60 (f := .glo "lists_to") rfl)) (fun _ _ _ _ _ _ us hl => match us, hl with | [_, _, _], _ => rfl) (fun p hp => by cases hp),
    dfn_of F24 (He.glo_ok X G (c.fact 61 (f := .glo "put_between") rfl)) (fun _ _ _ _ _ _ us hl => match us, hl with | [_, _], _ => rfl) (fun p hp => by cases hp),
    dfn_of F25 (He.glo_ok X G (c.fact 62 (f := .glo "any_out") rfl)) (fun _ _ _ _ _ _ us hl => match us, hl with | [_], _ => rfl) (fun p hp _ _ _ _ _ _ _ => by cases hp; rfl),
    dfn_of F26 (He.glo_ok X G (c.fact 63 (f := .glo "kind_of_lists") rfl)) (fun _ _ _ _ _ _ us hl => match us, hl with | [_, _, _, _, _], _ => rfl) (fun p hp => by cases hp),
    dfn_of F27 (He.glo_ok X G (c.fact 64 (f := .glo "need_room") rfl)) (fun _ _ _ _ _ _ us hl => match us, hl with | [_, _], _ => rfl) (fun p hp => by cases hp),
    dfn_of F28 (He.glo_ok X G (c.fact 65 (f := .glo "purse") rfl)) (fun _ _ _ _ _ _ us hl => match us, hl with | [_, _], _ => rfl) (fun p hp => by cases hp),
    dfn_of F29 (He.glo_ok X G (c.fact 66 (f := .glo "tickets") rfl)) (fun _ _ _ _ _ _ us hl => match us, hl with | [_], _ => rfl) (fun p hp _ _ _ _ _ _ _ => by cases hp; rfl),
    dfn_of F30 (He.glo_ok X G (c.fact 67 (f := .glo "shelf") rfl)) (fun _ _ _ _ _ _ us hl => match us, hl with | [_, _], _ => rfl) (fun p hp => by cases hp),
    dfn_of F31 (He.glo_ok X G (c.fact 68 (f := .glo "bag") rfl)) (fun _ _ _ _ _ _ us hl => match us, hl with | [_, _], _ => rfl) (fun p hp => by cases hp),
    dfn_of F32 (He.glo_ok X G (c.fact 69 (f := .glo "_law_saddle") rfl)) (fun _ _ _ _ _ _ us hl => match us, hl with | [_], _ => rfl) (fun p hp _ _ _ _ _ _ _ => by cases hp; rfl),
    dfn_of F33 (He.glo_ok X G (c.fact 70 (f := .glo "_law_ride") rfl)) (fun _ _ _ _ _ _ us hl => match us, hl with | [_, _], _ => rfl) (fun p hp => by cases hp),
    dfn_of F34 (He.glo_ok X G (c.fact 71 (f := .glo "_law_pick") rfl)) (fun _ _ _ _ _ _ us hl => match us, hl with | [_, _], _ => rfl) (fun p hp => by cases hp),
    dfn_of F35 (He.glo_ok X G (c.fact 72 (f := .glo "_law_kind") rfl)) (fun _ _ _ _ _ _ us hl => match us, hl with | [_], _ => rfl) (fun p hp _ _ _ _ _ _ _ => by cases hp; rfl),
    dfn_of F36 (He.glo_ok X G (c.fact 73 (f := .glo "_law_operation") rfl)) (fun _ _ _ _ _ _ us hl => match us, hl with | [_, _], _ => rfl) (fun p hp => by cases hp),
    dfn_of F37 (He.glo_ok X G (c.fact 74 (f := .glo "_law_table") rfl)) (fun _ _ _ _ _ _ us hl => match us, hl with | [_, _], _ => rfl) (fun p hp => by cases hp),
    dfn_of F38 (He.glo_ok X G (c.fact 75 (f := .glo "_law_houses") rfl)) (fun _ _ _ _ _ _ us hl => match us, hl with | [_], _ => rfl) (fun p hp _ _ _ _ _ _ _ => by cases hp; rfl),
    dfn_of F39 (He.glo_ok X G (c.fact 76 (f := .glo "_law_deal") rfl)) (fun _ _ _ _ _ _ us hl => match us, hl with | [_, _], _ => rfl) (fun p hp => by cases hp),
    dfn_of F40 (He.glo_ok X G (c.fact 77 (f := .glo "_law_hands") rfl)) (fun _ _ _ _ _ _ us hl => match us, hl with | [_, _], _ => rfl) (fun p hp => by cases hp),
    dfn_of F41 (He.glo_ok X G (c.fact 78 (f := .glo "_law_is_number") rfl)) (fun _ _ _ _ _ _ us hl => match us, hl with | [_, _], _ => rfl) (fun p hp => by cases hp),
    dfn_of F42 (He.glo_ok X G (c.fact 79 (f := .glo "_law_is_list") rfl)) (fun _ _ _ _ _ _ us hl => match us, hl with | [_, _, _], _ => rfl) (fun p hp => by cases hp),
    dfn_of F43 (He.glo_ok X G (c.fact 80 (f := .glo "_law_is_operation") rfl)) (fun _ _ _ _ _ _ us hl => match us, hl with | [_, _], _ => rfl) (fun p hp => by cases hp),
    dfn_of F44 (He.glo_ok X G (c.fact 81 (f := .glo "_law_is_house") rfl)) (fun _ _ _ _ _ _ us hl => match us, hl with | [_], _ => rfl) (fun p hp _ _ _ _ _ _ _ => by cases hp; rfl),
    dfn_of F45 (He.glo_ok X G (c.fact 82 (f := .glo "_law_due") rfl)) (fun _ _ _ _ _ _ us hl => match us, hl with | [_, _], _ => rfl) (fun p hp => by cases hp),
    dfn_of F46 (He.glo_ok X G (c.fact 83 (f := .glo "_law_bent_houses") rfl)) (fun _ _ _ _ _ _ us hl => match us, hl with | [_, _], _ => rfl) (fun p hp => by cases hp),
    dfn_of F47 (He.glo_ok X G (c.fact 84 (f := .glo "_law_bent_hands") rfl)) (fun _ _ _ _ _ _ us hl => match us, hl with | [_, _, _], _ => rfl) (fun p hp => by cases hp),
    dfn_of F48 (He.glo_ok X G (c.fact 85 (f := .glo "_law_heard") rfl)) (fun _ _ _ _ _ _ us hl => match us, hl with | [_, _], _ => rfl) (fun p hp => by cases hp),
    dfn_of F49 (He.glo_ok X G (c.fact 86 (f := .glo "_law_made_right") rfl)) (fun _ _ _ _ _ _ us hl => match us, hl with | [_, _], _ => rfl) (fun p hp => by cases hp),
    dfn_of F50 (He.glo_ok X G (c.fact 87 (f := .glo "law") rfl)) (fun _ _ _ _ _ _ us hl => match us, hl with | [_], _ => rfl) (fun p hp _ _ _ _ _ _ _ => by cases hp; rfl),
    He.cls_ok (c.fact 88 (f := .cls "Kind") rfl),
    He.noat_ok (c.fact 89 (f := .noat "Kind" "asks") rfl),
    He.noat_ok (c.fact 90 (f := .noat "Kind" "answers") rfl),
    He.noat_ok (c.fact 91 (f := .noat "Kind" "states") rfl),
    He.noat_ok (c.fact 92 (f := .noat "Kind" "first") rfl),
    He.noat_ok (c.fact 93 (f := .noat "Kind" "rows") rfl),
    He.noat_ok (c.fact 94 (f := .noat "Kind" "led") rfl),
    He.noat_ok (c.fact 95 (f := .noat "Kind" "moves") rfl),
    He.cls_ok (c.fact 96 (f := .cls "Program") rfl),
    He.noat_ok (c.fact 97 (f := .noat "Program" "houses") rfl),
    He.noat_ok (c.fact 98 (f := .noat "Program" "hands") rfl),
    He.noat_ok (c.fact 99 (f := .noat "Program" "deals") rfl),
    He.noat_ok (c.fact 100 (f := .noat "Program" "owners") rfl),
    He.glo_ok X G (c.fact 101 (f := .glo "CHANGES") rfl),
    h_CHANGES,
    He.glo_ok X G (c.fact 102 (f := .glo "WAYS") rfl),
    h_WAYS,
    He.glo_ok X G (c.fact 45 (f := .glo "Kind") rfl),
    He.glo_ok X G (c.fact 56 (f := .glo "Program") rfl),
    ⟨xK.1, xK.2.1, xK.2.2.1, xK.2.2.2⟩,
    ⟨xP.1, xP.2.1, xP.2.2.1, xP.2.2.2⟩,
    fun n hn => of_decide_eq_true (List.all_eq_true.mp kn n hn),
    kK,
    fun n hn => of_decide_eq_true (List.all_eq_true.mp kb n hn),
    pP,
    fun n hn => of_decide_eq_true (List.all_eq_true.mp pn n hn)⟩
end
end K81

end
section
/-! K81zr: the law holds. -/
namespace K81
open PySem PySem.Spec PyProof.Rows L2 Ow
theorem law_call {w : World} {K : W.Frag} {mg mb : Str → Option Value} {fa₀ a : Addr} {s₁ : Shared} {vs : List Value} {ns : List Int}
    (KX : K.In s₁.heap) (Y : SaysY fa fn xs ("law", none) exB s₁.heap K) (hns : s₁.heap.Ns mainGlobals mg) (hb : s₁.heap.Ns builtinsNs mb) (hbb : ∀ x : Str, x ≠ "__name__" → mb x = bootBuiltins x) (hlim : s₁.heap.NoLimit) (hg : s₁.gens = #[])
    (hbm : ∃ (bm : Addr) (ob : Obj), mg "__builtins__" = some (.ref bm) ∧ bm ≠ builtinsNs ∧ s₁.heap.get? bm = some ob ∧ ob.cls = .type "module" ∧ ob.dict = some builtinsNs ∧ ob.data = .plain)
    (hmg : mg "law" = some (.ref fa₀)) (ha : s₁.heap.get? a = some (lstO vs)) (hi : IntsAre vs ns) (hl : ns.length ≤ 63) : codeAny (model prg w) callerA (.call (.ref fa₀) ⟨[.ref a], []⟩) (LawEnd s₁) s₁ := by
  obtain ⟨T, F⟩ := txt_of KX hns Y.d Y.x Y.more
  obtain ⟨fd, FL⟩ := Y.d.def_ 50 (d := D50) rfl
  have FL : FnQ K "law" "law" s_law (He.ga K "law") fd := FL
  have gl := hmg.symm.trans (He.glo_ok KX hns (Y.d.fact 87 (f := .glo "law") rfl))
  cases gl
  have bA := FL.bindsA (ps := ["_law_script"]) (fun _ _ _ _ _ _ us hl => match us, hl with | [_], _ => rfl) s₁ [.ref a] rfl
  obtain ⟨oc, od, dV, kV, doc, pm, an, cdv, ct, osl, rfl, lk, hcd, hD, hK⟩ := FL.ex
  obtain ⟨c, rfl⟩ := He.codeIn_ref hcd
  have ec : He.codeOf K ("law", none) = c := He.codeOf_eq lk rfl
  have C := W.codeHd_of_K KX Y.hd
  refine law_callC KX hns hb hbb hlim hg Y.tab Y.out C hbm ha hi (Nat.le_trans hl (by decide)) fun base H kin TB hT hS env => ?_
  refine LamX.run_ofS (k := 14) (us := [Value.ref a]) (vs := [V.ref a]) lk hcd sc_law ⟨rfl, by decide, by decide⟩ env bA (.cons rfl .nil) rfl fun hr' => ?_
  exact law_body T F hS hl hr'
end K81
open PySem PySem.W PySem.Calls PyProof.Rows
theorem PySem.Challenge.cw_ownseen_k81_programs_made_and_refused_holds : PySem.Challenge.rw_ownseen_k81_programs_made_and_refused.Holds := by
  w_on; o_law
  refine HandSHeadRun.head_any (r := OpenLaw.row PySem.Challenge.rw_ownseen_k81_programs_made_and_refused) (q := view (OpenLaw.row PySem.Challenge.rw_ownseen_k81_programs_made_and_refused).prog [87]) (H := K81.hkY) (ob := K81.obY) (M := 16000) (loose := K81.names) (d := HandSHeadRun.topDef (OpenLaw.row PySem.Challenge.rw_ownseen_k81_programs_made_and_refused).prog 87) (kwd := []) K81.obY_eq
    (by kernel_rfl) (fun s => by kernel_rfl) K81.run (by kernel_rfl) (by kernel_rfl) (by kernel_rfl) (by rfl) (by first | assumption | decide +kernel) (by decide +kernel) ⟨rfl, rfl, rfl, rfl, rfl, by decide +kernel⟩ ?hw ?hc
  case hw => w_witness2
  case hc =>
    refine Att.attach_callB (n := 63) rfl (by kernel_rfl) fun w s₀ s₁ mg mb fa o pm cd doc a vs ns G Y ho hd hcd hmg0 hobj hints hlen hbits hg => ?_
    obtain ⟨K, KX, Y⟩ := Y
    have hmg : mg ("law" : PySem.Str) = some (.ref fa) := by
      have e : (HandSHeadRun.topDef (OpenLaw.row PySem.Challenge.rw_ownseen_k81_programs_made_and_refused).prog 87).name = ("law" : PySem.Str) := by kernel_rfl
      rw [← e]
      exact hmg0
    exact K81.law_call KX Y G.T.g G.T.b G.T.builtins G.T.nolimit hg G.T.bmain hmg hobj hints hlen

end
