import PyProof.Rows.All
import Wide.All
import OpenK.AllK
import Wide.FinOn
import HandS.ForMost
import HandS.AnyAll
import HandS.Dict
import HandS.List
import HandS.Deep
import HandS.Sort
import HandS.TupLen
import HandS.WordsDict
import KE.KeyNested
import KE.KDictKeyed
import HandS.DictComp
import HandS.HeadWalk
import HandS.SortRule
import HandS.Iter
import KE.GoesMore
import PyProof.EnumMake
import HandS.Style
import HandS.TupAny
import HandS.TupMul
import HandS.TupLe
import HandS.Conv
import HandS.Zip
import HandS.Flow
import HandS.IsInst
import HandS.More
import HandS.Exc
import HandS.EndTab
import HandS.HeadHook4
import HandS.HeadEnd
import PySem.Challenge.RW_unendtold_k29_whole_what_is_settled
set_option Elab.async false
set_option linter.all false
section
set_option maxRecDepth 100000
set_option maxHeartbeats 4000000
/-! GX: all, any of a generator expression over anything that is walked, its element any expression that gives a bool. -/
namespace GX
open PySem PySem.Spec PyProof.Rows L2
open Sem (wp)

/-! ### generators are never dropped -/
theorem runs_gens {M : Model} {Γ : PySem.Ctx} {p : Pos} {t : Sem PySem.Fin} {fs : List Frame} {s s' : Shared} {e : End} (h : Runs M Γ p t fs s e s') : s.gens.size ≤ s'.gens.size := by
  induction h <;> (try simp only [Shared.setGen, Array.size_setIfInBounds, Array.size_push] at *) <;> omega
theorem wakes_gens {M : Model} {Γ : PySem.Ctx} {p : Pos} {g : Nat} {r : Resume} {s s' : Shared} {res : GenResult} (h : Wakes M Γ p g r s res s') : s.gens.size ≤ s'.gens.size := by
  have sz : ∀ (s : Shared) g x, (s.setGen g x).gens.size = s.gens.size := fun s g x => by simp only [Shared.setGen, Array.size_setIfInBounds]
  unfold Wakes at h
  split at h
  · exact h.elim
  · split at h
    · obtain ⟨e1, s1, hr, _, _, rfl⟩ := h
      have := runs_gens hr
      rw [sz] at this ⊢; exact this
    · rw [h.2]; first | exact Nat.le_refl _ | (rw [sz]; exact Nat.le_refl _)
    · rw [h.2]; first | exact Nat.le_refl _ | (rw [sz]; exact Nat.le_refl _)
  · obtain ⟨e1, s1, hr, _, _, rfl⟩ := h
    have := runs_gens hr
    rw [sz] at this ⊢; exact this
  · rw [h.2]; first | exact Nat.le_refl _ | (rw [sz]; exact Nat.le_refl _)
  · rw [h.2]; first | exact Nat.le_refl _ | (rw [sz]; exact Nat.le_refl _)
theorem wp_gens {α : Type} (M : Model) (Γ : PySem.Ctx) (n : Nat) (t : Sem α) : ∀ (Q : α → Pos → Shared → Prop) (E : Value → Pos → Shared → Prop) (p : Pos) (s : Shared), n ≤ s.gens.size → wp M Γ t Q E p s →
    wp M Γ t (fun a p' s' => n ≤ s'.gens.size ∧ Q a p' s') (fun e p' s' => n ≤ s'.gens.size ∧ E e p' s') p s := by
  induction t with
  | pure a => exact fun Q E p s hn h => ⟨hn, h⟩
  | raise e => exact fun Q E p s hn h => ⟨hn, h⟩
  | unsupported _ => exact fun Q E p s _ h => h
  | finish _ => exact fun Q E p s _ h => h
  | rule _ k ih => exact fun Q E p s hn h => ih () Q E p s hn h
  | «at» p' k ih => exact fun Q E p s hn h => ih () Q E p' s hn h
  | load a _ k ih => exact fun Q E p s hn ⟨o, ho, h⟩ => ⟨o, ho, ih o Q E p s hn h⟩
  | update a _ f k ih => exact fun Q E p s hn h => ⟨h.1, ih () Q E p _ hn h.2⟩
  | loadIfAlive a k ih => exact fun Q E p s hn h => ih _ Q E p s hn h
  | point _ k ih => exact fun Q E p s hn h => ih () Q E p s hn h
  | register _ _ => exact fun Q E p s _ h => h
  | alloc o k ih => exact fun Q E p s hn h => ih _ Q E p _ hn h
  | fresh k ih => exact fun Q E p s hn h => ih _ Q E p _ hn h
  | ask k ih => exact fun Q E p s hn h => ih _ Q E p s hn h
  | choose src m k ih => exact fun Q E p s hn h => ⟨h.1, ih _ Q E p _ hn h.2⟩
  | os q _ k ih => exact fun Q E p s hn h => ih _ Q E p _ hn h
  | call c hd _ _ k ih => exact fun Q E p s hn ⟨r, s', hr, h⟩ => ⟨r, s', hr, ih r Q E p s' (Nat.le_trans hn (runs_gens hr)) h⟩
  | handled own k ih => exact fun Q E p s hn h => ih _ Q E p s hn h
  | genState g k ih => exact fun Q E p s hn ⟨st, hs, h⟩ => ⟨st, hs, ih _ Q E p s hn h⟩
  | newGen c k ih => exact fun Q E p s hn h => ih _ Q E p _ (by simp only [Array.size_push]; omega) h
  | resume g r _ k ih => exact fun Q E p s hn ⟨res, s', hw, h⟩ => ⟨res, s', hw, ih res Q E p s' (Nat.le_trans hn (wakes_gens hw)) h⟩
  | yield _ _ _ _ => exact fun Q E p s _ h => h
  | stack k ih => exact fun Q E p s hn h => ih _ Q E p s hn h
  | fork _ _ => exact fun Q E p s _ h => h
  | thread k ih => exact fun Q E p s hn h => ih _ Q E p s hn h
  | await _ _ _ _ _ => exact fun Q E p s _ h => h
theorem with_gens {α : Type} {M : Model} {A : Around} {s : Shared} {t : Sem α} {Q : α → Shared → Prop} {E : Value → Shared → Prop}
    (h : wpAny M A t (fun a s' => s.gens.size ≤ s'.gens.size → Q a s') (fun e s' => s.gens.size ≤ s'.gens.size → E e s') s) : wpAny M A t Q E s :=
  have k : wpAny M A t (fun a s' => s.gens.size ≤ s'.gens.size ∧ (s.gens.size ≤ s'.gens.size → Q a s')) (fun e s' => s.gens.size ≤ s'.gens.size ∧ (s.gens.size ≤ s'.gens.size → E e s')) s := fun Γ p hΓ => wp_gens M Γ s.gens.size t _ _ p s (Nat.le_refl _) (h Γ p hΓ)
  wpAny_mono k (fun _ _ x => x.2 x.1) (fun _ _ x => x.2 x.1)

/-! ### the generator's own context -/
structure GxS (N : List Str) (sc scope : Scope) (own : List (Str × Nat)) : Prop where
  kind : scope.kind = .function
  co : scope.isCoroutine = false
  cell : ∀ y ∈ scope.names, y.2 ≠ .cell
  dot : scope.names.lookup (".0" : Str) = some NameKind.local
  dotN : (".0" : Str) ∉ N
  ix : ∀ p ∈ own, N[p.2]? = some p.1
  free : ∀ y ∈ scope.names, y.2 = .free → sc.names.lookup y.1 = some .cell ∨ sc.names.lookup y.1 = some .free
  own : ∀ y ∈ scope.names, y.2 = .local → y.1 ∈ own.map (·.1) ∨ y.1 ∉ N
abbrev cxG (X : Cx) (A : Around) (s : Shared) (H : Hp) (cenv : Env) (fp : List Addr) (pn : List (Addr × Obj)) : Cx :=
  { X with A := A, s_0 := s, H_0 := H, env := cenv, outer := X.stack, stack := cenv :: X.stack, ex := fp, fn := fun _ => false, pn := pn, xe := fun _ _ => False }
section
variable {X : Cx} {pins : List (Addr × Obj)} {σ : L2.St} {H : Hp} {s : Shared}
theorem inv_gens {g' : Array GenState} {t' : Nat} (I : Inv X pins σ H s) (hg : AllBare g') : Inv X pins σ H { s with gens := g', toks := t' } :=
  ⟨I.ok, I.os, hg, I.base, I.loc, I.cell, I.free, I.freeC, I.pin, I.hok, I.len⟩
theorem inv_same {s' : Shared} (I : Inv X pins σ H s) (hh : s'.heap = s.heap) (ho : s'.os = s.os) (hg : AllBare s'.gens) : Inv X pins σ H s' :=
  ⟨I.ok, ho.trans I.os, hg, by rw [hh]; exact I.base, by rw [hh]; exact I.loc, by rw [hh]; exact I.cell, I.free, I.freeC, by rw [hh]; exact I.pin, by rw [hh]; exact I.hok, I.len⟩
theorem clo_mem {cells : List (Str × Addr)} {names : List (Str × NameKind)} {y : Str} {c : Addr} (hf : ∀ y ∈ names, y.2 = .free → ∃ c, cells.lookup y.1 = some c) (h : (cloFrom cells names []).lookup y = some c) : cells.lookup y = some c := by
  rcases cloFrom_mem (PySem.mem_of_lookup h) with h | ⟨h1, h2⟩
  · cases h
  · obtain ⟨c', hc⟩ := hf _ h1 rfl
    rw [hc] at h2
    rw [h2]; exact hc
theorem clo_has {cells : List (Str × Addr)} {names : List (Str × NameKind)} {y : Str} (hf : ∀ y ∈ names, y.2 = .free → ∃ c, cells.lookup y.1 = some c) (h : names.lookup y = some .free) : ∃ c, (cloFrom cells names []).lookup y = some c ∧ cells.lookup y = some c := by
  obtain ⟨c, hc⟩ := mem_lookup (cloFrom_has (cells := cells) (acc := []) (PySem.mem_of_lookup h))
  exact ⟨c, hc, clo_mem hf hc⟩
/-- the generator's context holds at its first turn -/
theorem gx_start {scope : Scope} {own : List (Str × Nat)} {fp : List Addr} {code : Value} {A : Around} {h' : Heap} {itv : Value} {o : Obj} {vs : Array Value} {g' : Array GenState} {t' : Nat} (I : Inv X pins σ H s) (ok : GxS X.N X.env.scope scope own) (hN : X.N.Nodup)
    (hfp : ∀ b ∈ fp, FpOk X pins H b ∧ b < s.heap.objs.size) (hA : X.calm = true → A.handled = none) (hAf : A.frames = some (genEnv scope (cloFrom X.env.cells scope.names []) s.heap.objs.size code builtinsNs X.env :: X.stack))
    (hn : h'.Ns s.heap.objs.size (fun y => if y = ".0" then some itv else none)) (hs : Heap.SameBut s.heap.objs.size (s.heap.push { cls := .type "frame", data := .dict #[] }) h') (hd : o.data = .fields vs) (hg : AllBare g') :
    Inv (cxG X A s H (genEnv scope (cloFrom X.env.cells scope.names []) s.heap.objs.size code builtinsNs X.env) fp [(h'.objs.size, o)]) [] (wipe σ (own.map (·.2))) H { s with gens := g', toks := t', heap := h'.push o } := by
  have hfree : ∀ y ∈ scope.names, y.2 = .free → ∃ c, X.env.cells.lookup y.1 = some c := fun y hy e => by
    rcases ok.free y hy e with k | k
    · exact I.ok.has _ (.inl k)
    · exact I.ok.has _ (.inr k)
  generalize hcenv : genEnv scope (cloFrom X.env.cells scope.names []) s.heap.objs.size code builtinsNs X.env = cenv at hAf ⊢
  have hL : cenv.locals = s.heap.objs.size := by rw [← hcenv]; rfl
  have hcl : cenv.cells = cloFrom X.env.cells scope.names [] := by rw [← hcenv]; rfl
  have hsc : cenv.scope = scope := by rw [← hcenv]; rfl
  have hsz : h'.objs.size = s.heap.objs.size + 1 := by rw [hs.1, Heap.size_push]
  have kp : ∀ b u, s.heap.get? b = some u → (h'.push o).get? b = some u := fun b u e => Heap.get?_push_of_some _ (hs.extBut b u (Nat.ne_of_lt (Heap.lt_size e)) (Heap.get?_push_of_some _ e))
  have cm : ∀ {y c}, cenv.cells.lookup y = some c → X.env.cells.lookup y = some c ∧ c < s.heap.objs.size := fun {y c} e => by
    rw [hcl] at e
    have e := clo_mem hfree e
    obtain ⟨w, z⟩ := I.cell _ _ e
    exact ⟨e, z.lt⟩
  have okB : (cxG X A s H cenv fp [(h'.objs.size, o)]).Ok := by
    refine ⟨I.ok.mod, by show cenv.scope.kind = _; rw [hsc]; exact ok.kind, by show cenv.globals = _; rw [← hcenv]; exact I.ok.glob, by show cenv.builtins = _; rw [← hcenv]; rfl, by show s.heap.objs.size ≤ cenv.locals; rw [hL]; exact Nat.le_refl _,
      fun y z c e1 e2 => I.ok.inj y z c (cm e1).1 (cm e2).1, fun y hy => ?_, fun y c z e => (Bool.false_ne_true z).elim, hA, hAf, .inr ⟨rfl, by rw [← hcenv]; rfl⟩, fun b hb => ⟨by rw [show (cxG X A s H cenv fp [(h'.objs.size, o)]).env.locals = cenv.locals from rfl, hL]; exact Nat.ne_of_lt (hfp b hb).2, fun y c e => (hfp b hb).1.2.2.2.2.1 y c (cm e).1⟩, I.bs, Nat.le_trans I.ok.bsz I.sz, fun b u e hb => ?_, fun b hb z => ?_, I.stack, I.stkFree⟩
    · have key : ∀ k, cenv.kindOf y = some k → (k = .cell ∨ k = .free) → ∃ c, cenv.cells.lookup y = some c := fun k hk hk' => by
        unfold Env.kindOf at hk
        rw [hsc] at hk
        rcases hk' with rfl | rfl
        · exact absurd rfl (ok.cell _ (PySem.mem_of_lookup hk))
        · obtain ⟨c, h1, _⟩ := clo_has hfree hk
          exact ⟨c, by rw [hcl]; exact h1⟩
      rcases hy with hy | hy
      · exact key _ hy (.inl rfl)
      · exact key _ hy (.inr rfl)
    · rcases (hfp b hb).1.2.2.2.1 with z | z
      · exact I.ok.noex b u e z
      · exact absurd (Nat.lt_of_lt_of_le (Heap.lt_size e) (Nat.le_trans I.ok.bsz z)) (Nat.lt_irrefl _)
    · rcases List.mem_cons.mp (I.stkSub b z) with z | z
      · exact (hfp b hb).1.2.1 z
      · exact (hfp b hb).1.2.2.1 z
  refine ⟨okB, rfl, hg, Un.kept kp, ⟨_, by rw [show (cxG X A s H cenv fp [(h'.objs.size, o)]).env.locals = cenv.locals from rfl, hL]; exact hn.push o, fun i y av e1 e2 e3 => ?_⟩, fun y c e => ?_, ?_, fun y c e => ?_, fun p hp => ?_, I.hok.kept kp, by rw [wipe_length]; exact I.len⟩
  · obtain ⟨e2, hne⟩ := wipe_some e2
    have e3 : Vis cenv.scope y := e3
    rw [hsc] at e3
    have hfr : scope.names.lookup y = some .free := by
      rcases e3 with e3 | e3 | e3
      · rcases ok.own _ (PySem.mem_of_lookup e3) rfl with e' | e'
        · obtain ⟨p, hp, hpy⟩ := List.mem_map.mp e'
          have e4 := ok.ix p hp
          have hpy : p.1 = y := hpy
          rw [hpy] at e4
          exact absurd (List.mem_map.mpr ⟨p, hp, nodup_ix hN e4 e1⟩) hne
        · exact absurd (List.mem_of_getElem? e1) e'
      · exact absurd rfl (ok.cell _ (PySem.mem_of_lookup e3))
      · exact e3
    obtain ⟨m, hm, hl⟩ := I.loc
    have hvis : Vis X.env.scope y := (ok.free _ (PySem.mem_of_lookup hfr) rfl).elim (fun k => .inr (.inl k)) (fun k => .inr (.inr k))
    obtain ⟨w, r, q⟩ := hl i y av e1 e2 hvis
    refine ⟨w, r, .inr ⟨.inr ?_, ?_⟩⟩
    · show cenv.scope.names.lookup y = _
      rw [hsc]; exact hfr
    · obtain ⟨c, h1, h2⟩ := clo_has hfree hfr
      rcases q with ⟨k, _⟩ | ⟨_, c', e', z⟩
      · have k : X.env.scope.names.lookup y = some .local := k
        rcases ok.free _ (PySem.mem_of_lookup hfr) rfl with k' | k' <;> rw [show X.env.scope.names.lookup y = _ from k'] at k <;> cases k
      · rw [h2] at e'; cases e'
        exact ⟨c, by show cenv.cells.lookup y = _; rw [hcl]; exact h1, z.keeps kp⟩
  · obtain ⟨h1, _⟩ := cm e
    obtain ⟨w, z⟩ := I.cell y c h1
    exact ⟨w, z.keeps kp⟩
  · show H cenv.locals = none
    rw [hL]; exact I.hok.fresh (Nat.le_refl _)
  · exact I.freeC y c (cm e).1
  · have hp : p = (h'.objs.size, o) := by simpa using hp
    subst hp
    refine ⟨Heap.get?_push_size _ (Obj.isFreed_of_fields hd), I.hok.fresh (by rw [hsz]; exact Nat.le_succ _), ?_, fun z => ?_, fun v => by rw [hd]; simp⟩
    · show h'.objs.size ≠ cenv.locals
      rw [hL, hsz]; exact Nat.succ_ne_self _
    · rcases List.mem_cons.mp (I.stkSub _ z) with z | z
      · have := I.lt
        rw [← z] at this
        have this : h'.objs.size < s.heap.objs.size := this
        omega
      · exact I.nofs (a := h'.objs.size) (by omega) z
end

abbrev gxE (elt tg iter : Expr) (ifs : List Expr) (scope : Scope) (pos : Pos) : Expr := .GeneratorExp elt [⟨tg, iter, ifs, 0⟩] scope pos
abbrev gxA (A : Around) (e : Expr) (it : Addr) (cenv : Env) : Around := A.in1.in1.over (.compLoop e 0 (.ref it) .none cenv) []
/-- what the consumer is told at a yield; at the end -/
def gxY (X : Cx) (pins : List (Addr × Obj)) (σ : L2.St) (stop : Bool) (Q : VK) (a : Addr) (g : Nat) : Protocol := fun _ _ v s κ =>
  ∃ c H', v = .bool c ∧ Inv X pins σ H' s ∧ s.heap.IsGen a g ∧ (c = stop → Q (.bl stop) H') ∧ (c ≠ stop → ∀ s'' : Shared, s''.heap = s.heap → s''.os = s.os → AllBare s''.gens → κ (.send .none) s'')
def gxR (X : Cx) (pins : List (Addr × Obj)) (σ : L2.St) (stop : Bool) (Q : VK) : GenEnd := fun n s0 r s1 => r = .ok .next ∧ (fun (_ : Nat) (_ s1 : Shared) => ∃ H', Inv X pins σ H' s1 ∧ Q (.bl (!stop)) H') n s0 s1
/-- what is asked of the walk, the target, the tests, the element -/
def gxW (stop : Bool) (J : It) (tg : TG) (tt : TT) (te : TE) (vs : List Nat) (σ : L2.St) (Q : VK) (W : Nat → Nat → Hp → Prop) : Prop := ∀ i m H, W i m H →
  (J.stop i H ∧ Q (.bl (!stop)) H) ∨ (J.go i H ∧ ∃ Nx : Hp → Prop, (∀ H', Nx H' → ∃ m', m' < m ∧ W (i + 1) m' H') ∧ ∀ x H', J.yld i H x H' → tg x (wipe σ vs) H' fun σ2 H2 => wipe σ2 vs = wipe σ vs ∧ tt σ2 H2 fun b H3 =>
    if b = true then te σ2 H3 fun y H4 => ∃ c, y = .bl c ∧ (c = stop → Q (.bl stop) H4) ∧ (c ≠ stop → Nx H4) else Nx H3)
section
variable {X : Cx} {pins : List (Addr × Obj)} {σ : L2.St} {H : Hp} {s : Shared}
theorem gx_seg {stop : Bool} {elt tg iter : Expr} {ifs : List Expr} {scope : Scope} {own : List (Str × Nat)} {pos : Pos} {it a : Addr} {g : Nat} {o : Obj} {cenv : Env} {fp : List Addr} {J : It} {tn : Nat → Heap → Prop} {wg : TG} {tt : TT} {te : TE} {Q : VK} {W : Nat → Nat → Hp → Prop}
    (hc : X.calm = true) (I : Inv X pins σ H s) (hco : cenv.scope.isCoroutine = false) (T : Turn X.prog X.w X.K tg J fp it tn) (hfp : ∀ b ∈ fp, FpOk X pins H b)
    (hgen : ∀ h : Heap, h.get? a = some o → h.IsGen a g)
    (pg : PG (cxG X (gxA X.A (gxE elt tg iter ifs scope pos) it cenv) s H cenv fp [(a, o)]) tg wg)
    (pt : PTs (cxG X (gxA X.A (gxE elt tg iter ifs scope pos) it cenv) s H cenv fp [(a, o)]) ifs tt)
    (pe : PE (cxG X (gxA X.A (gxE elt tg iter ifs scope pos) it cenv) s H cenv fp [(a, o)]) elt te) (turn : gxW stop J wg tt te (own.map (·.2)) σ Q W) :
    ∀ (m n i : Nat) (H' : Hp) (s0 s' : Shared), m < n → Inv (cxG X (gxA X.A (gxE elt tg iter ifs scope pos) it cenv) s H cenv fp [(a, o)]) [] (wipe σ (own.map (·.2))) H' s' → tn i s'.heap → (∀ b ∈ fp, H' b = none) → (∀ b ∈ fp, b ≠ a) → W i m H' →
      Seg (model X.prog X.w) X.A.in1.in1 (gxR X pins σ stop Q) (gxY X pins σ stop Q a g) n s0 (.compLoop (gxE elt tg iter ifs scope pos) 0 (.ref it) .none cenv) ((model X.prog X.w).den (.compLoop (gxE elt tg iter ifs scope pos) 0 (.ref it) .none cenv)) [] s' := by
  intro m
  induction m using Nat.strongRecOn with
  | ind m ih =>
    intro n i H' s0 s' hmn I' st nn hna w
    generalize hXG : cxG X (gxA X.A (gxE elt tg iter ifs scope pos) it cenv) s H cenv fp [(a, o)] = XG at pg pt pe ih I'
    have hPr : XG.prog = X.prog := by rw [← hXG]
    have hWw : XG.w = X.w := by rw [← hXG]
    have hK : XG.K = X.K := by rw [← hXG]
    have hA : XG.A = gxA X.A (gxE elt tg iter ifs scope pos) it cenv := by rw [← hXG]
    have hE : XG.env = cenv := by rw [← hXG]
    have hxe : XG.xe = fun _ _ => False := by rw [← hXG]
    have hcG : XG.calm = true := by rw [← hXG]; exact hc
    have stat : ∀ {σ' : L2.St} {H' : Hp} {s' : Shared}, Inv XG [] σ' H' s' → (∀ b ∈ fp, H' b = none) → ∀ b ∈ fp, FpOk XG [] H' b := fun {σ' H' s'} I' hn b hb => by
      subst hXG
      exact ⟨hn b hb, (I'.ok.exf b hb).1, I'.ok.exfs b hb, .inl hb, fun x c e => (I'.ok.exf b hb).2 x c e, fun p hp => by
        have : p = (a, o) := by simpa using hp
        subst this
        exact Ne.symm (hna b hb)⟩
    have toX : ∀ {σ' : L2.St} {pl : List (Addr × Obj)} {H' : Hp} {s' : Shared}, Inv XG pl σ' H' s' → Inv X pins σ H' s' ∧ s'.heap.IsGen a g := fun {σ' pl H' s'} I' => by
      subst hXG
      exact ⟨I.call' (ch := fp) I'.os I'.base I'.hok I'.bare fun b hb => ⟨(hfp b hb).2.2.2.1, (hfp b hb).2.1, (hfp b hb).2.2.2.2.1, (hfp b hb).2.2.2.2.2⟩,
        hgen _ (I'.pin (a, o) (List.mem_append_left _ (List.mem_singleton.mpr rfl))).1⟩
    show Seg _ X.A.in1.in1 _ _ n s0 _ ((compTurn (gxE elt tg iter ifs scope pos) 0 (.ref it) .none cenv).onRaise (leaving cenv)) [] s'
    rw [compTurn_gen, Sem.onRaise_eq_wrap]
    refine seg_bind_wrap (wpAny_standAt ?_)
    rcases turn i m H' w with ⟨stp, qq⟩ | ⟨go, Nx, hNx, step⟩
    · have td := T.done XG hPr hWw hK hcG i [] s' _ H' (fun _ _ => False) I' (stat I' nn) st stp
      rw [hA] at td
      refine seg_bind_wrap (thnF td fun r s6 ⟨hr, I6⟩ => ?_)
      subst hr
      exact seg_end (.ok .next) ⟨rfl, H', (toX I6).1, qq⟩
    · have ti := T.item XG hPr hWw hK hcG i [] s' _ H' (fun _ _ => False) I' (stat I' nn) st go
      rw [hA] at ti
      refine seg_bind_wrap (thnF ti fun r s6 ⟨u, hr, h6⟩ => ?_)
      subst hr
      refine seg_bind_wrap (thnF h6 fun _ s7 ⟨x, H7, I7, r7, y7, st7, n7⟩ => ?_)
      have I7' := I7.pinned (stat I7 n7) (T.obj _ _ st7)
      have p1 := pg.run _ s7 _ H7 x u _ I7' r7 (step x H7 y7)
      rw [hPr, hWw, hA, hE, hxe] at p1
      refine seg_bind_wrap (thnF p1 fun _ s8 ⟨σ8, H8, I8, hw8, q8⟩ => ?_)
      have p2 := pt.run _ s8 σ8 H8 _ I8 q8
      rw [hPr, hWw, hA, hE, hxe] at p2
      refine seg_bind_wrap (thnF p2 fun b s9 ⟨H9, I9, q9⟩ => ?_)
      have fin : ∀ {s2 s3 : Shared} {H2 : Hp} (s1 : Shared) (n' : Nat), Inv XG ([] ++ pinsAt fp s7.heap) σ8 H2 s2 → Nx H2 → s3.heap = s2.heap → s3.os = s2.os → AllBare s3.gens → m ≤ n' →
          Seg (model X.prog X.w) X.A.in1.in1 (gxR X pins σ stop Q) (gxY X pins σ stop Q a g) n' s1 (.compLoop (gxE elt tg iter ifs scope pos) 0 (.ref it) .none cenv) ((model X.prog X.w).den (.compLoop (gxE elt tg iter ifs scope pos) 0 (.ref it) .none cenv)) [] s3 := fun {s2 s3 H2} s1 n' I2 nx hh ho hb hmn' => by
        obtain ⟨m', hm, w'⟩ := hNx H2 nx
        have pin' : ∀ b ∈ fp, ∀ o, s7.heap.get? b = some o → s2.heap.get? b = some o ∧ H2 b = none := fun b hb o e =>
          let z := I2.pin (b, o) (List.mem_append_right _ (List.mem_append_right _ (mem_pinsAt hb e)))
          ⟨z.1, z.2.1⟩
        have hl : (wipe σ (own.map (·.2))).length = σ8.length := by rw [← hw8, wipe_length]
        refine ih m' hm n' (i + 1) H2 s1 s3 (by omega) (inv_same ((I2.unpinned (pins := [])).weak hl fun j v e => ?_) hh ho hb) (T.keep _ _ _ st7 fun b hb o e => by rw [hh]; exact (pin' b hb o e).1) (fun b hb => ?_) hna w'
        · rw [← hw8] at e
          exact (wipe_some e).1
        · obtain ⟨o, e, _⟩ := T.obj _ _ st7 b hb
          exact (pin' b hb o e).2
      cases b with
      | false =>
        simp only [Bool.false_eq_true, if_false] at q9 ⊢
        exact seg_again rfl (fin s0 n I9 q9 rfl rfl I9.bare (by omega))
      | true =>
        simp only [if_true] at q9 ⊢
        have hy : ∀ v, yieldOut cenv v = yieldValue v := fun v => by simp only [yieldOut, hco, Bool.false_eq_true, if_false]
        simp only [hy]
        rw [Sem.bind_eq_wrap', Sem.bind_eq_wrap', Sem.wrap_wrap, Sem.wrap_wrap]
        have p3 := pe.run _ s9 σ8 H9 _ I9 q9
        rw [hPr, hWw, hA, hE, hxe] at p3
        refine seg_wrap (thnF p3 fun z s10 ⟨yv, H10, I10, r10, c, ey, hs1, hs2⟩ => ?_)
        subst ey
        cases r10
        cases n with
        | zero => omega
        | succ n =>
          refine seg_at (seg_yield rfl rfl rfl ⟨c, H10, rfl, (toX I10).1, (toX I10).2, hs1, fun hne s3 hh ho hb => ?_⟩)
          exact seg_again rfl (fin s3 n I10 (hs2 hne) hh ho hb (by omega))

/-! ### the consumer -/
/-- the generator g at a stands ready -/
def Rdy (X : Cx) (A : Around) (R : GenEnd) (Y : Protocol) (a : Addr) (g n : Nat) (s : Shared) : Prop := s.heap.IsGen a g ∧ s.heap.NoLimit ∧ AllBare s.gens ∧
  ∃ gs, s.gens[g]? = some gs ∧ ∀ s'' : Shared, s''.heap = s.heap → s''.os = s.os → AllBare s''.gens → gs.Goes (model X.prog X.w) A R Y n (.send .none) s''
theorem setBare {s : Shared} {g : Nat} {x : GenState} (h : AllBare s.gens) (hx : x.bare = true) : AllBare (s.setGen g x).gens := fun y hy => by
  obtain ⟨i, hi, rfl⟩ := Array.mem_iff_getElem.mp hy
  simp only [Shared.setGen, Array.size_setIfInBounds] at hi
  simp only [Shared.setGen, Array.getElem_setIfInBounds hi]
  split
  · exact hx
  · exact h _ (Array.getElem_mem hi)
theorem gx_next {stop : Bool} {a : Addr} {g n : Nat} {Q : VK} {A : Around} {E : Value → Shared → Prop} {Z : Option Value → Shared → Prop} (hh : A.handled = none) (hd : A.depth < recursionLimit)
    (r : Rdy X A.in1 (gxR X pins σ stop Q) (gxY X pins σ stop Q a g) a g n s)
    (hY : ∀ c s', (c = stop → ∃ H', Inv X pins σ H' s' ∧ Q (.bl stop) H') → (c ≠ stop → ∃ m, m < n ∧ Rdy X A.in1 (gxR X pins σ stop Q) (gxY X pins σ stop Q a g) a g m s') → Z (some (.bool c)) s')
    (hN : ∀ s', (∃ H', Inv X pins σ H' s' ∧ Q (.bl (!stop)) H') → Z none s') : wpAny (model X.prog X.w) A (pyNext (.ref a)) Z E s := by
  obtain ⟨hg, hl, hb, gs, hgs, hgo⟩ := r
  have hlt : g < s.gens.size := by
    rcases Nat.lt_or_ge g s.gens.size with h' | h'
    · exact h'
    · rw [Array.getElem?_eq_none h'] at hgs; cases hgs
  refine with_gens ?_
  refine wpAny_pyNext_genexpQ (P := fun _ _ s1 => ∃ H', Inv X pins σ H' s1 ∧ Q (.bl (!stop)) H') (Y := gxY X pins σ stop Q a g) (n := n) hh hl hd hg hgs (hgo _ rfl rfl (setBare hb rfl)) (fun v s1 gs' hbr hv => ?_) (fun s1 ⟨H', I1, q1⟩ h' hk _ => ?_)
  · obtain ⟨c, H', rfl, I1, hg1, q1, q2⟩ := hv
    intro hsz
    have hlt1 : g < s1.gens.size := by
      have : (s1.setGen g gs').gens.size = s1.gens.size := by simp only [Shared.setGen, Array.size_setIfInBounds]
      omega
    refine hY c _ (fun hc => ⟨H', inv_same I1 rfl rfl (setBare I1.bare hbr), q1 hc⟩) fun hc => ?_
    cases n with
    | zero => exact (q2 hc s1 rfl rfl I1.bare).elim
    | succ m =>
      refine ⟨m, Nat.lt_succ_self _, hg1, I1.nolimit, setBare I1.bare hbr, gs', ?_, fun s'' e1 e2 e3 => q2 hc s'' e1 e2 e3⟩
      simp only [Shared.setGen]
      rw [Array.getElem?_setIfInBounds_self_of_lt hlt1]
  · refine hN _ ⟨H', ?_, q1⟩
    exact inv_gens (I1.kept (t' := s1.toks) hk) (setBare I1.bare rfl)
theorem all_loop {a : Addr} {g : Nat} {Q : VK} {R : Result → Shared → Prop} {A : Around} (hh : A.handled = none) (hd : A.depth < recursionLimit)
    (hR : ∀ c s', (∃ H', Inv X pins σ H' s' ∧ Q (.bl c) H') → R (.ok (.ret (.bool c))) s') : ∀ (n : Nat) (s : Shared), Rdy X A.in1.in1 (gxR X pins σ false Q) (gxY X pins σ false Q a g) a g n s →
    codeAny (model X.prog X.w) A (.builtin "all.loop" ⟨[.ref a], []⟩) R s := by
  intro n
  induction n using Nat.strongRecOn with
  | ind n ih =>
    intro s r
    refine codeAny_builtin F.entry_all_loop ?_
    rw [Around.under_plainId F.plain_all_loop _]
    show wpAny _ A.in1 (pyNext (.ref a) >>= _) _ _ s
    refine wpAny_bind (gx_next (stop := false) (A := A.in1) hh hd r (fun c s' h1 h2 => ?_) fun s' h1 => ?_)
    · refine wpAny_bind (wpAny_holding (wpAny_truthy_bool ?_))
      refine wpAny_bind (wpAny_letGo ?_)
      cases c with
      | true =>
        obtain ⟨m, hm, r'⟩ := h2 (by decide)
        simp only [if_true]
        exact wpAny_pure ⟨plainId_quiet F.plain_all_loop _, ih m hm s' r'⟩
      | false =>
        simp only [Bool.false_eq_true, if_false]
        exact wpAny_bind (wpAny_rule (wpAny_pure (hR false s' (h1 rfl))))
    · exact wpAny_bind (wpAny_rule (wpAny_pure (hR true s' h1)))
theorem any_loop {a : Addr} {g : Nat} {Q : VK} {R : Result → Shared → Prop} {A : Around} (hh : A.handled = none) (hd : A.depth < recursionLimit)
    (hR : ∀ c s', (∃ H', Inv X pins σ H' s' ∧ Q (.bl c) H') → R (.ok (.ret (.bool c))) s') : ∀ (n : Nat) (s : Shared), Rdy X A.in1.in1 (gxR X pins σ true Q) (gxY X pins σ true Q a g) a g n s →
    codeAny (model X.prog X.w) A (.builtin "any.loop" ⟨[.ref a], []⟩) R s := by
  intro n
  induction n using Nat.strongRecOn with
  | ind n ih =>
    intro s r
    refine codeAny_builtin F.entry_any_loop ?_
    rw [Around.under_plainId F.plain_any_loop _]
    show wpAny _ A.in1 (pyNext (.ref a) >>= _) _ _ s
    refine wpAny_bind (gx_next (stop := true) (A := A.in1) hh hd r (fun c s' h1 h2 => ?_) fun s' h1 => ?_)
    · refine wpAny_bind (wpAny_holding (wpAny_truthy_bool ?_))
      refine wpAny_bind (wpAny_letGo ?_)
      cases c with
      | false =>
        obtain ⟨m, hm, r'⟩ := h2 (by decide)
        simp only [Bool.false_eq_true, if_false]
        exact wpAny_pure ⟨plainId_quiet F.plain_any_loop _, ih m hm s' r'⟩
      | true =>
        simp only [if_true]
        exact wpAny_bind (wpAny_rule (wpAny_pure (hR true s' (h1 rfl))))
    · exact wpAny_bind (wpAny_rule (wpAny_pure (hR false s' h1)))

theorem gx_begin {stop : Bool} {elt tg iter : Expr} {ifs : List Expr} {scope : Scope} {pos : Pos} {it a : Addr} {g n : Nat} {cenv : Env} {J : It} {fp : List Addr} {tn : Nat → Heap → Prop} {Q : VK} {s0 s' : Shared}
    (T : Turn X.prog X.w X.K tg J fp it tn) (st : tn 0 s'.heap)
    (loop : Seg (model X.prog X.w) X.A.in1.in1 (gxR X pins σ stop Q) (gxY X pins σ stop Q a g) n s0 (.compLoop (gxE elt tg iter ifs scope pos) 0 (.ref it) .none cenv) ((model X.prog X.w).den (.compLoop (gxE elt tg iter ifs scope pos) 0 (.ref it) .none cenv)) [] s') :
    Seg (model X.prog X.w) X.A.in1.in1 (gxR X pins σ stop Q) (gxY X pins σ stop Q a g) n s0 (.compStart (gxE elt tg iter ifs scope pos) 0 (.ref it) .none cenv) ((model X.prog X.w).den (.compStart (gxE elt tg iter ifs scope pos) 0 (.ref it) .none cenv)) [] s' := by
  show Seg _ X.A.in1.in1 _ _ n s0 _ ((compStart (gxE elt tg iter ifs scope pos) 0 (.ref it) .none cenv).onRaise (leaving cenv)) [] s'
  unfold compStart
  rw [Sem.onRaise_eq_wrap]
  show Seg _ X.A.in1.in1 _ _ n s0 _ ((ask >>= _).wrap _ _ _ _) [] s'
  refine seg_bind_wrap (wpAny_askSetting ?_)
  split
  · exact seg_again rfl loop
  · refine seg_bind_wrap (wpAny_rule ?_)
    show Seg _ X.A.in1.in1 _ _ n s0 _ ((standAt iter.pos >>= _).wrap _ _ _ _) [] s'
    exact seg_bind_wrap (wpAny_standAt (seg_bind_wrap (T.self _ 0 s' _ _ st (seg_again rfl loop))))
/-- the reading of all(..) (stop: false), any(..) (stop: true) -/
def tGx (stop : Bool) (P : Addr) (wi : TI) (wg : TG) (tt : TT) (te : TE) (vs : List Nat) : TE := fun σ H Q => wi σ H fun J H1 => ∃ ps, H1 P = some (.tbl ps) ∧ TriplesOk ps.toList ∧
  ∀ H2, GxR.Tabbed P H1 H2 → ∃ W : Nat → Nat → Hp → Prop, (∃ m, W 0 m H2) ∧ gxW stop J wg tt te vs σ Q W
theorem gx_made {stop : Bool} {c P : Addr} {elt tg iter : Expr} {ifs : List Expr} {scope : Scope} {own : List (Str × Nat)} {pos : Pos} {wi : TI} {wg : TG} {tt : TT} {te : TE} {Q : VK} {Z : Value → Shared → Prop}
    (hc : X.calm = true) (hN : X.N.Nodup) (I : Inv X pins σ H s) (hi : PI X tg iter wi) (ok : GxS X.N X.env.scope scope own) (TB : GxR.TabB X.base X.mg c P) (hcode : X.env.code = .ref c) (hd : X.A.depth < recursionLimit)
    (hg : ∀ (A : Around) (s : Shared) (H : Hp) (C : Addr) (code : Value) (cl : List (Str × Addr)) (fp : List Addr) (pn : List (Addr × Obj)), A.handled = X.A.handled → A.depth = X.A.depth + 1 → A.units = X.A.units + 5 → PG (cxG X A s H (genEnv scope cl C code builtinsNs X.env) fp pn) tg wg)
    (ht : ∀ (A : Around) (s : Shared) (H : Hp) (C : Addr) (code : Value) (cl : List (Str × Addr)) (fp : List Addr) (pn : List (Addr × Obj)), A.handled = X.A.handled → A.depth = X.A.depth + 1 → A.units = X.A.units + 5 → PTs (cxG X A s H (genEnv scope cl C code builtinsNs X.env) fp pn) ifs tt)
    (he : ∀ (A : Around) (s : Shared) (H : Hp) (C : Addr) (code : Value) (cl : List (Str × Addr)) (fp : List Addr) (pn : List (Addr × Obj)), A.handled = X.A.handled → A.depth = X.A.depth + 1 → A.units = X.A.units + 5 → PE (cxG X A s H (genEnv scope cl C code builtinsNs X.env) fp pn) elt te)
    (hs : ∀ x, genFold iter X.env x = pure x) (h : tGx stop P wi wg tt te (own.map (·.2)) σ H Q)
    (hZ : ∀ a g n s', Rdy X X.A.in1.in1 (gxR X pins σ stop Q) (gxY X pins σ stop Q a g) a g n s' → Z (.ref a) s') :
    wpAny (model X.prog X.w) X.A (eval (gxE elt tg iter ifs scope pos) X.env) Z X.xe s := by
  have hfree : ∀ y ∈ scope.names, y.2 = .free → ∃ c, X.env.cells.lookup y.1 = some c := fun y hy e => by
    rcases ok.free y hy e with k | k
    · exact I.ok.has _ (.inl k)
    · exact I.ok.has _ (.inr k)
  refine wpAny_GeneratorExp_make ok.co (closure_ok hfree) ok.cell ok.dot ok.kind hd (thn (hi.run pins s σ H _ I h) fun xv s1 hx => thn hx fun itv s2 h2 => ?_) hs
  obtain ⟨it, fp, tn, J, H2, rfl, I2, T, st2, f2, ps, hP, htr, q⟩ := h2
  have hP2 : s2.heap.get? P = some { cls := .none, data := .fields ps } := I2.hok P _ hP
  have cd : PySem.W.CodeHd s2.heap c P := TB.code.keeps I2.bk
  refine ⟨I2.nolimit, ?_⟩
  have sz : ∀ b ∈ fp, b < s2.heap.objs.size := fun b hb => by
    obtain ⟨o, e, _⟩ := T.obj _ _ st2 b hb
    exact Heap.lt_size e
  have hfP : ∀ b ∈ fp, b ≠ P := fun b hb z => by
    have := (f2 b hb).1
    rw [z, hP] at this; cases this
  have cont : ∀ (code : Value) (h3 : Heap) (tk : Nat) (ps' : Array Value), Heap.ExtBut P s2.heap h3 → s2.heap.objs.size ≤ h3.objs.size → h3.get? P = some { cls := .none, data := .fields ps' } → (∃ more, ps' = ps ++ more) → TriplesOk ps'.toList →
      wpAny (model X.prog X.w) X.A (builtinsFor X.env.globals X.env.builtins) (fun bi s4 =>
        ∀ h', h'.Ns s4.heap.objs.size (fun y => if y = ".0" then some (.ref it) else none) → Heap.SameBut s4.heap.objs.size (s4.heap.push { cls := .type "frame", data := .dict #[] }) h' →
          Z (.ref h'.objs.size) { s4 with
            gens := s4.gens.push (.fresh (.compStart (gxE elt tg iter ifs scope pos) 0 (.ref it) .none (genEnv scope (cloFrom X.env.cells scope.names []) s4.heap.objs.size code bi X.env))),
            toks := s4.toks + 1 + 1 + 1,
            heap := h'.push { cls := .type "generator", data := .fields #[.int s4.gens.size 0, .str "<genexpr>" (s4.toks + 1), .str (X.env.qual ++ "<genexpr>") (s4.toks + 1 + 1)] } }) X.xe { s2 with heap := h3, toks := tk } := by
    intro code h3 tk ps' hx hsz hP3 hmore ht3
    obtain ⟨bm, ob, e1, e2, e3, e4, e5, e6, e7, e8⟩ := TB.bm
    obtain ⟨more, rfl⟩ := hmore
    have I3 := GxR.inv_tab (more := more) (h' := h3) (g' := s2.gens) (d' := s2.drawn) (t' := tk) I2 hP (fun b u hb e => hx b u hb e) hP3 I2.bare
    have I3 : Inv X pins σ (upd H2 P (.tbl (ps ++ more))) { s2 with heap := h3, toks := tk } := I3
    refine wpAny_builtinsFor (m := X.mg) (by rw [I3.ok.glob]; exact I3.mod.glob.keeps I3.bk) e1 e2 (I3.bk _ _ e5) e6 e7 e8 ?_
    generalize hs3 : ({ s2 with heap := h3, toks := tk } : Shared) = s3 at I3
    have hh3 : s3.heap = h3 := by rw [← hs3]
    obtain ⟨W, ⟨m0, w0⟩, turn⟩ := q _ ⟨⟨ps ++ more, upd_same, ht3⟩, fun b hb => upd_ne hb⟩
    generalize hH3 : upd H2 P (.tbl (ps ++ more)) = H3 at I3 w0
    have f3 : ∀ b ∈ fp, FpOk X pins H3 b ∧ b < s3.heap.objs.size := fun b hb =>
      ⟨⟨by rw [← hH3, upd_ne (hfP b hb)]; exact (f2 b hb).1, (f2 b hb).2⟩, by rw [hh3]; exact Nat.lt_of_lt_of_le (sz b hb) hsz⟩
    have st3 : tn 0 s3.heap := T.keep _ _ _ st2 fun b hb o e => by rw [hh3]; exact hx b o (hfP b hb) e
    intro h' hn' hs'
    generalize hcv : genEnv scope (cloFrom X.env.cells scope.names []) s3.heap.objs.size code builtinsNs X.env = cenv
    have hco : cenv.scope.isCoroutine = false := by rw [← hcv]; exact ok.co
    have hsz' : h'.objs.size = s3.heap.objs.size + 1 := by rw [hs'.1, Heap.size_push]
    generalize ho : ({ cls := .type "generator", data := .fields #[.int s3.gens.size 0, .str "<genexpr>" (s3.toks + 1), .str (X.env.qual ++ "<genexpr>") (s3.toks + 1 + 1)] } : Obj) = o
    have hod : o.data = .fields #[.int s3.gens.size 0, .str "<genexpr>" (s3.toks + 1), .str (X.env.qual ++ "<genexpr>") (s3.toks + 1 + 1)] := by rw [← ho]
    have hAf : (gxA X.A (gxE elt tg iter ifs scope pos) it cenv).frames = some (cenv :: X.stack) := by
      simp [gxA, Around.over, pushEnvs, Code.envs, Code.isFrame, Code.env?, envsOf, I3.ok.frames]
    have dep : (gxA X.A (gxE elt tg iter ifs scope pos) it cenv).depth = X.A.depth + 1 := by
      simp [gxA, Around.over, Code.weight, Code.isCreation, Code.isGuard, Code.isCaller, Code.frames, Code.isFrame, frameCount]
    have uni : (gxA X.A (gxE elt tg iter ifs scope pos) it cenv).units = X.A.units + 5 := by
      simp [gxA, Around.over, Code.cUnits, Code.frames, Code.isFrame, unitsOf]
    have hdl : (gxA X.A (gxE elt tg iter ifs scope pos) it cenv).handled = X.A.handled := rfl
    have J0 := gx_start (A := gxA X.A (gxE elt tg iter ifs scope pos) it cenv) (itv := .ref it) (o := o) (g' := s3.gens.push (.fresh (.compStart (gxE elt tg iter ifs scope pos) 0 (.ref it) .none cenv))) (t' := s3.toks + 1 + 1 + 1) (code := code)
      I3 ok hN f3 (fun z => by rw [hdl]; exact I3.ok.hd z) (by rw [hcv]; exact hAf) hn' hs' hod (I3.bare.push rfl)
    rw [hcv] at J0
    have pg := hg (gxA X.A (gxE elt tg iter ifs scope pos) it cenv) s3 H3 s3.heap.objs.size code (cloFrom X.env.cells scope.names []) fp [(h'.objs.size, o)] hdl dep uni
    have pt := ht (gxA X.A (gxE elt tg iter ifs scope pos) it cenv) s3 H3 s3.heap.objs.size code (cloFrom X.env.cells scope.names []) fp [(h'.objs.size, o)] hdl dep uni
    have pe := he (gxA X.A (gxE elt tg iter ifs scope pos) it cenv) s3 H3 s3.heap.objs.size code (cloFrom X.env.cells scope.names []) fp [(h'.objs.size, o)] hdl dep uni
    rw [hcv] at pg pt pe
    have hgen : ∀ h : Heap, h.get? h'.objs.size = some o → h.IsGen h'.objs.size s3.gens.size := fun h e => by
      exact ⟨o, _, _, e, by rw [← ho], hod, by rw [← ho]⟩
    have keep5 : ∀ b u, s3.heap.get? b = some u → (h'.push o).get? b = some u := fun b u e => Heap.get?_push_of_some _ (hs'.extBut b u (Nat.ne_of_lt (Heap.lt_size e)) (Heap.get?_push_of_some _ e))
    have key : Z (.ref h'.objs.size) { s3 with gens := s3.gens.push (.fresh (.compStart (gxE elt tg iter ifs scope pos) 0 (.ref it) .none cenv)), toks := s3.toks + 1 + 1 + 1, heap := h'.push o } := by
      refine hZ h'.objs.size s3.gens.size (m0 + 1) _ ⟨hgen _ (Heap.get?_push_size _ (Obj.isFreed_of_fields hod)), I3.nolimit.keeps keep5, I3.bare.push rfl, _, Array.getElem?_push_size .., fun s'' e1 e2 e3 => ⟨rfl, ?_⟩⟩
      have e1 : s''.heap = h'.push o := e1
      refine gx_begin T (T.keep _ _ _ st3 fun b hb u e => by rw [e1]; exact keep5 b u e) ?_
      refine gx_seg (own := own) hc I3 hco T (fun b hb => (f3 b hb).1) hgen pg pt pe turn m0 (m0 + 1) 0 H3 s'' s'' (Nat.lt_succ_self _) (inv_same J0 e1 e2 e3) (T.keep _ _ _ st3 fun b hb u e => by rw [e1]; exact keep5 b u e) (fun b hb => (f3 b hb).1.1) (fun b hb z => ?_) w0
      have h9 : h'.objs.size < s3.heap.objs.size := by rw [← z]; exact (f3 b hb).2
      rw [hsz'] at h9
      exact absurd h9 (by simp)
    subst hs3
    exact key
  cases hf : codeAmong pos ps.toList with
  | none =>
    refine wpAny_genexprCodeX hcode (cd.code hP2 htr) (cd.tab hP2) hf fun c' h' tk hx hge hlt hco' _ htab' _ => ?_
    obtain ⟨o1, vs, f1, tf, fl, tg, inF, tx, tt, op, _, _, _, _, _, _, _, _, _, htr, _⟩ := hco'
    exact cont _ h' tk _ hx (Nat.le_trans hge (Nat.le_of_lt hlt)) htab'.2 ⟨_, rfl⟩ htr
  | some cv =>
    refine wpAny_genexprCode_hit hcode (cd.code hP2 htr) hf ?_
    exact cont cv s2.heap s2.toks ps (Heap.ExtBut.refl _ _) (Nat.le_refl _) hP2 ⟨#[], by simp⟩ htr

theorem pe_allX {c P : Addr} {elt tg iter : Expr} {ifs : List Expr} {scope : Scope} {own : List (Str × Nat)} {p pos gpos : Pos} {wi : TI} {wg : TG} {tt : TT} {te : TE}
    (hc : X.calm = true) (hN : X.N.Nodup) (hgl : Gl X "all") (hm : X.mg "all" = none) (hi : PI X tg iter wi) (ok : GxS X.N X.env.scope scope own) (TB : GxR.TabB X.base X.mg c P) (hcode : X.env.code = .ref c) (hh : X.A.handled = none) (hd : X.A.depth < recursionLimit)
    (hg : ∀ (A : Around) (s : Shared) (H : Hp) (C : Addr) (code : Value) (cl : List (Str × Addr)) (fp : List Addr) (pn : List (Addr × Obj)), A.handled = X.A.handled → A.depth = X.A.depth + 1 → A.units = X.A.units + 5 → PG (cxG X A s H (genEnv scope cl C code builtinsNs X.env) fp pn) tg wg)
    (ht : ∀ (A : Around) (s : Shared) (H : Hp) (C : Addr) (code : Value) (cl : List (Str × Addr)) (fp : List Addr) (pn : List (Addr × Obj)), A.handled = X.A.handled → A.depth = X.A.depth + 1 → A.units = X.A.units + 5 → PTs (cxG X A s H (genEnv scope cl C code builtinsNs X.env) fp pn) ifs tt)
    (he : ∀ (A : Around) (s : Shared) (H : Hp) (C : Addr) (code : Value) (cl : List (Str × Addr)) (fp : List Addr) (pn : List (Addr × Obj)), A.handled = X.A.handled → A.depth = X.A.depth + 1 → A.units = X.A.units + 5 → PE (cxG X A s H (genEnv scope cl C code builtinsNs X.env) fp pn) elt te)
    (hs : ∀ x, genFold iter X.env x = pure x) :
    PE X (.Call (.Name "all" p) [gxE elt tg iter ifs scope gpos] [] pos) (tGx false P wi wg tt te (own.map (·.2))) := by
  refine ⟨fun pins s σ H Q I h => ?_⟩
  have est : starEach [gxE elt tg iter ifs scope gpos] X.env = (false, eval (gxE elt tg iter ifs scope gpos) X.env) :: starEach [] X.env := rfl
  refine wpAny_Call_Name_kw (ld_blt I hgl hm (by decide +kernel : bootBuiltins "all" = some (.builtin "all")) ?_)
  refine PyProof.Rows.callWith_builtin1 ?_ est (by rfl)
  rw [est]
  show wpAny _ _ (spliced ((false, eval (gxE elt tg iter ifs scope gpos) X.env) :: backTo pos (starEach [] X.env))) _ _ s
  refine Calls.spliced_cons (gx_made hc hN I hi ok TB hcode hd hg ht he hs h fun a g n s5 r => ?_)
  refine Calls.spliced_nil ?_
  refine call_function_tree F.kind_all F.plain_all F.entry_all (F.args_all1 _) ?_
  unfold Builtin.«all»
  refine wpAny_bind (m := oneArg "all" _) (wpAny_pure ?_)
  refine wpAny_bind (wpAny_pyIter_gen r.1 ?_)
  exact wpAny_pure ⟨plainId_quiet F.plain_all_loop _, all_loop hh hd (fun c s' ⟨H', I', q⟩ => ⟨.bl c, H', I', rfl, q⟩) n s5 r⟩
theorem pe_anyX {c P : Addr} {elt tg iter : Expr} {ifs : List Expr} {scope : Scope} {own : List (Str × Nat)} {p pos gpos : Pos} {wi : TI} {wg : TG} {tt : TT} {te : TE}
    (hc : X.calm = true) (hN : X.N.Nodup) (hgl : Gl X "any") (hm : X.mg "any" = none) (hi : PI X tg iter wi) (ok : GxS X.N X.env.scope scope own) (TB : GxR.TabB X.base X.mg c P) (hcode : X.env.code = .ref c) (hh : X.A.handled = none) (hd : X.A.depth < recursionLimit)
    (hg : ∀ (A : Around) (s : Shared) (H : Hp) (C : Addr) (code : Value) (cl : List (Str × Addr)) (fp : List Addr) (pn : List (Addr × Obj)), A.handled = X.A.handled → A.depth = X.A.depth + 1 → A.units = X.A.units + 5 → PG (cxG X A s H (genEnv scope cl C code builtinsNs X.env) fp pn) tg wg)
    (ht : ∀ (A : Around) (s : Shared) (H : Hp) (C : Addr) (code : Value) (cl : List (Str × Addr)) (fp : List Addr) (pn : List (Addr × Obj)), A.handled = X.A.handled → A.depth = X.A.depth + 1 → A.units = X.A.units + 5 → PTs (cxG X A s H (genEnv scope cl C code builtinsNs X.env) fp pn) ifs tt)
    (he : ∀ (A : Around) (s : Shared) (H : Hp) (C : Addr) (code : Value) (cl : List (Str × Addr)) (fp : List Addr) (pn : List (Addr × Obj)), A.handled = X.A.handled → A.depth = X.A.depth + 1 → A.units = X.A.units + 5 → PE (cxG X A s H (genEnv scope cl C code builtinsNs X.env) fp pn) elt te)
    (hs : ∀ x, genFold iter X.env x = pure x) :
    PE X (.Call (.Name "any" p) [gxE elt tg iter ifs scope gpos] [] pos) (tGx true P wi wg tt te (own.map (·.2))) := by
  refine ⟨fun pins s σ H Q I h => ?_⟩
  have est : starEach [gxE elt tg iter ifs scope gpos] X.env = (false, eval (gxE elt tg iter ifs scope gpos) X.env) :: starEach [] X.env := rfl
  refine wpAny_Call_Name_kw (ld_blt I hgl hm (by decide +kernel : bootBuiltins "any" = some (.builtin "any")) ?_)
  refine PyProof.Rows.callWith_builtin1 ?_ est (by rfl)
  rw [est]
  show wpAny _ _ (spliced ((false, eval (gxE elt tg iter ifs scope gpos) X.env) :: backTo pos (starEach [] X.env))) _ _ s
  refine Calls.spliced_cons (gx_made hc hN I hi ok TB hcode hd hg ht he hs h fun a g n s5 r => ?_)
  refine Calls.spliced_nil ?_
  refine call_function_tree F.kind_any F.plain_any F.entry_any (F.args_any1 _) ?_
  unfold Builtin.«any»
  refine wpAny_bind (m := oneArg "any" _) (wpAny_pure ?_)
  refine wpAny_bind (wpAny_pyIter_gen r.1 ?_)
  exact wpAny_pure ⟨plainId_quiet F.plain_any_loop _, any_loop hh hd (fun c s' ⟨H', I', q⟩ => ⟨.bl c, H', I', rfl, q⟩) n s5 r⟩
end
end GX
end

section
set_option maxRecDepth 100000
set_option maxHeartbeats 4000000
/-! GM: max of a generator expression whose element gives whole numbers. -/
namespace GM
open PySem PySem.Spec PyProof.Rows L2 GX
open Sem (wp)
/-- what the consumer's list holds -/
def bl : Option Int → List V
  | none => []
  | some b => [.int b, .int b]
def mx (bo : Option Int) (k : Int) : Int := match bo with
  | none => k
  | some b => if b < k then k else b
/-- the consumer's list at S -/
def Hold (S : Addr) (bo : Option Int) (h : Heap) : Prop := match bo with
  | none => ∃ n, h.get? S = some { cls := .type "list", data := .seq #[] n }
  | some c => ∃ t1 t2 n, h.get? S = some { cls := .type "list", data := .seq #[.int c t1, .int c t2] n }
def gmY (X : Cx) (pins : List (Addr × Obj)) (σ : L2.St) (S a : Addr) (g : Nat) : Protocol := fun _ s0 v s κ =>
  ∃ bo k t H', v = .int k t ∧ Hold S bo s0.heap ∧ Inv X pins σ H' s ∧ H' S = some (.lst (bl bo)) ∧ s.heap.IsGen a g ∧ ∀ s'' : Shared, Heap.SameBut S s.heap s''.heap → Hold S (some (mx bo k)) s''.heap → s''.os = s.os → AllBare s''.gens → κ (.send .none) s''
def gmR (X : Cx) (pins : List (Addr × Obj)) (σ : L2.St) (S : Addr) (Q : VK) : GenEnd := fun n s0 r s1 => r = .ok .next ∧ (fun (s0 s1 : Shared) => ∃ H' b, Hold S (some b) s0.heap ∧ Inv X pins σ H' s1 ∧ H' S = some (.lst (bl (some b))) ∧ Q (.int b) (upd H' S (.lst []))) s0 s1
/-- what is asked of the walk, the target, the tests, the element -/
def gmW (J : It) (tg : TG) (tt : TT) (te : TE) (vs : List Nat) (σ : L2.St) (S : Addr) (Q : VK) (W : Nat → Nat → Option Int → Hp → Prop) : Prop := ∀ i m bo H, W i m bo H → H S = some (.lst (bl bo)) ∧
  ((J.stop i H ∧ ∃ b, bo = some b ∧ Q (.int b) (upd H S (.lst []))) ∨ (J.go i H ∧ ∃ Nx : Option Int → Hp → Prop, (∀ bo' H', Nx bo' H' → ∃ m', m' < m ∧ W (i + 1) m' bo' H') ∧ ∀ x H', J.yld i H x H' → tg x (wipe σ vs) H' fun σ2 H2 => wipe σ2 vs = wipe σ vs ∧ tt σ2 H2 fun b H3 =>
    if b = true then te σ2 H3 fun y H4 => ∃ k, y = .int k ∧ H4 S = some (.lst (bl bo)) ∧ Nx (some (mx bo k)) (upd H4 S (.lst (bl (some (mx bo k))))) else Nx bo H3))
theorem hold_of {X : Cx} {H : Hp} {h : Heap} {S : Addr} {bo : Option Int} (ho : HOk X.prog X.w H h) (hS : H S = some (.lst (bl bo))) : Hold S bo h := by
  obtain ⟨_, its, n, hv, e⟩ := ho S _ hS
  cases bo with
  | none => cases hv; exact ⟨n, e⟩
  | some b =>
    cases hv with
    | cons r1 hv =>
      cases hv with
      | cons r2 hv =>
        cases hv
        obtain ⟨t1, rfl⟩ := r1
        obtain ⟨t2, rfl⟩ := r2
        exact ⟨t1, t2, n, e⟩
theorem put_ex {h : Heap} {S : Addr} {xs : Array Value} {n : Nat} {c : Int} {t1 t2 : Tok} (e : h.get? S = some { cls := .type "list", data := .seq xs n }) :
    ∃ h', Heap.SameBut S h h' ∧ Hold S (some c) h' :=
  ⟨h.update S (Obj.mapSeq fun _ => #[.int c t1, .int c t2]), Heap.SameBut.update _ _ _, t1, t2, _, get?_update_seq (c := "list") e fun _ => #[.int c t1, .int c t2]⟩
theorem okOf {P : Program} {w : World} {H : Hp} {S : Addr} {c : Int} {h : Heap} (z : Hold S (some c) h) : ObjOk P w (upd H S (.lst (bl (some c)))) h S (.lst (bl (some c))) := by
  obtain ⟨t1, t2, n, e⟩ := z
  exact ⟨by show (2 : Nat) ≤ sizeLine; decide, [.int c t1, .int c t2], n, .cons ⟨t1, rfl⟩ (.cons ⟨t2, rfl⟩ .nil), e⟩
section
variable {X : Cx} {pins : List (Addr × Obj)} {σ : L2.St} {H : Hp} {s : Shared}
/-- the list at S written by the consumer -/
theorem inv_put {S : Addr} {bo : Option Int} {c : Int} {s3 : Shared} (I : Inv X pins σ H s) (hS : H S = some (.lst (bl bo))) (sb : Heap.SameBut S s.heap s3.heap) (z : Hold S (some c) s3.heap) (hos : s3.os = s.os) (hb : AllBare s3.gens) :
    Inv X pins σ (upd H S (.lst (bl (some c)))) s3 := by
  obtain ⟨t1, t2, n, e⟩ := id z
  exact inv_same (I.write (h' := s3.heap) (t' := s.toks) (by rw [hS]; trivial) (.inl rfl) (fun b u hb q => (sb.2 b hb).trans q) ⟨_, e⟩ (okOf z)) rfl hos hb
theorem inv_out {S : Addr} {bo : Option Int} {s3 : Shared} {n : Nat} (I : Inv X pins σ H s) (hS : H S = some (.lst (bl bo))) (sb : Heap.SameBut S s.heap s3.heap) (z : s3.heap.get? S = some { cls := .type "list", data := .seq #[] n }) (hos : s3.os = s.os) (hb : AllBare s3.gens) :
    Inv X pins σ (upd H S (.lst [])) s3 :=
  inv_same (I.write (h' := s3.heap) (t' := s.toks) (by rw [hS]; trivial) (.inl rfl) (fun b u hb q => (sb.2 b hb).trans q) ⟨_, z⟩ ⟨Nat.zero_le _, [], n, .nil, z⟩) rfl hos hb
theorem gm_seg {S : Addr} {elt tg iter : Expr} {ifs : List Expr} {scope : Scope} {own : List (Str × Nat)} {pos : Pos} {it a : Addr} {g : Nat} {o : Obj} {cenv : Env} {fp : List Addr} {J : It} {tn : Nat → Heap → Prop} {wg : TG} {tt : TT} {te : TE} {Q : VK} {W : Nat → Nat → Option Int → Hp → Prop}
    (hc : X.calm = true) (I : Inv X pins σ H s) (hco : cenv.scope.isCoroutine = false) (T : Turn X.prog X.w X.K tg J fp it tn) (hfp : ∀ b ∈ fp, FpOk X pins H b)
    (hgen : ∀ h : Heap, h.get? a = some o → h.IsGen a g)
    (pg : PG (cxG X (gxA X.A (gxE elt tg iter ifs scope pos) it cenv) s H cenv fp [(a, o)]) tg wg)
    (pt : PTs (cxG X (gxA X.A (gxE elt tg iter ifs scope pos) it cenv) s H cenv fp [(a, o)]) ifs tt)
    (pe : PE (cxG X (gxA X.A (gxE elt tg iter ifs scope pos) it cenv) s H cenv fp [(a, o)]) elt te) (turn : gmW J wg tt te (own.map (·.2)) σ S Q W) :
    ∀ (m n i : Nat) (bo : Option Int) (H' : Hp) (s0 s' : Shared), m < n → Hold S bo s0.heap → Inv (cxG X (gxA X.A (gxE elt tg iter ifs scope pos) it cenv) s H cenv fp [(a, o)]) [] (wipe σ (own.map (·.2))) H' s' → tn i s'.heap → (∀ b ∈ fp, H' b = none) → (∀ b ∈ fp, b ≠ a) → W i m bo H' →
      Seg (model X.prog X.w) X.A.in1.in1 (gmR X pins σ S Q) (gmY X pins σ S a g) n s0 (.compLoop (gxE elt tg iter ifs scope pos) 0 (.ref it) .none cenv) ((model X.prog X.w).den (.compLoop (gxE elt tg iter ifs scope pos) 0 (.ref it) .none cenv)) [] s' := by
  intro m
  induction m using Nat.strongRecOn with
  | ind m ih =>
    intro n i bo H' s0 s' hmn h0 I' st nn hna w
    generalize hXG : cxG X (gxA X.A (gxE elt tg iter ifs scope pos) it cenv) s H cenv fp [(a, o)] = XG at pg pt pe ih I'
    have hPr : XG.prog = X.prog := by rw [← hXG]
    have hWw : XG.w = X.w := by rw [← hXG]
    have hK : XG.K = X.K := by rw [← hXG]
    have hA : XG.A = gxA X.A (gxE elt tg iter ifs scope pos) it cenv := by rw [← hXG]
    have hE : XG.env = cenv := by rw [← hXG]
    have hxe : XG.xe = fun _ _ => False := by rw [← hXG]
    have hcG : XG.calm = true := by rw [← hXG]; exact hc
    have stat : ∀ {σ' : L2.St} {H' : Hp} {s' : Shared}, Inv XG [] σ' H' s' → (∀ b ∈ fp, H' b = none) → ∀ b ∈ fp, FpOk XG [] H' b := fun {σ' H' s'} I' hn b hb => by
      subst hXG
      exact ⟨hn b hb, (I'.ok.exf b hb).1, I'.ok.exfs b hb, .inl hb, fun x c e => (I'.ok.exf b hb).2 x c e, fun p hp => by
        have : p = (a, o) := by simpa using hp
        subst this
        exact Ne.symm (hna b hb)⟩
    have toX : ∀ {σ' : L2.St} {pl : List (Addr × Obj)} {H' : Hp} {s' : Shared}, Inv XG pl σ' H' s' → Inv X pins σ H' s' ∧ s'.heap.IsGen a g := fun {σ' pl H' s'} I' => by
      subst hXG
      exact ⟨I.call' (ch := fp) I'.os I'.base I'.hok I'.bare fun b hb => ⟨(hfp b hb).2.2.2.1, (hfp b hb).2.1, (hfp b hb).2.2.2.2.1, (hfp b hb).2.2.2.2.2⟩,
        hgen _ (I'.pin (a, o) (List.mem_append_left _ (List.mem_singleton.mpr rfl))).1⟩
    show Seg _ X.A.in1.in1 _ _ n s0 _ ((compTurn (gxE elt tg iter ifs scope pos) 0 (.ref it) .none cenv).onRaise (leaving cenv)) [] s'
    rw [compTurn_gen, Sem.onRaise_eq_wrap]
    refine seg_bind_wrap (wpAny_standAt ?_)
    obtain ⟨hS, tw⟩ := turn i m bo H' w
    rcases tw with ⟨stp, b0, hb0, qq⟩ | ⟨go, Nx, hNx, step⟩
    · have td := T.done XG hPr hWw hK hcG i [] s' _ H' (fun _ _ => False) I' (stat I' nn) st stp
      rw [hA] at td
      refine seg_bind_wrap (thnF td fun r s6 ⟨hr, I6⟩ => ?_)
      subst hr
      subst hb0
      exact seg_end (.ok .next) ⟨rfl, H', b0, h0, (toX I6).1, hS, qq⟩
    · have ti := T.item XG hPr hWw hK hcG i [] s' _ H' (fun _ _ => False) I' (stat I' nn) st go
      rw [hA] at ti
      refine seg_bind_wrap (thnF ti fun r s6 ⟨u, hr, h6⟩ => ?_)
      subst hr
      refine seg_bind_wrap (thnF h6 fun _ s7 ⟨x, H7, I7, r7, y7, st7, n7⟩ => ?_)
      have I7' := I7.pinned (stat I7 n7) (T.obj _ _ st7)
      have p1 := pg.run _ s7 _ H7 x u _ I7' r7 (step x H7 y7)
      rw [hPr, hWw, hA, hE, hxe] at p1
      refine seg_bind_wrap (thnF p1 fun _ s8 ⟨σ8, H8, I8, hw8, q8⟩ => ?_)
      have p2 := pt.run _ s8 σ8 H8 _ I8 q8
      rw [hPr, hWw, hA, hE, hxe] at p2
      refine seg_bind_wrap (thnF p2 fun b s9 ⟨H9, I9, q9⟩ => ?_)
      have fin : ∀ {s3 : Shared} {H2 : Hp} {bo' : Option Int} (s1 : Shared) (n' : Nat), Hold S bo' s1.heap → Inv XG ([] ++ pinsAt fp s7.heap) σ8 H2 s3 → Nx bo' H2 → m ≤ n' →
          Seg (model X.prog X.w) X.A.in1.in1 (gmR X pins σ S Q) (gmY X pins σ S a g) n' s1 (.compLoop (gxE elt tg iter ifs scope pos) 0 (.ref it) .none cenv) ((model X.prog X.w).den (.compLoop (gxE elt tg iter ifs scope pos) 0 (.ref it) .none cenv)) [] s3 := fun {s3 H2 bo'} s1 n' h1 I2 nx hmn' => by
        obtain ⟨m', hm, w'⟩ := hNx bo' H2 nx
        have pin' : ∀ b ∈ fp, ∀ o, s7.heap.get? b = some o → s3.heap.get? b = some o ∧ H2 b = none := fun b hb o e =>
          let z := I2.pin (b, o) (List.mem_append_right _ (List.mem_append_right _ (mem_pinsAt hb e)))
          ⟨z.1, z.2.1⟩
        have hl : (wipe σ (own.map (·.2))).length = σ8.length := by rw [← hw8, wipe_length]
        refine ih m' hm n' (i + 1) bo' H2 s1 s3 (by omega) h1 ((I2.unpinned (pins := [])).weak hl fun j v e => ?_) (T.keep _ _ _ st7 fun b hb o e => (pin' b hb o e).1) (fun b hb => ?_) hna w'
        · rw [← hw8] at e
          exact (wipe_some e).1
        · obtain ⟨o, e, _⟩ := T.obj _ _ st7 b hb
          exact (pin' b hb o e).2
      cases b with
      | false =>
        simp only [Bool.false_eq_true, if_false] at q9 ⊢
        exact seg_again rfl (fin s0 n h0 I9 q9 (by omega))
      | true =>
        simp only [if_true] at q9 ⊢
        have hy : ∀ v, yieldOut cenv v = yieldValue v := fun v => by simp only [yieldOut, hco, Bool.false_eq_true, if_false]
        simp only [hy]
        rw [Sem.bind_eq_wrap', Sem.bind_eq_wrap', Sem.wrap_wrap, Sem.wrap_wrap]
        have p3 := pe.run _ s9 σ8 H9 _ I9 q9
        rw [hPr, hWw, hA, hE, hxe] at p3
        refine seg_wrap (thnF p3 fun z s10 ⟨yv, H10, I10, r10, k, ey, hS10, nx⟩ => ?_)
        subst ey
        obtain ⟨tz, rfl⟩ := r10
        cases n with
        | zero => omega
        | succ n =>
          refine seg_at (seg_yield rfl rfl rfl ⟨bo, k, tz, H10, rfl, h0, (toX I10).1, hS10, (toX I10).2, fun s3 sb hz ho hb => ?_⟩)
          exact seg_again rfl (fin s3 n hz (inv_put I10 hS10 sb hz ho hb) nx (by omega))

/-! ### the consumer -/
theorem gm_next {S a : Addr} {g n : Nat} {Q : VK} {A : Around} {E : Value → Shared → Prop} {Z : Option Value → Shared → Prop} {bo : Option Int} (hh : A.handled = none) (hd : A.depth < recursionLimit) (hb0 : Hold S bo s.heap)
    (r : Rdy X A.in1 (gmR X pins σ S Q) (gmY X pins σ S a g) a g n s)
    (hY : ∀ k t s' H' m, m < n → Inv X pins σ H' s' → H' S = some (.lst (bl bo)) → (∀ s2 : Shared, Heap.SameBut S s'.heap s2.heap → Hold S (some (mx bo k)) s2.heap → s2.os = s'.os → s2.gens = s'.gens → s2.heap.NoLimit → Rdy X A.in1 (gmR X pins σ S Q) (gmY X pins σ S a g) a g m s2) → Z (some (.int k t)) s')
    (hN : ∀ s' b H', bo = some b → Inv X pins σ H' s' → H' S = some (.lst (bl (some b))) → Q (.int b) (upd H' S (.lst [])) → Z none s') : wpAny (model X.prog X.w) A (pyNext (.ref a)) Z E s := by
  obtain ⟨hg, hl, hb, gs, hgs, hgo⟩ := r
  have hlt : g < s.gens.size := by
    rcases Nat.lt_or_ge g s.gens.size with h' | h'
    · exact h'
    · rw [Array.getElem?_eq_none h'] at hgs; cases hgs
  have same : ∀ {b1 : Option Int}, Hold S b1 s.heap → b1 = bo := fun {b1} h1 => by
    cases b1 with
    | none =>
      obtain ⟨n1, e1⟩ := h1
      cases bo with
      | none => rfl
      | some c => obtain ⟨t1, t2, n2, e2⟩ := hb0; rw [e1] at e2; simp at e2
    | some d =>
      obtain ⟨u1, u2, n1, e1⟩ := h1
      cases bo with
      | none => obtain ⟨n2, e2⟩ := hb0; rw [e1] at e2; simp at e2
      | some c => obtain ⟨t1, t2, n2, e2⟩ := hb0; rw [e1] at e2; simp at e2; rw [e2.1.1.1]
  refine with_gens ?_
  refine wpAny_pyNext_genexpQ (P := fun _ s0 s1 => ∃ H' b, Hold S (some b) s0.heap ∧ Inv X pins σ H' s1 ∧ H' S = some (.lst (bl (some b))) ∧ Q (.int b) (upd H' S (.lst []))) (Y := gmY X pins σ S a g) (n := n) hh hl hd hg hgs (hgo _ rfl rfl (setBare hb rfl)) (fun v s1 gs' hbr hv => ?_) (fun s1 ⟨H', b, h1, I1, hS, q1⟩ h' hk _ => ?_)
  · obtain ⟨b1, k, t, H', rfl, h1, I1, hS, hg1, q2⟩ := hv
    intro hsz
    have h1 : Hold S b1 s.heap := h1
    have := same h1
    subst this
    have hlt1 : g < s1.gens.size := by
      have : (s1.setGen g gs').gens.size = s1.gens.size := by simp only [Shared.setGen, Array.size_setIfInBounds]
      omega
    cases n with
    | zero =>
      obtain ⟨_, its, n', _, e⟩ := I1.hok S _ hS
      obtain ⟨h2, sb, hz⟩ := put_ex (c := mx b1 k) (t1 := t) (t2 := t) e
      exact (q2 { s1 with heap := h2 } sb hz rfl I1.bare).elim
    | succ m =>
      refine hY k t _ H' m (Nat.lt_succ_self _) (inv_same I1 rfl rfl (setBare I1.bare hbr)) hS fun s2 sb hz ho hgn hnl => ?_
      have sb : Heap.SameBut S s1.heap s2.heap := sb
      have hne : a ≠ S := fun z => by
        obtain ⟨o, nm, qn, e1, e2, e3, _⟩ := hg1
        obtain ⟨_, its, n', _, e⟩ := I1.hok S _ hS
        rw [z, e] at e1
        cases e1
        simp at e2
      refine ⟨hg1.sameBut sb hne, hnl, by rw [hgn]; exact setBare I1.bare hbr, gs', ?_, fun s'' e1 e2 e3 => q2 s'' (by rw [e1]; exact sb) (by rw [e1]; exact hz) (e2.trans ho) e3⟩
      rw [hgn]
      simp only [Shared.setGen]
      rw [Array.getElem?_setIfInBounds_self_of_lt hlt1]
  · have h1 : Hold S (some b) s.heap := h1
    refine hN _ b H' (same h1).symm ?_ hS q1
    exact inv_gens (I1.kept (t' := s1.toks) hk) (setBare I1.bare rfl)

theorem gm_loop {S a : Addr} {g : Nat} {Q : VK} {R : Result → Shared → Prop} {A : Around} (hh : A.handled = none) (hd : A.depth < recursionLimit)
    (hR : ∀ b t s' H', Inv X pins σ H' s' → Q (.int b) H' → R (.ok (.ret (.int b t))) s') : ∀ (n : Nat) (s : Shared) (bo : Option Int), Hold S bo s.heap → Rdy X A.in1.in1 (gmR X pins σ S Q) (gmY X pins σ S a g) a g n s →
    codeAny (model X.prog X.w) A (.builtin "max.loop" ⟨[.ref a, .none, .ref S], []⟩) R s := by
  have hname : (toString "max" ++ toString ".loop" : String) = "max.loop" := by decide
  intro n
  induction n using Nat.strongRecOn with
  | ind n ih =>
    intro s bo h0 r
    refine codeAny_builtin F.entry_max_loop ?_
    rw [Around.under_plainId F.plain_max_loop _]
    show wpAny _ A.in1 (seqItems? (.ref S) >>= _) _ _ s
    cases bo with
    | none =>
      obtain ⟨n0, e0⟩ := id h0
      refine wpAny_bind (wpAny_seqItems e0 rfl ?_)
      show wpAny _ A.in1 (tryCatch (pyNext (.ref a)) _ >>= _) _ _ _
      refine wpAny_bind (wpAny_tryCatch (gm_next (A := A.in1) hh hd h0 r (fun k t s' H' m hm I1 hS hz => ?_) fun s' b H' e => nomatch e))
      obtain ⟨n', e⟩ := hold_of I1.hok hS
      show wpAny _ A.in1 (updateSeq S (fun _ => #[.int k t, .int k t]) >>= _) _ _ _
      refine wpAny_bind ?_
      refine wpAny_updateSeq e rfl ?_
      · rw [hname]
        have hz2 : Hold S (some k) (s'.heap.update S (Obj.mapSeq fun _ => #[.int k t, .int k t])) := ⟨t, t, _, get?_update_seq (c := "list") e fun _ => #[.int k t, .int k t]⟩
        have sb := Heap.SameBut.update s'.heap S (Obj.mapSeq fun _ => #[.int k t, .int k t])
        have I2 := inv_put (s3 := { s' with heap := s'.heap.update S (Obj.mapSeq fun _ => #[.int k t, .int k t]) }) I1 hS sb hz2 rfl I1.bare
        exact wpAny_pure ⟨plainId_quiet F.plain_max_loop _, ih m hm _ (some k) hz2 (hz _ sb hz2 rfl rfl I2.nolimit)⟩
    | some b =>
      obtain ⟨t1, t2, n0, e0⟩ := id h0
      refine wpAny_bind (wpAny_seqItems e0 rfl ?_)
      show wpAny _ A.in1 (tryCatch (pyNext (.ref a)) _ >>= _) _ _ _
      refine wpAny_bind (wpAny_tryCatch (gm_next (A := A.in1) hh hd h0 r (fun k t s' H' m hm I1 hS hz => ?_) fun s' b' H' e I1 hS q1 => ?_))
      · have hw := hold_of I1.hok hS
        show wpAny _ A.in1 (tryCatch (holding [.int k t, .int k t] (richCompare .Gt (.int k t) (.int b t2) >>= _)) _ >>= _) _ _ _
        refine wpAny_bind (wpAny_tryCatch (wpAny_holding (wpAny_bind (richCompare_gives (op := .Gt) (typeIs_int _ _ t) (typeIs_int _ _ t2) F.slot_int_gt F.entry_int_gt (F.args_int_gt_2 _ _) (gives_int_gt _ _ t t2) (fun x => nomatch x) ?_))))
        refine wpAny_bind (wpAny_holding (wpAny_truthy_bool ?_))
        refine wpAny_bind (wpAny_letGo (wpAny_pure ?_))
        by_cases hb' : k > b
        · obtain ⟨u1, u2, n', e⟩ := id hw
          simp only [hb', decide_true, if_true]
          refine wpAny_bind ?_
          have hz2 : Hold S (some k) (s'.heap.update S (Obj.mapSeq fun _ => #[.int k t, .int k t])) := ⟨t, t, _, get?_update_seq (c := "list") e fun _ => #[.int k t, .int k t]⟩
          have sb := Heap.SameBut.update s'.heap S (Obj.mapSeq fun _ => #[.int k t, .int k t])
          have em : mx (some b) k = k := if_pos hb'
          rw [em] at hz
          have I2 := inv_put (s3 := { s' with heap := s'.heap.update S (Obj.mapSeq fun _ => #[.int k t, .int k t]) }) I1 hS sb hz2 rfl I1.bare
          refine wpAny_updateSeq e rfl (wpAny_bind (wpAny_letGo ?_))
          rw [hname]
          exact wpAny_pure ⟨plainId_quiet F.plain_max_loop _, ih m hm _ (some k) hz2 (hz _ sb hz2 rfl rfl I2.nolimit)⟩
        · simp only [hb', decide_false, Bool.false_eq_true, if_false]
          have em : mx (some b) k = b := if_neg hb'
          rw [em] at hz
          refine wpAny_bind (wpAny_letGo ?_)
          rw [hname]
          exact wpAny_pure ⟨plainId_quiet F.plain_max_loop _, ih m hm _ (some b) hw (hz _ (Heap.SameBut.refl _ _) hw rfl rfl I1.nolimit)⟩
      · cases e
        obtain ⟨u1, u2, n', e⟩ := hold_of I1.hok hS
        show wpAny _ A.in1 (updateSeq S (fun _ => #[]) >>= _) _ _ _
        refine wpAny_bind ?_
        refine wpAny_updateSeq e rfl (wpAny_bind (wpAny_letGo (wpAny_pure ?_)))
        exact hR b t1 _ _ (inv_out (s3 := { s' with heap := s'.heap.update S (Obj.mapSeq fun _ => #[]) }) I1 hS (Heap.SameBut.update _ _ _) (get?_update_seq (c := "list") e fun _ => #[]) rfl I1.bare) q1

theorem gm_begin {S : Addr} {elt tg iter : Expr} {ifs : List Expr} {scope : Scope} {pos : Pos} {it a : Addr} {g n : Nat} {cenv : Env} {J : It} {fp : List Addr} {tn : Nat → Heap → Prop} {Q : VK} {s0 s' : Shared}
    (T : Turn X.prog X.w X.K tg J fp it tn) (st : tn 0 s'.heap)
    (loop : Seg (model X.prog X.w) X.A.in1.in1 (gmR X pins σ S Q) (gmY X pins σ S a g) n s0 (.compLoop (gxE elt tg iter ifs scope pos) 0 (.ref it) .none cenv) ((model X.prog X.w).den (.compLoop (gxE elt tg iter ifs scope pos) 0 (.ref it) .none cenv)) [] s') :
    Seg (model X.prog X.w) X.A.in1.in1 (gmR X pins σ S Q) (gmY X pins σ S a g) n s0 (.compStart (gxE elt tg iter ifs scope pos) 0 (.ref it) .none cenv) ((model X.prog X.w).den (.compStart (gxE elt tg iter ifs scope pos) 0 (.ref it) .none cenv)) [] s' := by
  show Seg _ X.A.in1.in1 _ _ n s0 _ ((compStart (gxE elt tg iter ifs scope pos) 0 (.ref it) .none cenv).onRaise (leaving cenv)) [] s'
  unfold compStart
  rw [Sem.onRaise_eq_wrap]
  show Seg _ X.A.in1.in1 _ _ n s0 _ ((ask >>= _).wrap _ _ _ _) [] s'
  refine seg_bind_wrap (wpAny_askSetting ?_)
  split
  · exact seg_again rfl loop
  · refine seg_bind_wrap (wpAny_rule ?_)
    show Seg _ X.A.in1.in1 _ _ n s0 _ ((standAt iter.pos >>= _).wrap _ _ _ _) [] s'
    exact seg_bind_wrap (wpAny_standAt (seg_bind_wrap (T.self _ 0 s' _ _ st (seg_again rfl loop))))
/-- the reading of max(..) -/
def tGm (P : Addr) (wi : TI) (wg : TG) (tt : TT) (te : TE) (vs : List Nat) : TE := fun σ H Q => wi σ H fun J H1 => ∃ ps, H1 P = some (.tbl ps) ∧ TriplesOk ps.toList ∧
  ∀ H2, GxR.Tabbed P H1 H2 → ∀ S, H2 S = none → ∃ W : Nat → Nat → Option Int → Hp → Prop, (∃ m, W 0 m none (upd H2 S (.lst []))) ∧ gmW J wg tt te vs σ S Q W
theorem gm_made {c P : Addr} {elt tg iter : Expr} {ifs : List Expr} {scope : Scope} {own : List (Str × Nat)} {pos : Pos} {wi : TI} {wg : TG} {tt : TT} {te : TE} {Q : VK} {Z : Value → Shared → Prop}
    (hc : X.calm = true) (hN : X.N.Nodup) (I : Inv X pins σ H s) (hi : PI X tg iter wi) (ok : GxS X.N X.env.scope scope own) (TB : GxR.TabB X.base X.mg c P) (hcode : X.env.code = .ref c) (hd : X.A.depth < recursionLimit)
    (hg : ∀ (A : Around) (s : Shared) (H : Hp) (C : Addr) (code : Value) (cl : List (Str × Addr)) (fp : List Addr) (pn : List (Addr × Obj)), A.handled = X.A.handled → A.depth = X.A.depth + 1 → A.units = X.A.units + 5 → PG (cxG X A s H (genEnv scope cl C code builtinsNs X.env) fp pn) tg wg)
    (ht : ∀ (A : Around) (s : Shared) (H : Hp) (C : Addr) (code : Value) (cl : List (Str × Addr)) (fp : List Addr) (pn : List (Addr × Obj)), A.handled = X.A.handled → A.depth = X.A.depth + 1 → A.units = X.A.units + 5 → PTs (cxG X A s H (genEnv scope cl C code builtinsNs X.env) fp pn) ifs tt)
    (he : ∀ (A : Around) (s : Shared) (H : Hp) (C : Addr) (code : Value) (cl : List (Str × Addr)) (fp : List Addr) (pn : List (Addr × Obj)), A.handled = X.A.handled → A.depth = X.A.depth + 1 → A.units = X.A.units + 5 → PE (cxG X A s H (genEnv scope cl C code builtinsNs X.env) fp pn) elt te)
    (hs : ∀ x, genFold iter X.env x = pure x) (h : tGm P wi wg tt te (own.map (·.2)) σ H Q)
    (hZ : ∀ a g n s', s'.heap.IsGen a g → Rdy X X.A.in1.in1 (gmR X pins σ s'.heap.objs.size Q) (gmY X pins σ s'.heap.objs.size a g) a g n { s' with heap := s'.heap.push { cls := .type "list", data := .seq #[] } } → Z (.ref a) s') :
    wpAny (model X.prog X.w) X.A (eval (gxE elt tg iter ifs scope pos) X.env) Z X.xe s := by
  have hfree : ∀ y ∈ scope.names, y.2 = .free → ∃ c, X.env.cells.lookup y.1 = some c := fun y hy e => by
    rcases ok.free y hy e with k | k
    · exact I.ok.has _ (.inl k)
    · exact I.ok.has _ (.inr k)
  refine wpAny_GeneratorExp_make ok.co (closure_ok hfree) ok.cell ok.dot ok.kind hd (thn (hi.run pins s σ H _ I h) fun xv s1 hx => thn hx fun itv s2 h2 => ?_) hs
  obtain ⟨it, fp, tn, J, H2, rfl, I2, T, st2, f2, ps, hP, htr, q⟩ := h2
  have hP2 : s2.heap.get? P = some { cls := .none, data := .fields ps } := I2.hok P _ hP
  have cd : PySem.W.CodeHd s2.heap c P := TB.code.keeps I2.bk
  refine ⟨I2.nolimit, ?_⟩
  have sz : ∀ b ∈ fp, b < s2.heap.objs.size := fun b hb => by
    obtain ⟨o, e, _⟩ := T.obj _ _ st2 b hb
    exact Heap.lt_size e
  have hfP : ∀ b ∈ fp, b ≠ P := fun b hb z => by
    have := (f2 b hb).1
    rw [z, hP] at this; cases this
  have cont : ∀ (code : Value) (h3 : Heap) (tk : Nat) (ps' : Array Value), Heap.ExtBut P s2.heap h3 → s2.heap.objs.size ≤ h3.objs.size → h3.get? P = some { cls := .none, data := .fields ps' } → (∃ more, ps' = ps ++ more) → TriplesOk ps'.toList →
      wpAny (model X.prog X.w) X.A (builtinsFor X.env.globals X.env.builtins) (fun bi s4 =>
        ∀ h', h'.Ns s4.heap.objs.size (fun y => if y = ".0" then some (.ref it) else none) → Heap.SameBut s4.heap.objs.size (s4.heap.push { cls := .type "frame", data := .dict #[] }) h' →
          Z (.ref h'.objs.size) { s4 with
            gens := s4.gens.push (.fresh (.compStart (gxE elt tg iter ifs scope pos) 0 (.ref it) .none (genEnv scope (cloFrom X.env.cells scope.names []) s4.heap.objs.size code bi X.env))),
            toks := s4.toks + 1 + 1 + 1,
            heap := h'.push { cls := .type "generator", data := .fields #[.int s4.gens.size 0, .str "<genexpr>" (s4.toks + 1), .str (X.env.qual ++ "<genexpr>") (s4.toks + 1 + 1)] } }) X.xe { s2 with heap := h3, toks := tk } := by
    intro code h3 tk ps' hx hsz hP3 hmore ht3
    obtain ⟨bm, ob, e1, e2, e3, e4, e5, e6, e7, e8⟩ := TB.bm
    obtain ⟨more, rfl⟩ := hmore
    have I3 := GxR.inv_tab (more := more) (h' := h3) (g' := s2.gens) (d' := s2.drawn) (t' := tk) I2 hP (fun b u hb e => hx b u hb e) hP3 I2.bare
    have I3 : Inv X pins σ (upd H2 P (.tbl (ps ++ more))) { s2 with heap := h3, toks := tk } := I3
    refine wpAny_builtinsFor (m := X.mg) (by rw [I3.ok.glob]; exact I3.mod.glob.keeps I3.bk) e1 e2 (I3.bk _ _ e5) e6 e7 e8 ?_
    generalize hs3 : ({ s2 with heap := h3, toks := tk } : Shared) = s3 at I3
    have hh3 : s3.heap = h3 := by rw [← hs3]
    have q := q _ ⟨⟨ps ++ more, upd_same, ht3⟩, fun b hb => upd_ne hb⟩
    generalize hH3 : upd H2 P (.tbl (ps ++ more)) = H3 at I3 q
    have f3 : ∀ b ∈ fp, FpOk X pins H3 b ∧ b < s3.heap.objs.size := fun b hb =>
      ⟨⟨by rw [← hH3, upd_ne (hfP b hb)]; exact (f2 b hb).1, (f2 b hb).2⟩, by rw [hh3]; exact Nat.lt_of_lt_of_le (sz b hb) hsz⟩
    have st3 : tn 0 s3.heap := T.keep _ _ _ st2 fun b hb o e => by rw [hh3]; exact hx b o (hfP b hb) e
    intro h' hn' hs'
    generalize hcv : genEnv scope (cloFrom X.env.cells scope.names []) s3.heap.objs.size code builtinsNs X.env = cenv
    have hco : cenv.scope.isCoroutine = false := by rw [← hcv]; exact ok.co
    have hsz' : h'.objs.size = s3.heap.objs.size + 1 := by rw [hs'.1, Heap.size_push]
    generalize ho : ({ cls := .type "generator", data := .fields #[.int s3.gens.size 0, .str "<genexpr>" (s3.toks + 1), .str (X.env.qual ++ "<genexpr>") (s3.toks + 1 + 1)] } : Obj) = o
    have hod : o.data = .fields #[.int s3.gens.size 0, .str "<genexpr>" (s3.toks + 1), .str (X.env.qual ++ "<genexpr>") (s3.toks + 1 + 1)] := by rw [← ho]
    have hAf : (gxA X.A (gxE elt tg iter ifs scope pos) it cenv).frames = some (cenv :: X.stack) := by
      simp [gxA, Around.over, pushEnvs, Code.envs, Code.isFrame, Code.env?, envsOf, I3.ok.frames]
    have dep : (gxA X.A (gxE elt tg iter ifs scope pos) it cenv).depth = X.A.depth + 1 := by
      simp [gxA, Around.over, Code.weight, Code.isCreation, Code.isGuard, Code.isCaller, Code.frames, Code.isFrame, frameCount]
    have uni : (gxA X.A (gxE elt tg iter ifs scope pos) it cenv).units = X.A.units + 5 := by
      simp [gxA, Around.over, Code.cUnits, Code.frames, Code.isFrame, unitsOf]
    have hdl : (gxA X.A (gxE elt tg iter ifs scope pos) it cenv).handled = X.A.handled := rfl
    have J0 := gx_start (A := gxA X.A (gxE elt tg iter ifs scope pos) it cenv) (itv := .ref it) (o := o) (g' := s3.gens.push (.fresh (.compStart (gxE elt tg iter ifs scope pos) 0 (.ref it) .none cenv))) (t' := s3.toks + 1 + 1 + 1) (code := code)
      I3 ok hN f3 (fun z => by rw [hdl]; exact I3.ok.hd z) (by rw [hcv]; exact hAf) hn' hs' hod (I3.bare.push rfl)
    rw [hcv] at J0
    have pg := hg (gxA X.A (gxE elt tg iter ifs scope pos) it cenv) s3 H3 s3.heap.objs.size code (cloFrom X.env.cells scope.names []) fp [(h'.objs.size, o)] hdl dep uni
    have pt := ht (gxA X.A (gxE elt tg iter ifs scope pos) it cenv) s3 H3 s3.heap.objs.size code (cloFrom X.env.cells scope.names []) fp [(h'.objs.size, o)] hdl dep uni
    have pe := he (gxA X.A (gxE elt tg iter ifs scope pos) it cenv) s3 H3 s3.heap.objs.size code (cloFrom X.env.cells scope.names []) fp [(h'.objs.size, o)] hdl dep uni
    rw [hcv] at pg pt pe
    have hgen : ∀ h : Heap, h.get? h'.objs.size = some o → h.IsGen h'.objs.size s3.gens.size := fun h e => by
      exact ⟨o, _, _, e, by rw [← ho], hod, by rw [← ho]⟩
    have keep5 : ∀ b u, s3.heap.get? b = some u → (h'.push o).get? b = some u := fun b u e => Heap.get?_push_of_some _ (hs'.extBut b u (Nat.ne_of_lt (Heap.lt_size e)) (Heap.get?_push_of_some _ e))
    have key : Z (.ref h'.objs.size) { s3 with gens := s3.gens.push (.fresh (.compStart (gxE elt tg iter ifs scope pos) 0 (.ref it) .none cenv)), toks := s3.toks + 1 + 1 + 1, heap := h'.push o } := by
      have hg0 := hgen _ (Heap.get?_push_size (h' : Heap) (Obj.isFreed_of_fields hod))
      generalize hSd : (h'.push o).objs.size = S
      have hSn : H3 S = none := J0.hok.fresh (Nat.le_of_eq hSd)
      have hps : ∀ b u, (h'.push o).get? b = some u → ((h'.push o).push { cls := .type "list", data := .seq #[] }).get? b = some u := fun b u e => Heap.get?_push_of_some _ e
      have heS : ((h'.push o).push { cls := .type "list", data := .seq #[] }).get? S = some { cls := .type "list", data := .seq #[] } := by rw [← hSd]; exact Heap.get?_push_size _ rfl
      obtain ⟨W, ⟨m0, w0⟩, turn⟩ := q S hSn
      have J1 := J0.laid (a := S) (o := .lst []) (h' := (h'.push o).push { cls := .type "list", data := .seq #[] }) (t' := s3.toks + 1 + 1 + 1) hps (Nat.le_of_eq hSd) ⟨Nat.zero_le _, [], 0, .nil, heS⟩
      have keep6 : ∀ b u, s3.heap.get? b = some u → ((h'.push o).push { cls := .type "list", data := .seq #[] }).get? b = some u := fun b u e => hps b u (keep5 b u e)
      have hfS : ∀ b ∈ fp, b ≠ S := fun b hb z => by
        have h9 := (f3 b hb).2
        rw [z, ← hSd, Heap.size_push, hsz'] at h9
        exact Nat.lt_irrefl _ (Nat.lt_trans (Nat.lt_succ_of_lt (Nat.lt_succ_self _)) h9)
      refine hZ h'.objs.size s3.gens.size (m0 + 1) _ hg0 ?_
      show Rdy X X.A.in1.in1 (gmR X pins σ (h'.push o).objs.size Q) (gmY X pins σ (h'.push o).objs.size h'.objs.size s3.gens.size) h'.objs.size s3.gens.size (m0 + 1) _
      rw [hSd]
      refine ⟨hgen _ (hps _ _ (Heap.get?_push_size _ (Obj.isFreed_of_fields hod))), I3.nolimit.keeps keep6, I3.bare.push rfl, _, Array.getElem?_push_size .., fun s'' e1 e2 e3 => ⟨rfl, ?_⟩⟩
      have e1 : s''.heap = (h'.push o).push { cls := .type "list", data := .seq #[] } := e1
      refine gm_begin T (T.keep _ _ _ st3 fun b hb u e => by rw [e1]; exact keep6 b u e) ?_
      refine gm_seg (own := own) hc I3 hco T (fun b hb => (f3 b hb).1) hgen pg pt pe turn m0 (m0 + 1) 0 none (upd H3 S (.lst [])) s'' s'' (Nat.lt_succ_self _) ⟨0, by rw [e1]; exact heS⟩ (inv_same J1 e1 e2 e3) (T.keep _ _ _ st3 fun b hb u e => by rw [e1]; exact keep6 b u e) (fun b hb => by rw [upd_ne (hfS b hb)]; exact (f3 b hb).1.1) (fun b hb z => ?_) w0
      have h9 : h'.objs.size < s3.heap.objs.size := by rw [← z]; exact (f3 b hb).2
      rw [hsz'] at h9
      exact absurd h9 (by simp)
    subst hs3
    exact key
  cases hf : codeAmong pos ps.toList with
  | none =>
    refine wpAny_genexprCodeX hcode (cd.code hP2 htr) (cd.tab hP2) hf fun c' h' tk hx hge hlt hco' _ htab' _ => ?_
    obtain ⟨o1, vs, f1, tf, fl, tg, inF, tx, tt, op, _, _, _, _, _, _, _, _, _, htr, _⟩ := hco'
    exact cont _ h' tk _ hx (Nat.le_trans hge (Nat.le_of_lt hlt)) htab'.2 ⟨_, rfl⟩ htr
  | some cv =>
    refine wpAny_genexprCode_hit hcode (cd.code hP2 htr) hf ?_
    exact cont cv s2.heap s2.toks ps (Heap.ExtBut.refl _ _) (Nat.le_refl _) hP2 ⟨#[], by simp⟩ htr

theorem pe_maxX {c P : Addr} {elt tg iter : Expr} {ifs : List Expr} {scope : Scope} {own : List (Str × Nat)} {p pos gpos : Pos} {wi : TI} {wg : TG} {tt : TT} {te : TE}
    (hc : X.calm = true) (hN : X.N.Nodup) (hgl : Gl X "max") (hm : X.mg "max" = none) (hi : PI X tg iter wi) (ok : GxS X.N X.env.scope scope own) (TB : GxR.TabB X.base X.mg c P) (hcode : X.env.code = .ref c) (hh : X.A.handled = none) (hd : X.A.depth < recursionLimit)
    (hg : ∀ (A : Around) (s : Shared) (H : Hp) (C : Addr) (code : Value) (cl : List (Str × Addr)) (fp : List Addr) (pn : List (Addr × Obj)), A.handled = X.A.handled → A.depth = X.A.depth + 1 → A.units = X.A.units + 5 → PG (cxG X A s H (genEnv scope cl C code builtinsNs X.env) fp pn) tg wg)
    (ht : ∀ (A : Around) (s : Shared) (H : Hp) (C : Addr) (code : Value) (cl : List (Str × Addr)) (fp : List Addr) (pn : List (Addr × Obj)), A.handled = X.A.handled → A.depth = X.A.depth + 1 → A.units = X.A.units + 5 → PTs (cxG X A s H (genEnv scope cl C code builtinsNs X.env) fp pn) ifs tt)
    (he : ∀ (A : Around) (s : Shared) (H : Hp) (C : Addr) (code : Value) (cl : List (Str × Addr)) (fp : List Addr) (pn : List (Addr × Obj)), A.handled = X.A.handled → A.depth = X.A.depth + 1 → A.units = X.A.units + 5 → PE (cxG X A s H (genEnv scope cl C code builtinsNs X.env) fp pn) elt te)
    (hs : ∀ x, genFold iter X.env x = pure x) :
    PE X (.Call (.Name "max" p) [gxE elt tg iter ifs scope gpos] [] pos) (tGm P wi wg tt te (own.map (·.2))) := by
  refine ⟨fun pins s σ H Q I h => ?_⟩
  have est : starEach [gxE elt tg iter ifs scope gpos] X.env = (false, eval (gxE elt tg iter ifs scope gpos) X.env) :: starEach [] X.env := rfl
  refine wpAny_Call_Name_kw (ld_blt I hgl hm (by decide +kernel : bootBuiltins "max" = some (.builtin "max")) ?_)
  refine PyProof.Rows.callWith_builtin1 ?_ est (by rfl)
  rw [est]
  show wpAny _ _ (spliced ((false, eval (gxE elt tg iter ifs scope gpos) X.env) :: backTo pos (starEach [] X.env))) _ _ s
  refine Calls.spliced_cons (gm_made hc hN I hi ok TB hcode hd hg ht he hs h fun a g n s5 hg0 r => ?_)
  refine Calls.spliced_nil ?_
  have hname : (toString "max" ++ toString ".loop" : String) = "max.loop" := by decide
  refine call_function_tree F.kind_max F.plain_max F.entry_max (F.args_max1 _) ?_
  show wpAny _ _ (Builtin.Builtins.bindParams "max" ["key", "default"] 0 ⟨[], []⟩ >>= _) _ _ s5
  refine wpAny_bind (wpAny_of_eq (show Builtin.Builtins.bindParams "max" ["key", "default"] 0 ⟨[], []⟩ = pure [none, none] from rfl) ?_)
  refine wpAny_bind (wpAny_pure ?_)
  refine wpAny_bind (wpAny_pyIter_gen hg0 ?_)
  refine wpAny_bind (wpAny_newList ?_ (Nat.zero_le _))
  rw [hname]
  exact wpAny_pure ⟨plainId_quiet F.plain_max_loop _, gm_loop hh hd (fun b t s' H' I' q => ⟨.int b, H', I', ⟨t, rfl⟩, q⟩) n _ none ⟨0, Heap.get?_push_size _ rfl⟩ r⟩
end
end GM
end

section
set_option maxRecDepth 100000
set_option maxHeartbeats 4000000
/-! DX: dicts whose keys are tuples, nested: what lies in the heap, and what is done with them. -/
namespace DX
open PySem PySem.Spec PyProof.Rows L2
mutual
/-- the value is such a key -/
inductive NK (K : PySem.W.Frag) (H : Hp) : V → NestedKey → Prop
  | non : NK K H .non .none
  | bl (b : Bool) : NK K H (.bl b) (.num (if b = true then 1 else 0))
  | int (i : Int) : NK K H (.int i) (.num i)
  | str (x : Str) : NK K H (.str x) (.text x)
  | tup {a : Addr} {xs : List V} {ks : List NestedKey} : SqT K H a xs → NKs K H xs ks → NK K H (.ref a) (.tup ks)
inductive NKs (K : PySem.W.Frag) (H : Hp) : List V → List NestedKey → Prop
  | nil : NKs K H [] []
  | cons {v : V} {vs : List V} {k : NestedKey} {ks : List NestedKey} : NK K H v k → NKs K H vs ks → NKs K H (v :: vs) (k :: ks)
end
abbrev Row : Type := NestedKey × Addr × V
abbrev RowsR : List Row → List (NestedKey × Addr × Value) → Prop := Paired fun q p => q.1 = p.1 ∧ q.2.1 = p.2.1 ∧ RelV q.2.2 p.2.2
def ent (w : World) (x : NestedKey × Addr × Value) : DictEntry := ⟨x.1.hash w, .ref x.2.1, x.2.2⟩
/-- the dict's object at a -/
def tdP (w : World) (a : Addr) (qs : List Row) (h : Heap) : Prop := (a == sysModules) = false ∧ qs.length ≤ sizeLine ∧ (qs.map (·.1)).Nodup ∧
  ∃ ps, RowsR qs ps ∧ ∃ o es ep, h.get? a = some o ∧ o.ExactDict ∧ o.data = .dict es ep ∧ es.toList = ps.map (ent w)
def TDO (w : World) (a : Addr) (qs : List Row) : HO := .ext (tdP w a qs)
def atQ (qs : List Row) (k : NestedKey) : Option V := (qs.find? fun q => decide (q.1 = k)).map (·.2.2)
def putQ (qs : List Row) (k : NestedKey) (b : Addr) (v : V) : List Row := if (atQ qs k).isSome then qs.map (fun q => if q.1 = k then (q.1, q.2.1, v) else q) else qs ++ [(k, b, v)]
/-- the keys of the rows are there -/
def KeysOk (K : PySem.W.Frag) (H : Hp) (qs : List Row) : Prop := ∀ q ∈ qs, NK K H (.ref q.2.1) q.1 ∧ q.1.depth ≤ 8
theorem tdP_stay {w : World} {a : Addr} {qs : List Row} (h1 h2 : Heap) (x : tdP w a qs h1) (k : ∀ o, h1.get? a = some o → h2.get? a = some o) : tdP w a qs h2 := by
  obtain ⟨x1, x2, x3, ps, x4, o, es, ep, x5, x6⟩ := x
  exact ⟨x1, x2, x3, ps, x4, o, es, ep, k o x5, x6⟩
theorem td_ok {P : Program} {w : World} {H : Hp} {h : Heap} {a : Addr} {qs : List Row} (x : tdP w a qs h) : ObjOk P w H h a (TDO w a qs) := by
  have x' := x
  obtain ⟨_, _, _, ps, _, o, es, ep, x5, _⟩ := x'
  exact ⟨x, ⟨o, x5⟩, tdP_stay⟩
theorem rows_at {qs : List Row} {ps : List (NestedKey × Addr × Value)} (r : RowsR qs ps) (k : NestedKey) : RelO (atQ qs k) ((atKey ps k).map (·.2)) := by
  induction r with
  | nil => exact True.intro
  | @cons q p qs ps h t ih =>
    obtain ⟨h1, h2, h3⟩ := h
    by_cases e : q.1 = k
    · have e' : p.1 = k := h1.symm.trans e
      have a : atQ (q :: qs) k = some q.2.2 := by simp [atQ, List.find?_cons, e]
      have b : atKey (p :: ps) k = some p.2 := by simp [atKey, List.find?_cons, e']
      rw [a, b]; exact h3
    · have e' : ¬ p.1 = k := fun z => e (h1.trans z)
      have a : atQ (q :: qs) k = atQ qs k := by simp [atQ, List.find?_cons, e]
      have b : atKey (p :: ps) k = atKey ps k := by simp [atKey, List.find?_cons, e']
      rw [a, b]; exact ih
theorem rows_isSome {qs : List Row} {ps : List (NestedKey × Addr × Value)} (r : RowsR qs ps) (k : NestedKey) : (atQ qs k).isSome = (atKey ps k).isSome := by
  rw [(rows_at r k).isSome_eq, Option.isSome_map]
theorem rows_put {qs : List Row} {ps : List (NestedKey × Addr × Value)} (r : RowsR qs ps) (k : NestedKey) (b : Addr) {v : V} {u : Value} (rv : RelV v u) : RowsR (putQ qs k b v) (storedH ps k b u) := by
  unfold putQ storedH
  rw [rows_isSome r k]
  by_cases e : (atKey ps k).isSome = true
  · rw [if_pos e, if_pos e]
    clear e
    induction r with
    | nil => exact .nil
    | @cons q p qs ps h t ih =>
      rw [List.map_cons, List.map_cons]
      refine .cons ?_ ih
      obtain ⟨h1, h2, h3⟩ := h
      unfold putAt
      by_cases e : q.1 = k
      · rw [if_pos e, if_pos (h1.symm.trans e)]; exact ⟨h1, h2, rv⟩
      · rw [if_neg e, if_neg (fun z => e (h1.trans z))]; exact ⟨h1, h2, h3⟩
  · rw [if_neg e, if_neg e]
    exact Paired.snoc r ⟨rfl, rfl, rv⟩
theorem put_keys (qs : List Row) (k : NestedKey) (b : Addr) (v : V) : (putQ qs k b v).map (·.1) = if (atQ qs k).isSome then qs.map (·.1) else qs.map (·.1) ++ [k] := by
  unfold putQ
  split
  · rw [List.map_map]
    refine List.map_congr_left fun q _ => ?_
    show (if q.1 = k then (q.1, q.2.1, v) else q).1 = q.1
    split <;> rfl
  · rw [List.map_append]; rfl
theorem atQ_none {qs : List Row} {k : NestedKey} (h : (atQ qs k).isSome = false) : k ∉ qs.map (·.1) := fun hm => by
  obtain ⟨q, hq, e⟩ := List.mem_map.mp hm
  unfold atQ at h
  rw [Option.isSome_map] at h
  have : (qs.find? fun q => decide (q.1 = k)).isSome = true := List.find?_isSome.mpr ⟨q, hq, decide_eq_true e⟩
  rw [this] at h; cases h
theorem put_nodup {qs : List Row} (h : (qs.map (·.1)).Nodup) (k : NestedKey) (b : Addr) (v : V) : ((putQ qs k b v).map (·.1)).Nodup := by
  rw [put_keys]
  cases e : (atQ qs k).isSome with
  | true => rw [if_pos rfl]; exact h
  | false =>
    rw [if_neg Bool.false_ne_true, List.nodup_append]
    refine ⟨h, by simp, fun x hx y hy z => ?_⟩
    have : y = k := by simpa using hy
    rw [this] at z
    rw [z] at hx
    exact atQ_none e hx
theorem put_len (qs : List Row) (k : NestedKey) (b : Addr) (v : V) : (putQ qs k b v).length ≤ qs.length + 1 := by
  unfold putQ
  split
  · rw [List.length_map]; omega
  · rw [List.length_append]; simp
section
variable {X : Cx} {pins : List (Addr × Obj)} {σ : L2.St} {H : Hp} {s : Shared}
mutual
theorem NK.is (I : Inv X pins σ H s) : ∀ {v : V} {k : NestedKey} {u : Value}, NK X.K H v k → RelV v u → NestedIs s.heap k u
  | _, _, _, .non, r => by cases r; exact .none
  | _, _, _, .bl b, r => by cases r; exact .bool rfl
  | _, _, _, .int i, r => by obtain ⟨t, rfl⟩ := r; exact .int _ _
  | _, _, _, .str x, r => by obtain ⟨t, rfl⟩ := r; exact .text _ _
  | _, _, _, .tup h hk, r => by
    cases r
    obtain ⟨its, rv, ⟨o, h1, h2, n, h3⟩, _⟩ := I.tuple h
    exact .tup h1 h2 h3 (by simpa using NKs.is I hk rv)
theorem NKs.is (I : Inv X pins σ H s) : ∀ {vs : List V} {ks : List NestedKey} {us : List Value}, NKs X.K H vs ks → Vals vs us → NestedAll s.heap ks us
  | _, _, _, .nil, r => by cases r; exact .nil
  | _, _, _, .cons h hk, r => by
    cases r with
    | cons r1 r2 => exact .cons (NK.is I h r1) (NKs.is I hk r2)
end
theorem rows_is (I : Inv X pins σ H s) : ∀ {qs : List Row} {ps : List (NestedKey × Addr × Value)}, RowsR qs ps → KeysOk X.K H qs → ∀ x ∈ ps, (nestedKind X.prog X.w).is s.heap x.1 x.2.1
  | _, _, .nil, _, x, hx => by cases hx
  | q :: qs, p :: ps, .cons h t, hk, x, hx => by
    rcases List.mem_cons.mp hx with e | hx
    · subst e
      obtain ⟨h1, h2, _⟩ := h
      obtain ⟨k1, k2⟩ := hk q List.mem_cons_self
      rw [← h1, ← h2]
      exact ⟨NK.is I k1 rfl, k2⟩
    · exact rows_is I t (fun q hq => hk q (List.mem_cons_of_mem _ hq)) x hx
theorem rows_keys : ∀ {qs : List Row} {ps : List (NestedKey × Addr × Value)}, RowsR qs ps → ps.map (·.1) = qs.map (·.1)
  | _, _, .nil => rfl
  | _, _, .cons h t => by rw [List.map_cons, List.map_cons, rows_keys t, h.1]
/-- the dict as the library has it -/
theorem td_H0 (I : Inv X pins σ H s) {a : Addr} {qs : List Row} (h : H a = some (TDO X.w a qs)) (hk : KeysOk X.K H qs) : (a == sysModules) = false ∧ qs.length ≤ sizeLine ∧ (qs.map (·.1)).Nodup ∧ ∃ ps, RowsR qs ps ∧ s.heap.DictOfH (nestedKind X.prog X.w) a ps := by
  obtain ⟨⟨x1, x2, x3, ps, x4, o, es, ep, x5, x6, x7, x8⟩, _, _⟩ := (show ObjOk X.prog X.w H s.heap a (TDO X.w a qs) from I.hok a _ h)
  exact ⟨x1, x2, x3, ps, x4, o, es, ep, x5, x6, x7, x8, rows_is I x4 hk, by rw [rows_keys x4]; exact x3⟩
/-- the dict's object; the empty one is the library's own -/
def IsTD (w : World) (H : Hp) (a : Addr) (qs : List Row) : Prop := H a = some (TDO w a qs) ∨ (qs = [] ∧ H a = some (.dK []))
theorem td_H (I : Inv X pins σ H s) {a : Addr} {qs : List Row} (h : IsTD X.w H a qs) (hk : KeysOk X.K H qs) : (a == sysModules) = false ∧ qs.length ≤ sizeLine ∧ (qs.map (·.1)).Nodup ∧ ∃ ps, RowsR qs ps ∧ s.heap.DictOfH (nestedKind X.prog X.w) a ps := by
  rcases h with h | ⟨rfl, h⟩
  · exact td_H0 I h hk
  · obtain ⟨z, hd, vs, rel, dd⟩ := dk_rd I.hok (.inl h)
    cases rel
    obtain ⟨o, es, ep, h1, h2, h3, _, h4, _⟩ := dd
    have h5 : es.toList = [] := List.length_eq_zero_iff.mp (by have := h4.length; simpa using this)
    exact ⟨hd, Nat.zero_le _, List.nodup_nil, [], .nil, o, es, ep, h1, h2, h3, h5, fun x hx => (by cases hx), List.nodup_nil⟩
theorem td_mut {w : World} {a : Addr} {qs : List Row} (h : IsTD w H a qs) : Mut (H a) := by
  rcases h with h | ⟨_, h⟩ <;> (rw [h]; exact True.intro)
theorem td_new {h' : Heap} {a : Addr} {qs : List Row} {ps : List (NestedKey × Addr × Value)} {P : Program} {w : World} {H' : Hp} (h1 : (a == sysModules) = false) (h2 : qs.length ≤ sizeLine) (h3 : (qs.map (·.1)).Nodup) (r : RowsR qs ps) (dd : h'.DictOfH (nestedKind P w) a ps) : ObjOk P w H' h' a (TDO w a qs) := by
  obtain ⟨o, es, ep, e1, e2, e3, e4, _⟩ := dd
  exact td_ok ⟨h1, h2, h3, ps, r, o, es, ep, e1, e2, e3, e4⟩
/-- what a dict with tuples as keys holds at a key -/
def TGet (K : PySem.W.Frag) (w : World) (H : Hp) (a : Addr) (y : V) (r : Option V) : Prop := ∃ qs k b, IsTD w H a qs ∧ KeysOk K H qs ∧ y = .ref b ∧ NK K H y k ∧ k.depth ≤ 8 ∧ r = atQ qs k
def TPut (K : PySem.W.Frag) (w : World) (H : Hp) (a : Addr) (y v : V) (H' : Hp) : Prop := ∃ qs k b, IsTD w H a qs ∧ KeysOk K H qs ∧ y = .ref b ∧ NK K H y k ∧ k.depth ≤ 8 ∧ qs.length < sizeLine ∧ H' = upd H a (TDO w a (putQ qs k b v))
variable {a : Addr} {y v : V} {u r : Value} {o : Option V} {A : Around} {E : Value → Shared → Prop}
theorem td_typeIs (I : Inv X pins σ H s) (g : TGet X.K X.w H a y o) : s.TypeIs (.ref a) "dict" := by
  obtain ⟨qs, k, b, h, hk, _⟩ := g
  obtain ⟨_, _, _, ps, _, dd⟩ := td_H I h hk
  exact dd.typeIs
theorem td_getItem {Q : Value → Shared → Prop} (hu : A.units + 65 < cLine) (I : Inv X pins σ H s) (g : TGet X.K X.w H a y (some v)) (ry : RelV y u) (h : ∀ w' s', Inv X pins σ H s' → RelV v w' → Q w' s') :
    wpAny (model X.prog X.w) A (getItem (.ref a) u) Q E s := by
  obtain ⟨qs, k, b, e, hk, rfl, nk, dp, er⟩ := g
  obtain ⟨z, _, _, ps, rel, dd⟩ := td_H I e hk
  cases (show u = Value.ref b from ry)
  obtain ⟨w', hw, rw'⟩ := RelO.some_of (v := v) (o := (atKey ps k).map (·.2)) (by rw [er]; exact rows_at rel k)
  obtain ⟨p, hp, hp2⟩ := Option.map_eq_some_iff.mp hw
  refine wpAny_getItem_heap (knd := nestedKind X.prog X.w) (show A.in1.units + 8 < cLine by rw [Around.in1_units]; omega) ⟨NK.is I nk rfl, dp⟩ dd hp ?_
  rw [hp2]
  exact h w' _ (I.tok _) rw'
theorem td_in {Q : Value → Shared → Prop} (hu : A.units + 65 < cLine) (I : Inv X pins σ H s) (g : TGet X.K X.w H a y o) (ry : RelV y u) (h : ∀ s', Inv X pins σ H s' → Q (.bool o.isSome) s') :
    wpAny (model X.prog X.w) A (compareOp .In u (.ref a)) Q E s := by
  obtain ⟨qs, k, b, e, hk, rfl, nk, dp, er⟩ := g
  obtain ⟨z, _, _, ps, rel, dd⟩ := td_H I e hk
  cases (show u = Value.ref b from ry)
  refine wpAny_in_heap (knd := nestedKind X.prog X.w) (show A.in1.units + 8 < cLine by rw [Around.in1_units]; omega) ⟨NK.is I nk rfl, dp⟩ z dd ?_
  rw [← rows_isSome rel k, ← er]
  exact h _ (I.tok _)
theorem td_notIn {Q : Value → Shared → Prop} (hu : A.units + 65 < cLine) (I : Inv X pins σ H s) (g : TGet X.K X.w H a y o) (ry : RelV y u) (h : ∀ s', Inv X pins σ H s' → Q (.bool (!o.isSome)) s') :
    wpAny (model X.prog X.w) A (compareOp .NotIn u (.ref a)) Q E s := by
  obtain ⟨qs, k, b, e, hk, rfl, nk, dp, er⟩ := g
  obtain ⟨z, _, _, ps, rel, dd⟩ := td_H I e hk
  cases (show u = Value.ref b from ry)
  show wpAny _ _ (do return .bool (!(← contains (.ref a) (.ref b)))) Q E s
  refine wpAny_bind (wpAny_contains_heap (knd := nestedKind X.prog X.w) (show A.in1.units + 8 < cLine by rw [Around.in1_units]; omega) ⟨NK.is I nk rfl, dp⟩ z dd (wpAny_pure ?_))
  rw [← rows_isSome rel k, ← er]
  exact h _ (I.tok _)
theorem td_setItem {H' : Hp} {Q : Unit → Shared → Prop} (hu : A.units + 65 < cLine) (I : Inv X pins σ H s) (g : TPut X.K X.w H a y v H') (ry : RelV y u) (rv : RelV v r) (h : ∀ s', Inv X pins σ H' s' → Q () s') :
    wpAny (model X.prog X.w) A (setItem (.ref a) u r) Q E s := by
  obtain ⟨qs, k, b, e, hk, rfl, nk, dp, hl, rfl⟩ := g
  obtain ⟨z, hz, hn, ps, rel, dd⟩ := td_H I e hk
  cases (show u = Value.ref b from ry)
  refine wpAny_setItem_heap (knd := nestedKind X.prog X.w) (hsz := by rw [← Paired.length rel]; exact hz) (show A.in1.units + 8 < cLine by rw [Around.in1_units]; omega) ⟨NK.is I nk rfl, dp⟩ dd fun h' dd' hs => h _ ?_
  have he : ∃ q, h'.get? a = some q := let ⟨q, _, _, hq, _⟩ := dd'; ⟨q, hq⟩
  exact d_write (a := a) (H := H) I (td_mut e) hs he (td_new z (Nat.le_trans (put_len _ _ _ _) hl) (put_nodup hn _ _ _) (rows_put rel k b rv) dd')
theorem td_dictSet {H' : Hp} {Q : Unit → Shared → Prop} (hu : A.units + 65 < cLine) (I : Inv X pins σ H s) (g : TPut X.K X.w H a y v H') (ry : RelV y u) (rv : RelV v r) (h : ∀ s', Inv X pins σ H' s' → Q () s') :
    wpAny (model X.prog X.w) A (dictSet a u r) Q E s := by
  obtain ⟨qs, k, b, e, hk, rfl, nk, dp, hl, rfl⟩ := g
  obtain ⟨z, hz, hn, ps, rel, dd⟩ := td_H I e hk
  cases (show u = Value.ref b from ry)
  refine wpAny_dictSet_heap (knd := nestedKind X.prog X.w) (hsz := by rw [← Paired.length rel]; exact hz) (show A.units + 8 < cLine by omega) ⟨NK.is I nk rfl, dp⟩ dd fun h' dd' hs => h _ ?_
  have he : ∃ q, h'.get? a = some q := let ⟨q, _, _, hq, _⟩ := dd'; ⟨q, hq⟩
  exact d_write (a := a) (H := H) I (td_mut e) hs he (td_new z (Nat.le_trans (put_len _ _ _ _) hl) (put_nodup hn _ _ _) (rows_put rel k b rv) dd')
end
section
variable {X : Cx}
/-- d[y] -/
def rIxD (K : PySem.W.Frag) (w : World) : R2 := fun x y H Q => ∃ a v, x = .ref a ∧ (DGet H a y (some v) ∨ TGet K w H a y (some v)) ∧ Q v H
theorem ix_dict (hu : X.A.units + 65 < cLine) : IxR X (rIxD X.K X.w) := by
  intro value slice pins s σ H x y v u Q I rx ry h hs
  obtain ⟨a, z, rfl, g, q⟩ := h
  obtain rfl : v = Value.ref a := rx
  rcases g with g | g
  · exact tail_any (dict_typeIs I g) slot_dict_getitem.lookup (d_getItem (by omega) I g ry fun w' s3 I3 rw' => ⟨z, H, I3, rw', q⟩) hs
  · exact tail_any (td_typeIs I g) slot_dict_getitem.lookup (td_getItem hu I g ry fun w' s3 I3 rw' => ⟨z, H, I3, rw', q⟩) hs
/-- y in d, y not in d -/
def rInDk (K : PySem.W.Frag) (w : World) : R2 := fun y x H Q => ∃ a o, x = .ref a ∧ (DGet H a y o ∨ TGet K w H a y o) ∧ Q (.bl o.isSome) H
def rNotInDk (K : PySem.W.Frag) (w : World) : R2 := fun y x H Q => ∃ a o, x = .ref a ∧ (DGet H a y o ∨ TGet K w H a y o) ∧ Q (.bl (!o.isSome)) H
theorem op_inDk (hu : X.A.units + 65 < cLine) : OpR X (compareOp .In) (rInDk X.K X.w) := by
  intro pins s σ H y x u v Q I ry rx h
  obtain ⟨a, o, rfl, g, q⟩ := h
  obtain rfl : v = Value.ref a := rx
  rcases g with g | g
  · exact d_in (by omega) I g ry fun s3 I3 => ⟨.bl o.isSome, H, I3, rfl, q⟩
  · exact td_in hu I g ry fun s3 I3 => ⟨.bl o.isSome, H, I3, rfl, q⟩
theorem op_notInDk (hu : X.A.units + 65 < cLine) : OpR X (compareOp .NotIn) (rNotInDk X.K X.w) := by
  intro pins s σ H y x u v Q I ry rx h
  obtain ⟨a, o, rfl, g, q⟩ := h
  obtain rfl : v = Value.ref a := rx
  rcases g with g | g
  · exact d_notIn (by omega) I g ry fun s3 I3 => ⟨.bl (!o.isSome), H, I3, rfl, q⟩
  · exact td_notIn hu I g ry fun s3 I3 => ⟨.bl (!o.isSome), H, I3, rfl, q⟩
/-- d[y] = v -/
def rSetD (K : PySem.W.Frag) (w : World) : V → V → V → Hp → (Hp → Prop) → Prop := fun x y v H Q => ∃ a H', x = .ref a ∧ (DPut H a y v H' ∨ TPut K w H a y v H') ∧ Q H'
theorem set_dict (hu : X.A.units + 65 < cLine) : PSet X (rSetD X.K X.w) := by
  intro pins s σ H x y v xv yv u Q I rx ry rv h
  obtain ⟨a, H', rfl, g, q⟩ := h
  obtain rfl : xv = Value.ref a := rx
  rcases g with g | g
  · exact d_setItem (by omega) I g ry rv fun s4 I4 => ⟨H', I4, q⟩
  · exact td_setItem hu I g ry rv fun s4 I4 => ⟨H', I4, q⟩
theorem PSet.or {r r' : V → V → V → Hp → (Hp → Prop) → Prop} (h : PSet X r) (h' : PSet X r') : PSet X (fun x y v H Q => r x y v H Q ∨ r' x y v H Q) := by
  intro pins s σ H x y v xv yv u Q I rx ry rv q
  rcases q with q | q
  · exact h pins s σ H x y v xv yv u Q I rx ry rv q
  · exact h' pins s σ H x y v xv yv u Q I rx ry rv q
/-- range(j), as a value -/
def rRange1 : List V → Hp → VK → Prop := fun vs H Q => ∃ j, vs = [V.int j] ∧ ∀ p, H p = none → Q (.ref p) (upd H p (.rng 0 j))
theorem call_range1 : CallR X (.type "range") rRange1 := by
  intro pins s σ H vs us Q I r h
  obtain ⟨j, rfl, q⟩ := h
  obtain ⟨u, rfl, t, rfl⟩ := vals1 r
  refine call_range_1 ⟨.ref s.heap.objs.size, upd H s.heap.objs.size (.rng 0 j), I.laid (a := s.heap.objs.size) (t' := _) (fun b o e => Heap.get?_push_of_some _ e) (Nat.le_refl _) ?_, rfl, q _ (I.hok.fresh (Nat.le_refl _))⟩
  exact ⟨_, _, _, Heap.get?_push_size _ rfl⟩
/-- len(d) -/
def rLenDk (K : PySem.W.Frag) (w : World) : List V → Hp → VK → Prop := fun xs H Q => ∃ a, xs = [V.ref a] ∧ ((∃ kvs, H a = some (.dK kvs) ∧ Q (.int kvs.length) H) ∨ ∃ qs, H a = some (TDO w a qs) ∧ KeysOk K H qs ∧ Q (.int qs.length) H)
theorem call_lenDk : CallR X (.builtin "len") (rLenDk X.K X.w) := by
  intro pins s σ H xs us Q I r h
  obtain ⟨a, rfl, h⟩ := h
  rcases h with ⟨kvs, e, q⟩ | ⟨qs, e, hk, q⟩
  · exact call_lenD pins s σ H _ us Q I r ⟨a, kvs, rfl, e, q⟩
  · obtain ⟨u, rfl, rx⟩ := vals1 r
    cases rx
    obtain ⟨z, hz, _, ps, rel, dd⟩ := td_H0 I e hk
    have hl : qs.length = ps.length := Paired.length rel
    refine call_len_dictH z dd ?_ ⟨.int qs.length, H, I.tok _, ?_, q⟩
    · rw [← hl, show sizeLine = 16777216 from sizeLine_eq] at *
      omega
    · rw [hl]; exact ⟨_, rfl⟩
end
end DX
end

section
set_option maxRecDepth 100000
set_option maxHeartbeats 8000000
/-! DC: dict comprehensions, the keys whole numbers, texts or tuples. -/
namespace DC
open PySem PySem.Spec PyProof.Rows L2
/-- D[y] = z, by a comprehension -/
def CPut (K : PySem.W.Frag) (w : World) (H : Hp) (D : Addr) (y z : V) (H' : Hp) : Prop :=
  (∃ kvs k, y = kV k ∧ H D = some (.dK kvs) ∧ kvs.length < sizeLine ∧ H' = upd H D (.dK (putK kvs k z))) ∨ DX.TPut K w H D y z H'
/-- what is asked of a turn that begins at H, to end in Nx -/
def turnW (J : It) (g : TG) (tt : TT) (tk tv : TE) (vs : List Nat) (σ : L2.St) (put : Hp → V → V → Hp → Prop) (i : Nat) (H : Hp) (Nx : Hp → Prop) : Prop := ∀ x H1, J.yld i H x H1 → g x (wipe σ vs) H1 fun σ2 H2 => wipe σ2 vs = wipe σ vs ∧ tt σ2 H2 fun b H3 =>
  if b = true then tk σ2 H3 fun y H4 => tv σ2 H4 fun z H5 => ∃ H6, put H5 y z H6 ∧ Nx H6 else Nx H3
def tDC (K : PySem.W.Frag) (w : World) (wi : TI) (g : TG) (tt : TT) (tk tv : TE) (vs : List Nat) : TE := fun σ H Q => wi σ H fun J H1 => ∀ D, H1 D = none → ∃ W : Nat → Nat → Hp → Prop, (∃ m, W 0 m (upd H1 D (.dK []))) ∧ ∀ i m H, W i m H →
  (J.stop i H ∧ Q (.ref D) H) ∨ (J.go i H ∧ ∃ Nx : Hp → Prop, (∀ H', Nx H' → ∃ m', m' < m ∧ W (i + 1) m' H') ∧ turnW J g tt tk tv vs σ (fun H5 y z H6 => CPut K w H5 D y z H6) i H Nx)
section
variable {X : Cx} {pins : List (Addr × Obj)} {σ : L2.St} {H : Hp} {s : Shared}
theorem cput_ok {Y : Cx} {ps : List (Addr × Obj)} {τ : L2.St} {h : Hp} {t : Shared} {E : Value → Shared → Prop} {D : Addr} {y z : V} {h' : Hp} {u r : Value} {Q : Unit → Shared → Prop} (hu : Y.A.units + 65 < cLine) (I : Inv Y ps τ h t) (p : CPut Y.K Y.w h D y z h') (ry : RelV y u) (rz : RelV z r)
    (q : ∀ t', Inv Y ps τ h' t' → Q () t') : wpAny (model Y.prog Y.w) Y.A (dictSet D u r) Q E t := by
  rcases p with ⟨kvs, k, rfl, e, hl, rfl⟩ | p
  · exact d_dictSet I e hl ry rz q
  · exact DX.td_dictSet hu I p ry rz q
end
abbrev dcx (kx vx tg iter : Expr) (ifs : List Expr) (scope : Scope) (pos : Pos) : Expr := .DictComp kx vx [⟨tg, iter, ifs, 0⟩] scope pos
section
variable {X : Cx} {pins : List (Addr × Obj)} {σ : L2.St} {H : Hp} {s : Shared}
/-- within the block's context, from turn to turn -/
theorem dc_loop {kx vx tg iter : Expr} {ifs : List Expr} {scope : Scope} {own : List (Str × Nat)} {pos : Pos} {it D : Addr} {ce : Env} {fp : List Addr} {J : It} {tn : Nat → Heap → Prop} {g : TG} {tt : TT} {tk tv : TE} {Q : VK} {W : Nat → Nat → Hp → Prop} {use : Option (Value → Sem Unit)} {Qf : Value → Shared → Prop}
    (hc : X.calm = true) (hu : X.A.units + 65 < cLine) (I : Inv X pins σ H s) (hL : ce.locals = s.heap.objs.size) (T : Turn X.prog X.w X.K tg J fp it tn) (hfp : ∀ b ∈ fp, FpOk X pins H b)
    (pg : PG (X.blk s H scope ce fp) tg g) (pt : PTs (X.blk s H scope ce fp) ifs tt) (pk : PE (X.blk s H scope ce fp) kx tk) (pv : PE (X.blk s H scope ce fp) vx tv)
    (turn : ∀ i m H', W i m H' → (J.stop i H' ∧ Q (.ref D) H') ∨ (J.go i H' ∧ ∃ Nx : Hp → Prop, (∀ H2, Nx H2 → ∃ m', m' < m ∧ W (i + 1) m' H2) ∧ turnW J g tt tk tv (own.map (·.2)) σ (fun H5 y z H6 => CPut X.K X.w H5 D y z H6) i H' Nx))
    (hRR : ∀ (C : Addr) (t : Shared) (mp : Str → Option Value) (h : Hp), Inv X pins σ h t → Q (.ref D) h → t.heap.Ns C mp → FpOk X pins h C → compPost (model X.prog X.w) X.A X.xe use Qf (.ref D) C (.ok .next) t)
    {m0 : Nat} {H0 : Hp} {s0 : Shared} (I0 : Inv (X.blk s H scope ce fp) [] (wipe σ (own.map (·.2))) H0 s0) (st0 : tn 0 s0.heap) (n0 : ∀ b ∈ fp, H0 b = none) (w0 : W 0 m0 H0) :
    codeAny (model X.prog X.w) X.A (.compLoop (dcx kx vx tg iter ifs scope pos) 0 (.ref it) (.ref D) ce) (compPost (model X.prog X.w) X.A X.xe use Qf (.ref D) s.heap.objs.size) s0 := by
  have stat : ∀ {τ : L2.St} {h : Hp} {t : Shared}, Inv (X.blk s H scope ce fp) [] τ h t → (∀ b ∈ fp, h b = none) → ∀ b ∈ fp, FpOk (X.blk s H scope ce fp) [] h b := fun {τ h t} I' hn b hb =>
    ⟨hn b hb, (I'.ok.exf b hb).1, I'.ok.exfs b hb, .inl hb, fun x c e => (I'.ok.exf b hb).2 x c e, fun p hp => (by simp at hp : False).elim⟩
  refine compLoop_anyD (fun m t => ∃ i h, Inv (X.blk s H scope ce fp) [] (wipe σ (own.map (·.2))) h t ∧ tn i t.heap ∧ (∀ b ∈ fp, h b = none) ∧ W i m h) ?_ m0 ⟨0, H0, I0, st0, n0, w0⟩
  rintro m t ⟨i, h, I1, st1, n1, w1⟩
  -- a turn's end
  have next : ∀ {ps : List (Addr × Obj)} {τ : L2.St} {h2 h7 : Hp} {t2 : Shared} {hp7 : Heap} {Nx : Hp → Prop}, (∀ H2, Nx H2 → ∃ m', m' < m ∧ W (i + 1) m' H2) → tn (i + 1) hp7 → ps = pinsAt fp hp7 → wipe τ (own.map (·.2)) = wipe σ (own.map (·.2)) → Inv (X.blk s H scope ce fp) ([] ++ ps) τ h2 t2 → Nx h2 →
      ∃ m', m' < m ∧ ∃ i h, Inv (X.blk s H scope ce fp) [] (wipe σ (own.map (·.2))) h t2 ∧ tn i t2.heap ∧ (∀ b ∈ fp, h b = none) ∧ W i m' h := fun {ps τ h2 h7 t2 hp7 Nx} hNx st7 eps hw I2 nx => by
    subst eps
    obtain ⟨m', hm, w'⟩ := hNx h2 nx
    have pin : ∀ b ∈ fp, ∀ o, hp7.get? b = some o → t2.heap.get? b = some o ∧ h2 b = none := fun b hb o e =>
      have z := I2.pin (b, o) (List.mem_append_right _ (List.mem_append_right _ (mem_pinsAt hb e)))
      ⟨z.1, z.2.1⟩
    refine ⟨m', hm, i + 1, h2, (I2.unpinned (pins := [])).weak (by rw [← hw, wipe_length]) fun j v e => ?_, T.keep _ _ _ st7 fun b hb o e => (pin b hb o e).1, fun b hb => ?_, w'⟩
    · rw [← hw] at e; exact (wipe_some e).1
    · obtain ⟨o, e, _⟩ := T.obj _ _ st7 b hb
      exact (pin b hb o e).2
  rcases turn i m h w1 with ⟨stop, qq⟩ | ⟨go, Nx, hNx, step⟩
  · refine thnF (T.done (X.blk s H scope ce fp) rfl rfl rfl hc i [] t _ h (fun _ _ => False) I1 (stat I1 n1) st1 stop) fun r t2 ⟨hr, I2⟩ => ?_
    subst hr
    have hC : h s.heap.objs.size = none := by have z : h ce.locals = none := I2.free; rwa [hL] at z
    obtain ⟨mp, hn, _⟩ := I2.loc
    have hn : t2.heap.Ns ce.locals mp := hn
    rw [hL] at hn
    have I3 : Inv X pins σ h t2 := I.call' (ch := fp) I2.os I2.base I2.hok I2.bare fun b hb => ⟨(hfp b hb).2.2.2.1, (hfp b hb).2.1, (hfp b hb).2.2.2.2.1, (hfp b hb).2.2.2.2.2⟩
    exact hRR _ _ mp h I3 qq hn (I.fpOk (Nat.le_refl _) hC)
  · refine thnF (T.item (X.blk s H scope ce fp) rfl rfl rfl hc i [] t _ h (fun _ _ => False) I1 (stat I1 n1) st1 go) fun r t2 ⟨u, hr, h2⟩ => ?_
    subst hr
    refine thnF h2 fun _ t3 ⟨x, H3, I3, r3, y3, st3, n3⟩ => ?_
    refine thnF (pg.run _ t3 _ H3 x u _ (I3.pinned (stat I3 n3) (T.obj _ _ st3)) r3 (step x H3 y3)) fun _ t4 ⟨τ, H4, I4, hw, q4⟩ => ?_
    refine thnF (pt.run _ t4 τ H4 _ I4 q4) fun b t5 ⟨H5, I5, q5⟩ => ?_
    cases b with
    | false =>
      simp only [Bool.false_eq_true, if_false] at q5 ⊢
      exact next (h7 := H3) hNx st3 rfl hw I5 q5
    | true =>
      simp only [if_true] at q5 ⊢
      refine thnF (pk.run _ t5 τ H5 _ I5 q5) fun y t6 ⟨yv, H6, I6, r6, q6⟩ => ?_
      refine thnF (pv.run _ t6 τ H6 _ I6 q6) fun z t7 ⟨zv, H7, I7, r7, H8, hput, nx⟩ => ?_
      exact cput_ok (Y := X.blk s H scope ce fp) hu I7 hput r6 r7 fun t8 I8 => next (h7 := H3) hNx st3 rfl hw I8 nx
/-- {k: v for target in iter if ..}, used in any way -/
theorem dc_any {pins : List (Addr × Obj)} {s : Shared} {σ : L2.St} {H : Hp} {Q : VK} {pos' : Pos} {use : Option (Value → Sem Unit)} {Qf : Value → Shared → Prop} {kx vx tg iter : Expr} {ifs : List Expr} {scope : Scope} {own : List (Str × Nat)} {pos : Pos} {wi : TI} {g : TG} {tt : TT} {tk tv : TE} (hc : X.calm = true) (hu : X.A.units + 65 < cLine) (hN : X.N.Nodup) (I : Inv X pins σ H s) (hi : PI X tg iter wi) (ok : BlkOk X.N X.env.scope scope own)
    (hb : ∀ (s : Shared) (H : Hp) (C : Addr) (cl : List (Str × Addr)) (fp : List Addr), PG (X.blk s H scope (compEnvC scope cl C X.env) fp) tg g ∧ PTs (X.blk s H scope (compEnvC scope cl C X.env) fp) ifs tt ∧ PE (X.blk s H scope (compEnvC scope cl C X.env) fp) kx tk ∧ PE (X.blk s H scope (compEnvC scope cl C X.env) fp) vx tv)
    (hs : ∀ x, foldedSetIterable iter X.env x = pure x) (h : tDC X.K X.w wi g tt tk tv (own.map (·.2)) σ H Q)
    (hRR : ∀ (D C : Addr) (t : Shared) (mp : Str → Option Value) (h : Hp), Inv X pins σ h t → Q (.ref D) h → t.heap.Ns C mp → FpOk X pins h C → compPost (model X.prog X.w) X.A X.xe use Qf (.ref D) C (.ok .next) t) :
    wpAny (model X.prog X.w) X.A (comprehension (dcx kx vx tg iter ifs scope pos) scope X.env pos' (newDict) false (eval iter X.env) use) Qf X.xe s := by
  have fr : ∀ y ∈ scope.names, y.2 = .free → ∃ c, X.env.cells.lookup y.1 = some c := fun y hy e => (ok.free y hy e).elim (fun k => I.ok.has _ (.inl k)) fun k => I.ok.has _ (.inr k)
  refine wpAny_comprehension_free (use := use) rfl hs (closure_ok fr) ok.kind (fun y hy e => by rw [ok.uniq y hy, e]) (thn (hi.run pins s σ H _ I h) fun xv s1 hx => thn hx fun itv s2 h2 => ?_)
  obtain ⟨it, fp, tn, J, H2, rfl, I2, T, st2, f2, q⟩ := h2
  obtain ⟨W, ⟨m0, w0⟩, turn⟩ := q s2.heap.objs.size (I2.hok.fresh (Nat.le_refl _))
  refine wpAny_newObj_type (newEnv_comp ?_)
  generalize hD : s2.heap.objs.size = D at turn w0 ⊢
  generalize hs3 : ({ s2 with heap := s2.heap.push { cls := .type "dict", data := .dict #[] } } : Shared) = s3
  have e3 : s3.heap = s2.heap.push { cls := .type "dict", data := .dict #[] } := by rw [← hs3]
  have I3 : Inv X pins σ (upd H2 D (.dK [])) s3 := by
    rw [← hs3]
    refine I2.laid (t' := s2.toks) (fun b o e => Heap.get?_push_of_some _ e) (Nat.le_of_eq hD) ?_
    rw [← hD]; exact dk_empty s2.heap I2.big
  have kp : ∀ b o, s2.heap.get? b = some o → s3.heap.get? b = some o := fun b o e => by rw [e3]; exact Heap.get?_push_of_some _ e
  have f3 : ∀ b ∈ fp, FpOk X pins (upd H2 D (.dK [])) b ∧ b < s3.heap.objs.size := fun b hb => by
    obtain ⟨o, e, _⟩ := T.obj _ _ st2 b hb
    have hl := Heap.lt_size e
    have hne : b ≠ D := by rw [← hD]; exact Nat.ne_of_lt hl
    exact ⟨⟨by rw [upd_ne hne]; exact (f2 b hb).1, (f2 b hb).2⟩, by rw [e3, Heap.size_push]; exact Nat.lt_succ_of_lt hl⟩
  have st3 : tn 0 s3.heap := T.keep _ _ _ st2 fun b _ o e => kp b o e
  have I4 := block_start I3 ok hN f3
  obtain ⟨pg, pt, pk, pv⟩ := hb s3 (upd H2 D (.dK [])) s3.heap.objs.size (cellsFrom (s3.heap.objs.size + 1) scope.names (cloFrom X.env.cells scope.names [])) fp
  have n3 : ∀ b ∈ fp, (upd H2 D (.dK [])) b = none := fun b hb => (f3 b hb).1.1
  have st4 : tn 0 (pushCells (s3.heap.push { cls := .type "dict", data := .dict #[] }) scope.names) := T.keep _ _ _ st3 fun b _ o e => pushCells_keeps _ _ _ _ (Heap.get?_push_of_some _ e)
  have loop := dc_loop (kx := kx) (vx := vx) (iter := iter) (pos := pos) (ce := compEnvC scope (cellsFrom (s3.heap.objs.size + 1) scope.names (cloFrom X.env.cells scope.names [])) s3.heap.objs.size X.env) hc hu I3 rfl T (fun b hb => (f3 b hb).1) pg pt pk pv turn (hRR D) I4 st4 n3 w0
  exact codeAny_compStart_dict loop (T.self X.A 0 _ _ _ st4 loop)
/-- as a value -/
theorem pe_dc2 {kx vx tg iter : Expr} {ifs : List Expr} {scope : Scope} {own : List (Str × Nat)} {pos : Pos} {wi : TI} {g : TG} {tt : TT} {tk tv : TE} (hc : X.calm = true) (hu : X.A.units + 65 < cLine) (hN : X.N.Nodup) (hi : PI X tg iter wi) (ok : BlkOk X.N X.env.scope scope own)
    (hb : ∀ (s : Shared) (H : Hp) (C : Addr) (cl : List (Str × Addr)) (fp : List Addr), PG (X.blk s H scope (compEnvC scope cl C X.env) fp) tg g ∧ PTs (X.blk s H scope (compEnvC scope cl C X.env) fp) ifs tt ∧ PE (X.blk s H scope (compEnvC scope cl C X.env) fp) kx tk ∧ PE (X.blk s H scope (compEnvC scope cl C X.env) fp) vx tv)
    (hs : ∀ x, foldedSetIterable iter X.env x = pure x) : PE X (dcx kx vx tg iter ifs scope pos) (tDC X.K X.w wi g tt tk tv (own.map (·.2))) := by
  refine ⟨fun pins s σ H Q I h => ?_⟩
  unfold dcx
  rw [arm_eval_DictComp]
  refine dc_any hc hu hN I hi ok hb hs h fun D C t mp h' I' q hn fp => ⟨mp, hn, fun h'' sb => ?_⟩
  obtain ⟨f0, f1, _, f3, f4, f5⟩ := fp
  exact ⟨.ref D, h', I'.turned (t' := t.toks) (fun b o hb e => (sb.2 b hb).trans e) f0 f1 f3 f4 f5, rfl, q⟩
/-- name = {..} on one line, the name a local -/
theorem ps_setDc {i : Nat} {y : Str} {py : Pos} {kx vx tg iter : Expr} {ifs : List Expr} {scope : Scope} {own : List (Str × Nat)} {pos spos : Pos} {wi : TI} {g : TG} {tt : TT} {tk tv : TE} (hc : X.calm = true) (hu : X.A.units + 65 < cLine) (hN : X.N.Nodup) (hy : X.N[i]? = some y) (hyl : X.env.scope.names.lookup y = some .local)
    (hsw : swapsWith (dcx kx vx tg iter ifs scope pos) (some (.Name y py)) spos.line X.env = pure true) (hi : PI X tg iter wi) (ok : BlkOk X.N X.env.scope scope own)
    (hb : ∀ (s : Shared) (H : Hp) (C : Addr) (cl : List (Str × Addr)) (fp : List Addr), PG (X.blk s H scope (compEnvC scope cl C X.env) fp) tg g ∧ PTs (X.blk s H scope (compEnvC scope cl C X.env) fp) ifs tt ∧ PE (X.blk s H scope (compEnvC scope cl C X.env) fp) kx tk ∧ PE (X.blk s H scope (compEnvC scope cl C X.env) fp) vx tv)
    (hs : ∀ x, foldedSetIterable iter X.env x = pure x) : PS X (.Assign [.Name y py] (dcx kx vx tg iter ifs scope pos) spos) (tAsg (tDC X.K X.w wi g tt tk tv (own.map (·.2))) (gName i)) := by
  refine ⟨fun ps t τ h0 E0 I h => ?_⟩
  rw [exec_Assign_Name_used _ _ _ _ hsw]
  have fin : ∀ (D C : Addr) (t : Shared) (mp : Str → Option Value) (h : Hp), Inv X ps τ h t → gName i (.ref D) τ h E0.nx → t.heap.Ns C mp → FpOk X ps h C → compPost (model X.prog X.w) X.A X.xe (some (assign (.Name y py) X.env)) (fun _ s' => SP X ps E0 .next s') (.ref D) C (.ok .next) t := fun D C t mp h I2 q hn fp => by
    refine wpAny_assign_Name (store_ok2 (v := V.ref D) I2 hN hy (.inl hyl) rfl (fun t2 I3 ⟨a, sb, ha⟩ => ?_) (.inr hyl))
    obtain ⟨f0, f1, f2, f3, f4, f5⟩ := fp
    have hne : C ≠ a := ha.elim (fun z => by rw [z]; exact f1) fun z e => f4 y a z e.symm
    exact ⟨mp, hn.sameBut sb hne, fun h3 sb3 => ⟨_, h, I3.turned (t' := t2.toks) (fun b o hb e => (sb3.2 b hb).trans e) f0 f1 f3 f4 f5, q⟩⟩
  exact wpAny_bind (wpAny_standAt (wpAny_bind (wpAny_bind (thn (dc_any (pos' := firstIterPos [⟨tg, iter, ifs, 0⟩] pos) hc hu hN I hi ok hb hs h fin) fun _ s' hq => wpAny_pure (wpAny_pure hq)))))
end
end DC
end

section
set_option maxRecDepth 100000
set_option maxHeartbeats 8000000
/-! DG: D.get(k, x) of the module's dict. -/
namespace DG
open PySem PySem.Spec PyProof.Rows L2
def KGet (K : PySem.W.Frag) (w : World) (a : Addr) (x : Str) (o : Option Value) : Prop :=
  ∃ es n, K.lookup a = some ⟨.type "dict", none, .dict es n, #[]⟩ ∧ PySem.W.KeysLit w.params es.toList ∧ (a == sysModules) = false ∧ PySem.W.nsIn K a x = some o
def tKGet2 (K : PySem.W.Frag) (w : World) (td ty tx : TE) : TE := fun σ H Q => td σ H fun x H1 => ∃ a, x = .ref a ∧ (∃ es n, K.lookup a = some ⟨.type "dict", none, .dict es n, #[]⟩ ∧ PySem.W.KeysLit w.params es.toList) ∧ ty σ H1 fun y H2 => tx σ H2 fun z H3 => ∃ k o, y = .str k ∧ KGet K w a k o ∧ (match o with
  | some u => ∃ v, RelV v u ∧ Q v H3
  | none => Q z H3)
section
variable {X : Cx} {o e f : Expr} {apos cpos : Pos} {td ty tx : TE}
theorem pe_kget2 (ho : PE X o td) (he : PE X e ty) (hf : PE X f tx) (m : M2 X o "get" apos e f cpos) : PE X (.Call (.Attribute o "get" apos) [e, f] [] cpos) (tKGet2 X.K X.w td ty tx) := by
  refine ⟨fun ps t τ h0 Q I h => ?_⟩
  refine wpAny_Call_method m.base m.few m.line PySem.F.plainAttrs_dict PySem.F.slot_dict_get PySem.F.type_dict_get (thn (ho.run ps t τ h0 _ I h) fun u t1 ⟨x, H1, I1, rx, a, ex, ⟨es, n, hl, hk⟩, q1⟩ => ?_)
  subst ex
  obtain rfl : u = Value.ref a := rx
  have hm := PySem.W.mapOf_K (prog := X.prog) (w := X.w) I1.kIn hl hk
  refine ⟨hm.typeIs, ?_, ?_⟩
  · exact fun b q => by cases q; exact ⟨_, I1.kIn _ _ hl, rfl⟩
  rw [m.trees]
  refine Calls.callWith_builtin rfl (Calls.evalArgs_plain (Calls.spliced_cons (thn (he.run ps t1 τ H1 _ I1 q1) fun iv t2 ⟨y, H2, I2, ry, q2⟩ =>
    Calls.spliced_cons (thn (hf.run ps t2 τ H2 _ I2 q2) fun fv t3 ⟨z, H3, I3, rz, k, oo, ey, ⟨es', n', hl', hk', low, hn⟩, q3⟩ => Calls.spliced_nil ?_))))
  subst ey
  obtain ⟨tk, rfl⟩ := (show ∃ tk, iv = Value.str k tk from ry)
  have hm3 := PySem.W.mapOf_K (prog := X.prog) (w := X.w) I3.kIn hl' hk'
  refine call_meetsIn PySem.F.slot_dict_get hm3.typeIs PySem.F.entry_dict_get (PySem.F.args_dict_get_3 _ _ _) (meets_dict_get_default (strKind X.prog X.w) a (strKind_is X.prog X.w k tk) low fv) ⟨_, hm3, ?_⟩
  have ef := PySem.W.find_K hl' hn
  show ∃ v H', _
  rw [ef]
  cases oo with
  | some u =>
    obtain ⟨v, rv, q⟩ := q3
    exact ⟨v, H3, I3.tok _, rv, q⟩
  | none => exact ⟨z, H3, I3.tok _, rz, q3⟩
end
end DG
end

section
set_option maxRecDepth 100000
set_option maxHeartbeats 8000000
/-! DK: a method of an instance whose class is known when it is called. -/
namespace DK
open PySem PySem.Spec PyProof.Rows L2
/-- m of the class at C is the def at f, which keeps sp -/
structure MeOk (X : Cx) (C : Addr) (m : Str) (sp : Sp) : Prop where
  ex : ∃ (k : Nat) (f : Addr) (fd : FuncData) (ps : List Str), Cls X.K C ∧ Meth X.K C m f ∧ FnOk X.prog X.w X.K X.mg X.base CX0 k f fd ps sp ∧ Room k X.A ∧ Binds X.K fd ps []
def tMe (X : Cx) (m : Str) (ta : TE) (t : TA) : TE := fun σ H Q => ta σ H fun x H1 => ∃ a C dx fs sp, x = .ref a ∧ H1 a = some (.ins C dx fs) ∧ fs.lookup m = none ∧ MeOk X C m sp ∧ t σ H1 fun vs H2 => sp (x :: vs) H2 Q (fun _ _ _ => False)
section
variable {X : Cx} {o e : Expr} {es : List Expr} {m : Str} {apos pos : Pos} {ta : TE} {t : TA}
theorem pe_me (he : PE X o ta) (hx : Passes CX0 X (fun _ _ _ => False)) (ha : PA X (e :: es) t)
    (hst : starEach (e :: es) X.env = (false, eval e X.env) :: starEach es X.env) (hpl : (backTo pos (starEach es X.env)).any (·.1) = false)
    (ht : eval (.Call (.Attribute o m apos) (e :: es) [] pos) X.env = (do
      let ov ← eval o X.env
      standAt apos.atName
      let (f, first) ← holding [ov] (getMethod ov m (plainOf o X.env))
      callWith pos f first (backTo pos (starEach (e :: es) X.env)) (backToKw pos (keywordEach [] X.env)))) :
    PE X (.Call (.Attribute o m apos) (e :: es) [] pos) (tMe X m ta t) := by
  refine ⟨fun pins s σ H Q I h => ?_⟩
  refine PySem.W.methodCall_KW (pl := plainOf o X.env) (thn (he.run pins s σ H _ I h) fun u s1 ⟨x, H1, I1, rx, a, C, dx, fs, sp, ex, ea, l, ⟨k, f, fd, ps, cl, hm, F, hr, hb⟩, q⟩ => ?_) ht
  subst ex
  obtain rfl : u = Value.ref a := rx
  refine getmeth_ok I1 ea cl hm l ?_
  refine PySem.W.callWith_K (first := [.ref a]) (h₀ := X.base) I.ok.mod.kin hm.kp (thn (ha.run pos pins s1 σ H1 _ I1 q) fun us s2 ⟨vs, H2, I2, r, q2⟩ => ⟨I2.kIn, ?_⟩) hst hpl
  exact run_fn (us := .ref a :: us) (vs := .ref a :: vs) F hr hb .nil hx I2 (.cons rfl r) (by rw [List.append_nil]; exact q2)
/-- o.m() -/
theorem pe_me0 (he : PE X o ta) (hx : Passes CX0 X (fun _ _ _ => False))
    (ht : eval (.Call (.Attribute o m apos) [] [] pos) X.env = (do
      let ov ← eval o X.env
      standAt apos.atName
      let (f, first) ← holding [ov] (getMethod ov m (plainOf o X.env))
      callWith pos f first (backTo pos (starEach [] X.env)) (backToKw pos (keywordEach [] X.env)))) :
    PE X (.Call (.Attribute o m apos) [] [] pos) (tMe X m ta tNil) := by
  refine ⟨fun pins s σ H Q I h => ?_⟩
  refine PySem.W.methodCall_KW (pl := plainOf o X.env) (thn (he.run pins s σ H _ I h) fun u s1 ⟨x, H1, I1, rx, a, C, dx, fs, sp, ex, ea, l, ⟨k, f, fd, ps, cl, hm, F, hr, hb⟩, q⟩ => ?_) ht
  subst ex
  obtain rfl : u = Value.ref a := rx
  refine getmeth_ok I1 ea cl hm l ?_
  exact PySem.W.callWith_K0 (first := [.ref a]) I1.kIn hm.kp (run_fn (us := [.ref a]) (vs := [.ref a]) F hr hb .nil hx I1 (.cons rfl .nil) q)
theorem me_ht {env : Env} {args : List Expr} (hb : attributeBase o m env (eval o env) = eval o env) (hs : (backTo pos (starEach args env)).any (·.1) = false) (hl : args.length < 30) (hp : (apos.endLine == pos.line) = true) :
    eval (.Call (.Attribute o m apos) args [] pos) env = (do
      let ov ← eval o env
      standAt apos.atName
      let (f, first) ← holding [ov] (getMethod ov m (plainOf o env))
      callWith pos f first (backTo pos (starEach args env)) (backToKw pos (keywordEach [] env))) := by
  have hf : methodCallForm (args.length + ([] : List Keyword).length) (backTo pos (starEach args env)) (backToKw pos (keywordEach [] env)) = true := by
    unfold methodCallForm
    rw [Bool.and_eq_true, Bool.and_eq_true]
    refine ⟨⟨?_, rfl⟩, ?_⟩
    · rw [List.all_eq_true]
      intro p hp
      rw [List.any_eq_false] at hs
      have := hs p hp
      simpa using this
    · show decide (args.length + 0 + 0 < 30) = true
      exact decide_eq_true (by omega)
  rw [arm_eval_Call, hb]
  refine congrArg (fun k => eval o env >>= k) (funext fun ov => congrArg (fun k => standAt apos.atName >>= k) (funext fun _ => ?_))
  exact mcall_line hf hp
end
end DK
end

section
set_option maxRecDepth 100000
set_option maxHeartbeats 8000000
/-! DT: sorted of a list of pairs of whole numbers, wherever the pairs stand. -/
namespace DT
open PySem PySem.Spec PyProof.Rows L2
def TQ (K : PySem.W.Frag) (H : Hp) (x : V) (p : Int × Int) : Prop := ∃ t, x = .ref t ∧ SqT K H t [.int p.1, .int p.2]
def rSortedQ (K : PySem.W.Frag) : List V → Hp → VK → Prop := fun vs H Q => ∃ (a : Addr) (xs : List (V × Int × Int)), vs = [V.ref a] ∧ SqL K H a (xs.map (·.1)) ∧ (∀ p ∈ xs, TQ K H p.1 p.2) ∧
  ∀ (ys : List (V × Int × Int)) (d : Addr), ys.Perm xs → (ys.map (·.2)).Pairwise (fun p q => SrtO.lexB q p = false) → H d = none → Q (.ref d) (upd H d (.lst (ys.map (·.1))))
/-- what stands at a value -/
def kv (h : Heap) : Value → Int × Int
  | .ref t => match h.get? t with
    | some ⟨_, _, .seq its _, _⟩ => match its.toList with
      | [.int i _, .int j _] => (i, j)
      | _ => (0, 0)
    | _ => (0, 0)
  | _ => (0, 0)
theorem map_back {f : Value → V × Int × Int} : ∀ {xs : List (V × Int × Int)} {us : List Value}, Vals (xs.map (·.1)) us → (∀ p ∈ xs, ∀ u, RelV p.1 u → f u = p) → us.map f = xs
  | [], _, .nil, _ => rfl
  | p :: xs, u :: us, .cons r t, h => by
    rw [List.map_cons, h p List.mem_cons_self u r, map_back t fun q hq => h q (List.mem_cons_of_mem _ hq)]
section
variable {X : Cx}
theorem cr_sortedQ : CallR X (.builtin "sorted") (rSortedQ X.K) := by
  intro pins s σ H vs us Q I r h
  obtain ⟨a, xs, rfl, hs, hx, q⟩ := h
  obtain ⟨its, rv, hl, hz⟩ := I.list hs
  obtain ⟨u, rfl, ru⟩ := vals1 r
  obtain rfl : u = Value.ref a := ru
  obtain ⟨e1, e2⟩ := refs_back rv fun x m => by
    obtain ⟨p, hp, rfl⟩ := List.mem_map.mp m
    obtain ⟨t, e, _⟩ := hx p hp
    exact ⟨t, e⟩
  have key : ∀ p ∈ xs, ∀ v, RelV p.1 v → kv s.heap v = p.2 ∧ Srt.IsPair s.heap v p.2.1 p.2.2 ∧ backV v = p.1 := fun p hp v rv => by
    obtain ⟨t, e, ht⟩ := hx p hp
    rw [e] at rv
    obtain rfl : v = Value.ref t := rv
    obtain ⟨its2, r2, ⟨o, ho, hc, n, hd⟩, _⟩ := I.tuple ht
    obtain ⟨u1, u2, rfl, ri, rj⟩ := vals2 r2
    obtain ⟨t1, rfl⟩ := ri
    obtain ⟨t2, rfl⟩ := rj
    refine ⟨?_, ⟨t, o, t1, t2, n, rfl, ho, hc, hd⟩, e.symm⟩
    unfold kv
    obtain ⟨oc, od, dt, sl⟩ := o
    simp only at hd
    subst hd
    simp only [ho]
  have hm : ∀ v ∈ its, ∃ p ∈ xs, RelV p.1 v := fun v hv => by
    obtain ⟨t, rfl⟩ := e2 v hv
    have h1 : V.ref t ∈ xs.map (·.1) := by rw [e1]; exact List.mem_map.mpr ⟨_, hv, rfl⟩
    obtain ⟨p, hp, e⟩ := List.mem_map.mp h1
    exact ⟨p, hp, by rw [e]; exact (show RelV (.ref t) (.ref t) from rfl)⟩
  refine SrtO.sorted_pairsO (k := kv s.heap) hl.isList (by rw [← rv.length]; exact hz) (fun v hv => ?_) fun h' d out h1 h2 kp hd hn => ?_
  · obtain ⟨p, hp, rp⟩ := hm v hv
    obtain ⟨k1, k2, _⟩ := key p hp v rp
    rw [k1]
    exact k2
  · have h3 : ∀ u ∈ out, ∃ a, u = Value.ref a := fun u hu => e2 u (h2.perm.mem_iff.mp hu)
    obtain ⟨n, hn⟩ := hn
    have ex : its.map (fun u => (backV u, kv s.heap u)) = xs := map_back rv fun p hp u r => by
      obtain ⟨k1, _, k3⟩ := key p hp u r
      rw [k1, k3]
    have hp : (out.map fun u => (backV u, kv s.heap u)).Perm xs := by
      rw [← ex]
      exact h2.perm.map _
    have em : (out.map fun u => (backV u, kv s.heap u)).map (·.1) = out.map backV := by rw [List.map_map]; rfl
    have hq := q (out.map fun u => (backV u, kv s.heap u)) d hp (by
      rw [List.map_map, List.pairwise_map]
      exact h1) (I.hok.fresh hd)
    rw [em] at hq
    refine ⟨.ref d, upd H d (.lst (out.map backV)), I.laid (t' := s.toks) kp hd ⟨?_, out, n, vals_back h3, hn⟩, rfl, hq⟩
    have := hp.length_eq
    rw [List.length_map] at this
    rw [List.length_map, this, ← List.length_map (f := fun p : V × Int × Int => p.1)]
    exact hz
end
end DT
end

section
set_option maxRecDepth 100000
set_option maxHeartbeats 8000000
/-! DN: enumerate of a tuple (or of a list). -/
namespace DN
open PySem PySem.Spec PyProof.Rows L2
abbrev tupIt (tp : Addr) : Obj := { cls := .type "tuple_iterator", data := .fields #[.ref tp, .int 0 0] }
abbrev enuOf (it : Addr) : Obj := { cls := .type "enumerate", data := .fields #[.none, .bool false, .ref it, rawInt 0, .none, .none] }
theorem enum_new (tp : Addr) (xs : Array Value) (k : Nat) (dd : Option Addr) (sls : Array (Option Value)) :
    Meets (Builtin.«enumerate.__new__» ⟨[.type "enumerate", .ref tp], []⟩) (fun _ R z => z.heap.get? tp = some { cls := .type "tuple", dict := dd, data := .seq xs k, slots := sls } ∧
      R (.ok (.ret (.ref (z.heap.push (tupIt tp)).objs.size))) { z with heap := (z.heap.push (tupIt tp)).push (enuOf z.heap.objs.size) }) :=
  .of_wp fun prog w B R z hz => by
    obtain ⟨hp, gs, dr, tks, osx⟩ := z
    obtain ⟨ht0, hR⟩ := hz
    have sub := sub_enumerate
    have hT : Heap.IsTuple (Shared.heap ⟨hp, gs, dr, tks, osx⟩) tp xs := ⟨_, ht0, rfl, k, rfl⟩
    wp_walk using AutoSeq1.wpAny_loadPart' ht0
    refine wpAny_stack_any fun fr => wpAny_pure ?_
    split
    · rename_i cl _ _ _ _ _
      cases cl == Value.type "enumerate" <;> (wp_walk using AutoSeq1.wpAny_loadPart' ht0, wpAny_pyIter_tuple hT; exact ⟨_, rfl, hR⟩)
    · wp_walk using AutoSeq1.wpAny_loadPart' ht0, wpAny_pyIter_tuple hT
      exact ⟨_, rfl, hR⟩
theorem enum_tuple {prog : Program} {w : World} {B : Around} {EE : Value → Shared → Prop} {z : Shared} {tp : Addr} {xs : Array Value} {Q : Value → Shared → Prop} (hT : z.heap.IsTuple tp xs)
    (hQ : ∀ g, IsEnum g (z.heap.objs.size + 1) z.heap.objs.size 0 .none → g.IsTupleIter z.heap.objs.size tp 0 → (∀ b o, z.heap.get? b = some o → g.get? b = some o) → Q (.ref (z.heap.objs.size + 1)) { z with heap := g }) :
    wpAny (model prog w) B (call (.type "enumerate") [.ref tp]) Q EE z := by
  obtain ⟨⟨oc, odd, odt, osl⟩, hg, hcl, k, hdt⟩ := hT
  have e1 : oc = .type "tuple" := hcl
  have e2 : odt = .seq xs k := hdt
  subst e1 e2
  have sz : (z.heap.push (tupIt tp)).objs.size = z.heap.objs.size + 1 := Heap.size_push ..
  have fin : ∀ (g : Heap), g = (z.heap.push (tupIt tp)).push (enuOf z.heap.objs.size) → Q (.ref (z.heap.objs.size + 1)) { z with heap := g } := fun g eg => by
    have h1 : g.get? (z.heap.objs.size + 1) = some (enuOf z.heap.objs.size) := by
      rw [eg, ← sz]
      exact Heap.get?_push_size _ rfl
    refine hQ g h1 ⟨tupIt tp, ?_, rfl, rfl⟩ fun b o e => ?_
    · rw [eg]
      exact Heap.get?_push_of_some _ (Heap.get?_push_size _ rfl)
    · rw [eg]
      exact Heap.get?_push_of_some _ (Heap.get?_push_of_some _ e)
  refine callType_new F.called_enumerate (by decide) (F.typeCall_enumerate_1 _) (F.newCall_enumerate_1 _) (fun ob => F.args_object_init_2 ob _) F.entry_enumerate_new (enum_new tp xs k odd osl) ⟨hg, ?_⟩
  refine ⟨⟨enuOf z.heap.objs.size, ?_, rfl⟩, ?_⟩
  · exact Heap.get?_push_size _ rfl
  · rw [sz]
    exact fin _ rfl
/-- the tuple at a at each turn, each item in a new pair -/
def IteT (K : PySem.W.Frag) (a : Addr) : It where
  go := fun i H => ∃ (xs : List V) (x : V), SqT K H a xs ∧ xs[i]? = some x
  yld := fun i H v H' => ∃ T x, v = .ref T ∧ H T = none ∧ H' = upd H T (.tup [.int (i : Nat), x]) ∧ ∀ xs, SqT K H a xs → xs[i]? = some x
  stop := fun i H => ∃ xs : List V, SqT K H a xs ∧ xs.length ≤ i
theorem turn_enumT {P : Program} {w : World} {K : PySem.W.Frag} {elts : List Expr} {kk : Nat} {tpos : Pos} (a e it : Addr) :
    Turn P w K (.Tuple elts kk tpos) (IteT K a) [e, it] e (fun i h => (∃ old, IsEnum h e it ((i : Nat) : Int) old) ∧ h.IsTupleIter it a i ∧ e ≠ it) where
  mem := List.mem_cons_self
  obj := fun i h ⟨⟨old, he⟩, ⟨o, ho, hc, hd⟩, _⟩ b hb => by
    rcases List.mem_cons.mp hb with rfl | hb
    · exact ⟨_, he, fun v q => nomatch q⟩
    · rw [List.mem_singleton.mp hb]
      exact ⟨o, ho, fun v q => by rw [hd] at q; cases q⟩
  keep := fun i h h' ⟨⟨old, he⟩, ⟨o, ho, hc, hd⟩, hne⟩ k => ⟨⟨old, k e List.mem_cons_self _ he⟩, ⟨o, k it (List.mem_cons_of_mem _ List.mem_cons_self) o ho, hc, hd⟩, hne⟩
  item := by
    intro X hP hw hK hc i pins s σ H E I hf ⟨⟨old, he⟩, hit, hne⟩ ⟨xs, x, hq, hx⟩
    subst hP hw hK
    obtain ⟨its, rv, tpl, hz⟩ := I.tuple hq
    obtain ⟨u, hu, ru⟩ := rv.get hx
    have hel : e < s.heap.objs.size := Heap.lt_size he
    have hil : it < s.heap.objs.size := by obtain ⟨_, q, _⟩ := hit; exact Heap.lt_size q
    have hai : a ≠ it := fun z => by
      obtain ⟨o1, e1, c1, _⟩ := tpl
      obtain ⟨o2, e2, c2, _⟩ := hit
      rw [z, e2] at e1
      cases e1
      rw [c2] at c1
      exact absurd (Value.type.inj c1) (by decide)
    have hae : e ∉ [it, a] := fun z => by
      rcases List.mem_cons.mp z with z | z
      · exact hne z
      · have z := List.mem_singleton.mp z
        obtain ⟨o1, e1, c1, _⟩ := tpl
        have he : s.heap.get? e = _ := he
        rw [z, e1] at he
        cases he
        exact absurd (Value.type.inj c1) (by decide)
    have ilt : i < its.toArray.size := by
      rw [List.size_toArray]
      exact (List.getElem?_eq_some_iff.mp hu).1
    have DD : Draws X.prog X.w X.A.in1 it [it, a] its.toArray.size (fun i v => its.toArray[i]? = some v) (fun i h => h.IsTupleIter it a i ∧ h.IsTuple a its.toArray) := Draws.tuple (show X.A.in1.handled = none from I.ok.hd hc) it a hai its.toArray
    refine wpAny_pyNext_enum_itemD DD he ⟨hit, tpl⟩ ilt hne hae fun y h' tk py ho hst hT hsz hk => ?_
    have ey : y = u := by
      have py : its.toArray[i]? = some y := py
      rw [List.getElem?_toArray, hu] at py
      exact (Option.some.inj py).symm
    subst ey
    refine ⟨_, rfl, wpAny_letOwnedTupleGo_enum (s := { s with heap := h', toks := tk + 1 }) ho fun h'' he' sb => ?_⟩
    have hT2 : h''.get? s.heap.objs.size = some { cls := .type "tuple", data := .seq #[.int i tk, y] } := (sb.2 _ (Nat.ne_of_gt hel)).trans hT
    have new : ObjOk X.prog X.w (upd H s.heap.objs.size (.tup [.int (i : Nat), x])) h'' s.heap.objs.size (.tup [.int (i : Nat), x]) :=
      ⟨by show (2 : Nat) ≤ sizeLine; decide, [.int i tk, y], .cons ⟨_, rfl⟩ (.cons ru .nil), ⟨_, hT2, rfl, _, rfl⟩⟩
    have I1 : Inv X pins σ (upd H s.heap.objs.size (.tup [.int (i : Nat), x])) { s with heap := h'', toks := tk + 1 } :=
      I.turnedNew (ch := [e, it]) (fun b ob hb q => (sb.2 b (fun z => hb (by rw [z]; exact List.mem_cons_self))).trans (hk b ob (fun z => hb (by rw [z]; exact List.mem_cons_self)) (fun z => hb (by rw [z]; exact List.mem_cons_of_mem _ List.mem_cons_self)) q)) hf (Nat.le_refl _) new
    obtain ⟨oi, ho1, ho2, ho3⟩ := hst.1
    refine ⟨.ref s.heap.objs.size, _, I1, rfl, ⟨_, x, rfl, I.hok.fresh (Nat.le_refl _), rfl, fun ys hy => by rw [I.tuple_inj hy hq]; exact hx⟩, ⟨⟨y, ?_⟩, ⟨oi, (sb.2 it (Ne.symm hne)).trans ho1, ho2, ho3⟩, hne⟩, fun b hb => ?_⟩
    · rw [show ((i + 1 : Nat) : Int) = (i : Int) + 1 by omega]
      exact he'
    · have hb' : b < s.heap.objs.size := by
        rcases List.mem_cons.mp hb with rfl | hb
        · exact hel
        · rw [List.mem_singleton.mp hb]; exact hil
      rw [upd_ne (Nat.ne_of_lt hb')]
      exact (hf b hb).1
  done := by
    intro X hP hw hK hc i pins s σ H E I hf ⟨⟨old, he⟩, hit, hne⟩ ⟨xs, hq, hx⟩
    subst hP hw hK
    obtain ⟨its, rv, tpl, hz⟩ := I.tuple hq
    obtain ⟨f0, f1, f2, f3, f4, f5⟩ := hf it (List.mem_cons_of_mem _ List.mem_cons_self)
    have hai : a ≠ it := fun z => by
      obtain ⟨o1, e1, c1, _⟩ := tpl
      obtain ⟨o2, e2, c2, _⟩ := hit
      rw [z, e2] at e1
      cases e1
      rw [c2] at c1
      exact absurd (Value.type.inj c1) (by decide)
    have hl := rv.length
    have DD : Draws X.prog X.w X.A.in1 it [it, a] i (fun _ _ => False) (fun j h => j = i ∧ h.IsTupleIter it a i ∧ h.IsTuple a its.toArray) :=
      ⟨fun _ _ st => let ⟨o, ho, _⟩ := st.2.1; ⟨o, ho⟩, fun _ h h' st k => ⟨st.1, let ⟨o, ho, r⟩ := st.2.1; ⟨o, k it List.mem_cons_self o ho, r⟩, let ⟨o, ho, r⟩ := st.2.2; ⟨o, k a (List.mem_cons_of_mem _ List.mem_cons_self) o ho, r⟩⟩,
        fun j z Q E hj st _ => absurd st.1 (Nat.ne_of_lt hj), fun z Q E st hE => wpAny_nextOf_tuple_end (show X.A.in1.handled = none from I.ok.hd hc) st.2.1 st.2.2 (by simp; omega) hE⟩
    exact wpAny_pyNext_enum_endD DD he ⟨rfl, hit, tpl⟩ fun g eb => ⟨rfl, I.turned (t' := s.toks) (fun b o hb q => eb b o hb q) f0 f1 f3 f4 f5⟩
  self := fun A i s Q E ⟨⟨_, he⟩, _⟩ h => wpAny_pyIter_enum he h
/-- enumerate of a list or a tuple -/
def iEnumLT (K : PySem.W.Frag) (ta : TA) : TI := fun σ H R => ta σ H fun vs H1 => ∃ a xs, vs = [.ref a] ∧ ((SqL K H1 a xs ∧ R (Ite K a) H1) ∨ (SqT K H1 a xs ∧ R (IteT K a) H1))
theorem pi_enumLT {X : Cx} {e : Expr} {ta : TA} {p pos tpos : Pos} {elts : List Expr} {kk : Nat} (hg : Gl X "enumerate") (hm : X.mg "enumerate" = none) (ha : PA X [e] ta) (hs : starEach [e] X.env = [(false, eval e X.env)]) :
    PI X (.Tuple elts kk tpos) (.Call (.Name "enumerate" p) [e] [] pos) (iEnumLT X.K ta) := by
  refine ⟨fun ps z τ H0 R J hr => ?_⟩
  refine Call_ (ld_blt J hg hm boot_enumerate (PyProof.Rows.callWith_type1 (thn (ha.run pos ps z τ H0 _ J hr) fun us z1 ⟨vs, H1, J1, r1, a, xs, ev, q⟩ => ?_) hs rfl))
  subst ev
  have eu : us = [.ref a] := by
    cases r1 with
    | cons r rr => cases rr; cases r; rfl
  subst eu
  have fresh : ∀ b, z1.heap.objs.size ≤ b → FpOk X ps H1 b := fun b hb => J1.fpOk hb (J1.hok.fresh hb)
  have two : ∀ b ∈ [z1.heap.objs.size + 1, z1.heap.objs.size], FpOk X ps H1 b := fun b hb => by
    rcases List.mem_cons.mp hb with rfl | hb
    · exact fresh _ (Nat.le_succ _)
    · rw [List.mem_singleton.mp hb]; exact fresh _ (Nat.le_refl _)
  rcases q with ⟨hq, q⟩ | ⟨hq, q⟩
  · obtain ⟨its, rv, pl, hz⟩ := J1.list hq
    refine call_enumerate_list pl.isList fun g he hit hsz hk => wpAny_pyIter_enum he ?_
    exact ⟨z1.heap.objs.size + 1, [z1.heap.objs.size + 1, z1.heap.objs.size], _, _, H1, rfl, J1.kept (t' := z1.toks) hk, turn_enum a (z1.heap.objs.size + 1) z1.heap.objs.size, ⟨⟨.none, he⟩, hit, Nat.succ_ne_self _⟩, two, q⟩
  · obtain ⟨its, rv, pl, hz⟩ := J1.tuple hq
    refine enum_tuple pl fun g he hit hk => wpAny_pyIter_enum he ?_
    exact ⟨z1.heap.objs.size + 1, [z1.heap.objs.size + 1, z1.heap.objs.size], _, _, H1, rfl, J1.kept (t' := z1.toks) hk, turn_enumT a (z1.heap.objs.size + 1) z1.heap.objs.size, ⟨⟨.none, he⟩, hit, Nat.succ_ne_self _⟩, two, q⟩
end DN
end

section
set_option maxRecDepth 100000
set_option maxHeartbeats 4000000
/-! DL1: a small language over plain data: its programs, and what they compute. -/
namespace DL
open PySem

/-- plain data -/
inductive D where
  | non | bl (b : Bool) | int (i : Int) | str (s : Str)
  | tup (ds : List D) | lst (ds : List D) | dct (kvs : List (D × D)) | ref (n : Nat) | scr (ns : List Int) | rng (j : Int)
/-- what a thing that changes holds -/
inductive MO where
  | lst (ds : List D) | dct (kvs : List (D × D)) | ins (c : String) (fs : List (Str × D))
def MO.tree : MO → D
  | .lst ds => .lst ds
  | .dct kvs => .dct kvs
  | .ins _ _ => .non
/-- a slot: nothing known, a value, a thing that this slot alone knows -/
inductive Sl where
  | non | val (d : D) | own (m : MO)
structure S where
  env : List Sl
  mem : List MO
abbrev XC := String × List D
inductive Out (τ α : Type) where
  | ok (a : α) (t : τ) | exc (x : XC) (t : τ) | bad
namespace Out
def bind {τ α β : Type} (o : Out τ α) (f : α → τ → Out τ β) : Out τ β :=
  match o with
  | ok a t => f a t
  | exc x t => exc x t
  | bad => bad
/-- it comes to an end, and Q holds then -/
def WP {τ α : Type} (o : Out τ α) (Q : α → τ → Prop) : Prop :=
  match o with
  | ok a t => Q a t
  | _ => False
def ofOpt {τ α : Type} (o : Option α) (t : τ) : Out τ α :=
  match o with
  | some a => ok a t
  | none => bad
end Out
/-- where a value lies: in a slot (read when it is used), or it is data -/
inductive Pl where
  | slot (i : Nat) | d (d : D)
inductive Rz where
  | pl (p : Pl) | mo (m : MO)

inductive BOp where
  | add | sub | mul | fdiv | mod | pow
  deriving DecidableEq
inductive COp where
  | lt | le | gt | ge | eq | ne | is | isnot | in_ | notin
  deriving DecidableEq
inductive Blt where
  | len | max2 | min2 | maxl | int | all | any | list | tuple | abs | sum | range | sorted
  deriving DecidableEq

mutual
inductive Tg where
  | name (i : Nat) | tup (ts : Tgs)
inductive Tgs where
  | nil | cons (t : Tg) (ts : Tgs)
end

mutual
inductive E where
  | var (i : Nat) | int (i : Int) | bl (b : Bool) | non | str (s : Str) | glob (x : Str) (d : D)
  | bin (op : BOp) (a b : E) | neg (a : E)
  | cmp (op : COp) (a b : E) | chain (op op2 : COp) (a b c : E)
  | bool (isAnd : Bool) (as : A) | not (a : E) | ite (c a b : E)
  | idx (a b : E) | slc (a lo hi : E) | hole
  | tup (as : A) | lst (as : A)
  | call (f : String) (as : A) | blt (b : Blt) (as : A)
  | lrg1 (a : E) | lrg2 (a b : E)
  | lc (own : List Nat) (t : Tg) (it : I) (ifs : A) (elt : E)
  | dc (own : List Nat) (t : Tg) (it : I) (ifs : A) (key elt : E)
  | gx (stop : Bool) (own : List Nat) (t : Tg) (it : I) (ifs : A) (elt : E)
  | gmax (own : List Nat) (t : Tg) (it : I) (ifs : A) (elt : E)
  | lc2 (own vs : List Nat) (t : Tg) (it : I) (ifs : A) (t1 : Tg) (it1 : I) (ifs1 : A) (elt : E)
  | kin (neg : Bool) (a : E) (y : Str) (kvs : List (D × D)) | kix (y : Str) (kvs : List (D × D)) (a : E) | kget (y : Str) (kvs : List (D × D)) (a b : E)
  | fld (cs : List String) (o : E) (f : Str) | meth (tab : List (String × String)) (o : E) (m : Str) (as : A) | new (c f : String) (as : A)
  | dnew | pop (o : E) | popAt (o i : E) | isi (a : E) (T : Str) | index (o x : E) | fresh (e : E) | trg1 (a : E)
inductive A where
  | nil | cons (a : E) (as : A)
inductive I where
  | seq (e : E) | rng1 (a : E) | rng2 (a b : E) | enum (e : E) | zip (a b : E) | rev (e : E) | rng3 (a b c : E)
end

def isHole : E → Bool
  | .hole => true
  | _ => false

inductive C where
  | skip | seq (a b : C)
  | asg (t : Tg) (e : E) | own (i : Nat) (e : E) | shr (i : Nat) (e : E) | par (i j : Nat) (a b : E)
  | aug (i : Nat) (op : BOp) (e : E) | put (o i e : E) | app (o e : E) | ext (i : Nat) (e : E)
  | iff (c : E) (a b : C) | whl (c : E) (b : C) | for (t : Tg) (it : I) (b : C)
  | ret (e : E) | retN | brk | cont | exp (e : E)
  | fst (cs : List String) (o : E) (f : Str) (e : E) | die | tryN (b : C)

inductive Fl where
  | nx | rt (d : D) | bk | ct

/-! ### data: what is read, compared, reckoned -/
def drf (s : S) (d : D) : D :=
  match d with
  | .ref n => match s.mem[n]? with
    | some (.lst ds) => .lst ds
    | some (.dct kvs) => .dct kvs
    | _ => .ref n
  | d => d
def view (s : S) : Pl → Option D
  | .slot i => match s.env[i]? with
    | some (.val d) => some (drf s d)
    | some (.own m) => some m.tree
    | _ => none
  | .d d => some (drf s d)

mutual
def D.pd : D → Option PyData
  | .non => some .none
  | .bl b => some (.bool b)
  | .int i => some (.int i)
  | .str x => some (.str x)
  | .tup ds => (D.pds ds).map PyData.tuple
  | .lst ds => (D.pds ds).map PyData.list
  | .dct _ => none
  | .ref _ => none
  | .scr _ => none
  | .rng _ => none
def D.pds : List D → Option (List PyData)
  | [] => some []
  | d :: ds => match d.pd, D.pds ds with
    | some x, some xs => some (x :: xs)
    | _, _ => none
end
mutual
/-- data as a key of a dict -/
def D.nk : D → Option NestedKey
  | .non => some .none
  | .bl b => some (.num (if b = true then 1 else 0))
  | .int i => some (.num i)
  | .str x => some (.text x)
  | .tup ds => (D.nks ds).map NestedKey.tup
  | .lst _ => none
  | .dct _ => none
  | .ref _ => none
  | .scr _ => none
  | .rng _ => none
def D.nks : List D → Option (List NestedKey)
  | [] => some []
  | d :: ds => match d.nk, D.nks ds with
    | some x, some xs => some (x :: xs)
    | _, _ => none
end
/-- a key of a dict: a whole number, a text, a tuple -/
def keyD (d : D) : Option NestedKey :=
  match d with
  | .int i => some (.num i)
  | .str x => some (.text x)
  | .tup ds => (D.nks ds).bind fun ks => if (NestedKey.tup ks).depth ≤ 8 then some (.tup ks) else none
  | _ => none
def isTupD : D → Bool
  | .tup _ => true
  | _ => false
/-- keys of one kind alone -/
def okK (kvs : List (D × D)) (d : D) : Bool :=
  match kvs with
  | [] => true
  | (e, _) :: _ => isTupD e == isTupD d
def lkD (kvs : List (D × D)) (k : NestedKey) : Option D := (kvs.find? fun p => decide (keyD p.1 = some k)).map (·.2)
def putD (kvs : List (D × D)) (k : NestedKey) (d v : D) : List (D × D) :=
  if (lkD kvs k).isSome then kvs.map (fun p => if keyD p.1 = some k then (p.1, v) else p) else kvs ++ [(d, v)]
def eqO (x y : D) : Option Bool :=
  match x.pd, y.pd with
  | some a, some b => if SeqAt.shaped a && SeqAt.shaped b then some (a.eqv b) else none
  | _, _ => none
def intsD : List D → Option (List Int)
  | [] => some []
  | .int i :: r => (intsD r).map (i :: ·)
  | _ => none
def blsD : List D → Option (List Bool)
  | [] => some []
  | .bl i :: r => (blsD r).map (i :: ·)
  | _ => none
def inO (x y : D) : Option Bool :=
  match y with
  | .lst ds => match x.pd, D.pds ds with
    | some a, some bs => if SeqAt.shaped a && SeqAt.shaped (.list bs) then some (bs.any fun z => z.eqv a) else none
    | _, _ => none
  | .tup ds => match x.pd, D.pds ds with
    | some a, some bs => if SeqAt.shaped a && SeqAt.shaped (.tuple bs) then some (bs.any fun z => z.eqv a) else none
    | _, _ => none
  | .str t => match x with
    | .str z => some (!(Builtin.Str.occurrences t z 0 t.length 1).isEmpty)
    | _ => none
  | .dct kvs => if okK kvs x then (keyD x).map fun k => (lkD kvs k).isSome else none
  | _ => none
def cmpO (op : COp) (x y : D) : Option Bool :=
  match op with
  | .lt => match x, y with
    | .int i, .int j => some (decide (i < j))
    | .tup a, .tup b => match intsD a, intsD b with
      | some ns, some ms => some (HT.lexLt ns ms)
      | _, _ => none
    | _, _ => none
  | .le => match x, y with
    | .int i, .int j => some (decide (i ≤ j))
    | _, _ => none
  | .gt => match x, y with
    | .int i, .int j => some (decide (j < i))
    | _, _ => none
  | .ge => match x, y with
    | .int i, .int j => some (decide (j ≤ i))
    | _, _ => none
  | .eq => eqO x y
  | .ne => (eqO x y).map (!·)
  | .is => match x, y with
    | .bl a, .bl b => some (decide (a = b))
    | .non, .non => some true
    | .bl _, .non => some false
    | .int _, .non => some false
    | .tup _, .non => some false
    | _, _ => none
  | .isnot => match x, y with
    | .bl a, .bl b => some (!decide (a = b))
    | .non, .non => some false
    | .bl _, .non => some true
    | .int _, .non => some true
    | .tup _, .non => some true
    | _, _ => none
  | .in_ => inO x y
  | .notin => (inO x y).map (!·)
def mulOk (i j : Int) : Bool := (decide (-(2 ^ 64) < i) && decide (i < 2 ^ 64)) || (decide (-(2 ^ 64) < j) && decide (j < 2 ^ 64))
def lim : Nat := 16777216
def binO (op : BOp) (x y : D) : Option Rz :=
  match op with
  | .add => match x, y with
    | .int i, .int j => some (.pl (.d (.int (i + j))))
    | .str a, .str b => if a.length + b.length ≤ lim then some (.pl (.d (.str (a ++ b)))) else none
    | .lst a, .lst b => if a.length + b.length ≤ lim then some (.mo (.lst (a ++ b))) else none
    | .tup a, .tup b => if a.length + b.length ≤ lim then some (.pl (.d (.tup (a ++ b)))) else none
    | _, _ => none
  | .sub => match x, y with
    | .int i, .int j => some (.pl (.d (.int (i - j))))
    | _, _ => none
  | .mul => match x, y with
    | .int i, .int j => if mulOk i j then some (.pl (.d (.int (i * j)))) else none
    | .lst a, .int j => if decide (0 ≤ j) && decide (j < 1000000) && decide (a.length * j.toNat ≤ lim) then some (.mo (.lst (List.replicate j.toNat a).flatten)) else none
    | .tup a, .int j => if decide (2 ≤ j) && decide (j ≤ 1000) && decide (a.length ≤ 1000) && !a.isEmpty then some (.pl (.d (.tup (List.replicate j.toNat a).flatten))) else none
    | _, _ => none
  | .fdiv => match x, y with
    | .int i, .int j => if decide (0 < j) && decide (j < 1073741824) then some (.pl (.d (.int (i / j)))) else none
    | _, _ => none
  | .mod => match x, y with
    | .int i, .int j => if decide (0 < j) then some (.pl (.d (.int (i % j)))) else none
    | _, _ => none
  | .pow => match x, y with
    | .int i, .int j => if decide (0 ≤ j) && decide (j ≤ 1000000) && decide (i.natAbs < 2 ^ 64) then some (.pl (.d (.int (i ^ j.toNat)))) else none
    | _, _ => none
def truO (x : D) : Option Bool :=
  match x with
  | .bl b => some b
  | .int i => some (i != 0)
  | .lst ds => some (!ds.isEmpty)
  | .tup ds => some (!ds.isEmpty)
  | _ => none
def idxO (x y : D) : Option D :=
  match x, y with
  | .lst ds, .int i => L2.atI ds i
  | .tup ds, .int i => L2.atI ds i
  | .scr ns, .int i => (L2.atI ns i).map D.int
  | .dct kvs, y => if okK kvs y then (keyD y).bind fun k => lkD kvs k else none
  | _, _ => none
def cutD (ds : List D) (lo hi : Option Int) : List D := (ds.drop (HT.sIx ds.length 0 lo)).take (HT.sIx ds.length ds.length hi - HT.sIx ds.length 0 lo)
def slcO (x : D) (lo hi : Option Int) : Option Rz :=
  match x with
  | .lst ds => some (.mo (.lst (cutD ds lo hi)))
  | .tup ds => some (.pl (.d (.tup (cutD ds lo hi))))
  | _ => none
def lenO (x : D) : Option Int :=
  match x with
  | .lst ds => some ds.length
  | .tup ds => some ds.length
  | .scr ns => some ns.length
  | .dct kvs => some kvs.length
  | _ => none
def maxI : List Int → Option Int
  | [] => none
  | x :: r => some (r.foldl max x)
def pairsD : List D → Option (List (Int × Int))
  | [] => some []
  | .tup [.int i, .int j] :: r => (pairsD r).map ((i, j) :: ·)
  | _ => none
def insQ (p : Int × Int) : List (Int × Int) → List (Int × Int)
  | [] => [p]
  | q :: r => if SrtO.lexB q p = true then q :: insQ p r else p :: q :: r
def srtP (l : List (Int × Int)) : List (Int × Int) := l.foldr insQ []
def encI2 (p : Int × Int) : D := .tup [.int p.1, .int p.2]
def bltO (b : Blt) (xs : List D) : Option Rz :=
  match b, xs with
  | .len, [x] => (lenO x).map fun n => .pl (.d (.int n))
  | .max2, [.int i, .int j] => some (.pl (.d (.int (if j > i then j else i))))
  | .min2, [.int i, .int j] => some (.pl (.d (.int (if j < i then j else i))))
  | .maxl, [.lst ds] => (intsD ds).bind fun ns => (maxI ns).map fun m => .pl (.d (.int m))
  | .int, [.int i] => some (.pl (.d (.int i)))
  | .int, [.bl b] => some (.pl (.d (.int (if b then 1 else 0))))
  | .all, [.lst ds] => (blsD ds).map fun bs => .pl (.d (.bl (bs.all id)))
  | .any, [.lst ds] => (blsD ds).map fun bs => .pl (.d (.bl (bs.any id)))
  | .list, [.lst ds] => some (.mo (.lst ds))
  | .list, [.tup ds] => some (.mo (.lst ds))
  | .list, [.scr ns] => some (.mo (.lst (ns.map D.int)))
  | .tuple, [.lst ds] => some (.pl (.d (.tup ds)))
  | .tuple, [.tup ds] => some (.pl (.d (.tup ds)))
  | .abs, [.int i] => some (.pl (.d (.int (if i < 0 then -i else i))))
  | .sum, [.lst ds] => (intsD ds).map fun ns => .pl (.d (.int ns.sum))
  | .range, [.int j] => some (.pl (.d (.rng j)))
  | .sorted, [.lst ds] => (pairsD ds).map fun ps => .mo (.lst ((srtP ps).map encI2))
  | _, _ => none

/-! ### running -/
def toP (r : Rz) : Pl := match r with
  | .pl p => p
  | .mo m => .d m.tree
/-- it is handed on: what a slot alone knew is data from now on -/
def esc (p : Pl) (s : S) : Out S D :=
  match p with
  | .d d => .ok d s
  | .slot i => match s.env[i]? with
    | some (.val d) => .ok d s
    | some (.own m) => .ok m.tree { s with env := s.env.set i (.val m.tree) }
    | _ => .bad
def escs : List Pl → S → Out S (List D)
  | [], s => .ok [] s
  | p :: ps, s => (esc p s).bind fun d s => (escs ps s).bind fun ds s => .ok (d :: ds) s
def views (s : S) : List Pl → Option (List D)
  | [] => some []
  | p :: ps => match view s p, views s ps with
    | some d, some ds => some (d :: ds)
    | _, _ => none
def onD (f : D → Option Rz) (p : Pl) (s : S) : Out S Rz := Out.ofOpt ((view s p).bind f) s
def onD2 (f : D → D → Option Rz) (p q : Pl) (s : S) : Out S Rz := Out.ofOpt ((view s p).bind fun x => (view s q).bind fun y => f x y) s
def isB (p : Pl) (s : S) : Out S Bool := Out.ofOpt ((view s p).bind fun x => match x with
  | .bl b => some b
  | _ => none) s
def isT (p : Pl) (s : S) : Out S Bool := Out.ofOpt ((view s p).bind truO) s
def isS (p : Pl) (s : S) : Out S Str := Out.ofOpt ((view s p).bind fun x => match x with
  | .str b => some b
  | _ => none) s
def isI (p : Pl) (s : S) : Out S Int := Out.ofOpt ((view s p).bind fun x => match x with
  | .int b => some b
  | _ => none) s

mutual
def asgT : Tg → D → S → Option S
  | .name i, d, s => some { s with env := s.env.set i (.val d) }
  | .tup ts, d, s => match d with
    | .tup ds => asgTs ts ds s
    | _ => none
def asgTs : Tgs → List D → S → Option S
  | .nil, ds, s => match ds with
    | [] => some s
    | _ => none
  | .cons t ts, ds, s => match ds with
    | [] => none
    | d :: ds => (asgT t d s).bind fun s => asgTs ts ds s
end
def wipeE (env : List Sl) : List Nat → List Sl
  | [] => env
  | v :: vs => (wipeE env vs).set v .non
def back (env0 env : List Sl) : List Nat → List Sl
  | [] => env
  | v :: vs => (back env0 env vs).set v (match env0[v]? with
    | some (.val d) => .val d
    | _ => .non)
def lcL (own : List Nat) (turn : D → S → Out S (Option D)) : List D → S → Out S (List D)
  | [], s => .ok [] s
  | d :: ds, s => (turn d { s with env := wipeE s.env own }).bind fun r s => (lcL own turn ds s).bind fun rs s => .ok (match r with
    | some x => x :: rs
    | none => rs) s
def llL (own : List Nat) (turn : D → S → Out S (List D)) : List D → S → Out S (List D)
  | [], s => .ok [] s
  | d :: ds, s => (turn d { s with env := wipeE s.env own }).bind fun r s => (llL own turn ds s).bind fun rs s => .ok (r ++ rs) s
def putKV (kvs : List (D × D)) (k d : D) : Option (List (D × D)) := if okK kvs k then (keyD k).bind fun n => if kvs.length < lim then some (putD kvs n k d) else none else none
def dcL (own : List Nat) (turn : D → S → Out S (Option (D × D))) : List D → List (D × D) → S → Out S (List (D × D))
  | [], kvs, s => .ok kvs s
  | d :: ds, kvs, s => (turn d { s with env := wipeE s.env own }).bind fun r s => match r with
    | some p => (Out.ofOpt (putKV kvs p.1 p.2) s).bind fun rs s => dcL own turn ds rs s
    | none => dcL own turn ds kvs s
def gxL (own : List Nat) (stop : Bool) (turn : D → S → Out S (Option Bool)) : List D → S → Out S Bool
  | [], s => .ok (!stop) s
  | d :: ds, s => (turn d { s with env := wipeE s.env own }).bind fun r s => match r with
    | some c => if c = stop then .ok stop s else gxL own stop turn ds s
    | none => gxL own stop turn ds s
def gmL (own : List Nat) (turn : D → S → Out S (Option Int)) : List D → Option Int → S → Out S Int
  | [], bo, s => Out.ofOpt bo s
  | d :: ds, bo, s => (turn d { s with env := wipeE s.env own }).bind fun r s => match r with
    | some c => gmL own turn ds (some (GM.mx bo c)) s
    | none => gmL own turn ds bo s
def rngD (lo : Int) (n : Nat) : List D := (List.range n).map fun k => D.int (lo + (k : Nat))
def rngC (lo : Int) (n : Nat) : List D := (List.range n).map fun k => D.int (lo + (k : Nat) * (-1))
def enumD : Nat → List D → List D
  | _, [] => []
  | k, d :: ds => .tup [.int k, d] :: enumD (k + 1) ds
def zipD : List D → List D → List D
  | d :: ds, e :: es => .tup [d, e] :: zipD ds es
  | _, _ => []
def small62 (i : Int) : Bool := decide (-(2 ^ 62) ≤ i) && decide (i < 2 ^ 62)
def seqD (d : D) : Option (List D) :=
  match d with
  | .lst ds => some ds
  | .tup ds => some ds
  | .rng j => if small62 j then some (rngD 0 j.toNat) else none
  | _ => none
def lstD (d : D) : Option (List D) :=
  match d with
  | .lst ds => some ds
  | _ => none
def lstT (d : D) : Option (List D) :=
  match d with
  | .lst ds => some ds
  | .tup ds => some ds
  | _ => none
def smallR (i j : Int) : Bool := small62 i && small62 j && decide ((j - i).toNat ≤ lim)
def isLst (p : Pl) (s : S) : Bool := match view s p with
  | some (.lst _) => true
  | _ => false
/-- a dict of the module, read -/
def lkS : List (D × D) → Str → Option D
  | [], _ => none
  | (.str y, d) :: r, z => if y = z then some d else lkS r z
  | (_, _) :: r, z => lkS r z
/-- isinstance -/
def tyD : D → Option Str
  | .non => some "NoneType"
  | .bl _ => some "bool"
  | .int _ => some "int"
  | .str _ => some "str"
  | .tup _ => some "tuple"
  | .lst _ => some "list"
  | _ => none
def isiO (T : Str) (x : D) : Option Bool := (tyD x).bind fun t => if t = T then some true else if T = ("bool" : Str) ∨ T = ("str" : Str) ∨ T = ("tuple" : Str) then some false else none
/-- a list without its last item, or its i-th -/
def cutL (ds : List D) (k : Option Int) : Option (D × List D) :=
  match k with
  | none => (ds[ds.length - 1]?).map fun d => (d, ds.dropLast)
  | some i => if ds.length ≤ lim then (L2.ixN ds.length i).bind fun j => (ds[j]?).map fun d => (d, ds.eraseIdx j) else none
def popM (n : Nat) (k : Option Int) (s : S) : Option (D × S) := match s.mem[n]? with
  | some (.lst ds) => (cutL ds k).map fun r => (r.1, { s with mem := s.mem.set n (.lst r.2) })
  | _ => none
def popO (p : Pl) (k : Option Int) (s : S) : Option (D × S) :=
  match p with
  | .d (.ref n) => popM n k s
  | .slot i => match s.env[i]? with
    | some (.own (.lst ds)) => (cutL ds k).map fun r => (r.1, { s with env := s.env.set i (.own (.lst r.2)) })
    | some (.val (.ref n)) => popM n k s
    | _ => none
  | _ => none
/-- the place of the first item that is equal -/
def idxD : List PyData → PyData → Option Nat
  | [], _ => none
  | z :: r, a => if z.eqv a then some 0 else (idxD r a).map (· + 1)
def indexO (y x : D) : Option Rz :=
  match y with
  | .lst ds => match x.pd, D.pds ds with
    | some a, some bs => if SeqAt.shaped a && SeqAt.shaped (.list bs) then (idxD bs a).map fun j => .pl (.d (.int (j : Nat))) else none
    | _, _ => none
  | _ => none
/-- the thing of the store that it stands for -/
def refP (p : Pl) (s : S) : Option Nat :=
  match p with
  | .d (.ref n) => some n
  | .slot i => match s.env[i]? with
    | some (.val (.ref n)) => some n
    | _ => none
  | _ => none
/-- an instance: its class, its fields -/
def insP (p : Pl) (s : S) : Option (Nat × String × List (Str × D)) := (refP p s).bind fun n => match s.mem[n]? with
  | some (.ins c fs) => some (n, c, fs)
  | _ => none
def fldO (cs : List String) (f : Str) (p : Pl) (s : S) : Option D := (insP p s).bind fun q => if cs.contains q.2.1 then q.2.2.lookup f else none
/-- the def that an instance's method is -/
def metO (tab : List (String × String)) (m : Str) (p : Pl) (s : S) : Option (Nat × String) := (insP p s).bind fun q => match q.2.2.lookup m with
  | none => (tab.lookup q.2.1).map fun f => (q.1, f)
  | some _ => none
def putFD (f : Str) (v : D) : List (Str × D) → List (Str × D)
  | [] => [(f, v)]
  | (g, x) :: r => if g = f then (g, v) :: r else (g, x) :: putFD f v r
def fstO (cs : List String) (f : Str) (d : D) (p : Pl) (s : S) : Option S := (insP p s).bind fun q => if cs.contains q.2.1 && decide (q.2.2.length < 1000) then some { s with mem := s.mem.set q.1 (.ins q.2.1 (putFD f d q.2.2)) } else none
abbrev CF := String → List D → List MO → Out (List MO) D
def inMem (env : List Sl) {α : Type} (o : Out (List MO) α) : Out S α :=
  match o with
  | .ok a m => .ok a ⟨env, m⟩
  | .exc x m => .exc x ⟨env, m⟩
  | .bad => .bad
mutual
def evR (cf : CF) : E → S → Out S Rz
  | .var i, s => match s.env[i]? with
    | some (.val _) => .ok (.pl (.slot i)) s
    | some (.own _) => .ok (.pl (.slot i)) s
    | _ => .bad
  | .int i, s => .ok (.pl (.d (.int i))) s
  | .bl b, s => .ok (.pl (.d (.bl b))) s
  | .non, s => .ok (.pl (.d .non)) s
  | .str x, s => .ok (.pl (.d (.str x))) s
  | .glob _ d, s => .ok (.pl (.d d)) s
  | .bin op a b, s => (evR cf a s).bind fun p s => (evR cf b s).bind fun q s => onD2 (binO op) (toP p) (toP q) s
  | .neg a, s => (evR cf a s).bind fun p s => (isI (toP p) s).bind fun i s => .ok (.pl (.d (.int (-i)))) s
  | .cmp op a b, s => (evR cf a s).bind fun p s => (evR cf b s).bind fun q s => onD2 (fun x y => (cmpO op x y).map fun k => .pl (.d (.bl k))) (toP p) (toP q) s
  | .chain op op2 a b c, s => (evR cf a s).bind fun p s => (evR cf b s).bind fun q s => (onD2 (fun x y => (cmpO op x y).map fun k => .pl (.d (.bl k))) (toP p) (toP q) s).bind fun k s =>
      (isB (toP k) s).bind fun k s => if k then (evR cf c s).bind fun r s => onD2 (fun x y => (cmpO op2 x y).map fun k => .pl (.d (.bl k))) (toP q) (toP r) s else .ok (.pl (.d (.bl false))) s
  | .bool w as, s => evB cf w as s
  | .not a, s => (evR cf a s).bind fun p s => (isT (toP p) s).bind fun k s => .ok (.pl (.d (.bl (!k)))) s
  | .ite c a b, s => (evR cf c s).bind fun p s => (isT (toP p) s).bind fun k s => if k then evR cf a s else evR cf b s
  | .idx a b, s => (evR cf a s).bind fun p s => (evR cf b s).bind fun q s => onD2 (fun x y => (idxO x y).map fun d => .pl (.d d)) (toP p) (toP q) s
  | .slc a lo hi, s => (evR cf a s).bind fun p s => (if isHole lo then .ok none s else (evR cf lo s).bind fun l s => (isI (toP l) s).bind fun i s => .ok (some i) s).bind fun l s =>
      (if isHole hi then .ok none s else (evR cf hi s).bind fun l s => (isI (toP l) s).bind fun i s => .ok (some i) s).bind fun h s => onD (fun x => slcO x l h) (toP p) s
  | .hole, _ => .bad
  | .tup as, s => (evA cf as s).bind fun ps s => (escs ps s).bind fun ds s => if ds.length ≤ lim then .ok (.pl (.d (.tup ds))) s else .bad
  | .lst as, s => (evA cf as s).bind fun ps s => (escs ps s).bind fun ds s => if ds.length ≤ lim then .ok (.mo (.lst ds)) s else .bad
  | .call f as, s => (evA cf as s).bind fun ps s => (escs ps s).bind fun ds s => (inMem s.env (cf f ds s.mem)).bind fun d s => .ok (.pl (.d d)) s
  | .blt b as, s => (evA cf as s).bind fun ps s => Out.ofOpt ((views s ps).bind (bltO b)) s
  | .lrg1 a, s => (evR cf a s).bind fun p s => (isI (toP p) s).bind fun j s => if smallR 0 j then .ok (.mo (.lst (rngD 0 j.toNat))) s else .bad
  | .lrg2 a b, s => (evR cf a s).bind fun p s => (evR cf b s).bind fun q s => (isI (toP p) s).bind fun i s => (isI (toP q) s).bind fun j s => if smallR i j then .ok (.mo (.lst (rngD i (j - i).toNat))) s else .bad
  | .lc own t it ifs elt, s => (evI cf it s).bind fun ds s => if ds.length ≤ lim then (lcL own (fun d s => (Out.ofOpt (asgT t d s) s).bind fun s _ => (evC cf ifs s).bind fun k s =>
      if k then (evR cf elt s).bind fun r s => (esc (toP r) s).bind fun d s => .ok (some d) s else .ok none s) ds s).bind fun rs s1 => .ok (.mo (.lst rs)) { s1 with env := back s.env s1.env own } else .bad
  | .dc own t it ifs key elt, s => (evI cf it s).bind fun ds s => (dcL own (fun d s => (Out.ofOpt (asgT t d s) s).bind fun s _ => (evC cf ifs s).bind fun k s =>
      if k then (evR cf key s).bind fun r s => (esc (toP r) s).bind fun d s => (evR cf elt s).bind fun r s => (esc (toP r) s).bind fun e s => .ok (some (d, e)) s else .ok none s) ds [] s).bind fun rs s1 => .ok (.mo (.dct rs)) { s1 with env := back s.env s1.env own }
  | .gx stop own t it ifs elt, s => (evI cf it s).bind fun ds s => (gxL own stop (fun d s => (Out.ofOpt (asgT t d s) s).bind fun s _ => (evC cf ifs s).bind fun k s =>
      if k then (evR cf elt s).bind fun r s => (isB (toP r) s).bind fun b s => .ok (some b) s else .ok none s) ds s).bind fun b s1 => .ok (.pl (.d (.bl b))) { s1 with env := back s.env s1.env own }
  | .lc2 own vs t it ifs t1 it1 ifs1 elt, s => (evI cf it s).bind fun ds s => if ds.length ≤ 4000 then (llL own (fun d s => (Out.ofOpt (asgT t d s) s).bind fun s _ => (evC cf ifs s).bind fun k s =>
      if k then (evI cf it1 s).bind fun ds1 s => if ds1.length ≤ 4000 then lcL vs (fun d s => (Out.ofOpt (asgT t1 d s) s).bind fun s _ => (evC cf ifs1 s).bind fun k s =>
        if k then (evR cf elt s).bind fun r s => (esc (toP r) s).bind fun d s => .ok (some d) s else .ok none s) ds1 s else .bad else .ok [] s) ds s).bind fun rs s1 => .ok (.mo (.lst rs)) { s1 with env := back s.env s1.env own } else .bad
  | .gmax own t it ifs elt, s => (evI cf it s).bind fun ds s => (gmL own (fun d s => (Out.ofOpt (asgT t d s) s).bind fun s _ => (evC cf ifs s).bind fun k s =>
      if k then (evR cf elt s).bind fun r s => (isI (toP r) s).bind fun b s => .ok (some b) s else .ok none s) ds none s).bind fun b s1 => .ok (.pl (.d (.int b))) { s1 with env := back s.env s1.env own }
  | .kin neg a _ kvs, s => (evR cf a s).bind fun p s => (isS (toP p) s).bind fun z s => .ok (.pl (.d (.bl ((lkS kvs z).isSome != neg)))) s
  | .kix _ kvs a, s => (evR cf a s).bind fun p s => (isS (toP p) s).bind fun z s => Out.ofOpt ((lkS kvs z).map fun d => .pl (.d d)) s
  | .kget _ kvs a b, s => (evR cf a s).bind fun p s => (isS (toP p) s).bind fun z s => (evR cf b s).bind fun r s => .ok (match lkS kvs z with
    | some d => .pl (.d d)
    | none => r) s
  | .fld cs o f, s => (evR cf o s).bind fun p s => (Out.ofOpt (fldO cs f (toP p) s) s).bind fun d s => .ok (.pl (.d d)) s
  | .meth tab o m as, s => (evR cf o s).bind fun p s => (Out.ofOpt (metO tab m (toP p) s) s).bind fun q s => (evA cf as s).bind fun ps s => (escs ps s).bind fun ds s =>
      (inMem s.env (cf q.2 (.ref q.1 :: ds) s.mem)).bind fun d s => .ok (.pl (.d d)) s
  | .new c f as, s => (evA cf as s).bind fun ps s => (escs ps s).bind fun ds s => (inMem s.env (cf f (.ref s.mem.length :: ds) (s.mem ++ [.ins c []]))).bind fun d s1 => match d with
    | .non => .ok (.pl (.d (.ref s.mem.length))) s1
    | _ => .bad
  | .dnew, s => .ok (.mo (.dct [])) s
  | .trg1 a, s => (evR cf a s).bind fun p s => (isI (toP p) s).bind fun j s => if smallR 0 j then .ok (.pl (.d (.tup (rngD 0 j.toNat)))) s else .bad
  | .pop o, s => (evR cf o s).bind fun p s => if isLst (toP p) s then (Out.ofOpt (popO (toP p) none s) s).bind fun r _ => .ok (.pl (.d r.1)) r.2 else .bad
  | .popAt o i, s => (evR cf o s).bind fun p s => if isLst (toP p) s then (evR cf i s).bind fun q s => (isI (toP q) s).bind fun k s => (Out.ofOpt (popO (toP p) (some k) s) s).bind fun r _ => .ok (.pl (.d r.1)) r.2 else .bad
  | .isi a T, s => (evR cf a s).bind fun p s => Out.ofOpt ((view s (toP p)).bind fun x => (isiO T x).map fun b => .pl (.d (.bl b))) s
  | .fresh e, s => (evR cf e s).bind fun r s => match r with
    | .mo m => .ok (.pl (.d (.ref s.mem.length))) ⟨s.env, s.mem ++ [m]⟩
    | _ => .bad
  | .index o x, s => (evR cf o s).bind fun p s => if isLst (toP p) s then (evR cf x s).bind fun q s => onD2 indexO (toP p) (toP q) s else .bad
termination_by structural x => x
def evA (cf : CF) : A → S → Out S (List Pl)
  | .nil, s => .ok [] s
  | .cons a as, s => (evR cf a s).bind fun p s => (evA cf as s).bind fun ps s => .ok (toP p :: ps) s
termination_by structural x => x
def evB (cf : CF) (w : Bool) : A → S → Out S Rz
  | .nil, _ => .bad
  | .cons a .nil, s => evR cf a s
  | .cons a (.cons b as), s => (evR cf a s).bind fun p s => (isB (toP p) s).bind fun k s => if k == w then evB cf w (.cons b as) s else .ok (.pl (.d (.bl k))) s
termination_by structural x => x
def evC (cf : CF) : A → S → Out S Bool
  | .nil, s => .ok true s
  | .cons a .nil, s => (evR cf a s).bind fun p s => isT (toP p) s
  | .cons _ (.cons _ _), _ => .bad
termination_by structural x => x
def evI (cf : CF) : I → S → Out S (List D)
  | .seq e, s => (evR cf e s).bind fun p s => (esc (toP p) s).bind fun d s => Out.ofOpt (seqD d) s
  | .rng1 a, s => (evR cf a s).bind fun p s => (isI (toP p) s).bind fun j s => if small62 j then .ok (rngD 0 j.toNat) s else .bad
  | .rng2 a b, s => (evR cf a s).bind fun p s => (evR cf b s).bind fun q s => (isI (toP p) s).bind fun i s => (isI (toP q) s).bind fun j s => if small62 i && small62 j then .ok (rngD i (j - i).toNat) s else .bad
  | .enum e, s => (evR cf e s).bind fun p s => (esc (toP p) s).bind fun d s => Out.ofOpt ((lstT d).map (enumD 0)) s
  | .zip a b, s => (evR cf a s).bind fun p s => (evR cf b s).bind fun q s => (esc (toP p) s).bind fun d s => (esc (toP q) s).bind fun e s => Out.ofOpt ((lstD d).bind fun ds => (lstD e).map fun es => zipD ds es) s
  | .rev e, s => (evR cf e s).bind fun p s => (esc (toP p) s).bind fun d s => Out.ofOpt ((lstD d).map List.reverse) s
  | .rng3 a b c, s => (evR cf a s).bind fun p s => (evR cf b s).bind fun q s => (evR cf c s).bind fun r s => (isI (toP p) s).bind fun i s => (isI (toP q) s).bind fun j s => (isI (toP r) s).bind fun k s => if small62 i && small62 j && decide (k = -1) then .ok (rngC i (i - j).toNat) s else .bad
termination_by structural x => x
end
example (cf : CF) (i : Int) (s : S) : evR cf (.int i) s = .ok (.pl (.d (.int i))) s := rfl

def forL (turn : D → S → Out S Fl) : List D → S → Out S Fl
  | [], s => .ok .nx s
  | d :: ds, s => (turn d s).bind fun f s => match f with
    | .nx => forL turn ds s
    | .ct => forL turn ds s
    | .bk => .ok .nx s
    | .rt v => .ok (.rt v) s
def whlL (c : S → Out S Bool) (b : S → Out S Fl) : Nat → S → Out S Fl
  | 0, _ => .bad
  | n + 1, s => (c s).bind fun k s => if k then (b s).bind fun f s => match f with
    | .nx => whlL c b n s
    | .ct => whlL c b n s
    | .bk => .ok .nx s
    | .rt v => .ok (.rt v) s else .ok .nx s
/-- the most turns of a while -/
def turns : Nat := 1000000000
/-- o.append(d): in a slot, or in the store -/
def appM (n : Nat) (d : D) (s : S) : Option S := match s.mem[n]? with
  | some (.lst ds) => if ds.length < lim then some { s with mem := s.mem.set n (.lst (ds ++ [d])) } else none
  | _ => none
def appO (p : Pl) (d : D) (s : S) : Option S :=
  match p with
  | .d (.ref n) => appM n d s
  | .slot i => match s.env[i]? with
    | some (.own (.lst ds)) => if ds.length < lim then some { s with env := s.env.set i (.own (.lst (ds ++ [d]))) } else none
    | some (.val (.ref n)) => appM n d s
    | _ => none
  | _ => none
/-- kvs[k] = d -/
def putM (n : Nat) (k d : D) (s : S) : Option S := match s.mem[n]? with
  | some (.lst ds) => match k with
    | .int i => (L2.ixN ds.length i).map fun j => { s with mem := s.mem.set n (.lst (ds.set j d)) }
    | _ => none
  | some (.dct kvs) => (putKV kvs k d).map fun r => { s with mem := s.mem.set n (.dct r) }
  | _ => none
def putO (p : Pl) (k d : D) (s : S) : Option S :=
  match p with
  | .d (.ref n) => putM n k d s
  | .slot i => match s.env[i]? with
    | some (.own (.lst ds)) => match k with
      | .int j => (L2.ixN ds.length j).map fun j => { s with env := s.env.set i (.own (.lst (ds.set j d))) }
      | _ => none
    | some (.own (.dct kvs)) => (putKV kvs k d).map fun r => { s with env := s.env.set i (.own (.dct r)) }
    | some (.val (.ref n)) => putM n k d s
    | _ => none
  | _ => none
def augO (op : BOp) (x y : D) : Option D :=
  match op, x, y with
  | .add, .int i, .int j => some (.int (i + j))
  | .sub, .int i, .int j => some (.int (i - j))
  | .mul, .int i, .int j => if mulOk i j then some (.int (i * j)) else none
  | .fdiv, .int i, .int j => if decide (0 < j) && decide (j < 1073741824) then some (.int (i / j)) else none
  | .mod, .int i, .int j => if decide (0 < j) then some (.int (i % j)) else none
  | .add, .str a, .str b => if a.length + b.length ≤ lim then some (.str (a ++ b)) else none
  | _, _, _ => none
def extO (i : Nat) (d : D) (s : S) : Option S :=
  match s.env[i]?, d with
  | some (.own (.lst ds)), .lst es => if ds.length + es.length ≤ lim then some { s with env := s.env.set i (.own (.lst (ds ++ es))) } else none
  | _, _ => none
def ex (cf : CF) : C → S → Out S Fl
  | .skip, s => .ok .nx s
  | .seq a b, s => (ex cf a s).bind fun f s => match f with
    | .nx => ex cf b s
    | f => .ok f s
  | .asg t e, s => (evR cf e s).bind fun r s => (esc (toP r) s).bind fun d s => (Out.ofOpt (asgT t d s) s).bind fun s _ => .ok .nx s
  | .own i e, s => (evR cf e s).bind fun r s => match r with
    | .mo m => .ok .nx { s with env := s.env.set i (.own m) }
    | _ => .bad
  | .shr i e, s => (evR cf e s).bind fun r s => match r with
    | .mo m => .ok .nx ⟨s.env.set i (.val (.ref s.mem.length)), s.mem ++ [m]⟩
    | _ => .bad
  | .par i j a b, s => (evR cf a s).bind fun p s => (evR cf b s).bind fun q s => (esc (toP p) s).bind fun d s => (esc (toP q) s).bind fun e s => .ok .nx { s with env := (s.env.set i (.val d)).set j (.val e) }
  | .aug i op e, s => match s.env[i]? with
    | some (.val x) => (evR cf e s).bind fun q s => (Out.ofOpt ((view s (toP q)).bind fun y => augO op x y) s).bind fun d s => .ok .nx { s with env := s.env.set i (.val d) }
    | _ => .bad
  | .put o i e, s => (evR cf e s).bind fun r s => (esc (toP r) s).bind fun d s => (evR cf o s).bind fun p s => (evR cf i s).bind fun q s => (esc (toP q) s).bind fun k s =>
      (Out.ofOpt (putO (toP p) k d s) s).bind fun s _ => .ok .nx s
  | .app o e, s => (evR cf o s).bind fun p s => if isLst (toP p) s then (evR cf e s).bind fun r s => (esc (toP r) s).bind fun d s => (Out.ofOpt (appO (toP p) d s) s).bind fun s _ => .ok .nx s else .bad
  | .ext i e, s => match s.env[i]? with
    | some (.own _) => (evR cf e s).bind fun r s => (esc (toP r) s).bind fun d s => (Out.ofOpt (extO i d s) s).bind fun s _ => .ok .nx s
    | _ => .bad
  | .iff c a b, s => (evR cf c s).bind fun p s => (isT (toP p) s).bind fun k s => if k then ex cf a s else ex cf b s
  | .whl c b, s => whlL (fun s => (evR cf c s).bind fun p s => isT (toP p) s) (ex cf b) turns s
  | .for t it b, s => (evI cf it s).bind fun ds s => forL (fun d s => (Out.ofOpt (asgT t d s) s).bind fun s _ => ex cf b s) ds s
  | .ret e, s => (evR cf e s).bind fun r s => (esc (toP r) s).bind fun d s => .ok (.rt d) s
  | .retN, s => .ok (.rt .non) s
  | .brk, s => .ok .bk s
  | .cont, s => .ok .ct s
  | .exp e, s => (evR cf e s).bind fun _ s => .ok .nx s
  | .fst cs o f e, s => (evR cf e s).bind fun r s => (esc (toP r) s).bind fun d s => (evR cf o s).bind fun p s => (Out.ofOpt (fstO cs f d (toP p) s) s).bind fun s _ => .ok .nx s
  | .die, _ => .bad
  | .tryN b, s => ex cf b s
termination_by structural x => x

/-- a def: its parameters' number, its names (parameters first), its body -/
structure FD where
  np : Nat
  names : List Str
  body : C
def run (T : String → Option FD) : Nat → CF
  | 0, _, _, _ => .bad
  | n + 1, f, ds, m => match T f with
    | some fd => if ds.length = fd.np then match ex (run T n) fd.body ⟨ds.map Sl.val ++ List.replicate (fd.names.length - ds.length) .non, m⟩ with
      | .ok (.rt d) s => .ok d s.mem
      | .ok .nx s => .ok .non s.mem
      | .exc x s => .exc x s.mem
      | _ => .bad else .bad
    | none => .bad
end DL
end

section
set_option maxRecDepth 100000
set_option maxHeartbeats 4000000
/-! DL2: how the language's data lie in the abstract heap. -/
namespace DL
open PySem PySem.Spec PyProof.Rows L2

theorem WP_bind {τ α β : Type} (o : Out τ α) (f : α → τ → Out τ β) (Q : β → τ → Prop) : (o.bind f).WP Q = o.WP fun a t => (f a t).WP Q := by
  cases o <;> rfl
theorem WP_ok {τ α : Type} (a : α) (t : τ) (Q : α → τ → Prop) : (Out.ok a t).WP Q = Q a t := rfl
theorem WP.mono {τ α : Type} {o : Out τ α} {Q Q' : α → τ → Prop} (h : o.WP Q) (f : ∀ a t, Q a t → Q' a t) : o.WP Q' := by
  cases o with
  | ok a t => exact f a t h
  | exc x t => exact h
  | bad => exact h
theorem WP_opt {τ α : Type} {o : Option α} {t : τ} {Q : α → τ → Prop} (h : (Out.ofOpt o t).WP Q) : ∃ a, o = some a ∧ Q a t := by
  cases o with
  | none => exact h.elim
  | some a => exact ⟨a, rfl, h⟩

theorem SqT.mono {K : PySem.W.Frag} {H H' : Hp} {a : Addr} {xs : List V} (e : Same H H') (h : SqT K H a xs) : SqT K H' a xs := by
  rcases h with (h | ⟨o, h⟩) | h
  · exact .inl (.inl (e _ _ h))
  · exact .inl (.inr ⟨o, e _ _ h⟩)
  · exact .inr h

/-- where the defs' tables lie; the world -/
class TBs where
  tb : List Addr
  w : World
  /-- where the classes lie -/
  ca : String → Addr
variable [TBs]
mutual
inductive Rp (K : PySem.W.Frag) (F : Hp) (ρ : List Addr) : V → D → Prop
  | non : Rp K F ρ .non .non
  | bl (b : Bool) : Rp K F ρ (.bl b) (.bl b)
  | int (i : Int) : Rp K F ρ (.int i) (.int i)
  | str (x : Str) : Rp K F ρ (.str x) (.str x)
  | lst {a : Addr} {xs : List V} {ds : List D} : F a = some (.lst xs) → RpAll K F ρ xs ds → Rp K F ρ (.ref a) (.lst ds)
  | tup {a : Addr} {xs : List V} {ds : List D} : SqT K F a xs → RpAll K F ρ xs ds → Rp K F ρ (.ref a) (.tup ds)
  | ref {a : Addr} {n : Nat} : ρ[n]? = some a → Rp K F ρ (.ref a) (.ref n)
  | scr {a : Addr} {ns : List Int} : SqL K F a (ns.map V.int) → Rp K F ρ (.ref a) (.scr ns)
  | rng {a : Addr} {j : Int} : F a = some (.rng 0 j) → Rp K F ρ (.ref a) (.rng j)
  | dctK {a : Addr} {ks : List (Key × V)} {kvs : List (D × D)} : F a = some (.dK ks) → RpKs K F ρ ks kvs → Rp K F ρ (.ref a) (.dct kvs)
  | dctT {a : Addr} {qs : List DX.Row} {kvs : List (D × D)} : kvs ≠ [] → F a = some (DX.TDO TBs.w a qs) → RpTs K F ρ qs kvs → Rp K F ρ (.ref a) (.dct kvs)
inductive RpAll (K : PySem.W.Frag) (F : Hp) (ρ : List Addr) : List V → List D → Prop
  | nil : RpAll K F ρ [] []
  | cons {v : V} {vs : List V} {d : D} {ds : List D} : Rp K F ρ v d → RpAll K F ρ vs ds → RpAll K F ρ (v :: vs) (d :: ds)
inductive RpKs (K : PySem.W.Frag) (F : Hp) (ρ : List Addr) : List (Key × V) → List (D × D) → Prop
  | nil : RpKs K F ρ [] []
  | cons {k : Key} {v : V} {vs : List (Key × V)} {d e : D} {ds : List (D × D)} : Rp K F ρ (kV k) d → Rp K F ρ v e → RpKs K F ρ vs ds → RpKs K F ρ ((k, v) :: vs) ((d, e) :: ds)
inductive RpTs (K : PySem.W.Frag) (F : Hp) (ρ : List Addr) : List DX.Row → List (D × D) → Prop
  | nil : RpTs K F ρ [] []
  | cons {k : NestedKey} {b : Addr} {v : V} {vs : List DX.Row} {d e : D} {ds : List (D × D)} : Rp K F ρ (.ref b) d → keyD d = some k → Rp K F ρ v e → RpTs K F ρ vs ds → RpTs K F ρ ((k, b, v) :: vs) ((d, e) :: ds)
end
section
variable {K : PySem.W.Frag} {F F' : Hp} {ρ ρ' : List Addr}
mutual
theorem Rp.mono (hF : Same F F') (hρ : ∀ (n : Nat) (a : Addr), ρ[n]? = some a → ρ'[n]? = some a) : ∀ {v : V} {d : D}, Rp K F ρ v d → Rp K F' ρ' v d
  | _, _, .non => .non
  | _, _, .bl b => .bl b
  | _, _, .int i => .int i
  | _, _, .str x => .str x
  | _, _, .lst h r => .lst (hF _ _ h) (RpAll.mono hF hρ r)
  | _, _, .tup h r => .tup (SqT.mono hF h) (RpAll.mono hF hρ r)
  | _, _, .ref h => .ref (hρ _ _ h)
  | _, _, .scr h => .scr (hF.seq h)
  | _, _, .rng h => .rng (hF _ _ h)
  | _, _, .dctK h r => .dctK (hF _ _ h) (RpKs.mono hF hρ r)
  | _, _, .dctT n h r => .dctT n (hF _ _ h) (RpTs.mono hF hρ r)
theorem RpAll.mono (hF : Same F F') (hρ : ∀ (n : Nat) (a : Addr), ρ[n]? = some a → ρ'[n]? = some a) : ∀ {vs : List V} {ds : List D}, RpAll K F ρ vs ds → RpAll K F' ρ' vs ds
  | _, _, .nil => .nil
  | _, _, .cons h r => .cons (Rp.mono hF hρ h) (RpAll.mono hF hρ r)
theorem RpKs.mono (hF : Same F F') (hρ : ∀ (n : Nat) (a : Addr), ρ[n]? = some a → ρ'[n]? = some a) : ∀ {vs : List (Key × V)} {ds : List (D × D)}, RpKs K F ρ vs ds → RpKs K F' ρ' vs ds
  | _, _, .nil => .nil
  | _, _, .cons h1 h2 r => .cons (Rp.mono hF hρ h1) (Rp.mono hF hρ h2) (RpKs.mono hF hρ r)
theorem RpTs.mono (hF : Same F F') (hρ : ∀ (n : Nat) (a : Addr), ρ[n]? = some a → ρ'[n]? = some a) : ∀ {vs : List DX.Row} {ds : List (D × D)}, RpTs K F ρ vs ds → RpTs K F' ρ' vs ds
  | _, _, .nil => .nil
  | _, _, .cons h1 h2 h3 r => .cons (Rp.mono hF hρ h1) h2 (Rp.mono hF hρ h3) (RpTs.mono hF hρ r)
end
theorem RpAll.length : ∀ {vs : List V} {ds : List D}, RpAll K F ρ vs ds → vs.length = ds.length
  | _, _, .nil => rfl
  | _, _, .cons _ r => congrArg (· + 1) (RpAll.length r)
theorem RpAll.get : ∀ {vs : List V} {ds : List D} {i : Nat} {d : D}, RpAll K F ρ vs ds → ds[i]? = some d → ∃ v, vs[i]? = some v ∧ Rp K F ρ v d
  | _, _, _, _, .nil, e => by simp at e
  | _, _, 0, _, .cons r _, e => by simp at e; subst e; exact ⟨_, rfl, r⟩
  | _, _, i + 1, _, .cons _ t, e => RpAll.get (i := i) t (by simpa using e)
theorem RpAll.get' : ∀ {vs : List V} {ds : List D} {i : Nat} {v : V}, RpAll K F ρ vs ds → vs[i]? = some v → ∃ d, ds[i]? = some d ∧ Rp K F ρ v d
  | _, _, _, _, .nil, e => by simp at e
  | _, _, 0, _, .cons r _, e => by simp at e; subst e; exact ⟨_, rfl, r⟩
  | _, _, i + 1, _, .cons _ t, e => RpAll.get' (i := i) t (by simpa using e)
theorem RpAll.append : ∀ {vs ws : List V} {ds es : List D}, RpAll K F ρ vs ds → RpAll K F ρ ws es → RpAll K F ρ (vs ++ ws) (ds ++ es)
  | _, _, _, _, .nil, s => s
  | _, _, _, _, .cons r t, s => .cons r (RpAll.append t s)
theorem RpAll.take : ∀ {vs : List V} {ds : List D} (n : Nat), RpAll K F ρ vs ds → RpAll K F ρ (vs.take n) (ds.take n)
  | _, _, 0, _ => .nil
  | _, _, _ + 1, .nil => .nil
  | _, _, n + 1, .cons r t => .cons r (RpAll.take n t)
theorem RpAll.drop : ∀ {vs : List V} {ds : List D} (n : Nat), RpAll K F ρ vs ds → RpAll K F ρ (vs.drop n) (ds.drop n)
  | _, _, 0, r => r
  | _, _, _ + 1, .nil => .nil
  | _, _, n + 1, .cons _ t => RpAll.drop n t
theorem RpAll.set : ∀ {vs : List V} {ds : List D} (n : Nat) {v : V} {d : D}, RpAll K F ρ vs ds → Rp K F ρ v d → RpAll K F ρ (vs.set n v) (ds.set n d)
  | _, _, _, _, _, .nil, _ => .nil
  | _, _, 0, _, _, .cons _ t, h => .cons h t
  | _, _, n + 1, _, _, .cons r t, h => .cons r (RpAll.set n t h)
theorem RpAll.rev {vs : List V} {ds : List D} (h : RpAll K F ρ vs ds) : RpAll K F ρ vs.reverse ds.reverse := by
  induction vs generalizing ds with
  | nil => cases h; exact .nil
  | cons v vs ih =>
    cases h with
    | cons r t =>
      rw [List.reverse_cons, List.reverse_cons]
      exact (ih t).append (.cons r .nil)
theorem RpAll.flat {vs : List V} {ds : List D} (h : RpAll K F ρ vs ds) : ∀ k : Nat, RpAll K F ρ (List.replicate k vs).flatten (List.replicate k ds).flatten
  | 0 => .nil
  | k + 1 => by
    rw [List.replicate_succ, List.replicate_succ, List.flatten_cons, List.flatten_cons]
    exact h.append (RpAll.flat h k)
theorem RpAll.ints : ∀ {vs : List V} {ds : List D} {ns : List Int}, RpAll K F ρ vs ds → intsD ds = some ns → vs = ns.map V.int
  | _, _, ns, .nil, e => by
    have : ns = [] := by simpa [intsD] using e.symm
    subst this; rfl
  | _, _, ns, .cons (d := .int i) (ds := ds) r t, e => by
    unfold intsD at e
    cases q : intsD ds with
    | none => rw [q] at e; cases e
    | some ms =>
      rw [q] at e
      have : i :: ms = ns := by simpa using e
      subst this
      cases r
      rw [RpAll.ints t q]; rfl
  | _, _, _, .cons (d := .non) _ _, e => by simp [intsD] at e
  | _, _, _, .cons (d := .bl _) _ _, e => by simp [intsD] at e
  | _, _, _, .cons (d := .str _) _ _, e => by simp [intsD] at e
  | _, _, _, .cons (d := .tup _) _ _, e => by simp [intsD] at e
  | _, _, _, .cons (d := .lst _) _ _, e => by simp [intsD] at e
  | _, _, _, .cons (d := .dct _) _ _, e => by simp [intsD] at e
  | _, _, _, .cons (d := .ref _) _ _, e => by simp [intsD] at e
  | _, _, _, .cons (d := .scr _) _ _, e => by simp [intsD] at e
  | _, _, _, .cons (d := .rng _) _ _, e => by simp [intsD] at e
theorem RpAll.bls : ∀ {vs : List V} {ds : List D} {ns : List Bool}, RpAll K F ρ vs ds → blsD ds = some ns → vs = ns.map V.bl
  | _, _, ns, .nil, e => by
    have : ns = [] := by simpa [blsD] using e.symm
    subst this; rfl
  | _, _, ns, .cons (d := .bl i) (ds := ds) r t, e => by
    unfold blsD at e
    cases q : blsD ds with
    | none => rw [q] at e; cases e
    | some ms =>
      rw [q] at e
      have : i :: ms = ns := by simpa using e
      subst this
      cases r
      rw [RpAll.bls t q]; rfl
  | _, _, _, .cons (d := .non) _ _, e => by simp [blsD] at e
  | _, _, _, .cons (d := .int _) _ _, e => by simp [blsD] at e
  | _, _, _, .cons (d := .str _) _ _, e => by simp [blsD] at e
  | _, _, _, .cons (d := .tup _) _ _, e => by simp [blsD] at e
  | _, _, _, .cons (d := .lst _) _ _, e => by simp [blsD] at e
  | _, _, _, .cons (d := .dct _) _ _, e => by simp [blsD] at e
  | _, _, _, .cons (d := .ref _) _ _, e => by simp [blsD] at e
  | _, _, _, .cons (d := .scr _) _ _, e => by simp [blsD] at e
  | _, _, _, .cons (d := .rng _) _ _, e => by simp [blsD] at e
theorem rpInts (ns : List Int) : RpAll K F ρ (ns.map V.int) (ns.map D.int) := by
  induction ns with
  | nil => exact .nil
  | cons n r ih => exact .cons (.int n) ih
end

/-- what is known of the heap: what never changes (F), where the store's things lie (ρ), what is to stay (pv) -/
structure G where
  F : Hp
  ρ : List Addr
  pv : Hp
structure G.le (g g' : G) : Prop where
  fs : Same g.F g'.F
  ro : ∀ (n : Nat) (a : Addr), g.ρ[n]? = some a → g'.ρ[n]? = some a
  pv : g'.pv = g.pv
  nf : ∀ a, g.pv a ≠ none → g.F a = none → g'.F a = none
theorem G.le.refl (g : G) : g.le g := ⟨Same.refl _, fun _ _ h => h, rfl, fun _ _ h => h⟩
theorem G.le.trans {a b c : G} (h : a.le b) (k : b.le c) : a.le c :=
  ⟨h.fs.trans k.fs, fun n x e => k.ro n x (h.ro n x e), k.pv.trans h.pv, fun x p e => k.nf x (by rw [h.pv]; exact p) (h.nf x p e)⟩
/-- .. of what is read alone -/
structure G.ge0 (g g' : G) : Prop where
  fs : Same g.F g'.F
  ro : ∀ (n : Nat) (a : Addr), g.ρ[n]? = some a → g'.ρ[n]? = some a
theorem G.le.ge0 {g g' : G} (h : g.le g') : g.ge0 g' := ⟨h.fs, h.ro⟩
theorem G.ge0.refl (g : G) : g.ge0 g := ⟨Same.refl _, fun _ _ h => h⟩
theorem G.ge0.trans {a b c : G} (h : a.ge0 b) (k : b.ge0 c) : a.ge0 c := ⟨h.fs.trans k.fs, fun n x e => k.ro n x (h.ro n x e)⟩
section
variable {K : PySem.W.Frag} {g g' : G}
theorem Rp.up {v : V} {d : D} (h : Rp K g.F g.ρ v d) (l : g.ge0 g') : Rp K g'.F g'.ρ v d := h.mono l.fs l.ro
theorem RpAll.up {v : List V} {d : List D} (h : RpAll K g.F g.ρ v d) (l : g.ge0 g') : RpAll K g'.F g'.ρ v d := h.mono l.fs l.ro
end
def RpO (K : PySem.W.Frag) (g : G) (H : Hp) (a : Addr) : MO → Prop
  | .lst ds => ∃ xs, H a = some (.lst xs) ∧ RpAll K g.F g.ρ xs ds
  | .dct kvs => (∃ ks, H a = some (.dK ks) ∧ RpKs K g.F g.ρ ks kvs) ∨ (kvs ≠ [] ∧ ∃ qs, H a = some (DX.TDO TBs.w a qs) ∧ RpTs K g.F g.ρ qs kvs)
  | .ins _ _ => False
inductive RpFs (K : PySem.W.Frag) (F : Hp) (ρ : List Addr) : List (Str × V) → List (Str × D) → Prop
  | nil : RpFs K F ρ [] []
  | cons {f : Str} {v : V} {vs : List (Str × V)} {d : D} {ds : List (Str × D)} : Rp K F ρ v d → RpFs K F ρ vs ds → RpFs K F ρ ((f, v) :: vs) ((f, d) :: ds)
theorem RpFs.mono {K : PySem.W.Frag} {F F' : Hp} {ρ ρ' : List Addr} (hF : Same F F') (hρ : ∀ (n : Nat) (a : Addr), ρ[n]? = some a → ρ'[n]? = some a) : ∀ {vs : List (Str × V)} {ds : List (Str × D)}, RpFs K F ρ vs ds → RpFs K F' ρ' vs ds
  | _, _, .nil => .nil
  | _, _, .cons h r => .cons (Rp.mono hF hρ h) (RpFs.mono hF hρ r)
theorem RpFs.up {K : PySem.W.Frag} {g g' : G} {v : List (Str × V)} {d : List (Str × D)} (h : RpFs K g.F g.ρ v d) (l : g.ge0 g') : RpFs K g'.F g'.ρ v d := h.mono l.fs l.ro
theorem RpFs.len {K : PySem.W.Frag} {F : Hp} {ρ : List Addr} : ∀ {vs : List (Str × V)} {ds : List (Str × D)}, RpFs K F ρ vs ds → vs.length = ds.length
  | _, _, .nil => rfl
  | _, _, .cons _ r => congrArg (· + 1) r.len
theorem RpFs.none {K : PySem.W.Frag} {F : Hp} {ρ : List Addr} {f : Str} : ∀ {vs : List (Str × V)} {ds : List (Str × D)}, RpFs K F ρ vs ds → ds.lookup f = Option.none → vs.lookup f = Option.none
  | _, _, .nil, _ => rfl
  | _, _, .cons (f := g) r t, e => by
    rw [List.lookup_cons] at e ⊢
    cases q : f == g with
    | true => rw [q] at e; cases e
    | false => rw [q] at e; exact t.none e
theorem RpFs.some {K : PySem.W.Frag} {F : Hp} {ρ : List Addr} {f : Str} {d : D} : ∀ {vs : List (Str × V)} {ds : List (Str × D)}, RpFs K F ρ vs ds → ds.lookup f = Option.some d → ∃ v, vs.lookup f = Option.some v ∧ Rp K F ρ v d
  | _, _, .nil, e => by cases e
  | _, _, .cons (f := g) r t, e => by
    rw [List.lookup_cons] at e ⊢
    cases q : f == g with
    | true => rw [q] at e; cases e; exact ⟨_, rfl, r⟩
    | false => rw [q] at e; exact t.some e
theorem RpFs.put {K : PySem.W.Frag} {F : Hp} {ρ : List Addr} {f : Str} {v : V} {d : D} (hv : Rp K F ρ v d) : ∀ {vs : List (Str × V)} {ds : List (Str × D)}, RpFs K F ρ vs ds → RpFs K F ρ (putF f v vs) (putFD f d ds)
  | _, _, .nil => .cons hv .nil
  | _, _, .cons (f := g) r t => by
    unfold putF putFD
    split
    · exact .cons hv t
    · exact .cons r (t.put hv)
/-- an instance -/
def RpI (K : PySem.W.Frag) (g : G) (H : Hp) (a : Addr) (c : String) (fs : List (Str × D)) : Prop := ∃ dx vs, H a = some (.ins (TBs.ca c) dx vs) ∧ RpFs K g.F g.ρ vs fs
/-- a thing of the store -/
def RpM (K : PySem.W.Frag) (g : G) (H : Hp) (a : Addr) (m : MO) : Prop := RpO K g H a m ∨ ∃ c fs, m = .ins c fs ∧ RpI K g H a c fs
def Priv (g : G) (a : Addr) : Prop := g.F a = none ∧ a ∉ g.ρ ∧ g.pv a = none
def OwnAt (env : List Sl) (σ : L2.St) (i : Nat) (a : Addr) : Prop := (∃ m, env[i]? = some (.own m)) ∧ σ[i]? = some (some (.ref a))
structure Sim (K : PySem.W.Frag) (g : G) (σ : L2.St) (H : Hp) (s : S) : Prop where
  fz : Same g.F H
  len : s.env.length = σ.length
  val : ∀ (i : Nat) (d : D), s.env[i]? = some (.val d) → ∃ v, σ[i]? = some (some v) ∧ Rp K g.F g.ρ v d
  own : ∀ (i : Nat) (m : MO), s.env[i]? = some (.own m) → ∃ a, σ[i]? = some (some (.ref a)) ∧ Priv g a ∧ RpO K g H a m
  sep : ∀ i j a, OwnAt s.env σ i a → OwnAt s.env σ j a → i = j
  mlen : g.ρ.length = s.mem.length
  nd : g.ρ.Nodup
  mem : ∀ (n : Nat) (a : Addr) (m : MO), g.ρ[n]? = some a → s.mem[n]? = some m → g.F a = none ∧ RpM K g H a m
  pvo : ∀ a o, g.pv a = some o → H a = some o ∧ a ∉ g.ρ
  tbs : ∀ P ∈ TBs.tb, g.F P = none ∧ g.pv P = none ∧ ∃ ps, H P = some (.tbl ps) ∧ TriplesOk ps.toList
def Fresh (g : G) (σ : L2.St) (s : S) (a : Addr) : Prop := Priv g a ∧ ∀ i, ¬ OwnAt s.env σ i a

section
variable {K : PySem.W.Frag} {g g' : G} {σ : L2.St} {H H' : Hp} {s : S} {a : Addr} {o : HO} {m : MO}
theorem RpKs.up {v : List (Key × V)} {d : List (D × D)} (h : RpKs K g.F g.ρ v d) (l : g.ge0 g') : RpKs K g'.F g'.ρ v d := h.mono l.fs l.ro
theorem RpTs.up {v : List DX.Row} {d : List (D × D)} (h : RpTs K g.F g.ρ v d) (l : g.ge0 g') : RpTs K g'.F g'.ρ v d := h.mono l.fs l.ro
/-- what a thing's object is like; it is data, where it never changes -/
theorem RpO.gen (h : RpO K g H a m) : ∃ o, H a = Option.some o ∧ (∀ ps, o ≠ .tbl ps) ∧ ∀ g' : G, g.ge0 g' → g'.F a = Option.some o → Rp K g'.F g'.ρ (.ref a) m.tree := by
  cases m with
  | lst ds => obtain ⟨xs, e, r⟩ := h; exact ⟨_, e, fun _ z => (nomatch z), fun g' l e' => .lst e' (r.up l)⟩
  | dct kvs =>
    rcases h with ⟨ks, e, r⟩ | ⟨n, ks, e, r⟩
    · exact ⟨_, e, fun _ z => (nomatch z), fun g' l e' => .dctK e' (RpKs.up r l)⟩
    · exact ⟨_, e, fun _ z => (nomatch z), fun g' l e' => .dctT n e' (RpTs.up r l)⟩
  | ins _ _ => exact h.elim
theorem RpO.some (h : RpO K g H a m) : ∃ o, H a = Option.some o := let ⟨o, e, _⟩ := h.gen; ⟨o, e⟩
theorem RpO.up (h : RpO K g H a m) (l : g.ge0 g') (e : ∀ o, H a = Option.some o → H' a = Option.some o) : RpO K g' H' a m := by
  cases m with
  | lst ds => obtain ⟨xs, q, r⟩ := h; exact ⟨xs, e _ q, r.up l⟩
  | dct kvs =>
    rcases h with ⟨xs, q, r⟩ | ⟨n, xs, q, r⟩
    · exact .inl ⟨xs, e _ q, RpKs.up r l⟩
    · exact .inr ⟨n, xs, e _ q, RpTs.up r l⟩
  | ins _ _ => exact h.elim
theorem RpM.lst {ds : List D} : RpM K g H a (.lst ds) → RpO K g H a (.lst ds)
  | .inl r => r
  | .inr ⟨_, _, e, _⟩ => nomatch e
theorem RpM.dct {ds : List (D × D)} : RpM K g H a (.dct ds) → RpO K g H a (.dct ds)
  | .inl r => r
  | .inr ⟨_, _, e, _⟩ => nomatch e
theorem RpM.ins {c : String} {fs : List (Str × D)} : RpM K g H a (.ins c fs) → RpI K g H a c fs
  | .inl r => r.elim
  | .inr ⟨_, _, e, r⟩ => by cases e; exact r
theorem RpM.gen (h : RpM K g H a m) : ∃ o, H a = Option.some o ∧ ∀ ps, o ≠ .tbl ps := by
  rcases h with h | ⟨c, fs, _, dx, vs, e, _⟩
  · obtain ⟨o, e, n, _⟩ := h.gen; exact ⟨o, e, n⟩
  · exact ⟨_, e, fun _ z => (nomatch z)⟩
theorem RpM.some (h : RpM K g H a m) : ∃ o, H a = Option.some o := let ⟨o, e, _⟩ := h.gen; ⟨o, e⟩
theorem RpM.up (h : RpM K g H a m) (l : g.ge0 g') (e : ∀ o, H a = Option.some o → H' a = Option.some o) : RpM K g' H' a m := by
  rcases h with h | ⟨c, fs, em, dx, vs, q, r⟩
  · exact .inl (h.up l e)
  · exact .inr ⟨c, fs, em, dx, vs, e _ q, r.up l⟩
theorem mem_rho {ρ : List Addr} {n : Nat} {a : Addr} (h : ρ[n]? = Option.some a) : a ∈ ρ := List.mem_of_getElem? h
theorem Sim.rhoS (x : Sim K g σ H s) (h : a ∈ g.ρ) : ∃ (n : Nat) (m : MO), g.ρ[n]? = Option.some a ∧ s.mem[n]? = Option.some m := by
  obtain ⟨n, hn, e⟩ := List.getElem_of_mem h
  have hm : n < s.mem.length := by rw [← x.mlen]; exact hn
  exact ⟨n, s.mem[n], by rw [List.getElem?_eq_getElem hn, e], List.getElem?_eq_getElem hm⟩
/-- what is not in the heap is known to nobody -/
theorem Sim.none_ (x : Sim K g σ H s) (h : H a = none) : Fresh g σ s a := by
  refine ⟨⟨?_, fun q => ?_, ?_⟩, fun i ⟨⟨m, e⟩, q⟩ => ?_⟩
  · cases e : g.F a with
    | none => rfl
    | some o => rw [x.fz _ _ e] at h; cases h
  · obtain ⟨n, m, e1, e2⟩ := x.rhoS q
    obtain ⟨o, e3⟩ := (x.mem n a m e1 e2).2.some
    rw [h] at e3; cases e3
  · cases e : g.pv a with
    | none => rfl
    | some o => rw [(x.pvo _ _ e).1] at h; cases h
  · obtain ⟨b, e1, _, r⟩ := x.own i m e
    rw [e1] at q; cases q
    obtain ⟨o, e3⟩ := r.some
    rw [h] at e3; cases e3
theorem Sim.ntl {xs : List V} (x : Sim K g σ H s) (h : H a = Option.some (.lst xs)) : a ∉ TBs.tb := fun hP => by
  obtain ⟨_, _, ps, e, _⟩ := x.tbs a hP
  rw [h] at e; cases e
theorem Sim.nto (x : Sim K g σ H s) (h : RpO K g H a m) : a ∉ TBs.tb := fun hP => by
  obtain ⟨_, _, ps, e, _⟩ := x.tbs a hP
  obtain ⟨o, e', n, _⟩ := h.gen
  rw [e'] at e
  exact n ps (Option.some.inj e)
theorem Sim.ntM (x : Sim K g σ H s) (h : RpM K g H a m) : a ∉ TBs.tb := fun hP => by
  obtain ⟨_, _, ps, e, _⟩ := x.tbs a hP
  obtain ⟨o, e', n⟩ := h.gen
  rw [e'] at e
  exact n ps (Option.some.inj e)
theorem Sim.ntn (x : Sim K g σ H s) (h : H a = none) : a ∉ TBs.tb := fun hP => by
  obtain ⟨_, _, ps, e, _⟩ := x.tbs a hP
  rw [h] at e; cases e
/-- a new thing in the heap -/
theorem Sim.new (x : Sim K g σ H s) (h : H a = none) (o : HO) : Sim K g σ (upd H a o) s := by
  have k : ∀ b u, H b = Option.some u → upd H a o b = Option.some u := fun b u e => by rw [upd_ne (ne_of_none e h)]; exact e
  exact ⟨fun b u e => k _ _ (x.fz b u e), x.len, x.val, fun i m e => by
      obtain ⟨b, e1, p, r⟩ := x.own i m e
      exact ⟨b, e1, p, r.up (.refl _) fun u q => k _ _ q⟩, x.sep, x.mlen, x.nd,
    fun n b m e1 e2 => ⟨(x.mem n b m e1 e2).1, (x.mem n b m e1 e2).2.up (.refl _) fun u q => k _ _ q⟩, fun b u e => ⟨k _ _ (x.pvo b u e).1, (x.pvo b u e).2⟩, fun P hP => let ⟨h1, h2, ps, h3, h4⟩ := x.tbs P hP; ⟨h1, h2, ps, k _ _ h3, h4⟩⟩
theorem leF (x : Priv g a) (o : HO) : g.le { g with F := upd g.F a o } :=
  ⟨fun b u e => by show upd g.F a o b = _; rw [upd_ne (ne_of_none e x.1)]; exact e, fun _ _ h => h, rfl, fun b p e => by
    have hb : b ≠ a := fun z => p (by rw [z]; exact x.2.2)
    show upd g.F a o b = none
    rw [upd_ne hb]; exact e⟩
/-- what nobody knows is never changed from now on -/
theorem Sim.frz (x : Sim K g σ H s) (f : Fresh g σ s a) (h : H a = Option.some o) (hn : a ∉ TBs.tb) : Sim K { g with F := upd g.F a o } σ H s := by
  have l := (leF f.1 o).ge0
  refine ⟨fun b u e => ?_, x.len, fun i d e => ?_, fun i m e => ?_, x.sep, x.mlen, x.nd, fun n b m e1 e2 => ?_, x.pvo, fun P hP => ⟨by show upd g.F a o P = none; rw [upd_ne (show P ≠ a from fun z => hn (by rw [← z]; exact hP))]; exact (x.tbs P hP).1, (x.tbs P hP).2⟩⟩
  · by_cases hb : b = a
    · subst hb
      have e : upd g.F b o b = Option.some u := e
      rw [upd_same] at e; cases e; exact h
    · have e : upd g.F a o b = Option.some u := e
      rw [upd_ne hb] at e; exact x.fz _ _ e
  · obtain ⟨v, e1, r⟩ := x.val i d e
    exact ⟨v, e1, r.up l⟩
  · obtain ⟨b, e1, p, r⟩ := x.own i m e
    have hb : b ≠ a := fun z => f.2 i ⟨⟨m, e⟩, by rw [← z]; exact e1⟩
    exact ⟨b, e1, ⟨by show upd g.F a o b = none; rw [upd_ne hb]; exact p.1, p.2⟩, r.up l fun _ q => q⟩
  · have hb : b ≠ a := fun z => f.1.2.1 (by rw [← z]; exact mem_rho e1)
    exact ⟨by show upd g.F a o b = none; rw [upd_ne hb]; exact (x.mem n b m e1 e2).1, (x.mem n b m e1 e2).2.up l fun _ q => q⟩
/-- a new thing that never changes -/
theorem Sim.newF (x : Sim K g σ H s) (h : H a = none) (o : HO) : g.le { g with F := upd g.F a o } ∧ Sim K { g with F := upd g.F a o } σ (upd H a o) s :=
  ⟨leF (x.none_ h).1 o, (x.new h o).frz (x.none_ h) upd_same (x.ntn h)⟩
theorem env_lt {i : Nat} {e : Sl} (h : s.env[i]? = Option.some e) : i < s.env.length := (List.getElem?_eq_some_iff.mp h).1
/-- a slot's own thing becomes data -/
theorem Sim.frzS {i : Nat} (x : Sim K g σ H s) (e : s.env[i]? = Option.some (.own m)) : ∃ g' v, g.le g' ∧ σ[i]? = Option.some (Option.some v) ∧ Rp K g'.F g'.ρ v m.tree ∧ Sim K g' σ H { s with env := s.env.set i (.val m.tree) } := by
  obtain ⟨a, e1, p, r⟩ := x.own i m e
  have hnt := x.nto r
  obtain ⟨o, ea, _, rg⟩ := r.gen
  · have hi := env_lt e
    have l := leF p o
    have hF : upd g.F a o a = Option.some o := upd_same
    have rt : Rp K (upd g.F a o) g.ρ (.ref a) m.tree := rg { g with F := upd g.F a o } l.ge0 hF
    refine ⟨{ g with F := upd g.F a o }, .ref a, l, e1, rt, ⟨fun b u q => ?_, ?_, fun j d q => ?_, fun j m' q => ?_, fun j k b hj hk => ?_, x.mlen, x.nd, fun n b m' q1 q2 => ?_, x.pvo, fun P hP => ⟨by show upd g.F a _ P = none; rw [upd_ne (show P ≠ a from fun z => hnt (by rw [← z]; exact hP))]; exact (x.tbs P hP).1, (x.tbs P hP).2⟩⟩⟩
    · by_cases hb : b = a
      · subst hb
        have q : upd g.F b o b = Option.some u := q
        rw [upd_same] at q; cases q; exact ea
      · have q : upd g.F a o b = Option.some u := q
        rw [upd_ne hb] at q; exact x.fz _ _ q
    · show (s.env.set i _).length = _
      rw [List.length_set]; exact x.len
    · have q : (s.env.set i (.val m.tree))[j]? = Option.some (.val d) := q
      by_cases hj : i = j
      · subst hj
        rw [List.getElem?_set_self hi] at q
        cases q
        exact ⟨_, e1, rt⟩
      · rw [List.getElem?_set_ne hj] at q
        obtain ⟨v, e2, r2⟩ := x.val j d q
        exact ⟨v, e2, r2.up l.ge0⟩
    · have q : (s.env.set i (.val m.tree))[j]? = Option.some (.own m') := q
      by_cases hj : i = j
      · subst hj
        rw [List.getElem?_set_self hi] at q; cases q
      · rw [List.getElem?_set_ne hj] at q
        obtain ⟨b, e2, p2, r2⟩ := x.own j m' q
        have hb : b ≠ a := fun z => hj (x.sep i j a ⟨⟨_, e⟩, e1⟩ ⟨⟨_, q⟩, by rw [← z]; exact e2⟩)
        exact ⟨b, e2, ⟨by show upd g.F a _ b = none; rw [upd_ne hb]; exact p2.1, p2.2⟩, r2.up l.ge0 fun _ q => q⟩
    · obtain ⟨⟨m1, q1⟩, f1⟩ := hj
      obtain ⟨⟨m2, q2⟩, f2⟩ := hk
      have q1 : (s.env.set i (.val m.tree))[j]? = Option.some (.own m1) := q1
      have q2 : (s.env.set i (.val m.tree))[k]? = Option.some (.own m2) := q2
      have hj : i ≠ j := fun z => by subst z; rw [List.getElem?_set_self hi] at q1; cases q1
      have hk : i ≠ k := fun z => by subst z; rw [List.getElem?_set_self hi] at q2; cases q2
      rw [List.getElem?_set_ne hj] at q1
      rw [List.getElem?_set_ne hk] at q2
      exact x.sep j k b ⟨⟨_, q1⟩, f1⟩ ⟨⟨_, q2⟩, f2⟩
    · have hb : b ≠ a := fun z => p.2.1 (by rw [← z]; exact mem_rho q1)
      exact ⟨by show upd g.F a _ b = none; rw [upd_ne hb]; exact (x.mem n b m' q1 q2).1, (x.mem n b m' q1 q2).2.up l.ge0 fun _ q => q⟩
/-- a value goes to a slot -/
theorem Sim.put {i : Nat} {v : V} {d : D} (x : Sim K g σ H s) (r : Rp K g.F g.ρ v d) : Sim K g (σ.set i (Option.some v)) H { s with env := s.env.set i (.val d) } := by
  refine ⟨x.fz, ?_, fun j e q => ?_, fun j m q => ?_, fun j k b hj hk => ?_, x.mlen, x.nd, x.mem, x.pvo, x.tbs⟩
  · show (s.env.set i _).length = _
    rw [List.length_set, List.length_set]; exact x.len
  · have q : (s.env.set i (.val d))[j]? = Option.some (.val e) := q
    by_cases hj : i = j
    · subst hj
      by_cases hi : i < s.env.length
      · rw [List.getElem?_set_self hi] at q; cases q
        exact ⟨v, by rw [List.getElem?_set_self (by rw [← x.len]; exact hi)], r⟩
      · rw [List.getElem?_eq_none (by rw [List.length_set]; omega)] at q; cases q
    · rw [List.getElem?_set_ne hj] at q ⊢
      exact x.val j e q
  · have q : (s.env.set i (.val d))[j]? = Option.some (.own m) := q
    by_cases hj : i = j
    · subst hj
      by_cases hi : i < s.env.length
      · rw [List.getElem?_set_self hi] at q; cases q
      · rw [List.getElem?_eq_none (by rw [List.length_set]; omega)] at q; cases q
    · rw [List.getElem?_set_ne hj] at q ⊢
      exact x.own j m q
  · have key : ∀ j, OwnAt (s.env.set i (.val d)) (σ.set i (Option.some v)) j b → OwnAt s.env σ j b := fun j ⟨⟨m1, q1⟩, f1⟩ => by
      have hj : i ≠ j := fun z => by
        subst z
        by_cases hi : i < s.env.length
        · rw [List.getElem?_set_self hi] at q1; cases q1
        · rw [List.getElem?_eq_none (by rw [List.length_set]; omega)] at q1; cases q1
      rw [List.getElem?_set_ne hj] at q1 f1
      exact ⟨⟨m1, q1⟩, f1⟩
    exact x.sep j k b (key j hj) (key k hk)
/-- a new thing goes to a slot, which alone knows it -/
theorem Sim.putO {i : Nat} (x : Sim K g σ H s) (f : Fresh g σ s a) (r : RpO K g H a m) : Sim K g (σ.set i (Option.some (.ref a))) H { s with env := s.env.set i (.own m) } := by
  refine ⟨x.fz, ?_, fun j e q => ?_, fun j m' q => ?_, fun j k b hj hk => ?_, x.mlen, x.nd, x.mem, x.pvo, x.tbs⟩
  · show (s.env.set i _).length = _
    rw [List.length_set, List.length_set]; exact x.len
  · have q : (s.env.set i (.own m))[j]? = Option.some (.val e) := q
    by_cases hj : i = j
    · subst hj
      by_cases hi : i < s.env.length
      · rw [List.getElem?_set_self hi] at q; cases q
      · rw [List.getElem?_eq_none (by rw [List.length_set]; omega)] at q; cases q
    · rw [List.getElem?_set_ne hj] at q ⊢
      exact x.val j e q
  · have q : (s.env.set i (.own m))[j]? = Option.some (.own m') := q
    by_cases hj : i = j
    · subst hj
      by_cases hi : i < s.env.length
      · rw [List.getElem?_set_self hi] at q; cases q
        exact ⟨a, by rw [List.getElem?_set_self (by rw [← x.len]; exact hi)], f.1, r⟩
      · rw [List.getElem?_eq_none (by rw [List.length_set]; omega)] at q; cases q
    · rw [List.getElem?_set_ne hj] at q ⊢
      exact x.own j m' q
  · have key : ∀ j, OwnAt (s.env.set i (.own m)) (σ.set i (Option.some (.ref a))) j b → (j = i ∧ b = a) ∨ (OwnAt s.env σ j b ∧ j ≠ i) := fun j ⟨⟨m1, q1⟩, f1⟩ => by
      by_cases hj : i = j
      · subst hj
        have hi : i < s.env.length := by
          have := (List.getElem?_eq_some_iff.mp q1).1
          rw [List.length_set] at this; exact this
        rw [List.getElem?_set_self (by rw [← x.len]; exact hi)] at f1
        cases f1
        exact .inl ⟨rfl, rfl⟩
      · rw [List.getElem?_set_ne hj] at q1 f1
        exact .inr ⟨⟨⟨m1, q1⟩, f1⟩, Ne.symm hj⟩
    rcases key j hj with ⟨e1, e2⟩ | ⟨o1, n1⟩
    · rcases key k hk with ⟨e3, _⟩ | ⟨o2, _⟩
      · rw [e1, e3]
      · rw [e2] at o2; exact absurd o2 (f.2 k)
    · rcases key k hk with ⟨e3, e4⟩ | ⟨o2, _⟩
      · rw [e4] at o1; exact absurd o1 (f.2 j)
      · exact x.sep j k b o1 o2
/-- a new thing goes to the store -/
theorem Sim.share (x : Sim K g σ H s) (f : Fresh g σ s a) (r : RpM K g H a m) : g.le { g with ρ := g.ρ ++ [a] } ∧ Sim K { g with ρ := g.ρ ++ [a] } σ H { s with mem := s.mem ++ [m] } ∧ (g.ρ ++ [a])[s.mem.length]? = Option.some a := by
  have hro : ∀ (n : Nat) (b : Addr), g.ρ[n]? = Option.some b → (g.ρ ++ [a])[n]? = Option.some b := fun n b e => by
    rw [List.getElem?_append_left (List.getElem?_eq_some_iff.mp e).1]; exact e
  have l : g.le { g with ρ := g.ρ ++ [a] } := ⟨Same.refl _, hro, rfl, fun _ _ h => h⟩
  refine ⟨l, ⟨x.fz, x.len, fun i d e => ?_, fun i m' e => ?_, x.sep, ?_, ?_, fun n b m' e1 e2 => ?_, fun b o e => ⟨(x.pvo b o e).1, fun z => ?_⟩, x.tbs⟩, ?_⟩
  · obtain ⟨v, e1, q⟩ := x.val i d e
    exact ⟨v, e1, q.up l.ge0⟩
  · obtain ⟨b, e1, p, q⟩ := x.own i m' e
    refine ⟨b, e1, ⟨p.1, fun z => ?_, p.2.2⟩, q.up l.ge0 fun _ q => q⟩
    rcases List.mem_append.mp z with z | z
    · exact p.2.1 z
    · have : b = a := by simpa using z
      subst this
      exact f.2 i ⟨⟨m', e⟩, e1⟩
  · show (g.ρ ++ [a]).length = (s.mem ++ [m]).length
    rw [List.length_append, List.length_append, x.mlen]; rfl
  · show (g.ρ ++ [a]).Nodup
    rw [List.nodup_append]
    refine ⟨x.nd, by simp, fun b hb c hc z => ?_⟩
    have : c = a := by simpa using hc
    subst this; subst z
    exact f.1.2.1 hb
  · have e1 : (g.ρ ++ [a])[n]? = Option.some b := e1
    have e2 : (s.mem ++ [m])[n]? = Option.some m' := e2
    by_cases hn : n < g.ρ.length
    · rw [List.getElem?_append_left hn] at e1
      rw [List.getElem?_append_left (by rw [← x.mlen]; exact hn)] at e2
      exact ⟨(x.mem n b m' e1 e2).1, (x.mem n b m' e1 e2).2.up l.ge0 fun _ q => q⟩
    · have hl : n = g.ρ.length := by
        have := (List.getElem?_eq_some_iff.mp e1).1
        rw [List.length_append] at this
        simp at this; omega
      subst hl
      rw [List.getElem?_append_right (Nat.le_refl _)] at e1
      rw [x.mlen, List.getElem?_append_right (Nat.le_refl _)] at e2
      simp at e1 e2
      subst e1; subst e2
      exact ⟨f.1.1, r.up l.ge0 fun _ q => q⟩
  · rcases List.mem_append.mp z with z | z
    · exact (x.pvo b o e).2 z
    · have : b = a := by simpa using z
      subst this
      rw [f.1.2.2] at e; cases e
  · rw [← x.mlen, List.getElem?_append_right (Nat.le_refl _)]; simp
/-- the thing of a slot changes -/
theorem Sim.chS {i : Nat} {m' : MO} {o : HO} (x : Sim K g σ H s) (e : s.env[i]? = Option.some (.own m)) (ea : σ[i]? = Option.some (Option.some (.ref a))) (r : RpO K g (upd H a o) a m') : Sim K g σ (upd H a o) { s with env := s.env.set i (.own m') } := by
  obtain ⟨a', e1, p, ro⟩ := x.own i m e
  rw [ea] at e1; cases e1
  have hnt := x.nto ro
  have hi := env_lt e
  have kp : ∀ b u, b ≠ a → H b = Option.some u → upd H a o b = Option.some u := fun b u hb q => by rw [upd_ne hb]; exact q
  have back : ∀ j b, OwnAt (s.env.set i (.own m')) σ j b → OwnAt s.env σ j b := fun j b ⟨⟨m1, q1⟩, f1⟩ => by
    by_cases hj : i = j
    · subst hj; exact ⟨⟨_, e⟩, f1⟩
    · rw [List.getElem?_set_ne hj] at q1; exact ⟨⟨_, q1⟩, f1⟩
  refine ⟨fun b u q => kp _ _ (fun z => by rw [z, p.1] at q; cases q) (x.fz _ _ q), ?_, fun j d q => ?_, fun j m1 q => ?_, fun j k b hj hk => x.sep j k b (back _ _ hj) (back _ _ hk), x.mlen, x.nd, fun n b m1 q1 q2 => ?_, fun b u q => ⟨kp _ _ (fun z => by rw [z, p.2.2] at q; cases q) (x.pvo b u q).1, (x.pvo b u q).2⟩, fun P hP => let ⟨h1, h2, ps, h3, h4⟩ := x.tbs P hP; ⟨h1, h2, ps, kp _ _ (fun z => hnt (by rw [← z]; exact hP)) h3, h4⟩⟩
  · show (s.env.set i _).length = _
    rw [List.length_set]; exact x.len
  · have q : (s.env.set i (.own m'))[j]? = Option.some (.val d) := q
    by_cases hj : i = j
    · subst hj; rw [List.getElem?_set_self hi] at q; cases q
    · rw [List.getElem?_set_ne hj] at q
      exact x.val j d q
  · have q : (s.env.set i (.own m'))[j]? = Option.some (.own m1) := q
    by_cases hj : i = j
    · subst hj; rw [List.getElem?_set_self hi] at q; cases q
      exact ⟨a, ea, p, r⟩
    · rw [List.getElem?_set_ne hj] at q
      obtain ⟨b, e2, p2, r2⟩ := x.own j m1 q
      have hb : b ≠ a := fun z => hj (x.sep i j a ⟨⟨_, e⟩, ea⟩ ⟨⟨_, q⟩, by rw [← z]; exact e2⟩)
      exact ⟨b, e2, p2, r2.up (.refl _) fun u q => kp _ _ hb q⟩
  · have hb : b ≠ a := fun z => p.2.1 (by rw [← z]; exact mem_rho q1)
    exact ⟨(x.mem n b m1 q1 q2).1, (x.mem n b m1 q1 q2).2.up (.refl _) fun u q => kp _ _ hb q⟩
/-- a thing of the store changes -/
theorem Sim.chM {n : Nat} {m' : MO} {o : HO} (x : Sim K g σ H s) (e : s.mem[n]? = Option.some m) (ea : g.ρ[n]? = Option.some a) (r : RpM K g (upd H a o) a m') : Sim K g σ (upd H a o) { s with mem := s.mem.set n m' } := by
  have hm := (x.mem n a m ea e).1
  have hnt := x.ntM (x.mem n a m ea e).2
  have hn : n < s.mem.length := (List.getElem?_eq_some_iff.mp e).1
  have ha : a ∈ g.ρ := mem_rho ea
  have kp : ∀ b u, b ≠ a → H b = Option.some u → upd H a o b = Option.some u := fun b u hb q => by rw [upd_ne hb]; exact q
  refine ⟨fun b u q => kp _ _ (fun z => by rw [z, hm] at q; cases q) (x.fz _ _ q), x.len, x.val, fun j m1 q => ?_, x.sep, ?_, x.nd, fun k b m1 q1 q2 => ?_, fun b u q => ⟨kp _ _ (fun z => (x.pvo b u q).2 (by rw [z]; exact ha)) (x.pvo b u q).1, (x.pvo b u q).2⟩, fun P hP => let ⟨h1, h2, ps, h3, h4⟩ := x.tbs P hP; ⟨h1, h2, ps, kp _ _ (fun z => hnt (by rw [← z]; exact hP)) h3, h4⟩⟩
  · obtain ⟨b, e2, p2, r2⟩ := x.own j m1 q
    have hb : b ≠ a := fun z => p2.2.1 (by rw [z]; exact ha)
    exact ⟨b, e2, p2, r2.up (.refl _) fun u q => kp _ _ hb q⟩
  · show _ = (s.mem.set n m').length
    rw [List.length_set]; exact x.mlen
  · have q2 : (s.mem.set n m')[k]? = Option.some m1 := q2
    by_cases hk : n = k
    · subst hk
      rw [List.getElem?_set_self hn] at q2; cases q2
      rw [ea] at q1; cases q1
      exact ⟨hm, r⟩
    · rw [List.getElem?_set_ne hk] at q2
      have hb : b ≠ a := fun z => by
        subst z
        have h1 := (List.getElem?_eq_some_iff.mp ea)
        have h2 := (List.getElem?_eq_some_iff.mp q1)
        exact hk ((List.getElem_inj x.nd).mp (h1.2.trans h2.2.symm))
      exact ⟨(x.mem k b m1 q1 q2).1, (x.mem k b m1 q1 q2).2.up (.refl _) fun u q => kp _ _ hb q⟩
end
end DL
end

section
set_option maxRecDepth 100000
set_option maxHeartbeats 4000000
/-! DL3: readings, and the operations. -/
namespace DL
open PySem PySem.Spec PyProof.Rows L2
variable [TBs]

/-! ### readings -/
def Post {α β : Type} (K : PySem.W.Frag) (R : G → L2.St → Hp → S → β → α → Prop) (σ : L2.St) (Q : β → Hp → Prop) (g : G) : α → S → Prop :=
  fun r s' => ∀ g' v H', g.le g' → Sim K g' σ H' s' → R g' σ H' s' v r → Q v H'
def Rd {α β : Type} (K : PySem.W.Frag) (f : S → Out S α) (R : G → L2.St → Hp → S → β → α → Prop) : L2.St → Hp → (β → Hp → Prop) → Prop :=
  fun σ H Q => ∃ g s, Sim K g σ H s ∧ (f s).WP (Post K R σ Q g)
theorem Post.up {α β : Type} {K : PySem.W.Frag} {R : G → L2.St → Hp → S → β → α → Prop} {σ : L2.St} {Q : β → Hp → Prop} {g g1 : G} (l : g.le g1) {r : α} {s : S} (h : Post K R σ Q g r s) : Post K R σ Q g1 r s :=
  fun g' v H' l' => h g' v H' (l.trans l')
theorem WP.up {α β : Type} {K : PySem.W.Frag} {R : G → L2.St → Hp → S → β → α → Prop} {σ : L2.St} {Q : β → Hp → Prop} {g g1 : G} (l : g.le g1) {o : Out S α} (h : o.WP (Post K R σ Q g)) : o.WP (Post K R σ Q g1) :=
  WP.mono h fun _ _ q => q.up l
/-- the next operand -/
theorem Rd.next {α β γ δ : Type} {K : PySem.W.Frag} {f : S → Out S α} {h : α → S → Out S γ} {R1 : G → L2.St → Hp → S → β → α → Prop} {R : G → L2.St → Hp → S → δ → γ → Prop} {σ : L2.St} {H : Hp} {s : S} {g : G} {Q : δ → Hp → Prop} {Z : β → Hp → Prop}
    (S0 : Sim K g σ H s) (w : ((f s).bind h).WP (Post K R σ Q g))
    (k : ∀ g1 a s1 v H1, g.le g1 → Sim K g1 σ H1 s1 → R1 g1 σ H1 s1 v a → (h a s1).WP (Post K R σ Q g1) → Z v H1) : Rd K f R1 σ H Z := by
  rw [WP_bind] at w
  exact ⟨g, s, S0, WP.mono w fun a s1 w1 g1 v H1 l1 S1 r1 => k g1 a s1 v H1 l1 S1 r1 (WP.up l1 w1)⟩
def RpP (K : PySem.W.Frag) (g : G) (σ : L2.St) (v : V) : Pl → Prop
  | .slot i => σ[i]? = some (some v)
  | .d d => Rp K g.F g.ρ v d
def RpR (K : PySem.W.Frag) (g : G) (σ : L2.St) (H : Hp) (s : S) (v : V) : Rz → Prop
  | .pl p => RpP K g σ v p
  | .mo m => ∃ a, v = .ref a ∧ Fresh g σ s a ∧ RpO K g H a m
def PP (K : PySem.W.Frag) : G → L2.St → Hp → S → V → Rz → Prop := fun g σ _ _ v r => RpP K g σ v (toP r)
def PPs (K : PySem.W.Frag) (g : G) (σ : L2.St) : List V → List Pl → Prop
  | [], [] => True
  | v :: vs, p :: ps => RpP K g σ v p ∧ PPs K g σ vs ps
  | _, _ => False
def RDs (K : PySem.W.Frag) : G → L2.St → Hp → S → List V → List Pl → Prop := fun g σ _ _ vs ps => PPs K g σ vs ps
theorem RpP.up {K : PySem.W.Frag} {g g' : G} {σ : L2.St} {v : V} {p : Pl} (h : RpP K g σ v p) (l : g.le g') : RpP K g' σ v p := by
  cases p with
  | slot i => exact h
  | d d => exact Rp.up h l.ge0
theorem PPs.up {K : PySem.W.Frag} {g g' : G} {σ : L2.St} (l : g.le g') : ∀ {vs : List V} {ps : List Pl}, PPs K g σ vs ps → PPs K g' σ vs ps
  | [], [], _ => trivial
  | _ :: _, _ :: _, h => ⟨h.1.up l, PPs.up l h.2⟩
  | [], _ :: _, h => h.elim
  | _ :: _, [], h => h.elim
abbrev RdR (K : PySem.W.Frag) (cf : CF) (e : E) : TE := Rd K (evR cf e) (RpR K)
abbrev RdP (K : PySem.W.Frag) (cf : CF) (e : E) : TE := Rd K (evR cf e) (PP K)
abbrev RdT (K : PySem.W.Frag) (cf : CF) (e : E) : TT := Rd K (fun s => (evR cf e s).bind fun r s => isT (toP r) s) (fun _ _ _ _ (b k : Bool) => b = k)
abbrev RdA (K : PySem.W.Frag) (cf : CF) (as : A) : TA := Rd K (evA cf as) (RDs K)

theorem PE.imp {X : Cx} {e : Expr} {t t' : TE} (h : PE X e t) (i : ∀ σ H Q, t' σ H Q → t σ H Q) : PE X e t' := ⟨fun pins s σ H Q I q => h.run pins s σ H Q I (i σ H Q q)⟩
theorem PT.imp {X : Cx} {e : Expr} {t t' : TT} (h : PT X e t) (i : ∀ σ H Q, t' σ H Q → t σ H Q) : PT X e t' := ⟨fun pins s σ H Q I q => h.run pins s σ H Q I (i σ H Q q)⟩
theorem PA.imp {X : Cx} {e : List Expr} {t t' : TA} (h : PA X e t) (i : ∀ σ H Q, t' σ H Q → t σ H Q) : PA X e t' := ⟨fun pos pins s σ H Q I q => h.run pos pins s σ H Q I (i σ H Q q)⟩
theorem PI.imp {X : Cx} {tg e : Expr} {t t' : TI} (h : PI X tg e t) (i : ∀ σ H Q, t' σ H Q → t σ H Q) : PI X tg e t' := ⟨fun pins s σ H Q I q => h.run pins s σ H Q I (i σ H Q q)⟩
theorem PS.imp {X : Cx} {e : Stmt} {t t' : TS} (h : PS X e t) (i : ∀ D σ H, t' D σ H → t D σ H) : PS X e t' := ⟨fun pins s σ H D I q => h.run pins s σ H D I (i D σ H q)⟩
theorem PSs.imp {X : Cx} {e : List Stmt} {t t' : TS} (h : PSs X e t) (i : ∀ D σ H, t' D σ H → t D σ H) : PSs X e t' := ⟨fun pins s σ H D I q => h.run pins s σ H D I (i D σ H q)⟩

section
variable {K : PySem.W.Frag} {g g1 g' : G} {σ : L2.St} {H : Hp} {s s1 : S} {v : V} {p : Pl} {cf : CF}
/-- what is made is data from now on -/
theorem mo_pl {m : MO} (S0 : Sim K g σ H s) (h : RpR K g σ H s v (.mo m)) : ∃ g', g.le g' ∧ Sim K g' σ H s ∧ Rp K g'.F g'.ρ v m.tree := by
  obtain ⟨a, rfl, f, r⟩ := h
  have hnt := S0.nto r
  obtain ⟨o, e, _, rg⟩ := r.gen
  have l := leF f.1 o
  exact ⟨_, l, S0.frz f e hnt, rg _ l.ge0 (show upd g.F a o a = some o from upd_same)⟩
theorem rz_pl {r : Rz} (S0 : Sim K g σ H s) (h : RpR K g σ H s v r) : ∃ g', g.le g' ∧ Sim K g' σ H s ∧ PP K g' σ H s v r := by
  cases r with
  | pl p => exact ⟨g, .refl g, S0, h⟩
  | mo m => exact mo_pl S0 h
theorem RdP_R {f : S → Out S Rz} {Q : VK} (h : Rd K f (PP K) σ H Q) : Rd K f (RpR K) σ H Q := by
  obtain ⟨g, s, S0, w⟩ := h
  refine ⟨g, s, S0, WP.mono w fun r s1 q g1 v H1 l1 S1 r1 => ?_⟩
  obtain ⟨g2, l2, S2, r2⟩ := rz_pl S1 r1
  exact q g2 v H1 (l1.trans l2) S2 r2
/-- it is handed on -/
theorem esc_ok {R : D → S → Prop} (S0 : Sim K g σ H s) (r : RpP K g σ v p) (w : (esc p s).WP R) :
    ∃ g1 d s1, g.le g1 ∧ Sim K g1 σ H s1 ∧ Rp K g1.F g1.ρ v d ∧ s1.mem = s.mem ∧ R d s1 := by
  cases p with
  | d d => exact ⟨g, d, s, .refl g, S0, r, rfl, w⟩
  | slot i =>
    have r : σ[i]? = some (some v) := r
    cases q : s.env[i]? with
    | none =>
      simp only [esc, q] at w
      exact w.elim
    | some e =>
      cases e with
      | non =>
        simp only [esc, q] at w
        exact w.elim
      | val d =>
        simp only [esc, q] at w
        obtain ⟨u, e1, r1⟩ := S0.val i d q
        rw [e1] at r; cases r
        exact ⟨g, d, s, .refl g, S0, r1, rfl, w⟩
      | own m =>
        simp only [esc, q] at w
        obtain ⟨g1, u, l1, e1, r1, S1⟩ := S0.frzS q
        rw [e1] at r; cases r
        exact ⟨g1, m.tree, _, l1, S1, r1, rfl, w⟩
theorem esc_next {δ : Type} {γ : Type} {R : G → L2.St → Hp → S → δ → γ → Prop} {σ' : L2.St} {Q : δ → Hp → Prop} {h : D → S → Out S γ} (S0 : Sim K g σ H s) (r : RpP K g σ v p) (w : ((esc p s).bind h).WP (Post K R σ' Q g)) :
    ∃ g1 d s1, g.le g1 ∧ Sim K g1 σ H s1 ∧ Rp K g1.F g1.ρ v d ∧ s1.mem = s.mem ∧ (h d s1).WP (Post K R σ' Q g1) := by
  rw [WP_bind] at w
  obtain ⟨g1, d, s1, l1, S1, r1, m1, w1⟩ := esc_ok S0 r w
  exact ⟨g1, d, s1, l1, S1, r1, m1, WP.up l1 w1⟩
theorem escs_next {δ : Type} {γ : Type} {R : G → L2.St → Hp → S → δ → γ → Prop} {σ' : L2.St} {Q : δ → Hp → Prop} : ∀ {ps : List Pl} {vs : List V} {g : G} {s : S} {h : List D → S → Out S γ}, Sim K g σ H s → PPs K g σ vs ps → ((escs ps s).bind h).WP (Post K R σ' Q g) →
    ∃ g1 ds s1, g.le g1 ∧ Sim K g1 σ H s1 ∧ RpAll K g1.F g1.ρ vs ds ∧ s1.mem = s.mem ∧ (h ds s1).WP (Post K R σ' Q g1)
  | [], [], g, s, h, S0, _, w => ⟨g, [], s, .refl g, S0, .nil, rfl, w⟩
  | [], _ :: _, _, _, _, _, r, _ => r.elim
  | _ :: _, [], _, _, _, _, r, _ => r.elim
  | p :: ps, v :: vs, g, s, h, S0, r, w => by
    have w2 : ((esc p s).bind fun d s => ((escs ps s).bind fun ds s => h (d :: ds) s)).WP (Post K R σ' Q g) := by
      unfold escs at w
      simp only [WP_bind] at w ⊢
      exact w
    obtain ⟨g1, d, s1, l1, S1, r1, m1, w1⟩ := esc_next S0 r.1 w2
    obtain ⟨g2, ds, s2, l2, S2, r2, m2, w3⟩ := escs_next S1 (r.2.up l1) w1
    exact ⟨g2, d :: ds, s2, l1.trans l2, S2, .cons (r1.up l2.ge0) r2, m2.trans m1, w3⟩

/-- a value as it is read now -/
def Vw (K : PySem.W.Frag) (g : G) (H : Hp) (v : V) : D → Prop
  | .lst ds => ∃ a xs, v = .ref a ∧ H a = some (.lst xs) ∧ RpAll K g.F g.ρ xs ds
  | .dct kvs => ∃ a, v = .ref a ∧ RpO K g H a (.dct kvs)
  | d => Rp K g.F g.ρ v d
theorem RpO.vw {a : Addr} {m : MO} (r : RpO K g H a m) : Vw K g H (.ref a) m.tree := by
  cases m with
  | lst ds => obtain ⟨xs, ea, rx⟩ := r; exact ⟨a, xs, rfl, ea, rx⟩
  | dct kvs => exact ⟨a, rfl, r⟩
  | ins _ _ => exact r.elim
theorem Rp.vw {d : D} (S0 : Sim K g σ H s) (h : Rp K g.F g.ρ v d) : Vw K g H v (drf s d) := by
  cases h with
  | lst e r => exact ⟨_, _, rfl, S0.fz _ _ e, r⟩
  | ref e =>
    rename_i a n
    unfold drf
    split
    · rename_i x n' hh
      cases hh
      split
      · rename_i ds em
        exact RpO.vw (S0.mem n a _ e em).2.lst
      · rename_i kvs em
        exact RpO.vw (S0.mem n a _ e em).2.dct
      · exact .ref e
    · rename_i hh; exact absurd rfl (hh n)
  | non => exact .non
  | bl b => exact .bl b
  | int i => exact .int i
  | str x => exact .str x
  | tup a b => exact .tup a b
  | scr a => exact .scr a
  | rng a => exact .rng a
  | dctK e r => exact ⟨_, rfl, .inl ⟨_, S0.fz _ _ e, r⟩⟩
  | dctT n e r => exact ⟨_, rfl, .inr ⟨n, _, S0.fz _ _ e, r⟩⟩
theorem view_ok {x : D} (S0 : Sim K g σ H s) (r : RpP K g σ v p) (e : view s p = some x) : Vw K g H v x := by
  cases p with
  | d d =>
    have : drf s d = x := Option.some.inj e
    subst this
    exact Rp.vw S0 r
  | slot i =>
    have r : σ[i]? = some (some v) := r
    cases q : s.env[i]? with
    | none =>
      simp only [view, q] at e
      cases e
    | some z =>
      cases z with
      | non =>
        simp only [view, q] at e
        cases e
      | val d =>
        simp only [view, q] at e
        cases e
        obtain ⟨u, e1, r1⟩ := S0.val i d q
        rw [e1] at r; cases r
        exact Rp.vw S0 r1
      | own m =>
        simp only [view, q] at e
        cases e
        obtain ⟨a, e1, _, r1⟩ := S0.own i m q
        rw [e1] at r; cases r
        exact RpO.vw r1
  
end
end DL
end

section
set_option maxRecDepth 100000
set_option maxHeartbeats 4000000
/-! DL4: the operations, by values. -/
namespace DL
open PySem PySem.Spec PyProof.Rows L2
variable [TBs]

section
variable {K : PySem.W.Frag} {g g1 g' : G} {σ : L2.St} {H : Hp} {s s1 : S} {v u : V} {p q : Pl} {cf : CF} {Q : VK}
theorem Vw.int {i : Int} (h : Vw K g H v (.int i)) : v = .int i := by cases h; rfl
theorem Vw.bl {i : Bool} (h : Vw K g H v (.bl i)) : v = .bl i := by cases h; rfl
theorem Vw.str {i : Str} (h : Vw K g H v (.str i)) : v = .str i := by cases h; rfl
theorem Vw.non (h : Vw K g H v .non) : v = .non := by cases h; rfl
theorem Vw.tup {ds : List D} (S0 : Sim K g σ H s) (h : Vw K g H v (.tup ds)) : ∃ a xs, v = .ref a ∧ SqT K H a xs ∧ RpAll K g.F g.ρ xs ds := by
  cases h with
  | tup e r => exact ⟨_, _, rfl, SqT.mono S0.fz e, r⟩
theorem Vw.scr {ns : List Int} (S0 : Sim K g σ H s) (h : Vw K g H v (.scr ns)) : ∃ a, v = .ref a ∧ SqL K H a (ns.map V.int) := by
  cases h with
  | scr e => exact ⟨_, rfl, Same.seq S0.fz e⟩
theorem fin {d : D} (S0 : Sim K g σ H s) (r : Rp K g.F g.ρ v d) (w : Post K (RpR K) σ Q g (.pl (.d d)) s) : Q v H := w g v H (.refl g) S0 r
theorem new_tup {xs : List V} {ds : List D} (S0 : Sim K g σ H s) (r : RpAll K g.F g.ρ xs ds) (w : Post K (RpR K) σ Q g (.pl (.d (.tup ds))) s) : ∀ p, H p = none → Q (.ref p) (upd H p (.tup xs)) := fun p hp => by
  obtain ⟨l, S1⟩ := S0.newF hp (.tup xs)
  exact w _ _ _ l S1 (.tup (.inl (.inl upd_same)) (r.up l.ge0))
theorem new_lst {xs : List V} {ds : List D} (S0 : Sim K g σ H s) (r : RpAll K g.F g.ρ xs ds) (w : Post K (RpR K) σ Q g (.mo (.lst ds)) s) : ∀ p, H p = none → Q (.ref p) (upd H p (.lst xs)) := fun p hp =>
  w g _ _ (.refl g) (S0.new hp _) ⟨p, rfl, S0.none_ hp, xs, upd_same, r⟩
theorem onD2_ok {f : D → D → Option Rz} {R : Rz → S → Prop} (w : (onD2 f p q s).WP R) : ∃ x y r, view s p = some x ∧ view s q = some y ∧ f x y = some r ∧ R r s := by
  obtain ⟨r, e, h⟩ := WP_opt w
  cases ex : view s p with
  | none => rw [ex] at e; cases e
  | some x =>
    cases ey : view s q with
    | none => rw [ex, ey] at e; cases e
    | some y =>
      rw [ex, ey] at e
      exact ⟨x, y, r, rfl, rfl, e, h⟩
theorem onD_ok {f : D → Option Rz} {R : Rz → S → Prop} (w : (onD f p s).WP R) : ∃ x r, view s p = some x ∧ f x = some r ∧ R r s := by
  obtain ⟨r, e, h⟩ := WP_opt w
  cases ex : view s p with
  | none => rw [ex] at e; cases e
  | some x =>
    rw [ex] at e
    exact ⟨x, r, rfl, e, h⟩
theorem isI_ok {R : Int → S → Prop} (S0 : Sim K g σ H s) (r : RpP K g σ v p) (w : (isI p s).WP R) : ∃ i, v = .int i ∧ R i s := by
  obtain ⟨i, e, h⟩ := WP_opt w
  cases ex : view s p with
  | none => rw [ex] at e; cases e
  | some x =>
    rw [ex] at e
    cases x with
    | int j =>
      cases e
      exact ⟨_, (view_ok S0 r ex).int, h⟩
    | _ => cases e
theorem isB_ok {R : Bool → S → Prop} (S0 : Sim K g σ H s) (r : RpP K g σ v p) (w : (isB p s).WP R) : ∃ i, v = .bl i ∧ R i s := by
  obtain ⟨i, e, h⟩ := WP_opt w
  cases ex : view s p with
  | none => rw [ex] at e; cases e
  | some x =>
    rw [ex] at e
    cases x with
    | bl j =>
      cases e
      exact ⟨_, (view_ok S0 r ex).bl, h⟩
    | _ => cases e
theorem RpAll.emp {vs : List V} {ds : List D} (h : RpAll K g.F g.ρ vs ds) : vs.isEmpty = ds.isEmpty := by cases h <;> rfl
theorem isT_ok {R : Bool → S → Prop} (S0 : Sim K g σ H s) (r : RpP K g σ v p) (w : (isT p s).WP R) : ∃ k, TruV K v H k ∧ R k s := by
  obtain ⟨i, e, h⟩ := WP_opt w
  cases ex : view s p with
  | none => rw [ex] at e; cases e
  | some x =>
    rw [ex] at e
    have q := view_ok S0 r ex
    cases x with
    | bl j => cases e; cases q; exact ⟨_, rfl, h⟩
    | int j => cases e; cases q; exact ⟨_, rfl, h⟩
    | lst ds =>
      cases e
      obtain ⟨a, xs, rfl, ea, rx⟩ := q
      exact ⟨_, .inl ⟨xs, .inl (.inl ea), by rw [rx.emp]⟩, h⟩
    | tup ds =>
      cases e
      obtain ⟨a, xs, rfl, ea, rx⟩ := Vw.tup S0 q
      exact ⟨_, .inr (.inl ⟨xs, ea, by rw [rx.emp]⟩), h⟩
    | _ => cases e

/-! ### + - * // % ** -/
def opx : BOp → Operator
  | .add => .Add | .sub => .Sub | .mul => .Mult | .fdiv => .FloorDiv | .mod => .Mod | .pow => .Pow
def rAddS : R2 := fun x y H Q => ∃ i j, x = .str i ∧ y = .str j ∧ i.length + j.length ≤ sizeLine ∧ Q (.str (i ++ j)) H
def rBin (K : PySem.W.Frag) : BOp → R2
  | .add => fun x y H Q => rI0 (fun i j => .int (i + j)) x y H Q ∨ rAddS x y H Q ∨ rCat x y H Q ∨ rCatA K x y H Q
  | .sub => rI0 fun i j => .int (i - j)
  | .mul => fun x y H Q => rI CMul (fun i j => .int (i * j)) x y H Q ∨ rRep x y H Q ∨ rRepT K x y H Q
  | .fdiv => rI CDiv fun i j => .int (i / j)
  | .mod => rI (fun _ j => 0 < j) fun i j => .int (i % j)
  | .pow => rI CPow fun i j => .int (i ^ j.toNat)
theorem rBin_ok {X : Cx} : ∀ op, OpR X (binaryOp (opx op)) (rBin X.K op)
  | .add => op_add.or (op_add_str.or (op_cat.or op_catA))
  | .sub => op_sub
  | .mul => op_mul.or (op_rep.or op_repT)
  | .fdiv => op_fdiv
  | .mod => op_mod
  | .pow => op_pow
theorem bin_val {op : BOp} (S0 : Sim K g σ H s) (rx : RpP K g σ v p) (ry : RpP K g σ u q) (w : (onD2 (binO op) p q s).WP (Post K (RpR K) σ Q g)) : rBin K op v u H Q := by
  obtain ⟨x, y, r, ex, ey, e, w⟩ := onD2_ok w
  have vx := view_ok S0 rx ex
  have vy := view_ok S0 ry ey
  cases op with
  | add =>
    unfold binO at e
    simp only at e
    split at e
    · cases e
      exact .inl ⟨_, _, vx.int, vy.int, fin S0 (.int _) w⟩
    · split at e
      · rename_i hl
        cases e
        exact .inr (.inl ⟨_, _, vx.str, vy.str, by rw [sizeLine_eq]; exact hl, fin S0 (.str _) w⟩)
      · cases e
    · split at e
      · rename_i hl
        cases e
        obtain ⟨a, xs, rfl, ea, ra⟩ := vx
        obtain ⟨b, ys, rfl, eb, rb⟩ := vy
        refine .inr (.inr (.inl ⟨a, b, xs, ys, rfl, rfl, ea, eb, ?_, new_lst S0 (ra.append rb) w⟩))
        rw [sizeLine_eq, ra.length, rb.length]; exact hl
      · cases e
    · split at e
      · rename_i as bs hl
        cases e
        obtain ⟨a, xs, rfl, ea, ra⟩ := Vw.tup S0 vx
        obtain ⟨b, ys, rfl, eb, rb⟩ := Vw.tup S0 vy
        refine .inr (.inr (.inr ⟨a, b, xs, ys, rfl, rfl, ea, eb, ?_, fun hx => ?_, fun _ hy => ?_, fun _ _ => new_tup S0 (ra.append rb) w⟩))
        · rw [sizeLine_eq, ra.length, rb.length]; exact hl
        · subst hx
          cases ra
          refine w g _ H (.refl g) S0 ?_
          exact vy
        · subst hy
          cases rb
          rw [List.append_nil] at w
          refine w g _ H (.refl g) S0 ?_
          exact vx
      · cases e
    · cases e
  | sub =>
    unfold binO at e
    simp only at e
    split at e
    · cases e
      exact ⟨_, _, vx.int, vy.int, fin S0 (.int _) w⟩
    · cases e
  | mul =>
    unfold binO at e
    simp only at e
    split at e
    · split at e
      · rename_i hl
        cases e
        refine .inl ⟨_, _, vx.int, vy.int, ?_, fin S0 (.int _) w⟩
        unfold mulOk at hl
        simp only [Bool.or_eq_true, Bool.and_eq_true, decide_eq_true_eq] at hl
        exact hl
      · cases e
    · split at e
      · rename_i hl
        cases e
        simp only [Bool.and_eq_true, decide_eq_true_eq] at hl
        obtain ⟨a, xs, rfl, ea, ra⟩ := vx
        refine .inr (.inl ⟨a, _, xs, rfl, vy.int, ea, by omega, by omega, ?_, new_lst S0 (ra.flat _) w⟩)
        rw [sizeLine_eq, ra.length]; exact hl.2
      · cases e
    · split at e
      · rename_i as j hl
        cases e
        simp only [Bool.and_eq_true, decide_eq_true_eq, Bool.not_eq_true'] at hl
        obtain ⟨a, xs, rfl, ea, ra⟩ := Vw.tup S0 vx
        refine .inr (.inr ⟨a, _, xs, rfl, vy.int, ea, fun z => ?_, hl.1.1.1, hl.1.1.2, ?_, new_tup S0 (ra.flat _) w⟩)
        · subst z
          cases ra
          exact absurd hl.2 (by decide)
        · rw [ra.length]; exact hl.1.2
      · cases e
    · cases e
  | fdiv =>
    unfold binO at e
    simp only at e
    split at e
    · split at e
      · rename_i hl
        cases e
        simp only [Bool.and_eq_true, decide_eq_true_eq] at hl
        exact ⟨_, _, vx.int, vy.int, hl, fin S0 (.int _) w⟩
      · cases e
    · cases e
  | mod =>
    unfold binO at e
    simp only at e
    split at e
    · split at e
      · rename_i hl
        cases e
        simp only [decide_eq_true_eq] at hl
        exact ⟨_, _, vx.int, vy.int, hl, fin S0 (.int _) w⟩
      · cases e
    · cases e
  | pow =>
    unfold binO at e
    simp only at e
    split at e
    · split at e
      · rename_i hl
        cases e
        simp only [Bool.and_eq_true, decide_eq_true_eq] at hl
        exact ⟨_, _, vx.int, vy.int, ⟨hl.1.1, hl.1.2, hl.2⟩, fin S0 (.int _) w⟩
      · cases e
    · cases e

/-! ### comparisons -/
mutual
theorem Rp.dp (hF : Same g.F H) : ∀ {v : V} {d : D} {pd : PyData}, Rp K g.F g.ρ v d → d.pd = some pd → Dp K H v pd
  | _, _, _, .non, e => by simp only [D.pd] at e; cases e; exact .non
  | _, _, _, .bl b, e => by simp only [D.pd] at e; cases e; exact .bl b
  | _, _, _, .int b, e => by simp only [D.pd] at e; cases e; exact .int b
  | _, _, _, .str b, e => by simp only [D.pd] at e; cases e; exact .str b
  | _, _, pd, .lst (ds := ds) h r, e => by
    simp only [D.pd] at e
    cases q : D.pds ds with
    | none => rw [q] at e; cases e
    | some l =>
      rw [q] at e; cases e
      exact .lst (.inl (.inl (hF _ _ h))) (RpAll.dp hF r q)
  | _, _, pd, .tup (ds := ds) h r, e => by
    simp only [D.pd] at e
    cases q : D.pds ds with
    | none => rw [q] at e; cases e
    | some l =>
      rw [q] at e; cases e
      exact .tup (SqT.mono hF h) (RpAll.dp hF r q)
  | _, _, _, .ref _, e => by simp only [D.pd] at e; cases e
  | _, _, _, .scr _, e => by simp only [D.pd] at e; cases e
  | _, _, _, .rng _, e => by simp only [D.pd] at e; cases e
  | _, _, _, .dctK _ _, e => by simp only [D.pd] at e; cases e
  | _, _, _, .dctT _ _ _, e => by simp only [D.pd] at e; cases e
theorem RpAll.dp (hF : Same g.F H) : ∀ {vs : List V} {ds : List D} {l : List PyData}, RpAll K g.F g.ρ vs ds → D.pds ds = some l → DpAll K H vs l
  | _, _, _, .nil, e => by simp only [D.pds] at e; cases e; exact .nil
  | _, _, _, .cons (d := d) (ds := ds) r t, e => by
    simp only [D.pds] at e
    cases q : d.pd with
    | none => rw [q] at e; cases e
    | some z =>
      cases q2 : D.pds ds with
      | none => rw [q, q2] at e; cases e
      | some zs =>
        rw [q, q2] at e; cases e
        exact .cons (Rp.dp hF r q) (RpAll.dp hF t q2)
end
theorem Vw.dp {d : D} {pd : PyData} (S0 : Sim K g σ H s) (h : Vw K g H v d) (e : d.pd = some pd) : Dp K H v pd := by
  cases d with
  | lst ds =>
    obtain ⟨a, xs, rfl, ea, ra⟩ := h
    simp only [D.pd] at e
    cases q : D.pds ds with
    | none => rw [q] at e; cases e
    | some l =>
      rw [q] at e; cases e
      exact .lst (.inl (.inl ea)) (RpAll.dp S0.fz ra q)
  | non => exact Rp.dp S0.fz h e
  | bl _ => exact Rp.dp S0.fz h e
  | int _ => exact Rp.dp S0.fz h e
  | str _ => exact Rp.dp S0.fz h e
  | tup _ => exact Rp.dp S0.fz h e
  | dct _ => simp only [D.pd] at e; cases e
  | ref _ => exact Rp.dp S0.fz h e
  | scr _ => exact Rp.dp S0.fz h e
  | rng _ => exact Rp.dp S0.fz h e

/-! ### keys of dicts -/
mutual
theorem Rp.nk (hF : Same g.F H) : ∀ {v : V} {d : D} {k : NestedKey}, Rp K g.F g.ρ v d → D.nk d = some k → DX.NK K H v k
  | _, _, _, .non, e => by simp only [D.nk] at e; cases e; exact .non
  | _, _, _, .bl b, e => by simp only [D.nk] at e; cases e; exact .bl b
  | _, _, _, .int i, e => by simp only [D.nk] at e; cases e; exact .int i
  | _, _, _, .str x, e => by simp only [D.nk] at e; cases e; exact .str x
  | _, _, _, .lst _ _, e => by simp only [D.nk] at e; cases e
  | _, _, _, .tup (ds := ds) h r, e => by
    simp only [D.nk] at e
    cases q : D.nks ds with
    | none => rw [q] at e; cases e
    | some l => rw [q] at e; cases e; exact .tup (SqT.mono hF h) (RpAll.nk hF r q)
  | _, _, _, .ref _, e => by simp only [D.nk] at e; cases e
  | _, _, _, .scr _, e => by simp only [D.nk] at e; cases e
  | _, _, _, .rng _, e => by simp only [D.nk] at e; cases e
  | _, _, _, .dctK _ _, e => by simp only [D.nk] at e; cases e
  | _, _, _, .dctT _ _ _, e => by simp only [D.nk] at e; cases e
theorem RpAll.nk (hF : Same g.F H) : ∀ {vs : List V} {ds : List D} {l : List NestedKey}, RpAll K g.F g.ρ vs ds → D.nks ds = some l → DX.NKs K H vs l
  | _, _, _, .nil, e => by simp only [D.nks] at e; cases e; exact .nil
  | _, _, _, .cons (d := d) (ds := ds) r t, e => by
    simp only [D.nks] at e
    cases q : d.nk with
    | none => rw [q] at e; cases e
    | some z =>
      cases q2 : D.nks ds with
      | none => rw [q, q2] at e; cases e
      | some zs => rw [q, q2] at e; cases e; exact .cons (Rp.nk hF r q) (RpAll.nk hF t q2)
end
def nkK : Key → NestedKey
  | .inl i => .num i
  | .inr x => .text x
theorem nkK_inj {a b : Key} (h : nkK a = nkK b) : a = b := by
  cases a with
  | inl i => cases b with
    | inl j => cases h; rfl
    | inr y => cases h
  | inr x => cases b with
    | inl j => cases h
    | inr y => cases h; rfl
theorem key_tup {d : D} {k : NestedKey} (h : keyD d = some k) (ht : isTupD d = true) : d.nk = some k ∧ k.depth ≤ 8 ∧ ∃ ds, d = .tup ds := by
  cases d with
  | tup ds =>
    simp only [keyD] at h
    cases q : D.nks ds with
    | none => rw [q] at h; cases h
    | some ks =>
      rw [q] at h
      replace h : (if (NestedKey.tup ks).depth ≤ 8 then some (NestedKey.tup ks) else none) = some k := h
      split at h
      · rename_i hd
        cases h
        exact ⟨by simp only [D.nk, q, Option.map], hd, ds, rfl⟩
      · cases h
  | _ => cases ht
theorem key_sc {F : Hp} {ρ : List Addr} {v : V} {d : D} {k : NestedKey} (r : Rp K F ρ v d) (h : keyD d = some k) (ht : isTupD d = false) : ∃ kk : Key, v = kV kk ∧ nkK kk = k := by
  cases d with
  | int i => cases r; cases h; exact ⟨.inl i, rfl, rfl⟩
  | str i => cases r; cases h; exact ⟨.inr i, rfl, rfl⟩
  | tup _ => cases ht
  | _ => cases h
theorem key_of {F : Hp} {ρ : List Addr} {kk : Key} {d : D} (r : Rp K F ρ (kV kk) d) : keyD d = some (nkK kk) ∧ isTupD d = false := by
  cases kk with
  | inl i =>
    have r : Rp K F ρ (.int i) d := r
    cases r; exact ⟨rfl, rfl⟩
  | inr x =>
    have r : Rp K F ρ (.str x) d := r
    cases r; exact ⟨rfl, rfl⟩
theorem key_ref {F : Hp} {ρ : List Addr} {b : Addr} {d : D} {k : NestedKey} (r : Rp K F ρ (.ref b) d) (h : keyD d = some k) : isTupD d = true := by
  cases r <;> first | rfl | cases h
section
variable {F : Hp} {ρ : List Addr}
theorem lkD_pos {p : D × D} {r : List (D × D)} {k : NestedKey} (e : keyD p.1 = some k) : lkD (p :: r) k = some p.2 := by simp [lkD, List.find?_cons, e]
theorem lkD_neg {p : D × D} {r : List (D × D)} {k : NestedKey} (e : ¬ keyD p.1 = some k) : lkD (p :: r) k = lkD r k := by simp [lkD, List.find?_cons, e]
/-- both hold alike -/
def OptR (K : PySem.W.Frag) (F : Hp) (ρ : List Addr) : Option V → Option D → Prop
  | none, none => True
  | some v, some d => Rp K F ρ v d
  | _, _ => False
theorem OptR.some_ {o : Option V} {d : D} (h : OptR K F ρ o (some d)) : ∃ v, o = some v ∧ Rp K F ρ v d := by
  cases o with
  | none => exact h.elim
  | some v => exact ⟨v, rfl, h⟩
theorem OptR.iss {o : Option V} {d : Option D} (h : OptR K F ρ o d) : o.isSome = d.isSome := by
  cases o <;> cases d <;> first | rfl | exact h.elim
theorem ks_at {ks : List (Key × V)} {kvs : List (D × D)} (r : RpKs K F ρ ks kvs) (kk : Key) : OptR K F ρ (valV ks kk) (lkD kvs (nkK kk)) := by
  match r with
  | .nil => exact True.intro
  | .cons (k := k) (v := v) (vs := vs) (d := d) (e := e) (ds := ds) h1 h2 t =>
    have hk := (key_of h1).1
    by_cases e1 : k = kk
    · rw [valV_pos (p := (k, v)) e1, lkD_pos (p := (d, e)) (by rw [hk, e1])]; exact h2
    · rw [valV_neg (p := (k, v)) e1, lkD_neg (p := (d, e)) (by rw [hk]; exact fun z => e1 (nkK_inj (Option.some.inj z)))]
      exact ks_at t kk
theorem ts_at {qs : List DX.Row} {kvs : List (D × D)} (r : RpTs K F ρ qs kvs) (k : NestedKey) : OptR K F ρ (DX.atQ qs k) (lkD kvs k) := by
  match r with
  | .nil => exact True.intro
  | .cons (k := k1) (b := b) (v := v) (vs := vs) (d := d) (e := e) (ds := ds) h1 h2 h3 t =>
    by_cases e1 : k1 = k
    · have a : DX.atQ ((k1, b, v) :: vs) k = some v := by simp [DX.atQ, List.find?_cons, e1]
      rw [a, lkD_pos (p := (d, e)) (by rw [h2, e1])]; exact h3
    · have a : DX.atQ ((k1, b, v) :: vs) k = DX.atQ vs k := by simp [DX.atQ, List.find?_cons, e1]
      rw [a, lkD_neg (p := (d, e)) (by rw [h2]; exact fun z => e1 (Option.some.inj z))]
      exact ts_at t k
theorem ks_map {ks : List (Key × V)} {kvs : List (D × D)} (r : RpKs K F ρ ks kvs) {kk : Key} {v : V} {e : D} (h2 : Rp K F ρ v e) :
    RpKs K F ρ (ks.map fun kv => if kv.1 = kk then (kv.1, v) else kv) (kvs.map fun p => if keyD p.1 = some (nkK kk) then (p.1, e) else p) := by
  match r with
  | .nil => exact .nil
  | .cons (k := k) (v := v1) (vs := vs) (d := d1) (e := e1) (ds := ds) h3 h4 t =>
    have hk := (key_of h3).1
    rw [List.map_cons, List.map_cons]
    by_cases ek : k = kk
    · rw [if_pos (show ((k, v1) : Key × V).1 = kk from ek), if_pos (show keyD (d1, e1).1 = some (nkK kk) by rw [hk, ek])]
      exact .cons h3 h2 (ks_map t h2)
    · rw [if_neg (show ¬ ((k, v1) : Key × V).1 = kk from ek), if_neg (show ¬ keyD (d1, e1).1 = some (nkK kk) by rw [hk]; exact fun z => ek (nkK_inj (Option.some.inj z)))]
      exact .cons h3 h4 (ks_map t h2)
theorem ks_snoc {ks : List (Key × V)} {kvs : List (D × D)} (r : RpKs K F ρ ks kvs) {kk : Key} {v : V} {d e : D} (h1 : Rp K F ρ (kV kk) d) (h2 : Rp K F ρ v e) : RpKs K F ρ (ks ++ [(kk, v)]) (kvs ++ [(d, e)]) := by
  match r with
  | .nil => exact .cons h1 h2 .nil
  | .cons h3 h4 t => exact .cons h3 h4 (ks_snoc t h1 h2)
theorem ks_put {ks : List (Key × V)} {kvs : List (D × D)} (r : RpKs K F ρ ks kvs) {kk : Key} {v : V} {d e : D} (h1 : Rp K F ρ (kV kk) d) (h2 : Rp K F ρ v e) : RpKs K F ρ (L2.putK ks kk v) (putD kvs (nkK kk) d e) := by
  unfold L2.putK putD
  rw [valV_any, (ks_at r kk).iss]
  by_cases q : (lkD kvs (nkK kk)).isSome = true
  · rw [if_pos q, if_pos q]; exact ks_map r h2
  · rw [if_neg q, if_neg q]; exact ks_snoc r h1 h2
theorem ts_map {qs : List DX.Row} {kvs : List (D × D)} (r : RpTs K F ρ qs kvs) {k : NestedKey} {v : V} {e : D} (h2 : Rp K F ρ v e) :
    RpTs K F ρ (qs.map fun q => if q.1 = k then (q.1, q.2.1, v) else q) (kvs.map fun p => if keyD p.1 = some k then (p.1, e) else p) := by
  match r with
  | .nil => exact .nil
  | .cons (k := k1) (b := b) (v := v1) (vs := vs) (d := d1) (e := e1) (ds := ds) h3 h4 h5 t =>
    rw [List.map_cons, List.map_cons]
    by_cases ek : k1 = k
    · rw [if_pos (show ((k1, b, v1) : DX.Row).1 = k from ek), if_pos (show keyD (d1, e1).1 = some k by rw [h4, ek])]
      exact .cons h3 h4 h2 (ts_map t h2)
    · rw [if_neg (show ¬ ((k1, b, v1) : DX.Row).1 = k from ek), if_neg (show ¬ keyD (d1, e1).1 = some k by rw [h4]; exact fun z => ek (Option.some.inj z))]
      exact .cons h3 h4 h5 (ts_map t h2)
theorem ts_snoc {qs : List DX.Row} {kvs : List (D × D)} (r : RpTs K F ρ qs kvs) {k : NestedKey} {b : Addr} {v : V} {d e : D} (h1 : Rp K F ρ (.ref b) d) (hk : keyD d = some k) (h2 : Rp K F ρ v e) : RpTs K F ρ (qs ++ [(k, b, v)]) (kvs ++ [(d, e)]) := by
  match r with
  | .nil => exact .cons h1 hk h2 .nil
  | .cons h3 h4 h5 t => exact .cons h3 h4 h5 (ts_snoc t h1 hk h2)
theorem ts_put {qs : List DX.Row} {kvs : List (D × D)} (r : RpTs K F ρ qs kvs) {k : NestedKey} {b : Addr} {v : V} {d e : D} (h1 : Rp K F ρ (.ref b) d) (hk : keyD d = some k) (h2 : Rp K F ρ v e) : RpTs K F ρ (DX.putQ qs k b v) (putD kvs k d e) := by
  unfold DX.putQ putD
  rw [(ts_at r k).iss]
  by_cases q : (lkD kvs k).isSome = true
  · rw [if_pos q, if_pos q]; exact ts_map r h2
  · rw [if_neg q, if_neg q]; exact ts_snoc r h1 hk h2
theorem ks_len {ks : List (Key × V)} {kvs : List (D × D)} (r : RpKs K F ρ ks kvs) : ks.length = kvs.length := by
  match r with
  | .nil => rfl
  | .cons _ _ t => rw [List.length_cons, List.length_cons, ks_len t]
theorem ts_len {ks : List DX.Row} {kvs : List (D × D)} (r : RpTs K F ρ ks kvs) : ks.length = kvs.length := by
  match r with
  | .nil => rfl
  | .cons _ _ _ t => rw [List.length_cons, List.length_cons, ts_len t]
end
theorem ts_keys (hF : Same g.F H) {qs : List DX.Row} {kvs : List (D × D)} (r : RpTs K g.F g.ρ qs kvs) : DX.KeysOk K H qs := by
  match r with
  | .nil => exact fun q hq => by cases hq
  | .cons h1 h2 h3 t =>
    intro q hq
    rcases List.mem_cons.mp hq with e | hq
    · subst e
      obtain ⟨k1, k2, _⟩ := key_tup h2 (key_ref h1 h2)
      exact ⟨Rp.nk hF h1 k1, k2⟩
    · exact ts_keys hF t q hq
theorem Vw.rp {d : D} (hd : (∀ ds, d ≠ .lst ds) ∧ ∀ kvs, d ≠ .dct kvs) (h : Vw K g H v d) : Rp K g.F g.ρ v d := by
  cases d with
  | lst ds => exact absurd rfl (hd.1 ds)
  | dct kvs => exact absurd rfl (hd.2 kvs)
  | _ => exact h
theorem key_rp {d : D} {k : NestedKey} (h : keyD d = some k) : (∀ ds, d ≠ .lst ds) ∧ ∀ kvs, d ≠ .dct kvs := by
  cases d <;> first | (cases h; done) | exact ⟨fun _ z => (nomatch z), fun _ z => (nomatch z)⟩
/-- what the dict's object is, for a key that it may be asked for -/
theorem dct_kind {a : Addr} {y : V} {kvs : List (D × D)} {d : D} {k : NestedKey} (r : RpO K g H a (.dct kvs)) (ry : Rp K g.F g.ρ y d) (hk : keyD d = some k) (ho : okK kvs d = true) :
    (isTupD d = false ∧ ∃ ks, H a = some (.dK ks) ∧ RpKs K g.F g.ρ ks kvs) ∨ (isTupD d = true ∧ ∃ qs, DX.IsTD TBs.w H a qs ∧ RpTs K g.F g.ρ qs kvs) := by
  cases ht : isTupD d with
  | false =>
    rcases r with r | ⟨n, qs, e, r⟩
    · exact .inl ⟨rfl, r⟩
    · cases r with
      | nil => exact absurd rfl n
      | @cons k1 b1 v1 vs1 d1 e1 ds1 h1 h2 h3 t =>
        replace ho : (isTupD d1 == isTupD d) = true := ho
        rw [key_ref h1 h2, ht] at ho
        cases ho
  | true =>
    rcases r with ⟨ks, e, r⟩ | ⟨n, qs, e, r⟩
    · cases r with
      | nil => exact .inr ⟨rfl, [], .inr ⟨rfl, e⟩, .nil⟩
      | @cons k1 v1 vs1 d1 e1 ds1 h1 h2 t =>
        replace ho : (isTupD d1 == isTupD d) = true := ho
        rw [(key_of h1).2, ht] at ho
        cases ho
    · exact .inr ⟨rfl, qs, .inl e, r⟩
/-- what a dict holds at a key -/
theorem dct_at {a : Addr} {y : V} {kvs : List (D × D)} {d : D} {k : NestedKey} (S0 : Sim K g σ H s) (r : RpO K g H a (.dct kvs)) (ry : Rp K g.F g.ρ y d) (hk : keyD d = some k) (ho : okK kvs d = true) :
    ∃ o, (DGet H a y o ∨ DX.TGet K TBs.w H a y o) ∧ OptR K g.F g.ρ o (lkD kvs k) := by
  rcases dct_kind r ry hk ho with ⟨ht, ks, e, rk⟩ | ⟨ht, qs, e, rk⟩
  · obtain ⟨kk, rfl, rfl⟩ := key_sc ry hk ht
    exact ⟨_, .inl (DGet.k e), ks_at rk kk⟩
  · obtain ⟨k1, k2, ds, rfl⟩ := key_tup hk ht
    have nk := Rp.nk S0.fz ry k1
    cases ry with
    | tup h1 h2 => exact ⟨_, .inr ⟨qs, k, _, e, ts_keys S0.fz rk, rfl, nk, k2, rfl⟩, ts_at rk k⟩
theorem put_ne (kvs : List (D × D)) (k : NestedKey) (d e : D) : putD kvs k d e ≠ [] := fun h => by
  unfold putD at h
  split at h
  · rename_i q
    have := List.map_eq_nil_iff.mp h
    subst this
    cases q
  · simp at h
/-- a dict changes at a key -/
theorem dct_put {a : Addr} {y z : V} {kvs kvs' : List (D × D)} {d e : D} (S0 : Sim K g σ H s) (r : RpO K g H a (.dct kvs)) (ry : Rp K g.F g.ρ y d) (rz : Rp K g.F g.ρ z e) (h : putKV kvs d e = some kvs') :
    ∃ o, (DPut H a y z (upd H a o) ∨ DX.TPut K TBs.w H a y z (upd H a o)) ∧ RpO K g (upd H a o) a (.dct kvs') := by
  unfold putKV at h
  split at h
  · rename_i ho
    cases hk : keyD d with
    | none => rw [hk] at h; cases h
    | some k =>
      rw [hk] at h
      replace h : (if kvs.length < lim then some (putD kvs k d e) else none) = some kvs' := h
      split at h
      · rename_i hl
        cases h
        have hl : kvs.length < 16777216 := hl
        rcases dct_kind r ry hk ho with ⟨ht, ks, ea, rk⟩ | ⟨ht, qs, ea, rk⟩
        · obtain ⟨kk, rfl, rfl⟩ := key_sc ry hk ht
          exact ⟨_, .inl (DPut.k ea (by rw [sizeLine_eq, ks_len rk]; exact hl)), .inl ⟨_, upd_same, ks_put rk ry rz⟩⟩
        · obtain ⟨k1, k2, ds, rfl⟩ := key_tup hk ht
          have nk := Rp.nk S0.fz ry k1
          cases ry with
          | tup h1 h2 => exact ⟨_, .inr ⟨qs, k, _, ea, ts_keys S0.fz rk, rfl, nk, k2, by rw [sizeLine_eq, ts_len rk]; exact hl, rfl⟩, .inr ⟨put_ne _ _ _ _, _, upd_same, ts_put rk (.tup h1 h2) hk rz⟩⟩
      · cases h
  · cases h
theorem pds_len : ∀ {ds : List D} {l : List PyData}, D.pds ds = some l → l.length = ds.length
  | [], l, e => by simp only [D.pds] at e; cases e; rfl
  | d :: ds, l, e => by
    simp only [D.pds] at e
    cases q : d.pd with
    | none => rw [q] at e; cases e
    | some z =>
      cases q2 : D.pds ds with
      | none => rw [q, q2] at e; cases e
      | some zs =>
        rw [q, q2] at e; cases e
        simp [pds_len q2]
def copx : COp → CmpOp
  | .lt => .Lt | .le => .LtE | .gt => .Gt | .ge => .GtE | .eq => .Eq | .ne => .NotEq | .is => .Is | .isnot => .IsNot | .in_ => .In | .notin => .NotIn
def rInS (neg : Bool) : R2 := fun x y H Q => ∃ i j, x = .str i ∧ y = .str j ∧ Q (.bl (if neg then !(!(Builtin.Str.occurrences j i 0 j.length 1).isEmpty) else !(Builtin.Str.occurrences j i 0 j.length 1).isEmpty)) H
def rInT (K : PySem.W.Frag) : R2 := fun x y H Q => ∃ d ds, Dp K H x d ∧ Dp K H y (.tuple ds) ∧ SeqAt.shaped d = true ∧ SeqAt.shaped (.tuple ds) = true ∧ Q (.bl (ds.any fun z => PyData.eqv z d)) H
def rNotInT (K : PySem.W.Frag) : R2 := fun x y H Q => ∃ d ds, Dp K H x d ∧ Dp K H y (.tuple ds) ∧ SeqAt.shaped d = true ∧ SeqAt.shaped (.tuple ds) = true ∧ Q (.bl (!ds.any fun z => PyData.eqv z d)) H
theorem op_inT {X : Cx} (hu : X.A.units + 65 < cLine) : OpR X (compareOp .In) (rInT X.K) := fun pins s σ H x y v u Q I rx ry ⟨d, ds, hd, he, sd, se, q⟩ => by
  obtain ⟨as, r1⟩ := Dp.reads I d x v hd rx
  obtain ⟨bs, r2⟩ := Dp.reads I (.tuple ds) y u he ry
  refine SeqAt.in_tuple_reads r2 r1 (SeqAt.canLay_of_shaped se) (SeqAt.canLay_of_shaped sd) ?_ ⟨.bl _, H, I, rfl, q⟩
  first | exact room_in_shaped sd hu | (have := SeqAt.depth_of_shaped sd; omega)
theorem op_notInT {X : Cx} (hu : X.A.units + 65 < cLine) : OpR X (compareOp .NotIn) (rNotInT X.K) := fun pins s σ H x y v u Q I rx ry ⟨d, ds, hd, he, sd, se, q⟩ => by
  obtain ⟨as, r1⟩ := Dp.reads I d x v hd rx
  obtain ⟨bs, r2⟩ := Dp.reads I (.tuple ds) y u he ry
  refine SeqAt.notIn_tuple_reads r2 r1 (SeqAt.canLay_of_shaped se) (SeqAt.canLay_of_shaped sd) ?_ ⟨.bl _, H, I, rfl, q⟩
  first | exact room_in_shaped sd hu | (have := SeqAt.depth_of_shaped sd; omega)
def rCmp (K : PySem.W.Frag) : COp → R2
  | .lt => fun x y H Q => rI0 (fun i j => .bl (decide (i < j))) x y H Q ∨ rLtT K x y H Q
  | .le => rI0 fun i j => .bl (decide (i ≤ j))
  | .gt => rI0 fun i j => .bl (decide (j < i))
  | .ge => rI0 fun i j => .bl (decide (j ≤ i))
  | .eq => rEqD K
  | .ne => rNeD K
  | .is => fun x y H Q => rIsB x y H Q ∨ (y = .non ∧ Q (.bl (decide (x = .non))) H)
  | .isnot => fun x y H Q => rNotB x y H Q ∨ (y = .non ∧ Q (.bl (!decide (x = .non))) H)
  | .in_ => fun x y H Q => rInD K x y H Q ∨ (rInT K x y H Q ∨ (rInS false x y H Q ∨ DX.rInDk K TBs.w x y H Q))
  | .notin => fun x y H Q => rNotInD K x y H Q ∨ (rNotInT K x y H Q ∨ (rInS true x y H Q ∨ DX.rNotInDk K TBs.w x y H Q))
theorem rCmp_ok {X : Cx} (hu : X.A.units + 65 < cLine) (hw : X.w = TBs.w) : ∀ op, OpR X (compareOp (copx op)) (rCmp X.K op)
  | .lt => op_lt.or (op_ltT (by omega))
  | .le => op_le
  | .gt => op_gt
  | .ge => op_ge
  | .eq => op_eqD (by omega)
  | .ne => op_neD (by omega)
  | .is => op_isBl.or op_isN
  | .isnot => op_notBl.or op_notN
  | .in_ => (op_inD hu).or ((op_inT hu).or (op_in_str.or (by rw [← hw]; exact DX.op_inDk hu)))
  | .notin => (op_notInD hu).or ((op_notInT hu).or (op_notin_str.or (by rw [← hw]; exact DX.op_notInDk hu)))
theorem cmp_val {op : COp} (S0 : Sim K g σ H s) (rx : RpP K g σ v p) (ry : RpP K g σ u q)
    (w : (onD2 (fun x y => (cmpO op x y).map fun k => .pl (.d (.bl k))) p q s).WP (Post K (RpR K) σ Q g)) : rCmp K op v u H Q := by
  obtain ⟨x, y, r, ex, ey, e, w⟩ := onD2_ok w
  have vx := view_ok S0 rx ex
  have vy := view_ok S0 ry ey
  cases ek : cmpO op x y with
  | none => rw [ek] at e; cases e
  | some k =>
    rw [ek] at e
    cases e
    have w : Q (.bl k) H := fin S0 (.bl k) w
    have eqs : ∀ {k}, eqO x y = some k → ∃ a b, Dp K H v a ∧ Dp K H u b ∧ SeqAt.shaped a = true ∧ SeqAt.shaped b = true ∧ k = PyData.eqv a b := fun {k} e => by
      unfold eqO at e
      split at e
      · rename_i a b ea eb
        split at e
        · rename_i hs
          cases e
          rw [Bool.and_eq_true] at hs
          exact ⟨a, b, Vw.dp S0 vx ea, Vw.dp S0 vy eb, hs.1, hs.2, rfl⟩
        · cases e
      · cases e
    have ins : ∀ {k}, inO x y = some k → (∃ d ds, Dp K H v d ∧ Dp K H u (.list ds) ∧ SeqAt.shaped d = true ∧ SeqAt.shaped (.list ds) = true ∧ k = ds.any fun z => PyData.eqv z d) ∨ (∃ d ds, Dp K H v d ∧ Dp K H u (.tuple ds) ∧ SeqAt.shaped d = true ∧ SeqAt.shaped (.tuple ds) = true ∧ k = ds.any fun z => PyData.eqv z d) ∨ (∃ i j, v = .str i ∧ u = .str j ∧ k = !(Builtin.Str.occurrences j i 0 j.length 1).isEmpty) ∨ ∃ a o, u = .ref a ∧ (DGet H a v o ∨ DX.TGet K TBs.w H a v o) ∧ k = o.isSome := fun {k} e => by
      unfold inO at e
      split at e
      · rename_i ds
        split at e
        · rename_i a bs ea eb
          split at e
          · rename_i hs
            cases e
            rw [Bool.and_eq_true] at hs
            refine .inl ⟨a, bs, Vw.dp S0 vx ea, Vw.dp S0 vy ?_, hs.1, hs.2, rfl⟩
            simp only [D.pd, eb, Option.map]
          · cases e
        · cases e
      · rename_i ds
        split at e
        · rename_i a bs ea eb
          split at e
          · rename_i hs
            cases e
            rw [Bool.and_eq_true] at hs
            refine .inr (.inl ⟨a, bs, Vw.dp S0 vx ea, Vw.dp S0 vy ?_, hs.1, hs.2, rfl⟩)
            simp only [D.pd, eb, Option.map]
          · cases e
        · cases e
      · split at e
        · cases e
          exact .inr (.inr (.inl ⟨_, _, vx.str, vy.str, rfl⟩))
        · cases e
      · rename_i kvs
        split at e
        · rename_i ho
          cases hk : keyD x with
          | none => rw [hk] at e; cases e
          | some kk =>
            rw [hk] at e; cases e
            obtain ⟨a, rfl, ro⟩ := vy
            obtain ⟨o, g1, g2⟩ := dct_at S0 ro (Vw.rp (key_rp hk) vx) hk ho
            exact .inr (.inr (.inr ⟨a, o, rfl, g1, g2.iss.symm⟩))
        · cases e
      · cases e
    cases op with
    | lt =>
      simp only [cmpO] at ek
      split at ek
      · cases ek; exact .inl ⟨_, _, vx.int, vy.int, w⟩
      · split at ek
        · rename_i ns ms e1 e2
          cases ek
          obtain ⟨a, xs, rfl, ea, ra⟩ := Vw.tup S0 vx
          obtain ⟨b, ys, rfl, eb, rb⟩ := Vw.tup S0 vy
          rw [ra.ints e1] at ea
          rw [rb.ints e2] at eb
          exact .inr ⟨a, b, ns, ms, rfl, rfl, ea, eb, w⟩
        · cases ek
      · cases ek
    | le =>
      simp only [cmpO] at ek
      split at ek
      · cases ek; exact ⟨_, _, vx.int, vy.int, w⟩
      · cases ek
    | gt =>
      simp only [cmpO] at ek
      split at ek
      · cases ek; exact ⟨_, _, vx.int, vy.int, w⟩
      · cases ek
    | ge =>
      simp only [cmpO] at ek
      split at ek
      · cases ek; exact ⟨_, _, vx.int, vy.int, w⟩
      · cases ek
    | eq =>
      simp only [cmpO] at ek
      obtain ⟨a, b, h1, h2, h3, h4, rfl⟩ := eqs ek
      exact ⟨a, b, h1, h2, h3, h4, w⟩
    | ne =>
      simp only [cmpO] at ek
      cases e2 : eqO x y with
      | none => rw [e2] at ek; cases ek
      | some k2 =>
        rw [e2] at ek; cases ek
        obtain ⟨a, b, h1, h2, h3, h4, rfl⟩ := eqs e2
        exact ⟨a, b, h1, h2, h3, h4, w⟩
    | is =>
      simp only [cmpO] at ek
      split at ek
      · cases ek; exact .inl ⟨_, _, vx.bl, vy.bl, w⟩
      · cases ek; refine .inr ⟨vy.non, ?_⟩; rw [vx.non]; exact w
      · cases ek; refine .inr ⟨vy.non, ?_⟩; rw [vx.bl]; exact w
      · cases ek; refine .inr ⟨vy.non, ?_⟩; rw [vx.int]; exact w
      · cases ek; refine .inr ⟨vy.non, ?_⟩; obtain ⟨a, xs, rfl, _⟩ := Vw.tup S0 vx; exact w
      · cases ek
    | isnot =>
      simp only [cmpO] at ek
      split at ek
      · cases ek; exact .inl ⟨_, _, vx.bl, vy.bl, w⟩
      · cases ek; refine .inr ⟨vy.non, ?_⟩; rw [vx.non]; exact w
      · cases ek; refine .inr ⟨vy.non, ?_⟩; rw [vx.bl]; exact w
      · cases ek; refine .inr ⟨vy.non, ?_⟩; rw [vx.int]; exact w
      · cases ek; refine .inr ⟨vy.non, ?_⟩; obtain ⟨a, xs, rfl, _⟩ := Vw.tup S0 vx; exact w
      · cases ek
    | in_ =>
      simp only [cmpO] at ek
      rcases ins ek with ⟨d, ds, h1, h2, h3, h4, rfl⟩ | ⟨d, ds, h1, h2, h3, h4, rfl⟩ | ⟨i, j, h1, h2, rfl⟩ | ⟨a, o, h1, h2, rfl⟩
      · exact .inl ⟨d, ds, h1, h2, h3, h4, w⟩
      · exact .inr (.inl ⟨d, ds, h1, h2, h3, h4, w⟩)
      · exact .inr (.inr (.inl ⟨i, j, h1, h2, w⟩))
      · exact .inr (.inr (.inr ⟨a, o, h1, h2, w⟩))
    | notin =>
      simp only [cmpO] at ek
      cases e2 : inO x y with
      | none => rw [e2] at ek; cases ek
      | some k2 =>
        rw [e2] at ek; cases ek
        rcases ins e2 with ⟨d, ds, h1, h2, h3, h4, rfl⟩ | ⟨d, ds, h1, h2, h3, h4, rfl⟩ | ⟨i, j, h1, h2, rfl⟩ | ⟨a, o, h1, h2, rfl⟩
        · exact .inl ⟨d, ds, h1, h2, h3, h4, w⟩
        · exact .inr (.inl ⟨d, ds, h1, h2, h3, h4, w⟩)
        · exact .inr (.inr (.inl ⟨i, j, h1, h2, w⟩))
        · exact .inr (.inr (.inr ⟨a, o, h1, h2, w⟩))

/-! ### subscripts, slices -/
theorem atI_some {α : Type} {xs : List α} {i : Int} {v : α} (h : atI xs i = some v) : ∃ j, ixN xs.length i = some j ∧ xs[j]? = some v := by
  unfold atI at h
  cases e : ixN xs.length i with
  | none => rw [e] at h; cases h
  | some j => rw [e] at h; exact ⟨j, rfl, h⟩
theorem idx_val (S0 : Sim K g σ H s) (rx : RpP K g σ v p) (ry : RpP K g σ u q)
    (w : (onD2 (fun x y => (idxO x y).map fun d => .pl (.d d)) p q s).WP (Post K (RpR K) σ Q g)) : rIx K v u H Q ∨ DX.rIxD K TBs.w v u H Q := by
  obtain ⟨x, y, r, ex, ey, e, w⟩ := onD2_ok w
  have vx := view_ok S0 rx ex
  have vy := view_ok S0 ry ey
  cases ek : idxO x y with
  | none => rw [ek] at e; cases e
  | some d =>
    rw [ek] at e
    cases e
    unfold idxO at ek
    split at ek
    · obtain ⟨a, xs, rfl, ea, ra⟩ := vx
      obtain ⟨j, e1, e2⟩ := atI_some ek
      obtain ⟨z, e3, rz⟩ := ra.get e2
      refine .inl (.inl ⟨a, xs, _, z, rfl, vy.int, .inl (.inl ea), ?_, fin S0 rz w⟩)
      unfold atI
      rw [ra.length, e1]; exact e3
    · obtain ⟨a, xs, rfl, ea, ra⟩ := Vw.tup S0 vx
      obtain ⟨j, e1, e2⟩ := atI_some ek
      obtain ⟨z, e3, rz⟩ := ra.get e2
      refine .inl (.inr (.inl ⟨a, xs, _, z, rfl, vy.int, ea, ?_, fin S0 rz w⟩))
      unfold atI
      rw [ra.length, e1]; exact e3
    · rename_i ns i
      obtain ⟨a, rfl, ea⟩ := Vw.scr S0 vx
      cases e0 : atI ns i with
      | none => rw [e0] at ek; cases ek
      | some m =>
        rw [e0] at ek; cases ek
        obtain ⟨j, e1, e2⟩ := atI_some e0
        refine .inl (.inl ⟨a, _, _, .int m, rfl, vy.int, ea, ?_, fin S0 (.int m) w⟩)
        unfold atI
        rw [List.length_map, e1]
        show (ns.map V.int)[j]? = _
        rw [List.getElem?_map, e2]; rfl
    · rename_i kvs
      split at ek
      · rename_i ho
        cases hk : keyD y with
        | none => rw [hk] at ek; cases ek
        | some kk =>
          rw [hk] at ek
          replace ek : lkD kvs kk = some d := ek
          obtain ⟨a, rfl, ro⟩ := vx
          obtain ⟨o, g1, g2⟩ := dct_at S0 ro (Vw.rp (key_rp hk) vy) hk ho
          rw [ek] at g2
          obtain ⟨z, rfl, rz⟩ := g2.some_
          exact .inr ⟨a, z, rfl, g1, fin S0 rz w⟩
      · cases ek
    · cases ek
theorem cut_rp {xs : List V} {ds : List D} (h : RpAll K g.F g.ρ xs ds) (lo hi : Option Int) : RpAll K g.F g.ρ (cutV xs lo hi) (cutD ds lo hi) := by
  unfold cutV cutD
  rw [h.length]
  exact (h.drop _).take _
theorem cutD_all {ds : List D} {lo hi : Option Int} (h : HT.sIx ds.length 0 lo = 0 ∧ HT.sIx ds.length ds.length hi = ds.length) : cutD ds lo hi = ds := by
  unfold cutD
  rw [h.1, h.2]
  simp
theorem slc_val {lo hi : Option Int} (S0 : Sim K g σ H s) (rx : RpP K g σ v p) (w : (onD (fun x => slcO x lo hi) p s).WP (Post K (RpR K) σ Q g)) : rSlL K v lo hi H Q ∨ rSlA K v lo hi H Q := by
  obtain ⟨x, r, ex, e, w⟩ := onD_ok w
  have vx := view_ok S0 rx ex
  unfold slcO at e
  split at e
  · cases e
    obtain ⟨a, xs, rfl, ea, ra⟩ := vx
    exact .inl ⟨a, xs, rfl, .inl (.inl ea), new_lst S0 (cut_rp ra lo hi) w⟩
  · cases e
    obtain ⟨a, xs, rfl, ea, ra⟩ := Vw.tup S0 vx
    refine .inr ⟨a, xs, rfl, ea, fun h => ?_, fun _ => new_tup S0 (cut_rp ra lo hi) w⟩
    rw [ra.length] at h
    rw [cutD_all h] at w
    exact w g _ H (.refl g) S0 vx
  · cases e

/-! ### built-ins -/
theorem views_ok : ∀ {ps : List Pl} {vs : List V} {xs : List D}, Sim K g σ H s → PPs K g σ vs ps → views s ps = some xs → Paired (Vw K g H) vs xs
  | [], [], xs, _, _, e => by simp only [views] at e; cases e; exact .nil
  | [], _ :: _, _, _, h, _ => h.elim
  | _ :: _, [], _, _, h, _ => h.elim
  | p :: ps, v :: vs, xs, S0, h, e => by
    simp only [views] at e
    cases e1 : view s p with
    | none => rw [e1] at e; cases e
    | some d =>
      cases e2 : views s ps with
      | none => rw [e1, e2] at e; cases e
      | some ds =>
        rw [e1, e2] at e; cases e
        exact .cons (view_ok S0 h.1 e1) (views_ok S0 h.2 e2)
theorem pairs_zip {K : PySem.W.Frag} {F : Hp} {ρ : List Addr} : ∀ {ys : List V} {ds : List D} {ps : List (Int × Int)}, RpAll K F ρ ys ds → pairsD ds = some ps → ∃ zs : List (V × Int × Int), zs.map (·.1) = ys ∧ zs.map (·.2) = ps ∧ ∀ z ∈ zs, Rp K F ρ z.1 (encI2 z.2)
  | _, _, ps, .nil, h => by
    have h : some [] = some ps := h
    cases h
    exact ⟨[], rfl, rfl, fun _ z => (nomatch z)⟩
  | _, _, ps, .cons (v := v) (d := d) (ds := ds) r t, h => by
    unfold pairsD at h
    split at h
    · rename_i he
      cases he
    · rename_i i j r' he
      cases he
      cases q : pairsD ds with
      | none => rw [q] at h; cases h
      | some qs =>
        rw [q] at h
        cases h
        obtain ⟨zs, h1, h2, h3⟩ := pairs_zip t q
        refine ⟨(v, i, j) :: zs, by rw [List.map_cons, h1], by rw [List.map_cons, h2], fun z hz => ?_⟩
        rcases List.mem_cons.mp hz with rfl | hz
        · exact r
        · exact h3 z hz
    · cases h
theorem rp_maps {K : PySem.W.Frag} {F : Hp} {ρ : List Addr} : ∀ {zs : List (V × Int × Int)}, (∀ z ∈ zs, Rp K F ρ z.1 (encI2 z.2)) → RpAll K F ρ (zs.map (·.1)) (zs.map (encI2 ∘ (·.2)))
  | [], _ => .nil
  | z :: zs, h => .cons (h z List.mem_cons_self) (rp_maps fun y hy => h y (List.mem_cons_of_mem _ hy))
theorem insQ_perm (p : Int × Int) : ∀ l, (insQ p l).Perm (p :: l)
  | [] => .refl _
  | q :: r => by
    unfold insQ
    split
    · exact ((insQ_perm p r).cons q).trans (.swap p q r)
    · exact .refl _
theorem srtP_perm : ∀ l, (srtP l).Perm l
  | [] => .refl _
  | p :: l => (insQ_perm p (srtP l)).trans ((srtP_perm l).cons p)
theorem insQ_sorted (p : Int × Int) : ∀ l : List (Int × Int), l.Pairwise (fun p q => SrtO.lexB q p = false) → (insQ p l).Pairwise (fun p q => SrtO.lexB q p = false)
  | [], _ => List.pairwise_singleton _ _
  | q :: r, h => by
    obtain ⟨h1, h2⟩ := List.pairwise_cons.mp h
    unfold insQ
    split
    · rename_i e
      refine List.pairwise_cons.mpr ⟨fun x hx => ?_, insQ_sorted p r h2⟩
      rcases List.mem_cons.mp ((insQ_perm p r).mem_iff.mp hx) with rfl | hx
      · have a := SrtO.lexB_iff.mp e
        refine SrtO.lexB_no.mpr ?_
        omega
      · exact h1 x hx
    · rename_i e
      have e : SrtO.lexB q p = false := by simpa using e
      refine List.pairwise_cons.mpr ⟨fun x hx => ?_, h⟩
      rcases List.mem_cons.mp hx with rfl | hx
      · exact e
      · have a := SrtO.lexB_no.mp e
        have b := SrtO.lexB_no.mp (h1 x hx)
        refine SrtO.lexB_no.mpr ?_
        omega
theorem srtP_sorted : ∀ l, (srtP l).Pairwise (fun p q => SrtO.lexB q p = false)
  | [] => List.Pairwise.nil
  | p :: l => insQ_sorted p _ (srtP_sorted l)
theorem srt_uniq : ∀ {l m : List (Int × Int)}, l.Pairwise (fun p q => SrtO.lexB q p = false) → m.Pairwise (fun p q => SrtO.lexB q p = false) → l.Perm m → l = m
  | [], m, _, _, h => (List.Perm.eq_nil h.symm).symm
  | x :: l, [], _, _, h => by simpa using h.length_eq
  | x :: l, y :: m, hl, hm, h => by
    obtain ⟨a1, a2⟩ := List.pairwise_cons.mp hl
    obtain ⟨b1, b2⟩ := List.pairwise_cons.mp hm
    have e : x = y := by
      rcases List.mem_cons.mp (h.mem_iff.mp (List.mem_cons_self (a := x) (l := l))) with e | hx
      · exact e
      · rcases List.mem_cons.mp (h.mem_iff.mpr (List.mem_cons_self (a := y) (l := m))) with e | hy
        · exact e.symm
        · have p1 := SrtO.lexB_no.mp (b1 x hx)
          have p2 := SrtO.lexB_no.mp (a1 y hy)
          exact Prod.ext (by omega) (by omega)
    subst e
    rw [srt_uniq a2 b2 h.cons_inv]
def bname : Blt → Str
  | .len => "len" | .max2 => "max" | .min2 => "min" | .maxl => "max" | .int => "int" | .all => "all" | .any => "any" | .list => "list" | .tuple => "tuple" | .abs => "abs" | .sum => "sum" | .range => "range" | .sorted => "sorted"
def bval : Blt → Value
  | .len => .builtin "len" | .max2 => .builtin "max" | .min2 => .builtin "min" | .maxl => .builtin "max" | .int => .type "int" | .all => .builtin "all" | .any => .builtin "any" | .list => .type "list" | .tuple => .type "tuple"
  | .abs => .builtin "abs" | .sum => .builtin "sum" | .range => .type "range" | .sorted => .builtin "sorted"
def rInt1 : List V → Hp → VK → Prop := fun xs H Q => (∃ i, xs = [.int i] ∧ Q (.int i) H) ∨ ∃ k, xs = [.bl k] ∧ Q (.int (if k then 1 else 0)) H
def rListOf (K : PySem.W.Frag) : List V → Hp → VK → Prop := fun xs H Q => ∃ p ys, xs = [.ref p] ∧ (SqL K H p ys ∨ SqT K H p ys) ∧ ∀ l, H l = none → Q (.ref l) (upd H l (.lst ys))
def rTupOf (K : PySem.W.Frag) : List V → Hp → VK → Prop := fun xs H Q => ∃ p ys, xs = [.ref p] ∧ ((SqL K H p ys ∧ ∀ l, H l = none → Q (.ref l) (upd H l (.tup ys))) ∨ (SqT K H p ys ∧ Q (.ref p) H))
def rBlt (K : PySem.W.Frag) : Blt → List V → Hp → VK → Prop
  | .len => fun xs H Q => (∃ x n, xs = [x] ∧ LenV K x H n ∧ Q (.int n) H) ∨ DX.rLenDk K TBs.w xs H Q
  | .max2 => fun xs H Q => ∃ i j, xs = [.int i, .int j] ∧ Q (.int (if j > i then j else i)) H
  | .min2 => fun xs H Q => ∃ i j, xs = [.int i, .int j] ∧ Q (.int (if j < i then j else i)) H
  | .maxl => rMax K
  | .int => rInt1
  | .all => rAll K
  | .any => rAny K
  | .list => rListOf K
  | .tuple => rTupOf K
  | .abs => fun xs H Q => ∃ i, xs = [.int i] ∧ Q (.int (if i < 0 then -i else i)) H
  | .sum => rSum K
  | .range => DX.rRange1
  | .sorted => DT.rSortedQ K
theorem rBlt_ok {X : Cx} (hc : X.calm = true) (hw : X.w = TBs.w) : ∀ b, CallR X (bval b) (rBlt X.K b)
  | .len => call_len.or (by rw [← hw]; exact DX.call_lenDk)
  | .max2 => call_max2 hc
  | .min2 => call_min2 hc
  | .maxl => cr_max hc
  | .int => call_int1
  | .all => cr_all hc
  | .any => cr_any hc
  | .list => call_list_of
  | .tuple => call_tuple_of
  | .abs => call_abs
  | .sum => cr_sum hc
  | .range => DX.call_range1
  | .sorted => DT.cr_sortedQ
theorem max_fold (x : Int) : ∀ (r : List Int) (a : Int), (∀ m, m ∈ a :: r → (∀ y, y ∈ a :: r → y ≤ m) → m = r.foldl max a)
  | [], a, m, h, _ => by simpa using h
  | y :: r, a, m, h, k => by
    show m = r.foldl max (max a y)
    refine max_fold x r (max a y) m ?_ fun z hz => ?_
    · have h1 := k a (by simp)
      have h2 := k y (by simp)
      rcases List.mem_cons.mp h with e | h
      · subst e
        have : max m y = m := by omega
        rw [this]; simp
      · rcases List.mem_cons.mp h with e | h
        · subst e
          have : max a m = m := by omega
          rw [this]; simp
        · exact List.mem_cons_of_mem _ h
    · rcases List.mem_cons.mp hz with e | hz
      · subst e
        have h1 := k a (by simp)
        have h2 := k y (by simp)
        omega
      · exact k z (by simp [hz])
theorem blt_val {b : Blt} {vs : List V} {ps : List Pl} (S0 : Sim K g σ H s) (rx : PPs K g σ vs ps) (w : (Out.ofOpt ((views s ps).bind (bltO b)) s).WP (Post K (RpR K) σ Q g)) : rBlt K b vs H Q := by
  obtain ⟨r, e, w⟩ := WP_opt w
  cases ev : views s ps with
  | none => rw [ev] at e; cases e
  | some xs =>
    rw [ev] at e
    have pr := views_ok S0 rx ev
    replace e : bltO b xs = some r := e
    clear ev
    unfold bltO at e
    split at e
    · rename_i x
      obtain ⟨v, rfl, hv⟩ : ∃ v, vs = [v] ∧ Vw K g H v x := by cases pr with | cons a b => cases b; exact ⟨_, rfl, a⟩
      cases en : lenO x with
      | none => rw [en] at e; cases e
      | some n =>
        rw [en] at e; cases e
        have w : Q (.int n) H := fin S0 (.int _) w
        unfold lenO at en
        split at en
        · cases en
          obtain ⟨a, ys, rfl, ea, ra⟩ := hv
          exact .inl ⟨_, _, rfl, .inl ⟨ys, .inl (.inl ea), rfl⟩, by rw [ra.length]; exact w⟩
        · cases en
          obtain ⟨a, ys, rfl, ea, ra⟩ := Vw.tup S0 hv
          exact .inl ⟨_, _, rfl, .inr ⟨ys, ea, rfl⟩, by rw [ra.length]; exact w⟩
        · cases en
          obtain ⟨a, rfl, ea⟩ := Vw.scr S0 hv
          exact .inl ⟨_, _, rfl, .inl ⟨_, ea, rfl⟩, by rw [List.length_map]; exact w⟩
        · rename_i kvs
          cases en
          obtain ⟨a, rfl, ro⟩ := hv
          rcases ro with ⟨ks, e1, rk⟩ | ⟨_, qs, e1, rk⟩
          · exact .inr ⟨a, rfl, .inl ⟨ks, e1, by rw [ks_len rk]; exact w⟩⟩
          · exact .inr ⟨a, rfl, .inr ⟨qs, e1, ts_keys S0.fz rk, by rw [ts_len rk]; exact w⟩⟩
        · cases en
    · cases e
      cases pr with | cons a b => cases b with | cons b c => cases c; exact ⟨_, _, by rw [a.int, b.int], fin S0 (.int _) w⟩
    · cases e
      cases pr with | cons a b => cases b with | cons b c => cases c; exact ⟨_, _, by rw [a.int, b.int], fin S0 (.int _) w⟩
    · rename_i ds
      obtain ⟨v, rfl, hv⟩ : ∃ v, vs = [v] ∧ Vw K g H v (.lst ds) := by cases pr with | cons a b => cases b; exact ⟨_, rfl, a⟩
      obtain ⟨a, ys, rfl, ea, ra⟩ := hv
      cases en : intsD ds with
      | none => rw [en] at e; cases e
      | some ns =>
        rw [en] at e
        have e : (maxI ns).map (fun m => Rz.pl (.d (.int m))) = some r := e
        cases em : maxI ns with
        | none => rw [em] at e; cases e
        | some m =>
          rw [em] at e; cases e
          rw [ra.ints en] at ea
          cases ns with
          | nil => cases em
          | cons x ms =>
            have em : ms.foldl max x = m := Option.some.inj em
            refine ⟨a, _, rfl, .inl (.inl ea), by simp, fun k hk hm => ?_⟩
            rw [max_fold x ms x k hk hm, em]
            exact fin S0 (.int _) w
    · cases e
      cases pr with | cons a b => cases b; exact .inl ⟨_, by rw [a.int], fin S0 (.int _) w⟩
    · cases e
      cases pr with | cons a b => cases b; exact .inr ⟨_, by rw [a.bl], fin S0 (.int _) w⟩
    · rename_i ds
      obtain ⟨v, rfl, hv⟩ : ∃ v, vs = [v] ∧ Vw K g H v (.lst ds) := by cases pr with | cons a b => cases b; exact ⟨_, rfl, a⟩
      obtain ⟨a, ys, rfl, ea, ra⟩ := hv
      cases en : blsD ds with
      | none => rw [en] at e; cases e
      | some ns =>
        rw [en] at e; cases e
        rw [ra.bls en] at ea
        exact ⟨a, _, rfl, .inl (.inl ea), fin S0 (.bl _) w⟩
    · rename_i ds
      obtain ⟨v, rfl, hv⟩ : ∃ v, vs = [v] ∧ Vw K g H v (.lst ds) := by cases pr with | cons a b => cases b; exact ⟨_, rfl, a⟩
      obtain ⟨a, ys, rfl, ea, ra⟩ := hv
      cases en : blsD ds with
      | none => rw [en] at e; cases e
      | some ns =>
        rw [en] at e; cases e
        rw [ra.bls en] at ea
        exact ⟨a, _, rfl, .inl (.inl ea), fin S0 (.bl _) w⟩
    · rename_i ds
      obtain ⟨v, rfl, hv⟩ : ∃ v, vs = [v] ∧ Vw K g H v (.lst ds) := by cases pr with | cons a b => cases b; exact ⟨_, rfl, a⟩
      obtain ⟨a, ys, rfl, ea, ra⟩ := hv
      cases e
      exact ⟨a, ys, rfl, .inl (.inl (.inl ea)), new_lst S0 ra w⟩
    · rename_i ds
      obtain ⟨v, rfl, hv⟩ : ∃ v, vs = [v] ∧ Vw K g H v (.tup ds) := by cases pr with | cons a b => cases b; exact ⟨_, rfl, a⟩
      obtain ⟨a, ys, rfl, ea, ra⟩ := Vw.tup S0 hv
      cases e
      exact ⟨a, ys, rfl, .inr ea, new_lst S0 ra w⟩
    · rename_i ns
      obtain ⟨v, rfl, hv⟩ : ∃ v, vs = [v] ∧ Vw K g H v (.scr ns) := by cases pr with | cons a b => cases b; exact ⟨_, rfl, a⟩
      obtain ⟨a, rfl, ea⟩ := Vw.scr S0 hv
      cases e
      exact ⟨a, _, rfl, .inl ea, new_lst S0 (rpInts ns) w⟩
    · rename_i ds
      obtain ⟨v, rfl, hv⟩ : ∃ v, vs = [v] ∧ Vw K g H v (.lst ds) := by cases pr with | cons a b => cases b; exact ⟨_, rfl, a⟩
      obtain ⟨a, ys, rfl, ea, ra⟩ := hv
      cases e
      exact ⟨a, ys, rfl, .inl ⟨.inl (.inl ea), new_tup S0 ra w⟩⟩
    · rename_i ds
      obtain ⟨v, rfl, hv⟩ : ∃ v, vs = [v] ∧ Vw K g H v (.tup ds) := by cases pr with | cons a b => cases b; exact ⟨_, rfl, a⟩
      obtain ⟨a, ys, rfl, ea, ra⟩ := Vw.tup S0 hv
      cases e
      exact ⟨a, ys, rfl, .inr ⟨ea, w g _ H (.refl g) S0 hv⟩⟩
    · cases e
      cases pr with | cons a b => cases b; exact ⟨_, by rw [a.int], fin S0 (.int _) w⟩
    · rename_i ds
      obtain ⟨v, rfl, hv⟩ : ∃ v, vs = [v] ∧ Vw K g H v (.lst ds) := by cases pr with | cons a b => cases b; exact ⟨_, rfl, a⟩
      obtain ⟨a, ys, rfl, ea, ra⟩ := hv
      cases en : intsD ds with
      | none => rw [en] at e; cases e
      | some ns =>
        rw [en] at e; cases e
        rw [ra.ints en] at ea
        exact ⟨a, _, rfl, .inl (.inl ea), fin S0 (.int _) w⟩
    · rename_i j
      cases e
      cases pr with | cons a b => cases b; exact ⟨j, by rw [a.int], fun p hp => by
        obtain ⟨l, S1⟩ := S0.newF hp (.rng 0 j)
        exact w _ _ _ l S1 (.rng upd_same)⟩
    · rename_i ds
      obtain ⟨v, rfl, hv⟩ : ∃ v, vs = [v] ∧ Vw K g H v (.lst ds) := by cases pr with | cons a b => cases b; exact ⟨_, rfl, a⟩
      obtain ⟨a, ys, rfl, ea, ra⟩ := hv
      cases en : pairsD ds with
      | none => rw [en] at e; cases e
      | some ps =>
        rw [en] at e; cases e
        obtain ⟨zs, z1, z2, z3⟩ := pairs_zip ra en
        refine ⟨a, zs, rfl, by rw [z1]; exact .inl (.inl ea), fun z hz => ?_, fun qs d hp hs hd => ?_⟩
        · have r := z3 z hz
          obtain ⟨v, p⟩ := z
          obtain ⟨t, xs, rfl, h1, h2⟩ : ∃ t xs, v = .ref t ∧ SqT K g.F t xs ∧ RpAll K g.F g.ρ xs [.int p.1, .int p.2] := by
            cases r with
            | tup h1 h2 => exact ⟨_, _, rfl, h1, h2⟩
          refine ⟨t, rfl, ?_⟩
          have : xs = [.int p.1, .int p.2] := by
            cases h2 with
            | cons a b => cases b with
              | cons b c => cases c; cases a; cases b; rfl
          rw [this] at h1
          exact SqT.mono S0.fz h1
        · have e1 : qs.map (·.2) = srtP ps := by
            refine srt_uniq hs (srtP_sorted ps) ?_
            have h1 := hp.map (·.2)
            rw [z2] at h1
            exact h1.trans (srtP_perm ps).symm
          have r : RpAll K g.F g.ρ (qs.map (·.1)) ((srtP ps).map encI2) := by
            rw [← e1, List.map_map]
            exact rp_maps fun z hz => z3 z (hp.mem_iff.mp hz)
          exact new_lst S0 r w d hd
    · cases e
end
end DL
end

section
set_option maxRecDepth 100000
set_option maxHeartbeats 8000000
/-! DL5: which Python text a program of the language stands for; expressions keep to what they compute. -/
namespace DL
open PySem PySem.Spec PyProof.Rows L2
variable [TBs]

def notStar : Expr → Bool
  | .Starred _ _ => false
  | _ => true
def notSlice : Expr → Bool
  | .Slice _ _ _ _ => false
  | _ => true
def notSet : Expr → Bool
  | .Set _ _ _ => false
  | _ => true
def notIf : Expr → Bool
  | .IfExp _ _ _ _ => false
  | _ => true
def notCall : Expr → Bool
  | .Call _ _ _ _ => false
  | _ => true
theorem attr_base {o : Expr} {m : Str} {env : Env} (h : notCall o = true) : attributeBase o m env (eval o env) = eval o env := by
  cases o <;> first | rfl | cases h
def notDct : D → Bool
  | .dct _ => false
  | _ => true
def isFr : Expr → Bool
  | .BinOp _ _ _ _ => true
  | .List _ _ => true
  | .Subscript _ _ _ => true
  | .Call _ _ _ _ => true
  | _ => false
def isTupX : Expr → Bool
  | .Tuple _ _ _ => true
  | _ => false
theorem star_cons {e : Expr} {es : List Expr} {env : Env} (h : notStar e = true) : starEach (e :: es) env = (false, eval e env) :: starEach es env := by
  cases e <;> first | rfl | cases h
theorem star_none {env : Env} {pos : Pos} : ∀ {es : List Expr}, es.all notStar = true → (backTo pos (starEach es env)).any (·.1) = false
  | [], _ => rfl
  | e :: es, h => by
    rw [List.all_cons, Bool.and_eq_true] at h
    rw [star_cons h.1]
    show (false || (backTo pos (starEach es env)).any (·.1)) = false
    rw [star_none h.2]; rfl
theorem plain_ix {e : Expr} (h : notSlice e = true) : PlainIx e := by
  cases e <;> first | exact fun _ _ => rfl | cases h
theorem set_iter {e : Expr} {env : Env} (h : notSet e = true) : ∀ x, foldedSetIterable e env x = pure x := by
  cases e <;> first | exact fun _ => rfl | cases h

/-- what is known of the classes: a method's def; that a class has no attribute of a name; the def that makes an instance -/
structure KC where
  ms : String → Str → String → Bool
  na : String → Str → Bool
  mi : String → String → Bool
structure EC where
  N : List Str
  sc : Scope
  fn : Str → Bool
  fs : String → Bool
  gc : Str → D → Bool
  kc : KC
  rm : Bool := false
def EC.glob (c : EC) (x : Str) : Bool := (match c.sc.names.lookup x with | some .globalImplicit => true | _ => false) && !(x == ("__debug__" : Str))
def EC.vis (c : EC) (x : Str) : Bool := (match c.sc.names.lookup x with | some .local => true | some .cell => true | some .free => true | _ => false) && !(x == ("__debug__" : Str)) && !(x == ("__classdict__" : Str))
def EC.loc (c : EC) (x : Str) : Bool := match c.sc.names.lookup x with | some .local => true | some .cell => c.fn x | _ => false
def EC.blk (c : EC) (scope : Scope) : EC := { c with sc := relS scope c.sc, fn := fun x => scope.names.lookup x == some .cell, rm := false }
def EC.gx (c : EC) (scope : Scope) : EC := { c with sc := scope, fn := fun _ => false, rm := false }
def gxC (N : List Str) (sc scope : Scope) (own : List (Str × Nat)) : Bool := blkC N sc scope own && !scope.isCoroutine && (scope.names.all fun y => match y.2 with | .cell => false | _ => true) && (match scope.names.lookup (".0" : Str) with | some .local => true | _ => false) && decide ((".0" : Str) ∉ N)
theorem gxS_by {N : List Str} {sc scope : Scope} {own : List (Str × Nat)} (h : gxC N sc scope own = true) : GX.GxS N sc scope own := by
  unfold gxC at h
  simp only [Bool.and_eq_true, List.all_eq_true, decide_eq_true_eq, Bool.not_eq_true'] at h
  obtain ⟨⟨⟨⟨h1, h2⟩, h3⟩, h4⟩, h5⟩ := h
  have b := blkOk_by h1
  refine ⟨b.kind, h2, fun y hy e => ?_, ?_, h5, b.ix, b.free, fun y hy e => b.own y hy (.inl e)⟩
  · have := h3 y hy
    rw [e] at this; cases this
  · split at h4
    · assumption
    · cases h4
def notList : Expr → Bool
  | .List _ _ => false
  | _ => true
theorem gen_fold {e : Expr} {env : Env} (h : notSet e = true) (h2 : notList e = true) : ∀ x, genFold e env x = pure x := by
  cases e <;> first | exact fun _ => rfl | (cases h; done) | (cases h2; done)
def ownN (N : List Str) (own : List Nat) : List (Str × Nat) := own.map fun i => (N.getD i ("" : Str), i)

mutual
def Tg.ix : Tg → List Nat
  | .name i => [i]
  | .tup ts => ts.ix
def Tgs.ix : Tgs → List Nat
  | .nil => []
  | .cons t ts => t.ix ++ ts.ix
end
mutual
def erG (c : EC) : Tg → Expr → Bool
  | .name i, x => match x with
    | .Name y _ => c.N[i]? == some y && c.loc y
    | _ => false
  | .tup ts, x => match x with
    | .Tuple xs _ _ => erGs c ts xs
    | _ => false
def erGs (c : EC) : Tgs → List Expr → Bool
  | .nil, x => match x with
    | [] => true
    | _ => false
  | .cons t ts, x => match x with
    | [] => false
    | y :: ys => notStar y && erG c t y && erGs c ts ys
end

mutual
def erE (c : EC) : E → Expr → Bool
  | .var i, x => match x with
    | .Name y _ => c.N[i]? == some y && c.vis y
    | _ => false
  | .int i, x => match x with
    | .Constant (.int j) _ _ => i == j
    | _ => false
  | .bl i, x => match x with
    | .Constant (.bool j) _ _ => i == j
    | _ => false
  | .non, x => match x with
    | .Constant .none _ _ => true
    | _ => false
  | .str i, x => match x with
    | .Constant (.str j) _ _ => i == j
    | _ => false
  | .glob y d, x => match x with
    | .Name z _ => y == z && c.glob z && c.gc z d && notDct d
    | _ => false
  | .bin op a b, x => match x with
    | .BinOp l o r _ => o == opx op && erE c a l && erE c b r
    | _ => false
  | .neg a, x => match x with
    | .UnaryOp .USub l _ => erE c a l
    | _ => false
  | .cmp op a b, x => match x with
    | .Compare l [o] [r] _ => o == copx op && erE c a l && erE c b r && !behindInMarks o r
    | _ => false
  | .chain op op2 a b d, x => match x with
    | .Compare l [o, o2] [r, r2] _ => o == copx op && o2 == copx op2 && erE c a l && erE c b r && erE c d r2 && !lastMarks [o, o2] [r, r2]
    | _ => false
  | .bool w as, x => match x with
    | .BoolOp .And xs _ => w && erA c as xs && xs.all notIf && !xs.isEmpty
    | .BoolOp .Or xs _ => !w && erA c as xs && xs.all notIf && !xs.isEmpty
    | _ => false
  | .not a, x => match x with
    | .UnaryOp .Not l _ => erE c a l && notIf l
    | _ => false
  | .ite d a b, x => match x with
    | .IfExp t l r _ => erE c d t && erE c a l && erE c b r && notIf t
    | _ => false
  | .idx a b, x => match x with
    | .Subscript l r _ => erE c a l && erE c b r && notSlice r
    | _ => false
  | .slc a lo hi, x => match x with
    | .Subscript l (.Slice u v none _) _ => erE c a l && (match u with | none => isHole lo | some e => !isHole lo && erE c lo e) && (match v with | none => isHole hi | some e => !isHole hi && erE c hi e)
    | _ => false
  | .hole, _ => false
  | .tup as, x => match x with
    | .Tuple xs _ _ => erA c as xs
    | _ => false
  | .lst as, x => match x with
    | .List xs _ => erA c as xs
    | _ => false
  | .call f as, x => match x with
    | .Call (.Name y _) xs [] _ => y == Str.ofString f && c.glob y && c.fs f && erA c as xs
    | _ => false
  | .blt b as, x => match x with
    | .Call (.Name y _) (e :: es) [] _ => y == bname b && c.glob y && erA c as (e :: es)
    | _ => false
  | .lrg1 a, x => match x with
    | .Call (.Name y _) [.Call (.Name z _) [e] [] _] [] _ => y == ("list" : Str) && z == ("range" : Str) && c.glob y && c.glob z && notStar e && erE c a e
    | _ => false
  | .lrg2 a b, x => match x with
    | .Call (.Name y _) [.Call (.Name z _) [e, f] [] _] [] _ => y == ("list" : Str) && z == ("range" : Str) && c.glob y && c.glob z && notStar e && notStar f && erE c a e && erE c b f
    | _ => false
  | .lc own t it ifs elt, x => match x with
    | .ListComp el [⟨tg, iter, is, 0⟩] scope _ => blkC c.N c.sc scope (ownN c.N own) && erI c it tg iter && notSet iter && erG (c.blk scope) t tg && (t.ix.all fun i => own.contains i) && erA (c.blk scope) ifs is && is.all notIf && decide (is.length ≤ 1) && erE (c.blk scope) elt el
    | _ => false
  | .lc2 own vs t it ifs t1 it1 ifs1 elt, x => match x with
    | .ListComp el [⟨tg, iter, is, 0⟩, ⟨tg1, iter1, is1, 0⟩] scope _ => (blkC c.N c.sc scope (ownN c.N own) && (vs.all fun i => own.contains i) && erI c it tg iter && notSet iter && erG (c.blk scope) t tg && (t.ix.all fun i => own.contains i) && erA (c.blk scope) ifs is && is.all notIf && decide (is.length ≤ 1)) &&
        (erI (c.blk scope) it1 tg1 iter1 && notSet iter1 && erG (c.blk scope) t1 tg1 && (t1.ix.all fun i => vs.contains i) && erA (c.blk scope) ifs1 is1 && is1.all notIf && decide (is1.length ≤ 1) && erE (c.blk scope) elt el)
    | _ => false
  | .dc own t it ifs key elt, x => match x with
    | .DictComp kx vx [⟨tg, iter, is, 0⟩] scope _ => blkC c.N c.sc scope (ownN c.N own) && erI c it tg iter && notSet iter && erG (c.blk scope) t tg && (t.ix.all fun i => own.contains i) && erA (c.blk scope) ifs is && is.all notIf && decide (is.length ≤ 1) && erE (c.blk scope) key kx && erE (c.blk scope) elt vx
    | _ => false
  | .gx stop own t it ifs elt, x => match x with
    | .Call (.Name y _) [.GeneratorExp el [⟨tg, iter, is, 0⟩] scope _] [] _ => c.rm && y == (if stop then ("any" : Str) else ("all" : Str)) && c.glob y && gxC c.N c.sc scope (ownN c.N own) && erI c it tg iter && notSet iter && notList iter && erG (c.gx scope) t tg && (t.ix.all fun i => own.contains i) && erA (c.gx scope) ifs is && is.all notIf && decide (is.length ≤ 1) && erE (c.gx scope) elt el
    | _ => false
  | .fld cs o f, x => match x with
    | .Attribute l g _ => g == f && erE c o l && notCall l && cs.all fun k => c.kc.na k f
    | _ => false
  | .meth tab o m as, x => match x with
    | .Call (.Attribute l g ap) xs [] cp => g == m && erE c o l && notCall l && (tab.all fun q => c.kc.ms q.1 m q.2) && ap.endLine == cp.line && decide (xs.length < 30) && erA c as xs
    | _ => false
  | .new k f as, x => match x with
    | .Call (.Name y _) (e :: es) [] _ => y == Str.ofString k && c.glob y && c.kc.mi k f && c.rm && erA c as (e :: es)
    | _ => false
  | .gmax own t it ifs elt, x => match x with
    | .Call (.Name y _) [.GeneratorExp el [⟨tg, iter, is, 0⟩] scope _] [] _ => c.rm && y == ("max" : Str) && c.glob y && gxC c.N c.sc scope (ownN c.N own) && erI c it tg iter && notSet iter && notList iter && erG (c.gx scope) t tg && (t.ix.all fun i => own.contains i) && erA (c.gx scope) ifs is && is.all notIf && decide (is.length ≤ 1) && erE (c.gx scope) elt el
    | _ => false
  | .kin neg a y kvs, x => match x with
    | .Compare l [o] [.Name z p] _ => o == (if neg then .NotIn else .In) && erE c a l && z == y && c.glob z && c.gc z (.dct kvs)
    | _ => false
  | .kix y kvs a, x => match x with
    | .Subscript (.Name z _) r _ => erE c a r && z == y && c.glob z && c.gc z (.dct kvs) && notSlice r
    | _ => false
  | .kget y kvs a b, x => match x with
    | .Call (.Attribute (.Name z _) m ap) [u, v] [] cp => m == ("get" : Str) && erE c a u && erE c b v && z == y && c.glob z && c.gc z (.dct kvs) && notStar u && notStar v && ap.endLine == cp.line
    | _ => false
  | .dnew, x => match x with
    | .Dict [] [] _ => true
    | _ => false
  | .trg1 a, x => match x with
    | .Call (.Name y _) [.Call (.Name z _) [e] [] _] [] _ => y == ("tuple" : Str) && z == ("range" : Str) && c.glob y && c.glob z && notStar e && erE c a e
    | _ => false
  | .pop o, x => match x with
    | .Call (.Attribute ox m ap) [] [] cp => m == ("pop" : Str) && erE c o ox && notCall ox && ap.endLine == cp.line
    | _ => false
  | .popAt o i, x => match x with
    | .Call (.Attribute ox m ap) [y] [] cp => m == ("pop" : Str) && erE c o ox && erE c i y && notCall ox && notStar y && ap.endLine == cp.line
    | _ => false
  | .isi a T, x => match x with
    | .Call (.Name f _) [y, .Name z _] [] _ => f == ("isinstance" : Str) && c.glob f && erE c a y && notStar y && z == T && c.glob z && (T == ("bool" : Str) || T == ("str" : Str) || T == ("tuple" : Str))
    | _ => false
  | .fresh e, x => erE c e x && isFr x
  | .index o i, x => match x with
    | .Call (.Attribute ox m ap) [y] [] cp => m == ("index" : Str) && erE c o ox && erE c i y && notCall ox && notStar y && ap.endLine == cp.line
    | _ => false
def erA (c : EC) : A → List Expr → Bool
  | .nil, x => match x with
    | [] => true
    | _ => false
  | .cons a as, x => match x with
    | [] => false
    | y :: ys => notStar y && erE c a y && erA c as ys
def erI (c : EC) : I → Expr → Expr → Bool
  | .seq e, _, x => erE c e x
  | .rng1 a, _, x => match x with
    | .Call (.Name y _) [e] [] _ => y == ("range" : Str) && c.glob y && notStar e && erE c a e
    | _ => false
  | .rng2 a b, _, x => match x with
    | .Call (.Name y _) [e, f] [] _ => y == ("range" : Str) && c.glob y && notStar e && notStar f && erE c a e && erE c b f
    | _ => false
  | .enum a, tg, x => match x with
    | .Call (.Name y _) [e] [] _ => isTupX tg && y == ("enumerate" : Str) && c.glob y && notStar e && erE c a e
    | _ => false
  | .zip a b, tg, x => match x with
    | .Call (.Name y _) [e, f] [] _ => isTupX tg && y == ("zip" : Str) && c.glob y && notStar e && notStar f && erE c a e && erE c b f
    | _ => false
  | .rev a, _, x => match x with
    | .Call (.Name y _) [e] [] _ => y == ("reversed" : Str) && c.glob y && notStar e && erE c a e
    | _ => false
  | .rng3 a b d, _, x => match x with
    | .Call (.Name y _) [e, f, g] [] _ => y == ("range" : Str) && c.glob y && notStar e && notStar f && notStar g && erE c a e && erE c b f && erE c d g
    | _ => false
end

/-! ### a call of a def -/
def spRun (K : PySem.W.Frag) (cf : CF) (f : String) (np : Nat) : Sp := fun vs H Q _ => vs.length = np ∧ ∃ g mem ds, RpAll K g.F g.ρ vs ds ∧ Sim K g [] H ⟨[], mem⟩ ∧ (∀ a o, H a = some o → a ∉ g.ρ → a ∉ TBs.tb → g.pv a = some o) ∧
  (cf f ds mem).WP fun d mem' => ∀ g' v H', g.le g' → Sim K g' [] H' ⟨[], mem'⟩ → Rp K g'.F g'.ρ v d → Q v H'
structure OkFn (X : Cx) (cf : CF) (rm : Bool) (f : String) : Prop where
  ex : ∃ (k : Nat) (fa : Addr) (fd : FuncData) (ps : List Str), FnOk X.prog X.w X.K X.mg X.base CX0 k fa fd ps (spRun X.K cf f ps.length) ∧ Room (k + rm.toNat) X.A ∧ X.mg (Str.ofString f) = some (.ref fa) ∧ PySem.W.keepIn X.K (.ref fa) = true ∧ Binds X.K fd ps [] ∧
    ∀ ds m Q, (cf f ds m).WP Q → ds.length = ps.length
/-- a def that is the method of a class -/
structure OkMe (X : Cx) (cf : CF) (rm : Bool) (c : String) (m : Str) (f : String) : Prop where
  ex : ∃ (k : Nat) (fa : Addr) (fd : FuncData) (ps : List Str), FnOk X.prog X.w X.K X.mg X.base CX0 k fa fd ps (spRun X.K cf f ps.length) ∧ Room (k + rm.toNat) X.A ∧ Cls X.K (TBs.ca c) ∧ Meth X.K (TBs.ca c) m fa ∧ Binds X.K fd ps [] ∧
    ∀ ds m Q, (cf f ds m).WP Q → ds.length = ps.length
/-- a class that is made by a def -/
structure OkMk (X : Cx) (cf : CF) (rm : Bool) (c f : String) : Prop where
  ex : ∃ (k : Nat) (fa : Addr) (fd : FuncData) (ps : List Str), FnOk X.prog X.w X.K X.mg X.base CX0 k fa fd ps (spRun X.K cf f ps.length) ∧ Room (k + rm.toNat) X.A ∧ X.mg (Str.ofString c) = some (.ref (TBs.ca c)) ∧ Mk X.K (TBs.ca c) fa ∧ Binds X.K fd ps [] ∧
    ∀ ds m Q, (cf f ds m).WP Q → ds.length = ps.length
/-- a dict of the module with text keys -/
def KdOk (K : PySem.W.Frag) (w : World) (a : Addr) (kvs : List (D × D)) : Prop :=
  ∃ es n, KDict K w a es n ∧ (∀ z d, lkS kvs z = some d → ∃ v u, PySem.W.nsIn K a z = some (some u) ∧ RelV v u ∧ ∀ F ρ, Rp K F ρ v d) ∧ ∀ z, lkS kvs z = none → PySem.W.nsIn K a z = some none
/-- what a name of the module holds -/
def GcOk (K : PySem.W.Frag) (w : World) (mg : Str → Option Value) (x : Str) : D → Prop
  | .dct kvs => ∃ a, mg x = some (.ref a) ∧ KdOk K w a kvs
  | d => ∃ v u, mg x = some u ∧ RelV v u ∧ ∀ F ρ, Rp K F ρ v d
structure XOk (X : Cx) (c : EC) (cf : CF) : Prop where
  N : X.N = c.N
  sc : X.env.scope = c.sc
  fn : X.fn = c.fn
  xe : X.xe = fun _ _ => False
  nd : X.N.Nodup
  calm : X.calm = true
  w : X.w = TBs.w
  hr : Room 1 X.A
  bn : ∀ b, X.mg (bname b) = none
  range : X.mg "range" = none
  enum : X.mg "enumerate" = none
  zip : X.mg "zip" = none
  rev : X.mg "reversed" = none
  gc : ∀ x d, c.gc x d = true → GcOk X.K X.w X.mg x d
  ty : X.mg "isinstance" = none ∧ X.mg "bool" = none ∧ X.mg "str" = none ∧ X.mg "tuple" = none
  fs : ∀ f, c.fs f = true → OkFn X cf c.rm f
  ms : ∀ k m f, c.kc.ms k m f = true → OkMe X cf c.rm k m f
  na : ∀ k f, c.kc.na k f = true → Cls X.K (TBs.ca k) ∧ NoAttr X.K (TBs.ca k) f
  mi : ∀ k f, c.kc.mi k f = true → OkMk X cf c.rm k f
  tb : c.rm = true → Room 2 X.A ∧ ∃ cc P, X.env.code = .ref cc ∧ GxR.TabB X.base X.mg cc P ∧ P ∈ TBs.tb
section
variable {X : Cx} {c : EC} {cf : CF}
theorem XOk.hu (h : XOk X c cf) : X.A.units + 65 < cLine := by have := h.hr.un; omega
theorem XOk.ixD (h : XOk X c cf) : IxR X (DX.rIxD X.K TBs.w) := by rw [← h.w]; exact DX.ix_dict h.hu
theorem XOk.setD (h : XOk X c cf) : PSet X (DX.rSetD X.K TBs.w) := by rw [← h.w]; exact DX.set_dict h.hu
theorem XOk.glob (h : XOk X c cf) {x : Str} (e : c.glob x = true) : Gl X x ∧ (x == ("__debug__" : Str)) = false := by
  unfold EC.glob at e
  rw [Bool.and_eq_true] at e
  refine ⟨?_, by simpa using e.2⟩
  show X.env.scope.names.lookup x = _
  rw [h.sc]
  have e1 := e.1
  split at e1
  · assumption
  · cases e1
theorem XOk.vis (h : XOk X c cf) {x : Str} (e : c.vis x = true) : Vis X.env.scope x ∧ (x == ("__debug__" : Str)) = false ∧ (x == ("__classdict__" : Str)) = false := by
  unfold EC.vis at e
  rw [Bool.and_eq_true, Bool.and_eq_true] at e
  refine ⟨?_, by simpa using e.1.2, by simpa using e.2⟩
  rw [h.sc]
  have e1 := e.1.1
  split at e1
  · exact .inl (by assumption)
  · exact .inr (.inl (by assumption))
  · exact .inr (.inr (by assumption))
  · cases e1
theorem XOk.loc (h : XOk X c cf) {x : Str} (e : c.loc x = true) : Loc X.env.scope x ∧ (X.fn x = true ∨ X.env.scope.names.lookup x = some .local) := by
  unfold EC.loc at e
  rw [h.sc, h.fn]
  split at e
  · exact ⟨.inl (by assumption), .inr (by assumption)⟩
  · exact ⟨.inr (by assumption), .inl e⟩
  · cases e
/-- within a comprehension -/
theorem XOk.blk (h : XOk X c cf) (s : Shared) (H : Hp) (scope : Scope) (C : Addr) (cl : List (Str × Addr)) (fp : List Addr) : XOk (X.blk s H scope (compEnvC scope cl C X.env) fp) (c.blk scope) cf where
  N := h.N
  sc := by
    show relS scope X.env.scope = relS scope c.sc
    rw [h.sc]
  fn := rfl
  xe := rfl
  nd := h.nd
  calm := h.calm
  w := h.w
  hr := h.hr
  bn := h.bn
  range := h.range
  enum := h.enum
  zip := h.zip
  rev := h.rev
  gc := h.gc
  ty := h.ty
  fs := fun f e => by
    obtain ⟨k, fa, fd, ps, h1, h2, r⟩ := (h.fs f e).ex
    exact ⟨k, fa, fd, ps, h1, h2.mono (Nat.le_add_right _ _), r⟩
  ms := fun k m f e => by
    obtain ⟨k, fa, fd, ps, h1, h2, r⟩ := (h.ms k m f e).ex
    exact ⟨k, fa, fd, ps, h1, h2.mono (Nat.le_add_right _ _), r⟩
  na := h.na
  mi := fun k f e => by
    obtain ⟨k, fa, fd, ps, h1, h2, r⟩ := (h.mi k f e).ex
    exact ⟨k, fa, fd, ps, h1, h2.mono (Nat.le_add_right _ _), r⟩
  tb := fun e => nomatch e
/-- within a generator -/
theorem XOk.gx (h : XOk X c cf) (hrm : c.rm = true) (scope : Scope) (A : Around) (s : Shared) (H : Hp) (C : Addr) (code : Value) (cl : List (Str × Addr)) (fp : List Addr) (pn : List (Addr × Obj)) (e1 : A.handled = X.A.handled) (e2 : A.depth = X.A.depth + 1) (e3 : A.units = X.A.units + 5) :
    XOk (GX.cxG X A s H (genEnv scope cl C code builtinsNs X.env) fp pn) (c.gx scope) cf := by
  have rm : ∀ k, Room (k + 1) X.A → Room k A := fun k r => ⟨e1.trans r.hd, by have := r.dp; omega, by have := r.un; omega⟩
  refine ⟨h.N, rfl, rfl, rfl, h.nd, h.calm, h.w, rm 1 (h.tb hrm).1, h.bn, h.range, h.enum, h.zip, h.rev, h.gc, h.ty, fun f e => ?_, fun k m f e => ?_, h.na, fun k f e => ?_, fun e => nomatch e⟩
  · obtain ⟨k, fa, fd, ps, q1, q2, r⟩ := (h.fs f e).ex
    rw [hrm] at q2
    exact ⟨k, fa, fd, ps, q1, rm k q2, r⟩
  · obtain ⟨k, fa, fd, ps, q1, q2, r⟩ := (h.ms k m f e).ex
    rw [hrm] at q2
    exact ⟨k, fa, fd, ps, q1, rm k q2, r⟩
  · obtain ⟨k, fa, fd, ps, q1, q2, r⟩ := (h.mi k f e).ex
    rw [hrm] at q2
    exact ⟨k, fa, fd, ps, q1, rm k q2, r⟩
end

/-! ### targets -/
def RdG (K : PySem.W.Frag) (t : Tg) : TG := fun v σ H Q => ∃ g s d s', Sim K g σ H s ∧ Rp K g.F g.ρ v d ∧ asgT t d s = some s' ∧
  ∀ σ', Sim K g σ' H s' → (∀ j, j ∉ t.ix → σ'[j]? = σ[j]?) → Q σ' H
def RdGs (K : PySem.W.Frag) (ts : Tgs) : TGs := fun vs σ H Q => ∃ g s ds s', Sim K g σ H s ∧ RpAll K g.F g.ρ vs ds ∧ asgTs ts ds s = some s' ∧
  ∀ σ', Sim K g σ' H s' → (∀ j, j ∉ ts.ix → σ'[j]? = σ[j]?) → Q σ' H
theorem PG.imp {X : Cx} {e : Expr} {t t' : TG} (h : PG X e t) (i : ∀ v σ H Q, t' v σ H Q → t v σ H Q) : PG X e t' := ⟨fun pins s σ H v u Q I r q => h.run pins s σ H v u Q I r (i v σ H Q q)⟩
theorem PGs.imp {X : Cx} {e : List Expr} {t t' : TGs} (h : PGs X e t) (i : ∀ v σ H Q, t' v σ H Q → t v σ H Q) : PGs X e t' := ⟨fun pins s σ H v u Q I r q => h.run pins s σ H v u Q I r (i v σ H Q q)⟩
theorem assign_cons {e : Expr} {es : List Expr} {env : Env} (h : notStar e = true) : assignEach (e :: es) env = (false, assign e env) :: assignEach es env := by
  cases e <;> first | rfl | cases h
theorem erGs_star {c : EC} : ∀ {ts : Tgs} {xs : List Expr}, erGs c ts xs = true → xs.all notStar = true
  | .nil, [], _ => rfl
  | .nil, _ :: _, h => by simp [erGs] at h
  | .cons _ _, [], h => by simp [erGs] at h
  | .cons t ts, y :: ys, h => by
    simp only [erGs, Bool.and_eq_true] at h
    rw [List.all_cons, Bool.and_eq_true]
    exact ⟨h.1.1, erGs_star h.2⟩
theorem assign_len {env : Env} : ∀ {xs : List Expr}, xs.all notStar = true → (assignEach xs env).length = xs.length ∧ (assignEach xs env).findIdx? (·.1) = none
  | [], _ => ⟨rfl, rfl⟩
  | y :: ys, h => by
    rw [List.all_cons, Bool.and_eq_true] at h
    obtain ⟨h1, h2⟩ := assign_len (env := env) h.2
    rw [assign_cons h.1]
    refine ⟨by simp [h1], ?_⟩
    rw [List.findIdx?_cons]
    simp [h2]
theorem asgTs_len {c : EC} : ∀ {ts : Tgs} {xs : List Expr} {ds : List D} {s s' : S}, erGs c ts xs = true → asgTs ts ds s = some s' → ds.length = xs.length
  | .nil, [], [], _, _, _, _ => rfl
  | .nil, [], _ :: _, _, _, _, h => by simp [asgTs] at h
  | .nil, _ :: _, _, _, _, h, _ => by simp [erGs] at h
  | .cons _ _, [], _, _, _, h, _ => by simp [erGs] at h
  | .cons t ts, y :: ys, [], _, _, _, h => by simp [asgTs] at h
  | .cons t ts, y :: ys, d :: ds, s, s', h, k => by
    simp only [erGs, Bool.and_eq_true] at h
    simp only [asgTs] at k
    cases e : asgT t d s with
    | none => rw [e] at k; cases k
    | some s1 =>
      rw [e] at k
      simp [asgTs_len h.2 k]
section
variable {X : Cx} {c : EC} {cf : CF}
mutual
theorem sG (h : XOk X c cf) : ∀ (t : Tg) (x : Expr), erG c t x = true → PG X x (RdG X.K t)
  | .name i, x, e => by
    simp only [erG] at e
    split at e
    · rename_i y p
      rw [Bool.and_eq_true] at e
      have hi : X.N[i]? = some y := by rw [h.N]; simpa using e.1
      obtain ⟨l1, l2⟩ := h.loc e.2
      refine PG.imp (pg_name h.nd hi l1 l2) fun v σ H Q ⟨g, s, d, s', S0, r, ea, q⟩ => ?_
      simp only [asgT] at ea
      cases ea
      exact q _ (S0.put r) fun j hj => by
        have : i ≠ j := fun z => hj (by simp [Tg.ix, z])
        rw [List.getElem?_set_ne this]
    · cases e
  | .tup ts, x, e => by
    simp only [erG] at e
    split at e
    · rename_i xs k p
      have hst := erGs_star e
      obtain ⟨a1, a2⟩ := assign_len (env := X.env) hst
      refine PG.imp (pg_tup h.calm (sGs h ts xs e) a1 a2) fun v σ H Q ⟨g, s, d, s', S0, r, ea, q⟩ => ?_
      simp only [asgT] at ea
      split at ea
      · rename_i ds
        cases r with
        | tup e1 r1 =>
          refine ⟨_, _, rfl, SqT.mono S0.fz e1, ?_, g, s, ds, s', S0, r1, ea, q⟩
          rw [r1.length, asgTs_len e ea]
      · cases ea
    · cases e
theorem sGs (h : XOk X c cf) : ∀ (ts : Tgs) (xs : List Expr), erGs c ts xs = true → PGs X xs (RdGs X.K ts)
  | .nil, xs, e => by
    simp only [erGs] at e
    split at e
    · refine PGs.imp pgs_nil fun vs σ H Q ⟨g, s, ds, s', S0, r, ea, q⟩ => ?_
      simp only [asgTs] at ea
      split at ea
      · cases ea
        cases r
        exact ⟨rfl, q σ S0 fun _ _ => rfl⟩
      · cases ea
    · cases e
  | .cons t ts, xs, e => by
    simp only [erGs] at e
    split at e
    · cases e
    · rename_i y ys
      simp only [Bool.and_eq_true] at e
      refine PGs.imp (pgs_cons (sG h t y e.1.2) (sGs h ts ys e.2) (by rw [assign_cons e.1.1]; rfl)) fun vs σ H Q ⟨g, s, ds, s', S0, r, ea, q⟩ => ?_
      cases r with
      | nil => simp [asgTs] at ea
      | @cons v vs d ds r1 r2 =>
        simp only [asgTs] at ea
        cases e1 : asgT t d s with
        | none => rw [e1] at ea; cases ea
        | some s1 =>
          rw [e1] at ea
          refine ⟨v, vs, rfl, g, s, d, s1, S0, r1, e1, fun σ1 S1 k1 => ⟨g, s1, ds, s', S1, r2, ea, fun σ2 S2 k2 => q σ2 S2 fun j hj => ?_⟩⟩
          have h1 : j ∉ t.ix := fun z => hj (by simp [Tgs.ix, z])
          have h2 : j ∉ ts.ix := fun z => hj (by simp [Tgs.ix, z])
          rw [k2 j h2, k1 j h1]
end
end

/-! ### what is walked -/
def Yl (K : PySem.W.Frag) (g : G) (J : It) (ds : List D) : Prop := ∀ g1 σ1 H1 s1, g.ge0 g1 → Sim K g1 σ1 H1 s1 → ∀ i : Nat,
  (∀ d, ds[i]? = some d → J.go i H1 ∧ ∀ x H2, J.yld i H1 x H2 → ∃ g2, g1.le g2 ∧ Sim K g2 σ1 H2 s1 ∧ Rp K g2.F g2.ρ x d) ∧ (ds[i]? = none → J.stop i H1)
abbrev RdI (K : PySem.W.Frag) (cf : CF) (it : I) : TI := Rd K (evI cf it) (fun g _ _ _ (J : It) ds => Yl K g J ds)
/-- a list or a tuple -/
def iSeq (K : PySem.W.Frag) (tl : TE) : TI := fun σ H R => tl σ H fun x H1 => ∃ a, x = .ref a ∧ (((∃ xs, SqL K H1 a xs) ∧ R (Itl K a) H1) ∨ ((∃ xs, SqT K H1 a xs) ∧ R (Itt K a) H1) ∨ ∃ j : Int, H1 a = some (.rng 0 j) ∧ (-(2 ^ 62) ≤ j ∧ j < 2 ^ 62) ∧ R (Itr 0 j.toNat) H1)
theorem pi_seq {X : Cx} {tg l : Expr} {tl : TE} (hl : PE X l tl) : PI X tg l (iSeq X.K tl) := by
  refine ⟨fun pins s σ H R I h => ?_⟩
  refine thn (hl.run pins s σ H _ I h) fun v s1 ⟨x, H1, I1, r1, q1⟩ => ?_
  obtain ⟨a, e, q⟩ := q1
  subst e
  cases r1
  rcases q with ⟨⟨xs, hq⟩, q⟩ | ⟨⟨xs, hq⟩, q⟩ | ⟨j, hq, ⟨q1, q2⟩, q⟩
  · obtain ⟨its, rv, p, hz⟩ := I1.list hq
    refine wpAny_pyIter_list p.isList ?_
    refine ⟨s1.heap.objs.size, [s1.heap.objs.size], _, _, H1, rfl, I1.kept (t' := s1.toks) fun b o e => Heap.get?_push_of_some _ e, turn_list a _, ⟨_, Heap.get?_push_size _ rfl, rfl, rfl⟩, fun b hb => ?_, q⟩
    have e : b = s1.heap.objs.size := by simpa using hb
    subst e
    exact I1.fpOk (Nat.le_refl _) (I1.hok.fresh (Nat.le_refl _))
  · obtain ⟨its, rv, p, hz⟩ := I1.tuple hq
    refine wpAny_pyIter_tuple (show s1.heap.IsTuple a its.toArray from p) ?_
    refine ⟨s1.heap.objs.size, [s1.heap.objs.size], _, _, H1, rfl, I1.kept (t' := s1.toks) fun b o e => Heap.get?_push_of_some _ e, turn_tuple a _, ⟨_, Heap.get?_push_size _ rfl, rfl, rfl⟩, fun b hb => ?_, q⟩
    have e : b = s1.heap.objs.size := by simpa using hb
    subst e
    exact I1.fpOk (Nat.le_refl _) (I1.hok.fresh (Nat.le_refl _))
  · obtain ⟨t1, t2, t3, ho⟩ := I1.hok a _ hq
    have hr : IsRange s1.heap a 0 j 1 t1 t2 t3 := ho
    refine wpAny_pyIter_range hr (small_one (by omega) (by omega) q1 q2) ?_
    refine ⟨s1.heap.objs.size, [s1.heap.objs.size], _, _, H1, rfl, I1.kept (t' := s1.toks) fun b o e => Heap.get?_push_of_some _ e, turn_range _ 0 j.toNat, ?_, fun b hb => ?_, q⟩
    · have e1 : (0 : Int) + ((0 : Nat) : Int) * 1 = 0 := by simp
      have e2 : ((j.toNat : Nat) : Int) - ((0 : Nat) : Int) = Builtin.Range.rangeSize 0 j 1 := by
        rw [rangeSize_one]
        split <;> omega
      show IsRangeIter _ _ ((0 : Int) + ((0 : Nat) : Int) * 1) (((j.toNat : Nat) : Int) - ((0 : Nat) : Int)) 1
      rw [e1, e2]
      exact Heap.get?_push_size _ rfl
    · have e : b = s1.heap.objs.size := by simpa using hb
      subst e
      exact I1.fpOk (Nat.le_refl _) (I1.hok.fresh (Nat.le_refl _))
section
variable {K : PySem.W.Frag} {g : G} {a b : Addr} {xs ys : List V} {ds es : List D}
theorem yl_list (e : g.F a = some (.lst xs)) (r : RpAll K g.F g.ρ xs ds) : Yl K g (Itl K a) ds := fun g1 σ1 H1 s1 l S1 i => by
  have q : SqL K H1 a xs := .inl (.inl (S1.fz _ _ (l.fs _ _ e)))
  refine ⟨fun d hd => ?_, fun hn => ⟨xs, q, by rw [r.length]; exact List.getElem?_eq_none_iff.mp hn⟩⟩
  obtain ⟨x, hx, rx⟩ := r.get hd
  refine ⟨⟨xs, x, q, hx⟩, fun y H2 hy => ?_⟩
  obtain ⟨rfl, hy⟩ := hy
  have := hy xs q
  rw [hx] at this; cases this
  exact ⟨g1, .refl g1, S1, rx.up l⟩
theorem yl_tup (e : SqT K g.F a xs) (r : RpAll K g.F g.ρ xs ds) : Yl K g (Itt K a) ds := fun g1 σ1 H1 s1 l S1 i => by
  have q : SqT K H1 a xs := SqT.mono S1.fz (SqT.mono l.fs e)
  refine ⟨fun d hd => ?_, fun hn => ⟨xs, q, by rw [r.length]; exact List.getElem?_eq_none_iff.mp hn⟩⟩
  obtain ⟨x, hx, rx⟩ := r.get hd
  refine ⟨⟨xs, x, q, hx⟩, fun y H2 hy => ?_⟩
  obtain ⟨rfl, hy⟩ := hy
  have := hy xs q
  rw [hx] at this; cases this
  exact ⟨g1, .refl g1, S1, rx.up l⟩
theorem yl_rng (lo : Int) (n : Nat) : Yl K g (Itr lo n) (rngD lo n) := fun g1 σ1 H1 s1 l S1 i => by
  refine ⟨fun d hd => ?_, fun hn => ?_⟩
  · unfold rngD at hd
    rw [List.getElem?_map] at hd
    cases e : (List.range n)[i]? with
    | none => rw [e] at hd; cases hd
    | some k =>
      rw [e] at hd
      obtain ⟨h1, h2⟩ := List.getElem?_eq_some_iff.mp e
      rw [List.getElem_range] at h2
      rw [List.length_range] at h1
      subst h2
      have hd : D.int (lo + (i : Nat)) = d := Option.some.inj hd
      subst hd
      refine ⟨h1, fun x H2 hy => ?_⟩
      obtain ⟨rfl, rfl⟩ := hy
      exact ⟨g1, .refl g1, S1, .int _⟩
  · have := List.getElem?_eq_none_iff.mp hn
    unfold rngD at this
    rw [List.length_map, List.length_range] at this
    exact this
theorem enumD_get : ∀ (ds : List D) (k i : Nat), (enumD k ds)[i]? = (ds[i]?).map fun d => D.tup [.int ((k + i : Nat) : Int), d]
  | [], _, _ => by simp [enumD]
  | d :: ds, k, 0 => by simp [enumD]
  | d :: ds, k, i + 1 => by
    simp only [enumD, List.getElem?_cons_succ]
    rw [enumD_get ds (k + 1) i]
    have : k + 1 + i = k + (i + 1) := by omega
    rw [this]
theorem yl_enum (e : g.F a = some (.lst xs)) (r : RpAll K g.F g.ρ xs ds) : Yl K g (Ite K a) (enumD 0 ds) := fun g1 σ1 H1 s1 l S1 i => by
  have q : SqL K H1 a xs := .inl (.inl (S1.fz _ _ (l.fs _ _ e)))
  rw [enumD_get]
  refine ⟨fun d hd => ?_, fun hn => ⟨xs, q, ?_⟩⟩
  · cases e1 : ds[i]? with
    | none => rw [e1] at hd; cases hd
    | some d1 =>
      rw [e1] at hd
      obtain ⟨x, hx, rx⟩ := r.get e1
      refine ⟨⟨xs, x, q, hx⟩, fun y H2 hy => ?_⟩
      obtain ⟨T, x', rfl, hT, rfl, hy⟩ := hy
      have := hy xs q
      rw [hx] at this; cases this
      obtain ⟨l2, S2⟩ := S1.newF hT (.tup [.int (i : Nat), x])
      refine ⟨_, l2, S2, ?_⟩
      have hd : D.tup [.int ((0 + i : Nat) : Int), d1] = d := Option.some.inj hd
      subst hd
      rw [Nat.zero_add]
      exact .tup (.inl (.inl upd_same)) (.cons (.int _) (.cons ((rx.up l).up l2.ge0) .nil))
  · cases e1 : ds[i]? with
    | none => rw [r.length]; exact List.getElem?_eq_none_iff.mp e1
    | some d1 => rw [e1] at hn; cases hn
theorem yl_enumT (e : SqT K g.F a xs) (r : RpAll K g.F g.ρ xs ds) : Yl K g (DN.IteT K a) (enumD 0 ds) := fun g1 σ1 H1 s1 l S1 i => by
  have q : SqT K H1 a xs := SqT.mono S1.fz (SqT.mono l.fs e)
  rw [enumD_get]
  refine ⟨fun d hd => ?_, fun hn => ⟨xs, q, ?_⟩⟩
  · cases e1 : ds[i]? with
    | none => rw [e1] at hd; cases hd
    | some d1 =>
      rw [e1] at hd
      obtain ⟨x, hx, rx⟩ := r.get e1
      refine ⟨⟨xs, x, q, hx⟩, fun y H2 hy => ?_⟩
      obtain ⟨T, x', rfl, hT, rfl, hy⟩ := hy
      have := hy xs q
      rw [hx] at this; cases this
      obtain ⟨l2, S2⟩ := S1.newF hT (.tup [.int (i : Nat), x])
      refine ⟨_, l2, S2, ?_⟩
      have hd : D.tup [.int ((0 + i : Nat) : Int), d1] = d := Option.some.inj hd
      subst hd
      rw [Nat.zero_add]
      exact .tup (.inl (.inl upd_same)) (.cons (.int _) (.cons ((rx.up l).up l2.ge0) .nil))
  · cases e1 : ds[i]? with
    | none => rw [r.length]; exact List.getElem?_eq_none_iff.mp e1
    | some d1 => rw [e1] at hn; cases hn
theorem zipD_get : ∀ (ds es : List D) (i : Nat), (zipD ds es)[i]? = (ds[i]?).bind fun d => (es[i]?).map fun e => D.tup [d, e]
  | [], es, i => by simp [zipD]
  | d :: ds, [], i => by
    simp only [zipD]
    cases (d :: ds)[i]? <;> simp
  | d :: ds, e :: es, 0 => by simp [zipD]
  | d :: ds, e :: es, i + 1 => by
    simp only [zipD, List.getElem?_cons_succ]
    exact zipD_get ds es i
theorem yl_zip (e : g.F a = some (.lst xs)) (r : RpAll K g.F g.ρ xs ds) (e' : g.F b = some (.lst ys)) (r' : RpAll K g.F g.ρ ys es) : Yl K g (Itz K a b) (zipD ds es) := fun g1 σ1 H1 s1 l S1 i => by
  have q : SqL K H1 a xs := .inl (.inl (S1.fz _ _ (l.fs _ _ e)))
  have q' : SqL K H1 b ys := .inl (.inl (S1.fz _ _ (l.fs _ _ e')))
  rw [zipD_get]
  refine ⟨fun d hd => ?_, fun hn => ⟨xs, ys, q, q', ?_⟩⟩
  · cases e1 : ds[i]? with
    | none => rw [e1] at hd; cases hd
    | some d1 =>
      cases e2 : es[i]? with
      | none => rw [e1, e2] at hd; cases hd
      | some d2 =>
        rw [e1, e2] at hd
        obtain ⟨x, hx, rx⟩ := r.get e1
        obtain ⟨x2, hx2, rx2⟩ := r'.get e2
        refine ⟨⟨xs, ys, x, x2, q, q', hx, hx2⟩, fun y H2 hy => ?_⟩
        obtain ⟨T, z, z2, rfl, hT, rfl, hy, hy2⟩ := hy
        have := hy xs q
        rw [hx] at this; cases this
        have := hy2 ys q'
        rw [hx2] at this; cases this
        obtain ⟨l2, S2⟩ := S1.newF hT (.tup [x, x2])
        refine ⟨_, l2, S2, ?_⟩
        have hd : D.tup [d1, d2] = d := Option.some.inj hd
        subst hd
        exact .tup (.inl (.inl upd_same)) (.cons ((rx.up l).up l2.ge0) (.cons ((rx2.up l).up l2.ge0) .nil))
  · cases e1 : ds[i]? with
    | none => left; rw [r.length]; exact List.getElem?_eq_none_iff.mp e1
    | some d1 =>
      cases e2 : es[i]? with
      | none => right; rw [r'.length]; exact List.getElem?_eq_none_iff.mp e2
      | some d2 => rw [e1, e2] at hn; cases hn
theorem yl_rev (e : g.F a = some (.lst xs)) (r : RpAll K g.F g.ρ xs ds) : Yl K g (Itv K a xs.length) ds.reverse := fun g1 σ1 H1 s1 l S1 i => by
  have q : SqL K H1 a xs := .inl (.inl (S1.fz _ _ (l.fs _ _ e)))
  refine ⟨fun d hd => ?_, fun hn => ?_⟩
  · have hi : i < ds.length := by
      have := (List.getElem?_eq_some_iff.mp hd).1
      rw [List.length_reverse] at this; exact this
    rw [List.getElem?_reverse hi] at hd
    obtain ⟨x, hx, rx⟩ := r.get hd
    rw [← r.length] at hx hi
    refine ⟨⟨hi, xs, x, q, hx⟩, fun y H2 hy => ?_⟩
    obtain ⟨rfl, hy⟩ := hy
    have := hy xs q
    rw [hx] at this; cases this
    exact ⟨g1, .refl g1, S1, rx.up l⟩
  · have := List.getElem?_eq_none_iff.mp hn
    rw [List.length_reverse, ← r.length] at this
    exact this
theorem yl_rngc (lo : Int) (n : Nat) : Yl K g (Itc lo (-1) n) (rngC lo n) := fun g1 σ1 H1 s1 l S1 i => by
  refine ⟨fun d hd => ?_, fun hn => ?_⟩
  · unfold rngC at hd
    rw [List.getElem?_map] at hd
    cases e : (List.range n)[i]? with
    | none => rw [e] at hd; cases hd
    | some k =>
      rw [e] at hd
      obtain ⟨h1, h2⟩ := List.getElem?_eq_some_iff.mp e
      rw [List.getElem_range] at h2
      rw [List.length_range] at h1
      subst h2
      have hd : D.int (lo + (i : Nat) * (-1)) = d := Option.some.inj hd
      subst hd
      refine ⟨h1, fun x H2 hy => ?_⟩
      obtain ⟨rfl, rfl⟩ := hy
      exact ⟨g1, .refl g1, S1, .int _⟩
  · have := List.getElem?_eq_none_iff.mp hn
    unfold rngC at this
    rw [List.length_map, List.length_range] at this
    exact this
end
end DL
end

section
set_option maxRecDepth 100000
set_option maxHeartbeats 8000000
/-! DL6: expressions keep to what they compute. -/
namespace DL
open PySem PySem.Spec PyProof.Rows L2
variable [TBs]

/-! ### built-ins, by name -/
theorem bv (b : Blt) : bootBuiltins (bname b) = some (bval b) := by cases b <;> decide +kernel
theorem bnm (b : Blt) : bname b ≠ "__name__" := by cases b <;> decide +kernel
theorem pe_blt {X : Cx} {b : Blt} {r : List V → Hp → VK → Prop} {e : Expr} {es : List Expr} {t : TA} {p pos : Pos} (hr : CallR X (bval b) r) (hg : Gl X (bname b)) (hm : X.mg (bname b) = none) (ha : PA X (e :: es) t) (hd : (bname b == ("__debug__" : Str)) = false)
    (he : starEach (e :: es) X.env = (false, eval e X.env) :: starEach es X.env) (hpl : (backTo pos (starEach es X.env)).any (·.1) = false) : PE X (.Call (.Name (bname b) p) (e :: es) [] pos) (tCB r t) := by
  have v := bv b
  have n := bnm b
  cases b with
  | int => exact pe_callTy hr hg hm v ha n hd he hpl
  | list => exact pe_callTy hr hg hm v ha n hd he hpl
  | tuple => exact pe_callTy hr hg hm v ha n hd he hpl
  | range => exact pe_callTy hr hg hm v ha n hd he hpl
  | len => exact pe_callB hr hg hm v ha n hd he hpl
  | max2 => exact pe_callB hr hg hm v ha n hd he hpl
  | min2 => exact pe_callB hr hg hm v ha n hd he hpl
  | maxl => exact pe_callB hr hg hm v ha n hd he hpl
  | all => exact pe_callB hr hg hm v ha n hd he hpl
  | any => exact pe_callB hr hg hm v ha n hd he hpl
  | abs => exact pe_callB hr hg hm v ha n hd he hpl
  | sum => exact pe_callB hr hg hm v ha n hd he hpl
  | sorted => exact pe_callB hr hg hm v ha n hd he hpl

/-! ### tests -/
def plainT : Expr → Bool
  | .UnaryOp .Not _ _ => false
  | .BoolOp _ _ _ => false
  | .IfExp _ _ _ _ => false
  | .Compare _ _ _ _ => false
  | _ => true
theorem is_plain {x : Expr} {env : Env} (h : plainT x = true) : ∀ whole, isTrue x env whole = (do let v ← whole; standAt x.pos; holding [v] (truthy v)) := by
  cases x with
  | UnaryOp op a p => cases op <;> first | exact fun _ => rfl | cases h
  | BoolOp _ _ _ => cases h
  | IfExp _ _ _ _ => cases h
  | Compare _ _ _ _ => cases h
  | _ => exact fun _ => rfl
section
variable {X : Cx} {c : EC} {cf : CF}
theorem PT_of {x : Expr} {e : E} (h : PE X x (RdR X.K cf e)) (hx : plainT x = true) : PT X x (RdT X.K cf e) := by
  refine PT.imp (pt_truth (PE.imp h fun σ H Q q => RdP_R q) (is_plain hx)) fun σ H Q ⟨g, s, S0, w⟩ => ?_
  refine Rd.next S0 w fun g1 p s1 v H1 l1 S1 r1 w1 => ?_
  obtain ⟨k, ht, w2⟩ := isT_ok S1 r1 w1
  exact ⟨k, ht, w2 g1 k H1 (.refl g1) S1 rfl⟩

/-! ### the frame of a call -/
def calleeG (g : G) (H : Hp) : G := { g with pv := fun a => if a ∈ g.ρ ∨ a ∈ TBs.tb then none else H a }
theorem Sim.callee {K : PySem.W.Frag} {g : G} {σ : L2.St} {H : Hp} {s : S} (x : Sim K g σ H s) : Sim K (calleeG g H) [] H ⟨[], s.mem⟩ ∧ ∀ a o, H a = some o → a ∉ g.ρ → a ∉ TBs.tb → (calleeG g H).pv a = some o := by
  refine ⟨⟨x.fz, rfl, fun i d e => by simp at e, fun i m e => by simp at e, fun i j a ⟨⟨m, e⟩, _⟩ => by simp at e, x.mlen, x.nd, fun n a m e1 e2 => ⟨(x.mem n a m e1 e2).1, (x.mem n a m e1 e2).2.up ⟨Same.refl _, fun _ _ h => h⟩ fun _ q => q⟩, fun a o e => ?_, fun P hP => ⟨(x.tbs P hP).1, if_pos (.inr hP), (x.tbs P hP).2.2⟩⟩, fun a o e hn ht => ?_⟩
  · have e : (if a ∈ g.ρ ∨ a ∈ TBs.tb then none else H a) = some o := e
    split at e
    · cases e
    · rename_i hn
      exact ⟨e, fun z => hn (.inl z)⟩
  · show (if a ∈ g.ρ ∨ a ∈ TBs.tb then none else H a) = some o
    rw [if_neg (fun z => z.elim hn ht)]; exact e
theorem Sim.after {K : PySem.W.Frag} {g g' : G} {σ : L2.St} {H H' : Hp} {s : S} {mem' : List MO} (x : Sim K g σ H s) (l : (calleeG g H).le g') (y : Sim K g' [] H' ⟨[], mem'⟩) : g.le { g' with pv := g.pv } ∧ Sim K { g' with pv := g.pv } σ H' ⟨s.env, mem'⟩ := by
  have pv : ∀ a o, H a = some o → a ∉ g.ρ → a ∉ TBs.tb → H' a = some o ∧ a ∉ g'.ρ := fun a o e hn ht => y.pvo a o (by rw [l.pv]; show (if a ∈ g.ρ ∨ a ∈ TBs.tb then none else H a) = some o; rw [if_neg (fun z => z.elim hn ht)]; exact e)
  have nf : ∀ a o, H a = some o → a ∉ g.ρ → a ∉ TBs.tb → g.F a = none → g'.F a = none := fun a o e hn ht hf => l.nf a (by show (if a ∈ g.ρ ∨ a ∈ TBs.tb then none else H a) ≠ none; rw [if_neg (fun z => z.elim hn ht), e]; simp) hf
  have npt : ∀ a o, g.pv a = some o → a ∉ TBs.tb := fun a o e hP => by
    rw [(x.tbs a hP).2.1] at e; cases e
  have l0 : g.ge0 { g' with pv := g.pv } := ⟨l.fs, l.ro⟩
  refine ⟨⟨l.fs, l.ro, rfl, fun a hp hf => ?_⟩, ⟨y.fz, x.len, fun i d e => ?_, fun i m e => ?_, x.sep, y.mlen, y.nd, fun n a m e1 e2 => ⟨(y.mem n a m e1 e2).1, (y.mem n a m e1 e2).2.up ⟨Same.refl _, fun _ _ h => h⟩ fun _ q => q⟩, fun a o e => ?_, fun P hP => ⟨(y.tbs P hP).1, (x.tbs P hP).2.1, (y.tbs P hP).2.2⟩⟩⟩
  · cases q : g.pv a with
    | none => exact absurd q hp
    | some o => exact nf a o (x.pvo a o q).1 (x.pvo a o q).2 (npt a o q) hf
  · obtain ⟨v, e1, r⟩ := x.val i d e
    exact ⟨v, e1, r.up l0⟩
  · obtain ⟨a, e1, p, r⟩ := x.own i m e
    obtain ⟨o, ea⟩ := r.some
    exact ⟨a, e1, ⟨nf a o ea p.2.1 (x.nto r) p.1, (pv a o ea p.2.1 (x.nto r)).2, p.2.2⟩, r.up l0 fun u q => (pv a u q p.2.1 (x.nto r)).1⟩
  · exact pv a o (x.pvo a o e).1 (x.pvo a o e).2 (npt a o e)

/-! ### comprehensions -/
theorem wipeE_get {env : List Sl} {j : Nat} : ∀ {vs : List Nat}, j ∉ vs → (wipeE env vs)[j]? = env[j]?
  | [], _ => rfl
  | v :: vs, h => by
    simp only [List.mem_cons, not_or] at h
    unfold wipeE
    rw [List.getElem?_set_ne (Ne.symm h.1)]
    exact wipeE_get h.2
theorem wipeE_len {env : List Sl} : ∀ {vs : List Nat}, (wipeE env vs).length = env.length
  | [] => rfl
  | v :: vs => by unfold wipeE; rw [List.length_set]; exact wipeE_len
theorem wipeE_in {env : List Sl} {j : Nat} {e : Sl} : ∀ {vs : List Nat}, (wipeE env vs)[j]? = some e → j ∈ vs → e = .non
  | [], _, h => by simp at h
  | v :: vs, q, h => by
    unfold wipeE at q
    by_cases hv : v = j
    · subst hv
      have hl : v < (wipeE env vs).length := by
        have := (List.getElem?_eq_some_iff.mp q).1
        rw [List.length_set] at this; exact this
      rw [List.getElem?_set_self hl] at q
      exact (Option.some.inj q).symm
    · rw [List.getElem?_set_ne hv] at q
      rcases List.mem_cons.mp h with z | z
      · exact absurd z.symm hv
      · exact wipeE_in q z
theorem wipe_get {σ : L2.St} {j : Nat} : ∀ {vs : List Nat}, j ∉ vs → (wipe σ vs)[j]? = σ[j]?
  | [], _ => rfl
  | v :: vs, h => by
    simp only [List.mem_cons, not_or] at h
    unfold wipe
    rw [List.getElem?_set_ne (Ne.symm h.1)]
    exact wipe_get h.2
theorem wipe_in {σ : L2.St} {j : Nat} : ∀ {vs : List Nat}, j ∈ vs → j < σ.length → (wipe σ vs)[j]? = some none
  | [], h, _ => by simp at h
  | v :: vs, h, hl => by
    unfold wipe
    by_cases hv : v = j
    · subst hv
      rw [List.getElem?_set_self (by rw [wipe_length]; exact hl)]
    · rw [List.getElem?_set_ne hv]
      rcases List.mem_cons.mp h with z | z
      · exact absurd z.symm hv
      · exact wipe_in z hl
theorem wipe_eq {σ σ' : L2.St} {vs : List Nat} (hl : σ'.length = σ.length) (h : ∀ j, j ∉ vs → σ'[j]? = σ[j]?) : wipe σ' vs = wipe σ vs := by
  apply List.ext_getElem?
  intro j
  by_cases hj : j ∈ vs
  · by_cases hlt : j < σ.length
    · rw [wipe_in hj hlt, wipe_in hj (by rw [hl]; exact hlt)]
    · rw [List.getElem?_eq_none (by rw [wipe_length]; omega), List.getElem?_eq_none (by rw [wipe_length]; omega)]
  · rw [wipe_get hj, wipe_get hj, h j hj]
theorem Sim.wiped {K : PySem.W.Frag} {g : G} {σ : L2.St} {H : Hp} {s : S} (x : Sim K g σ H s) (vs : List Nat) : Sim K g (wipe σ vs) H { s with env := wipeE s.env vs } := by
  have key : ∀ (j : Nat) (e : Sl), (wipeE s.env vs)[j]? = some e → e ≠ .non → j ∉ vs ∧ s.env[j]? = some e := fun j e q hn => by
    have hj : j ∉ vs := fun z => hn (wipeE_in q z)
    exact ⟨hj, by rw [wipeE_get hj] at q; exact q⟩
  refine ⟨x.fz, by show (wipeE s.env vs).length = _; rw [wipeE_len, wipe_length, x.len], fun i d e => ?_, fun i m e => ?_, fun i j a ⟨⟨m1, e1⟩, f1⟩ ⟨⟨m2, e2⟩, f2⟩ => ?_, x.mlen, x.nd, x.mem, x.pvo, x.tbs⟩
  · obtain ⟨hj, e1⟩ := key i _ e (fun z => by cases z)
    rw [wipe_get hj]
    exact x.val i d e1
  · obtain ⟨hj, e1⟩ := key i _ e (fun z => by cases z)
    rw [wipe_get hj]
    exact x.own i m e1
  · obtain ⟨h1, q1⟩ := key i _ e1 (fun z => by cases z)
    obtain ⟨h2, q2⟩ := key j _ e2 (fun z => by cases z)
    rw [wipe_get h1] at f1
    rw [wipe_get h2] at f2
    exact x.sep i j a ⟨⟨m1, q1⟩, f1⟩ ⟨⟨m2, q2⟩, f2⟩
theorem back_get {env0 env : List Sl} {j : Nat} : ∀ {vs : List Nat}, j ∉ vs → (back env0 env vs)[j]? = env[j]?
  | [], _ => rfl
  | v :: vs, h => by
    simp only [List.mem_cons, not_or] at h
    unfold back
    rw [List.getElem?_set_ne (Ne.symm h.1)]
    exact back_get h.2
theorem back_len {env0 env : List Sl} : ∀ {vs : List Nat}, (back env0 env vs).length = env.length
  | [] => rfl
  | v :: vs => by unfold back; rw [List.length_set]; exact back_len
theorem back_in {env0 env : List Sl} {j : Nat} {e : Sl} : ∀ {vs : List Nat}, (back env0 env vs)[j]? = some e → j ∈ vs → e = .non ∨ ∃ d, e = .val d ∧ env0[j]? = some (.val d)
  | [], _, h => by simp at h
  | v :: vs, q, h => by
    unfold back at q
    by_cases hv : v = j
    · subst hv
      have hl : v < (back env0 env vs).length := by
        have := (List.getElem?_eq_some_iff.mp q).1
        rw [List.length_set] at this; exact this
      rw [List.getElem?_set_self hl] at q
      have q := Option.some.inj q
      split at q
      · rename_i d hd
        exact .inr ⟨d, q.symm, hd⟩
      · exact .inl q.symm
    · rw [List.getElem?_set_ne hv] at q
      rcases List.mem_cons.mp h with z | z
      · exact absurd z.symm hv
      · exact back_in q z
/-- behind a comprehension -/
theorem Sim.backed {K : PySem.W.Frag} {g0 g : G} {σ : L2.St} {H0 H : Hp} {s0 s : S} {vs : List Nat} (x0 : Sim K g0 σ H0 s0) (l : g0.ge0 g) (x : Sim K g (wipe σ vs) H { s with env := wipeE s.env vs }) : Sim K g σ H { s with env := back s0.env s.env vs } := by
  have hl : s.env.length = σ.length := by
    have := x.len
    rw [wipeE_len, wipe_length] at this; exact this
  have key : ∀ (j : Nat) (m : MO), (back s0.env s.env vs)[j]? = some (.own m) → j ∉ vs ∧ (wipeE s.env vs)[j]? = some (.own m) := fun j m q => by
    have hj : j ∉ vs := fun z => by
      rcases back_in q z with e | ⟨d, e, _⟩ <;> cases e
    exact ⟨hj, by rw [back_get hj] at q; rw [wipeE_get hj]; exact q⟩
  refine ⟨x.fz, by show (back s0.env s.env vs).length = _; rw [back_len, hl], fun i d e => ?_, fun i m e => ?_, fun i j a ⟨⟨m1, e1⟩, f1⟩ ⟨⟨m2, e2⟩, f2⟩ => ?_, x.mlen, x.nd, x.mem, x.pvo, x.tbs⟩
  · have e : (back s0.env s.env vs)[i]? = some (.val d) := e
    by_cases hi : i ∈ vs
    · rcases back_in e hi with z | ⟨d', z, q⟩
      · cases z
      · cases z
        obtain ⟨v, e1, r⟩ := x0.val i d q
        exact ⟨v, e1, r.up l⟩
    · rw [back_get hi] at e
      obtain ⟨v, e1, r⟩ := x.val i d (by show (wipeE s.env vs)[i]? = _; rw [wipeE_get hi]; exact e)
      rw [wipe_get hi] at e1
      exact ⟨v, e1, r⟩
  · obtain ⟨hi, e1⟩ := key i m e
    obtain ⟨a, e2, p, r⟩ := x.own i m e1
    rw [wipe_get hi] at e2
    exact ⟨a, e2, p, r⟩
  · obtain ⟨h1, q1⟩ := key i m1 e1
    obtain ⟨h2, q2⟩ := key j m2 e2
    exact x.sep i j a ⟨⟨m1, q1⟩, by rw [wipe_get h1]; exact f1⟩ ⟨⟨m2, q2⟩, by rw [wipe_get h2]; exact f2⟩
/-- what is kept may be forgotten, or another thing be kept -/
theorem Sim.pvx {K : PySem.W.Frag} {g : G} {σ : L2.St} {H : Hp} {s : S} (x : Sim K g σ H s) (pv : Hp) (h : ∀ a o, pv a = some o → H a = some o ∧ a ∉ g.ρ) (ho : ∀ i a, OwnAt s.env σ i a → pv a = none) (ht : ∀ P ∈ TBs.tb, pv P = none) : Sim K { g with pv := pv } σ H s :=
  ⟨x.fz, x.len, x.val, fun i m e => by
    obtain ⟨a, e1, p, r⟩ := x.own i m e
    exact ⟨a, e1, ⟨p.1, p.2.1, ho i a ⟨⟨m, e⟩, e1⟩⟩, r.up ⟨Same.refl _, fun _ _ h => h⟩ fun _ q => q⟩, x.sep, x.mlen, x.nd, fun n a m e1 e2 => ⟨(x.mem n a m e1 e2).1, (x.mem n a m e1 e2).2.up ⟨Same.refl _, fun _ _ h => h⟩ fun _ q => q⟩, h, fun P hP => ⟨(x.tbs P hP).1, ht P hP, (x.tbs P hP).2.2⟩⟩
/-- the new list of a comprehension grows: it is kept, and nobody knows it -/
theorem Sim.grow {K : PySem.W.Frag} {g : G} {σ : L2.St} {H : Hp} {s : S} {D : Addr} {o o' : HO} {pv0 : Hp} (x : Sim K g σ H s) (e : g.pv = upd pv0 D o) (hF : g.F D = none) : Sim K { g with pv := upd pv0 D o' } σ (upd H D o') s := by
  have hD : H D = some o ∧ D ∉ g.ρ := x.pvo D o (by rw [e]; exact upd_same)
  have kp : ∀ b u, b ≠ D → H b = some u → upd H D o' b = some u := fun b u hb q => by rw [upd_ne hb]; exact q
  refine ⟨fun b u q => kp _ _ (fun z => by rw [z, hF] at q; cases q) (x.fz _ _ q), x.len, x.val, fun i m q => ?_, x.sep, x.mlen, x.nd, fun n a m q1 q2 => ?_, fun a u q => ?_, fun P hP => ?_⟩
  rotate_left 3
  · obtain ⟨h1, h2, ps, h3, h4⟩ := x.tbs P hP
    have hPD : P ≠ D := fun z => by
      rw [z, e, upd_same] at h2; cases h2
    refine ⟨h1, ?_, ps, kp _ _ hPD h3, h4⟩
    rw [e, upd_ne hPD] at h2
    show upd pv0 D o' P = none
    rw [upd_ne hPD]; exact h2
  · obtain ⟨a, e1, p, r⟩ := x.own i m q
    have ha : a ≠ D := fun z => by
      have := p.2.2
      rw [z, e, upd_same] at this; cases this
    refine ⟨a, e1, ⟨p.1, p.2.1, ?_⟩, r.up ⟨Same.refl _, fun _ _ h => h⟩ fun u q => kp _ _ ha q⟩
    have := p.2.2
    rw [e, upd_ne ha] at this
    show upd pv0 D o' a = none
    rw [upd_ne ha]; exact this
  · have ha : a ≠ D := fun z => hD.2 (by rw [← z]; exact mem_rho q1)
    exact ⟨(x.mem n a m q1 q2).1, (x.mem n a m q1 q2).2.up ⟨Same.refl _, fun _ _ h => h⟩ fun u q => kp _ _ ha q⟩
  · have q : upd pv0 D o' a = some u := q
    by_cases ha : a = D
    · subst ha
      rw [upd_same] at q; cases q
      exact ⟨upd_same, hD.2⟩
    · rw [upd_ne ha] at q
      obtain ⟨h1, h2⟩ := x.pvo a u (by rw [e, upd_ne ha]; exact q)
      exact ⟨kp _ _ ha h1, h2⟩
theorem lcL_cons {own : List Nat} {turn : D → S → Out S (Option D)} {d : D} {ds : List D} {s : S} {R : List D → S → Prop} (h : (lcL own turn (d :: ds) s).WP R) :
    (turn d { s with env := wipeE s.env own }).WP fun r s1 => (lcL own turn ds s1).WP fun rs s2 => R (match r with
      | some x => x :: rs
      | none => rs) s2 := by
  simp only [lcL, WP_bind, WP_ok] at h
  exact h
abbrev RdC (K : PySem.W.Frag) (cf : CF) (as : A) : TT := Rd K (evC cf as) (fun _ _ _ _ (b k : Bool) => b = k)
mutual
theorem asgT_len : ∀ (t : Tg) (d : D) (s s' : S), asgT t d s = some s' → s'.env.length = s.env.length
  | .name i, d, s, s', e => by
    simp only [asgT] at e
    cases e
    simp
  | .tup ts, d, s, s', e => by
    simp only [asgT] at e
    split at e
    · exact asgTs_elen ts _ s s' e
    · cases e
theorem asgTs_elen : ∀ (ts : Tgs) (ds : List D) (s s' : S), asgTs ts ds s = some s' → s'.env.length = s.env.length
  | .nil, ds, s, s', e => by
    simp only [asgTs] at e
    split at e
    · cases e; rfl
    · cases e
  | .cons t ts, ds, s, s', e => by
    simp only [asgTs] at e
    split at e
    · cases e
    · rename_i d ds
      cases q : asgT t d s with
      | none => rw [q] at e; cases e
      | some s1 =>
        rw [q] at e
        rw [asgTs_elen ts ds s1 s' e, asgT_len t d s s1 q]
end
abbrev lcTurn (cf : CF) (t : Tg) (ifs : A) (elt : E) : D → S → Out S (Option D) := fun d s => (Out.ofOpt (asgT t d s) s).bind fun s _ => (evC cf ifs s).bind fun k s =>
  if k then (evR cf elt s).bind fun r s => (esc (toP r) s).bind fun d s => .ok (some d) s else .ok none s
/-- the comprehension's loop, with i items behind it -/
def LcW (K : PySem.W.Frag) (cf : CF) (own : List Nat) (t : Tg) (ifs : A) (elt : E) (g1 : G) (σ : L2.St) (L : Addr) (ds : List D) (Fin : List D → S → Prop) (i : Nat) (H' : Hp) : Prop :=
  i ≤ ds.length ∧ ∃ (g2 : G) (s2 : S) (xs : List V) (es : List D), g2.pv = upd g1.pv L (.lst xs) ∧ g1.ge0 g2 ∧ (∀ a, g1.pv a ≠ none → g1.F a = none → g2.F a = none) ∧ g2.F L = none ∧ xs.length ≤ i ∧ RpAll K g2.F g2.ρ xs es ∧
    Sim K g2 (wipe σ own) H' { s2 with env := wipeE s2.env own } ∧ (lcL own (lcTurn cf t ifs elt) (ds.drop i) s2).WP fun rs s3 => Fin (es ++ rs) s3
/-- the comprehension's rule -/
theorem lc_rule {K : PySem.W.Frag} {cf : CF} {own : List Nat} {t : Tg} {it : I} {ifs : A} {elt : E} (hix : ∀ i ∈ t.ix, i ∈ own) : ∀ σ H Q, RdR K cf (.lc own t it ifs elt) σ H Q → tLc (RdI K cf it) (RdG K t) (RdC K cf ifs) (RdP K cf elt) own σ H Q := fun σ H Q ⟨g, s, S0, w⟩ => by
  simp only [evR] at w
  refine Rd.next S0 w fun g1 ds s1 J H1 l1 S1 yl w1 L hL => ?_
  have fr := S1.none_ hL
  split at w1
  case isFalse => exact w1.elim
  case isTrue hlim =>
  rw [WP_bind] at w1
  have w1 : (lcL own (lcTurn cf t ifs elt) ds s1).WP fun rs s3 => Post K (RpR K) σ Q g1 (.mo (.lst rs)) { s3 with env := back s1.env s3.env own } := w1
  generalize hFin : (fun (rs : List D) (s3 : S) => Post K (RpR K) σ Q g1 (.mo (.lst rs)) { s3 with env := back s1.env s3.env own }) = Fin at w1
  have nL : L ∉ TBs.tb := S1.ntn hL
  refine ⟨fun i m H' => m = ds.length - i ∧ LcW K cf own t ifs elt g1 σ L ds Fin i H', ⟨ds.length, by simp, Nat.zero_le _, { g1 with pv := upd g1.pv L (.lst []) }, s1, [], [], rfl, ⟨Same.refl _, fun _ _ h => h⟩, fun _ _ h => h, fr.1.1, Nat.le_refl _, .nil, ?_, ?_⟩, ?_⟩
  · refine ((S1.new hL (.lst [])).wiped own).pvx _ (fun a o e => ?_) (fun i a ⟨⟨m, e⟩, f⟩ => ?_) fun P hP => by rw [upd_ne (show P ≠ L from fun z => nL (by rw [← z]; exact hP))]; exact (S1.tbs P hP).2.1
    · by_cases ha : a = L
      · subst ha
        rw [upd_same] at e; cases e
        exact ⟨upd_same, fr.1.2.1⟩
      · rw [upd_ne ha] at e ⊢
        exact S1.pvo a o e
    · have e : (wipeE s1.env own)[i]? = some (.own m) := e
      have hi : i ∉ own := fun z => by
        have := wipeE_in e z
        cases this
      rw [wipeE_get hi] at e
      rw [wipe_get hi] at f
      have ha : a ≠ L := fun z => fr.2 i ⟨⟨m, e⟩, by rw [← z]; exact f⟩
      rw [upd_ne ha]
      obtain ⟨b, e1, p, _⟩ := S1.own i m e
      rw [e1] at f; cases f
      exact p.2.2
  · rw [List.drop_zero]
    exact w1
  · rintro i m H' ⟨rfl, hi, g2, s2, xs, es, epv, l2, nf, hFD, hxl, rx, S2, w2⟩
    obtain ⟨y1, y2⟩ := yl g2 _ H' _ l2 S2 i
    cases ed : ds[i]? with
    | none =>
      have hlen : ds.length ≤ i := List.getElem?_eq_none_iff.mp ed
      refine .inl ⟨y2 ed, ?_⟩
      rw [List.drop_eq_nil_of_le hlen] at w2
      have w2 : Fin (es ++ []) s2 := w2
      rw [List.append_nil, ← hFin] at w2
      have hL2 := S2.pvo L _ (by rw [epv]; exact upd_same)
      have S3 := S1.backed (s := s2) l2 S2
      have hown : ∀ i a, OwnAt (back s1.env s2.env own) σ i a → a ≠ L := fun i a ⟨⟨m, e⟩, f⟩ z => by
        obtain ⟨b, e1, p, _⟩ := S3.own i m e
        rw [e1] at f; cases f
        have := p.2.2
        rw [z, epv, upd_same] at this; cases this
      refine w2 { g2 with pv := g1.pv } (.ref L) H' ⟨l2.fs, l2.ro, rfl, nf⟩ ?_ ⟨L, rfl, ⟨⟨hFD, hL2.2, fr.1.2.2⟩, fun i o => hown i L o rfl⟩, xs, hL2.1, rx⟩
      refine S3.pvx _ (fun a o e => ?_) (fun i a o => ?_) fun P hP => (S1.tbs P hP).2.1
      · have ha : a ≠ L := fun z => by rw [z, fr.1.2.2] at e; cases e
        exact S2.pvo a o (by rw [epv, upd_ne ha]; exact e)
      · have ha := hown i a o
        obtain ⟨⟨m, e⟩, f⟩ := o
        obtain ⟨b, e1, p, _⟩ := S3.own i m e
        rw [e1] at f; cases f
        have := p.2.2
        rw [epv, upd_ne ha] at this
        exact this
    | some d =>
      have hlt : i < ds.length := (List.getElem?_eq_some_iff.mp ed).1
      obtain ⟨go, yy⟩ := y1 d ed
      refine .inr ⟨go, LcW K cf own t ifs elt g1 σ L ds Fin (i + 1), fun H'' q => ⟨ds.length - (i + 1), by omega, rfl, q⟩, fun x H3 hy => ?_⟩
      obtain ⟨g3, l3, S3, r3⟩ := yy x H3 hy
      rw [List.drop_eq_getElem_cons hlt] at w2
      have ed' : ds[i] = d := (List.getElem?_eq_some_iff.mp ed).2
      rw [ed'] at w2
      have w3 := lcL_cons w2
      rw [WP_bind] at w3
      obtain ⟨s4, ea, w4⟩ := WP_opt w3
      refine ⟨g3, _, d, s4, S3, r3, ea, fun σ4 S4 k4 => ?_⟩
      have hl4 : σ4.length = (wipe σ own).length := by
        have a1 := S4.len
        have a2 := S3.len
        have := asgT_len _ _ _ _ ea
        rw [← a1, this, a2]
      have hw4 : wipe σ4 own = wipe σ own := by
        have : wipe (wipe σ own) own = wipe σ own := wipe_eq (wipe_length _ _) fun j hj => wipe_get hj
        rw [← this]
        exact wipe_eq hl4 fun j hj => k4 j fun z => hj (hix j z)
      have pv3 : g3.pv = upd g1.pv L (.lst xs) := l3.pv.trans epv
      have nz : ∀ a, g1.pv a ≠ none → upd g1.pv L (.lst xs) a ≠ none := fun a h1 => by
        by_cases ha : a = L
        · subst ha; rw [upd_same]; simp
        · rw [upd_ne ha]; exact h1
      have hFD3 : g3.F L = none := l3.nf L (by rw [epv, upd_same]; simp) hFD
      have nf3 : ∀ a, g1.pv a ≠ none → g1.F a = none → g3.F a = none := fun a h1 h2 => l3.nf a (by rw [epv]; exact nz a h1) (nf a h1 h2)
      have ext : ∀ (g5 : G), g3.le g5 → g5.pv = upd g1.pv L (.lst xs) ∧ g5.F L = none ∧ (∀ a, g1.pv a ≠ none → g1.F a = none → g5.F a = none) ∧ g1.ge0 g5 := fun g5 l5 =>
        ⟨l5.pv.trans pv3, l5.nf L (by rw [pv3, upd_same]; simp) hFD3, fun a h1 h2 => l5.nf a (by rw [pv3]; exact nz a h1) (nf3 a h1 h2), l2.trans (l3.ge0.trans l5.ge0)⟩
      refine ⟨hw4, ?_⟩
      rw [WP_bind] at w4
      refine ⟨g3, s4, S4, WP.mono w4 fun k s5 w5 g5 b H5 l5 S5 eb => ?_⟩
      subst eb
      obtain ⟨pv5, F5, nf5, l15⟩ := ext g5 l5
      cases b with
      | false =>
        simp only [Bool.false_eq_true, if_false] at w5 ⊢
        refine ⟨hlt, g5, s5, xs, es, pv5, l15, nf5, F5, by omega, rx.up (l3.ge0.trans l5.ge0), ?_, w5⟩
        rw [← hw4]
        exact S5.wiped own
      | true =>
        simp only [if_true] at w5 ⊢
        rw [WP_bind] at w5
        refine ⟨g5, s5, S5, WP.mono w5 fun r s6 w6 g6 v H6 l6 S6 r6 => ?_⟩
        rw [WP_bind] at w6
        obtain ⟨g7, d7, s7, l7, S7, r7, m7, w7⟩ := esc_ok S6 r6 w6
        obtain ⟨pv7, F7, nf7, l17⟩ := ext g7 (l5.trans (l6.trans l7))
        have hL7 := S7.pvo L _ (by rw [pv7]; exact upd_same)
        have sz : xs.length < sizeLine := by
          have hlim : ds.length ≤ 16777216 := hlim
          rw [sizeLine_eq]; omega
        refine ⟨xs, hL7.1, sz, hlt, { g7 with pv := upd g1.pv L (.lst (xs ++ [v])) }, s7, xs ++ [v], es ++ [d7], rfl, ⟨l17.fs, l17.ro⟩, nf7, F7, by simp; omega, ?_, ?_, ?_⟩
        · refine (rx.up (l3.ge0.trans (l5.ge0.trans (l6.ge0.trans l7.ge0)))).append (.cons r7 .nil)
        · rw [← hw4]
          exact (S7.grow pv7 F7).wiped own
        · have w7 : (lcL own (lcTurn cf t ifs elt) (ds.drop (i + 1)) s7).WP fun rs s3 => Fin (es ++ (d7 :: rs)) s3 := w7
          refine WP.mono w7 fun rs s3 q => ?_
          rw [List.append_assoc]
          exact q
/-! ### comprehensions of two clauses -/
theorem llL_cons {own : List Nat} {turn : D → S → Out S (List D)} {d : D} {ds : List D} {s : S} {R : List D → S → Prop} (h : (llL own turn (d :: ds) s).WP R) :
    (turn d { s with env := wipeE s.env own }).WP fun r s1 => (llL own turn ds s1).WP fun rs s2 => R (r ++ rs) s2 := by
  simp only [llL, WP_bind, WP_ok] at h
  exact h
abbrev l2Turn (cf : CF) (vs : List Nat) (t : Tg) (ifs : A) (t1 : Tg) (it1 : I) (ifs1 : A) (elt : E) : D → S → Out S (List D) := fun d s => (Out.ofOpt (asgT t d s) s).bind fun s _ => (evC cf ifs s).bind fun k s =>
  if k then (evI cf it1 s).bind fun ds1 s => if ds1.length ≤ 4000 then lcL vs (lcTurn cf t1 ifs1 elt) ds1 s else .bad else .ok [] s
/-- the outer loop, with i items behind it -/
def L2W (K : PySem.W.Frag) (cf : CF) (own vs : List Nat) (t : Tg) (ifs : A) (t1 : Tg) (it1 : I) (ifs1 : A) (elt : E) (g1 : G) (σ : L2.St) (L : Addr) (ds : List D) (Fin : List D → S → Prop) (i : Nat) (H' : Hp) : Prop :=
  i ≤ ds.length ∧ ∃ (g2 : G) (s2 : S) (xs : List V) (es : List D), g2.pv = upd g1.pv L (.lst xs) ∧ g1.ge0 g2 ∧ (∀ a, g1.pv a ≠ none → g1.F a = none → g2.F a = none) ∧ g2.F L = none ∧ xs.length ≤ i * 4000 ∧ RpAll K g2.F g2.ρ xs es ∧
    Sim K g2 (wipe σ own) H' { s2 with env := wipeE s2.env own } ∧ (llL own (l2Turn cf vs t ifs t1 it1 ifs1 elt) (ds.drop i) s2).WP fun rs s3 => Fin (es ++ rs) s3
theorem wipeE_wipeE {env : List Sl} {vs own : List Nat} (h : ∀ i ∈ vs, i ∈ own) : wipeE (wipeE env vs) own = wipeE env own := by
  apply List.ext_getElem?
  intro j
  by_cases hj : j ∈ own
  · by_cases hl : j < env.length
    · have a1 : j < (wipeE (wipeE env vs) own).length := by rw [wipeE_len, wipeE_len]; exact hl
      have a2 : j < (wipeE env own).length := by rw [wipeE_len]; exact hl
      have e1 := wipeE_in (List.getElem?_eq_getElem a1) hj
      have e2 := wipeE_in (List.getElem?_eq_getElem a2) hj
      rw [List.getElem?_eq_getElem a1, List.getElem?_eq_getElem a2, e1, e2]
    · rw [List.getElem?_eq_none (by rw [wipeE_len, wipeE_len]; omega), List.getElem?_eq_none (by rw [wipeE_len]; omega)]
  · rw [wipeE_get hj, wipeE_get hj, wipeE_get fun z => hj (h j z)]
theorem wipe_wipe {σ : L2.St} {vs own : List Nat} (h : ∀ i ∈ vs, i ∈ own) : wipe (wipe σ vs) own = wipe σ own :=
  wipe_eq (wipe_length _ _) fun j hj => wipe_get fun z => hj (h j z)
theorem lc2_rule {K : PySem.W.Frag} {cf : CF} {own vs : List Nat} {t : Tg} {it : I} {ifs : A} {t1 : Tg} {it1 : I} {ifs1 : A} {elt : E} (hvs : ∀ i ∈ vs, i ∈ own) (hix : ∀ i ∈ t.ix, i ∈ own) (hix1 : ∀ i ∈ t1.ix, i ∈ vs) :
    ∀ σ H Q, RdR K cf (.lc2 own vs t it ifs t1 it1 ifs1 elt) σ H Q → tLc2 (RdI K cf it) (RdG K t) (RdC K cf ifs) (RdI K cf it1) (RdG K t1) (RdC K cf ifs1) (RdP K cf elt) own vs σ H Q := fun σ H Q ⟨g, s, S0, w⟩ => by
  simp only [evR] at w
  refine Rd.next S0 w fun g1 ds s1 J H1 l1 S1 yl w1 L hL => ?_
  have fr := S1.none_ hL
  split at w1
  case isFalse => exact w1.elim
  case isTrue hlim =>
  rw [WP_bind] at w1
  have w1 : (llL own (l2Turn cf vs t ifs t1 it1 ifs1 elt) ds s1).WP fun rs s3 => Post K (RpR K) σ Q g1 (.mo (.lst rs)) { s3 with env := back s1.env s3.env own } := w1
  generalize hFin : (fun (rs : List D) (s3 : S) => Post K (RpR K) σ Q g1 (.mo (.lst rs)) { s3 with env := back s1.env s3.env own }) = Fin at w1
  have nL : L ∉ TBs.tb := S1.ntn hL
  refine ⟨fun i m H' => m = ds.length - i ∧ L2W K cf own vs t ifs t1 it1 ifs1 elt g1 σ L ds Fin i H', ⟨ds.length, by simp, Nat.zero_le _, { g1 with pv := upd g1.pv L (.lst []) }, s1, [], [], rfl, ⟨Same.refl _, fun _ _ h => h⟩, fun _ _ h => h, fr.1.1, Nat.zero_le _, .nil, ?_, ?_⟩, ?_⟩
  · refine ((S1.new hL (.lst [])).wiped own).pvx _ (fun a o e => ?_) (fun i a ⟨⟨m, e⟩, f⟩ => ?_) fun P hP => by rw [upd_ne (show P ≠ L from fun z => nL (by rw [← z]; exact hP))]; exact (S1.tbs P hP).2.1
    · by_cases ha : a = L
      · subst ha
        rw [upd_same] at e; cases e
        exact ⟨upd_same, fr.1.2.1⟩
      · rw [upd_ne ha] at e ⊢
        exact S1.pvo a o e
    · have e : (wipeE s1.env own)[i]? = some (.own m) := e
      have hi : i ∉ own := fun z => by
        have := wipeE_in e z
        cases this
      rw [wipeE_get hi] at e
      rw [wipe_get hi] at f
      have ha : a ≠ L := fun z => fr.2 i ⟨⟨m, e⟩, by rw [← z]; exact f⟩
      rw [upd_ne ha]
      obtain ⟨b, e1, p, _⟩ := S1.own i m e
      rw [e1] at f; cases f
      exact p.2.2
  · rw [List.drop_zero]
    exact w1
  · rintro i m H' ⟨rfl, hi, g2, s2, xs, es, epv, l2, nf, hFD, hxl, rx, S2, w2⟩
    obtain ⟨y1, y2⟩ := yl g2 _ H' _ l2 S2 i
    cases ed : ds[i]? with
    | none =>
      have hlen : ds.length ≤ i := List.getElem?_eq_none_iff.mp ed
      refine .inl ⟨y2 ed, ?_⟩
      rw [List.drop_eq_nil_of_le hlen] at w2
      have w2 : Fin (es ++ []) s2 := w2
      rw [List.append_nil, ← hFin] at w2
      have hL2 := S2.pvo L _ (by rw [epv]; exact upd_same)
      have S3 := S1.backed (s := s2) l2 S2
      have hown : ∀ i a, OwnAt (back s1.env s2.env own) σ i a → a ≠ L := fun i a ⟨⟨m, e⟩, f⟩ z => by
        obtain ⟨b, e1, p, _⟩ := S3.own i m e
        rw [e1] at f; cases f
        have := p.2.2
        rw [z, epv, upd_same] at this; cases this
      refine w2 { g2 with pv := g1.pv } (.ref L) H' ⟨l2.fs, l2.ro, rfl, nf⟩ ?_ ⟨L, rfl, ⟨⟨hFD, hL2.2, fr.1.2.2⟩, fun i o => hown i L o rfl⟩, xs, hL2.1, rx⟩
      refine S3.pvx _ (fun a o e => ?_) (fun i a o => ?_) fun P hP => (S1.tbs P hP).2.1
      · have ha : a ≠ L := fun z => by rw [z, fr.1.2.2] at e; cases e
        exact S2.pvo a o (by rw [epv, upd_ne ha]; exact e)
      · have ha := hown i a o
        obtain ⟨⟨m, e⟩, f⟩ := o
        obtain ⟨b, e1, p, _⟩ := S3.own i m e
        rw [e1] at f; cases f
        have := p.2.2
        rw [epv, upd_ne ha] at this
        exact this
    | some d =>
      have hlt : i < ds.length := (List.getElem?_eq_some_iff.mp ed).1
      obtain ⟨go, yy⟩ := y1 d ed
      refine .inr ⟨go, L2W K cf own vs t ifs t1 it1 ifs1 elt g1 σ L ds Fin (i + 1), fun H'' q => ⟨ds.length - (i + 1), by omega, rfl, q⟩, fun x H3 hy => ?_⟩
      obtain ⟨g3, l3, S3, r3⟩ := yy x H3 hy
      rw [List.drop_eq_getElem_cons hlt] at w2
      have ed' : ds[i] = d := (List.getElem?_eq_some_iff.mp ed).2
      rw [ed'] at w2
      have w3 := llL_cons w2
      rw [WP_bind] at w3
      obtain ⟨s4, ea, w4⟩ := WP_opt w3
      refine ⟨g3, _, d, s4, S3, r3, ea, fun σ4 S4 k4 => ?_⟩
      have hl4 : σ4.length = (wipe σ own).length := by
        have a1 := S4.len
        have a2 := S3.len
        have := asgT_len _ _ _ _ ea
        rw [← a1, this, a2]
      have hw4 : wipe σ4 own = wipe σ own := by
        have : wipe (wipe σ own) own = wipe σ own := wipe_eq (wipe_length _ _) fun j hj => wipe_get hj
        rw [← this]
        exact wipe_eq hl4 fun j hj => k4 j fun z => hj (hix j z)
      have pv3 : g3.pv = upd g1.pv L (.lst xs) := l3.pv.trans epv
      have nz : ∀ (xs : List V) a, g1.pv a ≠ none → upd g1.pv L (.lst xs) a ≠ none := fun xs a h1 => by
        by_cases ha : a = L
        · subst ha; rw [upd_same]; simp
        · rw [upd_ne ha]; exact h1
      have hFD3 : g3.F L = none := l3.nf L (by rw [epv, upd_same]; simp) hFD
      have nf3 : ∀ a, g1.pv a ≠ none → g1.F a = none → g3.F a = none := fun a h1 h2 => l3.nf a (by rw [epv]; exact nz xs a h1) (nf a h1 h2)
      have ext : ∀ (xs : List V) (g3 g5 : G), g3.pv = upd g1.pv L (.lst xs) → g3.F L = none → (∀ a, g1.pv a ≠ none → g1.F a = none → g3.F a = none) → g1.ge0 g3 → g3.le g5 → g5.pv = upd g1.pv L (.lst xs) ∧ g5.F L = none ∧ (∀ a, g1.pv a ≠ none → g1.F a = none → g5.F a = none) ∧ g1.ge0 g5 := fun xs g3 g5 pv3 hFD3 nf3 l13 l5 =>
        ⟨l5.pv.trans pv3, l5.nf L (by rw [pv3, upd_same]; simp) hFD3, fun a h1 h2 => l5.nf a (by rw [pv3]; exact nz xs a h1) (nf3 a h1 h2), l13.trans l5.ge0⟩
      refine ⟨hw4, ?_⟩
      rw [WP_bind] at w4
      refine ⟨g3, s4, S4, WP.mono w4 fun k s5 w5 g5 b H5 l5 S5 eb => ?_⟩
      subst eb
      obtain ⟨pv5, F5, nf5, l15⟩ := ext xs g3 g5 pv3 hFD3 nf3 (l2.trans l3.ge0) l5
      cases b with
      | false =>
        simp only [Bool.false_eq_true, if_false] at w5 ⊢
        refine ⟨hlt, g5, s5, xs, es, pv5, l15, nf5, F5, by omega, rx.up (l3.ge0.trans l5.ge0), ?_, w5⟩
        rw [← hw4]
        exact S5.wiped own
      | true =>
        simp only [if_true] at w5 ⊢
        -- the inner loop
        rw [WP_bind] at w5
        refine ⟨g5, s5, S5, WP.mono w5 fun ds1 s6 w6 g6 J1 H6 l6 S6 yl1 => ?_⟩
        split at w6
        case isFalse => exact w6.elim
        case isTrue hlim1 =>
        obtain ⟨pv6, F6, nf6, l16⟩ := ext xs g5 g6 pv5 F5 nf5 l15 l6
        have w6 : (lcL vs (lcTurn cf t1 ifs1 elt) ds1 s6).WP fun r s => (llL own (l2Turn cf vs t ifs t1 it1 ifs1 elt) (ds.drop (i + 1)) s).WP fun rs s3 => Fin (es ++ (r ++ rs)) s3 := w6
        refine ⟨fun j m H' => m = ds1.length - j ∧ j ≤ ds1.length ∧ ∃ (g7 : G) (s7 : S) (zs : List V) (fs : List D), g7.pv = upd g1.pv L (.lst zs) ∧ g1.ge0 g7 ∧ g6.ge0 g7 ∧ (∀ a, g1.pv a ≠ none → g1.F a = none → g7.F a = none) ∧ g7.F L = none ∧ zs.length ≤ i * 4000 + j ∧ RpAll K g7.F g7.ρ zs fs ∧
          Sim K g7 (wipe σ4 vs) H' { s7 with env := wipeE s7.env vs } ∧ (lcL vs (lcTurn cf t1 ifs1 elt) (ds1.drop j) s7).WP fun r s => (llL own (l2Turn cf vs t ifs t1 it1 ifs1 elt) (ds.drop (i + 1)) s).WP fun rs s3 => Fin (fs ++ (r ++ rs)) s3,
          ⟨ds1.length, by simp, Nat.zero_le _, g6, s6, xs, es, pv6, l16, ⟨Same.refl _, fun _ _ h => h⟩, nf6, F6, by omega, rx.up (l3.ge0.trans (l5.ge0.trans l6.ge0)), S6.wiped vs, by rw [List.drop_zero]; exact w6⟩, ?_⟩
        rintro j m H' ⟨rfl, hj, g7, s7, zs, fs, pv7, l17, l67, nf7, F7, hzl, rz, S7, w7⟩
        obtain ⟨z1, z2⟩ := yl1 g7 _ H' _ l67 S7 j
        cases ej : ds1[j]? with
        | none =>
          have hlen : ds1.length ≤ j := List.getElem?_eq_none_iff.mp ej
          refine .inl ⟨z2 ej, ?_⟩
          rw [List.drop_eq_nil_of_le hlen] at w7
          have w7 : (llL own (l2Turn cf vs t ifs t1 it1 ifs1 elt) (ds.drop (i + 1)) s7).WP fun rs s3 => Fin (fs ++ ([] ++ rs)) s3 := w7
          refine ⟨hlt, g7, s7, zs, fs, pv7, l17, nf7, F7, by omega, rz, ?_, w7⟩
          have S8 := S7.wiped own
          have e1 : wipe (wipe σ4 vs) own = wipe σ own := (wipe_wipe hvs).trans hw4
          rw [e1] at S8
          have e2 : wipeE (wipeE s7.env vs) own = wipeE s7.env own := wipeE_wipeE hvs
          have S8 : Sim K g7 (wipe σ own) H' ⟨wipeE (wipeE s7.env vs) own, s7.mem⟩ := S8
          rw [e2] at S8
          exact S8
        | some dj =>
          have hjt : j < ds1.length := (List.getElem?_eq_some_iff.mp ej).1
          obtain ⟨go1, yy1⟩ := z1 dj ej
          refine .inr ⟨go1, fun H' => j + 1 ≤ ds1.length ∧ ∃ (g7 : G) (s7 : S) (zs : List V) (fs : List D), g7.pv = upd g1.pv L (.lst zs) ∧ g1.ge0 g7 ∧ g6.ge0 g7 ∧ (∀ a, g1.pv a ≠ none → g1.F a = none → g7.F a = none) ∧ g7.F L = none ∧ zs.length ≤ i * 4000 + (j + 1) ∧ RpAll K g7.F g7.ρ zs fs ∧
            Sim K g7 (wipe σ4 vs) H' { s7 with env := wipeE s7.env vs } ∧ (lcL vs (lcTurn cf t1 ifs1 elt) (ds1.drop (j + 1)) s7).WP fun r s => (llL own (l2Turn cf vs t ifs t1 it1 ifs1 elt) (ds.drop (i + 1)) s).WP fun rs s3 => Fin (fs ++ (r ++ rs)) s3,
            fun H'' q => ⟨ds1.length - (j + 1), by omega, rfl, q⟩, fun x H8 hy => ?_⟩
          obtain ⟨g8, l8, S8, r8⟩ := yy1 x H8 hy
          rw [List.drop_eq_getElem_cons hjt] at w7
          have ed' : ds1[j] = dj := (List.getElem?_eq_some_iff.mp ej).2
          rw [ed'] at w7
          have w8 := lcL_cons w7
          rw [WP_bind] at w8
          obtain ⟨s9, ea9, w9⟩ := WP_opt w8
          refine ⟨g8, _, dj, s9, S8, r8, ea9, fun σ9 S9 k9 => ?_⟩
          have hl9 : σ9.length = (wipe σ4 vs).length := by
            have a1 := S9.len
            have a2 := S8.len
            have := asgT_len _ _ _ _ ea9
            rw [← a1, this, a2]
          have hw9 : wipe σ9 vs = wipe σ4 vs := by
            have : wipe (wipe σ4 vs) vs = wipe σ4 vs := wipe_eq (wipe_length _ _) fun j hj => wipe_get hj
            rw [← this]
            exact wipe_eq hl9 fun j hj => k9 j fun z => hj (hix1 j z)
          obtain ⟨pv8, F8, nf8, l18⟩ := ext zs g7 g8 pv7 F7 nf7 l17 l8
          refine ⟨hw9, ?_⟩
          rw [WP_bind] at w9
          refine ⟨g8, s9, S9, WP.mono w9 fun k s10 w10 g10 b H10 l10 S10 eb => ?_⟩
          subst eb
          obtain ⟨pv10, F10, nf10, l110⟩ := ext zs g8 g10 pv8 F8 nf8 l18 l10
          have l610 : g6.ge0 g10 := l67.trans (l8.ge0.trans l10.ge0)
          cases b with
          | false =>
            simp only [Bool.false_eq_true, if_false] at w10 ⊢
            refine ⟨hjt, g10, s10, zs, fs, pv10, l110, l610, nf10, F10, by omega, rz.up (l8.ge0.trans l10.ge0), ?_, w10⟩
            rw [← hw9]
            exact S10.wiped vs
          | true =>
            simp only [if_true] at w10 ⊢
            rw [WP_bind] at w10
            refine ⟨g10, s10, S10, WP.mono w10 fun r s11 w11 g11 v H11 l11 S11 r11 => ?_⟩
            rw [WP_bind] at w11
            obtain ⟨g12, d12, s12, l12, S12, r12, m12, w12⟩ := esc_ok S11 r11 w11
            obtain ⟨pv12, F12, nf12, l112⟩ := ext zs g10 g12 pv10 F10 nf10 l110 (l11.trans l12)
            have hL12 := S12.pvo L _ (by rw [pv12]; exact upd_same)
            have sz : zs.length < sizeLine := by
              rw [sizeLine_eq]
              have : i * 4000 ≤ 3999 * 4000 := Nat.mul_le_mul_right _ (by omega)
              omega
            refine ⟨zs, hL12.1, sz, hjt, { g12 with pv := upd g1.pv L (.lst (zs ++ [v])) }, s12, zs ++ [v], fs ++ [d12], rfl, ⟨l112.fs, l112.ro⟩, ?_, nf12, F12, by simp; omega, ?_, ?_, ?_⟩
            · have := l610.trans (l11.ge0.trans l12.ge0)
              exact ⟨this.fs, this.ro⟩
            · refine (rz.up (l8.ge0.trans (l10.ge0.trans (l11.ge0.trans l12.ge0)))).append (.cons r12 .nil)
            · rw [← hw9]
              exact (S12.grow pv12 F12).wiped vs
            · have w12 : (lcL vs (lcTurn cf t1 ifs1 elt) (ds1.drop (j + 1)) s12).WP fun r s => (llL own (l2Turn cf vs t ifs t1 it1 ifs1 elt) (ds.drop (i + 1)) s).WP fun rs s3 => Fin (fs ++ ((d12 :: r) ++ rs)) s3 := w12
              refine WP.mono w12 fun r s q => WP.mono q fun rs s3 q => ?_
              rw [List.append_assoc]
              exact q
/-! ### dict comprehensions -/
abbrev dcTurn (cf : CF) (t : Tg) (ifs : A) (key elt : E) : D → S → Out S (Option (D × D)) := fun d s => (Out.ofOpt (asgT t d s) s).bind fun s _ => (evC cf ifs s).bind fun k s =>
  if k then (evR cf key s).bind fun r s => (esc (toP r) s).bind fun d s => (evR cf elt s).bind fun r s => (esc (toP r) s).bind fun e s => .ok (some (d, e)) s else .ok none s
theorem dcL_cons {own : List Nat} {turn : D → S → Out S (Option (D × D))} {d : D} {ds : List D} {kvs : List (D × D)} {s : S} {R : List (D × D) → S → Prop} (h : (dcL own turn (d :: ds) kvs s).WP R) :
    (turn d { s with env := wipeE s.env own }).WP fun r s1 => match r with
      | some p => ((Out.ofOpt (putKV kvs p.1 p.2) s1).bind fun rs s => dcL own turn ds rs s).WP R
      | none => (dcL own turn ds kvs s1).WP R := by
  have h : ((turn d { s with env := wipeE s.env own }).bind fun r s => match r with
    | some p => (Out.ofOpt (putKV kvs p.1 p.2) s).bind fun rs s => dcL own turn ds rs s
    | none => dcL own turn ds kvs s).WP R := h
  rw [WP_bind] at h
  refine WP.mono h fun r s1 q => ?_
  cases r with
  | none => exact q
  | some p => exact q
/-- the object o at L holds kvs -/
def RpD (K : PySem.W.Frag) [TBs] (g : G) (L : Addr) (o : HO) (kvs : List (D × D)) : Prop := (∃ ks, o = .dK ks ∧ RpKs K g.F g.ρ ks kvs) ∨ (kvs ≠ [] ∧ ∃ qs, o = DX.TDO TBs.w L qs ∧ RpTs K g.F g.ρ qs kvs)
theorem RpD.up {K : PySem.W.Frag} {g g' : G} {L : Addr} {o : HO} {kvs : List (D × D)} (h : RpD K g L o kvs) (l : g.ge0 g') : RpD K g' L o kvs := by
  rcases h with ⟨ks, e, r⟩ | ⟨n, qs, e, r⟩
  · exact .inl ⟨ks, e, RpKs.up r l⟩
  · exact .inr ⟨n, qs, e, RpTs.up r l⟩
theorem RpD.to {K : PySem.W.Frag} {g : G} {H : Hp} {L : Addr} {o : HO} {kvs : List (D × D)} (h : RpD K g L o kvs) (e : H L = some o) : RpO K g H L (.dct kvs) := by
  rcases h with ⟨ks, rfl, r⟩ | ⟨n, qs, rfl, r⟩
  · exact .inl ⟨ks, e, r⟩
  · exact .inr ⟨n, qs, e, r⟩
theorem RpD.of {K : PySem.W.Frag} {g : G} {H : Hp} {L : Addr} {o : HO} {kvs : List (D × D)} (h : RpO K g H L (.dct kvs)) (e : H L = some o) : RpD K g L o kvs := by
  rcases h with ⟨ks, q, r⟩ | ⟨n, qs, q, r⟩
  · rw [e] at q; cases q; exact .inl ⟨ks, rfl, r⟩
  · rw [e] at q; exact .inr ⟨n, qs, Option.some.inj q, r⟩
/-- the dict's growth -/
theorem cput_of {K : PySem.W.Frag} {g : G} {σ : L2.St} {H : Hp} {s : S} {L : Addr} {o : HO} {y z : V} {kvs kvs' : List (D × D)} {d e : D} (S0 : Sim K g σ H s) (r : RpD K g L o kvs) (eo : H L = some o) (ry : Rp K g.F g.ρ y d) (rz : Rp K g.F g.ρ z e) (h : putKV kvs d e = some kvs') :
    ∃ o', DC.CPut K TBs.w H L y z (upd H L o') ∧ RpD K g L o' kvs' := by
  obtain ⟨o', p, q⟩ := dct_put S0 (r.to eo) ry rz h
  refine ⟨o', ?_, RpD.of q upd_same⟩
  rcases p with p | p
  · rcases p with ⟨ks, k, e1, e2, e3, e4⟩ | ⟨ks, k, b, e1, _⟩
    · exact .inl ⟨ks, k, e2, e1, e3, e4⟩
    · rw [eo] at e1; cases e1
      rcases r with ⟨_, q1, _⟩ | ⟨_, _, q1, _⟩
      · cases q1
      · cases q1
  · exact .inr p
/-- the comprehension's loop, with i items behind it -/
def DcW (K : PySem.W.Frag) (cf : CF) (own : List Nat) (t : Tg) (ifs : A) (key elt : E) (g1 : G) (σ : L2.St) (L : Addr) (ds : List D) (Fin : List (D × D) → S → Prop) (i : Nat) (H' : Hp) : Prop :=
  i ≤ ds.length ∧ ∃ (g2 : G) (s2 : S) (o : HO) (kvs : List (D × D)), g2.pv = upd g1.pv L o ∧ g1.ge0 g2 ∧ (∀ a, g1.pv a ≠ none → g1.F a = none → g2.F a = none) ∧ g2.F L = none ∧ RpD K g2 L o kvs ∧
    Sim K g2 (wipe σ own) H' { s2 with env := wipeE s2.env own } ∧ (dcL own (dcTurn cf t ifs key elt) (ds.drop i) kvs s2).WP fun rs s3 => Fin rs s3
/-- the comprehension's rule -/
theorem dc_rule {K : PySem.W.Frag} {cf : CF} {own : List Nat} {t : Tg} {it : I} {ifs : A} {key elt : E} (hix : ∀ i ∈ t.ix, i ∈ own) : ∀ σ H Q, RdR K cf (.dc own t it ifs key elt) σ H Q → DC.tDC K TBs.w (RdI K cf it) (RdG K t) (RdC K cf ifs) (RdP K cf key) (RdP K cf elt) own σ H Q := fun σ H Q ⟨g, s, S0, w⟩ => by
  simp only [evR] at w
  refine Rd.next S0 w fun g1 ds s1 J H1 l1 S1 yl w1 L hL => ?_
  have fr := S1.none_ hL
  rw [WP_bind] at w1
  have w1 : (dcL own (dcTurn cf t ifs key elt) ds [] s1).WP fun rs s3 => Post K (RpR K) σ Q g1 (.mo (.dct rs)) { s3 with env := back s1.env s3.env own } := w1
  generalize hFin : (fun (rs : List (D × D)) (s3 : S) => Post K (RpR K) σ Q g1 (.mo (.dct rs)) { s3 with env := back s1.env s3.env own }) = Fin at w1
  have nL : L ∉ TBs.tb := S1.ntn hL
  refine ⟨fun i m H' => m = ds.length - i ∧ DcW K cf own t ifs key elt g1 σ L ds Fin i H', ⟨ds.length, by simp, Nat.zero_le _, { g1 with pv := upd g1.pv L (.dK []) }, s1, .dK [], [], rfl, ⟨Same.refl _, fun _ _ h => h⟩, fun _ _ h => h, fr.1.1, .inl ⟨[], rfl, .nil⟩, ?_, ?_⟩, ?_⟩
  · refine ((S1.new hL (.dK [])).wiped own).pvx _ (fun a o e => ?_) (fun i a ⟨⟨m, e⟩, f⟩ => ?_) fun P hP => by rw [upd_ne (show P ≠ L from fun z => nL (by rw [← z]; exact hP))]; exact (S1.tbs P hP).2.1
    · by_cases ha : a = L
      · subst ha
        rw [upd_same] at e; cases e
        exact ⟨upd_same, fr.1.2.1⟩
      · rw [upd_ne ha] at e ⊢
        exact S1.pvo a o e
    · have e : (wipeE s1.env own)[i]? = some (.own m) := e
      have hi : i ∉ own := fun z => by
        have := wipeE_in e z
        cases this
      rw [wipeE_get hi] at e
      rw [wipe_get hi] at f
      have ha : a ≠ L := fun z => fr.2 i ⟨⟨m, e⟩, by rw [← z]; exact f⟩
      rw [upd_ne ha]
      obtain ⟨b, e1, p, _⟩ := S1.own i m e
      rw [e1] at f; cases f
      exact p.2.2
  · rw [List.drop_zero]
    exact w1
  · rintro i m H' ⟨rfl, hi, g2, s2, o, kvs, epv, l2, nf, hFD, rx, S2, w2⟩
    obtain ⟨y1, y2⟩ := yl g2 _ H' _ l2 S2 i
    cases ed : ds[i]? with
    | none =>
      have hlen : ds.length ≤ i := List.getElem?_eq_none_iff.mp ed
      refine .inl ⟨y2 ed, ?_⟩
      rw [List.drop_eq_nil_of_le hlen] at w2
      have w2 : Fin kvs s2 := w2
      rw [← hFin] at w2
      have hL2 := S2.pvo L _ (by rw [epv]; exact upd_same)
      have S3 := S1.backed (s := s2) l2 S2
      have hown : ∀ i a, OwnAt (back s1.env s2.env own) σ i a → a ≠ L := fun i a ⟨⟨m, e⟩, f⟩ z => by
        obtain ⟨b, e1, p, _⟩ := S3.own i m e
        rw [e1] at f; cases f
        have := p.2.2
        rw [z, epv, upd_same] at this; cases this
      refine w2 { g2 with pv := g1.pv } (.ref L) H' ⟨l2.fs, l2.ro, rfl, nf⟩ ?_ ⟨L, rfl, ⟨⟨hFD, hL2.2, fr.1.2.2⟩, fun i o => hown i L o rfl⟩, (rx.up (g' := { g2 with pv := g1.pv }) ⟨Same.refl _, fun _ _ h => h⟩).to hL2.1⟩
      refine S3.pvx _ (fun a o e => ?_) (fun i a o => ?_) fun P hP => (S1.tbs P hP).2.1
      · have ha : a ≠ L := fun z => by rw [z, fr.1.2.2] at e; cases e
        exact S2.pvo a o (by rw [epv, upd_ne ha]; exact e)
      · have ha := hown i a o
        obtain ⟨⟨m, e⟩, f⟩ := o
        obtain ⟨b, e1, p, _⟩ := S3.own i m e
        rw [e1] at f; cases f
        have := p.2.2
        rw [epv, upd_ne ha] at this
        exact this
    | some d =>
      have hlt : i < ds.length := (List.getElem?_eq_some_iff.mp ed).1
      obtain ⟨go, yy⟩ := y1 d ed
      refine .inr ⟨go, DcW K cf own t ifs key elt g1 σ L ds Fin (i + 1), fun H'' q => ⟨ds.length - (i + 1), by omega, rfl, q⟩, fun x H3 hy => ?_⟩
      obtain ⟨g3, l3, S3, r3⟩ := yy x H3 hy
      rw [List.drop_eq_getElem_cons hlt] at w2
      have ed' : ds[i] = d := (List.getElem?_eq_some_iff.mp ed).2
      rw [ed'] at w2
      have w3 := dcL_cons w2
      rw [WP_bind] at w3
      obtain ⟨s4, ea, w4⟩ := WP_opt w3
      refine ⟨g3, _, d, s4, S3, r3, ea, fun σ4 S4 k4 => ?_⟩
      have hl4 : σ4.length = (wipe σ own).length := by
        have a1 := S4.len
        have a2 := S3.len
        have := asgT_len _ _ _ _ ea
        rw [← a1, this, a2]
      have hw4 : wipe σ4 own = wipe σ own := by
        have : wipe (wipe σ own) own = wipe σ own := wipe_eq (wipe_length _ _) fun j hj => wipe_get hj
        rw [← this]
        exact wipe_eq hl4 fun j hj => k4 j fun z => hj (hix j z)
      have pv3 : g3.pv = upd g1.pv L o := l3.pv.trans epv
      have nz : ∀ a, g1.pv a ≠ none → upd g1.pv L o a ≠ none := fun a h1 => by
        by_cases ha : a = L
        · subst ha; rw [upd_same]; simp
        · rw [upd_ne ha]; exact h1
      have hFD3 : g3.F L = none := l3.nf L (by rw [epv, upd_same]; simp) hFD
      have nf3 : ∀ a, g1.pv a ≠ none → g1.F a = none → g3.F a = none := fun a h1 h2 => l3.nf a (by rw [epv]; exact nz a h1) (nf a h1 h2)
      have ext : ∀ (g5 : G), g3.le g5 → g5.pv = upd g1.pv L o ∧ g5.F L = none ∧ (∀ a, g1.pv a ≠ none → g1.F a = none → g5.F a = none) ∧ g1.ge0 g5 := fun g5 l5 =>
        ⟨l5.pv.trans pv3, l5.nf L (by rw [pv3, upd_same]; simp) hFD3, fun a h1 h2 => l5.nf a (by rw [pv3]; exact nz a h1) (nf3 a h1 h2), l2.trans (l3.ge0.trans l5.ge0)⟩
      refine ⟨hw4, ?_⟩
      rw [WP_bind] at w4
      refine ⟨g3, s4, S4, WP.mono w4 fun k s5 w5 g5 b H5 l5 S5 eb => ?_⟩
      subst eb
      obtain ⟨pv5, F5, nf5, l15⟩ := ext g5 l5
      cases b with
      | false =>
        simp only [Bool.false_eq_true, if_false] at w5 ⊢
        refine ⟨hlt, g5, s5, o, kvs, pv5, l15, nf5, F5, rx.up (l3.ge0.trans l5.ge0), ?_, w5⟩
        rw [← hw4]
        exact S5.wiped own
      | true =>
        simp only [if_true] at w5 ⊢
        rw [WP_bind] at w5
        refine ⟨g5, s5, S5, WP.mono w5 fun r s6 w6 g6 v H6 l6 S6 r6 => ?_⟩
        rw [WP_bind] at w6
        obtain ⟨g7, d7, s7, l7, S7, r7, m7, w7⟩ := esc_ok S6 r6 w6
        rw [WP_bind] at w7
        refine ⟨g7, s7, S7, WP.mono w7 fun r' s8 w8 g8 v' H8 l8 S8 r8 => ?_⟩
        rw [WP_bind] at w8
        obtain ⟨g9, d9, s9, l9, S9, r9, m9, w9⟩ := esc_ok S8 r8 w8
        obtain ⟨pv9, F9, nf9, l19⟩ := ext g9 (l5.trans (l6.trans (l7.trans (l8.trans l9))))
        have hL9 := S9.pvo L _ (by rw [pv9]; exact upd_same)
        have w9 : ((Out.ofOpt (putKV kvs d7 d9) s9).bind fun rs s => dcL own (dcTurn cf t ifs key elt) (ds.drop (i + 1)) rs s).WP fun rs s3 => Fin rs s3 := w9
        rw [WP_bind] at w9
        obtain ⟨kvs', ep, w10⟩ := WP_opt w9
        have r7' : Rp K g9.F g9.ρ v d7 := Rp.up r7 (l8.ge0.trans l9.ge0)
        obtain ⟨o', hp, rx'⟩ := cput_of S9 (rx.up (l3.ge0.trans (l5.ge0.trans (l6.ge0.trans (l7.ge0.trans (l8.ge0.trans l9.ge0)))))) hL9.1 r7' r9 ep
        refine ⟨_, hp, hlt, { g9 with pv := upd g1.pv L o' }, s9, o', kvs', rfl, ⟨l19.fs, l19.ro⟩, nf9, F9, rx'.up ⟨Same.refl _, fun _ _ h => h⟩, ?_, w10⟩
        rw [← hw4]
        exact (S9.grow pv9 F9).wiped own
end

/-! ### generator expressions -/
theorem Sim.tab {K : PySem.W.Frag} {g : G} {σ : L2.St} {H H' : Hp} {s : S} {P : Addr} (x : Sim K g σ H s) (hP : P ∈ TBs.tb) (h : GxR.Tabbed P H H') : Sim K g σ H' s := by
  obtain ⟨hF, hv, ps, e, ht⟩ := x.tbs P hP
  have kp : ∀ b u, b ≠ P → H b = some u → H' b = some u := fun b u hb q => by rw [h.2 b hb]; exact q
  have np : ∀ b u, H b = some u → (∀ q, u ≠ .tbl q) → b ≠ P := fun b u q k z => by
    rw [z, e] at q; cases q
    exact k ps rfl
  have nl : ∀ {a : Addr} {m : MO}, RpO K g H a m → a ≠ P := fun {a m} r => by
    obtain ⟨o, q, n, _⟩ := r.gen
    exact np _ _ q n
  refine ⟨fun b u q => kp _ _ (fun z => by rw [z, hF] at q; cases q) (x.fz _ _ q), x.len, x.val, fun i m q => ?_, x.sep, x.mlen, x.nd, fun n a m q1 q2 => ?_, fun a u q => ⟨kp _ _ (fun z => by rw [z, hv] at q; cases q) (x.pvo a u q).1, (x.pvo a u q).2⟩, fun T hT => ?_⟩
  · obtain ⟨a, e1, p, r⟩ := x.own i m q
    exact ⟨a, e1, p, r.up (.refl _) fun u q => kp _ _ (nl r) q⟩
  · obtain ⟨h1, r⟩ := x.mem n a m q1 q2
    exact ⟨h1, r.up (.refl _) fun u q => kp _ _ (by obtain ⟨o, q', n⟩ := r.gen; exact np _ _ q' n) q⟩
  · obtain ⟨h1, h2, qs, h3, h4⟩ := x.tbs T hT
    refine ⟨h1, h2, ?_⟩
    by_cases hTP : T = P
    · subst hTP; exact h.1
    · exact ⟨qs, kp _ _ hTP h3, h4⟩
abbrev gxTurn (cf : CF) (t : Tg) (ifs : A) (elt : E) : D → S → Out S (Option Bool) := fun d s => (Out.ofOpt (asgT t d s) s).bind fun s _ => (evC cf ifs s).bind fun k s =>
  if k then (evR cf elt s).bind fun r s => (isB (toP r) s).bind fun b s => .ok (some b) s else .ok none s
def GxW (K : PySem.W.Frag) (cf : CF) (own : List Nat) (stop : Bool) (t : Tg) (ifs : A) (elt : E) (g1 : G) (σ : L2.St) (ds : List D) (Fin : Bool → S → Prop) (i : Nat) (H' : Hp) : Prop :=
  i ≤ ds.length ∧ ∃ (g2 : G) (s2 : S), g1.le g2 ∧ Sim K g2 (wipe σ own) H' { s2 with env := wipeE s2.env own } ∧ (gxL own stop (gxTurn cf t ifs elt) (ds.drop i) s2).WP Fin
theorem gx_rule {K : PySem.W.Frag} {cf : CF} {stop : Bool} {P : Addr} {own : List Nat} {t : Tg} {it : I} {ifs : A} {elt : E} (hP : P ∈ TBs.tb) (hix : ∀ i ∈ t.ix, i ∈ own) : ∀ σ H Q, RdR K cf (.gx stop own t it ifs elt) σ H Q → GX.tGx stop P (RdI K cf it) (RdG K t) (RdC K cf ifs) (RdP K cf elt) own σ H Q := fun σ H Q ⟨g, s, S0, w⟩ => by
  simp only [evR] at w
  refine Rd.next S0 w fun g1 ds s1 J H1 l1 S1 yl w1 => ?_
  obtain ⟨_, _, ps, hps, htr⟩ := S1.tbs P hP
  refine ⟨ps, hps, htr, fun H2 hTb => ?_⟩
  have S1 := S1.tab hP hTb
  rw [WP_bind] at w1
  have w1 : (gxL own stop (gxTurn cf t ifs elt) ds s1).WP fun b s3 => Post K (RpR K) σ Q g1 (.pl (.d (.bl b))) { s3 with env := back s1.env s3.env own } := w1
  generalize hFin : (fun (b : Bool) (s3 : S) => Post K (RpR K) σ Q g1 (.pl (.d (.bl b))) { s3 with env := back s1.env s3.env own }) = Fin at w1
  have out : ∀ {g2 : G} {s2 : S} {H' : Hp} (b : Bool), g1.le g2 → Sim K g2 (wipe σ own) H' { s2 with env := wipeE s2.env own } → Fin b s2 → Q (.bl b) H' := fun {g2 s2 H'} b l2 S2 f => by
    rw [← hFin] at f
    exact f g2 (.bl b) H' l2 (S1.backed (s := s2) l2.ge0 S2) (.bl b)
  refine ⟨fun i m H' => m = ds.length - i ∧ GxW K cf own stop t ifs elt g1 σ ds Fin i H', ⟨ds.length, by simp, Nat.zero_le _, g1, s1, .refl g1, S1.wiped own, by rw [List.drop_zero]; exact w1⟩, ?_⟩
  rintro i m H' ⟨rfl, hi, g2, s2, l2, S2, w2⟩
  obtain ⟨y1, y2⟩ := yl g2 _ H' _ l2.ge0 S2 i
  cases ed : ds[i]? with
  | none =>
    have hlen : ds.length ≤ i := List.getElem?_eq_none_iff.mp ed
    rw [List.drop_eq_nil_of_le hlen] at w2
    exact .inl ⟨y2 ed, out _ l2 S2 w2⟩
  | some d =>
    have hlt : i < ds.length := (List.getElem?_eq_some_iff.mp ed).1
    obtain ⟨go, yy⟩ := y1 d ed
    refine .inr ⟨go, GxW K cf own stop t ifs elt g1 σ ds Fin (i + 1), fun H'' q => ⟨ds.length - (i + 1), by omega, rfl, q⟩, fun x H3 hy => ?_⟩
    obtain ⟨g3, l3, S3, r3⟩ := yy x H3 hy
    rw [List.drop_eq_getElem_cons hlt] at w2
    have ed' : ds[i] = d := (List.getElem?_eq_some_iff.mp ed).2
    rw [ed'] at w2
    simp only [gxL, WP_bind] at w2
    obtain ⟨s4, ea, w4⟩ := WP_opt w2
    refine ⟨g3, _, d, s4, S3, r3, ea, fun σ4 S4 k4 => ?_⟩
    have hl4 : σ4.length = (wipe σ own).length := by
      have a1 := S4.len
      have a2 := S3.len
      have := asgT_len _ _ _ _ ea
      rw [← a1, this, a2]
    have hw4 : wipe σ4 own = wipe σ own := by
      have : wipe (wipe σ own) own = wipe σ own := wipe_eq (wipe_length _ _) fun j hj => wipe_get hj
      rw [← this]
      exact wipe_eq hl4 fun j hj => k4 j fun z => hj (hix j z)
    refine ⟨hw4, ?_⟩
    refine ⟨g3, s4, S4, WP.mono w4 fun k s5 w5 g5 b H5 l5 S5 eb => ?_⟩
    subst eb
    have l25 : g1.le g5 := l2.trans (l3.trans l5)
    cases b with
    | false =>
      simp only [Bool.false_eq_true, if_false] at w5 ⊢
      refine ⟨hlt, g5, s5, l25, ?_, w5⟩
      rw [← hw4]
      exact S5.wiped own
    | true =>
      simp only [if_true, WP_bind] at w5 ⊢
      refine ⟨g5, s5, S5, WP.mono w5 fun r s6 w6 g6 v H6 l6 S6 r6 => ?_⟩
      obtain ⟨c, rfl, w7⟩ := isB_ok S6 r6 w6
      have w7 : (if c = stop then Out.ok stop s6 else gxL own stop (gxTurn cf t ifs elt) (ds.drop (i + 1)) s6).WP Fin := w7
      have S7 : Sim K g6 (wipe σ own) H6 { s6 with env := wipeE s6.env own } := by
        rw [← hw4]; exact S6.wiped own
      refine ⟨c, rfl, fun hc => ?_, fun hc => ?_⟩
      · rw [if_pos hc] at w7
        exact out _ (l25.trans l6) S7 w7
      · rw [if_neg hc] at w7
        exact ⟨hlt, g6, s6, l25.trans l6, S7, w7⟩
theorem gmL_cons {own : List Nat} {turn : D → S → Out S (Option Int)} {d : D} {ds : List D} {bo : Option Int} {s : S} {R : Int → S → Prop} (h : (gmL own turn (d :: ds) bo s).WP R) :
    (turn d { s with env := wipeE s.env own }).WP fun r s1 => match r with
      | some c => (gmL own turn ds (some (GM.mx bo c)) s1).WP R
      | none => (gmL own turn ds bo s1).WP R := by
  have h : ((turn d { s with env := wipeE s.env own }).bind fun r s => match r with
    | some c => gmL own turn ds (some (GM.mx bo c)) s
    | none => gmL own turn ds bo s).WP R := h
  rw [WP_bind] at h
  refine WP.mono h fun r s1 q => ?_
  cases r with
  | none => exact q
  | some p => exact q
abbrev gmTurn (cf : CF) (t : Tg) (ifs : A) (elt : E) : D → S → Out S (Option Int) := fun d s => (Out.ofOpt (asgT t d s) s).bind fun s _ => (evC cf ifs s).bind fun k s =>
  if k then (evR cf elt s).bind fun r s => (isI (toP r) s).bind fun b s => .ok (some b) s else .ok none s
def GmW (K : PySem.W.Frag) (cf : CF) (own : List Nat) (t : Tg) (ifs : A) (elt : E) (g1 : G) (σ : L2.St) (L : Addr) (ds : List D) (Fin : Int → S → Prop) (i : Nat) (bo : Option Int) (H' : Hp) : Prop :=
  i ≤ ds.length ∧ ∃ (g2 : G) (s2 : S), g2.pv = upd g1.pv L (.lst (GM.bl bo)) ∧ g1.ge0 g2 ∧ (∀ a, g1.pv a ≠ none → g1.F a = none → g2.F a = none) ∧ g2.F L = none ∧
    Sim K g2 (wipe σ own) H' { s2 with env := wipeE s2.env own } ∧ (gmL own (gmTurn cf t ifs elt) (ds.drop i) bo s2).WP Fin
theorem gm_rule {K : PySem.W.Frag} {cf : CF} {P : Addr} {own : List Nat} {t : Tg} {it : I} {ifs : A} {elt : E} (hP : P ∈ TBs.tb) (hix : ∀ i ∈ t.ix, i ∈ own) : ∀ σ H Q, RdR K cf (.gmax own t it ifs elt) σ H Q → GM.tGm P (RdI K cf it) (RdG K t) (RdC K cf ifs) (RdP K cf elt) own σ H Q := fun σ H Q ⟨g, s, S0, w⟩ => by
  simp only [evR] at w
  refine Rd.next S0 w fun g1 ds s1 J H1 l1 S1 yl w1 => ?_
  obtain ⟨_, _, ps, hps, htr⟩ := S1.tbs P hP
  refine ⟨ps, hps, htr, fun H2 hTb L hL => ?_⟩
  have S1 := S1.tab hP hTb
  have fr := S1.none_ hL
  rw [WP_bind] at w1
  have w1 : (gmL own (gmTurn cf t ifs elt) ds none s1).WP fun b s3 => Post K (RpR K) σ Q g1 (.pl (.d (.int b))) { s3 with env := back s1.env s3.env own } := w1
  generalize hFin : (fun (b : Int) (s3 : S) => Post K (RpR K) σ Q g1 (.pl (.d (.int b))) { s3 with env := back s1.env s3.env own }) = Fin at w1
  have nL : L ∉ TBs.tb := S1.ntn hL
  refine ⟨fun i m bo H' => m = ds.length - i ∧ GmW K cf own t ifs elt g1 σ L ds Fin i bo H', ⟨ds.length, by simp, Nat.zero_le _, { g1 with pv := upd g1.pv L (.lst []) }, s1, rfl, ⟨Same.refl _, fun _ _ h => h⟩, fun _ _ h => h, fr.1.1, ?_, ?_⟩, ?_⟩
  · refine ((S1.new hL (.lst [])).wiped own).pvx _ (fun a o e => ?_) (fun i a ⟨⟨m, e⟩, f⟩ => ?_) fun P hP => by rw [upd_ne (show P ≠ L from fun z => nL (by rw [← z]; exact hP))]; exact (S1.tbs P hP).2.1
    · by_cases ha : a = L
      · subst ha
        rw [upd_same] at e; cases e
        exact ⟨upd_same, fr.1.2.1⟩
      · rw [upd_ne ha] at e ⊢
        exact S1.pvo a o e
    · have e : (wipeE s1.env own)[i]? = some (.own m) := e
      have hi : i ∉ own := fun z => by
        have := wipeE_in e z
        cases this
      rw [wipeE_get hi] at e
      rw [wipe_get hi] at f
      have ha : a ≠ L := fun z => fr.2 i ⟨⟨m, e⟩, by rw [← z]; exact f⟩
      rw [upd_ne ha]
      obtain ⟨b, e1, p, _⟩ := S1.own i m e
      rw [e1] at f; cases f
      exact p.2.2
  · rw [List.drop_zero]
    exact w1
  · rintro i m bo H' ⟨rfl, hi, g2, s2, epv, l2, nf, hFD, S2, w2⟩
    have hL2 := S2.pvo L _ (by rw [epv]; exact upd_same)
    refine ⟨hL2.1, ?_⟩
    obtain ⟨y1, y2⟩ := yl g2 _ H' _ l2 S2 i
    cases ed : ds[i]? with
    | none =>
      have hlen : ds.length ≤ i := List.getElem?_eq_none_iff.mp ed
      rw [List.drop_eq_nil_of_le hlen] at w2
      obtain ⟨b, eb, w2⟩ := WP_opt w2
      subst eb
      refine .inl ⟨y2 ed, b, rfl, ?_⟩
      rw [← hFin] at w2
      have S3 := S1.backed (s := s2) l2 S2
      have hown : ∀ i a, OwnAt (back s1.env s2.env own) σ i a → a ≠ L := fun i a ⟨⟨m, e⟩, f⟩ z => by
        obtain ⟨b, e1, p, _⟩ := S3.own i m e
        rw [e1] at f; cases f
        have := p.2.2
        rw [z, epv, upd_same] at this; cases this
      have S4 := S3.grow (o' := .lst []) epv hFD
      refine w2 { g2 with pv := g1.pv } (.int b) (upd H' L (.lst [])) ⟨l2.fs, l2.ro, rfl, nf⟩ ?_ (.int b)
      refine S4.pvx _ (fun a o e => ?_) (fun i a o => ?_) fun P hP => (S1.tbs P hP).2.1
      · have ha : a ≠ L := fun z => by rw [z, fr.1.2.2] at e; cases e
        exact S4.pvo a o (by show upd g1.pv L (HO.lst []) a = some o; rw [upd_ne ha]; exact e)
      · have ha := hown i a o
        obtain ⟨⟨m, e⟩, f⟩ := o
        obtain ⟨b, e1, p, _⟩ := S3.own i m e
        rw [e1] at f; cases f
        have := p.2.2
        rw [epv, upd_ne ha] at this
        exact this
    | some d =>
      have hlt : i < ds.length := (List.getElem?_eq_some_iff.mp ed).1
      obtain ⟨go, yy⟩ := y1 d ed
      refine .inr ⟨go, GmW K cf own t ifs elt g1 σ L ds Fin (i + 1), fun bo' H'' q => ⟨ds.length - (i + 1), by omega, rfl, q⟩, fun x H3 hy => ?_⟩
      obtain ⟨g3, l3, S3, r3⟩ := yy x H3 hy
      rw [List.drop_eq_getElem_cons hlt] at w2
      have ed' : ds[i] = d := (List.getElem?_eq_some_iff.mp ed).2
      rw [ed'] at w2
      have w3 := gmL_cons w2
      rw [WP_bind] at w3
      obtain ⟨s4, ea, w4⟩ := WP_opt w3
      refine ⟨g3, _, d, s4, S3, r3, ea, fun σ4 S4 k4 => ?_⟩
      have hl4 : σ4.length = (wipe σ own).length := by
        have a1 := S4.len
        have a2 := S3.len
        have := asgT_len _ _ _ _ ea
        rw [← a1, this, a2]
      have hw4 : wipe σ4 own = wipe σ own := by
        have : wipe (wipe σ own) own = wipe σ own := wipe_eq (wipe_length _ _) fun j hj => wipe_get hj
        rw [← this]
        exact wipe_eq hl4 fun j hj => k4 j fun z => hj (hix j z)
      have pv3 : g3.pv = upd g1.pv L (.lst (GM.bl bo)) := l3.pv.trans epv
      have nz : ∀ a, g1.pv a ≠ none → upd g1.pv L (.lst (GM.bl bo)) a ≠ none := fun a h1 => by
        by_cases ha : a = L
        · subst ha; rw [upd_same]; simp
        · rw [upd_ne ha]; exact h1
      have hFD3 : g3.F L = none := l3.nf L (by rw [epv, upd_same]; simp) hFD
      have nf3 : ∀ a, g1.pv a ≠ none → g1.F a = none → g3.F a = none := fun a h1 h2 => l3.nf a (by rw [epv]; exact nz a h1) (nf a h1 h2)
      have ext : ∀ (g5 : G), g3.le g5 → g5.pv = upd g1.pv L (.lst (GM.bl bo)) ∧ g5.F L = none ∧ (∀ a, g1.pv a ≠ none → g1.F a = none → g5.F a = none) ∧ g1.ge0 g5 := fun g5 l5 =>
        ⟨l5.pv.trans pv3, l5.nf L (by rw [pv3, upd_same]; simp) hFD3, fun a h1 h2 => l5.nf a (by rw [pv3]; exact nz a h1) (nf3 a h1 h2), l2.trans (l3.ge0.trans l5.ge0)⟩
      refine ⟨hw4, ?_⟩
      rw [WP_bind] at w4
      refine ⟨g3, s4, S4, WP.mono w4 fun k s5 w5 g5 b H5 l5 S5 eb => ?_⟩
      subst eb
      obtain ⟨pv5, F5, nf5, l15⟩ := ext g5 l5
      cases b with
      | false =>
        simp only [Bool.false_eq_true, if_false] at w5 ⊢
        refine ⟨hlt, g5, s5, pv5, l15, nf5, F5, ?_, w5⟩
        rw [← hw4]
        exact S5.wiped own
      | true =>
        simp only [if_true] at w5 ⊢
        rw [WP_bind] at w5
        refine ⟨g5, s5, S5, WP.mono w5 fun r s6 w6 g6 v H6 l6 S6 r6 => ?_⟩
        rw [WP_bind] at w6
        obtain ⟨c, rfl, w7⟩ := isI_ok S6 r6 w6
        obtain ⟨pv6, F6, nf6, l16⟩ := ext g6 (l5.trans l6)
        have hL6 := S6.pvo L _ (by rw [pv6]; exact upd_same)
        refine ⟨c, rfl, hL6.1, hlt, { g6 with pv := upd g1.pv L (.lst (GM.bl (some (GM.mx bo c)))) }, s6, rfl, ⟨l16.fs, l16.ro⟩, nf6, F6, ?_, w7⟩
        rw [← hw4]
        exact (S6.grow pv6 F6).wiped own
end DL
end

section
set_option maxRecDepth 100000
set_option maxHeartbeats 8000000
/-! DL7: every expression keeps to what it computes. -/
namespace DL
open PySem PySem.Spec PyProof.Rows L2
variable [TBs]

section
variable {X : Cx} {c : EC} {cf : CF}
abbrev RdO (K : PySem.W.Frag) (cf : CF) (lo : E) : TO := Rd K (fun s => if isHole lo then .ok none s else (evR cf lo s).bind fun l s => (isI (toP l) s).bind fun i s => .ok (some i) s) (fun _ _ _ _ (o o' : Option Int) => o = o')
theorem PO.imp {x : Option Expr} {t t' : TO} (h : PO X x t) (i : ∀ σ H Q, t' σ H Q → t σ H Q) : PO X x t' := ⟨fun pins s σ H Q I q => h.run pins s σ H Q I (i σ H Q q)⟩
theorem po_hole {lo : E} (h : isHole lo = true) : PO X none (RdO X.K cf lo) := PO.imp po_none fun σ H Q ⟨g, s, S0, w⟩ => by
  simp only [h, if_true] at w
  exact w g none H (.refl g) S0 rfl
theorem po_e {lo : E} {x : Expr} (h : isHole lo = false) (p : PE X x (RdR X.K cf lo)) : PO X (some x) (RdO X.K cf lo) := PO.imp (po_some (PE.imp p fun σ H Q q => RdP_R q)) fun σ H Q ⟨g, s, S0, w⟩ => by
  simp only [h, Bool.false_eq_true, if_false] at w
  refine Rd.next S0 w fun g1 l s1 v H1 l1 S1 r1 w1 => ?_
  rw [WP_bind] at w1
  obtain ⟨i, rfl, w2⟩ := isI_ok S1 r1 w1
  exact ⟨i, rfl, w2 g1 (some i) H1 (.refl g1) S1 rfl⟩
theorem pe_p {x : Expr} {e : E} (h : PE X x (RdR X.K cf e)) : PE X x (RdP X.K cf e) := PE.imp h fun _ _ _ q => RdP_R q
theorem ns_cons {a : Expr} {as : List Expr} (h : notStar a = true) (e : PE X a (RdR X.K cf ea)) {t : TA} (r : PA X as t) : PA X (a :: as) (tCons (RdP X.K cf ea) t) := pa_cons (pe_p e) r (star_cons h)
theorem ops_eq {o p : Operator} (h : (o == p) = true) : o = p := eq_of_beq h
theorem isEmp {α : Type} {xs : List α} (h : (!xs.isEmpty) = true) : xs ≠ [] := fun z => by subst z; cases h
theorem rgV_rp {K : PySem.W.Frag} {F : Hp} {ρ : List Addr} (a b : Int) : RpAll K F ρ (rgV a b) (rngD a (b - a).toNat) := by
  unfold rgV rngD
  generalize List.range (b - a).toNat = l
  induction l with
  | nil => exact .nil
  | cons n r ih => exact .cons (.int _) ih
theorem smallR_ok {a b : Int} (h : smallR a b = true) : RgOk a b := by
  unfold smallR small62 at h
  simp only [Bool.and_eq_true, decide_eq_true_eq] at h
  exact ⟨h.1.1.1, h.1.1.2, h.1.2.1, h.1.2.2, h.2⟩
theorem small_ok {a : Int} (h : small62 a = true) : -(2 ^ 62) ≤ a ∧ a < 2 ^ 62 := by
  unfold small62 at h
  simp only [Bool.and_eq_true, decide_eq_true_eq] at h
  exact h
theorem Rd.mono {α β : Type} {K : PySem.W.Frag} {f : S → Out S α} {R : G → L2.St → Hp → S → β → α → Prop} {σ : L2.St} {H : Hp} {Q Q' : β → Hp → Prop} (h : Rd K f R σ H Q) (i : ∀ v H', Q v H' → Q' v H') : Rd K f R σ H Q' := by
  obtain ⟨g, s, S0, w⟩ := h
  exact ⟨g, s, S0, WP.mono w fun r s1 q g1 v H1 l1 S1 r1 => i v H1 (q g1 v H1 l1 S1 r1)⟩
theorem mem_of_lookup {α β : Type} [BEq α] [LawfulBEq α] {l : List (α × β)} {a : α} {b : β} (h : l.lookup a = some b) : (a, b) ∈ l := by
  induction l with
  | nil => cases h
  | cons p l ih =>
    rw [List.lookup_cons] at h
    split at h
    · rename_i e
      cases h
      rw [eq_of_beq e]
      exact List.mem_cons_self
    · exact List.mem_cons_of_mem _ (ih h)
theorem insP_ok {α : Type} {p : Pl} {s : S} {F : Nat × String × List (Str × D) → Option α} {b : α} (h : (insP p s).bind F = some b) : ∃ n k fs, insP p s = some (n, k, fs) ∧ F (n, k, fs) = some b := by
  cases q : insP p s with
  | none => rw [q] at h; cases h
  | some z =>
    rw [q] at h
    exact ⟨z.1, z.2.1, z.2.2, rfl, h⟩
/-- an instance as a value -/
theorem ins_val {K : PySem.W.Frag} {g : G} {σ : L2.St} {H : Hp} {s : S} {p : Pl} {v : V} {n : Nat} {k : String} {fs : List (Str × D)} (S0 : Sim K g σ H s) (r : RpP K g σ v p) (e : insP p s = some (n, k, fs)) :
    ∃ a dx vs, v = .ref a ∧ H a = some (.ins (TBs.ca k) dx vs) ∧ RpFs K g.F g.ρ vs fs ∧ g.ρ[n]? = some a ∧ s.mem[n]? = some (.ins k fs) := by
  unfold insP at e
  cases q : refP p s with
  | none => rw [q] at e; cases e
  | some n' =>
    rw [q] at e
    have e : (match s.mem[n']? with
      | some (.ins c fs) => some (n', c, fs)
      | _ => none) = some (n, k, fs) := e
    split at e
    · rename_i c fs' em
      cases e
      have ra : ∃ a, v = .ref a ∧ g.ρ[n]? = some a := by
        unfold refP at q
        split at q
        · cases q
          cases r with
          | ref e => exact ⟨_, rfl, e⟩
        · rename_i i
          split at q
          · rename_i m ee
            cases q
            obtain ⟨u, e1, e2⟩ := S0.val i _ ee
            have r : σ[i]? = some (some v) := r
            rw [e1] at r
            cases r
            cases e2 with
            | ref e => exact ⟨_, rfl, e⟩
          · cases q
        · cases q
      obtain ⟨a, rfl, er⟩ := ra
      obtain ⟨dx, vs, h1, h2⟩ := (S0.mem n a _ er em).2.ins
      exact ⟨a, dx, vs, rfl, h1, h2, er, em⟩
    · cases e
abbrev RdBo (K : PySem.W.Frag) (cf : CF) (w : Bool) (as : A) : TT := Rd K (fun s => (evB cf w as s).bind fun r s => isT (toP r) s) (fun _ _ _ _ (b k : Bool) => b = k)
/-- all that is said of a list of arguments -/
structure AOk (X : Cx) (cf : CF) (as : A) (xs : List Expr) : Prop where
  pa : PA X xs (RdA X.K cf as)
  pand : xs ≠ [] → ∀ pos, PE X (.BoolOp .And xs pos) (Rd X.K (evB cf true as) (RpR X.K))
  por : xs ≠ [] → ∀ pos, PE X (.BoolOp .Or xs pos) (Rd X.K (evB cf false as) (RpR X.K))
  wand : xs ≠ [] → xs.all notIf = true → ∀ pos, PW X (.BoolOp .And xs pos) (RdBo X.K cf true as)
  wor : xs ≠ [] → xs.all notIf = true → ∀ pos, PW X (.BoolOp .Or xs pos) (RdBo X.K cf false as)
  ifs : xs.length ≤ 1 → xs.all notIf = true → PTs X xs (RdC X.K cf as)
theorem PTs.imp {xs : List Expr} {t t' : TT} (h : PTs X xs t) (i : ∀ σ H Q, t' σ H Q → t σ H Q) : PTs X xs t' := ⟨fun pins s σ H Q I q => h.run pins s σ H Q I (i σ H Q q)⟩
theorem PW.imp {x : Expr} {t t' : TT} (h : PW X x t) (i : ∀ σ H Q, t' σ H Q → t σ H Q) : PW X x t' := ⟨fun wh pins s σ H Q I q => h.run wh pins s σ H Q I (i σ H Q q)⟩
end
theorem bT {s : S} {p : Pl} {R : Bool → S → Prop} (w : (isB p s).WP R) : (isT p s).WP R := by
  obtain ⟨i, e, h⟩ := WP_opt w
  cases ex : view s p with
  | none => rw [ex] at e; cases e
  | some x =>
    rw [ex] at e
    cases x with
    | bl j =>
      cases e
      show (Out.ofOpt ((view s p).bind truO) s).WP R
      rw [ex]; exact h
    | _ => cases e

/-- a test of a value that is a bool -/
theorem tst {K : PySem.W.Frag} {cf : CF} {e : E} {σ : L2.St} {H : Hp} {Q : Bool → Hp → Prop} (hB : ∀ s R, (evR cf e s).WP R → (evR cf e s).WP fun r s => (∃ k, r = .pl (.d (.bl k))) ∧ R r s) (q : RdT K cf e σ H Q) : RdR K cf e σ H (fun x H' => ∃ k, x = .bl k ∧ Q k H') := by
  obtain ⟨g, s, S0, w⟩ := q
  rw [WP_bind] at w
  refine ⟨g, s, S0, WP.mono (hB s _ w) fun r s1 ⟨⟨k, ek⟩, w1⟩ g1 v H1 l1 S1 r1 => ?_⟩
  subst ek
  have r1 : Rp K g1.F g1.ρ v (.bl k) := r1
  cases r1
  have w1 : Post K (fun _ _ _ _ (b k : Bool) => b = k) σ Q g k s1 := w1
  exact ⟨k, rfl, w1 g1 k H1 l1 S1 rfl⟩
theorem onB {f : D → D → Option Bool} {p q : Pl} {s : S} {R : Rz → S → Prop} (w : (onD2 (fun x y => (f x y).map fun k => .pl (.d (.bl k))) p q s).WP R) : (onD2 (fun x y => (f x y).map fun k => .pl (.d (.bl k))) p q s).WP fun r s => (∃ k, r = .pl (.d (.bl k))) ∧ R r s := by
  unfold onD2 at w ⊢
  cases ex : view s p with
  | none => rw [ex] at w; exact w
  | some x =>
    cases ey : view s q with
    | none => rw [ex, ey] at w; exact w
    | some y =>
      rw [ex, ey] at w
      show (Out.ofOpt ((f x y).map fun k => Rz.pl (.d (.bl k))) s).WP _
      replace w : (Out.ofOpt ((f x y).map fun k => Rz.pl (.d (.bl k))) s).WP R := w
      cases e : f x y with
      | none => rw [e] at w; exact w
      | some k => rw [e] at w; exact ⟨⟨k, rfl⟩, w⟩
theorem cmpB {cf : CF} {op : COp} {a b : E} (s : S) (R : Rz → S → Prop) (w : (evR cf (.cmp op a b) s).WP R) : (evR cf (.cmp op a b) s).WP fun r s => (∃ k, r = .pl (.d (.bl k))) ∧ R r s := by
  simp only [evR, WP_bind] at w ⊢
  exact WP.mono w fun p s1 w1 => WP.mono w1 fun q s2 w2 => onB w2
theorem chainB {cf : CF} {op op2 : COp} {a b d : E} (s : S) (R : Rz → S → Prop) (w : (evR cf (.chain op op2 a b d) s).WP R) : (evR cf (.chain op op2 a b d) s).WP fun r s => (∃ k, r = .pl (.d (.bl k))) ∧ R r s := by
  simp only [evR, WP_bind] at w ⊢
  refine WP.mono w fun p s1 w1 => WP.mono w1 fun q s2 w2 => WP.mono w2 fun k s3 w3 => WP.mono w3 fun j s4 w4 => ?_
  cases j with
  | true =>
    simp only [if_true, WP_bind] at w4 ⊢
    exact WP.mono w4 fun r s5 w5 => onB w5
  | false =>
    simp only [Bool.false_eq_true, if_false] at w4 ⊢
    exact ⟨⟨false, rfl⟩, w4⟩
theorem sA_star {c : EC} : ∀ {as : A} {xs : List Expr}, erA c as xs = true → xs.all notStar = true
  | .nil, [], _ => rfl
  | .nil, _ :: _, h => by simp [erA] at h
  | .cons _ _, [], h => by simp [erA] at h
  | .cons a as, y :: ys, h => by
    simp only [erA, Bool.and_eq_true] at h
    rw [List.all_cons, Bool.and_eq_true]
    exact ⟨h.1.1, sA_star h.2⟩
theorem boolT_and {K : PySem.W.Frag} {cf : CF} {a b : E} {as : A} {g : G} {s : S} {σ : L2.St} {H : Hp} {Q : Bool → Hp → Prop} (S0 : Sim K g σ H s)
    (w : (evR cf a s).WP fun p s => (isB (toP p) s).WP fun k s => (if (k == true) = true then evB cf true (.cons b as) s else Out.ok (.pl (.d (.bl k))) s).WP fun r s => (isT (toP r) s).WP (Post K (fun _ _ _ _ (b k : Bool) => b = k) σ Q g)) :
    tAnd (RdT K cf a) (RdBo K cf true (.cons b as)) σ H Q := by
  refine ⟨g, s, S0, ?_⟩
  rw [WP_bind]
  refine WP.mono w fun p s1 w1 => bT (WP.mono w1 fun k s2 w2 g' b' H' l S' eb => ?_)
  subst eb
  cases b' with
  | true =>
    simp only [beq_self_eq_true, if_true] at w2
    simp only [if_true]
    exact ⟨g', s2, S', by rw [WP_bind]; exact WP.mono w2 fun r s3 w3 => WP.up l w3⟩
  | false =>
    replace w2 : Post K (fun _ _ _ _ (b k : Bool) => b = k) σ Q g false s2 := w2
    exact w2 g' false H' l S' rfl
theorem boolT_or {K : PySem.W.Frag} {cf : CF} {a b : E} {as : A} {g : G} {s : S} {σ : L2.St} {H : Hp} {Q : Bool → Hp → Prop} (S0 : Sim K g σ H s)
    (w : (evR cf a s).WP fun p s => (isB (toP p) s).WP fun k s => (if (k == false) = true then evB cf false (.cons b as) s else Out.ok (.pl (.d (.bl k))) s).WP fun r s => (isT (toP r) s).WP (Post K (fun _ _ _ _ (b k : Bool) => b = k) σ Q g)) :
    tOr (RdT K cf a) (RdBo K cf false (.cons b as)) σ H Q := by
  refine ⟨g, s, S0, ?_⟩
  rw [WP_bind]
  refine WP.mono w fun p s1 w1 => bT (WP.mono w1 fun k s2 w2 g' b' H' l S' eb => ?_)
  subst eb
  cases b' with
  | false =>
    simp only [beq_self_eq_true, if_true] at w2
    simp only [Bool.false_eq_true, if_false]
    exact ⟨g', s2, S', by rw [WP_bind]; exact WP.mono w2 fun r s3 w3 => WP.up l w3⟩
  | true =>
    replace w2 : Post K (fun _ _ _ _ (b k : Bool) => b = k) σ Q g true s2 := w2
    exact w2 g' true H' l S' rfl
theorem gc_val {K : PySem.W.Frag} {w : World} {mg : Str → Option Value} {x : Str} {d : D} (h : GcOk K w mg x d) (hd : notDct d = true) : ∃ v u, mg x = some u ∧ RelV v u ∧ ∀ F ρ, Rp K F ρ v d := by
  cases d with
  | dct _ => cases hd
  | _ => exact h
section
variable {K : PySem.W.Frag} {g : G} {σ : L2.St} {H : Hp} {s : S} {v u : V} {p q : Pl} {cf : CF} {Q : VK}
theorem isS_ok {R : Str → S → Prop} (S0 : Sim K g σ H s) (r : RpP K g σ v p) (w : (isS p s).WP R) : ∃ i, v = .str i ∧ R i s := by
  obtain ⟨i, e, h⟩ := WP_opt w
  cases ex : view s p with
  | none => rw [ex] at e; cases e
  | some x =>
    rw [ex] at e
    cases x with
    | str j =>
      cases e
      exact ⟨_, (view_ok S0 r ex).str, h⟩
    | _ => cases e
theorem kinB {neg : Bool} {a : E} {y : Str} {kvs : List (D × D)} (s : S) (R : Rz → S → Prop) (w : (evR cf (.kin neg a y kvs) s).WP R) : (evR cf (.kin neg a y kvs) s).WP fun r s => (∃ k, r = .pl (.d (.bl k))) ∧ R r s := by
  simp only [evR, WP_bind] at w ⊢
  exact WP.mono w fun p s1 w1 => WP.mono w1 fun z s2 w2 => ⟨⟨_, rfl⟩, w2⟩
theorem kd_some {w : World} {ad : Addr} {kvs : List (D × D)} (k : KdOk K w ad kvs) (z : Str) : ∃ r, PySem.W.nsIn K ad z = some r ∧ r.isSome = (lkS kvs z).isSome := by
  obtain ⟨es, n, KD, h1, h2⟩ := k
  cases e : lkS kvs z with
  | none => exact ⟨none, h2 z e, rfl⟩
  | some d => obtain ⟨v, u, q, _⟩ := h1 z d e; exact ⟨_, q, rfl⟩
theorem RpAll.eraseIdx {F : Hp} {ρ : List Addr} : ∀ {vs : List V} {ds : List D} (n : Nat), RpAll K F ρ vs ds → RpAll K F ρ (vs.eraseIdx n) (ds.eraseIdx n)
  | _, _, _, .nil => .nil
  | _, _, 0, .cons _ t => t
  | _, _, n + 1, .cons r t => .cons r (RpAll.eraseIdx n t)
theorem RpAll.dropLast {F : Hp} {ρ : List Addr} {vs : List V} {ds : List D} (h : RpAll K F ρ vs ds) : RpAll K F ρ vs.dropLast ds.dropLast := by
  rw [List.dropLast_eq_take, List.dropLast_eq_take, h.length]
  exact h.take _
def rPopK : Option Int → V → Hp → VK → Prop
  | none, v, H, Q => rPop v [] H Q
  | some i, v, H, Q => rPopAt v [.int i] H Q
theorem cut_val {a : Addr} {xs : List V} {ds : List D} {k : Option Int} {d : D} {ds' : List D} (ea : H a = some (.lst xs)) (ra : RpAll K g.F g.ρ xs ds) (e : cutL ds k = some (d, ds')) (w : ∀ xs' y, RpAll K g.F g.ρ xs' ds' → Rp K g.F g.ρ y d → Q y (upd H a (.lst xs'))) : rPopK k (.ref a) H Q := by
  cases k with
  | none =>
    unfold cutL at e
    simp only at e
    cases e1 : ds[ds.length - 1]? with
    | none => rw [e1] at e; cases e
    | some d1 =>
      rw [e1] at e; cases e
      obtain ⟨y, hy, ry⟩ := ra.get e1
      exact ⟨a, xs, y, rfl, rfl, ea, by rw [ra.length]; exact hy, w _ _ ra.dropLast ry⟩
  | some i =>
    unfold cutL at e
    simp only at e
    split at e
    · rename_i hl
      cases ej : ixN ds.length i with
      | none => rw [ej] at e; cases e
      | some j =>
        rw [ej] at e
        replace e : (ds[j]?).map (fun d => (d, ds.eraseIdx j)) = some (d, ds') := e
        cases e1 : ds[j]? with
        | none => rw [e1] at e; cases e
        | some d1 =>
          rw [e1] at e; cases e
          obtain ⟨y, hy, ry⟩ := ra.get e1
          obtain ⟨h1, h2, h3, h4⟩ := ixN_seq ej
          have hl : ds.length ≤ 16777216 := hl
          exact ⟨a, xs, i, j, y, rfl, rfl, ea, by omega, by omega, by rw [ra.length]; exact h1, hy, w _ _ (ra.eraseIdx j) ry⟩
    · cases e
theorem pop_val {k : Option Int} {d : D} {s' : S} (S0 : Sim K g σ H s) (rp : RpP K g σ v p) (e : popO p k s = some (d, s')) (w : ∀ y H', Sim K g σ H' s' → Rp K g.F g.ρ y d → Q y H') : rPopK k v H Q := by
  have mem : ∀ (n : Nat) (a : Addr), g.ρ[n]? = some a → popM n k s = some (d, s') → rPopK k (.ref a) H Q := fun n a er e => by
    unfold popM at e
    split at e
    · rename_i ds em
      cases ec : cutL ds k with
      | none => rw [ec] at e; cases e
      | some r =>
        obtain ⟨d1, ds1⟩ := r
        rw [ec] at e; cases e
        obtain ⟨xs, ea, ra⟩ := (S0.mem n a _ er em).2.lst
        exact cut_val ea ra ec fun xs' y r1 r2 => w _ _ (S0.chM em er (.inl ⟨_, upd_same, r1⟩)) r2
    · cases e
  cases p with
  | d z =>
    cases z with
    | ref n =>
      cases rp with
      | ref er => exact mem n _ er e
    | _ => cases e
  | slot i =>
    have rp : σ[i]? = some (some v) := rp
    cases q : s.env[i]? with
    | none => simp only [popO, q] at e; cases e
    | some z =>
      cases z with
      | non => simp only [popO, q] at e; cases e
      | val x =>
        obtain ⟨v', e1, r1⟩ := S0.val i x q
        rw [rp] at e1; cases e1
        cases x with
        | ref n =>
          simp only [popO, q] at e
          cases r1 with
          | ref er => exact mem n _ er e
        | _ => simp only [popO, q] at e; cases e
      | own m =>
        obtain ⟨a, e1, p, r1⟩ := S0.own i m q
        rw [rp] at e1; cases e1
        cases m with
        | dct _ => simp only [popO, q] at e; cases e
        | ins _ _ => exact r1.elim
        | lst ds =>
          simp only [popO, q] at e
          cases ec : cutL ds k with
          | none => rw [ec] at e; cases e
          | some r =>
            obtain ⟨d1, ds1⟩ := r
            rw [ec] at e; cases e
            obtain ⟨xs, ea, ra⟩ := r1
            exact cut_val ea ra ec fun xs' y r1 r2 => w _ _ (S0.chS q rp ⟨_, upd_same, r1⟩) r2
theorem isi_ty {x : D} {t : Str} (S0 : Sim K g σ H s) (vx : Vw K g H v x) (e : tyD x = some t) : ∃ T : String, t = Str.ofString T ∧ TyX K H v (.type T) ∧ (T = "NoneType" ∨ T = "bool" ∨ T = "int" ∨ T = "str" ∨ T = "tuple" ∨ T = "list") := by
  cases x with
  | non => cases e; rw [vx.non]; exact ⟨"NoneType", rfl, .base .non, by simp⟩
  | bl b => cases e; rw [vx.bl]; exact ⟨"bool", rfl, .base (.bl _), by simp⟩
  | int b => cases e; rw [vx.int]; exact ⟨"int", rfl, .base (.int _), by simp⟩
  | str b => cases e; rw [vx.str]; exact ⟨"str", rfl, .base (.str _), by simp⟩
  | tup ds =>
    cases e
    obtain ⟨a, xs, rfl, h, _⟩ := Vw.tup S0 vx
    refine ⟨"tuple", rfl, ?_, by simp⟩
    rcases h with (h | ⟨o, h⟩) | ⟨o, its, n, hl, hc, _⟩
    · exact .base (.tup h)
    · exact .fTuple h
    · exact .kTuple hl hc
  | lst ds =>
    cases e
    obtain ⟨a, xs, rfl, h, _⟩ := vx
    exact ⟨"list", rfl, .base (.lst h), by simp⟩
  | dct _ => cases e
  | ref _ => cases e
  | scr _ => cases e
  | rng _ => cases e
theorem idxD_ok : ∀ {bs : List PyData} {a : PyData} {j : Nat}, idxD bs a = some j → ∃ z, bs[j]? = some z ∧ PyData.eqv z a = true ∧ ∀ (m : Nat) (z' : PyData), m < j → bs[m]? = some z' → PyData.eqv z' a = false
  | [], a, j, e => by cases e
  | b :: bs, a, j, e => by
    unfold idxD at e
    cases q : b.eqv a with
    | true =>
      rw [q, if_pos rfl] at e; cases e
      exact ⟨b, rfl, q, fun m z' h => absurd h (Nat.not_lt_zero _)⟩
    | false =>
      rw [q, if_neg Bool.false_ne_true] at e
      cases e2 : idxD bs a with
      | none => rw [e2] at e; cases e
      | some k =>
        rw [e2] at e; cases e
        obtain ⟨z, h1, h2, h3⟩ := idxD_ok e2
        refine ⟨z, h1, h2, fun m z' hm hz => ?_⟩
        cases m with
        | zero => cases hz; exact q
        | succ m =>
          have hm : m + 1 < k + 1 := hm
          exact h3 m z' (by omega) hz
end

set_option maxHeartbeats 16000000 in
mutual
theorem sE {cf : CF} : ∀ (e : E) {X : Cx} {c : EC} (h : XOk X c cf) (x : Expr), erE c e x = true → PE X x (RdR X.K cf e) ∧ (notIf x = true → PT X x (RdT X.K cf e))
  | .var i, X, c, h, x, e => by
    simp only [erE] at e
    split at e
    · rename_i y p
      rw [Bool.and_eq_true] at e
      have hi : X.N[i]? = some y := by rw [h.N]; simpa using e.1
      obtain ⟨l1, l2, l3⟩ := h.vis e.2
      have q : PE X (.Name y p) (RdR X.K cf (.var i)) := PE.imp (pe_var hi l1 l2 l3) fun σ H Q ⟨g, s, S0, w⟩ => by
        simp only [evR] at w
        split at w
        · rename_i d ed
          obtain ⟨v, e1, r⟩ := S0.val i d ed
          exact ⟨v, e1, w g v H (.refl g) S0 e1⟩
        · rename_i m em
          obtain ⟨a, e1, _⟩ := S0.own i m em
          exact ⟨_, e1, w g _ H (.refl g) S0 e1⟩
        · exact w.elim
      exact ⟨q, fun _ => PT_of q rfl⟩
    · cases e
  | .int i, X, c, h, x, e => by
    simp only [erE] at e
    split at e
    · cases eq_of_beq e
      suffices q : PE X _ (RdR X.K cf (.int i)) from ⟨q, fun _ => PT_of q rfl⟩
      exact PE.imp pe_int fun σ H Q ⟨g, s, S0, w⟩ => by
        simp only [evR] at w
        exact w g _ H (.refl g) S0 (.int _)
    · cases e
  | .bl i, X, c, h, x, e => by
    simp only [erE] at e
    split at e
    · cases eq_of_beq e
      suffices q : PE X _ (RdR X.K cf (.bl i)) from ⟨q, fun _ => PT_of q rfl⟩
      exact PE.imp pe_bl fun σ H Q ⟨g, s, S0, w⟩ => by
        simp only [evR] at w
        exact w g _ H (.refl g) S0 (.bl _)
    · cases e
  | .non, X, c, h, x, e => by
    simp only [erE] at e
    split at e
    · suffices q : PE X _ (RdR X.K cf .non) from ⟨q, fun _ => PT_of q rfl⟩
      exact PE.imp pe_non fun σ H Q ⟨g, s, S0, w⟩ => by
        simp only [evR] at w
        exact w g _ H (.refl g) S0 .non
    · cases e
  | .str i, X, c, h, x, e => by
    simp only [erE] at e
    split at e
    · cases eq_of_beq e
      suffices q : PE X _ (RdR X.K cf (.str i)) from ⟨q, fun _ => PT_of q rfl⟩
      exact PE.imp pe_str fun σ H Q ⟨g, s, S0, w⟩ => by
        simp only [evR] at w
        exact w g _ H (.refl g) S0 (.str _)
    · cases e
  | .glob y d, X, c, h, x, e => by
    simp only [erE] at e
    split at e
    · rename_i z p
      simp only [Bool.and_eq_true] at e
      obtain ⟨l1, l2⟩ := h.glob e.1.1.2
      obtain ⟨v, u, m, rv, rp⟩ := gc_val (h.gc z d e.1.2) e.2
      have q : PE X (.Name z p) (RdR X.K cf (.glob y d)) := PE.imp (pe_glob l1 m rv l2) fun σ H Q ⟨g, s, S0, w⟩ => by
        simp only [evR] at w
        exact w g _ H (.refl g) S0 (rp _ _)
      exact ⟨q, fun _ => PT_of q rfl⟩
    · cases e
  | .bin op a b, X, c, h, x, e => by
    simp only [erE] at e
    split at e
    · simp only [Bool.and_eq_true] at e
      cases eq_of_beq e.1.1
      suffices q : PE X _ (RdR X.K cf (.bin op a b)) from ⟨q, fun _ => PT_of q rfl⟩
      exact PE.imp (pe_op (rBin_ok op) (pe_p (sE a h _ e.1.2).1) (pe_p (sE b h _ e.2).1)) fun σ H Q ⟨g, s, S0, w⟩ => by
        simp only [evR] at w
        exact Rd.next S0 w fun g1 p s1 v H1 l1 S1 r1 w1 => Rd.next S1 w1 fun g2 q s2 u H2 l2 S2 r2 w2 => bin_val S2 (RpP.up r1 l2) r2 w2
    · cases e
  | .neg a, X, c, h, x, e => by
    simp only [erE] at e
    split at e
    · suffices q : PE X _ (RdR X.K cf (.neg a)) from ⟨q, fun _ => PT_of q rfl⟩
      exact PE.imp (pe_un un_neg (pe_p (sE a h _ e).1)) fun σ H Q ⟨g, s, S0, w⟩ => by
        simp only [evR] at w
        refine Rd.next S0 w fun g1 p s1 v H1 l1 S1 r1 w1 => ?_
        rw [WP_bind] at w1
        obtain ⟨i, rfl, w2⟩ := isI_ok S1 r1 w1
        exact ⟨i, rfl, w2 g1 _ H1 (.refl g1) S1 (.int _)⟩
    · cases e
  | .cmp op a b, X, c, h, x, e => by
    simp only [erE] at e
    split at e
    · simp only [Bool.and_eq_true] at e
      cases eq_of_beq e.1.1.1
      have i : ∀ σ H Q, RdR X.K cf (.cmp op a b) σ H Q → tOp (rCmp X.K op) (RdP X.K cf a) (RdP X.K cf b) σ H Q := fun σ H Q ⟨g, s, S0, w⟩ => by
        simp only [evR] at w
        exact Rd.next S0 w fun g1 p s1 v H1 l1 S1 r1 w1 => Rd.next S1 w1 fun g2 q s2 u H2 l2 S2 r2 w2 => cmp_val S2 (RpP.up r1 l2) r2 w2
      refine ⟨PE.imp (pe_cmpR (rCmp_ok h.hu h.w op) (pe_p (sE a h _ e.1.1.2).1) (pe_p (sE b h _ e.1.2).1) (by simpa using e.2)) i,
        fun _ => PT.imp (pt_cmpR (rCmp_ok h.hu h.w op) (pe_p (sE a h _ e.1.1.2).1) (pe_p (sE b h _ e.1.2).1) (by simpa using e.2)) fun σ H Q q => i σ H _ (tst cmpB q)⟩
    · cases e
  | .chain op op2 a b d, X, c, h, x, e => by
    simp only [erE] at e
    split at e
    · simp only [Bool.and_eq_true] at e
      cases eq_of_beq e.1.1.1.1.1
      cases eq_of_beq e.1.1.1.1.2
      have i : ∀ σ H Q, RdR X.K cf (.chain op op2 a b d) σ H Q → tChain (rCmp X.K op) (rCmp X.K op2) (RdP X.K cf a) (RdP X.K cf b) (RdP X.K cf d) σ H Q := fun σ H Q ⟨g, s, S0, w⟩ => by
        simp only [evR] at w
        refine Rd.next S0 w fun g1 p s1 v H1 l1 S1 r1 w1 => Rd.next S1 w1 fun g2 q s2 u H2 l2 S2 r2 w2 => ?_
        rw [WP_bind] at w2
        refine cmp_val (Q := _) S2 (RpP.up r1 l2) r2 (WP.mono w2 fun k s3 w3 g3 z H3 l3 S3 r3 => ?_)
        rw [WP_bind] at w3
        obtain ⟨j, e1, w4⟩ : ∃ j, z = .bl j ∧ (if j = true then (evR cf d s3).bind fun r s => onD2 (fun x y => (cmpO op2 x y).map fun k => .pl (.d (.bl k))) (toP q) (toP r) s else Out.ok (.pl (.d (.bl false))) s3).WP (Post X.K (RpR X.K) σ Q g2) := by
          obtain ⟨g4, l4, S4, r4⟩ := rz_pl S3 r3
          exact isB_ok S4 r4 w3
        refine ⟨j, e1, ?_⟩
        cases j with
        | true =>
          rw [if_pos rfl] at w4 ⊢
          exact Rd.next S3 (WP.up l3 w4) fun g4 r s4 y H4 l4 S4 r4 w5 => cmp_val S4 (RpP.up (RpP.up r2 l3) l4) r4 w5
        | false =>
          rw [if_neg Bool.false_ne_true] at w4 ⊢
          exact w4 g3 _ H3 l3 S3 (.bl _)
      refine ⟨PE.imp (pe_chain (rCmp_ok h.hu h.w op) (rCmp_ok h.hu h.w op2) (pe_p (sE a h _ e.1.1.1.2).1) (pe_p (sE b h _ e.1.1.2).1) (pe_p (sE d h _ e.1.2).1) (by simpa using e.2)) i,
        fun _ => PT.imp (pt_chain (rCmp_ok h.hu h.w op) (rCmp_ok h.hu h.w op2) (pe_p (sE a h _ e.1.1.1.2).1) (pe_p (sE b h _ e.1.1.2).1) (pe_p (sE d h _ e.1.2).1) (by simpa using e.2)) fun σ H Q q => i σ H _ (tst chainB q)⟩
    · cases e
  | .bool wh as, X, c, h, x, e => by
    simp only [erE] at e
    split at e
    · simp only [Bool.and_eq_true] at e
      cases wh with
      | false => exact absurd e.1.1.1 (by decide)
      | true =>
        have o := sA as h _ e.1.1.2
        refine ⟨?_, fun _ => ?_⟩
        · have := o.pand (isEmp e.2) ‹_›
          exact PE.imp this fun σ H Q q => by simp only [RdR, Rd, evR] at q; exact q
        · exact PT.imp (o.wand (isEmp e.2) e.1.2 ‹_›).pt fun σ H Q q => by simp only [RdT, Rd, evR] at q; exact q
    · simp only [Bool.and_eq_true] at e
      cases wh with
      | true => exact absurd e.1.1.1 (by decide)
      | false =>
        have o := sA as h _ e.1.1.2
        refine ⟨?_, fun _ => ?_⟩
        · have := o.por (isEmp e.2) ‹_›
          exact PE.imp this fun σ H Q q => by simp only [RdR, Rd, evR] at q; exact q
        · exact PT.imp (o.wor (isEmp e.2) e.1.2 ‹_›).pt fun σ H Q q => by simp only [RdT, Rd, evR] at q; exact q
    · cases e
  | .not a, X, c, h, x, e => by
    simp only [erE] at e
    split at e
    · simp only [Bool.and_eq_true] at e
      refine ⟨PE.imp (pe_notT (pe_p (sE a h _ e.1).1)) fun σ H Q ⟨g, s, S0, w⟩ => ?_, fun _ => PT.imp (pt_not ((sE a h _ e.1).2 e.2)) fun σ H Q ⟨g, s, S0, w⟩ => ?_⟩
      · simp only [evR] at w
        refine Rd.next S0 w fun g1 p s1 v H1 l1 S1 r1 w1 => ?_
        rw [WP_bind] at w1
        obtain ⟨k, ht, w2⟩ := isT_ok S1 r1 w1
        exact ⟨k, ht, w2 g1 _ H1 (.refl g1) S1 (.bl _)⟩
      · simp only [evR, WP_bind] at w
        refine ⟨g, s, S0, ?_⟩
        simp only [WP_bind]
        refine WP.mono w fun r s1 w1 => WP.mono w1 fun k s2 w2 g' v H' l S' ev => ?_
        subst ev
        exact w2 g' (!v) H' l S' rfl
    · cases e
  | .ite d a b, X, c, h, x, e => by
    simp only [erE] at e
    split at e
    · simp only [Bool.and_eq_true] at e
      refine ⟨PE.imp (pe_ifExp ((sE d h _ e.1.1.1).2 e.2) (sE a h _ e.1.1.2).1 (sE b h _ e.1.2).1) fun σ H Q ⟨g, s, S0, w⟩ => ?_, fun z => by cases z⟩
      simp only [evR, WP_bind] at w
      refine ⟨g, s, S0, ?_⟩
      rw [WP_bind]
      refine WP.mono w fun r s1 w1 => WP.mono w1 fun k s2 w2 g1 v H1 l S1 ev => ?_
      subst ev
      cases v with
      | true =>
        rw [if_pos rfl] at w2 ⊢
        exact ⟨g1, s2, S1, WP.up l w2⟩
      | false =>
        rw [if_neg Bool.false_ne_true] at w2 ⊢
        exact ⟨g1, s2, S1, WP.up l w2⟩
    · cases e
  | .idx a b, X, c, h, x, e => by
    simp only [erE] at e
    split at e
    · simp only [Bool.and_eq_true] at e
      suffices q : PE X _ (RdR X.K cf (.idx a b)) from ⟨q, fun _ => PT_of q rfl⟩
      exact PE.imp (pe_ix (ix_seq.or h.ixD) (pe_p (sE a h _ e.1.1).1) (pe_p (sE b h _ e.1.2).1) (plain_ix e.2)) fun σ H Q ⟨g, s, S0, w⟩ => by
        simp only [evR] at w
        exact Rd.next S0 w fun g1 p s1 v H1 l1 S1 r1 w1 => Rd.next S1 w1 fun g2 q s2 u H2 l2 S2 r2 w2 => idx_val S2 (RpP.up r1 l2) r2 w2
    · cases e
  | .slc a lo hi, X, c, h, x, e => by
    simp only [erE] at e
    split at e
    · rename_i l u v p2 pos
      simp only [Bool.and_eq_true] at e
      have pl : PO X u (RdO X.K cf lo) := by
        have e2 := e.1.2
        cases u with
        | none => exact po_hole e2
        | some y =>
          simp only [Bool.and_eq_true] at e2
          exact po_e (by simpa using e2.1) (sE lo h _ e2.2).1
      have ph : PO X v (RdO X.K cf hi) := by
        have e2 := e.2
        cases v with
        | none => exact po_hole e2
        | some y =>
          simp only [Bool.and_eq_true] at e2
          exact po_e (by simpa using e2.1) (sE hi h _ e2.2).1
      suffices q : PE X _ (RdR X.K cf (.slc a lo hi)) from ⟨q, fun _ => PT_of q rfl⟩
      exact PE.imp (pe_slice (sl_list.or sl_tupA) (pe_p (sE a h _ e.1.1).1) pl ph) fun σ H Q ⟨g, s, S0, w⟩ => by
        simp only [evR] at w
        refine Rd.next S0 w fun g1 p s1 v H1 l1 S1 r1 w1 => Rd.next (f := fun s => if isHole lo then .ok none s else (evR cf lo s).bind fun l s => (isI (toP l) s).bind fun i s => .ok (some i) s) S1 w1 fun g2 q s2 u H2 l2 S2 r2 w2 =>
          Rd.next (f := fun s => if isHole hi then .ok none s else (evR cf hi s).bind fun l s => (isI (toP l) s).bind fun i s => .ok (some i) s) S2 w2 fun g3 q3 s3 u3 H3 l3 S3 r3 w3 => ?_
        subst r2; subst r3
        exact slc_val S3 (RpP.up (RpP.up r1 l2) l3) w3
    · cases e
  | .hole, X, c, h, x, e => by simp [erE] at e
  | .tup as, X, c, h, x, e => by
    simp only [erE] at e
    split at e
    · suffices q : PE X _ (RdR X.K cf (.tup as)) from ⟨q, fun _ => PT_of q rfl⟩
      exact PE.imp (pe_tup (sA as h _ e).pa) fun σ H Q ⟨g, s, S0, w⟩ => by
        simp only [evR] at w
        refine Rd.next S0 w fun g1 ps s1 vs H1 l1 S1 r1 w1 => ?_
        obtain ⟨g2, ds, s2, l2, S2, r2, _, w2⟩ := escs_next S1 r1 w1
        split at w2
        · rename_i hl
          exact ⟨by rw [sizeLine_eq, r2.length]; exact hl, new_tup S2 r2 w2⟩
        · exact w2.elim
    · cases e
  | .lst as, X, c, h, x, e => by
    simp only [erE] at e
    split at e
    · suffices q : PE X _ (RdR X.K cf (.lst as)) from ⟨q, fun _ => PT_of q rfl⟩
      exact PE.imp (pe_lst (sA as h _ e).pa) fun σ H Q ⟨g, s, S0, w⟩ => by
        simp only [evR] at w
        refine Rd.next S0 w fun g1 ps s1 vs H1 l1 S1 r1 w1 => ?_
        obtain ⟨g2, ds, s2, l2, S2, r2, _, w2⟩ := escs_next S1 r1 w1
        split at w2
        · rename_i hl
          exact ⟨by rw [sizeLine_eq, r2.length]; exact hl, new_lst S2 r2 w2⟩
        · exact w2.elim
    · cases e
  | .call f as, X, c, h, x, e => by
    simp only [erE] at e
    split at e
    · rename_i y py xs pos
      simp only [Bool.and_eq_true] at e
      obtain ⟨l1, l2⟩ := h.glob e.1.1.2
      have ey : y = Str.ofString f := eq_of_beq e.1.1.1
      subst ey
      obtain ⟨k, fa, fd, pn, F, hr0, hm, hk, hb, hln⟩ := (h.fs f e.1.2).ex
      have hr := hr0.mono (Nat.le_add_right _ _)
      have i : ∀ σ H Q, RdR X.K cf (.call f as) σ H Q → tCall (spRun X.K cf f pn.length) [] (fun _ _ _ => False) (RdA X.K cf as) σ H Q := fun σ H Q ⟨g, s, S0, w⟩ => by
        simp only [evR] at w
        refine Rd.next S0 w fun g1 ps s1 vs H1 l1 S1 r1 w1 => ?_
        obtain ⟨g2, ds, s2, l2, S2, r2, _, w2⟩ := escs_next S1 r1 w1
        rw [WP_bind] at w2
        have w3 : (cf f ds s2.mem).WP fun d mem' => Post X.K (RpR X.K) σ Q g2 (.pl (.d d)) ⟨s2.env, mem'⟩ := by
          cases q : cf f ds s2.mem with
          | ok a m => rw [q] at w2; exact w2
          | exc x m => rw [q] at w2; exact w2
          | bad => rw [q] at w2; exact w2
        rw [List.append_nil]
        obtain ⟨C1, C2⟩ := S2.callee
        refine ⟨by rw [r2.length]; exact hln _ _ _ w3, calleeG g2 H1, s2.mem, ds, r2.up ⟨Same.refl _, fun _ _ h => h⟩, C1, C2, WP.mono w3 fun d mem' q g' v H' l S' r => ?_⟩
        obtain ⟨lA, SA⟩ := S2.after l S'
        exact q _ v H' lA SA (Rp.up r ⟨Same.refl _, fun _ _ h => h⟩)
      have q : PE X (.Call (.Name (Str.ofString f) py) xs [] pos) (RdR X.K cf (.call f as)) := by
        have hs := sA_star e.2
        have hpa := (sA as h _ e.2).pa
        cases xs with
        | nil =>
          refine PE.imp (pe_call0 F hr l1 hm hk hb .nil pass0 l2) fun σ H Q q => ?_
          cases as with
          | cons _ _ => simp [erA] at e
          | nil =>
            obtain ⟨g, s, S0, w⟩ := i σ H Q q
            exact w g [] H (.refl g) S0 trivial
        | cons e1 es =>
          rw [List.all_cons, Bool.and_eq_true] at hs
          exact PE.imp (pe_call F hr l1 hm hk hb .nil pass0 hpa l2 (star_cons hs.1) (star_none hs.2)) i
      exact ⟨q, fun _ => PT_of q rfl⟩
    · cases e
  | .blt b as, X, c, h, x, e => by
    simp only [erE] at e
    split at e
    · rename_i y py e1 es pos
      simp only [Bool.and_eq_true] at e
      obtain ⟨l1, l2⟩ := h.glob e.1.2
      have ey : y = bname b := eq_of_beq e.1.1
      subst ey
      have hs := sA_star e.2
      rw [List.all_cons, Bool.and_eq_true] at hs
      suffices q : PE X _ (RdR X.K cf (.blt b as)) from ⟨q, fun _ => PT_of q rfl⟩
      exact PE.imp (pe_blt (rBlt_ok h.calm h.w b) l1 (h.bn b) (sA as h _ e.2).pa l2 (star_cons hs.1) (star_none hs.2)) fun σ H Q ⟨g, s, S0, w⟩ => by
        simp only [evR] at w
        exact Rd.next S0 w fun g1 ps s1 vs H1 l1 S1 r1 w1 => blt_val S1 r1 w1
    · cases e
  | .lrg1 a, X, c, h, x, e => by
    simp only [erE] at e
    split at e
    · simp only [Bool.and_eq_true] at e
      obtain ⟨l1, l2⟩ := h.glob e.1.1.1.2
      obtain ⟨l3, l4⟩ := h.glob e.1.1.2
      cases eq_of_beq e.1.1.1.1.1
      cases eq_of_beq e.1.1.1.1.2
      suffices q : PE X _ (RdR X.K cf (.lrg1 a)) from ⟨q, fun _ => PT_of q rfl⟩
      exact PE.imp (pe_listRg h.calm l1 (h.bn .list) (prg_1 l3 h.range (pe_p (sE a h _ e.2).1) (star_cons e.1.2)) (star_cons rfl)) fun σ H Q ⟨g, s, S0, w⟩ => by
        simp only [evR] at w
        refine Rd.next S0 w fun g1 p s1 v H1 l1 S1 r1 w1 => ?_
        rw [WP_bind] at w1
        obtain ⟨i, rfl, w2⟩ := isI_ok S1 r1 w1
        split at w2
        · rename_i hs
          refine ⟨i, rfl, smallR_ok hs, ?_⟩
          have rr := rgV_rp (K := X.K) (F := g1.F) (ρ := g1.ρ) 0 i
          rw [Int.sub_zero] at rr
          exact new_lst S1 rr w2
        · exact w2.elim
    · cases e
  | .lrg2 a b, X, c, h, x, e => by
    simp only [erE] at e
    split at e
    · simp only [Bool.and_eq_true] at e
      obtain ⟨l1, l2⟩ := h.glob e.1.1.1.1.1.2
      obtain ⟨l3, l4⟩ := h.glob e.1.1.1.1.2
      cases eq_of_beq e.1.1.1.1.1.1.1
      cases eq_of_beq e.1.1.1.1.1.1.2
      suffices q : PE X _ (RdR X.K cf (.lrg2 a b)) from ⟨q, fun _ => PT_of q rfl⟩
      exact PE.imp (pe_listRg h.calm l1 (h.bn .list) (prg_2 l3 h.range (pe_p (sE a h _ e.1.2).1) (pe_p (sE b h _ e.2).1) (star_cons e.1.1.1.2) (star_cons e.1.1.2) (star_none (by simpa using e.1.1.2))) (star_cons rfl)) fun σ H Q ⟨g, s, S0, w⟩ => by
        simp only [evR] at w
        refine Rd.next S0 w fun g1 p s1 v H1 l1 S1 r1 w1 => Rd.next S1 w1 fun g2 q s2 u H2 l2 S2 r2 w2 => ?_
        rw [WP_bind] at w2
        obtain ⟨i, rfl, w3⟩ := isI_ok S2 (RpP.up r1 l2) w2
        rw [WP_bind] at w3
        obtain ⟨j, rfl, w4⟩ := isI_ok S2 r2 w3
        split at w4
        · rename_i hs
          exact ⟨i, j, rfl, rfl, smallR_ok hs, new_lst S2 (rgV_rp i j) w4⟩
        · exact w4.elim
    · cases e
  | .dnew, X, c, h, x, e => by
    simp only [erE] at e
    split at e
    · suffices q : PE X _ (RdR X.K cf .dnew) from ⟨q, fun _ => PT_of q rfl⟩
      exact PE.imp pe_dnewK fun σ H Q ⟨g, s, S0, w⟩ => by
        simp only [evR] at w
        exact fun p hp => w g _ _ (.refl g) (S0.new hp _) ⟨p, rfl, S0.none_ hp, .inl ⟨[], upd_same, .nil⟩⟩
    · cases e
  | .trg1 a, X, c, h, x, e => by
    simp only [erE] at e
    split at e
    · simp only [Bool.and_eq_true] at e
      obtain ⟨l1, l2⟩ := h.glob e.1.1.1.2
      obtain ⟨l3, l4⟩ := h.glob e.1.1.2
      cases eq_of_beq e.1.1.1.1.1
      cases eq_of_beq e.1.1.1.1.2
      suffices q : PE X _ (RdR X.K cf (.trg1 a)) from ⟨q, fun _ => PT_of q rfl⟩
      exact PE.imp (pe_tupRg h.calm l1 (h.bn .tuple) (prg_1 l3 h.range (pe_p (sE a h _ e.2).1) (star_cons e.1.2)) (star_cons rfl)) fun σ H Q ⟨g, s, S0, w⟩ => by
        simp only [evR] at w
        refine Rd.next S0 w fun g1 p s1 v H1 l1 S1 r1 w1 => ?_
        rw [WP_bind] at w1
        obtain ⟨i, rfl, w2⟩ := isI_ok S1 r1 w1
        split at w2
        · rename_i hs
          refine ⟨i, rfl, smallR_ok hs, ?_⟩
          have rr := rgV_rp (K := X.K) (F := g1.F) (ρ := g1.ρ) 0 i
          rw [Int.sub_zero] at rr
          exact new_tup S1 rr w2
        · exact w2.elim
    · cases e
  | .lc own t it ifs elt, X, c, h, x, e => by
    simp only [erE] at e
    split at e
    · rename_i el tg iter is scope pos
      simp only [Bool.and_eq_true] at e
      obtain ⟨⟨⟨⟨⟨⟨⟨⟨e1, e2⟩, e3⟩, e4⟩, e5⟩, e6⟩, e7⟩, e8⟩, e9⟩ := e
      have ok : BlkOk X.N X.env.scope scope (ownN c.N own) := blkOk_by (by rw [h.N, h.sc]; exact e1)
      have ho : (ownN c.N own).map (·.2) = own := by unfold ownN; rw [List.map_map]; simp [Function.comp_def]
      have hix : ∀ i ∈ t.ix, i ∈ own := fun i hi => by simpa using List.all_eq_true.mp e5 i hi
      suffices q : PE X _ (RdR X.K cf (.lc own t it ifs elt)) from ⟨q, fun _ => PT_of q rfl⟩
      exact PE.imp (pe_lc h.calm h.nd (sI it h tg iter e2) ok (fun s H C cl fp => sG (h.blk s H scope C cl fp) t tg e4)
        (fun s H C cl fp => (sA ifs (h.blk s H scope C cl fp) is e6).ifs (by simpa using e8) e7) (fun s H C cl fp => pe_p (sE elt (h.blk s H scope C cl fp) el e9).1) (set_iter e3)) fun σ H Q q => by
          rw [ho]
          exact lc_rule hix σ H Q q
    · cases e
  | .lc2 own vs t it ifs t1 it1 ifs1 elt, X, c, h, x, e => by
    simp only [erE] at e
    split at e
    · rename_i el tg iter is tg1 iter1 is1 scope pos
      rw [Bool.and_eq_true] at e
      obtain ⟨ea, eb⟩ := e
      simp only [Bool.and_eq_true] at ea eb
      obtain ⟨⟨⟨⟨⟨⟨⟨⟨e1, ev⟩, e2⟩, e3⟩, e4⟩, e5⟩, e6⟩, e7⟩, e8⟩ := ea
      obtain ⟨⟨⟨⟨⟨⟨⟨f2, f3⟩, f4⟩, f5⟩, f6⟩, f7⟩, f8⟩, f9⟩ := eb
      have ok : BlkOk X.N X.env.scope scope (ownN c.N own) := blkOk_by (by rw [h.N, h.sc]; exact e1)
      have ho : (ownN c.N own).map (·.2) = own := by unfold ownN; rw [List.map_map]; simp [Function.comp_def]
      have hvs : ∀ i ∈ vs, i ∈ own := fun i hi => by simpa using List.all_eq_true.mp ev i hi
      have hix : ∀ i ∈ t.ix, i ∈ own := fun i hi => by simpa using List.all_eq_true.mp e5 i hi
      have hix1 : ∀ i ∈ t1.ix, i ∈ vs := fun i hi => by simpa using List.all_eq_true.mp f5 i hi
      suffices q : PE X _ (RdR X.K cf (.lc2 own vs t it ifs t1 it1 ifs1 elt)) from ⟨q, fun _ => PT_of q rfl⟩
      exact PE.imp (pe_lc2 (vs1 := vs) h.calm h.nd (sI it h tg iter e2) ok (by rw [ho]; exact hvs) (fun s H C cl fp => sG (h.blk s H scope C cl fp) t tg e4)
        (fun s H C cl fp => (sA ifs (h.blk s H scope C cl fp) is e6).ifs (by simpa using e8) e7) (fun s H C cl fp => sI it1 (h.blk s H scope C cl fp) tg1 iter1 f2)
        (fun s H C cl fp => sG (h.blk s H scope C cl fp) t1 tg1 f4) (fun s H C cl fp => (sA ifs1 (h.blk s H scope C cl fp) is1 f6).ifs (by simpa using f8) f7)
        (fun s H C cl fp => pe_p (sE elt (h.blk s H scope C cl fp) el f9).1) (set_iter e3) (fun env => set_iter f3)) fun σ H Q q => by
          rw [ho]
          exact lc2_rule hvs hix hix1 σ H Q q
    · cases e
  | .dc own t it ifs key elt, X, c, h, x, e => by
    simp only [erE] at e
    split at e
    · rename_i kx vx tg iter is scope pos
      simp only [Bool.and_eq_true] at e
      obtain ⟨⟨⟨⟨⟨⟨⟨⟨⟨e1, e2⟩, e3⟩, e4⟩, e5⟩, e6⟩, e7⟩, e8⟩, e8'⟩, e9⟩ := e
      have ok : BlkOk X.N X.env.scope scope (ownN c.N own) := blkOk_by (by rw [h.N, h.sc]; exact e1)
      have ho : (ownN c.N own).map (·.2) = own := by unfold ownN; rw [List.map_map]; simp [Function.comp_def]
      have hix : ∀ i ∈ t.ix, i ∈ own := fun i hi => by simpa using List.all_eq_true.mp e5 i hi
      suffices q : PE X _ (RdR X.K cf (.dc own t it ifs key elt)) from ⟨q, fun _ => PT_of q rfl⟩
      exact PE.imp (DC.pe_dc2 h.calm h.hu h.nd (sI it h tg iter e2) ok (fun s H C cl fp => ⟨sG (h.blk s H scope C cl fp) t tg e4,
        (sA ifs (h.blk s H scope C cl fp) is e6).ifs (by simpa using e8) e7, pe_p (sE key (h.blk s H scope C cl fp) kx e8').1, pe_p (sE elt (h.blk s H scope C cl fp) vx e9).1⟩) (set_iter e3)) fun σ H Q q => by
          rw [ho, h.w]
          exact dc_rule hix σ H Q q
    · cases e
  | .gx stop own t it ifs elt, X, c, h, x, e => by
    simp only [erE] at e
    split at e
    · rename_i y py el tg iter is scope gpos pos
      simp only [Bool.and_eq_true] at e
      obtain ⟨⟨⟨⟨⟨⟨⟨⟨⟨⟨⟨⟨e0, ey⟩, eg⟩, e1⟩, e2⟩, e3⟩, e3'⟩, e4⟩, e5⟩, e6⟩, e7⟩, e8⟩, e9⟩ := e
      have ok : GX.GxS X.N X.env.scope scope (ownN c.N own) := gxS_by (by rw [h.N, h.sc]; exact e1)
      have ho : (ownN c.N own).map (·.2) = own := by unfold ownN; rw [List.map_map]; simp [Function.comp_def]
      have hix : ∀ i ∈ t.ix, i ∈ own := fun i hi => by simpa using List.all_eq_true.mp e5 i hi
      obtain ⟨hr2, cc, P, hcode, TB, hP⟩ := h.tb e0
      obtain ⟨l1, l2⟩ := h.glob eg
      suffices q : PE X _ (RdR X.K cf (.gx stop own t it ifs elt)) from ⟨q, fun _ => PT_of q rfl⟩
      have hpg := fun A s H C code cl fp pn a b d => sG (h.gx e0 scope A s H C code cl fp pn a b d) t tg e4
      have hpt := fun A s H C code cl fp pn a b d => (sA ifs (h.gx e0 scope A s H C code cl fp pn a b d) is e6).ifs (by simpa using e8) e7
      have hpe := fun A s H C code cl fp pn a b d => pe_p (sE elt (h.gx e0 scope A s H C code cl fp pn a b d) el e9).1
      cases stop with
      | false =>
        have ey : y = ("all" : Str) := by simpa using ey
        subst ey
        exact PE.imp (GX.pe_allX h.calm h.nd l1 (h.bn .all) (sI it h tg iter e2) ok TB hcode hr2.hd hr2.depth hpg hpt hpe (gen_fold e3 e3')) fun σ H Q q => by
          rw [ho]
          exact gx_rule hP hix σ H Q q
      | true =>
        have ey : y = ("any" : Str) := by simpa using ey
        subst ey
        exact PE.imp (GX.pe_anyX h.calm h.nd l1 (h.bn .any) (sI it h tg iter e2) ok TB hcode hr2.hd hr2.depth hpg hpt hpe (gen_fold e3 e3')) fun σ H Q q => by
          rw [ho]
          exact gx_rule hP hix σ H Q q
    · cases e
  | .fld cs o f, X, c, h, x, e => by
    simp only [erE] at e
    split at e
    · rename_i l g pos
      simp only [Bool.and_eq_true] at e
      obtain ⟨⟨⟨e1, e2⟩, e3⟩, e4⟩ := e
      have e1 : g = f := eq_of_beq e1
      subst e1
      suffices q : PE X _ (RdR X.K cf (.fld cs o g)) from ⟨q, fun _ => PT_of q rfl⟩
      exact PE.imp (pe_fld (pe_p (sE o h l e2).1) (attr_base e3)) fun σ H Q ⟨g0, s, S0, w⟩ => by
        simp only [evR] at w
        refine Rd.next S0 w fun g1 p s1 v H1 l1 S1 r1 w1 => ?_
        rw [WP_bind] at w1
        obtain ⟨d, ed, w2⟩ := WP_opt w1
        unfold fldO at ed
        obtain ⟨n, k, fs, eq, ed⟩ := insP_ok ed
        obtain ⟨a, dx, vs, rfl, ea, rf, _⟩ := ins_val S1 r1 eq
        split at ed
        · rename_i hk
          obtain ⟨c1, c2⟩ := h.na k g (by simpa using List.all_eq_true.mp e4 k (by simpa using hk))
          obtain ⟨u, eu, ru⟩ := rf.some ed
          exact ⟨a, _, dx, vs, u, rfl, ea, c1, c2, eu, w2 g1 u H1 (.refl g1) S1 ru⟩
        · cases ed
    · cases e
  | .meth tab o m as, X, c, h, x, e => by
    simp only [erE] at e
    split at e
    · rename_i l g ap xs cp
      simp only [Bool.and_eq_true] at e
      obtain ⟨⟨⟨⟨⟨⟨e1, e2⟩, e3⟩, e4⟩, e5⟩, e6⟩, e7⟩ := e
      have e1 : g = m := eq_of_beq e1
      subst e1
      have hs := sA_star e7
      have hpa := (sA as h _ e7).pa
      have i : ∀ σ H Q, RdR X.K cf (.meth tab o g as) σ H Q → DK.tMe X g (RdP X.K cf o) (RdA X.K cf as) σ H Q := fun σ H Q ⟨g0, s, S0, w⟩ => by
        simp only [evR] at w
        refine Rd.next S0 w fun g1 p s1 v H1 l1 S1 r1 w1 => ?_
        rw [WP_bind] at w1
        obtain ⟨q, ed, w2⟩ := WP_opt w1
        unfold metO at ed
        obtain ⟨n, k, fs, eq, ed⟩ := insP_ok ed
        obtain ⟨a, dx, vs, rfl, ea, rf, er, _⟩ := ins_val S1 r1 eq
        split at ed
        · rename_i hl
          cases et : tab.lookup k with
          | none => rw [et] at ed; cases ed
          | some f =>
            rw [et] at ed
            cases ed
            have hm := List.all_eq_true.mp e4 (k, f) (mem_of_lookup et)
            obtain ⟨k0, fa, fd, pn, F, hr0, hc, hme, hb, hln⟩ := (h.ms k g f hm).ex
            refine ⟨a, _, dx, vs, spRun X.K cf f pn.length, rfl, ea, rf.none hl, ⟨k0, fa, fd, pn, hc, hme, F, hr0.mono (Nat.le_add_right _ _), hb⟩, ?_⟩
            refine Rd.next S1 w2 fun g1 ps s1 vs H1 l1 S1 r1 w1 => ?_
            obtain ⟨g2, ds, s2, l2, S2, r2, _, w2⟩ := escs_next S1 r1 w1
            rw [WP_bind] at w2
            have w3 : (cf f (.ref n :: ds) s2.mem).WP fun d mem' => Post X.K (RpR X.K) σ Q g2 (.pl (.d d)) ⟨s2.env, mem'⟩ := by
              cases q : cf f (.ref n :: ds) s2.mem with
              | ok a m => rw [q] at w2; exact w2
              | exc x m => rw [q] at w2; exact w2
              | bad => rw [q] at w2; exact w2
            obtain ⟨C1, C2⟩ := S2.callee
            have r3 : RpAll X.K g2.F g2.ρ (.ref a :: vs) (.ref n :: ds) := .cons (.ref (l2.ro _ _ (l1.ro _ _ er))) r2
            refine ⟨by rw [r3.length]; exact hln _ _ _ w3, calleeG g2 H1, s2.mem, .ref n :: ds, r3.up ⟨Same.refl _, fun _ _ h => h⟩, C1, C2, WP.mono w3 fun d mem' q g' v H' l S' r => ?_⟩
            obtain ⟨lA, SA⟩ := S2.after l S'
            exact q _ v H' lA SA (Rp.up r ⟨Same.refl _, fun _ _ h => h⟩)
        · cases ed
      have q : PE X (.Call (.Attribute l g ap) xs [] cp) (RdR X.K cf (.meth tab o g as)) := by
        have ht := DK.me_ht (m := g) (args := xs) (attr_base e3) (star_none (env := X.env) (pos := cp) hs) (of_decide_eq_true e6) e5
        cases xs with
        | nil =>
          refine PE.imp (DK.pe_me0 (pe_p (sE o h l e2).1) pass0 ht) fun σ H Q q => ?_
          cases as with
          | cons _ _ => simp [erA] at e7
          | nil =>
            refine Rd.mono (i σ H Q q) fun v H1 ⟨a, C, dx, fs, sp, h1, h2, h3, h4, q5⟩ => ⟨a, C, dx, fs, sp, h1, h2, h3, h4, ?_⟩
            obtain ⟨g, s, S0, w⟩ := q5
            exact w g [] H1 (.refl g) S0 trivial
        | cons e1 es =>
          rw [List.all_cons, Bool.and_eq_true] at hs
          exact PE.imp (DK.pe_me (pe_p (sE o h l e2).1) pass0 hpa (star_cons hs.1) (star_none hs.2) ht) i
      exact ⟨q, fun _ => PT_of q rfl⟩
    · cases e
  | .new k f as, X, c, h, x, e => by
    simp only [erE] at e
    split at e
    · rename_i y py e1 es pos
      simp only [Bool.and_eq_true] at e
      obtain ⟨⟨⟨⟨ey, eg⟩, em⟩, erm⟩, ea⟩ := e
      obtain ⟨l1, l2⟩ := h.glob eg
      have ey : y = Str.ofString k := eq_of_beq ey
      subst ey
      obtain ⟨k0, fa, fd, pn, F, hr0, hmg, hmk, hb, hln⟩ := (h.mi k f em).ex
      rw [erm] at hr0
      have hs := sA_star ea
      rw [List.all_cons, Bool.and_eq_true] at hs
      suffices q : PE X _ (RdR X.K cf (.new k f as)) from ⟨q, fun _ => PT_of q rfl⟩
      exact PE.imp (pe_make hmk F hr0 l1 hmg hb .nil pass0 (sA as h _ ea).pa l2 (star_cons hs.1) (star_none hs.2)) fun σ H Q ⟨g0, s, S0, w⟩ => by
        simp only [evR] at w
        refine Rd.next S0 w fun g1 ps s1 vs H1 l1 S1 r1 w1 x dx hx hdx hne => ?_
        obtain ⟨g2, ds, s2, l2, S2, r2, _, w2⟩ := escs_next S1 r1 w1
        rw [WP_bind] at w2
        rw [List.append_nil]
        have T1 := S2.new hdx (.own x)
        have hx2 : (upd H1 dx (.own x)) x = none := by rw [upd_ne (Ne.symm hne)]; exact hx
        have T2 := T1.new hx2 (.ins (TBs.ca k) dx [])
        have fr := T1.none_ hx2
        obtain ⟨l3, T3, e3⟩ := T2.share (a := x) (m := .ins k []) ⟨fr.1, fr.2⟩ (.inr ⟨k, [], rfl, dx, [], upd_same, .nil⟩)
        have w3 : (cf f (.ref s2.mem.length :: ds) (s2.mem ++ [.ins k []])).WP fun d mem' => d = .non ∧ Post X.K (RpR X.K) σ Q g2 (.pl (.d (.ref s2.mem.length))) ⟨s2.env, mem'⟩ := by
          cases q : cf f (.ref s2.mem.length :: ds) (s2.mem ++ [.ins k []]) with
          | ok a m =>
            rw [q] at w2
            cases a with
            | non => exact ⟨rfl, w2⟩
            | _ => exact w2.elim
          | exc x m => rw [q] at w2; exact w2
          | bad => rw [q] at w2; exact w2
        obtain ⟨C1, C2⟩ := T3.callee
        have r3 : RpAll X.K (g2.F) (g2.ρ ++ [x]) (.ref x :: vs) (.ref s2.mem.length :: ds) := .cons (.ref e3) (r2.up (g' := { g2 with ρ := g2.ρ ++ [x] }) l3.ge0)
        refine ⟨by rw [r3.length]; exact hln _ _ _ w3, calleeG { g2 with ρ := g2.ρ ++ [x] } _, s2.mem ++ [.ins k []], .ref s2.mem.length :: ds, r3, C1, C2, WP.mono w3 fun d mem' ⟨ed, q⟩ g' v H' l S' r => ?_⟩
        subst ed
        cases r
        obtain ⟨lA, SA⟩ := T3.after l S'
        refine ⟨rfl, q _ (.ref x) H' (l3.trans lA) SA ?_⟩
        exact .ref (lA.ro _ _ e3)
    · cases e
  | .gmax own t it ifs elt, X, c, h, x, e => by
    simp only [erE] at e
    split at e
    · rename_i y py el tg iter is scope gpos pos
      simp only [Bool.and_eq_true] at e
      obtain ⟨⟨⟨⟨⟨⟨⟨⟨⟨⟨⟨⟨e0, ey⟩, eg⟩, e1⟩, e2⟩, e3⟩, e3'⟩, e4⟩, e5⟩, e6⟩, e7⟩, e8⟩, e9⟩ := e
      have ok : GX.GxS X.N X.env.scope scope (ownN c.N own) := gxS_by (by rw [h.N, h.sc]; exact e1)
      have ho : (ownN c.N own).map (·.2) = own := by unfold ownN; rw [List.map_map]; simp [Function.comp_def]
      have hix : ∀ i ∈ t.ix, i ∈ own := fun i hi => by simpa using List.all_eq_true.mp e5 i hi
      obtain ⟨hr2, cc, P, hcode, TB, hP⟩ := h.tb e0
      obtain ⟨l1, l2⟩ := h.glob eg
      suffices q : PE X _ (RdR X.K cf (.gmax own t it ifs elt)) from ⟨q, fun _ => PT_of q rfl⟩
      have hpg := fun A s H C code cl fp pn a b d => sG (h.gx e0 scope A s H C code cl fp pn a b d) t tg e4
      have hpt := fun A s H C code cl fp pn a b d => (sA ifs (h.gx e0 scope A s H C code cl fp pn a b d) is e6).ifs (by simpa using e8) e7
      have hpe := fun A s H C code cl fp pn a b d => pe_p (sE elt (h.gx e0 scope A s H C code cl fp pn a b d) el e9).1
      have ey : y = ("max" : Str) := by simpa using ey
      subst ey
      exact PE.imp (GM.pe_maxX h.calm h.nd l1 (h.bn .maxl) (sI it h tg iter e2) ok TB hcode hr2.hd hr2.depth hpg hpt hpe (gen_fold e3 e3')) fun σ H Q q => by
        rw [ho]
        exact gm_rule hP hix σ H Q q
    · cases e
  | .kin neg a y kvs, X, c, h, x, e => by
    simp only [erE] at e
    split at e
    · rename_i l o z zp pos
      simp only [Bool.and_eq_true] at e
      obtain ⟨⟨⟨⟨e1, e2⟩, e3⟩, e4⟩, e5⟩ := e
      obtain ⟨l1, l2⟩ := h.glob e4
      obtain ⟨ad, hm, kd⟩ := h.gc z (.dct kvs) e5
      have hk := fun z => kd_some kd z
      obtain ⟨es, n, KD, _⟩ := kd
      have pn : PE X (.Name z zp) (tC (.ref ad)) := pe_glob l1 hm rfl l2
      cases neg with
      | false =>
        have e1 : o = .In := eq_of_beq e1
        subst e1
        have i : ∀ σ H Q, RdR X.K cf (.kin false a y kvs) σ H Q → tOp (fun x y H Q => ∃ (z : Str) (r : Option Value), x = .str z ∧ y = .ref ad ∧ PySem.W.nsIn X.K ad z = some r ∧ Q (.bl r.isSome) H) (RdP X.K cf a) (tC (.ref ad)) σ H Q := fun σ H Q ⟨g, s, S0, w⟩ => by
          simp only [evR] at w
          refine Rd.next S0 w fun g1 p s1 v H1 l1 S1 r1 w1 => ?_
          rw [WP_bind] at w1
          obtain ⟨zz, rfl, w2⟩ := isS_ok S1 r1 w1
          obtain ⟨r, h1, h2⟩ := hk zz
          refine ⟨zz, r, rfl, rfl, h1, ?_⟩
          rw [h2]
          have w2 : Post X.K (RpR X.K) σ Q g1 (.pl (.d (.bl ((lkS kvs zz).isSome != false)))) s1 := w2
          rw [Bool.bne_false] at w2
          exact w2 g1 _ H1 (.refl g1) S1 (.bl _)
        exact ⟨PE.imp (pe_cmpR (op_in_kd KD) (pe_p (sE a h _ e2).1) pn (by rfl)) i, fun _ => PT.imp (pt_cmpR (op_in_kd KD) (pe_p (sE a h _ e2).1) pn (by rfl)) fun σ H Q q => i σ H _ (tst kinB q)⟩
      | true =>
        have e1 : o = .NotIn := eq_of_beq e1
        subst e1
        have i : ∀ σ H Q, RdR X.K cf (.kin true a y kvs) σ H Q → tOp (fun x y H Q => ∃ (z : Str) (r : Option Value), x = .str z ∧ y = .ref ad ∧ PySem.W.nsIn X.K ad z = some r ∧ Q (.bl (!r.isSome)) H) (RdP X.K cf a) (tC (.ref ad)) σ H Q := fun σ H Q ⟨g, s, S0, w⟩ => by
          simp only [evR] at w
          refine Rd.next S0 w fun g1 p s1 v H1 l1 S1 r1 w1 => ?_
          rw [WP_bind] at w1
          obtain ⟨zz, rfl, w2⟩ := isS_ok S1 r1 w1
          obtain ⟨r, h1, h2⟩ := hk zz
          refine ⟨zz, r, rfl, rfl, h1, ?_⟩
          rw [h2]
          have w2 : Post X.K (RpR X.K) σ Q g1 (.pl (.d (.bl ((lkS kvs zz).isSome != true)))) s1 := w2
          rw [Bool.bne_true] at w2
          exact w2 g1 _ H1 (.refl g1) S1 (.bl _)
        exact ⟨PE.imp (pe_cmpR (op_notIn_kd KD) (pe_p (sE a h _ e2).1) pn (by rfl)) i, fun _ => PT.imp (pt_cmpR (op_notIn_kd KD) (pe_p (sE a h _ e2).1) pn (by rfl)) fun σ H Q q => i σ H _ (tst kinB q)⟩
    · cases e
  | .kix y kvs a, X, c, h, x, e => by
    simp only [erE] at e
    split at e
    · rename_i z zp r pos
      simp only [Bool.and_eq_true] at e
      obtain ⟨⟨⟨⟨e1, e2⟩, e3⟩, e4⟩, e5⟩ := e
      obtain ⟨l1, l2⟩ := h.glob e3
      obtain ⟨ad, hm, es, n, KD, h1, _⟩ := h.gc z (.dct kvs) e4
      have pn : PE X (.Name z zp) (tC (.ref ad)) := pe_glob l1 hm rfl l2
      suffices q : PE X _ (RdR X.K cf (.kix y kvs a)) from ⟨q, fun _ => PT_of q rfl⟩
      exact PE.imp (pe_ix ix_kdict pn (pe_p (sE a h _ e1).1) (plain_ix e5)) fun σ H Q ⟨g, s, S0, w⟩ => by
        simp only [evR] at w
        refine Rd.next S0 w fun g1 p s1 v H1 l1 S1 r1 w1 => ?_
        rw [WP_bind] at w1
        obtain ⟨zz, rfl, w2⟩ := isS_ok S1 r1 w1
        obtain ⟨r, e6, w3⟩ := WP_opt w2
        cases e7 : lkS kvs zz with
        | none => rw [e7] at e6; cases e6
        | some d =>
          rw [e7] at e6; cases e6
          obtain ⟨v, u, q1, q2, q3⟩ := h1 zz d e7
          exact ⟨ad, zz, v, rfl, rfl, ⟨es, n, u, KD.at_, KD.lit, q1, q2⟩, w3 g1 _ H1 (.refl g1) S1 (q3 _ _)⟩
    · cases e
  | .kget y kvs a b, X, c, h, x, e => by
    simp only [erE] at e
    split at e
    · rename_i z zp m ap eu ev cp
      simp only [Bool.and_eq_true] at e
      obtain ⟨⟨⟨⟨⟨⟨⟨⟨e0, e1⟩, e2⟩, e3⟩, e4⟩, e5⟩, e6⟩, e7⟩, e8⟩ := e
      cases eq_of_beq e0
      obtain ⟨l1, l2⟩ := h.glob e4
      obtain ⟨ad, hm, es, n, KD, h1, h2⟩ := h.gc z (.dct kvs) e5
      have pn : PE X (.Name z zp) (tC (.ref ad)) := pe_glob l1 hm rfl l2
      suffices q : PE X _ (RdR X.K cf (.kget y kvs a b)) from ⟨q, fun _ => PT_of q rfl⟩
      exact PE.imp (DG.pe_kget2 pn (pe_p (sE a h _ e1).1) (sE b h _ e2).1 ⟨attr_base rfl, by rw [star_cons e6, star_cons e7]; rfl, e8, by rw [star_cons e6, star_cons e7]; rfl⟩) fun σ H Q ⟨g, s, S0, w⟩ => by
        simp only [evR] at w
        refine ⟨ad, rfl, ⟨es, n, KD.at_, KD.lit⟩, Rd.next S0 w fun g1 p s1 v H1 l1 S1 r1 w1 => ?_⟩
        rw [WP_bind] at w1
        obtain ⟨zz, rfl, w2⟩ := isS_ok S1 r1 w1
        refine Rd.next S1 w2 fun g2 r s2 u H2 l3 S2 r2 w3 => ?_
        cases e9 : lkS kvs zz with
        | none =>
          rw [e9] at w3
          exact ⟨zz, none, rfl, ⟨es, n, KD.at_, KD.lit, KD.low, h2 zz e9⟩, w3 g2 _ H2 (.refl g2) S2 r2⟩
        | some d =>
          rw [e9] at w3
          obtain ⟨v, u', q1, q2, q3⟩ := h1 zz d e9
          exact ⟨zz, some u', rfl, ⟨es, n, KD.at_, KD.lit, KD.low, q1⟩, v, q2, w3 g2 _ H2 (.refl g2) S2 (q3 _ _)⟩
    · cases e
  | .pop o, X, c, h, x, e => by
    simp only [erE] at e
    split at e
    · simp only [Bool.and_eq_true] at e
      obtain ⟨⟨⟨e0, e1⟩, e2⟩, e3⟩ := e
      cases eq_of_beq e0
      suffices q : PE X _ (RdR X.K cf (.pop o)) from ⟨q, fun _ => PT_of q rfl⟩
      exact PE.imp (pe_bm0 PySem.F.plainAttrs_list PySem.F.slot_list_pop PySem.F.type_list_pop mt_pop (pe_p (sE o h _ e1).1) (attr_base e2) e3) fun σ H Q ⟨g, s, S0, w⟩ => by
        simp only [evR] at w
        refine Rd.next S0 w fun g1 p s1 v H1 l1 S1 r1 w1 => ?_
        split at w1
        · rename_i hl
          rw [WP_bind] at w1
          obtain ⟨⟨d, s2⟩, e4, w2⟩ := WP_opt w1
          refine ⟨?_, pop_val (k := none) S1 r1 e4 fun y H' S' ry => w2 g1 _ H' (.refl g1) S' ry⟩
          unfold isLst at hl
          split at hl
          · rename_i ds ev
            obtain ⟨a, xs, rfl, ea, _⟩ := view_ok S1 r1 ev
            exact .inl ⟨rfl, xs, .inl (.inl ea)⟩
          · cases hl
        · exact w1.elim
    · cases e
  | .popAt o k, X, c, h, x, e => by
    simp only [erE] at e
    split at e
    · simp only [Bool.and_eq_true] at e
      obtain ⟨⟨⟨⟨⟨e0, e1⟩, e2⟩, e3⟩, e4⟩, e5⟩ := e
      cases eq_of_beq e0
      suffices q : PE X _ (RdR X.K cf (.popAt o k)) from ⟨q, fun _ => PT_of q rfl⟩
      exact PE.imp (pe_bm PySem.F.plainAttrs_list PySem.F.slot_list_pop PySem.F.type_list_pop mt_popAt (pe_p (sE o h _ e1).1) (ns_cons e4 (sE k h _ e2).1 pa_nil) (attr_base e3) (by rw [star_cons e4]; rfl) e5 (star_cons e4)) fun σ H Q ⟨g, s, S0, w⟩ => by
        simp only [evR] at w
        refine Rd.next S0 w fun g1 p s1 v H1 l1 S1 r1 w1 => ?_
        split at w1
        · rename_i hl
          have ty : tyV X.K "list" v H1 := by
            unfold isLst at hl
            split at hl
            · rename_i ds ev
              obtain ⟨a, xs, rfl, ea, _⟩ := view_ok S1 r1 ev
              exact .inl ⟨rfl, xs, .inl (.inl ea)⟩
            · cases hl
          refine ⟨ty, Rd.next S1 w1 fun g2 q s2 u H2 l2 S2 r2 w2 => ?_⟩
          rw [WP_bind] at w2
          obtain ⟨i, rfl, w3⟩ := isI_ok S2 r2 w2
          rw [WP_bind] at w3
          obtain ⟨⟨d, s3⟩, e4, w4⟩ := WP_opt w3
          exact pop_val (k := some i) S2 (RpP.up r1 l2) e4 fun y H' S' ry => w4 g2 _ H' (.refl g2) S' ry
        · exact w1.elim
    · cases e
  | .isi a T, X, c, h, x, e => by
    simp only [erE] at e
    split at e
    · rename_i f fp y z zp pos
      simp only [Bool.and_eq_true] at e
      obtain ⟨⟨⟨⟨⟨⟨e0, e1⟩, e2⟩, e3⟩, e4⟩, e5⟩, e6⟩ := e
      cases eq_of_beq e0
      have ez : z = T := eq_of_beq e4
      subst ez
      obtain ⟨l1, l2⟩ := h.glob e1
      obtain ⟨l3, l4⟩ := h.glob e5
      obtain ⟨m0, mb, ms, mt⟩ := h.ty
      have key : ∀ (T : String), z = Str.ofString T → (T = "bool" ∨ T = "str" ∨ T = "tuple") → X.mg z = none → bootBuiltins z = some (.type T) → PE X (.Call (.Name ("isinstance" : Str) fp) [y, .Name z zp] [] pos) (RdR X.K cf (.isi a z)) := fun T hz hT hmz hb => by
        have pn : PE X (.Name z zp) (tC (.ty T)) := pe_bltn l3 hmz hb rfl (by subst hz; rcases hT with rfl | rfl | rfl <;> decide) l4
        refine PE.imp (pe_callB call_isi l1 m0 PyProof.Rows.boot_isinstance (ns_cons e3 (sE a h _ e2).1 (pa_cons pn pa_nil)) (by decide) l2 (star_cons e3) (by rfl)) fun σ H Q ⟨g, s, S0, w⟩ => ?_
        simp only [evR] at w
        refine Rd.next S0 w fun g1 p s1 v H1 l1 S1 r1 w1 => ?_
        obtain ⟨r, e7, w2⟩ := WP_opt w1
        cases ex : view s1 (toP p) with
        | none => rw [ex] at e7; cases e7
        | some xx =>
          rw [ex] at e7
          replace e7 : (isiO z xx).map (fun b => Rz.pl (.d (.bl b))) = some r := e7
          unfold isiO at e7
          cases et : tyD xx with
          | none => rw [et] at e7; cases e7
          | some t =>
            rw [et] at e7
            obtain ⟨T', ht, hx, hT'⟩ := isi_ty S1 (view_ok S1 r1 ex) et
            subst ht hz
            refine ⟨v, .ty T, .type T', .type T, decide (T' = T), rfl, .ty T, hx, ?_, ?_⟩
            · rcases hT' with rfl | rfl | rfl | rfl | rfl | rfl <;> rcases hT with rfl | rfl | rfl <;> rfl
            · have e8 : r = .pl (.d (.bl (decide (T' = T)))) := by
                rcases hT' with rfl | rfl | rfl | rfl | rfl | rfl <;> rcases hT with rfl | rfl | rfl <;> exact (Option.some.inj e7).symm
              rw [e8] at w2
              exact w2 g1 _ H1 (.refl g1) S1 (.bl _)
      simp only [Bool.or_eq_true] at e6
      rcases e6 with (e6 | e6) | e6
      · cases eq_of_beq e6
        exact ⟨key "bool" rfl (.inl rfl) mb PyProof.Rows.boot_bool, fun _ => PT_of (key "bool" rfl (.inl rfl) mb PyProof.Rows.boot_bool) rfl⟩
      · cases eq_of_beq e6
        exact ⟨key "str" rfl (.inr (.inl rfl)) ms PyProof.Rows.boot_str, fun _ => PT_of (key "str" rfl (.inr (.inl rfl)) ms PyProof.Rows.boot_str) rfl⟩
      · cases eq_of_beq e6
        exact ⟨key "tuple" rfl (.inr (.inr rfl)) mt PyProof.Rows.boot_tuple, fun _ => PT_of (key "tuple" rfl (.inr (.inr rfl)) mt PyProof.Rows.boot_tuple) rfl⟩
    · cases e
  | .fresh a, X, c, h, x, e => by
    simp only [erE, Bool.and_eq_true] at e
    obtain ⟨p1, p2⟩ := sE a h x e.1
    have i : ∀ σ H Q, RdR X.K cf (.fresh a) σ H Q → RdR X.K cf a σ H Q := fun σ H Q ⟨g, s, S0, w⟩ => by
      simp only [evR, WP_bind] at w
      refine ⟨g, s, S0, WP.mono w fun r s1 w1 g1 v H1 l1 S1 r1 => ?_⟩
      cases r with
      | pl p => exact w1.elim
      | mo m =>
        obtain ⟨ad, rfl, f, ro⟩ := r1
        obtain ⟨l2, S2, e2⟩ := S1.share f (.inl ro)
        have w1 : Post X.K (RpR X.K) σ Q g (.pl (.d (.ref s1.mem.length))) ⟨s1.env, s1.mem ++ [m]⟩ := w1
        exact w1 _ _ _ (l1.trans l2) S2 (.ref e2)
    have q : PE X x (RdR X.K cf (.fresh a)) := PE.imp p1 i
    refine ⟨q, fun _ => PT_of q ?_⟩
    have e2 := e.2
    cases x <;> first | rfl | cases e2
  | .index o k, X, c, h, x, e => by
    simp only [erE] at e
    split at e
    · simp only [Bool.and_eq_true] at e
      obtain ⟨⟨⟨⟨⟨e0, e1⟩, e2⟩, e3⟩, e4⟩, e5⟩ := e
      cases eq_of_beq e0
      suffices q : PE X _ (RdR X.K cf (.index o k)) from ⟨q, fun _ => PT_of q rfl⟩
      exact PE.imp (pe_bm PySem.F.plainAttrs_list PySem.F.slot_list_index PySem.F.type_list_index (mt_indexD h.hu) (pe_p (sE o h _ e1).1) (ns_cons e4 (sE k h _ e2).1 pa_nil) (attr_base e3) (by rw [star_cons e4]; rfl) e5 (star_cons e4)) fun σ H Q ⟨g, s, S0, w⟩ => by
        simp only [evR] at w
        refine Rd.next S0 w fun g1 p s1 v H1 l1 S1 r1 w1 => ?_
        split at w1
        · rename_i hl
          have ty : tyV X.K "list" v H1 := by
            unfold isLst at hl
            split at hl
            · rename_i ds ev
              obtain ⟨a, xs, rfl, ea, _⟩ := view_ok S1 r1 ev
              exact .inl ⟨rfl, xs, .inl (.inl ea)⟩
            · cases hl
          refine ⟨ty, Rd.next S1 w1 fun g2 q s2 u H2 l2 S2 r2 w2 => ?_⟩
          obtain ⟨x, y, r, ex, ey, e6, w3⟩ := onD2_ok w2
          have vx := view_ok S2 (RpP.up r1 l2) ex
          have vy := view_ok S2 r2 ey
          unfold indexO at e6
          split at e6
          · rename_i ds
            split at e6
            · rename_i pa pbs ea eb
              split at e6
              · rename_i hs
                rw [Bool.and_eq_true] at hs
                cases ei : idxD pbs pa with
                | none => rw [ei] at e6; cases e6
                | some j =>
                  rw [ei] at e6; cases e6
                  obtain ⟨z, h1, h2, h3⟩ := idxD_ok ei
                  have vx' := vx
                  obtain ⟨a, xs, rfl, _, _⟩ := vx'
                  have dl : Dp X.K H2 (.ref a) (.list pbs) := Vw.dp (d := .lst ds) S2 vx (by simp only [D.pd, eb, Option.map])
                  exact ⟨a, u, pa, pbs, j, z, rfl, rfl, dl, Vw.dp S2 vy ea, hs.2, hs.1, h1, h2, h3, w3 g2 _ H2 (.refl g2) S2 (.int _)⟩
              · cases e6
            · cases e6
          · cases e6
        · exact w1.elim
    · cases e
theorem sA {cf : CF} : ∀ (as : A) {X : Cx} {c : EC} (h : XOk X c cf) (xs : List Expr), erA c as xs = true → AOk X cf as xs
  | .nil, X, c, h, xs, e => by
    simp only [erA] at e
    split at e
    · refine ⟨PA.imp pa_nil fun σ H Q ⟨g, s, S0, w⟩ => ?_, fun z => absurd rfl z, fun z => absurd rfl z, fun z => absurd rfl z, fun z => absurd rfl z, fun _ _ => PTs.imp pts_nil fun σ H Q ⟨g, s, S0, w⟩ => ?_⟩
      · simp only [evA] at w
        exact w g [] H (.refl g) S0 trivial
      · simp only [evC] at w
        exact w g true H (.refl g) S0 rfl
    · cases e
  | .cons a .nil, X, c, h, xs, e => by
    simp only [erA] at e
    split at e
    · cases e
    · rename_i y ys
      simp only [Bool.and_eq_true] at e
      obtain ⟨⟨e1, e2⟩, e3⟩ := e
      cases ys with
      | cons _ _ => simp at e3
      | nil =>
        have p := (sE a h _ e2).1
        have pt := (sE a h _ e2).2
        refine ⟨PA.imp (ns_cons e1 p pa_nil) fun σ H Q ⟨g, s, S0, w⟩ => ?_, fun _ pos => PE.imp (pe_one p) fun σ H Q q => ?_, fun _ pos => PE.imp (pe_one p) fun σ H Q q => ?_, fun _ hi pos => PW.imp (pw_and1 (pt (by simpa using hi))) fun σ H Q q => ?_,
          fun _ hi pos => PW.imp (pw_or1 (pt (by simpa using hi))) fun σ H Q q => ?_, fun _ hi => PTs.imp (pts_one (pt (by simpa using hi))) fun σ H Q q => ?_⟩
        · simp only [evA] at w
          exact Rd.next S0 w fun g1 p s1 v H1 l1 S1 r1 w1 => w1 g1 [v] H1 (.refl g1) S1 ⟨r1, trivial⟩
        · simp only [Rd, evB] at q; exact q
        · simp only [Rd, evB] at q; exact q
        · simp only [RdBo, Rd, evB] at q; exact q
        · simp only [RdBo, Rd, evB] at q; exact q
        · simp only [RdC, Rd, evC] at q; exact q
  | .cons a (.cons b as), X, c, h, xs, e => by
    simp only [erA] at e
    split at e
    · cases e
    · rename_i y ys
      simp only [Bool.and_eq_true] at e
      obtain ⟨⟨e1, e2⟩, e3⟩ := e
      cases ys with
      | nil => simp at e3
      | cons z zs =>
        have p := (sE a h _ e2).1
        have pt := (sE a h _ e2).2
        have o := sA (.cons b as) h (z :: zs) (by simp only [erA]; exact e3)
        have ne : z :: zs ≠ [] := fun z => by cases z
        refine ⟨PA.imp (ns_cons e1 p o.pa) fun σ H Q ⟨g, s, S0, w⟩ => ?_, fun _ pos => PE.imp (pe_and (pe_p p) (o.pand ne pos)) fun σ H Q ⟨g, s, S0, w⟩ => ?_, fun _ pos => PE.imp (pe_or (pe_p p) (o.por ne pos)) fun σ H Q ⟨g, s, S0, w⟩ => ?_,
          fun _ hi pos => ?_, fun _ hi pos => ?_, fun hl => absurd hl (by simp)⟩
        · replace w : ((evR cf a s).bind fun p s => (evA cf (.cons b as) s).bind fun ps s => Out.ok (toP p :: ps) s).WP _ := w
          refine Rd.next S0 w fun g1 p s1 v H1 l1 S1 r1 w1 => Rd.next S1 w1 fun g2 ps s2 vs H2 l2 S2 r2 w2 => w2 g2 (v :: vs) H2 (.refl g2) S2 ⟨RpP.up r1 l2, r2⟩
        · simp only [evB] at w
          refine Rd.next S0 w fun g1 p s1 v H1 l1 S1 r1 w1 => ?_
          rw [WP_bind] at w1
          obtain ⟨k, rfl, w2⟩ := isB_ok S1 r1 w1
          refine ⟨k, rfl, ?_⟩
          cases k with
          | true => exact ⟨g1, s1, S1, w2⟩
          | false => exact w2 g1 _ H1 (.refl g1) S1 (.bl _)
        · simp only [evB] at w
          refine Rd.next S0 w fun g1 p s1 v H1 l1 S1 r1 w1 => ?_
          rw [WP_bind] at w1
          obtain ⟨k, rfl, w2⟩ := isB_ok S1 r1 w1
          refine ⟨k, rfl, ?_⟩
          cases k with
          | false => exact ⟨g1, s1, S1, w2⟩
          | true => exact w2 g1 _ H1 (.refl g1) S1 (.bl _)
        · rw [List.all_cons, Bool.and_eq_true] at hi
          refine PW.imp (pw_and (pt hi.1) (o.wand ne hi.2 pos)) fun σ H Q ⟨g, s, S0, w⟩ => ?_
          simp only [evB, WP_bind] at w
          exact boolT_and S0 w
        · rw [List.all_cons, Bool.and_eq_true] at hi
          refine PW.imp (pw_or (pt hi.1) (o.wor ne hi.2 pos)) fun σ H Q ⟨g, s, S0, w⟩ => ?_
          simp only [evB, WP_bind] at w
          exact boolT_or S0 w
theorem sI {cf : CF} : ∀ (it : I) {X : Cx} {c : EC} (h : XOk X c cf) (tg x : Expr), erI c it tg x = true → PI X tg x (RdI X.K cf it)
  | .seq a, X, c, h, tg, x, e => by
    simp only [erI] at e
    refine PI.imp (pi_seq (pe_p (sE a h _ e).1)) fun σ H R ⟨g, s, S0, w⟩ => ?_
    simp only [evI] at w
    refine Rd.next S0 w fun g1 p s1 v H1 l1 S1 r1 w1 => ?_
    obtain ⟨g2, d, s2, l2, S2, r2, _, w2⟩ := esc_next S1 r1 w1
    obtain ⟨ds, ed, w3⟩ := WP_opt w2
    unfold seqD at ed
    split at ed
    · cases ed
      cases r2 with
      | lst e1 rr => exact ⟨_, rfl, .inl ⟨⟨_, .inl (.inl (S2.fz _ _ e1))⟩, w3 g2 _ H1 (.refl g2) S2 (yl_list e1 rr)⟩⟩
    · cases ed
      cases r2 with
      | tup e1 rr => exact ⟨_, rfl, .inr (.inl ⟨⟨_, SqT.mono S2.fz e1⟩, w3 g2 _ H1 (.refl g2) S2 (yl_tup e1 rr)⟩)⟩
    · split at ed
      · rename_i hs
        cases ed
        cases r2 with
        | rng e1 => exact ⟨_, rfl, .inr (.inr ⟨_, S2.fz _ _ e1, small_ok hs, w3 g2 _ H1 (.refl g2) S2 (yl_rng 0 _)⟩)⟩
      · cases ed
    · cases ed
  | .rng1 a, X, c, h, tg, x, e => by
    simp only [erI] at e
    split at e
    · simp only [Bool.and_eq_true] at e
      obtain ⟨l1, l2⟩ := h.glob e.1.1.2
      cases eq_of_beq e.1.1.1
      refine PI.imp (pi_range1 l1 h.range (ns_cons e.1.2 (sE a h _ e.2).1 pa_nil) (star_cons e.1.2)) fun σ H R ⟨g, s, S0, w⟩ => ?_
      simp only [evI] at w
      refine Rd.next S0 w fun g1 p s1 v H1 l1 S1 r1 w1 => ?_
      rw [WP_bind] at w1
      obtain ⟨i, rfl, w2⟩ := isI_ok S1 r1 w1
      split at w2
      · rename_i hs
        obtain ⟨b1, b2⟩ := small_ok hs
        exact ⟨i, rfl, b1, b2, w2 g1 _ H1 (.refl g1) S1 (yl_rng 0 i.toNat)⟩
      · exact w2.elim
    · cases e
  | .rng2 a b, X, c, h, tg, x, e => by
    simp only [erI] at e
    split at e
    · simp only [Bool.and_eq_true] at e
      obtain ⟨l1, l2⟩ := h.glob e.1.1.1.1.2
      cases eq_of_beq e.1.1.1.1.1
      refine PI.imp (pi_range2 l1 h.range (ns_cons e.1.1.1.2 (sE a h _ e.1.2).1 (ns_cons e.1.1.2 (sE b h _ e.2).1 pa_nil)) (by rw [star_cons e.1.1.1.2, star_cons e.1.1.2]; rfl) (by rw [star_cons e.1.1.2]; rfl)) fun σ H R ⟨g, s, S0, w⟩ => ?_
      simp only [evI] at w
      refine Rd.next S0 w fun g1 p s1 v H1 l1 S1 r1 w1 => Rd.next S1 w1 fun g2 q s2 u H2 l2 S2 r2 w2 => ?_
      rw [WP_bind] at w2
      obtain ⟨i, rfl, w3⟩ := isI_ok S2 (RpP.up r1 l2) w2
      rw [WP_bind] at w3
      obtain ⟨j, rfl, w4⟩ := isI_ok S2 r2 w3
      split at w4
      · rename_i hs
        rw [Bool.and_eq_true] at hs
        obtain ⟨b1, b2⟩ := small_ok hs.1
        obtain ⟨b3, b4⟩ := small_ok hs.2
        exact ⟨i, j, rfl, ⟨b1, b2, b3, b4⟩, w4 g2 _ H2 (.refl g2) S2 (yl_rng i (j - i).toNat)⟩
      · exact w4.elim
    · cases e
  | .enum a, X, c, h, tg, x, e => by
    simp only [erI] at e
    split at e
    · simp only [Bool.and_eq_true] at e
      obtain ⟨l1, l2⟩ := h.glob e.1.1.2
      cases eq_of_beq e.1.1.1.2
      cases tg with
      | Tuple elts kk tpos =>
        refine PI.imp (DN.pi_enumLT l1 h.enum (ns_cons e.1.2 (sE a h _ e.2).1 pa_nil) (star_cons e.1.2)) fun σ H R ⟨g, s, S0, w⟩ => ?_
        simp only [evI] at w
        refine Rd.next S0 w fun g1 p s1 v H1 l1 S1 r1 w1 => ?_
        obtain ⟨g2, d, s2, l2, S2, r2, _, w2⟩ := esc_next S1 r1 w1
        obtain ⟨ds, ed, w3⟩ := WP_opt w2
        cases d with
        | lst es =>
          cases ed
          cases r2 with
          | lst e1 rr => exact ⟨_, _, rfl, .inl ⟨.inl (.inl (S2.fz _ _ e1)), w3 g2 _ H1 (.refl g2) S2 (yl_enum e1 rr)⟩⟩
        | tup es =>
          cases ed
          cases r2 with
          | tup e1 rr => exact ⟨_, _, rfl, .inr ⟨SqT.mono S2.fz e1, w3 g2 _ H1 (.refl g2) S2 (yl_enumT e1 rr)⟩⟩
        | _ => cases ed
      | _ => simp [isTupX] at e
    · cases e
  | .zip a b, X, c, h, tg, x, e => by
    simp only [erI] at e
    split at e
    · simp only [Bool.and_eq_true] at e
      obtain ⟨l1, l2⟩ := h.glob e.1.1.1.1.2
      cases eq_of_beq e.1.1.1.1.1.2
      cases tg with
      | Tuple elts kk tpos =>
        refine PI.imp (pi_zip l1 h.zip (ns_cons e.1.1.1.2 (sE a h _ e.1.2).1 (ns_cons e.1.1.2 (sE b h _ e.2).1 pa_nil)) (star_cons e.1.1.1.2) (star_none (by simpa using e.1.1.2))) fun σ H R ⟨g, s, S0, w⟩ => ?_
        simp only [evI] at w
        refine Rd.next S0 w fun g1 p s1 v H1 l1 S1 r1 w1 => Rd.next S1 w1 fun g2 q s2 u H2 l2 S2 r2 w2 => ?_
        obtain ⟨g3, d, s3, l3, S3, r3, _, w3⟩ := esc_next S2 (RpP.up r1 l2) w2
        obtain ⟨g4, d2, s4, l4, S4, r4, _, w4⟩ := esc_next S3 (RpP.up r2 l3) w3
        obtain ⟨ds, ed, w5⟩ := WP_opt w4
        cases d with
        | lst es =>
          cases d2 with
          | lst es2 =>
            cases ed
            cases r3 with
            | lst e1 rr =>
              cases r4 with
              | lst e2 rr2 => exact ⟨_, _, _, _, rfl, .inl (.inl (S4.fz _ _ (l4.fs _ _ e1))), .inl (.inl (S4.fz _ _ e2)), w5 g4 _ H2 (.refl g4) S4 (yl_zip (l4.fs _ _ e1) (rr.up l4.ge0) e2 rr2)⟩
          | _ => cases ed
        | _ => cases ed
      | _ => simp [isTupX] at e
    · cases e
  | .rev a, X, c, h, tg, x, e => by
    simp only [erI] at e
    split at e
    · simp only [Bool.and_eq_true] at e
      obtain ⟨l1, l2⟩ := h.glob e.1.1.2
      cases eq_of_beq e.1.1.1
      refine PI.imp (pi_reversed l1 h.rev (ns_cons e.1.2 (sE a h _ e.2).1 pa_nil) (star_cons e.1.2)) fun σ H R ⟨g, s, S0, w⟩ => ?_
      simp only [evI] at w
      refine Rd.next S0 w fun g1 p s1 v H1 l1 S1 r1 w1 => ?_
      obtain ⟨g2, d, s2, l2, S2, r2, _, w2⟩ := esc_next S1 r1 w1
      obtain ⟨ds, ed, w3⟩ := WP_opt w2
      cases d with
      | lst es =>
        cases ed
        cases r2 with
        | lst e1 rr => exact ⟨_, _, rfl, .inl (.inl (S2.fz _ _ e1)), w3 g2 _ H1 (.refl g2) S2 (yl_rev e1 rr)⟩
      | _ => cases ed
    · cases e
  | .rng3 a b d, X, c, h, tg, x, e => by
    simp only [erI] at e
    split at e
    · simp only [Bool.and_eq_true] at e
      obtain ⟨⟨⟨⟨⟨⟨⟨e0, e1⟩, e2⟩, e3⟩, e4⟩, e5⟩, e6⟩, e7⟩ := e
      obtain ⟨l1, l2⟩ := h.glob e1
      cases eq_of_beq e0
      refine PI.imp (pi_range3 l1 h.range (ns_cons e2 (sE a h _ e5).1 (ns_cons e3 (sE b h _ e6).1 (ns_cons e4 (sE d h _ e7).1 pa_nil))) (by rw [star_cons e2]) (by rw [star_cons e3, star_cons e4]; rfl)) fun σ H R ⟨g, s, S0, w⟩ => ?_
      simp only [evI] at w
      refine Rd.next S0 w fun g1 p s1 v H1 l1 S1 r1 w1 => Rd.next S1 w1 fun g2 q s2 u H2 l2 S2 r2 w2 => Rd.next S2 w2 fun g3 r s3 u3 H3 l3 S3 r3 w3 => ?_
      rw [WP_bind] at w3
      obtain ⟨i, rfl, w4⟩ := isI_ok S3 (RpP.up (RpP.up r1 l2) l3) w3
      rw [WP_bind] at w4
      obtain ⟨j, rfl, w5⟩ := isI_ok S3 (RpP.up r2 l3) w4
      rw [WP_bind] at w5
      obtain ⟨k, rfl, w6⟩ := isI_ok S3 r3 w5
      split at w6
      · rename_i hs
        rw [Bool.and_eq_true, Bool.and_eq_true, decide_eq_true_eq] at hs
        obtain ⟨b1, b2⟩ := small_ok hs.1.1
        obtain ⟨b3, b4⟩ := small_ok hs.1.2
        have hk := hs.2
        subst hk
        exact ⟨i, j, -1, (i - j).toNat, rfl, RgC.neg b1 b2 b3 b4, w6 g3 _ H3 (.refl g3) S3 (yl_rngc i (i - j).toNat)⟩
      · exact w6.elim
    · cases e
end
end DL
end

section
set_option maxRecDepth 100000
set_option maxHeartbeats 8000000
/-! DL8: statements and defs keep to what they compute. -/
namespace DL
open PySem PySem.Spec PyProof.Rows L2
variable [TBs]

def notComp : Expr → Bool
  | .ListComp _ _ _ _ => false
  | .SetComp _ _ _ _ => false
  | .DictComp _ _ _ _ _ => false
  | _ => true
theorem sw_none {x : Expr} {t : Option Expr} {l : Nat} {env : Env} (h : notComp x = true) : swapsWith x t l env = pure false := by
  cases x <;> first | rfl | cases h
theorem sw_att {x o : Expr} {f : Str} {p : Pos} {l : Nat} {env : Env} : swapsWith x (some (.Attribute o f p)) l env = pure false := by
  cases x <;> rfl
def isNmX : Expr → Bool
  | .Name _ _ => true
  | _ => false

/-- a, b = x, y is stored through a pair where one of the names is no plain local one -/
def noSwap (sc : Scope) (tg x : Expr) : Bool := match tg, x with
  | .Tuple ts _ _, .Tuple _ _ _ => ts.any fun t => match t with
    | .Name y _ => !(sc.names.lookup y == some .local)
    | _ => true
  | .List _ _, .Tuple _ _ _ => false
  | _, _ => true
theorem fm_lt {α β : Type} (f : α → Option β) : ∀ l : List α, (l.filterMap f).length ≤ l.length ∧ ((∃ a ∈ l, f a = none) → (l.filterMap f).length < l.length)
  | [] => ⟨Nat.le_refl _, fun ⟨a, h, _⟩ => by cases h⟩
  | a :: l => by
    obtain ⟨h1, h2⟩ := fm_lt f l
    cases q : f a with
    | none =>
      rw [List.filterMap_cons_none q, List.length_cons]
      exact ⟨by omega, fun _ => by omega⟩
    | some b =>
      rw [List.filterMap_cons_some q, List.length_cons, List.length_cons]
      refine ⟨by omega, fun ⟨z, hz, e⟩ => ?_⟩
      rcases List.mem_cons.mp hz with rfl | hz
      · rw [q] at e; cases e
      · have := h2 ⟨z, hz, e⟩
        omega
theorem noSwap_ok {tg x : Expr} {env : Env} (h : noSwap env.scope tg x = true) : swappedStores [tg] x env = pure none := by
  have plain : (∀ ts k p vs k2 p2, tg = .Tuple ts k p → x = .Tuple vs k2 p2 → False) → (∀ ts p vs k2 p2, tg = .List ts p → x = .Tuple vs k2 p2 → False) → swappedStores [tg] x env = pure none := fun h1 h2 => by
    unfold swappedStores
    split
    · rename_i heq
      split at heq
      · rename_i e1
        cases e1
        exact (h1 _ _ _ _ _ _ rfl rfl).elim
      · rename_i e1
        cases e1
        exact (h2 _ _ _ _ _ rfl rfl).elim
      · cases heq
    · rfl
  cases x with
  | Tuple vs k2 p2 =>
    cases tg with
    | Tuple ts k p =>
      obtain ⟨t, ht, hq⟩ := List.any_eq_true.mp h
      unfold swappedStores
      simp only []
      split
      · rfl
      · split
        · rfl
        · rw [if_pos]
          rw [Bool.or_eq_true]
          left
          rw [bne_iff_ne]
          refine Nat.ne_of_lt ((fm_lt _ ts).2 ⟨t, ht, ?_⟩)
          cases t with
          | Name y py =>
            have hq : (!(env.scope.names.lookup y == some .local)) = true := hq
            have : (env.kindOf y == some NameKind.local) = false := by
              rw [Bool.not_eq_true'] at hq
              exact hq
            simp only [this, Bool.false_and, Bool.false_eq_true, if_false]
          | _ => rfl
    | List ts p => cases h
    | _ => exact plain (fun _ _ _ _ _ _ z => by cases z) (fun _ _ _ _ _ z => by cases z)
  | _ => exact plain (fun _ _ _ _ _ _ _ z => by cases z) (fun _ _ _ _ _ _ z => by cases z)
mutual
def erS (c : EC) : C → Stmt → Bool
  | .skip, _ => false
  | .seq _ _, _ => false
  | .asg t e, s => match s with
    | .Assign [tg] x _ => erG c t tg && erE c e x && notComp x && noSwap c.sc tg x && notStar tg
    | _ => false
  | .own i e, s => match s with
    | .Assign [.Name y _] x _ => c.N[i]? == some y && c.loc y && erE c e x
    | _ => false
  | .shr i e, s => match s with
    | .Assign [.Name y _] x _ => c.N[i]? == some y && c.loc y && erE c e x && notComp x
    | _ => false
  | .par i j a b, s => match s with
    | .Assign [.Tuple [.Name x px, .Name y py] _ _] (.Tuple [u, v] _ _) _ => c.N[i]? == some x && c.N[j]? == some y && i != j && (c.sc.names.lookup x == some .local) && (c.sc.names.lookup y == some .local) && notStar u && notStar v && erE c a u && erE c b v &&
        (match c.sc.kind with | .function => true | _ => false) && px.line == py.line && x != y && !(foldedForSure 8 u && foldedForSure 8 v) && !(constantsAlone 8 u && constantsAlone 8 v)
    | _ => false
  | .aug i op e, s => match s with
    | .AugAssign (.Name y _) o x _ => o == opx op && c.N[i]? == some y && c.loc y && erE c e x
    | _ => false
  | .put o i e, s => match s with
    | .Assign [.Subscript ox ix _] x _ => erE c e x && erE c o ox && erE c i ix && notComp x && notSlice ix
    | _ => false
  | .app o e, s => match s with
    | .Expr (.Call (.Attribute ox m ap) [x] [] cp) _ => m == ("append" : Str) && erE c o ox && erE c e x && notCall ox && notStar x && ap.endLine == cp.line
    | _ => false
  | .ext i e, s => match s with
    | .AugAssign (.Name y _) .Add x _ => c.N[i]? == some y && c.loc y && erE c e x
    | _ => false
  | .iff t a b, s => match s with
    | .If x ys zs _ => erE c t x && notIf x && erB c a ys && erB c b zs
    | _ => false
  | .whl t b, s => match s with
    | .While x ys [] _ => erE c t x && notIf x && erB c b ys
    | _ => false
  | .for t it b, s => match s with
    | .For tg iter ys [] _ => erG c t tg && erI c it tg iter && notSet iter && erB c b ys
    | _ => false
  | .ret e, s => match s with
    | .Return (some x) _ => erE c e x
    | _ => false
  | .retN, s => match s with
    | .Return none _ => true
    | _ => false
  | .brk, s => match s with
    | .Break _ => true
    | _ => false
  | .cont, s => match s with
    | .Continue _ => true
    | _ => false
  | .exp e, s => match s with
    | .Expr x _ => erE c e x && notComp x
    | _ => false
  | .fst cs o f e, s => match s with
    | .Assign [.Attribute ox g _] x _ => g == f && erE c o ox && erE c e x && cs.all fun k => c.kc.na k f
    | _ => false
  | .die, _ => true
  | .tryN b, s => match s with
    | .Try ys (_ :: _) [] [] _ => erB c b ys
    | _ => false
termination_by structural x => x
def erB (c : EC) : C → List Stmt → Bool
  | .skip, ss => match ss with
    | [] => true
    | _ => false
  | .seq a b, ss => match ss with
    | [] => false
    | s :: r => erS c a s && erB c b r
  | _, _ => false
termination_by structural x => x
end

def EPost (K : PySem.W.Frag) (E : Ends) (g : G) : Fl → S → Prop := fun f s' => ∀ g' σ' H', g.le g' → Sim K g' σ' H' s' → match f with
  | .nx => E.nx σ' H'
  | .rt d => ∀ v, Rp K g'.F g'.ρ v d → E.rt v H'
  | .bk => E.bk σ' H'
  | .ct => E.ct σ' H'
def RdS (K : PySem.W.Frag) (cf : CF) (c : C) : TS := fun E σ H => ∃ g s, Sim K g σ H s ∧ (ex cf c s).WP (EPost K E g)
theorem EPost.up {K : PySem.W.Frag} {E : Ends} {g g1 : G} (l : g.le g1) {f : Fl} {s : S} (h : EPost K E g f s) : EPost K E g1 f s := fun g' σ' H' l' => h g' σ' H' (l.trans l')
theorem EPost.ups {K : PySem.W.Frag} {E : Ends} {g g1 : G} (l : g.le g1) {o : Out S Fl} (h : o.WP (EPost K E g)) : o.WP (EPost K E g1) := WP.mono h fun _ _ q => q.up l
theorem Rd.go {α β γ : Type} {K : PySem.W.Frag} {f : S → Out S α} {h : α → S → Out S γ} {R1 : G → L2.St → Hp → S → β → α → Prop} {Φ : γ → S → Prop} {σ : L2.St} {H : Hp} {s : S} {g : G} {Z : β → Hp → Prop}
    (S0 : Sim K g σ H s) (w : ((f s).bind h).WP Φ) (k : ∀ g1 a s1 v H1, g.le g1 → Sim K g1 σ H1 s1 → R1 g1 σ H1 s1 v a → (h a s1).WP Φ → Z v H1) : Rd K f R1 σ H Z := by
  rw [WP_bind] at w
  exact ⟨g, s, S0, WP.mono w fun a s1 w1 g1 v H1 l1 S1 r1 => k g1 a s1 v H1 l1 S1 r1 w1⟩

/-! ### a list that changes -/
theorem iop_all {X : Cx} : OpR X (inplaceOp .Add) (fun x y H Q => rI0 (fun i j => .int (i + j)) x y H Q ∨ rAddS x y H Q) := iop_add.or iop_add_str
def rAug : BOp → R2
  | .add => fun x y H Q => rI0 (fun i j => .int (i + j)) x y H Q ∨ rAddS x y H Q
  | .sub => rI0 fun i j => .int (i - j)
  | .mul => rI CMul fun i j => .int (i * j)
  | .fdiv => rI CDiv fun i j => .int (i / j)
  | .mod => rI (fun _ j => 0 < j) fun i j => .int (i % j)
  | .pow => fun _ _ _ _ => False
theorem rAug_ok {X : Cx} : ∀ op, OpR X (inplaceOp (opx op)) (rAug op)
  | .add => iop_all
  | .sub => iop_sub
  | .mul => iop_mul
  | .fdiv => iop_fdiv
  | .mod => iop_mod
  | .pow => fun _ _ _ _ _ _ _ _ _ _ _ _ h => h.elim
section
variable {K : PySem.W.Frag} {g g1 g' : G} {σ : L2.St} {H : Hp} {s s1 : S} {v u : V} {p q : Pl} {cf : CF}
theorem aug_val {op : BOp} {x y d : D} {Q : VK} (S0 : Sim K g σ H s) (rx : Rp K g.F g.ρ v x) (ry : RpP K g σ u q) (ey : view s q = some y) (e : augO op x y = some d) (w : ∀ z, Rp K g.F g.ρ z d → Q z H) : rAug op v u H Q := by
  have vy := view_ok S0 ry ey
  unfold augO at e
  split at e
  · cases e; cases rx; cases vy; exact .inl ⟨_, _, rfl, rfl, w _ (.int _)⟩
  · cases e; cases rx; cases vy; exact ⟨_, _, rfl, rfl, w _ (.int _)⟩
  · split at e
    · rename_i hl
      cases e; cases rx; cases vy
      refine ⟨_, _, rfl, rfl, ?_, w _ (.int _)⟩
      unfold mulOk at hl
      simp only [Bool.or_eq_true, Bool.and_eq_true, decide_eq_true_eq] at hl
      exact hl
    · cases e
  · split at e
    · rename_i hl
      cases e; cases rx; cases vy
      simp only [Bool.and_eq_true, decide_eq_true_eq] at hl
      exact ⟨_, _, rfl, rfl, hl, w _ (.int _)⟩
    · cases e
  · split at e
    · rename_i hl
      cases e; cases rx; cases vy
      simp only [decide_eq_true_eq] at hl
      exact ⟨_, _, rfl, rfl, hl, w _ (.int _)⟩
    · cases e
  · split at e
    · rename_i hl
      cases e; cases rx; cases vy
      exact .inr ⟨_, _, rfl, rfl, by rw [sizeLine_eq]; exact hl, w _ (.str _)⟩
    · cases e
  · cases e
/-- o.append(d) -/
theorem app_val {d : D} {s' : S} {Q : VK} (S0 : Sim K g σ H s) (rp : RpP K g σ v p) (rd : Rp K g.F g.ρ u d) (e : appO p d s = some s') (w : ∀ H', Sim K g σ H' s' → Q .non H') : rAppend v [u] H Q := by
  have mem : ∀ (n : Nat) (a : Addr), g.ρ[n]? = some a → appM n d s = some s' → rAppend (.ref a) [u] H Q := fun n a er e => by
    unfold appM at e
    split at e
    · rename_i ds em
      split at e
      · rename_i hl
        cases e
        obtain ⟨xs, ea, ra⟩ := (S0.mem n a _ er em).2.lst
        refine ⟨a, xs, u, rfl, rfl, ea, by rw [sizeLine_eq, ra.length]; exact hl, w _ ?_⟩
        exact S0.chM em er (.inl ⟨_, upd_same, ra.append (.cons rd .nil)⟩)
      · cases e
    · cases e
  cases p with
  | d z =>
    cases z with
    | ref n =>
      cases rp with
      | ref er => exact mem n _ er e
    | _ => cases e
  | slot i =>
    have rp : σ[i]? = some (some v) := rp
    cases q : s.env[i]? with
    | none => simp only [appO, q] at e; cases e
    | some z =>
      cases z with
      | non => simp only [appO, q] at e; cases e
      | val x =>
        obtain ⟨v', e1, r1⟩ := S0.val i x q
        rw [rp] at e1; cases e1
        cases x with
        | ref n =>
          simp only [appO, q] at e
          cases r1 with
          | ref er => exact mem n _ er e
        | _ => simp only [appO, q] at e; cases e
      | own m =>
        obtain ⟨a, e1, p, r1⟩ := S0.own i m q
        rw [rp] at e1; cases e1
        cases m with
        | dct _ => simp only [appO, q] at e; cases e
        | ins _ _ => exact r1.elim
        | lst ds =>
          simp only [appO, q] at e
          split at e
          · rename_i hl
            cases e
            obtain ⟨xs, ea, ra⟩ := r1
            refine ⟨a, xs, u, rfl, rfl, ea, by rw [sizeLine_eq, ra.length]; exact hl, w _ ?_⟩
            exact S0.chS q rp ⟨_, upd_same, ra.append (.cons rd .nil)⟩
          · cases e
/-- o[k] = d -/
theorem put_val {d k : D} {s' : S} {z : V} {Q : Hp → Prop} (S0 : Sim K g σ H s) (rp : RpP K g σ v p) (rk : Rp K g.F g.ρ z k) (rd : Rp K g.F g.ρ u d) (e : putO p k d s = some s') (w : ∀ H', Sim K g σ H' s' → Q H') : rSetL v z u H Q ∨ DX.rSetD K TBs.w v z u H Q := by
  have mem : ∀ (n : Nat) (a : Addr), g.ρ[n]? = some a → putM n k d s = some s' → rSetL (.ref a) z u H Q ∨ DX.rSetD K TBs.w (.ref a) z u H Q := fun n a er e => by
    unfold putM at e
    split at e
    · rename_i ds em
      cases rk with
      | int i =>
        simp only at e
        cases ej : ixN ds.length i with
        | none => rw [ej] at e; cases e
        | some j =>
          rw [ej] at e; cases e
          obtain ⟨xs, ea, ra⟩ := (S0.mem n a _ er em).2.lst
          refine .inl ⟨a, xs, i, j, rfl, rfl, ea, by rw [ra.length]; exact ej, w _ ?_⟩
          exact S0.chM em er (.inl ⟨_, upd_same, ra.set j rd⟩)
      | _ => cases e
    · rename_i kvs em
      cases ep : putKV kvs k d with
      | none => rw [ep] at e; cases e
      | some kvs' =>
        rw [ep] at e; cases e
        obtain ⟨o, q1, q2⟩ := dct_put S0 (S0.mem n a _ er em).2.dct rk rd ep
        exact .inr ⟨a, _, rfl, q1, w _ (S0.chM em er (.inl q2))⟩
    · cases e
  cases p with
  | d y =>
    cases y with
    | ref n =>
      cases rp with
      | ref er => exact mem n _ er e
    | _ => cases e
  | slot i =>
    have rp : σ[i]? = some (some v) := rp
    cases q : s.env[i]? with
    | none => simp only [putO, q] at e; cases e
    | some y =>
      cases y with
      | non => simp only [putO, q] at e; cases e
      | val x =>
        obtain ⟨v', e1, r1⟩ := S0.val i x q
        rw [rp] at e1; cases e1
        cases x with
        | ref n =>
          simp only [putO, q] at e
          cases r1 with
          | ref er => exact mem n _ er e
        | _ => simp only [putO, q] at e; cases e
      | own m =>
        obtain ⟨a, e1, p, r1⟩ := S0.own i m q
        rw [rp] at e1; cases e1
        cases m with
        | dct kvs =>
          simp only [putO, q] at e
          cases ep : putKV kvs k d with
          | none => rw [ep] at e; cases e
          | some kvs' =>
            rw [ep] at e; cases e
            obtain ⟨o, q1, q2⟩ := dct_put S0 r1 rk rd ep
            exact .inr ⟨a, _, rfl, q1, w _ (S0.chS q rp q2)⟩
        | ins _ _ => exact r1.elim
        | lst ds =>
          cases k with
          | int j0 =>
            simp only [putO, q] at e
            cases ej : ixN ds.length j0 with
            | none => rw [ej] at e; cases e
            | some j =>
              rw [ej] at e; cases e
              obtain ⟨xs, ea, ra⟩ := r1
              cases rk
              refine .inl ⟨a, xs, j0, j, rfl, rfl, ea, by rw [ra.length]; exact ej, w _ ?_⟩
              exact S0.chS q rp ⟨_, upd_same, ra.set j rd⟩
          | _ => simp only [putO, q] at e; cases e
end
end DL
end

section
set_option maxRecDepth 100000
set_option maxHeartbeats 8000000
/-! DL9: statements keep to what they compute. -/
namespace DL
open PySem PySem.Spec PyProof.Rows L2
variable [TBs]

theorem blk_fn {env : Env} (h : env.scope.kind = .function) : env.blockKind = .function := by
  unfold Env.blockKind
  rw [h]; rfl
theorem par_sw {x y : Str} {px py pt pt2 : Pos} {kt k2 : Nat} {u v : Expr} {env : Env} (hk : env.scope.kind = .function) (hx : env.scope.names.lookup x = some .local) (hy : env.scope.names.lookup y = some .local) (hl : px.line = py.line) (hne : x ≠ y)
    (hu : notStar u = true) (hv : notStar v = true) (hf : (foldedForSure 8 u && foldedForSure 8 v) = false) (hc : (constantsAlone 8 u && constantsAlone 8 v) = false) :
    swappedStores [.Tuple [.Name x px, .Name y py] kt pt] (.Tuple [u, v] k2 pt2) env = pure (some [x, y]) := by
  have hb := blk_fn hk
  have kx : env.kindOf x = some .local := hx
  have ky : env.kindOf y = some .local := hy
  have hd : ([x, y] : List Str).eraseDups = [x, y] := by
    have h1 : (y == x) = false := by simpa using Ne.symm hne
    rw [List.eraseDups_cons]
    simp only [List.filter, h1, Bool.not_false]
    rw [List.eraseDups_cons]
    simp only [List.filter]
    rfl
  unfold swappedStores
  simp only [List.length_cons, List.length_nil, hb, List.any_cons, List.any_nil, List.all_cons, List.all_nil, List.head?_cons, Option.map, Option.getD, List.filterMap_cons, List.filterMap_nil, kx, ky, Expr.pos, hl, hd, hf, hc, Bool.and_true, beq_self_eq_true, Bool.or_false, if_true, bne_self_eq_false]
  split
  · rename_i h; simp at h
  · split
    · cases hu
    · split
      · cases hv
      · simp
theorem sws {x tg : Expr} {l : Nat} {env : Env} (h : notComp x = true) : swapsWithSole [tg] x l env = pure false := sw_none h
theorem assign_sub {o i : Expr} {pos : Pos} {env : Env} (h : notSlice i = true) : ∀ v, assign (.Subscript o i pos) env v = (do
      let ov ← holding [v] (eval o env)
      let iv ← holding [v, ov] (eval i env)
      standAt pos
      holding [v, ov, iv] (setItem ov iv v)
      release [v, ov, iv] []) := by
  cases i <;> first | exact fun _ => rfl | cases h
section
variable {K : PySem.W.Frag} {g g1 g' : G} {σ : L2.St} {H : Hp} {s s1 : S} {v u : V} {p q : Pl} {cf : CF}
/-- x += a list -/
theorem ext_val {i : Nat} {d : D} {s' : S} {Q : V → Hp → Prop} (S0 : Sim K g σ H s) (rp : σ[i]? = some (some v)) (rd : Rp K g.F g.ρ u d) (e : extO i d s = some s') (w : ∀ H', Sim K g σ H' s' → Q v H') : rExt2 v u H Q := by
  unfold extO at e
  split at e
  · rename_i ds es q
    split at e
    · rename_i hl
      cases e
      obtain ⟨a, e1, p, xs, ea, ra⟩ := S0.own i _ q
      rw [rp] at e1; cases e1
      cases rd with
      | lst e2 r2 =>
        refine ⟨a, _, xs, _, rfl, rfl, ea, S0.fz _ _ e2, by rw [sizeLine_eq, ra.length, r2.length]; exact hl, w _ ?_⟩
        exact S0.chS q rp ⟨_, upd_same, ra.append r2⟩
    · cases e
  · cases e
theorem sw_comp {elt : Expr} {gs : List Comprehension} {scope : Scope} {pos py : Pos} {y : Str} {l : Nat} {env : Env} : ∃ b, swapsWith (.ListComp elt gs scope pos) (some (.Name y py)) l env = pure b ∧ (b = true → env.scope.names.lookup y = some .local) := by
  unfold swapsWith
  refine ⟨_, rfl, fun h => ?_⟩
  simp only [Bool.and_eq_true] at h
  have := h.1.1.2
  exact eq_of_beq this
theorem sw_dict {kx vx : Expr} {gs : List Comprehension} {scope : Scope} {pos py : Pos} {y : Str} {l : Nat} {env : Env} : ∃ b, swapsWith (.DictComp kx vx gs scope pos) (some (.Name y py)) l env = pure b ∧ (b = true → env.scope.names.lookup y = some .local) := by
  unfold swapsWith
  refine ⟨_, rfl, fun h => ?_⟩
  simp only [Bool.and_eq_true] at h
  have := h.1.1.2
  exact eq_of_beq this
/-- a new thing is given a name -/
theorem own_fin {X : Cx} {i : Nat} {e : E} {E' : Ends} (hσ : (evR cf e s).WP fun r s => (match r with
    | .mo m => Out.ok Fl.nx { s with env := s.env.set i (.own m) }
    | _ => Out.bad).WP (EPost K E' g)) (S0 : Sim K g σ H s) : RdR K cf e σ H (fun x H1 => E'.nx (σ.set i (some x)) H1) :=
  ⟨g, s, S0, WP.mono hσ fun r s1 w1 g1 v H1 l1 S1 r1 => by
    cases r with
    | pl p => exact w1.elim
    | mo m =>
      obtain ⟨a, rfl, f, ro⟩ := r1
      replace w1 : EPost K E' g .nx { s1 with env := s1.env.set i (.own m) } := w1
      exact w1 g1 _ H1 l1 (S1.putO f ro)⟩
end
theorem lcParts {cf : CF} {X : Cx} {c : EC} (h : XOk X c cf) {own : List Nat} {t : Tg} {it : I} {ifs : A} {elt : E} {x : Expr} (e : erE c (.lc own t it ifs elt) x = true) :
    ∃ el tg iter is scope pos, x = .ListComp el [⟨tg, iter, is, 0⟩] scope pos ∧ PI X tg iter (RdI X.K cf it) ∧ BlkOk X.N X.env.scope scope (ownN c.N own) ∧ (∀ (s : Shared) (H : Hp) (C : Addr) (cl : List (Str × Addr)) (fp : List Addr), PG (X.blk s H scope (compEnvC scope cl C X.env) fp) tg (RdG X.K t)) ∧
      (∀ (s : Shared) (H : Hp) (C : Addr) (cl : List (Str × Addr)) (fp : List Addr), PTs (X.blk s H scope (compEnvC scope cl C X.env) fp) is (RdC X.K cf ifs)) ∧ (∀ (s : Shared) (H : Hp) (C : Addr) (cl : List (Str × Addr)) (fp : List Addr), PE (X.blk s H scope (compEnvC scope cl C X.env) fp) el (RdP X.K cf elt)) ∧
      (∀ x, foldedSetIterable iter X.env x = pure x) ∧ (ownN c.N own).map (·.2) = own ∧ ∀ i ∈ t.ix, i ∈ own := by
  simp only [erE] at e
  split at e
  · rename_i el tg iter is scope pos
    simp only [Bool.and_eq_true] at e
    obtain ⟨⟨⟨⟨⟨⟨⟨⟨e1, e2⟩, e3⟩, e4⟩, e5⟩, e6⟩, e7⟩, e8⟩, e9⟩ := e
    refine ⟨el, tg, iter, is, scope, pos, rfl, sI it h tg iter e2, blkOk_by (by rw [h.N, h.sc]; exact e1), fun s H C cl fp => sG (h.blk s H scope C cl fp) t tg e4,
      fun s H C cl fp => (sA ifs (h.blk s H scope C cl fp) is e6).ifs (by simpa using e8) e7, fun s H C cl fp => pe_p (sE elt (h.blk s H scope C cl fp) el e9).1, set_iter e3, ?_, fun i hi => by simpa using List.all_eq_true.mp e5 i hi⟩
    unfold ownN; rw [List.map_map]; simp [Function.comp_def]
  · cases e
theorem l2Parts {cf : CF} {X : Cx} {c : EC} (h : XOk X c cf) {own vs : List Nat} {t : Tg} {it : I} {ifs : A} {t1 : Tg} {it1 : I} {ifs1 : A} {elt : E} {x : Expr} (e : erE c (.lc2 own vs t it ifs t1 it1 ifs1 elt) x = true) :
    ∃ el tg iter is tg1 iter1 is1 scope pos, x = .ListComp el [⟨tg, iter, is, 0⟩, ⟨tg1, iter1, is1, 0⟩] scope pos ∧ PI X tg iter (RdI X.K cf it) ∧ BlkOk X.N X.env.scope scope (ownN c.N own) ∧
      (∀ (s : Shared) (H : Hp) (C : Addr) (cl : List (Str × Addr)) (fp : List Addr), PG (X.blk s H scope (compEnvC scope cl C X.env) fp) tg (RdG X.K t) ∧ PTs (X.blk s H scope (compEnvC scope cl C X.env) fp) is (RdC X.K cf ifs) ∧ PI (X.blk s H scope (compEnvC scope cl C X.env) fp) tg1 iter1 (RdI X.K cf it1) ∧
        PG (X.blk s H scope (compEnvC scope cl C X.env) fp) tg1 (RdG X.K t1) ∧ PTs (X.blk s H scope (compEnvC scope cl C X.env) fp) is1 (RdC X.K cf ifs1) ∧ PE (X.blk s H scope (compEnvC scope cl C X.env) fp) el (RdP X.K cf elt)) ∧
      (∀ x, foldedSetIterable iter X.env x = pure x) ∧ (∀ env x, foldedSetIterable iter1 env x = pure x) ∧ (ownN c.N own).map (·.2) = own ∧ (∀ i ∈ vs, i ∈ own) ∧ (∀ i ∈ t.ix, i ∈ own) ∧ ∀ i ∈ t1.ix, i ∈ vs := by
  simp only [erE] at e
  split at e
  · rename_i el tg iter is tg1 iter1 is1 scope pos
    rw [Bool.and_eq_true] at e
    obtain ⟨ea, eb⟩ := e
    simp only [Bool.and_eq_true] at ea eb
    obtain ⟨⟨⟨⟨⟨⟨⟨⟨e1, ev⟩, e2⟩, e3⟩, e4⟩, e5⟩, e6⟩, e7⟩, e8⟩ := ea
    obtain ⟨⟨⟨⟨⟨⟨⟨f2, f3⟩, f4⟩, f5⟩, f6⟩, f7⟩, f8⟩, f9⟩ := eb
    refine ⟨el, tg, iter, is, tg1, iter1, is1, scope, pos, rfl, sI it h tg iter e2, blkOk_by (by rw [h.N, h.sc]; exact e1), fun s H C cl fp => ⟨sG (h.blk s H scope C cl fp) t tg e4,
      (sA ifs (h.blk s H scope C cl fp) is e6).ifs (by simpa using e8) e7, sI it1 (h.blk s H scope C cl fp) tg1 iter1 f2, sG (h.blk s H scope C cl fp) t1 tg1 f4, (sA ifs1 (h.blk s H scope C cl fp) is1 f6).ifs (by simpa using f8) f7, pe_p (sE elt (h.blk s H scope C cl fp) el f9).1⟩, set_iter e3, fun env => set_iter f3, ?_, ?_, ?_, ?_⟩
    · unfold ownN; rw [List.map_map]; simp [Function.comp_def]
    · exact fun i hi => by simpa using List.all_eq_true.mp ev i hi
    · exact fun i hi => by simpa using List.all_eq_true.mp e5 i hi
    · exact fun i hi => by simpa using List.all_eq_true.mp f5 i hi
  · cases e
theorem dcParts {cf : CF} {X : Cx} {c : EC} (h : XOk X c cf) {own : List Nat} {t : Tg} {it : I} {ifs : A} {key elt : E} {x : Expr} (e : erE c (.dc own t it ifs key elt) x = true) :
    ∃ kx vx tg iter is scope pos, x = DC.dcx kx vx tg iter is scope pos ∧ PI X tg iter (RdI X.K cf it) ∧ BlkOk X.N X.env.scope scope (ownN c.N own) ∧ (∀ (s : Shared) (H : Hp) (C : Addr) (cl : List (Str × Addr)) (fp : List Addr), PG (X.blk s H scope (compEnvC scope cl C X.env) fp) tg (RdG X.K t) ∧
      PTs (X.blk s H scope (compEnvC scope cl C X.env) fp) is (RdC X.K cf ifs) ∧ PE (X.blk s H scope (compEnvC scope cl C X.env) fp) kx (RdP X.K cf key) ∧ PE (X.blk s H scope (compEnvC scope cl C X.env) fp) vx (RdP X.K cf elt)) ∧
      (∀ x, foldedSetIterable iter X.env x = pure x) ∧ (ownN c.N own).map (·.2) = own ∧ ∀ i ∈ t.ix, i ∈ own := by
  simp only [erE] at e
  split at e
  · rename_i kx vx tg iter is scope pos
    simp only [Bool.and_eq_true] at e
    obtain ⟨⟨⟨⟨⟨⟨⟨⟨⟨e1, e2⟩, e3⟩, e4⟩, e5⟩, e6⟩, e7⟩, e8⟩, e8'⟩, e9⟩ := e
    refine ⟨kx, vx, tg, iter, is, scope, pos, rfl, sI it h tg iter e2, blkOk_by (by rw [h.N, h.sc]; exact e1), fun s H C cl fp => ⟨sG (h.blk s H scope C cl fp) t tg e4,
      (sA ifs (h.blk s H scope C cl fp) is e6).ifs (by simpa using e8) e7, pe_p (sE key (h.blk s H scope C cl fp) kx e8').1, pe_p (sE elt (h.blk s H scope C cl fp) vx e9).1⟩, set_iter e3, ?_, fun i hi => by simpa using List.all_eq_true.mp e5 i hi⟩
    unfold ownN; rw [List.map_map]; simp [Function.comp_def]
  · cases e
theorem notLc {c : EC} {e : E} {x : Expr} (h : erE c e x = true) (hn : ∀ own t it ifs elt, e ≠ .lc own t it ifs elt) (hd : ∀ own t it ifs key elt, e ≠ .dc own t it ifs key elt) (h2 : ∀ own vs t it ifs t1 it1 ifs1 elt, e ≠ .lc2 own vs t it ifs t1 it1 ifs1 elt) : notComp x = true := by
  cases e with
  | lc own t it ifs elt => exact absurd rfl (hn own t it ifs elt)
  | dc own t it ifs key elt => exact absurd rfl (hd own t it ifs key elt)
  | lc2 own vs t it ifs t1 it1 ifs1 elt => exact absurd rfl (h2 own vs t it ifs t1 it1 ifs1 elt)
  | hole => simp [erE] at h
  | _ =>
    simp only [erE] at h
    cases x <;> first | rfl | (simp at h; done) | (simp [isFr] at h)

set_option maxHeartbeats 16000000 in
mutual
theorem sS {cf : CF} : ∀ (k : C) {X : Cx} {c : EC} (h : XOk X c cf) (st : Stmt), erS c k st = true → PS X st (RdS X.K cf k)
  | .skip, X, c, h, st, e => by simp [erS] at e
  | .seq a b, X, c, h, st, e => by simp [erS] at e
  | .asg t ee, X, c, h, st, e => by
    simp only [erS] at e
    split at e
    · simp only [Bool.and_eq_true] at e
      obtain ⟨⟨⟨⟨e1, e2⟩, e3⟩, e4⟩, e5⟩ := e
      refine PS.imp (ps_asg (pe_p (sE ee h _ e2).1) (sG h t _ e1) (sw_none e3) ?_ (by rw [assign_cons e5]; rfl)) fun D σ H ⟨g, s, S0, w⟩ => ?_
      · exact noSwap_ok (by rw [h.sc]; exact e4)
      · simp only [ex] at w
        refine Rd.go S0 w fun g1 r s1 v H1 l1 S1 r1 w1 => ?_
        rw [WP_bind] at w1
        obtain ⟨g2, d, s2, l2, S2, r2, _, w2⟩ := esc_ok S1 r1 w1
        rw [WP_bind] at w2
        obtain ⟨s3, ea, w3⟩ := WP_opt w2
        replace w3 : EPost X.K D g .nx s3 := w3
        exact ⟨g2, s2, d, s3, S2, r2, ea, fun σ' S3 _ => w3 g2 σ' H1 (l1.trans l2) S3⟩
    · cases e
  | .own i ee, X, c, h, st, e => by
    simp only [erS] at e
    split at e
    · rename_i y py x pos
      simp only [Bool.and_eq_true] at e
      obtain ⟨⟨e1, e2⟩, e3⟩ := e
      have hi : X.N[i]? = some y := by rw [h.N]; simpa using e1
      obtain ⟨l1, l2⟩ := h.loc e2
      have fin : ∀ (D : Ends) σ H, RdS X.K cf (.own i ee) D σ H → RdR X.K cf ee σ H (fun x H1 => D.nx (σ.set i (some x)) H1) := fun D σ H ⟨g, s, S0, w⟩ => by
        simp only [ex] at w
        rw [WP_bind] at w
        exact own_fin (X := X) w S0
      by_cases hc : notComp x = true
      · exact PS.imp (ps_set h.nd hi l1 (sE ee h _ e3).1 (sw_none hc) l2) fun D σ H q => fin D σ H q
      · cases ee with
        | lc own t it ifs elt =>
          obtain ⟨el, tg, iter, is, scope, p2, rfl, hI, hB, hG, hT, hE, hS, ho, hix⟩ := lcParts h e3
          obtain ⟨b, eb, hl⟩ := sw_comp (elt := el) (gs := [⟨tg, iter, is, 0⟩]) (scope := scope) (pos := p2) (py := py) (y := y) (l := pos.line) (env := X.env)
          cases b with
          | false => exact PS.imp (ps_set h.nd hi l1 (sE _ h _ e3).1 eb l2) fun D σ H q => fin D σ H q
          | true =>
            refine PS.imp (ps_setLc h.calm h.nd hi (hl rfl) eb hI hB hG hT hE hS) fun D σ H q => ?_
            rw [ho]
            exact lc_rule hix σ H _ (fin D σ H q)
        | lc2 own vs t it ifs t1 it1 ifs1 elt =>
          obtain ⟨el, tg, iter, is, tg1, iter1, is1, scope, p2, rfl, hI, hB, hb, hS, hS1, ho, hvs, hix, hix1⟩ := l2Parts h e3
          obtain ⟨b, eb, hl⟩ := sw_comp (elt := el) (gs := [⟨tg, iter, is, 0⟩, ⟨tg1, iter1, is1, 0⟩]) (scope := scope) (pos := p2) (py := py) (y := y) (l := pos.line) (env := X.env)
          cases b with
          | false => exact PS.imp (ps_set h.nd hi l1 (sE _ h _ e3).1 eb l2) fun D σ H q => fin D σ H q
          | true =>
            refine PS.imp (ps_setLc2 (vs1 := vs) h.calm h.nd hi (hl rfl) eb hI hB (by rw [ho]; exact hvs) (fun s H C cl fp => (hb s H C cl fp).1) (fun s H C cl fp => (hb s H C cl fp).2.1) (fun s H C cl fp => (hb s H C cl fp).2.2.1) (fun s H C cl fp => (hb s H C cl fp).2.2.2.1) (fun s H C cl fp => (hb s H C cl fp).2.2.2.2.1) (fun s H C cl fp => (hb s H C cl fp).2.2.2.2.2) hS hS1) fun D σ H q => ?_
            rw [ho]
            exact lc2_rule hvs hix hix1 σ H _ (fin D σ H q)
        | dc own t it ifs key elt =>
          obtain ⟨kx, vx, tg, iter, is, scope, p2, rfl, hI, hB, hb, hS, ho, hix⟩ := dcParts h e3
          obtain ⟨b, eb, hl⟩ := sw_dict (kx := kx) (vx := vx) (gs := [⟨tg, iter, is, 0⟩]) (scope := scope) (pos := p2) (py := py) (y := y) (l := pos.line) (env := X.env)
          cases b with
          | false => exact PS.imp (ps_set h.nd hi l1 (sE _ h _ e3).1 eb l2) fun D σ H q => fin D σ H q
          | true =>
            refine PS.imp (DC.ps_setDc h.calm h.hu h.nd hi (hl rfl) eb hI hB hb hS) fun D σ H q => ?_
            rw [ho, h.w]
            exact dc_rule hix σ H _ (fin D σ H q)
        | _ => exact absurd (notLc e3 (fun _ _ _ _ _ z => by cases z) (fun _ _ _ _ _ _ z => by cases z) (fun _ _ _ _ _ _ _ _ _ z => by cases z)) hc
    · cases e
  | .shr i ee, X, c, h, st, e => by
    simp only [erS] at e
    split at e
    · rename_i y py x pos
      simp only [Bool.and_eq_true] at e
      obtain ⟨⟨⟨e1, e2⟩, e3⟩, e4⟩ := e
      have hi : X.N[i]? = some y := by rw [h.N]; simpa using e1
      obtain ⟨l1, l2⟩ := h.loc e2
      refine PS.imp (ps_set h.nd hi l1 (sE ee h _ e3).1 (sw_none e4) l2) fun D σ H ⟨g, s, S0, w⟩ => ?_
      simp only [ex] at w
      rw [WP_bind] at w
      refine ⟨g, s, S0, WP.mono w fun r s1 w1 g1 v H1 l1 S1 r1 => ?_⟩
      cases r with
      | pl p => exact w1.elim
      | mo m =>
        obtain ⟨a, rfl, f, ro⟩ := r1
        replace w1 : EPost X.K D g .nx ⟨s1.env.set i (.val (.ref s1.mem.length)), s1.mem ++ [m]⟩ := w1
        obtain ⟨l2, S2, er⟩ := S1.share f (.inl ro)
        exact w1 _ _ H1 (l1.trans l2) (S2.put (.ref er))
    · cases e
  | .par i j a b, X, c, h, st, e => by
    simp only [erS] at e
    split at e
    · rename_i x px y py k1 p1 eu ev k2 p2 p3
      simp only [Bool.and_eq_true] at e
      obtain ⟨⟨⟨⟨⟨⟨⟨⟨⟨⟨⟨⟨⟨e1, e2⟩, e3⟩, e4⟩, e5⟩, e6⟩, e7⟩, e8⟩, e9⟩, e10⟩, e11⟩, e12⟩, e13⟩, e14⟩ := e
      have hi : X.N[i]? = some x := by rw [h.N]; exact eq_of_beq e1
      have hj : X.N[j]? = some y := by rw [h.N]; exact eq_of_beq e2
      have hx : X.env.scope.names.lookup x = some .local := by rw [h.sc]; exact eq_of_beq e4
      have hy : X.env.scope.names.lookup y = some .local := by rw [h.sc]; exact eq_of_beq e5
      have hk : X.env.scope.kind = .function := by
        rw [h.sc]
        split at e10
        · assumption
        · cases e10
      refine PS.imp (ps_par h.calm h.nd hi hj (by simpa using e3) hx hy (ns_cons e6 (sE a h _ e8).1 (ns_cons e7 (sE b h _ e9).1 pa_nil)) (par_sw hk hx hy (eq_of_beq e11) (by simpa using e12) e6 e7 (by rw [Bool.not_eq_true'] at e13; exact e13) (by rw [Bool.not_eq_true'] at e14; exact e14)) rfl) fun D σ H ⟨g, s, S0, w⟩ => ?_
      simp only [ex] at w
      refine Rd.go S0 w fun g1 p s1 v H1 l1 S1 r1 w1 => Rd.go S1 w1 fun g2 q s2 u H2 l2 S2 r2 w2 => ?_
      rw [WP_bind] at w2
      obtain ⟨g3, d, s3, l3, S3, r3, _, w3⟩ := esc_ok S2 (RpP.up r1 l2) w2
      rw [WP_bind] at w3
      obtain ⟨g4, d2, s4, l4, S4, r4, _, w4⟩ := esc_ok S3 (RpP.up r2 l3) w3
      replace w4 : EPost X.K D g .nx { s4 with env := (s4.env.set i (.val d)).set j (.val d2) } := w4
      refine ⟨v, u, rfl, w4 g4 _ H2 (l1.trans (l2.trans (l3.trans l4))) ?_⟩
      exact (S4.put (i := i) (r3.up l4.ge0)).put (i := j) r4
    · cases e
  | .aug i op ee, X, c, h, st, e => by
    simp only [erS] at e
    split at e
    · rename_i y py o x pos
      simp only [Bool.and_eq_true] at e
      obtain ⟨⟨⟨e0, e1⟩, e2⟩, e3⟩ := e
      have hi : X.N[i]? = some y := by rw [h.N]; exact eq_of_beq e1
      obtain ⟨l1, l2⟩ := h.loc e2
      cases eq_of_beq e0
      refine PS.imp (ps_aug (ti := rAug op) h.nd hi l1 (pe_p (sE ee h _ e3).1) (fun pins s σ H x y v u Q I r1 r2 q => rAug_ok op pins s σ H x y v u Q I r1 r2 q) l2) fun D σ H ⟨g, s, S0, w⟩ => ?_
      simp only [ex] at w
      split at w
      · rename_i x ex0
        obtain ⟨v, e1, r0⟩ := S0.val i x ex0
        refine ⟨v, e1, Rd.go S0 w fun g1 q s1 u H1 l1 S1 r1 w1 => ?_⟩
        rw [WP_bind] at w1
        obtain ⟨d, ed, w2⟩ := WP_opt w1
        replace w2 : EPost X.K D g .nx { s1 with env := s1.env.set i (.val d) } := w2
        cases ev : view s1 (toP q) with
        | none => rw [ev] at ed; cases ed
        | some y =>
          rw [ev] at ed
          exact aug_val S1 (r0.up l1.ge0) r1 ev ed fun z rz => w2 g1 _ H1 l1 (S1.put rz)
      · exact w.elim
    · cases e
  | .put o i ee, X, c, h, st, e => by
    simp only [erS] at e
    split at e
    · simp only [Bool.and_eq_true] at e
      obtain ⟨⟨⟨⟨e1, e2⟩, e3⟩, e4⟩, e5⟩ := e
      refine PS.imp (ps_asg (pe_p (sE ee h _ e1).1) (pg_sub (pe_p (sE o h _ e2).1) (pe_p (sE i h _ e3).1) (DX.PSet.or set_list h.setD) (assign_sub e5)) (sws e4)) fun D σ H ⟨g, s, S0, w⟩ => ?_
      simp only [ex] at w
      refine Rd.go S0 w fun g1 r s1 v H1 l1 S1 r1 w1 => ?_
      rw [WP_bind] at w1
      obtain ⟨g2, d, s2, l2, S2, r2, _, w2⟩ := esc_ok S1 r1 w1
      refine Rd.go S2 w2 fun g3 p s3 u H3 l3 S3 r3 w3 => Rd.go S3 w3 fun g4 q s4 z H4 l4 S4 r4 w4 => ?_
      rw [WP_bind] at w4
      obtain ⟨g5, k, s5, l5, S5, r5, _, w5⟩ := esc_ok S4 r4 w4
      rw [WP_bind] at w5
      obtain ⟨s6, ep, w6⟩ := WP_opt w5
      replace w6 : EPost X.K D g .nx s6 := w6
      exact put_val S5 (RpP.up (RpP.up r3 l4) l5) r5 (r2.up (l3.trans (l4.trans l5)).ge0) ep fun H' S' => w6 g5 σ H' (l1.trans (l2.trans (l3.trans (l4.trans l5)))) S'
    · cases e
  | .app o ee, X, c, h, st, e => by
    simp only [erS] at e
    split at e
    · simp only [Bool.and_eq_true] at e
      obtain ⟨⟨⟨⟨⟨e0, e1⟩, e2⟩, e3⟩, e4⟩, e5⟩ := e
      cases eq_of_beq e0
      refine PS.imp (ps_expr (pe_bm PySem.F.plainAttrs_list PySem.F.slot_list_append PySem.F.type_list_append mt_append (pe_p (sE o h _ e1).1) (ns_cons e4 (sE ee h _ e2).1 pa_nil) (attr_base e3) (by rw [star_cons e4]; rfl) e5 (star_cons e4))) fun D σ H ⟨g, s, S0, w⟩ => ?_
      simp only [ex] at w
      refine Rd.go S0 w fun g1 p s1 v H1 l1 S1 r1 w1 => ?_
      split at w1
      · rename_i hl
        have ty : tyV X.K "list" v H1 := by
          unfold isLst at hl
          split at hl
          · rename_i ds ev
            obtain ⟨a, xs, rfl, ea, _⟩ := view_ok S1 r1 ev
            exact .inl ⟨rfl, xs, .inl (.inl ea)⟩
          · cases hl
        refine ⟨ty, Rd.go S1 w1 fun g2 q s2 u H2 l2 S2 r2 w2 => ?_⟩
        rw [WP_bind] at w2
        obtain ⟨g3, d, s3, l3, S3, r3, _, w3⟩ := esc_ok S2 r2 w2
        rw [WP_bind] at w3
        obtain ⟨s4, ea, w4⟩ := WP_opt w3
        replace w4 : EPost X.K D g .nx s4 := w4
        exact app_val (Q := fun _ H' => D.nx σ H') S3 (RpP.up (RpP.up r1 l2) l3) r3 ea fun H' S' => w4 g3 σ H' (l1.trans (l2.trans l3)) S'
      · exact w1.elim
    · cases e
  | .ext i ee, X, c, h, st, e => by
    simp only [erS] at e
    split at e
    · rename_i y py x pos
      simp only [Bool.and_eq_true] at e
      obtain ⟨⟨e1, e2⟩, e3⟩ := e
      have hi : X.N[i]? = some y := by rw [h.N]; exact eq_of_beq e1
      obtain ⟨l1, l2⟩ := h.loc e2
      refine PS.imp (ps_aug (ti := rExt2) h.nd hi l1 (pe_p (sE ee h _ e3).1) (fun pins s σ H x y v u Q I r1 r2 q => iop_ext pins s σ H x y v u Q I r1 r2 q) l2) fun D σ H ⟨g, s, S0, w⟩ => ?_
      simp only [ex] at w
      split at w
      · rename_i m em
        obtain ⟨a, e1, _⟩ := S0.own i m em
        refine ⟨_, e1, Rd.go S0 w fun g1 q s1 u H1 l1 S1 r1 w1 => ?_⟩
        rw [WP_bind] at w1
        obtain ⟨g2, d, s2, l2, S2, r2, _, w2⟩ := esc_ok S1 r1 w1
        rw [WP_bind] at w2
        obtain ⟨s3, ea, w3⟩ := WP_opt w2
        replace w3 : EPost X.K D g .nx s3 := w3
        refine ext_val S2 e1 r2 ea fun H' S' => ?_
        have : σ.set i (some (.ref a)) = σ := by
          apply List.ext_getElem?
          intro j
          by_cases hj : i = j
          · subst hj
            rw [List.getElem?_set_self (List.getElem?_eq_some_iff.mp e1).1, e1]
          · rw [List.getElem?_set_ne hj]
        rw [this]
        exact w3 g2 σ H' (l1.trans l2) S'
      · exact w.elim
    · cases e
  | .iff t a b, X, c, h, st, e => by
    simp only [erS] at e
    split at e
    · simp only [Bool.and_eq_true] at e
      obtain ⟨⟨⟨e1, e2⟩, e3⟩, e4⟩ := e
      refine PS.imp (ps_if ((sE t h _ e1).2 e2) (sB a h _ e3) (sB b h _ e4)) fun D σ H ⟨g, s, S0, w⟩ => ?_
      simp only [ex, WP_bind] at w
      refine ⟨g, s, S0, ?_⟩
      rw [WP_bind]
      refine WP.mono w fun r s1 w1 => WP.mono w1 fun k s2 w2 g1 v H1 l S1 ev => ?_
      subst ev
      cases v with
      | true =>
        rw [if_pos rfl] at w2 ⊢
        exact ⟨g1, s2, S1, EPost.ups l w2⟩
      | false =>
        rw [if_neg Bool.false_ne_true] at w2 ⊢
        exact ⟨g1, s2, S1, EPost.ups l w2⟩
    · cases e
  | .whl t b, X, c, h, st, e => by
    simp only [erS] at e
    split at e
    · simp only [Bool.and_eq_true] at e
      obtain ⟨⟨e1, e2⟩, e3⟩ := e
      refine PS.imp (ps_while (by rw [h.xe]; exact PassesOwn.never) ((sE t h _ e1).2 e2) (sB b h _ e3)) fun D σ H ⟨g, s, S0, w⟩ => ?_
      simp only [ex] at w
      refine ⟨fun m σ' H' => ∃ g1 s1, Sim X.K g1 σ' H' s1 ∧ (whlL (fun s => (evR cf t s).bind fun p s => isT (toP p) s) (ex cf b) m s1).WP (EPost X.K D g1), ⟨turns, g, s, S0, w⟩, fun m σ' H' ⟨g1, s1, S1, w1⟩ => ?_⟩
      cases m with
      | zero => exact w1.elim
      | succ n =>
        simp only [whlL] at w1
        refine Rd.go S1 w1 fun g2 k s2 v H2 l2 S2 ev w2 => ?_
        subst ev
        cases v with
        | false =>
          rw [if_neg Bool.false_ne_true] at w2 ⊢
          exact w2 g2 σ' H2 l2 S2
        | true =>
          rw [if_pos rfl] at w2 ⊢
          refine ⟨fun σ3 H3 => ∃ g3 s3, Sim X.K g3 σ3 H3 s3 ∧ (whlL (fun s => (evR cf t s).bind fun p s => isT (toP p) s) (ex cf b) n s3).WP (EPost X.K D g3), fun σ3 H3 q => ⟨n, Nat.lt_succ_self n, q⟩, g2, s2, S2, ?_⟩
          rw [WP_bind] at w2
          refine WP.mono w2 fun f s3 w3 g3 σ3 H3 l3 S3 => ?_
          cases f with
          | nx => exact ⟨g3, s3, S3, EPost.ups (l2.trans l3) w3⟩
          | ct => exact ⟨g3, s3, S3, EPost.ups (l2.trans l3) w3⟩
          | bk => exact w3 g3 σ3 H3 (l2.trans l3) S3
          | rt d => exact w3 g3 σ3 H3 (l2.trans l3) S3
    · cases e
  | .for t it b, X, c, h, st, e => by
    simp only [erS] at e
    split at e
    · simp only [Bool.and_eq_true] at e
      obtain ⟨⟨⟨e1, e2⟩, e3⟩, e4⟩ := e
      refine PS.imp (ps_for (by rw [h.xe]; exact PassesOwn.never) h.calm (sI it h _ _ e2) (sG h t _ e1) (sB b h _ e4) (set_iter e3)) fun D σ H ⟨g, s, S0, w⟩ => ?_
      simp only [ex] at w
      refine Rd.go S0 w fun g1 ds s1 J H1 l1 S1 yl w1 => ?_
      generalize hT : (fun d s => (Out.ofOpt (asgT t d s) s).bind fun s _ => ex cf b s) = T at w1
      refine ⟨fun i m σ' H' => m = ds.length - i ∧ i ≤ ds.length ∧ ∃ g2 s2, g1.le g2 ∧ Sim X.K g2 σ' H' s2 ∧ (forL T (ds.drop i) s2).WP (EPost X.K D g2), ⟨ds.length, by simp, Nat.zero_le _, g1, s1, .refl g1, S1, EPost.ups l1 w1⟩, ?_⟩
      rintro i m σ' H' ⟨rfl, hi, g2, s2, l2, S2, w2⟩
      obtain ⟨y1, y2⟩ := yl g2 σ' H' s2 l2.ge0 S2 i
      cases ed : ds[i]? with
      | none =>
        have hlen : ds.length ≤ i := List.getElem?_eq_none_iff.mp ed
        rw [List.drop_eq_nil_of_le hlen] at w2
        replace w2 : EPost X.K D g2 .nx s2 := w2
        exact .inl ⟨y2 ed, w2 g2 σ' H' (.refl g2) S2⟩
      | some d =>
        have hlt : i < ds.length := (List.getElem?_eq_some_iff.mp ed).1
        obtain ⟨go, yy⟩ := y1 d ed
        refine .inr ⟨go, fun σ3 H3 => ∃ g3 s3, g1.le g3 ∧ Sim X.K g3 σ3 H3 s3 ∧ (forL T (ds.drop (i + 1)) s3).WP (EPost X.K D g3), fun σ3 H3 q => ⟨ds.length - (i + 1), by omega, rfl, hlt, q⟩, fun x H3 hy => ?_⟩
        obtain ⟨g3, l3, S3, r3⟩ := yy x H3 hy
        rw [List.drop_eq_getElem_cons hlt] at w2
        have ed' : ds[i] = d := (List.getElem?_eq_some_iff.mp ed).2
        rw [ed'] at w2
        simp only [forL] at w2
        rw [WP_bind, ← hT] at w2
        rw [WP_bind] at w2
        obtain ⟨s4, ea, w4⟩ := WP_opt w2
        rw [hT] at w4
        refine ⟨g3, s2, d, s4, S3, r3, ea, fun σ4 S4 _ => ⟨g3, s4, S4, WP.mono w4 fun f s5 w5 g5 σ5 H5 l5 S5 => ?_⟩⟩
        have l15 : g1.le g5 := l2.trans (l3.trans l5)
        cases f with
        | nx => exact ⟨g5, s5, l15, S5, EPost.ups (l3.trans l5) w5⟩
        | ct => exact ⟨g5, s5, l15, S5, EPost.ups (l3.trans l5) w5⟩
        | bk => exact w5 g5 σ5 H5 (l3.trans l5) S5
        | rt v => exact w5 g5 σ5 H5 (l3.trans l5) S5
    · cases e
  | .ret ee, X, c, h, st, e => by
    simp only [erS] at e
    split at e
    · refine PS.imp (ps_ret (pe_p (sE ee h _ e).1)) fun D σ H ⟨g, s, S0, w⟩ => ?_
      simp only [ex] at w
      refine Rd.go S0 w fun g1 r s1 v H1 l1 S1 r1 w1 => ?_
      rw [WP_bind] at w1
      obtain ⟨g2, d, s2, l2, S2, r2, _, w2⟩ := esc_ok S1 r1 w1
      replace w2 : EPost X.K D g (.rt d) s2 := w2
      exact w2 g2 σ H1 (l1.trans l2) S2 v r2
    · cases e
  | .retN, X, c, h, st, e => by
    simp only [erS] at e
    split at e
    · refine PS.imp ps_retN fun D σ H ⟨g, s, S0, w⟩ => ?_
      simp only [ex] at w
      exact w g σ H (.refl g) S0 .non .non
    · cases e
  | .brk, X, c, h, st, e => by
    simp only [erS] at e
    split at e
    · refine PS.imp ps_break fun D σ H ⟨g, s, S0, w⟩ => ?_
      simp only [ex] at w
      exact w g σ H (.refl g) S0
    · cases e
  | .cont, X, c, h, st, e => by
    simp only [erS] at e
    split at e
    · refine PS.imp ps_continue fun D σ H ⟨g, s, S0, w⟩ => ?_
      simp only [ex] at w
      exact w g σ H (.refl g) S0
    · cases e
  | .exp ee, X, c, h, st, e => by
    simp only [erS] at e
    split at e
    · simp only [Bool.and_eq_true] at e
      refine PS.imp (ps_expr (pe_p (sE ee h _ e.1).1) (sw_none e.2)) fun D σ H ⟨g, s, S0, w⟩ => ?_
      simp only [ex] at w
      refine Rd.go S0 w fun g1 r s1 v H1 l1 S1 r1 w1 => ?_
      replace w1 : EPost X.K D g .nx s1 := w1
      exact w1 g1 σ H1 l1 S1
    · cases e
  | .fst cs o f ee, X, c, h, st, e => by
    simp only [erS] at e
    split at e
    · rename_i ox g apos x pos
      simp only [Bool.and_eq_true] at e
      obtain ⟨⟨⟨e1, e2⟩, e3⟩, e4⟩ := e
      have e1 : g = f := eq_of_beq e1
      subst e1
      refine PS.imp (ps_fld (pe_p (sE o h _ e2).1) (pe_p (sE ee h _ e3).1) sw_att) fun D σ H ⟨g0, s, S0, w⟩ => ?_
      simp only [ex] at w
      refine Rd.go S0 w fun g1 r s1 v H1 l1 S1 r1 w1 => ?_
      rw [WP_bind] at w1
      obtain ⟨g2, d, s2, l2, S2, r2, _, w2⟩ := esc_ok S1 r1 w1
      refine Rd.go S2 w2 fun g3 p s3 u H3 l3 S3 r3 w3 => ?_
      rw [WP_bind] at w3
      obtain ⟨s4, ep, w4⟩ := WP_opt w3
      replace w4 : EPost X.K D g0 .nx s4 := w4
      unfold fstO at ep
      obtain ⟨n, k, fs, eq, ep⟩ := insP_ok ep
      obtain ⟨a, dx, vs, rfl, ea, rf, er, em⟩ := ins_val S3 r3 eq
      split at ep
      · rename_i hk
        rw [Bool.and_eq_true, decide_eq_true_eq] at hk
        cases ep
        obtain ⟨c1, c2⟩ := h.na k g (by simpa using List.all_eq_true.mp e4 k (by simpa using hk.1))
        refine ⟨a, _, dx, vs, rfl, ea, c1, c2, by rw [rf.len]; exact hk.2, w4 g3 σ _ (l1.trans (l2.trans l3)) ?_⟩
        exact S3.chM em er (.inr ⟨k, _, rfl, dx, _, upd_same, rf.put (r2.up l3.ge0)⟩)
      · cases ep
    · cases e
  | .die, X, c, h, st, e => PS.imp (t := fun _ _ _ => False) ⟨fun _ _ _ _ _ _ z => z.elim⟩ fun D σ H ⟨g, s, S0, w⟩ => w
  | .tryN b, X, c, h, st, e => by
    simp only [erS] at e
    split at e
    · refine PS.imp (ps_try_never (by rw [h.xe]; exact fun _ _ z => z) (sB b h _ e) pss_nil) fun D σ H ⟨g, s, S0, w⟩ => ?_
      simp only [ex] at w
      exact ⟨g, s, S0, w⟩
    · cases e
theorem sB {cf : CF} : ∀ (k : C) {X : Cx} {c : EC} (h : XOk X c cf) (sts : List Stmt), erB c k sts = true → PSs X sts (RdS X.K cf k)
  | .skip, X, c, h, sts, e => by
    simp only [erB] at e
    split at e
    · refine PSs.imp pss_nil fun D σ H ⟨g, s, S0, w⟩ => ?_
      simp only [ex] at w
      exact w g σ H (.refl g) S0
    · cases e
  | .seq a b, X, c, h, sts, e => by
    simp only [erB] at e
    split at e
    · cases e
    · rename_i st r
      simp only [Bool.and_eq_true] at e
      refine PSs.imp (pss_cons (sS a h st e.1) (sB b h r e.2)) fun D σ H ⟨g, s, S0, w⟩ => ?_
      simp only [ex, WP_bind] at w
      refine ⟨g, s, S0, WP.mono w fun f s1 w1 g1 σ1 H1 l1 S1 => ?_⟩
      cases f with
      | nx => exact ⟨g1, s1, S1, EPost.ups l1 w1⟩
      | rt d => exact w1 g1 σ1 H1 l1 S1
      | bk => exact w1 g1 σ1 H1 l1 S1
      | ct => exact w1 g1 σ1 H1 l1 S1
  | .asg _ _, X, c, h, sts, e => by simp [erB] at e
  | .own _ _, X, c, h, sts, e => by simp [erB] at e
  | .shr _ _, X, c, h, sts, e => by simp [erB] at e
  | .par _ _ _ _, X, c, h, sts, e => by simp [erB] at e
  | .aug _ _ _, X, c, h, sts, e => by simp [erB] at e
  | .put _ _ _, X, c, h, sts, e => by simp [erB] at e
  | .app _ _, X, c, h, sts, e => by simp [erB] at e
  | .ext _ _, X, c, h, sts, e => by simp [erB] at e
  | .iff _ _ _, X, c, h, sts, e => by simp [erB] at e
  | .whl _ _, X, c, h, sts, e => by simp [erB] at e
  | .for _ _ _, X, c, h, sts, e => by simp [erB] at e
  | .ret _, X, c, h, sts, e => by simp [erB] at e
  | .retN, X, c, h, sts, e => by simp [erB] at e
  | .brk, X, c, h, sts, e => by simp [erB] at e
  | .cont, X, c, h, sts, e => by simp [erB] at e
  | .exp _, X, c, h, sts, e => by simp [erB] at e
  | .fst _ _ _ _, X, c, h, sts, e => by simp [erB] at e
  | .die, X, c, h, sts, e => by simp [erB] at e
  | .tryN _, X, c, h, sts, e => by simp [erB] at e
end
end DL
end

section
set_option maxRecDepth 100000
set_option maxHeartbeats 8000000
/-! DL10: defs, and the law as a whole. -/
namespace DL
open PySem PySem.Spec PyProof.Rows L2
variable [TBs]

def erFn (fs : String → Bool) (gc : Str → D → Bool) (kc : KC) (fd : FD) (st : Stmt) : Bool :=
  (match (defScope st).kind with | .function => true | _ => false) && !(defScope st).isCoroutine && !(defScope st).isGenerator && decide fd.names.Nodup && decide (fd.np ≤ fd.names.length) &&
    ((fd.names.take fd.np).all fun x => match (defScope st).names.lookup x with | some .local => true | some .cell => true | _ => false) && ((defScope st).names.all fun y => match y.2 with | .free => false | _ => true) &&
    erB ⟨fd.names, defScope st, fun _ => true, fs, gc, kc, true⟩ fd.body (defBody st)
theorem erFn_ok {fs : String → Bool} {gc : Str → D → Bool} {kc : KC} {fd : FD} {st : Stmt} (h : erFn fs gc kc fd st = true) : FnScope fd.names (fd.names.take fd.np) (defScope st) ∧ (fd.names.take fd.np).length = fd.np ∧ erB ⟨fd.names, defScope st, fun _ => true, fs, gc, kc, true⟩ fd.body (defBody st) = true := by
  unfold erFn at h
  simp only [Bool.and_eq_true, decide_eq_true_eq, List.all_eq_true, Bool.not_eq_true'] at h
  obtain ⟨⟨⟨⟨⟨⟨⟨h1, h2⟩, h3⟩, h4⟩, h5⟩, h6⟩, h7⟩, h8⟩ := h
  have hl : (fd.names.take fd.np).length = fd.np := by rw [List.length_take]; omega
  refine ⟨⟨?_, h2, h3, h4, by rw [hl], fun x hx => ?_, fun y hy z => ?_⟩, hl, h8⟩
  · split at h1
    · assumption
    · cases h1
  · have := h6 x hx
    split at this
    · exact .inl (by assumption)
    · exact .inr (by assumption)
    · cases this
  · have := h7 y hy
    rw [z] at this
    cases this
theorem Sim.forget {K : PySem.W.Frag} {g : G} {σ : L2.St} {H : Hp} {s : S} (x : Sim K g σ H s) : Sim K g [] H ⟨[], s.mem⟩ :=
  ⟨x.fz, rfl, fun i d e => by simp at e, fun i m e => by simp at e, fun i j a ⟨⟨m, e⟩, _⟩ => by simp at e, x.mlen, x.nd, x.mem, x.pvo, x.tbs⟩
theorem Sim.start {K : PySem.W.Frag} {g : G} {H : Hp} {mem : List MO} {vs : List V} {ds : List D} {N : List Str} (x : Sim K g [] H ⟨[], mem⟩) (r : RpAll K g.F g.ρ vs ds) : Sim K g (start N vs) H ⟨ds.map Sl.val ++ List.replicate (N.length - ds.length) .non, mem⟩ := by
  have key : ∀ (i : Nat) (e : Sl), (ds.map Sl.val ++ List.replicate (N.length - ds.length) .non)[i]? = some e → e ≠ .non → ∃ d, ds[i]? = some d ∧ e = .val d := fun i e q hn => by
    by_cases hi : i < ds.length
    · rw [List.getElem?_append_left (by simpa using hi), List.getElem?_map] at q
      cases ed : ds[i]? with
      | none => rw [ed] at q; cases q
      | some d => rw [ed] at q; cases q; exact ⟨d, rfl, rfl⟩
    · rw [List.getElem?_append_right (by simpa using hi), List.getElem?_replicate] at q
      split at q
      · cases q; exact absurd rfl hn
      · cases q
  refine ⟨x.fz, ?_, fun i d e => ?_, fun i m e => ?_, fun i j a ⟨⟨m, e⟩, _⟩ => ?_, x.mlen, x.nd, x.mem, x.pvo, x.tbs⟩
  · show (ds.map Sl.val ++ List.replicate (N.length - ds.length) Sl.non).length = (L2.start N vs).length
    unfold L2.start
    simp [r.length]
  · obtain ⟨d', ed, z⟩ := key i _ e (fun z => by cases z)
    cases z
    obtain ⟨v, ev, rv⟩ := r.get ed
    refine ⟨v, ?_, rv⟩
    unfold L2.start
    rw [List.getElem?_append_left (by simpa using (List.getElem?_eq_some_iff.mp ev).1), List.getElem?_map, ev]; rfl
  · obtain ⟨d', ed, z⟩ := key i _ e (fun z => by cases z)
    cases z
  · obtain ⟨d', ed, z⟩ := key i _ e (fun z => by cases z)
    cases z
/-- what is known of a def of the text -/
structure Inf (cs : List (Addr × Addr)) (K : PySem.W.Frag) (mg : Str → Option Value) (fs : String → Bool) (gc : Str → D → Bool) (kc : KC) (f : String) (fd : FD) : Prop where
  ex : ∃ (fa : Addr) (fdd : FuncData) (st : Stmt) (x qual : Str), Fun K x qual st fa fdd ∧ (∃ p ∈ cs, fdd.code = .ref p.1) ∧ (fs f = true → mg (Str.ofString f) = some (.ref fa)) ∧ Binds K fdd (fd.names.take fd.np) [] ∧ erFn fs gc kc fd st = true ∧
    (∀ k m, kc.ms k m f = true → Cls K (TBs.ca k) ∧ Meth K (TBs.ca k) m fa) ∧ ∀ k, kc.mi k f = true → mg (Str.ofString k) = some (.ref (TBs.ca k)) ∧ Mk K (TBs.ca k) fa
/-- the checks' names are those of the text's defs -/
structure Tks (K : PySem.W.Frag) (T : String → Option FD) (fs : String → Bool) (kc : KC) : Prop where
  fs : ∀ f, fs f = true → (T f).isSome = true
  ms : ∀ k m f, kc.ms k m f = true → (T f).isSome = true
  mi : ∀ k f, kc.mi k f = true → (T f).isSome = true
  na : ∀ k f, kc.na k f = true → Cls K (TBs.ca k) ∧ NoAttr K (TBs.ca k) f
/-- a def by its body, its code object known -/
theorem fun_okC {P : Program} {w : World} {K : PySem.W.Frag} {mg : Str → Option Value} {base : Heap} {x qual : Str} {st : Stmt} {f cc : Addr} {fd : FuncData} {N ps : List Str} {k : Nat} {sp : Sp} (F : Fun K x qual st f fd) (hc : fd.code = .ref cc) (S : FnScope N ps (defScope st)) (len : ∀ vs H Q E, sp vs H Q E → vs.length = ps.length)
    (hbody : ∀ (A : Around) (outer : List Env) (s : Shared) (H : Hp) (vs : List V) (Q : VK) (E : XK), Room k (A.deeper (envOfC qual (defScope st) s.heap.objs.size f (.ref cc))) → sp vs H Q E →
      ∃ t, PSs (cxOf CX0 P w K mg base N qual (defScope st) f (.ref cc) A outer s H E).nox (defBody st) t ∧ t { nx := fun _ H' => Q .non H', rt := Q } (start N vs) H) : FnOk P w K mg base CX0 (k + 1) f fd ps sp := by
  obtain ⟨oc, od, kV, doc, pm, an, cdv, ct, osl, rfl, lk, hcd⟩ := F.ex
  have hc : cdv = .ref cc := hc
  subst hc
  refine fn_of lk hcd S len fun A outer s H vs Q E hr hsp => ?_
  obtain ⟨t, h, q⟩ := hbody A outer s H vs Q E hr hsp
  exact ⟨t, h.nox, q⟩
structure Bns (mg : Str → Option Value) : Prop where
  bn : ∀ b, mg (bname b) = none
  range : mg "range" = none
  enum : mg "enumerate" = none
  zip : mg "zip" = none
  rev : mg "reversed" = none
  ty : mg "isinstance" = none ∧ mg "bool" = none ∧ mg "str" = none ∧ mg "tuple" = none
section
variable {P : Program} {w : World} {K : PySem.W.Frag} {mg : Str → Option Value} {base : Heap} {T : String → Option FD} {gc : Str → D → Bool} {kc : KC} {isf : String → Bool}
theorem run_len {n : Nat} {f : String} {fd : FD} (e : T f = some fd) {ds : List D} {m : List MO} {Q : D → List MO → Prop} (h : (run T n f ds m).WP Q) : ds.length = fd.np := by
  cases n with
  | zero => exact h.elim
  | succ n =>
    simp only [run, e] at h
    split at h
    · assumption
    · exact h.elim
theorem fn_all {cs : List (Addr × Addr)} (hw : w = TBs.w) (hcs : ∀ p ∈ cs, p.2 ∈ TBs.tb) (hTab : ∀ p ∈ cs, GxR.TabB base mg p.1 p.2) (hK : Tks K T isf kc) (hT : ∀ f fd, T f = some fd → Inf cs K mg isf gc kc f fd) (hB : Bns mg) (hG : ∀ x d, gc x d = true → GcOk K w mg x d) : ∀ (n : Nat) (f : String) (fd : FD) (fa : Addr) (fdd : FuncData) (st : Stmt) (x qual : Str), T f = some fd → Fun K x qual st fa fdd → (∃ p ∈ cs, fdd.code = .ref p.1) →
    erFn isf gc kc fd st = true → FnOk P w K mg base CX0 (2 * n + 2) fa fdd (fd.names.take fd.np) (spRun K (run T n) f (fd.names.take fd.np).length)
  | 0, f, fd, fa, fdd, st, x, qual, e, F, hcd, er => ⟨fun vs H Q E h => h.1, fun A outer s H args us vs Q E hr e0 hb r h => by
      obtain ⟨_, g, mem, ds, _, _, _, w⟩ := h
      exact w.elim⟩
  | n + 1, f, fd, fa, fdd, st, x, qual, e, F, ⟨pc, hpc, hcd⟩, er => by
    obtain ⟨sc, hl, eb⟩ := erFn_ok er
    refine fun_okC F hcd sc (fun vs H Q E h => h.1) fun A outer s H vs Q E hr h => ?_
    refine ⟨RdS K (run T n) fd.body, sB (c := ⟨fd.names, defScope st, fun _ => true, isf, gc, kc, true⟩) fd.body (X := (cxOf CX0 P w K mg base fd.names qual (defScope st) fa (.ref pc.1) A outer s H E).nox) ⟨rfl, rfl, rfl, rfl, sc.nd, rfl, hw, hr.mono (by omega), hB.bn, hB.range, hB.enum, hB.zip, hB.rev, hG, hB.ty, fun f' ef => ?_, fun k m f' ef => ?_, hK.na, fun k f' ef => ?_, fun _ => ⟨hr.mono (by omega), pc.1, pc.2, rfl, hTab pc hpc, hcs pc hpc⟩⟩ (defBody st) eb, ?_⟩
    · obtain ⟨fd', e2⟩ := Option.isSome_iff_exists.mp (hK.fs f' ef)
      obtain ⟨fa', fdd', st', x', qual', F', hcd', hm, hb, er', _⟩ := (hT f' fd' e2).ex
      obtain ⟨sc', hl', _⟩ := erFn_ok er'
      exact ⟨2 * n + 2, fa', fdd', _, fn_all hw hcs hTab hK hT hB hG n f' fd' fa' fdd' st' x' qual' e2 F' hcd' er', hr.mono (by show 2 * n + 2 + 1 ≤ _; omega), hm ef, F'.kp, hb, fun ds m Q hw => by rw [hl']; exact run_len e2 hw⟩
    · obtain ⟨fd', e2⟩ := Option.isSome_iff_exists.mp (hK.ms k m f' ef)
      obtain ⟨fa', fdd', st', x', qual', F', hcd', _, hb, er', hme, _⟩ := (hT f' fd' e2).ex
      obtain ⟨sc', hl', _⟩ := erFn_ok er'
      exact ⟨2 * n + 2, fa', fdd', _, fn_all hw hcs hTab hK hT hB hG n f' fd' fa' fdd' st' x' qual' e2 F' hcd' er', hr.mono (by show 2 * n + 2 + 1 ≤ _; omega), (hme k m ef).1, (hme k m ef).2, hb, fun ds m Q hw => by rw [hl']; exact run_len e2 hw⟩
    · obtain ⟨fd', e2⟩ := Option.isSome_iff_exists.mp (hK.mi k f' ef)
      obtain ⟨fa', fdd', st', x', qual', F', hcd', _, hb, er', _, hmk⟩ := (hT f' fd' e2).ex
      obtain ⟨sc', hl', _⟩ := erFn_ok er'
      exact ⟨2 * n + 2, fa', fdd', _, fn_all hw hcs hTab hK hT hB hG n f' fd' fa' fdd' st' x' qual' e2 F' hcd' er', hr.mono (by show 2 * n + 2 + 1 ≤ _; omega), (hmk k ef).1, (hmk k ef).2, hb, fun ds m Q hw => by rw [hl']; exact run_len e2 hw⟩
    · obtain ⟨hv, g, mem, ds, rd, S0, _, w⟩ := h
      have hn := run_len e w
      refine ⟨g, _, S0.start (N := fd.names) rd, ?_⟩
      simp only [run, e, hn, if_true] at w
      rw [hn]
      cases q : ex (run T n) fd.body ⟨ds.map Sl.val ++ List.replicate (fd.names.length - fd.np) .non, mem⟩ with
      | bad => rw [q] at w; exact w.elim
      | exc x t => rw [q] at w; exact w.elim
      | ok f s' =>
        rw [q] at w
        intro g' σ' H' l S'
        cases f with
        | nx => exact w g' .non H' l S'.forget .non
        | rt d => exact fun v r => w g' v H' l S'.forget r
        | bk => exact w.elim
        | ct => exact w.elim
/-- what the law's def promises -/
def spLaw (K : PySem.W.Frag) (cs : List (Addr × Addr)) : Sp := fun vs H Q _ => ∃ (a : Addr) (ns : List Int), vs = [.ref a] ∧ SqL K H a (ns.map V.int) ∧ ns.length ≤ 63 ∧ (∀ p ∈ cs, H p.2 = some (.tbl #[])) ∧ ∀ H', Q (.bl true) H'
theorem law_fn {cs : List (Addr × Addr)} (hw : w = TBs.w) (hcs : ∀ P, P ∈ TBs.tb ↔ ∃ p ∈ cs, p.2 = P) (hTab : ∀ p ∈ cs, GxR.TabB base mg p.1 p.2) (hK : Tks K T isf kc) (hT : ∀ f fd, T f = some fd → Inf cs K mg isf gc kc f fd) (hB : Bns mg) (hG : ∀ x d, gc x d = true → GcOk K w mg x d) {n : Nat} {fd : FD} {fa : Addr} {fdd : FuncData} {st : Stmt} {x qual : Str} (e : T "law" = some fd) (F : Fun K x qual st fa fdd) (hcd : ∃ p ∈ cs, fdd.code = .ref p.1)
    (er : erFn isf gc kc fd st = true) (hp : fd.names.take fd.np = [("_law_script" : Str)]) (hrun : ∀ ns : List Int, ns.length ≤ 63 → (run T n "law" [.scr ns] []).WP fun d _ => d = .bl true) :
    FnOk P w K mg base CX0 (2 * n + 2) fa fdd ["_law_script"] (spLaw K cs) := by
  have h := fn_all (P := P) (w := w) (base := base) hw (fun p hp => (hcs p.2).mpr ⟨p, hp, rfl⟩) hTab hK hT hB hG n "law" fd fa fdd st x qual e F hcd er
  rw [hp] at h
  refine h.imp fun vs H Q E ⟨a, ns, ev, hS, hl, htb, hQ⟩ => ?_
  subst ev
  have htb : ∀ P ∈ TBs.tb, H P = some (.tbl #[]) := fun P hP => by
    obtain ⟨p, hp, rfl⟩ := (hcs P).mp hP
    exact htb p hp
  refine ⟨rfl, ⟨fun b => if b = a ∧ b ∉ TBs.tb then H b else none, [], fun b => if b ∈ TBs.tb then none else H b⟩, [], [.scr ns], .cons (.scr ?_) .nil, ⟨fun b o q => ?_, rfl, fun i d q => by simp at q, fun i m q => by simp at q, fun i j b ⟨⟨m, q⟩, _⟩ => by simp at q, rfl, List.nodup_nil, fun n b m q => by simp at q, fun b o q => ⟨?_, by simp⟩, fun P hP => ⟨if_neg fun z => z.2 hP, if_pos hP, #[], htb P hP, ?_⟩⟩, fun b o q _ hn => ?_, ?_⟩
  · rcases hS with (hS | ⟨o, hS⟩) | hS
    · have hn : a ∉ TBs.tb := fun z => by rw [htb a z] at hS; cases hS
      exact .inl (.inl (by show (if a = a ∧ a ∉ TBs.tb then H a else none) = _; rw [if_pos ⟨rfl, hn⟩]; exact hS))
    · have hn : a ∉ TBs.tb := fun z => by rw [htb a z] at hS; cases hS
      exact .inl (.inr ⟨o, by show (if a = a ∧ a ∉ TBs.tb then H a else none) = _; rw [if_pos ⟨rfl, hn⟩]; exact hS⟩)
    · exact .inr hS
  · have q : (if b = a ∧ b ∉ TBs.tb then H b else none) = some o := q
    split at q
    · exact q
    · cases q
  · have q : (if b ∈ TBs.tb then none else H b) = some o := q
    split at q
    · cases q
    · exact q
  · exact trivial
  · show (if b ∈ TBs.tb then none else H b) = some o
    rw [if_neg hn]; exact q
  · refine WP.mono (hrun ns hl) fun d mem' ed g' v H' l S' r => ?_
    subst ed
    cases r
    exact hQ H'
end
end DL
end

section
set_option maxRecDepth 100000
set_option maxHeartbeats 8000000
/-! DL11: the end of a law: all defs' facts at once, by names. -/
namespace DL
open PySem PySem.Spec PyProof.Rows L2
structure Ent where
  f : String
  fd : FD
  st : Stmt
  at_ : Str × Option Str := (Str.ofString f, none)
  name : Str := Str.ofString f
  qual : Str := Str.ofString f
/-- a class: what it has not, its methods' defs, the def that makes it -/
structure KL where
  c : String
  na : List Str
  ms : List (Str × String)
  mi : Option String
def kcL (KS : List KL) : KC where
  ms := fun k m f => KS.any fun q => q.c == k && q.ms.contains (m, f)
  na := fun k f => KS.any fun q => q.c == k && q.na.contains f
  mi := fun k f => KS.any fun q => q.c == k && q.mi == some f
def Ent.plain (e : Ent) : Bool := decide (e.at_ = (Str.ofString e.f, none))
def isFL (L : List Ent) : String → Bool := fun f => match L.find? fun e => e.f == f with
  | some e => e.plain
  | none => false
def Ent.dd (e : Ent) : He.DefD := { at_ := e.at_, name := e.name, qual := e.qual, params := defArgs e.st, body := defBody e.st, scope := defScope e.st }
def Ent.ps (e : Ent) : List Str := e.fd.names.take e.fd.np
def Ent.Bds (e : Ent) : Prop := ∀ (kV doc pm : Value) (an : Option Addr) (cdv ct : Value) (us : List Value), us.length = e.ps.length → bindArgs (PySem.W.fnOf e.name e.qual (defArgs e.st) (defBody e.st) (defScope e.st) .none kV doc pm an cdv ct) ⟨us, []⟩ = pure (e.ps.zip us)
def TL (L : List Ent) : String → Option FD := fun f => (L.find? fun e => e.f == f).map (·.fd)
def bltN : List Str := ["len", "max", "min", "int", "all", "any", "list", "tuple", "abs", "sum", "range", "enumerate", "zip", "reversed", "isinstance", "bool", "str", "sorted"]
def KL.fa (q : KL) : List He.Fa := .glo (Str.ofString q.c) :: .cls (Str.ofString q.c) :: ((q.na.map fun f => .noat (Str.ofString q.c) f) ++ ((q.ms.map fun p => .meth (Str.ofString q.c) p.1) ++ if q.mi.isSome then [.mkr (Str.ofString q.c)] else []))
def faL (L : List Ent) (cI : List (Str × Int)) (cD : List (Str × List (Str × He.Dv))) (KS : List KL) : List He.Fa := ((((L.filter Ent.plain).map fun e => .glo (Str.ofString e.f)) ++ bltN.map .free) ++ cI.map fun p => .int p.1 p.2) ++ ((cD.map fun p => .glo p.1) ++ KS.flatMap KL.fa)
/-- a method's def stands where the text has it -/
def stands (L : List Ent) (K : PySem.W.Frag) (c : String) (m : Str) (f : String) : Bool := match L.find? fun e => e.f == f with
  | some e => decide (He.ma K (He.ga K (Str.ofString c)) m = He.fAd K e.at_)
  | none => false
/-- the tables of the module -/
def tsL (cD : List (Str × List (Str × He.Dv))) : List He.Tab := cD.map fun p => ((fun K => He.ga K p.1), p.2.map (·.1))
def exL (L : List Ent) (cD : List (Str × List (Str × He.Dv))) (KS : List KL) : PySem.W.Frag → Bool := fun K => (cD.all fun p => He.valsB K (He.ga K p.1) p.2) && KS.all fun q => (q.ms.all fun p => stands L K q.c p.1 p.2) && match q.mi with
  | some f => stands L K q.c "__init__" f
  | none => true
def beqKv : List (D × D) → List (Str × He.Dv) → Bool
  | [], [] => true
  | (.str y, .int i) :: r, (z, .int j) :: q => y == z && (i == j && beqKv r q)
  | (.str y, .str i) :: r, (z, .str j) :: q => y == z && (i == j && beqKv r q)
  | _, _ => false
theorem beqKv_ok [TBs] : ∀ {kvs : List (D × D)} {l : List (Str × He.Dv)}, beqKv kvs l = true → (∀ z d, lkS kvs z = some d → ∃ q ∈ l, q.1 = z ∧ ∀ K F ρ, Rp K F ρ (q.2.v K) d) ∧ (∀ z, lkS kvs z = none → z ∉ l.map (·.1))
  | [], [], _ => ⟨fun z d h => (nomatch (show (none : Option D) = some d from h)), fun z _ h => (nomatch h)⟩
  | (.str y, .int i) :: r, (z, .int j) :: q, h => by
    simp only [beqKv, Bool.and_eq_true] at h
    obtain ⟨h1, h2⟩ := beqKv_ok h.2.2
    have e1 : y = z := eq_of_beq h.1
    have e2 : i = j := eq_of_beq h.2.1
    subst e1 e2
    refine ⟨fun x d hd => ?_, fun x hx hm => ?_⟩
    · unfold lkS at hd
      split at hd
      · rename_i e
        cases hd
        exact ⟨_, List.mem_cons_self, e, fun _ _ _ => .int _⟩
      · obtain ⟨p, hp, hq⟩ := h1 x d hd
        exact ⟨p, List.mem_cons_of_mem _ hp, hq⟩
    · unfold lkS at hx
      split at hx
      · cases hx
      · rename_i e
        rcases List.mem_cons.mp hm with hm | hm
        · exact e hm.symm
        · exact h2 x hx hm
  | (.str y, .str i) :: r, (z, .str j) :: q, h => by
    simp only [beqKv, Bool.and_eq_true] at h
    obtain ⟨h1, h2⟩ := beqKv_ok h.2.2
    have e1 : y = z := eq_of_beq h.1
    have e2 : i = j := eq_of_beq h.2.1
    subst e1 e2
    refine ⟨fun x d hd => ?_, fun x hx hm => ?_⟩
    · unfold lkS at hd
      split at hd
      · rename_i e
        cases hd
        exact ⟨_, List.mem_cons_self, e, fun _ _ _ => .str _⟩
      · obtain ⟨p, hp, hq⟩ := h1 x d hd
        exact ⟨p, List.mem_cons_of_mem _ hp, hq⟩
    · unfold lkS at hx
      split at hx
      · cases hx
      · rename_i e
        rcases List.mem_cons.mp hm with hm | hm
        · exact e hm.symm
        · exact h2 x hx hm
/-- a key that the table has not -/
theorem dic_none {K : PySem.W.Frag} {w : World} {a : Addr} {ks : List Str} (h : He.dicW K a = some (He.keysIn w.params ks)) {z : Str} (hz : z ∉ ks) : PySem.W.nsIn K a z = some none := by
  obtain ⟨es, n, KD⟩ := He.dicW_ok h
  have e1 : He.dicW K a = some (es.toList.map He.keyOf) := by
    unfold He.dicW
    rw [KD.at_]
    simp [KD.low]
  rw [e1] at h
  have h := Option.some.inj h
  have key : ∀ (l : List DictEntry) (ks : List Str), l.map He.keyOf = He.keysIn w.params ks → z ∉ ks → (l.find? (·.key.isStr z) = none) ∧ l.any (·.refKey) = false := by
    intro l
    induction l with
    | nil => intro ks _ _; exact ⟨rfl, rfl⟩
    | cons e l ih =>
      intro ks he hk
      cases ks with
      | nil => cases he
      | cons k ks =>
        have he : He.keyOf e :: l.map He.keyOf = some (k, PyData.keyHash w.params k) :: He.keysIn w.params ks := he
        injection he with h1 h2
        obtain ⟨i1, i2⟩ := ih ks h2 fun z' => hk (List.mem_cons_of_mem _ z')
        unfold He.keyOf at h1
        split at h1
        · rename_i x t q
          have h3 : x = k := congrArg Prod.fst (Option.some.inj h1)
          have hne : x ≠ z := fun z' => hk (by rw [← z', h3]; exact List.mem_cons_self)
          have h4 : e.key.isStr z = false := by
            rw [q]
            cases q2 : (Value.str x t).isStr z with
            | false => rfl
            | true => exact absurd (by simpa [Value.isStr, Value.isStrOf] using q2) hne
          have h5 : e.refKey = false := by unfold DictEntry.refKey; rw [q]
          exact ⟨by rw [List.find?_cons, h4]; exact i1, by rw [List.any_cons, h5, i2]; rfl⟩
        · cases h1
  obtain ⟨k1, k2⟩ := key es.toList ks h hz
  unfold PySem.W.nsIn
  rw [KD.at_]
  simp only [k1, k2, Bool.false_eq_true, if_false]
/-- the module's whole numbers, its tables -/
def gcI (cI : List (Str × Int)) (cD : List (Str × List (Str × He.Dv))) : Str → D → Bool := fun x d => match d with
  | .int i => cI.contains (x, i)
  | .dct kvs => match cD.find? fun p => p.1 == x with
    | some p => beqKv kvs p.2
    | none => false
  | _ => false
def tfL (L : List Ent) : List He.Defn := L.map (·.at_)
def fnL (L : List Ent) : List He.DefD := L.map Ent.dd
abbrev noX : PySem.W.Frag → Bool := fun _ => true
theorem TL_some {L : List Ent} {f : String} {fd : FD} (h : TL L f = some fd) : ∃ e ∈ L, e.f = f ∧ e.fd = fd := by
  unfold TL at h
  cases q : L.find? fun e => e.f == f with
  | none => rw [q] at h; cases h
  | some e =>
    rw [q] at h
    cases h
    exact ⟨e, List.mem_of_find?_eq_some q, eq_of_beq (List.find?_some (p := fun e : Ent => e.f == f) q), rfl⟩
section
variable {K : PySem.W.Frag} {h : Heap} {mg : Str → Option Value} {w : World} {L : List Ent} {cI : List (Str × Int)} {cD : List (Str × List (Str × He.Dv))} {KS : List KL}
theorem stands_ok {e : Ent} {c : String} {m : Str} {f : String} (hs : stands L K c m f = true) (hf : (L.find? fun e => e.f == f) = some e) : He.ma K (He.ga K (Str.ofString c)) m = He.fAd K e.at_ := by
  unfold stands at hs
  rw [hf] at hs
  exact of_decide_eq_true hs
theorem stands_some {c : String} {m : Str} {f : String} (hs : stands L K c m f = true) : (TL L f).isSome = true := by
  unfold stands at hs
  unfold TL
  cases q : L.find? fun e => e.f == f with
  | none => rw [q] at hs; cases hs
  | some e => rfl
theorem funOf {e : Ent} {fd : FuncData} (F : FunD K e.dd.name e.dd.qual e.dd.params e.dd.body e.dd.scope (e.dd.dvs K) (e.dd.kws K) (He.fAd K e.dd.at_) fd) : Fun K e.name e.qual e.st (He.fAd K e.at_) fd ∧ ∃ p, fd.code = .ref p ∧ p = (He.cT K e.at_).1 := by
  obtain ⟨⟨oc, od, dV, kV, doc, pm, an, cdv, ct, osl, rfl, lk, hcd, hD, hK⟩, kp⟩ := F
  rcases hD with ⟨_, rfl⟩ | ⟨q, _⟩
  · obtain ⟨c, rfl⟩ := He.codeIn_ref hcd
    exact ⟨fun_mk (st := e.st) lk hcd kp, c, rfl, (He.codeOf_eq lk rfl).symm⟩
  · exact absurd rfl q
theorem bindsOf {e : Ent} {fd : FuncData} (F : FunD K e.dd.name e.dd.qual e.dd.params e.dd.body e.dd.scope (e.dd.dvs K) (e.dd.kws K) (He.fAd K e.dd.at_) fd) (hB : e.Bds) : Binds K fd e.ps [] ∧ ∀ (s : Shared) (us : List Value), us.length = e.ps.length → BindsTo s fd ⟨us, []⟩ (e.ps.zip us) :=
  ⟨FunD.bindsN F hB, fun s us hl => FunD.bindsA F hB s us hl⟩
theorem law_at {l : PySem.W.OpenLaw} {fa : Addr} {n : Nat} {el : Ent} (KX : K.In h) (G : h.Ns mainGlobals mg) (hmg : mg "law" = some (.ref fa)) (c : He.SaysX (faL L cI cD KS) (fnL L) (tsL cD) (tfL L) (exL L cD KS) w h K)
    (hE : ∀ e ∈ L, erFn (isFL L) (gcI cI cD) (kcL KS) e.fd e.st = true) (hBd : ∀ e ∈ L, e.Bds) (hl : el ∈ L) (hlp : el.plain = true) (hlf : el.f = "law") (hlT : TL L "law" = some el.fd) (hp : el.ps = [("_law_script" : Str)])
    (hrun : ∀ ns : List Int, ns.length ≤ 63 → (run (TL L) n "law" [.scr ns] []).WP fun d _ => d = .bl true) : LamX.LawAtS l w K CX0 (2 * n + 2) 63 "_law_script" mg fa h := by
  have cd := c.t.d
  have fac : ∀ f ∈ faL L cI cD KS, f.ok K = true := fun f hf => cd.facts hf
  have fre : ∀ x ∈ bltN, mg x = none := fun x hx => He.free_ok KX G (fac (.free x) (List.mem_append_left _ (List.mem_append_left _ (List.mem_append_right _ (List.mem_map.mpr ⟨x, hx, rfl⟩)))))
  have glo : ∀ e ∈ L, e.plain = true → mg (Str.ofString e.f) = some (.ref (He.fAd K e.at_)) := fun e he hp => by
    rw [show e.at_ = (Str.ofString e.f, none) from of_decide_eq_true hp]
    exact He.glo_ok KX G (fac (.glo (Str.ofString e.f)) (List.mem_append_left _ (List.mem_append_left _ (List.mem_append_left _ (List.mem_map.mpr ⟨e, List.mem_filter.mpr ⟨he, hp⟩, rfl⟩)))))
  have kf : ∀ q ∈ KS, ∀ f ∈ q.fa, f.ok K = true := fun q hq f hf => fac f (List.mem_append_right _ (List.mem_append_right _ (List.mem_flatMap.mpr ⟨q, hq, hf⟩)))
  have hmore : (∀ p ∈ cD, He.valsB K (He.ga K p.1) p.2 = true) ∧ ∀ q ∈ KS, (∀ p ∈ q.ms, stands L K q.c p.1 p.2 = true) ∧ ∀ f, q.mi = some f → stands L K q.c "__init__" f = true := by
    have h0 := c.more
    unfold exL at h0
    rw [Bool.and_eq_true, List.all_eq_true, List.all_eq_true] at h0
    refine ⟨h0.1, fun q hq => ?_⟩
    have h1 := h0.2 q hq
    rw [Bool.and_eq_true, List.all_eq_true] at h1
    refine ⟨h1.1, fun f ef => ?_⟩
    have h2 := h1.2
    rw [ef] at h2
    exact h2
  have dfs : ∀ e ∈ L, ∃ fd, FunD K e.dd.name e.dd.qual e.dd.params e.dd.body e.dd.scope (e.dd.dvs K) (e.dd.kws K) (He.fAd K e.dd.at_) fd := fun e he => cd.defs (List.mem_map.mpr ⟨e, he, rfl⟩)
  have htf : ∀ e ∈ L, e.at_ ∈ tfL L := fun e he => List.mem_map.mpr ⟨e, he, rfl⟩
  let cs : List (Addr × Addr) := (tfL L).map (He.cT K)
  have csm : ∀ p ∈ cs, ∃ q ∈ tfL L, He.cT K q = p := fun p hp => List.mem_map.mp hp
  letI I : TBs := ⟨cs.map (·.2), w, fun c => He.ga K (Str.ofString c)⟩
  have kcls : ∀ q ∈ KS, Cls K (He.ga K (Str.ofString q.c)) := fun q hq => He.cls_ok (kf q hq (.cls (Str.ofString q.c)) (List.mem_cons_of_mem _ List.mem_cons_self))
  have kms : ∀ k m f, (kcL KS).ms k m f = true → ∃ q ∈ KS, q.c = k ∧ (m, f) ∈ q.ms := fun k m f e => by
    obtain ⟨q, hq, e⟩ := List.any_eq_true.mp e
    rw [Bool.and_eq_true] at e
    exact ⟨q, hq, eq_of_beq e.1, List.contains_iff_mem.mp e.2⟩
  have kmi : ∀ k f, (kcL KS).mi k f = true → ∃ q ∈ KS, q.c = k ∧ q.mi = some f := fun k f e => by
    obtain ⟨q, hq, e⟩ := List.any_eq_true.mp e
    rw [Bool.and_eq_true] at e
    exact ⟨q, hq, eq_of_beq e.1, eq_of_beq e.2⟩
  have tks : Tks K (TL L) (isFL L) (kcL KS) := by
    refine ⟨fun f e => ?_, fun k m f e => ?_, fun k f e => ?_, fun k f e => ?_⟩
    · unfold isFL at e
      unfold TL
      cases q : L.find? fun e => e.f == f with
      | none => rw [q] at e; cases e
      | some e => rfl
    · obtain ⟨q, hq, rfl, hm⟩ := kms k m f e
      exact stands_some ((hmore.2 q hq).1 _ hm)
    · obtain ⟨q, hq, rfl, hm⟩ := kmi k f e
      exact stands_some ((hmore.2 q hq).2 _ hm)
    · obtain ⟨q, hq, e⟩ := List.any_eq_true.mp e
      rw [Bool.and_eq_true] at e
      have ek : q.c = k := eq_of_beq e.1
      subst ek
      exact ⟨kcls q hq, He.noat_ok (kf q hq (.noat (Str.ofString q.c) f) (List.mem_cons_of_mem _ (List.mem_cons_of_mem _ (List.mem_append_left _ (List.mem_map.mpr ⟨f, List.contains_iff_mem.mp e.2, rfl⟩)))))⟩
  have inf : ∀ f fd, TL L f = some fd → Inf cs K mg (isFL L) (gcI cI cD) (kcL KS) f fd := fun f fd eT => by
    have eF : ∃ e ∈ L, (L.find? fun e => e.f == f) = some e ∧ e.f = f ∧ e.fd = fd := by
      unfold TL at eT
      cases q : L.find? fun e => e.f == f with
      | none => rw [q] at eT; cases eT
      | some e =>
        rw [q] at eT
        cases eT
        exact ⟨e, List.mem_of_find?_eq_some q, rfl, eq_of_beq (List.find?_some (p := fun e : Ent => e.f == f) q), rfl⟩
    obtain ⟨e, he, ef, rfl, rfl⟩ := eF
    obtain ⟨fdd, F⟩ := dfs e he
    obtain ⟨F1, p, hp, hpe⟩ := funOf F
    refine ⟨_, fdd, e.st, _, _, F1, ⟨_, List.mem_map.mpr ⟨_, htf e he, rfl⟩, by rw [hp, hpe]⟩, fun hf => glo e he ?_, (bindsOf F (hBd e he)).1, hE e he, fun k m hm => ?_, fun k hm => ?_⟩
    · unfold isFL at hf
      rw [ef] at hf
      exact hf
    · obtain ⟨q, hq, ek, hm2⟩ := kms k m _ hm
      subst ek
      refine ⟨kcls q hq, ?_⟩
      have h1 := He.meth_ok (kf q hq (.meth (Str.ofString q.c) m) (List.mem_cons_of_mem _ (List.mem_cons_of_mem _ (List.mem_append_right _ (List.mem_append_left _ (List.mem_map.mpr ⟨(m, e.f), hm2, rfl⟩))))))
      rw [stands_ok ((hmore.2 q hq).1 _ hm2) ef] at h1
      exact h1
    · obtain ⟨q, hq, ek, hm2⟩ := kmi k _ hm
      subst ek
      refine ⟨He.glo_ok KX G (kf q hq (.glo (Str.ofString q.c)) List.mem_cons_self), ?_⟩
      have h1 := He.mkr_ok (kf q hq (.mkr (Str.ofString q.c)) (List.mem_cons_of_mem _ (List.mem_cons_of_mem _ (List.mem_append_right _ (List.mem_append_right _ (by rw [hm2]; exact List.mem_singleton.mpr rfl))))))
      rw [stands_ok ((hmore.2 q hq).2 _ hm2) ef] at h1
      exact h1
  have hG : ∀ x d, gcI cI cD x d = true → GcOk K w mg x d := fun x d e => by
    cases d with
    | int i =>
      have hm : (x, i) ∈ cI := List.contains_iff_mem.mp e
      obtain ⟨t, ht⟩ := He.int_ok KX G (fac (.int x i) (List.mem_append_left _ (List.mem_append_right _ (List.mem_map.mpr ⟨_, hm, rfl⟩))))
      exact ⟨.int i, .int i t, ht, ⟨t, rfl⟩, fun _ _ => .int i⟩
    | dct kvs =>
      cases q : cD.find? fun p => p.1 == x with
      | some p =>
        have eb : beqKv kvs p.2 = true := by simp only [gcI, q] at e; exact e
        have hp := List.mem_of_find?_eq_some q
        have hx : p.1 = x := eq_of_beq (List.find?_some (p := fun p : Str × List (Str × He.Dv) => p.1 == x) q)
        subst hx
        obtain ⟨b1, b2⟩ := beqKv_ok eb
        obtain ⟨i, hi, ei⟩ := List.mem_iff_getElem.mp hp
        have et : (tsL cD)[i]? = some ((fun K => He.ga K p.1), p.2.map (·.1)) := by
          unfold tsL
          rw [List.getElem?_map, List.getElem?_eq_getElem hi, ei]
          rfl
        have ed : He.dicW K (He.ga K p.1) = some (He.keysIn w.params (p.2.map (·.1))) := by
          have e3 : (tsL cD).map (fun t => He.dicW K (t.1 K)) = (tsL cD).map fun t => some (He.keysIn w.params t.2) := congrArg (fun z : He.AlT => z.2) c.t
          have e4 : ((tsL cD).map (fun t => He.dicW K (t.1 K)))[i]? = ((tsL cD).map fun t => some (He.keysIn w.params t.2))[i]? := by rw [e3]
          rw [List.getElem?_map, List.getElem?_map, et] at e4
          exact Option.some.inj e4
        obtain ⟨es, n, KD⟩ := He.dicW_ok ed
        have hv : He.valsB K (He.ga K p.1) p.2 = true := hmore.1 p hp
        refine ⟨_, He.glo_ok KX G (fac (.glo p.1) (List.mem_append_right _ (List.mem_append_left _ (List.mem_map.mpr ⟨_, hp, rfl⟩)))), es, n, KD, fun z d hd => ?_, fun z hz => dic_none ed (b2 z hz)⟩
        obtain ⟨q, hq, rfl, hr⟩ := b1 z d hd
        obtain ⟨u, hu1, hu2⟩ := He.valsB_ok hv hq
        exact ⟨_, u, hu1, hu2, fun F ρ => hr K F ρ⟩
      | none => simp only [gcI, q] at e; cases e
    | _ => cases e
  have hB : Bns mg := ⟨fun b => fre _ (by cases b <;> decide +kernel), fre _ (by decide +kernel), fre _ (by decide +kernel), fre _ (by decide +kernel), fre _ (by decide +kernel), fre _ (by decide +kernel), fre _ (by decide +kernel), fre _ (by decide +kernel), fre _ (by decide +kernel)⟩
  obtain ⟨fdd, F⟩ := dfs el hl
  obtain ⟨F1, p, hpc, hpe⟩ := funOf F
  have efa : fa = He.fAd K el.at_ := by
    have e1 := glo el hl hlp
    rw [hlf] at e1
    have e2 : some (Value.ref fa) = some (.ref (He.fAd K el.at_)) := hmg.symm.trans e1
    exact Value.ref.inj (Option.some.inj e2)
  subst efa
  refine ⟨fdd, cs, spLaw K cs, fun p hp => ?_, fun p hp => ?_, fun p hp => ?_, fun s u => ?_, fun H a ns hln _ hT hS => ⟨a, ns, rfl, hS, hln, hT, fun _ => rfl⟩, fun base KB GB TB => ?_⟩
  · obtain ⟨q, hq, rfl⟩ := csm p hp
    exact c.empty q hq
  · obtain ⟨q, hq, rfl⟩ := csm p hp
    exact c.out q hq
  · obtain ⟨q, hq, rfl⟩ := csm p hp
    exact PySem.W.codeHd_of_K KX (c.hd q hq)
  · have := (bindsOf F (hBd el hl)).2 s [u] (by rw [hp]; rfl)
    rw [hp] at this
    exact this
  · refine law_fn (n := n) (hw := rfl) (hcs := fun P => List.mem_map) (fun p hp => ⟨(TB p hp).code, (TB p hp).bm, (TB p hp).gP⟩) tks inf hB hG hlT F1 ⟨_, List.mem_map.mpr ⟨_, htf el hl, rfl⟩, by rw [hpc, hpe]⟩ (hE el hl) hp hrun
end
end DL
end

section
set_option maxRecDepth 100000
set_option maxHeartbeats 8000000
namespace DL
open PySem
def d_is_linked : FD := ⟨3, ["reader", "first", "second", "mul"],
 (.seq (.asg (.name 3) (.idx (.var 0) (.int 1)))
 (.seq (.ret (.bool true (.cons (.cmp .eq (.idx (.idx (.var 3) (.var 1)) (.var 2)) (.var 1)) (.cons (.cmp .eq (.idx (.idx (.var 3) (.var 2)) (.var 2)) (.var 2)) .nil))))
 .skip))⟩
def d_value : FD := ⟨2, ["reader", "row", "found", "letter", "letters", "mul", "_"],
 (.seq (.asg (.tup (.cons (.name 4) (.cons (.name 5) (.cons (.name 6) .nil)))) (.var 0))
 (.seq (.asg (.name 2) (.idx (.var 4) (.idx (.var 1) (.int 0))))
 (.seq (.for (.name 3) (.seq (.slc (.var 1) (.int 1) .hole))
  (.seq (.asg (.name 2) (.idx (.idx (.var 5) (.var 2)) (.idx (.var 4) (.var 3))))
  .skip))
 (.seq (.ret (.var 2))
 .skip))))⟩
def d_settled_value : FD := ⟨2, ["mul", "number", "found"],
 (.seq (.asg (.name 2) (.var 1))
 (.seq (.whl (.cmp .ne (.idx (.idx (.var 0) (.var 2)) (.var 2)) (.var 2))
  (.seq (.asg (.name 2) (.idx (.idx (.var 0) (.var 2)) (.var 1)))
  .skip))
 (.seq (.ret (.var 2))
 .skip)))⟩
def d_pair_of : FD := ⟨2, ["reader", "word", "second", "beginning", "round_letters"],
 (.seq (.asg (.tup (.cons (.name 3) (.cons (.name 4) .nil))) (.var 1))
 (.seq (.asg (.name 2) (.call "settled_value" (.cons (.idx (.var 0) (.int 1)) (.cons (.call "value" (.cons (.var 0) (.cons (.var 4) .nil))) .nil))))
 (.seq (.iff (.not (.var 3))
  (.seq (.ret (.tup (.cons (.var 2) (.cons (.var 2) .nil))))
  .skip)
  .skip)
 (.seq (.ret (.tup (.cons (.idx (.idx (.idx (.var 0) (.int 1)) (.call "value" (.cons (.var 0) (.cons (.var 3) .nil)))) (.var 2)) (.cons (.var 2) .nil))))
 .skip))))⟩
def d_accepts : FD := ⟨2, ["reader", "word"],
 (.seq (.ret (.cmp .in_ (.call "pair_of" (.cons (.var 0) (.cons (.var 1) .nil))) (.idx (.var 0) (.int 2))))
 .skip)⟩
def d_Table___init__ : FD := ⟨2, ["self", "reader", "pair"],
 (.seq (.fst ["Table"] (.var 0) "reader" (.var 1))
 (.seq (.fst ["Table"] (.var 0) "known" (.dc [2] (.name 2) (.seq (.idx (.var 1) (.int 2))) .nil (.var 2) (.bl true)))
 .skip))⟩
def d_Table_letter : FD := ⟨2, ["self", "a"],
 (.seq (.ret (.idx (.idx (.fld ["Table"] (.var 0) "reader") (.int 0)) (.var 1)))
 .skip)⟩
def d_Table_join : FD := ⟨3, ["self", "x", "y"],
 (.seq (.ret (.idx (.idx (.idx (.fld ["Table"] (.var 0) "reader") (.int 1)) (.var 1)) (.var 2)))
 .skip)⟩
def d_Table_takes : FD := ⟨3, ["self", "s", "f"],
 (.seq (.ret (.cmp .in_ (.tup (.cons (.var 1) (.cons (.var 2) .nil))) (.fld ["Table"] (.var 0) "known")))
 .skip)⟩
def d_listed : FD := ⟨2, ["table", "count", "found", "order", "waiting", "position", "later", "a", "x", "word", "item"],
 (.seq (.own 2 .dnew)
 (.seq (.own 3 (.lst .nil))
 (.seq (.own 4 (.lc [7] (.name 7) (.rng1 (.var 1)) .nil (.tup (.cons (.meth [("Table", "Table.letter")] (.var 0) "letter" (.cons (.var 7) .nil)) (.cons (.lst (.cons (.var 7) .nil)) .nil)))))
 (.seq (.asg (.name 5) (.int 0))
 (.seq (.whl (.var 4)
  (.seq (.own 6 (.lst .nil))
  (.seq (.for (.tup (.cons (.name 8) (.cons (.name 9) .nil))) (.seq (.var 4))
   (.seq (.iff (.cmp .notin (.var 8) (.var 2))
    (.seq (.put (.var 2) (.var 8) (.blt .len (.cons (.var 3) .nil)))
    (.seq (.app (.var 3) (.tup (.cons (.var 8) (.cons (.var 9) .nil))))
    .skip))
    .skip)
   .skip))
  (.seq (.iff (.cmp .gt (.blt .len (.cons (.var 3) .nil)) (.glob "MOST_VALUES" (.int 300)))
   (.seq .die
   .skip)
   .skip)
  (.seq (.for (.tup (.cons (.name 8) (.cons (.name 9) .nil))) (.seq (.slc (.var 3) (.var 5) .hole))
   (.seq (.ext 6 (.lc [7] (.name 7) (.rng1 (.var 1)) .nil (.tup (.cons (.meth [("Table", "Table.join")] (.var 0) "join" (.cons (.var 8) (.cons (.meth [("Table", "Table.letter")] (.var 0) "letter" (.cons (.var 7) .nil)) .nil))) (.cons (.bin .add (.var 9) (.lst (.cons (.var 7) .nil))) .nil)))))
   .skip))
  (.seq (.asg (.name 5) (.blt .len (.cons (.var 3) .nil)))
  (.seq (.own 4 (.lc [10] (.name 10) (.seq (.var 6)) (.cons (.cmp .notin (.idx (.var 10) (.int 0)) (.var 2)) .nil) (.var 10)))
  .skip)))))))
 (.seq (.ret (.var 3))
 .skip))))))⟩
def d_product_row : FD := ⟨3, ["number", "right", "words", "places", "row", "place", "word", "before"],
 (.seq (.own 3 .dnew)
 (.seq (.own 4 (.lst .nil))
 (.seq (.for (.tup (.cons (.name 5) (.cons (.name 6) .nil))) (.enum (.var 2))
  (.seq (.put (.var 3) (.blt .tuple (.cons (.var 6) .nil)) (.var 5))
  (.seq (.asg (.name 7) (.ite (.cmp .eq (.blt .len (.cons (.var 6) .nil)) (.int 1)) (.var 0) (.idx (.var 4) (.idx (.var 3) (.blt .tuple (.cons (.slc (.var 6) .hole (.neg (.int 1))) .nil))))))
  (.seq (.app (.var 4) (.idx (.idx (.var 1) (.var 7)) (.idx (.var 6) (.neg (.int 1)))))
  .skip))))
 (.seq (.ret (.blt .tuple (.cons (.var 4) .nil)))
 .skip))))⟩
def d_made_reader : FD := ⟨2, ["table", "count", "found", "order", "numbers", "letters", "right", "mul", "plain", "accepted", "s", "x", "_", "number", "a", "f", "y", "word"],
 (.seq (.asg (.name 2) (.call "listed" (.cons (.var 0) (.cons (.var 1) .nil))))
 (.seq (.own 3 (.lc [11, 12] (.tup (.cons (.name 11) (.cons (.name 12) .nil))) (.seq (.var 2)) .nil (.var 11)))
 (.seq (.own 4 (.dc [11, 13] (.tup (.cons (.name 13) (.cons (.name 11) .nil))) (.enum (.var 3)) .nil (.var 11) (.var 13)))
 (.seq (.asg (.name 5) (.blt .tuple (.cons (.lc [14] (.name 14) (.rng1 (.var 1)) .nil (.idx (.var 4) (.meth [("Table", "Table.letter")] (.var 0) "letter" (.cons (.var 14) .nil)))) .nil)))
 (.seq (.own 6 (.lc [11] (.name 11) (.seq (.var 3)) .nil (.lc [14] (.name 14) (.rng1 (.var 1)) .nil (.idx (.var 4) (.meth [("Table", "Table.join")] (.var 0) "join" (.cons (.var 11) (.cons (.meth [("Table", "Table.letter")] (.var 0) "letter" (.cons (.var 14) .nil)) .nil)))))))
 (.seq (.asg (.name 7) (.blt .tuple (.cons (.lc [13] (.name 13) (.rng1 (.blt .len (.cons (.var 3) .nil))) .nil (.call "product_row" (.cons (.var 13) (.cons (.var 6) (.cons (.lc [12, 17] (.tup (.cons (.name 12) (.cons (.name 17) .nil))) (.seq (.var 2)) .nil (.var 17)) .nil))))) .nil)))
 (.seq (.asg (.name 8) (.tup (.cons (.var 5) (.cons (.var 7) (.cons (.tup .nil) .nil)))))
 (.seq (.own 9 (.lst .nil))
 (.seq (.for (.tup (.cons (.name 10) (.cons (.name 11) .nil))) (.enum (.var 3))
  (.seq (.ext 9 (.lc [15, 16] (.tup (.cons (.name 15) (.cons (.name 16) .nil))) (.enum (.var 3)) (.cons (.bool true (.cons (.call "is_linked" (.cons (.var 8) (.cons (.var 10) (.cons (.var 15) .nil)))) (.cons (.meth [("Table", "Table.takes")] (.var 0) "takes" (.cons (.var 11) (.cons (.var 16) .nil))) .nil))) .nil) (.tup (.cons (.var 10) (.cons (.var 15) .nil)))))
  .skip))
 (.seq (.ret (.tup (.cons (.var 5) (.cons (.var 7) (.cons (.blt .tuple (.cons (.var 9) .nil)) .nil)))))
 .skip))))))))))⟩
def d_tidy : FD := ⟨1, ["reader"],
 (.seq (.ret (.call "made_reader" (.cons (.new "Table" "Table.__init__" (.cons (.var 0) .nil)) (.cons (.blt .len (.cons (.idx (.var 0) (.int 0)) .nil)) .nil))))
 .skip)⟩
def d_settled : FD := ⟨2, ["reader", "beginning", "small", "size", "starts", "known", "told", "mul", "accepted", "first", "x", "pair", "s", "f"],
 (.seq (.asg (.name 2) (.call "tidy" (.cons (.var 0) .nil)))
 (.seq (.asg (.tup (.cons (.name 7) (.cons (.name 8) .nil))) (.tup (.cons (.idx (.var 2) (.int 1)) (.cons (.idx (.var 2) (.int 2)) .nil))))
 (.seq (.asg (.name 3) (.blt .range (.cons (.blt .len (.cons (.var 7) .nil)) .nil)))
 (.seq (.own 4 (.dc [10] (.name 10) (.seq (.var 3)) .nil (.var 10) (.bl true)))
 (.seq (.iff (.var 1)
  (.seq (.asg (.name 9) (.call "value" (.cons (.var 2) (.cons (.var 1) .nil))))
  (.seq (.own 4 (.dc [10] (.name 10) (.seq (.var 3)) .nil (.idx (.idx (.var 7) (.var 9)) (.var 10)) (.bl true)))
  .skip))
  .skip)
 (.seq (.own 5 (.dc [11] (.name 11) (.seq (.var 8)) .nil (.var 11) (.bl true)))
 (.seq (.own 6 (.lc2 [12, 13] [13] (.name 12) (.seq (.var 3)) .nil (.name 13) (.seq (.var 3)) (.cons (.bool true (.cons (.cmp .in_ (.var 12) (.var 4)) (.cons (.call "is_linked" (.cons (.var 2) (.cons (.var 12) (.cons (.var 13) .nil)))) .nil))) .nil) (.cmp .in_ (.tup (.cons (.var 12) (.cons (.var 13) .nil))) (.var 5))))
 (.seq (.iff (.blt .all (.cons (.var 6) .nil))
  (.seq (.ret (.bl true))
  .skip)
  .skip)
 (.seq (.ret (.ite (.blt .any (.cons (.var 6) .nil)) .non (.bl false)))
 .skip)))))))))⟩
def d__law_draw : FD := ⟨2, ["_law_state", "_law_limit", "_law_digit", "_law_position", "_law_cell", "_law_mixed_here"],
 (.seq (.iff (.cmp .lt (.idx (.var 0) (.int 0)) (.var 1))
  (.seq (.asg (.name 3) (.idx (.var 0) (.int 1)))
  (.seq (.put (.var 0) (.int 1) (.bin .add (.var 3) (.int 1)))
  (.seq (.asg (.name 4) (.int 0))
  (.seq (.iff (.cmp .lt (.var 3) (.blt .len (.cons (.idx (.var 0) (.int 2)) .nil)))
   (.seq (.asg (.name 4) (.idx (.idx (.var 0) (.int 2)) (.var 3)))
   .skip)
   .skip)
  (.seq (.iff (.cmp .ge (.var 4) (.bin .pow (.int 10) (.int 18)))
   (.seq (.put (.var 0) (.int 0) (.var 4))
   .skip)
   (.seq (.put (.var 0) (.int 3) (.bin .mod (.blt .int (.cons (.bin .mul (.bin .add (.bin .add (.bin .add (.idx (.var 0) (.int 3)) (.bin .mod (.blt .int (.cons (.var 4) .nil)) (.int 2147483629))) (.var 3)) (.int 1)) (.int 48271)) .nil)) (.int 2147483647)))
   (.seq (.asg (.name 5) (.bin .mod (.blt .int (.cons (.bin .add (.bin .mul (.idx (.var 0) (.int 3)) (.int 69621)) (.int 11)) .nil)) (.int 2147483629)))
   (.seq (.put (.var 0) (.int 0) (.bin .add (.bin .mul (.var 5) (.int 2147483647)) (.bin .mod (.blt .int (.cons (.bin .add (.bin .mul (.var 5) (.int 30011)) (.idx (.var 0) (.int 3))) .nil)) (.int 2147483587))))
   .skip))))
  .skip)))))
  .skip)
 (.seq (.asg (.name 2) (.bin .mod (.blt .int (.cons (.idx (.var 0) (.int 0)) .nil)) (.var 1)))
 (.seq (.put (.var 0) (.int 0) (.bin .fdiv (.idx (.var 0) (.int 0)) (.var 1)))
 (.seq (.ret (.var 2))
 .skip))))⟩
def d__law_functions : FD := ⟨1, ["_law_state", "_law_points", "_law_found_here", "_law_k", "_law_one", "_law_two", "_law_made", "_law_j"],
 (.seq (.asg (.name 1) (.bin .add (.int 2) (.call "_law_draw" (.cons (.var 0) (.cons (.int 2) .nil)))))
 (.seq (.own 2 (.lst (.cons (.trg1 (.var 1)) .nil)))
 (.seq (.for (.name 3) (.rng1 (.bin .add (.int 1) (.call "_law_draw" (.cons (.var 0) (.cons (.int 2) .nil)))))
  (.seq (.asg (.name 4) (.blt .tuple (.cons (.lc [7] (.name 7) (.rng1 (.var 1)) .nil (.call "_law_draw" (.cons (.var 0) (.cons (.var 1) .nil)))) .nil)))
  (.seq (.iff (.cmp .notin (.var 4) (.var 2))
   (.seq (.app (.var 2) (.var 4))
   .skip)
   .skip)
  .skip)))
 (.seq (.for (.name 3) (.rng1 (.int 12))
  (.seq (.for (.name 4) (.seq (.blt .list (.cons (.var 2) .nil)))
   (.seq (.for (.name 5) (.seq (.blt .list (.cons (.var 2) .nil)))
    (.seq (.asg (.name 6) (.blt .tuple (.cons (.lc [7] (.name 7) (.rng1 (.var 1)) .nil (.idx (.var 5) (.idx (.var 4) (.var 7)))) .nil)))
    (.seq (.iff (.bool true (.cons (.cmp .notin (.var 6) (.var 2)) (.cons (.cmp .lt (.blt .len (.cons (.var 2) .nil)) (.int 9)) .nil)))
     (.seq (.app (.var 2) (.var 6))
     .skip)
     .skip)
    .skip)))
   .skip))
  .skip))
 (.seq (.for (.name 4) (.seq (.var 2))
  (.seq (.for (.name 5) (.seq (.var 2))
   (.seq (.iff (.cmp .notin (.blt .tuple (.cons (.lc [7] (.name 7) (.rng1 (.var 1)) .nil (.idx (.var 5) (.idx (.var 4) (.var 7)))) .nil)) (.var 2))
    (.seq (.ret (.lst (.cons (.tup (.cons (.int 0) (.cons (.int 1) .nil))) (.cons (.tup (.cons (.int 0) (.cons (.int 0) .nil))) (.cons (.tup (.cons (.int 1) (.cons (.int 1) .nil))) .nil)))))
    .skip)
    .skip)
   .skip))
  .skip))
 (.seq (.ret (.var 2))
 .skip))))))⟩
def d__law_product : FD := ⟨4, ["_law_kind", "_law_count", "_law_x", "_law_y"],
 (.seq (.iff (.cmp .eq (.var 0) (.int 0))
  (.seq (.ret (.bin .mod (.blt .int (.cons (.bin .add (.var 2) (.var 3)) .nil)) (.var 1)))
  .skip)
  .skip)
 (.seq (.iff (.cmp .eq (.var 0) (.int 1))
  (.seq (.ret (.blt .max2 (.cons (.var 2) (.cons (.var 3) .nil))))
  .skip)
  .skip)
 (.seq (.iff (.cmp .eq (.var 0) (.int 2))
  (.seq (.ret (.ite (.cmp .eq (.var 3) (.int 0)) (.var 2) (.var 3)))
  .skip)
  .skip)
 (.seq (.ret (.ite (.cmp .eq (.var 2) (.int 0)) (.var 3) (.var 2)))
 .skip))))⟩
def d__law_table : FD := ⟨1, ["_law_state", "_law_kind", "_law_count", "_law_found_here", "_law_x", "_law_one", "_law_y", "_law_two", "_law_j"],
 (.seq (.asg (.name 1) (.call "_law_draw" (.cons (.var 0) (.cons (.int 6) .nil))))
 (.seq (.iff (.cmp .gt (.var 1) (.int 3))
  (.seq (.asg (.name 3) (.call "_law_functions" (.cons (.var 0) .nil)))
  (.seq (.ret (.lc [5] (.name 5) (.seq (.var 3)) .nil (.lc [7] (.name 7) (.seq (.var 3)) .nil (.index (.var 3) (.blt .tuple (.cons (.lc [8] (.name 8) (.rng1 (.blt .len (.cons (.var 5) .nil))) .nil (.idx (.var 7) (.idx (.var 5) (.var 8)))) .nil))))))
  .skip))
  .skip)
 (.seq (.asg (.name 2) (.bin .add (.int 1) (.call "_law_draw" (.cons (.var 0) (.cons (.int 5) .nil)))))
 (.seq (.ret (.lc [4] (.name 4) (.rng1 (.var 2)) .nil (.lc [6] (.name 6) (.rng1 (.var 2)) .nil (.call "_law_product" (.cons (.var 1) (.cons (.var 2) (.cons (.var 4) (.cons (.var 6) .nil))))))))
 .skip))))⟩
def d__law_mixed : FD := ⟨2, ["_law_state", "_law_count", "_law_left", "_law_made", "_law_k"],
 (.seq (.own 2 (.lrg1 (.var 1)))
 (.seq (.own 3 (.lst .nil))
 (.seq (.for (.name 4) (.rng1 (.var 1))
  (.seq (.app (.var 3) (.popAt (.var 2) (.call "_law_draw" (.cons (.var 0) (.cons (.blt .len (.cons (.var 2) .nil)) .nil)))))
  .skip))
 (.seq (.ret (.var 3))
 .skip))))⟩
def d__law_linked : FD := ⟨1, ["_law_mul", "_law_size", "_law_pairs", "_law_s", "_law_f"],
 (.seq (.asg (.name 1) (.lrg1 (.blt .len (.cons (.var 0) .nil))))
 (.seq (.asg (.name 2) (.lst .nil))
 (.seq (.for (.name 3) (.seq (.var 1))
  (.seq (.asg (.name 2) (.bin .add (.var 2) (.lc [4] (.name 4) (.seq (.var 1)) (.cons (.bool true (.cons (.cmp .eq (.idx (.idx (.var 0) (.var 3)) (.var 4)) (.var 3)) (.cons (.cmp .eq (.idx (.idx (.var 0) (.var 4)) (.var 4)) (.var 4)) .nil))) .nil) (.tup (.cons (.var 3) (.cons (.var 4) .nil))))))
  .skip))
 (.seq (.ret (.var 2))
 .skip))))⟩
def d__law_turns : FD := ⟨2, ["_law_mul", "_law_pairs", "_law_names", "_law_k", "_law_fresh", "_law_s", "_law_f", "_law_x", "_law_y", "_law_other", "_law_low"],
 (.seq (.own 2 .dnew)
 (.seq (.for (.name 3) (.rng1 (.blt .len (.cons (.var 1) .nil)))
  (.seq (.put (.var 2) (.idx (.var 1) (.var 3)) (.var 3))
  .skip))
 (.seq (.for (.name 3) (.rng1 (.blt .len (.cons (.var 1) .nil)))
  (.seq (.asg (.name 4) (.int 0))
  (.seq (.for (.tup (.cons (.name 5) (.cons (.name 6) .nil))) (.seq (.var 1))
   (.seq (.for (.name 7) (.rng1 (.blt .len (.cons (.var 0) .nil)))
    (.seq (.for (.name 8) (.rng1 (.blt .len (.cons (.var 0) .nil)))
     (.seq (.asg (.name 9) (.tup (.cons (.idx (.idx (.var 0) (.var 5)) (.var 7)) (.cons (.idx (.idx (.var 0) (.var 8)) (.var 7)) .nil))))
     (.seq (.iff (.bool true (.cons (.cmp .eq (.idx (.idx (.var 0) (.var 7)) (.var 8)) (.var 6)) (.cons (.cmp .in_ (.var 9) (.var 2)) (.cons (.cmp .ne (.idx (.var 2) (.var 9)) (.idx (.var 2) (.tup (.cons (.var 5) (.cons (.var 6) .nil))))) .nil))))
      (.seq (.asg (.name 10) (.blt .min2 (.cons (.idx (.var 2) (.var 9)) (.cons (.idx (.var 2) (.tup (.cons (.var 5) (.cons (.var 6) .nil)))) .nil))))
      (.seq (.put (.var 2) (.var 9) (.var 10))
      (.seq (.put (.var 2) (.tup (.cons (.var 5) (.cons (.var 6) .nil))) (.var 10))
      (.seq (.asg (.name 4) (.bin .add (.var 4) (.int 1)))
      .skip))))
      .skip)
     .skip)))
    .skip))
   .skip))
  (.seq (.iff (.cmp .eq (.var 4) (.int 0))
   (.seq (.ret (.var 2))
   .skip)
   .skip)
  .skip))))
 (.seq (.ret (.var 2))
 .skip))))⟩
def d__law_reader : FD := ⟨2, ["_law_state", "_law_count", "_law_table_here", "_law_size", "_law_names", "_law_back", "_law_mul", "_law_letters", "_law_pairs", "_law_turns_here", "_law_chosen", "_law_k", "_law_x", "_law_pair", "_law_y"],
 (.seq (.asg (.name 2) (.call "_law_table" (.cons (.var 0) .nil)))
 (.seq (.asg (.name 3) (.blt .len (.cons (.var 2) .nil)))
 (.seq (.asg (.name 4) (.call "_law_mixed" (.cons (.var 0) (.cons (.var 3) .nil))))
 (.seq (.own 5 (.lc [11] (.name 11) (.rng1 (.var 3)) .nil (.index (.var 4) (.var 11))))
 (.seq (.asg (.name 6) (.blt .tuple (.cons (.lc [12] (.name 12) (.rng1 (.var 3)) .nil (.blt .tuple (.cons (.lc [14] (.name 14) (.rng1 (.var 3)) .nil (.idx (.var 4) (.idx (.idx (.var 2) (.idx (.var 5) (.var 12))) (.idx (.var 5) (.var 14))))) .nil))) .nil)))
 (.seq (.asg (.name 7) (.blt .tuple (.cons (.lc [11] (.name 11) (.rng1 (.var 1)) .nil (.call "_law_draw" (.cons (.var 0) (.cons (.var 3) .nil)))) .nil)))
 (.seq (.asg (.name 8) (.call "_law_linked" (.cons (.var 6) .nil)))
 (.seq (.asg (.name 9) (.call "_law_turns" (.cons (.var 6) (.cons (.var 8) .nil))))
 (.seq (.own 10 (.lc [11] (.name 11) (.rng1 (.blt .len (.cons (.var 8) .nil))) .nil (.call "_law_draw" (.cons (.var 0) (.cons (.int 2) .nil)))))
 (.seq (.ret (.tup (.cons (.var 7) (.cons (.var 6) (.cons (.blt .tuple (.cons (.lc [13] (.name 13) (.seq (.var 8)) (.cons (.cmp .eq (.idx (.var 10) (.idx (.var 9) (.var 13))) (.int 1)) .nil) (.var 13)) .nil)) .nil)))))
 .skip))))))))))⟩
def d__law_row : FD := ⟨4, ["_law_state", "_law_count", "_law_low", "_law_most", "_law_k"],
 (.seq (.ret (.lc [4] (.name 4) (.rng1 (.bin .add (.var 2) (.call "_law_draw" (.cons (.var 0) (.cons (.bin .add (.bin .sub (.var 3) (.var 2)) (.int 1)) .nil))))) .nil (.call "_law_draw" (.cons (.var 0) (.cons (.var 1) .nil)))))
 .skip)⟩
def d__law_word : FD := ⟨3, ["_law_state", "_law_count", "_law_most"],
 (.seq (.ret (.tup (.cons (.call "_law_row" (.cons (.var 0) (.cons (.var 1) (.cons (.int 0) (.cons (.var 2) .nil))))) (.cons (.call "_law_row" (.cons (.var 0) (.cons (.var 1) (.cons (.int 1) (.cons (.var 2) .nil))))) .nil))))
 .skip)⟩
def d__law_worth : FD := ⟨2, ["_law_reader_here", "_law_row_here", "_law_now", "_law_letter"],
 (.seq (.asg (.name 2) (.idx (.idx (.var 0) (.int 0)) (.idx (.var 1) (.int 0))))
 (.seq (.for (.name 3) (.seq (.slc (.var 1) (.int 1) .hole))
  (.seq (.asg (.name 2) (.idx (.idx (.idx (.var 0) (.int 1)) (.var 2)) (.idx (.idx (.var 0) (.int 0)) (.var 3))))
  .skip))
 (.seq (.ret (.var 2))
 .skip)))⟩
def d__law_found : FD := ⟨1, ["_law_reader_here", "_law_order", "_law_words", "_law_here", "_law_k", "_law_fresh", "_law_row_here", "_law_a", "_law_v"],
 (.seq (.own 1 (.lst .nil))
 (.seq (.own 2 (.lst .nil))
 (.seq (.own 3 (.lc [7] (.name 7) (.rng1 (.blt .len (.cons (.idx (.var 0) (.int 0)) .nil))) .nil (.lst (.cons (.var 7) .nil))))
 (.seq (.for (.name 4) (.rng1 (.int 400))
  (.seq (.own 5 (.lst .nil))
  (.seq (.for (.name 6) (.seq (.var 3))
   (.seq (.asg (.name 8) (.call "_law_worth" (.cons (.var 0) (.cons (.var 6) .nil))))
   (.seq (.iff (.cmp .notin (.var 8) (.var 1))
    (.seq (.app (.var 1) (.var 8))
    (.seq (.app (.var 2) (.var 6))
    (.seq (.app (.var 5) (.var 6))
    .skip)))
    .skip)
   .skip)))
  (.seq (.asg (.name 3) (.lst .nil))
  (.seq (.for (.name 6) (.seq (.var 5))
   (.seq (.asg (.name 3) (.bin .add (.var 3) (.lc [7] (.name 7) (.rng1 (.blt .len (.cons (.idx (.var 0) (.int 0)) .nil))) .nil (.bin .add (.var 6) (.lst (.cons (.var 7) .nil))))))
   .skip))
  (.seq (.iff (.cmp .eq (.blt .len (.cons (.var 3) .nil)) (.int 0))
   (.seq (.ret (.lst (.cons (.var 1) (.cons (.var 2) .nil))))
   .skip)
   .skip)
  .skip))))))
 (.seq (.ret (.lst (.cons (.var 1) (.cons (.var 2) .nil))))
 .skip)))))⟩
def d__law_tidied : FD := ⟨1, ["_law_reader_here", "_law_order", "_law_numbers", "_law_v", "_law_mul", "_law_accepted", "_law_x", "_law_s", "_law_f", "_law_y"],
 (.seq (.asg (.name 1) (.idx (.call "_law_found" (.cons (.var 0) .nil)) (.int 0)))
 (.seq (.own 2 .dnew)
 (.seq (.for (.name 3) (.seq (.var 1))
  (.seq (.put (.var 2) (.var 3) (.blt .len (.cons (.var 2) .nil)))
  .skip))
 (.seq (.asg (.name 4) (.blt .tuple (.cons (.lc [6] (.name 6) (.seq (.var 1)) .nil (.blt .tuple (.cons (.lc [9] (.name 9) (.seq (.var 1)) .nil (.idx (.var 2) (.idx (.idx (.idx (.var 0) (.int 1)) (.var 6)) (.var 9)))) .nil))) .nil)))
 (.seq (.own 5 (.lc [7, 8] (.tup (.cons (.name 7) (.cons (.name 8) .nil))) (.seq (.idx (.var 0) (.int 2))) (.cons (.bool true (.cons (.cmp .in_ (.var 7) (.var 2)) (.cons (.cmp .in_ (.var 8) (.var 2)) .nil))) .nil) (.tup (.cons (.idx (.var 2) (.var 7)) (.cons (.idx (.var 2) (.var 8)) .nil)))))
 (.seq (.ret (.tup (.cons (.blt .tuple (.cons (.lc [3] (.name 3) (.seq (.idx (.var 0) (.int 0))) .nil (.idx (.var 2) (.var 3))) .nil)) (.cons (.var 4) (.cons (.blt .tuple (.cons (.blt .sorted (.cons (.var 5) .nil)) .nil)) .nil)))))
 .skip))))))⟩
def d_law : FD := ⟨1, ["_law_script", "_law_state", "_law_count", "_law_reader_here", "_law_small", "_law_k", "_law_begin", "_law_starts", "_law_told", "_law_due", "_law_copy", "_law_actual", "_law_word_here", "_law_s", "_law_f"],
 (.seq (.shr 1 (.lst (.cons (.int 0) (.cons (.int 0) (.cons (.blt .list (.cons (.var 0) .nil)) (.cons (.int 1) .nil))))))
 (.seq (.asg (.name 2) (.bin .add (.int 1) (.call "_law_draw" (.cons (.var 1) (.cons (.int 3) .nil)))))
 (.seq (.asg (.name 3) (.call "_law_reader" (.cons (.var 1) (.cons (.var 2) .nil))))
 (.seq (.asg (.name 4) (.call "_law_tidied" (.cons (.var 3) .nil)))
 (.seq (.for (.name 5) (.rng1 (.int 4))
  (.seq (.asg (.name 6) (.call "_law_row" (.cons (.var 1) (.cons (.var 2) (.cons (.int 0) (.cons (.int 4) .nil))))))
  (.seq (.asg (.name 7) (.lrg1 (.blt .len (.cons (.idx (.var 4) (.int 1)) .nil))))
  (.seq (.iff (.cmp .gt (.blt .len (.cons (.var 6) .nil)) (.int 0))
   (.seq (.asg (.name 7) (.blt .list (.cons (.idx (.idx (.var 4) (.int 1)) (.call "_law_worth" (.cons (.var 4) (.cons (.var 6) .nil)))) .nil)))
   .skip)
   .skip)
  (.seq (.own 8 (.lc [13, 14] (.tup (.cons (.name 13) (.cons (.name 14) .nil))) (.seq (.call "_law_linked" (.cons (.idx (.var 4) (.int 1)) .nil))) (.cons (.cmp .in_ (.var 13) (.var 7)) .nil) (.cmp .in_ (.tup (.cons (.var 13) (.cons (.var 14) .nil))) (.idx (.var 4) (.int 2)))))
  (.seq (.asg (.name 9) .non)
  (.seq (.iff (.blt .all (.cons (.var 8) .nil))
   (.seq (.asg (.name 9) (.bl true))
   .skip)
   (.seq (.iff (.not (.blt .any (.cons (.var 8) .nil)))
    (.seq (.asg (.name 9) (.bl false))
    .skip)
    .skip)
   .skip))
  (.seq (.asg (.name 10) (.blt .list (.cons (.var 6) .nil)))
  (.seq (.asg (.name 11) (.call "settled" (.cons (.var 3) (.cons (.var 10) .nil))))
  (.seq (.iff (.cmp .ne (.var 10) (.var 6))
   (.seq (.ret (.bl false))
   .skip)
   .skip)
  (.seq (.iff (.cmp .ne (.var 11) (.var 9))
   (.seq (.ret (.bl false))
   .skip)
   .skip)
  (.seq (.asg (.name 12) (.call "_law_word" (.cons (.var 1) (.cons (.var 2) (.cons (.int 3) .nil)))))
  (.seq (.iff (.bool true (.cons (.cmp .isnot (.var 9) .non) (.cons (.cmp .ne (.call "accepts" (.cons (.var 3) (.cons (.tup (.cons (.bin .add (.var 6) (.idx (.var 12) (.int 0))) (.cons (.idx (.var 12) (.int 1)) .nil))) .nil))) (.var 9)) .nil)))
   (.seq (.ret (.bl false))
   .skip)
   .skip)
  .skip)))))))))))))
 (.seq (.ret (.bl true))
 .skip))))))⟩
end DL
end

section
set_option maxRecDepth 100000
set_option maxHeartbeats 8000000
namespace DL
open PySem PySem.Spec PyProof.Rows L2
def topS (i : Nat) : Stmt := PySem.Challenge.pw_unendtold_k29_whole_what_is_settled.main.body.getD i (.Pass ⟨0, 0, 0, 0⟩)
def metS (i j : Nat) : Stmt := match topS i with
  | .ClassDef _ _ _ body .. => body.getD j (.Pass ⟨0, 0, 0, 0⟩)
  | s => s
def e_is_linked : Ent := { f := "is_linked", fd := d_is_linked, st := topS 2 }
def e_value : Ent := { f := "value", fd := d_value, st := topS 3 }
def e_settled_value : Ent := { f := "settled_value", fd := d_settled_value, st := topS 4 }
def e_pair_of : Ent := { f := "pair_of", fd := d_pair_of, st := topS 5 }
def e_accepts : Ent := { f := "accepts", fd := d_accepts, st := topS 6 }
def e_Table___init__ : Ent := { f := "Table.__init__", fd := d_Table___init__, st := metS 11 0, at_ := ("Table", some "__init__"), name := "__init__", qual := "Table.__init__" }
def e_Table_letter : Ent := { f := "Table.letter", fd := d_Table_letter, st := metS 11 1, at_ := ("Table", some "letter"), name := "letter", qual := "Table.letter" }
def e_Table_join : Ent := { f := "Table.join", fd := d_Table_join, st := metS 11 2, at_ := ("Table", some "join"), name := "join", qual := "Table.join" }
def e_Table_takes : Ent := { f := "Table.takes", fd := d_Table_takes, st := metS 11 3, at_ := ("Table", some "takes"), name := "takes", qual := "Table.takes" }
def e_listed : Ent := { f := "listed", fd := d_listed, st := topS 12 }
def e_product_row : Ent := { f := "product_row", fd := d_product_row, st := topS 13 }
def e_made_reader : Ent := { f := "made_reader", fd := d_made_reader, st := topS 14 }
def e_tidy : Ent := { f := "tidy", fd := d_tidy, st := topS 15 }
def e_settled : Ent := { f := "settled", fd := d_settled, st := topS 17 }
def e__law_draw : Ent := { f := "_law_draw", fd := d__law_draw, st := topS 19 }
def e__law_functions : Ent := { f := "_law_functions", fd := d__law_functions, st := topS 20 }
def e__law_product : Ent := { f := "_law_product", fd := d__law_product, st := topS 21 }
def e__law_table : Ent := { f := "_law_table", fd := d__law_table, st := topS 22 }
def e__law_mixed : Ent := { f := "_law_mixed", fd := d__law_mixed, st := topS 23 }
def e__law_linked : Ent := { f := "_law_linked", fd := d__law_linked, st := topS 24 }
def e__law_turns : Ent := { f := "_law_turns", fd := d__law_turns, st := topS 25 }
def e__law_reader : Ent := { f := "_law_reader", fd := d__law_reader, st := topS 26 }
def e__law_row : Ent := { f := "_law_row", fd := d__law_row, st := topS 27 }
def e__law_word : Ent := { f := "_law_word", fd := d__law_word, st := topS 28 }
def e__law_worth : Ent := { f := "_law_worth", fd := d__law_worth, st := topS 29 }
def e__law_found : Ent := { f := "_law_found", fd := d__law_found, st := topS 30 }
def e__law_tidied : Ent := { f := "_law_tidied", fd := d__law_tidied, st := topS 31 }
def e_law : Ent := { f := "law", fd := d_law, st := topS 32 }
def L : List Ent := [e_is_linked, e_value, e_settled_value, e_pair_of, e_accepts, e_Table___init__, e_Table_letter, e_Table_join, e_Table_takes, e_listed, e_product_row, e_made_reader, e_tidy, e_settled, e__law_draw, e__law_functions, e__law_product, e__law_table, e__law_mixed, e__law_linked, e__law_turns, e__law_reader, e__law_row, e__law_word, e__law_worth, e__law_found, e__law_tidied, e_law]
def KS : List KL := [⟨"Table", ["reader", "known"], [("letter", "Table.letter"), ("join", "Table.join"), ("takes", "Table.takes")], some "Table.__init__"⟩]
abbrev T : String → Option FD := TL L
def cI : List (Str × Int) := [("MOST_VALUES", 300)]
def cD : List (Str × List (Str × He.Dv)) := []
abbrev gcB : Str → D → Bool := gcI cI cD
theorem er_is_linked : erFn (isFL L) gcB (kcL KS) e_is_linked.fd e_is_linked.st = true := by decide +kernel
theorem er_value : erFn (isFL L) gcB (kcL KS) e_value.fd e_value.st = true := by decide +kernel
theorem er_settled_value : erFn (isFL L) gcB (kcL KS) e_settled_value.fd e_settled_value.st = true := by decide +kernel
theorem er_pair_of : erFn (isFL L) gcB (kcL KS) e_pair_of.fd e_pair_of.st = true := by decide +kernel
theorem er_accepts : erFn (isFL L) gcB (kcL KS) e_accepts.fd e_accepts.st = true := by decide +kernel
theorem er_Table___init__ : erFn (isFL L) gcB (kcL KS) e_Table___init__.fd e_Table___init__.st = true := by decide +kernel
theorem er_Table_letter : erFn (isFL L) gcB (kcL KS) e_Table_letter.fd e_Table_letter.st = true := by decide +kernel
theorem er_Table_join : erFn (isFL L) gcB (kcL KS) e_Table_join.fd e_Table_join.st = true := by decide +kernel
theorem er_Table_takes : erFn (isFL L) gcB (kcL KS) e_Table_takes.fd e_Table_takes.st = true := by decide +kernel
theorem er_listed : erFn (isFL L) gcB (kcL KS) e_listed.fd e_listed.st = true := by decide +kernel
theorem er_product_row : erFn (isFL L) gcB (kcL KS) e_product_row.fd e_product_row.st = true := by decide +kernel
theorem er_made_reader : erFn (isFL L) gcB (kcL KS) e_made_reader.fd e_made_reader.st = true := by decide +kernel
theorem er_tidy : erFn (isFL L) gcB (kcL KS) e_tidy.fd e_tidy.st = true := by decide +kernel
theorem er_settled : erFn (isFL L) gcB (kcL KS) e_settled.fd e_settled.st = true := by decide +kernel
theorem er__law_draw : erFn (isFL L) gcB (kcL KS) e__law_draw.fd e__law_draw.st = true := by decide +kernel
theorem er__law_functions : erFn (isFL L) gcB (kcL KS) e__law_functions.fd e__law_functions.st = true := by decide +kernel
theorem er__law_product : erFn (isFL L) gcB (kcL KS) e__law_product.fd e__law_product.st = true := by decide +kernel
theorem er__law_table : erFn (isFL L) gcB (kcL KS) e__law_table.fd e__law_table.st = true := by decide +kernel
theorem er__law_mixed : erFn (isFL L) gcB (kcL KS) e__law_mixed.fd e__law_mixed.st = true := by decide +kernel
theorem er__law_linked : erFn (isFL L) gcB (kcL KS) e__law_linked.fd e__law_linked.st = true := by decide +kernel
theorem er__law_turns : erFn (isFL L) gcB (kcL KS) e__law_turns.fd e__law_turns.st = true := by decide +kernel
theorem er__law_reader : erFn (isFL L) gcB (kcL KS) e__law_reader.fd e__law_reader.st = true := by decide +kernel
theorem er__law_row : erFn (isFL L) gcB (kcL KS) e__law_row.fd e__law_row.st = true := by decide +kernel
theorem er__law_word : erFn (isFL L) gcB (kcL KS) e__law_word.fd e__law_word.st = true := by decide +kernel
theorem er__law_worth : erFn (isFL L) gcB (kcL KS) e__law_worth.fd e__law_worth.st = true := by decide +kernel
theorem er__law_found : erFn (isFL L) gcB (kcL KS) e__law_found.fd e__law_found.st = true := by decide +kernel
theorem er__law_tidied : erFn (isFL L) gcB (kcL KS) e__law_tidied.fd e__law_tidied.st = true := by decide +kernel
theorem er_law : erFn (isFL L) gcB (kcL KS) e_law.fd e_law.st = true := by decide +kernel
theorem bd_is_linked : e_is_linked.Bds := fun _ _ _ _ _ _ us hl => match us, hl with | [_, _, _], _ => rfl
theorem bd_value : e_value.Bds := fun _ _ _ _ _ _ us hl => match us, hl with | [_, _], _ => rfl
theorem bd_settled_value : e_settled_value.Bds := fun _ _ _ _ _ _ us hl => match us, hl with | [_, _], _ => rfl
theorem bd_pair_of : e_pair_of.Bds := fun _ _ _ _ _ _ us hl => match us, hl with | [_, _], _ => rfl
theorem bd_accepts : e_accepts.Bds := fun _ _ _ _ _ _ us hl => match us, hl with | [_, _], _ => rfl
theorem bd_Table___init__ : e_Table___init__.Bds := fun _ _ _ _ _ _ us hl => match us, hl with | [_, _], _ => rfl
theorem bd_Table_letter : e_Table_letter.Bds := fun _ _ _ _ _ _ us hl => match us, hl with | [_, _], _ => rfl
theorem bd_Table_join : e_Table_join.Bds := fun _ _ _ _ _ _ us hl => match us, hl with | [_, _, _], _ => rfl
theorem bd_Table_takes : e_Table_takes.Bds := fun _ _ _ _ _ _ us hl => match us, hl with | [_, _, _], _ => rfl
theorem bd_listed : e_listed.Bds := fun _ _ _ _ _ _ us hl => match us, hl with | [_, _], _ => rfl
theorem bd_product_row : e_product_row.Bds := fun _ _ _ _ _ _ us hl => match us, hl with | [_, _, _], _ => rfl
theorem bd_made_reader : e_made_reader.Bds := fun _ _ _ _ _ _ us hl => match us, hl with | [_, _], _ => rfl
theorem bd_tidy : e_tidy.Bds := fun _ _ _ _ _ _ us hl => match us, hl with | [_], _ => rfl
theorem bd_settled : e_settled.Bds := fun _ _ _ _ _ _ us hl => match us, hl with | [_, _], _ => rfl
theorem bd__law_draw : e__law_draw.Bds := fun _ _ _ _ _ _ us hl => match us, hl with | [_, _], _ => rfl
theorem bd__law_functions : e__law_functions.Bds := fun _ _ _ _ _ _ us hl => match us, hl with | [_], _ => rfl
theorem bd__law_product : e__law_product.Bds := fun _ _ _ _ _ _ us hl => match us, hl with | [_, _, _, _], _ => rfl
theorem bd__law_table : e__law_table.Bds := fun _ _ _ _ _ _ us hl => match us, hl with | [_], _ => rfl
theorem bd__law_mixed : e__law_mixed.Bds := fun _ _ _ _ _ _ us hl => match us, hl with | [_, _], _ => rfl
theorem bd__law_linked : e__law_linked.Bds := fun _ _ _ _ _ _ us hl => match us, hl with | [_], _ => rfl
theorem bd__law_turns : e__law_turns.Bds := fun _ _ _ _ _ _ us hl => match us, hl with | [_, _], _ => rfl
theorem bd__law_reader : e__law_reader.Bds := fun _ _ _ _ _ _ us hl => match us, hl with | [_, _], _ => rfl
theorem bd__law_row : e__law_row.Bds := fun _ _ _ _ _ _ us hl => match us, hl with | [_, _, _, _], _ => rfl
theorem bd__law_word : e__law_word.Bds := fun _ _ _ _ _ _ us hl => match us, hl with | [_, _, _], _ => rfl
theorem bd__law_worth : e__law_worth.Bds := fun _ _ _ _ _ _ us hl => match us, hl with | [_, _], _ => rfl
theorem bd__law_found : e__law_found.Bds := fun _ _ _ _ _ _ us hl => match us, hl with | [_], _ => rfl
theorem bd__law_tidied : e__law_tidied.Bds := fun _ _ _ _ _ _ us hl => match us, hl with | [_], _ => rfl
theorem bd_law : e_law.Bds := fun _ _ _ _ _ _ us hl => match us, hl with | [_], _ => rfl
theorem er_all : ∀ e ∈ L, erFn (isFL L) gcB (kcL KS) e.fd e.st = true := List.forall_mem_cons.mpr ⟨er_is_linked, List.forall_mem_cons.mpr ⟨er_value, List.forall_mem_cons.mpr ⟨er_settled_value, List.forall_mem_cons.mpr ⟨er_pair_of, List.forall_mem_cons.mpr ⟨er_accepts, List.forall_mem_cons.mpr ⟨er_Table___init__, List.forall_mem_cons.mpr ⟨er_Table_letter, List.forall_mem_cons.mpr ⟨er_Table_join, List.forall_mem_cons.mpr ⟨er_Table_takes, List.forall_mem_cons.mpr ⟨er_listed, List.forall_mem_cons.mpr ⟨er_product_row, List.forall_mem_cons.mpr ⟨er_made_reader, List.forall_mem_cons.mpr ⟨er_tidy, List.forall_mem_cons.mpr ⟨er_settled, List.forall_mem_cons.mpr ⟨er__law_draw, List.forall_mem_cons.mpr ⟨er__law_functions, List.forall_mem_cons.mpr ⟨er__law_product, List.forall_mem_cons.mpr ⟨er__law_table, List.forall_mem_cons.mpr ⟨er__law_mixed, List.forall_mem_cons.mpr ⟨er__law_linked, List.forall_mem_cons.mpr ⟨er__law_turns, List.forall_mem_cons.mpr ⟨er__law_reader, List.forall_mem_cons.mpr ⟨er__law_row, List.forall_mem_cons.mpr ⟨er__law_word, List.forall_mem_cons.mpr ⟨er__law_worth, List.forall_mem_cons.mpr ⟨er__law_found, List.forall_mem_cons.mpr ⟨er__law_tidied, List.forall_mem_cons.mpr ⟨er_law, fun _ h => nomatch h⟩⟩⟩⟩⟩⟩⟩⟩⟩⟩⟩⟩⟩⟩⟩⟩⟩⟩⟩⟩⟩⟩⟩⟩⟩⟩⟩⟩
theorem bd_all : ∀ e ∈ L, e.Bds := List.forall_mem_cons.mpr ⟨bd_is_linked, List.forall_mem_cons.mpr ⟨bd_value, List.forall_mem_cons.mpr ⟨bd_settled_value, List.forall_mem_cons.mpr ⟨bd_pair_of, List.forall_mem_cons.mpr ⟨bd_accepts, List.forall_mem_cons.mpr ⟨bd_Table___init__, List.forall_mem_cons.mpr ⟨bd_Table_letter, List.forall_mem_cons.mpr ⟨bd_Table_join, List.forall_mem_cons.mpr ⟨bd_Table_takes, List.forall_mem_cons.mpr ⟨bd_listed, List.forall_mem_cons.mpr ⟨bd_product_row, List.forall_mem_cons.mpr ⟨bd_made_reader, List.forall_mem_cons.mpr ⟨bd_tidy, List.forall_mem_cons.mpr ⟨bd_settled, List.forall_mem_cons.mpr ⟨bd__law_draw, List.forall_mem_cons.mpr ⟨bd__law_functions, List.forall_mem_cons.mpr ⟨bd__law_product, List.forall_mem_cons.mpr ⟨bd__law_table, List.forall_mem_cons.mpr ⟨bd__law_mixed, List.forall_mem_cons.mpr ⟨bd__law_linked, List.forall_mem_cons.mpr ⟨bd__law_turns, List.forall_mem_cons.mpr ⟨bd__law_reader, List.forall_mem_cons.mpr ⟨bd__law_row, List.forall_mem_cons.mpr ⟨bd__law_word, List.forall_mem_cons.mpr ⟨bd__law_worth, List.forall_mem_cons.mpr ⟨bd__law_found, List.forall_mem_cons.mpr ⟨bd__law_tidied, List.forall_mem_cons.mpr ⟨bd_law, fun _ h => nomatch h⟩⟩⟩⟩⟩⟩⟩⟩⟩⟩⟩⟩⟩⟩⟩⟩⟩⟩⟩⟩⟩⟩⟩⟩⟩⟩⟩⟩
theorem law_mem : e_law ∈ L := List.mem_of_getElem? (i := 27) rfl
end DL
end

section
set_option maxRecDepth 100000
set_option maxHeartbeats 8000000
/-! DS: reckoning with programs of the language: equality of data by their form, drawing, loops. -/
namespace DL
open PySem
/-- how a def ends -/
def finO (o : Out S Fl) : Out (List MO) D := match o with
  | .ok (.rt d) s => .ok d s.mem
  | .ok .nx s => .ok .non s.mem
  | .exc x s => .exc x s.mem
  | _ => .bad
theorem run_def {T : String → Option FD} {n : Nat} {f : String} {ds : List D} {m : List MO} {fd : FD} (hT : T f = some fd) (hl : ds.length = fd.np) : run T (n + 1) f ds m = finO (ex (run T n) fd.body ⟨ds.map Sl.val ++ List.replicate (fd.names.length - ds.length) .non, m⟩) := by
  simp only [run, hT, if_pos hl]
  rfl
/-! ### one step of each form (loops apart) -/
theorem e_var (cf : CF) (i : Nat) (s : S) : evR cf (.var i) s = (match s.env[i]? with
    | some (.val _) => .ok (.pl (.slot i)) s
    | some (.own _) => .ok (.pl (.slot i)) s
    | _ => .bad) := rfl
theorem e_int (cf : CF) (i : Int) (s : S) : evR cf (.int i) s = (.ok (.pl (.d (.int i))) s) := rfl
theorem e_bl (cf : CF) (b : Bool) (s : S) : evR cf (.bl b) s = (.ok (.pl (.d (.bl b))) s) := rfl
theorem e_non (cf : CF)  (s : S) : evR cf (.non) s = (.ok (.pl (.d .non)) s) := rfl
theorem e_str (cf : CF) (x : Str) (s : S) : evR cf (.str x) s = (.ok (.pl (.d (.str x))) s) := rfl
theorem e_glob (cf : CF) (y0 : Str) (d : D) (s : S) : evR cf (.glob y0 d) s = (.ok (.pl (.d d)) s) := rfl
theorem e_bin (cf : CF) (op : BOp) (a : E) (b : E) (s : S) : evR cf (.bin op a b) s = ((evR cf a s).bind fun p s => (evR cf b s).bind fun q s => onD2 (binO op) (toP p) (toP q) s) := rfl
theorem e_neg (cf : CF) (a : E) (s : S) : evR cf (.neg a) s = ((evR cf a s).bind fun p s => (isI (toP p) s).bind fun i s => .ok (.pl (.d (.int (-i)))) s) := rfl
theorem e_cmp (cf : CF) (op : COp) (a : E) (b : E) (s : S) : evR cf (.cmp op a b) s = ((evR cf a s).bind fun p s => (evR cf b s).bind fun q s => onD2 (fun x y => (cmpO op x y).map fun k => .pl (.d (.bl k))) (toP p) (toP q) s) := rfl
theorem e_chain (cf : CF) (op : COp) (op2 : COp) (a : E) (b : E) (c : E) (s : S) : evR cf (.chain op op2 a b c) s = ((evR cf a s).bind fun p s => (evR cf b s).bind fun q s => (onD2 (fun x y => (cmpO op x y).map fun k => .pl (.d (.bl k))) (toP p) (toP q) s).bind fun k s =>
      (isB (toP k) s).bind fun k s => if k then (evR cf c s).bind fun r s => onD2 (fun x y => (cmpO op2 x y).map fun k => .pl (.d (.bl k))) (toP q) (toP r) s else .ok (.pl (.d (.bl false))) s) := rfl
theorem e_bool (cf : CF) (w : Bool) (as : A) (s : S) : evR cf (.bool w as) s = (evB cf w as s) := rfl
theorem e_not (cf : CF) (a : E) (s : S) : evR cf (.not a) s = ((evR cf a s).bind fun p s => (isT (toP p) s).bind fun k s => .ok (.pl (.d (.bl (!k)))) s) := rfl
theorem e_ite (cf : CF) (c : E) (a : E) (b : E) (s : S) : evR cf (.ite c a b) s = ((evR cf c s).bind fun p s => (isT (toP p) s).bind fun k s => if k then evR cf a s else evR cf b s) := rfl
theorem e_idx (cf : CF) (a : E) (b : E) (s : S) : evR cf (.idx a b) s = ((evR cf a s).bind fun p s => (evR cf b s).bind fun q s => onD2 (fun x y => (idxO x y).map fun d => .pl (.d d)) (toP p) (toP q) s) := rfl
theorem e_slc (cf : CF) (a : E) (lo : E) (hi : E) (s : S) : evR cf (.slc a lo hi) s = ((evR cf a s).bind fun p s => (if isHole lo then .ok none s else (evR cf lo s).bind fun l s => (isI (toP l) s).bind fun i s => .ok (some i) s).bind fun l s =>
      (if isHole hi then .ok none s else (evR cf hi s).bind fun l s => (isI (toP l) s).bind fun i s => .ok (some i) s).bind fun h s => onD (fun x => slcO x l h) (toP p) s) := rfl
theorem e_tup (cf : CF) (as : A) (s : S) : evR cf (.tup as) s = ((evA cf as s).bind fun ps s => (escs ps s).bind fun ds s => if ds.length ≤ lim then .ok (.pl (.d (.tup ds))) s else .bad) := rfl
theorem e_lst (cf : CF) (as : A) (s : S) : evR cf (.lst as) s = ((evA cf as s).bind fun ps s => (escs ps s).bind fun ds s => if ds.length ≤ lim then .ok (.mo (.lst ds)) s else .bad) := rfl
theorem e_call (cf : CF) (f : String) (as : A) (s : S) : evR cf (.call f as) s = ((evA cf as s).bind fun ps s => (escs ps s).bind fun ds s => (inMem s.env (cf f ds s.mem)).bind fun d s => .ok (.pl (.d d)) s) := rfl
theorem e_blt (cf : CF) (b : Blt) (as : A) (s : S) : evR cf (.blt b as) s = ((evA cf as s).bind fun ps s => Out.ofOpt ((views s ps).bind (bltO b)) s) := rfl
theorem e_lrg1 (cf : CF) (a : E) (s : S) : evR cf (.lrg1 a) s = ((evR cf a s).bind fun p s => (isI (toP p) s).bind fun j s => if smallR 0 j then .ok (.mo (.lst (rngD 0 j.toNat))) s else .bad) := rfl
theorem e_lrg2 (cf : CF) (a : E) (b : E) (s : S) : evR cf (.lrg2 a b) s = ((evR cf a s).bind fun p s => (evR cf b s).bind fun q s => (isI (toP p) s).bind fun i s => (isI (toP q) s).bind fun j s => if smallR i j then .ok (.mo (.lst (rngD i (j - i).toNat))) s else .bad) := rfl
theorem x_skip (cf : CF)  (s : S) : ex cf (.skip) s = (.ok .nx s) := rfl
theorem x_seq (cf : CF) (a : C) (b : C) (s : S) : ex cf (.seq a b) s = ((ex cf a s).bind fun f s => match f with
    | .nx => ex cf b s
    | f => .ok f s) := rfl
theorem x_asg (cf : CF) (t : Tg) (e : E) (s : S) : ex cf (.asg t e) s = ((evR cf e s).bind fun r s => (esc (toP r) s).bind fun d s => (Out.ofOpt (asgT t d s) s).bind fun s _ => .ok .nx s) := rfl
theorem x_own (cf : CF) (i : Nat) (e : E) (s : S) : ex cf (.own i e) s = ((evR cf e s).bind fun r s => match r with
    | .mo m => .ok .nx { s with env := s.env.set i (.own m) }
    | _ => .bad) := rfl
theorem x_shr (cf : CF) (i : Nat) (e : E) (s : S) : ex cf (.shr i e) s = ((evR cf e s).bind fun r s => match r with
    | .mo m => .ok .nx ⟨s.env.set i (.val (.ref s.mem.length)), s.mem ++ [m]⟩
    | _ => .bad) := rfl
theorem x_par (cf : CF) (i : Nat) (j : Nat) (a : E) (b : E) (s : S) : ex cf (.par i j a b) s = ((evR cf a s).bind fun p s => (evR cf b s).bind fun q s => (esc (toP p) s).bind fun d s => (esc (toP q) s).bind fun e s => .ok .nx { s with env := (s.env.set i (.val d)).set j (.val e) }) := rfl
theorem x_aug (cf : CF) (i : Nat) (op : BOp) (e : E) (s : S) : ex cf (.aug i op e) s = (match s.env[i]? with
    | some (.val x) => (evR cf e s).bind fun q s => (Out.ofOpt ((view s (toP q)).bind fun y => augO op x y) s).bind fun d s => .ok .nx { s with env := s.env.set i (.val d) }
    | _ => .bad) := rfl
theorem x_put (cf : CF) (o : E) (i : E) (e : E) (s : S) : ex cf (.put o i e) s = ((evR cf e s).bind fun r s => (esc (toP r) s).bind fun d s => (evR cf o s).bind fun p s => (evR cf i s).bind fun q s => (esc (toP q) s).bind fun k s =>
      (Out.ofOpt (putO (toP p) k d s) s).bind fun s _ => .ok .nx s) := rfl
theorem x_app (cf : CF) (o : E) (e : E) (s : S) : ex cf (.app o e) s = ((evR cf o s).bind fun p s => if isLst (toP p) s then (evR cf e s).bind fun r s => (esc (toP r) s).bind fun d s => (Out.ofOpt (appO (toP p) d s) s).bind fun s _ => .ok .nx s else .bad) := rfl
theorem x_ext (cf : CF) (i : Nat) (e : E) (s : S) : ex cf (.ext i e) s = (match s.env[i]? with
    | some (.own _) => (evR cf e s).bind fun r s => (esc (toP r) s).bind fun d s => (Out.ofOpt (extO i d s) s).bind fun s _ => .ok .nx s
    | _ => .bad) := rfl
theorem x_iff (cf : CF) (c : E) (a : C) (b : C) (s : S) : ex cf (.iff c a b) s = ((evR cf c s).bind fun p s => (isT (toP p) s).bind fun k s => if k then ex cf a s else ex cf b s) := rfl
theorem x_ret (cf : CF) (e : E) (s : S) : ex cf (.ret e) s = ((evR cf e s).bind fun r s => (esc (toP r) s).bind fun d s => .ok (.rt d) s) := rfl
theorem x_retN (cf : CF)  (s : S) : ex cf (.retN) s = (.ok (.rt .non) s) := rfl
theorem x_brk (cf : CF)  (s : S) : ex cf (.brk) s = (.ok .bk s) := rfl
theorem x_cont (cf : CF)  (s : S) : ex cf (.cont) s = (.ok .ct s) := rfl
theorem x_exp (cf : CF) (e : E) (s : S) : ex cf (.exp e) s = ((evR cf e s).bind fun _ s => .ok .nx s) := rfl
theorem x_whl (cf : CF) (c : E) (b : C) (s : S) : ex cf (.whl c b) s = whlL (fun s => (evR cf c s).bind fun p s => isT (toP p) s) (ex cf b) turns s := rfl
theorem x_for (cf : CF) (t : Tg) (it : I) (b : C) (s : S) : ex cf (.for t it b) s = ((evI cf it s).bind fun ds s => forL (fun d s => (Out.ofOpt (asgT t d s) s).bind fun s _ => ex cf b s) ds s) := rfl
theorem e_lc (cf : CF) (own : List Nat) (t : Tg) (it : I) (ifs : A) (elt : E) (s : S) : evR cf (.lc own t it ifs elt) s = ((evI cf it s).bind fun ds s => if ds.length ≤ lim then (lcL own (fun d s => (Out.ofOpt (asgT t d s) s).bind fun s _ => (evC cf ifs s).bind fun k s =>
      if k then (evR cf elt s).bind fun r s => (esc (toP r) s).bind fun d s => .ok (some d) s else .ok none s) ds s).bind fun rs s1 => .ok (.mo (.lst rs)) { s1 with env := back s.env s1.env own } else .bad) := rfl
theorem e_gx (cf : CF) (stop : Bool) (own : List Nat) (t : Tg) (it : I) (ifs : A) (elt : E) (s : S) : evR cf (.gx stop own t it ifs elt) s = ((evI cf it s).bind fun ds s => (gxL own stop (fun d s => (Out.ofOpt (asgT t d s) s).bind fun s _ => (evC cf ifs s).bind fun k s =>
      if k then (evR cf elt s).bind fun r s => (isB (toP r) s).bind fun b s => .ok (some b) s else .ok none s) ds s).bind fun b s1 => .ok (.pl (.d (.bl b))) { s1 with env := back s.env s1.env own }) := rfl
/-! ### data by their form -/
structure Enc (α : Type) [DecidableEq α] where
  d : α → D
  p : α → PyData
  k : Nat
  pd : ∀ a, (d a).pd = some (p a)
  eqv : ∀ a b, (p a).eqv (p b) = decide (a = b)
  lay : ∀ a, (p a).canLay0 = true
  dep : ∀ a, (p a).depth ≤ k
section
variable {α β γ : Type} [DecidableEq α] [DecidableEq β] [DecidableEq γ]
theorem Enc.eqO (e : Enc α) (hk : e.k ≤ 64) (a b : α) : eqO (e.d a) (e.d b) = some (decide (a = b)) := by
  have s : ∀ a, SeqAt.shaped (e.p a) = true := fun a => by
    unfold SeqAt.shaped
    rw [e.lay a, Bool.true_and, decide_eq_true_eq]
    exact Nat.le_trans (e.dep a) hk
  unfold DL.eqO
  rw [e.pd, e.pd]
  simp only [s a, s b, Bool.and_self, if_true, e.eqv]
theorem pds_map (e : Enc α) : ∀ l : List α, D.pds (l.map e.d) = some (l.map e.p)
  | [] => by simp [D.pds]
  | a :: l => by simp [D.pds, e.pd, pds_map e l]
theorem eqvAll_map (e : Enc α) : ∀ l m : List α, PyData.eqvAll (l.map e.p) (m.map e.p) = decide (l = m)
  | [], [] => by simp [PyData.eqvAll]
  | [], b :: m => by simp [PyData.eqvAll]
  | a :: l, [] => by simp [PyData.eqvAll]
  | a :: l, b :: m => by
    simp only [List.map_cons, PyData.eqvAll, e.eqv, eqvAll_map e l m, List.cons.injEq]
    by_cases h1 : a = b <;> by_cases h2 : l = m <;> simp [h1, h2]
theorem layAll_map (e : Enc α) : ∀ l : List α, PyData.canLayAll0 (l.map e.p) = true
  | [] => by simp [PyData.canLayAll0]
  | a :: l => by simp [PyData.canLayAll0, e.lay, layAll_map e l]
theorem depAll_map (e : Enc α) : ∀ l : List α, PyData.depthAll (l.map e.p) ≤ e.k
  | [] => by simp [PyData.depthAll]
  | a :: l => by
    simp only [List.map_cons, PyData.depthAll]
    exact Nat.max_le.mpr ⟨e.dep a, depAll_map e l⟩
def encI : Enc Int := ⟨.int, .int, 0, fun a => by simp [D.pd], fun a b => by simp only [PyData.eqv]; by_cases h : a = b <;> simp [h], fun a => by simp [PyData.canLay0], fun a => by simp [PyData.depth]⟩
def encB : Enc Bool := ⟨.bl, .bool, 0, fun a => by simp [D.pd], fun a b => by simp only [PyData.eqv]; cases a <;> cases b <;> rfl, fun a => by simp [PyData.canLay0], fun a => by simp [PyData.depth]⟩
def encL (e : Enc α) : Enc (List α) := ⟨fun l => .lst (l.map e.d), fun l => .list (l.map e.p), e.k + 1, fun l => by simp [D.pd, pds_map], fun l m => by simp only [PyData.eqv, eqvAll_map], fun l => by simp only [PyData.canLay0, layAll_map], fun l => by simp only [PyData.depth]; exact Nat.succ_le_succ (depAll_map e l)⟩
def encTl (e : Enc α) : Enc (List α) := ⟨fun l => .tup (l.map e.d), fun l => .tuple (l.map e.p), e.k + 1, fun l => by simp [D.pd, pds_map], fun l m => by simp only [PyData.eqv, eqvAll_map], fun l => by simp only [PyData.canLay0, layAll_map], fun l => by simp only [PyData.depth]; exact Nat.succ_le_succ (depAll_map e l)⟩
def encP (e : Enc α) (f : Enc β) : Enc (α × β) := ⟨fun x => .tup [e.d x.1, f.d x.2], fun x => .tuple [e.p x.1, f.p x.2], max e.k f.k + 1, fun x => by simp [D.pd, D.pds, e.pd, f.pd], fun x y => by
    simp only [PyData.eqv, PyData.eqvAll, e.eqv, f.eqv, Bool.and_true]
    cases x; cases y
    simp only [Prod.mk.injEq]
    rename_i a b c d
    by_cases h1 : a = c <;> by_cases h2 : b = d <;> simp [h1, h2], fun x => by simp [PyData.canLay0, PyData.canLayAll0, e.lay, f.lay], fun x => by
    simp only [PyData.depth, PyData.depthAll]
    have := e.dep x.1
    have := f.dep x.2
    omega⟩
def encT (e : Enc α) (f : Enc β) (g : Enc γ) : Enc (α × β × γ) := ⟨fun x => .tup [e.d x.1, f.d x.2.1, g.d x.2.2], fun x => .tuple [e.p x.1, f.p x.2.1, g.p x.2.2], max e.k (max f.k g.k) + 1, fun x => by simp [D.pd, D.pds, e.pd, f.pd, g.pd], fun x y => by
    simp only [PyData.eqv, PyData.eqvAll, e.eqv, f.eqv, g.eqv, Bool.and_true]
    obtain ⟨a, b, c⟩ := x
    obtain ⟨a', b', c'⟩ := y
    simp only [Prod.mk.injEq]
    by_cases h1 : a = a' <;> by_cases h2 : b = b' <;> by_cases h3 : c = c' <;> simp [h1, h2, h3], fun x => by simp [PyData.canLay0, PyData.canLayAll0, e.lay, f.lay, g.lay], fun x => by
    simp only [PyData.depth, PyData.depthAll]
    have := e.dep x.1
    have := f.dep x.2.1
    have := g.dep x.2.2
    omega⟩
end
/-! ### places -/
theorem ixN_nat {n j : Nat} (h : j < n) : L2.ixN n (j : Int) = some j := by
  unfold L2.ixN
  rw [if_pos (by omega), if_pos (by omega), Int.toNat_natCast]
theorem atI_lt {α : Type} {l : List α} {j : Nat} (h : j < l.length) : L2.atI l (j : Int) = some l[j] := by
  unfold L2.atI
  rw [ixN_nat h]
  exact List.getElem?_eq_getElem h
/-! ### drawing -/
def stD (ns : List Int) (a : Int) (p : Nat) (c : Int) : MO := .lst [.int a, .int p, .lst (ns.map D.int), .int c]
def dDraw : FD := ⟨2, ["_law_state", "_law_limit", "_law_digit", "_law_position", "_law_cell", "_law_mixed"],
 (.seq (.iff (.cmp .lt (.idx (.var 0) (.int 0)) (.var 1))
  (.seq (.asg (.name 3) (.idx (.var 0) (.int 1)))
  (.seq (.put (.var 0) (.int 1) (.bin .add (.var 3) (.int 1)))
  (.seq (.asg (.name 4) (.int 0))
  (.seq (.iff (.cmp .lt (.var 3) (.blt .len (.cons (.idx (.var 0) (.int 2)) .nil)))
   (.seq (.asg (.name 4) (.idx (.idx (.var 0) (.int 2)) (.var 3)))
   .skip)
   .skip)
  (.seq (.iff (.cmp .ge (.var 4) (.bin .pow (.int 10) (.int 18)))
   (.seq (.put (.var 0) (.int 0) (.var 4))
   .skip)
   (.seq (.put (.var 0) (.int 3) (.bin .mod (.blt .int (.cons (.bin .mul (.bin .add (.bin .add (.bin .add (.idx (.var 0) (.int 3)) (.bin .mod (.blt .int (.cons (.var 4) .nil)) (.int 2147483629))) (.var 3)) (.int 1)) (.int 48271)) .nil)) (.int 2147483647)))
   (.seq (.asg (.name 5) (.bin .mod (.blt .int (.cons (.bin .add (.bin .mul (.idx (.var 0) (.int 3)) (.int 69621)) (.int 11)) .nil)) (.int 2147483629)))
   (.seq (.put (.var 0) (.int 0) (.bin .add (.bin .mul (.var 5) (.int 2147483647)) (.bin .mod (.blt .int (.cons (.bin .add (.bin .mul (.var 5) (.int 30011)) (.idx (.var 0) (.int 3))) .nil)) (.int 2147483587))))
   .skip))))
  .skip)))))
  .skip)
 (.seq (.asg (.name 2) (.bin .mod (.blt .int (.cons (.idx (.var 0) (.int 0)) .nil)) (.var 1)))
 (.seq (.put (.var 0) (.int 0) (.bin .fdiv (.idx (.var 0) (.int 0)) (.var 1)))
 (.seq (.ret (.var 2))
 .skip))))⟩
def cellD (ns : List Int) (p : Nat) : Int := if h : p < ns.length then ns[p] else 0
def refill (ns : List Int) (lim a : Int) (p : Nat) (c : Int) : Int × Nat × Int :=
  if a < lim then (if 1000000000000000000 ≤ cellD ns p then (cellD ns p, p + 1, c) else
    let c' := (c + cellD ns p % 2147483629 + p + 1) * 48271 % 2147483647
    let m := (c' * 69621 + 11) % 2147483629
    (m * 2147483647 + (m * 30011 + c') % 2147483587, p + 1, c')) else (a, p, c)
theorem mulOk_r (i : Int) {j : Int} (h1 : -(2 ^ 64) < j) (h2 : j < 2 ^ 64) : mulOk i j = true := by
  unfold mulOk
  rw [Bool.or_eq_true]
  right
  rw [Bool.and_eq_true, decide_eq_true_eq, decide_eq_true_eq]
  exact ⟨h1, h2⟩
theorem draw_eq {T : String → Option FD} {nm : List Str} (hT : T "_law_draw" = some ⟨2, nm, dDraw.body⟩) (hn : nm.length = 6) (n r : Nat) (mem : List MO) (ns : List Int) (a : Int) (p : Nat) (c lim : Int) (h : mem[r]? = some (stD ns a p c)) (h0 : 0 < lim) (h1 : lim < 1073741824) :
    run T (n + 1) "_law_draw" [.ref r, .int lim] mem = .ok (.int ((refill ns lim a p c).1 % lim)) (mem.set r (stD ns ((refill ns lim a p c).1 / lim) (refill ns lim a p c).2.1 (refill ns lim a p c).2.2)) := by
  have hr : r < mem.length := (List.getElem?_eq_some_iff.mp h).1
  have m1 := fun i => mulOk_r i (j := 48271) (by decide) (by decide)
  have m2 := fun i => mulOk_r i (j := 69621) (by decide) (by decide)
  have m3 := fun i => mulOk_r i (j := 2147483647) (by decide) (by decide)
  have m4 := fun i => mulOk_r i (j := 30011) (by decide) (by decide)
  have i0 : ∀ (a b c d : D), L2.atI [a, b, c, d] 0 = some a := fun _ _ _ _ => rfl
  have i1 : ∀ (a b c d : D), L2.atI [a, b, c, d] 1 = some b := fun _ _ _ _ => rfl
  have i2 : ∀ (a b c d : D), L2.atI [a, b, c, d] 2 = some c := fun _ _ _ _ => rfl
  have i3 : ∀ (a b c d : D), L2.atI [a, b, c, d] 3 = some d := fun _ _ _ _ => rfl
  have n0 : L2.ixN 4 0 = some 0 := rfl
  have n1 : L2.ixN 4 1 = some 1 := rfl
  have n3 : L2.ixN 4 3 = some 3 := rfl
  have hp : ∀ b : D, L2.atI (ns.map D.int) (p : Int) = some b ↔ ∃ h : p < ns.length, b = .int ns[p] := fun b => by
    constructor
    · intro e
      by_cases hl : p < ns.length
      · rw [atI_lt (by simpa using hl)] at e
        exact ⟨hl, by have := Option.some.inj e; rw [← this]; simp⟩
      · exfalso
        unfold L2.atI L2.ixN at e
        rw [if_pos (by omega), if_neg (by simp; omega)] at e
        cases e
    · rintro ⟨hl, rfl⟩
      rw [atI_lt (by simpa using hl)]
      simp
  have g : ∀ m : MO, (mem.set r m)[r]? = some m := fun m => List.getElem?_set_self hr
  have ss : ∀ m m' : MO, (mem.set r m).set r m' = mem.set r m' := fun m m' => List.set_set ..
  have sz : ∀ m : MO, (mem.set r m).length = mem.length := fun m => List.length_set ..
  have pw : (10 : Int) ^ (18 : Int).toNat = 1000000000000000000 := by decide
  have q1 : (decide (0 ≤ (18 : Int)) && decide ((18 : Int) ≤ 1000000) && decide ((10 : Int).natAbs < 2 ^ 64)) = true := by decide
  have hs : ∀ (x : Int) (y : Nat) (z : Int), stD ns x y z = .lst [.int x, .int y, .lst (ns.map D.int), .int z] := fun _ _ _ => rfl
  have k1 : (decide (0 < lim) && decide (lim < 1073741824)) = true := by simp [h0, h1]
  have k2 : decide (0 < lim) = true := by simp [h0]
  have k6 : decide (lim < 1073741824) = true := by simp [h1]
  have k3 : decide ((0 : Int) < 2147483629) = true := by decide
  have k4 : decide ((0 : Int) < 2147483647) = true := by decide
  have k5 : decide ((0 : Int) < 2147483587) = true := by decide
  rw [hs] at h
  unfold refill
  rw [run_def hT rfl]
  generalize run T n = cf
  have cp : ((p + 1 : Nat) : Int) = (p : Int) + 1 := by omega
  by_cases ha : a < lim
  · by_cases hl : p < ns.length
    · have hcell : cellD ns p = ns[p] := by unfold cellD; rw [dif_pos hl]
      have e1 := (hp (.int ns[p])).mpr ⟨hl, rfl⟩
      have e2 : decide ((p : Int) < ((ns.map D.int).length : Nat)) = true := by simp [hl]
      by_cases hc : 1000000000000000000 ≤ ns[p]
      · simp only [hn, hcell, ha, hc, if_true, finO, List.length_cons, List.length_nil, if_true, e_var, e_int, e_bl, e_non, e_str, e_glob, e_bin, e_neg, e_cmp, e_chain, e_bool, e_not, e_ite, e_idx, e_slc, e_tup, e_lst, e_call, e_blt, e_lrg1, e_lrg2, x_skip, x_seq, x_asg, x_own, x_shr, x_par, x_aug, x_put, x_app, x_ext, x_iff, x_ret, x_retN, x_brk, x_cont, x_exp, evA, evB, evC, evI, List.map_cons, List.map_nil, List.replicate, List.cons_append, List.nil_append, List.getElem?_cons_zero, List.getElem?_cons_succ, List.getElem?_nil, Out.bind, esc, escs, toP, Out.ofOpt, asgT, asgTs, Option.bind, Option.map, List.set, view, views, onD, onD2, isT, isI, isB, drf, bltO, lenO, cmpO, truO, idxO, slcO, isHole, binO, MO.tree, reduceIte, inMem, putO, putM, appO, appM, extO, augO, isLst, wipeE, back, seqD, lstD, Bool.false_eq_true, if_false, Nat.add_one_sub_one, Nat.reduceAdd, Nat.reduceSub, Nat.sub_self, decide_true, decide_false, dDraw, h, i0, i1, i2, i3, n0, n1, n3, g, ss, hs, e1, e2, pw, q1, k1, k2, k6, Bool.and_self, decide_true, cp]
      · simp only [hn, hcell, ha, hc, if_true, if_false, finO, List.length_cons, List.length_nil, if_true, e_var, e_int, e_bl, e_non, e_str, e_glob, e_bin, e_neg, e_cmp, e_chain, e_bool, e_not, e_ite, e_idx, e_slc, e_tup, e_lst, e_call, e_blt, e_lrg1, e_lrg2, x_skip, x_seq, x_asg, x_own, x_shr, x_par, x_aug, x_put, x_app, x_ext, x_iff, x_ret, x_retN, x_brk, x_cont, x_exp, evA, evB, evC, evI, List.map_cons, List.map_nil, List.replicate, List.cons_append, List.nil_append, List.getElem?_cons_zero, List.getElem?_cons_succ, List.getElem?_nil, Out.bind, esc, escs, toP, Out.ofOpt, asgT, asgTs, Option.bind, Option.map, List.set, view, views, onD, onD2, isT, isI, isB, drf, bltO, lenO, cmpO, truO, idxO, slcO, isHole, binO, MO.tree, reduceIte, inMem, putO, putM, appO, appM, extO, augO, isLst, wipeE, back, seqD, lstD, Bool.false_eq_true, if_false, Nat.add_one_sub_one, Nat.reduceAdd, Nat.reduceSub, Nat.sub_self, decide_true, decide_false, dDraw, h, i0, i1, i2, i3, n0, n1, n3, g, ss, hs, e1, e2, pw, q1, k1, k2, k6, Bool.and_self, k3, k4, k5, m1, m2, m3, m4, decide_true, decide_false, cp]
    · have hcell : cellD ns p = 0 := by unfold cellD; rw [dif_neg hl]
      have e2 : decide ((p : Int) < ((ns.map D.int).length : Nat)) = false := by simp; omega
      have hc : ¬ (1000000000000000000 : Int) ≤ 0 := by decide
      simp only [hn, hcell, ha, hc, if_true, if_false, finO, List.length_cons, List.length_nil, if_true, e_var, e_int, e_bl, e_non, e_str, e_glob, e_bin, e_neg, e_cmp, e_chain, e_bool, e_not, e_ite, e_idx, e_slc, e_tup, e_lst, e_call, e_blt, e_lrg1, e_lrg2, x_skip, x_seq, x_asg, x_own, x_shr, x_par, x_aug, x_put, x_app, x_ext, x_iff, x_ret, x_retN, x_brk, x_cont, x_exp, evA, evB, evC, evI, List.map_cons, List.map_nil, List.replicate, List.cons_append, List.nil_append, List.getElem?_cons_zero, List.getElem?_cons_succ, List.getElem?_nil, Out.bind, esc, escs, toP, Out.ofOpt, asgT, asgTs, Option.bind, Option.map, List.set, view, views, onD, onD2, isT, isI, isB, drf, bltO, lenO, cmpO, truO, idxO, slcO, isHole, binO, MO.tree, reduceIte, inMem, putO, putM, appO, appM, extO, augO, isLst, wipeE, back, seqD, lstD, Bool.false_eq_true, if_false, Nat.add_one_sub_one, Nat.reduceAdd, Nat.reduceSub, Nat.sub_self, decide_true, decide_false, dDraw, h, i0, i1, i2, i3, n0, n1, n3, g, ss, hs, e2, pw, q1, k1, k2, k6, Bool.and_self, k3, k4, k5, m1, m2, m3, m4, decide_true, decide_false, cp]
  · simp only [hn, ha, if_false, finO, List.length_cons, List.length_nil, if_true, e_var, e_int, e_bl, e_non, e_str, e_glob, e_bin, e_neg, e_cmp, e_chain, e_bool, e_not, e_ite, e_idx, e_slc, e_tup, e_lst, e_call, e_blt, e_lrg1, e_lrg2, x_skip, x_seq, x_asg, x_own, x_shr, x_par, x_aug, x_put, x_app, x_ext, x_iff, x_ret, x_retN, x_brk, x_cont, x_exp, evA, evB, evC, evI, List.map_cons, List.map_nil, List.replicate, List.cons_append, List.nil_append, List.getElem?_cons_zero, List.getElem?_cons_succ, List.getElem?_nil, Out.bind, esc, escs, toP, Out.ofOpt, asgT, asgTs, Option.bind, Option.map, List.set, view, views, onD, onD2, isT, isI, isB, drf, bltO, lenO, cmpO, truO, idxO, slcO, isHole, binO, MO.tree, reduceIte, inMem, putO, putM, appO, appM, extO, augO, isLst, wipeE, back, seqD, lstD, Bool.false_eq_true, if_false, Nat.add_one_sub_one, Nat.reduceAdd, Nat.reduceSub, Nat.sub_self, decide_true, decide_false, dDraw, h, i0, i1, i2, i3, n0, n1, n3, g, ss, hs, k1, k2, k6, Bool.and_self, decide_false]
/-- the store's first thing is the law's state -/
def IsSt (mem : List MO) : Prop := ∃ ns a p c, mem = [stD ns a p c]
theorem draw_ok {T : String → Option FD} (hT : T "_law_draw" = some dDraw) (n : Nat) {mem : List MO} (h : IsSt mem) (lim : Int) (k : Nat) (hk : lim = k) (h0 : 0 < k) (h1 : k < 1073741824) :
    ∃ (d : Nat) (mem' : List MO), run T (n + 1) "_law_draw" [.ref 0, .int lim] mem = .ok (.int (d : Int)) mem' ∧ IsSt mem' ∧ d < k := by
  obtain ⟨ns, a, p, c, rfl⟩ := h
  have e := draw_eq (nm := dDraw.names) hT rfl n 0 [stD ns a p c] ns a p c lim rfl (by omega) (by omega)
  have m0 := Int.emod_nonneg (refill ns lim a p c).1 (show lim ≠ 0 by omega)
  have m1 := Int.emod_lt_of_pos (refill ns lim a p c).1 (show 0 < lim by omega)
  have k : (((refill ns lim a p c).1 % lim).toNat : Int) = (refill ns lim a p c).1 % lim := Int.toNat_of_nonneg m0
  refine ⟨((refill ns lim a p c).1 % lim).toNat, [stD ns ((refill ns lim a p c).1 / lim) (refill ns lim a p c).2.1 (refill ns lim a p c).2.2], ?_, ⟨_, _, _, _, rfl⟩, by omega⟩
  rw [k]
  exact e

/-! ### loops -/
theorem wipeE_get' {env : List Sl} {j : Nat} : ∀ {vs : List Nat}, j ∉ vs → (wipeE env vs)[j]? = env[j]?
  | [], _ => rfl
  | v :: vs, h => by
    simp only [List.mem_cons, not_or] at h
    unfold wipeE
    rw [List.getElem?_set_ne (Ne.symm h.1)]
    exact wipeE_get' h.2
theorem wipeE_len' {env : List Sl} : ∀ {vs : List Nat}, (wipeE env vs).length = env.length
  | [] => rfl
  | v :: vs => by unfold wipeE; rw [List.length_set]; exact wipeE_len'
theorem back_eq {env env' : List Sl} (own : List Nat) (hl : env'.length = env.length) (h : ∀ j, j ∉ own → env'[j]? = env[j]?) : ∀ vs : List Nat, (∀ v ∈ vs, v ∈ own) → (∀ j, (j ∈ vs ∨ j ∉ own) → (back env env' vs)[j]? = (back env env vs)[j]?) ∧ (back env env' vs).length = (back env env vs).length
  | [], _ => ⟨fun j hj => by
      rcases hj with z | z
      · cases z
      · exact h j z, hl⟩
  | v :: vs, hv => by
    obtain ⟨h1, h2⟩ := back_eq own hl h vs fun x hx => hv x (List.mem_cons_of_mem _ hx)
    refine ⟨fun j hj => ?_, by unfold back; rw [List.length_set, List.length_set, h2]⟩
    unfold back
    by_cases hjv : v = j
    · subst hjv
      by_cases hlt : v < (back env env' vs).length
      · rw [List.getElem?_set_self hlt, List.getElem?_set_self (by rw [← h2]; exact hlt)]
      · rw [List.getElem?_eq_none (by rw [List.length_set]; omega), List.getElem?_eq_none (by rw [List.length_set]; omega)]
    · rw [List.getElem?_set_ne hjv, List.getElem?_set_ne hjv]
      refine h1 j ?_
      rcases hj with z | z
      · rcases List.mem_cons.mp z with z | z
        · exact absurd z.symm hjv
        · exact .inl z
      · exact .inr z
/-- behind a comprehension -/
theorem back_wipe {env env' : List Sl} {own : List Nat} (h : wipeE env' own = wipeE env own) : back env env' own = back env env own := by
  have hl : env'.length = env.length := by
    have := congrArg List.length h
    rwa [wipeE_len', wipeE_len'] at this
  obtain ⟨h1, h2⟩ := back_eq own hl (fun j hj => by rw [← wipeE_get' hj, h, wipeE_get' hj]) own fun _ hv => hv
  apply List.ext_getElem?
  intro j
  by_cases hj : j ∈ own
  · exact h1 j (.inl hj)
  · exact h1 j (.inr hj)
/-- a comprehension that reckons -/
theorem lc_map {α : Type} {own : List Nat} {turn : D → S → Out S (Option D)} {env0 : List Sl} {mem : List MO} (enc f : α → D) : ∀ (l : List α), (∀ a ∈ l, ∃ env', turn (enc a) ⟨env0, mem⟩ = .ok (some (f a)) ⟨env', mem⟩ ∧ wipeE env' own = env0) →
    ∀ env, wipeE env own = env0 → ∃ env', lcL own turn (l.map enc) ⟨env, mem⟩ = .ok (l.map f) ⟨env', mem⟩ ∧ wipeE env' own = env0
  | [], _, env, he => ⟨env, rfl, he⟩
  | a :: l, h, env, he => by
    obtain ⟨env1, e1, he1⟩ := h a List.mem_cons_self
    obtain ⟨env2, e2, he2⟩ := lc_map enc f l (fun b hb => h b (List.mem_cons_of_mem _ hb)) env1 he1
    refine ⟨env2, ?_, he2⟩
    simp only [List.map_cons, lcL, he, e1, Out.bind, e2]
/-- a comprehension that draws -/
theorem lc_draw {own : List Nat} {turn : D → S → Out S (Option D)} {env0 : List Sl} {I : List MO → Prop} {P : D → Prop} : ∀ (l : List D), (∀ a ∈ l, ∀ mem, I mem → ∃ x env' mem', turn a ⟨env0, mem⟩ = .ok (some x) ⟨env', mem'⟩ ∧ wipeE env' own = env0 ∧ I mem' ∧ P x) →
    ∀ env mem, wipeE env own = env0 → I mem → ∃ rs env' mem', lcL own turn l ⟨env, mem⟩ = .ok rs ⟨env', mem'⟩ ∧ wipeE env' own = env0 ∧ I mem' ∧ rs.length = l.length ∧ ∀ x ∈ rs, P x
  | [], _, env, mem, he, hm => ⟨[], env, mem, rfl, he, hm, rfl, fun _ z => nomatch z⟩
  | a :: l, h, env, mem, he, hm => by
    obtain ⟨x, env1, mem1, e1, he1, hm1, hx⟩ := h a List.mem_cons_self mem hm
    obtain ⟨rs, env2, mem2, e2, he2, hm2, hl, hP⟩ := lc_draw l (fun b hb => h b (List.mem_cons_of_mem _ hb)) env1 mem1 he1 hm1
    refine ⟨x :: rs, env2, mem2, ?_, he2, hm2, by simp [hl], fun y hy => ?_⟩
    · simp only [lcL, he, e1, Out.bind, e2]
    · rcases List.mem_cons.mp hy with rfl | hy
      · exact hx
      · exact hP y hy
/-- all(..), any(..) that reckon -/
theorem gx_map {α : Type} {own : List Nat} {stop : Bool} {turn : D → S → Out S (Option Bool)} {env0 : List Sl} {mem : List MO} (enc : α → D) (f : α → Bool) : ∀ (l : List α), (∀ a ∈ l, ∃ env', turn (enc a) ⟨env0, mem⟩ = .ok (some (f a)) ⟨env', mem⟩ ∧ wipeE env' own = env0) →
    ∀ env, wipeE env own = env0 → ∃ env', gxL own stop turn (l.map enc) ⟨env, mem⟩ = .ok (if stop then l.any f else l.all f) ⟨env', mem⟩ ∧ wipeE env' own = env0
  | [], _, env, he => ⟨env, by cases stop <;> rfl, he⟩
  | a :: l, h, env, he => by
    obtain ⟨env1, e1, he1⟩ := h a List.mem_cons_self
    obtain ⟨env2, e2, he2⟩ := gx_map (stop := stop) enc f l (fun b hb => h b (List.mem_cons_of_mem _ hb)) env1 he1
    by_cases hf : f a = stop
    · refine ⟨env1, ?_, he1⟩
      simp only [List.map_cons, gxL, he, e1, Out.bind, hf, if_true]
      cases stop <;> simp [hf]
    · refine ⟨env2, ?_, he2⟩
      simp only [List.map_cons, gxL, he, e1, Out.bind, if_neg hf, List.any_cons, List.all_cons]
      cases stop with
      | false =>
        have : f a = true := by simpa using hf
        simpa [this] using e2
      | true =>
        have : f a = false := by simpa using hf
        simpa [this] using e2
/-- a for that reckons -/
theorem for_fold {α : Type} {turn : D → S → Out S Fl} (enc : α → D) (I : List α → S → Prop) : ∀ (l done : List α) (s : S), I done s → (∀ a ∈ l, ∀ (done : List α) (s : S), I done s → ∃ s', turn (enc a) s = .ok .nx s' ∧ I (done ++ [a]) s') →
    ∃ s', forL turn (l.map enc) s = .ok .nx s' ∧ I (done ++ l) s'
  | [], done, s, hI, _ => ⟨s, rfl, by simpa using hI⟩
  | a :: l, done, s, hI, h => by
    obtain ⟨s1, e1, h1⟩ := h a List.mem_cons_self done s hI
    obtain ⟨s2, e2, h2⟩ := for_fold enc I l (done ++ [a]) s1 h1 fun b hb => h b (List.mem_cons_of_mem _ hb)
    refine ⟨s2, ?_, by simpa using h2⟩
    simp only [List.map_cons, forL, e1, Out.bind, e2]

theorem for_ok {α : Type} {cf : CF} {tg : Tg} {it : I} {b : C} (enc : α → D) (J : List α → S → Prop) {l : List α} {s0 s1 : S} (hI : evI cf it s0 = .ok (l.map enc) s1) (h0 : J [] s1)
    (hstep : ∀ a ∈ l, ∀ (done : List α) (s : S), J done s → ∃ s', (Out.ofOpt (asgT tg (enc a) s) s).bind (fun s _ => ex cf b s) = .ok .nx s' ∧ J (done ++ [a]) s') : ∃ s', ex cf (.for tg it b) s0 = .ok .nx s' ∧ J l s' := by
  rw [x_for, hI]
  exact for_fold (turn := fun d s => (Out.ofOpt (asgT tg d s) s).bind fun s _ => ex cf b s) enc J l [] s1 h0 hstep
theorem it_seq {cf : CF} {i : Nat} {ds : List D} {s : S} (h : s.env[i]? = some (.val (.lst ds))) : evI cf (.seq (.var i)) s = .ok ds s := by
  simp only [evI, e_var, h, Out.bind, toP, esc, Out.ofOpt, seqD]
theorem lc_ok {α : Type} {cf : CF} {own : List Nat} {tg : Tg} {it : I} {ifs : A} {elt : E} (enc f : α → D) {l : List α} {s0 s1 : S} (hI : evI cf it s0 = .ok (l.map enc) s1) (hlim : l.length ≤ lim)
    (hstep : ∀ a ∈ l, ∃ env', (Out.ofOpt (asgT tg (enc a) ⟨wipeE s1.env own, s1.mem⟩) ⟨wipeE s1.env own, s1.mem⟩).bind (fun s _ => (evC cf ifs s).bind fun k s => if k then (evR cf elt s).bind fun r s => (esc (toP r) s).bind fun d s => .ok (some d) s else .ok none s) = .ok (some (f a)) ⟨env', s1.mem⟩ ∧ wipeE env' own = wipeE s1.env own) :
    evR cf (.lc own tg it ifs elt) s0 = .ok (.mo (.lst (l.map f))) ⟨back s1.env s1.env own, s1.mem⟩ := by
  obtain ⟨env', e, he⟩ := lc_map (turn := fun d s => (Out.ofOpt (asgT tg d s) s).bind fun s _ => (evC cf ifs s).bind fun k s => if k then (evR cf elt s).bind fun r s => (esc (toP r) s).bind fun d s => .ok (some d) s else .ok none s) (mem := s1.mem) enc f l hstep s1.env rfl
  rw [e_lc, hI]
  have hl : (l.map enc).length ≤ lim := by rw [List.length_map]; exact hlim
  show (if (l.map enc).length ≤ lim then _ else _) = _
  rw [if_pos hl]
  show (lcL own _ (l.map enc) ⟨s1.env, s1.mem⟩).bind _ = _
  rw [e]
  show Out.ok (Rz.mo (.lst (l.map f))) (⟨back s1.env env' own, s1.mem⟩ : S) = _
  rw [back_wipe he]
theorem lc_okD {cf : CF} {own : List Nat} {tg : Tg} {it : I} {ifs : A} {elt : E} {I : List MO → Prop} {P : D → Prop} {l : List D} {s0 s1 : S} (hI : evI cf it s0 = .ok l s1) (hlim : l.length ≤ lim) (h1 : I s1.mem)
    (hstep : ∀ a ∈ l, ∀ mem, I mem → ∃ x env' mem', (Out.ofOpt (asgT tg a ⟨wipeE s1.env own, mem⟩) ⟨wipeE s1.env own, mem⟩).bind (fun s _ => (evC cf ifs s).bind fun k s => if k then (evR cf elt s).bind fun r s => (esc (toP r) s).bind fun d s => .ok (some d) s else .ok none s) = .ok (some x) ⟨env', mem'⟩ ∧ wipeE env' own = wipeE s1.env own ∧ I mem' ∧ P x) :
    ∃ rs mem', evR cf (.lc own tg it ifs elt) s0 = .ok (.mo (.lst rs)) ⟨back s1.env s1.env own, mem'⟩ ∧ I mem' ∧ rs.length = l.length ∧ ∀ x ∈ rs, P x := by
  obtain ⟨rs, env', mem', e, he, hm, hl, hP⟩ := lc_draw (turn := fun d s => (Out.ofOpt (asgT tg d s) s).bind fun s _ => (evC cf ifs s).bind fun k s => if k then (evR cf elt s).bind fun r s => (esc (toP r) s).bind fun d s => .ok (some d) s else .ok none s) l hstep s1.env s1.mem rfl h1
  refine ⟨rs, mem', ?_, hm, hl, hP⟩
  rw [e_lc, hI]
  show (if l.length ≤ lim then _ else _) = _
  rw [if_pos hlim]
  show (lcL own _ l ⟨s1.env, s1.mem⟩).bind _ = _
  rw [e]
  show Out.ok (Rz.mo (.lst rs)) (⟨back s1.env env' own, mem'⟩ : S) = _
  rw [back_wipe he]
theorem gx_ok {α : Type} {cf : CF} {stop : Bool} {own : List Nat} {tg : Tg} {it : I} {ifs : A} {elt : E} (enc : α → D) (f : α → Bool) {l : List α} {s0 s1 : S} (hI : evI cf it s0 = .ok (l.map enc) s1)
    (hstep : ∀ a ∈ l, ∃ env', (Out.ofOpt (asgT tg (enc a) ⟨wipeE s1.env own, s1.mem⟩) ⟨wipeE s1.env own, s1.mem⟩).bind (fun s _ => (evC cf ifs s).bind fun k s => if k then (evR cf elt s).bind fun r s => (isB (toP r) s).bind fun b s => .ok (some b) s else .ok none s) = .ok (some (f a)) ⟨env', s1.mem⟩ ∧ wipeE env' own = wipeE s1.env own) :
    evR cf (.gx stop own tg it ifs elt) s0 = .ok (.pl (.d (.bl (if stop then l.any f else l.all f)))) ⟨back s1.env s1.env own, s1.mem⟩ := by
  obtain ⟨env', e, he⟩ := gx_map (stop := stop) (turn := fun d s => (Out.ofOpt (asgT tg d s) s).bind fun s _ => (evC cf ifs s).bind fun k s => if k then (evR cf elt s).bind fun r s => (isB (toP r) s).bind fun b s => .ok (some b) s else .ok none s) (mem := s1.mem) enc f l hstep s1.env rfl
  rw [e_gx, hI]
  show (gxL own stop _ (l.map enc) ⟨s1.env, s1.mem⟩).bind _ = _
  rw [e]
  show Out.ok (Rz.pl (.d (.bl _))) (⟨back s1.env env' own, s1.mem⟩ : S) = _
  rw [back_wipe he]
theorem rngD_map (lo : Int) (n : Nat) : rngD lo n = (List.range n).map fun k => D.int (lo + (k : Nat)) := rfl
theorem for_foldP {α : Type} {turn : D → S → Out S Fl} (enc : α → D) (J : List α → S → Prop) (l0 : List α) (h : ∀ (a : α) (done rest : List α) (s : S), l0 = done ++ a :: rest → J done s → ∃ s', turn (enc a) s = .ok .nx s' ∧ J (done ++ [a]) s') : ∀ (l done : List α) (s : S), l0 = done ++ l → J done s →
    ∃ s', forL turn (l.map enc) s = .ok .nx s' ∧ J l0 s'
  | [], done, s, e, hI => ⟨s, rfl, by rw [e]; simpa using hI⟩
  | a :: l, done, s, e, hI => by
    obtain ⟨s1, e1, h1⟩ := h a done l s e hI
    obtain ⟨s2, e2, h2⟩ := for_foldP enc J l0 h l (done ++ [a]) s1 (by rw [e]; simp) h1
    refine ⟨s2, ?_, h2⟩
    simp only [List.map_cons, forL, e1, Out.bind, e2]
/-- .. with what lies behind and ahead -/
theorem for_okP {α : Type} {cf : CF} {tg : Tg} {it : I} {b : C} (enc : α → D) (J : List α → S → Prop) {l : List α} {s0 s1 : S} (hI : evI cf it s0 = .ok (l.map enc) s1) (h0 : J [] s1)
    (hstep : ∀ (a : α) (done rest : List α) (s : S), l = done ++ a :: rest → J done s → ∃ s', (Out.ofOpt (asgT tg (enc a) s) s).bind (fun s _ => ex cf b s) = .ok .nx s' ∧ J (done ++ [a]) s') : ∃ s', ex cf (.for tg it b) s0 = .ok .nx s' ∧ J l s' := by
  rw [x_for, hI]
  exact for_foldP (turn := fun d s => (Out.ofOpt (asgT tg d s) s).bind fun s _ => ex cf b s) enc J l hstep l [] s1 rfl h0
end DL
end

section
set_option maxRecDepth 100000
set_option maxHeartbeats 8000000
/-! DS2: more reckoning. -/
namespace DL
open PySem
theorem it_tup {cf : CF} {i : Nat} {ds : List D} {s : S} (h : s.env[i]? = some (.val (.tup ds))) : evI cf (.seq (.var i)) s = .ok ds s := by
  simp only [evI, e_var, h, Out.bind, toP, esc, Out.ofOpt, seqD]
theorem small_ok' {i : Int} (h1 : -1 ≤ i) (h2 : i < 100000000) : small62 i = true := by
  unfold small62
  rw [Bool.and_eq_true, decide_eq_true_eq, decide_eq_true_eq]
  omega
theorem rng_map (k : Nat) : rngD 0 k = (List.range k).map fun m => D.int ((m : Nat) : Int) := by
  rw [rngD_map]
  exact List.map_congr_left fun k _ => by rw [Int.zero_add]
theorem and3 (cf : CF) (s : S) (a b c : E) (p q r : Bool) (h1 : evR cf a s = .ok (.pl (.d (.bl p))) s) (h2 : evR cf b s = .ok (.pl (.d (.bl q))) s) (h3 : evR cf c s = .ok (.pl (.d (.bl r))) s) :
    evR cf (.bool true (.cons a (.cons b (.cons c .nil)))) s = .ok (.pl (.d (.bl (p && (q && r))))) s := by
  have b1 : (true == true) = true := rfl
  have b2 : (false == true) = false := rfl
  cases p <;> cases q <;> simp only [e_bool, evB, h1, h2, h3, Out.bind, isB, toP, view, drf, Option.bind, Out.ofOpt, b1, b2, if_true, if_false, Bool.false_eq_true, Bool.true_and, Bool.false_and]
theorem not_ok {cf : CF} {s : S} {a : E} {p : Bool} (h : evR cf a s = .ok (.pl (.d (.bl p))) s) : evR cf (.not a) s = .ok (.pl (.d (.bl (!p)))) s := by
  simp only [e_not, h, Out.bind, isT, toP, view, drf, Option.bind, truO, Out.ofOpt]
theorem or2 {cf : CF} {s : S} {a b : E} {p q : Bool} (h1 : evR cf a s = .ok (.pl (.d (.bl p))) s) (h2 : evR cf b s = .ok (.pl (.d (.bl q))) s) : evR cf (.bool false (.cons a (.cons b .nil))) s = .ok (.pl (.d (.bl (p || q)))) s := by
  have b1 : (true == false) = false := rfl
  have b2 : (false == false) = true := rfl
  cases p <;> simp only [e_bool, evB, h1, h2, Out.bind, isB, toP, view, drf, Option.bind, Out.ofOpt, b1, b2, if_true, if_false, Bool.false_eq_true, Bool.true_or, Bool.false_or]
theorem iff_ret {cf : CF} {s : S} {c : E} {b : Bool} (h : evR cf c s = .ok (.pl (.d (.bl b))) s) : ex cf (.iff c (.seq (.ret (.bl false)) .skip) .skip) s = if b then .ok (.rt (.bl false)) s else .ok .nx s := by
  cases b <;> simp only [x_iff, h, Out.bind, isT, toP, view, drf, Option.bind, truO, Out.ofOpt, if_true, if_false, Bool.false_eq_true, x_seq, x_ret, x_skip, e_bl, esc]
theorem call2 {cf : CF} {s : S} {f : String} {i j : Nat} {x y d : D} (hi : s.env[i]? = some (.val x)) (hj : s.env[j]? = some (.val y)) (h : cf f [x, y] s.mem = .ok d s.mem) : evR cf (.call f (.cons (.var i) (.cons (.var j) .nil))) s = .ok (.pl (.d d)) s := by
  simp only [e_call, evA, e_var, hi, hj, Out.bind, toP, escs, esc, h, inMem]
theorem ret_ok {cf : CF} {s : S} {e : E} {d : D} (h : evR cf e s = .ok (.pl (.d d)) s) : ex cf (.seq (.ret e) .skip) s = .ok (.rt d) s := by
  simp only [x_seq, x_ret, h, Out.bind, toP, esc]
theorem seq_if {cf : CF} {s : S} {a b : C} {c : Bool} {d : D} {t : Out S Fl} (h : ex cf a s = if c then .ok (.rt d) s else .ok .nx s) (g : c = false → ex cf b s = t) : ex cf (.seq a b) s = if c then .ok (.rt d) s else t := by
  cases c with
  | true => rw [x_seq, h]; rfl
  | false => rw [x_seq, h, if_neg Bool.false_ne_true, if_neg Bool.false_ne_true]; exact g rfl
theorem seq_nx {cf : CF} {a b : C} {s s' : S} (h : ex cf a s = .ok .nx s') : ex cf (.seq a b) s = ex cf b s' := by
  rw [x_seq, h]; rfl
theorem nx_then {cf : CF} {a b : C} {s s' : S} {d : D} (h : ex cf a s = .ok .nx s') (g : ∃ t, ex cf b s' = .ok (.rt d) t) : ∃ t, ex cf (.seq a b) s = .ok (.rt d) t := let ⟨t, e⟩ := g; ⟨t, (seq_nx h).trans e⟩
theorem rt_then {cf : CF} {a b : C} {s t : S} {d : D} (h : ex cf a s = .ok (.rt d) t) : ∃ t, ex cf (.seq a b) s = .ok (.rt d) t := ⟨t, by rw [x_seq, h]; rfl⟩
theorem x_own_ok {cf : CF} {i : Nat} {e : E} {s s' : S} {m : MO} (h : evR cf e s = .ok (.mo m) s') : ex cf (.own i e) s = .ok .nx { s' with env := s'.env.set i (.own m) } := by
  rw [x_own, h]
  rfl
theorem seqD_own {cf : CF} {i : Nat} {ds : List D} {s : S} (h : s.env[i]? = some (.own (.lst ds))) : evI cf (.seq (.var i)) s = .ok ds ⟨s.env.set i (.val (.lst ds)), s.mem⟩ := by
  simp only [evI, e_var, h, Out.bind, toP, esc, Out.ofOpt, seqD, MO.tree]
/-- a comprehension that draws what it keeps -/
theorem lc_sub {α : Type} {own : List Nat} {turn : D → S → Out S (Option D)} {env0 : List Sl} {I : List MO → Prop} (enc : α → D) : ∀ (l : List α), (∀ a ∈ l, ∀ mem, I mem → ∃ (k : Bool) (env' : List Sl) (mem' : List MO), turn (enc a) ⟨env0, mem⟩ = .ok (if k then some (enc a) else none) ⟨env', mem'⟩ ∧ wipeE env' own = env0 ∧ I mem') →
    ∀ env mem, wipeE env own = env0 → I mem → ∃ (l' : List α) (env' : List Sl) (mem' : List MO), lcL own turn (l.map enc) ⟨env, mem⟩ = .ok (l'.map enc) ⟨env', mem'⟩ ∧ wipeE env' own = env0 ∧ I mem' ∧ l'.Sublist l
  | [], _, env, mem, he, hm => ⟨[], env, mem, rfl, he, hm, List.Sublist.refl _⟩
  | a :: l, h, env, mem, he, hm => by
    obtain ⟨k, env1, mem1, e1, he1, hm1⟩ := h a List.mem_cons_self mem hm
    obtain ⟨l', env2, mem2, e2, he2, hm2, hs⟩ := lc_sub enc l (fun b hb => h b (List.mem_cons_of_mem _ hb)) env1 mem1 he1 hm1
    cases k with
    | true =>
      refine ⟨a :: l', env2, mem2, ?_, he2, hm2, hs.cons₂ a⟩
      simp only [List.map_cons, lcL, he, e1, Out.bind, e2, if_true]
    | false =>
      refine ⟨l', env2, mem2, ?_, he2, hm2, hs.cons a⟩
      simp only [List.map_cons, lcL, he, e1, Out.bind, e2, if_false, Bool.false_eq_true]
theorem lc_okS {α : Type} {cf : CF} {own : List Nat} {tg : Tg} {it : I} {ifs : A} {elt : E} {J : List MO → Prop} (enc : α → D) {l : List α} {s0 s1 : S} (hI : evI cf it s0 = .ok (l.map enc) s1) (hlim : l.length ≤ lim) (h1 : J s1.mem)
    (hstep : ∀ a ∈ l, ∀ mem, J mem → ∃ (k : Bool) (env' : List Sl) (mem' : List MO), (Out.ofOpt (asgT tg (enc a) ⟨wipeE s1.env own, mem⟩) ⟨wipeE s1.env own, mem⟩).bind (fun s _ => (evC cf ifs s).bind fun k s => if k then (evR cf elt s).bind fun r s => (esc (toP r) s).bind fun d s => .ok (some d) s else .ok none s) = .ok (if k then some (enc a) else none) ⟨env', mem'⟩ ∧ wipeE env' own = wipeE s1.env own ∧ J mem') :
    ∃ (l' : List α) (mem' : List MO), evR cf (.lc own tg it ifs elt) s0 = .ok (.mo (.lst (l'.map enc))) ⟨back s1.env s1.env own, mem'⟩ ∧ J mem' ∧ l'.Sublist l := by
  obtain ⟨l', env', mem', e, he, hm, hs⟩ := lc_sub (turn := fun d s => (Out.ofOpt (asgT tg d s) s).bind fun s _ => (evC cf ifs s).bind fun k s => if k then (evR cf elt s).bind fun r s => (esc (toP r) s).bind fun d s => .ok (some d) s else .ok none s) enc l hstep s1.env s1.mem rfl h1
  refine ⟨l', mem', ?_, hm, hs⟩
  rw [e_lc, hI]
  have hl : (l.map enc).length ≤ lim := by rw [List.length_map]; exact hlim
  show (if (l.map enc).length ≤ lim then _ else _) = _
  rw [if_pos hl]
  show (lcL own _ (l.map enc) ⟨s1.env, s1.mem⟩).bind _ = _
  rw [e]
  show Out.ok (Rz.mo (.lst (l'.map enc))) (⟨back s1.env env' own, mem'⟩ : S) = _
  rw [back_wipe he]
/-! ### members -/
theorem Enc.shp {α : Type} [DecidableEq α] (e : Enc α) (hk : e.k ≤ 64) (a : α) : SeqAt.shaped (e.p a) = true := by
  unfold SeqAt.shaped
  rw [e.lay a, Bool.true_and, decide_eq_true_eq]
  exact Nat.le_trans (e.dep a) hk
theorem in_tup {α : Type} [DecidableEq α] (e : Enc α) (hk : e.k ≤ 60) (a : α) (l : List α) : inO (e.d a) (.tup (l.map e.d)) = some (l.any fun z => decide (z = a)) := by
  have h1 := e.shp (by omega) a
  have h2 : SeqAt.shaped (.tuple (l.map e.p)) = true := (encTl e).shp (by show e.k + 1 ≤ 64; omega) l
  unfold inO
  simp only [e.pd, pds_map, h1, h2, Bool.and_self, if_true, List.any_map]
  congr 1
  refine congrArg (fun f => List.any l f) (funext fun z => ?_)
  exact e.eqv z a
end DL
end

section
set_option maxRecDepth 100000
set_option maxHeartbeats 8000000
/-! DS3: reckoning where nothing is opened that is not reached yet. -/
namespace DL
open PySem
section
variable {cf : CF}
/-! ### what goes on behind a value (never opened before it is reached) -/
def k2 (cf : CF) (b : E) (K : Rz → Rz → S → Out S Rz) : Rz → S → Out S Rz := fun p s => (evR cf b s).bind (K p)
def bind2 {α : Type} (f : D → D → Option α) : Option D → Option D → Option α
  | some x, some y => f x y
  | _, _ => none
def kBin (op : BOp) (p q : Rz) (s : S) : Out S Rz := Out.ofOpt (bind2 (binO op) (view s (toP p)) (view s (toP q))) s
def wB (k : Bool) : Rz := .pl (.d (.bl k))
def wD (d : D) : Rz := .pl (.d d)
def fC (op : COp) (x y : D) : Option Rz := (cmpO op x y).map wB
def fI (x y : D) : Option Rz := (idxO x y).map wD
def kCmp (op : COp) (p q : Rz) (s : S) : Out S Rz := Out.ofOpt (bind2 (fC op) (view s (toP p)) (view s (toP q))) s
def kIdx (p q : Rz) (s : S) : Out S Rz := Out.ofOpt (bind2 fI (view s (toP p)) (view s (toP q))) s
def asB : D → Option Bool
  | .bl b => some b
  | _ => none
def asI : D → Option Int
  | .int b => some b
  | _ => none
def bindO {α β : Type} (o : Option α) (f : α → Option β) : Option β := o.bind f
def kNeg2 (i : Int) (s : S) : Out S Rz := .ok (.pl (.d (.int (-i)))) s
def kNeg (p : Rz) (s : S) : Out S Rz := (isI (toP p) s).bind kNeg2
def kCh3 (cf : CF) (op2 : COp) (c : E) (q : Rz) (k : Bool) (s : S) : Out S Rz := if k then (evR cf c s).bind (kCmp op2 q) else .ok (.pl (.d (.bl false))) s
def kCh2 (cf : CF) (op2 : COp) (c : E) (q : Rz) (k : Rz) (s : S) : Out S Rz := (isB (toP k) s).bind (kCh3 cf op2 c q)
def kCh (cf : CF) (op op2 : COp) (c : E) (p q : Rz) (s : S) : Out S Rz := (kCmp op p q s).bind (kCh2 cf op2 c q)
def kNot2 (k : Bool) (s : S) : Out S Rz := .ok (.pl (.d (.bl (!k)))) s
def kNot (p : Rz) (s : S) : Out S Rz := (isT (toP p) s).bind kNot2
def kIte2 (cf : CF) (a b : E) (k : Bool) (s : S) : Out S Rz := if k then evR cf a s else evR cf b s
def kIte (cf : CF) (a b : E) (p : Rz) (s : S) : Out S Rz := (isT (toP p) s).bind (kIte2 cf a b)
def kTup2 (ds : List D) (s : S) : Out S Rz := if ds.length ≤ lim then .ok (.pl (.d (.tup ds))) s else .bad
def kTup (ps : List Pl) (s : S) : Out S Rz := (escs ps s).bind kTup2
def kLst2 (ds : List D) (s : S) : Out S Rz := if ds.length ≤ lim then .ok (.mo (.lst ds)) s else .bad
def kLst (ps : List Pl) (s : S) : Out S Rz := (escs ps s).bind kLst2
def kCl3 (d : D) (s : S) : Out S Rz := .ok (.pl (.d d)) s
def kCl2 (cf : CF) (f : String) (ds : List D) (s : S) : Out S Rz := (inMem s.env (cf f ds s.mem)).bind kCl3
def kCl (cf : CF) (f : String) (ps : List Pl) (s : S) : Out S Rz := (escs ps s).bind (kCl2 cf f)
def kBlt (b : Blt) (ps : List Pl) (s : S) : Out S Rz := Out.ofOpt (bindO (views s ps) (bltO b)) s
def lst1 (j : Int) (s : S) : Out S Rz := if smallR 0 j then .ok (.mo (.lst (rngD 0 j.toNat))) s else .bad
def kLr1 (p : Rz) (s : S) : Out S Rz := (isI (toP p) s).bind lst1
def lst2 (i j : Int) (s : S) : Out S Rz := if smallR i j then .ok (.mo (.lst (rngD i (j - i).toNat))) s else .bad
def kLr3 (q : Rz) (i : Int) (s : S) : Out S Rz := (isI (toP q) s).bind (lst2 i)
def kLr2 (p q : Rz) (s : S) : Out S Rz := (isI (toP p) s).bind (kLr3 q)
def kSm (i : Int) (s : S) : Out S (Option Int) := .ok (some i) s
def kBd (l : Rz) (s : S) : Out S (Option Int) := (isI (toP l) s).bind kSm
def evBd (cf : CF) (lo : E) (s : S) : Out S (Option Int) := if isHole lo then .ok none s else (evR cf lo s).bind kBd
def slcV (p : Rz) (l h : Option Int) (s : S) : Out S Rz := Out.ofOpt (bindO (view s (toP p)) fun x => slcO x l h) s
def kSl2 (cf : CF) (hi : E) (p : Rz) (l : Option Int) (s : S) : Out S Rz := (evBd cf hi s).bind (slcV p l)
def kSl (cf : CF) (lo hi : E) (p : Rz) (s : S) : Out S Rz := (evBd cf lo s).bind (kSl2 cf hi p)
def tC3 (d : D) (s : S) : Out S (Option D) := .ok (some d) s
def tC2 (r : Rz) (s : S) : Out S (Option D) := (esc (toP r) s).bind tC3
def tC1 (cf : CF) (elt : E) (k : Bool) (s : S) : Out S (Option D) := if k then (evR cf elt s).bind tC2 else .ok none s
def tC0 (cf : CF) (ifs : A) (elt : E) (s : S) (_ : S) : Out S (Option D) := (evC cf ifs s).bind (tC1 cf elt)
/-- a turn of a comprehension -/
def turnC (cf : CF) (t : Tg) (ifs : A) (elt : E) (d : D) (s : S) : Out S (Option D) := (Out.ofOpt (asgT t d s) s).bind (tC0 cf ifs elt)
def uC5 (d e : D) (s : S) : Out S (Option (D × D)) := .ok (some (d, e)) s
def uC4 (d : D) (r : Rz) (s : S) : Out S (Option (D × D)) := (esc (toP r) s).bind (uC5 d)
def uC3 (cf : CF) (elt : E) (d : D) (s : S) : Out S (Option (D × D)) := (evR cf elt s).bind (uC4 d)
def uC2 (cf : CF) (elt : E) (r : Rz) (s : S) : Out S (Option (D × D)) := (esc (toP r) s).bind (uC3 cf elt)
def uC1 (cf : CF) (key elt : E) (k : Bool) (s : S) : Out S (Option (D × D)) := if k then (evR cf key s).bind (uC2 cf elt) else .ok none s
def uC0 (cf : CF) (ifs : A) (key elt : E) (s : S) (_ : S) : Out S (Option (D × D)) := (evC cf ifs s).bind (uC1 cf key elt)
/-- a turn of a dict comprehension -/
def turnU (cf : CF) (t : Tg) (ifs : A) (key elt : E) (d : D) (s : S) : Out S (Option (D × D)) := (Out.ofOpt (asgT t d s) s).bind (uC0 cf ifs key elt)
def kDc2 (s0 : S) (own : List Nat) (rs : List (D × D)) (s1 : S) : Out S Rz := .ok (.mo (.dct rs)) ⟨back s0.env s1.env own, s1.mem⟩
def kDc (cf : CF) (own : List Nat) (t : Tg) (ifs : A) (key elt : E) (ds : List D) (s : S) : Out S Rz := (dcL own (turnU cf t ifs key elt) ds [] s).bind (kDc2 s own)
def kKg3 (kvs : List (D × D)) (z : Str) (r : Rz) (s : S) : Out S Rz := .ok (match lkS kvs z with
  | some d => .pl (.d d)
  | none => r) s
def kKg2 (cf : CF) (kvs : List (D × D)) (b : E) (z : Str) (s : S) : Out S Rz := (evR cf b s).bind (kKg3 kvs z)
def kKg (cf : CF) (kvs : List (D × D)) (b : E) (p : Rz) (s : S) : Out S Rz := (isS (toP p) s).bind (kKg2 cf kvs b)
def tG3 (d : Bool) (s : S) : Out S (Option Bool) := .ok (some d) s
def tG2 (r : Rz) (s : S) : Out S (Option Bool) := (isB (toP r) s).bind tG3
def tG1 (cf : CF) (elt : E) (k : Bool) (s : S) : Out S (Option Bool) := if k then (evR cf elt s).bind tG2 else .ok none s
def tG0 (cf : CF) (ifs : A) (elt : E) (s : S) (_ : S) : Out S (Option Bool) := (evC cf ifs s).bind (tG1 cf elt)
/-- a turn of all(..), any(..) -/
def turnG (cf : CF) (t : Tg) (ifs : A) (elt : E) (d : D) (s : S) : Out S (Option Bool) := (Out.ofOpt (asgT t d s) s).bind (tG0 cf ifs elt)
def kLc2 (s0 : S) (own : List Nat) (rs : List D) (s1 : S) : Out S Rz := .ok (.mo (.lst rs)) ⟨back s0.env s1.env own, s1.mem⟩
def kLc (cf : CF) (own : List Nat) (t : Tg) (ifs : A) (elt : E) (ds : List D) (s : S) : Out S Rz := if ds.length ≤ lim then (lcL own (turnC cf t ifs elt) ds s).bind (kLc2 s own) else .bad
def kGx2 (s0 : S) (own : List Nat) (b : Bool) (s1 : S) : Out S Rz := .ok (.pl (.d (.bl b))) ⟨back s0.env s1.env own, s1.mem⟩
def kGx (cf : CF) (stop : Bool) (own : List Nat) (t : Tg) (ifs : A) (elt : E) (ds : List D) (s : S) : Out S Rz := (gxL own stop (turnG cf t ifs elt) ds s).bind (kGx2 s own)
def tM3 (d : Int) (s : S) : Out S (Option Int) := .ok (some d) s
def tM2 (r : Rz) (s : S) : Out S (Option Int) := (isI (toP r) s).bind tM3
def tM1 (cf : CF) (elt : E) (k : Bool) (s : S) : Out S (Option Int) := if k then (evR cf elt s).bind tM2 else .ok none s
def tM0 (cf : CF) (ifs : A) (elt : E) (s : S) (_ : S) : Out S (Option Int) := (evC cf ifs s).bind (tM1 cf elt)
/-- a turn of max(..) -/
def turnM (cf : CF) (t : Tg) (ifs : A) (elt : E) (d : D) (s : S) : Out S (Option Int) := (Out.ofOpt (asgT t d s) s).bind (tM0 cf ifs elt)
def kGm2 (s0 : S) (own : List Nat) (b : Int) (s1 : S) : Out S Rz := .ok (.pl (.d (.int b))) ⟨back s0.env s1.env own, s1.mem⟩
def kGm (cf : CF) (own : List Nat) (t : Tg) (ifs : A) (elt : E) (ds : List D) (s : S) : Out S Rz := (gmL own (turnM cf t ifs elt) ds none s).bind (kGm2 s own)
def kA2 (p : Rz) (ps : List Pl) (s : S) : Out S (List Pl) := .ok (toP p :: ps) s
def kA (cf : CF) (as : A) (p : Rz) (s : S) : Out S (List Pl) := (evA cf as s).bind (kA2 p)
def kB2 (cf : CF) (w : Bool) (as : A) (k : Bool) (s : S) : Out S Rz := if k == w then evB cf w as s else .ok (.pl (.d (.bl k))) s
def kB (cf : CF) (w : Bool) (as : A) (p : Rz) (s : S) : Out S Rz := (isB (toP p) s).bind (kB2 cf w as)
def kC (p : Rz) (s : S) : Out S Bool := isT (toP p) s
def kSeq2 (d : D) (s : S) : Out S (List D) := Out.ofOpt (seqD d) s
def kSeq (p : Rz) (s : S) : Out S (List D) := (esc (toP p) s).bind kSeq2
def rg1 (j : Int) (s : S) : Out S (List D) := if small62 j then .ok (rngD 0 j.toNat) s else .bad
def kR1 (p : Rz) (s : S) : Out S (List D) := (isI (toP p) s).bind rg1
def rg2 (i j : Int) (s : S) : Out S (List D) := if small62 i && small62 j then .ok (rngD i (j - i).toNat) s else .bad
def kR3 (q : Rz) (i : Int) (s : S) : Out S (List D) := (isI (toP q) s).bind (rg2 i)
def kR2' (p q : Rz) (s : S) : Out S (List D) := (isI (toP p) s).bind (kR3 q)
def kR2 (cf : CF) (b : E) (p : Rz) (s : S) : Out S (List D) := (evR cf b s).bind (kR2' p)
def kEn2 (d : D) (s : S) : Out S (List D) := Out.ofOpt ((lstT d).map (enumD 0)) s
def kEn (p : Rz) (s : S) : Out S (List D) := (esc (toP p) s).bind kEn2
def zip2 (d e : D) : Option (List D) := (lstD d).bind fun ds => (lstD e).map fun es => zipD ds es
def kZ4 (d e : D) (s : S) : Out S (List D) := Out.ofOpt (zip2 d e) s
def kZ3 (q : Rz) (d : D) (s : S) : Out S (List D) := (esc (toP q) s).bind (kZ4 d)
def kZ2 (p q : Rz) (s : S) : Out S (List D) := (esc (toP p) s).bind (kZ3 q)
def kZ (cf : CF) (b : E) (p : Rz) (s : S) : Out S (List D) := (evR cf b s).bind (kZ2 p)
def kRv2 (d : D) (s : S) : Out S (List D) := Out.ofOpt ((lstD d).map List.reverse) s
def kRv (p : Rz) (s : S) : Out S (List D) := (esc (toP p) s).bind kRv2
theorem f_bin (op : BOp) (a b : E) (s : S) : evR cf (.bin op a b) s = (evR cf a s).bind (k2 cf b (kBin op)) := by
  rw [e_bin]
  refine congrArg (fun f => (evR cf a s).bind f) (funext fun p => funext fun s => congrArg (fun f => (evR cf b s).bind f) (funext fun q => funext fun s => ?_))
  show onD2 _ _ _ _ = _
  unfold onD2 kBin bind2
  cases view s (toP p) <;> cases view s (toP q) <;> rfl
theorem kCmp_eq (op : COp) (p q : Rz) (s : S) : onD2 (fun x y => (cmpO op x y).map fun k => .pl (.d (.bl k))) (toP p) (toP q) s = kCmp op p q s := by
  unfold onD2 kCmp bind2
  cases view s (toP p) <;> cases view s (toP q) <;> rfl
theorem f_cmp (op : COp) (a b : E) (s : S) : evR cf (.cmp op a b) s = (evR cf a s).bind (k2 cf b (kCmp op)) := by
  rw [e_cmp]
  exact congrArg (fun f => (evR cf a s).bind f) (funext fun p => funext fun s => congrArg (fun f => (evR cf b s).bind f) (funext fun q => funext fun s => kCmp_eq op p q s))
theorem f_idx (a b : E) (s : S) : evR cf (.idx a b) s = (evR cf a s).bind (k2 cf b kIdx) := by
  rw [e_idx]
  refine congrArg (fun f => (evR cf a s).bind f) (funext fun p => funext fun s => congrArg (fun f => (evR cf b s).bind f) (funext fun q => funext fun s => ?_))
  show onD2 _ _ _ _ = _
  unfold onD2 kIdx bind2
  cases view s (toP p) <;> cases view s (toP q) <;> rfl
theorem isB_eq (p : Pl) (s : S) : isB p s = Out.ofOpt (bindO (view s p) asB) s := by
  unfold isB bindO
  refine congrArg (fun f => Out.ofOpt ((view s p).bind f) s) (funext fun x => ?_)
  cases x <;> rfl
theorem isI_eq (p : Pl) (s : S) : isI p s = Out.ofOpt (bindO (view s p) asI) s := by
  unfold isI bindO
  refine congrArg (fun f => Out.ofOpt ((view s p).bind f) s) (funext fun x => ?_)
  cases x <;> rfl
theorem isT_eq (p : Pl) (s : S) : isT p s = Out.ofOpt (bindO (view s p) truO) s := Eq.trans rfl rfl
theorem f_int (i : Int) (s : S) : evR cf (.int i) s = .ok (.pl (.d (.int i))) s := Eq.trans rfl rfl
theorem f_bl (b : Bool) (s : S) : evR cf (.bl b) s = .ok (.pl (.d (.bl b))) s := Eq.trans rfl rfl
theorem f_non (s : S) : evR cf .non s = .ok (.pl (.d .non)) s := Eq.trans rfl rfl
theorem f_str (x : Str) (s : S) : evR cf (.str x) s = .ok (.pl (.d (.str x))) s := Eq.trans rfl rfl
theorem f_glob (y : Str) (d : D) (s : S) : evR cf (.glob y d) s = .ok (.pl (.d d)) s := Eq.trans rfl rfl
theorem f_bool (w : Bool) (as : A) (s : S) : evR cf (.bool w as) s = evB cf w as s := Eq.trans rfl rfl
theorem f_neg (a : E) (s : S) : evR cf (.neg a) s = (evR cf a s).bind kNeg := Eq.trans rfl rfl
theorem f_chain (op op2 : COp) (a b c : E) (s : S) : evR cf (.chain op op2 a b c) s = (evR cf a s).bind (k2 cf b (kCh cf op op2 c)) := by
  rw [e_chain]
  refine congrArg (fun f => (evR cf a s).bind f) (funext fun p => funext fun s => congrArg (fun f => (evR cf b s).bind f) (funext fun q => funext fun s => ?_))
  show (onD2 _ _ _ _).bind _ = _
  rw [kCmp_eq]
  refine congrArg (fun f => (kCmp op p q s).bind f) (funext fun k => funext fun s => congrArg (fun f => (isB (toP k) s).bind f) (funext fun k => funext fun s => ?_))
  unfold kCh3
  cases k with
  | false => rfl
  | true =>
    show (evR cf c s).bind _ = (evR cf c s).bind _
    exact congrArg (fun f => (evR cf c s).bind f) (funext fun r => funext fun s => kCmp_eq op2 q r s)
theorem f_not (a : E) (s : S) : evR cf (.not a) s = (evR cf a s).bind kNot := Eq.trans rfl rfl
theorem f_ite (c a b : E) (s : S) : evR cf (.ite c a b) s = (evR cf c s).bind (kIte cf a b) := Eq.trans rfl rfl
theorem f_slc (a lo hi : E) (s : S) : evR cf (.slc a lo hi) s = (evR cf a s).bind (kSl cf lo hi) := Eq.trans rfl rfl
theorem f_tup (as : A) (s : S) : evR cf (.tup as) s = (evA cf as s).bind kTup := Eq.trans rfl rfl
theorem f_lst (as : A) (s : S) : evR cf (.lst as) s = (evA cf as s).bind kLst := Eq.trans rfl rfl
theorem f_call (f : String) (as : A) (s : S) : evR cf (.call f as) s = (evA cf as s).bind (kCl cf f) := Eq.trans rfl rfl
theorem f_blt (b : Blt) (as : A) (s : S) : evR cf (.blt b as) s = (evA cf as s).bind (kBlt b) := Eq.trans rfl rfl
theorem f_dnew (s : S) : evR cf .dnew s = .ok (.mo (.dct [])) s := Eq.trans rfl rfl
def kTr1 (p : Rz) (s : S) : Out S Rz := (isI (toP p) s).bind fun j s => if smallR 0 j then .ok (.pl (.d (.tup (rngD 0 j.toNat)))) s else .bad
theorem f_trg1 (a : E) (s : S) : evR cf (.trg1 a) s = (evR cf a s).bind kTr1 := Eq.trans rfl rfl
def trR (j : Int) (s : S) : Out S Rz := if smallR 0 j then .ok (.pl (.d (.tup (rngD 0 j.toNat)))) s else .bad
theorem a_Tr1 (p : Rz) (s : S) : kTr1 p s = (isI (toP p) s).bind trR := Eq.trans rfl rfl
theorem f_lrg1 (a : E) (s : S) : evR cf (.lrg1 a) s = (evR cf a s).bind kLr1 := Eq.trans rfl rfl
theorem f_lrg2 (a b : E) (s : S) : evR cf (.lrg2 a b) s = (evR cf a s).bind (k2 cf b kLr2) := Eq.trans rfl rfl
theorem f_dc (own : List Nat) (t : Tg) (it : I) (ifs : A) (key elt : E) (s : S) : evR cf (.dc own t it ifs key elt) s = (evI cf it s).bind (kDc cf own t ifs key elt) := Eq.trans rfl rfl
theorem f_kget (y : Str) (kvs : List (D × D)) (a b : E) (s : S) : evR cf (.kget y kvs a b) s = (evR cf a s).bind (kKg cf kvs b) := Eq.trans rfl rfl
theorem f_lc (own : List Nat) (t : Tg) (it : I) (ifs : A) (elt : E) (s : S) : evR cf (.lc own t it ifs elt) s = (evI cf it s).bind (kLc cf own t ifs elt) := Eq.trans rfl rfl
theorem f_gmax (own : List Nat) (t : Tg) (it : I) (ifs : A) (elt : E) (s : S) : evR cf (.gmax own t it ifs elt) s = (evI cf it s).bind (kGm cf own t ifs elt) := Eq.trans rfl rfl
theorem f_gx (stop : Bool) (own : List Nat) (t : Tg) (it : I) (ifs : A) (elt : E) (s : S) : evR cf (.gx stop own t it ifs elt) s = (evI cf it s).bind (kGx cf stop own t ifs elt) := Eq.trans rfl rfl
theorem f_Anil (s : S) : evA cf .nil s = .ok [] s := Eq.trans rfl rfl
theorem f_A (a : E) (as : A) (s : S) : evA cf (.cons a as) s = (evR cf a s).bind (kA cf as) := Eq.trans rfl rfl
theorem f_B1 (w : Bool) (a : E) (s : S) : evB cf w (.cons a .nil) s = evR cf a s := Eq.trans rfl rfl
theorem f_B (w : Bool) (a b : E) (as : A) (s : S) : evB cf w (.cons a (.cons b as)) s = (evR cf a s).bind (kB cf w (.cons b as)) := Eq.trans rfl rfl
theorem f_C0 (s : S) : evC cf .nil s = .ok true s := Eq.trans rfl rfl
theorem f_C1 (a : E) (s : S) : evC cf (.cons a .nil) s = (evR cf a s).bind kC := Eq.trans rfl rfl
theorem f_seq (e : E) (s : S) : evI cf (.seq e) s = (evR cf e s).bind kSeq := Eq.trans rfl rfl
theorem f_rng1 (e : E) (s : S) : evI cf (.rng1 e) s = (evR cf e s).bind kR1 := Eq.trans rfl rfl
theorem f_rng2 (a b : E) (s : S) : evI cf (.rng2 a b) s = (evR cf a s).bind (kR2 cf b) := Eq.trans rfl rfl
theorem f_enum (e : E) (s : S) : evI cf (.enum e) s = (evR cf e s).bind kEn := Eq.trans rfl rfl
theorem f_zip (a b : E) (s : S) : evI cf (.zip a b) s = (evR cf a s).bind (kZ cf b) := Eq.trans rfl rfl
theorem f_rev (e : E) (s : S) : evI cf (.rev e) s = (evR cf e s).bind kRv := Eq.trans rfl rfl
def asS : D → Option Str
  | .str b => some b
  | _ => none
theorem isS_eq (p : Pl) (s : S) : isS p s = Out.ofOpt (bindO (view s p) asS) s := by
  unfold isS bindO
  refine congrArg (fun f => Out.ofOpt ((view s p).bind f) s) (funext fun x => ?_)
  cases x <;> rfl
theorem a_asS (b : Str) : asS (.str b) = some b := Eq.trans rfl rfl
def kKi2 (neg : Bool) (kvs : List (D × D)) (z : Str) (s : S) : Out S Rz := .ok (.pl (.d (.bl ((lkS kvs z).isSome != neg)))) s
def kKi (neg : Bool) (kvs : List (D × D)) (p : Rz) (s : S) : Out S Rz := (isS (toP p) s).bind (kKi2 neg kvs)
def kKx2 (kvs : List (D × D)) (z : Str) (s : S) : Out S Rz := Out.ofOpt ((lkS kvs z).map wD) s
def kKx (kvs : List (D × D)) (p : Rz) (s : S) : Out S Rz := (isS (toP p) s).bind (kKx2 kvs)
def kPop2 (r : D × S) (_ : S) : Out S Rz := .ok (.pl (.d r.1)) r.2
def kPop1 (p : Rz) (k : Option Int) (s : S) : Option D → Out S Rz
  | some (.lst _) => (Out.ofOpt (popO (toP p) k s) s).bind kPop2
  | _ => .bad
def kPop (p : Rz) (s : S) : Out S Rz := kPop1 p none s (view s (toP p))
def kPa2 (p : Rz) (k : Int) (s : S) : Out S Rz := (Out.ofOpt (popO (toP p) (some k) s) s).bind kPop2
def kPa1 (p q : Rz) (s : S) : Out S Rz := (isI (toP q) s).bind (kPa2 p)
def kPa0 (cf : CF) (i : E) (p : Rz) (s : S) : Option D → Out S Rz
  | some (.lst _) => (evR cf i s).bind (kPa1 p)
  | _ => .bad
def kPa (cf : CF) (i : E) (p : Rz) (s : S) : Out S Rz := kPa0 cf i p s (view s (toP p))
def fIsi (T : Str) (x : D) : Option Rz := (isiO T x).map wB
def kIsi (T : Str) (p : Rz) (s : S) : Out S Rz := Out.ofOpt (bindO (view s (toP p)) (fIsi T)) s
def kIx1 (p q : Rz) (s : S) : Out S Rz := Out.ofOpt (bind2 indexO (view s (toP p)) (view s (toP q))) s
def kIx0 (cf : CF) (x : E) (p : Rz) (s : S) : Option D → Out S Rz
  | some (.lst _) => (evR cf x s).bind (kIx1 p)
  | _ => .bad
def kIx (cf : CF) (x : E) (p : Rz) (s : S) : Out S Rz := kIx0 cf x p s (view s (toP p))
def rg3 (i j k : Int) (s : S) : Out S (List D) := if small62 i && small62 j && decide (k = -1) then .ok (rngC i (i - j).toNat) s else .bad
def kR36 (r : Rz) (i j : Int) (s : S) : Out S (List D) := (isI (toP r) s).bind (rg3 i j)
def kR35 (q r : Rz) (i : Int) (s : S) : Out S (List D) := (isI (toP q) s).bind (kR36 r i)
def kR34 (p q r : Rz) (s : S) : Out S (List D) := (isI (toP p) s).bind (kR35 q r)
def kR33 (cf : CF) (c : E) (p q : Rz) (s : S) : Out S (List D) := (evR cf c s).bind (kR34 p q)
def kR32 (cf : CF) (b c : E) (p : Rz) (s : S) : Out S (List D) := (evR cf b s).bind (kR33 cf c p)
theorem f_kin (neg : Bool) (a : E) (y : Str) (kvs : List (D × D)) (s : S) : evR cf (.kin neg a y kvs) s = (evR cf a s).bind (kKi neg kvs) := Eq.trans rfl rfl
theorem f_kix (y : Str) (kvs : List (D × D)) (a : E) (s : S) : evR cf (.kix y kvs a) s = (evR cf a s).bind (kKx kvs) := Eq.trans rfl rfl
theorem f_pop (o : E) (s : S) : evR cf (.pop o) s = (evR cf o s).bind kPop := by
  refine Eq.trans (b := (evR cf o s).bind fun p s => if isLst (toP p) s then (Out.ofOpt (popO (toP p) none s) s).bind fun r _ => .ok (.pl (.d r.1)) r.2 else .bad) rfl ?_
  refine congrArg (fun f => (evR cf o s).bind f) (funext fun p => funext fun s => ?_)
  unfold kPop isLst
  generalize view s (toP p) = o
  rcases o with _ | x
  · rfl
  · cases x <;> rfl
theorem f_popAt (o i : E) (s : S) : evR cf (.popAt o i) s = (evR cf o s).bind (kPa cf i) := by
  refine Eq.trans (b := (evR cf o s).bind fun p s => if isLst (toP p) s then (evR cf i s).bind fun q s => (isI (toP q) s).bind fun k s => (Out.ofOpt (popO (toP p) (some k) s) s).bind fun r _ => .ok (.pl (.d r.1)) r.2 else .bad) rfl ?_
  refine congrArg (fun f => (evR cf o s).bind f) (funext fun p => funext fun s => ?_)
  unfold kPa isLst
  generalize view s (toP p) = o
  rcases o with _ | x
  · rfl
  · cases x <;> rfl
theorem f_isi (a : E) (T : Str) (s : S) : evR cf (.isi a T) s = (evR cf a s).bind (kIsi T) := Eq.trans rfl rfl
theorem f_index (o x : E) (s : S) : evR cf (.index o x) s = (evR cf o s).bind (kIx cf x) := by
  refine Eq.trans (b := (evR cf o s).bind fun p s => if isLst (toP p) s then (evR cf x s).bind fun q s => onD2 indexO (toP p) (toP q) s else .bad) rfl ?_
  refine congrArg (fun f => (evR cf o s).bind f) (funext fun p => funext fun s => ?_)
  unfold kIx isLst
  generalize view s (toP p) = o
  have e : ∀ (q : Rz) (s : S), onD2 indexO (toP p) (toP q) s = kIx1 p q s := fun q s => by
    unfold onD2 kIx1 bind2
    cases view s (toP p) <;> cases view s (toP q) <;> rfl
  rcases o with _ | y
  · rfl
  · cases y <;> first | rfl | (show (evR cf x s).bind _ = (evR cf x s).bind _; exact congrArg (fun f => (evR cf x s).bind f) (funext fun q => funext fun s => e q s))
def kFr (r : Rz) (s : S) : Out S Rz := match r with
  | .mo m => .ok (.pl (.d (.ref s.mem.length))) ⟨s.env, s.mem ++ [m]⟩
  | _ => .bad
theorem f_fresh (e : E) (s : S) : evR cf (.fresh e) s = (evR cf e s).bind kFr := by
  refine Eq.trans (b := (evR cf e s).bind fun r s => match r with
    | .mo m => .ok (.pl (.d (.ref s.mem.length))) ⟨s.env, s.mem ++ [m]⟩
    | _ => .bad) rfl ?_
  exact congrArg (fun f => (evR cf e s).bind f) (funext fun f => funext fun s => by cases f <;> rfl)
theorem a_Fr (m : MO) (s : S) : kFr (.mo m) s = .ok (.pl (.d (.ref s.mem.length))) ⟨s.env, s.mem ++ [m]⟩ := Eq.trans rfl rfl
theorem f_rng3 (a b c : E) (s : S) : evI cf (.rng3 a b c) s = (evR cf a s).bind (kR32 cf b c) := Eq.trans rfl rfl
theorem a_Ki (neg : Bool) (kvs : List (D × D)) (p : Rz) (s : S) : kKi neg kvs p s = (isS (toP p) s).bind (kKi2 neg kvs) := Eq.trans rfl rfl
theorem a_Ki2f (kvs : List (D × D)) (z : Str) (s : S) : kKi2 false kvs z s = .ok (.pl (.d (.bl (lkS kvs z).isSome))) s := by
  unfold kKi2
  rw [Bool.bne_false]
theorem a_Ki2t (kvs : List (D × D)) (z : Str) (s : S) : kKi2 true kvs z s = .ok (.pl (.d (.bl (!(lkS kvs z).isSome)))) s := by
  unfold kKi2
  rw [Bool.bne_true]
theorem a_Kx (kvs : List (D × D)) (p : Rz) (s : S) : kKx kvs p s = (isS (toP p) s).bind (kKx2 kvs) := Eq.trans rfl rfl
theorem a_Kx2 (kvs : List (D × D)) (z : Str) (s : S) : kKx2 kvs z s = Out.ofOpt ((lkS kvs z).map wD) s := Eq.trans rfl rfl
theorem a_Pop (p : Rz) (s : S) : kPop p s = kPop1 p none s (view s (toP p)) := Eq.trans rfl rfl
theorem a_Pop1 (p : Rz) (k : Option Int) (s : S) (ds : List D) : kPop1 p k s (some (.lst ds)) = (Out.ofOpt (popO (toP p) k s) s).bind kPop2 := Eq.trans rfl rfl
theorem a_Pop2 (r : D × S) (s : S) : kPop2 r s = .ok (.pl (.d r.1)) r.2 := Eq.trans rfl rfl
theorem a_Pa (i : E) (p : Rz) (s : S) : kPa cf i p s = kPa0 cf i p s (view s (toP p)) := Eq.trans rfl rfl
theorem a_Pa0 (i : E) (p : Rz) (s : S) (ds : List D) : kPa0 cf i p s (some (.lst ds)) = (evR cf i s).bind (kPa1 p) := Eq.trans rfl rfl
theorem a_Pa1 (p q : Rz) (s : S) : kPa1 p q s = (isI (toP q) s).bind (kPa2 p) := Eq.trans rfl rfl
theorem a_Pa2 (p : Rz) (k : Int) (s : S) : kPa2 p k s = (Out.ofOpt (popO (toP p) (some k) s) s).bind kPop2 := Eq.trans rfl rfl
theorem a_Isi (T : Str) (p : Rz) (s : S) : kIsi T p s = Out.ofOpt (bindO (view s (toP p)) (fIsi T)) s := Eq.trans rfl rfl
theorem a_fIsi (T : Str) (x : D) : fIsi T x = (isiO T x).map wB := Eq.trans rfl rfl
theorem a_Ix (x : E) (p : Rz) (s : S) : kIx cf x p s = kIx0 cf x p s (view s (toP p)) := Eq.trans rfl rfl
theorem a_Ix0 (x : E) (p : Rz) (s : S) (ds : List D) : kIx0 cf x p s (some (.lst ds)) = (evR cf x s).bind (kIx1 p) := Eq.trans rfl rfl
theorem a_Ix1 (p q : Rz) (s : S) : kIx1 p q s = Out.ofOpt (bind2 indexO (view s (toP p)) (view s (toP q))) s := Eq.trans rfl rfl
theorem a_R36 (r : Rz) (i j : Int) (s : S) : kR36 r i j s = (isI (toP r) s).bind (rg3 i j) := Eq.trans rfl rfl
theorem a_R35 (q r : Rz) (i : Int) (s : S) : kR35 q r i s = (isI (toP q) s).bind (kR36 r i) := Eq.trans rfl rfl
theorem a_R34 (p q r : Rz) (s : S) : kR34 p q r s = (isI (toP p) s).bind (kR35 q r) := Eq.trans rfl rfl
theorem a_R33 (c : E) (p q : Rz) (s : S) : kR33 cf c p q s = (evR cf c s).bind (kR34 p q) := Eq.trans rfl rfl
theorem a_R32 (b c : E) (p : Rz) (s : S) : kR32 cf b c p s = (evR cf b s).bind (kR33 cf c p) := Eq.trans rfl rfl
def poW (s : S) (i : Nat) (k : Option Int) : Option Sl → Option (D × S)
  | some (.own (.lst ds)) => (cutL ds k).map fun r => (r.1, ⟨s.env.set i (.own (.lst r.2)), s.mem⟩)
  | some (.val (.ref n)) => popM n k s
  | _ => none
theorem po_s (i : Nat) (k : Option Int) (s : S) : popO (.slot i) k s = poW s i k (s.env[i]?) := by
  unfold popO poW <;> (try dsimp only) <;> (generalize s.env[i]? = o; rcases o with _ | x <;> first | rfl | (cases x <;> first | rfl | (rename_i z; cases z <;> rfl)))
theorem po_o (s : S) (i : Nat) (k : Option Int) (ds : List D) (d : D) (ds' : List D) (h : cutL ds k = some (d, ds')) : poW s i k (some (.own (.lst ds))) = some (d, ⟨s.env.set i (.own (.lst ds')), s.mem⟩) := by
  show (cutL ds k).map _ = _
  rw [h]
  rfl
theorem po_v (s : S) (i n : Nat) (k : Option Int) : poW s i k (some (.val (.ref n))) = popM n k s := Eq.trans rfl rfl
theorem po_m (s : S) (n : Nat) (k : Option Int) (ds : List D) (d : D) (ds' : List D) (hm : s.mem[n]? = some (.lst ds)) (h : cutL ds k = some (d, ds')) : popM n k s = some (d, ⟨s.env, s.mem.set n (.lst ds')⟩) := by
  unfold popM
  rw [hm]
  show (cutL ds k).map _ = _
  rw [h]
  rfl
/-! ### where it is reached -/
section
variable {τ α β : Type}
theorem b_ok (a : α) (t : τ) (f : α → τ → Out τ β) : (Out.ok a t).bind f = f a t := Eq.trans rfl rfl
theorem b_exc (x : XC) (t : τ) (f : α → τ → Out τ β) : (Out.exc x t : Out τ α).bind f = .exc x t := Eq.trans rfl rfl
theorem b_of (a : α) (t : τ) : Out.ofOpt (some a) t = .ok a t := Eq.trans rfl rfl
theorem b_O (a : α) (f : α → Option β) : bindO (some a) f = f a := Eq.trans rfl rfl
theorem b_map (f : α → β) (a : α) : Option.map f (some a) = some (f a) := Eq.trans rfl rfl
theorem b_2 (f : D → D → Option α) (x y : D) : bind2 f (some x) (some y) = f x y := Eq.trans rfl rfl
theorem b_ob (a : α) (f : α → Option β) : Option.bind (some a) f = f a := Eq.trans rfl rfl
end
theorem a_2 (b : E) (K : Rz → Rz → S → Out S Rz) (p : Rz) (s : S) : k2 cf b K p s = (evR cf b s).bind (K p) := Eq.trans rfl rfl
theorem a_Bin (op : BOp) (p q : Rz) (s : S) : kBin op p q s = Out.ofOpt (bind2 (binO op) (view s (toP p)) (view s (toP q))) s := Eq.trans rfl rfl
theorem a_Cmp (op : COp) (p q : Rz) (s : S) : kCmp op p q s = Out.ofOpt (bind2 (fC op) (view s (toP p)) (view s (toP q))) s := Eq.trans rfl rfl
theorem a_Idx (p q : Rz) (s : S) : kIdx p q s = Out.ofOpt (bind2 fI (view s (toP p)) (view s (toP q))) s := Eq.trans rfl rfl
theorem a_fC (op : COp) (x y : D) : fC op x y = (cmpO op x y).map wB := Eq.trans rfl rfl
theorem a_fI (x y : D) : fI x y = (idxO x y).map wD := Eq.trans rfl rfl
theorem a_wB (b : Bool) : wB b = .pl (.d (.bl b)) := Eq.trans rfl rfl
theorem a_wD (b : D) : wD b = .pl (.d b) := Eq.trans rfl rfl
theorem a_asB (b : Bool) : asB (.bl b) = some b := Eq.trans rfl rfl
theorem a_asI (i : Int) : asI (.int i) = some i := Eq.trans rfl rfl
theorem a_Neg (p : Rz) (s : S) : kNeg p s = (isI (toP p) s).bind kNeg2 := Eq.trans rfl rfl
theorem a_Neg2 (i : Int) (s : S) : kNeg2 i s = .ok (.pl (.d (.int (-i)))) s := Eq.trans rfl rfl
theorem a_Ch (op op2 : COp) (c : E) (p q : Rz) (s : S) : kCh cf op op2 c p q s = (kCmp op p q s).bind (kCh2 cf op2 c q) := Eq.trans rfl rfl
theorem a_Ch2 (op2 : COp) (c : E) (q k : Rz) (s : S) : kCh2 cf op2 c q k s = (isB (toP k) s).bind (kCh3 cf op2 c q) := Eq.trans rfl rfl
theorem a_Ch3t (op2 : COp) (c : E) (q : Rz) (s : S) : kCh3 cf op2 c q true s = (evR cf c s).bind (kCmp op2 q) := Eq.trans rfl rfl
theorem a_Ch3f (op2 : COp) (c : E) (q : Rz) (s : S) : kCh3 cf op2 c q false s = .ok (.pl (.d (.bl false))) s := Eq.trans rfl rfl
theorem a_Not (p : Rz) (s : S) : kNot p s = (isT (toP p) s).bind kNot2 := Eq.trans rfl rfl
theorem a_Not2 (k : Bool) (s : S) : kNot2 k s = .ok (.pl (.d (.bl (!k)))) s := Eq.trans rfl rfl
theorem a_Ite (a b : E) (p : Rz) (s : S) : kIte cf a b p s = (isT (toP p) s).bind (kIte2 cf a b) := Eq.trans rfl rfl
theorem a_Ite2t (a b : E) (s : S) : kIte2 cf a b true s = evR cf a s := Eq.trans rfl rfl
theorem a_Ite2f (a b : E) (s : S) : kIte2 cf a b false s = evR cf b s := Eq.trans rfl rfl
theorem a_Tup (ps : List Pl) (s : S) : kTup ps s = (escs ps s).bind kTup2 := Eq.trans rfl rfl
theorem a_Tup2 (ds : List D) (s : S) (h : ds.length ≤ 16777216) : kTup2 ds s = .ok (.pl (.d (.tup ds))) s := if_pos h
theorem a_Lst (ps : List Pl) (s : S) : kLst ps s = (escs ps s).bind kLst2 := Eq.trans rfl rfl
theorem a_Lst2 (ds : List D) (s : S) (h : ds.length ≤ 16777216) : kLst2 ds s = .ok (.mo (.lst ds)) s := if_pos h
theorem a_Cl (f : String) (ps : List Pl) (s : S) : kCl cf f ps s = (escs ps s).bind (kCl2 cf f) := Eq.trans rfl rfl
theorem a_Cl2 (f : String) (ds : List D) (s : S) : kCl2 cf f ds s = (inMem s.env (cf f ds s.mem)).bind kCl3 := Eq.trans rfl rfl
theorem a_Cl3 (d : D) (s : S) : kCl3 d s = .ok (.pl (.d d)) s := Eq.trans rfl rfl
theorem a_inM {α : Type} (env : List Sl) (a : α) (m : List MO) : inMem env (.ok a m) = .ok a ⟨env, m⟩ := Eq.trans rfl rfl
theorem a_inX {α : Type} (env : List Sl) (x : XC) (m : List MO) : inMem env (.exc x m : Out (List MO) α) = .exc x ⟨env, m⟩ := Eq.trans rfl rfl
theorem a_Blt (b : Blt) (ps : List Pl) (s : S) : kBlt b ps s = Out.ofOpt (bindO (views s ps) (bltO b)) s := Eq.trans rfl rfl
theorem a_Lr1 (p : Rz) (s : S) : kLr1 p s = (isI (toP p) s).bind lst1 := Eq.trans rfl rfl
theorem a_Lr2 (p q : Rz) (s : S) : kLr2 p q s = (isI (toP p) s).bind (kLr3 q) := Eq.trans rfl rfl
theorem a_Lr3 (q : Rz) (i : Int) (s : S) : kLr3 q i s = (isI (toP q) s).bind (lst2 i) := Eq.trans rfl rfl
theorem a_Sm (i : Int) (s : S) : kSm i s = .ok (some i) s := Eq.trans rfl rfl
theorem a_Bd (l : Rz) (s : S) : kBd l s = (isI (toP l) s).bind kSm := Eq.trans rfl rfl
theorem a_evBd (lo : E) (s : S) : evBd cf lo s = if isHole lo then .ok none s else (evR cf lo s).bind kBd := Eq.trans rfl rfl
theorem a_evBh (s : S) : evBd cf .hole s = .ok none s := Eq.trans rfl rfl
theorem a_slcV (p : Rz) (l h : Option Int) (s : S) : slcV p l h s = Out.ofOpt (bindO (view s (toP p)) fun x => slcO x l h) s := Eq.trans rfl rfl
theorem a_Sl2 (hi : E) (p : Rz) (l : Option Int) (s : S) : kSl2 cf hi p l s = (evBd cf hi s).bind (slcV p l) := Eq.trans rfl rfl
theorem a_Sl (lo hi : E) (p : Rz) (s : S) : kSl cf lo hi p s = (evBd cf lo s).bind (kSl2 cf hi p) := Eq.trans rfl rfl
theorem a_turnC (t : Tg) (ifs : A) (elt : E) (d : D) (s : S) : turnC cf t ifs elt d s = (Out.ofOpt (asgT t d s) s).bind (tC0 cf ifs elt) := Eq.trans rfl rfl
theorem a_C0 (ifs : A) (elt : E) (s s' : S) : tC0 cf ifs elt s s' = (evC cf ifs s).bind (tC1 cf elt) := Eq.trans rfl rfl
theorem a_C1t (elt : E) (s : S) : tC1 cf elt true s = (evR cf elt s).bind tC2 := Eq.trans rfl rfl
theorem a_C1f (elt : E) (s : S) : tC1 cf elt false s = .ok none s := Eq.trans rfl rfl
theorem a_C2 (r : Rz) (s : S) : tC2 r s = (esc (toP r) s).bind tC3 := Eq.trans rfl rfl
theorem a_C3 (d : D) (s : S) : tC3 d s = .ok (some d) s := Eq.trans rfl rfl
theorem a_turnU (t : Tg) (ifs : A) (key elt : E) (d : D) (s : S) : turnU cf t ifs key elt d s = (Out.ofOpt (asgT t d s) s).bind (uC0 cf ifs key elt) := Eq.trans rfl rfl
theorem a_U0 (ifs : A) (key elt : E) (s s' : S) : uC0 cf ifs key elt s s' = (evC cf ifs s).bind (uC1 cf key elt) := Eq.trans rfl rfl
theorem a_U1t (key elt : E) (s : S) : uC1 cf key elt true s = (evR cf key s).bind (uC2 cf elt) := Eq.trans rfl rfl
theorem a_U1f (key elt : E) (s : S) : uC1 cf key elt false s = .ok none s := Eq.trans rfl rfl
theorem a_U2 (elt : E) (r : Rz) (s : S) : uC2 cf elt r s = (esc (toP r) s).bind (uC3 cf elt) := Eq.trans rfl rfl
theorem a_U3 (elt : E) (d : D) (s : S) : uC3 cf elt d s = (evR cf elt s).bind (uC4 d) := Eq.trans rfl rfl
theorem a_U4 (d : D) (r : Rz) (s : S) : uC4 d r s = (esc (toP r) s).bind (uC5 d) := Eq.trans rfl rfl
theorem a_U5 (d e : D) (s : S) : uC5 d e s = .ok (some (d, e)) s := Eq.trans rfl rfl
theorem a_Kg (kvs : List (D × D)) (b : E) (p : Rz) (s : S) : kKg cf kvs b p s = (isS (toP p) s).bind (kKg2 cf kvs b) := Eq.trans rfl rfl
theorem a_Kg2 (kvs : List (D × D)) (b : E) (z : Str) (s : S) : kKg2 cf kvs b z s = (evR cf b s).bind (kKg3 kvs z) := Eq.trans rfl rfl
theorem a_Kg3t (kvs : List (D × D)) (z : Str) (r : Rz) (d : D) (s : S) (h : lkS kvs z = some d) : kKg3 kvs z r s = .ok (.pl (.d d)) s := by unfold kKg3; rw [h]
theorem a_Kg3f (kvs : List (D × D)) (z : Str) (r : Rz) (s : S) (h : lkS kvs z = none) : kKg3 kvs z r s = .ok r s := by unfold kKg3; rw [h]
theorem a_turnG (t : Tg) (ifs : A) (elt : E) (d : D) (s : S) : turnG cf t ifs elt d s = (Out.ofOpt (asgT t d s) s).bind (tG0 cf ifs elt) := Eq.trans rfl rfl
theorem a_G0 (ifs : A) (elt : E) (s s' : S) : tG0 cf ifs elt s s' = (evC cf ifs s).bind (tG1 cf elt) := Eq.trans rfl rfl
theorem a_G1t (elt : E) (s : S) : tG1 cf elt true s = (evR cf elt s).bind tG2 := Eq.trans rfl rfl
theorem a_G1f (elt : E) (s : S) : tG1 cf elt false s = .ok none s := Eq.trans rfl rfl
theorem a_G2 (r : Rz) (s : S) : tG2 r s = (isB (toP r) s).bind tG3 := Eq.trans rfl rfl
theorem a_G3 (d : Bool) (s : S) : tG3 d s = .ok (some d) s := Eq.trans rfl rfl
/-- a comprehension; all(..), any(..) -/
def lcR (own : List Nat) (turn : D → S → Out S (Option D)) (ds : List D) (s : S) : Out S Rz := (lcL own turn ds s).bind (kLc2 s own)
def gxR (own : List Nat) (stop : Bool) (turn : D → S → Out S (Option Bool)) (ds : List D) (s : S) : Out S Rz := (gxL own stop turn ds s).bind (kGx2 s own)
theorem a_Lc (own : List Nat) (t : Tg) (ifs : A) (elt : E) (ds : List D) (s : S) (h : ds.length ≤ 16777216) : kLc cf own t ifs elt ds s = lcR own (turnC cf t ifs elt) ds s := if_pos h
theorem a_Lc2 (s0 s1 : S) (own : List Nat) (rs : List D) : kLc2 s0 own rs s1 = .ok (.mo (.lst rs)) ⟨back s0.env s1.env own, s1.mem⟩ := Eq.trans rfl rfl
def dcR (own : List Nat) (turn : D → S → Out S (Option (D × D))) (ds : List D) (s : S) : Out S Rz := (dcL own turn ds [] s).bind (kDc2 s own)
theorem a_Dc (own : List Nat) (t : Tg) (ifs : A) (key elt : E) (ds : List D) (s : S) : kDc cf own t ifs key elt ds s = dcR own (turnU cf t ifs key elt) ds s := Eq.trans rfl rfl
theorem a_Dc2 (s0 s1 : S) (own : List Nat) (rs : List (D × D)) : kDc2 s0 own rs s1 = .ok (.mo (.dct rs)) ⟨back s0.env s1.env own, s1.mem⟩ := Eq.trans rfl rfl
theorem a_Gx (stop : Bool) (own : List Nat) (t : Tg) (ifs : A) (elt : E) (ds : List D) (s : S) : kGx cf stop own t ifs elt ds s = gxR own stop (turnG cf t ifs elt) ds s := Eq.trans rfl rfl
theorem a_Gx2 (s0 s1 : S) (own : List Nat) (b : Bool) : kGx2 s0 own b s1 = .ok (.pl (.d (.bl b))) ⟨back s0.env s1.env own, s1.mem⟩ := Eq.trans rfl rfl
theorem a_turnM (t : Tg) (ifs : A) (elt : E) (d : D) (s : S) : turnM cf t ifs elt d s = (Out.ofOpt (asgT t d s) s).bind (tM0 cf ifs elt) := Eq.trans rfl rfl
theorem a_M0 (ifs : A) (elt : E) (s s' : S) : tM0 cf ifs elt s s' = (evC cf ifs s).bind (tM1 cf elt) := Eq.trans rfl rfl
theorem a_M1t (elt : E) (s : S) : tM1 cf elt true s = (evR cf elt s).bind tM2 := Eq.trans rfl rfl
theorem a_M1f (elt : E) (s : S) : tM1 cf elt false s = .ok none s := Eq.trans rfl rfl
theorem a_M2 (r : Rz) (s : S) : tM2 r s = (isI (toP r) s).bind tM3 := Eq.trans rfl rfl
theorem a_M3 (d : Int) (s : S) : tM3 d s = .ok (some d) s := Eq.trans rfl rfl
def gmR (own : List Nat) (turn : D → S → Out S (Option Int)) (ds : List D) (s : S) : Out S Rz := (gmL own turn ds none s).bind (kGm2 s own)
theorem a_Gm (own : List Nat) (t : Tg) (ifs : A) (elt : E) (ds : List D) (s : S) : kGm cf own t ifs elt ds s = gmR own (turnM cf t ifs elt) ds s := Eq.trans rfl rfl
theorem a_Gm2 (s0 s1 : S) (own : List Nat) (b : Int) : kGm2 s0 own b s1 = .ok (.pl (.d (.int b))) ⟨back s0.env s1.env own, s1.mem⟩ := Eq.trans rfl rfl
theorem a_A2 (p : Rz) (ps : List Pl) (s : S) : kA2 p ps s = .ok (toP p :: ps) s := Eq.trans rfl rfl
theorem a_A (as : A) (p : Rz) (s : S) : kA cf as p s = (evA cf as s).bind (kA2 p) := Eq.trans rfl rfl
theorem a_B (w : Bool) (as : A) (p : Rz) (s : S) : kB cf w as p s = (isB (toP p) s).bind (kB2 cf w as) := Eq.trans rfl rfl
theorem a_B2tt (as : A) (s : S) : kB2 cf true as true s = evB cf true as s := Eq.trans rfl rfl
theorem a_B2tf (as : A) (s : S) : kB2 cf true as false s = .ok (.pl (.d (.bl false))) s := Eq.trans rfl rfl
theorem a_B2ff (as : A) (s : S) : kB2 cf false as false s = evB cf false as s := Eq.trans rfl rfl
theorem a_B2ft (as : A) (s : S) : kB2 cf false as true s = .ok (.pl (.d (.bl true))) s := Eq.trans rfl rfl
theorem a_C (p : Rz) (s : S) : kC p s = isT (toP p) s := Eq.trans rfl rfl
theorem a_Seq (p : Rz) (s : S) : kSeq p s = (esc (toP p) s).bind kSeq2 := Eq.trans rfl rfl
theorem a_Seq2 (d : D) (s : S) : kSeq2 d s = Out.ofOpt (seqD d) s := Eq.trans rfl rfl
theorem a_R1 (p : Rz) (s : S) : kR1 p s = (isI (toP p) s).bind rg1 := Eq.trans rfl rfl
theorem a_R2 (b : E) (p : Rz) (s : S) : kR2 cf b p s = (evR cf b s).bind (kR2' p) := Eq.trans rfl rfl
theorem a_R2' (p q : Rz) (s : S) : kR2' p q s = (isI (toP p) s).bind (kR3 q) := Eq.trans rfl rfl
theorem a_R3 (q : Rz) (i : Int) (s : S) : kR3 q i s = (isI (toP q) s).bind (rg2 i) := Eq.trans rfl rfl
theorem a_En (p : Rz) (s : S) : kEn p s = (esc (toP p) s).bind kEn2 := Eq.trans rfl rfl
theorem a_En2t (ds : List D) (s : S) : kEn2 (.tup ds) s = .ok (enumD 0 ds) s := Eq.trans rfl rfl
theorem a_En2 (ds : List D) (s : S) : kEn2 (.lst ds) s = .ok (enumD 0 ds) s := Eq.trans rfl rfl
theorem a_Z (b : E) (p : Rz) (s : S) : kZ cf b p s = (evR cf b s).bind (kZ2 p) := Eq.trans rfl rfl
theorem a_Z2 (p q : Rz) (s : S) : kZ2 p q s = (esc (toP p) s).bind (kZ3 q) := Eq.trans rfl rfl
theorem a_Z3 (q : Rz) (d : D) (s : S) : kZ3 q d s = (esc (toP q) s).bind (kZ4 d) := Eq.trans rfl rfl
theorem a_Z4 (ds es : List D) (s : S) : kZ4 (.lst ds) (.lst es) s = .ok (zipD ds es) s := Eq.trans rfl rfl
theorem a_Rv (p : Rz) (s : S) : kRv p s = (esc (toP p) s).bind kRv2 := Eq.trans rfl rfl
theorem a_Rv2 (ds : List D) (s : S) : kRv2 (.lst ds) s = .ok ds.reverse s := Eq.trans rfl rfl
/-! ### places and views -/
def vw (s : S) : Option Sl → Option D
  | some (.val d) => some (drf s d)
  | some (.own m) => some m.tree
  | _ => none
theorem v_d (s : S) (d : D) : view s (.d d) = some (drf s d) := Eq.trans rfl rfl
theorem v_s (s : S) (i : Nat) : view s (.slot i) = vw s (s.env[i]?) := by
  unfold view vw <;> (try dsimp only) <;> (generalize s.env[i]? = o; rcases o with _ | x <;> first | rfl | (cases x <;> rfl))
theorem v_val (s : S) (d : D) : vw s (some (.val d)) = some (drf s d) := Eq.trans rfl rfl
theorem v_own (s : S) (m : MO) : vw s (some (.own m)) = some m.tree := Eq.trans rfl rfl
theorem r_non (s : S) : drf s .non = .non := Eq.trans rfl rfl
theorem r_bl (s : S) (b : Bool) : drf s (.bl b) = .bl b := Eq.trans rfl rfl
theorem r_int (s : S) (b : Int) : drf s (.int b) = .int b := Eq.trans rfl rfl
theorem r_str (s : S) (b : Str) : drf s (.str b) = .str b := Eq.trans rfl rfl
theorem r_tup (s : S) (b : List D) : drf s (.tup b) = .tup b := Eq.trans rfl rfl
theorem r_lst (s : S) (b : List D) : drf s (.lst b) = .lst b := Eq.trans rfl rfl
theorem r_scr (s : S) (b : List Int) : drf s (.scr b) = .scr b := Eq.trans rfl rfl
def escW (s : S) (i : Nat) : Option Sl → Out S D
  | some (.val d) => .ok d s
  | some (.own m) => .ok m.tree ⟨s.env.set i (.val m.tree), s.mem⟩
  | _ => .bad
theorem c_d (d : D) (s : S) : esc (.d d) s = .ok d s := Eq.trans rfl rfl
theorem c_s (i : Nat) (s : S) : esc (.slot i) s = escW s i (s.env[i]?) := by
  unfold esc escW <;> (try dsimp only) <;> (generalize s.env[i]? = o; rcases o with _ | x <;> first | rfl | (cases x <;> rfl))
theorem c_val (s : S) (i : Nat) (d : D) : escW s i (some (.val d)) = .ok d s := Eq.trans rfl rfl
theorem c_own (s : S) (i : Nat) (m : MO) : escW s i (some (.own m)) = .ok m.tree ⟨s.env.set i (.val m.tree), s.mem⟩ := Eq.trans rfl rfl
def ks2 (d : D) (ds : List D) (s : S) : Out S (List D) := .ok (d :: ds) s
def ks1 (ps : List Pl) (d : D) (s : S) : Out S (List D) := (escs ps s).bind (ks2 d)
theorem s_nil (s : S) : escs [] s = .ok [] s := Eq.trans rfl rfl
theorem s_cons (p : Pl) (ps : List Pl) (s : S) : escs (p :: ps) s = (esc p s).bind (ks1 ps) := Eq.trans rfl rfl
theorem s_1 (ps : List Pl) (d : D) (s : S) : ks1 ps d s = (escs ps s).bind (ks2 d) := Eq.trans rfl rfl
theorem s_2 (d : D) (ds : List D) (s : S) : ks2 d ds s = .ok (d :: ds) s := Eq.trans rfl rfl
def vcons : Option D → Option (List D) → Option (List D)
  | some d, some ds => some (d :: ds)
  | _, _ => none
theorem vs_nil (s : S) : views s [] = some [] := Eq.trans rfl rfl
theorem vs_cons (p : Pl) (ps : List Pl) (s : S) : views s (p :: ps) = vcons (view s p) (views s ps) := by
  rw [views]
  generalize view s p = a
  generalize views s ps = b
  cases a <;> cases b <;> rfl
theorem vs_c (d : D) (ds : List D) : vcons (some d) (some ds) = some (d :: ds) := Eq.trans rfl rfl
def evW (s : S) (i : Nat) : Option Sl → Out S Rz
  | some (.val _) => .ok (.pl (.slot i)) s
  | some (.own _) => .ok (.pl (.slot i)) s
  | _ => .bad
theorem f_var (i : Nat) (s : S) : evR cf (.var i) s = evW s i (s.env[i]?) := by
  rw [e_var]
  generalize s.env[i]? = o
  rcases o with _ | x
  · rfl
  · cases x <;> rfl
theorem w_val (s : S) (i : Nat) (d : D) : evW s i (some (.val d)) = .ok (.pl (.slot i)) s := Eq.trans rfl rfl
theorem w_own (s : S) (i : Nat) (d : MO) : evW s i (some (.own d)) = .ok (.pl (.slot i)) s := Eq.trans rfl rfl
theorem p_pl (p : Pl) : toP (.pl p) = p := Eq.trans rfl rfl
theorem p_mo (m : MO) : toP (.mo m) = .d m.tree := Eq.trans rfl rfl
theorem t_lst (ds : List D) : (MO.lst ds).tree = .lst ds := Eq.trans rfl rfl
theorem t_dct (ds : List (D × D)) : (MO.dct ds).tree = .dct ds := Eq.trans rfl rfl
/-! ### operations -/
theorem o_addI (i j : Int) : binO .add (.int i) (.int j) = some (.pl (.d (.int (i + j)))) := Eq.trans rfl rfl
theorem o_addS (a b : Str) (h : a.length + b.length ≤ 16777216) : binO .add (.str a) (.str b) = some (.pl (.d (.str (a ++ b)))) := if_pos h
theorem o_addL (a b : List D) (h : a.length + b.length ≤ 16777216) : binO .add (.lst a) (.lst b) = some (.mo (.lst (a ++ b))) := if_pos h
theorem o_addT (a b : List D) (h : a.length + b.length ≤ 16777216) : binO .add (.tup a) (.tup b) = some (.pl (.d (.tup (a ++ b)))) := if_pos h
theorem o_sub (i j : Int) : binO .sub (.int i) (.int j) = some (.pl (.d (.int (i - j)))) := Eq.trans rfl rfl
theorem o_mul (i j : Int) (h : mulOk i j = true) : binO .mul (.int i) (.int j) = some (.pl (.d (.int (i * j)))) := if_pos h
theorem mulOk_l {i : Int} (j : Int) (h1 : -(2 ^ 64) < i) (h2 : i < 2 ^ 64) : mulOk i j = true := by
  unfold mulOk
  rw [Bool.or_eq_true]
  left
  rw [Bool.and_eq_true, decide_eq_true_eq, decide_eq_true_eq]
  exact ⟨h1, h2⟩
theorem o_mulN (i j : Int) (h : (-1000000000 < i ∧ i < 1000000000) ∨ (-1000000000 < j ∧ j < 1000000000)) : binO .mul (.int i) (.int j) = some (.pl (.d (.int (i * j)))) := o_mul i j (by
  rcases h with h | h
  · exact mulOk_l j (by omega) (by omega)
  · exact mulOk_r i (by omega) (by omega))
theorem o_fdiv (i j : Int) (h : 0 < j ∧ j < 1073741824) : binO .fdiv (.int i) (.int j) = some (.pl (.d (.int (i / j)))) := if_pos (by simp [h.1, h.2])
theorem o_mod (i j : Int) (h : 0 < j) : binO .mod (.int i) (.int j) = some (.pl (.d (.int (i % j)))) := if_pos (by simp [h])
theorem q_lt (i j : Int) : cmpO .lt (.int i) (.int j) = some (decide (i < j)) := Eq.trans rfl rfl
theorem q_le (i j : Int) : cmpO .le (.int i) (.int j) = some (decide (i ≤ j)) := Eq.trans rfl rfl
theorem q_gt (i j : Int) : cmpO .gt (.int i) (.int j) = some (decide (j < i)) := Eq.trans rfl rfl
theorem q_ge (i j : Int) : cmpO .ge (.int i) (.int j) = some (decide (j ≤ i)) := Eq.trans rfl rfl
theorem q_eq (x y : D) : cmpO .eq x y = eqO x y := Eq.trans rfl rfl
theorem q_ne (x y : D) : cmpO .ne x y = (eqO x y).map (!·) := Eq.trans rfl rfl
theorem q_is (a b : Bool) : cmpO .is (.bl a) (.bl b) = some (decide (a = b)) := Eq.trans rfl rfl
theorem q_isN : cmpO .is .non .non = some true := Eq.trans rfl rfl
theorem q_isNb (b : Bool) : cmpO .is (.bl b) .non = some false := Eq.trans rfl rfl
theorem q_isNi (b : Int) : cmpO .is (.int b) .non = some false := Eq.trans rfl rfl
theorem q_isNt (b : List D) : cmpO .is (.tup b) .non = some false := Eq.trans rfl rfl
theorem q_not (a b : Bool) : cmpO .isnot (.bl a) (.bl b) = some (!decide (a = b)) := Eq.trans rfl rfl
theorem q_notN : cmpO .isnot .non .non = some false := Eq.trans rfl rfl
theorem q_notNb (b : Bool) : cmpO .isnot (.bl b) .non = some true := Eq.trans rfl rfl
theorem q_notNi (b : Int) : cmpO .isnot (.int b) .non = some true := Eq.trans rfl rfl
theorem q_notNt (b : List D) : cmpO .isnot (.tup b) .non = some true := Eq.trans rfl rfl
theorem q_in (x y : D) : cmpO .in_ x y = inO x y := Eq.trans rfl rfl
theorem q_nin (x y : D) : cmpO .notin x y = (inO x y).map (!·) := Eq.trans rfl rfl
theorem eqO_int (i j : Int) : eqO (.int i) (.int j) = some (decide (i = j)) := encI.eqO (by decide) i j
theorem eqO_nat (i j : Nat) : eqO (.int (i : Int)) (.int (j : Int)) = some (decide (i = j)) := by
  rw [eqO_int]
  congr 1
  simp only [Int.ofNat_inj]
theorem u_bl (b : Bool) : truO (.bl b) = some b := Eq.trans rfl rfl
theorem u_int (b : Int) : truO (.int b) = some (b != 0) := Eq.trans rfl rfl
theorem u_lst (b : List D) : truO (.lst b) = some (!b.isEmpty) := Eq.trans rfl rfl
theorem u_tup (b : List D) : truO (.tup b) = some (!b.isEmpty) := Eq.trans rfl rfl
theorem i_lst (ds : List D) (i : Int) : idxO (.lst ds) (.int i) = L2.atI ds i := Eq.trans rfl rfl
theorem i_tup (ds : List D) (i : Int) : idxO (.tup ds) (.int i) = L2.atI ds i := Eq.trans rfl rfl
theorem i_n {ds : List D} {i : Int} {d : D} (h : ds[i.toNat]? = some d) (h0 : 0 ≤ i) : L2.atI ds i = some d := by
  obtain ⟨k, rfl⟩ := Int.eq_ofNat_of_zero_le h0
  rw [Int.toNat_natCast] at h
  exact L2.atI_nat h
theorem i_0 (d : D) (ds : List D) : L2.atI (d :: ds) 0 = some d := i_n rfl (by decide)
theorem i_1 (d e : D) (ds : List D) : L2.atI (d :: e :: ds) 1 = some e := i_n rfl (by decide)
theorem i_2 (d e f : D) (ds : List D) : L2.atI (d :: e :: f :: ds) 2 = some f := i_n rfl (by decide)
theorem i_3 (d e f g : D) (ds : List D) : L2.atI (d :: e :: f :: g :: ds) 3 = some g := i_n rfl (by decide)
theorem i_4 (d e f g h : D) (ds : List D) : L2.atI (d :: e :: f :: g :: h :: ds) 4 = some h := i_n rfl (by decide)
theorem l_lst (ds : List D) : lenO (.lst ds) = some (ds.length : Int) := Eq.trans rfl rfl
theorem l_tup (ds : List D) : lenO (.tup ds) = some (ds.length : Int) := Eq.trans rfl rfl
theorem z_lst (ds : List D) (lo hi : Option Int) : slcO (.lst ds) lo hi = some (.mo (.lst (cutD ds lo hi))) := Eq.trans rfl rfl
theorem z_tup (ds : List D) (lo hi : Option Int) : slcO (.tup ds) lo hi = some (.pl (.d (.tup (cutD ds lo hi)))) := Eq.trans rfl rfl
def wI (i : Int) : Rz := .pl (.d (.int i))
theorem a_wI (i : Int) : wI i = .pl (.d (.int i)) := Eq.trans rfl rfl
theorem t_len (x : D) : bltO .len [x] = (lenO x).map wI := Eq.trans rfl rfl
theorem t_max (i j : Int) : bltO .max2 [.int i, .int j] = some (.pl (.d (.int (if j > i then j else i)))) := Eq.trans rfl rfl
theorem t_min (i j : Int) : bltO .min2 [.int i, .int j] = some (.pl (.d (.int (if j < i then j else i)))) := Eq.trans rfl rfl
theorem t_int (i : Int) : bltO .int [.int i] = some (.pl (.d (.int i))) := Eq.trans rfl rfl
theorem t_intb (i : Bool) : bltO .int [.bl i] = some (.pl (.d (.int (if i then 1 else 0)))) := Eq.trans rfl rfl
theorem t_all (ds : List D) : bltO .all [.lst ds] = (blsD ds).map fun bs => .pl (.d (.bl (bs.all id))) := Eq.trans rfl rfl
theorem t_any (ds : List D) : bltO .any [.lst ds] = (blsD ds).map fun bs => .pl (.d (.bl (bs.any id))) := Eq.trans rfl rfl
theorem t_listL (ds : List D) : bltO .list [.lst ds] = some (.mo (.lst ds)) := Eq.trans rfl rfl
theorem t_listT (ds : List D) : bltO .list [.tup ds] = some (.mo (.lst ds)) := Eq.trans rfl rfl
theorem t_listS (ns : List Int) : bltO .list [.scr ns] = some (.mo (.lst (ns.map D.int))) := Eq.trans rfl rfl
theorem t_tupL (ds : List D) : bltO .tuple [.lst ds] = some (.pl (.d (.tup ds))) := Eq.trans rfl rfl
theorem t_tupT (ds : List D) : bltO .tuple [.tup ds] = some (.pl (.d (.tup ds))) := Eq.trans rfl rfl
theorem g_lst (ds : List D) : seqD (.lst ds) = some ds := Eq.trans rfl rfl
theorem g_tup (ds : List D) : seqD (.tup ds) = some ds := Eq.trans rfl rfl
def kas (ts : Tgs) (ds : List D) (s : S) : Option S := asgTs ts ds s
theorem n_name (i : Nat) (d : D) (s : S) : asgT (.name i) d s = some ⟨s.env.set i (.val d), s.mem⟩ := Eq.trans rfl rfl
theorem n_tup (ts : Tgs) (ds : List D) (s : S) : asgT (.tup ts) (.tup ds) s = asgTs ts ds s := Eq.trans rfl rfl
theorem n_nil (s : S) : asgTs .nil [] s = some s := Eq.trans rfl rfl
theorem n_cons (t : Tg) (ts : Tgs) (d : D) (ds : List D) (s : S) : asgTs (.cons t ts) (d :: ds) s = bindO (asgT t d s) (kas ts ds) := Eq.trans rfl rfl
theorem n_kas (ts : Tgs) (ds : List D) (s : S) : kas ts ds s = asgTs ts ds s := Eq.trans rfl rfl
/-! ### commands -/
def jS (cf : CF) (b : C) : Fl → S → Out S Fl
  | .nx, s => ex cf b s
  | f, s => .ok f s
def jN (s : S) (_ : S) : Out S Fl := .ok .nx s
def jA2 (t : Tg) (d : D) (s : S) : Out S Fl := (Out.ofOpt (asgT t d s) s).bind jN
def jA (t : Tg) (r : Rz) (s : S) : Out S Fl := (esc (toP r) s).bind (jA2 t)
def jO (i : Nat) (r : Rz) (s : S) : Out S Fl := match r with
  | .mo m => .ok .nx ⟨s.env.set i (.own m), s.mem⟩
  | _ => .bad
def jH (i : Nat) (r : Rz) (s : S) : Out S Fl := match r with
  | .mo m => .ok .nx ⟨s.env.set i (.val (.ref s.mem.length)), s.mem ++ [m]⟩
  | _ => .bad
def jP4 (i j : Nat) (d e : D) (s : S) : Out S Fl := .ok .nx ⟨(s.env.set i (.val d)).set j (.val e), s.mem⟩
def jP3 (i j : Nat) (q : Rz) (d : D) (s : S) : Out S Fl := (esc (toP q) s).bind (jP4 i j d)
def jP2 (i j : Nat) (p q : Rz) (s : S) : Out S Fl := (esc (toP p) s).bind (jP3 i j q)
def jP (cf : CF) (i j : Nat) (b : E) (p : Rz) (s : S) : Out S Fl := (evR cf b s).bind (jP2 i j p)
def jG2 (i : Nat) (d : D) (s : S) : Out S Fl := .ok .nx ⟨s.env.set i (.val d), s.mem⟩
def jG (i : Nat) (op : BOp) (x : D) (q : Rz) (s : S) : Out S Fl := (Out.ofOpt (bindO (view s (toP q)) (augO op x)) s).bind (jG2 i)
def jG0 (cf : CF) (i : Nat) (op : BOp) (e : E) (s : S) : Option Sl → Out S Fl
  | some (.val x) => (evR cf e s).bind (jG i op x)
  | _ => .bad
def jU5 (p : Rz) (d k : D) (s : S) : Out S Fl := (Out.ofOpt (putO (toP p) k d s) s).bind jN
def jU4 (p : Rz) (d : D) (q : Rz) (s : S) : Out S Fl := (esc (toP q) s).bind (jU5 p d)
def jU3 (cf : CF) (i : E) (d : D) (p : Rz) (s : S) : Out S Fl := (evR cf i s).bind (jU4 p d)
def jU2 (cf : CF) (o i : E) (d : D) (s : S) : Out S Fl := (evR cf o s).bind (jU3 cf i d)
def jU (cf : CF) (o i : E) (r : Rz) (s : S) : Out S Fl := (esc (toP r) s).bind (jU2 cf o i)
def jL3 (p : Rz) (d : D) (s : S) : Out S Fl := (Out.ofOpt (appO (toP p) d s) s).bind jN
def jL2 (p : Rz) (r : Rz) (s : S) : Out S Fl := (esc (toP r) s).bind (jL3 p)
def jL1 (cf : CF) (e : E) (p : Rz) (s : S) : Out S Fl := (evR cf e s).bind (jL2 p)
def jL0 (cf : CF) (e : E) (p : Rz) (s : S) : Option D → Out S Fl
  | some (.lst _) => jL1 cf e p s
  | _ => .bad
def jL (cf : CF) (e : E) (p : Rz) (s : S) : Out S Fl := jL0 cf e p s (view s (toP p))
def jX2 (i : Nat) (d : D) (s : S) : Out S Fl := (Out.ofOpt (extO i d s) s).bind jN
def jX (i : Nat) (r : Rz) (s : S) : Out S Fl := (esc (toP r) s).bind (jX2 i)
def jX0 (cf : CF) (i : Nat) (e : E) (s : S) : Option Sl → Out S Fl
  | some (.own _) => (evR cf e s).bind (jX i)
  | _ => .bad
def jI2 (cf : CF) (a b : C) (k : Bool) (s : S) : Out S Fl := if k then ex cf a s else ex cf b s
def jI (cf : CF) (a b : C) (p : Rz) (s : S) : Out S Fl := (isT (toP p) s).bind (jI2 cf a b)
def jR2 (d : D) (s : S) : Out S Fl := .ok (.rt d) s
def jR (r : Rz) (s : S) : Out S Fl := (esc (toP r) s).bind jR2
def jE (_ : Rz) (s : S) : Out S Fl := .ok .nx s
def jW (p : Rz) (s : S) : Out S Bool := isT (toP p) s
def whlC (cf : CF) (c : E) (s : S) : Out S Bool := (evR cf c s).bind jW
def jT (cf : CF) (b : C) (s : S) (_ : S) : Out S Fl := ex cf b s
/-- a turn of a for -/
def turnF (cf : CF) (t : Tg) (b : C) (d : D) (s : S) : Out S Fl := (Out.ofOpt (asgT t d s) s).bind (jT cf b)
def jF (cf : CF) (t : Tg) (b : C) (ds : List D) (s : S) : Out S Fl := forL (turnF cf t b) ds s
theorem y_skip (s : S) : ex cf .skip s = .ok .nx s := Eq.trans rfl rfl
theorem y_seq (a b : C) (s : S) : ex cf (.seq a b) s = (ex cf a s).bind (jS cf b) := by
  rw [x_seq]
  exact congrArg (fun f => (ex cf a s).bind f) (funext fun f => funext fun s => by cases f <;> rfl)
theorem y_asg (t : Tg) (e : E) (s : S) : ex cf (.asg t e) s = (evR cf e s).bind (jA t) := Eq.trans rfl rfl
theorem y_own (i : Nat) (e : E) (s : S) : ex cf (.own i e) s = (evR cf e s).bind (jO i) := by
  rw [x_own]
  exact congrArg (fun f => (evR cf e s).bind f) (funext fun f => funext fun s => by cases f <;> rfl)
theorem y_shr (i : Nat) (e : E) (s : S) : ex cf (.shr i e) s = (evR cf e s).bind (jH i) := by
  rw [x_shr]
  exact congrArg (fun f => (evR cf e s).bind f) (funext fun f => funext fun s => by cases f <;> rfl)
theorem y_par (i j : Nat) (a b : E) (s : S) : ex cf (.par i j a b) s = (evR cf a s).bind (jP cf i j b) := Eq.trans rfl rfl
theorem y_aug (i : Nat) (op : BOp) (e : E) (s : S) : ex cf (.aug i op e) s = jG0 cf i op e s (s.env[i]?) := by
  rw [x_aug]
  generalize s.env[i]? = o
  rcases o with _ | x
  · rfl
  · cases x <;> rfl
theorem y_put (o i e : E) (s : S) : ex cf (.put o i e) s = (evR cf e s).bind (jU cf o i) := Eq.trans rfl rfl
theorem y_app (o e : E) (s : S) : ex cf (.app o e) s = (evR cf o s).bind (jL cf e) := by
  rw [x_app]
  refine congrArg (fun f => (evR cf o s).bind f) (funext fun p => funext fun s => ?_)
  unfold jL isLst
  generalize view s (toP p) = o
  rcases o with _ | x
  · rfl
  · cases x <;> rfl
theorem y_ext (i : Nat) (e : E) (s : S) : ex cf (.ext i e) s = jX0 cf i e s (s.env[i]?) := by
  rw [x_ext]
  generalize s.env[i]? = o
  rcases o with _ | x
  · rfl
  · cases x <;> rfl
theorem y_iff (c : E) (a b : C) (s : S) : ex cf (.iff c a b) s = (evR cf c s).bind (jI cf a b) := Eq.trans rfl rfl
theorem y_ret (e : E) (s : S) : ex cf (.ret e) s = (evR cf e s).bind jR := Eq.trans rfl rfl
theorem y_retN (s : S) : ex cf .retN s = .ok (.rt .non) s := Eq.trans rfl rfl
theorem y_brk (s : S) : ex cf .brk s = .ok .bk s := Eq.trans rfl rfl
theorem y_cont (s : S) : ex cf .cont s = .ok .ct s := Eq.trans rfl rfl
theorem y_exp (e : E) (s : S) : ex cf (.exp e) s = (evR cf e s).bind jE := Eq.trans rfl rfl
theorem y_whl (c : E) (b : C) (s : S) : ex cf (.whl c b) s = whlL (whlC cf c) (ex cf b) turns s := Eq.trans rfl rfl
theorem y_for (t : Tg) (it : I) (b : C) (s : S) : ex cf (.for t it b) s = (evI cf it s).bind (jF cf t b) := Eq.trans rfl rfl
theorem j_Sn (b : C) (s : S) : jS cf b .nx s = ex cf b s := Eq.trans rfl rfl
theorem j_Sr (b : C) (d : D) (s : S) : jS cf b (.rt d) s = .ok (.rt d) s := Eq.trans rfl rfl
theorem j_Sb (b : C) (s : S) : jS cf b .bk s = .ok .bk s := Eq.trans rfl rfl
theorem j_Sc (b : C) (s : S) : jS cf b .ct s = .ok .ct s := Eq.trans rfl rfl
theorem j_N (s s' : S) : jN s s' = .ok .nx s := Eq.trans rfl rfl
theorem j_A2 (t : Tg) (d : D) (s : S) : jA2 t d s = (Out.ofOpt (asgT t d s) s).bind jN := Eq.trans rfl rfl
theorem j_A (t : Tg) (r : Rz) (s : S) : jA t r s = (esc (toP r) s).bind (jA2 t) := Eq.trans rfl rfl
theorem j_O (i : Nat) (m : MO) (s : S) : jO i (.mo m) s = .ok .nx ⟨s.env.set i (.own m), s.mem⟩ := Eq.trans rfl rfl
theorem j_H (i : Nat) (m : MO) (s : S) : jH i (.mo m) s = .ok .nx ⟨s.env.set i (.val (.ref s.mem.length)), s.mem ++ [m]⟩ := Eq.trans rfl rfl
theorem j_P4 (i j : Nat) (d e : D) (s : S) : jP4 i j d e s = .ok .nx ⟨(s.env.set i (.val d)).set j (.val e), s.mem⟩ := Eq.trans rfl rfl
theorem j_P3 (i j : Nat) (q : Rz) (d : D) (s : S) : jP3 i j q d s = (esc (toP q) s).bind (jP4 i j d) := Eq.trans rfl rfl
theorem j_P2 (i j : Nat) (p q : Rz) (s : S) : jP2 i j p q s = (esc (toP p) s).bind (jP3 i j q) := Eq.trans rfl rfl
theorem j_P (i j : Nat) (b : E) (p : Rz) (s : S) : jP cf i j b p s = (evR cf b s).bind (jP2 i j p) := Eq.trans rfl rfl
theorem j_G0 (i : Nat) (op : BOp) (e : E) (s : S) (x : D) : jG0 cf i op e s (some (.val x)) = (evR cf e s).bind (jG i op x) := Eq.trans rfl rfl
theorem j_G (i : Nat) (op : BOp) (x : D) (q : Rz) (s : S) : jG i op x q s = (Out.ofOpt (bindO (view s (toP q)) (augO op x)) s).bind (jG2 i) := Eq.trans rfl rfl
theorem j_G2 (i : Nat) (d : D) (s : S) : jG2 i d s = .ok .nx ⟨s.env.set i (.val d), s.mem⟩ := Eq.trans rfl rfl
theorem j_U5 (p : Rz) (d k : D) (s : S) : jU5 p d k s = (Out.ofOpt (putO (toP p) k d s) s).bind jN := Eq.trans rfl rfl
theorem j_U4 (p : Rz) (d : D) (q : Rz) (s : S) : jU4 p d q s = (esc (toP q) s).bind (jU5 p d) := Eq.trans rfl rfl
theorem j_U3 (i : E) (d : D) (p : Rz) (s : S) : jU3 cf i d p s = (evR cf i s).bind (jU4 p d) := Eq.trans rfl rfl
theorem j_U2 (o i : E) (d : D) (s : S) : jU2 cf o i d s = (evR cf o s).bind (jU3 cf i d) := Eq.trans rfl rfl
theorem j_U (o i : E) (r : Rz) (s : S) : jU cf o i r s = (esc (toP r) s).bind (jU2 cf o i) := Eq.trans rfl rfl
theorem j_L3 (p : Rz) (d : D) (s : S) : jL3 p d s = (Out.ofOpt (appO (toP p) d s) s).bind jN := Eq.trans rfl rfl
theorem j_L2 (p r : Rz) (s : S) : jL2 p r s = (esc (toP r) s).bind (jL3 p) := Eq.trans rfl rfl
theorem j_L1 (e : E) (p : Rz) (s : S) : jL1 cf e p s = (evR cf e s).bind (jL2 p) := Eq.trans rfl rfl
theorem j_L0 (e : E) (p : Rz) (s : S) (ds : List D) : jL0 cf e p s (some (.lst ds)) = jL1 cf e p s := Eq.trans rfl rfl
theorem j_L (e : E) (p : Rz) (s : S) : jL cf e p s = jL0 cf e p s (view s (toP p)) := Eq.trans rfl rfl
theorem j_X2 (i : Nat) (d : D) (s : S) : jX2 i d s = (Out.ofOpt (extO i d s) s).bind jN := Eq.trans rfl rfl
theorem j_X (i : Nat) (r : Rz) (s : S) : jX i r s = (esc (toP r) s).bind (jX2 i) := Eq.trans rfl rfl
theorem j_X0 (i : Nat) (e : E) (s : S) (m : MO) : jX0 cf i e s (some (.own m)) = (evR cf e s).bind (jX i) := Eq.trans rfl rfl
theorem j_It (a b : C) (s : S) : jI2 cf a b true s = ex cf a s := Eq.trans rfl rfl
theorem j_If (a b : C) (s : S) : jI2 cf a b false s = ex cf b s := Eq.trans rfl rfl
theorem j_I (a b : C) (p : Rz) (s : S) : jI cf a b p s = (isT (toP p) s).bind (jI2 cf a b) := Eq.trans rfl rfl
theorem j_R2 (d : D) (s : S) : jR2 d s = .ok (.rt d) s := Eq.trans rfl rfl
theorem j_R (r : Rz) (s : S) : jR r s = (esc (toP r) s).bind jR2 := Eq.trans rfl rfl
theorem j_E (r : Rz) (s : S) : jE r s = .ok .nx s := Eq.trans rfl rfl
theorem j_W (p : Rz) (s : S) : jW p s = isT (toP p) s := Eq.trans rfl rfl
theorem j_whlC (c : E) (s : S) : whlC cf c s = (evR cf c s).bind jW := Eq.trans rfl rfl
theorem j_T (b : C) (s s' : S) : jT cf b s s' = ex cf b s := Eq.trans rfl rfl
theorem j_turnF (t : Tg) (b : C) (d : D) (s : S) : turnF cf t b d s = (Out.ofOpt (asgT t d s) s).bind (jT cf b) := Eq.trans rfl rfl
theorem j_F (t : Tg) (b : C) (ds : List D) (s : S) : jF cf t b ds s = forL (turnF cf t b) ds s := Eq.trans rfl rfl
theorem m_rt (d : D) (s : S) : finO (.ok (.rt d) s) = .ok d s.mem := Eq.trans rfl rfl
theorem m_nx (s : S) : finO (.ok .nx s) = .ok .non s.mem := Eq.trans rfl rfl
theorem m_exc (x : XC) (s : S) : finO (.exc x s) = .exc x s.mem := Eq.trans rfl rfl
/-- appending -/
def apW (s : S) (i : Nat) (d : D) : Option Sl → Option S
  | some (.own (.lst ds)) => if ds.length < lim then some ⟨s.env.set i (.own (.lst (ds ++ [d]))), s.mem⟩ else none
  | some (.val (.ref n)) => appM n d s
  | _ => none
theorem ap_s (i : Nat) (d : D) (s : S) : appO (.slot i) d s = apW s i d (s.env[i]?) := by
  unfold appO apW <;> (try dsimp only) <;> (generalize s.env[i]? = o; rcases o with _ | x <;> first | rfl | (cases x <;> first | rfl | (rename_i z; cases z <;> rfl)))
theorem ap_r (n : Nat) (d : D) (s : S) : appO (.d (.ref n)) d s = appM n d s := Eq.trans rfl rfl
theorem ap_o (s : S) (i : Nat) (d : D) (ds : List D) (h : ds.length < 16777216) : apW s i d (some (.own (.lst ds))) = some ⟨s.env.set i (.own (.lst (ds ++ [d]))), s.mem⟩ := if_pos h
theorem ap_v (s : S) (i n : Nat) (d : D) : apW s i d (some (.val (.ref n))) = appM n d s := Eq.trans rfl rfl
theorem ap_m (s : S) (n : Nat) (d : D) (ds : List D) (hm : s.mem[n]? = some (.lst ds)) (h : ds.length < 16777216) : appM n d s = some ⟨s.env, s.mem.set n (.lst (ds ++ [d]))⟩ := by
  unfold appM
  rw [hm]
  exact if_pos h
def exW (s : S) (i : Nat) (d : D) : Option Sl → Option S
  | some (.own (.lst ds)) => match d with
    | .lst es => if ds.length + es.length ≤ lim then some ⟨s.env.set i (.own (.lst (ds ++ es))), s.mem⟩ else none
    | _ => none
  | _ => none
theorem ex_s (i : Nat) (d : D) (s : S) : extO i d s = exW s i d (s.env[i]?) := by
  unfold extO exW <;> (try dsimp only) <;> (generalize s.env[i]? = o; rcases o with _ | x <;> first | rfl | (cases x <;> first | rfl | (rename_i z; cases z <;> cases d <;> rfl)))
theorem ex_o (s : S) (i : Nat) (ds es : List D) (h : ds.length + es.length ≤ 16777216) : exW s i (.lst es) (some (.own (.lst ds))) = some ⟨s.env.set i (.own (.lst (ds ++ es))), s.mem⟩ := if_pos h
def puW (s : S) (i : Nat) (k d : D) : Option Sl → Option S
  | some (.own (.lst ds)) => match k with
    | .int j => (L2.ixN ds.length j).map fun j => ⟨s.env.set i (.own (.lst (ds.set j d))), s.mem⟩
    | _ => none
  | some (.own (.dct kvs)) => (putKV kvs k d).map fun r => ⟨s.env.set i (.own (.dct r)), s.mem⟩
  | some (.val (.ref n)) => putM n k d s
  | _ => none
theorem pu_s (i : Nat) (k d : D) (s : S) : putO (.slot i) k d s = puW s i k d (s.env[i]?) := by
  unfold putO puW <;> (try dsimp only) <;> (generalize s.env[i]? = o; rcases o with _ | x <;> first | rfl | (cases x <;> first | rfl | (rename_i z; cases z <;> first | rfl | (cases k <;> rfl))))
theorem pu_o (s : S) (i j : Nat) (d : D) (ds : List D) (h : j < ds.length) : puW s i (.int (j : Int)) d (some (.own (.lst ds))) = some ⟨s.env.set i (.own (.lst (ds.set j d))), s.mem⟩ := by
  show (L2.ixN ds.length (j : Int)).map _ = _
  rw [ixN_nat h]
  rfl
theorem pu_od (s : S) (i : Nat) (k d : D) (kvs : List (D × D)) : puW s i k d (some (.own (.dct kvs))) = (putKV kvs k d).map fun r => ⟨s.env.set i (.own (.dct r)), s.mem⟩ := Eq.trans rfl rfl
theorem pu_r (n : Nat) (k d : D) (s : S) : putO (.d (.ref n)) k d s = putM n k d s := Eq.trans rfl rfl
theorem pu_v (s : S) (i n : Nat) (k d : D) : puW s i k d (some (.val (.ref n))) = putM n k d s := Eq.trans rfl rfl
theorem au_add (i j : Int) : augO .add (.int i) (.int j) = some (.int (i + j)) := Eq.trans rfl rfl
theorem au_sub (i j : Int) : augO .sub (.int i) (.int j) = some (.int (i - j)) := Eq.trans rfl rfl
theorem au_mul (i j : Int) (h : (-1000000000 < i ∧ i < 1000000000) ∨ (-1000000000 < j ∧ j < 1000000000)) : augO .mul (.int i) (.int j) = some (.int (i * j)) := by
  show (if mulOk i j then _ else _) = _
  rw [if_pos]
  rcases h with h | h
  · exact mulOk_l j (by omega) (by omega)
  · exact mulOk_r i (by omega) (by omega)
theorem au_fdiv (i j : Int) (h : 0 < j ∧ j < 1073741824) : augO .fdiv (.int i) (.int j) = some (.int (i / j)) := if_pos (by simp [h.1, h.2])
theorem au_mod (i j : Int) (h : 0 < j) : augO .mod (.int i) (.int j) = some (.int (i % j)) := if_pos (by simp [h])
/-! ### whole numbers that are counts -/
abbrev dN (k : Nat) : D := .int (k : Int)
theorem rg1_n (k : Nat) (s : S) (h : k ≤ 1000000000) : rg1 (k : Int) s = .ok ((List.range k).map dN) s := by
  unfold rg1
  rw [if_pos, Int.toNat_natCast, rng_map]
  unfold small62
  rw [Bool.and_eq_true, decide_eq_true_eq, decide_eq_true_eq]
  omega
theorem rg1_i (i : Int) (s : S) (h : -1000000000 ≤ i ∧ i ≤ 1000000000) : rg1 i s = .ok ((List.range i.toNat).map dN) s := by
  unfold rg1
  rw [if_pos, rng_map]
  unfold small62
  rw [Bool.and_eq_true, decide_eq_true_eq, decide_eq_true_eq]
  omega
theorem rg3_i (i j : Int) (s : S) (h : -1000000000 ≤ i ∧ i ≤ 1000000000 ∧ -1000000000 ≤ j ∧ j ≤ 1000000000) : rg3 i j (-1) s = .ok (rngC i (i - j).toNat) s := by
  unfold rg3 small62
  rw [if_pos]
  obtain ⟨h1, h2, h3, h4⟩ := h
  simp only [Bool.and_eq_true, decide_eq_true_eq, and_true]
  refine ⟨⟨?_, ?_⟩, ?_, ?_⟩ <;> omega
theorem lst1_n (k : Nat) (s : S) (h : k ≤ 1000000) : lst1 (k : Int) s = .ok (.mo (.lst ((List.range k).map dN))) s := by
  unfold lst1 smallR small62 lim
  rw [if_pos, Int.toNat_natCast, rng_map]
  simp only [Bool.and_eq_true, decide_eq_true_eq]
  omega
theorem ci_add (a b : Nat) : (a : Int) + (b : Int) = ((a + b : Nat) : Int) := by omega
theorem ci_add1 (a : Nat) : (a : Int) + 1 = ((a + 1 : Nat) : Int) := by omega
theorem ci_1add (a : Nat) : 1 + (a : Int) = ((1 + a : Nat) : Int) := by omega
theorem ci_2add (a : Nat) : 2 + (a : Int) = ((2 + a : Nat) : Int) := by omega
theorem ci_mul (a b : Nat) : (a : Int) * (b : Int) = ((a * b : Nat) : Int) := by rw [Int.natCast_mul]
theorem ci_mod (a b : Nat) : (a : Int) % (b : Int) = ((a % b : Nat) : Int) := by rw [Int.natCast_emod]
theorem ci_div (a b : Nat) : (a : Int) / (b : Int) = ((a / b : Nat) : Int) := by rw [Int.natCast_ediv]
theorem ci_lt (a b : Nat) : ((a : Int) < (b : Int)) = (a < b) := by simp
theorem ci_le (a b : Nat) : ((a : Int) ≤ (b : Int)) = (a ≤ b) := by simp
theorem ci_eq (a b : Nat) : ((a : Int) = (b : Int)) = (a = b) := by simp only [Int.ofNat_inj]
theorem ci_sub (a b : Nat) (h : b ≤ a) : (a : Int) - (b : Int) = ((a - b : Nat) : Int) := by omega
theorem ci_sub1 (a : Nat) (h : 1 ≤ a) : (a : Int) - 1 = ((a - 1 : Nat) : Int) := by omega
theorem at_n {α : Type} (e : α → D) (l : List α) (k : Nat) (h : k < l.length) : L2.atI (l.map e) (k : Int) = some (e l[k]) := by
  rw [atI_lt (by simpa using h)]
  simp
end
end DL
end

section
set_option maxRecDepth 100000
set_option maxHeartbeats 8000000
/-! DS4: what holds behind a run. -/
namespace DL
open PySem
/-- it comes to an end, and Q holds then (closed to all unfolding) -/
inductive Out.Wp {τ α : Type} : Out τ α → (α → τ → Prop) → Prop
  | mk {a : α} {t : τ} {Q : α → τ → Prop} (h : Q a t) : Out.Wp (.ok a t) Q
section
variable {τ α β : Type}
theorem wp_ok (a : α) (t : τ) (Q : α → τ → Prop) : (Out.ok a t).Wp Q = Q a t := propext ⟨fun | .mk h => h, .mk⟩
theorem wp_exc (x : XC) (t : τ) (Q : α → τ → Prop) (h : (Out.exc x t).Wp Q) : False := nomatch h
theorem wp_bad (Q : α → τ → Prop) (h : (Out.bad : Out τ α).Wp Q) : False := nomatch h
theorem wp_out {o : Out τ α} {Q : α → τ → Prop} (h : o.Wp Q) : o.WP Q := by cases h; assumption
theorem wp_bind (o : Out τ α) (f : α → τ → Out τ β) (Q : β → τ → Prop) : (o.bind f).Wp Q = o.Wp fun a t => (f a t).Wp Q := by
  cases o with
  | ok a t => rw [wp_ok]; exact Eq.trans rfl rfl
  | exc x t => exact propext ⟨fun h => (nomatch h), fun h => (nomatch h)⟩
  | bad => exact propext ⟨fun h => (nomatch h), fun h => (nomatch h)⟩
theorem wp_mono {o : Out τ α} {P Q : α → τ → Prop} (h : o.Wp P) (g : ∀ a t, P a t → Q a t) : o.Wp Q := by
  cases h with
  | mk h => exact .mk (g _ _ h)
theorem wp_eq {o : Out τ α} {a : α} {t : τ} (h : o.Wp fun b u => b = a ∧ u = t) : o = .ok a t := by
  cases h with
  | mk h => obtain ⟨rfl, rfl⟩ := h; rfl
theorem wp_of {o : Out τ α} {a : α} {t : τ} {Q : α → τ → Prop} (h : o = .ok a t) (q : Q a t) : o.Wp Q := by rw [h]; exact .mk q
theorem wp_get {o : Out τ α} {Q : α → τ → Prop} (h : o.Wp Q) : ∃ a t, o = .ok a t ∧ Q a t := by
  cases h with
  | mk h => exact ⟨_, _, rfl, h⟩
end
/-- what a def leaves -/
def finQ (Q : D → List MO → Prop) : Fl → S → Prop
  | .rt d, s => Q d s.mem
  | .nx, s => Q .non s.mem
  | _, _ => False
theorem wp_fin (o : Out S Fl) (Q : D → List MO → Prop) : (finO o).Wp Q = o.Wp (finQ Q) := by
  cases o with
  | ok f s =>
    rw [wp_ok]
    cases f with
    | nx => exact (wp_ok D.non s.mem Q).trans rfl
    | rt d => exact (wp_ok d s.mem Q).trans rfl
    | bk => exact propext ⟨fun h => (nomatch h), fun h => False.elim h⟩
    | ct => exact propext ⟨fun h => (nomatch h), fun h => False.elim h⟩
  | exc x t => exact propext ⟨fun h => (nomatch h), fun h => (nomatch h)⟩
  | bad => exact propext ⟨fun h => (nomatch h), fun h => (nomatch h)⟩
theorem fq_rt (Q : D → List MO → Prop) (d : D) (s : S) : finQ Q (.rt d) s = Q d s.mem := Eq.trans rfl rfl
theorem fq_nx (Q : D → List MO → Prop) (s : S) : finQ Q .nx s = Q .non s.mem := Eq.trans rfl rfl
/-- what a turn of a for leaves -/
def forQ (I : S → Prop) (Q : Fl → S → Prop) : Fl → S → Prop
  | .nx, s => I s
  | .ct, s => I s
  | .rt d, s => Q (.rt d) s
  | .bk, s => Q .nx s
theorem gq_nx (I : S → Prop) (Q : Fl → S → Prop) (s : S) : forQ I Q .nx s = I s := Eq.trans rfl rfl
theorem gq_ct (I : S → Prop) (Q : Fl → S → Prop) (s : S) : forQ I Q .ct s = I s := Eq.trans rfl rfl
theorem gq_rt (I : S → Prop) (Q : Fl → S → Prop) (d : D) (s : S) : forQ I Q (.rt d) s = Q (.rt d) s := Eq.trans rfl rfl
theorem gq_bk (I : S → Prop) (Q : Fl → S → Prop) (s : S) : forQ I Q .bk s = Q .nx s := Eq.trans rfl rfl
theorem wp_for {α : Type} {turn : D → S → Out S Fl} {Q : Fl → S → Prop} (enc : α → D) (I : List α → S → Prop) (l0 : List α) (hs : ∀ (done : List α) (a : α) (rest : List α) (s : S), l0 = done ++ a :: rest → I done s → (turn (enc a) s).Wp (forQ (I (done ++ [a])) Q)) (hq : ∀ s, I l0 s → Q .nx s) :
    ∀ (l done : List α) (s : S), l0 = done ++ l → I done s → (forL turn (l.map enc) s).Wp Q
  | [], done, s, e, hI => by
    rw [List.append_nil] at e
    subst e
    exact .mk (hq s hI)
  | a :: l, done, s, e, hI => by
    have h := hs done a l s e hI
    show ((turn (enc a) s).bind _).Wp Q
    rw [wp_bind]
    refine wp_mono h fun f s' hf => ?_
    cases f with
    | nx => exact wp_for enc I l0 hs hq l (done ++ [a]) s' (by rw [e]; simp) hf
    | ct => exact wp_for enc I l0 hs hq l (done ++ [a]) s' (by rw [e]; simp) hf
    | rt d => exact .mk hf
    | bk => exact .mk hf
/-- a for: from the front -/
theorem wp_for0 {α : Type} {turn : D → S → Out S Fl} {Q : Fl → S → Prop} (enc : α → D) (I : List α → S → Prop) {l : List α} {s : S} (h0 : I [] s) (hs : ∀ (done : List α) (a : α) (rest : List α) (s : S), l = done ++ a :: rest → I done s → (turn (enc a) s).Wp (forQ (I (done ++ [a])) Q)) (hq : ∀ s, I l s → Q .nx s) : (forL turn (l.map enc) s).Wp Q :=
  wp_for enc I l hs hq l [] s rfl h0
/-- a for with the same standing at each turn -/
theorem wp_forI {turn : D → S → Out S Fl} {Q : Fl → S → Prop} (I : S → Prop) {l : List D} {s : S} (h0 : I s) (hs : ∀ d ∈ l, ∀ s, I s → (turn d s).Wp (forQ I Q)) (hq : ∀ s, I s → Q .nx s) : (forL turn l s).Wp Q := by
  have := wp_for0 (turn := turn) (Q := Q) id (fun _ => I) (l := l) (s := s) h0 (fun done a rest s e hI => hs a (by rw [e]; simp) s hI) hq
  rwa [List.map_id] at this
/-- a for that goes on from state to state -/
theorem for_st {α σ : Type} {turn : D → S → Out S Fl} (enc : α → D) (st : σ → S) (g : σ → α → σ) (P : σ → Prop) : ∀ (l : List α) (x : σ), P x → (∀ a ∈ l, ∀ x, P x → turn (enc a) (st x) = .ok .nx (st (g x a)) ∧ P (g x a)) → forL turn (l.map enc) (st x) = .ok .nx (st (l.foldl g x))
  | [], x, _, _ => rfl
  | a :: l, x, hx, h => by
    obtain ⟨h1, h2⟩ := h a List.mem_cons_self x hx
    show ((turn (enc a) (st x)).bind _) = _
    rw [h1]
    exact for_st enc st g P l _ h2 fun b hb => h b (List.mem_cons_of_mem _ hb)
theorem sum_const {α : Type} (n : Nat) : ∀ l : List α, (l.map fun _ => n).sum = l.length * n
  | [] => by simp
  | a :: l => by rw [List.map_cons, List.sum_cons, sum_const n l, List.length_cons, Nat.add_mul, Nat.one_mul, Nat.add_comm]
theorem flat_len {α β : Type} (f : α → List β) (n : Nat) (h : ∀ a, (f a).length = n) (l : List α) : (l.flatMap f).length = l.length * n := by
  rw [List.length_flatMap, show (fun a => (f a).length) = fun _ => n from funext h]
  exact sum_const n l
/-! ### comprehensions -/
theorem gx_run {α : Type} {turn : D → S → Out S (Option Bool)} (enc : α → D) (f : α → Bool) (l : List α) (stop : Bool) (own : List Nat) (env : List Sl) (mem : List MO) (h : ∀ a ∈ l, ∃ env', turn (enc a) ⟨wipeE env own, mem⟩ = .ok (some (f a)) ⟨env', mem⟩ ∧ wipeE env' own = wipeE env own) :
    gxR own stop turn (l.map enc) ⟨env, mem⟩ = .ok (.pl (.d (.bl (if stop then l.any f else l.all f)))) ⟨back env env own, mem⟩ := by
  obtain ⟨env', e, he⟩ := gx_map (stop := stop) (turn := turn) (mem := mem) enc f l h env rfl
  unfold gxR
  rw [e, b_ok, a_Gx2]
  show Out.ok _ (⟨back env env' own, mem⟩ : S) = _
  rw [back_wipe he]
theorem lc_run {α : Type} {turn : D → S → Out S (Option D)} (enc f : α → D) (l : List α) (own : List Nat) (env : List Sl) (mem : List MO) (h : ∀ a ∈ l, ∃ env', turn (enc a) ⟨wipeE env own, mem⟩ = .ok (some (f a)) ⟨env', mem⟩ ∧ wipeE env' own = wipeE env own) :
    lcR own turn (l.map enc) ⟨env, mem⟩ = .ok (.mo (.lst (l.map f))) ⟨back env env own, mem⟩ := by
  obtain ⟨env', e, he⟩ := lc_map (turn := turn) (mem := mem) enc f l h env rfl
  unfold lcR
  rw [e, b_ok, a_Lc2]
  show Out.ok _ (⟨back env env' own, mem⟩ : S) = _
  rw [back_wipe he]
theorem lc_filt {α : Type} {turn : D → S → Out S (Option D)} {own : List Nat} {env0 : List Sl} {mem : List MO} (enc : α → D) (f : α → Option D) : ∀ (l : List α), (∀ a ∈ l, ∃ env', turn (enc a) ⟨env0, mem⟩ = .ok (f a) ⟨env', mem⟩ ∧ wipeE env' own = env0) →
    ∀ env, wipeE env own = env0 → ∃ env', lcL own turn (l.map enc) ⟨env, mem⟩ = .ok (l.filterMap f) ⟨env', mem⟩ ∧ wipeE env' own = env0
  | [], _, env, he => ⟨env, rfl, he⟩
  | a :: l, h, env, he => by
    obtain ⟨env1, e1, he1⟩ := h a List.mem_cons_self
    obtain ⟨env2, e2, he2⟩ := lc_filt enc f l (fun b hb => h b (List.mem_cons_of_mem _ hb)) env1 he1
    refine ⟨env2, ?_, he2⟩
    simp only [List.map_cons, lcL, he, e1, Out.bind, e2]
    cases hf : f a with
    | none => rw [List.filterMap_cons_none hf]
    | some x => rw [List.filterMap_cons_some hf]
theorem lf_run {α : Type} {turn : D → S → Out S (Option D)} (enc : α → D) (f : α → Option D) (l : List α) (own : List Nat) (env : List Sl) (mem : List MO) (h : ∀ a ∈ l, ∃ env', turn (enc a) ⟨wipeE env own, mem⟩ = .ok (f a) ⟨env', mem⟩ ∧ wipeE env' own = wipeE env own) :
    lcR own turn (l.map enc) ⟨env, mem⟩ = .ok (.mo (.lst (l.filterMap f))) ⟨back env env own, mem⟩ := by
  obtain ⟨env', e, he⟩ := lc_filt (turn := turn) (mem := mem) enc f l h env rfl
  unfold lcR
  rw [e, b_ok, a_Lc2]
  show Out.ok _ (⟨back env env' own, mem⟩ : S) = _
  rw [back_wipe he]
/-- [e(a) for a in l if p(a)] -/
theorem lf_if {α : Type} {turn : D → S → Out S (Option D)} (enc : α → D) (p : α → Bool) (f : α → D) (l : List α) (own : List Nat) (env : List Sl) (mem : List MO) (h : ∀ a ∈ l, ∃ env', turn (enc a) ⟨wipeE env own, mem⟩ = .ok (if p a then some (f a) else none) ⟨env', mem⟩ ∧ wipeE env' own = wipeE env own) :
    lcR own turn (l.map enc) ⟨env, mem⟩ = .ok (.mo (.lst ((l.filter p).map f))) ⟨back env env own, mem⟩ := by
  rw [lf_run enc (fun a => if p a then some (f a) else none) l own env mem h]
  congr 3
  induction l with
  | nil => rfl
  | cons a l ih =>
    have ih := ih fun b hb => h b (List.mem_cons_of_mem _ hb)
    cases hp : p a with
    | true => rw [List.filterMap_cons_some (b := f a) (by simp [hp]), ih, List.filter_cons_of_pos hp]; rfl
    | false => rw [List.filterMap_cons_none (by simp [hp]), ih, List.filter_cons_of_neg (by simp [hp])]
/-- a comprehension that draws, each turn known by what it does -/
theorem lc_rel {α : Type} {turn : D → S → Out S (Option D)} {own : List Nat} {env0 : List Sl} (enc : α → D) (J : List MO → Prop) (P : α → Option D → Prop) : ∀ (l : List α), (∀ a ∈ l, ∀ mem, J mem → (turn (enc a) ⟨env0, mem⟩).Wp fun x s => P a x ∧ J s.mem ∧ wipeE s.env own = env0) →
    ∀ env mem, wipeE env own = env0 → J mem → (lcL own turn (l.map enc) ⟨env, mem⟩).Wp fun rs s => (∃ xs : List (Option D), xs.length = l.length ∧ (∀ k (h : k < l.length) (h' : k < xs.length), P l[k] xs[k]) ∧ rs = xs.filterMap id) ∧ J s.mem ∧ wipeE s.env own = env0
  | [], _, env, mem, he, hm => .mk ⟨⟨[], rfl, fun k h => absurd h (Nat.not_lt_zero _), rfl⟩, hm, he⟩
  | a :: l, h, env, mem, he, hm => by
    obtain ⟨x, s1, e1, hx, hm1, he1⟩ := wp_get (h a List.mem_cons_self mem hm)
    obtain ⟨rs, s2, e2, ⟨xs, hl, hP, hr⟩, hm2, he2⟩ := wp_get (lc_rel enc J P l (fun b hb => h b (List.mem_cons_of_mem _ hb)) s1.env s1.mem he1 hm1)
    show ((turn (enc a) ⟨wipeE env own, mem⟩).bind _).Wp _
    rw [he, e1, b_ok]
    show ((lcL own turn (l.map enc) ⟨s1.env, s1.mem⟩).bind _).Wp _
    rw [e2, b_ok]
    refine .mk ⟨⟨x :: xs, by simp [hl], fun k h h' => ?_, ?_⟩, hm2, he2⟩
    · cases k with
      | zero => exact hx
      | succ k => exact hP k (by simpa using h) (by simpa using h')
    · cases x <;> simp [hr]
theorem lr_run {α : Type} {turn : D → S → Out S (Option D)} {Q : Rz → S → Prop} (enc : α → D) (J : List MO → Prop) (P : α → Option D → Prop) (l : List α) (own : List Nat) (env : List Sl) (mem : List MO) (hm : J mem) (h : ∀ a ∈ l, ∀ mem, J mem → (turn (enc a) ⟨wipeE env own, mem⟩).Wp fun x s => P a x ∧ J s.mem ∧ wipeE s.env own = wipeE env own)
    (hq : ∀ (xs : List (Option D)) (mem' : List MO), xs.length = l.length → (∀ k (h : k < l.length) (h' : k < xs.length), P l[k] xs[k]) → J mem' → Q (.mo (.lst (xs.filterMap id))) ⟨back env env own, mem'⟩) :
    (lcR own turn (l.map enc) ⟨env, mem⟩).Wp Q := by
  obtain ⟨rs, s, e, ⟨xs, hl, hP, rfl⟩, hm', he⟩ := wp_get (lc_rel (turn := turn) enc J P l h env mem rfl hm)
  unfold lcR
  rw [e, b_ok, a_Lc2]
  have := hq xs s.mem hl hP hm'
  refine .mk ?_
  show Q _ (⟨back env s.env own, s.mem⟩ : S)
  rw [back_wipe he]
  exact this
/-- [a for a in l if draw]: some of l -/
theorem ls_w {α : Type} {turn : D → S → Out S (Option D)} {Q : Rz → S → Prop} (enc : α → D) (J : List MO → Prop) (l : List α) (own : List Nat) (env : List Sl) (mem : List MO) (hm : J mem) (h : ∀ a ∈ l, ∀ mem, J mem → (turn (enc a) ⟨wipeE env own, mem⟩).Wp fun x s => (x = none ∨ x = some (enc a)) ∧ J s.mem ∧ wipeE s.env own = wipeE env own)
    (hq : ∀ (l' : List α) (mem' : List MO), l'.Sublist l → J mem' → Q (.mo (.lst (l'.map enc))) ⟨back env env own, mem'⟩) :
    (lcR own turn (l.map enc) ⟨env, mem⟩).Wp Q := by
  refine lr_run enc J (fun a x => x = none ∨ x = some (enc a)) l own env mem hm h fun xs mem' hl hP hm' => ?_
  have key : ∀ (l : List α) (xs : List (Option D)), xs.length = l.length → (∀ k (h : k < l.length) (h' : k < xs.length), xs[k] = none ∨ xs[k] = some (enc l[k])) → ∃ l' : List α, l'.Sublist l ∧ xs.filterMap id = l'.map enc := by
    intro l
    induction l with
    | nil => intro xs hl _; exact ⟨[], List.Sublist.refl _, by rw [List.length_eq_zero_iff.mp hl]; rfl⟩
    | cons a l ih =>
      intro xs hl hP
      cases xs with
      | nil => cases hl
      | cons x xs =>
        obtain ⟨l', hs, e⟩ := ih xs (by simpa using hl) fun k h h' => by
          have := hP (k + 1) (by simpa using h) (by simpa using h')
          simpa using this
        rcases hP 0 (by simp) (by simp) with hx | hx
        · simp at hx
          exact ⟨l', hs.cons a, by rw [hx]; simpa using e⟩
        · simp at hx
          exact ⟨a :: l', hs.cons₂ a, by rw [hx]; simp [e]⟩
  obtain ⟨l', hs, e⟩ := key l xs hl hP
  rw [e]
  exact hq l' mem' hs hm'
/-- what a turn that reckons leaves -/
def tkQ {β : Type} (r : β) (mem : List MO) (own : List Nat) (env0 : List Sl) (x : β) (s : S) : Prop := x = r ∧ s.mem = mem ∧ wipeE s.env own = env0
theorem k_tk {β : Type} (r x : β) (mem : List MO) (own : List Nat) (env0 : List Sl) (s : S) : tkQ r mem own env0 x s = (x = r ∧ s.mem = mem ∧ wipeE s.env own = env0) := Eq.trans rfl rfl
theorem tk_ex {β : Type} {o : Out S β} {r : β} {mem : List MO} {own : List Nat} {env0 : List Sl} (h : o.Wp (tkQ r mem own env0)) : ∃ env', o = .ok r ⟨env', mem⟩ ∧ wipeE env' own = env0 := by
  obtain ⟨x, s, e, rfl, rfl, he⟩ := wp_get h
  exact ⟨s.env, e, he⟩
theorem gx_w {α : Type} {turn : D → S → Out S (Option Bool)} (enc : α → D) (f : α → Bool) (l : List α) (stop : Bool) (own : List Nat) (env : List Sl) (mem : List MO) (h : ∀ a ∈ l, (turn (enc a) ⟨wipeE env own, mem⟩).Wp (tkQ (some (f a)) mem own (wipeE env own))) :
    gxR own stop turn (l.map enc) ⟨env, mem⟩ = .ok (.pl (.d (.bl (if stop then l.any f else l.all f)))) ⟨back env env own, mem⟩ := gx_run enc f l stop own env mem fun a ha => tk_ex (h a ha)
theorem lc_w {α : Type} {turn : D → S → Out S (Option D)} (enc f : α → D) (l : List α) (own : List Nat) (env : List Sl) (mem : List MO) (h : ∀ a ∈ l, (turn (enc a) ⟨wipeE env own, mem⟩).Wp (tkQ (some (f a)) mem own (wipeE env own))) :
    lcR own turn (l.map enc) ⟨env, mem⟩ = .ok (.mo (.lst (l.map f))) ⟨back env env own, mem⟩ := lc_run enc f l own env mem fun a ha => tk_ex (h a ha)
theorem lf_w {α : Type} {turn : D → S → Out S (Option D)} (enc : α → D) (p : α → Bool) (f : α → D) (l : List α) (own : List Nat) (env : List Sl) (mem : List MO) (h : ∀ a ∈ l, (turn (enc a) ⟨wipeE env own, mem⟩).Wp (tkQ (if p a then some (f a) else none) mem own (wipeE env own))) :
    lcR own turn (l.map enc) ⟨env, mem⟩ = .ok (.mo (.lst ((l.filter p).map f))) ⟨back env env own, mem⟩ := lf_if enc p f l own env mem fun a ha => tk_ex (h a ha)
/-- [draw for ..]: a list of things that have P -/
theorem ld_run {β : Type} {turn : D → S → Out S (Option D)} {Q : Rz → S → Prop} (e : β → D) (J : List MO → Prop) (P : β → Prop) (l : List D) (own : List Nat) (env : List Sl) (mem : List MO) (hm : J mem) (h : ∀ d ∈ l, ∀ mem, J mem → ∃ b env' mem', turn d ⟨wipeE env own, mem⟩ = .ok (some (e b)) ⟨env', mem'⟩ ∧ P b ∧ J mem' ∧ wipeE env' own = wipeE env own)
    (hq : ∀ (bs : List β) (mem' : List MO), bs.length = l.length → (∀ b ∈ bs, P b) → J mem' → Q (.mo (.lst (bs.map e))) ⟨back env env own, mem'⟩) :
    (lcR own turn l ⟨env, mem⟩).Wp Q := by
  have key : ∀ (l : List D), (∀ d ∈ l, ∀ mem, J mem → ∃ b env' mem', turn d ⟨wipeE env own, mem⟩ = .ok (some (e b)) ⟨env', mem'⟩ ∧ P b ∧ J mem' ∧ wipeE env' own = wipeE env own) → ∀ env1 mem, wipeE env1 own = wipeE env own → J mem →
      ∃ (bs : List β) (env' : List Sl) (mem' : List MO), lcL own turn l ⟨env1, mem⟩ = .ok (bs.map e) ⟨env', mem'⟩ ∧ bs.length = l.length ∧ (∀ b ∈ bs, P b) ∧ J mem' ∧ wipeE env' own = wipeE env own := by
    intro l
    induction l with
    | nil => exact fun _ env1 mem he hm => ⟨[], env1, mem, rfl, rfl, (fun _ z => nomatch z), hm, he⟩
    | cons d l ih =>
      intro h env1 mem he hm
      obtain ⟨b, env2, mem2, e2, hb, hm2, he2⟩ := h d List.mem_cons_self mem hm
      obtain ⟨bs, env3, mem3, e3, hl, hP, hm3, he3⟩ := ih (fun d hd => h d (List.mem_cons_of_mem _ hd)) env2 mem2 he2 hm2
      refine ⟨b :: bs, env3, mem3, ?_, by simp [hl], fun c hc => ?_, hm3, he3⟩
      · show ((turn d ⟨wipeE env1 own, mem⟩).bind _) = _
        rw [he, e2, b_ok]
        show ((lcL own turn l ⟨env2, mem2⟩).bind _) = _
        rw [e3]
        rfl
      · rcases List.mem_cons.mp hc with rfl | hc
        · exact hb
        · exact hP c hc
  obtain ⟨bs, env', mem', e3, hl, hP, hm3, he3⟩ := key l h env mem rfl hm
  unfold lcR
  rw [e3, b_ok, a_Lc2]
  refine .mk ?_
  show Q _ (⟨back env env' own, mem'⟩ : S)
  rw [back_wipe he3]
  exact hq bs mem' hl hP hm3
/-- [draw for a in l]: things that have P, one for each of l -/
theorem ld_w {β : Type} {turn : D → S → Out S (Option D)} {Q : Rz → S → Prop} (e : β → D) (J : List MO → Prop) (P : β → Prop) (l : List D) (own : List Nat) (env : List Sl) (mem : List MO) (hm : J mem) (h : ∀ d ∈ l, ∀ mem, J mem → (turn d ⟨wipeE env own, mem⟩).Wp fun x s => (∃ b, x = some (e b) ∧ P b) ∧ J s.mem ∧ wipeE s.env own = wipeE env own)
    (hq : ∀ (bs : List β) (mem' : List MO), bs.length = l.length → (∀ b ∈ bs, P b) → J mem' → Q (.mo (.lst (bs.map e))) ⟨back env env own, mem'⟩) :
    (lcR own turn l ⟨env, mem⟩).Wp Q := ld_run e J P l own env mem hm (fun d hd mem hm => by
      obtain ⟨x, s, e1, ⟨b, rfl, hb⟩, hm', he⟩ := wp_get (h d hd mem hm)
      exact ⟨b, s.env, s.mem, e1, hb, hm', he⟩) hq
end DL
namespace DL
open PySem
theorem cut_take (ds : List D) (k : Nat) : cutD ds none (some (k : Int)) = ds.take k := by
  unfold cutD
  rw [show HT.sIx ds.length 0 none = 0 from rfl, HT.sIx_nat, List.drop_zero, Nat.sub_zero]
  by_cases h : k ≤ ds.length
  · rw [Nat.min_eq_left h]
  · rw [Nat.min_eq_right (by omega), List.take_of_length_le (Nat.le_refl _), List.take_of_length_le (by omega)]
theorem cut_drop (ds : List D) (k : Nat) : cutD ds (some (k : Int)) none = ds.drop k := by
  unfold cutD
  rw [show HT.sIx ds.length ds.length none = ds.length from rfl, HT.sIx_nat]
  by_cases h : k ≤ ds.length
  · rw [Nat.min_eq_left h, List.take_of_length_le (by rw [List.length_drop]; exact Nat.le_refl _)]
  · rw [Nat.min_eq_right (by omega), List.drop_eq_nil_of_le (Nat.le_refl _), List.drop_eq_nil_of_le (by omega)]
    simp
theorem in_lst {α : Type} [DecidableEq α] (e : Enc α) (hk : e.k ≤ 60) (a : α) (l : List α) : inO (e.d a) (.lst (l.map e.d)) = some (l.any fun z => decide (z = a)) := by
  have h1 := e.shp (by omega) a
  have h2 : SeqAt.shaped (.list (l.map e.p)) = true := (encL e).shp (by show e.k + 1 ≤ 64; omega) l
  unfold inO
  simp only [e.pd, pds_map, h1, h2, Bool.and_self, if_true, List.any_map]
  congr 1
  refine congrArg (fun f => List.any l f) (funext fun z => ?_)
  exact e.eqv z a
theorem in_intsL (x : Int) (l : List Int) : inO (.int x) (.lst (l.map D.int)) = some (l.any fun z => decide (z = x)) := in_lst encI (by decide) x l
theorem at_m {α : Type} (e : α → D) (l : List α) (k : Nat) (a : α) (h : l[k]? = some a) : L2.atI (l.map e) (k : Int) = some (e a) := L2.atI_nat (by rw [List.getElem?_map, h]; rfl)
end DL
namespace DL
open PySem
theorem cut_drop1 (ds : List D) : cutD ds (some 1) none = ds.drop 1 := cut_drop ds 1
theorem cut_take1 (ds : List D) : cutD ds none (some 1) = ds.take 1 := cut_take ds 1
theorem cut_init (ds : List D) : cutD ds none (some (-1)) = ds.dropLast := by
  unfold cutD
  have e : HT.sIx ds.length ds.length (some (-1)) = ds.length - 1 := by
    unfold HT.sIx
    dsimp only
    rw [if_pos (by decide)]
    omega
  rw [e, show HT.sIx ds.length 0 none = 0 from rfl, List.drop_zero, Nat.sub_zero, List.dropLast_eq_take]
theorem eqO_bool (a b : Bool) : eqO (.bl a) (.bl b) = some (decide (a = b)) := encB.eqO (by decide) a b
theorem lc_w' {α : Type} {turn : D → S → Out S (Option D)} (enc f : α → D) (l : List α) {ds : List D} (hd : ds = l.map enc) (own : List Nat) (env : List Sl) (mem : List MO) (h : ∀ a ∈ l, (turn (enc a) ⟨wipeE env own, mem⟩).Wp (tkQ (some (f a)) mem own (wipeE env own))) :
    lcR own turn ds ⟨env, mem⟩ = .ok (.mo (.lst (l.map f))) ⟨back env env own, mem⟩ := by
  rw [hd]
  exact lc_w enc f l own env mem h
end DL
end

section
set_option maxRecDepth 100000
set_option maxHeartbeats 8000000
/-! DS5: the store with more than the law's state. -/
namespace DL
open PySem
def IsS (st : MO) : Prop := ∃ ns a p c, st = stD ns a p c
def DrawS (cf : CF) : Prop := ∀ st, IsS st → ∀ (rest : List MO) (lim : Int) (k : Nat), lim = k → 0 < k → k < 1073741824 → ∃ (d : Nat) (st' : MO), cf "_law_draw" [.ref 0, .int lim] (st :: rest) = .ok (.int (d : Int)) (st' :: rest) ∧ IsS st' ∧ d < k
theorem draw_sN {T : String → Option FD} {nm : List Str} (hT : T "_law_draw" = some ⟨2, nm, dDraw.body⟩) (hn : nm.length = 6) (n : Nat) : DrawS (run T (n + 1)) := by
  intro st ⟨ns, a, p, c, hst⟩ rest lim k hk h0 h1
  subst hst
  have e := draw_eq hT hn n 0 (stD ns a p c :: rest) ns a p c lim rfl (by omega) (by omega)
  have m0 := Int.emod_nonneg (refill ns lim a p c).1 (show lim ≠ 0 by omega)
  have m1 := Int.emod_lt_of_pos (refill ns lim a p c).1 (show 0 < lim by omega)
  have hk2 : (((refill ns lim a p c).1 % lim).toNat : Int) = (refill ns lim a p c).1 % lim := Int.toNat_of_nonneg m0
  refine ⟨((refill ns lim a p c).1 % lim).toNat, stD ns ((refill ns lim a p c).1 / lim) (refill ns lim a p c).2.1 (refill ns lim a p c).2.2, ?_, ⟨_, _, _, _, rfl⟩, by omega⟩
  rw [hk2]
  exact e
theorem draw_s {T : String → Option FD} (hT : T "_law_draw" = some dDraw) (n : Nat) : DrawS (run T (n + 1)) := draw_sN (nm := dDraw.names) hT rfl n
theorem isS0 (ns : List Int) : IsS (stD ns 0 0 1) := ⟨_, _, _, _, rfl⟩
def drfW (n : Nat) : Option MO → D
  | some (.lst ds) => .lst ds
  | some (.dct kvs) => .dct kvs
  | _ => .ref n
theorem r_ref (s : S) (n : Nat) : drf s (.ref n) = drfW n (s.mem[n]?) := by
  unfold drf drfW <;> (try dsimp only) <;> (generalize s.mem[n]? = o; rcases o with _ | x <;> first | rfl | (cases x <;> rfl))
theorem r_refL (n : Nat) (ds : List D) : drfW n (some (.lst ds)) = .lst ds := Eq.trans rfl rfl
def apMW (n : Nat) (d : D) (s : S) : Option MO → Option S
  | some (.lst ds) => if ds.length < lim then some ⟨s.env, s.mem.set n (.lst (ds ++ [d]))⟩ else none
  | _ => none
theorem ap_mW (n : Nat) (d : D) (s : S) : appM n d s = apMW n d s (s.mem[n]?) := by
  unfold appM apMW <;> (try dsimp only) <;> (generalize s.mem[n]? = o; rcases o with _ | x <;> first | rfl | (cases x <;> rfl))
theorem ap_mL (n : Nat) (d : D) (s : S) (ds : List D) (h : ds.length < 16777216) : apMW n d s (some (.lst ds)) = some ⟨s.env, s.mem.set n (.lst (ds ++ [d]))⟩ := if_pos h
def poMW (n : Nat) (k : Option Int) (s : S) : Option MO → Option (D × S)
  | some (.lst ds) => (cutL ds k).map fun r => (r.1, ⟨s.env, s.mem.set n (.lst r.2)⟩)
  | _ => none
theorem po_mW (n : Nat) (k : Option Int) (s : S) : popM n k s = poMW n k s (s.mem[n]?) := by
  unfold popM poMW <;> (try dsimp only) <;> (generalize s.mem[n]? = o; rcases o with _ | x <;> first | rfl | (cases x <;> rfl))
theorem po_mL (n : Nat) (k : Option Int) (s : S) (ds : List D) (d : D) (ds' : List D) (h : cutL ds k = some (d, ds')) : poMW n k s (some (.lst ds)) = some (d, ⟨s.env, s.mem.set n (.lst ds')⟩) := by
  show (cutL ds k).map _ = _
  rw [h]
  rfl
theorem cut_last (ds : List D) (d : D) : cutL (ds ++ [d]) none = some (d, ds) := by
  unfold cutL
  simp
theorem m_snoc {α : Type} (e : α → D) (l : List α) (a : α) : l.map e ++ [e a] = (l ++ [a]).map e := by simp
/-- a for over a list that is known by its items -/
theorem wp_forM {α : Type} {turn : D → S → Out S Fl} {Q : Fl → S → Prop} (enc : α → D) (l : List α) {ds : List D} (hd : ds = l.map enc) (I : S → Prop) {s : S} (h0 : I s) (hs : ∀ a ∈ l, ∀ s, I s → (turn (enc a) s).Wp (forQ I Q)) (hq : ∀ s, I s → Q .nx s) : (forL turn ds s).Wp Q := by
  rw [hd]
  exact wp_for0 enc (fun _ => I) h0 (fun done a rest s e hI => hs a (by rw [e]; simp) s hI) hq
end DL
end

section
set_option maxRecDepth 100000
set_option maxHeartbeats 8000000
/-! DS6: while, index, pop at a place, dicts, counts as data. -/
namespace DL
open PySem
theorem wp_whl {cf : CF} {c : E} {b : C} {Q : Fl → S → Prop} (I : Nat → S → Prop)
    (hs : ∀ k s, I k s → (whlC cf c s).Wp fun t s' => if t = true then (ex cf b s').Wp (forQ (fun s => ∃ k', k' < k ∧ I k' s) Q) else Q .nx s') : ∀ (n k : Nat) (s : S), k < n → I k s → (whlL (whlC cf c) (ex cf b) n s).Wp Q
  | 0, k, s, h, _ => absurd h (Nat.not_lt_zero _)
  | n + 1, k, s, h, hI => by
    show ((whlC cf c s).bind _).Wp Q
    rw [wp_bind]
    refine wp_mono (hs k s hI) fun t s' ht => ?_
    cases t with
    | false =>
      simp only [Bool.false_eq_true, if_false] at ht ⊢
      exact .mk ht
    | true =>
      simp only [if_true] at ht ⊢
      rw [wp_bind]
      refine wp_mono ht fun f s2 hf => ?_
      cases f with
      | nx => obtain ⟨k', h1, h2⟩ := hf; exact wp_whl I hs n k' s2 (by omega) h2
      | ct => obtain ⟨k', h1, h2⟩ := hf; exact wp_whl I hs n k' s2 (by omega) h2
      | rt d => exact .mk hf
      | bk => exact .mk hf
theorem wp_whl0 {cf : CF} {c : E} {b : C} {Q : Fl → S → Prop} (I : Nat → S → Prop) {k : Nat} {s : S} (hk : k < 1000000) (h0 : I k s)
    (hs : ∀ k s, I k s → (whlC cf c s).Wp fun t s' => if t = true then (ex cf b s').Wp (forQ (fun s => ∃ k', k' < k ∧ I k' s) Q) else Q .nx s') : (whlL (whlC cf c) (ex cf b) turns s).Wp Q :=
  wp_whl I hs turns k s (Nat.lt_trans hk (by decide)) h0
/-! ### counts -/
def encN : Enc Nat := ⟨dN, fun k => .int (k : Int), 0, fun a => by simp [D.pd], fun a b => by
    simp only [PyData.eqv]
    by_cases h : a = b
    · simp [h]
    · have h2 : ¬ ((a : Int) = (b : Int)) := fun z => h (by omega)
      simp [h, h2], fun a => by simp [PyData.canLay0], fun a => by simp [PyData.depth]⟩
/-- the place of the first one -/
def ixOf {α : Type} [DecidableEq α] : List α → α → Option Nat
  | [], _ => none
  | z :: r, a => if z = a then some 0 else (ixOf r a).map (· + 1)
theorem ixOf_mem {α : Type} [DecidableEq α] {a : α} : ∀ {l : List α}, a ∈ l → ∃ j, ixOf l a = some j ∧ l[j]? = some a
  | z :: r, h => by
    by_cases e : z = a
    · exact ⟨0, by unfold ixOf; rw [if_pos e], by rw [e]; rfl⟩
    · rcases List.mem_cons.mp h with h | h
      · exact absurd h.symm e
      · obtain ⟨j, h1, h2⟩ := ixOf_mem h
        exact ⟨j + 1, by unfold ixOf; rw [if_neg e, h1]; rfl, by simpa using h2⟩
theorem idxD_map {α : Type} [DecidableEq α] (e : Enc α) (a : α) : ∀ l : List α, idxD (l.map e.p) (e.p a) = ixOf l a
  | [] => rfl
  | z :: r => by
    simp only [List.map_cons, idxD, ixOf, e.eqv, idxD_map e a r, decide_eq_true_eq]
theorem index_lst {α : Type} [DecidableEq α] (e : Enc α) (hk : e.k ≤ 60) (a : α) (l : List α) (j : Nat) (h : ixOf l a = some j) : indexO (.lst (l.map e.d)) (e.d a) = some (.pl (.d (dN j))) := by
  have h1 := e.shp (by omega) a
  have h2 : SeqAt.shaped (.list (l.map e.p)) = true := (encL e).shp (by show e.k + 1 ≤ 64; omega) l
  unfold indexO
  simp only [e.pd, pds_map, h1, h2, Bool.and_self, if_true, idxD_map, h]
  rfl
theorem cut_at (ds : List D) (j : Nat) (d : D) (h : ds[j]? = some d) (hl : ds.length ≤ 16777216) : cutL ds (some (j : Int)) = some (d, ds.eraseIdx j) := by
  have hj : j < ds.length := (List.getElem?_eq_some_iff.mp h).1
  unfold cutL
  show (if ds.length ≤ lim then _ else _) = _
  rw [if_pos (show ds.length ≤ lim from hl), ixN_nat hj]
  show (ds[j]?).map _ = _
  rw [h]
  rfl
/-! ### dicts -/
structure KEnc (α : Type) where
  d : α → D
  k : α → NestedKey
  t : Bool
  ok : ∀ a, keyD (d a) = some (k a)
  tt : ∀ a, isTupD (d a) = t
  inj : ∀ a b, k a = k b → a = b
theorem lkD_p {p : D × D} {r : List (D × D)} {k : NestedKey} (e : keyD p.1 = some k) : lkD (p :: r) k = some p.2 := by simp [lkD, List.find?_cons, e]
theorem lkD_n {p : D × D} {r : List (D × D)} {k : NestedKey} (e : ¬ keyD p.1 = some k) : lkD (p :: r) k = lkD r k := by simp [lkD, List.find?_cons, e]
section
variable {α β : Type} [DecidableEq α]
def lkA (l : List (α × β)) (a : α) : Option β := (l.find? fun p => decide (p.1 = a)).map (·.2)
def putA (l : List (α × β)) (a : α) (b : β) : List (α × β) := if (lkA l a).isSome then l.map (fun p => if p.1 = a then (p.1, b) else p) else l ++ [(a, b)]
def dctM (e : KEnc α) (f : β → D) (l : List (α × β)) : List (D × D) := l.map fun p => (e.d p.1, f p.2)
theorem okK_m (e : KEnc α) (f : β → D) (l : List (α × β)) (a : α) : okK (dctM e f l) (e.d a) = true := by
  cases l with
  | nil => rfl
  | cons p l =>
    show (isTupD (e.d p.1) == isTupD (e.d a)) = true
    rw [e.tt, e.tt]
    simp
theorem lkD_m (e : KEnc α) (f : β → D) (a : α) : ∀ l : List (α × β), lkD (dctM e f l) (e.k a) = (lkA l a).map f
  | [] => rfl
  | p :: l => by
    have ih := lkD_m e f a l
    have q : (keyD (e.d p.1) = some (e.k a)) ↔ p.1 = a := by
      rw [e.ok]
      exact ⟨fun z => e.inj _ _ (Option.some.inj z), fun z => by rw [z]⟩
    by_cases h : p.1 = a
    · have h1 : lkA (p :: l) a = some p.2 := by simp [lkA, List.find?_cons, h]
      have h2 : lkD (dctM e f (p :: l)) (e.k a) = some (f p.2) := lkD_p (q.mpr h)
      rw [h1, h2]; rfl
    · have h1 : lkA (p :: l) a = lkA l a := by simp [lkA, List.find?_cons, h]
      have h2 : lkD (dctM e f (p :: l)) (e.k a) = lkD (dctM e f l) (e.k a) := lkD_n (fun z => h (q.mp z))
      rw [h1, h2, ih]
theorem dk_get (e : KEnc α) (f : β → D) (l : List (α × β)) (a : α) : idxO (.dct (dctM e f l)) (e.d a) = (lkA l a).map f := by
  show (if okK (dctM e f l) (e.d a) then (keyD (e.d a)).bind fun k => lkD (dctM e f l) k else none) = _
  rw [okK_m, if_pos rfl, e.ok]
  exact lkD_m e f a l
theorem dk_in (e : KEnc α) (f : β → D) (l : List (α × β)) (a : α) : inO (e.d a) (.dct (dctM e f l)) = some (lkA l a).isSome := by
  show (if okK (dctM e f l) (e.d a) then (keyD (e.d a)).map fun k => (lkD (dctM e f l) k).isSome else none) = _
  rw [okK_m, if_pos rfl, e.ok]
  show some (lkD (dctM e f l) (e.k a)).isSome = _
  rw [lkD_m, Option.isSome_map]
theorem dk_put (e : KEnc α) (f : β → D) (l : List (α × β)) (a : α) (b : β) (h : l.length < 16777216) : putKV (dctM e f l) (e.d a) (f b) = some (dctM e f (putA l a b)) := by
  unfold putKV
  rw [okK_m, if_pos rfl, e.ok]
  show (if (dctM e f l).length < lim then some (putD (dctM e f l) (e.k a) (e.d a) (f b)) else none) = _
  rw [if_pos (show (dctM e f l).length < lim by unfold dctM; rw [List.length_map]; exact h)]
  congr 1
  unfold putD putA
  rw [lkD_m, Option.isSome_map]
  split
  · unfold dctM
    rw [List.map_map, List.map_map]
    refine List.map_congr_left fun p _ => ?_
    show (if keyD (e.d p.1) = some (e.k a) then (e.d p.1, f b) else (e.d p.1, f p.2)) = _
    by_cases h : p.1 = a
    · rw [if_pos (by rw [e.ok, h])]
      show _ = (e.d (if p.1 = a then (p.1, b) else p).1, f (if p.1 = a then (p.1, b) else p).2)
      rw [if_pos h]
    · rw [if_neg (by rw [e.ok]; exact fun z => h (e.inj _ _ (Option.some.inj z)))]
      show _ = (e.d (if p.1 = a then (p.1, b) else p).1, f (if p.1 = a then (p.1, b) else p).2)
      rw [if_neg h]
  · unfold dctM
    rw [List.map_append]
    rfl
end
section
variable {α β : Type} [DecidableEq α]
theorem lkA_put (l : List (α × β)) (a c : α) (b : β) : lkA (putA l a b) c = if c = a then some b else lkA l c := by
  unfold putA
  split
  · rename_i h
    induction l with
    | nil => cases h
    | cons p l ih =>
      by_cases e : p.1 = a
      · by_cases ec : c = a
        · simp [lkA, List.find?_cons, e, ec]
        · have e2 : ¬ a = c := fun z => ec z.symm
          have e3 : lkA (p :: l) c = lkA l c := by simp [lkA, List.find?_cons, e, e2]
          rw [if_neg ec, e3]
          have e4 : lkA ((p :: l).map fun p => if p.1 = a then (p.1, b) else p) c = lkA (l.map fun p => if p.1 = a then (p.1, b) else p) c := by simp [lkA, List.find?_cons, e, e2]
          rw [e4]
          clear ih h e3 e4
          induction l with
          | nil => rfl
          | cons q l ih =>
            by_cases q1 : q.1 = a
            · have q2 : ¬ q.1 = c := fun z => ec (z.symm.trans q1)
              have h1 : lkA ((q :: l).map fun p => if p.1 = a then (p.1, b) else p) c = lkA (l.map fun p => if p.1 = a then (p.1, b) else p) c := by simp [lkA, List.find?_cons, q1, e2]
              have h2 : lkA (q :: l) c = lkA l c := by simp [lkA, List.find?_cons, q2]
              rw [h1, h2, ih]
            · by_cases q2 : q.1 = c
              · simp [lkA, List.find?_cons, q1, q2, ec]
              · have h1 : lkA ((q :: l).map fun p => if p.1 = a then (p.1, b) else p) c = lkA (l.map fun p => if p.1 = a then (p.1, b) else p) c := by simp [lkA, List.find?_cons, q1, q2]
                have h2 : lkA (q :: l) c = lkA l c := by simp [lkA, List.find?_cons, q2]
                rw [h1, h2, ih]
      · have h1 : lkA (p :: l) a = lkA l a := by simp [lkA, List.find?_cons, e]
        rw [h1] at h
        have ih := ih h
        by_cases ec : p.1 = c
        · have : ¬ c = a := fun z => e (ec.trans z)
          simp [lkA, List.find?_cons, e, ec, this]
        · have h2 : lkA ((p :: l).map fun p => if p.1 = a then (p.1, b) else p) c = lkA (l.map fun p => if p.1 = a then (p.1, b) else p) c := by simp [lkA, List.find?_cons, e, ec]
          have h3 : lkA (p :: l) c = lkA l c := by simp [lkA, List.find?_cons, ec]
          rw [h2, h3, ih]
  · rename_i h
    induction l with
    | nil =>
      by_cases ec : c = a
      · simp [lkA, List.find?_cons, ec]
      · have : ¬ a = c := fun z => ec z.symm
        simp [lkA, List.find?_cons, ec, this]
    | cons p l ih =>
      by_cases e : p.1 = a
      · exact absurd (by simp [lkA, List.find?_cons, e]) h
      · have h1 : lkA (p :: l) a = lkA l a := by simp [lkA, List.find?_cons, e]
        rw [h1] at h
        have ih := ih h
        by_cases ec : p.1 = c
        · have : ¬ c = a := fun z => e (ec.trans z)
          simp [lkA, List.find?_cons, ec, this]
        · have h2 : lkA (p :: l ++ [(a, b)]) c = lkA (l ++ [(a, b)]) c := by simp [lkA, List.find?_cons, ec]
          have h3 : lkA (p :: l) c = lkA l c := by simp [lkA, List.find?_cons, ec]
          rw [h2, h3, ih]
theorem keys_put (l : List (α × β)) (a : α) (b : β) (h : (lkA l a).isSome = true) : (putA l a b).map (·.1) = l.map (·.1) := by
  unfold putA
  rw [if_pos h, List.map_map]
  refine List.map_congr_left fun p _ => ?_
  show (if p.1 = a then (p.1, b) else p).1 = p.1
  split <;> rfl
theorem lkA_mem (l : List (α × β)) (a : α) : (lkA l a).isSome = true ↔ a ∈ l.map (·.1) := by
  induction l with
  | nil => simp [lkA]
  | cons p l ih =>
    by_cases e : p.1 = a
    · simp [lkA, List.find?_cons, e]
    · have h : lkA (p :: l) a = lkA l a := by simp [lkA, List.find?_cons, e]
      rw [h, ih]
      have : ¬ a = p.1 := fun z => e z.symm
      simp [this]
theorem putA_len (l : List (α × β)) (a : α) (b : β) : (putA l a b).length ≤ l.length + 1 := by
  unfold putA
  split
  · rw [List.length_map]; omega
  · simp
end
/-- keys: pairs of counts -/
def keyNN : KEnc (Nat × Nat) := ⟨fun x => .tup [dN x.1, dN x.2], fun x => .tup [.num x.1, .num x.2], true, fun a => rfl, fun _ => rfl, fun a b h => by
  have h := NestedKey.tup.inj h
  injection h with h1 h2
  injection h2 with h2 _
  have h1 := NestedKey.num.inj h1
  have h2 := NestedKey.num.inj h2
  exact Prod.ext (by omega) (by omega)⟩
def keyN : KEnc Nat := ⟨dN, fun x => .num x, false, fun a => rfl, fun _ => rfl, fun a b h => by
  have h1 := NestedKey.num.inj h
  omega⟩
theorem r_dct (s : S) (l : List (D × D)) : drf s (.dct l) = .dct l := Eq.trans rfl rfl
theorem l_dct (l : List (D × D)) : lenO (.dct l) = some (l.length : Int) := Eq.trans rfl rfl
theorem trR_n (k : Nat) (s : S) (h : k ≤ 1000000) : trR (k : Int) s = .ok (.pl (.d (.tup ((List.range k).map dN)))) s := by
  unfold trR
  rw [if_pos]
  · rw [rngD_map]
    have : ((k : Int)).toNat = k := Int.toNat_natCast k
    rw [this]
    have e : ((List.range k).map fun j => dN (0 + j)) = (List.range k).map dN := List.map_congr_left fun j _ => by rw [Nat.zero_add]
    first | exact congrArg (fun z => Out.ok (Rz.pl (.d (.tup z))) s) e | rw [e]
  · unfold smallR small62
    simp only [Bool.and_eq_true, decide_eq_true_eq]
    refine ⟨⟨⟨by decide, by decide⟩, by omega, by omega⟩, ?_⟩
    show ((k : Int) - 0).toNat ≤ 16777216
    omega
end DL
end

section
set_option maxRecDepth 100000
set_option maxHeartbeats 8000000
/-! DS7: dict comprehensions, reckoned. -/
namespace DL
open PySem PySem.Spec PyProof.Rows L2
/-- D[a] = b for each pair in turn -/
def putsA {α β : Type} [DecidableEq α] (acc : List (α × β)) (l : List (α × β)) : List (α × β) := l.foldl (fun acc p => putA acc p.1 p.2) acc
theorem putA_le {α β : Type} [DecidableEq α] (l : List (α × β)) (a : α) (b : β) : (putA l a b).length ≤ l.length + 1 := by
  unfold putA
  split
  · rw [List.length_map]; omega
  · simp
theorem dc_go {α β γ : Type} [DecidableEq α] {turn : D → S → Out S (Option (D × D))} (e : KEnc α) (f : β → D) (enc : γ → D) (g : γ → Option (α × β)) (own : List Nat) (env0 : List Sl) (mem : List MO) : ∀ (l : List γ), (∀ c ∈ l, (turn (enc c) ⟨env0, mem⟩).Wp (tkQ ((g c).map fun p => (e.d p.1, f p.2)) mem own env0)) →
    ∀ (acc : List (α × β)) (env : List Sl), wipeE env own = env0 → acc.length + l.length ≤ 16777216 → ∃ env', dcL own turn (l.map enc) (dctM e f acc) ⟨env, mem⟩ = .ok (dctM e f (putsA acc (l.filterMap g))) ⟨env', mem⟩ ∧ wipeE env' own = env0
  | [], _, acc, env, he, _ => ⟨env, rfl, he⟩
  | c :: l, h, acc, env, he, hn => by
    obtain ⟨env1, e1, e3⟩ := tk_ex (h c List.mem_cons_self)
    have hn : acc.length + (l.length + 1) ≤ 16777216 := hn
    have step : dcL own turn ((c :: l).map enc) (dctM e f acc) ⟨env, mem⟩ = (match (g c).map fun p => (e.d p.1, f p.2) with
      | some p => (Out.ofOpt (putKV (dctM e f acc) p.1 p.2) ⟨env1, mem⟩).bind fun rs s => dcL own turn (l.map enc) rs s
      | none => dcL own turn (l.map enc) (dctM e f acc) ⟨env1, mem⟩) := by
      show ((turn (enc c) ⟨wipeE env own, mem⟩).bind _) = _
      rw [he, e1, b_ok]
      all_goals (cases (g c).map fun p => (e.d p.1, f p.2) <;> rfl)
    rw [step]
    cases hg : g c with
    | none =>
      rw [List.filterMap_cons_none hg]
      exact dc_go e f enc g own env0 mem l (fun b hb => h b (List.mem_cons_of_mem _ hb)) acc env1 e3 (by omega)
    | some p =>
      rw [List.filterMap_cons_some hg]
      have hp := putA_le acc p.1 p.2
      obtain ⟨env2, q2, w2⟩ := dc_go e f enc g own env0 mem l (fun b hb => h b (List.mem_cons_of_mem _ hb)) (putA acc p.1 p.2) env1 e3 (by omega)
      refine ⟨env2, ?_, w2⟩
      show ((Out.ofOpt (putKV (dctM e f acc) (e.d p.1) (f p.2)) ⟨env1, mem⟩).bind fun rs s => dcL own turn (l.map enc) rs s) = _
      rw [dk_put e f acc p.1 p.2 (by omega)]
      exact q2
/-- {k: v for ..} -/
theorem dc_w {α β γ : Type} [DecidableEq α] {turn : D → S → Out S (Option (D × D))} (e : KEnc α) (f : β → D) (enc : γ → D) (g : γ → Option (α × β)) (l : List γ) (own : List Nat) (env : List Sl) (mem : List MO) (hl : l.length ≤ 16777216) (h : ∀ c ∈ l, (turn (enc c) ⟨wipeE env own, mem⟩).Wp (tkQ ((g c).map fun p => (e.d p.1, f p.2)) mem own (wipeE env own))) :
    dcR own turn (l.map enc) ⟨env, mem⟩ = .ok (.mo (.dct (dctM e f (putsA [] (l.filterMap g))))) ⟨back env env own, mem⟩ := by
  obtain ⟨env', q, hw⟩ := dc_go (turn := turn) e f enc g own (wipeE env own) mem l h [] env rfl (by simpa using hl)
  unfold dcR
  show ((dcL own turn (l.map enc) (dctM e f []) ⟨env, mem⟩).bind _) = _
  rw [q, b_ok, a_Dc2]
  show Out.ok _ (⟨back env env' own, mem⟩ : S) = _
  rw [back_wipe hw]
/-- what it holds at a key: the last pair of that key -/
theorem lkA_puts {α β : Type} [DecidableEq α] : ∀ (l acc : List (α × β)) (a : α), lkA (putsA acc l) a = ((l.reverse.find? fun p => decide (p.1 = a)).map (·.2)).or (lkA acc a)
  | [], acc, a => by simp [putsA]
  | p :: l, acc, a => by
    show lkA (putsA (putA acc p.1 p.2) l) a = _
    rw [lkA_puts l, lkA_put, List.reverse_cons, List.find?_append]
    cases l.reverse.find? fun p => decide (p.1 = a) with
    | some q => simp
    | none =>
      by_cases h : p.1 = a
      · simp [h]
      · have h' : ¬ a = p.1 := fun z => h z.symm
        simp [h, h']
/-! ### max(..) that reckons -/
/-- the greatest, from bo on -/
def mxs : Option Int → List Int → Option Int
  | bo, [] => bo
  | bo, k :: r => mxs (some (GM.mx bo k)) r
theorem gm_map {α : Type} {own : List Nat} {turn : D → S → Out S (Option Int)} {env0 : List Sl} {mem : List MO} (enc : α → D) (f : α → Option Int) : ∀ (l : List α), (∀ a ∈ l, ∃ env', turn (enc a) ⟨env0, mem⟩ = .ok (f a) ⟨env', mem⟩ ∧ wipeE env' own = env0) →
    ∀ env bo, wipeE env own = env0 → ∀ b, mxs bo (l.filterMap f) = some b → ∃ env', gmL own turn (l.map enc) bo ⟨env, mem⟩ = .ok b ⟨env', mem⟩ ∧ wipeE env' own = env0
  | [], _, env, bo, he, b, hb => by
    have hb : bo = some b := hb
    subst hb
    exact ⟨env, rfl, he⟩
  | a :: l, h, env, bo, he, b, hb => by
    obtain ⟨env1, e1, he1⟩ := h a List.mem_cons_self
    cases hf : f a with
    | none =>
      rw [List.filterMap_cons_none hf] at hb
      obtain ⟨env2, e2, he2⟩ := gm_map enc f l (fun b hb => h b (List.mem_cons_of_mem _ hb)) env1 bo he1 b hb
      refine ⟨env2, ?_, he2⟩
      rw [hf] at e1
      simp only [List.map_cons, gmL, he, e1, Out.bind, e2]
    | some k =>
      rw [List.filterMap_cons_some hf] at hb
      obtain ⟨env2, e2, he2⟩ := gm_map enc f l (fun b hb => h b (List.mem_cons_of_mem _ hb)) env1 (some (GM.mx bo k)) he1 b hb
      refine ⟨env2, ?_, he2⟩
      rw [hf] at e1
      simp only [List.map_cons, gmL, he, e1, Out.bind, e2]
theorem gm_w {α : Type} {turn : D → S → Out S (Option Int)} (enc : α → D) (f : α → Option Int) (b : Int) (l : List α) (own : List Nat) (env : List Sl) (mem : List MO) (hb : mxs none (l.filterMap f) = some b) (h : ∀ a ∈ l, (turn (enc a) ⟨wipeE env own, mem⟩).Wp (tkQ (f a) mem own (wipeE env own))) :
    gmR own turn (l.map enc) ⟨env, mem⟩ = .ok (.pl (.d (.int b))) ⟨back env env own, mem⟩ := by
  obtain ⟨env', e, he⟩ := gm_map (turn := turn) (mem := mem) enc f l (fun a ha => tk_ex (h a ha)) env none rfl b hb
  unfold gmR
  rw [e, b_ok, a_Gm2]
  show Out.ok _ (⟨back env env' own, mem⟩ : S) = _
  rw [back_wipe he]
end DL
end

section
set_option maxRecDepth 100000
set_option maxHeartbeats 8000000
/-! DS8: instances, step by step; sorted. -/
namespace DL
open PySem
section
variable {cf : CF}
def kFld2 (d : D) (s : S) : Out S Rz := .ok (.pl (.d d)) s
def kFld (cs : List String) (f : Str) (p : Rz) (s : S) : Out S Rz := (Out.ofOpt (fldO cs f (toP p) s) s).bind kFld2
theorem f_fld (cs : List String) (o : E) (f : Str) (s : S) : evR cf (.fld cs o f) s = (evR cf o s).bind (kFld cs f) := Eq.trans rfl rfl
theorem a_Fld (cs : List String) (f : Str) (p : Rz) (s : S) : kFld cs f p s = (Out.ofOpt (fldO cs f (toP p) s) s).bind kFld2 := Eq.trans rfl rfl
theorem a_Fld2 (d : D) (s : S) : kFld2 d s = .ok (.pl (.d d)) s := Eq.trans rfl rfl
def insM (n : Nat) : Option MO → Option (Nat × String × List (Str × D))
  | some (.ins c fs) => some (n, c, fs)
  | _ => none
def insS (s : S) : Option Sl → Option (Nat × String × List (Str × D))
  | some (.val (.ref n)) => insM n (s.mem[n]?)
  | _ => none
theorem in_r (n : Nat) (s : S) : insP (.d (.ref n)) s = insM n (s.mem[n]?) := by
  show (match s.mem[n]? with | some (.ins c fs) => some (n, c, fs) | _ => none) = _
  cases s.mem[n]? with
  | none => rfl
  | some m => cases m <;> rfl
theorem in_s (i : Nat) (s : S) : insP (.slot i) s = insS s (s.env[i]?) := by
  unfold insP refP
  dsimp only
  generalize s.env[i]? = o
  rcases o with _ | e
  · rfl
  · cases e with
    | non => rfl
    | own m => rfl
    | val d =>
      cases d with
      | ref n =>
        show (match s.mem[n]? with | some (.ins c fs) => some (n, c, fs) | _ => none) = insM n (s.mem[n]?)
        generalize s.mem[n]? = u
        rcases u with _ | m
        · rfl
        · cases m <;> rfl
      | _ => rfl
theorem in_v (s : S) (n : Nat) : insS s (some (.val (.ref n))) = insM n (s.mem[n]?) := Eq.trans rfl rfl
theorem in_m (n : Nat) (c : String) (fs : List (Str × D)) : insM n (some (.ins c fs)) = some (n, c, fs) := Eq.trans rfl rfl
def fldX (b : Bool) (o : Option D) : Option D := if b then o else none
def fldW (cs : List String) (f : Str) : Option (Nat × String × List (Str × D)) → Option D
  | some (_, c, fs) => fldX (cs.contains c) (fs.lookup f)
  | none => none
theorem fl_w (cs : List String) (f : Str) (p : Pl) (s : S) : fldO cs f p s = fldW cs f (insP p s) := by
  unfold fldO
  cases insP p s with
  | none => rfl
  | some q => rfl
theorem fl_1 (cs : List String) (f : Str) (n : Nat) (c : String) (fs : List (Str × D)) : fldW cs f (some (n, c, fs)) = fldX (cs.contains c) (fs.lookup f) := Eq.trans rfl rfl
theorem fl_2 (o : Option D) : fldX true o = o := Eq.trans rfl rfl
theorem ct_1 (c : String) (cs : List String) : (c :: cs).contains c = true := by simp
theorem ct_2 (c d : String) (cs : List String) : (d :: c :: cs).contains c = true := by simp
theorem ct_3 (c d e : String) (cs : List String) : (d :: e :: c :: cs).contains c = true := by simp
theorem tl_1 (c f : String) (r : List (String × String)) : List.lookup c ((c, f) :: r) = some f := by simp
/-- a method -/
def kMe4 (cf : CF) (q : Nat × String) (ds : List D) (s : S) : Out S Rz := (inMem s.env (cf q.2 (.ref q.1 :: ds) s.mem)).bind kCl3
def kMe3 (cf : CF) (q : Nat × String) (ps : List Pl) (s : S) : Out S Rz := (escs ps s).bind (kMe4 cf q)
def kMe2 (cf : CF) (as : A) (q : Nat × String) (s : S) : Out S Rz := (evA cf as s).bind (kMe3 cf q)
def kMe (cf : CF) (tab : List (String × String)) (m : Str) (as : A) (p : Rz) (s : S) : Out S Rz := (Out.ofOpt (metO tab m (toP p) s) s).bind (kMe2 cf as)
theorem f_meth (tab : List (String × String)) (o : E) (m : Str) (as : A) (s : S) : evR cf (.meth tab o m as) s = (evR cf o s).bind (kMe cf tab m as) := Eq.trans rfl rfl
theorem a_Me (tab : List (String × String)) (m : Str) (as : A) (p : Rz) (s : S) : kMe cf tab m as p s = (Out.ofOpt (metO tab m (toP p) s) s).bind (kMe2 cf as) := Eq.trans rfl rfl
theorem a_Me2 (as : A) (q : Nat × String) (s : S) : kMe2 cf as q s = (evA cf as s).bind (kMe3 cf q) := Eq.trans rfl rfl
theorem a_Me3 (q : Nat × String) (ps : List Pl) (s : S) : kMe3 cf q ps s = (escs ps s).bind (kMe4 cf q) := Eq.trans rfl rfl
theorem a_Me4 (n : Nat) (f : String) (ds : List D) (s : S) : kMe4 cf (n, f) ds s = (inMem s.env (cf f (.ref n :: ds) s.mem)).bind kCl3 := Eq.trans rfl rfl
def metX (tab : List (String × String)) (n : Nat) (c : String) : Option D → Option (Nat × String)
  | none => (tab.lookup c).map fun f => (n, f)
  | some _ => none
def metW (tab : List (String × String)) (m : Str) : Option (Nat × String × List (Str × D)) → Option (Nat × String)
  | some (n, c, fs) => metX tab n c (fs.lookup m)
  | none => none
def metY (n : Nat) : Option String → Option (Nat × String)
  | some f => some (n, f)
  | none => none
theorem mt_w (tab : List (String × String)) (m : Str) (p : Pl) (s : S) : metO tab m p s = metW tab m (insP p s) := by
  unfold metO
  cases insP p s with
  | none => rfl
  | some q =>
    obtain ⟨n, c, fs⟩ := q
    show (match fs.lookup m with | none => (tab.lookup c).map fun f => (n, f) | some _ => none) = metX tab n c (fs.lookup m)
    cases fs.lookup m <;> rfl
theorem mt_1 (tab : List (String × String)) (m : Str) (n : Nat) (c : String) (fs : List (Str × D)) : metW tab m (some (n, c, fs)) = metX tab n c (fs.lookup m) := Eq.trans rfl rfl
theorem mt_2 (tab : List (String × String)) (n : Nat) (c : String) : metX tab n c none = metY n (tab.lookup c) := by
  show (tab.lookup c).map _ = _
  cases tab.lookup c <;> rfl
theorem mt_3 (n : Nat) (f : String) : metY n (some f) = some (n, f) := Eq.trans rfl rfl
/-- a new instance -/
def kNw3 (n : Nat) (d : D) (s : S) : Out S Rz := match d with
  | .non => .ok (.pl (.d (.ref n))) s
  | _ => .bad
def kNw2 (cf : CF) (c f : String) (ds : List D) (s : S) : Out S Rz := (inMem s.env (cf f (.ref s.mem.length :: ds) (s.mem ++ [.ins c []]))).bind (kNw3 s.mem.length)
def kNw (cf : CF) (c f : String) (ps : List Pl) (s : S) : Out S Rz := (escs ps s).bind (kNw2 cf c f)
theorem f_new (c f : String) (as : A) (s : S) : evR cf (.new c f as) s = (evA cf as s).bind (kNw cf c f) := Eq.trans rfl rfl
theorem a_Nw (c f : String) (ps : List Pl) (s : S) : kNw cf c f ps s = (escs ps s).bind (kNw2 cf c f) := Eq.trans rfl rfl
theorem a_Nw2 (c f : String) (ds : List D) (s : S) : kNw2 cf c f ds s = (inMem s.env (cf f (.ref s.mem.length :: ds) (s.mem ++ [.ins c []]))).bind (kNw3 s.mem.length) := Eq.trans rfl rfl
theorem a_Nw3 (n : Nat) (s : S) : kNw3 n .non s = .ok (.pl (.d (.ref n))) s := Eq.trans rfl rfl
/-- o.f = e -/
def jFs3 (cs : List String) (f : Str) (d : D) (p : Rz) (s : S) : Out S Fl := (Out.ofOpt (fstO cs f d (toP p) s) s).bind jN
def jFs2 (cf : CF) (cs : List String) (o : E) (f : Str) (d : D) (s : S) : Out S Fl := (evR cf o s).bind (jFs3 cs f d)
def jFs (cf : CF) (cs : List String) (o : E) (f : Str) (r : Rz) (s : S) : Out S Fl := (esc (toP r) s).bind (jFs2 cf cs o f)
theorem x_fst (cs : List String) (o : E) (f : Str) (e : E) (s : S) : ex cf (.fst cs o f e) s = (evR cf e s).bind (jFs cf cs o f) := Eq.trans rfl rfl
theorem j_Fs (cs : List String) (o : E) (f : Str) (r : Rz) (s : S) : jFs cf cs o f r s = (esc (toP r) s).bind (jFs2 cf cs o f) := Eq.trans rfl rfl
theorem j_Fs2 (cs : List String) (o : E) (f : Str) (d : D) (s : S) : jFs2 cf cs o f d s = (evR cf o s).bind (jFs3 cs f d) := Eq.trans rfl rfl
theorem j_Fs3 (cs : List String) (f : Str) (d : D) (p : Rz) (s : S) : jFs3 cs f d p s = (Out.ofOpt (fstO cs f d (toP p) s) s).bind jN := Eq.trans rfl rfl
def fstW (cs : List String) (f : Str) (d : D) (s : S) : Option (Nat × String × List (Str × D)) → Option S
  | some (n, c, fs) => if cs.contains c && decide (fs.length < 1000) then some ⟨s.env, s.mem.set n (.ins c (putFD f d fs))⟩ else none
  | none => none
theorem fs_w (cs : List String) (f : Str) (d : D) (p : Pl) (s : S) : fstO cs f d p s = fstW cs f d s (insP p s) := by
  unfold fstO
  cases insP p s with
  | none => rfl
  | some q => rfl
theorem fs_1 (cs : List String) (f : Str) (d : D) (s : S) (n : Nat) (c : String) (fs : List (Str × D)) (h : fs.length < 1000) : fstW (c :: cs) f d s (some (n, c, fs)) = some ⟨s.env, s.mem.set n (.ins c (putFD f d fs))⟩ := by
  show (if ((c :: cs).contains c && decide (fs.length < 1000)) = true then _ else _) = _
  rw [ct_1, decide_eq_true h]
  rfl
theorem r_refI (n : Nat) (c : String) (fs : List (Str × D)) : drfW n (some (.ins c fs)) = .ref n := Eq.trans rfl rfl
theorem t_sorted (ds : List D) : bltO .sorted [.lst ds] = (pairsD ds).map fun ps => .mo (.lst ((srtP ps).map encI2)) := Eq.trans rfl rfl
theorem pairsD_map : ∀ l : List (Int × Int), pairsD (l.map encI2) = some l
  | [] => rfl
  | p :: l => by
    show (pairsD (l.map encI2)).map _ = _
    rw [pairsD_map l]
    rfl
end
end DL
end

section
set_option maxRecDepth 100000
set_option maxHeartbeats 8000000
/-! DS9: comprehensions of two clauses; a try whose body raises nothing. -/
namespace DL
open PySem
section
variable {cf : CF}
def liR (vs : List Nat) (turn : D → S → Out S (Option D)) (ds : List D) (s : S) : Out S (List D) := lcL vs turn ds s
def tD1 (cf : CF) (vs : List Nat) (t1 : Tg) (ifs1 : A) (elt : E) (ds1 : List D) (s : S) : Out S (List D) := if ds1.length ≤ 4000 then lcL vs (turnC cf t1 ifs1 elt) ds1 s else .bad
def t2C1 (cf : CF) (vs : List Nat) (t1 : Tg) (it1 : I) (ifs1 : A) (elt : E) (k : Bool) (s : S) : Out S (List D) := if k then (evI cf it1 s).bind (tD1 cf vs t1 ifs1 elt) else .ok [] s
def t2C0 (cf : CF) (vs : List Nat) (ifs : A) (t1 : Tg) (it1 : I) (ifs1 : A) (elt : E) (s : S) (_ : S) : Out S (List D) := (evC cf ifs s).bind (t2C1 cf vs t1 it1 ifs1 elt)
def turn2C (cf : CF) (vs : List Nat) (t : Tg) (ifs : A) (t1 : Tg) (it1 : I) (ifs1 : A) (elt : E) (d : D) (s : S) : Out S (List D) := (Out.ofOpt (asgT t d s) s).bind (t2C0 cf vs ifs t1 it1 ifs1 elt)
def l2R (own : List Nat) (turn : D → S → Out S (List D)) (ds : List D) (s : S) : Out S Rz := (llL own turn ds s).bind (kLc2 s own)
def kL2 (cf : CF) (own vs : List Nat) (t : Tg) (ifs : A) (t1 : Tg) (it1 : I) (ifs1 : A) (elt : E) (ds : List D) (s : S) : Out S Rz := if ds.length ≤ 4000 then (llL own (turn2C cf vs t ifs t1 it1 ifs1 elt) ds s).bind (kLc2 s own) else .bad
theorem f_lc2 (own vs : List Nat) (t : Tg) (it : I) (ifs : A) (t1 : Tg) (it1 : I) (ifs1 : A) (elt : E) (s : S) : evR cf (.lc2 own vs t it ifs t1 it1 ifs1 elt) s = (evI cf it s).bind (kL2 cf own vs t ifs t1 it1 ifs1 elt) := Eq.trans rfl rfl
theorem a_L2 (own vs : List Nat) (t : Tg) (ifs : A) (t1 : Tg) (it1 : I) (ifs1 : A) (elt : E) (ds : List D) (s : S) (h : ds.length ≤ 4000) : kL2 cf own vs t ifs t1 it1 ifs1 elt ds s = l2R own (turn2C cf vs t ifs t1 it1 ifs1 elt) ds s := if_pos h
theorem a_turn2C (vs : List Nat) (t : Tg) (ifs : A) (t1 : Tg) (it1 : I) (ifs1 : A) (elt : E) (d : D) (s : S) : turn2C cf vs t ifs t1 it1 ifs1 elt d s = (Out.ofOpt (asgT t d s) s).bind (t2C0 cf vs ifs t1 it1 ifs1 elt) := Eq.trans rfl rfl
theorem a_2C0 (vs : List Nat) (ifs : A) (t1 : Tg) (it1 : I) (ifs1 : A) (elt : E) (s s' : S) : t2C0 cf vs ifs t1 it1 ifs1 elt s s' = (evC cf ifs s).bind (t2C1 cf vs t1 it1 ifs1 elt) := Eq.trans rfl rfl
theorem a_2Ct (vs : List Nat) (t1 : Tg) (it1 : I) (ifs1 : A) (elt : E) (s : S) : t2C1 cf vs t1 it1 ifs1 elt true s = (evI cf it1 s).bind (tD1 cf vs t1 ifs1 elt) := Eq.trans rfl rfl
theorem a_2Cf (vs : List Nat) (t1 : Tg) (it1 : I) (ifs1 : A) (elt : E) (s : S) : t2C1 cf vs t1 it1 ifs1 elt false s = .ok [] s := Eq.trans rfl rfl
theorem a_D1 (vs : List Nat) (t1 : Tg) (ifs1 : A) (elt : E) (ds1 : List D) (s : S) (h : ds1.length ≤ 4000) : tD1 cf vs t1 ifs1 elt ds1 s = liR vs (turnC cf t1 ifs1 elt) ds1 s := if_pos h
theorem x_tryN (b : C) (s : S) : ex cf (.tryN b) s = ex cf b s := Eq.trans rfl rfl
end
theorem wE_get (env : List Sl) (j : Nat) : ∀ vs : List Nat, (wipeE env vs)[j]? = if j ∈ vs then (env[j]?).map (fun _ => Sl.non) else env[j]?
  | [] => rfl
  | v :: vs => by
    have ih := wE_get env j vs
    show ((wipeE env vs).set v .non)[j]? = _
    by_cases hv : v = j
    · subst hv
      rw [if_pos List.mem_cons_self]
      by_cases hl : v < (wipeE env vs).length
      · rw [List.getElem?_set_self hl]
        rw [List.getElem?_eq_getElem hl] at ih
        by_cases hm : v ∈ vs
        · rw [if_pos hm] at ih
          cases q : env[v]? with
          | none => rw [q] at ih; cases ih
          | some x => rfl
        · rw [if_neg hm] at ih
          rw [← ih]
          rfl
      · rw [List.getElem?_eq_none (by rw [List.length_set]; omega)]
        rw [List.getElem?_eq_none (by omega)] at ih
        by_cases hm : v ∈ vs
        · rw [if_pos hm] at ih
          exact ih
        · rw [if_neg hm] at ih
          rw [← ih]
          rfl
    · rw [List.getElem?_set_ne hv, ih]
      by_cases hm : j ∈ vs
      · rw [if_pos hm, if_pos (List.mem_cons_of_mem _ hm)]
      · rw [if_neg hm, if_neg (fun z => (List.mem_cons.mp z).elim (fun e => hv e.symm) hm)]
theorem wE_wE (env : List Sl) {vs own : List Nat} (h : ∀ i ∈ vs, i ∈ own) : wipeE (wipeE env vs) own = wipeE env own := by
  apply List.ext_getElem?
  intro j
  rw [wE_get, wE_get, wE_get]
  by_cases hj : j ∈ own
  · rw [if_pos hj, if_pos hj]
    split
    · rw [Option.map_map]; rfl
    · rfl
  · rw [if_neg hj, if_neg hj, if_neg fun z => hj (h j z)]
/-- the inner loop of a comprehension of two clauses -/
theorem li_w {α : Type} {turn : D → S → Out S (Option D)} (enc : α → D) (p : α → Bool) (f : α → D) (l : List α) (vs own : List Nat) (env env0 : List Sl) (mem : List MO) (r : List D) (hvs : (vs.all fun i => own.contains i) = true) (he : wipeE env own = env0) (hr : (l.filter p).map f = r)
    (h : ∀ a ∈ l, (turn (enc a) ⟨wipeE env vs, mem⟩).Wp (tkQ (if p a then some (f a) else none) mem vs (wipeE env vs))) : (liR vs turn (l.map enc) ⟨env, mem⟩).Wp (tkQ r mem own env0) := by
  obtain ⟨env', e, hw⟩ := lc_filt (turn := turn) (mem := mem) enc (fun a => if p a then some (f a) else none) l (fun a ha => tk_ex (h a ha)) env rfl
  have ef : l.filterMap (fun a => if p a then some (f a) else none) = (l.filter p).map f := by
    clear h e
    clear hr
    induction l with
    | nil => rfl
    | cons a l ih =>
      cases hp : p a with
      | true => rw [List.filter_cons_of_pos hp, List.map_cons, ← ih, List.filterMap_cons_some (b := f a) (by rw [if_pos hp])]
      | false => rw [List.filter_cons_of_neg (by rw [hp]; decide), ← ih, List.filterMap_cons_none (by rw [if_neg (by rw [hp]; decide)])]
  have e : liR vs turn (l.map enc) ⟨env, mem⟩ = .ok (l.filterMap fun a => if p a then some (f a) else none) ⟨env', mem⟩ := e
  rw [e, ef]
  refine .mk ⟨hr, rfl, ?_⟩
  show wipeE env' own = env0
  have sub : ∀ i ∈ vs, i ∈ own := fun i hi => by simpa using List.all_eq_true.mp hvs i hi
  rw [← wE_wE env' sub, hw, wE_wE env sub, he]
/-- .. all of it -/
theorem ll_map {α : Type} {turn : D → S → Out S (List D)} {own : List Nat} {env0 : List Sl} {mem : List MO} (enc : α → D) (f : α → List D) : ∀ (l : List α), (∀ a ∈ l, ∃ env', turn (enc a) ⟨env0, mem⟩ = .ok (f a) ⟨env', mem⟩ ∧ wipeE env' own = env0) →
    ∀ env, wipeE env own = env0 → ∃ env', llL own turn (l.map enc) ⟨env, mem⟩ = .ok (l.flatMap f) ⟨env', mem⟩ ∧ wipeE env' own = env0
  | [], _, env, he => ⟨env, rfl, he⟩
  | a :: l, h, env, he => by
    obtain ⟨env1, e1, h1⟩ := h a List.mem_cons_self
    obtain ⟨env2, e2, h2⟩ := ll_map enc f l (fun b hb => h b (List.mem_cons_of_mem _ hb)) env1 h1
    refine ⟨env2, ?_, h2⟩
    simp only [List.map_cons, llL, he, e1, Out.bind, e2]
    rw [List.flatMap_cons]
theorem l2_w {α : Type} {turn : D → S → Out S (List D)} (enc : α → D) (f : α → List D) (l : List α) (own : List Nat) (env : List Sl) (mem : List MO) (h : ∀ a ∈ l, (turn (enc a) ⟨wipeE env own, mem⟩).Wp (tkQ (f a) mem own (wipeE env own))) :
    l2R own turn (l.map enc) ⟨env, mem⟩ = .ok (.mo (.lst (l.flatMap f))) ⟨back env env own, mem⟩ := by
  obtain ⟨env', e, he⟩ := ll_map (turn := turn) (mem := mem) enc f l (fun a ha => tk_ex (h a ha)) env rfl
  unfold l2R
  rw [e, b_ok, a_Lc2]
  show Out.ok _ (⟨back env env' own, mem⟩ : S) = _
  rw [back_wipe he]
end DL
end

section
set_option maxRecDepth 100000
set_option maxHeartbeats 8000000
/-! TD: the values of a table found from its letters on, and their numbers (no program in sight). -/
namespace DL
open PySem
abbrev Itm (α : Type) : Type := α × List Nat
section
variable {α : Type} [DecidableEq α]
def hasV (o : List (Itm α)) (x : α) : Bool := o.any fun q => decide (q.1 = x)
def addO (o : List (Itm α)) (p : Itm α) : List (Itm α) := if hasV o p.1 = true then o else o ++ [p]
def addAll (o ws : List (Itm α)) : List (Itm α) := ws.foldl addO o
theorem hasV_iff {o : List (Itm α)} {x : α} : hasV o x = true ↔ x ∈ o.map (·.1) := by
  unfold hasV
  rw [List.any_eq_true, List.mem_map]
  exact ⟨fun ⟨q, h1, h2⟩ => ⟨q, h1, of_decide_eq_true h2⟩, fun ⟨q, h1, h2⟩ => ⟨q, h1, decide_eq_true h2⟩⟩
theorem hasV_app {o e : List (Itm α)} {x : α} (h : hasV o x = true) : hasV (o ++ e) x = true := by
  rw [hasV_iff] at h ⊢
  rw [List.map_append]
  exact List.mem_append_left _ h
theorem addAll_pre : ∀ (ws o : List (Itm α)), ∃ e, addAll o ws = o ++ e ∧ ∀ p ∈ e, p ∈ ws
  | [], o => ⟨[], by simp [addAll], fun _ z => nomatch z⟩
  | p :: ws, o => by
    show ∃ e, addAll (addO o p) ws = _ ∧ _
    obtain ⟨e, h1, h2⟩ := addAll_pre ws (addO o p)
    unfold addO at h1 ⊢
    split at h1
    · rename_i h
      rw [if_pos h]
      exact ⟨e, h1, fun q hq => List.mem_cons_of_mem _ (h2 q hq)⟩
    · rename_i h
      rw [if_neg h]
      refine ⟨p :: e, by rw [h1, List.append_assoc]; rfl, fun q hq => ?_⟩
      rcases List.mem_cons.mp hq with rfl | hq
      · exact List.mem_cons_self
      · exact List.mem_cons_of_mem _ (h2 q hq)
theorem addAll_has : ∀ (ws o : List (Itm α)), ∀ p ∈ ws, hasV (addAll o ws) p.1 = true
  | [], _, p, h => nomatch h
  | q :: ws, o, p, h => by
    show hasV (addAll (addO o q) ws) p.1 = true
    rcases List.mem_cons.mp h with rfl | h
    · obtain ⟨e, h1, _⟩ := addAll_pre ws (addO o p)
      rw [h1]
      refine hasV_app ?_
      unfold addO
      split
      · assumption
      · rw [hasV_iff, List.map_append]
        exact List.mem_append_right _ (by simp)
    · exact addAll_has ws _ p h
theorem addAll_nodup : ∀ (ws o : List (Itm α)), (o.map (·.1)).Nodup → ((addAll o ws).map (·.1)).Nodup
  | [], _, h => h
  | p :: ws, o, h => by
    refine addAll_nodup ws (addO o p) ?_
    unfold addO
    split
    · exact h
    · rename_i hn
      rw [List.map_append, List.nodup_append]
      refine ⟨h, by simp, fun a ha b hb e => ?_⟩
      have : b = p.1 := by simpa using hb
      exact hn (hasV_iff.mpr (by rw [← this, ← e]; exact ha))
/-- what is there already may be left out -/
theorem addAll_filter (o0 : List (Itm α)) : ∀ (ws o : List (Itm α)), (∀ x, hasV o0 x = true → hasV o x = true) → addAll o (ws.filter fun p => !hasV o0 p.1) = addAll o ws
  | [], _, _ => rfl
  | p :: ws, o, h => by
    have h' : ∀ x, hasV o0 x = true → hasV (addO o p) x = true := fun x hx => by
      unfold addO
      split
      · exact h x hx
      · exact hasV_app (h x hx)
    cases e : hasV o0 p.1 with
    | true =>
      rw [List.filter_cons_of_neg (by rw [e]; decide)]
      show _ = addAll (addO o p) ws
      have : addO o p = o := if_pos (h _ e)
      rw [this]
      exact addAll_filter o0 ws o h
    | false =>
      rw [List.filter_cons_of_pos (by rw [e]; rfl)]
      exact addAll_filter o0 ws (addO o p) h'
theorem addAll_same : ∀ (ws o : List (Itm α)), (∀ p ∈ ws, hasV o p.1 = true) → addAll o ws = o
  | [], _, _ => rfl
  | p :: ws, o, h => by
    show addAll (addO o p) ws = o
    have : addO o p = o := if_pos (h p List.mem_cons_self)
    rw [this]
    exact addAll_same ws o fun q hq => h q (List.mem_cons_of_mem _ hq)
variable (c : Nat) (lt : Nat → α) (jn : α → α → α)
def nxt (fr : List (Itm α)) : List (Itm α) := fr.flatMap fun p => (List.range c).map fun a => (jn p.1 (lt a), p.2 ++ [a])
/-- what is found after k rounds, what waits then -/
def bfs : Nat → List (Itm α) × List (Itm α)
  | 0 => ([], (List.range c).map fun a => (lt a, [a]))
  | k + 1 => (addAll (bfs k).1 (bfs k).2, nxt c lt jn ((addAll (bfs k).1 (bfs k).2).drop (bfs k).1.length))
abbrev ordK (k : Nat) : List (Itm α) := (bfs c lt jn k).1
abbrev wtK (k : Nat) : List (Itm α) := (bfs c lt jn k).2
/-- the value of a word -/
def wva : List Nat → α
  | [] => lt 0
  | a :: r => r.foldl (fun v b => jn v (lt b)) (lt a)
theorem wva_snoc (w : List Nat) (a : Nat) (h : w ≠ []) : wva lt jn (w ++ [a]) = jn (wva lt jn w) (lt a) := by
  cases w with
  | nil => exact absurd rfl h
  | cons b r =>
    show (r ++ [a]).foldl _ _ = _
    rw [List.foldl_append]
    rfl
def okI (p : Itm α) : Prop := p.2 ≠ [] ∧ (∀ a ∈ p.2, a < c) ∧ p.1 = wva lt jn p.2
/-- the word without its last letter stands in o -/
def preI (o : List (Itm α)) (p : Itm α) : Prop := p.2.length = 1 ∨ ∃ q ∈ o, p.2.dropLast = q.2
structure BI (k : Nat) : Prop where
  nd : ((ordK c lt jn k).map (·.1)).Nodup
  ok : ∀ p ∈ ordK c lt jn k, okI c lt jn p
  okW : ∀ p ∈ wtK c lt jn k, okI c lt jn p
  pre : ∀ (i : Nat) (p : Itm α), (ordK c lt jn k)[i]? = some p → preI ((ordK c lt jn k).take i) p
  preW : ∀ p ∈ wtK c lt jn k, preI (ordK c lt jn k) p
  cl : ∀ p ∈ ordK c lt jn k, ∀ a, a < c → hasV (ordK c lt jn k) (jn p.1 (lt a)) = true ∨ (jn p.1 (lt a), p.2 ++ [a]) ∈ wtK c lt jn k
  le : 1 ≤ k → ∀ a, a < c → hasV (ordK c lt jn k) (lt a) = true
theorem mem_nxt {fr : List (Itm α)} {p : Itm α} : p ∈ nxt c lt jn fr ↔ ∃ q ∈ fr, ∃ a, a < c ∧ p = (jn q.1 (lt a), q.2 ++ [a]) := by
  unfold nxt
  rw [List.mem_flatMap]
  constructor
  · rintro ⟨q, hq, h⟩
    obtain ⟨a, ha, e⟩ := List.mem_map.mp h
    exact ⟨q, hq, a, List.mem_range.mp ha, e.symm⟩
  · rintro ⟨q, hq, a, ha, e⟩
    exact ⟨q, hq, List.mem_map.mpr ⟨a, List.mem_range.mpr ha, e.symm⟩⟩
theorem bi0 : BI c lt jn 0 := by
  refine ⟨List.nodup_nil, fun _ z => (nomatch z), fun p hp => ?_, fun i p h => (by have h : ([] : List (Itm α))[i]? = some p := h; simp at h), fun p hp => ?_, fun _ z => (nomatch z), fun h => by omega⟩
  · obtain ⟨a, ha, rfl⟩ := List.mem_map.mp hp
    exact ⟨by simp, fun b hb => by
      have : b = a := by simpa using hb
      rw [this]; exact List.mem_range.mp ha, rfl⟩
  · obtain ⟨a, ha, rfl⟩ := List.mem_map.mp hp
    exact .inl rfl
theorem biS {k : Nat} (h : BI c lt jn k) : BI c lt jn (k + 1) := by
  obtain ⟨e, he, hm⟩ := addAll_pre (wtK c lt jn k) (ordK c lt jn k)
  have eo : ordK c lt jn (k + 1) = ordK c lt jn k ++ e := he
  have ew : wtK c lt jn (k + 1) = nxt c lt jn e := by
    show nxt c lt jn ((addAll _ _).drop _) = _
    rw [he, List.drop_left']
    rfl
  have hok : ∀ p ∈ ordK c lt jn (k + 1), okI c lt jn p := fun p hp => by
    rw [eo] at hp
    rcases List.mem_append.mp hp with hp | hp
    · exact h.ok p hp
    · exact h.okW p (hm p hp)
  refine ⟨addAll_nodup _ _ h.nd, hok, fun p hp => ?_, fun i p hi => ?_, fun p hp => ?_, fun p hp a ha => ?_, fun _ a ha => ?_⟩
  · rw [ew] at hp
    obtain ⟨q, hq, a, ha, rfl⟩ := (mem_nxt c lt jn).mp hp
    obtain ⟨h1, h2, h3⟩ := h.okW q (hm q hq)
    refine ⟨by simp, fun b hb => ?_, ?_⟩
    · rcases List.mem_append.mp hb with hb | hb
      · exact h2 b hb
      · have : b = a := by simpa using hb
        rw [this]; exact ha
    · show jn q.1 (lt a) = _
      rw [wva_snoc lt jn _ _ h1, ← h3]
  · rw [eo] at hi ⊢
    by_cases hl : i < (ordK c lt jn k).length
    · rw [List.getElem?_append_left hl] at hi
      rw [List.take_append_of_le_length (by omega)]
      exact h.pre i p hi
    · rw [List.getElem?_append_right (by omega)] at hi
      have hp : p ∈ e := List.mem_of_getElem? hi
      rcases h.preW p (hm p hp) with h1 | ⟨q, hq, e1⟩
      · exact .inl h1
      · refine .inr ⟨q, ?_, e1⟩
        rw [List.take_append]
        exact List.mem_append_left _ (by rw [List.take_of_length_le (by omega)]; exact hq)
  · rw [ew] at hp
    obtain ⟨q, hq, a, ha, rfl⟩ := (mem_nxt c lt jn).mp hp
    refine .inr ⟨q, by rw [eo]; exact List.mem_append_right _ hq, ?_⟩
    show (q.2 ++ [a]).dropLast = q.2
    simp
  · rw [eo] at hp
    rcases List.mem_append.mp hp with hp | hp
    · rcases h.cl p hp a ha with h1 | h1
      · exact .inl (by rw [eo]; exact hasV_app h1)
      · exact .inl (addAll_has _ _ _ h1)
    · exact .inr (by rw [ew]; exact (mem_nxt c lt jn).mpr ⟨p, hp, a, ha, rfl⟩)
  · by_cases hk : 1 ≤ k
    · have := h.le hk a ha
      rw [eo]
      exact hasV_app this
    · have : k = 0 := by omega
      subst this
      exact addAll_has _ _ (lt a, [a]) (List.mem_map.mpr ⟨a, List.mem_range.mpr ha, rfl⟩)
theorem bi : ∀ k, BI c lt jn k
  | 0 => bi0 c lt jn
  | k + 1 => biS c lt jn (bi k)
/-- from a round on that finds nothing, nothing is found -/
theorem stay {k : Nat} (h : ordK c lt jn (k + 1) = ordK c lt jn k) : ∀ j, ordK c lt jn (k + 1 + j) = ordK c lt jn k ∧ wtK c lt jn (k + 1 + j) = []
  | 0 => ⟨h, by
    show nxt c lt jn ((ordK c lt jn (k + 1)).drop (ordK c lt jn k).length) = []
    rw [h, List.drop_length]
    rfl⟩
  | j + 1 => by
    obtain ⟨h1, h2⟩ := stay h j
    have e : ordK c lt jn (k + 1 + (j + 1)) = ordK c lt jn k := by
      show addAll (ordK c lt jn (k + 1 + j)) (wtK c lt jn (k + 1 + j)) = _
      rw [h1, h2]
      rfl
    refine ⟨e, ?_⟩
    show nxt c lt jn ((ordK c lt jn (k + 1 + (j + 1))).drop (ordK c lt jn (k + 1 + j)).length) = []
    rw [e, h1, List.drop_length]
    rfl
theorem grow (k : Nat) : (∃ j, j < k ∧ ordK c lt jn (j + 1) = ordK c lt jn j) ∨ k ≤ (ordK c lt jn k).length := by
  induction k with
  | zero => exact .inr (Nat.zero_le _)
  | succ k ih =>
    rcases ih with ⟨j, hj, e⟩ | ih
    · exact .inl ⟨j, by omega, e⟩
    · obtain ⟨e, he, _⟩ := addAll_pre (wtK c lt jn k) (ordK c lt jn k)
      have eo : ordK c lt jn (k + 1) = ordK c lt jn k ++ e := he
      cases e with
      | nil => exact .inl ⟨k, by omega, by rw [eo, List.append_nil]⟩
      | cons p e =>
        right
        rw [eo, List.length_append, List.length_cons]
        omega
theorem nodup_le {β : Type} [DecidableEq β] : ∀ (l m : List β), l.Nodup → (∀ x ∈ l, x ∈ m) → l.length ≤ m.length
  | [], _, _, _ => Nat.zero_le _
  | x :: l, m, hn, h => by
    obtain ⟨h1, h2⟩ := List.nodup_cons.mp hn
    have hx := h x List.mem_cons_self
    have := nodup_le l (m.erase x) h2 fun y hy => by
      have hne : y ≠ x := fun z => h1 (by rw [← z]; exact hy)
      exact (List.mem_erase_of_ne hne).mpr (h y (List.mem_cons_of_mem _ hy))
    rw [List.length_erase_of_mem hx] at this
    have := List.length_pos_of_mem hx
    rw [List.length_cons]
    omega
end
/-! ### tables with finitely many values -/
structure Tb (α : Type) [DecidableEq α] where
  c : Nat
  lt : Nat → α
  jn : α → α → α
  tk : α → α → Bool
  dm : List α
structure Tb.Ok {α : Type} [DecidableEq α] (T : Tb α) : Prop where
  c1 : 1 ≤ T.c
  lt : ∀ a, a < T.c → T.lt a ∈ T.dm
  jn : ∀ x y, x ∈ T.dm → y ∈ T.dm → T.jn x y ∈ T.dm
  as : ∀ x y z, x ∈ T.dm → y ∈ T.dm → z ∈ T.dm → T.jn (T.jn x y) z = T.jn x (T.jn y z)
section
variable {α : Type} [DecidableEq α] (T : Tb α)
abbrev Tb.oK (k : Nat) : List (Itm α) := ordK T.c T.lt T.jn k
abbrev Tb.wK (k : Nat) : List (Itm α) := wtK T.c T.lt T.jn k
/-- all that is found -/
def Tb.ord : List (Itm α) := T.oK (T.dm.length + 1)
def Tb.vals : List α := T.ord.map (·.1)
def Tb.m : Nat := T.ord.length
def Tb.at (i : Nat) : α := (T.vals[i]?).getD (T.lt 0)
/-- the number of a value -/
def Tb.num (x : α) : Nat := T.vals.idxOf x
variable {T} (h : T.Ok)
include h
theorem Tb.Ok.wv_dm : ∀ (r : List Nat) (v : α), v ∈ T.dm → (∀ a ∈ r, a < T.c) → r.foldl (fun v b => T.jn v (T.lt b)) v ∈ T.dm
  | [], _, hv, _ => hv
  | a :: r, v, hv, hr => Tb.Ok.wv_dm r _ (h.jn _ _ hv (h.lt a (hr a List.mem_cons_self))) fun b hb => hr b (List.mem_cons_of_mem _ hb)
theorem Tb.Ok.wva_dm {w : List Nat} (hn : w ≠ []) (hw : ∀ a ∈ w, a < T.c) : wva T.lt T.jn w ∈ T.dm := by
  cases w with
  | nil => exact absurd rfl hn
  | cons a r => exact h.wv_dm r _ (h.lt a (hw a List.mem_cons_self)) fun b hb => hw b (List.mem_cons_of_mem _ hb)
theorem Tb.Ok.okI_dm {p : Itm α} (hp : okI T.c T.lt T.jn p) : p.1 ∈ T.dm := by
  rw [hp.2.2]
  exact h.wva_dm hp.1 hp.2.1
theorem Tb.Ok.len_le (k : Nat) : (T.oK k).length ≤ T.dm.length := by
  have := nodup_le _ T.dm (bi T.c T.lt T.jn k).nd fun x hx => by
    obtain ⟨p, hp, rfl⟩ := List.mem_map.mp hx
    exact h.okI_dm ((bi T.c T.lt T.jn k).ok p hp)
  rwa [List.length_map] at this
/-- the round that finds nothing -/
theorem Tb.Ok.stop : ∃ j, j ≤ T.dm.length ∧ T.oK (j + 1) = T.oK j ∧ ∀ i, i < j → T.oK (i + 1) ≠ T.oK i := by
  have h1 : ∃ j, j ≤ T.dm.length ∧ T.oK (j + 1) = T.oK j := by
    rcases grow T.c T.lt T.jn (T.dm.length + 1) with ⟨j, hj, e⟩ | h1
    · exact ⟨j, by omega, e⟩
    · have := h.len_le (T.dm.length + 1)
      have h1 : T.dm.length + 1 ≤ (T.oK (T.dm.length + 1)).length := h1
      omega
  obtain ⟨j, hj, e⟩ := h1
  induction j using Nat.strongRecOn with
  | ind j ih =>
    by_cases q : ∃ i, i < j ∧ T.oK (i + 1) = T.oK i
    · obtain ⟨i, hi, ei⟩ := q
      exact ih i hi (by omega) ei
    · exact ⟨j, hj, e, fun i hi z => q ⟨i, hi, z⟩⟩
theorem Tb.Ok.ord_eq {j : Nat} (hj : j ≤ T.dm.length) (e : T.oK (j + 1) = T.oK j) : T.ord = T.oK j := by
  have := (stay T.c T.lt T.jn e (T.dm.length - j)).1
  rw [show j + 1 + (T.dm.length - j) = T.dm.length + 1 by omega] at this
  exact this
theorem Tb.Ok.nd : T.vals.Nodup := (bi T.c T.lt T.jn _).nd
theorem Tb.Ok.m_le : T.m ≤ T.dm.length := h.len_le _
theorem Tb.Ok.vals_len : T.vals.length = T.m := List.length_map ..
theorem Tb.Ok.at_mem {i : Nat} (hi : i < T.m) : T.vals[i]? = some (T.at i) := by
  unfold Tb.at
  rw [List.getElem?_eq_getElem (by rw [h.vals_len]; exact hi)]
  rfl
theorem Tb.Ok.at_in {i : Nat} (hi : i < T.m) : T.at i ∈ T.vals := List.mem_of_getElem? (h.at_mem hi)
theorem Tb.Ok.in_dm {x : α} (hx : x ∈ T.vals) : x ∈ T.dm := by
  obtain ⟨p, hp, rfl⟩ := List.mem_map.mp hx
  exact h.okI_dm ((bi T.c T.lt T.jn _).ok p hp)
theorem Tb.Ok.num_lt {x : α} (hx : x ∈ T.vals) : T.num x < T.m := by
  rw [← h.vals_len]
  exact List.idxOf_lt_length_of_mem hx
theorem Tb.Ok.at_num {x : α} (hx : x ∈ T.vals) : T.at (T.num x) = x := by
  unfold Tb.at Tb.num
  rw [List.getElem?_eq_getElem (List.idxOf_lt_length_of_mem hx)]
  exact List.getElem_idxOf (List.idxOf_lt_length_of_mem hx)
theorem Tb.Ok.num_at {i : Nat} (hi : i < T.m) : T.num (T.at i) = i := by
  have h1 := h.at_mem hi
  have h2 := h.num_lt (h.at_in hi)
  have h3 := h.at_num (h.at_in hi)
  have h4 := h.at_mem h2
  rw [h3] at h4
  have h5 := (List.getElem?_eq_some_iff.mp h1)
  have h6 := (List.getElem?_eq_some_iff.mp h4)
  obtain ⟨a1, a2⟩ := h5
  obtain ⟨b1, b2⟩ := h6
  exact (List.getElem_inj h.nd).mp (b2.trans a2.symm)
theorem Tb.Ok.num_inj {x y : α} (hx : x ∈ T.vals) (hy : y ∈ T.vals) (e : T.num x = T.num y) : x = y := by
  rw [← h.at_num hx, ← h.at_num hy, e]
theorem Tb.Ok.lt_in {a : Nat} (ha : a < T.c) : T.lt a ∈ T.vals := hasV_iff.mp ((bi T.c T.lt T.jn (T.dm.length + 1)).le (by omega) a ha)
theorem Tb.Ok.m1 : 1 ≤ T.m := by
  have := h.num_lt (h.lt_in (a := 0) h.c1)
  omega
theorem Tb.Ok.step_in {x : α} (hx : x ∈ T.vals) {a : Nat} (ha : a < T.c) : T.jn x (T.lt a) ∈ T.vals := by
  obtain ⟨j, hj, e, _⟩ := h.stop
  have eo := h.ord_eq hj e
  obtain ⟨p, hp, rfl⟩ := List.mem_map.mp hx
  rw [eo] at hp
  have hp1 : p ∈ T.oK (j + 1) := by rw [e]; exact hp
  rcases (bi T.c T.lt T.jn (j + 1)).cl p hp1 a ha with h1 | h1
  · unfold Tb.vals
    rw [eo, ← e]
    exact hasV_iff.mp h1
  · have h2 := (stay T.c T.lt T.jn e 0).2
    rw [show j + 1 + 0 = j + 1 from rfl] at h2
    rw [h2] at h1
    cases h1
theorem Tb.Ok.fold_in : ∀ (r : List Nat) (v : α), v ∈ T.vals → (∀ a ∈ r, a < T.c) → r.foldl (fun v b => T.jn v (T.lt b)) v ∈ T.vals
  | [], _, hv, _ => hv
  | a :: r, v, hv, hr => Tb.Ok.fold_in r _ (h.step_in hv (hr a List.mem_cons_self)) fun b hb => hr b (List.mem_cons_of_mem _ hb)
theorem Tb.Ok.wva_in {w : List Nat} (hn : w ≠ []) (hw : ∀ a ∈ w, a < T.c) : wva T.lt T.jn w ∈ T.vals := by
  cases w with
  | nil => exact absurd rfl hn
  | cons a r => exact h.fold_in r _ (h.lt_in (hw a List.mem_cons_self)) fun b hb => hw b (List.mem_cons_of_mem _ hb)
theorem Tb.Ok.fold_jn {x : α} (hx : x ∈ T.dm) : ∀ (r : List Nat) (v : α), v ∈ T.dm → (∀ a ∈ r, a < T.c) → r.foldl (fun v b => T.jn v (T.lt b)) (T.jn x v) = T.jn x (r.foldl (fun v b => T.jn v (T.lt b)) v)
  | [], _, _, _ => rfl
  | a :: r, v, hv, hr => by
    have ha := h.lt a (hr a List.mem_cons_self)
    show r.foldl _ (T.jn (T.jn x v) (T.lt a)) = T.jn x (r.foldl _ (T.jn v (T.lt a)))
    rw [h.as _ _ _ hx hv ha]
    exact Tb.Ok.fold_jn hx r _ (h.jn _ _ hv ha) fun b hb => hr b (List.mem_cons_of_mem _ hb)
theorem Tb.Ok.word {x : α} (hx : x ∈ T.vals) : ∃ w, (x, w) ∈ T.ord ∧ okI T.c T.lt T.jn (x, w) := by
  obtain ⟨p, hp, rfl⟩ := List.mem_map.mp hx
  exact ⟨p.2, hp, (bi T.c T.lt T.jn _).ok p hp⟩
theorem Tb.Ok.jn_in {x y : α} (hx : x ∈ T.vals) (hy : y ∈ T.vals) : T.jn x y ∈ T.vals := by
  obtain ⟨w, _, hn, hw, e⟩ := h.word hy
  have e : y = wva T.lt T.jn w := e
  cases w with
  | nil => exact absurd rfl hn
  | cons a r =>
    have ha : a < T.c := hw a List.mem_cons_self
    have hr : ∀ b ∈ r, b < T.c := fun b hb => hw b (List.mem_cons_of_mem _ hb)
    rw [e]
    show T.jn x (r.foldl _ (T.lt a)) ∈ _
    rw [← h.fold_jn (h.in_dm hx) r (T.lt a) (h.lt a ha) hr]
    exact h.fold_in r _ (h.step_in hx ha) hr
/-- the words are all different -/
theorem Tb.Ok.word_inj {p q : Itm α} (hp : p ∈ T.ord) (hq : q ∈ T.ord) (e : p.2 = q.2) : p = q := by
  have h1 := ((bi T.c T.lt T.jn _).ok p hp).2.2
  have h2 := ((bi T.c T.lt T.jn _).ok q hq).2.2
  exact Prod.ext (by rw [h1, h2, e]) e
end
end DL
end

section
set_option maxRecDepth 100000
set_option maxHeartbeats 16000000
namespace DL
open PySem
local macro_rules | `(tactic| dsimp! [$ls,*]) => `(tactic| simp (disch := (first | assumption | omega | (simp only [List.length_cons, List.length_nil, List.length_map, List.length_range, List.length_append]; omega))) only [f_bool, f_int, f_bl, f_non, f_str, f_glob, f_bin, f_cmp, f_idx, f_neg, f_chain, f_not, f_ite, f_slc, f_tup, f_lst, f_call, f_blt, f_lrg1, f_lrg2, f_lc, f_gx, f_Anil, f_A, f_B1, f_B, f_C0, f_C1, f_seq, f_rng1, f_rng2, f_enum, f_zip, f_rev, b_ok, b_exc, b_of, b_O, b_map, b_2, b_ob, a_2, a_Bin, a_Cmp, a_Idx, a_fC, a_fI, a_wB, a_wD, a_asB, a_asI, a_Neg, a_Neg2, a_Ch, a_Ch2, a_Ch3t, a_Ch3f, a_Not, a_Not2, a_Ite, a_Ite2t, a_Ite2f, a_Tup, a_Tup2, a_Lst, a_Lst2, a_Cl, a_Cl2, a_Cl3, a_inM, a_inX, a_Blt, a_Lr1, a_Lr2, a_Lr3, a_Sm, a_Bd, a_evBh, a_slcV, a_Sl2, a_Sl, a_turnC, a_C0, a_C1t, a_C1f, a_C2, a_C3, a_turnG, a_G0, a_G1t, a_G1f, a_G2, a_G3, a_Lc, a_Lc2, a_Gx, a_Gx2, a_A2, a_A, a_B, a_B2tt, a_B2tf, a_B2ff, a_B2ft, a_C, a_Seq, a_Seq2, a_R1, a_R2, a_R2', a_R3, a_En, a_En2, a_Z, a_Z2, a_Z3, a_Z4, a_Rv, a_Rv2, v_d, v_s, v_val, v_own, r_non, r_bl, r_int, r_str, r_tup, r_lst, c_d, c_s, c_val, c_own, s_nil, s_cons, s_1, s_2, vs_nil, vs_cons, vs_c, f_var, w_val, w_own, p_pl, p_mo, t_lst, o_addI, o_addS, o_addL, o_addT, o_sub, o_mulN, o_fdiv, o_mod, q_lt, q_le, q_gt, q_ge, q_eq, q_ne, q_is, q_isN, q_isNb, q_isNi, q_isNt, q_not, q_notN, q_notNb, q_notNi, q_notNt, q_in, q_nin, u_bl, u_int, u_lst, u_tup, i_lst, i_tup, i_0, i_1, i_2, i_3, i_4, l_lst, l_tup, z_lst, z_tup, a_wI, t_len, t_max, t_min, t_int, t_intb, t_all, t_any, t_listL, t_listT, t_listS, t_tupL, t_tupT, g_lst, g_tup, n_name, n_tup, n_nil, n_cons, n_kas, y_skip, y_seq, y_asg, y_own, y_shr, y_par, y_aug, y_put, y_app, y_ext, y_iff, y_ret, y_retN, y_brk, y_cont, y_exp, y_whl, y_for, j_Sn, j_Sr, j_Sb, j_Sc, j_N, j_A2, j_A, j_O, j_H, j_P4, j_P3, j_P2, j_P, j_G0, j_G, j_G2, j_U5, j_U4, j_U3, j_U2, j_U, j_L3, j_L2, j_L1, j_L0, j_L, j_X2, j_X, j_X0, j_It, j_If, j_I, j_R2, j_R, j_E, j_W, j_whlC, j_T, j_turnF, j_F, m_rt, m_nx, m_exc, ap_s, ap_r, ap_o, ap_v, ex_s, ex_o, pu_s, pu_o, pu_v, au_add, au_sub, au_mul, au_fdiv, au_mod, fq_rt, fq_nx, gq_nx, gq_ct, gq_rt, gq_bk, isB_eq, isI_eq, isT_eq, rg1_n, lst1_n, a_evBd, isHole, eqO_int, wp_ok, wp_bind, wp_fin, List.length_cons, List.length_nil, List.getElem?_cons_zero, List.getElem?_cons_succ, List.getElem?_nil, List.set_cons_zero, List.set_cons_succ, if_true, if_false, Bool.false_eq_true, wipeE, back, Nat.reduceAdd, decide_true, decide_false, Bool.not_true, Bool.not_false, List.map_cons, List.map_nil, List.replicate, List.cons_append, List.nil_append, Nat.add_one_sub_one, Nat.reduceSub, Nat.sub_self, List.isEmpty_nil, List.isEmpty_cons, k_tk, eq_self, and_true, true_and, and_self, Option.some.injEq, f_kin, f_kix, f_pop, f_popAt, f_isi, f_index, f_rng3, isS_eq, a_asS, a_Ki, a_Ki2f, a_Ki2t, a_Kx, a_Kx2, a_Pop, a_Pop1, a_Pop2, a_Pa, a_Pa0, a_Pa1, a_Pa2, a_Isi, a_fIsi, a_Ix, a_Ix0, a_Ix1, a_R36, a_R35, a_R34, a_R33, a_R32, po_s, po_v, r_scr, Option.isSome_some, Option.isSome_none, f_fresh, a_Fr, r_ref, r_refL, ap_mW, ap_mL, po_mW, f_dnew, f_trg1, a_Tr1, trR_n, pu_od, r_dct, l_dct, t_dct, f_dc, a_turnU, a_U0, a_U1t, a_U1f, a_U2, a_U3, a_U4, a_U5, a_Dc, a_Dc2, f_kget, a_Kg, a_Kg2, f_gmax, a_turnM, a_M0, a_M1t, a_M1f, a_M2, a_M3, a_Gm, a_Gm2, f_fld, a_Fld, a_Fld2, in_r, in_s, in_v, in_m, fl_w, fl_1, fl_2, ct_1, tl_1, f_meth, a_Me, a_Me2, a_Me3, a_Me4, mt_w, mt_1, mt_2, mt_3, f_new, a_Nw, a_Nw2, a_Nw3, x_fst, j_Fs, j_Fs2, j_Fs3, fs_w, fs_1, r_refI, a_En2t, f_lc2, a_L2, a_turn2C, a_2C0, a_2Ct, a_2Cf, a_D1, x_tryN, $ls,*])
theorem T_value : TL L "value" = some d_value := rfl
theorem T_settledv : TL L "settled_value" = some d_settled_value := rfl
theorem T_pairof : TL L "pair_of" = some d_pair_of := rfl
theorem T_accepts : TL L "accepts" = some d_accepts := rfl
theorem T_draw : TL L "_law_draw" = some ⟨2, d__law_draw.names, dDraw.body⟩ := rfl
theorem hdraw (n : Nat) : DrawS (run (TL L) (n + 1)) := draw_sN T_draw rfl n
theorem T_funs : TL L "_law_functions" = some d__law_functions := rfl
theorem T_prod : TL L "_law_product" = some d__law_product := rfl
theorem T_table : TL L "_law_table" = some d__law_table := rfl
theorem T_mixed : TL L "_law_mixed" = some d__law_mixed := rfl
theorem T_linked : TL L "_law_linked" = some d__law_linked := rfl
theorem T_turns : TL L "_law_turns" = some d__law_turns := rfl
theorem T_reader : TL L "_law_reader" = some d__law_reader := rfl
theorem T_row : TL L "_law_row" = some d__law_row := rfl
theorem T_word : TL L "_law_word" = some d__law_word := rfl
theorem T_worth : TL L "_law_worth" = some d__law_worth := rfl
theorem T_law : TL L "law" = some d_law := rfl
def dNs (l : List Nat) : D := .lst (l.map dN)
def tNs (l : List Nat) : D := .tup (l.map dN)
def d2 (p : Nat × Nat) : D := .tup [dN p.1, dN p.2]
/-! ### tables -/
structure Sg where
  n : Nat
  f : Nat → Nat → Nat
def Sg.row (S : Sg) (x : Nat) : D := .tup ((List.range S.n).map fun y => dN (S.f x y))
def Sg.d (S : Sg) : D := .tup ((List.range S.n).map S.row)
structure Sg.Ok (S : Sg) : Prop where
  pos : 0 < S.n
  le : S.n ≤ 400
  lt : ∀ x y, x < S.n → y < S.n → S.f x y < S.n
  as : ∀ x y z, x < S.n → y < S.n → z < S.n → S.f (S.f x y) z = S.f x (S.f y z)
structure Rdr where
  S : Sg
  L : List Nat
  A : List (Nat × Nat)
def Rdr.d (R : Rdr) : D := .tup [tNs R.L, R.S.d, .tup (R.A.map d2)]
structure Rdr.Ok (R : Rdr) : Prop where
  S : R.S.Ok
  L : ∀ x ∈ R.L, x < R.S.n
abbrev Wd : Type := List Nat × List Nat
def dW (w : Wd) : D := .tup [dNs w.1, dNs w.2]
theorem i_rngM (n : Nat) (g : Nat → D) (x : Nat) (h : x < n) : L2.atI ((List.range n).map g) (x : Int) = some (g x) := by
  rw [at_n g _ x (by simp; exact h)]
  simp
theorem i_S (S : Sg) (x : Nat) (h : x < S.n) : idxO S.d (.int (x : Int)) = some (S.row x) := i_rngM _ _ _ h
theorem i_Sr (S : Sg) (x y : Nat) (h : y < S.n) : idxO (S.row x) (.int (y : Int)) = some (.int ((S.f x y : Nat) : Int)) := i_rngM _ _ _ h
theorem r_S (s : S) (a : Sg) : drf s a.d = a.d := Eq.trans rfl rfl
theorem r_Sr (s : S) (a : Sg) (x : Nat) : drf s (a.row x) = a.row x := Eq.trans rfl rfl
theorem r_R (s : S) (a : Rdr) : drf s a.d = a.d := Eq.trans rfl rfl
theorem r_Ns (s : S) (l : List Nat) : drf s (dNs l) = dNs l := Eq.trans rfl rfl
theorem r_tNs (s : S) (l : List Nat) : drf s (tNs l) = tNs l := Eq.trans rfl rfl
theorem r_W (s : S) (w : Wd) : drf s (dW w) = dW w := Eq.trans rfl rfl
theorem i_R0 (a : Rdr) : idxO a.d (.int 0) = some (tNs a.L) := i_0 _ _
theorem i_R1 (a : Rdr) : idxO a.d (.int 1) = some a.S.d := i_1 _ _ _
theorem i_R2 (a : Rdr) : idxO a.d (.int 2) = some (.tup (a.A.map d2)) := i_2 _ _ _ _
theorem i_W0 (w : Wd) : idxO (dW w) (.int 0) = some (dNs w.1) := i_0 _ _
theorem i_W1 (w : Wd) : idxO (dW w) (.int 1) = some (dNs w.2) := i_1 _ _ _
theorem l_S (S : Sg) : lenO S.d = some (S.n : Int) := by show some _ = _; simp
theorem l_Ns (l : List Nat) : lenO (dNs l) = some (l.length : Int) := by show some _ = _; simp
theorem i_Ns (l : List Nat) (x : Nat) (h : x < l.length) : idxO (dNs l) (.int (x : Int)) = some (.int ((l.getD x 0 : Nat) : Int)) := by
  show L2.atI (l.map dN) (x : Int) = _
  rw [at_n dN l x h, List.getD_eq_getElem?_getD, List.getElem?_eq_getElem h]
  rfl
theorem i_tNs (l : List Nat) (x : Nat) (h : x < l.length) : idxO (tNs l) (.int (x : Int)) = some (.int ((l.getD x 0 : Nat) : Int)) := i_Ns l x h
theorem u_Ns (l : List Nat) : truO (dNs l) = some (!l.isEmpty) := by
  show some (!(l.map dN).isEmpty) = _
  rw [List.isEmpty_map]
theorem z_Ns1 (l : List Nat) : slcO (dNs l) (some 1) none = some (.mo (.lst ((l.drop 1).map dN))) := by
  show some _ = _
  rw [cut_drop1, List.map_drop]
/-! ### what a word is worth -/
def wv (S : Sg) (L : List Nat) : List Nat → Nat
  | [] => 0
  | a :: r => r.foldl (fun v b => S.f v (L.getD b 0)) (L.getD a 0)
theorem L_lt {R : Rdr} (h : R.Ok) (x : Nat) (hx : x < R.L.length) : R.L.getD x 0 < R.S.n := by
  rw [List.getD_eq_getElem?_getD, List.getElem?_eq_getElem hx]
  exact h.L _ (List.getElem_mem hx)
theorem fold_lt {S : Sg} (h : S.Ok) (L : List Nat) (hL : ∀ x, x < L.length → L.getD x 0 < S.n) : ∀ (r : List Nat) (v : Nat), v < S.n → (∀ x ∈ r, x < L.length) → r.foldl (fun v b => S.f v (L.getD b 0)) v < S.n
  | [], v, hv, _ => hv
  | a :: r, v, hv, hr => fold_lt h L hL r _ (h.lt _ _ hv (hL a (hr a List.mem_cons_self))) fun x hx => hr x (List.mem_cons_of_mem _ hx)
theorem wv_lt {R : Rdr} (h : R.Ok) {r : List Nat} (hn : r ≠ []) (hr : ∀ x ∈ r, x < R.L.length) : wv R.S R.L r < R.S.n := by
  cases r with
  | nil => exact absurd rfl hn
  | cons a r => exact fold_lt h.S R.L (L_lt h) r _ (L_lt h a (hr a List.mem_cons_self)) fun x hx => hr x (List.mem_cons_of_mem _ hx)
theorem value_ok (n0 : Nat) (R : Rdr) (h : R.Ok) (row : List Nat) (hn : row ≠ []) (hr : ∀ x ∈ row, x < R.L.length) (mem : List MO) : run (TL L) (n0 + 1) "value" [R.d, dNs row] mem = .ok (.int ((wv R.S R.L row : Nat) : Int)) mem := by
  obtain ⟨a, r, rfl⟩ : ∃ a r, row = a :: r := by cases row with | nil => exact absurd rfl hn | cons a r => exact ⟨a, r, rfl⟩
  have ha := hr a List.mem_cons_self
  have hr := fun x hx => hr x (List.mem_cons_of_mem _ hx)
  rw [run_def T_value rfl]
  generalize run (TL L) n0 = cf
  apply wp_eq
  simp only [d_value]
  have i0 : idxO (dNs (a :: r)) (.int 0) = some (.int (a : Int)) := i_Ns (a :: r) 0 (Nat.succ_pos _)
  have unp : R.d = .tup [tNs R.L, R.S.d, .tup (R.A.map d2)] := rfl
  rw [unp]
  dsimp! [r_Ns, r_tNs, i0, i_tNs _ _ ha, z_Ns1, List.drop_succ_cons, List.drop_zero]
  refine wp_for0 dN (fun done t => ∃ s3, t = ⟨[.val (.tup [tNs R.L, R.S.d, .tup (R.A.map d2)]), .val (dNs (a :: r)), .val (.int ((done.foldl (fun v b => R.S.f v (R.L.getD b 0)) (R.L.getD a 0) : Nat) : Int)), s3, .val (tNs R.L), .val R.S.d, .val (.tup (R.A.map d2))], mem⟩) ⟨_, rfl⟩ ?_ ?_
  · intro done x rest t hd ⟨s3, ht⟩
    subst ht
    have hx : x < R.L.length := hr x (by rw [hd]; simp)
    have hv : done.foldl (fun v b => R.S.f v (R.L.getD b 0)) (R.L.getD a 0) < R.S.n := fold_lt h.S R.L (L_lt h) done _ (L_lt h a ha) fun y hy => hr y (by rw [hd]; simp [hy])
    dsimp! [r_S, r_Sr, r_tNs, i_tNs _ _ hx, i_S _ _ hv, i_Sr _ _ _ (L_lt h x hx)]
    exact ⟨_, by rw [List.foldl_append]; rfl⟩
  · intro t ⟨s3, ht⟩
    subst ht
    dsimp! []
    rfl
theorem worth_ok (n0 : Nat) (R : Rdr) (h : R.Ok) (row : List Nat) (hn : row ≠ []) (hr : ∀ x ∈ row, x < R.L.length) (mem : List MO) : run (TL L) (n0 + 1) "_law_worth" [R.d, dNs row] mem = .ok (.int ((wv R.S R.L row : Nat) : Int)) mem := by
  obtain ⟨a, r, rfl⟩ : ∃ a r, row = a :: r := by cases row with | nil => exact absurd rfl hn | cons a r => exact ⟨a, r, rfl⟩
  have ha := hr a List.mem_cons_self
  have hr := fun x hx => hr x (List.mem_cons_of_mem _ hx)
  rw [run_def T_worth rfl]
  generalize run (TL L) n0 = cf
  apply wp_eq
  simp only [d__law_worth]
  have i0 : idxO (dNs (a :: r)) (.int 0) = some (.int (a : Int)) := i_Ns (a :: r) 0 (Nat.succ_pos _)
  dsimp! [r_R, i_R0, r_Ns, r_tNs, i0, i_tNs _ _ ha, z_Ns1, List.drop_succ_cons, List.drop_zero]
  refine wp_for0 dN (fun done t => ∃ s3, t = ⟨[.val R.d, .val (dNs (a :: r)), .val (.int ((done.foldl (fun v b => R.S.f v (R.L.getD b 0)) (R.L.getD a 0) : Nat) : Int)), s3], mem⟩) ⟨_, rfl⟩ ?_ ?_
  · intro done x rest t hd ⟨s3, ht⟩
    subst ht
    have hx : x < R.L.length := hr x (by rw [hd]; simp)
    have hv : done.foldl (fun v b => R.S.f v (R.L.getD b 0)) (R.L.getD a 0) < R.S.n := fold_lt h.S R.L (L_lt h) done _ (L_lt h a ha) fun y hy => hr y (by rw [hd]; simp [hy])
    dsimp! [r_R, i_R0, i_R1, r_S, r_Sr, r_tNs, i_tNs _ _ hx, i_S _ _ hv, i_Sr _ _ _ (L_lt h x hx)]
    exact ⟨_, by rw [List.foldl_append]; rfl⟩
  · intro t ⟨s3, ht⟩
    subst ht
    dsimp! []
    rfl
end DL
end

section
set_option maxRecDepth 100000
set_option maxHeartbeats 16000000
namespace DL
open PySem
local macro_rules | `(tactic| dsimp! [$ls,*]) => `(tactic| simp (disch := (first | assumption | omega | (simp only [List.length_cons, List.length_nil, List.length_map, List.length_range, List.length_append]; omega))) only [f_bool, f_int, f_bl, f_non, f_str, f_glob, f_bin, f_cmp, f_idx, f_neg, f_chain, f_not, f_ite, f_slc, f_tup, f_lst, f_call, f_blt, f_lrg1, f_lrg2, f_lc, f_gx, f_Anil, f_A, f_B1, f_B, f_C0, f_C1, f_seq, f_rng1, f_rng2, f_enum, f_zip, f_rev, b_ok, b_exc, b_of, b_O, b_map, b_2, b_ob, a_2, a_Bin, a_Cmp, a_Idx, a_fC, a_fI, a_wB, a_wD, a_asB, a_asI, a_Neg, a_Neg2, a_Ch, a_Ch2, a_Ch3t, a_Ch3f, a_Not, a_Not2, a_Ite, a_Ite2t, a_Ite2f, a_Tup, a_Tup2, a_Lst, a_Lst2, a_Cl, a_Cl2, a_Cl3, a_inM, a_inX, a_Blt, a_Lr1, a_Lr2, a_Lr3, a_Sm, a_Bd, a_evBh, a_slcV, a_Sl2, a_Sl, a_turnC, a_C0, a_C1t, a_C1f, a_C2, a_C3, a_turnG, a_G0, a_G1t, a_G1f, a_G2, a_G3, a_Lc, a_Lc2, a_Gx, a_Gx2, a_A2, a_A, a_B, a_B2tt, a_B2tf, a_B2ff, a_B2ft, a_C, a_Seq, a_Seq2, a_R1, a_R2, a_R2', a_R3, a_En, a_En2, a_Z, a_Z2, a_Z3, a_Z4, a_Rv, a_Rv2, v_d, v_s, v_val, v_own, r_non, r_bl, r_int, r_str, r_tup, r_lst, c_d, c_s, c_val, c_own, s_nil, s_cons, s_1, s_2, vs_nil, vs_cons, vs_c, f_var, w_val, w_own, p_pl, p_mo, t_lst, o_addI, o_addS, o_addL, o_addT, o_sub, o_mulN, o_fdiv, o_mod, q_lt, q_le, q_gt, q_ge, q_eq, q_ne, q_is, q_isN, q_isNb, q_isNi, q_isNt, q_not, q_notN, q_notNb, q_notNi, q_notNt, q_in, q_nin, u_bl, u_int, u_lst, u_tup, i_lst, i_tup, i_0, i_1, i_2, i_3, i_4, l_lst, l_tup, z_lst, z_tup, a_wI, t_len, t_max, t_min, t_int, t_intb, t_all, t_any, t_listL, t_listT, t_listS, t_tupL, t_tupT, g_lst, g_tup, n_name, n_tup, n_nil, n_cons, n_kas, y_skip, y_seq, y_asg, y_own, y_shr, y_par, y_aug, y_put, y_app, y_ext, y_iff, y_ret, y_retN, y_brk, y_cont, y_exp, y_whl, y_for, j_Sn, j_Sr, j_Sb, j_Sc, j_N, j_A2, j_A, j_O, j_H, j_P4, j_P3, j_P2, j_P, j_G0, j_G, j_G2, j_U5, j_U4, j_U3, j_U2, j_U, j_L3, j_L2, j_L1, j_L0, j_L, j_X2, j_X, j_X0, j_It, j_If, j_I, j_R2, j_R, j_E, j_W, j_whlC, j_T, j_turnF, j_F, m_rt, m_nx, m_exc, ap_s, ap_r, ap_o, ap_v, ex_s, ex_o, pu_s, pu_o, pu_v, au_add, au_sub, au_mul, au_fdiv, au_mod, fq_rt, fq_nx, gq_nx, gq_ct, gq_rt, gq_bk, isB_eq, isI_eq, isT_eq, rg1_n, lst1_n, a_evBd, isHole, eqO_int, wp_ok, wp_bind, wp_fin, List.length_cons, List.length_nil, List.getElem?_cons_zero, List.getElem?_cons_succ, List.getElem?_nil, List.set_cons_zero, List.set_cons_succ, if_true, if_false, Bool.false_eq_true, wipeE, back, Nat.reduceAdd, decide_true, decide_false, Bool.not_true, Bool.not_false, List.map_cons, List.map_nil, List.replicate, List.cons_append, List.nil_append, Nat.add_one_sub_one, Nat.reduceSub, Nat.sub_self, List.isEmpty_nil, List.isEmpty_cons, k_tk, eq_self, and_true, true_and, and_self, Option.some.injEq, f_kin, f_kix, f_pop, f_popAt, f_isi, f_index, f_rng3, isS_eq, a_asS, a_Ki, a_Ki2f, a_Ki2t, a_Kx, a_Kx2, a_Pop, a_Pop1, a_Pop2, a_Pa, a_Pa0, a_Pa1, a_Pa2, a_Isi, a_fIsi, a_Ix, a_Ix0, a_Ix1, a_R36, a_R35, a_R34, a_R33, a_R32, po_s, po_v, r_scr, Option.isSome_some, Option.isSome_none, f_fresh, a_Fr, r_ref, r_refL, ap_mW, ap_mL, po_mW, f_dnew, f_trg1, a_Tr1, trR_n, pu_od, r_dct, l_dct, t_dct, f_dc, a_turnU, a_U0, a_U1t, a_U1f, a_U2, a_U3, a_U4, a_U5, a_Dc, a_Dc2, f_kget, a_Kg, a_Kg2, f_gmax, a_turnM, a_M0, a_M1t, a_M1f, a_M2, a_M3, a_Gm, a_Gm2, f_fld, a_Fld, a_Fld2, in_r, in_s, in_v, in_m, fl_w, fl_1, fl_2, ct_1, tl_1, f_meth, a_Me, a_Me2, a_Me3, a_Me4, mt_w, mt_1, mt_2, mt_3, f_new, a_Nw, a_Nw2, a_Nw3, x_fst, j_Fs, j_Fs2, j_Fs3, fs_w, fs_1, r_refI, a_En2t, f_lc2, a_L2, a_turn2C, a_2C0, a_2Ct, a_2Cf, a_D1, x_tryN, $ls,*])
/-! ### powers -/
theorem nodup_len : ∀ (n : Nat) (l : List Nat), l.Nodup → (∀ x ∈ l, x < n) → l.length ≤ n
  | 0, l, _, h => by
    cases l with
    | nil => exact Nat.le_refl _
    | cons a l => exact absurd (h a List.mem_cons_self) (Nat.not_lt_zero _)
  | n + 1, l, hn, h => by
    by_cases hm : n ∈ l
    · have h1 := nodup_len n (l.erase n) (hn.erase n) fun x hx => by
        have h2 := h x (List.mem_of_mem_erase hx)
        have h3 : x ≠ n := fun z => by
          rw [z] at hx
          exact (List.Nodup.mem_erase_iff hn).mp hx |>.1 rfl
        omega
      rw [List.length_erase_of_mem hm] at h1
      omega
    · have h1 := nodup_len n l hn fun x hx => by
        have h2 := h x hx
        have h3 : x ≠ n := fun z => hm (by rw [← z]; exact hx)
        omega
      omega
theorem pigeon (n : Nat) (g : Nat → Nat) (h : ∀ k, k ≤ n → g k < n) : ∃ i j, i < j ∧ j ≤ n ∧ g i = g j := by
  apply Classical.byContradiction
  intro hc
  have hn : ((List.range (n + 1)).map g).Nodup := by
    rw [List.nodup_iff_pairwise_ne, List.pairwise_map]
    refine List.Pairwise.imp_of_mem (fun {a b} ha hb hab => ?_) List.pairwise_lt_range
    intro e
    exact hc ⟨a, b, hab, by have := List.mem_range.mp hb; omega, e⟩
  have := nodup_len n _ hn fun x hx => by
    obtain ⟨k, hk, rfl⟩ := List.mem_map.mp hx
    exact h k (by have := List.mem_range.mp hk; omega)
  simp at this
  omega
def pw (S : Sg) (v : Nat) : Nat → Nat
  | 0 => v
  | k + 1 => S.f (pw S v k) v
section
variable {S : Sg} (h : S.Ok) {v : Nat} (hv : v < S.n)
include h hv
theorem pw_lt : ∀ k, pw S v k < S.n
  | 0 => hv
  | k + 1 => h.lt _ _ (pw_lt k) hv
theorem pw_add (a : Nat) : ∀ b, S.f (pw S v a) (pw S v b) = pw S v (a + b + 1)
  | 0 => rfl
  | b + 1 => by
    show S.f (pw S v a) (S.f (pw S v b) v) = S.f (pw S v (a + b + 1)) v
    rw [← h.as _ _ _ (pw_lt h hv a) (pw_lt h hv b) hv, pw_add a b]
theorem pw_per {i p : Nat} (e : pw S v i = pw S v (i + p)) : ∀ t, pw S v (i + t) = pw S v (i + t + p)
  | 0 => e
  | t + 1 => by
    have := pw_per e t
    show S.f (pw S v (i + t)) v = _
    rw [this, show i + (t + 1) + p = (i + t + p) + 1 by omega]
    rfl
theorem pw_per2 {i p : Nat} (e : pw S v i = pw S v (i + p)) {m : Nat} (hm : i ≤ m) : ∀ q, pw S v m = pw S v (m + p * q)
  | 0 => rfl
  | q + 1 => by
    rw [pw_per2 e hm q, Nat.mul_succ, ← Nat.add_assoc]
    have := pw_per h hv e (m + p * q - i)
    rwa [show i + (m + p * q - i) = m + p * q by omega] at this
/-- a power that is its own square -/
theorem pw_idem : ∃ k, k < S.n ∧ S.f (pw S v k) (pw S v k) = pw S v k := by
  obtain ⟨i, j, hij, hj, e⟩ := pigeon S.n (pw S v) fun k _ => pw_lt h hv k
  obtain ⟨p, hp, rfl⟩ : ∃ p, 0 < p ∧ j = i + p := ⟨j - i, by omega, by omega⟩
  have h1 : i < p * (i / p + 1) := by
    have h3 := Nat.div_add_mod i p
    have h4 := Nat.mod_lt i hp
    rw [Nat.mul_add, Nat.mul_one]; omega
  have h2 : p * (i / p + 1) ≤ i + p := by
    have h3 := Nat.div_add_mod i p
    rw [Nat.mul_add, Nat.mul_one]; omega
  generalize hq : i / p + 1 = q at h1 h2
  obtain ⟨k, hk⟩ : ∃ k, p * q = k + 1 := ⟨p * q - 1, by omega⟩
  refine ⟨k, by omega, ?_⟩
  rw [pw_add h hv, show k + k + 1 = k + p * q by omega]
  exact (pw_per2 h hv e (by omega) q).symm
theorem pw_first : ∃ k, k < S.n ∧ S.f (pw S v k) (pw S v k) = pw S v k ∧ ∀ j, j < k → ¬ S.f (pw S v j) (pw S v j) = pw S v j := by
  obtain ⟨k, h1, h2⟩ := pw_idem h hv
  have key : ∀ k, S.f (pw S v k) (pw S v k) = pw S v k → ∃ k', k' ≤ k ∧ S.f (pw S v k') (pw S v k') = pw S v k' ∧ ∀ j, j < k' → ¬ S.f (pw S v j) (pw S v j) = pw S v j := by
    intro k
    induction k using Nat.strongRecOn with
    | ind k ih =>
      intro hk
      by_cases hj : ∃ j, j < k ∧ S.f (pw S v j) (pw S v j) = pw S v j
      · obtain ⟨j, hj1, hj2⟩ := hj
        obtain ⟨k', a, b, c⟩ := ih j hj1 hj2
        exact ⟨k', by omega, b, c⟩
      · exact ⟨k, Nat.le_refl _, hk, fun j hj1 hj2 => hj ⟨j, hj1, hj2⟩⟩
  obtain ⟨k', a, b, c⟩ := key k h2
  exact ⟨k', by omega, b, c⟩
end
def sett (S : Sg) (v : Nat) : Nat → Nat → Nat
  | 0, x => x
  | n + 1, x => if S.f x x = x then x else sett S v n (S.f x v)
def settF (S : Sg) (v : Nat) : Nat := sett S v (S.n + 1) v
theorem sett_pw (S : Sg) (v : Nat) : ∀ (n j k : Nat), j ≤ k → k < j + n → S.f (pw S v k) (pw S v k) = pw S v k → (∀ i, j ≤ i → i < k → ¬ S.f (pw S v i) (pw S v i) = pw S v i) → sett S v n (pw S v j) = pw S v k
  | 0, j, k, h1, h2, _, _ => by omega
  | n + 1, j, k, h1, h2, h3, h4 => by
    unfold sett
    by_cases e : j = k
    · subst e; rw [if_pos h3]
    · rw [if_neg (h4 j (Nat.le_refl _) (by omega))]
      exact sett_pw S v n (j + 1) k (by omega) (by omega) h3 fun i h5 h6 => h4 i (by omega) h6
theorem settF_pw {S : Sg} (h : S.Ok) {v : Nat} (hv : v < S.n) : ∃ k, k < S.n ∧ settF S v = pw S v k ∧ S.f (pw S v k) (pw S v k) = pw S v k ∧ ∀ j, j < k → ¬ S.f (pw S v j) (pw S v j) = pw S v j := by
  obtain ⟨k, h1, h2, h3⟩ := pw_first h hv
  exact ⟨k, h1, sett_pw S v _ 0 k (Nat.zero_le _) (by omega) h2 fun i _ hi => h3 i hi, h2, h3⟩
theorem settF_lt {S : Sg} (h : S.Ok) {v : Nat} (hv : v < S.n) : settF S v < S.n := by
  obtain ⟨k, _, e, _⟩ := settF_pw h hv
  rw [e]; exact pw_lt h hv k
theorem ne_nat (a b : Nat) : cmpO .ne (.int (a : Int)) (.int (b : Int)) = some (!decide (a = b)) := by
  rw [q_ne, eqO_nat]; rfl
theorem settledv_ok (n0 : Nat) (S : Sg) (h : S.Ok) (v : Nat) (hv : v < S.n) (mem : List MO) : run (TL L) (n0 + 1) "settled_value" [S.d, .int (v : Int)] mem = .ok (.int ((settF S v : Nat) : Int)) mem := by
  obtain ⟨k, hk, e, h2, h3⟩ := settF_pw h hv
  rw [run_def T_settledv rfl]
  generalize run (TL L) n0 = cf
  apply wp_eq
  simp only [d_settled_value]
  dsimp! []
  refine wp_whl0 (fun r t => ∃ j, j ≤ k ∧ r = k - j ∧ t = ⟨[.val S.d, .val (.int (v : Int)), .val (.int ((pw S v j : Nat) : Int))], mem⟩) (k := k) (by have := h.le; omega) ⟨0, Nat.zero_le _, rfl, rfl⟩ ?_
  intro r t ⟨j, hj, hr, ht⟩
  subst ht
  have hp := pw_lt h hv j
  have q : cmpO .ne (.int ((S.f (pw S v j) (pw S v j) : Nat) : Int)) (.int ((pw S v j : Nat) : Int)) = some (!decide (S.f (pw S v j) (pw S v j) = pw S v j)) := ne_nat _ _
  by_cases hd : S.f (pw S v j) (pw S v j) = pw S v j
  · have hjk : j = k := by
      rcases Nat.lt_or_ge j k with z | z
      · exact absurd hd (h3 j z)
      · omega
    have q2 : decide (S.f (pw S v j) (pw S v j) = pw S v j) = true := decide_eq_true hd
    rw [q2] at q
    dsimp! [r_S, r_Sr, i_S _ _ hp, i_Sr _ _ _ hp, q, eqO_nat, q2]
    rw [e, hjk]
  · have hjk : j < k := by
      rcases Nat.lt_or_ge j k with z | z
      · exact z
      · have : j = k := by omega
        rw [this] at hd
        exact absurd h2 hd
    have q2 : decide (S.f (pw S v j) (pw S v j) = pw S v j) = false := decide_eq_false hd
    rw [q2] at q
    dsimp! [r_S, r_Sr, i_S _ _ hp, i_Sr _ _ _ hp, i_Sr _ _ _ hv, q, eqO_nat, q2]
    exact ⟨k - (j + 1), by omega, j + 1, by omega, rfl, rfl⟩
end DL
end

section
set_option maxRecDepth 100000
set_option maxHeartbeats 16000000
namespace DL
open PySem
local macro_rules | `(tactic| dsimp! [$ls,*]) => `(tactic| simp (disch := (first | assumption | omega | (simp only [List.length_cons, List.length_nil, List.length_map, List.length_range, List.length_append]; omega))) only [f_bool, f_int, f_bl, f_non, f_str, f_glob, f_bin, f_cmp, f_idx, f_neg, f_chain, f_not, f_ite, f_slc, f_tup, f_lst, f_call, f_blt, f_lrg1, f_lrg2, f_lc, f_gx, f_Anil, f_A, f_B1, f_B, f_C0, f_C1, f_seq, f_rng1, f_rng2, f_enum, f_zip, f_rev, b_ok, b_exc, b_of, b_O, b_map, b_2, b_ob, a_2, a_Bin, a_Cmp, a_Idx, a_fC, a_fI, a_wB, a_wD, a_asB, a_asI, a_Neg, a_Neg2, a_Ch, a_Ch2, a_Ch3t, a_Ch3f, a_Not, a_Not2, a_Ite, a_Ite2t, a_Ite2f, a_Tup, a_Tup2, a_Lst, a_Lst2, a_Cl, a_Cl2, a_Cl3, a_inM, a_inX, a_Blt, a_Lr1, a_Lr2, a_Lr3, a_Sm, a_Bd, a_evBh, a_slcV, a_Sl2, a_Sl, a_turnC, a_C0, a_C1t, a_C1f, a_C2, a_C3, a_turnG, a_G0, a_G1t, a_G1f, a_G2, a_G3, a_Lc, a_Lc2, a_Gx, a_Gx2, a_A2, a_A, a_B, a_B2tt, a_B2tf, a_B2ff, a_B2ft, a_C, a_Seq, a_Seq2, a_R1, a_R2, a_R2', a_R3, a_En, a_En2, a_Z, a_Z2, a_Z3, a_Z4, a_Rv, a_Rv2, v_d, v_s, v_val, v_own, r_non, r_bl, r_int, r_str, r_tup, r_lst, c_d, c_s, c_val, c_own, s_nil, s_cons, s_1, s_2, vs_nil, vs_cons, vs_c, f_var, w_val, w_own, p_pl, p_mo, t_lst, o_addI, o_addS, o_addL, o_addT, o_sub, o_mulN, o_fdiv, o_mod, q_lt, q_le, q_gt, q_ge, q_eq, q_ne, q_is, q_isN, q_isNb, q_isNi, q_isNt, q_not, q_notN, q_notNb, q_notNi, q_notNt, q_in, q_nin, u_bl, u_int, u_lst, u_tup, i_lst, i_tup, i_0, i_1, i_2, i_3, i_4, l_lst, l_tup, z_lst, z_tup, a_wI, t_len, t_max, t_min, t_int, t_intb, t_all, t_any, t_listL, t_listT, t_listS, t_tupL, t_tupT, g_lst, g_tup, n_name, n_tup, n_nil, n_cons, n_kas, y_skip, y_seq, y_asg, y_own, y_shr, y_par, y_aug, y_put, y_app, y_ext, y_iff, y_ret, y_retN, y_brk, y_cont, y_exp, y_whl, y_for, j_Sn, j_Sr, j_Sb, j_Sc, j_N, j_A2, j_A, j_O, j_H, j_P4, j_P3, j_P2, j_P, j_G0, j_G, j_G2, j_U5, j_U4, j_U3, j_U2, j_U, j_L3, j_L2, j_L1, j_L0, j_L, j_X2, j_X, j_X0, j_It, j_If, j_I, j_R2, j_R, j_E, j_W, j_whlC, j_T, j_turnF, j_F, m_rt, m_nx, m_exc, ap_s, ap_r, ap_o, ap_v, ex_s, ex_o, pu_s, pu_o, pu_v, au_add, au_sub, au_mul, au_fdiv, au_mod, fq_rt, fq_nx, gq_nx, gq_ct, gq_rt, gq_bk, isB_eq, isI_eq, isT_eq, rg1_n, lst1_n, a_evBd, isHole, eqO_int, wp_ok, wp_bind, wp_fin, List.length_cons, List.length_nil, List.getElem?_cons_zero, List.getElem?_cons_succ, List.getElem?_nil, List.set_cons_zero, List.set_cons_succ, if_true, if_false, Bool.false_eq_true, wipeE, back, Nat.reduceAdd, decide_true, decide_false, Bool.not_true, Bool.not_false, List.map_cons, List.map_nil, List.replicate, List.cons_append, List.nil_append, Nat.add_one_sub_one, Nat.reduceSub, Nat.sub_self, List.isEmpty_nil, List.isEmpty_cons, k_tk, eq_self, and_true, true_and, and_self, Option.some.injEq, f_kin, f_kix, f_pop, f_popAt, f_isi, f_index, f_rng3, isS_eq, a_asS, a_Ki, a_Ki2f, a_Ki2t, a_Kx, a_Kx2, a_Pop, a_Pop1, a_Pop2, a_Pa, a_Pa0, a_Pa1, a_Pa2, a_Isi, a_fIsi, a_Ix, a_Ix0, a_Ix1, a_R36, a_R35, a_R34, a_R33, a_R32, po_s, po_v, r_scr, Option.isSome_some, Option.isSome_none, f_fresh, a_Fr, r_ref, r_refL, ap_mW, ap_mL, po_mW, f_dnew, f_trg1, a_Tr1, trR_n, pu_od, r_dct, l_dct, t_dct, f_dc, a_turnU, a_U0, a_U1t, a_U1f, a_U2, a_U3, a_U4, a_U5, a_Dc, a_Dc2, f_kget, a_Kg, a_Kg2, f_gmax, a_turnM, a_M0, a_M1t, a_M1f, a_M2, a_M3, a_Gm, a_Gm2, f_fld, a_Fld, a_Fld2, in_r, in_s, in_v, in_m, fl_w, fl_1, fl_2, ct_1, tl_1, f_meth, a_Me, a_Me2, a_Me3, a_Me4, mt_w, mt_1, mt_2, mt_3, f_new, a_Nw, a_Nw2, a_Nw3, x_fst, j_Fs, j_Fs2, j_Fs3, fs_w, fs_1, r_refI, a_En2t, f_lc2, a_L2, a_turn2C, a_2C0, a_2Ct, a_2Cf, a_D1, x_tryN, $ls,*])
def pairOf (R : Rdr) (w : Wd) : Nat × Nat := if w.1 = [] then (settF R.S (wv R.S R.L w.2), settF R.S (wv R.S R.L w.2)) else (R.S.f (wv R.S R.L w.1) (settF R.S (wv R.S R.L w.2)), settF R.S (wv R.S R.L w.2))
def acc (R : Rdr) (p : Nat × Nat) : Bool := R.A.any fun z => decide (z = p)
def okW (c : Nat) (w : Wd) : Prop := w.2 ≠ [] ∧ (∀ x ∈ w.1, x < c) ∧ ∀ x ∈ w.2, x < c
theorem in_pairs (x : Nat × Nat) (l : List (Nat × Nat)) : inO (d2 x) (.tup (l.map d2)) = some (l.any fun z => decide (z = x)) := in_tup (encP encN encN) (by decide) x l
theorem eq_d2 (a b : Nat × Nat) : eqO (d2 a) (d2 b) = some (decide (a = b)) := (encP encN encN).eqO (by decide) a b
theorem pairof_ok (n0 : Nat) (R : Rdr) (h : R.Ok) (w : Wd) (hw : okW R.L.length w) (mem : List MO) : run (TL L) (n0 + 2) "pair_of" [R.d, dW w] mem = .ok (d2 (pairOf R w)) mem := by
  have hv := fun row hn hr => value_ok n0 R h row hn hr mem
  have hs := fun v hv => settledv_ok n0 R.S h.S v hv mem
  obtain ⟨hw2, hl1, hl2⟩ := hw
  have hb := wv_lt h hw2 hl2
  have hf := settF_lt h.S hb
  rw [run_def T_pairof rfl]
  generalize run (TL L) (n0 + 1) = cf at hv hs ⊢
  apply wp_eq
  simp only [d_pair_of]
  have unp : dW w = .tup [dNs w.1, dNs w.2] := rfl
  rw [unp]
  unfold pairOf
  cases hw1 : w.1 with
  | nil =>
    have e0 : truO (dNs []) = some false := rfl
    dsimp! [r_R, i_R1, hv _ hw2 hl2, hs _ hb, r_Ns, e0]
    rfl
  | cons a r =>
    have hn1 : a :: r ≠ [] := fun z => by cases z
    rw [hw1] at hl1
    have ha := wv_lt h hn1 hl1
    have e0 : truO (dNs (a :: r)) = some true := rfl
    rw [if_neg hn1]
    dsimp! [r_R, i_R1, hv _ hw2 hl2, hs _ hb, r_Ns, e0, hv _ hn1 hl1, r_S, r_Sr, i_S _ _ ha, i_Sr _ _ _ hf]
    rfl
theorem accepts_ok (n0 : Nat) (R : Rdr) (h : R.Ok) (w : Wd) (hw : okW R.L.length w) (mem : List MO) : run (TL L) (n0 + 3) "accepts" [R.d, dW w] mem = .ok (.bl (acc R (pairOf R w))) mem := by
  have hp := pairof_ok n0 R h w hw mem
  rw [run_def T_accepts rfl]
  generalize run (TL L) (n0 + 2) = cf at hp ⊢
  apply wp_eq
  simp only [d_accepts]
  have r2 : ∀ s p, drf s (d2 p) = d2 p := fun _ _ => rfl
  dsimp! [hp, r_R, i_R2, r2, in_pairs]
  rfl
/-! ### drawn words -/
theorem row_s (n0 : Nat) (st : MO) (hst : IsS st) (rest : List MO) (c lo mo : Nat) (hc : 0 < c) (hc2 : c ≤ 1000) (hlo : lo ≤ mo) (hmo : mo ≤ 1000) :
    (run (TL L) (n0 + 2) "_law_row" [.ref 0, .int c, .int lo, .int mo] (st :: rest)).Wp fun d m => ∃ (l : List Nat) (st' : MO), d = dNs l ∧ m = st' :: rest ∧ IsS st' ∧ lo ≤ l.length ∧ l.length ≤ mo ∧ ∀ x ∈ l, x < c := by
  have hdr := hdraw n0
  rw [run_def T_row rfl]
  generalize run (TL L) (n0 + 1) = cf at hdr ⊢
  simp only [d__law_row]
  obtain ⟨x, st1, hx, hst1, hx1⟩ := hdr st hst rest ((mo : Int) - lo + 1) (mo - lo + 1) (by omega) (by omega) (by omega)
  dsimp! [hx, ci_add]
  refine ld_w dN (fun mem => ∃ st, IsS st ∧ mem = st :: rest) (fun k => k < c) _ _ _ _ ⟨_, hst1, rfl⟩ (fun d hd mem hm => ?_) fun l mem hl hP hm => ?_
  · obtain ⟨st2, hst2, rfl⟩ := hm
    obtain ⟨y, st3, hy, hst3, hy1⟩ := hdr st2 hst2 rest c c rfl hc (by omega)
    dsimp! [hy]
    exact ⟨⟨_, rfl, hy1⟩, _, hst3, rfl⟩
  · obtain ⟨st2, hst2, rfl⟩ := hm
    rw [List.length_map, List.length_range] at hl
    dsimp! []
    exact ⟨l, _, rfl, rfl, hst2, by omega, by omega, hP⟩
theorem word_s (n0 : Nat) (st : MO) (hst : IsS st) (rest : List MO) (c : Nat) (hc : 0 < c) (hc2 : c ≤ 1000) (mo : Nat) (hm : 1 ≤ mo) (hm2 : mo ≤ 1000) :
    (run (TL L) (n0 + 3) "_law_word" [.ref 0, .int c, .int mo] (st :: rest)).Wp fun d m => ∃ (w : Wd) (st' : MO), d = dW w ∧ m = st' :: rest ∧ IsS st' ∧ okW c w ∧ w.1.length ≤ mo ∧ w.2.length ≤ mo := by
  have h := fun st hst lo mo => row_s n0 st hst rest c lo mo hc hc2
  rw [run_def T_word rfl]
  generalize run (TL L) (n0 + 2) = cf at h ⊢
  simp only [d__law_word]
  obtain ⟨d1, m1, e1, l1, st1, rfl, rfl, hst1, _, hl1, hb1⟩ := wp_get (h st hst 0 mo (by omega) (by omega))
  obtain ⟨d2, m2, e2, l2, st2, rfl, rfl, hst2, hl2, hl2', hb2⟩ := wp_get (h st1 hst1 1 mo (by omega) (by omega))
  have e1 : cf "_law_row" [.ref 0, .int c, .int 0, .int mo] (st :: rest) = .ok (dNs l1) (st1 :: rest) := e1
  have e2 : cf "_law_row" [.ref 0, .int c, .int 1, .int mo] (st1 :: rest) = .ok (dNs l2) (st2 :: rest) := e2
  dsimp! [e1, e2]
  exact ⟨(l1, l2), _, rfl, rfl, hst2, ⟨fun z => (by have z : l2 = [] := z; rw [z] at hl2; simp at hl2), hb1, hb2⟩, hl1, hl2'⟩
end DL
end

section
set_option maxRecDepth 100000
set_option maxHeartbeats 16000000
namespace DL
open PySem
local macro_rules | `(tactic| dsimp! [$ls,*]) => `(tactic| simp (disch := (first | assumption | omega | (simp only [List.length_cons, List.length_nil, List.length_map, List.length_range, List.length_append]; omega))) only [f_bool, f_int, f_bl, f_non, f_str, f_glob, f_bin, f_cmp, f_idx, f_neg, f_chain, f_not, f_ite, f_slc, f_tup, f_lst, f_call, f_blt, f_lrg1, f_lrg2, f_lc, f_gx, f_Anil, f_A, f_B1, f_B, f_C0, f_C1, f_seq, f_rng1, f_rng2, f_enum, f_zip, f_rev, b_ok, b_exc, b_of, b_O, b_map, b_2, b_ob, a_2, a_Bin, a_Cmp, a_Idx, a_fC, a_fI, a_wB, a_wD, a_asB, a_asI, a_Neg, a_Neg2, a_Ch, a_Ch2, a_Ch3t, a_Ch3f, a_Not, a_Not2, a_Ite, a_Ite2t, a_Ite2f, a_Tup, a_Tup2, a_Lst, a_Lst2, a_Cl, a_Cl2, a_Cl3, a_inM, a_inX, a_Blt, a_Lr1, a_Lr2, a_Lr3, a_Sm, a_Bd, a_evBh, a_slcV, a_Sl2, a_Sl, a_turnC, a_C0, a_C1t, a_C1f, a_C2, a_C3, a_turnG, a_G0, a_G1t, a_G1f, a_G2, a_G3, a_Lc, a_Lc2, a_Gx, a_Gx2, a_A2, a_A, a_B, a_B2tt, a_B2tf, a_B2ff, a_B2ft, a_C, a_Seq, a_Seq2, a_R1, a_R2, a_R2', a_R3, a_En, a_En2, a_Z, a_Z2, a_Z3, a_Z4, a_Rv, a_Rv2, v_d, v_s, v_val, v_own, r_non, r_bl, r_int, r_str, r_tup, r_lst, c_d, c_s, c_val, c_own, s_nil, s_cons, s_1, s_2, vs_nil, vs_cons, vs_c, f_var, w_val, w_own, p_pl, p_mo, t_lst, o_addI, o_addS, o_addL, o_addT, o_sub, o_mulN, o_fdiv, o_mod, q_lt, q_le, q_gt, q_ge, q_eq, q_ne, q_is, q_isN, q_isNb, q_isNi, q_isNt, q_not, q_notN, q_notNb, q_notNi, q_notNt, q_in, q_nin, u_bl, u_int, u_lst, u_tup, i_lst, i_tup, i_0, i_1, i_2, i_3, i_4, l_lst, l_tup, z_lst, z_tup, a_wI, t_len, t_max, t_min, t_int, t_intb, t_all, t_any, t_listL, t_listT, t_listS, t_tupL, t_tupT, g_lst, g_tup, n_name, n_tup, n_nil, n_cons, n_kas, y_skip, y_seq, y_asg, y_own, y_shr, y_par, y_aug, y_put, y_app, y_ext, y_iff, y_ret, y_retN, y_brk, y_cont, y_exp, y_whl, y_for, j_Sn, j_Sr, j_Sb, j_Sc, j_N, j_A2, j_A, j_O, j_H, j_P4, j_P3, j_P2, j_P, j_G0, j_G, j_G2, j_U5, j_U4, j_U3, j_U2, j_U, j_L3, j_L2, j_L1, j_L0, j_L, j_X2, j_X, j_X0, j_It, j_If, j_I, j_R2, j_R, j_E, j_W, j_whlC, j_T, j_turnF, j_F, m_rt, m_nx, m_exc, ap_s, ap_r, ap_o, ap_v, ex_s, ex_o, pu_s, pu_o, pu_v, au_add, au_sub, au_mul, au_fdiv, au_mod, fq_rt, fq_nx, gq_nx, gq_ct, gq_rt, gq_bk, isB_eq, isI_eq, isT_eq, rg1_n, lst1_n, a_evBd, isHole, eqO_int, wp_ok, wp_bind, wp_fin, List.length_cons, List.length_nil, List.getElem?_cons_zero, List.getElem?_cons_succ, List.getElem?_nil, List.set_cons_zero, List.set_cons_succ, if_true, if_false, Bool.false_eq_true, wipeE, back, Nat.reduceAdd, decide_true, decide_false, Bool.not_true, Bool.not_false, List.map_cons, List.map_nil, List.replicate, List.cons_append, List.nil_append, Nat.add_one_sub_one, Nat.reduceSub, Nat.sub_self, List.isEmpty_nil, List.isEmpty_cons, k_tk, eq_self, and_true, true_and, and_self, Option.some.injEq, f_kin, f_kix, f_pop, f_popAt, f_isi, f_index, f_rng3, isS_eq, a_asS, a_Ki, a_Ki2f, a_Ki2t, a_Kx, a_Kx2, a_Pop, a_Pop1, a_Pop2, a_Pa, a_Pa0, a_Pa1, a_Pa2, a_Isi, a_fIsi, a_Ix, a_Ix0, a_Ix1, a_R36, a_R35, a_R34, a_R33, a_R32, po_s, po_v, r_scr, Option.isSome_some, Option.isSome_none, f_fresh, a_Fr, r_ref, r_refL, ap_mW, ap_mL, po_mW, f_dnew, f_trg1, a_Tr1, trR_n, pu_od, r_dct, l_dct, t_dct, f_dc, a_turnU, a_U0, a_U1t, a_U1f, a_U2, a_U3, a_U4, a_U5, a_Dc, a_Dc2, f_kget, a_Kg, a_Kg2, f_gmax, a_turnM, a_M0, a_M1t, a_M1f, a_M2, a_M3, a_Gm, a_Gm2, f_fld, a_Fld, a_Fld2, in_r, in_s, in_v, in_m, fl_w, fl_1, fl_2, ct_1, tl_1, f_meth, a_Me, a_Me2, a_Me3, a_Me4, mt_w, mt_1, mt_2, mt_3, f_new, a_Nw, a_Nw2, a_Nw3, x_fst, j_Fs, j_Fs2, j_Fs3, fs_w, fs_1, r_refI, a_En2t, f_lc2, a_L2, a_turn2C, a_2C0, a_2Ct, a_2Cf, a_D1, x_tryN, $ls,*])
/-! ### functions of a few points -/
def gd (p : Nat) (g : List Nat) : Prop := g.length = p ∧ ∀ x ∈ g, x < p
def comp (p : Nat) (a b : List Nat) : List Nat := (List.range p).map fun j => b.getD (a.getD j 0) 0
structure FunOk (p : Nat) (F : List (List Nat)) : Prop where
  gd : ∀ g ∈ F, gd p g
  cl : ∀ a ∈ F, ∀ b ∈ F, comp p a b ∈ F
  ne : F ≠ []
  le : F.length ≤ 9
  p3 : p ≤ 3
theorem gd_at {p : Nat} {g : List Nat} (h : gd p g) (j : Nat) (hj : j < p) : g.getD j 0 < p := by
  rw [List.getD_eq_getElem?_getD, List.getElem?_eq_getElem (by rw [h.1]; exact hj)]
  exact h.2 _ (List.getElem_mem _)
theorem comp_gd {p : Nat} {a b : List Nat} (ha : gd p a) (hb : gd p b) : gd p (comp p a b) := by
  refine ⟨by unfold comp; simp, fun x hx => ?_⟩
  obtain ⟨j, hj, rfl⟩ := List.mem_map.mp hx
  exact gd_at hb _ (gd_at ha j (List.mem_range.mp hj))
theorem comp_at {p : Nat} (a b : List Nat) (j : Nat) (hj : j < p) : (comp p a b).getD j 0 = b.getD (a.getD j 0) 0 := by
  unfold comp
  rw [List.getD_eq_getElem?_getD, List.getElem?_map, List.getElem?_range hj]
  rfl
theorem comp_as {p : Nat} (a b c : List Nat) (ha : gd p a) : comp p (comp p a b) c = comp p a (comp p b c) := by
  unfold comp
  refine List.map_congr_left fun j hj => ?_
  have hj := List.mem_range.mp hj
  have h1 := comp_at (p := p) a b j hj
  have h2 := comp_at (p := p) b c (a.getD j 0) (gd_at ha j hj)
  unfold comp at h1 h2
  rw [h1, h2]
theorem in_funs (x : List Nat) (l : List (List Nat)) : inO (tNs x) (.lst (l.map tNs)) = some (l.any fun z => decide (z = x)) := in_lst (encTl encN) (by decide) x l
theorem any_t {α : Type} [DecidableEq α] {l : List α} {x : α} (h : x ∈ l) : (l.any fun z => decide (z = x)) = true := List.any_eq_true.mpr ⟨x, h, decide_eq_true rfl⟩
theorem any_f {α : Type} [DecidableEq α] {l : List α} {x : α} (h : ¬ x ∈ l) : (l.any fun z => decide (z = x)) = false := by
  cases e : l.any fun z => decide (z = x) with
  | false => rfl
  | true =>
    obtain ⟨z, hz, hd⟩ := List.any_eq_true.mp e
    exact absurd (by rw [← of_decide_eq_true hd]; exact hz) h
theorem snoc_gd {p : Nat} {F : List (List Nat)} {g : List Nat} (h : ∀ g ∈ F, gd p g) (hg : gd p g) : ∀ x ∈ F ++ [g], gd p x := fun x hx => by
  rcases List.mem_append.mp hx with z | z
  · exact h x z
  · rw [List.mem_singleton.mp z]; exact hg
/-- the composition, as it is reckoned -/
theorem comp_run (cf : CF) (p : Nat) (a b : List Nat) (ha : gd p a) (hb : gd p b) (hp : p ≤ 3) (x0 x2 x3 x6 : Sl) (mem : List MO) :
    lcR [7] (turnC cf (.name 7) .nil (.idx (.var 5) (.idx (.var 4) (.var 7)))) ((List.range p).map dN) ⟨[x0, .val (.int (p : Int)), x2, x3, .val (tNs a), .val (tNs b), x6, .non], mem⟩ = .ok (.mo (.lst ((comp p a b).map dN))) ⟨[x0, .val (.int (p : Int)), x2, x3, .val (tNs a), .val (tNs b), x6, .non], mem⟩ := by
  rw [lc_w dN (fun j => .int ((b.getD (a.getD j 0) 0 : Nat) : Int))]
  · unfold comp
    rw [List.map_map]
    rfl
  · intro j hj
    have hj := List.mem_range.mp hj
    have h1 : j < a.length := by rw [ha.1]; exact hj
    have h2 : a.getD j 0 < b.length := by rw [hb.1]; exact gd_at ha j hj
    dsimp! [r_tNs, i_tNs _ _ h1, i_tNs _ _ h2]
theorem l_funs (F : List (List Nat)) : (F.map tNs).length = F.length := List.length_map ..
theorem tN (l : List Nat) : D.tup (l.map dN) = tNs l := rfl
theorem funs_ok (n0 : Nat) (st : MO) (hst : IsS st) (rest : List MO) :
    (run (TL L) (n0 + 2) "_law_functions" [.ref 0] (st :: rest)).Wp fun d m => ∃ (p : Nat) (F : List (List Nat)) (st' : MO), d = .lst (F.map tNs) ∧ m = st' :: rest ∧ IsS st' ∧ FunOk p F := by
  have hdr := hdraw n0
  rw [run_def T_funs rfl]
  generalize run (TL L) (n0 + 1) = cf at hdr ⊢
  simp only [d__law_functions]
  obtain ⟨q, st1, hq, hst1, hq2⟩ := hdr st hst rest 2 2 rfl (by decide) (by decide)
  obtain ⟨p, hp⟩ : ∃ p, p = 2 + q := ⟨_, rfl⟩
  have hp3 : p ≤ 3 := by omega
  have hp2 : 2 ≤ p := by omega
  have ep : (2 : Int) + (q : Int) = ((p : Nat) : Int) := by omega
  obtain ⟨r, st2, hr, hst2, hr2⟩ := hdr st1 hst1 rest 2 2 rfl (by decide) (by decide)
  dsimp! [hq, ep, tN, hr, ci_1add]
  have id_gd : gd p (List.range p) := ⟨List.length_range, fun x hx => List.mem_range.mp hx⟩
  refine wp_for0 dN (fun done t => ∃ (F : List (List Nat)) (st : MO) (s3 s4 : Sl), IsS st ∧ (∀ g ∈ F, gd p g) ∧ F ≠ [] ∧ F.length ≤ 1 + done.length ∧ t = ⟨[.val (.ref 0), .val (.int (p : Int)), .own (.lst (F.map tNs)), s3, s4, .non, .non, .non], st :: rest⟩) ?_ ?_ ?_
  · exact ⟨[List.range p], st2, _, _, hst2, fun g hg => by rw [List.mem_singleton.mp hg]; exact id_gd, fun z => (by cases z), by simp, rfl⟩
  · intro done k rst t hd ⟨F, st, s3, s4, hst, hF, hne, hl, ht⟩
    subst ht
    have hdl : done.length < 1 + r := by
      have := congrArg List.length hd
      simp at this
      omega
    dsimp! []
    refine ld_w dN (fun mem => ∃ st, IsS st ∧ mem = st :: rest) (fun k => k < p) _ _ _ _ ⟨_, hst, rfl⟩ (fun d hd mem hm => ?_) fun g mem hgl hg hm => ?_
    · obtain ⟨st2, hst2, rfl⟩ := hm
      obtain ⟨y, st3, hy, hst3, hy1⟩ := hdr st2 hst2 rest p p rfl (by omega) (by omega)
      dsimp! [hy]
      exact ⟨⟨_, rfl, hy1⟩, _, hst3, rfl⟩
    obtain ⟨st3, hst3, rfl⟩ := hm
    rw [List.length_map, List.length_range] at hgl
    have ggd : gd p g := ⟨hgl, hg⟩
    have hm := in_funs g F
    by_cases hin : g ∈ F
    · rw [any_t hin] at hm
      dsimp! [tN, r_tNs, hm]
      exact ⟨F, _, _, _, hst3, hF, hne, by rw [List.length_append]; simp; omega, rfl⟩
    · rw [any_f hin] at hm
      have hl2 : (F.map tNs).length < 16777216 := by rw [l_funs]; omega
      dsimp! [tN, r_tNs, hm, hl2, m_snoc]
      exact ⟨F ++ [g], _, _, _, hst3, snoc_gd hF ggd, fun z => (by simp at z), by rw [List.length_append, List.length_append]; simp; omega, rfl⟩
  intro t ⟨F, st3, s3, s4, hst3, hF, hne, hl, ht⟩
  subst ht
  rw [List.length_range] at hl
  have l12 : rg1 12 = fun s => .ok ((List.range 12).map dN) s := funext fun s => rg1_n 12 s (by decide)
  dsimp! [l12]
  refine wp_for0 dN (fun done t => ∃ (F : List (List Nat)) (s3 s4 s5 s6 : Sl), (∀ g ∈ F, gd p g) ∧ F ≠ [] ∧ F.length ≤ 9 ∧ t = ⟨[.val (.ref 0), .val (.int (p : Int)), .own (.lst (F.map tNs)), s3, s4, s5, s6, .non], st3 :: rest⟩) ?_ ?_ ?_
  · exact ⟨F, _, _, _, _, hF, hne, by omega, rfl⟩
  · clear hF hne hl F
    intro done k rst t hd ⟨F, s3, s4, s5, s6, hF, hne, hl, ht⟩
    subst ht
    have ho : ∀ ds : List D, bltO .list [.lst ds] = some (.mo (.lst ds)) := fun _ => rfl
    dsimp! []
    refine wp_forM tNs F rfl (fun t => ∃ (F : List (List Nat)) (s3 s4 s5 s6 : Sl), (∀ g ∈ F, gd p g) ∧ F ≠ [] ∧ F.length ≤ 9 ∧ t = ⟨[.val (.ref 0), .val (.int (p : Int)), .own (.lst (F.map tNs)), s3, s4, s5, s6, .non], st3 :: rest⟩) ⟨F, _, _, _, _, hF, hne, hl, rfl⟩ ?_ ?_
    · intro a ha t ⟨G, s3, s4, s5, s6, hG, hne, hl, ht⟩
      subst ht
      dsimp! []
      refine wp_forM tNs G rfl (fun t => ∃ (F : List (List Nat)) (s3 s5 s6 : Sl), (∀ g ∈ F, gd p g) ∧ F ≠ [] ∧ F.length ≤ 9 ∧ t = ⟨[.val (.ref 0), .val (.int (p : Int)), .own (.lst (F.map tNs)), s3, .val (tNs a), s5, s6, .non], st3 :: rest⟩) ⟨G, _, _, _, hG, hne, hl, rfl⟩ ?_ ?_
      · intro b hb t ⟨K, s3, s5, s6, hK, hne, hl, ht⟩
        subst ht
        have cg := comp_gd (hF a ha) (hG b hb)
        have hm := in_funs (comp p a b) K
        have l0 : lenO (.lst (K.map tNs)) = some ((K.length : Nat) : Int) := by show some _ = _; rw [l_funs]
        by_cases hin : comp p a b ∈ K
        · rw [any_t hin] at hm
          dsimp! [comp_run cf p a b (hF a ha) (hG b hb) hp3, tN, r_tNs, hm]
          exact ⟨K, _, _, _, hK, hne, hl, rfl⟩
        · rw [any_f hin] at hm
          by_cases h9 : K.length < 9
          · have h9' : decide (((K.length : Nat) : Int) < 9) = true := decide_eq_true (by omega)
            have hl2 : (K.map tNs).length < 16777216 := by rw [l_funs]; omega
            dsimp! [comp_run cf p a b (hF a ha) (hG b hb) hp3, tN, r_tNs, hm, l_funs, h9', hl2, m_snoc]
            exact ⟨K ++ [comp p a b], _, _, _, snoc_gd hK cg, fun z => (by simp at z), by rw [List.length_append]; simp; omega, rfl⟩
          · have h9' : decide (((K.length : Nat) : Int) < 9) = false := decide_eq_false (by omega)
            dsimp! [comp_run cf p a b (hF a ha) (hG b hb) hp3, tN, r_tNs, hm, l_funs, h9']
            exact ⟨K, _, _, _, hK, hne, hl, rfl⟩
      · intro t ⟨K, s3, s5, s6, hK, hne, hl, ht⟩
        subst ht
        exact ⟨K, _, _, _, _, hK, hne, hl, rfl⟩
    · intro t ⟨K, s3, s4, s5, s6, hK, hne, hl, ht⟩
      subst ht
      exact ⟨K, _, _, _, _, hK, hne, hl, rfl⟩
  clear hF hne hl F
  intro t ⟨F, s3, s4, s5, s6, hF, hne, hl, ht⟩
  subst ht
  dsimp! []
  refine wp_for0 tNs (fun done t => ∃ (s2 s3 s4 s5 s6 : Sl), (s2 = .own (.lst (F.map tNs)) ∨ s2 = .val (.lst (F.map tNs))) ∧ (∀ a ∈ done, ∀ b ∈ F, comp p a b ∈ F) ∧ t = ⟨[.val (.ref 0), .val (.int (p : Int)), s2, s3, s4, s5, s6, .non], st3 :: rest⟩) ?_ ?_ ?_
  · exact ⟨_, _, _, _, _, .inr rfl, fun _ z => (by cases z), rfl⟩
  · intro done a rst t hd ⟨s2, s3, s4, s5, s6, h2, hcl, ht⟩
    subst ht
    have ha : a ∈ F := by rw [hd]; simp
    have key : ∀ (s3 s5 s6 : Sl) {Q : Fl → S → Prop}, (∀ s5, (∀ b ∈ F, comp p a b ∈ F) → Q .nx ⟨[.val (.ref 0), .val (.int (p : Int)), .val (.lst (F.map tNs)), s3, .val (tNs a), s5, s6, .non], st3 :: rest⟩) → (∀ env, Q (.rt (.lst ([[0, 1], [0, 0], [1, 1]].map tNs))) ⟨env, st3 :: rest⟩) →
        (forL (turnF cf (.name 5) (.seq (.iff (.cmp .notin (.blt .tuple (.cons (.lc [7] (.name 7) (.rng1 (.var 1)) .nil (.idx (.var 5) (.idx (.var 4) (.var 7)))) .nil)) (.var 2))
    (.seq (.ret (.lst (.cons (.tup (.cons (.int 0) (.cons (.int 1) .nil))) (.cons (.tup (.cons (.int 0) (.cons (.int 0) .nil))) (.cons (.tup (.cons (.int 1) (.cons (.int 1) .nil))) .nil)))))
    .skip)
    .skip)
   .skip)) (F.map tNs) ⟨[.val (.ref 0), .val (.int (p : Int)), .val (.lst (F.map tNs)), s3, .val (tNs a), s5, s6, .non], st3 :: rest⟩).Wp Q := by
      intro s3 s5 s6 Q hq1 hq2
      refine wp_for0 tNs (fun dn t => ∃ (s5 : Sl), (∀ b ∈ dn, comp p a b ∈ F) ∧ t = ⟨[.val (.ref 0), .val (.int (p : Int)), .val (.lst (F.map tNs)), s3, .val (tNs a), s5, s6, .non], st3 :: rest⟩) ⟨_, fun _ z => (by cases z), rfl⟩ ?_ ?_
      · intro dn b rb t hb ⟨s5, hcb, ht⟩
        subst ht
        have hbF : b ∈ F := by rw [hb]; simp
        have hm := in_funs (comp p a b) F
        by_cases hin : comp p a b ∈ F
        · rw [any_t hin] at hm
          dsimp! [comp_run cf p a b (hF a ha) (hF b hbF) hp3, tN, r_tNs, hm]
          exact ⟨_, fun x hx => (by
            rcases List.mem_append.mp hx with z | z
            · exact hcb x z
            · rw [List.mem_singleton.mp z]; exact hin), rfl⟩
        · rw [any_f hin] at hm
          dsimp! [comp_run cf p a b (hF a ha) (hF b hbF) hp3, tN, r_tNs, hm]
          exact hq2 _
      · intro t ⟨s5, hcb, ht⟩
        subst ht
        exact hq1 s5 hcb
    have fin : ∀ (b : List Nat), b ∈ done ++ [a] → (∀ b ∈ F, comp p a b ∈ F) → ∀ c ∈ F, comp p b c ∈ F := fun b hb h c hc => by
      rcases List.mem_append.mp hb with z | z
      · exact hcl b z c hc
      · rw [List.mem_singleton.mp z]; exact h c hc
    have cst : ∃ (p : Nat) (F : List (List Nat)) (st' : MO), (.lst ([[0, 1], [0, 0], [1, 1]].map tNs) : D) = .lst (F.map tNs) ∧ st3 :: rest = st' :: rest ∧ IsS st' ∧ FunOk p F := by
      refine ⟨2, [[0, 1], [0, 0], [1, 1]], st3, rfl, rfl, hst3, ⟨?_, ?_, fun z => (by cases z), by decide, by decide⟩⟩
      · simp only [List.forall_mem_cons, gd]
        exact ⟨by decide, by decide, by decide, fun _ z => (by cases z)⟩
      · simp only [List.forall_mem_cons]
        refine ⟨⟨by decide, by decide, by decide, fun _ z => (by cases z)⟩, ⟨by decide, by decide, by decide, fun _ z => (by cases z)⟩, ⟨by decide, by decide, by decide, fun _ z => (by cases z)⟩, fun _ z => (by cases z)⟩
    rcases h2 with h2 | h2
    · subst h2
      dsimp! []
      refine key _ _ _ (fun s5 hcb => ?_) fun env => ?_
      · dsimp! []
        exact ⟨_, _, _, _, _, .inr rfl, fun b hb => fin b hb hcb, rfl⟩
      · dsimp! []
        exact cst
    · subst h2
      dsimp! []
      refine key _ _ _ (fun s5 hcb => ?_) fun env => ?_
      · dsimp! []
        exact ⟨_, _, _, _, _, .inr rfl, fun b hb => fin b hb hcb, rfl⟩
      · dsimp! []
        exact cst
  intro t ⟨s2, s3, s4, s5, s6, h2, hcl, ht⟩
  subst ht
  rcases h2 with h2 | h2
  · subst h2
    dsimp! []
    exact ⟨p, F, st3, rfl, rfl, hst3, ⟨hF, hcl, hne, hl, hp3⟩⟩
  · subst h2
    dsimp! []
    exact ⟨p, F, st3, rfl, rfl, hst3, ⟨hF, hcl, hne, hl, hp3⟩⟩
end DL
end

section
set_option maxRecDepth 100000
set_option maxHeartbeats 16000000
namespace DL
open PySem
local macro_rules | `(tactic| dsimp! [$ls,*]) => `(tactic| simp (disch := (first | assumption | omega | (simp only [List.length_cons, List.length_nil, List.length_map, List.length_range, List.length_append]; omega))) only [f_bool, f_int, f_bl, f_non, f_str, f_glob, f_bin, f_cmp, f_idx, f_neg, f_chain, f_not, f_ite, f_slc, f_tup, f_lst, f_call, f_blt, f_lrg1, f_lrg2, f_lc, f_gx, f_Anil, f_A, f_B1, f_B, f_C0, f_C1, f_seq, f_rng1, f_rng2, f_enum, f_zip, f_rev, b_ok, b_exc, b_of, b_O, b_map, b_2, b_ob, a_2, a_Bin, a_Cmp, a_Idx, a_fC, a_fI, a_wB, a_wD, a_asB, a_asI, a_Neg, a_Neg2, a_Ch, a_Ch2, a_Ch3t, a_Ch3f, a_Not, a_Not2, a_Ite, a_Ite2t, a_Ite2f, a_Tup, a_Tup2, a_Lst, a_Lst2, a_Cl, a_Cl2, a_Cl3, a_inM, a_inX, a_Blt, a_Lr1, a_Lr2, a_Lr3, a_Sm, a_Bd, a_evBh, a_slcV, a_Sl2, a_Sl, a_turnC, a_C0, a_C1t, a_C1f, a_C2, a_C3, a_turnG, a_G0, a_G1t, a_G1f, a_G2, a_G3, a_Lc, a_Lc2, a_Gx, a_Gx2, a_A2, a_A, a_B, a_B2tt, a_B2tf, a_B2ff, a_B2ft, a_C, a_Seq, a_Seq2, a_R1, a_R2, a_R2', a_R3, a_En, a_En2, a_Z, a_Z2, a_Z3, a_Z4, a_Rv, a_Rv2, v_d, v_s, v_val, v_own, r_non, r_bl, r_int, r_str, r_tup, r_lst, c_d, c_s, c_val, c_own, s_nil, s_cons, s_1, s_2, vs_nil, vs_cons, vs_c, f_var, w_val, w_own, p_pl, p_mo, t_lst, o_addI, o_addS, o_addL, o_addT, o_sub, o_mulN, o_fdiv, o_mod, q_lt, q_le, q_gt, q_ge, q_eq, q_ne, q_is, q_isN, q_isNb, q_isNi, q_isNt, q_not, q_notN, q_notNb, q_notNi, q_notNt, q_in, q_nin, u_bl, u_int, u_lst, u_tup, i_lst, i_tup, i_0, i_1, i_2, i_3, i_4, l_lst, l_tup, z_lst, z_tup, a_wI, t_len, t_max, t_min, t_int, t_intb, t_all, t_any, t_listL, t_listT, t_listS, t_tupL, t_tupT, g_lst, g_tup, n_name, n_tup, n_nil, n_cons, n_kas, y_skip, y_seq, y_asg, y_own, y_shr, y_par, y_aug, y_put, y_app, y_ext, y_iff, y_ret, y_retN, y_brk, y_cont, y_exp, y_whl, y_for, j_Sn, j_Sr, j_Sb, j_Sc, j_N, j_A2, j_A, j_O, j_H, j_P4, j_P3, j_P2, j_P, j_G0, j_G, j_G2, j_U5, j_U4, j_U3, j_U2, j_U, j_L3, j_L2, j_L1, j_L0, j_L, j_X2, j_X, j_X0, j_It, j_If, j_I, j_R2, j_R, j_E, j_W, j_whlC, j_T, j_turnF, j_F, m_rt, m_nx, m_exc, ap_s, ap_r, ap_o, ap_v, ex_s, ex_o, pu_s, pu_o, pu_v, au_add, au_sub, au_mul, au_fdiv, au_mod, fq_rt, fq_nx, gq_nx, gq_ct, gq_rt, gq_bk, isB_eq, isI_eq, isT_eq, rg1_n, lst1_n, a_evBd, isHole, eqO_int, wp_ok, wp_bind, wp_fin, List.length_cons, List.length_nil, List.getElem?_cons_zero, List.getElem?_cons_succ, List.getElem?_nil, List.set_cons_zero, List.set_cons_succ, if_true, if_false, Bool.false_eq_true, wipeE, back, Nat.reduceAdd, decide_true, decide_false, Bool.not_true, Bool.not_false, List.map_cons, List.map_nil, List.replicate, List.cons_append, List.nil_append, Nat.add_one_sub_one, Nat.reduceSub, Nat.sub_self, List.isEmpty_nil, List.isEmpty_cons, k_tk, eq_self, and_true, true_and, and_self, Option.some.injEq, f_kin, f_kix, f_pop, f_popAt, f_isi, f_index, f_rng3, isS_eq, a_asS, a_Ki, a_Ki2f, a_Ki2t, a_Kx, a_Kx2, a_Pop, a_Pop1, a_Pop2, a_Pa, a_Pa0, a_Pa1, a_Pa2, a_Isi, a_fIsi, a_Ix, a_Ix0, a_Ix1, a_R36, a_R35, a_R34, a_R33, a_R32, po_s, po_v, r_scr, Option.isSome_some, Option.isSome_none, f_fresh, a_Fr, r_ref, r_refL, ap_mW, ap_mL, po_mW, f_dnew, f_trg1, a_Tr1, trR_n, pu_od, r_dct, l_dct, t_dct, f_dc, a_turnU, a_U0, a_U1t, a_U1f, a_U2, a_U3, a_U4, a_U5, a_Dc, a_Dc2, f_kget, a_Kg, a_Kg2, f_gmax, a_turnM, a_M0, a_M1t, a_M1f, a_M2, a_M3, a_Gm, a_Gm2, f_fld, a_Fld, a_Fld2, in_r, in_s, in_v, in_m, fl_w, fl_1, fl_2, ct_1, tl_1, f_meth, a_Me, a_Me2, a_Me3, a_Me4, mt_w, mt_1, mt_2, mt_3, f_new, a_Nw, a_Nw2, a_Nw3, x_fst, j_Fs, j_Fs2, j_Fs3, fs_w, fs_1, r_refI, a_En2t, f_lc2, a_L2, a_turn2C, a_2C0, a_2Ct, a_2Cf, a_D1, x_tryN, $ls,*])
theorem max_cast (a b : Nat) : (if (b : Int) > (a : Int) then (b : Int) else (a : Int)) = ((max a b : Nat) : Int) := by
  split <;> omega
def tabD (S : Sg) : D := .lst ((List.range S.n).map fun x => .lst ((List.range S.n).map fun y => dN (S.f x y)))
def prodF (k c x y : Nat) : Nat := if k = 0 then (x + y) % c else if k = 1 then max x y else if k = 2 then (if y = 0 then x else y) else (if x = 0 then y else x)
theorem prod_ok (k c : Nat) (hc : 0 < c) (hc2 : c ≤ 400) : (⟨c, prodF k c⟩ : Sg).Ok := by
  refine ⟨hc, hc2, fun x y hx hy => ?_, fun x y z hx hy hz => ?_⟩
  · show prodF k c x y < c
    have hx : x < c := hx
    have hy : y < c := hy
    unfold prodF
    split
    · exact Nat.mod_lt _ hc
    · split
      · omega
      · split <;> split <;> assumption
  · show prodF k c (prodF k c x y) z = prodF k c x (prodF k c y z)
    unfold prodF
    by_cases h0 : k = 0
    · simp only [h0, if_true]
      rw [Nat.mod_add_mod, Nat.add_mod_mod, Nat.add_assoc]
    · by_cases h1 : k = 1
      · simp only [h0, h1, if_true, if_false]
        first | omega | exact Nat.max_assoc x y z
      · by_cases h2 : k = 2
        · simp only [h0, h1, h2, if_true, if_false]
          by_cases a : x = 0 <;> by_cases b : y = 0 <;> by_cases d : z = 0 <;> simp [a, b, d]
        · simp only [h0, h1, h2, if_false]
          by_cases a : x = 0 <;> by_cases b : y = 0 <;> by_cases d : z = 0 <;> simp [a, b, d]
def funS (p : Nat) (F : List (List Nat)) : Sg := ⟨F.length, fun x y => (ixOf F (comp p (F.getD x []) (F.getD y []))).getD 0⟩
theorem F_at (F : List (List Nat)) (x : Nat) (h : x < F.length) : F.getD x [] ∈ F := by
  rw [List.getD_eq_getElem?_getD, List.getElem?_eq_getElem h]
  exact List.getElem_mem _
theorem ix_at {p : Nat} {F : List (List Nat)} (h : FunOk p F) {a b : List Nat} (ha : a ∈ F) (hb : b ∈ F) : ∃ j, ixOf F (comp p a b) = some j ∧ j < F.length ∧ F.getD j [] = comp p a b := by
  obtain ⟨j, h1, h2⟩ := ixOf_mem (h.cl a ha b hb)
  exact ⟨j, h1, (List.getElem?_eq_some_iff.mp h2).1, by rw [List.getD_eq_getElem?_getD, h2]; rfl⟩
theorem funS_ok {p : Nat} {F : List (List Nat)} (h : FunOk p F) : (funS p F).Ok := by
  have hl : 0 < F.length := List.length_pos_iff.mpr h.ne
  have key : ∀ x y, x < F.length → y < F.length → (funS p F).f x y < F.length ∧ F.getD ((funS p F).f x y) [] = comp p (F.getD x []) (F.getD y []) := fun x y hx hy => by
    obtain ⟨j, h1, h2, h3⟩ := ix_at h (F_at F x hx) (F_at F y hy)
    have e : (funS p F).f x y = j := by show (ixOf F _).getD 0 = j; rw [h1]; rfl
    rw [e]; exact ⟨h2, h3⟩
  refine ⟨hl, by have := h.le; show F.length ≤ 400; omega, fun x y hx hy => (key x y hx hy).1, fun x y z hx hy hz => ?_⟩
  have k1 := key x y hx hy
  have k2 := key y z hy hz
  show (ixOf F (comp p (F.getD ((funS p F).f x y) []) (F.getD z []))).getD 0 = (ixOf F (comp p (F.getD x []) (F.getD ((funS p F).f y z) []))).getD 0
  rw [k1.2, k2.2, comp_as _ _ _ (h.gd _ (F_at F x hx))]
theorem map_range {α β : Type} (l : List α) (d : α) (g : α → β) : l.map g = (List.range l.length).map fun i => g (l.getD i d) := by
  apply List.ext_getElem
  · simp
  · intro i h1 h2
    simp at h1
    simp [List.getElem?_eq_getElem h1]
theorem funS_tab (p : Nat) (F : List (List Nat)) : D.lst (F.map fun a => .lst (F.map fun b => dN ((ixOf F (comp p a b)).getD 0))) = tabD (funS p F) := by
  unfold tabD
  rw [map_range F []]
  congr 1
  refine List.map_congr_left fun x hx => ?_
  rw [map_range F []]
  rfl
theorem product_ok (n0 : Nat) (k c x y : Nat) (hc : 0 < c) (mem : List MO) : run (TL L) (n0 + 1) "_law_product" [.int (k : Int), .int (c : Int), .int (x : Int), .int (y : Int)] mem = .ok (.int ((prodF k c x y : Nat) : Int)) mem := by
  rw [run_def T_prod rfl]
  generalize run (TL L) n0 = cf
  apply wp_eq
  simp only [d__law_product]
  unfold prodF
  by_cases h0 : k = 0
  · have e0 : decide ((k : Int) = 0) = true := decide_eq_true (by omega)
    rw [if_pos h0]
    dsimp! [e0, ci_add, ci_mod]
  · have e0 : decide ((k : Int) = 0) = false := decide_eq_false (by omega)
    rw [if_neg h0]
    by_cases h1 : k = 1
    · have e1 : decide ((k : Int) = 1) = true := decide_eq_true (by omega)
      rw [if_pos h1]
      dsimp! [e0, e1, max_cast]
    · have e1 : decide ((k : Int) = 1) = false := decide_eq_false (by omega)
      rw [if_neg h1]
      by_cases h2 : k = 2
      · have e2 : decide ((k : Int) = 2) = true := decide_eq_true (by omega)
        rw [if_pos h2]
        by_cases hy : y = 0
        · have ey : decide ((y : Int) = 0) = true := decide_eq_true (by omega)
          rw [if_pos hy]
          dsimp! [e0, e1, e2, ey]
        · have ey : decide ((y : Int) = 0) = false := decide_eq_false (by omega)
          rw [if_neg hy]
          dsimp! [e0, e1, e2, ey]
      · have e2 : decide ((k : Int) = 2) = false := decide_eq_false (by omega)
        rw [if_neg h2]
        by_cases hx : x = 0
        · have ex : decide ((x : Int) = 0) = true := decide_eq_true (by omega)
          rw [if_pos hx]
          dsimp! [e0, e1, e2, ex]
        · have ex : decide ((x : Int) = 0) = false := decide_eq_false (by omega)
          rw [if_neg hx]
          dsimp! [e0, e1, e2, ex]
theorem table_ok (n0 : Nat) (st : MO) (hst : IsS st) (rest : List MO) :
    (run (TL L) (n0 + 3) "_law_table" [.ref 0] (st :: rest)).Wp fun d m => ∃ (S : Sg) (st' : MO), d = tabD S ∧ m = st' :: rest ∧ IsS st' ∧ S.Ok ∧ S.n ≤ 9 := by
  have hdr := hdraw (n0 + 1)
  have hfu := fun st hst => funs_ok n0 st hst rest
  have hpr := fun k c x y hc mem => product_ok (n0 + 1) k c x y hc mem
  rw [run_def T_table rfl]
  generalize run (TL L) (n0 + 2) = cf at hdr hfu hpr ⊢
  simp only [d__law_table]
  obtain ⟨k, st1, hk, hst1, hk6⟩ := hdr st hst rest 6 6 rfl (by decide) (by decide)
  by_cases hk3 : 3 < k
  · have e3 : decide ((3 : Int) < (k : Int)) = true := decide_eq_true (by omega)
    obtain ⟨d, m, e, p, F, st2, rfl, rfl, hst2, hF⟩ := wp_get (hfu st1 hst1)
    have hp3 := hF.p3
    have hl := hF.le
    dsimp! [hk, e3, e]
    rw [lc_w tNs (fun a => .lst (F.map fun b => dN ((ixOf F (comp p a b)).getD 0)))]
    · dsimp! []
      exact ⟨funS p F, _, funS_tab p F, rfl, hst2, funS_ok hF, hF.le⟩
    · intro a ha
      dsimp! []
      rw [lc_w tNs (fun b => dN ((ixOf F (comp p a b)).getD 0))]
      · dsimp! []
      · intro b hb
        obtain ⟨j, h1, h2, h3⟩ := ix_at hF ha hb
        have ga := hF.gd a ha
        have gb := hF.gd b hb
        have la : lenO (tNs a) = some ((p : Nat) : Int) := by show some _ = _; rw [List.length_map, ga.1]
        have ix := index_lst (encTl encN) (by decide) (comp p a b) F j h1
        have ix : indexO (.lst (F.map tNs)) (tNs (comp p a b)) = some (.pl (.d (.int (j : Int)))) := ix
        dsimp! [r_tNs, la]
        rw [lc_w dN (fun j => .int ((b.getD (a.getD j 0) 0 : Nat) : Int))]
        · have cm : ((List.range p).map fun j => D.int ((b.getD (a.getD j 0) 0 : Nat) : Int)) = (comp p a b).map dN := by unfold comp; rw [List.map_map]; rfl
          dsimp! [cm, tN, r_tNs, ix, h1, Option.getD_some]
        · intro j hj
          have hj := List.mem_range.mp hj
          have h1 : j < a.length := by rw [ga.1]; exact hj
          have h2 : a.getD j 0 < b.length := by rw [gb.1]; exact gd_at ga j hj
          dsimp! [r_tNs, i_tNs _ _ h1, i_tNs _ _ h2]
  · have e3 : decide ((3 : Int) < (k : Int)) = false := decide_eq_false (by omega)
    obtain ⟨c, st2, hc, hst2, hc5⟩ := hdr st1 hst1 rest 5 5 rfl (by decide) (by decide)
    dsimp! [hk, e3, hc, ci_1add]
    rw [lc_w dN (fun x => .lst ((List.range (1 + c)).map fun y => dN (prodF k (1 + c) x y)))]
    · dsimp! []
      exact ⟨⟨1 + c, prodF k (1 + c)⟩, _, rfl, rfl, hst2, prod_ok k (1 + c) (by omega) (by omega), by show 1 + c ≤ 9; omega⟩
    · intro x hx
      dsimp! []
      rw [lc_w dN (fun y => dN (prodF k (1 + c) x y))]
      · dsimp! []
      · intro y hy
        dsimp! [hpr _ _ _ _ (show 0 < 1 + c by omega)]
end DL
end

section
set_option maxRecDepth 100000
set_option maxHeartbeats 16000000
namespace DL
open PySem
local macro_rules | `(tactic| dsimp! [$ls,*]) => `(tactic| simp (disch := (first | assumption | omega | (simp only [List.length_cons, List.length_nil, List.length_map, List.length_range, List.length_append]; omega))) only [f_bool, f_int, f_bl, f_non, f_str, f_glob, f_bin, f_cmp, f_idx, f_neg, f_chain, f_not, f_ite, f_slc, f_tup, f_lst, f_call, f_blt, f_lrg1, f_lrg2, f_lc, f_gx, f_Anil, f_A, f_B1, f_B, f_C0, f_C1, f_seq, f_rng1, f_rng2, f_enum, f_zip, f_rev, b_ok, b_exc, b_of, b_O, b_map, b_2, b_ob, a_2, a_Bin, a_Cmp, a_Idx, a_fC, a_fI, a_wB, a_wD, a_asB, a_asI, a_Neg, a_Neg2, a_Ch, a_Ch2, a_Ch3t, a_Ch3f, a_Not, a_Not2, a_Ite, a_Ite2t, a_Ite2f, a_Tup, a_Tup2, a_Lst, a_Lst2, a_Cl, a_Cl2, a_Cl3, a_inM, a_inX, a_Blt, a_Lr1, a_Lr2, a_Lr3, a_Sm, a_Bd, a_evBh, a_slcV, a_Sl2, a_Sl, a_turnC, a_C0, a_C1t, a_C1f, a_C2, a_C3, a_turnG, a_G0, a_G1t, a_G1f, a_G2, a_G3, a_Lc, a_Lc2, a_Gx, a_Gx2, a_A2, a_A, a_B, a_B2tt, a_B2tf, a_B2ff, a_B2ft, a_C, a_Seq, a_Seq2, a_R1, a_R2, a_R2', a_R3, a_En, a_En2, a_Z, a_Z2, a_Z3, a_Z4, a_Rv, a_Rv2, v_d, v_s, v_val, v_own, r_non, r_bl, r_int, r_str, r_tup, r_lst, c_d, c_s, c_val, c_own, s_nil, s_cons, s_1, s_2, vs_nil, vs_cons, vs_c, f_var, w_val, w_own, p_pl, p_mo, t_lst, o_addI, o_addS, o_addL, o_addT, o_sub, o_mulN, o_fdiv, o_mod, q_lt, q_le, q_gt, q_ge, q_eq, q_ne, q_is, q_isN, q_isNb, q_isNi, q_isNt, q_not, q_notN, q_notNb, q_notNi, q_notNt, q_in, q_nin, u_bl, u_int, u_lst, u_tup, i_lst, i_tup, i_0, i_1, i_2, i_3, i_4, l_lst, l_tup, z_lst, z_tup, a_wI, t_len, t_max, t_min, t_int, t_intb, t_all, t_any, t_listL, t_listT, t_listS, t_tupL, t_tupT, g_lst, g_tup, n_name, n_tup, n_nil, n_cons, n_kas, y_skip, y_seq, y_asg, y_own, y_shr, y_par, y_aug, y_put, y_app, y_ext, y_iff, y_ret, y_retN, y_brk, y_cont, y_exp, y_whl, y_for, j_Sn, j_Sr, j_Sb, j_Sc, j_N, j_A2, j_A, j_O, j_H, j_P4, j_P3, j_P2, j_P, j_G0, j_G, j_G2, j_U5, j_U4, j_U3, j_U2, j_U, j_L3, j_L2, j_L1, j_L0, j_L, j_X2, j_X, j_X0, j_It, j_If, j_I, j_R2, j_R, j_E, j_W, j_whlC, j_T, j_turnF, j_F, m_rt, m_nx, m_exc, ap_s, ap_r, ap_o, ap_v, ex_s, ex_o, pu_s, pu_o, pu_v, au_add, au_sub, au_mul, au_fdiv, au_mod, fq_rt, fq_nx, gq_nx, gq_ct, gq_rt, gq_bk, isB_eq, isI_eq, isT_eq, rg1_n, lst1_n, a_evBd, isHole, eqO_int, wp_ok, wp_bind, wp_fin, List.length_cons, List.length_nil, List.getElem?_cons_zero, List.getElem?_cons_succ, List.getElem?_nil, List.set_cons_zero, List.set_cons_succ, if_true, if_false, Bool.false_eq_true, wipeE, back, Nat.reduceAdd, decide_true, decide_false, Bool.not_true, Bool.not_false, List.map_cons, List.map_nil, List.replicate, List.cons_append, List.nil_append, Nat.add_one_sub_one, Nat.reduceSub, Nat.sub_self, List.isEmpty_nil, List.isEmpty_cons, k_tk, eq_self, and_true, true_and, and_self, Option.some.injEq, f_kin, f_kix, f_pop, f_popAt, f_isi, f_index, f_rng3, isS_eq, a_asS, a_Ki, a_Ki2f, a_Ki2t, a_Kx, a_Kx2, a_Pop, a_Pop1, a_Pop2, a_Pa, a_Pa0, a_Pa1, a_Pa2, a_Isi, a_fIsi, a_Ix, a_Ix0, a_Ix1, a_R36, a_R35, a_R34, a_R33, a_R32, po_s, po_v, r_scr, Option.isSome_some, Option.isSome_none, f_fresh, a_Fr, r_ref, r_refL, ap_mW, ap_mL, po_mW, f_dnew, f_trg1, a_Tr1, trR_n, pu_od, r_dct, l_dct, t_dct, f_dc, a_turnU, a_U0, a_U1t, a_U1f, a_U2, a_U3, a_U4, a_U5, a_Dc, a_Dc2, f_kget, a_Kg, a_Kg2, f_gmax, a_turnM, a_M0, a_M1t, a_M1f, a_M2, a_M3, a_Gm, a_Gm2, f_fld, a_Fld, a_Fld2, in_r, in_s, in_v, in_m, fl_w, fl_1, fl_2, ct_1, tl_1, f_meth, a_Me, a_Me2, a_Me3, a_Me4, mt_w, mt_1, mt_2, mt_3, f_new, a_Nw, a_Nw2, a_Nw3, x_fst, j_Fs, j_Fs2, j_Fs3, fs_w, fs_1, r_refI, a_En2t, f_lc2, a_L2, a_turn2C, a_2C0, a_2Ct, a_2Cf, a_D1, x_tryN, $ls,*])
theorem er_map (l : List Nat) (j : Nat) : (l.map dN).eraseIdx j = (l.eraseIdx j).map dN := by
  induction l generalizing j with
  | nil => rfl
  | cons a l ih =>
    cases j with
    | zero => rfl
    | succ j => simp only [List.map_cons, List.eraseIdx_cons_succ, ih]
theorem er_perm : ∀ (l : List Nat) (j : Nat) (x : Nat), l[j]? = some x → (x :: l.eraseIdx j).Perm l
  | [], j, x, h => by simp at h
  | a :: l, 0, x, h => by
    have : a = x := by simpa using h
    subst this
    exact List.Perm.refl _
  | a :: l, j + 1, x, h => by
    have h : l[j]? = some x := by simpa using h
    simp only [List.eraseIdx_cons_succ]
    exact (List.Perm.swap a x _).trans ((er_perm l j x h).cons a)
theorem er_len (l : List Nat) (j : Nat) (h : j < l.length) : (l.eraseIdx j).length = l.length - 1 := List.length_eraseIdx_of_lt h
theorem lrg_n (k : Nat) (s : S) (h : k ≤ 1000000) : lst1 (k : Int) s = .ok (.mo (.lst ((List.range k).map dN))) s := by
  first | exact lst1_n k s (by omega) | exact lst1_n k s h
theorem mixed_ok (n0 : Nat) (st : MO) (hst : IsS st) (rest : List MO) (n : Nat) (hn : n ≤ 400) :
    (run (TL L) (n0 + 2) "_law_mixed" [.ref 0, .int (n : Int)] (st :: rest)).Wp fun d m => ∃ (P : List Nat) (st' : MO), d = dNs P ∧ m = st' :: rest ∧ IsS st' ∧ P.Perm (List.range n) := by
  have hdr := hdraw n0
  rw [run_def T_mixed rfl]
  generalize run (TL L) (n0 + 1) = cf at hdr ⊢
  simp only [d__law_mixed]
  dsimp! []
  refine wp_for0 dN (fun done t => ∃ (l m : List Nat) (st : MO) (s4 : Sl), IsS st ∧ (m ++ l).Perm (List.range n) ∧ m.length = done.length ∧ t = ⟨[.val (.ref 0), .val (.int (n : Int)), .own (.lst (l.map dN)), .own (.lst (m.map dN)), s4], st :: rest⟩) ?_ ?_ ?_
  · exact ⟨List.range n, [], st, _, hst, List.Perm.refl _, rfl, rfl⟩
  · intro done k rst t hd ⟨l, m, st, s4, hst, hp, hm, ht⟩
    subst ht
    have hdl : done.length < n := by
      have := congrArg List.length hd
      simp at this
      omega
    have hlen := hp.length_eq
    rw [List.length_append, List.length_range] at hlen
    have hl0 : 0 < l.length := by omega
    obtain ⟨j, st1, hj, hst1, hjl⟩ := hdr st hst rest l.length l.length rfl hl0 (by omega)
    obtain ⟨x, hx⟩ : ∃ x, l[j]? = some x := ⟨_, List.getElem?_eq_getElem hjl⟩
    have hc : cutL (l.map dN) (some (j : Int)) = some (dN x, (l.eraseIdx j).map dN) := by
      rw [cut_at (l.map dN) j (dN x) (by rw [List.getElem?_map, hx]; rfl) (by rw [List.length_map]; omega), er_map]
    have hpo : ∀ s : S, poW s 2 (some (j : Int)) (some (.own (.lst (l.map dN)))) = some (dN x, ⟨s.env.set 2 (.own (.lst ((l.eraseIdx j).map dN))), s.mem⟩) := fun s => po_o s 2 _ _ _ _ hc
    have ll : (l.map dN).length = l.length := List.length_map ..
    have hml : (m.map dN).length < 16777216 := by rw [List.length_map]; omega
    dsimp! [ll, hj, hpo, hml, m_snoc]
    refine ⟨l.eraseIdx j, m ++ [x], _, _, hst1, ?_, by rw [List.length_append, List.length_append, hm]; rfl, rfl⟩
    rw [List.append_assoc]
    exact ((er_perm l j x hx).append_left m).trans hp
  · intro t ⟨l, m, st, s4, hst, hp, hm, ht⟩
    subst ht
    rw [List.length_range] at hm
    have hlen := hp.length_eq
    rw [List.length_append, List.length_range] at hlen
    have hl : l = [] := List.length_eq_zero_iff.mp (by omega)
    subst hl
    rw [List.append_nil] at hp
    dsimp! []
    exact ⟨m, _, rfl, rfl, hst, hp⟩
/-! ### renamed tables -/
def bk (P : List Nat) (k : Nat) : Nat := (ixOf P k).getD 0
def conjS (P : List Nat) (S : Sg) : Sg := ⟨S.n, fun x y => P.getD (S.f (bk P x) (bk P y)) 0⟩
section
variable {P : List Nat} {n : Nat} (h : P.Perm (List.range n))
include h
theorem P_len : P.length = n := by rw [h.length_eq, List.length_range]
theorem P_lt (i : Nat) (hi : i < n) : P.getD i 0 < n := by
  have hl := P_len h
  rw [List.getD_eq_getElem?_getD, List.getElem?_eq_getElem (by omega)]
  exact List.mem_range.mp (h.mem_iff.mp (List.getElem_mem _))
theorem bk_at (k : Nat) (hk : k < n) : ixOf P k = some (bk P k) ∧ bk P k < n ∧ P.getD (bk P k) 0 = k := by
  obtain ⟨j, h1, h2⟩ := ixOf_mem (h.mem_iff.mpr (List.mem_range.mpr hk))
  have e : bk P k = j := by unfold bk; rw [h1]; rfl
  refine ⟨by rw [h1, e], ?_, ?_⟩
  · rw [e, ← P_len h]; exact (List.getElem?_eq_some_iff.mp h2).1
  · rw [e, List.getD_eq_getElem?_getD, h2]; rfl
theorem bk_P (i : Nat) (hi : i < n) : bk P (P.getD i 0) = i := by
  have hl := P_len h
  have hn : P.Nodup := h.nodup_iff.mpr List.nodup_range
  obtain ⟨_, h2, h3⟩ := bk_at h _ (P_lt h i hi)
  generalize bk P (P.getD i 0) = j at h2 h3
  have e1 : P.getD j 0 = P[j]'(by omega) := by rw [List.getD_eq_getElem?_getD, List.getElem?_eq_getElem (by omega)]; rfl
  have e2 : P.getD i 0 = P[i]'(by omega) := by rw [List.getD_eq_getElem?_getD, List.getElem?_eq_getElem (by omega)]; rfl
  rw [e1, e2] at h3
  exact (List.getElem_inj hn).mp h3
theorem conj_ok {S : Sg} (hS : S.Ok) (hn : S.n = n) : (conjS P S).Ok := by
  subst hn
  refine ⟨hS.pos, hS.le, fun x y hx hy => P_lt h _ (hS.lt _ _ (bk_at h x hx).2.1 (bk_at h y hy).2.1), fun x y z hx hy hz => ?_⟩
  have bx := (bk_at h x hx).2.1
  have b_y := (bk_at h y hy).2.1
  have bz := (bk_at h z hz).2.1
  show P.getD (S.f (bk P (P.getD (S.f (bk P x) (bk P y)) 0)) (bk P z)) 0 = P.getD (S.f (bk P x) (bk P (P.getD (S.f (bk P y) (bk P z)) 0))) 0
  rw [bk_P h _ (hS.lt _ _ bx b_y), bk_P h _ (hS.lt _ _ b_y bz), hS.as _ _ _ bx b_y bz]
end
/-! ### linked pairs -/
def lkF (S : Sg) (s f : Nat) : Bool := decide (S.f s f = s) && decide (S.f f f = f)
def lkRow (S : Sg) (s : Nat) : List (Nat × Nat) := ((List.range S.n).filter (lkF S s)).map fun f => (s, f)
def linked (S : Sg) : List (Nat × Nat) := (List.range S.n).flatMap (lkRow S)
theorem mem_linked {S : Sg} {p : Nat × Nat} : p ∈ linked S ↔ p.1 < S.n ∧ p.2 < S.n ∧ S.f p.1 p.2 = p.1 ∧ S.f p.2 p.2 = p.2 := by
  unfold linked lkRow lkF
  simp only [List.mem_flatMap, List.mem_range, List.mem_map, List.mem_filter, Bool.and_eq_true, decide_eq_true_eq]
  constructor
  · rintro ⟨s, hs, f, ⟨hf, h1, h2⟩, rfl⟩
    exact ⟨hs, hf, h1, h2⟩
  · rintro ⟨h1, h2, h3, h4⟩
    exact ⟨p.1, h1, p.2, ⟨h2, h3, h4⟩, rfl⟩
theorem linked_le {S : Sg} (h : S.n ≤ 9) : ∀ l : List Nat, l.length ≤ 9 → (l.flatMap (lkRow S)).length ≤ 9 * l.length
  | [], _ => by simp
  | s :: l, hl => by
    have ih := linked_le h l (by simp at hl; omega)
    have h1 : (lkRow S s).length ≤ 9 := by
      unfold lkRow
      rw [List.length_map]
      have := List.length_filter_le (lkF S s) (List.range S.n)
      rw [List.length_range] at this
      omega
    rw [List.flatMap_cons, List.length_append, List.length_cons]
    omega
theorem linked_ok (n0 : Nat) (S : Sg) (hS : S.Ok) (h9 : S.n ≤ 9) (mem : List MO) : run (TL L) (n0 + 1) "_law_linked" [S.d] mem = .ok (.lst ((linked S).map d2)) mem := by
  rw [run_def T_linked rfl]
  generalize run (TL L) n0 = cf
  apply wp_eq
  simp only [d__law_linked]
  have r1 : ∀ (s : DL.S) (l : List (Nat × Nat)), drf s (.lst (l.map d2)) = .lst (l.map d2) := fun _ _ => rfl
  dsimp! [l_S, r_S]
  refine wp_for0 dN (fun done t => ∃ s3, t = ⟨[.val S.d, .val (.lst ((List.range S.n).map dN)), .val (.lst ((done.flatMap (lkRow S)).map d2)), s3, .non], mem⟩) ⟨_, rfl⟩ ?_ ?_
  · intro done s rst t hd ⟨s3, ht⟩
    subst ht
    have hsn : s < S.n := List.mem_range.mp (by rw [hd]; simp)
    dsimp! []
    rw [lf_w dN (lkF S s) (fun f => d2 (s, f))]
    · have hlen : done.length ≤ 9 := by
        have := congrArg List.length hd
        simp at this
        omega
      have hl1 := linked_le h9 done hlen
      have hl2 : (lkRow S s).length ≤ 9 := by
        have := linked_le h9 [s] (by simp)
        simpa using this
      have e1 : (((List.range S.n).filter (lkF S s)).map fun f => d2 (s, f)) = (lkRow S s).map d2 := by
        unfold lkRow
        rw [List.map_map]
        rfl
      have ad : binO .add (.lst ((done.flatMap (lkRow S)).map d2)) (.lst ((lkRow S s).map d2)) = some (.mo (.lst (((done ++ [s]).flatMap (lkRow S)).map d2))) := by
        rw [o_addL _ _ (by rw [List.length_map, List.length_map]; omega), List.flatMap_append, List.map_append]
        simp
      rw [e1]
      dsimp! [ad]
      exact ⟨_, rfl⟩
    · intro f hf
      have hf := List.mem_range.mp hf
      have q1 : decide (((S.f s f : Nat) : Int) = (s : Int)) = decide (S.f s f = s) := decide_eq_decide.mpr (by omega)
      have q2 : decide (((S.f f f : Nat) : Int) = (f : Int)) = decide (S.f f f = f) := decide_eq_decide.mpr (by omega)
      unfold lkF
      cases c1 : decide (S.f s f = s) with
      | true =>
        rw [c1] at q1
        cases c2 : decide (S.f f f = f) with
        | true =>
          rw [c2] at q2
          dsimp! [r_S, r_Sr, i_S _ _ hsn, i_S _ _ hf, i_Sr _ _ _ hf, q1, q2]
          rfl
        | false =>
          rw [c2] at q2
          dsimp! [r_S, r_Sr, i_S _ _ hsn, i_S _ _ hf, i_Sr _ _ _ hf, q1, q2]
          rfl
      | false =>
        rw [c1] at q1
        dsimp! [r_S, r_Sr, i_S _ _ hsn, i_S _ _ hf, i_Sr _ _ _ hf, q1]
        rfl
  · intro t ⟨s3, ht⟩
    subst ht
    dsimp! []
    rfl
end DL
end

section
set_option maxRecDepth 100000
set_option maxHeartbeats 16000000
namespace DL
open PySem
local macro_rules | `(tactic| dsimp! [$ls,*]) => `(tactic| simp (disch := (first | assumption | omega | (simp only [List.length_cons, List.length_nil, List.length_map, List.length_range, List.length_append]; omega))) only [f_bool, f_int, f_bl, f_non, f_str, f_glob, f_bin, f_cmp, f_idx, f_neg, f_chain, f_not, f_ite, f_slc, f_tup, f_lst, f_call, f_blt, f_lrg1, f_lrg2, f_lc, f_gx, f_Anil, f_A, f_B1, f_B, f_C0, f_C1, f_seq, f_rng1, f_rng2, f_enum, f_zip, f_rev, b_ok, b_exc, b_of, b_O, b_map, b_2, b_ob, a_2, a_Bin, a_Cmp, a_Idx, a_fC, a_fI, a_wB, a_wD, a_asB, a_asI, a_Neg, a_Neg2, a_Ch, a_Ch2, a_Ch3t, a_Ch3f, a_Not, a_Not2, a_Ite, a_Ite2t, a_Ite2f, a_Tup, a_Tup2, a_Lst, a_Lst2, a_Cl, a_Cl2, a_Cl3, a_inM, a_inX, a_Blt, a_Lr1, a_Lr2, a_Lr3, a_Sm, a_Bd, a_evBh, a_slcV, a_Sl2, a_Sl, a_turnC, a_C0, a_C1t, a_C1f, a_C2, a_C3, a_turnG, a_G0, a_G1t, a_G1f, a_G2, a_G3, a_Lc, a_Lc2, a_Gx, a_Gx2, a_A2, a_A, a_B, a_B2tt, a_B2tf, a_B2ff, a_B2ft, a_C, a_Seq, a_Seq2, a_R1, a_R2, a_R2', a_R3, a_En, a_En2, a_Z, a_Z2, a_Z3, a_Z4, a_Rv, a_Rv2, v_d, v_s, v_val, v_own, r_non, r_bl, r_int, r_str, r_tup, r_lst, c_d, c_s, c_val, c_own, s_nil, s_cons, s_1, s_2, vs_nil, vs_cons, vs_c, f_var, w_val, w_own, p_pl, p_mo, t_lst, o_addI, o_addS, o_addL, o_addT, o_sub, o_mulN, o_fdiv, o_mod, q_lt, q_le, q_gt, q_ge, q_eq, q_ne, q_is, q_isN, q_isNb, q_isNi, q_isNt, q_not, q_notN, q_notNb, q_notNi, q_notNt, q_in, q_nin, u_bl, u_int, u_lst, u_tup, i_lst, i_tup, i_0, i_1, i_2, i_3, i_4, l_lst, l_tup, z_lst, z_tup, a_wI, t_len, t_max, t_min, t_int, t_intb, t_all, t_any, t_listL, t_listT, t_listS, t_tupL, t_tupT, g_lst, g_tup, n_name, n_tup, n_nil, n_cons, n_kas, y_skip, y_seq, y_asg, y_own, y_shr, y_par, y_aug, y_put, y_app, y_ext, y_iff, y_ret, y_retN, y_brk, y_cont, y_exp, y_whl, y_for, j_Sn, j_Sr, j_Sb, j_Sc, j_N, j_A2, j_A, j_O, j_H, j_P4, j_P3, j_P2, j_P, j_G0, j_G, j_G2, j_U5, j_U4, j_U3, j_U2, j_U, j_L3, j_L2, j_L1, j_L0, j_L, j_X2, j_X, j_X0, j_It, j_If, j_I, j_R2, j_R, j_E, j_W, j_whlC, j_T, j_turnF, j_F, m_rt, m_nx, m_exc, ap_s, ap_r, ap_o, ap_v, ex_s, ex_o, pu_s, pu_o, pu_v, au_add, au_sub, au_mul, au_fdiv, au_mod, fq_rt, fq_nx, gq_nx, gq_ct, gq_rt, gq_bk, isB_eq, isI_eq, isT_eq, rg1_n, lst1_n, a_evBd, isHole, eqO_int, wp_ok, wp_bind, wp_fin, List.length_cons, List.length_nil, List.getElem?_cons_zero, List.getElem?_cons_succ, List.getElem?_nil, List.set_cons_zero, List.set_cons_succ, if_true, if_false, Bool.false_eq_true, wipeE, back, Nat.reduceAdd, decide_true, decide_false, Bool.not_true, Bool.not_false, List.map_cons, List.map_nil, List.replicate, List.cons_append, List.nil_append, Nat.add_one_sub_one, Nat.reduceSub, Nat.sub_self, List.isEmpty_nil, List.isEmpty_cons, k_tk, eq_self, and_true, true_and, and_self, Option.some.injEq, f_kin, f_kix, f_pop, f_popAt, f_isi, f_index, f_rng3, isS_eq, a_asS, a_Ki, a_Ki2f, a_Ki2t, a_Kx, a_Kx2, a_Pop, a_Pop1, a_Pop2, a_Pa, a_Pa0, a_Pa1, a_Pa2, a_Isi, a_fIsi, a_Ix, a_Ix0, a_Ix1, a_R36, a_R35, a_R34, a_R33, a_R32, po_s, po_v, r_scr, Option.isSome_some, Option.isSome_none, f_fresh, a_Fr, r_ref, r_refL, ap_mW, ap_mL, po_mW, f_dnew, f_trg1, a_Tr1, trR_n, pu_od, r_dct, l_dct, t_dct, f_dc, a_turnU, a_U0, a_U1t, a_U1f, a_U2, a_U3, a_U4, a_U5, a_Dc, a_Dc2, f_kget, a_Kg, a_Kg2, f_gmax, a_turnM, a_M0, a_M1t, a_M1f, a_M2, a_M3, a_Gm, a_Gm2, f_fld, a_Fld, a_Fld2, in_r, in_s, in_v, in_m, fl_w, fl_1, fl_2, ct_1, tl_1, f_meth, a_Me, a_Me2, a_Me3, a_Me4, mt_w, mt_1, mt_2, mt_3, f_new, a_Nw, a_Nw2, a_Nw3, x_fst, j_Fs, j_Fs2, j_Fs3, fs_w, fs_1, r_refI, a_En2t, f_lc2, a_L2, a_turn2C, a_2C0, a_2Ct, a_2Cf, a_D1, x_tryN, $ls,*])
/-! ### names that are alike by turns -/
abbrev VV : Type := Nat × Nat
abbrev LL : Type := List (VV × Nat)
def lab (l : LL) (v : VV) : Nat := (lkA l v).getD 0
def dLL (l : LL) : List (D × D) := dctM keyNN dN l
def tq (S : Sg) (p : VV) (x y : Nat) : VV := (S.f p.1 x, S.f y x)
def stepT (S : Sg) (p : VV) (x : Nat) (st : LL × Nat) (y : Nat) : LL × Nat :=
  if S.f x y = p.2 ∧ (lkA st.1 (tq S p x y)).isSome = true ∧ lab st.1 (tq S p x y) ≠ lab st.1 p then
    (putA (putA st.1 (tq S p x y) (min (lab st.1 (tq S p x y)) (lab st.1 p))) p (min (lab st.1 (tq S p x y)) (lab st.1 p)), st.2 + 1) else st
def stX (S : Sg) (p : VV) (st : LL × Nat) (x : Nat) : LL × Nat := (List.range S.n).foldl (stepT S p x) st
def stP (S : Sg) (st : LL × Nat) (p : VV) : LL × Nat := (List.range S.n).foldl (stX S p) st
def rnd (S : Sg) (P : List VV) (l : LL) : LL × Nat := P.foldl (stP S) (l, 0)
def rnds (S : Sg) (P : List VV) : Nat → LL → LL
  | 0, l => l
  | r + 1, l => if (rnd S P l).2 = 0 then (rnd S P l).1 else rnds S P r (rnd S P l).1
def KO (P : List VV) (l : LL) : Prop := (∀ v ∈ P, (lkA l v).isSome = true) ∧ l.length ≤ 1000
theorem put_some {l : LL} {v : VV} {b : Nat} (u : VV) (h : (lkA l u).isSome = true) : (lkA (putA l v b) u).isSome = true := by
  rw [lkA_put]
  split
  · rfl
  · exact h
theorem put_len' {l : LL} {v : VV} {b : Nat} (h : (lkA l v).isSome = true) : (putA l v b).length = l.length := by
  unfold putA
  rw [if_pos h, List.length_map]
theorem step_KO {S : Sg} {P : List VV} {p : VV} (hp : p ∈ P) {x : Nat} {st : LL × Nat} {y : Nat} (h : KO P st.1) : KO P (stepT S p x st y).1 := by
  unfold stepT
  split
  · rename_i hc
    have h1 := h.1 p hp
    refine ⟨fun v hv => put_some v (put_some v (h.1 v hv)), ?_⟩
    show (putA (putA _ _ _) _ _).length ≤ 1000
    rw [put_len' (put_some p h1), put_len' hc.2.1]
    exact h.2
  · exact h
theorem fold_inv {α β : Type} {f : β → α → β} {J : β → Prop} (hs : ∀ b a, J b → J (f b a)) : ∀ (l : List α) (b : β), J b → J (l.foldl f b)
  | [], _, h => h
  | a :: l, b, h => fold_inv hs l _ (hs b a h)
theorem stX_KO {S : Sg} {P : List VV} {p : VV} (hp : p ∈ P) {st : LL × Nat} (x : Nat) (h : KO P st.1) : KO P (stX S p st x).1 := fold_inv (J := fun st : LL × Nat => KO P st.1) (fun b a h => step_KO hp h) _ _ h
theorem stP_KO {S : Sg} {P : List VV} {p : VV} (hp : p ∈ P) {st : LL × Nat} (h : KO P st.1) : KO P (stP S st p).1 := fold_inv (J := fun st : LL × Nat => KO P st.1) (fun b a h => stX_KO hp a h) _ _ h
theorem rnd_KO {S : Sg} {P : List VV} {l : LL} (h : KO P l) : KO P (rnd S P l).1 := by
  have key : ∀ (Q : List VV) (st : LL × Nat), (∀ p ∈ Q, p ∈ P) → KO P st.1 → KO P (Q.foldl (stP S) st).1 := by
    intro Q
    induction Q with
    | nil => exact fun _ _ h => h
    | cons p Q ih => exact fun st hQ h => ih _ (fun q hq => hQ q (List.mem_cons_of_mem _ hq)) (stP_KO (hQ p List.mem_cons_self) h)
  exact key P _ (fun _ h => h) h
theorem g_get (l : LL) (v : VV) (h : (lkA l v).isSome = true) : idxO (.dct (dLL l)) (d2 v) = some (.int ((lab l v : Nat) : Int)) := by
  have := dk_get keyNN dN l v
  obtain ⟨b, hb⟩ := Option.isSome_iff_exists.mp h
  rw [hb] at this
  unfold lab
  rw [hb]
  exact this
theorem g_in (l : LL) (v : VV) : inO (d2 v) (.dct (dLL l)) = some (lkA l v).isSome := dk_in keyNN dN l v
theorem g_put (l : LL) (v : VV) (b : Nat) (h : l.length ≤ 1001) (s : S) : puW s 2 (d2 v) (.int (b : Int)) (some (.own (.dct (dLL l)))) = some ⟨s.env.set 2 (.own (.dct (dLL (putA l v b)))), s.mem⟩ := by
  rw [pu_od]
  have := dk_put keyNN dN l v b (by omega)
  have e : putKV (dLL l) (d2 v) (.int (b : Int)) = some (dLL (putA l v b)) := this
  rw [e]
  rfl
theorem min_cast (a b : Nat) : (if (b : Int) < (a : Int) then (b : Int) else (a : Int)) = ((min a b : Nat) : Int) := by
  split <;> omega
def envT (S : Sg) (P : List VV) (l : LL) (s3 : Sl) (fr : Nat) (s5 s6 s7 s8 s9 s10 : Sl) : List Sl := [.val S.d, .val (.lst (P.map d2)), .own (.dct (dLL l)), s3, .val (.int (fr : Int)), s5, s6, s7, s8, s9, s10]
theorem d2_tup (a b : Nat) : D.tup [.int (a : Int), .int (b : Int)] = d2 (a, b) := rfl
theorem turn_step (cf : CF) (S : Sg) (hS : S.Ok) (P : List VV) (mem : List MO) (p : VV) (hp : p ∈ P) (hp1 : p.1 < S.n) (hp2 : p.2 < S.n) (x y : Nat) (hx : x < S.n) (hy : y < S.n) (st : LL × Nat) (hK : KO P st.1) (s3 s8 s9 s10 : Sl) {Q : Fl → DL.S → Prop}
    (hq : ∀ s9 s10, Q .nx ⟨envT S P (stepT S p x st y).1 s3 (stepT S p x st y).2 (.val (.int (p.1 : Int))) (.val (.int (p.2 : Int))) (.val (.int (x : Int))) (.val (.int (y : Int))) s9 s10, mem⟩) :
    (turnF cf (.name 8) (.seq (.asg (.name 9) (.tup (.cons (.idx (.idx (.var 0) (.var 5)) (.var 7)) (.cons (.idx (.idx (.var 0) (.var 8)) (.var 7)) .nil))))
     (.seq (.iff (.bool true (.cons (.cmp .eq (.idx (.idx (.var 0) (.var 7)) (.var 8)) (.var 6)) (.cons (.cmp .in_ (.var 9) (.var 2)) (.cons (.cmp .ne (.idx (.var 2) (.var 9)) (.idx (.var 2) (.tup (.cons (.var 5) (.cons (.var 6) .nil))))) .nil))))
      (.seq (.asg (.name 10) (.blt .min2 (.cons (.idx (.var 2) (.var 9)) (.cons (.idx (.var 2) (.tup (.cons (.var 5) (.cons (.var 6) .nil)))) .nil))))
      (.seq (.put (.var 2) (.var 9) (.var 10))
      (.seq (.put (.var 2) (.tup (.cons (.var 5) (.cons (.var 6) .nil))) (.var 10))
      (.seq (.asg (.name 4) (.bin .add (.var 4) (.int 1)))
      .skip))))
      .skip)
     .skip)) (.int (y : Int)) ⟨envT S P st.1 s3 st.2 (.val (.int (p.1 : Int))) (.val (.int (p.2 : Int))) (.val (.int (x : Int))) s8 s9 s10, mem⟩).Wp Q := by
  obtain ⟨l, fr⟩ := st
  unfold envT at hq ⊢
  have r2 : ∀ (s : DL.S) p, drf s (d2 p) = d2 p := fun _ _ => rfl
  have hs1 := hK.1 p hp
  have hl : l.length ≤ 1000 := hK.2
  have hpe : d2 (p.1, p.2) = d2 p := rfl
  have hqe : d2 (S.f p.1 x, S.f y x) = d2 (tq S p x y) := rfl
  unfold stepT at hq
  by_cases c1 : S.f x y = p.2
  · have e1 : decide (((S.f x y : Nat) : Int) = (p.2 : Int)) = true := decide_eq_true (by omega)
    have hin := g_in l (tq S p x y)
    cases c2 : (lkA l (tq S p x y)).isSome with
    | false =>
      rw [c2] at hin
      rw [if_neg (fun z => by rw [show (lkA (l, fr).1 (tq S p x y)).isSome = false from c2] at z; cases z.2.1)] at hq
      dsimp! [r_S, r_Sr, i_S _ _ hp1, i_S _ _ hx, i_S _ _ hy, i_Sr _ _ _ hx, i_Sr _ _ _ hy, e1, d2_tup, hqe, r2, hin]
      exact hq _ _
    | true =>
      rw [c2] at hin
      have g1 := g_get l (tq S p x y) c2
      have g2 := g_get l p hs1
      by_cases c3 : lab l (tq S p x y) = lab l p
      · rw [if_neg (fun z => z.2.2 c3)] at hq
        have e3 : decide (((lab l (tq S p x y) : Nat) : Int) = ((lab l p : Nat) : Int)) = true := decide_eq_true (by omega)
        dsimp! [r_S, r_Sr, i_S _ _ hp1, i_S _ _ hx, i_S _ _ hy, i_Sr _ _ _ hx, i_Sr _ _ _ hy, e1, d2_tup, hqe, hpe, r2, hin, g1, g2, e3]
        exact hq _ _
      · rw [if_pos ⟨c1, c2, c3⟩] at hq
        have e3 : decide (((lab l (tq S p x y) : Nat) : Int) = ((lab l p : Nat) : Int)) = false := decide_eq_false (by omega)
        have p1 := g_put l (tq S p x y) (min (lab l (tq S p x y)) (lab l p)) (by omega)
        have p2 := g_put (putA l (tq S p x y) (min (lab l (tq S p x y)) (lab l p))) p (min (lab l (tq S p x y)) (lab l p)) (by have := put_len' (b := min (lab l (tq S p x y)) (lab l p)) c2; omega)
        dsimp! [r_S, r_Sr, i_S _ _ hp1, i_S _ _ hx, i_S _ _ hy, i_Sr _ _ _ hx, i_Sr _ _ _ hy, e1, d2_tup, hqe, hpe, r2, hin, g1, g2, e3, min_cast, p1, p2, ci_add1]
        exact hq _ _
  · have e1 : decide (((S.f x y : Nat) : Int) = (p.2 : Int)) = false := decide_eq_false (by omega)
    rw [if_neg (fun z => c1 z.1)] at hq
    dsimp! [r_S, r_Sr, i_S _ _ hp1, i_S _ _ hx, i_S _ _ hy, i_Sr _ _ _ hx, i_Sr _ _ _ hy, e1, d2_tup, hqe, r2]
    exact hq _ _
end DL
end

section
set_option maxRecDepth 100000
set_option maxHeartbeats 16000000
namespace DL
open PySem
local macro_rules | `(tactic| dsimp! [$ls,*]) => `(tactic| simp (disch := (first | assumption | omega | (simp only [List.length_cons, List.length_nil, List.length_map, List.length_range, List.length_append]; omega))) only [f_bool, f_int, f_bl, f_non, f_str, f_glob, f_bin, f_cmp, f_idx, f_neg, f_chain, f_not, f_ite, f_slc, f_tup, f_lst, f_call, f_blt, f_lrg1, f_lrg2, f_lc, f_gx, f_Anil, f_A, f_B1, f_B, f_C0, f_C1, f_seq, f_rng1, f_rng2, f_enum, f_zip, f_rev, b_ok, b_exc, b_of, b_O, b_map, b_2, b_ob, a_2, a_Bin, a_Cmp, a_Idx, a_fC, a_fI, a_wB, a_wD, a_asB, a_asI, a_Neg, a_Neg2, a_Ch, a_Ch2, a_Ch3t, a_Ch3f, a_Not, a_Not2, a_Ite, a_Ite2t, a_Ite2f, a_Tup, a_Tup2, a_Lst, a_Lst2, a_Cl, a_Cl2, a_Cl3, a_inM, a_inX, a_Blt, a_Lr1, a_Lr2, a_Lr3, a_Sm, a_Bd, a_evBh, a_slcV, a_Sl2, a_Sl, a_turnC, a_C0, a_C1t, a_C1f, a_C2, a_C3, a_turnG, a_G0, a_G1t, a_G1f, a_G2, a_G3, a_Lc, a_Lc2, a_Gx, a_Gx2, a_A2, a_A, a_B, a_B2tt, a_B2tf, a_B2ff, a_B2ft, a_C, a_Seq, a_Seq2, a_R1, a_R2, a_R2', a_R3, a_En, a_En2, a_Z, a_Z2, a_Z3, a_Z4, a_Rv, a_Rv2, v_d, v_s, v_val, v_own, r_non, r_bl, r_int, r_str, r_tup, r_lst, c_d, c_s, c_val, c_own, s_nil, s_cons, s_1, s_2, vs_nil, vs_cons, vs_c, f_var, w_val, w_own, p_pl, p_mo, t_lst, o_addI, o_addS, o_addL, o_addT, o_sub, o_mulN, o_fdiv, o_mod, q_lt, q_le, q_gt, q_ge, q_eq, q_ne, q_is, q_isN, q_isNb, q_isNi, q_isNt, q_not, q_notN, q_notNb, q_notNi, q_notNt, q_in, q_nin, u_bl, u_int, u_lst, u_tup, i_lst, i_tup, i_0, i_1, i_2, i_3, i_4, l_lst, l_tup, z_lst, z_tup, a_wI, t_len, t_max, t_min, t_int, t_intb, t_all, t_any, t_listL, t_listT, t_listS, t_tupL, t_tupT, g_lst, g_tup, n_name, n_tup, n_nil, n_cons, n_kas, y_skip, y_seq, y_asg, y_own, y_shr, y_par, y_aug, y_put, y_app, y_ext, y_iff, y_ret, y_retN, y_brk, y_cont, y_exp, y_whl, y_for, j_Sn, j_Sr, j_Sb, j_Sc, j_N, j_A2, j_A, j_O, j_H, j_P4, j_P3, j_P2, j_P, j_G0, j_G, j_G2, j_U5, j_U4, j_U3, j_U2, j_U, j_L3, j_L2, j_L1, j_L0, j_L, j_X2, j_X, j_X0, j_It, j_If, j_I, j_R2, j_R, j_E, j_W, j_whlC, j_T, j_turnF, j_F, m_rt, m_nx, m_exc, ap_s, ap_r, ap_o, ap_v, ex_s, ex_o, pu_s, pu_o, pu_v, au_add, au_sub, au_mul, au_fdiv, au_mod, fq_rt, fq_nx, gq_nx, gq_ct, gq_rt, gq_bk, isB_eq, isI_eq, isT_eq, rg1_n, lst1_n, a_evBd, isHole, eqO_int, wp_ok, wp_bind, wp_fin, List.length_cons, List.length_nil, List.getElem?_cons_zero, List.getElem?_cons_succ, List.getElem?_nil, List.set_cons_zero, List.set_cons_succ, if_true, if_false, Bool.false_eq_true, wipeE, back, Nat.reduceAdd, decide_true, decide_false, Bool.not_true, Bool.not_false, List.map_cons, List.map_nil, List.replicate, List.cons_append, List.nil_append, Nat.add_one_sub_one, Nat.reduceSub, Nat.sub_self, List.isEmpty_nil, List.isEmpty_cons, k_tk, eq_self, and_true, true_and, and_self, Option.some.injEq, f_kin, f_kix, f_pop, f_popAt, f_isi, f_index, f_rng3, isS_eq, a_asS, a_Ki, a_Ki2f, a_Ki2t, a_Kx, a_Kx2, a_Pop, a_Pop1, a_Pop2, a_Pa, a_Pa0, a_Pa1, a_Pa2, a_Isi, a_fIsi, a_Ix, a_Ix0, a_Ix1, a_R36, a_R35, a_R34, a_R33, a_R32, po_s, po_v, r_scr, Option.isSome_some, Option.isSome_none, f_fresh, a_Fr, r_ref, r_refL, ap_mW, ap_mL, po_mW, f_dnew, f_trg1, a_Tr1, trR_n, pu_od, r_dct, l_dct, t_dct, f_dc, a_turnU, a_U0, a_U1t, a_U1f, a_U2, a_U3, a_U4, a_U5, a_Dc, a_Dc2, f_kget, a_Kg, a_Kg2, f_gmax, a_turnM, a_M0, a_M1t, a_M1f, a_M2, a_M3, a_Gm, a_Gm2, f_fld, a_Fld, a_Fld2, in_r, in_s, in_v, in_m, fl_w, fl_1, fl_2, ct_1, tl_1, f_meth, a_Me, a_Me2, a_Me3, a_Me4, mt_w, mt_1, mt_2, mt_3, f_new, a_Nw, a_Nw2, a_Nw3, x_fst, j_Fs, j_Fs2, j_Fs3, fs_w, fs_1, r_refI, a_En2t, f_lc2, a_L2, a_turn2C, a_2C0, a_2Ct, a_2Cf, a_D1, x_tryN, $ls,*])
def initL (P : List VV) : LL := (List.range P.length).foldl (fun l k => putA l (P.getD k (0, 0)) k) []
theorem init_inv (P : List VV) : ∀ j, j ≤ P.length → let l := (List.range j).foldl (fun l k => putA l (P.getD k (0, 0)) k) ([] : LL); l.length ≤ j ∧ (∀ v ∈ P.take j, (lkA l v).isSome = true) ∧ (∀ v, (lkA l v).isSome = true → v ∈ P ∧ lab l v < j)
  | 0, _ => by
    refine ⟨Nat.le_refl _, fun v hv => ?_, fun v hv => ?_⟩
    · simp at hv
    · simp [lkA] at hv
  | j + 1, h => by
    obtain ⟨h1, h2, h3⟩ := init_inv P j (by omega)
    rw [List.range_succ, List.foldl_append]
    generalize (List.range j).foldl (fun l k => putA l (P.getD k (0, 0)) k) ([] : LL) = l at h1 h2 h3
    show (putA l (P.getD j (0, 0)) j).length ≤ j + 1 ∧ _
    have hj : j < P.length := by omega
    have hg : P.getD j (0, 0) = P[j] := by rw [List.getD_eq_getElem?_getD, List.getElem?_eq_getElem hj]; rfl
    have hm : P.getD j (0, 0) ∈ P := by rw [hg]; exact List.getElem_mem _
    refine ⟨by have := putA_len l (P.getD j (0, 0)) j; omega, fun v hv => ?_, fun v hv => ?_⟩
    · show (lkA (putA l (P.getD j (0, 0)) j) v).isSome = true
      rw [lkA_put]
      split
      · rfl
      · rename_i hne
        refine h2 v ?_
        rw [List.take_succ, List.getElem?_eq_getElem hj] at hv
        rcases List.mem_append.mp hv with z | z
        · exact z
        · have : v = P[j] := by simpa using z
          exact absurd (this.trans hg.symm) hne
    · have hv : (lkA (putA l (P.getD j (0, 0)) j) v).isSome = true := hv
      show v ∈ P ∧ (lkA (putA l (P.getD j (0, 0)) j) v).getD 0 < j + 1
      rw [lkA_put] at hv ⊢
      split
      · rename_i e
        exact ⟨by rw [e]; exact hm, Nat.lt_succ_self _⟩
      · rename_i e
        rw [if_neg e] at hv
        obtain ⟨a, b⟩ := h3 v hv
        exact ⟨a, Nat.lt_succ_of_lt b⟩
theorem done_range {n k : Nat} {done rst : List Nat} (h : List.range n = done ++ k :: rst) : done = List.range done.length ∧ k = done.length := by
  have hn : done.length < n := by
    have := congrArg List.length h
    simp at this
    omega
  have e : (List.range n)[done.length]? = some k := by rw [h]; simp
  constructor
  · have h2 : (List.range n).take done.length = done := by rw [h]; simp
    rw [List.take_range] at h2
    rw [← h2]
    simp
  · rw [List.getElem?_range hn] at e
    exact (Option.some.inj e).symm
theorem turns_ok (n0 : Nat) (S : Sg) (hS : S.Ok) (P : List VV) (hP : ∀ p ∈ P, p.1 < S.n ∧ p.2 < S.n) (hl : P.length ≤ 1000) (mem : List MO) : run (TL L) (n0 + 1) "_law_turns" [S.d, .lst (P.map d2)] mem = .ok (.dct (dLL (rnds S P P.length (initL P)))) mem := by
  rw [run_def T_turns rfl]
  generalize run (TL L) n0 = cf
  apply wp_eq
  simp only [d__law_turns]
  have hle := hS.le
  have lp : (P.map d2).length = P.length := List.length_map ..
  have rp : ∀ s : DL.S, drf s (.lst (P.map d2)) = .lst (P.map d2) := fun _ => rfl
  have r2 : ∀ (s : DL.S) p, drf s (d2 p) = d2 p := fun _ _ => rfl
  dsimp! [lp]
  refine wp_for0 dN (fun done t => ∃ s3, t = ⟨[.val S.d, .val (.lst (P.map d2)), .own (.dct (dLL (done.foldl (fun l k => putA l (P.getD k (0, 0)) k) []))), s3, .non, .non, .non, .non, .non, .non, .non], mem⟩) ⟨.non, rfl⟩ ?_ ?_
  · intro done k rst t hd ⟨s3, ht⟩
    subst ht
    obtain ⟨e1, e2⟩ := done_range hd
    have hk : k < P.length := List.mem_range.mp (by rw [hd]; simp)
    have hi := init_inv P done.length (by omega)
    rw [← e1] at hi
    obtain ⟨h1, _, _⟩ := hi
    have e3 : (done ++ [k]).foldl (fun l k => putA l (P.getD k (0, 0)) k) ([] : LL) = putA (done.foldl (fun l k => putA l (P.getD k (0, 0)) k) []) (P.getD k (0, 0)) k := by rw [List.foldl_append]; rfl
    rw [e3]
    generalize done.foldl (fun l k => putA l (P.getD k (0, 0)) k) ([] : LL) = l at h1 ⊢
    have ik : idxO (.lst (P.map d2)) (.int (k : Int)) = some (d2 (P.getD k (0, 0))) := by
      refine at_m d2 P k _ ?_
      rw [List.getD_eq_getElem?_getD, List.getElem?_eq_getElem hk]; rfl
    have pu := g_put l (P.getD k (0, 0)) k (by omega)
    dsimp! [ik, r2, pu]
    exact ⟨_, rfl⟩
  intro t ⟨s3, ht⟩
  subst ht
  have hi := init_inv P P.length (Nat.le_refl _)
  have hK0 : KO P (initL P) := ⟨fun v hv => hi.2.1 v (by rw [List.take_length]; exact hv), Nat.le_trans hi.1 hl⟩
  have ei : (List.range P.length).foldl (fun l k => putA l (P.getD k (0, 0)) k) ([] : LL) = initL P := rfl
  rw [ei]
  generalize initL P = l0 at hK0 ⊢
  dsimp! [lp]
  refine wp_for0 dN (fun done t => ∃ (l : LL) (s3 s4 s5 s6 s7 s8 s9 s10 : Sl), KO P l ∧ rnds S P P.length l0 = rnds S P (P.length - done.length) l ∧ t = ⟨[.val S.d, .val (.lst (P.map d2)), .own (.dct (dLL l)), s3, s4, s5, s6, s7, s8, s9, s10], mem⟩) ⟨l0, _, _, _, _, _, _, _, _, hK0, rfl, rfl⟩ ?_ ?_
  · intro done k rst t hd ⟨l, s3, s4, s5, s6, s7, s8, s9, s10, hK, hr, ht⟩
    subst ht
    have hdl : done.length < P.length := by
      have := congrArg List.length hd
      simp at this
      omega
    have hr2 : rnds S P P.length l0 = if (rnd S P l).2 = 0 then (rnd S P l).1 else rnds S P (P.length - (done ++ [k]).length) (rnd S P l).1 := by
      rw [hr, show P.length - done.length = (P.length - (done ++ [k]).length) + 1 by rw [List.length_append]; simp; omega]
      rfl
    rw [hr2]
    have hKr := rnd_KO (S := S) hK
    dsimp! []
    refine wp_for0 d2 (fun done t => ∃ (s5 s6 s7 s8 s9 s10 : Sl), KO P (done.foldl (stP S) (l, 0)).1 ∧ t = ⟨envT S P (done.foldl (stP S) (l, 0)).1 (.val (dN k)) (done.foldl (stP S) (l, 0)).2 s5 s6 s7 s8 s9 s10, mem⟩) ⟨_, _, _, _, _, _, hK, rfl⟩ ?_ ?_
    · intro dp p rp t hdp ⟨s5, s6, s7, s8, s9, s10, hKp, ht⟩
      subst ht
      have hp : p ∈ P := by rw [hdp]; simp
      obtain ⟨hp1, hp2⟩ := hP p hp
      have hd2 : d2 p = .tup [.int (p.1 : Int), .int (p.2 : Int)] := rfl
      rw [List.foldl_append]
      generalize dp.foldl (stP S) (l, 0) = st at hKp ⊢
      unfold envT
      dsimp! [hd2, l_S, r_S]
      refine wp_for0 dN (fun dx t => ∃ (s7 s8 s9 s10 : Sl), KO P (dx.foldl (stX S p) st).1 ∧ t = ⟨envT S P (dx.foldl (stX S p) st).1 (.val (dN k)) (dx.foldl (stX S p) st).2 (.val (.int (p.1 : Int))) (.val (.int (p.2 : Int))) s7 s8 s9 s10, mem⟩) ⟨_, _, _, _, hKp, rfl⟩ ?_ ?_
      · intro dx x rx t hdx ⟨s7, s8, s9, s10, hKx, ht⟩
        subst ht
        have hx : x < S.n := List.mem_range.mp (by rw [hdx]; simp)
        rw [List.foldl_append]
        generalize dx.foldl (stX S p) st = st2 at hKx ⊢
        unfold envT
        dsimp! [l_S, r_S]
        refine wp_for0 dN (fun dy t => ∃ (s8 s9 s10 : Sl), KO P (dy.foldl (stepT S p x) st2).1 ∧ t = ⟨envT S P (dy.foldl (stepT S p x) st2).1 (.val (dN k)) (dy.foldl (stepT S p x) st2).2 (.val (.int (p.1 : Int))) (.val (.int (p.2 : Int))) (.val (.int (x : Int))) s8 s9 s10, mem⟩) ⟨_, _, _, hKx, rfl⟩ ?_ ?_
        · intro dy y ry t hdy ⟨s8, s9, s10, hKy, ht⟩
          subst ht
          have hy : y < S.n := List.mem_range.mp (by rw [hdy]; simp)
          rw [List.foldl_append]
          generalize dy.foldl (stepT S p x) st2 = st3 at hKy ⊢
          refine turn_step cf S hS P mem p hp hp1 hp2 x y hx hy st3 hKy _ _ _ _ fun s9 s10 => ?_
          rw [gq_nx]
          exact ⟨_, _, _, step_KO hp hKy, rfl⟩
        · intro t ⟨s8, s9, s10, hKy, ht⟩
          subst ht
          unfold envT
          dsimp! []
          exact ⟨_, _, _, _, hKy, rfl⟩
      · intro t ⟨s7, s8, s9, s10, hKx, ht⟩
        subst ht
        unfold envT
        dsimp! []
        exact ⟨_, _, _, _, _, _, hKx, rfl⟩
    · intro t ⟨s5, s6, s7, s8, s9, s10, hKp, ht⟩
      subst ht
      have er : P.foldl (stP S) (l, 0) = rnd S P l := rfl
      rw [er]
      generalize rnd S P l = st at hKr ⊢
      unfold envT
      by_cases hz : st.2 = 0
      · have e0 : decide (((st.2 : Nat) : Int) = 0) = true := decide_eq_true (by omega)
        rw [if_pos hz]
        dsimp! [e0]
      · have e0 : decide (((st.2 : Nat) : Int) = 0) = false := decide_eq_false (by omega)
        dsimp! [e0]
        exact ⟨_, _, _, _, _, _, _, _, _, hKr, if_neg hz, rfl⟩
  · intro t ⟨l, s3, s4, s5, s6, s7, s8, s9, s10, hK, hr, ht⟩
    subst ht
    rw [List.length_range, Nat.sub_self] at hr
    dsimp! []
    rw [hr]
    rfl
end DL
end

section
set_option maxRecDepth 100000
set_option maxHeartbeats 16000000
namespace DL
open PySem
/-! ### the names of pairs that are alike by turns are the same -/
section
variable (S : Sg) (P : List VV) (ini : VV → Nat)
def edge (p q : VV) : Prop := ∃ x y, x < S.n ∧ y < S.n ∧ S.f x y = p.2 ∧ q = tq S p x y
def adj (p q : VV) : Prop := p ∈ P ∧ q ∈ P ∧ (edge S p q ∨ edge S q p)
def Pth (d : Nat) (v w : VV) : Prop := ∃ g : Nat → VV, g 0 = v ∧ g d = w ∧ ∀ k, k < d → adj S P (g k) (g (k + 1))
end
section
variable {S : Sg} {P : List VV} {ini : VV → Nat}
theorem adj_symm {p q : VV} (h : adj S P p q) : adj S P q p := ⟨h.2.1, h.1, h.2.2.symm⟩
theorem pth_cons {d : Nat} {u v w : VV} (h : adj S P u v) (p : Pth S P d v w) : Pth S P (d + 1) u w := by
  obtain ⟨g, h0, h1, h2⟩ := p
  refine ⟨fun k => match k with | 0 => u | k + 1 => g k, rfl, h1, fun k hk => ?_⟩
  cases k with
  | zero => show adj S P u (g 0); rw [h0]; exact h
  | succ k => exact h2 k (by omega)
theorem pth_mem {d : Nat} {v w : VV} (hv : v ∈ P) (g : Nat → VV) (h0 : g 0 = v) (h2 : ∀ k, k < d → adj S P (g k) (g (k + 1))) : ∀ k, k ≤ d → g k ∈ P
  | 0, _ => by rw [h0]; exact hv
  | k + 1, h => (h2 k (by omega)).2.1
theorem pth_short : ∀ (d : Nat) {v w : VV}, v ∈ P → Pth S P d v w → ∃ d', d' ≤ P.length ∧ Pth S P d' v w := by
  intro d
  induction d using Nat.strongRecOn with
  | ind d ih =>
    intro v w hv hp
    by_cases hd : d ≤ P.length
    · exact ⟨d, hd, hp⟩
    · obtain ⟨g, h0, h1, h2⟩ := hp
      have hm := pth_mem (w := w) hv g h0 h2
      obtain ⟨i, j, hij, hj, e⟩ := pigeon P.length (fun k => (ixOf P (g k)).getD 0) fun k hk => by
        obtain ⟨m, q1, q2⟩ := ixOf_mem (hm k (by omega))
        show (ixOf P (g k)).getD 0 < P.length
        rw [q1]
        exact (List.getElem?_eq_some_iff.mp q2).1
      have eg : g i = g j := by
        obtain ⟨m, q1, q2⟩ := ixOf_mem (hm i (by omega))
        obtain ⟨m', q3, q4⟩ := ixOf_mem (hm j (by omega))
        have e : (ixOf P (g i)).getD 0 = (ixOf P (g j)).getD 0 := e
        rw [q1, q3] at e
        have e : m = m' := e
        rw [e, q4] at q2
        exact (Option.some.inj q2).symm
      refine ih (d - (j - i)) (by omega) hv ⟨fun k => if k ≤ i then g k else g (k + (j - i)), ?_, ?_, fun k hk => ?_⟩
      · show (if 0 ≤ i then g 0 else _) = v
        rw [if_pos (Nat.zero_le _)]; exact h0
      · show (if d - (j - i) ≤ i then g (d - (j - i)) else g (d - (j - i) + (j - i))) = w
        rw [if_neg (by omega), show d - (j - i) + (j - i) = d by omega]; exact h1
      · show adj S P (if k ≤ i then g k else g (k + (j - i))) (if k + 1 ≤ i then g (k + 1) else g (k + 1 + (j - i)))
        by_cases c1 : k + 1 ≤ i
        · rw [if_pos c1, if_pos (by omega)]; exact h2 k (by omega)
        · rw [if_neg c1]
          by_cases c2 : k ≤ i
          · have : k = i := by omega
            subst this
            rw [if_pos c2, eg, show k + 1 + (j - k) = j + 1 by omega]
            exact h2 j (by omega)
          · rw [if_neg c2, show k + 1 + (j - i) = (k + (j - i)) + 1 by omega]
            exact h2 _ (by omega)
theorem lab_put (l : LL) (v u : VV) (b : Nat) : lab (putA l v b) u = if u = v then b else lab l u := by
  unfold lab
  rw [lkA_put]
  split <;> rfl
structure RI (S : Sg) (P : List VV) (ini : VV → Nat) (l0 : LL) (Z : VV → Nat → Nat → Prop) (st : LL × Nat) : Prop where
  ko : KO P st.1
  on : ∀ v, (lkA st.1 v).isSome = true → v ∈ P
  mono : ∀ v, lab st.1 v ≤ lab l0 v
  reach : ∀ v ∈ P, ∃ w ∈ P, (∃ d, Pth S P d v w) ∧ lab st.1 v = ini w
  proc : ∀ p ∈ P, ∀ x y, Z p x y → x < S.n → y < S.n → S.f x y = p.2 → tq S p x y ∈ P → lab st.1 p ≤ lab l0 (tq S p x y) ∧ lab st.1 (tq S p x y) ≤ lab l0 p
  fr0 : st.2 = 0 → st.1 = l0 ∧ ∀ p ∈ P, ∀ x y, Z p x y → x < S.n → y < S.n → S.f x y = p.2 → tq S p x y ∈ P → lab l0 p = lab l0 (tq S p x y)
theorem RI.weak {l0 : LL} {Z Z' : VV → Nat → Nat → Prop} {st : LL × Nat} (h : RI S P ini l0 Z st) (w : ∀ p x y, Z' p x y → Z p x y) : RI S P ini l0 Z' st :=
  ⟨h.ko, h.on, h.mono, h.reach, fun p hp x y z => h.proc p hp x y (w _ _ _ z), fun e => ⟨(h.fr0 e).1, fun p hp x y z => (h.fr0 e).2 p hp x y (w _ _ _ z)⟩⟩
theorem RI.step {l0 : LL} {Z : VV → Nat → Nat → Prop} {st : LL × Nat} (h : RI S P ini l0 Z st) {p : VV} (hp : p ∈ P) {x y : Nat} (hx : x < S.n) (hy : y < S.n) : RI S P ini l0 (fun a b c => Z a b c ∨ (a = p ∧ b = x ∧ c = y)) (stepT S p x st y) := by
  have hK := step_KO (S := S) (x := x) (y := y) hp h.ko
  unfold stepT at hK ⊢
  split
  · rename_i hc
    rw [if_pos hc] at hK
    obtain ⟨c1, c2, c3⟩ := hc
    have hq := h.on _ c2
    have had : adj S P p (tq S p x y) := ⟨hp, hq, .inl ⟨x, y, hx, hy, c1, rfl⟩⟩
    generalize hq' : tq S p x y = q at *
    have hl : ∀ v, lab (putA (putA st.1 q (min (lab st.1 q) (lab st.1 p))) p (min (lab st.1 q) (lab st.1 p))) v = if v = p then min (lab st.1 q) (lab st.1 p) else if v = q then min (lab st.1 q) (lab st.1 p) else lab st.1 v := fun v => by
      rw [lab_put, lab_put]
    have hle : ∀ v, lab (putA (putA st.1 q (min (lab st.1 q) (lab st.1 p))) p (min (lab st.1 q) (lab st.1 p))) v ≤ lab st.1 v := fun v => by
      rw [hl]
      split
      · rename_i e; rw [e]; omega
      · split
        · rename_i e; rw [e]; omega
        · exact Nat.le_refl _
    refine ⟨hK, fun v hv => ?_, fun v => Nat.le_trans (hle v) (h.mono v), fun v hv => ?_, fun a ha b c z hb hc he hm => ?_, fun e => absurd e (Nat.succ_ne_zero _)⟩
    · have hv : (lkA (putA (putA st.1 q _) p _) v).isSome = true := hv
      rw [lkA_put, lkA_put] at hv
      by_cases e1 : v = p
      · rw [e1]; exact hp
      · by_cases e2 : v = q
        · rw [e2]; exact hq
        · rw [if_neg e1, if_neg e2] at hv
          exact h.on v hv
    · have low : ∀ v, v = p ∨ v = q → ∃ w ∈ P, (∃ d, Pth S P d v w) ∧ min (lab st.1 q) (lab st.1 p) = ini w := fun v hv => by
        obtain ⟨w1, a1, ⟨d1, b1⟩, e1⟩ := h.reach p hp
        obtain ⟨w2, a2, ⟨d2, b2⟩, e2⟩ := h.reach q hq
        by_cases hm : lab st.1 q ≤ lab st.1 p
        · rw [Nat.min_eq_left hm]
          rcases hv with rfl | rfl
          · exact ⟨w2, a2, ⟨d2 + 1, pth_cons had b2⟩, e2⟩
          · exact ⟨w2, a2, ⟨d2, b2⟩, e2⟩
        · rw [Nat.min_eq_right (by omega)]
          rcases hv with rfl | rfl
          · exact ⟨w1, a1, ⟨d1, b1⟩, e1⟩
          · exact ⟨w1, a1, ⟨d1 + 1, pth_cons (adj_symm had) b1⟩, e1⟩
      show ∃ w ∈ P, (∃ d, Pth S P d v w) ∧ lab (putA (putA st.1 q _) p _) v = ini w
      rw [hl]
      by_cases e1 : v = p
      · rw [if_pos e1]; exact low v (.inl e1)
      · by_cases e2 : v = q
        · rw [if_neg e1, if_pos e2]; exact low v (.inr e2)
        · rw [if_neg e1, if_neg e2]; exact h.reach v hv
    · rcases z with z | ⟨z1, z2, z3⟩
      · obtain ⟨i, j⟩ := h.proc a ha b c z hb hc he hm
        exact ⟨Nat.le_trans (hle _) i, Nat.le_trans (hle _) j⟩
      · subst z1 z2 z3
        rw [hq'] at hm ⊢
        have m1 := h.mono a
        have m2 := h.mono q
        show lab (putA (putA st.1 q _) a _) a ≤ _ ∧ lab (putA (putA st.1 q _) a _) q ≤ _
        rw [hl, hl, if_pos rfl]
        refine ⟨by omega, ?_⟩
        split
        · omega
        · rw [if_pos rfl]; omega
  · rename_i hc
    have key : S.f x y = p.2 → tq S p x y ∈ P → lab st.1 (tq S p x y) = lab st.1 p := fun c1 hm => by
      apply Classical.byContradiction
      intro hne
      exact hc ⟨c1, h.ko.1 _ hm, hne⟩
    refine ⟨h.ko, h.on, h.mono, h.reach, fun a ha b c z hb hc he hm => ?_, fun e => ⟨(h.fr0 e).1, fun a ha b c z hb hc he hm => ?_⟩⟩
    · rcases z with z | ⟨z1, z2, z3⟩
      · exact h.proc a ha b c z hb hc he hm
      · subst z1 z2 z3
        have k := key he hm
        have m1 := h.mono a
        have m2 := h.mono (tq S a b c)
        omega
    · rcases z with z | ⟨z1, z2, z3⟩
      · exact (h.fr0 e).2 a ha b c z hb hc he hm
      · subst z1 z2 z3
        have k := key he hm
        rw [(h.fr0 e).1] at k
        exact k.symm
theorem RI.foldY {l0 : LL} {p : VV} (hp : p ∈ P) {x : Nat} (hx : x < S.n) : ∀ (ys : List Nat) {Z : VV → Nat → Nat → Prop} {st : LL × Nat}, (∀ y ∈ ys, y < S.n) → RI S P ini l0 Z st → RI S P ini l0 (fun a b c => Z a b c ∨ (a = p ∧ b = x ∧ c ∈ ys)) (ys.foldl (stepT S p x) st)
  | [], Z, st, _, h => h.weak fun a b c z => z.elim id fun z => absurd z.2.2 (by simp)
  | y :: ys, Z, st, hy, h => by
    have h1 := h.step hp hx (hy y List.mem_cons_self)
    have h2 := RI.foldY hp hx ys (fun z hz => hy z (List.mem_cons_of_mem _ hz)) h1
    refine h2.weak fun a b c z => ?_
    rcases z with z | ⟨z1, z2, z3⟩
    · exact .inl (.inl z)
    · rcases List.mem_cons.mp z3 with z3 | z3
      · exact .inl (.inr ⟨z1, z2, z3⟩)
      · exact .inr ⟨z1, z2, z3⟩
theorem RI.foldX {l0 : LL} {p : VV} (hp : p ∈ P) : ∀ (xs : List Nat) {Z : VV → Nat → Nat → Prop} {st : LL × Nat}, (∀ x ∈ xs, x < S.n) → RI S P ini l0 Z st → RI S P ini l0 (fun a b c => Z a b c ∨ (a = p ∧ b ∈ xs ∧ c < S.n)) (xs.foldl (stX S p) st)
  | [], Z, st, _, h => h.weak fun a b c z => z.elim id fun z => absurd z.2.1 (by simp)
  | x :: xs, Z, st, hx, h => by
    have h1 := h.foldY hp (hx x List.mem_cons_self) (List.range S.n) fun y hy => List.mem_range.mp hy
    have h2 := RI.foldX hp xs (fun z hz => hx z (List.mem_cons_of_mem _ hz)) h1
    refine h2.weak fun a b c z => ?_
    rcases z with z | ⟨z1, z2, z3⟩
    · exact .inl (.inl z)
    · rcases List.mem_cons.mp z2 with z2 | z2
      · exact .inl (.inr ⟨z1, z2, List.mem_range.mpr z3⟩)
      · exact .inr ⟨z1, z2, z3⟩
theorem RI.foldP {l0 : LL} : ∀ (ps : List VV) {Z : VV → Nat → Nat → Prop} {st : LL × Nat}, (∀ p ∈ ps, p ∈ P) → RI S P ini l0 Z st → RI S P ini l0 (fun a b c => Z a b c ∨ (a ∈ ps ∧ b < S.n ∧ c < S.n)) (ps.foldl (stP S) st)
  | [], Z, st, _, h => h.weak fun a b c z => z.elim id fun z => absurd z.1 (by simp)
  | p :: ps, Z, st, hp, h => by
    have h1 := h.foldX (hp p List.mem_cons_self) (List.range S.n) fun y hy => List.mem_range.mp hy
    have h2 := RI.foldP ps (fun z hz => hp z (List.mem_cons_of_mem _ hz)) h1
    refine h2.weak fun a b c z => ?_
    rcases z with z | ⟨z1, z2, z3⟩
    · exact .inl (.inl z)
    · rcases List.mem_cons.mp z1 with z1 | z1
      · exact .inl (.inr ⟨z1, List.mem_range.mpr z2, z3⟩)
      · exact .inr ⟨z1, z2, z3⟩
/-- what is known between the rounds -/
structure Bt (S : Sg) (P : List VV) (ini : VV → Nat) (r : Nat) (l : LL) : Prop where
  ko : KO P l
  on : ∀ v, (lkA l v).isSome = true → v ∈ P
  reach : ∀ v ∈ P, ∃ w ∈ P, (∃ d, Pth S P d v w) ∧ lab l v = ini w
  dist : ∀ v ∈ P, ∀ w d, d ≤ r → Pth S P d v w → lab l v ≤ ini w
structure Cl (S : Sg) (P : List VV) (ini : VV → Nat) (l : LL) : Prop where
  ko : KO P l
  on : ∀ v, (lkA l v).isSome = true → v ∈ P
  reach : ∀ v ∈ P, ∃ w ∈ P, lab l v = ini w
  cl : ∀ p ∈ P, ∀ x y, x < S.n → y < S.n → S.f x y = p.2 → tq S p x y ∈ P → lab l p = lab l (tq S p x y)
theorem bt_cl {l : LL} (h : Bt S P ini P.length l) : Cl S P ini l := by
  refine ⟨h.ko, h.on, fun v hv => let ⟨w, a, _, b⟩ := h.reach v hv; ⟨w, a, b⟩, fun p hp x y hx hy he hq => ?_⟩
  have had : adj S P p (tq S p x y) := ⟨hp, hq, .inl ⟨x, y, hx, hy, he, rfl⟩⟩
  have one : ∀ a b, adj S P a b → lab l b ≤ lab l a := fun a b hab => by
    obtain ⟨w, _, ⟨d, pd⟩, e⟩ := h.reach a hab.1
    obtain ⟨d', hd', p'⟩ := pth_short (d + 1) hab.2.1 (pth_cons (adj_symm hab) pd)
    rw [e]
    exact h.dist b hab.2.1 w d' hd' p'
  exact Nat.le_antisymm (one _ _ (adj_symm had)) (one _ _ had)
theorem rnds_cl : ∀ (r : Nat) (l : LL), r ≤ P.length → Bt S P ini (P.length - r) l → Cl S P ini (rnds S P r l)
  | 0, l, _, h => bt_cl h
  | r + 1, l, hr, h => by
    have R0 : RI S P ini l (fun _ _ _ => False) (l, 0) := ⟨h.ko, h.on, fun v => Nat.le_refl _, h.reach, fun _ _ _ _ z => z.elim, fun _ => ⟨rfl, fun _ _ _ _ z => z.elim⟩⟩
    have R := R0.foldP P (fun _ h => h)
    have e : P.foldl (stP S) (l, 0) = rnd S P l := rfl
    rw [e] at R
    show Cl S P ini (if (rnd S P l).2 = 0 then (rnd S P l).1 else rnds S P r (rnd S P l).1)
    generalize rnd S P l = st at R ⊢
    split
    · rename_i h0
      obtain ⟨e1, e2⟩ := R.fr0 h0
      rw [e1]
      exact ⟨h.ko, h.on, fun v hv => let ⟨w, a, _, b⟩ := h.reach v hv; ⟨w, a, b⟩, fun p hp x y hx hy he hq => e2 p hp x y (.inr ⟨hp, hx, hy⟩) hx hy he hq⟩
    · refine rnds_cl r st.1 (by omega) ⟨R.ko, R.on, R.reach, fun v hv w d hd hp => ?_⟩
      cases d with
      | zero =>
        exact Nat.le_trans (R.mono v) (h.dist v hv w 0 (Nat.zero_le _) hp)
      | succ d =>
        obtain ⟨g, h0, h1, h2⟩ := hp
        have had := h2 0 (Nat.succ_pos _)
        rw [h0] at had
        have p' : Pth S P d (g 1) w := ⟨fun k => g (k + 1), rfl, h1, fun k hk => h2 (k + 1) (by omega)⟩
        have l1 := h.dist (g 1) had.2.1 w d (by omega) p'
        have ed := had.2.2
        rcases ed with ⟨x, y, hx, hy, he, hq⟩ | ⟨x, y, hx, hy, he, hq⟩
        · have := (R.proc v hv x y (.inr ⟨hv, hx, hy⟩) hx hy he (by rw [← hq]; exact had.2.1)).1
          rw [← hq] at this
          exact Nat.le_trans this l1
        · have := (R.proc (g 1) had.2.1 x y (.inr ⟨had.2.1, hx, hy⟩) hx hy he (by rw [← hq]; exact hv)).2
          rw [← hq] at this
          exact Nat.le_trans this l1
/-- the names that _law_turns gives -/
theorem names_cl (hl : P.length ≤ 1000) : Cl S P (lab (initL P)) (rnds S P P.length (initL P)) ∧ ∀ v ∈ P, lab (rnds S P P.length (initL P)) v < P.length := by
  have hi := init_inv P P.length (Nat.le_refl _)
  have hs : ∀ v ∈ P, (lkA (initL P) v).isSome = true := fun v hv => hi.2.1 v (by rw [List.take_length]; exact hv)
  have hc := rnds_cl (S := S) (ini := lab (initL P)) P.length (initL P) (Nat.le_refl _) ⟨⟨hs, Nat.le_trans hi.1 hl⟩, fun v hv => (hi.2.2 v hv).1, fun v hv => ⟨v, hv, ⟨0, fun _ => v, rfl, rfl, fun k hk => absurd hk (Nat.not_lt_zero _)⟩, rfl⟩, fun v hv w d hd hp => by
    have hd : d = 0 := by omega
    subst hd
    obtain ⟨g, h0, h1, _⟩ := hp
    rw [← h0, h1]
    exact Nat.le_refl _⟩
  refine ⟨hc, fun v hv => ?_⟩
  obtain ⟨w, hw, e⟩ := hc.reach v hv
  rw [e]
  exact (hi.2.2 w (hs w hw)).2
end
end DL
end

section
set_option maxRecDepth 100000
set_option maxHeartbeats 16000000
namespace DL
open PySem
local macro_rules | `(tactic| dsimp! [$ls,*]) => `(tactic| simp (disch := (first | assumption | omega | (simp only [List.length_cons, List.length_nil, List.length_map, List.length_range, List.length_append]; omega))) only [f_bool, f_int, f_bl, f_non, f_str, f_glob, f_bin, f_cmp, f_idx, f_neg, f_chain, f_not, f_ite, f_slc, f_tup, f_lst, f_call, f_blt, f_lrg1, f_lrg2, f_lc, f_gx, f_Anil, f_A, f_B1, f_B, f_C0, f_C1, f_seq, f_rng1, f_rng2, f_enum, f_zip, f_rev, b_ok, b_exc, b_of, b_O, b_map, b_2, b_ob, a_2, a_Bin, a_Cmp, a_Idx, a_fC, a_fI, a_wB, a_wD, a_asB, a_asI, a_Neg, a_Neg2, a_Ch, a_Ch2, a_Ch3t, a_Ch3f, a_Not, a_Not2, a_Ite, a_Ite2t, a_Ite2f, a_Tup, a_Tup2, a_Lst, a_Lst2, a_Cl, a_Cl2, a_Cl3, a_inM, a_inX, a_Blt, a_Lr1, a_Lr2, a_Lr3, a_Sm, a_Bd, a_evBh, a_slcV, a_Sl2, a_Sl, a_turnC, a_C0, a_C1t, a_C1f, a_C2, a_C3, a_turnG, a_G0, a_G1t, a_G1f, a_G2, a_G3, a_Lc, a_Lc2, a_Gx, a_Gx2, a_A2, a_A, a_B, a_B2tt, a_B2tf, a_B2ff, a_B2ft, a_C, a_Seq, a_Seq2, a_R1, a_R2, a_R2', a_R3, a_En, a_En2, a_Z, a_Z2, a_Z3, a_Z4, a_Rv, a_Rv2, v_d, v_s, v_val, v_own, r_non, r_bl, r_int, r_str, r_tup, r_lst, c_d, c_s, c_val, c_own, s_nil, s_cons, s_1, s_2, vs_nil, vs_cons, vs_c, f_var, w_val, w_own, p_pl, p_mo, t_lst, o_addI, o_addS, o_addL, o_addT, o_sub, o_mulN, o_fdiv, o_mod, q_lt, q_le, q_gt, q_ge, q_eq, q_ne, q_is, q_isN, q_isNb, q_isNi, q_isNt, q_not, q_notN, q_notNb, q_notNi, q_notNt, q_in, q_nin, u_bl, u_int, u_lst, u_tup, i_lst, i_tup, i_0, i_1, i_2, i_3, i_4, l_lst, l_tup, z_lst, z_tup, a_wI, t_len, t_max, t_min, t_int, t_intb, t_all, t_any, t_listL, t_listT, t_listS, t_tupL, t_tupT, g_lst, g_tup, n_name, n_tup, n_nil, n_cons, n_kas, y_skip, y_seq, y_asg, y_own, y_shr, y_par, y_aug, y_put, y_app, y_ext, y_iff, y_ret, y_retN, y_brk, y_cont, y_exp, y_whl, y_for, j_Sn, j_Sr, j_Sb, j_Sc, j_N, j_A2, j_A, j_O, j_H, j_P4, j_P3, j_P2, j_P, j_G0, j_G, j_G2, j_U5, j_U4, j_U3, j_U2, j_U, j_L3, j_L2, j_L1, j_L0, j_L, j_X2, j_X, j_X0, j_It, j_If, j_I, j_R2, j_R, j_E, j_W, j_whlC, j_T, j_turnF, j_F, m_rt, m_nx, m_exc, ap_s, ap_r, ap_o, ap_v, ex_s, ex_o, pu_s, pu_o, pu_v, au_add, au_sub, au_mul, au_fdiv, au_mod, fq_rt, fq_nx, gq_nx, gq_ct, gq_rt, gq_bk, isB_eq, isI_eq, isT_eq, rg1_n, lst1_n, a_evBd, isHole, eqO_int, wp_ok, wp_bind, wp_fin, List.length_cons, List.length_nil, List.getElem?_cons_zero, List.getElem?_cons_succ, List.getElem?_nil, List.set_cons_zero, List.set_cons_succ, if_true, if_false, Bool.false_eq_true, wipeE, back, Nat.reduceAdd, decide_true, decide_false, Bool.not_true, Bool.not_false, List.map_cons, List.map_nil, List.replicate, List.cons_append, List.nil_append, Nat.add_one_sub_one, Nat.reduceSub, Nat.sub_self, List.isEmpty_nil, List.isEmpty_cons, k_tk, eq_self, and_true, true_and, and_self, Option.some.injEq, f_kin, f_kix, f_pop, f_popAt, f_isi, f_index, f_rng3, isS_eq, a_asS, a_Ki, a_Ki2f, a_Ki2t, a_Kx, a_Kx2, a_Pop, a_Pop1, a_Pop2, a_Pa, a_Pa0, a_Pa1, a_Pa2, a_Isi, a_fIsi, a_Ix, a_Ix0, a_Ix1, a_R36, a_R35, a_R34, a_R33, a_R32, po_s, po_v, r_scr, Option.isSome_some, Option.isSome_none, f_fresh, a_Fr, r_ref, r_refL, ap_mW, ap_mL, po_mW, f_dnew, f_trg1, a_Tr1, trR_n, pu_od, r_dct, l_dct, t_dct, f_dc, a_turnU, a_U0, a_U1t, a_U1f, a_U2, a_U3, a_U4, a_U5, a_Dc, a_Dc2, f_kget, a_Kg, a_Kg2, f_gmax, a_turnM, a_M0, a_M1t, a_M1f, a_M2, a_M3, a_Gm, a_Gm2, f_fld, a_Fld, a_Fld2, in_r, in_s, in_v, in_m, fl_w, fl_1, fl_2, ct_1, tl_1, f_meth, a_Me, a_Me2, a_Me3, a_Me4, mt_w, mt_1, mt_2, mt_3, f_new, a_Nw, a_Nw2, a_Nw3, x_fst, j_Fs, j_Fs2, j_Fs3, fs_w, fs_1, r_refI, a_En2t, f_lc2, a_L2, a_turn2C, a_2C0, a_2Ct, a_2Cf, a_D1, x_tryN, $ls,*])
/-! ### drawn readers -/
structure Rdr.Good (R : Rdr) : Prop where
  ok : R.Ok
  sub : ∀ p ∈ R.A, p ∈ linked R.S
  turn : ∀ p ∈ linked R.S, ∀ x y, x < R.S.n → y < R.S.n → R.S.f x y = p.2 → tq R.S p x y ∈ linked R.S → acc R p = acc R (tq R.S p x y)
theorem acc_iff (R : Rdr) (p : VV) : acc R p = true ↔ p ∈ R.A := by
  unfold acc
  rw [List.any_eq_true]
  exact ⟨fun ⟨z, h1, h2⟩ => by rw [← of_decide_eq_true h2]; exact h1, fun h => ⟨p, h, decide_eq_true rfl⟩⟩
theorem good_of {S : Sg} (hS : S.Ok) (L : List Nat) (hL : ∀ x ∈ L, x < S.n) {l : LL} {ini : VV → Nat} (h : Cl S (linked S) ini l) (ch : List Nat) : (⟨S, L, (linked S).filter fun p => decide (ch.getD (lab l p) 0 = 1)⟩ : Rdr).Good := by
  refine ⟨⟨hS, hL⟩, fun p hp => (List.mem_filter.mp hp).1, fun p hp x y hx hy he hq => ?_⟩
  have key : ∀ p ∈ linked S, acc ⟨S, L, (linked S).filter fun p => decide (ch.getD (lab l p) 0 = 1)⟩ p = decide (ch.getD (lab l p) 0 = 1) := fun p hp => by
    cases e : decide (ch.getD (lab l p) 0 = 1) with
    | true => exact (acc_iff _ _).mpr (List.mem_filter.mpr ⟨hp, e⟩)
    | false =>
      cases e2 : acc ⟨S, L, (linked S).filter fun p => decide (ch.getD (lab l p) 0 = 1)⟩ p with
      | false => rfl
      | true =>
        have := (List.mem_filter.mp ((acc_iff _ _).mp e2)).2
        rw [e] at this; cases this
  rw [key p hp, key _ hq, h.cl p hp x y hx hy he hq]
theorem i_tab (S : Sg) (x : Nat) (h : x < S.n) : idxO (tabD S) (.int (x : Int)) = some (.lst ((List.range S.n).map fun y => dN (S.f x y))) := i_rngM S.n (fun x => D.lst ((List.range S.n).map fun y => dN (S.f x y))) x h
theorem i_tabr (S : Sg) (x y : Nat) (h : y < S.n) : idxO (.lst ((List.range S.n).map fun y => dN (S.f x y))) (.int (y : Int)) = some (.int ((S.f x y : Nat) : Int)) := i_rngM S.n (fun y => dN (S.f x y)) y h
theorem reader_ok (n0 : Nat) (st : MO) (hst : IsS st) (rest : List MO) (c : Nat) (hc : c ≤ 1000) :
    (run (TL L) (n0 + 4) "_law_reader" [.ref 0, .int (c : Int)] (st :: rest)).Wp fun d m => ∃ (R : Rdr) (st' : MO), d = R.d ∧ m = st' :: rest ∧ IsS st' ∧ R.Good ∧ R.L.length = c ∧ R.S.n ≤ 9 ∧ R.A.Sublist (linked R.S) := by
  have hdr := hdraw (n0 + 2)
  have hta := fun st hst => table_ok n0 st hst rest
  have hmi := fun st hst n hn => mixed_ok (n0 + 1) st hst rest n hn
  have hli := fun S hS h9 mem => linked_ok (n0 + 2) S hS h9 mem
  have htu := fun S hS P hP hl mem => turns_ok (n0 + 2) S hS P hP hl mem
  rw [run_def T_reader rfl]
  generalize run (TL L) (n0 + 3) = cf at hdr hta hmi hli htu ⊢
  simp only [d__law_reader]
  obtain ⟨d1, m1, e1, S0, st1, rfl, rfl, hst1, hS0, h9⟩ := wp_get (hta st hst)
  obtain ⟨d2', m2, e2, P, st2, rfl, rfl, hst2, hP⟩ := wp_get (hmi st1 hst1 S0.n hS0.le)
  have lt : lenO (tabD S0) = some ((S0.n : Nat) : Int) := by show some _ = _; simp
  have rt : ∀ s : DL.S, drf s (tabD S0) = tabD S0 := fun _ => rfl
  have hPl := P_len hP
  have hS := conj_ok hP hS0 rfl
  dsimp! [e1, lt, rt, e2]
  rw [lc_w dN (fun k => dN (bk P k))]
  rotate_left
  · intro k hk
    have hk := List.mem_range.mp hk
    have ix := index_lst encN (by decide) k P (bk P k) (bk_at hP k hk).1
    have ix : indexO (dNs P) (.int (k : Int)) = some (.pl (.d (.int ((bk P k : Nat) : Int)))) := ix
    have i0 : kIx0 cf = kIx0 cf := rfl
    have lst : dNs P = .lst (P.map dN) := rfl
    rw [lst] at ix
    dsimp! [lst, ix]
  have ib : ∀ k, k < S0.n → idxO (.lst ((List.range S0.n).map fun k => dN (bk P k))) (.int (k : Int)) = some (.int ((bk P k : Nat) : Int)) := fun k hk => i_rngM S0.n (fun k => dN (bk P k)) k hk
  dsimp! []
  rw [lc_w dN (conjS P S0).row]
  rotate_left
  · intro x hx
    have hx := List.mem_range.mp hx
    have bx := (bk_at hP x hx).2.1
    dsimp! []
    rw [lc_w dN (fun y => dN ((conjS P S0).f x y))]
    · dsimp! []
      rfl
    · intro y hy
      have hy := List.mem_range.mp hy
      have b_y := (bk_at hP y hy).2.1
      have hv : S0.f (bk P x) (bk P y) < P.length := by rw [hPl]; exact hS0.lt _ _ bx b_y
      dsimp! [rt, r_Ns, ib _ hx, ib _ hy, i_tab _ _ bx, i_tabr _ _ _ b_y, i_Ns _ _ hv]
      rfl
  have hSd : D.tup ((List.range S0.n).map (conjS P S0).row) = (conjS P S0).d := rfl
  have hSn : (conjS P S0).n = S0.n := rfl
  generalize hSS : conjS P S0 = S at hS hSd hSn
  dsimp! [hSd]
  refine ld_w dN (fun mem => ∃ st, IsS st ∧ mem = st :: rest) (fun k => k < S0.n) _ _ _ _ ⟨_, hst2, rfl⟩ (fun d hd mem hm => ?_) fun Lt mem hLl hL hm => ?_
  · obtain ⟨st3, hst3, rfl⟩ := hm
    obtain ⟨y, st4, hy, hst4, hy1⟩ := hdr st3 hst3 rest S0.n S0.n rfl hS0.pos (by omega)
    dsimp! [hy]
    exact ⟨⟨_, rfl, hy1⟩, _, hst4, rfl⟩
  obtain ⟨st3, hst3, rfl⟩ := hm
  rw [List.length_map, List.length_range] at hLl
  have hPn : ∀ p ∈ linked S, p.1 < S.n ∧ p.2 < S.n := fun p hp => ⟨(mem_linked.mp hp).1, (mem_linked.mp hp).2.1⟩
  have hPlen : (linked S).length ≤ 81 := by
    have := linked_le (S := S) (by omega) (List.range S.n) (by rw [List.length_range]; omega)
    rw [List.length_range] at this
    unfold linked
    omega
  have e3 := hli S hS (by omega) (st3 :: rest)
  have e4 := htu S hS (linked S) hPn (by omega) (st3 :: rest)
  obtain ⟨hcl, hlab⟩ := names_cl (S := S) (P := linked S) (by omega)
  generalize rnds S (linked S) (linked S).length (initL (linked S)) = l at e4 hcl hlab
  have rp : ∀ s : DL.S, drf s (.lst ((linked S).map d2)) = .lst ((linked S).map d2) := fun _ => rfl
  have lp : ((linked S).map d2).length = (linked S).length := List.length_map ..
  dsimp! [r_S, e3, rp, e4, lp]
  refine ld_w dN (fun mem => ∃ st, IsS st ∧ mem = st :: rest) (fun k => k < 2) _ _ _ _ ⟨_, hst3, rfl⟩ (fun d hd mem hm => ?_) fun ch mem hcl2 hch hm => ?_
  · obtain ⟨st4, hst4, rfl⟩ := hm
    obtain ⟨y, st5, hy, hst5, hy1⟩ := hdr st4 hst4 rest 2 2 rfl (by decide) (by decide)
    dsimp! [hy]
    exact ⟨⟨_, rfl, hy1⟩, _, hst5, rfl⟩
  obtain ⟨st4, hst4, rfl⟩ := hm
  rw [List.length_map, List.length_range] at hcl2
  dsimp! [rp]
  rw [lf_w d2 (fun p => decide (ch.getD (lab l p) 0 = 1)) d2]
  · have tL : D.tup (Lt.map dN) = tNs Lt := rfl
    dsimp! [tL]
    exact ⟨⟨S, Lt, (linked S).filter fun p => decide (ch.getD (lab l p) 0 = 1)⟩, _, rfl, rfl, hst4, good_of hS Lt (fun x hx => by rw [hSn]; exact hL x hx) hcl ch, hLl, by show S.n ≤ 9; omega, List.filter_sublist⟩
  · intro p hp
    have h1 := hcl.ko.1 p hp
    have g1 := g_get l p h1
    have h2 : lab l p < ch.length := by rw [hcl2]; exact hlab p hp
    have i1 : idxO (.lst (ch.map dN)) (.int ((lab l p : Nat) : Int)) = some (.int ((ch.getD (lab l p) 0 : Nat) : Int)) := i_Ns ch _ h2
    have r2 : ∀ (s : DL.S) p, drf s (d2 p) = d2 p := fun _ _ => rfl
    cases e : decide (ch.getD (lab l p) 0 = 1) with
    | true =>
      have e' : decide (((ch.getD (lab l p) 0 : Nat) : Int) = 1) = true := decide_eq_true (by have := of_decide_eq_true e; omega)
      dsimp! [r2, g1, i1, e']
    | false =>
      have e' : decide (((ch.getD (lab l p) 0 : Nat) : Int) = 1) = false := decide_eq_false (fun z => of_decide_eq_false e (by omega))
      dsimp! [r2, g1, i1, e']
end DL
end

section
set_option maxRecDepth 100000
set_option maxHeartbeats 16000000
namespace DL
open PySem
/-! ### whole words, written otherwise -/
section
variable {S : Sg} (h : S.Ok)
include h
theorem fold_as (L : List Nat) (hL : ∀ x, x < L.length → L.getD x 0 < S.n) : ∀ (r : List Nat) (z t : Nat), z < S.n → t < S.n → (∀ x ∈ r, x < L.length) → r.foldl (fun v b => S.f v (L.getD b 0)) (S.f z t) = S.f z (r.foldl (fun v b => S.f v (L.getD b 0)) t)
  | [], z, t, _, _, _ => rfl
  | a :: r, z, t, hz, ht, hr => by
    have ha := hL a (hr a List.mem_cons_self)
    show r.foldl (fun v b => S.f v (L.getD b 0)) (S.f (S.f z t) (L.getD a 0)) = S.f z (r.foldl (fun v b => S.f v (L.getD b 0)) (S.f t (L.getD a 0)))
    rw [h.as _ _ _ hz ht ha]
    exact fold_as L hL r z _ hz (h.lt _ _ ht ha) fun x hx => hr x (List.mem_cons_of_mem _ hx)
theorem wv_app (L : List Nat) (hL : ∀ x, x < L.length → L.getD x 0 < S.n) {a b : List Nat} (ha : a ≠ []) (hb : b ≠ []) (h1 : ∀ x ∈ a, x < L.length) (h2 : ∀ x ∈ b, x < L.length) : wv S L (a ++ b) = S.f (wv S L a) (wv S L b) := by
  cases a with
  | nil => exact absurd rfl ha
  | cons a r =>
    cases b with
    | nil => exact absurd rfl hb
    | cons b q =>
      show (r ++ b :: q).foldl (fun v b => S.f v (L.getD b 0)) (L.getD a 0) = _
      rw [List.foldl_append]
      have hz : r.foldl (fun v b => S.f v (L.getD b 0)) (L.getD a 0) < S.n := fold_lt h L hL r _ (hL a (h1 a List.mem_cons_self)) fun x hx => h1 x (List.mem_cons_of_mem _ hx)
      exact fold_as h L hL q _ _ hz (hL b (h2 b List.mem_cons_self)) fun x hx => h2 x (List.mem_cons_of_mem _ hx)
/-- v to the e-th -/
def xp (S : Sg) (v e : Nat) : Nat := pw S v (e - 1)
variable {v : Nat} (hv : v < S.n)
include hv
theorem xp_lt (e : Nat) : xp S v e < S.n := pw_lt h hv _
theorem xp_add {a b : Nat} (ha : 1 ≤ a) (hb : 1 ≤ b) : S.f (xp S v a) (xp S v b) = xp S v (a + b) := by
  unfold xp
  rw [pw_add h hv]
  congr 1
  omega
theorem xp_mul {a : Nat} (ha : 1 ≤ a) (hi : S.f (xp S v a) (xp S v a) = xp S v a) : ∀ m, 1 ≤ m → xp S v (a * m) = xp S v a
  | 0, hm => by omega
  | 1, _ => by rw [Nat.mul_one]
  | m + 2, _ => by
    have e : a * (m + 2) = a * (m + 1) + a := by rw [Nat.mul_succ]
    have h1 : 1 ≤ a * (m + 1) := Nat.le_trans ha (Nat.le_mul_of_pos_right a (by omega))
    rw [e, ← xp_add h hv h1 ha, xp_mul ha hi (m + 1) (by omega), hi]
theorem settF_xp : ∃ a, 1 ≤ a ∧ settF S v = xp S v a ∧ S.f (xp S v a) (xp S v a) = xp S v a := by
  obtain ⟨k, _, e, hi, _⟩ := settF_pw h hv
  exact ⟨k + 1, by omega, e, hi⟩
theorem xp_xp {m : Nat} (hm : 1 ≤ m) : ∀ e, 1 ≤ e → xp S (xp S v m) e = xp S v (m * e)
  | 0, he => by omega
  | 1, _ => by rw [Nat.mul_one]; rfl
  | e + 2, _ => by
    have h1 : 1 ≤ m * (e + 1) := Nat.le_trans hm (Nat.le_mul_of_pos_right m (by omega))
    have ih := xp_xp hm (e + 1) (by omega)
    have e1 : xp S (xp S v m) (e + 2) = S.f (xp S (xp S v m) (e + 1)) (xp S v m) := rfl
    rw [e1, ih, xp_add h hv h1 hm, Nat.mul_succ m (e + 1)]
/-- the power that is its own square is one alone -/
theorem idem_one {a b : Nat} (ha : 1 ≤ a) (hb : 1 ≤ b) (h1 : S.f (xp S v a) (xp S v a) = xp S v a) (h2 : S.f (xp S v b) (xp S v b) = xp S v b) : xp S v a = xp S v b := by
  rw [← xp_mul h hv ha h1 b hb, Nat.mul_comm, xp_mul h hv hb h2 a ha]
theorem settF_pow {m : Nat} (hm : 1 ≤ m) : settF S (xp S v m) = settF S v := by
  obtain ⟨a, ha, e1, i1⟩ := settF_xp h hv
  obtain ⟨b, hb, e2, i2⟩ := settF_xp h (xp_lt h hv m)
  have hmb : 1 ≤ m * b := Nat.le_trans hm (Nat.le_mul_of_pos_right m (by omega))
  rw [e1, e2, xp_xp h hv hm b hb]
  rw [xp_xp h hv hm b hb] at i2
  exact idem_one h hv hmb ha i2 i1
end
section
variable {S : Sg} (h : S.Ok) {U W : Nat} (hU : U < S.n) (hW : W < S.n)
include h hU hW
/-- W (UW)^m U = (WU)^(m+1) -/
theorem xp_rot : ∀ m, 1 ≤ m → S.f (S.f W (xp S (S.f U W) m)) U = xp S (S.f W U) (m + 1)
  | 0, hm => by omega
  | 1, _ => by
    show S.f (S.f W (S.f U W)) U = S.f (S.f W U) (S.f W U)
    rw [← h.as _ _ _ hW hU hW, h.as _ _ _ (h.lt _ _ hW hU) hW hU]
  | m + 2, _ => by
    have ih := xp_rot (m + 1) (by omega)
    have hV := h.lt _ _ hU hW
    have hx := xp_lt h hV (m + 1)
    have e1 : xp S (S.f U W) (m + 2) = S.f (xp S (S.f U W) (m + 1)) (S.f U W) := rfl
    have e2 : xp S (S.f W U) (m + 2 + 1) = S.f (xp S (S.f W U) (m + 1 + 1)) (S.f W U) := rfl
    rw [e1, e2, ← ih, ← h.as _ _ _ hx hU hW, ← h.as _ _ _ hW (h.lt _ _ hx hU) hW, ← h.as _ _ _ hW hx hU, h.as _ _ _ (h.lt _ _ (h.lt _ _ hW hx) hU) hW hU]
/-- U (WU)^m = (UW)^m U -/
theorem xp_sh : ∀ m, 1 ≤ m → S.f U (xp S (S.f W U) m) = S.f (xp S (S.f U W) m) U
  | 0, hm => by omega
  | 1, _ => (h.as _ _ _ hU hW hU).symm
  | m + 2, _ => by
    have ih := xp_sh (m + 1) (by omega)
    have hV := h.lt _ _ hU hW
    have hV' := h.lt _ _ hW hU
    have hx := xp_lt h hV (m + 1)
    have hx' := xp_lt h hV' (m + 1)
    have e1 : xp S (S.f U W) (m + 2) = S.f (xp S (S.f U W) (m + 1)) (S.f U W) := rfl
    have e2 : xp S (S.f W U) (m + 2) = S.f (xp S (S.f W U) (m + 1)) (S.f W U) := rfl
    rw [e1, e2, ← h.as _ _ _ hU hx' hV', ih, h.as _ _ _ hx hU hV', h.as _ _ _ hx hV hU, h.as _ _ _ hU hW hU]
end
theorem turn_acc {R : Rdr} (g : R.Good) {s F x y : Nat} (hs : s < R.S.n) (hF : F < R.S.n) (hx : x < R.S.n) (hy : y < R.S.n) (h1 : R.S.f s F = s) (h2 : R.S.f F F = F) (h3 : R.S.f x y = F) (h4 : R.S.f (R.S.f y x) (R.S.f y x) = R.S.f y x) : acc R (s, F) = acc R (R.S.f s x, R.S.f y x) := by
  have h := g.ok.S
  refine g.turn (s, F) (mem_linked.mpr ⟨hs, hF, h1, h2⟩) x y hx hy h3 (mem_linked.mpr ⟨h.lt _ _ hs hx, h.lt _ _ hy hx, ?_, h4⟩)
  show R.S.f (R.S.f s x) (R.S.f y x) = R.S.f s x
  rw [← h.as _ _ _ (h.lt _ _ hs hx) hy hx, h.as _ _ _ hs hx hy, h3, h1]
/-- what stands ahead -/
def ap (R : Rdr) (b : List Nat) (z : Nat) : Nat := if b = [] then z else R.S.f (wv R.S R.L b) z
theorem pairOf_ap (R : Rdr) (b r : List Nat) : pairOf R (b, r) = (ap R b (settF R.S (wv R.S R.L r)), settF R.S (wv R.S R.L r)) := by
  unfold pairOf ap
  by_cases e : b = []
  · subst e; rfl
  · rw [if_neg (show ¬ (b, r).1 = [] from e), if_neg e]
section
variable {R : Rdr} (h : R.Ok) {b : List Nat} (hb : ∀ x ∈ b, x < R.L.length)
include h hb
theorem ap_lt {z : Nat} (hz : z < R.S.n) : ap R b z < R.S.n := by
  unfold ap
  split
  · exact hz
  · rename_i e; exact h.S.lt _ _ (wv_lt h e hb) hz
theorem ap_mul {z t : Nat} (hz : z < R.S.n) (ht : t < R.S.n) : R.S.f (ap R b z) t = ap R b (R.S.f z t) := by
  unfold ap
  split
  · rfl
  · rename_i e; exact h.S.as _ _ _ (wv_lt h e hb) hz ht
theorem ap_app {u : List Nat} (hu : u ≠ []) (hu2 : ∀ x ∈ u, x < R.L.length) {z : Nat} (hz : z < R.S.n) : ap R (b ++ u) z = ap R b (R.S.f (wv R.S R.L u) z) := by
  have hne : b ++ u ≠ [] := fun e => hu (List.append_eq_nil_iff.mp e).2
  unfold ap
  rw [if_neg hne]
  by_cases e : b = []
  · subst e; rw [if_pos rfl]; rfl
  · rw [if_neg e, wv_app h.S R.L (L_lt h) e hu hb hu2, h.S.as _ _ _ (wv_lt h e hb) (wv_lt h hu hu2) hz]
end
/-- the round once more ahead -/
theorem acc_round {R : Rdr} (g : R.Good) {b r : List Nat} (hb : ∀ x ∈ b, x < R.L.length) (hn : r ≠ []) (hr : ∀ x ∈ r, x < R.L.length) : acc R (pairOf R (b ++ r, r)) = acc R (pairOf R (b, r)) := by
  have h := g.ok.S
  have hV := wv_lt g.ok hn hr
  rw [pairOf_ap, pairOf_ap]
  obtain ⟨a, ha, e, hi⟩ := settF_xp h hV
  have hF := settF_lt h hV
  rw [ap_app g.ok hb hn hr hF]
  rw [e] at hF ⊢
  generalize wv R.S R.L r = V at hV hi hF
  have x1 : R.S.f (xp R.S V (a + 1)) (xp R.S V (2 * a - 1)) = xp R.S V a := by
    rw [xp_add h hV (by omega) (by omega), show a + 1 + (2 * a - 1) = a * 3 by omega, xp_mul h hV ha hi 3 (by omega)]
  have x2 : R.S.f (xp R.S V (2 * a - 1)) (xp R.S V (a + 1)) = xp R.S V a := by
    rw [xp_add h hV (by omega) (by omega), show 2 * a - 1 + (a + 1) = a * 3 by omega, xp_mul h hV ha hi 3 (by omega)]
  have t := turn_acc g (s := ap R b (xp R.S V a)) (F := xp R.S V a) (x := xp R.S V (a + 1)) (y := xp R.S V (2 * a - 1)) (ap_lt g.ok hb hF) hF (xp_lt h hV _) (xp_lt h hV _) (by rw [ap_mul g.ok hb hF hF, hi]) hi x1 (by rw [x2, hi])
  rw [t, x2, ap_mul g.ok hb hF (xp_lt h hV _)]
  have e1 : R.S.f V (xp R.S V a) = xp R.S V (a + 1) := by
    have := xp_add h hV (a := 1) (b := a) (Nat.le_refl _) ha
    rw [Nat.add_comm] at this
    exact this
  have e2 : R.S.f (xp R.S V a) (xp R.S V (a + 1)) = xp R.S V (a + 1) := by
    have : xp R.S V (a + 1) = R.S.f (xp R.S V a) V := by
      have := xp_add h hV (a := a) (b := 1) ha (Nat.le_refl _)
      exact this.symm
    rw [this, ← h.as _ _ _ hF hF hV, hi]
  rw [e1, e2]
/-- turned -/
theorem acc_turned {R : Rdr} (g : R.Good) {b u w : List Nat} (hb : ∀ x ∈ b, x < R.L.length) (hu : ∀ x ∈ u, x < R.L.length) (hw : ∀ x ∈ w, x < R.L.length) (hn : u ++ w ≠ []) : acc R (pairOf R (b ++ u, w ++ u)) = acc R (pairOf R (b, u ++ w)) := by
  by_cases hu0 : u = []
  · subst hu0
    rw [List.append_nil, List.append_nil, List.nil_append]
  by_cases hw0 : w = []
  · subst hw0
    rw [List.nil_append, List.append_nil]
    exact acc_round g hb hu0 hu
  have h := g.ok.S
  have hU := wv_lt g.ok hu0 hu
  have hW := wv_lt g.ok hw0 hw
  rw [pairOf_ap, pairOf_ap, wv_app h R.L (L_lt g.ok) hu0 hw0 hu hw, wv_app h R.L (L_lt g.ok) hw0 hu0 hw hu]
  generalize hUe : wv R.S R.L u = U at hU
  generalize wv R.S R.L w = W at hW
  have hV := h.lt _ _ hU hW
  have hV' := h.lt _ _ hW hU
  obtain ⟨a, ha, e1, i1⟩ := settF_xp h hV
  obtain ⟨c, hc, e2, i2⟩ := settF_xp h hV'
  have hG := settF_lt h hV'
  rw [ap_app g.ok hb hu0 hu hG, hUe, e1, e2]
  rw [e2] at hG
  have hF := xp_lt h hV a
  have hN : 1 ≤ a * c := Nat.le_trans ha (Nat.le_mul_of_pos_right a (by omega))
  have F3 : ∀ m, 1 ≤ m → xp R.S (R.S.f U W) (a * c * m) = xp R.S (R.S.f U W) a := fun m hm => by
    rw [Nat.mul_assoc]; exact xp_mul h hV ha i1 _ (Nat.le_trans hc (Nat.le_mul_of_pos_right c (by omega)))
  have G3 : ∀ m, 1 ≤ m → xp R.S (R.S.f W U) (a * c * m) = xp R.S (R.S.f W U) c := fun m hm => by
    rw [Nat.mul_comm a c, Nat.mul_assoc]; exact xp_mul h hV' hc i2 _ (Nat.le_trans ha (Nat.le_mul_of_pos_right a (by omega)))
  have F1 := F3 1 (by omega)
  have F3' := F3 3 (by omega)
  have G1 := G3 1 (by omega)
  have G3' := G3 3 (by omega)
  rw [Nat.mul_one] at F1 G1
  generalize a * c = N at hN F1 F3' G1 G3'
  have hx1 := xp_lt h hV N
  have hx2 := xp_lt h hV (2 * N - 1)
  have x1 : R.S.f (R.S.f (xp R.S (R.S.f U W) N) U) (R.S.f W (xp R.S (R.S.f U W) (2 * N - 1))) = xp R.S (R.S.f U W) a := by
    rw [← h.as _ _ _ (h.lt _ _ hx1 hU) hW hx2, h.as _ _ _ hx1 hU hW]
    have e3 : R.S.f (xp R.S (R.S.f U W) N) (R.S.f U W) = xp R.S (R.S.f U W) (N + 1) := xp_add h hV (a := N) (b := 1) hN (Nat.le_refl _)
    rw [e3, xp_add h hV (by omega) (by omega), show N + 1 + (2 * N - 1) = N * 3 by omega, F3']
  have x2 : R.S.f (R.S.f W (xp R.S (R.S.f U W) (2 * N - 1))) (R.S.f (xp R.S (R.S.f U W) N) U) = xp R.S (R.S.f W U) c := by
    rw [← h.as _ _ _ (h.lt _ _ hW hx2) hx1 hU, h.as _ _ _ hW hx2 hx1, xp_add h hV (by omega) hN, xp_rot h hU hW _ (by omega), show 2 * N - 1 + N + 1 = N * 3 by omega, G3']
  have t := turn_acc g (s := ap R b (xp R.S (R.S.f U W) a)) (F := xp R.S (R.S.f U W) a) (ap_lt g.ok hb hF) hF (h.lt _ _ hx1 hU) (h.lt _ _ hW hx2) (by rw [ap_mul g.ok hb hF hF, i1]) i1 x1 (by rw [x2, i2])
  rw [t, x2, ap_mul g.ok hb hF (h.lt _ _ hx1 hU)]
  have e4 : R.S.f (xp R.S (R.S.f U W) a) (R.S.f (xp R.S (R.S.f U W) N) U) = R.S.f U (xp R.S (R.S.f W U) c) := by
    rw [← h.as _ _ _ hF hx1 hU, F1, i1, ← G1, xp_sh h hU hW N hN, F1]
  rw [e4]
theorem wv_rep {R : Rdr} (h : R.Ok) {r : List Nat} (hn : r ≠ []) (hr : ∀ x ∈ r, x < R.L.length) : ∀ m, 1 ≤ m → wv R.S R.L (List.replicate m r).flatten = xp R.S (wv R.S R.L r) m
  | 0, hm => by omega
  | 1, _ => by simp [List.replicate_succ]; rfl
  | m + 2, _ => by
    have hV := wv_lt h hn hr
    have ih := wv_rep h hn hr (m + 1) (by omega)
    rw [List.replicate_succ, List.flatten_cons, wv_app h.S R.L (L_lt h) hn ?_ hr ?_, ih]
    · have := xp_add h.S hV (a := 1) (b := m + 1) (Nat.le_refl _) (by omega)
      rw [show 1 + (m + 1) = m + 2 by omega] at this
      exact this
    · rw [List.replicate_succ, List.flatten_cons]
      exact fun z => hn (List.append_eq_nil_iff.mp z).1
    · intro x hx
      obtain ⟨l, h1, h2⟩ := List.mem_flatten.mp hx
      rw [List.eq_of_mem_replicate h1] at h2
      exact hr x h2
/-- the round m times -/
theorem pair_rep {R : Rdr} (h : R.Ok) {b r : List Nat} (hn : r ≠ []) (hr : ∀ x ∈ r, x < R.L.length) {m : Nat} (hm : 1 ≤ m) : pairOf R (b, (List.replicate m r).flatten) = pairOf R (b, r) := by
  rw [pairOf_ap, pairOf_ap, wv_rep h hn hr m hm, settF_pow h.S (wv_lt h hn hr) hm]
end DL
end

section
set_option maxRecDepth 100000
set_option maxHeartbeats 16000000
namespace DL
open PySem
theorem T_listed : TL L "listed" = some d_listed := rfl
theorem T_prow : TL L "product_row" = some d_product_row := rfl
theorem T_made : TL L "made_reader" = some d_made_reader := rfl
theorem T_tidy : TL L "tidy" = some d_tidy := rfl
theorem T_tinit : TL L "Table.__init__" = some d_Table___init__ := rfl
theorem T_tletter : TL L "Table.letter" = some d_Table_letter := rfl
theorem T_tjoin : TL L "Table.join" = some d_Table_join := rfl
theorem T_ttakes : TL L "Table.takes" = some d_Table_takes := rfl
section
variable {α : Type} [DecidableEq α]
def dI (e : KEnc α) (p : Itm α) : D := .tup [e.d p.1, dNs p.2]
/-- the numbers of what is found -/
def fdL (o : List (Itm α)) : List (α × Nat) := o.zipIdx.map fun p => (p.1.1, p.2)
theorem fdL_snoc (o : List (Itm α)) (p : Itm α) : fdL (o ++ [p]) = fdL o ++ [(p.1, o.length)] := by
  unfold fdL
  rw [List.zipIdx_append, List.map_append]
  simp
theorem fdL_len (o : List (Itm α)) : (fdL o).length = o.length := by unfold fdL; simp
theorem fdL_keys (o : List (Itm α)) : (fdL o).map (·.1) = o.map (·.1) := by
  unfold fdL
  rw [List.map_map]
  have : ((fun x : α × Nat => x.1) ∘ fun p : Itm α × Nat => (p.1.1, p.2)) = (fun p : Itm α => p.1) ∘ Prod.fst := rfl
  rw [this, ← List.map_map]
  simp
theorem fdL_has (o : List (Itm α)) (x : α) : (lkA (fdL o) x).isSome = hasV o x := by
  have h1 := lkA_mem (fdL o) x
  rw [fdL_keys] at h1
  have h2 := hasV_iff (o := o) (x := x)
  cases a : hasV o x with
  | true => exact h1.mpr (h2.mp a)
  | false =>
    cases b : (lkA (fdL o) x).isSome with
    | false => rfl
    | true => rw [h2.mpr (h1.mp b)] at a; cases a
theorem fdL_put (o : List (Itm α)) (p : Itm α) (h : hasV o p.1 = false) : putA (fdL o) p.1 o.length = fdL (o ++ [p]) := by
  unfold putA
  rw [fdL_has, h, fdL_snoc]
  rfl
theorem bfs_len (c : Nat) (lt : Nat → α) (jn : α → α → α) : ∀ k, (∀ p ∈ ordK c lt jn k, p.2.length ≤ k) ∧ ∀ p ∈ wtK c lt jn k, p.2.length ≤ k + 1
  | 0 => ⟨(fun _ z => nomatch z), fun p hp => by
    obtain ⟨a, _, rfl⟩ := List.mem_map.mp hp
    simp⟩
  | k + 1 => by
    obtain ⟨h1, h2⟩ := bfs_len c lt jn k
    obtain ⟨e, he, hm⟩ := addAll_pre (wtK c lt jn k) (ordK c lt jn k)
    have ho : ∀ p ∈ ordK c lt jn (k + 1), p.2.length ≤ k + 1 := fun p hp => by
      have hp : p ∈ addAll (ordK c lt jn k) (wtK c lt jn k) := hp
      rw [he] at hp
      rcases List.mem_append.mp hp with hp | hp
      · exact Nat.le_succ_of_le (h1 p hp)
      · exact h2 p (hm p hp)
    refine ⟨ho, fun p hp => ?_⟩
    obtain ⟨q, hq, a, _, rfl⟩ := (mem_nxt c lt jn).mp hp
    have := ho q (List.mem_of_mem_drop hq)
    simp
    omega
theorem nxt_len (c : Nat) (lt : Nat → α) (jn : α → α → α) (fr : List (Itm α)) : (nxt c lt jn fr).length = fr.length * c := by
  unfold nxt
  exact flat_len _ c (fun p => by simp) fr
theorem nxt_snoc (c : Nat) (lt : Nat → α) (jn : α → α → α) (fr : List (Itm α)) (p : Itm α) : nxt c lt jn (fr ++ [p]) = nxt c lt jn fr ++ (List.range c).map fun a => (jn p.1 (lt a), p.2 ++ [a]) := by
  unfold nxt
  rw [List.flatMap_append]
  simp
end
end DL
end

section
set_option maxRecDepth 100000
set_option maxHeartbeats 16000000
namespace DL
open PySem
local macro_rules | `(tactic| dsimp! [$ls,*]) => `(tactic| simp (disch := (first | assumption | omega | (simp only [List.length_cons, List.length_nil, List.length_map, List.length_range, List.length_append]; omega))) only [f_bool, f_int, f_bl, f_non, f_str, f_glob, f_bin, f_cmp, f_idx, f_neg, f_chain, f_not, f_ite, f_slc, f_tup, f_lst, f_call, f_blt, f_lrg1, f_lrg2, f_lc, f_gx, f_Anil, f_A, f_B1, f_B, f_C0, f_C1, f_seq, f_rng1, f_rng2, f_enum, f_zip, f_rev, b_ok, b_exc, b_of, b_O, b_map, b_2, b_ob, a_2, a_Bin, a_Cmp, a_Idx, a_fC, a_fI, a_wB, a_wD, a_asB, a_asI, a_Neg, a_Neg2, a_Ch, a_Ch2, a_Ch3t, a_Ch3f, a_Not, a_Not2, a_Ite, a_Ite2t, a_Ite2f, a_Tup, a_Tup2, a_Lst, a_Lst2, a_Cl, a_Cl2, a_Cl3, a_inM, a_inX, a_Blt, a_Lr1, a_Lr2, a_Lr3, a_Sm, a_Bd, a_evBh, a_slcV, a_Sl2, a_Sl, a_turnC, a_C0, a_C1t, a_C1f, a_C2, a_C3, a_turnG, a_G0, a_G1t, a_G1f, a_G2, a_G3, a_Lc, a_Lc2, a_Gx, a_Gx2, a_A2, a_A, a_B, a_B2tt, a_B2tf, a_B2ff, a_B2ft, a_C, a_Seq, a_Seq2, a_R1, a_R2, a_R2', a_R3, a_En, a_En2, a_Z, a_Z2, a_Z3, a_Z4, a_Rv, a_Rv2, v_d, v_s, v_val, v_own, r_non, r_bl, r_int, r_str, r_tup, r_lst, c_d, c_s, c_val, c_own, s_nil, s_cons, s_1, s_2, vs_nil, vs_cons, vs_c, f_var, w_val, w_own, p_pl, p_mo, t_lst, o_addI, o_addS, o_addL, o_addT, o_sub, o_mulN, o_fdiv, o_mod, q_lt, q_le, q_gt, q_ge, q_eq, q_ne, q_is, q_isN, q_isNb, q_isNi, q_isNt, q_not, q_notN, q_notNb, q_notNi, q_notNt, q_in, q_nin, u_bl, u_int, u_lst, u_tup, i_lst, i_tup, i_0, i_1, i_2, i_3, i_4, l_lst, l_tup, z_lst, z_tup, a_wI, t_len, t_max, t_min, t_int, t_intb, t_all, t_any, t_listL, t_listT, t_listS, t_tupL, t_tupT, g_lst, g_tup, n_name, n_tup, n_nil, n_cons, n_kas, y_skip, y_seq, y_asg, y_own, y_shr, y_par, y_aug, y_put, y_app, y_ext, y_iff, y_ret, y_retN, y_brk, y_cont, y_exp, y_whl, y_for, j_Sn, j_Sr, j_Sb, j_Sc, j_N, j_A2, j_A, j_O, j_H, j_P4, j_P3, j_P2, j_P, j_G0, j_G, j_G2, j_U5, j_U4, j_U3, j_U2, j_U, j_L3, j_L2, j_L1, j_L0, j_L, j_X2, j_X, j_X0, j_It, j_If, j_I, j_R2, j_R, j_E, j_W, j_whlC, j_T, j_turnF, j_F, m_rt, m_nx, m_exc, ap_s, ap_r, ap_o, ap_v, ex_s, ex_o, pu_s, pu_o, pu_v, au_add, au_sub, au_mul, au_fdiv, au_mod, fq_rt, fq_nx, gq_nx, gq_ct, gq_rt, gq_bk, isB_eq, isI_eq, isT_eq, rg1_n, lst1_n, a_evBd, isHole, eqO_int, wp_ok, wp_bind, wp_fin, List.length_cons, List.length_nil, List.getElem?_cons_zero, List.getElem?_cons_succ, List.getElem?_nil, List.set_cons_zero, List.set_cons_succ, if_true, if_false, Bool.false_eq_true, wipeE, back, Nat.reduceAdd, decide_true, decide_false, Bool.not_true, Bool.not_false, List.map_cons, List.map_nil, List.replicate, List.cons_append, List.nil_append, Nat.add_one_sub_one, Nat.reduceSub, Nat.sub_self, List.isEmpty_nil, List.isEmpty_cons, k_tk, eq_self, and_true, true_and, and_self, Option.some.injEq, f_kin, f_kix, f_pop, f_popAt, f_isi, f_index, f_rng3, isS_eq, a_asS, a_Ki, a_Ki2f, a_Ki2t, a_Kx, a_Kx2, a_Pop, a_Pop1, a_Pop2, a_Pa, a_Pa0, a_Pa1, a_Pa2, a_Isi, a_fIsi, a_Ix, a_Ix0, a_Ix1, a_R36, a_R35, a_R34, a_R33, a_R32, po_s, po_v, r_scr, Option.isSome_some, Option.isSome_none, f_fresh, a_Fr, r_ref, r_refL, ap_mW, ap_mL, po_mW, f_dnew, f_trg1, a_Tr1, trR_n, pu_od, r_dct, l_dct, t_dct, f_dc, a_turnU, a_U0, a_U1t, a_U1f, a_U2, a_U3, a_U4, a_U5, a_Dc, a_Dc2, f_kget, a_Kg, a_Kg2, f_gmax, a_turnM, a_M0, a_M1t, a_M1f, a_M2, a_M3, a_Gm, a_Gm2, f_fld, a_Fld, a_Fld2, in_r, in_s, in_v, in_m, fl_w, fl_1, fl_2, ct_1, tl_1, f_meth, a_Me, a_Me2, a_Me3, a_Me4, mt_w, mt_1, mt_2, mt_3, f_new, a_Nw, a_Nw2, a_Nw3, x_fst, j_Fs, j_Fs2, j_Fs3, fs_w, fs_1, r_refI, a_En2t, f_lc2, a_L2, a_turn2C, a_2C0, a_2Ct, a_2Cf, a_D1, x_tryN, $ls,*])
section
variable {α : Type} [DecidableEq α]
/-- the methods of a table that lies at n, in the store mem -/
structure TbAt (cf : CF) (T : Tb α) (e : KEnc α) (n : Nat) (mem : List MO) (C : String) (fs : List (Str × D)) (fL fJ fT : String) : Prop where
  rd : ∀ (s : S) x, drf s (e.d x) = e.d x
  at_ : mem[n]? = some (.ins C fs)
  noL : fs.lookup ("letter" : Str) = none
  noJ : fs.lookup ("join" : Str) = none
  noT : fs.lookup ("takes" : Str) = none
  letter : ∀ a : Nat, a < T.c → cf fL [.ref n, .int (a : Int)] mem = .ok (e.d (T.lt a)) mem
  join : ∀ x y, x ∈ T.dm → y ∈ T.dm → cf fJ [.ref n, e.d x, e.d y] mem = .ok (e.d (T.jn x y)) mem
  takes : ∀ x y, x ∈ T.dm → y ∈ T.dm → cf fT [.ref n, e.d x, e.d y] mem = .ok (.bl (T.tk x y)) mem
theorem r_I (e : KEnc α) (s : S) (p : Itm α) : drf s (dI e p) = dI e p := Eq.trans rfl rfl
theorem listed_ok (n0 : Nat) (T : Tb α) (hT : T.Ok) (e : KEnc α) (n : Nat) (mem : List MO) (C : String) (fs : List (Str × D)) (fL fJ fT : String) (h3 : T.dm.length ≤ 300) (hc : T.c ≤ 1000)
    (h : TbAt (run (TL L) n0) T e n mem C fs fL fJ fT) (tL : List.lookup C [("Table", "Table.letter")] = some fL) (tJ : List.lookup C [("Table", "Table.join")] = some fJ) :
    run (TL L) (n0 + 1) "listed" [.ref n, .int (T.c : Int)] mem = .ok (.lst (T.ord.map (dI e))) mem := by
  rw [run_def T_listed rfl]
  generalize run (TL L) n0 = cf at h ⊢
  obtain ⟨rd, hat, noL, noJ, _, hl, hj, _⟩ := h
  simp only [d_listed]
  refine wp_eq ?_
  have l1 : ∀ a, D.tup [e.d (T.lt a), .lst [.int (a : Int)]] = dI e (T.lt a, [a]) := fun a => rfl
  dsimp! []
  rw [lc_w dN fun a => dI e (T.lt a, [a])]
  rotate_left
  · intro a ha
    have ha := List.mem_range.mp ha
    dsimp! [hat, noL, tL, hl a ha, rd, l1]
  have w0 : (List.range T.c).map (fun a => dI e (T.lt a, [a])) = (T.wK 0).map (dI e) := by
    show _ = ((List.range T.c).map fun a => (T.lt a, [a])).map (dI e)
    rw [List.map_map]
    rfl
  dsimp! [w0]
  refine wp_whl0 (k := T.dm.length + 1) (fun k s => ∃ j s6 s7 s8 s9 s10, k = T.dm.length + 1 - j ∧ j ≤ T.dm.length ∧ (∀ i, i < j → T.oK (i + 1) ≠ T.oK i) ∧ s = ⟨[.val (.ref n), .val (.int (T.c : Int)), .own (.dct (dctM e dN (fdL (T.oK j)))), .own (.lst ((T.oK j).map (dI e))), .own (.lst (((T.wK j).filter fun p => !hasV (T.oK j) p.1).map (dI e))), .val (.int ((T.oK j).length : Int)), s6, s7, s8, s9, s10], mem⟩) (by omega) ⟨0, .non, .non, .non, .non, .non, by omega, Nat.zero_le _, fun i hi => by omega, ?_⟩ ?_
  · have f0 : ((T.wK 0).filter fun p => !hasV (T.oK 0) p.1) = T.wK 0 := List.filter_eq_self.mpr fun p _ => rfl
    rw [f0]
    rfl
  intro k s ⟨j, s6, s7, s8, s9, s10, hk, hjm, hst, hs⟩
  subst hs
  obtain ⟨bl1, bl2⟩ := bfs_len T.c T.lt T.jn j
  have bij := bi T.c T.lt T.jn j
  generalize hw : ((T.wK j).filter fun p => !hasV (T.oK j) p.1) = w
  have hwm : ∀ p ∈ w, p ∈ T.wK j ∧ hasV (T.oK j) p.1 = false := fun p hp => by
    rw [← hw] at hp
    have := List.mem_filter.mp hp
    exact ⟨this.1, by simpa using this.2⟩
  have eo : addAll (T.oK j) w = T.oK (j + 1) := by
    rw [← hw]
    exact addAll_filter (T.oK j) (T.wK j) (T.oK j) fun _ z => z
  have rdl : ∀ (s : DL.S) (l : List (Itm α)), drf s (.lst (l.map (dI e))) = .lst (l.map (dI e)) := fun _ _ => rfl
  have ll : ∀ l : List (Itm α), (l.map (dI e)).length = l.length := fun l => List.length_map ..
  have le3 := fun k => hT.len_le k
  cases w with
  | nil =>
    have e1 : T.oK (j + 1) = T.oK j := eo.symm
    have e2 := hT.ord_eq hjm e1
    dsimp! [List.map_nil]
    rw [e2]
  | cons p0 w0' =>
    generalize hww : p0 :: w0' = w at *
    have hne : w ≠ [] := by rw [← hww]; simp
    have tw : truO (.lst (w.map (dI e))) = some true := by
      rw [← hww]
      rfl
    dsimp! [tw]
    refine wp_for0 (dI e) (fun done s => ∃ s8 s9, s = ⟨[.val (.ref n), .val (.int (T.c : Int)), .own (.dct (dctM e dN (fdL (addAll (T.oK j) done)))), .own (.lst ((addAll (T.oK j) done).map (dI e))), .val (.lst (w.map (dI e))), .val (.int ((T.oK j).length : Int)), .own (.lst []), s7, s8, s9, s10], mem⟩) ⟨s8, s9, rfl⟩ ?_ ?_
    · intro done p rest s hwe ⟨s8, s9, hs⟩
      subst hs
      have hlen : (addAll (T.oK j) done).length ≤ (addAll (T.oK j) w).length := by
        obtain ⟨e', he', _⟩ := addAll_pre (p :: rest) (addAll (T.oK j) done)
        have : addAll (T.oK j) w = addAll (addAll (T.oK j) done) (p :: rest) := by
          rw [hwe]
          exact List.foldl_append ..
        rw [this, he', List.length_append]
        omega
      rw [eo] at hlen
      have h4 := le3 (j + 1)
      have es : addAll (T.oK j) (done ++ [p]) = addO (addAll (T.oK j) done) p := by
        show List.foldl _ _ _ = _
        rw [List.foldl_append]
        rfl
      generalize addAll (T.oK j) done = o at *
      have pe : dI e p = .tup [e.d p.1, dNs p.2] := rfl
      have ni := dk_in e dN (fdL o) p.1
      rw [fdL_has] at ni
      cases hp : hasV o p.1 with
      | true =>
        rw [hp] at ni
        have ea : addO o p = o := if_pos hp
        rw [es, ea]
        dsimp! [pe, rd, r_dct, ni]
        exact ⟨_, _, rfl⟩
      | false =>
        rw [hp] at ni
        have ea : addO o p = o ++ [p] := if_neg (by rw [hp]; decide)
        rw [es, ea]
        have pk := dk_put e dN (fdL o) p.1 o.length (by rw [fdL_len]; omega)
        rw [fdL_put o p hp] at pk
        have pk : putKV (dctM e dN (fdL o)) (e.d p.1) (.int (o.length : Int)) = some (dctM e dN (fdL (o ++ [p]))) := pk
        have ep : ∀ l : List (Itm α), l.map (dI e) ++ [.tup [e.d p.1, dNs p.2]] = (l ++ [p]).map (dI e) := fun l => by
          rw [List.map_append]
          rfl
        dsimp! [pe, rd, r_dct, ni, ll, pk, ep]
        exact ⟨_, _, rfl⟩
    intro s ⟨s8, s9, hs⟩
    subst hs
    rw [eo]
    have h4 := le3 (j + 1)
    have d3 : decide ((300 : Int) < ((T.oK (j + 1)).length : Int)) = false := decide_eq_false (by omega)
    have sl : slcO (.lst ((T.oK (j + 1)).map (dI e))) (some ((T.oK j).length : Int)) none = some (.mo (.lst (((T.oK (j + 1)).drop (T.oK j).length).map (dI e)))) := by
      rw [z_lst, cut_drop, List.map_drop]
    obtain ⟨bn1, bn2⟩ := bfs_len T.c T.lt T.jn (j + 1)
    have bij1 := bi T.c T.lt T.jn (j + 1)
    have hfr : ∀ p ∈ (T.oK (j + 1)).drop (T.oK j).length, p ∈ T.oK (j + 1) := fun p hp => List.mem_of_mem_drop hp
    have hfl : ((T.oK (j + 1)).drop (T.oK j).length).length ≤ 300 := by rw [List.length_drop]; omega
    have enx : T.wK (j + 1) = nxt T.c T.lt T.jn ((T.oK (j + 1)).drop (T.oK j).length) := rfl
    generalize hfe : (T.oK (j + 1)).drop (T.oK j).length = fr at hfr hfl enx sl
    have jlt : j + 1 ≤ T.dm.length := by
      rcases grow T.c T.lt T.jn (j + 1) with ⟨i, hi, ei⟩ | hg
      · by_cases hij : i < j
        · exact absurd ei (hst i hij)
        · have : i = j := by omega
          subst this
          have ei : T.oK (i + 1) = T.oK i := ei
          have hp := hwm p0 (by rw [← hww]; exact List.mem_cons_self)
          have h5 := addAll_has w (T.oK i) p0 (by rw [← hww]; exact List.mem_cons_self)
          rw [eo, ei, hp.2] at h5
          cases h5
      · have hg : j + 1 ≤ (T.oK (j + 1)).length := hg
        omega
    have nst : T.oK (j + 1) ≠ T.oK j := fun z => by
      have hp := hwm p0 (by rw [← hww]; exact List.mem_cons_self)
      have h5 := addAll_has w (T.oK j) p0 (by rw [← hww]; exact List.mem_cons_self)
      rw [eo, z, hp.2] at h5
      cases h5
    dsimp! [ll, rdl, d3, sl, r_dct]
    refine wp_for0 (dI e) (fun done s => ∃ s7 s8 s9, s = ⟨[.val (.ref n), .val (.int (T.c : Int)), .own (.dct (dctM e dN (fdL (T.oK (j + 1))))), .own (.lst ((T.oK (j + 1)).map (dI e))), .val (.lst (w.map (dI e))), .val (.int ((T.oK j).length : Int)), .own (.lst ((nxt T.c T.lt T.jn done).map (dI e))), s7, s8, s9, s10], mem⟩) ⟨s7, s8, s9, rfl⟩ ?_ ?_
    · intro done p rest s hfe2 ⟨s7, s8, s9, hs⟩
      subst hs
      have hpm : p ∈ fr := by rw [hfe2]; simp
      have hpd := hT.okI_dm (bij1.ok p (hfr p hpm))
      have hpl := bn1 p (hfr p hpm)
      have hdl : done.length ≤ 300 := by
        have := congrArg List.length hfe2
        simp at this
        omega
      have hnl : (nxt T.c T.lt T.jn done).length ≤ 300000 := by
        rw [nxt_len]
        exact Nat.mul_le_mul hdl hc
      have pe : dI e p = .tup [e.d p.1, dNs p.2] := rfl
      have ad : ∀ a : Nat, binO .add (dNs p.2) (.lst [.int (a : Int)]) = some (.mo (.lst ((p.2 ++ [a]).map dN))) := fun a => by
        show binO .add (.lst (p.2.map dN)) (.lst [.int (a : Int)]) = _
        rw [o_addL _ _ (by rw [List.length_map]; simp; omega), List.map_append]
        rfl
      have it : ∀ a : Nat, D.tup [e.d (T.jn p.1 (T.lt a)), .lst ((p.2 ++ [a]).map dN)] = dI e (T.jn p.1 (T.lt a), p.2 ++ [a]) := fun a => rfl
      dsimp! [pe, rd]
      rw [lc_w dN fun a => dI e (T.jn p.1 (T.lt a), p.2 ++ [a])]
      rotate_left
      · intro a ha
        have ha := List.mem_range.mp ha
        dsimp! [hat, noL, noJ, tL, tJ, hl a ha, hj _ _ hpd (hT.lt a ha), rd, r_Ns, ad, it]
      have em : (List.range T.c).map (fun a => dI e (T.jn p.1 (T.lt a), p.2 ++ [a])) = ((List.range T.c).map fun a => (T.jn p.1 (T.lt a), p.2 ++ [a])).map (dI e) := by
        rw [List.map_map]
        rfl
      have ex2 : (nxt T.c T.lt T.jn done).map (dI e) ++ ((List.range T.c).map fun a => (T.jn p.1 (T.lt a), p.2 ++ [a])).map (dI e) = (nxt T.c T.lt T.jn (done ++ [p])).map (dI e) := by
        rw [← List.map_append, ← nxt_snoc]
      rw [em]
      have lm : (((List.range T.c).map fun a => (T.jn p.1 (T.lt a), p.2 ++ [a])).map (dI e)).length = T.c := by simp
      dsimp! [ll, lm, ex2]
      exact ⟨_, _, _, rfl⟩
    intro s ⟨s7, s8, s9, hs⟩
    subst hs
    have hwl : (T.wK (j + 1)).length ≤ 300000 := by
      rw [enx, nxt_len]
      exact Nat.mul_le_mul hfl hc
    rw [← enx]
    have pe : ∀ p, dI e p = .tup [e.d p.1, dNs p.2] := fun _ => rfl
    have i0 : ∀ p : Itm α, idxO (dI e p) (.int 0) = some (e.d p.1) := fun p => i_0 _ _
    dsimp! [ll, rdl]
    rw [lf_w (dI e) (fun p => !hasV (T.oK (j + 1)) p.1) (dI e)]
    rotate_left
    · intro p hp
      have ni := dk_in e dN (fdL (T.oK (j + 1))) p.1
      rw [fdL_has] at ni
      cases hq : hasV (T.oK (j + 1)) p.1 with
      | true =>
        rw [hq] at ni
        dsimp! [r_I, i0, rd, r_dct, ni]
      | false =>
        rw [hq] at ni
        dsimp! [r_I, i0, rd, r_dct, ni]
    dsimp! []
    refine ⟨T.dm.length + 1 - (j + 1), by omega, j + 1, _, _, _, _, _, rfl, jlt, fun i hi => ?_, rfl⟩
    by_cases hij : i < j
    · exact hst i hij
    · have : i = j := by omega
      rw [this]
      exact nst
end
end DL
end

section
set_option maxRecDepth 100000
set_option maxHeartbeats 16000000
namespace DL
open PySem
local macro_rules | `(tactic| dsimp! [$ls,*]) => `(tactic| simp (disch := (first | assumption | omega | (simp only [List.length_cons, List.length_nil, List.length_map, List.length_range, List.length_append]; omega))) only [f_bool, f_int, f_bl, f_non, f_str, f_glob, f_bin, f_cmp, f_idx, f_neg, f_chain, f_not, f_ite, f_slc, f_tup, f_lst, f_call, f_blt, f_lrg1, f_lrg2, f_lc, f_gx, f_Anil, f_A, f_B1, f_B, f_C0, f_C1, f_seq, f_rng1, f_rng2, f_enum, f_zip, f_rev, b_ok, b_exc, b_of, b_O, b_map, b_2, b_ob, a_2, a_Bin, a_Cmp, a_Idx, a_fC, a_fI, a_wB, a_wD, a_asB, a_asI, a_Neg, a_Neg2, a_Ch, a_Ch2, a_Ch3t, a_Ch3f, a_Not, a_Not2, a_Ite, a_Ite2t, a_Ite2f, a_Tup, a_Tup2, a_Lst, a_Lst2, a_Cl, a_Cl2, a_Cl3, a_inM, a_inX, a_Blt, a_Lr1, a_Lr2, a_Lr3, a_Sm, a_Bd, a_evBh, a_slcV, a_Sl2, a_Sl, a_turnC, a_C0, a_C1t, a_C1f, a_C2, a_C3, a_turnG, a_G0, a_G1t, a_G1f, a_G2, a_G3, a_Lc, a_Lc2, a_Gx, a_Gx2, a_A2, a_A, a_B, a_B2tt, a_B2tf, a_B2ff, a_B2ft, a_C, a_Seq, a_Seq2, a_R1, a_R2, a_R2', a_R3, a_En, a_En2, a_Z, a_Z2, a_Z3, a_Z4, a_Rv, a_Rv2, v_d, v_s, v_val, v_own, r_non, r_bl, r_int, r_str, r_tup, r_lst, c_d, c_s, c_val, c_own, s_nil, s_cons, s_1, s_2, vs_nil, vs_cons, vs_c, f_var, w_val, w_own, p_pl, p_mo, t_lst, o_addI, o_addS, o_addL, o_addT, o_sub, o_mulN, o_fdiv, o_mod, q_lt, q_le, q_gt, q_ge, q_eq, q_ne, q_is, q_isN, q_isNb, q_isNi, q_isNt, q_not, q_notN, q_notNb, q_notNi, q_notNt, q_in, q_nin, u_bl, u_int, u_lst, u_tup, i_lst, i_tup, i_0, i_1, i_2, i_3, i_4, l_lst, l_tup, z_lst, z_tup, a_wI, t_len, t_max, t_min, t_int, t_intb, t_all, t_any, t_listL, t_listT, t_listS, t_tupL, t_tupT, g_lst, g_tup, n_name, n_tup, n_nil, n_cons, n_kas, y_skip, y_seq, y_asg, y_own, y_shr, y_par, y_aug, y_put, y_app, y_ext, y_iff, y_ret, y_retN, y_brk, y_cont, y_exp, y_whl, y_for, j_Sn, j_Sr, j_Sb, j_Sc, j_N, j_A2, j_A, j_O, j_H, j_P4, j_P3, j_P2, j_P, j_G0, j_G, j_G2, j_U5, j_U4, j_U3, j_U2, j_U, j_L3, j_L2, j_L1, j_L0, j_L, j_X2, j_X, j_X0, j_It, j_If, j_I, j_R2, j_R, j_E, j_W, j_whlC, j_T, j_turnF, j_F, m_rt, m_nx, m_exc, ap_s, ap_r, ap_o, ap_v, ex_s, ex_o, pu_s, pu_o, pu_v, au_add, au_sub, au_mul, au_fdiv, au_mod, fq_rt, fq_nx, gq_nx, gq_ct, gq_rt, gq_bk, isB_eq, isI_eq, isT_eq, rg1_n, lst1_n, a_evBd, isHole, eqO_int, wp_ok, wp_bind, wp_fin, List.length_cons, List.length_nil, List.getElem?_cons_zero, List.getElem?_cons_succ, List.getElem?_nil, List.set_cons_zero, List.set_cons_succ, if_true, if_false, Bool.false_eq_true, wipeE, back, Nat.reduceAdd, decide_true, decide_false, Bool.not_true, Bool.not_false, List.map_cons, List.map_nil, List.replicate, List.cons_append, List.nil_append, Nat.add_one_sub_one, Nat.reduceSub, Nat.sub_self, List.isEmpty_nil, List.isEmpty_cons, k_tk, eq_self, and_true, true_and, and_self, Option.some.injEq, f_kin, f_kix, f_pop, f_popAt, f_isi, f_index, f_rng3, isS_eq, a_asS, a_Ki, a_Ki2f, a_Ki2t, a_Kx, a_Kx2, a_Pop, a_Pop1, a_Pop2, a_Pa, a_Pa0, a_Pa1, a_Pa2, a_Isi, a_fIsi, a_Ix, a_Ix0, a_Ix1, a_R36, a_R35, a_R34, a_R33, a_R32, po_s, po_v, r_scr, Option.isSome_some, Option.isSome_none, f_fresh, a_Fr, r_ref, r_refL, ap_mW, ap_mL, po_mW, f_dnew, f_trg1, a_Tr1, trR_n, pu_od, r_dct, l_dct, t_dct, f_dc, a_turnU, a_U0, a_U1t, a_U1f, a_U2, a_U3, a_U4, a_U5, a_Dc, a_Dc2, f_kget, a_Kg, a_Kg2, f_gmax, a_turnM, a_M0, a_M1t, a_M1f, a_M2, a_M3, a_Gm, a_Gm2, f_fld, a_Fld, a_Fld2, in_r, in_s, in_v, in_m, fl_w, fl_1, fl_2, ct_1, tl_1, f_meth, a_Me, a_Me2, a_Me3, a_Me4, mt_w, mt_1, mt_2, mt_3, f_new, a_Nw, a_Nw2, a_Nw3, x_fst, j_Fs, j_Fs2, j_Fs3, fs_w, fs_1, r_refI, a_En2t, f_lc2, a_L2, a_turn2C, a_2C0, a_2Ct, a_2Cf, a_D1, x_tryN, $ls,*])
theorem T_lfound : TL L "_law_found" = some d__law_found := rfl
/-- a reader as a table -/
def tbR (R : Rdr) : Tb Nat := ⟨R.L.length, fun a => R.L.getD a 0, R.S.f, fun x y => acc R (x, y), List.range R.S.n⟩
theorem tbR_ok {R : Rdr} (h : R.Ok) (h1 : 1 ≤ R.L.length) : (tbR R).Ok :=
  ⟨h1, fun a ha => List.mem_range.mpr (L_lt h a ha), fun x y hx hy => List.mem_range.mpr (h.S.lt x y (List.mem_range.mp hx) (List.mem_range.mp hy)),
    fun x y z hx hy hz => h.S.as x y z (List.mem_range.mp hx) (List.mem_range.mp hy) (List.mem_range.mp hz)⟩
theorem wva_wv (R : Rdr) {w : List Nat} (hw : w ≠ []) : wva (tbR R).lt (tbR R).jn w = wv R.S R.L w := by
  cases w with
  | nil => exact absurd rfl hw
  | cons a r => rfl
def eV (p : Itm Nat) : D := dN p.1
def eW (p : Itm Nat) : D := dNs p.2
theorem hasV_any (o : List (Itm Nat)) (x : Nat) : ((o.map (·.1)).any fun z => decide (z = x)) = hasV o x := by
  unfold hasV
  rw [List.any_map]
  rfl
theorem lfound_ok (n0 : Nat) (R : Rdr) (h : R.Ok) (h1 : 1 ≤ R.L.length) (hc : R.L.length ≤ 1000) (hn : R.S.n ≤ 300) (mem : List MO) :
    run (TL L) (n0 + 2) "_law_found" [R.d] mem = .ok (.lst [.lst ((tbR R).ord.map eV), .lst ((tbR R).ord.map eW)]) mem := by
  have hwo := fun row a b => worth_ok n0 R h row a b mem
  have hT := tbR_ok h h1
  have hdm : (tbR R).dm.length = R.S.n := List.length_range ..
  rw [run_def T_lfound rfl]
  generalize run (TL L) (n0 + 1) = cf at hwo ⊢
  simp only [d__law_found]
  refine wp_eq ?_
  have ln : lenO (tNs R.L) = some (R.L.length : Int) := l_Ns R.L
  have one : ∀ a : Nat, D.lst [.int (a : Int)] = dNs [a] := fun _ => rfl
  dsimp! [r_R, i_R0, r_tNs, ln]
  rw [lc_w dN fun a => dNs [a]]
  rotate_left
  · intro a ha
    dsimp! [one]
  have w0 : (List.range R.L.length).map (fun a => dNs [a]) = ((tbR R).wK 0).map eW := by
    show _ = ((List.range R.L.length).map fun a => ((tbR R).lt a, [a])).map eW
    rw [List.map_map]
    rfl
  have r4 : ∀ s, rg1 400 s = .ok ((List.range 400).map dN) s := fun s => rg1_i 400 s (by omega)
  dsimp! [w0, r4]
  have le3 := fun k => hT.len_le k
  rw [hdm] at le3
  have lV : ∀ l : List (Itm Nat), (l.map eV).length = l.length := fun l => List.length_map ..
  have lW : ∀ l : List (Itm Nat), (l.map eW).length = l.length := fun l => List.length_map ..
  refine wp_for0 dN (fun done s => ∃ s4 s5 s6 s7 s8 s3, (∀ i, i < done.length → (tbR R).oK (i + 1) ≠ (tbR R).oK i) ∧ (s3 = .own (.lst (((tbR R).wK done.length).map eW)) ∨ s3 = .val (.lst (((tbR R).wK done.length).map eW))) ∧ s = ⟨[.val R.d, .own (.lst (((tbR R).oK done.length).map eV)), .own (.lst (((tbR R).oK done.length).map eW)), s3, s4, s5, s6, s7, s8], mem⟩) ⟨.non, .non, .non, .non, .non, _, fun i hi => by simp at hi, .inl rfl, rfl⟩ ?_ ?_
  · intro done k0 rest s hre ⟨s4, s5, s6, s7, s8, s3, hst, hs3, hs⟩
    subst hs
    have hdl : done.length < 400 := by
      have := congrArg List.length hre
      simp at this
      omega
    rw [List.length_append, List.length_singleton]
    generalize hj : done.length = j at *
    obtain ⟨bl1, bl2⟩ := bfs_len (tbR R).c (tbR R).lt (tbR R).jn j
    obtain ⟨bn1, bn2⟩ := bfs_len (tbR R).c (tbR R).lt (tbR R).jn (j + 1)
    have bij := bi (tbR R).c (tbR R).lt (tbR R).jn j
    have bij1 := bi (tbR R).c (tbR R).lt (tbR R).jn (j + 1)
    have eo : addAll ((tbR R).oK j) ((tbR R).wK j) = (tbR R).oK (j + 1) := rfl
    have enx : (tbR R).wK (j + 1) = nxt (tbR R).c (tbR R).lt (tbR R).jn (((tbR R).oK (j + 1)).drop ((tbR R).oK j).length) := rfl
    have jle : j ≤ R.S.n := by
      rcases grow (tbR R).c (tbR R).lt (tbR R).jn j with ⟨i, hi, ei⟩ | hg
      · exact absurd ei (hst i hi)
      · have := le3 j
        have hg : j ≤ ((tbR R).oK j).length := hg
        omega
    rcases hs3 with rfl | rfl
    all_goals skip
    · skip
      dsimp! []
      refine wp_for0 eW (fun done s => ∃ s6 s8, s = ⟨[.val R.d, .own (.lst ((addAll ((tbR R).oK j) done).map eV)), .own (.lst ((addAll ((tbR R).oK j) done).map eW)), .val (.lst (((tbR R).wK j).map eW)), .val (.int (k0 : Int)), .own (.lst (((addAll ((tbR R).oK j) done).drop ((tbR R).oK j).length).map eW)), s6, s7, s8], mem⟩) ⟨s6, s8, ?_⟩ ?_ ?_
      · show _ = (⟨[_, _, _, _, _, .own (.lst ((((tbR R).oK j).drop ((tbR R).oK j).length).map eW)), _, _, _], mem⟩ : DL.S)
        rw [List.drop_length]
        rfl
      · intro dn p rest s hwe ⟨s6, s8, hs⟩
        subst hs
        have hpw : p ∈ (tbR R).wK j := by rw [hwe]; simp
        obtain ⟨hp1, hp2, hp3⟩ := bij.okW p hpw
        rw [wva_wv R hp1] at hp3
        have hwp := hwo p.2 hp1 hp2
        have hlen : (addAll ((tbR R).oK j) dn).length ≤ ((tbR R).oK (j + 1)).length := by
          obtain ⟨e', he', _⟩ := addAll_pre (p :: rest) (addAll ((tbR R).oK j) dn)
          have : (tbR R).oK (j + 1) = addAll (addAll ((tbR R).oK j) dn) (p :: rest) := by
            rw [← eo, hwe]
            exact List.foldl_append ..
          rw [this, he', List.length_append]
          omega
        have hol : ((tbR R).oK j).length ≤ (addAll ((tbR R).oK j) dn).length := by
          obtain ⟨e', he', _⟩ := addAll_pre dn ((tbR R).oK j)
          rw [he', List.length_append]
          omega
        have h4 := le3 (j + 1)
        have es : addAll ((tbR R).oK j) (dn ++ [p]) = addO (addAll ((tbR R).oK j) dn) p := by
          show List.foldl _ _ _ = _
          rw [List.foldl_append]
          rfl
        generalize addAll ((tbR R).oK j) dn = o at *
        have ni := in_lst encN (by decide) (wv R.S R.L p.2) (o.map (·.1))
        have ni : inO (.int ((wv R.S R.L p.2 : Nat) : Int)) (.lst (o.map eV)) = some ((o.map (·.1)).any fun z => decide (z = wv R.S R.L p.2)) := by
          rw [← ni, List.map_map]
          rfl
        rw [hasV_any, ← hp3] at ni
        have pe : eW p = dNs p.2 := rfl
        cases hp : hasV o p.1 with
        | true =>
          rw [hp] at ni
          have ea : addO o p = o := if_pos hp
          rw [es, ea]
          rw [← hp3] at hwp
          dsimp! [pe, hwp, r_R, r_Ns, ni]
          exact ⟨_, _, rfl⟩
        | false =>
          rw [hp] at ni
          have ea : addO o p = o ++ [p] := if_neg (by rw [hp]; decide)
          rw [es, ea]
          rw [← hp3] at hwp
          have e1 : o.map eV ++ [.int (p.1 : Int)] = (o ++ [p]).map eV := by rw [List.map_append]; rfl
          have e2 : o.map eW ++ [dNs p.2] = (o ++ [p]).map eW := by rw [List.map_append]; rfl
          have e3 : (o.drop ((tbR R).oK j).length).map eW ++ [dNs p.2] = ((o ++ [p]).drop ((tbR R).oK j).length).map eW := by
            rw [List.drop_append_of_le_length hol, List.map_append]
            rfl
          have ld : ((o.drop ((tbR R).oK j).length).map eW).length ≤ 1000 := by rw [lW, List.length_drop]; omega
          dsimp! [pe, hwp, r_R, r_Ns, ni, lV, lW, e1, e2, e3]
          exact ⟨_, _, rfl⟩
      intro s ⟨s6, s8, hs⟩
      subst hs
      rw [eo]
      have hfr : ∀ p ∈ ((tbR R).oK (j + 1)).drop ((tbR R).oK j).length, p ∈ (tbR R).oK (j + 1) := fun p hp => List.mem_of_mem_drop hp
      have h4 := le3 (j + 1)
      have hfl : (((tbR R).oK (j + 1)).drop ((tbR R).oK j).length).length ≤ 300 := by rw [List.length_drop]; omega
      generalize hfe : ((tbR R).oK (j + 1)).drop ((tbR R).oK j).length = fr at hfr hfl enx
      dsimp! []
      refine wp_for0 eW (fun dn s => ∃ s6 s7, s = ⟨[.val R.d, .own (.lst (((tbR R).oK (j + 1)).map eV)), .own (.lst (((tbR R).oK (j + 1)).map eW)), .val (.lst ((nxt (tbR R).c (tbR R).lt (tbR R).jn dn).map eW)), .val (.int (k0 : Int)), .val (.lst (fr.map eW)), s6, s7, s8], mem⟩) ⟨_, _, rfl⟩ ?_ ?_
      · intro dn p rest s hfe2 ⟨s6, s7, hs⟩
        subst hs
        have hpm : p ∈ fr := by rw [hfe2]; simp
        have hpl := bn1 p (hfr p hpm)
        have hdl2 : dn.length ≤ 300 := by
          have := congrArg List.length hfe2
          simp at this
          omega
        have hnl : (nxt (tbR R).c (tbR R).lt (tbR R).jn dn).length ≤ 300000 := by
          rw [nxt_len]
          exact Nat.mul_le_mul hdl2 hc
        have pe : eW p = dNs p.2 := rfl
        have ad : ∀ a : Nat, binO .add (dNs p.2) (.lst [.int (a : Int)]) = some (.mo (.lst ((p.2 ++ [a]).map dN))) := fun a => by
          show binO .add (.lst (p.2.map dN)) (.lst [.int (a : Int)]) = _
          rw [o_addL _ _ (by rw [List.length_map]; simp; omega), List.map_append]
          rfl
        have rl : ∀ (s : DL.S) (l : List (Itm Nat)), drf s (.lst (l.map eW)) = .lst (l.map eW) := fun _ _ => rfl
        have lN : ∀ l : List Nat, D.lst (l.map dN) = dNs l := fun _ => rfl
        dsimp! [pe, rl, r_R, i_R0, r_tNs, ln]
        rw [lc_w dN fun a => dNs (p.2 ++ [a])]
        rotate_left
        · intro a ha
          dsimp! [r_Ns, ad, lN]
        have em : (List.range R.L.length).map (fun a => dNs (p.2 ++ [a])) = ((List.range R.L.length).map fun a => ((tbR R).jn p.1 ((tbR R).lt a), p.2 ++ [a])).map eW := by
          rw [List.map_map]
          rfl
        have ad2 : binO .add (.lst ((nxt (tbR R).c (tbR R).lt (tbR R).jn dn).map eW)) (.lst (((List.range R.L.length).map fun a => ((tbR R).jn p.1 ((tbR R).lt a), p.2 ++ [a])).map eW)) = some (.mo (.lst ((nxt (tbR R).c (tbR R).lt (tbR R).jn (dn ++ [p])).map eW))) := by
          rw [o_addL _ _ (by rw [lW, lW, List.length_map, List.length_range]; omega), nxt_snoc, List.map_append]
          rfl
        rw [em]
        dsimp! [rl, ad2]
        exact ⟨_, _, rfl⟩
      intro s ⟨s6, s7, hs⟩
      subst hs
      rw [← enx]
      by_cases hz : (tbR R).oK (j + 1) = (tbR R).oK j
      · have hw : (tbR R).wK (j + 1) = [] := (stay _ _ _ hz 0).2
        have ho := hT.ord_eq (by rw [hdm]; exact jle) hz
        have rl : ∀ (s : DL.S) (l : List (Itm Nat)), drf s (.lst (l.map eW)) = .lst (l.map eW) := fun _ _ => rfl
        have z0 : decide ((((tbR R).wK (j + 1)).length : Int) = 0) = true := by rw [hw]; rfl
        rw [hz]
        dsimp! [rl, lW, z0]
        rw [ho]
      · have hw : (tbR R).wK (j + 1) ≠ [] := fun z => by
          rw [enx] at z
          have h5 := congrArg List.length z
          rw [nxt_len] at h5
          have h6 : fr.length * R.L.length = 0 := h5
          have h7 : fr.length = 0 := by
            rcases Nat.mul_eq_zero.mp h6 with h | h
            · exact h
            · omega
          rw [← hfe, List.length_drop] at h7
          obtain ⟨e', he', _⟩ := addAll_pre ((tbR R).wK j) ((tbR R).oK j)
          have he' : (tbR R).oK (j + 1) = (tbR R).oK j ++ e' := he'
          rw [he', List.length_append] at h7
          have : e' = [] := List.length_eq_zero_iff.mp (by omega)
          rw [this, List.append_nil] at he'
          exact hz he'
        have rl : ∀ (s : DL.S) (l : List (Itm Nat)), drf s (.lst (l.map eW)) = .lst (l.map eW) := fun _ _ => rfl
        have z0 : decide ((((tbR R).wK (j + 1)).length : Int) = 0) = false := decide_eq_false fun z => hw (List.length_eq_zero_iff.mp (by omega))
        dsimp! [rl, lW, z0]
        refine ⟨_, _, _, _, _, _, fun i hi => ?_, .inr rfl, rfl⟩
        by_cases hij : i < j
        · exact hst i hij
        · have : i = j := by omega
          rw [this]
          exact hz
    · skip
      dsimp! []
      refine wp_for0 eW (fun done s => ∃ s6 s8, s = ⟨[.val R.d, .own (.lst ((addAll ((tbR R).oK j) done).map eV)), .own (.lst ((addAll ((tbR R).oK j) done).map eW)), .val (.lst (((tbR R).wK j).map eW)), .val (.int (k0 : Int)), .own (.lst (((addAll ((tbR R).oK j) done).drop ((tbR R).oK j).length).map eW)), s6, s7, s8], mem⟩) ⟨s6, s8, ?_⟩ ?_ ?_
      · show _ = (⟨[_, _, _, _, _, .own (.lst ((((tbR R).oK j).drop ((tbR R).oK j).length).map eW)), _, _, _], mem⟩ : DL.S)
        rw [List.drop_length]
        rfl
      · intro dn p rest s hwe ⟨s6, s8, hs⟩
        subst hs
        have hpw : p ∈ (tbR R).wK j := by rw [hwe]; simp
        obtain ⟨hp1, hp2, hp3⟩ := bij.okW p hpw
        rw [wva_wv R hp1] at hp3
        have hwp := hwo p.2 hp1 hp2
        have hlen : (addAll ((tbR R).oK j) dn).length ≤ ((tbR R).oK (j + 1)).length := by
          obtain ⟨e', he', _⟩ := addAll_pre (p :: rest) (addAll ((tbR R).oK j) dn)
          have : (tbR R).oK (j + 1) = addAll (addAll ((tbR R).oK j) dn) (p :: rest) := by
            rw [← eo, hwe]
            exact List.foldl_append ..
          rw [this, he', List.length_append]
          omega
        have hol : ((tbR R).oK j).length ≤ (addAll ((tbR R).oK j) dn).length := by
          obtain ⟨e', he', _⟩ := addAll_pre dn ((tbR R).oK j)
          rw [he', List.length_append]
          omega
        have h4 := le3 (j + 1)
        have es : addAll ((tbR R).oK j) (dn ++ [p]) = addO (addAll ((tbR R).oK j) dn) p := by
          show List.foldl _ _ _ = _
          rw [List.foldl_append]
          rfl
        generalize addAll ((tbR R).oK j) dn = o at *
        have ni := in_lst encN (by decide) (wv R.S R.L p.2) (o.map (·.1))
        have ni : inO (.int ((wv R.S R.L p.2 : Nat) : Int)) (.lst (o.map eV)) = some ((o.map (·.1)).any fun z => decide (z = wv R.S R.L p.2)) := by
          rw [← ni, List.map_map]
          rfl
        rw [hasV_any, ← hp3] at ni
        have pe : eW p = dNs p.2 := rfl
        cases hp : hasV o p.1 with
        | true =>
          rw [hp] at ni
          have ea : addO o p = o := if_pos hp
          rw [es, ea]
          rw [← hp3] at hwp
          dsimp! [pe, hwp, r_R, r_Ns, ni]
          exact ⟨_, _, rfl⟩
        | false =>
          rw [hp] at ni
          have ea : addO o p = o ++ [p] := if_neg (by rw [hp]; decide)
          rw [es, ea]
          rw [← hp3] at hwp
          have e1 : o.map eV ++ [.int (p.1 : Int)] = (o ++ [p]).map eV := by rw [List.map_append]; rfl
          have e2 : o.map eW ++ [dNs p.2] = (o ++ [p]).map eW := by rw [List.map_append]; rfl
          have e3 : (o.drop ((tbR R).oK j).length).map eW ++ [dNs p.2] = ((o ++ [p]).drop ((tbR R).oK j).length).map eW := by
            rw [List.drop_append_of_le_length hol, List.map_append]
            rfl
          have ld : ((o.drop ((tbR R).oK j).length).map eW).length ≤ 1000 := by rw [lW, List.length_drop]; omega
          dsimp! [pe, hwp, r_R, r_Ns, ni, lV, lW, e1, e2, e3]
          exact ⟨_, _, rfl⟩
      intro s ⟨s6, s8, hs⟩
      subst hs
      rw [eo]
      have hfr : ∀ p ∈ ((tbR R).oK (j + 1)).drop ((tbR R).oK j).length, p ∈ (tbR R).oK (j + 1) := fun p hp => List.mem_of_mem_drop hp
      have h4 := le3 (j + 1)
      have hfl : (((tbR R).oK (j + 1)).drop ((tbR R).oK j).length).length ≤ 300 := by rw [List.length_drop]; omega
      generalize hfe : ((tbR R).oK (j + 1)).drop ((tbR R).oK j).length = fr at hfr hfl enx
      dsimp! []
      refine wp_for0 eW (fun dn s => ∃ s6 s7, s = ⟨[.val R.d, .own (.lst (((tbR R).oK (j + 1)).map eV)), .own (.lst (((tbR R).oK (j + 1)).map eW)), .val (.lst ((nxt (tbR R).c (tbR R).lt (tbR R).jn dn).map eW)), .val (.int (k0 : Int)), .val (.lst (fr.map eW)), s6, s7, s8], mem⟩) ⟨_, _, rfl⟩ ?_ ?_
      · intro dn p rest s hfe2 ⟨s6, s7, hs⟩
        subst hs
        have hpm : p ∈ fr := by rw [hfe2]; simp
        have hpl := bn1 p (hfr p hpm)
        have hdl2 : dn.length ≤ 300 := by
          have := congrArg List.length hfe2
          simp at this
          omega
        have hnl : (nxt (tbR R).c (tbR R).lt (tbR R).jn dn).length ≤ 300000 := by
          rw [nxt_len]
          exact Nat.mul_le_mul hdl2 hc
        have pe : eW p = dNs p.2 := rfl
        have ad : ∀ a : Nat, binO .add (dNs p.2) (.lst [.int (a : Int)]) = some (.mo (.lst ((p.2 ++ [a]).map dN))) := fun a => by
          show binO .add (.lst (p.2.map dN)) (.lst [.int (a : Int)]) = _
          rw [o_addL _ _ (by rw [List.length_map]; simp; omega), List.map_append]
          rfl
        have rl : ∀ (s : DL.S) (l : List (Itm Nat)), drf s (.lst (l.map eW)) = .lst (l.map eW) := fun _ _ => rfl
        have lN : ∀ l : List Nat, D.lst (l.map dN) = dNs l := fun _ => rfl
        dsimp! [pe, rl, r_R, i_R0, r_tNs, ln]
        rw [lc_w dN fun a => dNs (p.2 ++ [a])]
        rotate_left
        · intro a ha
          dsimp! [r_Ns, ad, lN]
        have em : (List.range R.L.length).map (fun a => dNs (p.2 ++ [a])) = ((List.range R.L.length).map fun a => ((tbR R).jn p.1 ((tbR R).lt a), p.2 ++ [a])).map eW := by
          rw [List.map_map]
          rfl
        have ad2 : binO .add (.lst ((nxt (tbR R).c (tbR R).lt (tbR R).jn dn).map eW)) (.lst (((List.range R.L.length).map fun a => ((tbR R).jn p.1 ((tbR R).lt a), p.2 ++ [a])).map eW)) = some (.mo (.lst ((nxt (tbR R).c (tbR R).lt (tbR R).jn (dn ++ [p])).map eW))) := by
          rw [o_addL _ _ (by rw [lW, lW, List.length_map, List.length_range]; omega), nxt_snoc, List.map_append]
          rfl
        rw [em]
        dsimp! [rl, ad2]
        exact ⟨_, _, rfl⟩
      intro s ⟨s6, s7, hs⟩
      subst hs
      rw [← enx]
      by_cases hz : (tbR R).oK (j + 1) = (tbR R).oK j
      · have hw : (tbR R).wK (j + 1) = [] := (stay _ _ _ hz 0).2
        have ho := hT.ord_eq (by rw [hdm]; exact jle) hz
        have rl : ∀ (s : DL.S) (l : List (Itm Nat)), drf s (.lst (l.map eW)) = .lst (l.map eW) := fun _ _ => rfl
        have z0 : decide ((((tbR R).wK (j + 1)).length : Int) = 0) = true := by rw [hw]; rfl
        rw [hz]
        dsimp! [rl, lW, z0]
        rw [ho]
      · have hw : (tbR R).wK (j + 1) ≠ [] := fun z => by
          rw [enx] at z
          have h5 := congrArg List.length z
          rw [nxt_len] at h5
          have h6 : fr.length * R.L.length = 0 := h5
          have h7 : fr.length = 0 := by
            rcases Nat.mul_eq_zero.mp h6 with h | h
            · exact h
            · omega
          rw [← hfe, List.length_drop] at h7
          obtain ⟨e', he', _⟩ := addAll_pre ((tbR R).wK j) ((tbR R).oK j)
          have he' : (tbR R).oK (j + 1) = (tbR R).oK j ++ e' := he'
          rw [he', List.length_append] at h7
          have : e' = [] := List.length_eq_zero_iff.mp (by omega)
          rw [this, List.append_nil] at he'
          exact hz he'
        have rl : ∀ (s : DL.S) (l : List (Itm Nat)), drf s (.lst (l.map eW)) = .lst (l.map eW) := fun _ _ => rfl
        have z0 : decide ((((tbR R).wK (j + 1)).length : Int) = 0) = false := decide_eq_false fun z => hw (List.length_eq_zero_iff.mp (by omega))
        dsimp! [rl, lW, z0]
        refine ⟨_, _, _, _, _, _, fun i hi => ?_, .inr rfl, rfl⟩
        by_cases hij : i < j
        · exact hst i hij
        · have : i = j := by omega
          rw [this]
          exact hz
  · intro s ⟨s4, s5, s6, s7, s8, s3, hst, _, _⟩
    exfalso
    have hl : (List.range 400).length = 400 := by simp
    rw [hl] at hst
    rcases grow (tbR R).c (tbR R).lt (tbR R).jn 400 with ⟨i, hi, ei⟩ | hg
    · exact absurd ei (hst i hi)
    · have := le3 400
      have hg : 400 ≤ ((tbR R).oK 400).length := hg
      omega
end DL
end

section
set_option maxRecDepth 100000
set_option maxHeartbeats 16000000
namespace DL
open PySem
theorem enum_app : ∀ (a b : List D) (k : Nat), enumD k (a ++ b) = enumD k a ++ enumD (k + a.length) b
  | [], b, k => rfl
  | x :: a, b, k => by
    show _ :: enumD (k + 1) (a ++ b) = _ :: (enumD (k + 1) a ++ _)
    rw [enum_app a b (k + 1), List.length_cons, show k + 1 + a.length = k + (a.length + 1) by omega]
theorem enum_range (g : Nat → D) : ∀ n : Nat, enumD 0 ((List.range n).map g) = (List.range n).map fun i => D.tup [dN i, g i]
  | 0 => rfl
  | n + 1 => by
    rw [List.range_succ, List.map_append, List.map_append, enum_app, enum_range g n, List.length_map, List.length_range, Nat.zero_add]
    rfl
section
variable {α : Type} [DecidableEq α] (T : Tb α)
def Tb.wd (i : Nat) : List Nat := ((T.ord[i]?).map (·.2)).getD []
variable {T} (h : T.Ok)
include h
theorem Tb.Ok.ord_at {i : Nat} (hi : i < T.m) : T.ord[i]? = some (T.at i, T.wd i) := by
  have h1 := h.at_mem hi
  unfold Tb.vals at h1
  rw [List.getElem?_map] at h1
  unfold Tb.wd
  cases q : T.ord[i]? with
  | none => rw [q] at h1; cases h1
  | some p =>
    rw [q] at h1
    have h1 : p.1 = T.at i := Option.some.inj h1
    rw [← h1]
    rfl
theorem Tb.Ok.ord_range : T.ord = (List.range T.m).map fun i => (T.at i, T.wd i) := by
  refine List.ext_getElem? fun i => ?_
  by_cases hi : i < T.m
  · rw [h.ord_at hi, List.getElem?_map, List.getElem?_range hi]
    rfl
  · rw [List.getElem?_eq_none (show T.ord.length ≤ i by exact Nat.le_of_not_lt hi), List.getElem?_eq_none (by simp; omega)]
theorem Tb.Ok.vals_range : T.vals = (List.range T.m).map T.at := by
  unfold Tb.vals
  rw [h.ord_range, List.map_map]
  rfl
theorem Tb.Ok.wd_ok {i : Nat} (hi : i < T.m) : okI T.c T.lt T.jn (T.at i, T.wd i) := (bi T.c T.lt T.jn _).ok _ (List.mem_of_getElem? (h.ord_at hi))
theorem Tb.Ok.wd_inj {i j : Nat} (hi : i < T.m) (hj : j < T.m) (e : T.wd i = T.wd j) : i = j := by
  have := h.word_inj (List.mem_of_getElem? (h.ord_at hi)) (List.mem_of_getElem? (h.ord_at hj)) e
  have e2 : T.at i = T.at j := (Prod.mk.inj this).1
  rw [← h.num_at hi, ← h.num_at hj, e2]
theorem Tb.Ok.wd_pre {i : Nat} (hi : i < T.m) : (T.wd i).length = 1 ∨ ∃ j, j < i ∧ T.wd j = (T.wd i).dropLast := by
  have hp := (bi T.c T.lt T.jn (T.dm.length + 1)).pre i _ (h.ord_at hi)
  rcases hp with hp | ⟨q, hq, e⟩
  · exact .inl hp
  · right
    obtain ⟨j, hj, eq⟩ := List.mem_iff_getElem.mp hq
    have hji : j < i := by
      rw [List.length_take] at hj
      omega
    refine ⟨j, hji, ?_⟩
    have h2 := h.ord_at (i := j) (by omega)
    rw [List.getElem_take] at eq
    have hjl : j < T.ord.length := by show j < T.m; omega
    have h3 : T.ord[j]? = some q := by rw [List.getElem?_eq_getElem hjl]; exact congrArg some eq
    rw [h2] at h3
    have h4 := Option.some.inj h3
    rw [← h4] at e
    exact e.symm
theorem Tb.Ok.wd_len {i : Nat} (hi : i < T.m) : (T.wd i).length ≤ T.dm.length + 1 := (bfs_len T.c T.lt T.jn (T.dm.length + 1)).1 _ (List.mem_of_getElem? (h.ord_at hi))
omit h in
/-- the number of the product of two numbers -/
def Tb.mul (T : Tb α) (i j : Nat) : Nat := T.num (T.jn (T.at i) (T.at j))
theorem Tb.Ok.mul_lt {i j : Nat} (hi : i < T.m) (hj : j < T.m) : T.mul i j < T.m := h.num_lt (h.jn_in (h.at_in hi) (h.at_in hj))
theorem Tb.Ok.at_mul {i j : Nat} (hi : i < T.m) (hj : j < T.m) : T.at (T.mul i j) = T.jn (T.at i) (T.at j) := h.at_num (h.jn_in (h.at_in hi) (h.at_in hj))
omit h in
def Tb.right (T : Tb α) (i a : Nat) : Nat := T.num (T.jn (T.at i) (T.lt a))
theorem Tb.Ok.right_lt {i a : Nat} (hi : i < T.m) (ha : a < T.c) : T.right i a < T.m := h.num_lt (h.step_in (h.at_in hi) ha)
/-- the last letter of a word, and what stands ahead of it -/
theorem Tb.Ok.mul_step {i j : Nat} (hi : i < T.m) (hj : j < T.m) : ∃ w a, T.wd j = w ++ [a] ∧ a < T.c ∧ ((w = [] ∧ T.mul i j = T.right i a) ∨ ∃ k, k < j ∧ T.wd k = w ∧ w ≠ [] ∧ T.mul i j = T.right (T.mul i k) a) := by
  obtain ⟨hn, hl, hv⟩ := h.wd_ok hj
  have hn : T.wd j ≠ [] := hn
  have hl : ∀ a ∈ T.wd j, a < T.c := hl
  have hv : T.at j = wva T.lt T.jn (T.wd j) := hv
  have ew : T.wd j = (T.wd j).dropLast ++ [(T.wd j).getLast hn] := (List.dropLast_concat_getLast hn).symm
  have ha : (T.wd j).getLast hn < T.c := hl _ (List.getLast_mem hn)
  refine ⟨_, _, ew, ha, ?_⟩
  rcases h.wd_pre hj with h1 | ⟨k, hk, e⟩
  · left
    have e0 : (T.wd j).dropLast = [] := by
      apply List.length_eq_zero_iff.mp
      rw [List.length_dropLast, h1]
    have key : ∀ w' a, T.wd j = w' ++ [a] → w' = [] → T.at j = T.lt a := fun w' a e1 e2 => by
      rw [hv, e1, e2]
      rfl
    refine ⟨e0, ?_⟩
    show T.num (T.jn (T.at i) (T.at j)) = T.num (T.jn (T.at i) (T.lt _))
    rw [key _ _ ew e0]
  · right
    obtain ⟨hkn, _, hkv⟩ := h.wd_ok (i := k) (by omega)
    have hkn : T.wd k ≠ [] := hkn
    have hkv : T.at k = wva T.lt T.jn (T.wd k) := hkv
    refine ⟨k, hk, e, by rw [← e]; exact hkn, ?_⟩
    have key : ∀ w' a, T.wd j = w' ++ [a] → T.wd k = w' → T.at j = T.jn (T.at k) (T.lt a) := fun w' a e1 e2 => by
      rw [hv, e1, ← e2, wva_snoc T.lt T.jn _ _ hkn, ← hkv]
    show T.num (T.jn (T.at i) (T.at j)) = T.num (T.jn (T.at (T.mul i k)) (T.lt _))
    rw [key _ _ ew e, h.at_mul hi (by omega), h.as _ _ _ (h.in_dm (h.at_in hi)) (h.in_dm (h.at_in (by omega))) (h.lt _ ha)]
end
theorem nks_nums : ∀ l : List Nat, D.nks (l.map dN) = some (l.map fun x : Nat => NestedKey.num (x : Int))
  | [] => rfl
  | a :: l => by
    show (match D.nk (dN a), D.nks (l.map dN) with | some x, some xs => some (x :: xs) | _, _ => none) = _
    rw [nks_nums l]
    rfl
theorem depth_nums : ∀ l : List Nat, NestedKey.depthAll (l.map fun x : Nat => NestedKey.num (x : Int)) ≤ 1
  | [] => by simp [NestedKey.depthAll]
  | a :: l => by
    have := depth_nums l
    simp only [List.map_cons, NestedKey.depthAll, NestedKey.depth]
    omega
/-- words as keys -/
def keyL : KEnc (List Nat) where
  d := tNs
  k := fun w => .tup (w.map fun x : Nat => .num (x : Int))
  t := true
  ok := fun w => by
    have hd := depth_nums w
    show (D.nks (w.map dN)).bind _ = _
    rw [nks_nums]
    show (if (NestedKey.tup _).depth ≤ 8 then some _ else none) = _
    rw [if_pos]
    simp only [NestedKey.depth]
    omega
  tt := fun _ => rfl
  inj := fun a b e => (List.map_inj_right fun (x y : Nat) q => by have := NestedKey.num.inj q; omega).mp (NestedKey.tup.inj e)
end DL
end

section
set_option maxRecDepth 100000
set_option maxHeartbeats 16000000
namespace DL
open PySem
local macro_rules | `(tactic| dsimp! [$ls,*]) => `(tactic| simp (disch := (first | assumption | omega | (simp only [List.length_cons, List.length_nil, List.length_map, List.length_range, List.length_append]; omega))) only [f_bool, f_int, f_bl, f_non, f_str, f_glob, f_bin, f_cmp, f_idx, f_neg, f_chain, f_not, f_ite, f_slc, f_tup, f_lst, f_call, f_blt, f_lrg1, f_lrg2, f_lc, f_gx, f_Anil, f_A, f_B1, f_B, f_C0, f_C1, f_seq, f_rng1, f_rng2, f_enum, f_zip, f_rev, b_ok, b_exc, b_of, b_O, b_map, b_2, b_ob, a_2, a_Bin, a_Cmp, a_Idx, a_fC, a_fI, a_wB, a_wD, a_asB, a_asI, a_Neg, a_Neg2, a_Ch, a_Ch2, a_Ch3t, a_Ch3f, a_Not, a_Not2, a_Ite, a_Ite2t, a_Ite2f, a_Tup, a_Tup2, a_Lst, a_Lst2, a_Cl, a_Cl2, a_Cl3, a_inM, a_inX, a_Blt, a_Lr1, a_Lr2, a_Lr3, a_Sm, a_Bd, a_evBh, a_slcV, a_Sl2, a_Sl, a_turnC, a_C0, a_C1t, a_C1f, a_C2, a_C3, a_turnG, a_G0, a_G1t, a_G1f, a_G2, a_G3, a_Lc, a_Lc2, a_Gx, a_Gx2, a_A2, a_A, a_B, a_B2tt, a_B2tf, a_B2ff, a_B2ft, a_C, a_Seq, a_Seq2, a_R1, a_R2, a_R2', a_R3, a_En, a_En2, a_Z, a_Z2, a_Z3, a_Z4, a_Rv, a_Rv2, v_d, v_s, v_val, v_own, r_non, r_bl, r_int, r_str, r_tup, r_lst, c_d, c_s, c_val, c_own, s_nil, s_cons, s_1, s_2, vs_nil, vs_cons, vs_c, f_var, w_val, w_own, p_pl, p_mo, t_lst, o_addI, o_addS, o_addL, o_addT, o_sub, o_mulN, o_fdiv, o_mod, q_lt, q_le, q_gt, q_ge, q_eq, q_ne, q_is, q_isN, q_isNb, q_isNi, q_isNt, q_not, q_notN, q_notNb, q_notNi, q_notNt, q_in, q_nin, u_bl, u_int, u_lst, u_tup, i_lst, i_tup, i_0, i_1, i_2, i_3, i_4, l_lst, l_tup, z_lst, z_tup, a_wI, t_len, t_max, t_min, t_int, t_intb, t_all, t_any, t_listL, t_listT, t_listS, t_tupL, t_tupT, g_lst, g_tup, n_name, n_tup, n_nil, n_cons, n_kas, y_skip, y_seq, y_asg, y_own, y_shr, y_par, y_aug, y_put, y_app, y_ext, y_iff, y_ret, y_retN, y_brk, y_cont, y_exp, y_whl, y_for, j_Sn, j_Sr, j_Sb, j_Sc, j_N, j_A2, j_A, j_O, j_H, j_P4, j_P3, j_P2, j_P, j_G0, j_G, j_G2, j_U5, j_U4, j_U3, j_U2, j_U, j_L3, j_L2, j_L1, j_L0, j_L, j_X2, j_X, j_X0, j_It, j_If, j_I, j_R2, j_R, j_E, j_W, j_whlC, j_T, j_turnF, j_F, m_rt, m_nx, m_exc, ap_s, ap_r, ap_o, ap_v, ex_s, ex_o, pu_s, pu_o, pu_v, au_add, au_sub, au_mul, au_fdiv, au_mod, fq_rt, fq_nx, gq_nx, gq_ct, gq_rt, gq_bk, isB_eq, isI_eq, isT_eq, rg1_n, lst1_n, a_evBd, isHole, eqO_int, wp_ok, wp_bind, wp_fin, List.length_cons, List.length_nil, List.getElem?_cons_zero, List.getElem?_cons_succ, List.getElem?_nil, List.set_cons_zero, List.set_cons_succ, if_true, if_false, Bool.false_eq_true, wipeE, back, Nat.reduceAdd, decide_true, decide_false, Bool.not_true, Bool.not_false, List.map_cons, List.map_nil, List.replicate, List.cons_append, List.nil_append, Nat.add_one_sub_one, Nat.reduceSub, Nat.sub_self, List.isEmpty_nil, List.isEmpty_cons, k_tk, eq_self, and_true, true_and, and_self, Option.some.injEq, f_kin, f_kix, f_pop, f_popAt, f_isi, f_index, f_rng3, isS_eq, a_asS, a_Ki, a_Ki2f, a_Ki2t, a_Kx, a_Kx2, a_Pop, a_Pop1, a_Pop2, a_Pa, a_Pa0, a_Pa1, a_Pa2, a_Isi, a_fIsi, a_Ix, a_Ix0, a_Ix1, a_R36, a_R35, a_R34, a_R33, a_R32, po_s, po_v, r_scr, Option.isSome_some, Option.isSome_none, f_fresh, a_Fr, r_ref, r_refL, ap_mW, ap_mL, po_mW, f_dnew, f_trg1, a_Tr1, trR_n, pu_od, r_dct, l_dct, t_dct, f_dc, a_turnU, a_U0, a_U1t, a_U1f, a_U2, a_U3, a_U4, a_U5, a_Dc, a_Dc2, f_kget, a_Kg, a_Kg2, f_gmax, a_turnM, a_M0, a_M1t, a_M1f, a_M2, a_M3, a_Gm, a_Gm2, f_fld, a_Fld, a_Fld2, in_r, in_s, in_v, in_m, fl_w, fl_1, fl_2, ct_1, tl_1, f_meth, a_Me, a_Me2, a_Me3, a_Me4, mt_w, mt_1, mt_2, mt_3, f_new, a_Nw, a_Nw2, a_Nw3, x_fst, j_Fs, j_Fs2, j_Fs3, fs_w, fs_1, r_refI, a_En2t, f_lc2, a_L2, a_turn2C, a_2C0, a_2Ct, a_2Cf, a_D1, x_tryN, $ls,*])
section
variable {α : Type} [DecidableEq α]
/-- the words' numbers -/
def wdL (T : Tb α) (k : Nat) : List (List Nat × Nat) := (List.range k).map fun i => (T.wd i, i)
theorem wdL_lk {T : Tb α} (h : T.Ok) {k j : Nat} (hk : k ≤ T.m) (hj : j < k) : lkA (wdL T k) (T.wd j) = some j := by
  have h1 : ∀ n, n ≤ T.m → ∀ j, j < n → (wdL T n).find? (fun p => decide (p.1 = T.wd j)) = some (T.wd j, j) := fun n => by
    induction n with
    | zero => intro _ j hj; omega
    | succ n ih =>
      intro hn j hj
      unfold wdL
      rw [List.range_succ, List.map_append, List.find?_append]
      by_cases hjn : j < n
      · have := ih (by omega) j hjn
        unfold wdL at this
        rw [this]
        rfl
      · have : j = n := by omega
        subst this
        have hno : ((List.range j).map fun i => (T.wd i, i)).find? (fun p => decide (p.1 = T.wd j)) = none := by
          rw [List.find?_eq_none]
          intro p hp
          obtain ⟨i, hi, rfl⟩ := List.mem_map.mp hp
          have hi := List.mem_range.mp hi
          intro z
          have := h.wd_inj (i := i) (j := j) (by omega) (by omega) (of_decide_eq_true z)
          omega
        rw [hno]
        simp
  unfold lkA
  rw [h1 k hk j hj]
  rfl
theorem wdL_put {T : Tb α} (h : T.Ok) {k : Nat} (hk : k < T.m) : putA (wdL T k) (T.wd k) k = wdL T (k + 1) := by
  have hno : (lkA (wdL T k) (T.wd k)).isSome = false := by
    cases q : (lkA (wdL T k) (T.wd k)).isSome with
    | false => rfl
    | true =>
      have := (lkA_mem (wdL T k) (T.wd k)).mp q
      obtain ⟨p, hp, e⟩ := List.mem_map.mp this
      obtain ⟨i, hi, rfl⟩ := List.mem_map.mp hp
      have hi := List.mem_range.mp hi
      have := h.wd_inj (i := i) (j := k) (by omega) hk e
      omega
  unfold putA
  rw [hno]
  unfold wdL
  rw [List.range_succ, List.map_append]
  rfl
/-- .. by letters alone -/
def rightD (T : Tb α) : D := .lst ((List.range T.m).map fun i => .lst ((List.range T.c).map fun a => dN (T.right i a)))
theorem prow_ok (n0 : Nat) (T : Tb α) (h : T.Ok) (h3 : T.dm.length ≤ 300) (i : Nat) (hi : i < T.m) (mem : List MO) :
    run (TL L) (n0 + 1) "product_row" [.int (i : Int), rightD T, .lst ((List.range T.m).map fun k => dNs (T.wd k))] mem = .ok (.tup ((List.range T.m).map fun j => dN (T.mul i j))) mem := by
  have hm := h.m_le
  rw [run_def T_prow rfl]
  generalize run (TL L) n0 = cf
  simp only [d_product_row]
  refine wp_eq ?_
  have rr : ∀ s : S, drf s (rightD T) = rightD T := fun _ => rfl
  have en := enum_range (fun k => dNs (T.wd k)) T.m
  dsimp! [en]
  refine wp_for0 (fun k => D.tup [dN k, dNs (T.wd k)]) (fun done s => ∃ s5 s6 s7, s = ⟨[.val (.int (i : Int)), .val (rightD T), .val (.lst ((List.range T.m).map fun k => dNs (T.wd k))), .own (.dct (dctM keyL dN (wdL T done.length))), .own (.lst ((List.range done.length).map fun j => dN (T.mul i j))), s5, s6, s7], mem⟩) ⟨.non, .non, .non, rfl⟩ ?_ ?_
  · intro done k rest s hre ⟨s5, s6, s7, hs⟩
    subst hs
    obtain ⟨hd1, hd2⟩ := done_range hre
    have hk : k < T.m := List.mem_range.mp (by rw [hre]; simp)
    rw [List.length_append, List.length_singleton, ← hd2]
    obtain ⟨w, a, ew, ha, hw⟩ := h.mul_step hi hk
    have tw : ∀ l : List Nat, bltO .tuple [dNs l] = some (.pl (.d (tNs l))) := fun _ => rfl
    have pk := dk_put keyL dN (wdL T k) (T.wd k) k (by unfold wdL; rw [List.length_map, List.length_range]; omega)
    rw [wdL_put h hk] at pk
    have pk : putKV (dctM keyL dN (wdL T k)) (tNs (T.wd k)) (.int (k : Int)) = some (dctM keyL dN (wdL T (k + 1))) := pk
    have lw : lenO (dNs (T.wd k)) = some ((T.wd k).length : Int) := l_Ns _
    have il : idxO (dNs (T.wd k)) (.int (-1)) = some (.int (a : Int)) := by
      rw [ew]
      show L2.atI ((w ++ [a]).map dN) (-1) = _
      rw [List.map_append]
      exact L2.atI_last _ _
    have sl : slcO (dNs (T.wd k)) none (some (-1)) = some (.mo (.lst (w.map dN))) := by
      show some _ = _
      rw [cut_init, ew]
      simp
    have lN : ∀ l : List Nat, D.lst (l.map dN) = dNs l := fun _ => rfl
    have ir : ∀ x, x < T.m → idxO (rightD T) (.int (x : Int)) = some (.lst ((List.range T.c).map fun a => dN (T.right x a))) := fun x hx => i_rngM T.m (fun x => D.lst ((List.range T.c).map fun a => dN (T.right x a))) x hx
    have ia : ∀ x, idxO (.lst ((List.range T.c).map fun a => dN (T.right x a))) (.int (a : Int)) = some (.int ((T.right x a : Nat) : Int)) := fun x => i_rngM T.c (fun a => dN (T.right x a)) a ha
    have rs : (List.range k).map (fun j => dN (T.mul i j)) ++ [.int ((T.mul i k : Nat) : Int)] = (List.range (k + 1)).map fun j => dN (T.mul i j) := by
      rw [List.range_succ, List.map_append]
      rfl
    have rl : ∀ (s : S) (ds : List D), drf s (.lst ds) = .lst ds := fun _ _ => rfl
    rcases hw with ⟨ew0, em⟩ | ⟨j, hj, ej, hwn, em⟩
    · have l1 : decide (((T.wd k).length : Int) = 1) = true := decide_eq_true (by rw [ew, ew0]; rfl)
      rw [em] at rs
      dsimp! [r_Ns, tw, pk, lw, l1, il, rr, ir i hi, ia, rl, rs]
      exact ⟨_, _, _, rfl⟩
    · have l1 : decide (((T.wd k).length : Int) = 1) = false := decide_eq_false fun z => by
        rw [ew, List.length_append, List.length_singleton] at z
        exact hwn (List.length_eq_zero_iff.mp (by omega))
      have gk := dk_get keyL dN (wdL T (k + 1)) (T.wd j)
      rw [wdL_lk h (by omega) (by omega)] at gk
      have gk : idxO (.dct (dctM keyL dN (wdL T (k + 1)))) (tNs w) = some (.int (j : Int)) := by rw [← ej]; exact gk
      have gr : idxO (.lst ((List.range k).map fun j => dN (T.mul i j))) (.int (j : Int)) = some (.int ((T.mul i j : Nat) : Int)) := i_rngM k (fun j => dN (T.mul i j)) j hj
      have hmj : T.mul i j < T.m := h.mul_lt hi (by omega)
      rw [em] at rs
      dsimp! [r_Ns, r_tNs, tw, pk, lw, l1, il, rr, sl, lN, gk, r_dct, gr, ir _ hmj, ia, rl, rs]
      exact ⟨_, _, _, rfl⟩
  · intro s ⟨s5, s6, s7, hs⟩
    subst hs
    rw [List.length_range]
    dsimp! []
end
end DL
end

section
set_option maxRecDepth 100000
set_option maxHeartbeats 16000000
namespace DL
open PySem
local macro_rules | `(tactic| dsimp! [$ls,*]) => `(tactic| simp (disch := (first | assumption | omega | (simp only [List.length_cons, List.length_nil, List.length_map, List.length_range, List.length_append]; omega))) only [f_bool, f_int, f_bl, f_non, f_str, f_glob, f_bin, f_cmp, f_idx, f_neg, f_chain, f_not, f_ite, f_slc, f_tup, f_lst, f_call, f_blt, f_lrg1, f_lrg2, f_lc, f_gx, f_Anil, f_A, f_B1, f_B, f_C0, f_C1, f_seq, f_rng1, f_rng2, f_enum, f_zip, f_rev, b_ok, b_exc, b_of, b_O, b_map, b_2, b_ob, a_2, a_Bin, a_Cmp, a_Idx, a_fC, a_fI, a_wB, a_wD, a_asB, a_asI, a_Neg, a_Neg2, a_Ch, a_Ch2, a_Ch3t, a_Ch3f, a_Not, a_Not2, a_Ite, a_Ite2t, a_Ite2f, a_Tup, a_Tup2, a_Lst, a_Lst2, a_Cl, a_Cl2, a_Cl3, a_inM, a_inX, a_Blt, a_Lr1, a_Lr2, a_Lr3, a_Sm, a_Bd, a_evBh, a_slcV, a_Sl2, a_Sl, a_turnC, a_C0, a_C1t, a_C1f, a_C2, a_C3, a_turnG, a_G0, a_G1t, a_G1f, a_G2, a_G3, a_Lc, a_Lc2, a_Gx, a_Gx2, a_A2, a_A, a_B, a_B2tt, a_B2tf, a_B2ff, a_B2ft, a_C, a_Seq, a_Seq2, a_R1, a_R2, a_R2', a_R3, a_En, a_En2, a_Z, a_Z2, a_Z3, a_Z4, a_Rv, a_Rv2, v_d, v_s, v_val, v_own, r_non, r_bl, r_int, r_str, r_tup, r_lst, c_d, c_s, c_val, c_own, s_nil, s_cons, s_1, s_2, vs_nil, vs_cons, vs_c, f_var, w_val, w_own, p_pl, p_mo, t_lst, o_addI, o_addS, o_addL, o_addT, o_sub, o_mulN, o_fdiv, o_mod, q_lt, q_le, q_gt, q_ge, q_eq, q_ne, q_is, q_isN, q_isNb, q_isNi, q_isNt, q_not, q_notN, q_notNb, q_notNi, q_notNt, q_in, q_nin, u_bl, u_int, u_lst, u_tup, i_lst, i_tup, i_0, i_1, i_2, i_3, i_4, l_lst, l_tup, z_lst, z_tup, a_wI, t_len, t_max, t_min, t_int, t_intb, t_all, t_any, t_listL, t_listT, t_listS, t_tupL, t_tupT, g_lst, g_tup, n_name, n_tup, n_nil, n_cons, n_kas, y_skip, y_seq, y_asg, y_own, y_shr, y_par, y_aug, y_put, y_app, y_ext, y_iff, y_ret, y_retN, y_brk, y_cont, y_exp, y_whl, y_for, j_Sn, j_Sr, j_Sb, j_Sc, j_N, j_A2, j_A, j_O, j_H, j_P4, j_P3, j_P2, j_P, j_G0, j_G, j_G2, j_U5, j_U4, j_U3, j_U2, j_U, j_L3, j_L2, j_L1, j_L0, j_L, j_X2, j_X, j_X0, j_It, j_If, j_I, j_R2, j_R, j_E, j_W, j_whlC, j_T, j_turnF, j_F, m_rt, m_nx, m_exc, ap_s, ap_r, ap_o, ap_v, ex_s, ex_o, pu_s, pu_o, pu_v, au_add, au_sub, au_mul, au_fdiv, au_mod, fq_rt, fq_nx, gq_nx, gq_ct, gq_rt, gq_bk, isB_eq, isI_eq, isT_eq, rg1_n, lst1_n, a_evBd, isHole, eqO_int, wp_ok, wp_bind, wp_fin, List.length_cons, List.length_nil, List.getElem?_cons_zero, List.getElem?_cons_succ, List.getElem?_nil, List.set_cons_zero, List.set_cons_succ, if_true, if_false, Bool.false_eq_true, wipeE, back, Nat.reduceAdd, decide_true, decide_false, Bool.not_true, Bool.not_false, List.map_cons, List.map_nil, List.replicate, List.cons_append, List.nil_append, Nat.add_one_sub_one, Nat.reduceSub, Nat.sub_self, List.isEmpty_nil, List.isEmpty_cons, k_tk, eq_self, and_true, true_and, and_self, Option.some.injEq, f_kin, f_kix, f_pop, f_popAt, f_isi, f_index, f_rng3, isS_eq, a_asS, a_Ki, a_Ki2f, a_Ki2t, a_Kx, a_Kx2, a_Pop, a_Pop1, a_Pop2, a_Pa, a_Pa0, a_Pa1, a_Pa2, a_Isi, a_fIsi, a_Ix, a_Ix0, a_Ix1, a_R36, a_R35, a_R34, a_R33, a_R32, po_s, po_v, r_scr, Option.isSome_some, Option.isSome_none, f_fresh, a_Fr, r_ref, r_refL, ap_mW, ap_mL, po_mW, f_dnew, f_trg1, a_Tr1, trR_n, pu_od, r_dct, l_dct, t_dct, f_dc, a_turnU, a_U0, a_U1t, a_U1f, a_U2, a_U3, a_U4, a_U5, a_Dc, a_Dc2, f_kget, a_Kg, a_Kg2, f_gmax, a_turnM, a_M0, a_M1t, a_M1f, a_M2, a_M3, a_Gm, a_Gm2, f_fld, a_Fld, a_Fld2, in_r, in_s, in_v, in_m, fl_w, fl_1, fl_2, ct_1, tl_1, f_meth, a_Me, a_Me2, a_Me3, a_Me4, mt_w, mt_1, mt_2, mt_3, f_new, a_Nw, a_Nw2, a_Nw3, x_fst, j_Fs, j_Fs2, j_Fs3, fs_w, fs_1, r_refI, a_En2t, f_lc2, a_L2, a_turn2C, a_2C0, a_2Ct, a_2Cf, a_D1, x_tryN, $ls,*])
theorem T_islinked : TL L "is_linked" = some d_is_linked := rfl
/-- a comprehension: what stands at each turn -/
theorem lcL_inv {α : Type} {own : List Nat} {turn : D → S → Out S (Option D)} (enc f : α → D) (I : S → Prop) : ∀ (l : List α), (∀ a ∈ l, ∀ s, I s → (turn (enc a) { s with env := wipeE s.env own }).Wp fun r s' => r = some (f a) ∧ I s') →
    ∀ s, I s → ∃ s', lcL own turn (l.map enc) s = .ok (l.map f) s' ∧ I s'
  | [], _, s, hs => ⟨s, rfl, hs⟩
  | a :: l, h, s, hs => by
    obtain ⟨r, s1, e1, er, h1⟩ := wp_get (h a List.mem_cons_self s hs)
    subst er
    obtain ⟨s2, e2, h2⟩ := lcL_inv enc f I l (fun b hb => h b (List.mem_cons_of_mem _ hb)) s1 h1
    refine ⟨s2, ?_, h2⟩
    simp only [List.map_cons, lcL, e1, Out.bind, e2]
theorem lc_inv {α : Type} {own : List Nat} {turn : D → S → Out S (Option D)} {Q : Rz → S → Prop} (enc f : α → D) (I : S → Prop) (l : List α) (s : S) (hs : I s) (h : ∀ a ∈ l, ∀ s, I s → (turn (enc a) { s with env := wipeE s.env own }).Wp fun r s' => r = some (f a) ∧ I s')
    (hq : ∀ s', I s' → Q (.mo (.lst (l.map f))) ⟨back s.env s'.env own, s'.mem⟩) : (lcR own turn (l.map enc) s).Wp Q := by
  obtain ⟨s', e, h'⟩ := lcL_inv enc f I l h s hs
  unfold lcR
  rw [e, b_ok, a_Lc2]
  exact .mk (hq s' h')
section
variable {α : Type} [DecidableEq α]
/-- the values' numbers -/
def nuL (T : Tb α) (k : Nat) : List (α × Nat) := (List.range k).map fun i => (T.at i, i)
theorem nuL_keys (T : Tb α) (h : T.Ok) : (nuL T T.m).map (·.1) = T.vals := by
  unfold nuL
  rw [List.map_map, h.vals_range]
  rfl
theorem nuL_puts (T : Tb α) (h : T.Ok) : ∀ k, k ≤ T.m → putsA [] (nuL T k) = nuL T k
  | 0, _ => rfl
  | k + 1, hk => by
    have ih := nuL_puts T h k (by omega)
    have e : nuL T (k + 1) = nuL T k ++ [(T.at k, k)] := by
      unfold nuL
      rw [List.range_succ, List.map_append]
      rfl
    rw [e]
    show List.foldl _ _ _ = _
    rw [List.foldl_append]
    have ih : (nuL T k).foldl (fun acc p => putA acc p.1 p.2) [] = nuL T k := ih
    rw [ih]
    show putA (nuL T k) (T.at k) k = _
    unfold putA
    rw [if_neg]
    intro q
    have := (lkA_mem (nuL T k) (T.at k)).mp q
    obtain ⟨p, hp, e⟩ := List.mem_map.mp this
    obtain ⟨i, hi, rfl⟩ := List.mem_map.mp hp
    have hi := List.mem_range.mp hi
    have h1 := h.num_at (i := i) (by omega)
    have h2 := h.num_at (i := k) (by omega)
    have e : T.at i = T.at k := e
    rw [e, h2] at h1
    omega
theorem nuL_lk (T : Tb α) (h : T.Ok) {x : α} (hx : x ∈ T.vals) : lkA (nuL T T.m) x = some (T.num x) := by
  have h1 : (lkA (nuL T T.m) x).isSome = true := (lkA_mem _ _).mpr (by rw [nuL_keys T h]; exact hx)
  obtain ⟨k, hk⟩ := Option.isSome_iff_exists.mp h1
  rw [hk]
  congr 1
  unfold lkA at hk
  cases q : (nuL T T.m).find? fun p => decide (p.1 = x) with
  | none => rw [q] at hk; cases hk
  | some p =>
    rw [q] at hk
    have hk : p.2 = k := Option.some.inj hk
    have hp := List.mem_of_find?_eq_some q
    have hx2 := of_decide_eq_true (List.find?_some (p := fun p : α × Nat => decide (p.1 = x)) q)
    obtain ⟨i, hi, rfl⟩ := List.mem_map.mp hp
    have hi := List.mem_range.mp hi
    have hx2 : T.at i = x := hx2
    rw [← hx2, h.num_at hi]
    exact hk.symm
def tidS (T : Tb α) : Sg := ⟨T.m, T.mul⟩
def tidL (T : Tb α) : List Nat := (List.range T.c).map fun a => T.num (T.lt a)
def tidA (T : Tb α) : List (Nat × Nat) := (linked (tidS T)).filter fun p => T.tk (T.at p.1) (T.at p.2)
/-- the tidy reader of a table -/
def tidR (T : Tb α) : Rdr := ⟨tidS T, tidL T, tidA T⟩
theorem tidS_ok {T : Tb α} (h : T.Ok) (h3 : T.dm.length ≤ 300) : (tidS T).Ok := by
  refine ⟨h.m1, ?_, fun x y hx hy => h.mul_lt hx hy, fun x y z hx hy hz => ?_⟩
  · have := h.m_le
    show T.m ≤ 400
    omega
  · have hx : x < T.m := hx
    have hy : y < T.m := hy
    have hz : z < T.m := hz
    show T.num (T.jn (T.at (T.mul x y)) (T.at z)) = T.num (T.jn (T.at x) (T.at (T.mul y z)))
    rw [h.at_mul hx hy, h.at_mul hy hz, h.as _ _ _ (h.in_dm (h.at_in hx)) (h.in_dm (h.at_in hy)) (h.in_dm (h.at_in hz))]
theorem tidR_ok {T : Tb α} (h : T.Ok) (h3 : T.dm.length ≤ 300) : (tidR T).Ok :=
  ⟨tidS_ok h h3, fun x hx => by
    obtain ⟨a, ha, rfl⟩ := List.mem_map.mp hx
    exact h.num_lt (h.lt_in (List.mem_range.mp ha))⟩
def tidRow (T : Tb α) (s : Nat) : List (Nat × Nat) := ((List.range T.m).filter fun f => lkF (tidS T) s f && T.tk (T.at s) (T.at f)).map fun f => (s, f)
theorem tidA_rows (T : Tb α) : tidA T = (List.range T.m).flatMap (tidRow T) := by
  unfold tidA linked
  rw [List.filter_flatMap]
  congr 1
  funext s
  show (((List.range T.m).filter (lkF (tidS T) s)).map fun f => (s, f)).filter _ = _
  rw [List.filter_map, List.filter_filter]
  unfold tidRow
  congr 1
  refine List.filter_congr fun f _ => ?_
  show (T.tk (T.at s) (T.at f) && lkF (tidS T) s f) = _
  exact Bool.and_comm ..
theorem islinked_ok (n0 : Nat) (R : Rdr) (hS : R.S.Ok) (s f : Nat) (hs : s < R.S.n) (hf : f < R.S.n) (mem : List MO) : run (TL L) (n0 + 1) "is_linked" [R.d, .int (s : Int), .int (f : Int)] mem = .ok (.bl (lkF R.S s f)) mem := by
  rw [run_def T_islinked rfl]
  generalize run (TL L) n0 = cf
  simp only [d_is_linked]
  have e1 : decide (((R.S.f s f : Nat) : Int) = (s : Int)) = decide (R.S.f s f = s) := by
    by_cases h : R.S.f s f = s
    · rw [decide_eq_true h, decide_eq_true (by omega)]
    · rw [decide_eq_false h, decide_eq_false (by omega)]
  have e2 : decide (((R.S.f f f : Nat) : Int) = (f : Int)) = decide (R.S.f f f = f) := by
    by_cases h : R.S.f f f = f
    · rw [decide_eq_true h, decide_eq_true (by omega)]
    · rw [decide_eq_false h, decide_eq_false (by omega)]
  unfold lkF
  cases h1 : decide (R.S.f s f = s) with
  | true => dsimp! [r_R, i_R1, r_S, i_S _ _ hs, r_Sr, i_Sr _ _ _ hf, i_S _ _ hf, e1, h1, e2, Bool.true_and]
  | false => dsimp! [r_R, i_R1, r_S, i_S _ _ hs, r_Sr, i_Sr _ _ _ hf, i_S _ _ hf, e1, h1, e2, Bool.false_and]
end
end DL
end

section
set_option maxRecDepth 100000
set_option maxHeartbeats 16000000
namespace DL
open PySem
local macro_rules | `(tactic| dsimp! [$ls,*]) => `(tactic| simp (disch := (first | assumption | omega | (simp only [List.length_cons, List.length_nil, List.length_map, List.length_range, List.length_append]; omega))) only [f_bool, f_int, f_bl, f_non, f_str, f_glob, f_bin, f_cmp, f_idx, f_neg, f_chain, f_not, f_ite, f_slc, f_tup, f_lst, f_call, f_blt, f_lrg1, f_lrg2, f_lc, f_gx, f_Anil, f_A, f_B1, f_B, f_C0, f_C1, f_seq, f_rng1, f_rng2, f_enum, f_zip, f_rev, b_ok, b_exc, b_of, b_O, b_map, b_2, b_ob, a_2, a_Bin, a_Cmp, a_Idx, a_fC, a_fI, a_wB, a_wD, a_asB, a_asI, a_Neg, a_Neg2, a_Ch, a_Ch2, a_Ch3t, a_Ch3f, a_Not, a_Not2, a_Ite, a_Ite2t, a_Ite2f, a_Tup, a_Tup2, a_Lst, a_Lst2, a_Cl, a_Cl2, a_Cl3, a_inM, a_inX, a_Blt, a_Lr1, a_Lr2, a_Lr3, a_Sm, a_Bd, a_evBh, a_slcV, a_Sl2, a_Sl, a_turnC, a_C0, a_C1t, a_C1f, a_C2, a_C3, a_turnG, a_G0, a_G1t, a_G1f, a_G2, a_G3, a_Lc, a_Lc2, a_Gx, a_Gx2, a_A2, a_A, a_B, a_B2tt, a_B2tf, a_B2ff, a_B2ft, a_C, a_Seq, a_Seq2, a_R1, a_R2, a_R2', a_R3, a_En, a_En2, a_Z, a_Z2, a_Z3, a_Z4, a_Rv, a_Rv2, v_d, v_s, v_val, v_own, r_non, r_bl, r_int, r_str, r_tup, r_lst, c_d, c_s, c_val, c_own, s_nil, s_cons, s_1, s_2, vs_nil, vs_cons, vs_c, f_var, w_val, w_own, p_pl, p_mo, t_lst, o_addI, o_addS, o_addL, o_addT, o_sub, o_mulN, o_fdiv, o_mod, q_lt, q_le, q_gt, q_ge, q_eq, q_ne, q_is, q_isN, q_isNb, q_isNi, q_isNt, q_not, q_notN, q_notNb, q_notNi, q_notNt, q_in, q_nin, u_bl, u_int, u_lst, u_tup, i_lst, i_tup, i_0, i_1, i_2, i_3, i_4, l_lst, l_tup, z_lst, z_tup, a_wI, t_len, t_max, t_min, t_int, t_intb, t_all, t_any, t_listL, t_listT, t_listS, t_tupL, t_tupT, g_lst, g_tup, n_name, n_tup, n_nil, n_cons, n_kas, y_skip, y_seq, y_asg, y_own, y_shr, y_par, y_aug, y_put, y_app, y_ext, y_iff, y_ret, y_retN, y_brk, y_cont, y_exp, y_whl, y_for, j_Sn, j_Sr, j_Sb, j_Sc, j_N, j_A2, j_A, j_O, j_H, j_P4, j_P3, j_P2, j_P, j_G0, j_G, j_G2, j_U5, j_U4, j_U3, j_U2, j_U, j_L3, j_L2, j_L1, j_L0, j_L, j_X2, j_X, j_X0, j_It, j_If, j_I, j_R2, j_R, j_E, j_W, j_whlC, j_T, j_turnF, j_F, m_rt, m_nx, m_exc, ap_s, ap_r, ap_o, ap_v, ex_s, ex_o, pu_s, pu_o, pu_v, au_add, au_sub, au_mul, au_fdiv, au_mod, fq_rt, fq_nx, gq_nx, gq_ct, gq_rt, gq_bk, isB_eq, isI_eq, isT_eq, rg1_n, lst1_n, a_evBd, isHole, eqO_int, wp_ok, wp_bind, wp_fin, List.length_cons, List.length_nil, List.getElem?_cons_zero, List.getElem?_cons_succ, List.getElem?_nil, List.set_cons_zero, List.set_cons_succ, if_true, if_false, Bool.false_eq_true, wipeE, back, Nat.reduceAdd, decide_true, decide_false, Bool.not_true, Bool.not_false, List.map_cons, List.map_nil, List.replicate, List.cons_append, List.nil_append, Nat.add_one_sub_one, Nat.reduceSub, Nat.sub_self, List.isEmpty_nil, List.isEmpty_cons, k_tk, eq_self, and_true, true_and, and_self, Option.some.injEq, f_kin, f_kix, f_pop, f_popAt, f_isi, f_index, f_rng3, isS_eq, a_asS, a_Ki, a_Ki2f, a_Ki2t, a_Kx, a_Kx2, a_Pop, a_Pop1, a_Pop2, a_Pa, a_Pa0, a_Pa1, a_Pa2, a_Isi, a_fIsi, a_Ix, a_Ix0, a_Ix1, a_R36, a_R35, a_R34, a_R33, a_R32, po_s, po_v, r_scr, Option.isSome_some, Option.isSome_none, f_fresh, a_Fr, r_ref, r_refL, ap_mW, ap_mL, po_mW, f_dnew, f_trg1, a_Tr1, trR_n, pu_od, r_dct, l_dct, t_dct, f_dc, a_turnU, a_U0, a_U1t, a_U1f, a_U2, a_U3, a_U4, a_U5, a_Dc, a_Dc2, f_kget, a_Kg, a_Kg2, f_gmax, a_turnM, a_M0, a_M1t, a_M1f, a_M2, a_M3, a_Gm, a_Gm2, f_fld, a_Fld, a_Fld2, in_r, in_s, in_v, in_m, fl_w, fl_1, fl_2, ct_1, tl_1, f_meth, a_Me, a_Me2, a_Me3, a_Me4, mt_w, mt_1, mt_2, mt_3, f_new, a_Nw, a_Nw2, a_Nw3, x_fst, j_Fs, j_Fs2, j_Fs3, fs_w, fs_1, r_refI, a_En2t, f_lc2, a_L2, a_turn2C, a_2C0, a_2Ct, a_2Cf, a_D1, x_tryN, $ls,*])
section
variable {α : Type} [DecidableEq α]
theorem made_ok (n0 : Nat) (T : Tb α) (h : T.Ok) (e : KEnc α) (n : Nat) (mem : List MO) (C : String) (fs : List (Str × D)) (fL fJ fT : String) (h3 : T.dm.length ≤ 300) (hc : T.c ≤ 1000)
    (hA : ∀ k, TbAt (run (TL L) (k + 1)) T e n mem C fs fL fJ fT) (tL : List.lookup C [("Table", "Table.letter")] = some fL) (tJ : List.lookup C [("Table", "Table.join")] = some fJ) (tT : List.lookup C [("Table", "Table.takes")] = some fT) :
    run (TL L) (n0 + 3) "made_reader" [.ref n, .int (T.c : Int)] mem = .ok (tidR T).d mem := by
  have hli := listed_ok (n0 + 1) T h e n mem C fs fL fJ fT h3 hc (hA n0) tL tJ
  have hpr := fun i hi => prow_ok (n0 + 1) T h h3 i hi mem
  have hik := fun R hS s f hs hf => islinked_ok (n0 + 1) R hS s f hs hf mem
  have hm := h.m_le
  have hm1 := h.m1
  rw [run_def T_made rfl]
  have hT := hA (n0 + 1)
  change TbAt (run (TL L) (n0 + 2)) T e n mem C fs fL fJ fT at hT
  generalize run (TL L) (n0 + 2) = cf at hli hpr hik hT ⊢
  obtain ⟨rd, hat, noL, noJ, noT, hl, hj, ht⟩ := hT
  simp only [d_made_reader]
  refine wp_eq ?_
  have eo : T.ord.map (dI e) = (List.range T.m).map fun i => dI e (T.at i, T.wd i) := by
    rw [h.ord_range, List.map_map]
    rfl
  rw [eo] at hli
  have pe : ∀ p : Itm α, dI e p = .tup [e.d p.1, dNs p.2] := fun _ => rfl
  dsimp! [hli]
  rw [lc_w (fun i => dI e (T.at i, T.wd i)) fun i => e.d (T.at i)]
  rotate_left
  · intro i hi
    dsimp! [pe, rd]
  have en := enum_range (fun i => e.d (T.at i)) T.m
  dsimp! [en]
  rw [dc_w e dN (fun i => D.tup [dN i, e.d (T.at i)]) fun i => some (T.at i, i)]
  rotate_left
  · simp; omega
  · intro i hi
    dsimp! [rd]
  have ef : (List.range T.m).filterMap (fun i => some (T.at i, i)) = nuL T T.m := by
    rw [List.filterMap_eq_map']
    rfl
  rw [ef, nuL_puts T h T.m (Nat.le_refl _)]
  have gn : ∀ x, x ∈ T.vals → idxO (.dct (dctM e dN (nuL T T.m))) (e.d x) = some (.int ((T.num x : Nat) : Int)) := fun x hx => by
    rw [dk_get, nuL_lk T h hx]
    rfl
  dsimp! []
  rw [lc_w dN fun a => dN (T.num (T.lt a))]
  rotate_left
  · intro a ha
    have ha := List.mem_range.mp ha
    dsimp! [hat, noL, tL, hl a ha, rd, r_dct, gn _ (h.lt_in ha)]
  have tL0 : D.tup ((List.range T.c).map fun a => dN (T.num (T.lt a))) = tNs (tidL T) := by
    unfold tidL tNs
    rw [List.map_map]
    rfl
  dsimp! [tL0]
  rw [lc_w (fun i => e.d (T.at i)) fun i => .lst ((List.range T.c).map fun a => dN (T.right i a))]
  rotate_left
  · intro i hi
    have hi := List.mem_range.mp hi
    dsimp! []
    rw [lc_w dN fun a => dN (T.right i a)]
    · dsimp! []
    · intro a ha
      have ha := List.mem_range.mp ha
      have hx := h.step_in (h.at_in hi) ha
      dsimp! [hat, noL, noJ, tL, tJ, hl a ha, hj _ _ (h.in_dm (h.at_in hi)) (h.lt a ha), rd, r_dct, gn _ hx]
      rfl
  have rD : D.lst ((List.range T.m).map fun i => .lst ((List.range T.c).map fun a => dN (T.right i a))) = rightD T := rfl
  have rM : MO.lst ((List.range T.m).map fun i => .lst ((List.range T.c).map fun a => dN (T.right i a))) = MO.lst ((List.range T.m).map fun i => .lst ((List.range T.c).map fun a => dN (T.right i a))) := rfl
  have ll : ((List.range T.m).map fun i => e.d (T.at i)).length = T.m := by simp
  dsimp! [ll]
  refine lc_inv dN (fun i => D.tup ((List.range T.m).map fun j => dN (T.mul i j))) (fun s => ∃ s13 s6, (s6 = .own (.lst ((List.range T.m).map fun i => .lst ((List.range T.c).map fun a => dN (T.right i a)))) ∨ s6 = .val (rightD T)) ∧ s = ⟨[.val (.ref n), .val (.int (T.c : Int)), .val (.lst ((List.range T.m).map fun i => dI e (T.at i, T.wd i))), .val (.lst ((List.range T.m).map fun i => e.d (T.at i))), .own (.dct (dctM e dN (nuL T T.m))), .val (tNs (tidL T)), s6, .non, .non, .non, .non, .non, .non, s13, .non, .non, .non, .non], mem⟩) _ _ ⟨.non, _, .inl rfl, rfl⟩ ?_ ?_
  · intro i hi s ⟨s13, s6, h6, hs⟩
    have hi := List.mem_range.mp hi
    subst hs
    have hp := hpr i hi
    rcases h6 with rfl | rfl
    · dsimp! [rD]
      rw [lc_w (fun k => dI e (T.at k, T.wd k)) fun k => dNs (T.wd k)]
      · dsimp! [rD, hp]
        exact ⟨_, _, .inr rfl, rfl⟩
      · intro k hk
        dsimp! [pe]
    · dsimp! [rD]
      rw [lc_w (fun k => dI e (T.at k, T.wd k)) fun k => dNs (T.wd k)]
      · dsimp! [rD, hp]
        exact ⟨_, _, .inr rfl, rfl⟩
      · intro k hk
        dsimp! [pe]
  intro s ⟨s13, s6, h6, hs⟩
  subst hs
  have mS : D.tup ((List.range T.m).map fun i => D.tup ((List.range T.m).map fun j => dN (T.mul i j))) = (tidS T).d := rfl
  have pl : D.tup [tNs (tidL T), (tidS T).d, .tup []] = (⟨tidS T, tidL T, []⟩ : Rdr).d := rfl
  dsimp! [mS, pl, en]
  have hS := tidS_ok h h3
  have tA : ∀ l : List (Nat × Nat), D.tup (l.map d2) = .tup (l.map d2) := fun _ => rfl
  have row9 : ∀ s, (tidRow T s).length ≤ T.m := fun s => by
    unfold tidRow
    rw [List.length_map]
    exact Nat.le_trans (List.length_filter_le _ _) (by simp)
  have rows9 : ∀ l : List Nat, (l.flatMap (tidRow T)).length ≤ l.length * T.m := fun l => by
    induction l with
    | nil => simp
    | cons a l ih =>
      rw [List.flatMap_cons, List.length_append, List.length_cons, Nat.add_mul]
      have := row9 a
      omega
  refine wp_for0 (fun i => D.tup [dN i, e.d (T.at i)]) (fun done s => ∃ s10 s11 s13, s = ⟨[.val (.ref n), .val (.int (T.c : Int)), .val (.lst ((List.range T.m).map fun i => dI e (T.at i, T.wd i))), .val (.lst ((List.range T.m).map fun i => e.d (T.at i))), .own (.dct (dctM e dN (nuL T T.m))), .val (tNs (tidL T)), s6, .val (tidS T).d, .val (⟨tidS T, tidL T, []⟩ : Rdr).d, .own (.lst ((done.flatMap (tidRow T)).map d2)), s10, s11, .non, s13, .non, .non, .non, .non], mem⟩) ⟨.non, .non, .non, rfl⟩ ?_ ?_
  · intro done i rest s hre ⟨s10, s11, s13, hs⟩
    have hi : i < T.m := List.mem_range.mp (by rw [hre]; simp)
    have hdl : done.length ≤ T.m := by
      have := congrArg List.length hre
      simp at this
      omega
    have hlen : (done.flatMap (tidRow T)).length ≤ 90000 := Nat.le_trans (rows9 done) (Nat.mul_le_mul (show done.length ≤ 300 by omega) (show T.m ≤ 300 by omega))
    subst hs
    dsimp! [rd, en]
    rw [lf_w (fun f => D.tup [dN f, e.d (T.at f)]) (fun f => lkF (tidS T) i f && T.tk (T.at i) (T.at f)) (fun f => d2 (i, f))]
    rotate_left
    · intro f hf
      have hf := List.mem_range.mp hf
      have h1 := hik ⟨tidS T, tidL T, []⟩ hS i f hi hf
      have h2 := ht _ _ (h.in_dm (h.at_in hi)) (h.in_dm (h.at_in hf))
      have ed : D.tup [.int (i : Int), .int (f : Int)] = d2 (i, f) := rfl
      cases q1 : lkF (tidS T) i f with
      | false =>
        have h1 : cf "is_linked" [(⟨tidS T, tidL T, []⟩ : Rdr).d, .int (i : Int), .int (f : Int)] mem = .ok (.bl false) mem := by rw [← q1]; exact h1
        dsimp! [rd, r_R, h1, Bool.false_and]
      | true =>
        have h1 : cf "is_linked" [(⟨tidS T, tidL T, []⟩ : Rdr).d, .int (i : Int), .int (f : Int)] mem = .ok (.bl true) mem := by rw [← q1]; exact h1
        cases q2 : T.tk (T.at i) (T.at f) with
        | false =>
          rw [q2] at h2
          dsimp! [rd, r_R, h1, hat, noT, tT, h2, Bool.true_and]
        | true =>
          rw [q2] at h2
          dsimp! [rd, r_R, h1, hat, noT, tT, h2, Bool.true_and, ed]
    have er : ((List.range T.m).filter fun f => lkF (tidS T) i f && T.tk (T.at i) (T.at f)).map (fun f => d2 (i, f)) = (tidRow T i).map d2 := by
      unfold tidRow
      rw [List.map_map]
      rfl
    have es : (done.flatMap (tidRow T)).map d2 ++ (tidRow T i).map d2 = ((done ++ [i]).flatMap (tidRow T)).map d2 := by
      rw [List.flatMap_append, ← List.map_append]
      simp
    have lr := row9 i
    rw [er]
    have l1 : ((done.flatMap (tidRow T)).map d2).length + ((tidRow T i).map d2).length ≤ 16777216 := by rw [List.length_map, List.length_map]; omega
    dsimp! [es]
    exact ⟨_, _, _, rfl⟩
  intro s ⟨s10, s11, s13, hs⟩
  subst hs
  rw [← tidA_rows]
  have fin : D.tup [tNs (tidL T), (tidS T).d, .tup ((tidA T).map d2)] = (tidR T).d := rfl
  dsimp! [r_tNs, r_S, fin]
end
end DL
end

section
set_option maxRecDepth 100000
set_option maxHeartbeats 16000000
namespace DL
open PySem
local macro_rules | `(tactic| dsimp! [$ls,*]) => `(tactic| simp (disch := (first | assumption | omega | (simp only [List.length_cons, List.length_nil, List.length_map, List.length_range, List.length_append]; omega))) only [f_bool, f_int, f_bl, f_non, f_str, f_glob, f_bin, f_cmp, f_idx, f_neg, f_chain, f_not, f_ite, f_slc, f_tup, f_lst, f_call, f_blt, f_lrg1, f_lrg2, f_lc, f_gx, f_Anil, f_A, f_B1, f_B, f_C0, f_C1, f_seq, f_rng1, f_rng2, f_enum, f_zip, f_rev, b_ok, b_exc, b_of, b_O, b_map, b_2, b_ob, a_2, a_Bin, a_Cmp, a_Idx, a_fC, a_fI, a_wB, a_wD, a_asB, a_asI, a_Neg, a_Neg2, a_Ch, a_Ch2, a_Ch3t, a_Ch3f, a_Not, a_Not2, a_Ite, a_Ite2t, a_Ite2f, a_Tup, a_Tup2, a_Lst, a_Lst2, a_Cl, a_Cl2, a_Cl3, a_inM, a_inX, a_Blt, a_Lr1, a_Lr2, a_Lr3, a_Sm, a_Bd, a_evBh, a_slcV, a_Sl2, a_Sl, a_turnC, a_C0, a_C1t, a_C1f, a_C2, a_C3, a_turnG, a_G0, a_G1t, a_G1f, a_G2, a_G3, a_Lc, a_Lc2, a_Gx, a_Gx2, a_A2, a_A, a_B, a_B2tt, a_B2tf, a_B2ff, a_B2ft, a_C, a_Seq, a_Seq2, a_R1, a_R2, a_R2', a_R3, a_En, a_En2, a_Z, a_Z2, a_Z3, a_Z4, a_Rv, a_Rv2, v_d, v_s, v_val, v_own, r_non, r_bl, r_int, r_str, r_tup, r_lst, c_d, c_s, c_val, c_own, s_nil, s_cons, s_1, s_2, vs_nil, vs_cons, vs_c, f_var, w_val, w_own, p_pl, p_mo, t_lst, o_addI, o_addS, o_addL, o_addT, o_sub, o_mulN, o_fdiv, o_mod, q_lt, q_le, q_gt, q_ge, q_eq, q_ne, q_is, q_isN, q_isNb, q_isNi, q_isNt, q_not, q_notN, q_notNb, q_notNi, q_notNt, q_in, q_nin, u_bl, u_int, u_lst, u_tup, i_lst, i_tup, i_0, i_1, i_2, i_3, i_4, l_lst, l_tup, z_lst, z_tup, a_wI, t_len, t_max, t_min, t_int, t_intb, t_all, t_any, t_listL, t_listT, t_listS, t_tupL, t_tupT, g_lst, g_tup, n_name, n_tup, n_nil, n_cons, n_kas, y_skip, y_seq, y_asg, y_own, y_shr, y_par, y_aug, y_put, y_app, y_ext, y_iff, y_ret, y_retN, y_brk, y_cont, y_exp, y_whl, y_for, j_Sn, j_Sr, j_Sb, j_Sc, j_N, j_A2, j_A, j_O, j_H, j_P4, j_P3, j_P2, j_P, j_G0, j_G, j_G2, j_U5, j_U4, j_U3, j_U2, j_U, j_L3, j_L2, j_L1, j_L0, j_L, j_X2, j_X, j_X0, j_It, j_If, j_I, j_R2, j_R, j_E, j_W, j_whlC, j_T, j_turnF, j_F, m_rt, m_nx, m_exc, ap_s, ap_r, ap_o, ap_v, ex_s, ex_o, pu_s, pu_o, pu_v, au_add, au_sub, au_mul, au_fdiv, au_mod, fq_rt, fq_nx, gq_nx, gq_ct, gq_rt, gq_bk, isB_eq, isI_eq, isT_eq, rg1_n, lst1_n, a_evBd, isHole, eqO_int, wp_ok, wp_bind, wp_fin, List.length_cons, List.length_nil, List.getElem?_cons_zero, List.getElem?_cons_succ, List.getElem?_nil, List.set_cons_zero, List.set_cons_succ, if_true, if_false, Bool.false_eq_true, wipeE, back, Nat.reduceAdd, decide_true, decide_false, Bool.not_true, Bool.not_false, List.map_cons, List.map_nil, List.replicate, List.cons_append, List.nil_append, Nat.add_one_sub_one, Nat.reduceSub, Nat.sub_self, List.isEmpty_nil, List.isEmpty_cons, k_tk, eq_self, and_true, true_and, and_self, Option.some.injEq, f_kin, f_kix, f_pop, f_popAt, f_isi, f_index, f_rng3, isS_eq, a_asS, a_Ki, a_Ki2f, a_Ki2t, a_Kx, a_Kx2, a_Pop, a_Pop1, a_Pop2, a_Pa, a_Pa0, a_Pa1, a_Pa2, a_Isi, a_fIsi, a_Ix, a_Ix0, a_Ix1, a_R36, a_R35, a_R34, a_R33, a_R32, po_s, po_v, r_scr, Option.isSome_some, Option.isSome_none, f_fresh, a_Fr, r_ref, r_refL, ap_mW, ap_mL, po_mW, f_dnew, f_trg1, a_Tr1, trR_n, pu_od, r_dct, l_dct, t_dct, f_dc, a_turnU, a_U0, a_U1t, a_U1f, a_U2, a_U3, a_U4, a_U5, a_Dc, a_Dc2, f_kget, a_Kg, a_Kg2, f_gmax, a_turnM, a_M0, a_M1t, a_M1f, a_M2, a_M3, a_Gm, a_Gm2, f_fld, a_Fld, a_Fld2, in_r, in_s, in_v, in_m, fl_w, fl_1, fl_2, ct_1, tl_1, f_meth, a_Me, a_Me2, a_Me3, a_Me4, mt_w, mt_1, mt_2, mt_3, f_new, a_Nw, a_Nw2, a_Nw3, x_fst, j_Fs, j_Fs2, j_Fs3, fs_w, fs_1, r_refI, a_En2t, f_lc2, a_L2, a_turn2C, a_2C0, a_2Ct, a_2Cf, a_D1, x_tryN, $ls,*])
/-- a reader's pairs as a dict -/
def knL (A : List (Nat × Nat)) : List ((Nat × Nat) × Bool) := putsA [] (A.map fun p => (p, true))
theorem kn_lk (A : List (Nat × Nat)) (p : Nat × Nat) : (lkA (knL A) p).isSome = A.any fun z => decide (z = p) := by
  have key : ∀ (l : List (Nat × Nat)) (acc : List ((Nat × Nat) × Bool)), (lkA (putsA acc (l.map fun p => (p, true))) p).isSome = ((lkA acc p).isSome || l.any fun z => decide (z = p)) := fun l => by
    induction l with
    | nil => intro acc; simp [putsA]
    | cons q l ih =>
      intro acc
      show (lkA (putsA (putA acc q true) (l.map fun p => (p, true))) p).isSome = _
      rw [ih, lkA_put, List.any_cons]
      by_cases h : p = q
      · subst h; simp
      · have h2 : ¬ q = p := fun z => h z.symm
        simp [h, h2]
  have := key A []
  exact this
def knD (A : List (Nat × Nat)) : D := .dct (dctM keyNN D.bl (knL A))
def tbF (R : Rdr) : List (Str × D) := [(("reader" : Str), R.d), (("known" : Str), knD R.A)]
def tbI (R : Rdr) : MO := .ins "Table" (tbF R)
theorem lk_rd (R : Rdr) : List.lookup ("reader" : Str) (tbF R) = some R.d := rfl
theorem lk_kn (R : Rdr) : List.lookup ("known" : Str) (tbF R) = some (knD R.A) := rfl
theorem tinit_ok (n0 : Nat) (R : Rdr) (hA : R.A.length ≤ 100000) (mem : List MO) : run (TL L) (n0 + 1) "Table.__init__" [.ref mem.length, R.d] (mem ++ [MO.ins "Table" []]) = .ok .non (mem ++ [tbI R]) := by
  rw [run_def T_tinit rfl]
  generalize run (TL L) n0 = cf
  simp only [d_Table___init__]
  refine wp_eq ?_
  have at0 : (mem ++ [MO.ins "Table" []])[mem.length]? = some (MO.ins "Table" []) := by simp
  have p1 : putFD "reader" R.d [] = [(("reader" : Str), R.d)] := rfl
  have s1 : (mem ++ [MO.ins "Table" []]).set mem.length (MO.ins "Table" [(("reader" : Str), R.d)]) = mem ++ [MO.ins "Table" [(("reader" : Str), R.d)]] := by simp
  have at1 : (mem ++ [MO.ins "Table" [(("reader" : Str), R.d)]])[mem.length]? = some (MO.ins "Table" [(("reader" : Str), R.d)]) := by simp
  have r2 : ∀ (s : S) p, drf s (d2 p) = d2 p := fun _ _ => rfl
  dsimp! [at0, p1, s1, r_R, i_R2]
  rw [dc_w keyNN D.bl d2 fun p => some (p, true)]
  rotate_left
  · omega
  · intro p hp
    dsimp! [r2]
    rfl
  have ef : R.A.filterMap (fun p => some (p, true)) = R.A.map fun p => (p, true) := by
    rw [List.filterMap_eq_map']
  rw [ef]
  have kd : D.dct (dctM keyNN D.bl (putsA [] (R.A.map fun p => (p, true)))) = knD R.A := rfl
  have p2 : putFD "known" (knD R.A) [(("reader" : Str), R.d)] = tbF R := rfl
  have s2 : (mem ++ [MO.ins "Table" [(("reader" : Str), R.d)]]).set mem.length (MO.ins "Table" (tbF R)) = mem ++ [tbI R] := by
    simp
    rfl
  dsimp! [kd, at1, p2, s2]
section
variable {R : Rdr} {n : Nat} {mem : List MO}
theorem tletter_ok (n0 : Nat) (h : mem[n]? = some (tbI R)) (a : Nat) (ha : a < R.L.length) : run (TL L) (n0 + 1) "Table.letter" [.ref n, .int (a : Int)] mem = .ok (dN (R.L.getD a 0)) mem := by
  rw [run_def T_tletter rfl]
  generalize run (TL L) n0 = cf
  simp only [d_Table_letter]
  have h : mem[n]? = some (.ins "Table" (tbF R)) := h
  dsimp! [h, lk_rd, r_R, i_R0, r_tNs, i_tNs _ _ ha]
theorem tjoin_ok (n0 : Nat) (h : mem[n]? = some (tbI R)) (x y : Nat) (hx : x < R.S.n) (hy : y < R.S.n) : run (TL L) (n0 + 1) "Table.join" [.ref n, .int (x : Int), .int (y : Int)] mem = .ok (dN (R.S.f x y)) mem := by
  rw [run_def T_tjoin rfl]
  generalize run (TL L) n0 = cf
  simp only [d_Table_join]
  have h : mem[n]? = some (.ins "Table" (tbF R)) := h
  dsimp! [h, lk_rd, r_R, i_R1, r_S, i_S _ _ hx, r_Sr, i_Sr _ _ _ hy]
theorem ttakes_ok (n0 : Nat) (h : mem[n]? = some (tbI R)) (x y : Nat) : run (TL L) (n0 + 1) "Table.takes" [.ref n, .int (x : Int), .int (y : Int)] mem = .ok (.bl (acc R (x, y))) mem := by
  rw [run_def T_ttakes rfl]
  generalize run (TL L) n0 = cf
  simp only [d_Table_takes]
  have h : mem[n]? = some (.ins "Table" (tbF R)) := h
  have ed : D.tup [.int (x : Int), .int (y : Int)] = d2 (x, y) := rfl
  have ni : inO (d2 (x, y)) (knD R.A) = some (acc R (x, y)) := by
    have := dk_in keyNN D.bl (knL R.A) (x, y)
    rw [kn_lk] at this
    exact this
  have r2 : ∀ (s : S) p, drf s (d2 p) = d2 p := fun _ _ => rfl
  have rk : ∀ (s : S) A, drf s (knD A) = knD A := fun _ _ => rfl
  dsimp! [h, lk_kn, ed, r2, rk, ni]
theorem tbAt (h : mem[n]? = some (tbI R)) (k : Nat) : TbAt (run (TL L) (k + 1)) (tbR R) keyN n mem "Table" (tbF R) "Table.letter" "Table.join" "Table.takes" :=
  ⟨fun _ _ => rfl, h, rfl, rfl, rfl, fun a ha => tletter_ok k h a ha, fun x y hx hy => tjoin_ok k h x y (List.mem_range.mp hx) (List.mem_range.mp hy), fun x y _ _ => ttakes_ok k h x y⟩
end
/-- the tidy reader -/
abbrev tid (R : Rdr) : Rdr := tidR (tbR R)
theorem tidy_ok (n0 : Nat) (R : Rdr) (h : R.Ok) (h1 : 1 ≤ R.L.length) (hc : R.L.length ≤ 1000) (hn : R.S.n ≤ 300) (hA : R.A.length ≤ 100000) (mem : List MO) : run (TL L) (n0 + 4) "tidy" [R.d] mem = .ok (tid R).d (mem ++ [tbI R]) := by
  have hdm : (tbR R).dm.length = R.S.n := List.length_range ..
  have hin := tinit_ok (n0 + 2) R hA mem
  have hmd := made_ok n0 (tbR R) (tbR_ok h h1) keyN mem.length (mem ++ [tbI R]) "Table" (tbF R) "Table.letter" "Table.join" "Table.takes" (by omega) hc (tbAt (by simp)) rfl rfl rfl
  rw [run_def T_tidy rfl]
  generalize run (TL L) (n0 + 3) = cf at hin hmd ⊢
  simp only [d_tidy]
  have ln : lenO (tNs R.L) = some (R.L.length : Int) := l_Ns R.L
  have hmd : cf "made_reader" [.ref mem.length, .int (R.L.length : Int)] (mem ++ [tbI R]) = .ok (tid R).d (mem ++ [tbI R]) := hmd
  dsimp! [hin, r_R, i_R0, r_tNs, ln, hmd]
end DL
end

section
set_option maxRecDepth 100000
set_option maxHeartbeats 16000000
namespace DL
open PySem
def asc (p q : Nat × Nat) : Prop := p.1 < q.1 ∨ (p.1 = q.1 ∧ p.2 < q.2)
theorem linked_asc (S : Sg) : (linked S).Pairwise asc := by
  unfold linked
  rw [List.pairwise_flatMap]
  refine ⟨fun s _ => ?_, ?_⟩
  · unfold lkRow
    rw [List.pairwise_map]
    exact ((List.pairwise_lt_range).filter _).imp fun h => .inr ⟨rfl, h⟩
  · refine List.pairwise_lt_range.imp fun {a b} hab x hx y hy => ?_
    unfold lkRow at hx hy
    obtain ⟨u, _, rfl⟩ := List.mem_map.mp hx
    obtain ⟨v, _, rfl⟩ := List.mem_map.mp hy
    exact .inl hab
theorem tidA_asc {α : Type} [DecidableEq α] (T : Tb α) : (tidA T).Pairwise asc := (linked_asc _).filter _
theorem lt_d2 (p q : Nat × Nat) (h : asc p q) : cmpO .lt (d2 p) (d2 q) = some true := by
  show some (HT.lexLt [(p.1 : Int), (p.2 : Int)] [(q.1 : Int), (q.2 : Int)]) = _
  congr 1
  rw [HT.lexLt_cons]
  rcases h with h | ⟨h1, h2⟩
  · rw [if_neg (by omega)]
    exact decide_eq_true (by omega)
  · rw [if_pos (by omega), HT.lexLt_cons, if_neg (by omega)]
    exact decide_eq_true (by omega)
/-! ### readers that fit -/
theorem seq_rng (n : Nat) (h : n ≤ 1000) : seqD (.rng (n : Int)) = some ((List.range n).map dN) := by
  show (if small62 (n : Int) then some (rngD 0 ((n : Int)).toNat) else none) = _
  rw [if_pos (small_ok' (by omega) (by omega)), show ((n : Int)).toNat = n by omega, rng_map]
theorem b_range (j : Int) : bltO .range [.int j] = some (.pl (.d (.rng j))) := Eq.trans rfl rfl
theorem all_tt {β : Type} (l : List β) : (l.all fun _ => true) = true := List.all_eq_true.mpr fun _ _ => rfl
end DL
end

section
set_option maxRecDepth 100000
set_option maxHeartbeats 16000000
namespace DL
open PySem
/-! ### the tidy reader of a reader -/
section
variable {α : Type} [DecidableEq α] {T : Tb α} (h : T.Ok)
include h
theorem Tb.Ok.num_mul {x y : α} (hx : x ∈ T.vals) (hy : y ∈ T.vals) : T.mul (T.num x) (T.num y) = T.num (T.jn x y) := by
  unfold Tb.mul
  rw [h.at_num hx, h.at_num hy]
theorem Tb.Ok.at_inj {i j : Nat} (hi : i < T.m) (hj : j < T.m) (e : T.at i = T.at j) : i = j := by
  rw [← h.num_at hi, ← h.num_at hj, e]
theorem Tb.Ok.mul_iff {i j k : Nat} (hi : i < T.m) (hj : j < T.m) (hk : k < T.m) : T.mul i j = k ↔ T.jn (T.at i) (T.at j) = T.at k := by
  rw [← h.at_mul hi hj]
  exact ⟨fun e => by rw [e], fun e => h.at_inj (h.mul_lt hi hj) hk e⟩
theorem Tb.Ok.lk_at {p : Nat × Nat} : p ∈ linked (tidS T) ↔ p.1 < T.m ∧ p.2 < T.m ∧ T.jn (T.at p.1) (T.at p.2) = T.at p.1 ∧ T.jn (T.at p.2) (T.at p.2) = T.at p.2 := by
  rw [mem_linked]
  constructor
  · rintro ⟨h1, h2, h3, h4⟩
    exact ⟨h1, h2, (h.mul_iff h1 h2 h1).mp h3, (h.mul_iff h2 h2 h2).mp h4⟩
  · rintro ⟨h1, h2, h3, h4⟩
    exact ⟨h1, h2, (h.mul_iff h1 h2 h1).mpr h3, (h.mul_iff h2 h2 h2).mpr h4⟩
theorem Tb.Ok.tidL_at {a : Nat} (ha : a < T.c) : (tidL T).getD a 0 = T.num (T.lt a) := by
  unfold tidL
  rw [List.getD_eq_getElem?_getD, List.getElem?_map, List.getElem?_range ha]
  rfl
theorem Tb.Ok.vals_le {l : List α} (hn : l.Nodup) (hl : ∀ x ∈ l, x ∈ T.vals) : l.length ≤ T.m := by
  rw [← h.vals_len]
  exact nodup_le l T.vals hn hl
theorem Tb.Ok.oK_in {k : Nat} {p : Itm α} (hp : p ∈ T.oK k) : p.1 ∈ T.vals := by
  obtain ⟨h1, h2, h3⟩ := (bi T.c T.lt T.jn k).ok p hp
  rw [h3]
  exact h.wva_in h1 h2
theorem Tb.Ok.wK_in {k : Nat} {p : Itm α} (hp : p ∈ T.wK k) : p.1 ∈ T.vals := by
  obtain ⟨h1, h2, h3⟩ := (bi T.c T.lt T.jn k).okW p hp
  rw [h3]
  exact h.wva_in h1 h2
/-- all that is found is found after as many rounds as there are values -/
theorem Tb.Ok.ord_m : T.oK (T.m + 1) = T.ord := by
  rcases grow T.c T.lt T.jn (T.m + 1) with ⟨j, hj, e⟩ | hg
  · have e : T.oK (j + 1) = T.oK j := e
    have hm := h.m_le
    have h1 := h.ord_eq (by omega) e
    have h2 := (stay T.c T.lt T.jn e (T.m - j)).1
    rw [show j + 1 + (T.m - j) = T.m + 1 by omega] at h2
    rw [h1]
    exact h2
  · have hg : T.m + 1 ≤ (T.oK (T.m + 1)).length := hg
    have := h.vals_le (bi T.c T.lt T.jn (T.m + 1)).nd fun x hx => by
      obtain ⟨p, hp, rfl⟩ := List.mem_map.mp hx
      exact h.oK_in hp
    rw [List.length_map] at this
    omega
end
/-! ### a reader's tidy reader accepts the same words -/
section
variable {R : Rdr} (h : R.Ok) (h1 : 1 ≤ R.L.length)
include h h1
theorem acc_at {i j : Nat} (hp : (i, j) ∈ linked (tid R).S) : acc (tid R) (i, j) = acc R ((tbR R).at i, (tbR R).at j) := by
  have key : (i, j) ∈ (tid R).A ↔ acc R ((tbR R).at i, (tbR R).at j) = true := by
    show (i, j) ∈ tidA (tbR R) ↔ _
    unfold tidA
    rw [List.mem_filter]
    exact ⟨fun z => z.2, fun z => ⟨hp, z⟩⟩
  have k2 := acc_iff (tid R) (i, j)
  cases e : acc R ((tbR R).at i, (tbR R).at j) with
  | true => exact k2.mpr (key.mpr e)
  | false =>
    cases e2 : acc (tid R) (i, j) with
    | false => rfl
    | true => rw [key.mp (k2.mp e2)] at e; cases e
theorem vals_lt {x : Nat} (hx : x ∈ (tbR R).vals) : x < R.S.n := List.mem_range.mp ((tbR_ok h h1).in_dm hx)
theorem at_lt {i : Nat} (hi : i < (tbR R).m) : (tbR R).at i < R.S.n := vals_lt h h1 ((tbR_ok h h1).at_in hi)
theorem lk_up {i j : Nat} (hp : (i, j) ∈ linked (tid R).S) : ((tbR R).at i, (tbR R).at j) ∈ linked R.S := by
  obtain ⟨a, b, c, d⟩ := (tbR_ok h h1).lk_at.mp hp
  exact mem_linked.mpr ⟨at_lt h h1 a, at_lt h h1 b, c, d⟩
theorem lk_down {x y : Nat} (hx : x ∈ (tbR R).vals) (hy : y ∈ (tbR R).vals) (hp : (x, y) ∈ linked R.S) : ((tbR R).num x, (tbR R).num y) ∈ linked (tid R).S := by
  have hT := tbR_ok h h1
  obtain ⟨_, _, c, d⟩ := mem_linked.mp hp
  refine hT.lk_at.mpr ⟨hT.num_lt hx, hT.num_lt hy, ?_, ?_⟩
  · show (tbR R).jn ((tbR R).at ((tbR R).num x)) ((tbR R).at ((tbR R).num y)) = _
    rw [hT.at_num hx, hT.at_num hy]; exact c
  · show (tbR R).jn ((tbR R).at ((tbR R).num y)) ((tbR R).at ((tbR R).num y)) = _
    rw [hT.at_num hy]; exact d
theorem tid_ok (hn : R.S.n ≤ 300) : (tid R).Ok := tidR_ok (tbR_ok h h1) (by show (List.range R.S.n).length ≤ 300; rw [List.length_range]; exact hn)
theorem tid_n : (tid R).S.n ≤ R.S.n := by
  have := (tbR_ok h h1).m_le
  rw [show (tbR R).dm.length = R.S.n from List.length_range ..] at this
  exact this
end
theorem tid_good {R : Rdr} (g : R.Good) (h1 : 1 ≤ R.L.length) (hn : R.S.n ≤ 300) : (tid R).Good := by
  have h := g.ok
  have hT := tbR_ok h h1
  refine ⟨tid_ok h h1 hn, fun p hp => (List.mem_filter.mp hp).1, fun p hp x y hx hy e hq => ?_⟩
  obtain ⟨i, j⟩ := p
  have hx : x < (tbR R).m := hx
  have hy : y < (tbR R).m := hy
  obtain ⟨hi, hj, _, _⟩ := hT.lk_at.mp hp
  have e : (tbR R).mul x y = j := e
  have e1 : tq (tid R).S (i, j) x y = ((tbR R).mul i x, (tbR R).mul y x) := rfl
  rw [e1] at hq ⊢
  have q2 := lk_up h h1 hq
  rw [acc_at h h1 hp, acc_at h h1 hq]
  have a1 : (tbR R).at ((tbR R).mul i x) = R.S.f ((tbR R).at i) ((tbR R).at x) := hT.at_mul hi hx
  have a2 : (tbR R).at ((tbR R).mul y x) = R.S.f ((tbR R).at y) ((tbR R).at x) := hT.at_mul hy hx
  rw [a1, a2] at q2 ⊢
  exact g.turn _ (lk_up h h1 hp) _ _ (at_lt h h1 hx) (at_lt h h1 hy) ((hT.mul_iff hx hy hj).mp e) q2
section
variable {R : Rdr} (h : R.Ok) (h1 : 1 ≤ R.L.length)
include h h1
theorem wv_in {w : List Nat} (hn : w ≠ []) (hw : ∀ a ∈ w, a < R.L.length) : wv R.S R.L w ∈ (tbR R).vals := by
  rw [← wva_wv R hn]
  exact (tbR_ok h h1).wva_in hn hw
theorem tid_fold : ∀ (r : List Nat) (v : Nat), v ∈ (tbR R).vals → (∀ a ∈ r, a < R.L.length) → r.foldl (fun v b => (tid R).S.f v ((tid R).L.getD b 0)) ((tbR R).num v) = (tbR R).num (r.foldl (fun v b => R.S.f v (R.L.getD b 0)) v)
  | [], _, _, _ => rfl
  | a :: r, v, hv, hr => by
    have hT := tbR_ok h h1
    have ha : a < (tbR R).c := hr a List.mem_cons_self
    have e : (tid R).S.f ((tbR R).num v) ((tid R).L.getD a 0) = (tbR R).num (R.S.f v (R.L.getD a 0)) := by
      show (tbR R).mul ((tbR R).num v) ((tidL (tbR R)).getD a 0) = _
      rw [hT.tidL_at ha, hT.num_mul hv (hT.lt_in ha)]
      rfl
    show r.foldl _ ((tid R).S.f ((tbR R).num v) ((tid R).L.getD a 0)) = _
    rw [e]
    exact tid_fold r _ (hT.step_in hv ha) fun b hb => hr b (List.mem_cons_of_mem _ hb)
theorem tid_wv {w : List Nat} (hn : w ≠ []) (hw : ∀ a ∈ w, a < R.L.length) : wv (tid R).S (tid R).L w = (tbR R).num (wv R.S R.L w) := by
  cases w with
  | nil => exact absurd rfl hn
  | cons a r =>
    have hT := tbR_ok h h1
    have ha : a < (tbR R).c := hw a List.mem_cons_self
    have e : (tid R).L.getD a 0 = (tbR R).num (R.L.getD a 0) := hT.tidL_at ha
    show r.foldl (fun v b => (tid R).S.f v ((tid R).L.getD b 0)) ((tid R).L.getD a 0) = _
    rw [e]
    exact tid_fold h h1 r _ (hT.lt_in ha) fun b hb => hw b (List.mem_cons_of_mem _ hb)
theorem tid_pw {v : Nat} (hv : v ∈ (tbR R).vals) : ∀ k, pw R.S v k ∈ (tbR R).vals ∧ pw (tid R).S ((tbR R).num v) k = (tbR R).num (pw R.S v k)
  | 0 => ⟨hv, rfl⟩
  | k + 1 => by
    have hT := tbR_ok h h1
    obtain ⟨a, b⟩ := tid_pw hv k
    refine ⟨hT.jn_in a hv, ?_⟩
    show (tbR R).mul (pw (tid R).S ((tbR R).num v) k) ((tbR R).num v) = _
    rw [b, hT.num_mul a hv]
    rfl
theorem tid_settF (hn : R.S.n ≤ 300) {v : Nat} (hv : v ∈ (tbR R).vals) : settF R.S v ∈ (tbR R).vals ∧ settF (tid R).S ((tbR R).num v) = (tbR R).num (settF R.S v) := by
  have hT := tbR_ok h h1
  have hvl := vals_lt h h1 hv
  obtain ⟨k, _, e, hi, _⟩ := settF_pw h.S hvl
  obtain ⟨k', _, e', hi', _⟩ := settF_pw (tid_ok h h1 hn).S (hT.num_lt hv)
  obtain ⟨a, b⟩ := tid_pw h h1 hv k
  obtain ⟨a', b'⟩ := tid_pw h h1 hv k'
  rw [b'] at hi' e'
  have hi' : (tbR R).mul ((tbR R).num (pw R.S v k')) ((tbR R).num (pw R.S v k')) = (tbR R).num (pw R.S v k') := hi'
  rw [hT.num_mul a' a'] at hi'
  have hi2 : R.S.f (pw R.S v k') (pw R.S v k') = pw R.S v k' := hT.num_inj (hT.jn_in a' a') a' hi'
  have := idem_one h.S hvl (a := k + 1) (b := k' + 1) (by omega) (by omega) hi hi2
  have this : pw R.S v k = pw R.S v k' := this
  rw [e, e', this]
  rw [this] at a
  exact ⟨a, rfl⟩
end
theorem tid_acc {R : Rdr} (g : R.Good) (h1 : 1 ≤ R.L.length) (hn : R.S.n ≤ 300) {w : Wd} (hw : okW R.L.length w) : acc (tid R) (pairOf (tid R) w) = acc R (pairOf R w) := by
  have h := g.ok
  have hT := tbR_ok h h1
  obtain ⟨hw2, hl1, hl2⟩ := hw
  have v2 := wv_in h h1 hw2 hl2
  obtain ⟨f2, ef⟩ := tid_settF h h1 hn v2
  have key : ∀ x y, x ∈ (tbR R).vals → y ∈ (tbR R).vals → acc (tid R) ((tbR R).num x, (tbR R).num y) = acc R (x, y) := fun x y hx hy => by
    by_cases hl : (x, y) ∈ linked R.S
    · rw [acc_at h h1 (lk_down h h1 hx hy hl), hT.at_num hx, hT.at_num hy]
    · have e1 : acc R (x, y) = false := by
        cases e : acc R (x, y) with
        | false => rfl
        | true => exact absurd (g.sub _ ((acc_iff _ _).mp e)) hl
      rw [e1]
      cases e : acc (tid R) ((tbR R).num x, (tbR R).num y) with
      | false => rfl
      | true =>
        have := lk_up h h1 (List.mem_filter.mp ((acc_iff _ _).mp e)).1
        rw [hT.at_num hx, hT.at_num hy] at this
        exact absurd this hl
  unfold pairOf
  rw [tid_wv h h1 hw2 hl2, ef]
  by_cases e : w.1 = []
  · rw [if_pos e, if_pos e]
    exact key _ _ f2 f2
  · have v1 := wv_in h h1 e hl1
    rw [if_neg e, if_neg e, tid_wv h h1 e hl1]
    have e2 : (tid R).S.f ((tbR R).num (wv R.S R.L w.1)) ((tbR R).num (settF R.S (wv R.S R.L w.2))) = (tbR R).num (R.S.f (wv R.S R.L w.1) (settF R.S (wv R.S R.L w.2))) := hT.num_mul v1 f2
    rw [e2]
    exact key _ _ (hT.jn_in v1 f2) f2
/-! ### tidy stays -/
section
variable {α β : Type} [DecidableEq α] [DecidableEq β] (V : List α) (φ : α → β) (hφ : ∀ x y, x ∈ V → y ∈ V → φ x = φ y → x = y)
def upI (φ : α → β) (p : Itm α) : Itm β := (φ p.1, p.2)
include hφ
theorem up_has {o : List (Itm α)} (ho : ∀ p ∈ o, p.1 ∈ V) {x : α} (hx : x ∈ V) : hasV (o.map (upI φ)) (φ x) = hasV o x := by
  cases e : hasV o x with
  | true =>
    obtain ⟨p, hp, e⟩ := List.mem_map.mp (hasV_iff.mp e)
    exact hasV_iff.mpr (List.mem_map.mpr ⟨upI φ p, List.mem_map.mpr ⟨p, hp, rfl⟩, by show φ p.1 = φ x; rw [e]⟩)
  | false =>
    cases e2 : hasV (o.map (upI φ)) (φ x) with
    | false => rfl
    | true =>
      obtain ⟨q, hq, e3⟩ := List.mem_map.mp (hasV_iff.mp e2)
      obtain ⟨p, hp, rfl⟩ := List.mem_map.mp hq
      have := hφ _ _ (ho p hp) hx e3
      have : hasV o x = true := hasV_iff.mpr (List.mem_map.mpr ⟨p, hp, this⟩)
      rw [e] at this; cases this
theorem up_all : ∀ (ws o : List (Itm α)), (∀ p ∈ ws, p.1 ∈ V) → (∀ p ∈ o, p.1 ∈ V) → addAll (o.map (upI φ)) (ws.map (upI φ)) = (addAll o ws).map (upI φ)
  | [], _, _, _ => rfl
  | p :: ws, o, hw, ho => by
    have hp := hw p List.mem_cons_self
    have e : addO (o.map (upI φ)) (upI φ p) = (addO o p).map (upI φ) := by
      unfold addO
      have : hasV (o.map (upI φ)) (upI φ p).1 = hasV o p.1 := up_has V φ hφ ho hp
      rw [this]
      split
      · rfl
      · rw [List.map_append]; rfl
    show addAll (addO (o.map (upI φ)) (upI φ p)) (ws.map (upI φ)) = (addAll (addO o p) ws).map (upI φ)
    rw [e]
    refine up_all ws _ (fun q hq => hw q (List.mem_cons_of_mem _ hq)) fun q hq => ?_
    unfold addO at hq
    split at hq
    · exact ho q hq
    · rcases List.mem_append.mp hq with hq | hq
      · exact ho q hq
      · rw [List.mem_singleton.mp hq]; exact hp
end
section
variable {R : Rdr} (h : R.Ok) (h1 : 1 ≤ R.L.length) (hn : R.S.n ≤ 300)
include h h1
theorem tid_c : (tbR (tid R)).c = (tbR R).c := by
  show ((List.range (tbR R).c).map _).length = _
  simp
theorem tid_nxt {fr : List (Itm Nat)} (hf : ∀ p ∈ fr, p.1 ∈ (tbR R).vals) : nxt (tbR (tid R)).c (tbR (tid R)).lt (tbR (tid R)).jn (fr.map (upI (tbR R).num)) = (nxt (tbR R).c (tbR R).lt (tbR R).jn fr).map (upI (tbR R).num) := by
  have hT := tbR_ok h h1
  unfold nxt
  rw [tid_c h h1, List.flatMap_map, List.map_flatMap]
  have : ∀ p ∈ fr, ((List.range (tbR R).c).map fun a => ((tbR (tid R)).jn (upI (tbR R).num p).1 ((tbR (tid R)).lt a), (upI (tbR R).num p).2 ++ [a])) = ((List.range (tbR R).c).map fun a => ((tbR R).jn p.1 ((tbR R).lt a), p.2 ++ [a])).map (upI (tbR R).num) := fun p hp => by
    rw [List.map_map]
    refine List.map_congr_left fun a ha => ?_
    have ha := List.mem_range.mp ha
    show ((tbR R).mul ((tbR R).num p.1) ((tidL (tbR R)).getD a 0), p.2 ++ [a]) = ((tbR R).num ((tbR R).jn p.1 ((tbR R).lt a)), p.2 ++ [a])
    rw [hT.tidL_at ha, hT.num_mul (hf p hp) (hT.lt_in ha)]
  clear hT
  induction fr with
  | nil => rfl
  | cons p fr ih =>
    rw [List.flatMap_cons, List.flatMap_cons, this p List.mem_cons_self, ih (fun q hq => hf q (List.mem_cons_of_mem _ hq)) fun q hq => this q (List.mem_cons_of_mem _ hq)]
theorem tid_bfs : ∀ k, (tbR (tid R)).oK k = ((tbR R).oK k).map (upI (tbR R).num) ∧ (tbR (tid R)).wK k = ((tbR R).wK k).map (upI (tbR R).num)
  | 0 => by
    have hT := tbR_ok h h1
    refine ⟨rfl, ?_⟩
    show (List.range (tbR (tid R)).c).map (fun a => ((tidL (tbR R)).getD a 0, [a])) = ((List.range (tbR R).c).map fun a => ((tbR R).lt a, [a])).map (upI (tbR R).num)
    rw [tid_c h h1, List.map_map]
    refine List.map_congr_left fun a ha => ?_
    rw [hT.tidL_at (List.mem_range.mp ha)]
    rfl
  | k + 1 => by
    have hT := tbR_ok h h1
    obtain ⟨e1, e2⟩ := tid_bfs k
    have e3 : (tbR (tid R)).oK (k + 1) = ((tbR R).oK (k + 1)).map (upI (tbR R).num) := by
      show addAll ((tbR (tid R)).oK k) ((tbR (tid R)).wK k) = _
      rw [e1, e2]
      exact up_all (tbR R).vals (tbR R).num (fun x y hx hy e => hT.num_inj hx hy e) _ _ (fun p hp => hT.wK_in hp) fun p hp => hT.oK_in hp
    refine ⟨e3, ?_⟩
    show nxt (tbR (tid R)).c (tbR (tid R)).lt (tbR (tid R)).jn (((tbR (tid R)).oK (k + 1)).drop ((tbR (tid R)).oK k).length) = _
    rw [e3, e1, List.length_map, ← List.map_drop]
    exact tid_nxt h h1 fun p hp => hT.oK_in (List.mem_of_mem_drop hp)
theorem tid_ord : (tbR (tid R)).ord = (tbR R).ord.map (upI (tbR R).num) := by
  have hT := tbR_ok h h1
  have e : (tbR (tid R)).dm.length = (tbR R).m := List.length_range ..
  unfold Tb.ord
  rw [e, (tid_bfs h h1 _).1, hT.ord_m]
  rfl
theorem tid_vals : (tbR (tid R)).vals = List.range (tbR R).m := by
  have hT := tbR_ok h h1
  unfold Tb.vals
  rw [tid_ord h h1, hT.ord_range, List.map_map, List.map_map]
  have : ∀ i ∈ List.range (tbR R).m, (((fun x : Itm Nat => x.1) ∘ upI (tbR R).num) ∘ fun i => ((tbR R).at i, (tbR R).wd i)) i = id i := fun i hi => hT.num_at (List.mem_range.mp hi)
  rw [List.map_congr_left this, List.map_id]
theorem tid_m : (tbR (tid R)).m = (tbR R).m := by
  show (tbR (tid R)).ord.length = _
  rw [tid_ord h h1, List.length_map]
  rfl
theorem tid_at {i : Nat} (hi : i < (tbR R).m) : (tbR (tid R)).at i = i := by
  unfold Tb.at
  rw [tid_vals h h1, List.getElem?_range hi]
  rfl
include hn
theorem tidT_ok : (tbR (tid R)).Ok := tbR_ok (tid_ok h h1 hn) (by
  have := tid_c h h1
  show 1 ≤ (tbR (tid R)).c
  rw [this]
  exact h1)
theorem tid_num {i : Nat} (hi : i < (tbR R).m) : (tbR (tid R)).num i = i := by
  have := (tidT_ok h h1 hn).num_at (i := i) (by rw [tid_m h h1]; exact hi)
  rwa [tid_at h h1 hi] at this
theorem tid_mul {i j : Nat} (hi : i < (tbR R).m) (hj : j < (tbR R).m) : (tbR (tid R)).mul i j = (tbR R).mul i j := by
  have hT := tbR_ok h h1
  unfold Tb.mul
  rw [tid_at h h1 hi, tid_at h h1 hj]
  exact tid_num h h1 hn (hT.mul_lt hi hj)
theorem tid_lk : linked (tidS (tbR (tid R))) = linked (tidS (tbR R)) := by
  have hT := tbR_ok h h1
  unfold linked
  have e : (tidS (tbR (tid R))).n = (tidS (tbR R)).n := tid_m h h1
  rw [e]
  have : ∀ s ∈ List.range (tidS (tbR R)).n, lkRow (tidS (tbR (tid R))) s = lkRow (tidS (tbR R)) s := fun s hs => by
    have hs : s < (tbR R).m := List.mem_range.mp hs
    unfold lkRow
    rw [e]
    congr 1
    refine List.filter_congr fun f hf => ?_
    have hf : f < (tbR R).m := List.mem_range.mp hf
    show (decide ((tbR (tid R)).mul s f = s) && decide ((tbR (tid R)).mul f f = f)) = (decide ((tbR R).mul s f = s) && decide ((tbR R).mul f f = f))
    rw [tid_mul h h1 hn hs hf, tid_mul h h1 hn hf hf]
  generalize List.range (tidS (tbR R)).n = l at this
  clear hT e
  induction l with
  | nil => rfl
  | cons s l ih =>
    rw [List.flatMap_cons, List.flatMap_cons, this s List.mem_cons_self, ih fun q hq => this q (List.mem_cons_of_mem _ hq)]
theorem tid_A : tidA (tbR (tid R)) = tidA (tbR R) := by
  have hT := tbR_ok h h1
  unfold tidA
  rw [tid_lk h h1 hn]
  refine List.filter_congr fun p hp => ?_
  obtain ⟨i, j⟩ := p
  obtain ⟨hi, hj, _, _⟩ := hT.lk_at.mp hp
  have hi : i < (tbR R).m := hi
  have hj : j < (tbR R).m := hj
  show acc (tid R) ((tbR (tid R)).at i, (tbR (tid R)).at j) = acc R ((tbR R).at i, (tbR R).at j)
  rw [tid_at h h1 hi, tid_at h h1 hj]
  exact acc_at h h1 hp
theorem tid_tid : (tid (tid R)).d = (tid R).d := by
  have hT := tbR_ok h h1
  have eL : (tid (tid R)).L = (tid R).L := by
    show (List.range (tbR (tid R)).c).map (fun a => (tbR (tid R)).num ((tidL (tbR R)).getD a 0)) = (List.range (tbR R).c).map fun a => (tbR R).num ((tbR R).lt a)
    rw [tid_c h h1]
    refine List.map_congr_left fun a ha => ?_
    have ha := List.mem_range.mp ha
    rw [hT.tidL_at ha]
    exact tid_num h h1 hn (hT.num_lt (hT.lt_in ha))
  have eA : (tid (tid R)).A = (tid R).A := tid_A h h1 hn
  have eS : (tid (tid R)).S.d = (tid R).S.d := by
    show D.tup ((List.range (tbR (tid R)).m).map fun x => D.tup ((List.range (tbR (tid R)).m).map fun y => dN ((tbR (tid R)).mul x y))) = D.tup ((List.range (tbR R).m).map fun x => D.tup ((List.range (tbR R).m).map fun y => dN ((tbR R).mul x y)))
    rw [tid_m h h1]
    congr 1
    refine List.map_congr_left fun x hx => ?_
    congr 1
    refine List.map_congr_left fun y hy => ?_
    rw [tid_mul h h1 hn (List.mem_range.mp hx) (List.mem_range.mp hy)]
  unfold Rdr.d
  rw [eL, eA, eS]
end
end DL
end

section
set_option maxRecDepth 100000
set_option maxHeartbeats 16000000
namespace DL
open PySem
local macro_rules | `(tactic| dsimp! [$ls,*]) => `(tactic| simp (disch := (first | assumption | omega | (simp only [List.length_cons, List.length_nil, List.length_map, List.length_range, List.length_append]; omega))) only [f_bool, f_int, f_bl, f_non, f_str, f_glob, f_bin, f_cmp, f_idx, f_neg, f_chain, f_not, f_ite, f_slc, f_tup, f_lst, f_call, f_blt, f_lrg1, f_lrg2, f_lc, f_gx, f_Anil, f_A, f_B1, f_B, f_C0, f_C1, f_seq, f_rng1, f_rng2, f_enum, f_zip, f_rev, b_ok, b_exc, b_of, b_O, b_map, b_2, b_ob, a_2, a_Bin, a_Cmp, a_Idx, a_fC, a_fI, a_wB, a_wD, a_asB, a_asI, a_Neg, a_Neg2, a_Ch, a_Ch2, a_Ch3t, a_Ch3f, a_Not, a_Not2, a_Ite, a_Ite2t, a_Ite2f, a_Tup, a_Tup2, a_Lst, a_Lst2, a_Cl, a_Cl2, a_Cl3, a_inM, a_inX, a_Blt, a_Lr1, a_Lr2, a_Lr3, a_Sm, a_Bd, a_evBh, a_slcV, a_Sl2, a_Sl, a_turnC, a_C0, a_C1t, a_C1f, a_C2, a_C3, a_turnG, a_G0, a_G1t, a_G1f, a_G2, a_G3, a_Lc, a_Lc2, a_Gx, a_Gx2, a_A2, a_A, a_B, a_B2tt, a_B2tf, a_B2ff, a_B2ft, a_C, a_Seq, a_Seq2, a_R1, a_R2, a_R2', a_R3, a_En, a_En2, a_Z, a_Z2, a_Z3, a_Z4, a_Rv, a_Rv2, v_d, v_s, v_val, v_own, r_non, r_bl, r_int, r_str, r_tup, r_lst, c_d, c_s, c_val, c_own, s_nil, s_cons, s_1, s_2, vs_nil, vs_cons, vs_c, f_var, w_val, w_own, p_pl, p_mo, t_lst, o_addI, o_addS, o_addL, o_addT, o_sub, o_mulN, o_fdiv, o_mod, q_lt, q_le, q_gt, q_ge, q_eq, q_ne, q_is, q_isN, q_isNb, q_isNi, q_isNt, q_not, q_notN, q_notNb, q_notNi, q_notNt, q_in, q_nin, u_bl, u_int, u_lst, u_tup, i_lst, i_tup, i_0, i_1, i_2, i_3, i_4, l_lst, l_tup, z_lst, z_tup, a_wI, t_len, t_max, t_min, t_int, t_intb, t_all, t_any, t_listL, t_listT, t_listS, t_tupL, t_tupT, g_lst, g_tup, n_name, n_tup, n_nil, n_cons, n_kas, y_skip, y_seq, y_asg, y_own, y_shr, y_par, y_aug, y_put, y_app, y_ext, y_iff, y_ret, y_retN, y_brk, y_cont, y_exp, y_whl, y_for, j_Sn, j_Sr, j_Sb, j_Sc, j_N, j_A2, j_A, j_O, j_H, j_P4, j_P3, j_P2, j_P, j_G0, j_G, j_G2, j_U5, j_U4, j_U3, j_U2, j_U, j_L3, j_L2, j_L1, j_L0, j_L, j_X2, j_X, j_X0, j_It, j_If, j_I, j_R2, j_R, j_E, j_W, j_whlC, j_T, j_turnF, j_F, m_rt, m_nx, m_exc, ap_s, ap_r, ap_o, ap_v, ex_s, ex_o, pu_s, pu_o, pu_v, au_add, au_sub, au_mul, au_fdiv, au_mod, fq_rt, fq_nx, gq_nx, gq_ct, gq_rt, gq_bk, isB_eq, isI_eq, isT_eq, rg1_n, lst1_n, a_evBd, isHole, eqO_int, wp_ok, wp_bind, wp_fin, List.length_cons, List.length_nil, List.getElem?_cons_zero, List.getElem?_cons_succ, List.getElem?_nil, List.set_cons_zero, List.set_cons_succ, if_true, if_false, Bool.false_eq_true, wipeE, back, Nat.reduceAdd, decide_true, decide_false, Bool.not_true, Bool.not_false, List.map_cons, List.map_nil, List.replicate, List.cons_append, List.nil_append, Nat.add_one_sub_one, Nat.reduceSub, Nat.sub_self, List.isEmpty_nil, List.isEmpty_cons, k_tk, eq_self, and_true, true_and, and_self, Option.some.injEq, f_kin, f_kix, f_pop, f_popAt, f_isi, f_index, f_rng3, isS_eq, a_asS, a_Ki, a_Ki2f, a_Ki2t, a_Kx, a_Kx2, a_Pop, a_Pop1, a_Pop2, a_Pa, a_Pa0, a_Pa1, a_Pa2, a_Isi, a_fIsi, a_Ix, a_Ix0, a_Ix1, a_R36, a_R35, a_R34, a_R33, a_R32, po_s, po_v, r_scr, Option.isSome_some, Option.isSome_none, f_fresh, a_Fr, r_ref, r_refL, ap_mW, ap_mL, po_mW, f_dnew, f_trg1, a_Tr1, trR_n, pu_od, r_dct, l_dct, t_dct, f_dc, a_turnU, a_U0, a_U1t, a_U1f, a_U2, a_U3, a_U4, a_U5, a_Dc, a_Dc2, f_kget, a_Kg, a_Kg2, f_gmax, a_turnM, a_M0, a_M1t, a_M1f, a_M2, a_M3, a_Gm, a_Gm2, f_fld, a_Fld, a_Fld2, in_r, in_s, in_v, in_m, fl_w, fl_1, fl_2, ct_1, tl_1, f_meth, a_Me, a_Me2, a_Me3, a_Me4, mt_w, mt_1, mt_2, mt_3, f_new, a_Nw, a_Nw2, a_Nw3, x_fst, j_Fs, j_Fs2, j_Fs3, fs_w, fs_1, r_refI, a_En2t, f_lc2, a_L2, a_turn2C, a_2C0, a_2Ct, a_2Cf, a_D1, x_tryN, $ls,*])
theorem T_ltidied : TL L "_law_tidied" = some d__law_tidied := rfl
def ci2 (p : Nat × Nat) : Int × Int := ((p.1 : Int), (p.2 : Int))
theorem lexB_asc {l : List (Nat × Nat)} (h : l.Pairwise asc) : (l.map ci2).Pairwise fun p q => SrtO.lexB q p = false := by
  rw [List.pairwise_map]
  refine h.imp fun {a b} hab => ?_
  cases e : SrtO.lexB (ci2 b) (ci2 a) with
  | false => rfl
  | true =>
    have := SrtO.lexB_iff.mp e
    unfold ci2 at this
    unfold asc at hab
    exfalso
    simp only at this
    omega
theorem asc_nodup {l : List (Nat × Nat)} (h : l.Pairwise asc) : l.Nodup := by
  refine h.imp fun {a b} hab => ?_
  intro e
  subst e
  unfold asc at hab
  omega
/-- pairs in order stay what they are -/
theorem srt_asc {l m : List (Nat × Nat)} (hl : l.Nodup) (hm : m.Pairwise asc) (hs : ∀ p, p ∈ l ↔ p ∈ m) : bltO .sorted [.lst (l.map d2)] = some (.mo (.lst (m.map d2))) := by
  have e1 : l.map d2 = (l.map ci2).map encI2 := by rw [List.map_map]; rfl
  have e2 : m.map d2 = (m.map ci2).map encI2 := by rw [List.map_map]; rfl
  have hp : l.Perm m := (List.perm_ext_iff_of_nodup hl (asc_nodup hm)).mpr hs
  have e3 : srtP (l.map ci2) = m.map ci2 := by
    letI : TBs := ⟨[], { draws := fun _ _ => 0, params := { strHash := fun _ => 0, shareClass := fun _ => 0, mergeTok := id, idOf := fun _ => 0, idOfShared := fun _ _ => 0, followText := fun _ => true, idOfImm := fun _ => 0 } }, fun _ => default⟩
    exact srt_uniq (srtP_sorted _) (lexB_asc hm) ((srtP_perm _).trans (hp.map ci2))
  rw [t_sorted, e1, pairsD_map, e2, ← e3]
  rfl
section
variable {α : Type} [DecidableEq α]
theorem nuL_put (T : Tb α) (h : T.Ok) {k : Nat} (hk : k < T.m) : putA (nuL T k) (T.at k) k = nuL T (k + 1) := by
  have e : nuL T (k + 1) = nuL T k ++ [(T.at k, k)] := by
    unfold nuL
    rw [List.range_succ, List.map_append]
    rfl
  rw [e]
  unfold putA
  rw [if_neg]
  intro q
  have := (lkA_mem (nuL T k) (T.at k)).mp q
  obtain ⟨p, hp, e⟩ := List.mem_map.mp this
  obtain ⟨i, hi, rfl⟩ := List.mem_map.mp hp
  have hi := List.mem_range.mp hi
  have h1 := h.num_at (i := i) (by omega)
  have h2 := h.num_at (i := k) (by omega)
  have e : T.at i = T.at k := e
  rw [e, h2] at h1
  omega
end
/-- the accepted pairs, numbered, are those of the tidy reader -/
def inV (R : Rdr) (x : Nat) : Bool := (lkA (nuL (tbR R) (tbR R).m) x).isSome
def numP (R : Rdr) (p : Nat × Nat) : Nat × Nat := ((tbR R).num p.1, (tbR R).num p.2)
theorem inV_iff {R : Rdr} (hT : (tbR R).Ok) (x : Nat) : inV R x = true ↔ x ∈ (tbR R).vals := by
  have := lkA_mem (nuL (tbR R) (tbR R).m) x
  rw [nuL_keys _ hT] at this
  exact this
theorem numA {R : Rdr} (g : R.Good) (h1 : 1 ≤ R.L.length) (hd : R.A.Nodup) : ((R.A.filter fun p => inV R p.1 && inV R p.2).map (numP R)).Nodup ∧ ∀ p, p ∈ (R.A.filter fun p => inV R p.1 && inV R p.2).map (numP R) ↔ p ∈ tidA (tbR R) := by
  have h := g.ok
  have hT := tbR_ok h h1
  have hin : ∀ p, p ∈ R.A.filter (fun p => inV R p.1 && inV R p.2) ↔ p ∈ R.A ∧ p.1 ∈ (tbR R).vals ∧ p.2 ∈ (tbR R).vals := fun p => by
    rw [List.mem_filter, Bool.and_eq_true, inV_iff hT, inV_iff hT]
  refine ⟨?_, fun q => ?_⟩
  · rw [List.nodup_iff_pairwise_ne, List.pairwise_map]
    refine List.Pairwise.imp_of_mem (fun {a b} ha hb hab => ?_) (List.nodup_iff_pairwise_ne.mp (hd.filter _))
    obtain ⟨_, a1, a2⟩ := (hin a).mp ha
    obtain ⟨_, b1, b2⟩ := (hin b).mp hb
    intro e
    obtain ⟨e1, e2⟩ := Prod.mk.inj e
    exact hab (Prod.ext (hT.num_inj a1 b1 e1) (hT.num_inj a2 b2 e2))
  · constructor
    · intro hq
      obtain ⟨p, hp, rfl⟩ := List.mem_map.mp hq
      obtain ⟨a, b, c⟩ := (hin p).mp hp
      have hl := lk_down h h1 b c (g.sub p a)
      refine List.mem_filter.mpr ⟨hl, ?_⟩
      show acc R ((tbR R).at ((tbR R).num p.1), (tbR R).at ((tbR R).num p.2)) = true
      rw [hT.at_num b, hT.at_num c]
      exact (acc_iff _ _).mpr a
    · intro hq
      obtain ⟨hl, ha⟩ := List.mem_filter.mp hq
      obtain ⟨hi, hj, _, _⟩ := hT.lk_at.mp hl
      have ha : acc R ((tbR R).at q.1, (tbR R).at q.2) = true := ha
      refine List.mem_map.mpr ⟨((tbR R).at q.1, (tbR R).at q.2), (hin _).mpr ⟨(acc_iff _ _).mp ha, hT.at_in hi, hT.at_in hj⟩, ?_⟩
      unfold numP
      rw [hT.num_at hi, hT.num_at hj]
theorem L_num {R : Rdr} (h : R.Ok) (h1 : 1 ≤ R.L.length) : R.L.map (tbR R).num = tidL (tbR R) := by
  unfold tidL
  refine List.ext_getElem (by simp; rfl) fun i hi hj => ?_
  have hi2 : i < R.L.length := by simpa using hi
  rw [List.getElem_map, List.getElem_map, List.getElem_range]
  congr 1
  show R.L[i] = R.L.getD i 0
  rw [List.getD_eq_getElem?_getD, List.getElem?_eq_getElem hi2]
  rfl
theorem L_in {R : Rdr} (h : R.Ok) (h1 : 1 ≤ R.L.length) {x : Nat} (hx : x ∈ R.L) : x ∈ (tbR R).vals := by
  obtain ⟨i, hi, rfl⟩ := List.mem_iff_getElem.mp hx
  have := (tbR_ok h h1).lt_in (a := i) hi
  have e : (tbR R).lt i = R.L[i] := by
    show R.L.getD i 0 = _
    rw [List.getD_eq_getElem?_getD, List.getElem?_eq_getElem hi]
    rfl
  rwa [e] at this
theorem ltidied_ok (n0 : Nat) (R : Rdr) (g : R.Good) (h1 : 1 ≤ R.L.length) (hc : R.L.length ≤ 1000) (hn : R.S.n ≤ 300) (hd : R.A.Nodup) (hA : R.A.length ≤ 100000) (mem : List MO) :
    run (TL L) (n0 + 3) "_law_tidied" [R.d] mem = .ok (tid R).d mem := by
  have h := g.ok
  have hT := tbR_ok h h1
  have hm := hT.m_le
  rw [show (tbR R).dm.length = R.S.n from List.length_range ..] at hm
  have hlf := lfound_ok n0 R h h1 hc hn mem
  rw [run_def T_ltidied rfl]
  generalize run (TL L) (n0 + 2) = cf at hlf ⊢
  simp only [d__law_tidied]
  refine wp_eq ?_
  have eo : (tbR R).ord.map eV = (List.range (tbR R).m).map fun i => dN ((tbR R).at i) := by
    rw [hT.ord_range, List.map_map]
    rfl
  rw [eo] at hlf
  have rl : ∀ (s : DL.S) (ds : List D), drf s (.lst ds) = .lst ds := fun _ _ => rfl
  have i0 : ∀ a b : D, idxO (.lst [a, b]) (.int 0) = some a := fun a b => rfl
  dsimp! [hlf, i0, rl]
  refine wp_for0 (fun i => dN ((tbR R).at i)) (fun done t => ∃ s3, t = ⟨[.val R.d, .val (.lst ((List.range (tbR R).m).map fun i => dN ((tbR R).at i))), .own (.dct (dctM keyN dN (nuL (tbR R) done.length))), s3, .non, .non, .non, .non, .non, .non], mem⟩) ⟨.non, rfl⟩ ?_ ?_
  · intro done k rest t hre ⟨s3, ht⟩
    subst ht
    obtain ⟨hd1, hd2⟩ := done_range hre
    have hk : k < (tbR R).m := List.mem_range.mp (by rw [hre]; simp)
    rw [List.length_append, List.length_singleton, ← hd2]
    have ll : (dctM keyN dN (nuL (tbR R) k)).length = k := by unfold dctM nuL; simp
    have pk := dk_put keyN dN (nuL (tbR R) k) ((tbR R).at k) k (by unfold nuL; rw [List.length_map, List.length_range]; omega)
    rw [nuL_put _ hT hk] at pk
    have pk : putKV (dctM keyN dN (nuL (tbR R) k)) (.int (((tbR R).at k : Nat) : Int)) (.int (k : Int)) = some (dctM keyN dN (nuL (tbR R) (k + 1))) := pk
    dsimp! [ll, pk]
    exact ⟨_, rfl⟩
  intro t ⟨s3, ht⟩
  subst ht
  rw [List.length_range]
  have gn : ∀ x, x ∈ (tbR R).vals → idxO (.dct (dctM keyN dN (nuL (tbR R) (tbR R).m))) (.int (x : Int)) = some (.int (((tbR R).num x : Nat) : Int)) := fun x hx => by
    have := dk_get keyN dN (nuL (tbR R) (tbR R).m) x
    rw [nuL_lk _ hT hx] at this
    exact this
  have gi : ∀ x : Nat, inO (.int (x : Int)) (.dct (dctM keyN dN (nuL (tbR R) (tbR R).m))) = some (inV R x) := fun x => dk_in keyN dN (nuL (tbR R) (tbR R).m) x
  generalize dctM keyN dN (nuL (tbR R) (tbR R).m) = dd at gn gi ⊢
  dsimp! [rl]
  rw [lc_w (fun i => dN ((tbR R).at i)) fun i => (tidS (tbR R)).row i]
  rotate_left
  · intro i hi
    have hi := List.mem_range.mp hi
    have xi := at_lt h h1 hi
    dsimp! [rl]
    rw [lc_w (fun j => dN ((tbR R).at j)) fun j => dN ((tbR R).mul i j)]
    · dsimp! []
      rfl
    · intro j hj
      have hj := List.mem_range.mp hj
      have xj := at_lt h h1 hj
      have hx : R.S.f ((tbR R).at i) ((tbR R).at j) ∈ (tbR R).vals := hT.jn_in (hT.at_in hi) (hT.at_in hj)
      dsimp! [r_R, i_R1, r_S, i_S _ _ xi, r_Sr, i_Sr _ _ _ xj, r_dct, gn _ hx]
      rfl
  have eS : D.tup ((List.range (tbR R).m).map fun i => (tidS (tbR R)).row i) = (tid R).S.d := rfl
  have r2 : ∀ (s : DL.S) p, drf s (d2 p) = d2 p := fun _ _ => rfl
  dsimp! [eS, r_R, i_R2]
  rw [lf_w d2 (fun p => inV R p.1 && inV R p.2) fun p => d2 (numP R p)]
  rotate_left
  · intro p hp
    have pe : d2 p = .tup [.int (p.1 : Int), .int (p.2 : Int)] := rfl
    cases q1 : inV R p.1 with
    | false =>
      have g1 := gi p.1
      rw [q1] at g1
      dsimp! [pe, r_dct, g1, Bool.false_and]
    | true =>
      have g1 := gi p.1
      rw [q1] at g1
      cases q2 : inV R p.2 with
      | false =>
        have g2 := gi p.2
        rw [q2] at g2
        dsimp! [pe, r_dct, g1, g2, Bool.true_and]
      | true =>
        have g2 := gi p.2
        rw [q2] at g2
        have e1 := gn _ ((inV_iff hT _).mp q1)
        have e2 := gn _ ((inV_iff hT _).mp q2)
        have en : D.tup [.int (((tbR R).num p.1 : Nat) : Int), .int (((tbR R).num p.2 : Nat) : Int)] = d2 (numP R p) := rfl
        dsimp! [pe, r_dct, g1, g2, e1, e2, en, Bool.true_and]
  obtain ⟨hnd, hmm⟩ := numA g h1 hd
  have ef : (R.A.filter fun p => inV R p.1 && inV R p.2).map (fun p => d2 (numP R p)) = ((R.A.filter fun p => inV R p.1 && inV R p.2).map (numP R)).map d2 := by
    rw [List.map_map]
    rfl
  have so := srt_asc hnd (tidA_asc (tbR R)) hmm
  rw [ef]
  generalize (R.A.filter fun p => inV R p.1 && inV R p.2).map (numP R) = ac at so
  have sL : seqD (tNs R.L) = some (R.L.map dN) := rfl
  dsimp! [r_R, i_R0, r_tNs, sL]
  rw [lc_w dN fun x => dN ((tbR R).num x)]
  rotate_left
  · intro x hx
    dsimp! [r_dct, gn _ (L_in h h1 hx)]
  have eL : D.tup (R.L.map fun x => dN ((tbR R).num x)) = tNs (tidL (tbR R)) := by
    rw [← L_num h h1]
    unfold tNs
    rw [List.map_map]
    rfl
  have eA : ∀ x, D.tup [tNs (tidL (tbR R)), x, .tup ((tidA (tbR R)).map d2)] = .tup [tNs (tidL (tbR R)), x, .tup ((tidA (tbR R)).map d2)] := fun _ => rfl
  dsimp! [eL, rl, so]
  rfl
end DL
end

section
set_option maxRecDepth 100000
set_option maxHeartbeats 16000000
namespace DL
open PySem
local macro_rules | `(tactic| dsimp! [$ls,*]) => `(tactic| simp (disch := (first | assumption | omega | (simp only [List.length_cons, List.length_nil, List.length_map, List.length_range, List.length_append]; omega))) only [f_bool, f_int, f_bl, f_non, f_str, f_glob, f_bin, f_cmp, f_idx, f_neg, f_chain, f_not, f_ite, f_slc, f_tup, f_lst, f_call, f_blt, f_lrg1, f_lrg2, f_lc, f_gx, f_Anil, f_A, f_B1, f_B, f_C0, f_C1, f_seq, f_rng1, f_rng2, f_enum, f_zip, f_rev, b_ok, b_exc, b_of, b_O, b_map, b_2, b_ob, a_2, a_Bin, a_Cmp, a_Idx, a_fC, a_fI, a_wB, a_wD, a_asB, a_asI, a_Neg, a_Neg2, a_Ch, a_Ch2, a_Ch3t, a_Ch3f, a_Not, a_Not2, a_Ite, a_Ite2t, a_Ite2f, a_Tup, a_Tup2, a_Lst, a_Lst2, a_Cl, a_Cl2, a_Cl3, a_inM, a_inX, a_Blt, a_Lr1, a_Lr2, a_Lr3, a_Sm, a_Bd, a_evBh, a_slcV, a_Sl2, a_Sl, a_turnC, a_C0, a_C1t, a_C1f, a_C2, a_C3, a_turnG, a_G0, a_G1t, a_G1f, a_G2, a_G3, a_Lc, a_Lc2, a_Gx, a_Gx2, a_A2, a_A, a_B, a_B2tt, a_B2tf, a_B2ff, a_B2ft, a_C, a_Seq, a_Seq2, a_R1, a_R2, a_R2', a_R3, a_En, a_En2, a_Z, a_Z2, a_Z3, a_Z4, a_Rv, a_Rv2, v_d, v_s, v_val, v_own, r_non, r_bl, r_int, r_str, r_tup, r_lst, c_d, c_s, c_val, c_own, s_nil, s_cons, s_1, s_2, vs_nil, vs_cons, vs_c, f_var, w_val, w_own, p_pl, p_mo, t_lst, o_addI, o_addS, o_addL, o_addT, o_sub, o_mulN, o_fdiv, o_mod, q_lt, q_le, q_gt, q_ge, q_eq, q_ne, q_is, q_isN, q_isNb, q_isNi, q_isNt, q_not, q_notN, q_notNb, q_notNi, q_notNt, q_in, q_nin, u_bl, u_int, u_lst, u_tup, i_lst, i_tup, i_0, i_1, i_2, i_3, i_4, l_lst, l_tup, z_lst, z_tup, a_wI, t_len, t_max, t_min, t_int, t_intb, t_all, t_any, t_listL, t_listT, t_listS, t_tupL, t_tupT, g_lst, g_tup, n_name, n_tup, n_nil, n_cons, n_kas, y_skip, y_seq, y_asg, y_own, y_shr, y_par, y_aug, y_put, y_app, y_ext, y_iff, y_ret, y_retN, y_brk, y_cont, y_exp, y_whl, y_for, j_Sn, j_Sr, j_Sb, j_Sc, j_N, j_A2, j_A, j_O, j_H, j_P4, j_P3, j_P2, j_P, j_G0, j_G, j_G2, j_U5, j_U4, j_U3, j_U2, j_U, j_L3, j_L2, j_L1, j_L0, j_L, j_X2, j_X, j_X0, j_It, j_If, j_I, j_R2, j_R, j_E, j_W, j_whlC, j_T, j_turnF, j_F, m_rt, m_nx, m_exc, ap_s, ap_r, ap_o, ap_v, ex_s, ex_o, pu_s, pu_o, pu_v, au_add, au_sub, au_mul, au_fdiv, au_mod, fq_rt, fq_nx, gq_nx, gq_ct, gq_rt, gq_bk, isB_eq, isI_eq, isT_eq, rg1_n, lst1_n, a_evBd, isHole, eqO_int, wp_ok, wp_bind, wp_fin, List.length_cons, List.length_nil, List.getElem?_cons_zero, List.getElem?_cons_succ, List.getElem?_nil, List.set_cons_zero, List.set_cons_succ, if_true, if_false, Bool.false_eq_true, wipeE, back, Nat.reduceAdd, decide_true, decide_false, Bool.not_true, Bool.not_false, List.map_cons, List.map_nil, List.replicate, List.cons_append, List.nil_append, Nat.add_one_sub_one, Nat.reduceSub, Nat.sub_self, List.isEmpty_nil, List.isEmpty_cons, k_tk, eq_self, and_true, true_and, and_self, Option.some.injEq, f_kin, f_kix, f_pop, f_popAt, f_isi, f_index, f_rng3, isS_eq, a_asS, a_Ki, a_Ki2f, a_Ki2t, a_Kx, a_Kx2, a_Pop, a_Pop1, a_Pop2, a_Pa, a_Pa0, a_Pa1, a_Pa2, a_Isi, a_fIsi, a_Ix, a_Ix0, a_Ix1, a_R36, a_R35, a_R34, a_R33, a_R32, po_s, po_v, r_scr, Option.isSome_some, Option.isSome_none, f_fresh, a_Fr, r_ref, r_refL, ap_mW, ap_mL, po_mW, f_dnew, f_trg1, a_Tr1, trR_n, pu_od, r_dct, l_dct, t_dct, f_dc, a_turnU, a_U0, a_U1t, a_U1f, a_U2, a_U3, a_U4, a_U5, a_Dc, a_Dc2, f_kget, a_Kg, a_Kg2, f_gmax, a_turnM, a_M0, a_M1t, a_M1f, a_M2, a_M3, a_Gm, a_Gm2, f_fld, a_Fld, a_Fld2, in_r, in_s, in_v, in_m, fl_w, fl_1, fl_2, ct_1, tl_1, f_meth, a_Me, a_Me2, a_Me3, a_Me4, mt_w, mt_1, mt_2, mt_3, f_new, a_Nw, a_Nw2, a_Nw3, x_fst, j_Fs, j_Fs2, j_Fs3, fs_w, fs_1, r_refI, a_En2t, f_lc2, a_L2, a_turn2C, a_2C0, a_2Ct, a_2Cf, a_D1, x_tryN, $ls,*])
theorem T_settledB : TL L "settled" = some d_settled := rfl
/-- a dict of numbers that are marked -/
def mkL (l : List Nat) : List (Nat × Bool) := putsA [] (l.map fun x => (x, true))
theorem mk_lk (l : List Nat) (x : Nat) : (lkA (mkL l) x).isSome = l.any fun z => decide (z = x) := by
  have key : ∀ (l : List Nat) (acc : List (Nat × Bool)), (lkA (putsA acc (l.map fun p => (p, true))) x).isSome = ((lkA acc x).isSome || l.any fun z => decide (z = x)) := fun l => by
    induction l with
    | nil => intro acc; simp [putsA]
    | cons q l ih =>
      intro acc
      show (lkA (putsA (putA acc q true) (l.map fun p => (p, true))) x).isSome = _
      rw [ih, lkA_put, List.any_cons]
      by_cases h : x = q
      · subst h; simp
      · have h2 : ¬ q = x := fun z => h z.symm
        simp [h, h2]
  exact key l []
def mkD (l : List Nat) : List (D × D) := dctM keyN D.bl (mkL l)
theorem mk_in (l : List Nat) (x : Nat) : inO (.int (x : Int)) (.dct (mkD l)) = some (l.any fun z => decide (z = x)) := by
  have := dk_in keyN D.bl (mkL l) x
  rw [mk_lk] at this
  exact this
/-- where a word that begins so may lead -/
def starts (R : Rdr) (b : List Nat) : List Nat := if b = [] then List.range R.S.n else (List.range R.S.n).map fun x => R.S.f (wv R.S R.L b) x
def inSt (R : Rdr) (b : List Nat) (s : Nat) : Bool := (starts R b).any fun z => decide (z = s)
def told (R : Rdr) (b : List Nat) : List Bool := ((linked R.S).filter fun p => inSt R b p.1).map (acc R)
def tellD (l : List Bool) : D := if l.all id then .bl true else if l.any id then .non else .bl false
theorem told_rows (R : Rdr) (b : List Nat) : (told R b).map D.bl = (List.range R.S.n).flatMap fun s => ((List.range R.S.n).filter fun f => inSt R b s && lkF R.S s f).map fun f => D.bl (acc R (s, f)) := by
  unfold told linked
  rw [List.filter_flatMap, List.map_flatMap, List.map_flatMap]
  congr 1
  funext s
  unfold lkRow
  rw [List.filter_map, List.filter_filter, List.map_map, List.map_map]
  rfl
theorem bls_map (l : List Bool) : blsD (l.map D.bl) = some l := by
  induction l with
  | nil => rfl
  | cons a l ih => simp only [List.map_cons, blsD, ih]; rfl
theorem settled_ok (n0 : Nat) (R : Rdr) (g : R.Good) (h1 : 1 ≤ R.L.length) (hc : R.L.length ≤ 1000) (hn : R.S.n ≤ 300) (hA : R.A.length ≤ 100000) (hA' : (tid R).A.length ≤ 100000) (b : List Nat) (hb : ∀ x ∈ b, x < R.L.length) (mem : List MO) :
    run (TL L) (n0 + 5) "settled" [R.d, dNs b] mem = .ok (tellD (told (tid R) b)) (mem ++ [tbI R]) := by
  have hti := tidy_ok n0 R g.ok h1 hc hn hA mem
  have gT := tid_good g h1 hn
  have hT := gT.ok
  have hS := hT.S
  have hle := hS.le
  have hcT : (tid R).L.length = R.L.length := tid_c g.ok h1
  have hva := fun (hn : b ≠ []) => value_ok (n0 + 3) (tid R) hT b hn (by rw [hcT]; exact hb) (mem ++ [tbI R])
  have hik := fun s f hs hf => islinked_ok (n0 + 3) (tid R) hS s f hs hf (mem ++ [tbI R])
  have hwl : ∀ hn : b ≠ [], wv (tid R).S (tid R).L b < (tid R).S.n := fun hn => wv_lt hT hn (by rw [hcT]; exact hb)
  rw [run_def T_settledB rfl]
  generalize run (TL L) (n0 + 4) = cf at hti hva hik ⊢
  simp only [d_settled]
  generalize hR' : tid R = R' at *
  generalize mem ++ [tbI R] = mem1 at hti hva hik ⊢
  have sq : seqD (.rng (R'.S.n : Int)) = some ((List.range R'.S.n).map dN) := by
    show (if small62 (R'.S.n : Int) then some (rngD 0 ((R'.S.n : Int)).toNat) else none) = _
    rw [if_pos (small_ok' (by omega) (by omega)), show ((R'.S.n : Int)).toNat = R'.S.n by omega, rng_map]
  have brg : ∀ j : Int, bltO .range [.int j] = some (.pl (.d (.rng j))) := fun _ => Eq.trans rfl rfl
  have rrg : ∀ (s : DL.S) j, drf s (.rng j) = .rng j := fun _ _ => rfl
  have i2 : idxO R'.d (.int 2) = some (.tup (R'.A.map d2)) := i_R2 R'
  have sA : seqD (.tup (R'.A.map d2)) = some (R'.A.map d2) := rfl
  have rA : ∀ s : DL.S, drf s (.tup (R'.A.map d2)) = .tup (R'.A.map d2) := fun _ => rfl
  have r2 : ∀ (s : DL.S) p, drf s (d2 p) = d2 p := fun _ _ => rfl
  have ed : ∀ a b : Nat, D.tup [.int (a : Int), .int (b : Int)] = d2 (a, b) := fun _ _ => rfl
  have m0 : MO.dct (dctM keyN D.bl (putsA [] ((List.range R'.S.n).map fun x => (x, true)))) = .dct (mkD (List.range R'.S.n)) := rfl
  refine wp_eq ?_
  dsimp! [hti, r_R, i_R1, i2, r_S, l_S, brg, rrg, sq]
  rw [dc_w keyN D.bl dN fun x => some (x, true)]
  rotate_left
  · rw [List.length_range]; omega
  · intro x hx
    dsimp! []
    rfl
  have ef : (List.range R'.S.n).filterMap (fun x => some (x, true)) = (List.range R'.S.n).map fun x => (x, true) := by
    rw [List.filterMap_eq_map']
  rw [ef, m0]
  by_cases hb0 : b = []
  · have t0 : truO (dNs b) = some false := by rw [hb0]; rfl
    have st : starts R' b = List.range R'.S.n := if_pos hb0
    rw [← st]
    dsimp! [r_Ns, t0, sA, rA]
    rw [dc_w keyNN D.bl d2 fun p => some (p, true)]
    rotate_left
    · omega
    · intro p hp
      dsimp! [r2]
      rfl
    have ef : R'.A.filterMap (fun p => some (p, true)) = R'.A.map fun p => (p, true) := by
      rw [List.filterMap_eq_map']
    rw [ef]
    have kd : MO.dct (dctM keyNN D.bl (putsA [] (R'.A.map fun p => (p, true)))) = .dct (dctM keyNN D.bl (knL R'.A)) := rfl
    have ni : ∀ p, inO (d2 p) (.dct (dctM keyNN D.bl (knL R'.A))) = some (acc R' p) := fun p => by
      have := dk_in keyNN D.bl (knL R'.A) p
      rw [kn_lk] at this
      exact this
    have si : ∀ x : Nat, inO (.int (x : Int)) (.dct (mkD (starts R' b))) = some (inSt R' b x) := fun x => mk_in _ x
    dsimp! [kd, rrg, sq]
    rw [l2_w dN fun s => ((List.range R'.S.n).filter fun f => inSt R' b s && lkF R'.S s f).map fun f => D.bl (acc R' (s, f))]
    rotate_left
    · intro s hs
      have hs := List.mem_range.mp hs
      dsimp! [rrg, sq]
      refine li_w dN (fun f => inSt R' b s && lkF R'.S s f) (fun f => D.bl (acc R' (s, f))) _ _ _ _ _ _ _ rfl rfl rfl fun f hf => ?_
      have hf := List.mem_range.mp hf
      have h3 := si s
      have h4 := hik s f hs hf
      have h5 := ni (s, f)
      cases q1 : inSt R' b s with
      | false =>
        rw [q1] at h3
        dsimp! [r_dct, h3, Bool.false_and]
      | true =>
        rw [q1] at h3
        cases q2 : lkF R'.S s f with
        | false =>
          rw [q2] at h4
          dsimp! [r_dct, h3, r_R, h4, Bool.true_and]
        | true =>
          rw [q2] at h4
          dsimp! [r_dct, h3, r_R, h4, Bool.true_and, ed, r2, h5]
    rw [← told_rows]
    have bl := bls_map (told R' b)
    unfold tellD
    generalize told R' b = tl at bl ⊢
    cases q1 : tl.all id with
    | true =>
      dsimp! [bl, q1]
    | false =>
      cases q2 : tl.any id with
      | true =>
        dsimp! [bl, q1, q2]
      | false =>
        dsimp! [bl, q1, q2]
  · have t0 : truO (dNs b) = some true := by
      cases b with
      | nil => exact absurd rfl hb0
      | cons a r => rfl
    have hw := hwl hb0
    have hva := hva hb0
    dsimp! [r_Ns, t0, r_R, hva, rrg, sq]
    rw [dc_w keyN D.bl dN fun x => some (R'.S.f (wv R'.S R'.L b) x, true)]
    rotate_left
    · rw [List.length_range]; omega
    · intro x hx
      have hx := List.mem_range.mp hx
      dsimp! [r_S, i_S _ _ hw, r_Sr, i_Sr _ _ _ hx]
      rfl
    have ef : (List.range R'.S.n).filterMap (fun x => some (R'.S.f (wv R'.S R'.L b) x, true)) = (starts R' b).map fun x => (x, true) := by
      rw [List.filterMap_eq_map']
      unfold starts
      rw [if_neg hb0, List.map_map]
      rfl
    rw [ef]
    have m1 : MO.dct (dctM keyN D.bl (putsA [] ((starts R' b).map fun x => (x, true)))) = .dct (mkD (starts R' b)) := rfl
    rw [m1]
    dsimp! [sA, rA]
    rw [dc_w keyNN D.bl d2 fun p => some (p, true)]
    rotate_left
    · omega
    · intro p hp
      dsimp! [r2]
      rfl
    have ef : R'.A.filterMap (fun p => some (p, true)) = R'.A.map fun p => (p, true) := by
      rw [List.filterMap_eq_map']
    rw [ef]
    have kd : MO.dct (dctM keyNN D.bl (putsA [] (R'.A.map fun p => (p, true)))) = .dct (dctM keyNN D.bl (knL R'.A)) := rfl
    have ni : ∀ p, inO (d2 p) (.dct (dctM keyNN D.bl (knL R'.A))) = some (acc R' p) := fun p => by
      have := dk_in keyNN D.bl (knL R'.A) p
      rw [kn_lk] at this
      exact this
    have si : ∀ x : Nat, inO (.int (x : Int)) (.dct (mkD (starts R' b))) = some (inSt R' b x) := fun x => mk_in _ x
    dsimp! [kd, rrg, sq]
    rw [l2_w dN fun s => ((List.range R'.S.n).filter fun f => inSt R' b s && lkF R'.S s f).map fun f => D.bl (acc R' (s, f))]
    rotate_left
    · intro s hs
      have hs := List.mem_range.mp hs
      dsimp! [rrg, sq]
      refine li_w dN (fun f => inSt R' b s && lkF R'.S s f) (fun f => D.bl (acc R' (s, f))) _ _ _ _ _ _ _ rfl rfl rfl fun f hf => ?_
      have hf := List.mem_range.mp hf
      have h3 := si s
      have h4 := hik s f hs hf
      have h5 := ni (s, f)
      cases q1 : inSt R' b s with
      | false =>
        rw [q1] at h3
        dsimp! [r_dct, h3, Bool.false_and]
      | true =>
        rw [q1] at h3
        cases q2 : lkF R'.S s f with
        | false =>
          rw [q2] at h4
          dsimp! [r_dct, h3, r_R, h4, Bool.true_and]
        | true =>
          rw [q2] at h4
          dsimp! [r_dct, h3, r_R, h4, Bool.true_and, ed, r2, h5]
    rw [← told_rows]
    have bl := bls_map (told R' b)
    unfold tellD
    generalize told R' b = tl at bl ⊢
    cases q1 : tl.all id with
    | true =>
      dsimp! [bl, q1]
    | false =>
      cases q2 : tl.any id with
      | true =>
        dsimp! [bl, q1, q2]
      | false =>
        dsimp! [bl, q1, q2]
end DL
end

section
set_option maxRecDepth 100000
set_option maxHeartbeats 16000000
namespace DL
open PySem
local macro_rules | `(tactic| dsimp! [$ls,*]) => `(tactic| simp (disch := (first | assumption | omega | (simp only [List.length_cons, List.length_nil, List.length_map, List.length_range, List.length_append]; omega))) only [f_bool, f_int, f_bl, f_non, f_str, f_glob, f_bin, f_cmp, f_idx, f_neg, f_chain, f_not, f_ite, f_slc, f_tup, f_lst, f_call, f_blt, f_lrg1, f_lrg2, f_lc, f_gx, f_Anil, f_A, f_B1, f_B, f_C0, f_C1, f_seq, f_rng1, f_rng2, f_enum, f_zip, f_rev, b_ok, b_exc, b_of, b_O, b_map, b_2, b_ob, a_2, a_Bin, a_Cmp, a_Idx, a_fC, a_fI, a_wB, a_wD, a_asB, a_asI, a_Neg, a_Neg2, a_Ch, a_Ch2, a_Ch3t, a_Ch3f, a_Not, a_Not2, a_Ite, a_Ite2t, a_Ite2f, a_Tup, a_Tup2, a_Lst, a_Lst2, a_Cl, a_Cl2, a_Cl3, a_inM, a_inX, a_Blt, a_Lr1, a_Lr2, a_Lr3, a_Sm, a_Bd, a_evBh, a_slcV, a_Sl2, a_Sl, a_turnC, a_C0, a_C1t, a_C1f, a_C2, a_C3, a_turnG, a_G0, a_G1t, a_G1f, a_G2, a_G3, a_Lc, a_Lc2, a_Gx, a_Gx2, a_A2, a_A, a_B, a_B2tt, a_B2tf, a_B2ff, a_B2ft, a_C, a_Seq, a_Seq2, a_R1, a_R2, a_R2', a_R3, a_En, a_En2, a_Z, a_Z2, a_Z3, a_Z4, a_Rv, a_Rv2, v_d, v_s, v_val, v_own, r_non, r_bl, r_int, r_str, r_tup, r_lst, c_d, c_s, c_val, c_own, s_nil, s_cons, s_1, s_2, vs_nil, vs_cons, vs_c, f_var, w_val, w_own, p_pl, p_mo, t_lst, o_addI, o_addS, o_addL, o_addT, o_sub, o_mulN, o_fdiv, o_mod, q_lt, q_le, q_gt, q_ge, q_eq, q_ne, q_is, q_isN, q_isNb, q_isNi, q_isNt, q_not, q_notN, q_notNb, q_notNi, q_notNt, q_in, q_nin, u_bl, u_int, u_lst, u_tup, i_lst, i_tup, i_0, i_1, i_2, i_3, i_4, l_lst, l_tup, z_lst, z_tup, a_wI, t_len, t_max, t_min, t_int, t_intb, t_all, t_any, t_listL, t_listT, t_listS, t_tupL, t_tupT, g_lst, g_tup, n_name, n_tup, n_nil, n_cons, n_kas, y_skip, y_seq, y_asg, y_own, y_shr, y_par, y_aug, y_put, y_app, y_ext, y_iff, y_ret, y_retN, y_brk, y_cont, y_exp, y_whl, y_for, j_Sn, j_Sr, j_Sb, j_Sc, j_N, j_A2, j_A, j_O, j_H, j_P4, j_P3, j_P2, j_P, j_G0, j_G, j_G2, j_U5, j_U4, j_U3, j_U2, j_U, j_L3, j_L2, j_L1, j_L0, j_L, j_X2, j_X, j_X0, j_It, j_If, j_I, j_R2, j_R, j_E, j_W, j_whlC, j_T, j_turnF, j_F, m_rt, m_nx, m_exc, ap_s, ap_r, ap_o, ap_v, ex_s, ex_o, pu_s, pu_o, pu_v, au_add, au_sub, au_mul, au_fdiv, au_mod, fq_rt, fq_nx, gq_nx, gq_ct, gq_rt, gq_bk, isB_eq, isI_eq, isT_eq, rg1_n, lst1_n, a_evBd, isHole, eqO_int, wp_ok, wp_bind, wp_fin, List.length_cons, List.length_nil, List.getElem?_cons_zero, List.getElem?_cons_succ, List.getElem?_nil, List.set_cons_zero, List.set_cons_succ, if_true, if_false, Bool.false_eq_true, wipeE, back, Nat.reduceAdd, decide_true, decide_false, Bool.not_true, Bool.not_false, List.map_cons, List.map_nil, List.replicate, List.cons_append, List.nil_append, Nat.add_one_sub_one, Nat.reduceSub, Nat.sub_self, List.isEmpty_nil, List.isEmpty_cons, k_tk, eq_self, and_true, true_and, and_self, Option.some.injEq, f_kin, f_kix, f_pop, f_popAt, f_isi, f_index, f_rng3, isS_eq, a_asS, a_Ki, a_Ki2f, a_Ki2t, a_Kx, a_Kx2, a_Pop, a_Pop1, a_Pop2, a_Pa, a_Pa0, a_Pa1, a_Pa2, a_Isi, a_fIsi, a_Ix, a_Ix0, a_Ix1, a_R36, a_R35, a_R34, a_R33, a_R32, po_s, po_v, r_scr, Option.isSome_some, Option.isSome_none, f_fresh, a_Fr, r_ref, r_refL, ap_mW, ap_mL, po_mW, f_dnew, f_trg1, a_Tr1, trR_n, pu_od, r_dct, l_dct, t_dct, f_dc, a_turnU, a_U0, a_U1t, a_U1f, a_U2, a_U3, a_U4, a_U5, a_Dc, a_Dc2, f_kget, a_Kg, a_Kg2, f_gmax, a_turnM, a_M0, a_M1t, a_M1f, a_M2, a_M3, a_Gm, a_Gm2, f_fld, a_Fld, a_Fld2, in_r, in_s, in_v, in_m, fl_w, fl_1, fl_2, ct_1, tl_1, f_meth, a_Me, a_Me2, a_Me3, a_Me4, mt_w, mt_1, mt_2, mt_3, f_new, a_Nw, a_Nw2, a_Nw3, x_fst, j_Fs, j_Fs2, j_Fs3, fs_w, fs_1, r_refI, a_En2t, f_lc2, a_L2, a_turn2C, a_2C0, a_2Ct, a_2Cf, a_D1, x_tryN, $ls,*])
theorem told_all {R : Rdr} {b : List Nat} (h : (told R b).all id = true) {p : Nat × Nat} (hp : p ∈ linked R.S) (hs : inSt R b p.1 = true) : acc R p = true := by
  unfold told at h
  rw [List.all_map] at h
  exact List.all_eq_true.mp h p (List.mem_filter.mpr ⟨hp, hs⟩)
theorem told_none {R : Rdr} {b : List Nat} (h : (told R b).any id = false) {p : Nat × Nat} (hp : p ∈ linked R.S) (hs : inSt R b p.1 = true) : acc R p = false := by
  cases e : acc R p with
  | false => rfl
  | true =>
    have : (told R b).any id = true := List.any_eq_true.mpr ⟨true, List.mem_map.mpr ⟨p, List.mem_filter.mpr ⟨hp, hs⟩, e⟩, rfl⟩
    rw [h] at this; cases this
theorem begins {R : Rdr} (h : R.Ok) {b : List Nat} (hb : ∀ x ∈ b, x < R.L.length) {w : Wd} (hw : okW R.L.length w) : pairOf R (b ++ w.1, w.2) ∈ linked R.S ∧ inSt R b (pairOf R (b ++ w.1, w.2)).1 = true := by
  obtain ⟨u, r⟩ := w
  obtain ⟨hn, hu, hr⟩ := hw
  have hn : r ≠ [] := hn
  have hu : ∀ x ∈ u, x < R.L.length := hu
  have hr : ∀ x ∈ r, x < R.L.length := hr
  have hV := wv_lt h hn hr
  have hF := settF_lt h.S hV
  obtain ⟨k, _, e, hi, _⟩ := settF_pw h.S hV
  rw [← e] at hi
  rw [pairOf_ap]
  generalize settF R.S (wv R.S R.L r) = F at hF hi
  have hbu : ∀ x ∈ b ++ u, x < R.L.length := fun x hx => (List.mem_append.mp hx).elim (hb x) (hu x)
  refine ⟨mem_linked.mpr ⟨ap_lt h hbu hF, hF, ?_, hi⟩, ?_⟩
  · show R.S.f (ap R (b ++ u) F) F = ap R (b ++ u) F
    rw [ap_mul h hbu hF hF, hi]
  · have key : ∃ y, y < R.S.n ∧ ap R (b ++ u) F = ap R b y := by
      by_cases e : u = []
      · exact ⟨F, hF, by rw [e, List.append_nil]⟩
      · exact ⟨_, h.S.lt _ _ (wv_lt h e hu) hF, ap_app h hb e hu hF⟩
    obtain ⟨y, hy, ey⟩ := key
    unfold inSt starts
    refine List.any_eq_true.mpr ⟨ap R (b ++ u) F, ?_, decide_eq_true rfl⟩
    rw [ey]
    unfold ap
    by_cases e : b = []
    · rw [if_pos e, if_pos e]; exact List.mem_range.mpr hy
    · rw [if_neg e, if_neg e]; exact List.mem_map.mpr ⟨y, List.mem_range.mpr hy, rfl⟩
theorem add_Ns (a b : List Nat) (h : a.length + b.length ≤ 1000) : binO .add (dNs a) (dNs b) = some (.mo (.lst ((a ++ b).map dN))) := by
  unfold dNs
  rw [o_addL _ _ (by rw [List.length_map, List.length_map]; omega), List.map_append]
theorem law_run (n0 : Nat) (ns : List Int) : (run (TL L) (n0 + 6) "law" [.scr ns] []).Wp fun d _ => d = .bl true := by
  have hdr := hdraw (n0 + 4)
  have hrd := fun st hst rest c hc => reader_ok (n0 + 1) st hst rest c hc
  have hlt := fun R g h1 hc hn hd hA mem => ltidied_ok (n0 + 2) R g h1 hc hn hd hA mem
  have hse := fun R g h1 hc hn hA hA' b hb mem => settled_ok n0 R g h1 hc hn hA hA' b hb mem
  have hro := fun st hst rest c hc hc2 => row_s (n0 + 3) st hst rest c 0 4 hc hc2 (by omega) (by omega)
  have hwo := fun R h row hn hr mem => worth_ok (n0 + 4) R h row hn hr mem
  have hli := fun S hS h9 mem => linked_ok (n0 + 4) S hS h9 mem
  have hac := fun R h w hw mem => accepts_ok (n0 + 2) R h w hw mem
  have hwd := fun st hst rest c hc hc2 => word_s (n0 + 2) st hst rest c hc hc2 3 (by omega) (by omega)
  rw [run_def T_law rfl]
  generalize run (TL L) (n0 + 5) = cf at hdr hrd hlt hse hro hwo hli hac hwd ⊢
  have hst : MO.lst [.int 0, .int 0, .lst (ns.map D.int), .int 1] = stD ns 0 0 1 := rfl
  obtain ⟨c0, st1, e1, hst1, hc0⟩ := hdr (stD ns 0 0 1) (isS0 ns) [] 3 3 rfl (by decide) (by decide)
  obtain ⟨c, hc⟩ : ∃ c, c = 1 + c0 := ⟨_, rfl⟩
  have ec : (1 : Int) + (c0 : Int) = ((c : Nat) : Int) := by omega
  obtain ⟨d2', m2, e2, R, st2, rfl, rfl, hst2, g, hRL, hR9, hsub⟩ := wp_get (hrd st1 hst1 [] c (by omega))
  have h := g.ok
  have h1 : 1 ≤ R.L.length := by omega
  have hla81 : R.A.length ≤ 81 := by
    have e3 := hsub.length_le
    have e4 := linked_le (S := R.S) hR9 (List.range R.S.n) (by rw [List.length_range]; exact hR9)
    rw [List.length_range] at e4
    have e4 : (linked R.S).length ≤ 9 * R.S.n := e4
    omega
  have hasc : R.A.Pairwise asc := (linked_asc R.S).sublist hsub
  have hnd := asc_nodup hasc
  have gT := tid_good g h1 (by omega)
  have nT := tid_n h h1
  have cT : (tid R).L.length = R.L.length := tid_c h h1
  have aT : (tid R).A.length ≤ 81 := by
    have e3 : (tidA (tbR R)).length ≤ (linked (tid R).S).length := List.length_filter_le _ _
    have e4 := linked_le (S := (tid R).S) (by omega) (List.range (tid R).S.n) (by rw [List.length_range]; omega)
    rw [List.length_range] at e4
    have e4 : (linked (tid R).S).length ≤ 9 * (tid R).S.n := e4
    have e5 : (tid R).A.length = (tidA (tbR R)).length := rfl
    omega
  have t2 := hlt R g h1 (by omega) (by omega) hnd (by omega) [st2]
  have acT := fun w hw => tid_acc g h1 (show R.S.n ≤ 300 by omega) (w := w) hw
  have hse := fun b hb mem => hse R g h1 (by omega) (by omega) (by omega) (by omega) b hb mem
  generalize hR' : tid R = R' at *
  have hT := gT.ok
  have rl : ∀ (s : DL.S) (ds : List D), drf s (.lst ds) = .lst ds := fun _ _ => rfl
  simp only [d_law]
  have r4 : rg1 4 = fun s => .ok ((List.range 4).map dN) s := funext fun s => rg1_n 4 s (by decide)
  dsimp! [hst, e1, ec, e2, r_R, t2, r4]
  refine wp_for0 dN (fun done t => ∃ (st : MO) (rest : List MO) (s5 s6 s7 s8 s9 s10 s11 s12 : Sl), IsS st ∧ t = ⟨[.val (.scr ns), .val (.ref 0), .val (.int (c : Int)), .val R.d, .val R'.d, s5, s6, s7, s8, s9, s10, s11, s12, .non, .non], st :: rest⟩) ⟨st2, [], _, _, _, _, _, _, _, _, hst2, rfl⟩ ?_ ?_
  rotate_left
  · intro t ⟨st, rest, s5, s6, s7, s8, s9, s10, s11, s12, hst, ht⟩
    subst ht
    dsimp! []
  intro done k rst t hd ⟨st, rest, s5, s6, s7, s8, s9, s10, s11, s12, hst, ht⟩
  subst ht
  obtain ⟨d3, m3, e3, b, st3, rfl, rfl, hst3, hb1, hb2, hb⟩ := wp_get (hro st hst rest c (by omega) (by omega))
  have e3 : cf "_law_row" [.ref 0, .int (c : Int), .int 0, .int 4] (st :: rest) = .ok (dNs b) (st3 :: rest) := e3
  have hbR : ∀ x ∈ b, x < R.L.length := by rw [hRL]; exact hb
  have hbT : ∀ x ∈ b, x < R'.L.length := by rw [cT]; exact hbR
  have lb : lenO (dNs b) = some (b.length : Int) := l_Ns b
  have lS : lenO R'.S.d = some (R'.S.n : Int) := l_S _
  have hli := hli R'.S hT.S (by omega) (st3 :: rest)
  have ll : (linked R'.S).length ≤ 81 := by
    have e4 := linked_le (S := R'.S) (by omega) (List.range R'.S.n) (by rw [List.length_range]; omega)
    rw [List.length_range] at e4
    have e4 : (linked R'.S).length ≤ 9 * R'.S.n := e4
    omega
  by_cases hb0 : b = []
  · have g0 : decide ((0 : Int) < (b.length : Int)) = false := by rw [hb0]; rfl
    have st0 : (starts R' b).map dN = (List.range R'.S.n).map dN := by rw [show starts R' b = List.range R'.S.n from if_pos hb0]
    dsimp! [e3, r_R, i_R1, r_S, lS, r_Ns, lb, g0, hli]
    rw [← st0]
    rw [lf_w d2 (fun p => inSt R' b p.1) fun p => .bl (acc R' p)]
    rotate_left
    · intro p hp
      have pe : d2 p = .tup [.int (p.1 : Int), .int (p.2 : Int)] := rfl
      have ni : inO (.int (p.1 : Int)) (.lst ((starts R' b).map dN)) = some (inSt R' b p.1) := in_lst encN (by decide) p.1 (starts R' b)
      have np := in_pairs p R'.A
      rw [pe] at np
      cases q : inSt R' b p.1 with
      | false =>
        rw [q] at ni
        dsimp! [pe, rl, ni]
      | true =>
        rw [q] at ni
        dsimp! [pe, rl, ni, r_R, i_R2, np]
        rfl
    have et : ((linked R'.S).filter fun p => inSt R' b p.1).map (fun p => D.bl (acc R' p)) = (told R' b).map D.bl := by
      unfold told
      rw [List.map_map]
      rfl
    rw [et]
    have bl := bls_map (told R' b)
    have hs1 := hse b hbR (st3 :: rest)
    have ls : bltO .list [dNs b] = some (.mo (.lst (b.map dN))) := rfl
    have lN : D.lst (b.map dN) = dNs b := rfl
    have eN : eqO (dNs b) (dNs b) = some true := (Enc.eqO (encL encN) (by decide) b b).trans (by rw [decide_eq_true rfl])
    have mm : (st3 :: rest) ++ [tbI R] = st3 :: (rest ++ [tbI R]) := rfl
    rw [mm] at hs1
    obtain ⟨d4, m4, e4, w, st4, rfl, rfl, hst4, hw, hw1, hw2⟩ := wp_get (hwd st3 hst3 (rest ++ [tbI R]) c (by omega) (by omega))
    have e4 : cf "_law_word" [.ref 0, .int (c : Int), .int 3] (st3 :: (rest ++ [tbI R])) = .ok (dW w) (st4 :: (rest ++ [tbI R])) := e4
    have hwR : okW R.L.length w := by rw [hRL]; exact hw
    have hwT : okW R'.L.length w := by rw [cT]; exact hwR
    have okb : okW R.L.length (b ++ w.1, w.2) := ⟨hwR.1, fun x hx => (List.mem_append.mp hx).elim (hbR x) (hwR.2.1 x), hwR.2.2⟩
    have e5 := hac R h (b ++ w.1, w.2) okb (st4 :: (rest ++ [tbI R]))
    rw [← acT _ okb] at e5
    obtain ⟨p1, p2⟩ := begins hT hbT hwT
    have w0 : idxO (dW w) (.int 0) = some (dNs w.1) := i_W0 _
    have w1 : idxO (dW w) (.int 1) = some (dNs w.2) := i_W1 _
    have a1 := add_Ns b w.1 (by omega)
    have lN2 : D.lst ((b ++ w.1).map dN) = dNs (b ++ w.1) := rfl
    have tW : D.tup [dNs (b ++ w.1), dNs w.2] = dW (b ++ w.1, w.2) := rfl
    have rn : ∀ s : DL.S, drf s .non = .non := fun _ => rfl
    cases q1 : (told R' b).all id with
    | true =>
      have t1 : tellD (told R' b) = .bl true := by unfold tellD; rw [q1]; rfl
      rw [t1] at hs1
      rw [told_all q1 p1 p2] at e5
      have eb : eqO (.bl true) (.bl true) = some true := rfl
      have is1 : cmpO .isnot (.bl true) .non = some true := rfl
      dsimp! [bl, q1, ls, lN, r_R, hs1, eN, r_Ns, eb, e4, is1, r_W, w0, w1, a1, lN2, tW, e5]
      exact ⟨_, _, _, _, _, _, _, _, _, _, hst4, rfl⟩
    | false =>
      cases q2 : (told R' b).any id with
      | true =>
        have t1 : tellD (told R' b) = .non := by unfold tellD; rw [q1, q2]; rfl
        rw [t1] at hs1
        have eb : eqO .non .non = some true := rfl
        have is1 : cmpO .isnot .non .non = some false := rfl
        dsimp! [bl, q1, q2, ls, lN, r_R, hs1, eN, r_Ns, rn, eb, e4, is1]
        exact ⟨_, _, _, _, _, _, _, _, _, _, hst4, rfl⟩
      | false =>
        have t1 : tellD (told R' b) = .bl false := by unfold tellD; rw [q1, q2]; rfl
        rw [t1] at hs1
        rw [told_none q2 p1 p2] at e5
        have eb : eqO (.bl false) (.bl false) = some true := rfl
        have is1 : cmpO .isnot (.bl false) .non = some true := rfl
        dsimp! [bl, q1, q2, ls, lN, r_R, hs1, eN, r_Ns, eb, e4, is1, r_W, w0, w1, a1, lN2, tW, e5]
        exact ⟨_, _, _, _, _, _, _, _, _, _, hst4, rfl⟩
  · have g0 : decide ((0 : Int) < (b.length : Int)) = true := decide_eq_true (by have := List.length_pos_iff.mpr hb0; omega)
    have hw := wv_lt hT hb0 hbT
    have e6 := hwo R' hT b hb0 hbT (st3 :: rest)
    have ls2 : bltO .list [R'.S.row (wv R'.S R'.L b)] = some (.mo (.lst ((List.range R'.S.n).map fun y => dN (R'.S.f (wv R'.S R'.L b) y)))) := rfl
    have st0 : (starts R' b).map dN = (List.range R'.S.n).map fun y => dN (R'.S.f (wv R'.S R'.L b) y) := by
      unfold starts
      rw [if_neg hb0, List.map_map]
      rfl
    dsimp! [e3, r_R, i_R1, r_S, lS, r_Ns, lb, g0, e6, i_S _ _ hw, r_Sr, ls2, hli]
    rw [← st0]
    rw [lf_w d2 (fun p => inSt R' b p.1) fun p => .bl (acc R' p)]
    rotate_left
    · intro p hp
      have pe : d2 p = .tup [.int (p.1 : Int), .int (p.2 : Int)] := rfl
      have ni : inO (.int (p.1 : Int)) (.lst ((starts R' b).map dN)) = some (inSt R' b p.1) := in_lst encN (by decide) p.1 (starts R' b)
      have np := in_pairs p R'.A
      rw [pe] at np
      cases q : inSt R' b p.1 with
      | false =>
        rw [q] at ni
        dsimp! [pe, rl, ni]
      | true =>
        rw [q] at ni
        dsimp! [pe, rl, ni, r_R, i_R2, np]
        rfl
    have et : ((linked R'.S).filter fun p => inSt R' b p.1).map (fun p => D.bl (acc R' p)) = (told R' b).map D.bl := by
      unfold told
      rw [List.map_map]
      rfl
    rw [et]
    have bl := bls_map (told R' b)
    have hs1 := hse b hbR (st3 :: rest)
    have ls : bltO .list [dNs b] = some (.mo (.lst (b.map dN))) := rfl
    have lN : D.lst (b.map dN) = dNs b := rfl
    have eN : eqO (dNs b) (dNs b) = some true := (Enc.eqO (encL encN) (by decide) b b).trans (by rw [decide_eq_true rfl])
    have mm : (st3 :: rest) ++ [tbI R] = st3 :: (rest ++ [tbI R]) := rfl
    rw [mm] at hs1
    obtain ⟨d4, m4, e4, w, st4, rfl, rfl, hst4, hw, hw1, hw2⟩ := wp_get (hwd st3 hst3 (rest ++ [tbI R]) c (by omega) (by omega))
    have e4 : cf "_law_word" [.ref 0, .int (c : Int), .int 3] (st3 :: (rest ++ [tbI R])) = .ok (dW w) (st4 :: (rest ++ [tbI R])) := e4
    have hwR : okW R.L.length w := by rw [hRL]; exact hw
    have hwT : okW R'.L.length w := by rw [cT]; exact hwR
    have okb : okW R.L.length (b ++ w.1, w.2) := ⟨hwR.1, fun x hx => (List.mem_append.mp hx).elim (hbR x) (hwR.2.1 x), hwR.2.2⟩
    have e5 := hac R h (b ++ w.1, w.2) okb (st4 :: (rest ++ [tbI R]))
    rw [← acT _ okb] at e5
    obtain ⟨p1, p2⟩ := begins hT hbT hwT
    have w0 : idxO (dW w) (.int 0) = some (dNs w.1) := i_W0 _
    have w1 : idxO (dW w) (.int 1) = some (dNs w.2) := i_W1 _
    have a1 := add_Ns b w.1 (by omega)
    have lN2 : D.lst ((b ++ w.1).map dN) = dNs (b ++ w.1) := rfl
    have tW : D.tup [dNs (b ++ w.1), dNs w.2] = dW (b ++ w.1, w.2) := rfl
    have rn : ∀ s : DL.S, drf s .non = .non := fun _ => rfl
    cases q1 : (told R' b).all id with
    | true =>
      have t1 : tellD (told R' b) = .bl true := by unfold tellD; rw [q1]; rfl
      rw [t1] at hs1
      rw [told_all q1 p1 p2] at e5
      have eb : eqO (.bl true) (.bl true) = some true := rfl
      have is1 : cmpO .isnot (.bl true) .non = some true := rfl
      dsimp! [bl, q1, ls, lN, r_R, hs1, eN, r_Ns, eb, e4, is1, r_W, w0, w1, a1, lN2, tW, e5]
      exact ⟨_, _, _, _, _, _, _, _, _, _, hst4, rfl⟩
    | false =>
      cases q2 : (told R' b).any id with
      | true =>
        have t1 : tellD (told R' b) = .non := by unfold tellD; rw [q1, q2]; rfl
        rw [t1] at hs1
        have eb : eqO .non .non = some true := rfl
        have is1 : cmpO .isnot .non .non = some false := rfl
        dsimp! [bl, q1, q2, ls, lN, r_R, hs1, eN, r_Ns, rn, eb, e4, is1]
        exact ⟨_, _, _, _, _, _, _, _, _, _, hst4, rfl⟩
      | false =>
        have t1 : tellD (told R' b) = .bl false := by unfold tellD; rw [q1, q2]; rfl
        rw [t1] at hs1
        rw [told_none q2 p1 p2] at e5
        have eb : eqO (.bl false) (.bl false) = some true := rfl
        have is1 : cmpO .isnot (.bl false) .non = some true := rfl
        dsimp! [bl, q1, q2, ls, lN, r_R, hs1, eN, r_Ns, eb, e4, is1, r_W, w0, w1, a1, lN2, tW, e5]
        exact ⟨_, _, _, _, _, _, _, _, _, _, hst4, rfl⟩
theorem run_ok (ns : List Int) (h : ns.length ≤ 63) : (run T 60 "law" [.scr ns] []).WP fun d _ => d = .bl true := wp_out (law_run 54 ns)
end DL
end

section
set_option maxRecDepth 100000
set_option maxHeartbeats 8000000
namespace DL
open PySem PySem.Spec PyProof.Rows L2
abbrev hk : PySem.W.Hook := He.hookX 5 (faL L cI cD KS) (fnL L) (tsL cD) (tfL L) (exL L cD KS)
end DL
open PySem PySem.W PySem.Calls PyProof.Rows
theorem PySem.Challenge.cw_unendtold_k29_whole_what_is_settled_holds : PySem.Challenge.rw_unendtold_k29_whole_what_is_settled.Holds := by
  w_on; o_law
  o_head DL.hk
  case hw => w_witness2
  case hc =>
    refine LamX.walk_ofTsE (l := PySem.Challenge.rw_unendtold_k29_whole_what_is_settled) (n := 63) (k := 2 * 60 + 2) (CX := fun _ => L2.CX0) (x := "_law_script") rfl (by decide) rfl ⟨rfl, by decide, by decide⟩ ?F (fun _ _ _ _ _ z => z)
    intro w mg fa h Y G hmg
    obtain ⟨K, KX, c⟩ := Y
    exact ⟨K, KX, DL.law_at (n := 60) (el := DL.e_law) KX G hmg c DL.er_all DL.bd_all DL.law_mem (by decide +kernel) rfl (by rfl) rfl DL.run_ok⟩
end
